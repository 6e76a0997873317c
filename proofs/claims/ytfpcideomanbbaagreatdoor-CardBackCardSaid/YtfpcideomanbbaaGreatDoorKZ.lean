/-
  Small helpers: proofs that repeat, as defaults of arguments.
-/
import Derived.WalkKit
namespace Go.Proofs.YtfpcideomanbbaaGreatDoor
theorem Zb {P : Prop} (h : P := by repeat (first | (with_reducible first | exact HB.out | apply below_alloc | apply pw_below_drewN | apply below_drew1) | exact HB.out)) : P := h
theorem Zb1 {P Q : Prop} (q : Q) (h : Q → P := by intro q_; repeat (first | (with_reducible first | exact HB.out | apply below_alloc | apply pw_below_drewN | apply below_drew1 | refine below_set ?_ q_) | exact HB.out)) : P := h q
theorem Zb2 {P Q R : Prop} (q : Q) (r : R) (h : Q → R → P := by intro q_ r_; repeat (first | (with_reducible first | exact HB.out | apply below_alloc | apply pw_below_drewN | apply below_drew1 | refine below_set ?_ q_ | refine below_set ?_ r_) | exact HB.out)) : P := h q r
theorem Zb3 {P Q R S : Prop} (q : Q) (r : R) (s : S) (h : Q → R → S → P := by intro q_ r_ s_; repeat (first | (with_reducible first | exact HB.out | apply below_alloc | apply pw_below_drewN | apply below_drew1 | refine below_set ?_ q_ | refine below_set ?_ r_ | refine below_set ?_ s_) | exact HB.out)) : P := h q r s
theorem Zk {P Q : Prop} (q : Q) (h : Q → P := by intro q_; (with_reducible repeat (first | refine blk_drewN ?_ _ | refine blk_drew ?_ | refine blk_alloc ?_ _)); exact q_) : P := h q
theorem Zr {P Q : Prop} (q : Q) (h : Q → P := by intro q_; (with_reducible repeat (first | apply Kd.R_alloc | apply Kd.R_drewN | apply Kd.R_drew)); exact q_) : P := h q
theorem Zq {P Q : Prop} (q : Q) (h : Q → P := by intro q_; (with_reducible repeat (first | apply Kd.R_alloc | apply Kd.R_drewN | apply Kd.R_drew)); first | exact q_ | exact Kd.R_mono q_ (fun _ _ => trivial) | exact Kd.R_mono q_ (fun _ hk => hk.1)) : P := h q
theorem Zl {P : Prop} (h : P := by (try simp only [List.map_toArray, List.map_cons, List.map_nil]); first | done | rfl | (simp only [List.length_drop, List.length_take]; rfl)) : P := h
theorem Zs {P : Prop} (h : P := by first | rfl | (simp; done) | (simp [*]; done) | (simp [wrap64]; done)) : P := h
theorem Zt {P : Prop} (h : P := by first | rfl | (simp; done) | (simp [*]; done)) : P := h
theorem Ze {P : Prop} (h : P := by first | rfl | (simp [errW_none, errW_some] <;> rfl) | (simp [*, errW_none, errW_some] <;> rfl)) : P := h
theorem Zd {P : Prop} (h : P := by repeat (first | exact Drawn0.refl _ | apply Drawn0.step)) : P := h
theorem Za {P : Prop} (h : P := by first | (with_reducible assumption) | assumption) : P := h
theorem Zh {P : Prop} (h : P := by first | exact hk.2 | exact hk | exact hk.1 | trivial) : P := h
theorem Zg {p q : Nat → Prop} (h : ∀ k, p k → q k := by intro _ hk; first | exact hk.2 | exact hk | exact hk.1 | trivial) : ∀ k, p k → q k := h
theorem Zy {P : Prop} (h : P := by kernel_rfl) : P := h
end Go.Proofs.YtfpcideomanbbaaGreatDoor
