/-
  What is used in the proof of a statement (part HiZ); no condition.
-/
import Derived.Test.YtmgglkdilpglgaaGreatVm2
set_option linter.all false
section
namespace Go.Am.Hi
open Go Go.Am Go.Proofs
theorem zz0 {p : Prop} (h : p := by decide +kernel) : p := h
theorem zz1 {p : Prop} (h : p := by simp [*] <;> first | exact ⟨rfl, rfl⟩ | exact rfl) : p := h
theorem zz2 {p : Prop} (h : p := by simp <;> rfl) : p := h
theorem zz3 {p : Prop} (h : p := by first | omega | (simp; omega)) : p := h
theorem zz4 {p : Prop} (h : p := by repeat' (first | exact trivial | refine And.intro (Exists.intro _ (And.intro rfl ?_)) ?_ | (refine Alt.same _ ?_; first | rfl | (simp [*]; done)) | exact Alt.mapv _ _ (Nat.le_of_ble_eq_true rfl) rfl | exact Alt.grow _ _ _ _ (Nat.le_of_ble_eq_true rfl) rfl | (refine Alt.growE _ _ _ _ _ ?_ (Nat.le_of_ble_eq_true rfl) rfl; simp [*]; done) | exact Alt.ptr _ _ _ (Nat.le_of_ble_eq_true rfl) rfl | exact Alt.own _ _ _ _ _ (Nat.le_of_ble_eq_true rfl) rfl | exact Alt.sub _ _ _ _ (Nat.le_of_ble_eq_true rfl) rfl | exact Alt.yld _ _ (Nat.le_of_ble_eq_true rfl) rfl | exact Alt.sl0 _ _ | (refine Alt.sl0E _ _ _ ?_; simp [*]; done) | exact Alt.e0 _ | exact Alt.sl0v | exact Alt.own0 _ _ _ | (refine Alt.fgrow _ _ _ _ _ rfl rfl ?_; simp [*]; done) | exact Alt.fown _ _ _ _ _ _ _ _ rfl rfl rfl | exact Alt.fmap _ _ rfl rfl | (refine Alt.sl0vE ?_; simp [*] <;> rfl) | (refine Alt.ofEq rfl ?_; simp [*]; done))) : p := h
theorem zz5 {p : Prop} (h : p := by repeat' (first | exact trivial | refine And.intro (And.intro (Nat.le_of_ble_eq_true rfl) (Or.inr (And.intro rfl (Exists.intro _ (And.intro rfl ?_))))) ?_ | refine And.intro (And.intro (Nat.le_of_ble_eq_true rfl) (Or.inl (Exists.intro _ (And.intro rfl (Nat.le_of_ble_eq_true rfl))))) ?_ | refine And.intro (And.intro (Nat.le_of_ble_eq_true rfl) (Or.inl (Exists.intro _ (And.intro (congrArg (VObj.grow _) (by simp [*])) (Nat.le_of_ble_eq_true rfl))))) ?_ | rfl | exact AltL.nil | (refine congrArg (VObj.grow _) ?_; simp [*]; done) | (refine congrArg VObj.map ?_; simp [*]; done) | (refine congrArg (VObj.arr _ _) ?_; simp [*]; done) | refine AltLp.mk rfl rfl rfl rfl rfl ?_ | refine And.intro (Exists.intro _ (And.intro rfl ?_)) ?_ | refine AltL.cons ?_ ?_ | (refine Alt.same _ ?_; first | rfl | (simp [*]; done)) | exact Alt.mapv _ _ (Nat.le_of_ble_eq_true rfl) rfl | exact Alt.grow _ _ _ _ (Nat.le_of_ble_eq_true rfl) rfl | (refine Alt.growE _ _ _ _ _ ?_ (Nat.le_of_ble_eq_true rfl) rfl; simp [*]; done) | exact Alt.ptr _ _ _ (Nat.le_of_ble_eq_true rfl) rfl | exact Alt.own _ _ _ _ _ (Nat.le_of_ble_eq_true rfl) rfl | exact Alt.sub _ _ _ _ (Nat.le_of_ble_eq_true rfl) rfl | exact Alt.yld _ _ (Nat.le_of_ble_eq_true rfl) rfl | exact Alt.sl0 _ _ | (refine Alt.sl0E _ _ _ ?_; simp [*]; done) | exact Alt.e0 _ | exact Alt.sl0v | exact Alt.own0 _ _ _ | (refine Alt.fgrow _ _ _ _ _ rfl rfl ?_; simp [*]; done) | exact Alt.fown _ _ _ _ _ _ _ _ rfl rfl rfl | exact Alt.fmap _ _ rfl rfl | (refine Alt.sl0vE ?_; simp [*] <;> rfl) | (refine Alt.ofEq rfl ?_; simp [*]; done))) : p := h
end Go.Am.Hi
namespace Go.Am
open Go Go.Proofs
section
variable {P : Program} {N b : Nat} {K : VTs → VHeap → Prop} {vts vts' : VTs} {vh vh' : VHeap} {ops : Array Oper}
theorem VOps.rn (l r : List Nat) (k : VOps P N b ops K r vts' vh') (hd : dstsB N ops = true := by decide +kernel) (hr : vrun P N ops l vts vh = some (vts', vh') := by simp [*] <;> first | exact ⟨rfl, rfl⟩ | exact rfl) : VOps P N b ops K (l ++ r) vts vh := .run hd hr k
theorem VW.rn {Q : VPost} {id : Nat} (k : Q .normal vts' vh') (hd : dstsB N ops = true := by decide +kernel) (hr : vrun P N ops (List.range ops.size) vts vh = some (vts', vh') := by simp [*] <;> first | exact ⟨rfl, rfl⟩ | exact rfl) : VW P N b (.region id ops false) Q vts vh := .run hd hr k
end
end Go.Am
end
