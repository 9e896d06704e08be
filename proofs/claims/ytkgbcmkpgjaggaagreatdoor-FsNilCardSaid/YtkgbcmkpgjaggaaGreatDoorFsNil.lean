/- For every string and every whole number the law FsNil answers true, and its arguments read behind the call as they read before; there is no condition but what the row lists of unicode/utf8's tables, and the card ties that to the program's text. -/
import Derived.Test.YtkgbcmkpgjaggaaGreatDoorStep
import Derived.Test.YtkgbcmkpgjaggaaGreatDoorRunZ
import Derived.Test.YtkgbcmkpgjaggaaGreatDoorSymE
namespace Go.Proofs.YtkgbcmkpgjaggaaGreatDoor.fsNil
open Go.ChangeShapes Go.WideShapes Go.ChangeAt Go.RowKit
noncomputable def kk (f : Nat) : Option Sb.Summ := match Nat.beq f 34 with
  | true => some (Sb.plainS Sb.kF)
  | false => none
noncomputable def cx : Sb.Ctx := { P := Tryz.prog, S := kk, J := fun _ => false }
theorem known : Sb.SummOK Tryz.prog 34 (Sb.plainS Sb.kF) :=
  Sb.known_summ fun w => Ab.law_of_seg (Ab.seg_summ Ab.FN.x27 Ab.FN.r27) (args' := #[]) .nil rfl rfl w
theorem kk_ok (f : Nat) (s : Sb.Summ) (h : kk f = some s) : Sb.SummOK Tryz.prog f s := by
  unfold kk at h
  split at h
  · rename_i hf
    cases h
    rw [Nat.eq_of_beq_eq_true hf]
    exact known
  · cases h
theorem cx_ok : Sb.CtxOK cx := ⟨Ab.names_of Ab.KBase.names, Ab.KBase.mixed, kk_ok⟩
theorem run (l : List Nat) (n : Int) (G : Sb.AV → Sb.Ans) : Sb.callK cx (Sb.exec cx 20) .e 4 [.str l, .int .i64 n] .e 1 (fun v _ _ => G v) = G (.bool true) := by kernel_rfl
theorem walk (a0 : ByteArray) (a1 : Int) (w : World) :
    Calls Tryz.prog 4 #[.string a0, .int .i64 a1] w fun e w' => e = .returned (.bool true) ∧ Below w.heap.size w w' := by
  refine Sb.law_of_run cx_ok (n := 20) (f := 4) (args := [.str (a0.data.toList.map UInt8.toNat), .int .i64 a1]) (.cons (Sb.str_VR _ a0) (.cons (.int _ _) .nil)) (fun G h => ?_) w
  rw [run]
  exact h
theorem card : Rows.FsNilCardSaid := card_of walk
end Go.Proofs.YtkgbcmkpgjaggaaGreatDoor.fsNil
