/- For every string and every whole number the law DumpNil answers true, and its arguments read behind the call as they read before; there is no condition but what the row lists of unicode/utf8's tables, and the card ties that to the program's text. -/
import Derived.Test.YtkgbcmkpgjaggaaGreatDoorStepB
import Derived.Test.YtkgbcmkpgjaggaaGreatDoorRunZ
import Derived.Test.YtkgbcmkpgjaggaaGreatDoorSymE
namespace Go.Proofs.YtkgbcmkpgjaggaaGreatDoor.dumpNil
open Go.ChangeShapes Go.WideShapes Go.ChangeAt Go.RowKit
noncomputable def kk (f : Nat) : Option Sb.Summ := match Nat.beq f 39 with
  | true => some (Sb.plainS Sb.kF)
  | false => none
noncomputable def cx : Sb.Ctx := { P := Tryz.prog, S := kk, J := fun _ => false }
theorem known : Sb.SummOK Tryz.prog 39 (Sb.plainS Sb.kF) :=
  Sb.known_summ fun w => Ab.law_of_seg (Ab.seg_summ Ab.DN.x31 Ab.DN.r31) (args' := #[]) .nil rfl rfl w
theorem kk_ok (f : Nat) (s : Sb.Summ) (h : kk f = some s) : Sb.SummOK Tryz.prog f s := by
  unfold kk at h
  split at h
  · rename_i hf
    cases h
    rw [Nat.eq_of_beq_eq_true hf]
    exact known
  · cases h
theorem cx_ok : Sb.CtxOK cx := ⟨Ab.names_of Ab.KBase.names, Ab.KBase.mixed, kk_ok⟩
theorem run (l : List Nat) (n : Int) (G : Sb.AV → Sb.Ans) : Sb.callK cx (Sb.exec cx 20) .e 5 [.str l, .int .i64 n] .e 1 (fun v _ _ => G v) = Sb.br (Sb.ltI n 0) (G (.bool true)) (Sb.br (!Sb.ltI n (Int.ofNat 0)) (G (.bool true)) (Sb.br (Sb.ltI n 0) (.bad "") (.bad ""))) := by kernel_rfl
theorem walk (a0 : ByteArray) (a1 : Int) (w : World) :
    Calls Tryz.prog 5 #[.string a0, .int .i64 a1] w fun e w' => e = .returned (.bool true) ∧ Below w.heap.size w w' := by
  refine Sb.law_of_run cx_ok (n := 20) (f := 5) (args := [.str (a0.data.toList.map UInt8.toNat), .int .i64 a1]) (.cons (Sb.str_VR _ a0) (.cons (.int _ _) .nil)) (fun G h => ?_) w
  rw [run]
  refine Sb.sat_br (fun _ => h) fun h1 => Sb.sat_br (fun _ => h) fun h2 => ?_
  have h1 : Sb.ltI a1 (Int.ofNat 0) = false := h1
  rw [h1] at h2
  cases h2
theorem card : Rows.DumpNilCardSaid := card_of walk
end Go.Proofs.YtkgbcmkpgjaggaaGreatDoor.dumpNil
