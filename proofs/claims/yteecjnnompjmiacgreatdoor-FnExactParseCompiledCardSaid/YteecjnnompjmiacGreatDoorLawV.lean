/-
  Helper text (no claim of its own): the last step of a law whose row names variables of the program's own.
-/
import Derived.Test.YteecjnnompjmiacGreatDoorBase
import Derived.OpenVars
import Derived.ChangeVars
namespace Go.Proofs.YteecjnnompjmiacGreatDoor
open Go.ChangeShapes Go.WideShapes Go.ChangeAt Go.RowKit Go.Deep
theorem law_postV {H : Type} {enc : TypeId × Value → H} {f : Func} {s : ChangeSpec} {W W' : World} {args : Array Value} {ds gs : List (DataW H)} {before : List MemPlace}
    (hvr : varsRowed Tryz.prog s.vars = true) (hparams : ∀ t ∈ f.params.toList, t < Tryz.prog.types.size) (hrt : f.resultTypes = #[4])
    (hW : DataW.Whole enc Tryz.prog f.params.toList s.vars false W args.toList ds gs before)
    (hres : (s.fn H (ds ++ gs)).results = [.lit (.bool true)]) (hargs : (s.fn H (ds ++ gs)).args = ds) (hvars : (s.fn H (ds ++ gs)).vars = gs)
    (hb : Ext W W') : s.post enc Tryz.prog f false true false false W args (.bool true) W' := by
  have hW' := hW
  obtain ⟨p, q, hA, hV, rfl, hfz, hnd⟩ := hW
  have hlt : ∀ x ∈ p, x.block < W.heap.size := hA.lt
  have hA2 : DataW.TrodAll enc Tryz.prog W' 0 (fun b => decide (b < W.heap.size)) true f.params.toList args.toList ds p :=
    trodAll_carry (DataW.TrodAll.respare (T := fun t => t < Tryz.prog.types.size) kids slicesFull hparams hA (fun x hx => by simpa using hlt x hx)) (fun x hx => hb.same (hlt x hx))
  have hV2 := Below.trodVars (enc := enc) laidOut hb hvr hV
  have hk : W.keptBut W' (fun x => x ∈ p ++ q ∧ (x ∈ ([] : List MemPlace) ∨ x ∈ p ∨ x ∈ q)) :=
    World.keptBut_mono (may := (· ∈ p ++ q)) (fun x hx => And.intro hx (Or.inr (List.mem_append.1 hx))) (hb.frame (· ∈ p ++ q))
  refine ⟨ds, gs, p ++ q, [], p, q, hW', ?_, ?_, ?_, hk, fun h => Bool.noConfusion h⟩
  · rw [hrt, hres]
    exact trodAll_cons_mk (shut_bool Tryz.underlying4 _) trodAll_mk0
  · rw [hargs]
    exact hA2
  · rw [hvars]
    exact hV2
end Go.Proofs.YteecjnnompjmiacGreatDoor
