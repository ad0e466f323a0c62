import Derived.Test.YtldhmmipbogabaaGreatDoorGkC
import Derived.ProofKit
import Derived.OpenShut
import Derived.ShutString
import Derived.ChangeOld
import Derived.Below
import Derived.SizedLaws
set_option linter.unusedVariables false
set_option linter.unusedSimpArgs false
namespace Go.Gk
open Go.ChangeShapes Go.WideShapes Go.ChangeAt Go.RowKit
open Go.ChangeMaps (open_string shut_string)
section
variable {H : Type} {enc : TypeId × Value → H} {P : Program} {W W' : World}
theorem below_trodAll (hl : laidOutB P = true) (hb : Below W.heap.size W W') : ∀ (ts : List TypeId) (vs : List Value) (ds : List (DataW H)) (ps : List MemPlace),
    (ts.all fun t => P.readableRec t && decide (t < P.types.size)) = true →
    DataW.TrodAll enc P W 0 (fun _ => true) true ts vs ds ps → DataW.TrodAll enc P W' 0 (fun b => decide (b < W.heap.size)) true ts vs ds ps
  | [], vs, ds, ps, _, h => by
    obtain ⟨rfl, rfl, rfl⟩ := trodAll_nil h
    exact trodAll_mk0
  | t :: ts, vs, ds, ps, ht, h => by
    obtain ⟨v, vs', d, ds', p, q, rfl, rfl, rfl, h0, hr⟩ := trodAll_cons h
    rw [List.all_cons, Bool.and_eq_true, Bool.and_eq_true] at ht
    refine trodAll_cons_mk (Below.trod hl ht.1.1 (of_decide_eq_true ht.1.2) h0 hb ?_) (below_trodAll hl hb ts vs' ds' q ht.2 hr)
    obtain ⟨m, hm⟩ := h0
    exact DataW.trod_lt m _ _ _ hm
theorem law_post {s : ChangeSpec} {fn : Func} {args : Array Value} {ds gs : List (DataW H)} {p : List MemPlace} {tb : TypeId} (hv : s.vars = []) (hg : gs = [])
    (hs : s.fn H ds = { results := [.lit (.bool true)], args := ds, vars := [] }) (hrt : fn.resultTypes = #[tb]) (hb : P.underlying tb = some .bool) (hl : laidOutB P = true)
    (hread : (fn.params.toList.all fun t => P.readableRec t && decide (t < P.types.size)) = true)
    (hW : DataW.Whole enc P fn.params.toList s.vars false W args.toList ds gs p) (hbel : Below W.heap.size W W') :
    s.post enc P fn false true false false W args (.bool true) W' := by
  subst hg
  have hW' := hW
  obtain ⟨p', q, hA0, hV, hpq, hfz, hnd⟩ := hW
  have hA : DataW.TrodAll enc P W 0 (fun _ => true) true fn.params.toList args.toList ds p' := hA0
  refine ⟨ds, [], p, [], p', [], hW', ?_, ?_, ?_, hbel.frame _, fun h => by cases h⟩
  · rw [List.append_nil, hs, hrt]
    exact trodAll_mk1 (shut_bool hb _)
  · rw [List.append_nil, hs]
    exact below_trodAll hl hbel _ _ _ _ hread hA
  · rw [List.append_nil, hs, hv]
    rfl
theorem arg_string {r : Reach} {b0 : Nat} {t : TypeId} {v : Value} {d : DataW H} {ps : List MemPlace} (ht : P.underlying t = some .string)
    (hval : Value.okWide P W r b0 t v) (hd : DataW.Trod enc P W 0 (fun _ => true) true t v d ps) : ∃ l : List UInt8, v = vS l ∧ d = .lit (.string l) := by
  obtain ⟨s, rfl, rfl, _, _⟩ := open_string ht hval hd
  exact ⟨s.data.toList, rfl, rfl⟩
theorem size_string {ts : List TypeId} {ds : List (DataW H)} (h : (DataW.weightsEach P ts ds).all (fun x => decide (x ≤ reachBytes)) = true) {j : Nat} {t : TypeId} {d : DataW H} {l : List UInt8}
    (ht : ts[j]? = some t) (hd : ds[j]? = some d) (hl : d = .lit (.string l)) : l.length ≤ 140737488351232 := by
  subst hl
  have := sized_string h ht hd
  simpa only [reachBytes] using this
end
end Go.Gk
