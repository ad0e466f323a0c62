/- Calls of functions without a Go body (the model's own entries): lemmas only. -/
import Derived.Test.YtcdneplfgppapaaDoorGkG
import Derived.Lib.Bytealg
namespace Go.Gk
open Go Go.RowKit
section
variable {P : Program} {n : Nat} {L : Env} {w w0 : World} {Q : Exit → Act → World → Prop} {S : List Nat} {os : List OE}
variable {d : Option Tmp} {ty : TypeId} {pos : String} {after : Array Edge}

/-- A function that the model itself answers. -/
structure ExtF (P : Program) (f : FuncId) (e : Array Value → Sem Value) : Prop where
  fn : ∃ fn, P.funcs[f]? = some fn ∧ fn.body.isNone = true ∧ (fn.name == "runtime.NumGoroutine") = false ∧ (Extern.findNext fn).isNone = true ∧ Extern.find fn = some e

theorem OpV_ext {f : FuncId} {e : Array Value → Sem Value} {xs : List Operand} {ts : Array TypeId} {vs : List Value} {v : Value} (h : ExtF P f e) (hargs : L.evs xs = some vs) (hrun : (e vs.toArray).run P w = .ok v w) :
    OpV P n L w ⟨d, .call ⟨.value (.func f), xs.toArray, ts⟩, ty, pos, after, none⟩ v w := fun a ha => by
  obtain ⟨fn, h1, h2, h3, h4, h5⟩ := h.fn
  have hr := ha.evs hargs
  have h6 : Extern.findNext fn = none := by simpa using h4
  have h7 : ¬ fn.name = "runtime.NumGoroutine" := by simpa using h3
  have h8 : fn.body = none := by simpa using h2
  simp only [execOp, resolve, Act.eval, Deferred.ofValue, Sem.run_bind, Sem.run_pure, Result.andThen_ok, invoke]
  have : (#[] ++ Array.map a.eval xs.toArray ++ #[] : Array Value) = vs.toArray := by simp [hr]
  rw [this]
  simp [callFunc, program, Sem.run, h1, h7, h8, h6, h5, mark, hrun]

theorem indexByte_eq (l : List UInt8) (c : UInt8) : Lib.indexByte l c = ixByte l c := by
  induction l with
  | nil => rfl
  | cons b l ih =>
    unfold Lib.indexByte
    rw [ih]
    unfold ixByte
    rw [List.findIdx?_cons]
    by_cases hb : (b == c) = true
    · simp [hb]
    · simp only [hb]
      cases h : List.findIdx? (fun x => x == c) l with
      | none => simp
      | some i => simp
theorem ext_ixByteS (l : List UInt8) (c : UInt8) (w : World) : (Extern.BytealgIndexByte.indexByte (([vS l, v8 c] : List Value).toArray)).run P w = .ok (vI (ixByte l c)) w := by
  have := Lib.run_indexByteString (P := P) ⟨⟨l⟩⟩ c.toNat w
  rw [← indexByte_eq]
  simpa using this
theorem ext_ctByteS (l : List UInt8) (c : UInt8) (w : World) : (Extern.BytealgCount.count (([vS l, v8 c] : List Value).toArray)).run P w = .ok (vI (ctByte l c)) w := by
  have := Lib.run_countString (P := P) ⟨⟨l⟩⟩ c.toNat w
  simpa [ctByte, Lib.countByte] using this
end
end Go.Gk
