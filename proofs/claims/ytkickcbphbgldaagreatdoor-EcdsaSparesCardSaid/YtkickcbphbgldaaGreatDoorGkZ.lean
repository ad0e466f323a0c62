import Derived.Test.YtkickcbphbgldaaGreatDoorGkV
import Derived.Lib.LaidU8
set_option linter.unusedVariables false
set_option linter.unusedSimpArgs false
set_option linter.unusedSectionVars false
namespace Go.Gk
open Go Go.RowKit Go.Lib Go.Proofs
def p9 (P:Program) (n:String) (g:Nat) (k:IntKind):Bool:=match P.globalNamed n,(P.globals[g]?).map (·.type) with
 | some g',some t=>match P.underlying t with
  | some (.array m e)=>(match P.underlying e with
   | some (.int k')=>decide (k'=k)&&decide (P.cellsOf e=1)&&decide (P.cellsOf t=m)&&decide (g'=g)
   | _=>false)
  | _=>false
 | _,_=>false
theorem ph {P:Program} {w:World} {n:String} {g:Nat} {k:IntKind} {zs:List Int} (ho:p9 P n g k=true) (h:VarReads P w n (tabData k zs)) (j:Nat):w.cell? ⟨g,j,none⟩=(zs.map fun z=>Value.int k z)[j]?:=by
 obtain ⟨g',t,cs,fuel,p,hg,hty,hvar,hd⟩:=h
 unfold p9 at ho
 rw [hg]at ho
 split at ho
 ·rename_i g2 t2 e1 e2
  cases e1
  split at ho
  ·rename_i m e hu
   split at ho
   ·rename_i k' hk
    simp only [Bool.and_eq_true,decide_eq_true_eq]at ho
    obtain ⟨⟨⟨rfl,h1⟩,h2⟩,rfl⟩:=ho
    obtain rfl:=Option.some.inj (e2.symm.trans hty)
    have hcs:=cells_of_tab hu hk h1 h2 hd
    rw [World.var?_cell hg hvar j,←Array.getElem?_toList,hcs]
   ·cases ho
  ·cases ho
 ·cases ho
theorem AT:∀l:List UInt32,e32.fl l=(l.map fun x=>(x.toNat:Int)).map fun z=>Value.int .u32 z
 | []=>rfl
 | x :: l=>by
  have:=AT l
  simp [Enc.fl,e32]at this ⊢
  exact this
theorem zU:∀l:List UInt64,e64.fl l=(l.map fun x=>(x.toNat:Int)).map fun z=>Value.int .u64 z
 | []=>rfl
 | x :: l=>by
  have:=zU l
  simp [Enc.fl,e64]at this ⊢
  exact this
theorem Ax {P:Program} {w:World} {n:String} {g:Nat} {l:List UInt32} (ho:p9 P n g .u32=true) (h:VarReads P w n (tabData .u32 (l.map fun x=>(x.toNat:Int)))):GA [] w g e32 l:=by
 refine ⟨fun j u hu=>?_,by simp⟩
 rw [ph ho h]
 have:e32.fl l=(l.map fun x=>(x.toNat:Int)).map fun z=>Value.int .u32 z:=AT l
 rw [←this]; exact hu
theorem x8 {P:Program} {w:World} {n:String} {g:Nat} {l:List UInt64} (ho:p9 P n g .u64=true) (h:VarReads P w n (tabData .u64 (l.map fun x=>(x.toNat:Int)))):GA [] w g e64 l:=by
 refine ⟨fun j u hu=>?_,by simp⟩
 rw [ph ho h]
 have:e64.fl l=(l.map fun x=>(x.toNat:Int)).map fun z=>Value.int .u64 z:=zU l
 rw [←this]; exact hu
def rO (h:Array Obj) (g:Nat) (cs:Array Value):Array Obj:=h.modify g fun
 | .cells _ t frozen=>.cells cs t frozen
 | o=>o
end Go.Gk
