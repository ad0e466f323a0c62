import Derived.Test.YtahgjafdhjbkeaaGreatDoorGkV
import Derived.Lib.LaidU8
set_option linter.unusedVariables false
set_option linter.unusedSimpArgs false
set_option linter.unusedSectionVars false
namespace Go.Gk
open Go Go.RowKit Go.Lib Go.Proofs
def rz (P:Program) (n:String) (g:Nat) (k:IntKind):Bool:=match P.globalNamed n,(P.globals[g]?).map (·.type) with
 | some g',some t=>match P.underlying t with
  | some (.array m e)=>(match P.underlying e with
   | some (.int k')=>decide (k'=k)&&decide (P.cellsOf e=1)&&decide (P.cellsOf t=m)&&decide (g'=g)
   | _=>false)
  | _=>false
 | _,_=>false
theorem qQ {P:Program} {w:World} {n:String} {g:Nat} {k:IntKind} {o:List Int} (f:rz P n g k=true) (h:VarReads P w n (tabData k o)) (j:Nat):w.cell? ⟨g,j,none⟩=(o.map fun z=>Value.int k z)[j]?:=by
 obtain ⟨N,t,cs,A,p,q,x,i,B⟩:=h
 unfold rz at f
 rw [q]at f
 split at f
 ·rename_i O R F G
  cases F
  split at f
  ·rename_i m e I
   split at f
   ·rename_i U J
    simp only [Bool.and_eq_true,decide_eq_true_eq]at f
    obtain ⟨⟨⟨rfl,K⟩,M⟩,rfl⟩:=f
    obtain rfl:=Option.some.inj (G.symm.trans x)
    have y:=cells_of_tab I J K M B
    rw [World.var?_cell q i j,←Array.getElem?_toList,y]
   ·cases f
  ·cases f
 ·cases f
theorem B5:∀l:List UInt32,e32.fl l=(l.map fun x=>(x.toNat:Int)).map fun z=>Value.int .u32 z
 | []=>rfl
 | x :: l=>by
  have:=B5 l
  simp [Enc.fl,e32]at this ⊢
  exact this
theorem BV:∀l:List UInt64,e64.fl l=(l.map fun x=>(x.toNat:Int)).map fun z=>Value.int .u64 z
 | []=>rfl
 | x :: l=>by
  have:=BV l
  simp [Enc.fl,e64]at this ⊢
  exact this
theorem vE {P:Program} {w:World} {n:String} {g:Nat} {l:List UInt32} (f:rz P n g .u32=true) (h:VarReads P w n (tabData .u32 (l.map fun x=>(x.toNat:Int)))):GA [] w g e32 l:=by
 refine ⟨fun j u i=>?_,by simp⟩
 rw [qQ f h]
 have:e32.fl l=(l.map fun x=>(x.toNat:Int)).map fun z=>Value.int .u32 z:=B5 l
 rw [←this]; exact i
theorem qx {P:Program} {w:World} {n:String} {g:Nat} {l:List UInt64} (f:rz P n g .u64=true) (h:VarReads P w n (tabData .u64 (l.map fun x=>(x.toNat:Int)))):GA [] w g e64 l:=by
 refine ⟨fun j u i=>?_,by simp⟩
 rw [qQ f h]
 have:e64.fl l=(l.map fun x=>(x.toNat:Int)).map fun z=>Value.int .u64 z:=BV l
 rw [←this]; exact i
def kG (h:Array Obj) (g:Nat) (cs:Array Value):Array Obj:=h.modify g fun
 | .cells _ t frozen=>.cells cs t frozen
 | o=>o
end Go.Gk
