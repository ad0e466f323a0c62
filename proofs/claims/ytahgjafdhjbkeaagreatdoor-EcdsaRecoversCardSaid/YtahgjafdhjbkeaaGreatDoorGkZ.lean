import Derived.Test.YtahgjafdhjbkeaaGreatDoorGkV
import Derived.Lib.LaidU8
set_option linter.unusedVariables false
set_option linter.unusedSimpArgs false
set_option linter.unusedSectionVars false
namespace Go.Gk
open Go Go.RowKit Go.Lib Go.Proofs
def r7 (P:Program) (n:String) (g:Nat) (k:IntKind):Bool:=match P.globalNamed n,(P.globals[g]?).map (·.type) with
 | some g',some t=>match P.underlying t with
  | some (.array m e)=>(match P.underlying e with
   | some (.int k')=>decide (k'=k)&&decide (P.cellsOf e=1)&&decide (P.cellsOf t=m)&&decide (g'=g)
   | _=>false)
  | _=>false
 | _,_=>false
theorem rx {P:Program} {w:World} {n:String} {g:Nat} {k:IntKind} {o:List Int} (f:r7 P n g k=true) (h:VarReads P w n (tabData k o)) (j:Nat):w.cell? ⟨g,j,none⟩=(o.map fun z=>Value.int k z)[j]?:=by
 obtain⟨N,t,cs,A,p,q,x,i,B⟩:=h
 unfold r7 at f
 rw[q]at f
 split at f
 ·rename_i O R F G
  cases F
  split at f
  ·rename_i m e I
   split at f
   ·rename_i U J
    simp only[Bool.and_eq_true,decide_eq_true_eq]at f
    obtain⟨⟨⟨rfl,K⟩,M⟩,rfl⟩:=f
    obtain rfl:=Option.some.inj (G.symm.trans x)
    have y:=cells_of_tab I J K M B
    rw[World.var?_cell q i j,<-Array.getElem?_toList,y]
   ·cases f
  ·cases f
 ·cases f
theorem Cw:∀l:L0,e32.fl l=(l.map fun x=>(x.toNat:Int)).map fun z=>Value.int .u32 z
 | []=>rfl
 | x :: l=>by
  have:=Cw l
  simp[Enc.fl,e32]at this ⊢
  exact this
theorem Cm:∀l:List UInt64,e64.fl l=(l.map fun x=>(x.toNat:Int)).map fun z=>Value.int .u64 z
 | []=>rfl
 | x :: l=>by
  have:=Cm l
  simp[Enc.fl,e64]at this ⊢
  exact this
theorem wg {P:Program} {w:World} {n:String} {g:Nat} {l:L0} (f:r7 P n g .u32=true) (h:VarReads P w n (tabData .u32 (l.map fun x=>(x.toNat:Int)))):GA [] w g e32 l:=by
 refine⟨fun j u i=>?_,by simp⟩
 rw[rx f h]
 have:e32.fl l=(l.map fun x=>(x.toNat:Int)).map fun z=>Value.int .u32 z:=Cw l
 rw[<-this]; exact i
theorem qY {P:Program} {w:World} {n:String} {g:Nat} {l:List UInt64} (f:r7 P n g .u64=true) (h:VarReads P w n (tabData .u64 (l.map fun x=>(x.toNat:Int)))):GA [] w g e64 l:=by
 refine⟨fun j u i=>?_,by simp⟩
 rw[rx f h]
 have:e64.fl l=(l.map fun x=>(x.toNat:Int)).map fun z=>Value.int .u64 z:=Cm l
 rw[<-this]; exact i
def kR (h:Array Obj) (g:Nat) (cs:Array Value):Array Obj:=h.modify g fun
 | .cells _ t frozen=>.cells cs t frozen
 | o=>o
end Go.Gk
