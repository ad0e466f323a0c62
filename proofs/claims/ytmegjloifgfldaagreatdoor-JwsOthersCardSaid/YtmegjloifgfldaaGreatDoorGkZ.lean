import Derived.Test.YtmegjloifgfldaaGreatDoorGkV
import Derived.Lib.LaidU8
import Derived.ChangeArms
set_option linter.unusedVariables false
set_option linter.unusedSimpArgs false
set_option linter.unusedSectionVars false

section
namespace Go.Gk
open Go Go.RowKit Go.Lib Go.Proofs
def tH (P:Program) (n:String) (g:Nat) (k:IntKind):Bool:=match P.globalNamed n,(P.globals[g]?).map (·.type) with
 | some g',some t=>match P.underlying t with
  | some (.array m e)=>(match P.underlying e with
   | some (.int k')=>decide (k'=k)&&decide (P.cellsOf e=1)&&decide (P.cellsOf t=m)&&decide (g'=g)
   | _=>false)
  | _=>false
 | _,_=>false
theorem sR {P:Program} {w:World} {n:String} {g:Nat} {k:IntKind} {o:List Int} (f:tH P n g k=true) (h:VarReads P w n (tabData k o)) (j:Nat):w.cell? ⟨g,j,none⟩=(o.map fun z=>Value.int k z)[j]?:=by
 obtain⟨R,t,cs,F,p,hg,A,i,G⟩:=h
 unfold tH at f
 rw[hg]at f
 split at f
 ·rename_i U V I J
  cases I
  split at f
  ·rename_i m e K
   split at f
   ·rename_i X M
    simp only[Bool.and_eq_true,decide_eq_true_eq]at f
    obtain⟨⟨⟨rfl,N⟩,O⟩,rfl⟩:=f
    obtain rfl:=Option.some.inj (J.symm.trans A)
    have B:=cells_of_tab K M N O G
    rw[World.var?_cell hg i j,<-Array.getElem?_toList,B]
   ·cases f
  ·cases f
 ·cases f
theorem Ce:∀l:Q0,e32.fl l=(l.map fun x=>(x.toNat:Int)).map fun z=>Value.int .u32 z
 | []=>rfl
 | x :: l=>by
  have:=Ce l
  simp[Enc.fl,e32]at this ⊢
  exact this
theorem Fa:∀l:List UInt64,e64.fl l=(l.map fun x=>(x.toNat:Int)).map fun z=>Value.int .u64 z
 | []=>rfl
 | x :: l=>by
  have:=Fa l
  simp[Enc.fl,e64]at this ⊢
  exact this
theorem rM {P:Program} {w:World} {n:String} {g:Nat} {l:Q0} (f:tH P n g .u32=true) (h:VarReads P w n (tabData .u32 (l.map fun x=>(x.toNat:Int)))):GA [] w g e32 l:=by
 refine⟨fun j u i=>?_,by simp⟩
 rw[sR f h]
 have:e32.fl l=(l.map fun x=>(x.toNat:Int)).map fun z=>Value.int .u32 z:=Ce l
 rw[<-this]; exact i
theorem CM {P:Program} {w:World} {n:String} {g:Nat} {l:List UInt64} (f:tH P n g .u64=true) (h:VarReads P w n (tabData .u64 (l.map fun x=>(x.toNat:Int)))):GA [] w g e64 l:=by
 refine⟨fun j u i=>?_,by simp⟩
 rw[sR f h]
 have:e64.fl l=(l.map fun x=>(x.toNat:Int)).map fun z=>Value.int .u64 z:=Fa l
 rw[<-this]; exact i
def kv (h:Array Obj) (g:Nat) (cs:Array Value):Array Obj:=h.modify g fun
 | .cells _ t frozen=>.cells cs t frozen
 | o=>o
end Go.Gk
end

section
namespace Go.Gk
open Go Go.RowKit Go.Lib Go.Proofs
theorem AV {α:Type} {k:Nat}:∀{cls:List (List α)} {cs:List α},cs.length=cls.length*k->(∀i c,cls[i]? = some c->(cs.drop (i*k)).take k=c)->cs=cls.flatten
 | [],cs,hl,_=>by simp at hl; simp[hl]
 | c :: r,cs,hl,h=>by
  have f:=h 0 c rfl
  rw[Nat.zero_mul,List.drop_zero]at f
  have g:cs.drop k=r.flatten:=by
   refine AV (k:=k) ?_ fun i d j=>?_
   ·rw[List.length_drop,hl,List.length_cons,Nat.add_mul]; omega
   ·have:=h (i+1) d j
    rw[Nat.add_mul,Nat.one_mul,Nat.add_comm,<-List.drop_drop]at this
    exact this
  rw[List.flatten_cons,<-f,<-g,List.take_append_drop]
theorem oh {H:Type} {enc:TypeId×Value->H} {P:Program} {w:World} {base:Nat} {A:Nat->Bool} {g:Bool} {f:Nat} {t e:TypeId} {n k:Nat} {cs:List Value} {ds:List (DataW H)} {cls:List (List Value)} {p:List MemPlace}
  (I:P.underlying t=some (.array n e)) (J:P.cellsOf e=k) (B:P.cellsOf t=n*k) (j:cls.length=ds.length)
  (F:∀(i:Nat) (d:DataW H) (c:List Value),ds[i]? = some d->cls[i]? = some c->∀f cs p,DataW.trod enc P w base A g f e cs=some (d,p)->cs=c) (h:DataW.trod enc P w base A g f t cs=some (.agg ds,p)):cs=cls.flatten:=by
 cases f with
 | zero=>simp[DataW.trod]at h
 | succ f=>
  simp only[DataW.trod,I,J,B]at h
  split at h
  ·rename_i hl
   obtain⟨xs,hm,hx⟩:=Option.map_eq_some_iff.1 h
   have o:xs.map (·.1)=ds:=by
    have:=congrArg Prod.fst hx
    simpa using this
   have G:xs.length=n:=by simpa using mapM_length hm
   have z:ds.length=n:=by rw[<-o,List.length_map,G]
   refine AV (k:=k) (by rw[hl,j,z]) fun i c hc=>?_
   have hi:i<n:=by rw[<-z,<-j]; exact (List.getElem?_eq_some_iff.1 hc).1
   obtain⟨b,hb,K⟩:=mapM_at hm i i (by simp[hi])
   have M:ds[i]? = some b.1:=by rw[<-o,List.getElem?_map,hb]; rfl
   exact F i b.1 c M hc _ _ _ K
  ·cases h
def oI {H:Type} (ls:List Q1):DataW H:=.agg (ls.map fun l=>.lit (.string l))
def mP {H:Type} (k:IntKind) (rs:List (List Int)):DataW H:=.agg (rs.map (tabData k))
def AC (P:Program) (n:String) (g:Nat):Bool:=match P.globalNamed n,(P.globals[g]?).map (·.type) with
 | some g',some t=>match P.underlying t with
  | some (.array m e)=>(match P.underlying e with
   | some .string=>decide (P.cellsOf e=1)&&decide (P.cellsOf t=m*1)&&decide (g'=g)
   | _=>false)
  | _=>false
 | _,_=>false
def zP (P:Program) (n:String) (g:Nat) (k:IntKind) (j:Nat):Bool:=match P.globalNamed n,(P.globals[g]?).map (·.type) with
 | some g',some t=>match P.underlying t with
  | some (.array m e)=>(match P.underlying e with
   | some (.array j' e')=>(match P.underlying e' with
    | some (.int k')=>decide (k'=k)&&decide (P.cellsOf e'=1)&&decide (P.cellsOf e=j)&&decide (j'=j)&&decide (P.cellsOf t=m*j)&&decide (g'=g)
    | _=>false)
   | _=>false)
  | _=>false
 | _,_=>false
theorem gaS {P:Program} {w:World} {n:String} {g:Nat} {l:List Q1} (f:AC P n g=true) (h:VarReads P w n (oI l)):GA [] w g eS l:=by
 obtain⟨O,t,cs,o,p,hg,B,z,k⟩:=h
 unfold AC at f
 rw[hg]at f
 split at f
 ·rename_i R U G I
  cases G
  split at f
  ·rename_i m e A
   split at f
   ·rename_i J
    simp only[Bool.and_eq_true,decide_eq_true_eq]at f
    obtain⟨⟨K,M⟩,rfl⟩:=f
    obtain rfl:=Option.some.inj (I.symm.trans B)
    have F:=oh (cls:=l.map fun x=>[vS x]) A K M (by simp) (fun i d c k hc o cs p N=>by
     rw[List.getElem?_map]at k hc
     cases hq:l[i]? with
     | none=>rw[hq]at k; cases k
     | some x=>
      rw[hq]at k hc
      cases k; cases hc
      obtain⟨s,hc,hx,_⟩:=DataW.trod_string J N
      have:x=s.data.toList:=by
       have:=congrArg Prod.fst hx
       simpa using this
      rw[hc,this]) k
    refine⟨fun j u A=>?_,by simp⟩
    rw[World.var?_cell hg z j,<-Array.getElem?_toList,F,<-A]
    simp[Enc.fl,eS,List.flatMap]
   ·cases f
  ·cases f
 ·cases f
theorem FP {P:Program} {w:World} {n:String} {g j:Nat} {rs:List Q0} {l:Q0} (hl:rs.flatten=l) (f:zP P n g .u32 j=true) (h:VarReads P w n (mP .u32 (rs.map fun r=>r.map fun x=>(x.toNat:Int)))):GA [] w g e32 l:=by
 obtain⟨U,t,cs,B,p,hg,F,o,k⟩:=h
 unfold zP at f
 rw[hg]at f
 split at f
 ·rename_i V X J K
  cases J
  split at f
  ·rename_i m e z
   split at f
   ·rename_i Y Z G
    split at f
    ·rename_i k' M
     simp only[Bool.and_eq_true,decide_eq_true_eq]at f
     obtain⟨⟨⟨⟨⟨rfl,N⟩,I⟩,rfl⟩,O⟩,rfl⟩:=f
     obtain rfl:=Option.some.inj (K.symm.trans F)
     have A:=oh (cls:=rs.map fun r=>e32.fl r) z I O (by simp) (fun i d c k hc B cs p R=>by
      rw[List.map_map,List.getElem?_map]at k
      rw[List.getElem?_map]at hc
      cases hq:rs[i]? with
      | none=>rw[hq]at k; cases k
      | some r=>
       rw[hq]at k hc
       cases k; cases hc
       show cs=e32.fl r
       rw[Ce]
       exact cells_of_tab G M N I R) k
     refine⟨fun j u z=>?_,by simp⟩
     rw[World.var?_cell hg o j,<-Array.getElem?_toList,A,<-z,<-hl]
     congr 1
     clear k A z o hl
     induction rs with
     | nil=>rfl
     | cons r rs ih=>rw[List.map_cons,List.flatten_cons,List.flatten_cons,e32.fl_append,ih]
    ·cases f
   ·cases f
  ·cases f
 ·cases f
end Go.Gk
end
