import Derived.Test.YtmegjloifgfldaaGreatDoorGkFman
import Derived.Test.YtmegjloifgfldaaGreatDoorGkUA
set_option linter.unusedVariables false
set_option linter.unusedSimpArgs false
set_option linter.unusedSectionVars false

section
namespace Go.Gk.Bn
open Go Go.Gk Go.Gk.Sh
theorem oR (a b:Q0) (k:Nat) (h:val (a.drop (k+1))=val (b.drop (k+1))) (i:(a.getD k 0).toNat<(b.getD k 0).toNat):val a<val b:=by
 have j:=cq a k; have o:=cq b k
 have g:val (a.drop k)<val (b.drop k):=by omega
 rw[<-fw,<-fw]at g
 exact Nat.lt_of_not_le fun f=>by have:=Nat.div_le_div_right (c:=4294967296^k) f; omega
end Go.Gk.Bn
end

section
namespace Go.Gk.Bn
open Go Go.Gk Go.Gk.Sh
theorem p7 (l:Q0) (i:Nat):(l.getD (i / 32) 0).toNat / 2^(i%32)%2=val l / 2^i%2:=by
 have f:(2:Nat)^i=4294967296^(i / 32)*2^(i%32):=by
  rw[show (4294967296:Nat)=2^32 from rfl,<-Nat.pow_mul,<-Nat.pow_add]; congr 1; omega
 rw[f,<-Nat.div_div_eq_div_mul,fw,cq]
 obtain⟨R,g⟩:∃R,val (l.drop (i / 32+1))=R:=⟨_,rfl⟩
 obtain⟨w,h⟩:∃w,(l.getD (i / 32) 0).toNat=w:=⟨_,rfl⟩
 obtain⟨s,hs⟩:∃s,i%32=s:=⟨_,rfl⟩
 rw[g,h,hs]
 have j:=jE (s:=s) (by omega)
 rw[<-j,Nat.mul_assoc,Nat.add_mul_div_left _ _ (Nat.two_pow_pos s)]
 have k:(2:Nat)^(32 - s)=2*2^(32 - s - 1):=by rw[Nat.mul_comm,<-Nat.pow_succ]; congr 1; omega
 rw[k,Nat.mul_assoc]
 omega
end Go.Gk.Bn
end
