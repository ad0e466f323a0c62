import Derived.Test.YtkickcbphbgldaaGreatDoorGkFman
import Derived.Test.YtkickcbphbgldaaGreatDoorGkUA
set_option linter.unusedVariables false
set_option linter.unusedSimpArgs false
set_option linter.unusedSectionVars false

section
namespace Go.Gk.Bn
open Go Go.Gk Go.Gk.Sh
theorem mr (a b:List UInt32) (k:Nat) (h:val (a.drop (k+1))=val (b.drop (k+1))) (hlt:(a.getD k 0).toNat<(b.getD k 0).toNat):val a<val b:=by
 have h1:=cf a k; have h2:=cf b k
 have h3:val (a.drop k)<val (b.drop k):=by omega
 rw [←ek,←ek]at h3
 exact Nat.lt_of_not_le fun hle=>by have:=Nat.div_le_div_right (c:=4294967296^k) hle; omega
end Go.Gk.Bn
end

section
namespace Go.Gk.Bn
open Go Go.Gk Go.Gk.Sh
theorem rh (l:List UInt32) (i:Nat):(l.getD (i / 32) 0).toNat / 2^(i%32)%2=val l / 2^i%2:=by
 have h1:(2:Nat)^i=4294967296^(i / 32)*2^(i%32):=by
  rw [show (4294967296:Nat)=2^32 from rfl,←Nat.pow_mul,←Nat.pow_add]; congr 1; omega
 rw [h1,←Nat.div_div_eq_div_mul,ek,cf]
 obtain ⟨R,hR⟩:∃R,val (l.drop (i / 32+1))=R:=⟨_,rfl⟩
 obtain ⟨w,hw⟩:∃w,(l.getD (i / 32) 0).toNat=w:=⟨_,rfl⟩
 obtain ⟨s,hs⟩:∃s,i%32=s:=⟨_,rfl⟩
 rw [hR,hw,hs]
 have hp:=io (s:=s) (by omega)
 rw [←hp,Nat.mul_assoc,Nat.add_mul_div_left _ _ (Nat.two_pow_pos s)]
 have h2:(2:Nat)^(32 - s)=2*2^(32 - s - 1):=by rw [Nat.mul_comm,←Nat.pow_succ]; congr 1; omega
 rw [h2,Nat.mul_assoc]
 omega
end Go.Gk.Bn
end
