import Derived.Test.YtmegjloifgfldaaGreatDoorGkS
import Derived.Test.YtmegjloifgfldaaGreatDoorGkFman
set_option linter.unusedVariables false
set_option linter.unusedSimpArgs false
set_option linter.unusedSectionVars false

section
namespace Go.Gk
noncomputable section
def F.Jw :Q1->Option Q1 | a=>some a
def F.Hs (b:Q1):Q1×Q1->Option ((Q1×Q1)⊕Q1) | (a,f)=>if (decide ((3:Int)<=(a.length:Int))) then(ah (aC a (0:Int)) fun c=>ah (aC a (1:Int)) fun d=>ah (aC a (2:Int)) fun e=>ah (aC b ((aP (((aF c.toUInt64 16) ||| (aF d.toUInt64 8)) ||| e.toUInt64) 18).toNat:Int)) fun g=>ah (aC b (((aP (((aF c.toUInt64 16) ||| (aF d.toUInt64 8)) ||| e.toUInt64) 12) &&& 63).toNat:Int)) fun h=>ah (aC b (((aP (((aF c.toUInt64 16) ||| (aF d.toUInt64 8)) ||| e.toUInt64) 6) &&& 63).toNat:Int)) fun i=>ah (aC b (((((aF c.toUInt64 16) ||| (aF d.toUInt64 8)) ||| e.toUInt64) &&& 63).toNat:Int)) fun j=>ah (apO 1 f [g,h,i,j]) fun k=>ah (drO a (3:Int)) fun l=>bN (l,k))else(bz (if ((a.length:Int) == 2) then(ah (aC a (0:Int)) fun m=>ah (aC b ((jo m 2).toNat:Int)) fun n=>ah (aC a (0:Int)) fun o=>ah (aC a (1:Int)) fun p=>ah (aC b (((mu (o &&& 3) 4) ||| (jo p 4)).toNat:Int)) fun q=>ah (aC a (1:Int)) fun r=>ah (aC b ((mu (r &&& 15) 2).toNat:Int)) fun s=>ah (apO 1 f [n,q,s]) fun t=>F.Jw t)else(if ((a.length:Int) == 1) then(ah (aC a (0:Int)) fun u=>ah (aC b ((jo u 2).toNat:Int)) fun v=>ah (aC a (0:Int)) fun w=>ah (aC b ((mu (w &&& 3) 4).toNat:Int)) fun x=>ah (apO 1 f [v,x]) fun y=>F.Jw y)else(F.Jw f))))
def F.KA (a c:Q1):Option Q1:=ah (mkO 1 (0:Int) (wI ((wI (Int.tdiv (wI ((a.length:Int)+2)) 3))*4):Int) (0:UInt8)) fun b=>loop (F.Hs c) (a,b)
def F.IU (b:Q1):Option Q1:=ah (F.KA b [65,66,67,68,69,70,71,72,73,74,75,76,77,78,79,80,81,82,83,84,85,86,87,88,89,90,97,98,99,100,101,102,103,104,105,106,107,108,109,110,111,112,113,114,115,116,117,118,119,120,121,122,48,49,50,51,52,53,54,55,56,57,45,95]) fun a=>some a
def F.G7 (b:UInt8)(c:Q1):Option (UInt64):=ah (F.Jv c b) fun a=>some (UInt64.ofInt a)
def F.Js (i d j:Q1):UInt64->Option (Q1×Bool) | a=>ah (aC d (0:Int)) fun f=>ah (F.G7 f i) fun b=>ah (aC d (1:Int)) fun g=>ah (F.G7 g i) fun c=>ah (apO 1 j [(aP (a ||| ((aF b 18) ||| (aF c 12))) 16).toUInt8]) fun e=>if ((d.length:Int) == 3) then(ah (apO 1 e [(aP (a ||| ((aF b 18) ||| (aF c 12))) 8).toUInt8]) fun h=>some (h,((a ||| ((aF b 18) ||| (aF c 12))) &&& 255) == 0))else(some (e,((a ||| ((aF b 18) ||| (aF c 12))) &&& 65535) == 0))
def F.He (b:Q1):Q1×Q1->Option ((Q1×Q1)⊕(Q1×Bool)) | (a,g)=>if (decide ((4:Int)<=(a.length:Int))) then(ah (aC a (0:Int)) fun h=>ah (F.G7 h b) fun c=>ah (aC a (1:Int)) fun i=>ah (F.G7 i b) fun d=>ah (aC a (2:Int)) fun j=>ah (F.G7 j b) fun e=>ah (aC a (3:Int)) fun k=>ah (F.G7 k b) fun f=>ah (apO 1 g [(aP ((((aF c 18) ||| (aF d 12)) ||| (aF e 6)) ||| f) 16).toUInt8,(aP ((((aF c 18) ||| (aF d 12)) ||| (aF e 6)) ||| f) 8).toUInt8,((((aF c 18) ||| (aF d 12)) ||| (aF e 6)) ||| f).toUInt8]) fun l=>ah (drO a (4:Int)) fun m=>bN (m,l))else(bz (if ((a.length:Int) == 3) then(ah (aC a (2:Int)) fun n=>ah (F.G7 n b) fun o=>F.Js b a g (aF o 6))else(if ((a.length:Int) == 2) then(F.Js b a g 0)else(some (g,true)))))
def F.J4 (a c:Q1):Option (Q1×Bool):=ah (mkO 1 (0:Int) (wI ((wI ((wI (Int.tdiv (a.length:Int) 4))*3))+2):Int) (0:UInt8)) fun b=>loop (F.He c) (a,b)
def F.IP (b:Q1):Int->Option ((Int)⊕(Q1×Int×Int)) | a=>if (decide (a<(b.length:Int))) then(ah (aC b (a:Int)) fun d=>ah (F.Jv [65,66,67,68,69,70,71,72,73,74,75,76,77,78,79,80,81,82,83,84,85,86,87,88,89,90,97,98,99,100,101,102,103,104,105,106,107,108,109,110,111,112,113,114,115,116,117,118,119,120,121,122,48,49,50,51,52,53,54,55,56,57,45,95] d) fun e=>if (decide (e<0)) then(bz (some ([],20,a)))else(bN (wI (a+1))))else(bz (if ((Int.tmod (b.length:Int) 4) == 1) then(some ([],21,(b.length:Int)))else(ah (F.J4 b [65,66,67,68,69,70,71,72,73,74,75,76,77,78,79,80,81,82,83,84,85,86,87,88,89,90,97,98,99,100,101,102,103,104,105,106,107,108,109,110,111,112,113,114,115,116,117,118,119,120,121,122,48,49,50,51,52,53,54,55,56,57,45,95]) fun c=>if (!c.2) then(some ([],22,wI ((b.length:Int) - 1)))else(some (c.1,0,0)))))
def F.Hf (a:Q1):Option (Q1×Int×Int):=loop (F.IP a) 0
end
end Go.Gk
end

section
namespace Go.Gk
noncomputable section
def F.IX (c f:Q1):UInt8×Int->Option ((UInt8×Int)⊕(Bool)) | (b,a)=>if (decide (a<(c.length:Int))) then(ah (aC c (a:Int)) fun d=>ah (aC f (a:Int)) fun e=>bN (b ||| (d ^^^ e),wI (a+1)))else(bz (some (b == 0)))
def F.Lq (a b:Q1):Option (Bool):=if ((a.length:Int) != (b.length:Int)) then(some false)else(loop (F.IX a b) (0,0))
def F.Mf (f:UInt8)(c:Int):Int×Q1->Option ((Int×Q1)⊕Q1) | (a,b)=>if (decide (a<c)) then(ah (aC b (a:Int)) fun d=>ah (aC b (a:Int)) fun g=>bq (b.set (a:Int).toNat (d ^^^ f)) fun e=>bN (wI (a+1),e))else(bz (some b))
def F.Mc (f:UInt8)(c:Int):Int×Q1->Option ((Int×Q1)⊕Q1) | (a,b)=>if (decide (a<c)) then(ah (aC b (a:Int)) fun d=>ah (aC b (a:Int)) fun g=>bq (b.set (a:Int).toNat (d ^^^ f)) fun e=>bN (wI (a+1),e))else(bz (some b))
def F.J0 (a:Int)(f:Q1)(l:UInt8):Option Q1:=ah (F.Hd a) fun m=>if (decide (m<(f.length:Int))) then(ah (F.GK a [f]) fun g=>ah (F.Hd a) fun b=>ah (mkO 1 (b:Int) (b:Int) (0:UInt8)) fun c=>bq (cpL c g 0 c.length) fun h=>ah (F.Hd a) fun i=>loop (F.Mf l i) (0,h))else(ah (F.Hd a) fun d=>ah (mkO 1 (d:Int) (d:Int) (0:UInt8)) fun e=>bq (cpL e f 0 e.length) fun j=>ah (F.Hd a) fun k=>loop (F.Mc l k) (0,j))
def F.KC (a:Int)(d h:Q1):Option Q1:=ah (F.GH a) fun e=>if (e == 0) then(some [])else(ah (F.J0 a d 92) fun f=>ah (F.J0 a d 54) fun g=>ah (F.GK a [g,h]) fun b=>ah (F.GK a [f,b]) fun c=>some c)
def F.Lk (a:Int)(e f g:Q1):Option (Bool):=ah (F.GH a) fun b=>if (decide ((0:Int)<b)) then(ah (F.KC a e f) fun c=>ah (F.Lq c g) fun d=>some d)else(some false)
end
end Go.Gk
end

section
namespace Go.Gk
end Go.Gk
end

section
namespace Go.Gk
end Go.Gk
end

section
namespace Go.Gk
end Go.Gk
end

section
namespace Go.Gk
end Go.Gk
end

section
namespace Go.Gk
noncomputable section
def F.Hn :Bool->Option (Int) | a=>if a then(some 90)else(some 0)
def F.Hc (f g:Q1):Bool->Option (Int) | e=>if e then(some 90)else(ah (F.GJ f) fun c=>ah (F.GN c) fun b=>ah (F.GJ g) fun d=>ah (F.Li d) fun a=>if (decide (b<2048)) then(F.Hn true)else(if (decide ((4096:Int)<b)) then(F.Hn true)else(if (!a.2) then(F.Hn true)else(if ((a.1%2) == 0) then(F.Hn true)else(if (decide (a.1<3)) then(F.Hn true)else(F.Hn (decide ((4294967295:UInt64)<a.1))))))))
def F.IG (a b:Q1):Option (Int):=if ((a.length:Int) == 0) then(F.Hc a b true)else(ah (aC a (0:Int)) fun c=>if (c == 0) then(F.Hc a b true)else(ah (aC a (wI ((a.length:Int) - 1):Int)) fun d=>if ((d%2) == 0) then(F.Hc a b true)else(if ((b.length:Int) == 0) then(F.Hc a b true)else(ah (aC b (0:Int)) fun e=>F.Hc a b (e == 0)))))
def F.Kl (a:Int):Option (Bool):=if (decide ((1:Int)<=a)) then(some (decide (a<=3)))else(some false)
def F.JJ (h i:Q1)(c:Int):Q1×Int->Option ((Q1×Int)⊕(Q1×Int)) | (a,b)=>if (decide (b<c)) then(ah (apO 1 a [255]) fun d=>bN (d,wI (b+1)))else(bz (ah (apO 1 a [0]) fun e=>ah (apO 1 e i) fun f=>ah (apO 1 f h) fun g=>some (g,0)))
def F.KX (f:Int)(a b:Q1):Bool->Option (Q1×Int) | g=>if g then(some ([],90))else(bq (wI ((wI ((wI (f - 3)) - (b.length:Int))) - (a.length:Int))) fun c=>ah (mkO 1 (0:Int) (f:Int) (0:UInt8)) fun d=>ah (apO 1 d [0,1]) fun e=>loop (F.JJ a b c) (e,0))
def F.K3 (d:Int)(f:Q1)(c:Int):Option (Q1×Int):=ah (F.Kl d) fun e=>if (!e) then(some ([],111))else(ah (F.GK d [f]) fun a=>ah (aC F.Hr (d:Int)) fun b=>if (decide (c<(wI ((wI ((wI (3+(b.length:Int)))+(a.length:Int)))+8)))) then(F.KX c a b true)else(F.KX c a b (decide ((512:Int)<c))))
def F.JX :Bool->Option (Int) | a=>if a then(some 91)else(some 0)
def F.JD (j:Int)(g k l:Q1)(h i:Q0):Bool->Option (Int) | d=>if d then(some 91)else(ah (F.K3 j l (g.length:Int)) fun a=>if (a.2 != 0) then(some 91)else(ah (F.GJ k) fun e=>ah (F.IJ i e h) fun b=>ah (F.Hp b.1 (g.length:Int)) fun c=>if (b.2 != 0) then(F.JX true)else(if (!c.2) then(F.JX true)else(ah (F.IL c.1 a.1) fun f=>F.JX (!f)))))
def F.Lx (e:Int)(a f h i:Q1):Option (Int):=ah (F.Kl e) fun j=>if (!j) then(some 111)else(ah (F.IG a f) fun d=>if (d != 0) then(some d)else(ah (F.GJ a) fun b=>ah (F.GJ i) fun c=>if ((i.length:Int) != (a.length:Int)) then(F.JD e a f h b c true)else(ah (F.GG c b) fun g=>F.JD e a f h b c (decide ((0:Int)<=g)))))
end
end Go.Gk
end

section
namespace Go.Gk
noncomputable section
def F.KD (a:Int):Option (UInt8):=grd (0<=(j3 (wI (8 - (j3 a 7))) 7))<|some (jo 255 (((j3 (wI (8 - (j3 a 7))) 7)).toNat))
def F.LM (c:Int)(d e:Q1):Option Q1:=ah (mkO 1 (8:Int) (8:Int) (0:UInt8)) fun a=>ah (F.GK c [a,d,e]) fun b=>some b
def F.I4 (hi2 a:Nat)(h:UInt32)(i d:Q1):Int×Q1->Option ((Int×Q1)⊕((Nat×UInt32×Q1)⊕Q1)) | (c,b)=>if (decide (c<(min (d.length:Int) (((i.drop a).take (hi2 - a)).length:Int)))) then(ah (aC ((b.drop a).take (hi2 - a)) (c:Int)) fun e=>ah (aC d (c:Int)) fun f=>ah (aC ((b.drop a).take (hi2 - a)) (c:Int)) fun j=>bq (b.set (a+(c:Int).toNat) (e ^^^ f)) fun g=>bN (wI (c+1),g))else(bz (ah (drO ((b.drop a).take (hi2 - a)) (min (d.length:Int) (((b.drop a).take (hi2 - a)).length:Int):Int)) fun k=>bN (a+(min (d.length:Int) (((b.drop a).take (hi2 - a)).length:Int):Int).toNat,h+1,b)))
def F.I8 (e:Int)(f:Q1)(hi2:Nat):Nat×UInt32×Q1->Option ((Nat×UInt32×Q1)⊕Q1) | (c,a,b)=>if (decide ((0:Int)<(((b.drop c).take (hi2 - c)).length:Int))) then(ah (F.GK e [f,[(bv a 24).toUInt8,(bv a 16).toUInt8,(bv a 8).toUInt8,a.toUInt8]]) fun d=>loop (F.I4 hi2 c a b d) (0,b))else(bz (some b))
def F.LX (a:Int)(b c:Q1)(lo2 hi2:Nat):Option Q1:=loop (F.I8 a b hi2) (lo2,0,c)
def F.IR (j:Int)(k d a:Q1)(b:Int):Int->Option ((Int)⊕(Bool)) | c=>if (decide (c<((a.take ((b:Int).toNat)).length:Int))) then(ah (aC (a.take ((b:Int).toNat)) (c:Int)) fun e=>if (e != 0) then(bz (some false))else(bN (wI (c+1))))else(bz (ah (aC a (b:Int)) fun f=>if (f == 1) then(ah (drO a (wI (b+1):Int)) fun g=>ah (F.LM j k g) fun h=>ah (F.IL h d) fun i=>some i)else(some false)))
def F.Hl (l:Int)(m:Q1)(g d:Int)(n:Q1):Bool->Option (Bool) | h=>if h then(some false)else(ah (slO m (wI ((wI ((eA (wI (g+7)) 3) - d)) - 1):Int) (wI ((eA (wI (g+7)) 3) - 1):Int)) fun e=>ah (tkO m (wI ((wI ((eA (wI (g+7)) 3) - d)) - 1):Int)) fun i=>ah (F.Ho i) fun f=>ah (F.LX l e f 0 f.length) fun a=>ah (aC a (0:Int)) fun j=>ah (F.KD g) fun k=>ah (aC a (0:Int)) fun o=>bq (a.set (0:Int).toNat (j &&& k)) fun b=>bq (wI ((wI ((b.length:Int) - d)) - 1)) fun c=>grd (0<=(c:Int)/\(c:Int).toNat<=b.length)<|loop (F.IR l n e b c) 0)
def F.IV (c:Q1)(a b d:Int)(e:Q1):Bool->Option (Bool) | h=>if h then(some false)else(if ((c.length:Int) != (eA (wI (a+7)) 3)) then(F.Hl d c a b e true)else(if (decide ((eA (wI (a+7)) 3)<(wI ((wI (2*b))+2)))) then(F.Hl d c a b e true)else(ah (aC c (wI ((eA (wI (a+7)) 3) - 1):Int)) fun i=>if (i != 188) then(F.Hl d c a b e true)else(ah (aC c (0:Int)) fun f=>ah (F.KD a) fun g=>F.Hl d c a b e ((f &&& ~~~ g) != 0)))))
def F.KO (c:Int)(d e:Q1)(b:Int):Option (Bool):=ah (F.GH c) fun a=>if (a == 0) then(F.IV e b a c d true)else(if (decide (b<0)) then(F.IV e b a c d true)else(if (decide ((65536:Int)<b)) then(F.IV e b a c d true)else(F.IV e b a c d ((d.length:Int) != a))))
def F.KT :Bool->Option (Int) | a=>if a then(some 91)else(some 0)
def F.Km (i:Int)(k l:Q1)(d j:Q0):Bool->Option (Int) | e=>if e then(some 91)else(ah (F.GJ k) fun f=>ah (F.IJ j f d) fun a=>if (a.2 != 0) then(some 91)else(ah (F.GN d) fun b=>ah (F.Hp a.1 (eA (wI ((wI (b - 1))+7)) 3)) fun c=>if (!c.2) then(F.KT true)else(ah (F.GK i [l]) fun g=>ah (F.KO i g c.1 (wI (b - 1))) fun h=>F.KT (!h))))
def F.LJ (c:Int)(d e g h:Q1):Option (Int):=ah (F.GH c) fun i=>if (i == 0) then(some 111)else(ah (F.IG d e) fun j=>if (j != 0) then(some 90)else(ah (F.GJ d) fun a=>ah (F.GJ h) fun b=>if ((h.length:Int) != (d.length:Int)) then(F.Km c e g a b true)else(ah (F.GG b a) fun f=>F.Km c e g a b (decide ((0:Int)<=f)))))
end
end Go.Gk
end

section
namespace Go.Gk
noncomputable section
def F.Ir (d:Q1):Option Q0:=ah (F.Ho d) fun a=>ah (F.Ke a) fun b=>ah (F.GJ b) fun c=>some c
def F.HW (a:Q0):Option Q0:=some a
def F.GV :Option Q0:=ah (F.HW F.G8) fun a=>some a
def F.Gz (c d:Q0):Option Q0:=ah (F.GV) fun a=>ah (F.I9 c d a) fun b=>some b.1
def F.GR (c d:Q0):Option Q0:=ah (F.GV) fun a=>ah (F.LD c d a) fun b=>some b.1
def F.It :Option Q0:=ah (F.HW F.G3) fun a=>some a
def F.GL (c d:Q0):Option Q0:=ah (F.GV) fun a=>ah (F.Ld c d a) fun b=>some b.1
def F.Ka (c:Q0):Option Q0:=ah (F.GV) fun a=>ah (F.Hy c a) fun b=>some b.1
def F.LP (c d:Q0):Option Q0:=ah (F.GV) fun a=>ah (F.IJ c d a) fun b=>some b.1
def F.Md :Option Q0:=ah (F.HW F.G6) fun a=>some a
def F.Mg :Q0->Option (Q0×Bool) | a=>some (a,true)
def F.Ig (e:Bool)(a:Q0):Bool->Option (Q0×Bool) | b=>if b then(some ([],false))else(ah (F.GP a 0) fun c=>if (c != e) then(ah (F.GR [] a) fun d=>F.Mg d)else(F.Mg a))
def F.JU (b:Bool)(c:Q0):Q0->Option (Q0×Bool) | a=>ah (F.Gz a a) fun d=>ah (F.GG d c) fun e=>if (e != 0) then(F.Ig b a true)else(ah (F.GN a) fun f=>if (f == 0) then(F.Ig b a b)else(F.Ig b a false))
def F.LA (n:Q0)(o:Bool):Option (Q0×Bool):=ah (F.Gz n n) fun c=>ah (F.GR c ([1]:Q0)) fun p=>ah (F.It) fun q=>ah (F.Gz q c) fun d=>ah (F.GL d ([1]:Q0)) fun e=>ah (F.Ka e) fun f=>ah (F.Gz p f) fun a=>ah (F.GV) fun g=>ah (F.HK g ([3]:Q0)) fun h=>ah (F.GU h 3) fun i=>ah (F.LP a i) fun b=>ah (F.Gz b b) fun j=>ah (F.GG j a) fun k=>if (k != 0) then(ah (F.Md) fun l=>ah (F.Gz b l) fun m=>F.JU o a m)else(F.JU o a b)
def F.Kg (f:Q1):Option (Q0×Q0×Bool×Int):=if ((f.length:Int) != 32) then(some ([],[],false,93))else(ah (F.Ho f) fun b=>ah (aC b (31:Int)) fun g=>ah (aC b (31:Int)) fun h=>ah (aC b (31:Int)) fun j=>bq (b.set (31:Int).toNat (h &&& 127)) fun i=>ah (F.Ir i) fun a=>ah (F.GV) fun d=>ah (F.GG a d) fun e=>if (decide ((0:Int)<=e)) then(some ([],[],false,93))else(ah (F.LA a ((g &&& 128) != 0)) fun c=>if (!c.2) then(some ([],[],false,93))else(some (c.1,a,false,0))))
def F.K0 :Option Q0:=ah (F.HW F.G9) fun a=>some a
def F.L8 :Option (Q0×Q0×Bool):=ah (F.HW F.G5) fun a=>ah (F.HW F.G1) fun b=>some (a,b,false)
def F.JV (b:Q0):Option Q0:=ah (F.GL b []) fun a=>some a
def F.Lh (a b c r:Q0):Option (Q0×Q0×Q0×Q0):=ah (F.Gz a a) fun i=>ah (F.Gz b b) fun j=>ah (F.GL c c) fun k=>ah (F.Gz c k) fun l=>ah (F.GL i j) fun d=>ah (F.GL a b) fun f=>ah (F.Gz f f) fun m=>ah (F.GR d m) fun g=>ah (F.GR i j) fun e=>ah (F.GL l e) fun h=>ah (F.Gz g h) fun n=>ah (F.Gz e d) fun o=>ah (F.Gz h e) fun p=>ah (F.Gz g d) fun q=>some (n,o,p,q)
def F.J8 (a b n o c d e p:Q0):Option (Q0×Q0×Q0×Q0):=ah (F.GR b a) fun C=>ah (F.GR d c) fun q=>ah (F.Gz C q) fun f=>ah (F.GL b a) fun r=>ah (F.GL d c) fun s=>ah (F.Gz r s) fun g=>ah (F.Gz o p) fun t=>ah (F.It) fun u=>ah (F.It) fun v=>ah (F.GL u v) fun w=>ah (F.Gz t w) fun h=>ah (F.GL e e) fun x=>ah (F.Gz n x) fun i=>ah (F.GR g f) fun j=>ah (F.GR i h) fun k=>ah (F.GL i h) fun l=>ah (F.GL g f) fun m=>ah (F.Gz j k) fun y=>ah (F.Gz l m) fun z=>ah (F.Gz k l) fun A=>ah (F.Gz j m) fun B=>some (y,z,A,B)
def F.Kb (a:Int):Q0×Q0×Q0×Q0->Option ((Int×Q0×Q0×Q0×Q0)⊕(Q0×Q0×Q0×Q0)) | (b,c,d,e)=>bN (wI (a - 1),b,c,d,e)
def F.Jl (h i j k m:Q0):Int×Q0×Q0×Q0×Q0->Option ((Int×Q0×Q0×Q0×Q0)⊕(Q0×Q0×Q0×Q0)) | (b,d,e,f,g)=>if (decide ((0:Int)<=b)) then(ah (F.Lh d e f g) fun a=>ah (F.GP m b) fun l=>if l then(ah (F.J8 a.1 a.2.1 a.2.2.1 a.2.2.2 h i j k) fun c=>F.Kb b (c.1,c.2.1,c.2.2.1,c.2.2.2))else(F.Kb b (a.1,a.2.1,a.2.2.1,a.2.2.2)))else(bz (some (d,e,f,g)))
def F.J9 (a b c d f:Q0):Option (Q0×Q0×Q0×Q0):=ah (F.GN f) fun e=>loop (F.Jl a b c d f) (wI (e - 1),[],([1]:Q0),([1]:Q0),[])
def F.Lc (b c d g:Q0):Option (Q0×Q0×Bool):=ah (F.Ka d) fun a=>ah (F.Gz b a) fun f=>ah (F.Gz c a) fun e=>some (f,e,false)
def F.JS (a b:Q0):Bool×Bool->Option (Bool) | (e,l)=>if e then(some false)else(ah (F.Gz a a) fun c=>ah (F.Gz b b) fun d=>ah (F.GR d c) fun f=>ah (F.It) fun g=>ah (F.Gz c d) fun h=>ah (F.Gz g h) fun i=>ah (F.GL ([1]:Q0) i) fun j=>ah (F.GG f j) fun k=>some (k == 0))
def F.Lj (a b:Q0)(c:Bool):Option (Bool):=if c then(F.JS a b (true,true))else(ah (F.GV) fun e=>ah (F.GG a e) fun f=>if (decide ((0:Int)<=f)) then(F.JS a b (true,false))else(ah (F.GV) fun g=>ah (F.GG b g) fun d=>F.JS a b (decide ((0:Int)<=d),false)))
def F.KP :Q1->Option (Q1×Int) | a=>some (a,0)
def F.KL (b c:Q0)(d:Bool):Option (Q1×Int):=ah (F.Lj b c d) fun f=>if (!f) then(some ([],93))else(ah (F.Hp c 32) fun g=>ah (F.Ke g.1) fun a=>ah (F.GP b 0) fun h=>if h then(ah (aC a (31:Int)) fun i=>ah (aC a (31:Int)) fun j=>bq (a.set (31:Int).toNat (i ||| 128)) fun e=>F.KP e)else(F.KP a))
def F.Ku (a b:Q0)(f:Bool):Option (Q0×Q0×Q0×Q0):=ah (F.JV a) fun d=>ah (F.JV b) fun e=>ah (F.Gz a b) fun c=>some (d,e,([1]:Q0),c)
def F.KV :Bool->Option (Int) | a=>if a then(some 91)else(some 0)
def F.Lw (v x j:Q1):Option (Int):=ah (F.Kg v) fun h=>if (h.2.2.2 != 0) then(some 90)else(if ((j.length:Int) != 64) then(some 91)else(ah (drO j (32:Int)) fun w=>ah (F.Ir w) fun m=>ah (F.K0) fun n=>ah (F.GG m n) fun o=>if (decide ((0:Int)<=o)) then(some 91)else(ah (tkO j (32:Int)) fun p=>ah (F.GK 3 [p,v,x]) fun q=>ah (F.Ir q) fun r=>ah (F.K0) fun s=>ah (F.IK r s) fun t=>ah (F.GR [] h.1) fun u=>ah (F.L8) fun f=>ah (F.Ku f.1 f.2.1 f.2.2) fun a=>ah (F.J9 a.1 a.2.1 a.2.2.1 a.2.2.2 m) fun b=>ah (F.Ku u h.2.1 false) fun c=>ah (F.J9 c.1 c.2.1 c.2.2.1 c.2.2.2 t.2.1) fun d=>ah (F.J8 b.1 b.2.1 b.2.2.1 b.2.2.2 d.1 d.2.1 d.2.2.1 d.2.2.2) fun e=>ah (F.Lc e.1 e.2.1 e.2.2.1 e.2.2.2) fun g=>ah (F.KL g.1 g.2.1 g.2.2) fun i=>if (i.2 != 0) then(F.KV true)else(ah (tkO j (32:Int)) fun k=>ah (F.IL i.1 k) fun l=>F.KV (!l)))))
end
end Go.Gk
end

section
namespace Go.Gk
noncomputable section
def F.H9 (c:List Q1):Int×Int->Option ((Int×Int)⊕(Bool)) | (b,a)=>if (decide (a<(c.length:Int))) then(ah (aC c (a:Int)) fun d=>bq (wI (b+(d.length:Int))) fun e=>bN (e,wI (a+1)))else(bz (some (b == 0)))
def F.GX (a:List Q1):Option (Bool):=loop (F.H9 a) (0,0)
def F.Lg (a:Q1):Bool->Option (Bool) | b=>if b then(some false)else(ah (F.Kg a) fun c=>some (c.2.2.2 == 0))
def F.Kv (c d:Int)(a e f b g:Q1):Option (Bool):=if (c == 1) then(if (d == 0) then(if (decide ((32:Int)<=(a.length:Int))) then(if (decide ((a.length:Int)<=4096)) then(ah (F.GX [e,f,b,g]) fun m=>some m)else(some false))else(some false))else(some false))else(if (c == 2) then(if (d == 0) then(ah (F.GX [a,b,g]) fun h=>if h then(ah (F.IG e f) fun i=>some (i == 0))else(some false))else(some false))else(if (c == 3) then(ah (F.Kc d b g) fun j=>if (j.2.2.2 == 0) then(ah (F.GX [a,e,f]) fun k=>some k)else(some false))else(if (c == 4) then(if (d != 3) then(F.Lg b true)else(ah (F.GX [a,e,f,g]) fun l=>F.Lg b (!l)))else(some false))))
def F.Ih (a b:Int)(c d e f g:Q1):Option (Int):=ah (F.Kv a b c d e f g) fun h=>if h then(some 0)else(some 90)
end
end Go.Gk
end

section
namespace Go.Gk
noncomputable section
def F.I6 (a:Int):Bool->Option (Int×Int×Int) | b=>if b then(some (3,wI (1+(wI (a - 7))),0))else(if (a == 10) then(some (4,1,1))else(if (a == 11) then(some (4,2,2))else(if (a == 12) then(some (5,0,3))else(some (0,0,0)))))
def F.II (a:Int):Bool->Option (Int×Int×Int) | b=>if b then(some (2,wI (1+(wI (a - 4))),0))else(if (a == 7) then(F.I6 a (a == 7))else(if (a == 8) then(F.I6 a (a == 8))else(F.I6 a (a == 9))))
def F.Iq (a:Int):Bool->Option (Int×Int×Int) | b=>if b then(some (1,wI (1+(wI (a - 1))),0))else(if (a == 4) then(F.II a (a == 4))else(if (a == 5) then(F.II a (a == 5))else(F.II a (a == 6))))
def F.Hh (a:Int):Option (Int×Int×Int):=if (a == 1) then(F.Iq a (a == 1))else(if (a == 2) then(F.Iq a (a == 2))else(F.Iq a (a == 3)))
def F.Jq (b c d:Q1):Option (Q1×Int):=bq (wI (2+(wI (Int.tdiv (wI ((wI ((b.length:Int)*4))+2)) 3)))) fun e=>bq (wI (e+(wI (Int.tdiv (wI ((wI ((c.length:Int)*4))+2)) 3)))) fun f=>bq (wI (f+(wI (Int.tdiv (wI ((wI ((d.length:Int)*4))+2)) 3)))) fun g=>if (decide ((65536:Int)<g)) then(some ([],10))else(ah (F.IU b) fun h=>ah (oz h [46]) fun i=>ah (F.IU c) fun j=>ah (oz i j) fun k=>ah (oz k [46]) fun l=>ah (F.IU d) fun m=>ah (oz l m) fun a=>some (a,0))
def F.JR (c:Q1):Option (Q1×Q1×Q1×Int):=if (decide ((65536:Int)<(c.length:Int))) then(some ([],[],[],10))else(ah (F.L1 c) fun d=>if (d != 2) then(some ([],[],[],120))else(ah (F.JF c) fun a=>ah (F.JF a.2.1) fun b=>some (a.1,b.1,b.2.1,0)))
def F.KK (e:Q1):Option (Q1×Q1×Q1×Int):=ah (F.JR e) fun a=>if (a.2.2.2 != 0) then(some ([],[],[],a.2.2.2))else(ah (F.Hf a.1) fun c=>if (c.2.1 != 0) then(some ([],[],[],c.2.1))else(ah (F.Hf a.2.1) fun d=>if (d.2.1 != 0) then(some ([],[],[],d.2.1))else(ah (F.Hf a.2.2.1) fun b=>if (b.2.1 != 0) then(some ([],[],[],b.2.1))else(some (c.1,d.1,b.1,0)))))
def F.Kw (d e:Q1)(a:Int×Int×Int):Bool->Option (Q1×Int) | b=>if b then(some ([],90))else(ah (F.KC a.2.1 d e) fun c=>some (c,0))
def F.KH (e:Int)(b c:Q1):Option (Q1×Int):=ah (F.Hh e) fun a=>if (a.1 != 1) then(some ([],111))else(ah (F.GH a.2.1) fun d=>if (decide ((b.length:Int)<d)) then(F.Kw b c a true)else(F.Kw b c a (decide ((4096:Int)<(b.length:Int)))))
def F.L3 (a c:Int)(b:Int×Int×Int):Bool->Option (Bool) | d=>if d then(some (a == 2))else(if (b.1 == 4) then(if (a == 3) then(some (c == b.2.2))else(some false))else(if (b.1 == 5) then(if (a == 4) then(some (c == b.2.2))else(some false))else(some false)))
def F.Hu (d b c:Int)(e f g h i:Q1):Option (Bool):=ah (F.Hh d) fun a=>if (a.1 == 1) then(some (b == 1))else(if (a.1 == 2) then(F.L3 b c a (a.1 == 2))else(F.L3 b c a (a.1 == 3)))
def F.Hg :Int->Option (Int) | a=>if (a != 0) then(some 91)else(some 0)
def F.Hk (g b c d h e f:Q1)(a:Int×Int×Int):Bool->Option (Int) | n=>if n then(some 90)else(if (a.1 == 1) then(ah (F.Lk a.2.1 g e f) fun i=>if (!i) then(F.Hg 91)else(F.Hg 0))else(if (a.1 == 2) then(ah (F.Lx a.2.1 b c e f) fun j=>F.Hg j)else(if (a.1 == 3) then(ah (F.LJ a.2.1 b c e f) fun k=>F.Hg k)else(if (a.1 == 4) then(ah (F.KS a.2.1 a.2.2 d h e f) fun l=>F.Hg l)else(ah (F.Lw d e f) fun m=>F.Hg m)))))
def F.G2 (l g h:Int)(a b c d e j k:Q1):Option (Int):=ah (F.Hh l) fun f=>if (f.1 == 0) then(some 111)else(ah (F.Hu l g h a b c d e) fun m=>if (!m) then(some 105)else(ah (F.Ih g h a b c d e) fun i=>if (i != 0) then(F.Hk a b c d e j k f (i != 0))else(if (f.1 == 1) then(ah (F.GH f.2.1) fun n=>F.Hk a b c d e j k f (decide ((a.length:Int)<n)))else(F.Hk a b c d e j k f false))))
end
end Go.Gk
end

section
namespace Go.Gk
noncomputable section
def F.KF :Option (Bool):=ah (F.JR [89,81,46,89,103,46]) fun b=>ah (F.KK [89,81,46,89,103,46]) fun c=>ah (F.Jq [97] [98] []) fun d=>ah (mkO 1 (32:Int) (32:Int) (0:UInt8)) fun e=>ah (F.KH 1 e [89,81,46,89,103]) fun a=>ah (F.G2 1 1 0 e [] [] [] [] [89,81,46,89,103] a.1) fun f=>if (b.2.2.2 == 0) then(if (c.2.2.2 == 0) then(if (d.2 == 0) then(if (a.2 == 0) then(if (f == 0) then(if (b.1 == [89,81]) then(if (b.2.1 == [89,103]) then(if (b.2.2.1 == []) then(if (c.1 == [97]) then(if (c.2.1 == [98]) then(if ((c.2.2.1.length:Int) == 0) then(if (d.1 == [89,81,46,89,103,46]) then(some ((a.1.length:Int) == 32))else(some false))else(some false))else(some false))else(some false))else(some false))else(some false))else(some false))else(some false))else(some false))else(some false))else(some false))else(some false)
def F.J7 (b:Int):Bool->Option ((Int)⊕(Bool)) | a=>if a then(bz (some false))else(bN (wI (b+1)))
def F.I2 (k a g:Int)(b c d e f:Q1)(l m:Int):Bool->Option (Bool) | h=>if h then(some false)else(if (l == a) then(some true)else(ah (F.Hu k a g b c d e f) fun i=>if (!i) then(some true)else(ah (F.Hu k l m b c d e f) fun j=>some (!j))))
def F.Kx (i a g:Int)(b c d e f l m:Q1)(j k:Int):Int->Option ((Int)⊕(Bool)) | h=>if (decide (h<15)) then(ah (F.Hu h a g b c d e f) fun q=>if (!q) then(ah (F.G2 h a g b c d e f l m) fun n=>F.J7 h (n == 0))else(F.J7 h false))else(bz (if (j != a) then(ah (F.G2 i j k b c d e f l m) fun o=>if (o == 0) then(ah (F.G2 i a g b c d e f l m) fun p=>F.I2 i a g b c d e f j k (p == 0))else(F.I2 i a g b c d e f j k false))else(F.I2 i a g b c d e f j k false)))
def F.LY (i a b:Int)(c d e f g j k:Q1)(l m:Int):Option (Bool):=ah (F.KF) fun h=>if (!h) then(some false)else(loop (F.Kx i a b c d e f g j k l m) (-1))
end
end Go.Gk
end
