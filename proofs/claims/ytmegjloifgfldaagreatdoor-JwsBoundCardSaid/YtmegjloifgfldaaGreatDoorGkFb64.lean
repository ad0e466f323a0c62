import Derived.Test.YtmegjloifgfldaaGreatDoorGkS
import Derived.Test.YtmegjloifgfldaaGreatDoorGkFman
set_option linter.unusedVariables false
set_option linter.unusedSimpArgs false
set_option linter.unusedSectionVars false

section
namespace Go.Gk
noncomputable section
def F.JG :Q1->Option Q1 | a=>some a
def F.Hx (b:Q1):Q1×Q1->Option ((Q1×Q1)⊕Q1) | (a,f)=>if (decide ((3:Int)<=(a.length:Int))) then(ah (aC a (0:Int)) fun c=>ah (aC a (1:Int)) fun d=>ah (aC a (2:Int)) fun e=>ah (aC b ((aP (((aH c.toUInt64 16) ||| (aH d.toUInt64 8)) ||| e.toUInt64) 18).toNat:Int)) fun g=>ah (aC b (((aP (((aH c.toUInt64 16) ||| (aH d.toUInt64 8)) ||| e.toUInt64) 12) &&& 63).toNat:Int)) fun h=>ah (aC b (((aP (((aH c.toUInt64 16) ||| (aH d.toUInt64 8)) ||| e.toUInt64) 6) &&& 63).toNat:Int)) fun i=>ah (aC b (((((aH c.toUInt64 16) ||| (aH d.toUInt64 8)) ||| e.toUInt64) &&& 63).toNat:Int)) fun j=>ah (apO 1 f [g,h,i,j]) fun k=>ah (drO a (3:Int)) fun l=>bO (l,k))else(bA (if ((a.length:Int) == 2) then(ah (aC a (0:Int)) fun m=>ah (aC b ((jt m 2).toNat:Int)) fun n=>ah (aC a (0:Int)) fun o=>ah (aC a (1:Int)) fun p=>ah (aC b (((mz (o &&& 3) 4) ||| (jt p 4)).toNat:Int)) fun q=>ah (aC a (1:Int)) fun r=>ah (aC b ((mz (r &&& 15) 2).toNat:Int)) fun s=>ah (apO 1 f [n,q,s]) fun t=>F.JG t)else(if ((a.length:Int) == 1) then(ah (aC a (0:Int)) fun u=>ah (aC b ((jt u 2).toNat:Int)) fun v=>ah (aC a (0:Int)) fun w=>ah (aC b ((mz (w &&& 3) 4).toNat:Int)) fun x=>ah (apO 1 f [v,x]) fun y=>F.JG y)else(F.JG f))))
def F.KM (a c:Q1):Option Q1:=ah (mkO 1 (0:Int) (wI ((wI (Int.tdiv (wI ((a.length:Int)+2)) 3))*4):Int) (0:UInt8)) fun b=>loop (F.Hx c) (a,b)
def F.I2 (b:Q1):Option Q1:=ah (F.KM b [65,66,67,68,69,70,71,72,73,74,75,76,77,78,79,80,81,82,83,84,85,86,87,88,89,90,97,98,99,100,101,102,103,104,105,106,107,108,109,110,111,112,113,114,115,116,117,118,119,120,121,122,48,49,50,51,52,53,54,55,56,57,45,95]) fun a=>some a
def F.Hb (b:UInt8)(c:Q1):Option (UInt64):=ah (F.JF c b) fun a=>some (UInt64.ofInt a)
def F.JC (i d j:Q1):UInt64->Option (Q1×Bool) | a=>ah (aC d (0:Int)) fun f=>ah (F.Hb f i) fun b=>ah (aC d (1:Int)) fun g=>ah (F.Hb g i) fun c=>ah (apO 1 j [(aP (a ||| ((aH b 18) ||| (aH c 12))) 16).toUInt8]) fun e=>if ((d.length:Int) == 3) then(ah (apO 1 e [(aP (a ||| ((aH b 18) ||| (aH c 12))) 8).toUInt8]) fun h=>some (h,((a ||| ((aH b 18) ||| (aH c 12))) &&& 255) == 0))else(some (e,((a ||| ((aH b 18) ||| (aH c 12))) &&& 65535) == 0))
def F.Hi (b:Q1):Q1×Q1->Option ((Q1×Q1)⊕(Q1×Bool)) | (a,g)=>if (decide ((4:Int)<=(a.length:Int))) then(ah (aC a (0:Int)) fun h=>ah (F.Hb h b) fun c=>ah (aC a (1:Int)) fun i=>ah (F.Hb i b) fun d=>ah (aC a (2:Int)) fun j=>ah (F.Hb j b) fun e=>ah (aC a (3:Int)) fun k=>ah (F.Hb k b) fun f=>ah (apO 1 g [(aP ((((aH c 18) ||| (aH d 12)) ||| (aH e 6)) ||| f) 16).toUInt8,(aP ((((aH c 18) ||| (aH d 12)) ||| (aH e 6)) ||| f) 8).toUInt8,((((aH c 18) ||| (aH d 12)) ||| (aH e 6)) ||| f).toUInt8]) fun l=>ah (drO a (4:Int)) fun m=>bO (m,l))else(bA (if ((a.length:Int) == 3) then(ah (aC a (2:Int)) fun n=>ah (F.Hb n b) fun o=>F.JC b a g (aH o 6))else(if ((a.length:Int) == 2) then(F.JC b a g 0)else(some (g,true)))))
def F.Kf (a c:Q1):Option (Q1×Bool):=ah (mkO 1 (0:Int) (wI ((wI ((wI (Int.tdiv (a.length:Int) 4))*3))+2):Int) (0:UInt8)) fun b=>loop (F.Hi c) (a,b)
def F.IX (b:Q1):Int->Option ((Int)⊕(Q1×Int×Int)) | a=>if (decide (a<(b.length:Int))) then(ah (aC b (a:Int)) fun d=>ah (F.JF [65,66,67,68,69,70,71,72,73,74,75,76,77,78,79,80,81,82,83,84,85,86,87,88,89,90,97,98,99,100,101,102,103,104,105,106,107,108,109,110,111,112,113,114,115,116,117,118,119,120,121,122,48,49,50,51,52,53,54,55,56,57,45,95] d) fun e=>if (decide (e<0)) then(bA (some ([],20,a)))else(bO (wI (a+1))))else(bA (if ((Int.tmod (b.length:Int) 4) == 1) then(some ([],21,(b.length:Int)))else(ah (F.Kf b [65,66,67,68,69,70,71,72,73,74,75,76,77,78,79,80,81,82,83,84,85,86,87,88,89,90,97,98,99,100,101,102,103,104,105,106,107,108,109,110,111,112,113,114,115,116,117,118,119,120,121,122,48,49,50,51,52,53,54,55,56,57,45,95]) fun c=>if (!c.2) then(some ([],22,wI ((b.length:Int) - 1)))else(some (c.1,0,0)))))
def F.Hj (a:Q1):Option (Q1×Int×Int):=loop (F.IX a) 0
end
end Go.Gk
end

section
namespace Go.Gk
noncomputable section
def F.I5 (c f:Q1):UInt8×Int->Option ((UInt8×Int)⊕(Bool)) | (b,a)=>if (decide (a<(c.length:Int))) then(ah (aC c (a:Int)) fun d=>ah (aC f (a:Int)) fun e=>bO (b ||| (d ^^^ e),wI (a+1)))else(bA (some (b == 0)))
def F.LA (a b:Q1):Option (Bool):=if ((a.length:Int) != (b.length:Int)) then(some false)else(loop (F.I5 a b) (0,0))
def F.Mo (f:UInt8)(c:Int):Int×Q1->Option ((Int×Q1)⊕Q1) | (a,b)=>if (decide (a<c)) then(ah (aC b (a:Int)) fun d=>ah (aC b (a:Int)) fun g=>bp (b.set (a:Int).toNat (d ^^^ f)) fun e=>bO (wI (a+1),e))else(bA (some b))
def F.Ml (f:UInt8)(c:Int):Int×Q1->Option ((Int×Q1)⊕Q1) | (a,b)=>if (decide (a<c)) then(ah (aC b (a:Int)) fun d=>ah (aC b (a:Int)) fun g=>bp (b.set (a:Int).toNat (d ^^^ f)) fun e=>bO (wI (a+1),e))else(bA (some b))
def F.Kb (a:Int)(f:Q1)(l:UInt8):Option Q1:=ah (F.Hh a) fun m=>if (decide (m<(f.length:Int))) then(ah (F.GO a [f]) fun g=>ah (F.Hh a) fun b=>ah (mkO 1 (b:Int) (b:Int) (0:UInt8)) fun c=>bp (cpL c g 0 c.length) fun h=>ah (F.Hh a) fun i=>loop (F.Mo l i) (0,h))else(ah (F.Hh a) fun d=>ah (mkO 1 (d:Int) (d:Int) (0:UInt8)) fun e=>bp (cpL e f 0 e.length) fun j=>ah (F.Hh a) fun k=>loop (F.Ml l k) (0,j))
def F.KO (a:Int)(d h:Q1):Option Q1:=ah (F.GL a) fun e=>if (e == 0) then(some [])else(ah (F.Kb a d 92) fun f=>ah (F.Kb a d 54) fun g=>ah (F.GO a [g,h]) fun b=>ah (F.GO a [f,b]) fun c=>some c)
def F.Kc (a:Int)(e f g:Q1):Option (Bool):=ah (F.GL a) fun b=>if (decide ((0:Int)<b)) then(ah (F.KO a e f) fun c=>ah (F.LA c g) fun d=>some d)else(some false)
end
end Go.Gk
end

section
namespace Go.Gk
end Go.Gk
end

section
namespace Go.Gk
end Go.Gk
end

section
namespace Go.Gk
end Go.Gk
end

section
namespace Go.Gk
end Go.Gk
end

section
namespace Go.Gk
noncomputable section
def F.Hr :Bool->Option (Int) | a=>if a then(some 90)else(some 0)
def F.Hg (f g:Q1):Bool->Option (Int) | e=>if e then(some 90)else(ah (F.GN f) fun c=>ah (F.GR c) fun b=>ah (F.GN g) fun d=>ah (F.Lu d) fun a=>if (decide (b<2048)) then(F.Hr true)else(if (decide ((4096:Int)<b)) then(F.Hr true)else(if (!a.2) then(F.Hr true)else(if ((a.1%2) == 0) then(F.Hr true)else(if (decide (a.1<3)) then(F.Hr true)else(F.Hr (decide ((4294967295:UInt64)<a.1))))))))
def F.IM (a b:Q1):Option (Int):=if ((a.length:Int) == 0) then(F.Hg a b true)else(ah (aC a (0:Int)) fun c=>if (c == 0) then(F.Hg a b true)else(ah (aC a (wI ((a.length:Int) - 1):Int)) fun d=>if ((d%2) == 0) then(F.Hg a b true)else(if ((b.length:Int) == 0) then(F.Hg a b true)else(ah (aC b (0:Int)) fun e=>F.Hg a b (e == 0)))))
def F.Kx (a:Int):Option (Bool):=if (decide ((1:Int)<=a)) then(some (decide (a<=3)))else(some false)
def F.JU (h i:Q1)(c:Int):Q1×Int->Option ((Q1×Int)⊕(Q1×Int)) | (a,b)=>if (decide (b<c)) then(ah (apO 1 a [255]) fun d=>bO (d,wI (b+1)))else(bA (ah (apO 1 a [0]) fun e=>ah (apO 1 e i) fun f=>ah (apO 1 f h) fun g=>some (g,0)))
def F.K8 (f:Int)(a b:Q1):Bool->Option (Q1×Int) | g=>if g then(some ([],90))else(bp (wI ((wI ((wI (f - 3)) - (b.length:Int))) - (a.length:Int))) fun c=>ah (mkO 1 (0:Int) (f:Int) (0:UInt8)) fun d=>ah (apO 1 d [0,1]) fun e=>loop (F.JU a b c) (e,0))
def F.Lf (d:Int)(f:Q1)(c:Int):Option (Q1×Int):=ah (F.Kx d) fun e=>if (!e) then(some ([],111))else(ah (F.GO d [f]) fun a=>ah (aC F.Hw (d:Int)) fun b=>if (decide (c<(wI ((wI ((wI (3+(b.length:Int)))+(a.length:Int)))+8)))) then(F.K8 c a b true)else(F.K8 c a b (decide ((512:Int)<c))))
def F.J8 :Bool->Option (Int) | a=>if a then(some 91)else(some 0)
def F.JN (j:Int)(g k l:Q1)(h i:Q0):Bool->Option (Int) | d=>if d then(some 91)else(ah (F.Lf j l (g.length:Int)) fun a=>if (a.2 != 0) then(some 91)else(ah (F.GN k) fun e=>ah (F.IQ i e h) fun b=>ah (F.Hu b.1 (g.length:Int)) fun c=>if (b.2 != 0) then(F.J8 true)else(if (!c.2) then(F.J8 true)else(ah (F.IS c.1 a.1) fun f=>F.J8 (!f)))))
def F.Kl (e:Int)(a f h i:Q1):Option (Int):=ah (F.Kx e) fun j=>if (!j) then(some 111)else(ah (F.IM a f) fun d=>if (d != 0) then(some d)else(ah (F.GN a) fun b=>ah (F.GN i) fun c=>if ((i.length:Int) != (a.length:Int)) then(F.JN e a f h b c true)else(ah (F.GK c b) fun g=>F.JN e a f h b c (decide ((0:Int)<=g)))))
end
end Go.Gk
end

section
namespace Go.Gk
noncomputable section
def F.KP (a:Int):Option (UInt8):=grd (0<=(j7 (wI (8 - (j7 a 7))) 7))<|some (jt 255 (((j7 (wI (8 - (j7 a 7))) 7)).toNat))
def F.LT (c:Int)(d e:Q1):Option Q1:=ah (mkO 1 (8:Int) (8:Int) (0:UInt8)) fun a=>ah (F.GO c [a,d,e]) fun b=>some b
def F.Jc (hi2 a:Nat)(h:UInt32)(i d:Q1):Int×Q1->Option ((Int×Q1)⊕((Nat×UInt32×Q1)⊕Q1)) | (c,b)=>if (decide (c<(min (d.length:Int) (((i.drop a).take (hi2 - a)).length:Int)))) then(ah (aC ((b.drop a).take (hi2 - a)) (c:Int)) fun e=>ah (aC d (c:Int)) fun f=>ah (aC ((b.drop a).take (hi2 - a)) (c:Int)) fun j=>bp (b.set (a+(c:Int).toNat) (e ^^^ f)) fun g=>bO (wI (c+1),g))else(bA (ah (drO ((b.drop a).take (hi2 - a)) (min (d.length:Int) (((b.drop a).take (hi2 - a)).length:Int):Int)) fun k=>bO (a+(min (d.length:Int) (((b.drop a).take (hi2 - a)).length:Int):Int).toNat,h+1,b)))
def F.Jg (e:Int)(f:Q1)(hi2:Nat):Nat×UInt32×Q1->Option ((Nat×UInt32×Q1)⊕Q1) | (c,a,b)=>if (decide ((0:Int)<(((b.drop c).take (hi2 - c)).length:Int))) then(ah (F.GO e [f,[(bu a 24).toUInt8,(bu a 16).toUInt8,(bu a 8).toUInt8,a.toUInt8]]) fun d=>loop (F.Jc hi2 c a b d) (0,b))else(bA (some b))
def F.L6 (a:Int)(b c:Q1)(lo2 hi2:Nat):Option Q1:=loop (F.Jg a b hi2) (lo2,0,c)
def F.IZ (j:Int)(k d a:Q1)(b:Int):Int->Option ((Int)⊕(Bool)) | c=>if (decide (c<((a.take ((b:Int).toNat)).length:Int))) then(ah (aC (a.take ((b:Int).toNat)) (c:Int)) fun e=>if (e != 0) then(bA (some false))else(bO (wI (c+1))))else(bA (ah (aC a (b:Int)) fun f=>if (f == 1) then(ah (drO a (wI (b+1):Int)) fun g=>ah (F.LT j k g) fun h=>ah (F.IS h d) fun i=>some i)else(some false)))
def F.Hp (l:Int)(m:Q1)(g d:Int)(n:Q1):Bool->Option (Bool) | h=>if h then(some false)else(ah (slO m (wI ((wI ((eD (wI (g+7)) 3) - d)) - 1):Int) (wI ((eD (wI (g+7)) 3) - 1):Int)) fun e=>ah (tkO m (wI ((wI ((eD (wI (g+7)) 3) - d)) - 1):Int)) fun i=>ah (F.Hs i) fun f=>ah (F.L6 l e f 0 f.length) fun a=>ah (aC a (0:Int)) fun j=>ah (F.KP g) fun k=>ah (aC a (0:Int)) fun o=>bp (a.set (0:Int).toNat (j &&& k)) fun b=>bp (wI ((wI ((b.length:Int) - d)) - 1)) fun c=>grd (0<=(c:Int)/\(c:Int).toNat<=b.length)<|loop (F.IZ l n e b c) 0)
def F.I3 (c:Q1)(a b d:Int)(e:Q1):Bool->Option (Bool) | h=>if h then(some false)else(if ((c.length:Int) != (eD (wI (a+7)) 3)) then(F.Hp d c a b e true)else(if (decide ((eD (wI (a+7)) 3)<(wI ((wI (2*b))+2)))) then(F.Hp d c a b e true)else(ah (aC c (wI ((eD (wI (a+7)) 3) - 1):Int)) fun i=>if (i != 188) then(F.Hp d c a b e true)else(ah (aC c (0:Int)) fun f=>ah (F.KP a) fun g=>F.Hp d c a b e ((f &&& ~~~ g) != 0)))))
def F.K0 (c:Int)(d e:Q1)(b:Int):Option (Bool):=ah (F.GL c) fun a=>if (a == 0) then(F.I3 e b a c d true)else(if (decide (b<0)) then(F.I3 e b a c d true)else(if (decide ((65536:Int)<b)) then(F.I3 e b a c d true)else(F.I3 e b a c d ((d.length:Int) != a))))
def F.K4 :Bool->Option (Int) | a=>if a then(some 91)else(some 0)
def F.Ky (i:Int)(k l:Q1)(d j:Q0):Bool->Option (Int) | e=>if e then(some 91)else(ah (F.GN k) fun f=>ah (F.IQ j f d) fun a=>if (a.2 != 0) then(some 91)else(ah (F.GR d) fun b=>ah (F.Hu a.1 (eD (wI ((wI (b - 1))+7)) 3)) fun c=>if (!c.2) then(F.K4 true)else(ah (F.GO i [l]) fun g=>ah (F.K0 i g c.1 (wI (b - 1))) fun h=>F.K4 (!h))))
def F.KD (c:Int)(d e g h:Q1):Option (Int):=ah (F.GL c) fun i=>if (i == 0) then(some 111)else(ah (F.IM d e) fun j=>if (j != 0) then(some 90)else(ah (F.GN d) fun a=>ah (F.GN h) fun b=>if ((h.length:Int) != (d.length:Int)) then(F.Ky c e g a b true)else(ah (F.GK b a) fun f=>F.Ky c e g a b (decide ((0:Int)<=f)))))
end
end Go.Gk
end

section
namespace Go.Gk
noncomputable section
def F.Iw (d:Q1):Option Q0:=ah (F.Hs d) fun a=>ah (F.Kq a) fun b=>ah (F.GN b) fun c=>some c
def F.H2 (a:Q0):Option Q0:=some a
def F.G0 :Option Q0:=ah (F.H2 F.Hc) fun a=>some a
def F.GE (c d:Q0):Option Q0:=ah (F.G0) fun a=>ah (F.Jh c d a) fun b=>some b.1
def F.GW (c d:Q0):Option Q0:=ah (F.G0) fun a=>ah (F.LL c d a) fun b=>some b.1
def F.Iy :Option Q0:=ah (F.H2 F.G7) fun a=>some a
def F.GP (c d:Q0):Option Q0:=ah (F.G0) fun a=>ah (F.Lq c d a) fun b=>some b.1
def F.Km (c:Q0):Option Q0:=ah (F.G0) fun a=>ah (F.HC c a) fun b=>some b.1
def F.LX (c d:Q0):Option Q0:=ah (F.G0) fun a=>ah (F.IQ c d a) fun b=>some b.1
def F.Mm :Option Q0:=ah (F.H2 F.Ha) fun a=>some a
def F.Mp :Q0->Option (Q0×Bool) | a=>some (a,true)
def F.Im (e:Bool)(a:Q0):Bool->Option (Q0×Bool) | b=>if b then(some ([],false))else(ah (F.GU a 0) fun c=>if (c != e) then(ah (F.GW [] a) fun d=>F.Mp d)else(F.Mp a))
def F.J5 (b:Bool)(c:Q0):Q0->Option (Q0×Bool) | a=>ah (F.GE a a) fun d=>ah (F.GK d c) fun e=>if (e != 0) then(F.Im b a true)else(ah (F.GR a) fun f=>if (f == 0) then(F.Im b a b)else(F.Im b a false))
def F.LJ (n:Q0)(o:Bool):Option (Q0×Bool):=ah (F.GE n n) fun c=>ah (F.GW c ([1]:Q0)) fun p=>ah (F.Iy) fun q=>ah (F.GE q c) fun d=>ah (F.GP d ([1]:Q0)) fun e=>ah (F.Km e) fun f=>ah (F.GE p f) fun a=>ah (F.G0) fun g=>ah (F.HP g ([3]:Q0)) fun h=>ah (F.GZ h 3) fun i=>ah (F.LX a i) fun b=>ah (F.GE b b) fun j=>ah (F.GK j a) fun k=>if (k != 0) then(ah (F.Mm) fun l=>ah (F.GE b l) fun m=>F.J5 o a m)else(F.J5 o a b)
def F.Ks (f:Q1):Option (Q0×Q0×Bool×Int):=if ((f.length:Int) != 32) then(some ([],[],false,93))else(ah (F.Hs f) fun b=>ah (aC b (31:Int)) fun g=>ah (aC b (31:Int)) fun h=>ah (aC b (31:Int)) fun j=>bp (b.set (31:Int).toNat (h &&& 127)) fun i=>ah (F.Iw i) fun a=>ah (F.G0) fun d=>ah (F.GK a d) fun e=>if (decide ((0:Int)<=e)) then(some ([],[],false,93))else(ah (F.LJ a ((g &&& 128) != 0)) fun c=>if (!c.2) then(some ([],[],false,93))else(some (c.1,a,false,0))))
def F.Lb :Option Q0:=ah (F.H2 F.Hd) fun a=>some a
def F.Mg :Option (Q0×Q0×Bool):=ah (F.H2 F.G9) fun a=>ah (F.H2 F.G6) fun b=>some (a,b,false)
def F.J6 (b:Q0):Option Q0:=ah (F.GP b []) fun a=>some a
def F.Lt (a b c r:Q0):Option (Q0×Q0×Q0×Q0):=ah (F.GE a a) fun i=>ah (F.GE b b) fun j=>ah (F.GP c c) fun k=>ah (F.GE c k) fun l=>ah (F.GP i j) fun d=>ah (F.GP a b) fun f=>ah (F.GE f f) fun m=>ah (F.GW d m) fun g=>ah (F.GW i j) fun e=>ah (F.GP l e) fun h=>ah (F.GE g h) fun n=>ah (F.GE e d) fun o=>ah (F.GE h e) fun p=>ah (F.GE g d) fun q=>some (n,o,p,q)
def F.Kj (a b n o c d e p:Q0):Option (Q0×Q0×Q0×Q0):=ah (F.GW b a) fun C=>ah (F.GW d c) fun q=>ah (F.GE C q) fun f=>ah (F.GP b a) fun r=>ah (F.GP d c) fun s=>ah (F.GE r s) fun g=>ah (F.GE o p) fun t=>ah (F.Iy) fun u=>ah (F.Iy) fun v=>ah (F.GP u v) fun w=>ah (F.GE t w) fun h=>ah (F.GP e e) fun x=>ah (F.GE n x) fun i=>ah (F.GW g f) fun j=>ah (F.GW i h) fun k=>ah (F.GP i h) fun l=>ah (F.GP g f) fun m=>ah (F.GE j k) fun y=>ah (F.GE l m) fun z=>ah (F.GE k l) fun A=>ah (F.GE j m) fun B=>some (y,z,A,B)
def F.Kn (a:Int):Q0×Q0×Q0×Q0->Option ((Int×Q0×Q0×Q0×Q0)⊕(Q0×Q0×Q0×Q0)) | (b,c,d,e)=>bO (wI (a - 1),b,c,d,e)
def F.Ju (h i j k m:Q0):Int×Q0×Q0×Q0×Q0->Option ((Int×Q0×Q0×Q0×Q0)⊕(Q0×Q0×Q0×Q0)) | (b,d,e,f,g)=>if (decide ((0:Int)<=b)) then(ah (F.Lt d e f g) fun a=>ah (F.GU m b) fun l=>if l then(ah (F.Kj a.1 a.2.1 a.2.2.1 a.2.2.2 h i j k) fun c=>F.Kn b (c.1,c.2.1,c.2.2.1,c.2.2.2))else(F.Kn b (a.1,a.2.1,a.2.2.1,a.2.2.2)))else(bA (some (d,e,f,g)))
def F.Kk (a b c d f:Q0):Option (Q0×Q0×Q0×Q0):=ah (F.GR f) fun e=>loop (F.Ju a b c d f) (wI (e - 1),[],([1]:Q0),([1]:Q0),[])
def F.Lp (b c d g:Q0):Option (Q0×Q0×Bool):=ah (F.Km d) fun a=>ah (F.GE b a) fun f=>ah (F.GE c a) fun e=>some (f,e,false)
def F.J2 (a b:Q0):Bool×Bool->Option (Bool) | (e,l)=>if e then(some false)else(ah (F.GE a a) fun c=>ah (F.GE b b) fun d=>ah (F.GW d c) fun f=>ah (F.Iy) fun g=>ah (F.GE c d) fun h=>ah (F.GE g h) fun i=>ah (F.GP ([1]:Q0) i) fun j=>ah (F.GK f j) fun k=>some (k == 0))
def F.Lv (a b:Q0)(c:Bool):Option (Bool):=if c then(F.J2 a b (true,true))else(ah (F.G0) fun e=>ah (F.GK a e) fun f=>if (decide ((0:Int)<=f)) then(F.J2 a b (true,false))else(ah (F.G0) fun g=>ah (F.GK b g) fun d=>F.J2 a b (decide ((0:Int)<=d),false)))
def F.K1 :Q1->Option (Q1×Int) | a=>some (a,0)
def F.KX (b c:Q0)(d:Bool):Option (Q1×Int):=ah (F.Lv b c d) fun f=>if (!f) then(some ([],93))else(ah (F.Hu c 32) fun g=>ah (F.Kq g.1) fun a=>ah (F.GU b 0) fun h=>if h then(ah (aC a (31:Int)) fun i=>ah (aC a (31:Int)) fun j=>bp (a.set (31:Int).toNat (i ||| 128)) fun e=>F.K1 e)else(F.K1 a))
def F.KH (a b:Q0)(f:Bool):Option (Q0×Q0×Q0×Q0):=ah (F.J6 a) fun d=>ah (F.J6 b) fun e=>ah (F.GE a b) fun c=>some (d,e,([1]:Q0),c)
def F.K6 :Bool->Option (Int) | a=>if a then(some 91)else(some 0)
def F.Ki (v x j:Q1):Option (Int):=ah (F.Ks v) fun h=>if (h.2.2.2 != 0) then(some 90)else(if ((j.length:Int) != 64) then(some 91)else(ah (drO j (32:Int)) fun w=>ah (F.Iw w) fun m=>ah (F.Lb) fun n=>ah (F.GK m n) fun o=>if (decide ((0:Int)<=o)) then(some 91)else(ah (tkO j (32:Int)) fun p=>ah (F.GO 3 [p,v,x]) fun q=>ah (F.Iw q) fun r=>ah (F.Lb) fun s=>ah (F.IR r s) fun t=>ah (F.GW [] h.1) fun u=>ah (F.Mg) fun f=>ah (F.KH f.1 f.2.1 f.2.2) fun a=>ah (F.Kk a.1 a.2.1 a.2.2.1 a.2.2.2 m) fun b=>ah (F.KH u h.2.1 false) fun c=>ah (F.Kk c.1 c.2.1 c.2.2.1 c.2.2.2 t.2.1) fun d=>ah (F.Kj b.1 b.2.1 b.2.2.1 b.2.2.2 d.1 d.2.1 d.2.2.1 d.2.2.2) fun e=>ah (F.Lp e.1 e.2.1 e.2.2.1 e.2.2.2) fun g=>ah (F.KX g.1 g.2.1 g.2.2) fun i=>if (i.2 != 0) then(F.K6 true)else(ah (tkO j (32:Int)) fun k=>ah (F.IS i.1 k) fun l=>F.K6 (!l)))))
end
end Go.Gk
end

section
namespace Go.Gk
noncomputable section
def F.If (c:List Q1):Int×Int->Option ((Int×Int)⊕(Bool)) | (b,a)=>if (decide (a<(c.length:Int))) then(ah (aC c (a:Int)) fun d=>bp (wI (b+(d.length:Int))) fun e=>bO (e,wI (a+1)))else(bA (some (b == 0)))
def F.G2 (a:List Q1):Option (Bool):=loop (F.If a) (0,0)
def F.Ls (a:Q1):Bool->Option (Bool) | b=>if b then(some false)else(ah (F.Ks a) fun c=>some (c.2.2.2 == 0))
def F.KI (c d:Int)(a e f b g:Q1):Option (Bool):=if (c == 1) then(if (d == 0) then(if (decide ((32:Int)<=(a.length:Int))) then(if (decide ((a.length:Int)<=4096)) then(ah (F.G2 [e,f,b,g]) fun m=>some m)else(some false))else(some false))else(some false))else(if (c == 2) then(if (d == 0) then(ah (F.G2 [a,b,g]) fun h=>if h then(ah (F.IM e f) fun i=>some (i == 0))else(some false))else(some false))else(if (c == 3) then(ah (F.Ko d b g) fun j=>if (j.2.2.2 == 0) then(ah (F.G2 [a,e,f]) fun k=>some k)else(some false))else(if (c == 4) then(if (d != 3) then(F.Ls b true)else(ah (F.G2 [a,e,f,g]) fun l=>F.Ls b (!l)))else(some false))))
def F.HM (a b:Int)(c d e f g:Q1):Option (Int):=ah (F.KI a b c d e f g) fun h=>if h then(some 0)else(some 90)
end
end Go.Gk
end

section
namespace Go.Gk
noncomputable section
def F.Je (a:Int):Bool->Option (Int×Int×Int) | b=>if b then(some (3,wI (1+(wI (a - 7))),0))else(if (a == 10) then(some (4,1,1))else(if (a == 11) then(some (4,2,2))else(if (a == 12) then(some (5,0,3))else(some (0,0,0)))))
def F.IO (a:Int):Bool->Option (Int×Int×Int) | b=>if b then(some (2,wI (1+(wI (a - 4))),0))else(if (a == 7) then(F.Je a (a == 7))else(if (a == 8) then(F.Je a (a == 8))else(F.Je a (a == 9))))
def F.Iv (a:Int):Bool->Option (Int×Int×Int) | b=>if b then(some (1,wI (1+(wI (a - 1))),0))else(if (a == 4) then(F.IO a (a == 4))else(if (a == 5) then(F.IO a (a == 5))else(F.IO a (a == 6))))
def F.Hl (a:Int):Option (Int×Int×Int):=if (a == 1) then(F.Iv a (a == 1))else(if (a == 2) then(F.Iv a (a == 2))else(F.Iv a (a == 3)))
def F.JA (b c d:Q1):Option (Q1×Int):=bp (wI (2+(wI (Int.tdiv (wI ((wI ((b.length:Int)*4))+2)) 3)))) fun e=>bp (wI (e+(wI (Int.tdiv (wI ((wI ((c.length:Int)*4))+2)) 3)))) fun f=>bp (wI (f+(wI (Int.tdiv (wI ((wI ((d.length:Int)*4))+2)) 3)))) fun g=>if (decide ((65536:Int)<g)) then(some ([],10))else(ah (F.I2 b) fun h=>ah (oE h [46]) fun i=>ah (F.I2 c) fun j=>ah (oE i j) fun k=>ah (oE k [46]) fun l=>ah (F.I2 d) fun m=>ah (oE l m) fun a=>some (a,0))
def F.J1 (c:Q1):Option (Q1×Q1×Q1×Int):=if (decide ((65536:Int)<(c.length:Int))) then(some ([],[],[],10))else(ah (F.L9 c) fun d=>if (d != 2) then(some ([],[],[],120))else(ah (F.JP c) fun a=>ah (F.JP a.2.1) fun b=>some (a.1,b.1,b.2.1,0)))
def F.KW (e:Q1):Option (Q1×Q1×Q1×Int):=ah (F.J1 e) fun a=>if (a.2.2.2 != 0) then(some ([],[],[],a.2.2.2))else(ah (F.Hj a.1) fun c=>if (c.2.1 != 0) then(some ([],[],[],c.2.1))else(ah (F.Hj a.2.1) fun d=>if (d.2.1 != 0) then(some ([],[],[],d.2.1))else(ah (F.Hj a.2.2.1) fun b=>if (b.2.1 != 0) then(some ([],[],[],b.2.1))else(some (c.1,d.1,b.1,0)))))
def F.KJ (d e:Q1)(a:Int×Int×Int):Bool->Option (Q1×Int) | b=>if b then(some ([],90))else(ah (F.KO a.2.1 d e) fun c=>some (c,0))
def F.KT (e:Int)(b c:Q1):Option (Q1×Int):=ah (F.Hl e) fun a=>if (a.1 != 1) then(some ([],111))else(ah (F.GL a.2.1) fun d=>if (decide ((b.length:Int)<d)) then(F.KJ b c a true)else(F.KJ b c a (decide ((4096:Int)<(b.length:Int)))))
def F.Mb (a c:Int)(b:Int×Int×Int):Bool->Option (Bool) | d=>if d then(some (a == 2))else(if (b.1 == 4) then(if (a == 3) then(some (c == b.2.2))else(some false))else(if (b.1 == 5) then(if (a == 4) then(some (c == b.2.2))else(some false))else(some false)))
def F.IP (d b c:Int)(e f g h i:Q1):Option (Bool):=ah (F.Hl d) fun a=>if (a.1 == 1) then(some (b == 1))else(if (a.1 == 2) then(F.Mb b c a (a.1 == 2))else(F.Mb b c a (a.1 == 3)))
def F.Hk :Int->Option (Int) | a=>if (a != 0) then(some 91)else(some 0)
def F.Ho (g b c d h e f:Q1)(a:Int×Int×Int):Bool->Option (Int) | n=>if n then(some 90)else(if (a.1 == 1) then(ah (F.Kc a.2.1 g e f) fun i=>if (!i) then(F.Hk 91)else(F.Hk 0))else(if (a.1 == 2) then(ah (F.Kl a.2.1 b c e f) fun j=>F.Hk j)else(if (a.1 == 3) then(ah (F.KD a.2.1 b c e f) fun k=>F.Hk k)else(if (a.1 == 4) then(ah (F.Jz a.2.1 a.2.2 d h e f) fun l=>F.Hk l)else(ah (F.Ki d e f) fun m=>F.Hk m)))))
def F.Ht (l g h:Int)(a b c d e j k:Q1):Option (Int):=ah (F.Hl l) fun f=>if (f.1 == 0) then(some 111)else(ah (F.IP l g h a b c d e) fun m=>if (!m) then(some 105)else(ah (F.HM g h a b c d e) fun i=>if (i != 0) then(F.Ho a b c d e j k f (i != 0))else(if (f.1 == 1) then(ah (F.GL f.2.1) fun n=>F.Ho a b c d e j k f (decide ((a.length:Int)<n)))else(F.Ho a b c d e j k f false))))
end
end Go.Gk
end

section
namespace Go.Gk
noncomputable section
def F.Mk (b:Int):Bool->Option (Int) | a=>if a then(some (wI (b - 9)))else(some 0)
def F.LW (a:Int):Bool->Option (Int) | b=>if b then(some (wI ((Int.tmod (wI (a - 1)) 3)+1)))else(if (a == 10) then(F.Mk a true)else(F.Mk a (a == 11)))
def F.Ja (a:Int):Option (Int):=if (decide ((1:Int)<=a)) then(F.LW a (decide (a<=9)))else(F.LW a false)
def F.KR :Option (Bool):=ah (F.J1 [89,81,46,89,103,46]) fun b=>ah (F.KW [89,81,46,89,103,46]) fun c=>ah (F.JA [97] [98] []) fun d=>ah (mkO 1 (32:Int) (32:Int) (0:UInt8)) fun e=>ah (F.KT 1 e [89,81,46,89,103]) fun a=>ah (F.Ht 1 1 0 e [] [] [] [] [89,81,46,89,103] a.1) fun f=>if (b.2.2.2 == 0) then(if (c.2.2.2 == 0) then(if (d.2 == 0) then(if (a.2 == 0) then(if (f == 0) then(if (b.1 == [89,81]) then(if (b.2.1 == [89,103]) then(if (b.2.2.1 == []) then(if (c.1 == [97]) then(if (c.2.1 == [98]) then(if ((c.2.2.1.length:Int) == 0) then(if (d.1 == [89,81,46,89,103,46]) then(some ((a.1.length:Int) == 32))else(some false))else(some false))else(some false))else(some false))else(some false))else(some false))else(some false))else(some false))else(some false))else(some false))else(some false))else(some false)
def F.Ic (d:Q1)(a:Int)(b:Bool):Bool->Option (Bool) | c=>if c then(some (a == 90))else(if b then(if (a == 0) then(some (decide ((0:Int)<(d.length:Int))))else(some false))else(some (a == 91)))
def F.GS (k d e:Int)(a f g h i:Q1)(c:Int)(l:Q1):Bool×Bool->Option (Bool) | (b,j)=>ah (F.IP k d e a f g h i) fun m=>if (m != j) then(some false)else(ah (F.HM d e a f g h i) fun n=>if (!j) then(some (c == 105))else(if (!(n == 0)) then(F.Ic l c b true)else(if (decide (k<=3)) then(F.Ic l c b (decide ((a.length:Int)<(wI (16*(wI (k+1)))))))else(F.Ic l c b false))))
def F.II (a:Int)(b c n i:Q1)(l m d:Int)(e f g:Q1)(h:Int):Bool->Option (Bool) | j=>if j then(ah (F.Jz l a b c n i) fun k=>F.GS m d a e f g b c h i (k == 0,true))else(F.GS m d a e f g b c h i (false,false))
def F.IW (a m i:Q1)(l b c:Int)(d e f g:Q1)(h:Int):Bool->Option (Bool) | j=>if j then(ah (F.Ki a m i) fun k=>F.GS l b c d e f a g h i (k == 0,true))else(F.GS l b c d e f a g h i (false,false))
def F.Ji (i a b:Int)(c d e l j:Q1)(h k:Int)(f g:Q1):Bool->Option (Bool) | p=>if p then(some (h == 111))else(if (decide (i<=3)) then(if (a == 1) then(if (decide ((wI (16*(wI (i+1))))<=(c.length:Int))) then(ah (F.Kc k c l j) fun m=>F.GS i a b c d e f g h j (m,true))else(F.GS i a b c d e f g h j (false,true)))else(F.GS i a b c d e f g h j (false,false)))else(if (decide (i<=6)) then(if (a == 2) then(ah (F.Kl k d e l j) fun n=>F.GS i a b c d e f g h j (n == 0,true))else(F.GS i a b c d e f g h j (false,false)))else(if (decide (i<=9)) then(if (a == 2) then(ah (F.KD k d e l j) fun o=>F.GS i a b c d e f g h j (o == 0,true))else(F.GS i a b c d e f g h j (false,false)))else(if (decide (i<=11)) then(if (a == 3) then(F.II b f g l j k i a c d e h (b == (wI (i - 9))))else(F.II b f g l j k i a c d e h false))else(if (a == 4) then(F.IW f l j i a b c d e g h (b == 3))else(F.IW f l j i a b c d e g h false))))))
def F.L1 (h a b:Int)(c d e f g k l:Q1):Option (Bool):=ah (F.KR) fun m=>if (!m) then(some false)else(ah (F.Ht h a b c d e f g k l) fun i=>ah (F.Ja h) fun j=>if (decide (h<1)) then(F.Ji h a b c d e k l i j f g true)else(F.Ji h a b c d e k l i j f g (decide ((12:Int)<h))))
end
end Go.Gk
end
