/- The plain functions that the Go functions of this law come to. No conditions but those that each statement names. By this repo's programs; comments are taken out. -/
import Derived.Shelf.Strconv.Itoa3
import Derived.Lib.Atoi
import Derived.Lib.Bytealg
import Derived.Test.YtlmicldpfnmeaaaGreatDoorProg
import Derived.Test.YtlmicldpfnmeaaaGreatDoorVFnComesBackEd
import Derived.Test.YtlmicldpfnmeaaaGreatDoorVFnComesBackW
set_option linter.all false
namespace Go.Ev
open Go.RowKit Go.Proofs Go.Proofs.YtlmicldpfnmeaaaGreatDoorW.PrintWords Go.Proofs.YtlmicldpfnmeaaaGreatDoorW.PrintLast Go.Proofs.YtlmicldpfnmeaaaGreatDoorW.PrintMore
structure S122 where
 f0:ByteArray
 f1:ByteArray
def z122:S122:=⟨(⟨#[]⟩:ByteArray),(⟨#[]⟩:ByteArray)⟩
def Z0k (xs:List S122) (i:Int):S122:=xs.getD i.toNat z122
structure S162 where
 f0:ByteArray
 f1:ByteArray
 f2:Bool
def z162:S162:=⟨(⟨#[]⟩:ByteArray),(⟨#[]⟩:ByteArray),false⟩
def ZS (xs:List S162) (i:Int):S162:=xs.getD i.toNat z162
structure S59 where
 f0:Int
 f1:(List S162)
def z59:S59:=⟨(0:Int),([]:List S162)⟩
def rd_T59 (xs:List S59) (i:Int):S59:=xs.getD i.toNat z59
structure S113 where
 f0:S59
 f1:ByteArray
 f2:Int
def z113:S113:=⟨z59,(⟨#[]⟩:ByteArray),(0:Int)⟩
def Z3N (xs:List S113) (i:Int):S113:=xs.getD i.toNat z113
structure S145 where
 f0:ByteArray
 f1:Int
 f2:Int
 f3:Int
def z145:S145:=⟨(⟨#[]⟩:ByteArray),(0:Int),(0:Int),(0:Int)⟩
def Za (xs:List S145) (i:Int):S145:=xs.getD i.toNat z145
structure S119 where
 f0:Int
 f1:ByteArray
 f2:ByteArray
 f3:ByteArray
def z119:S119:=⟨(0:Int),(⟨#[]⟩:ByteArray),(⟨#[]⟩:ByteArray),(⟨#[]⟩:ByteArray)⟩
def ZX (xs:List S119) (i:Int):S119:=xs.getD i.toNat z119
structure S147 where
 f0:ByteArray
 f1:ByteArray
def z147:S147:=⟨(⟨#[]⟩:ByteArray),(⟨#[]⟩:ByteArray)⟩
def Z1W (xs:List S147) (i:Int):S147:=xs.getD i.toNat z147
def atoiO (s:ByteArray):Option (Int×Bool):=if s.size≤18 then (match Lib.atoi s.data.toList with | some n => some (n,true) | none => some (0,false)) else none
def delO {α:Type} (a1 a2:Int) (l:List α):Option (List α):=if a2 = a1 + 1 then (if 0≤a1 then (if a1 < (l.length:Int) then some (l.take a1.toNat++l.drop (a1.toNat + 1)) else none) else none) else none
def insO {α:Type} (b:Nat) (l:List α) (a1:Int):List α→Option (List α)
 | [x] => if 0≤a1 then (if a1≤(l.length:Int) then (if (l.length + 1) * b≤140737488355328 then some (l.take a1.toNat++x::l.drop a1.toNat) else none) else none) else none
 | _ => none
def Z7T.f (l0:List Int):Option (Bool):=some (decide ((l0.length:Int) > 1048576))
def Z1n.l0:Nat→List Int→Int→Int→Option (List Int×Int×Int)
 | 0,_,_,_ => none
 | k + 1,x0,x3,x4 => if x4 < (x0.length:Int) then (if x4 < 4000 then (if 0≤x4 then (Z1n.l0 k x0 (Go.bits .and .i64 (wrap64 ((wrap64 ((wrap64 (x3 * 131)) + (wrap64 (rd x0 x4)))) + 7)) 1073741823) (wrap64 (x4 + 1))) else (none)) else (some (x0,0,x3))) else (some (x0,0,x3))
def Z1n.f (k:Nat) (l0:List Int):Option (List Int×Int×Int):=Z1n.l0 k l0 (wrap64 (10301 + (l0.length:Int))) 0
def Z3u.f (l0:List Int):Option (Int):=if (wrap64 (3 + (wrap64 ((l0.length:Int) / 20)))) > 18 then (some 18) else (some (wrap64 (3 + (wrap64 ((l0.length:Int) / 20)))))
def Z1a.f (s0_0:List Int) (s0_1:Int) (s0_2:Int):Option (Int×(List Int)×Int×Int):=if s0_1 < (s0_0.length:Int) then (if 0≤s0_1 then (some (Go.bits .and .i64 (wrap64 ((Go.bits .and .i64 (Go.bits .xor .i64 ((wrap64 ((wrap64 (s0_2 * 6364136223846793005)) + 1442695040888963407)) / 8589934592) ((wrap64 ((wrap64 (s0_2 * 6364136223846793005)) + 1442695040888963407)) / 35184372088832)) 255) + (wrap64 (rd s0_0 s0_1)))) 255,s0_0,wrap64 (s0_1 + 1),wrap64 ((wrap64 (s0_2 * 6364136223846793005)) + 1442695040888963407))) else none) else (some (Go.bits .and .i64 (Go.bits .xor .i64 ((wrap64 ((wrap64 (s0_2 * 6364136223846793005)) + 1442695040888963407)) / 8589934592) ((wrap64 ((wrap64 (s0_2 * 6364136223846793005)) + 1442695040888963407)) / 35184372088832)) 255,s0_0,s0_1,wrap64 ((wrap64 (s0_2 * 6364136223846793005)) + 1442695040888963407)))
def Z0o.f (s0_0:List Int) (s0_1:Int) (s0_2:Int) (a1:Int):Option (Int×(List Int)×Int×Int):=if a1≤0 then (some (0,s0_0,s0_1,s0_2)) else (if a1≤256 then ((Z1a.f s0_0 s0_1 s0_2).bind fun t0 => (if a1≠0 then (some (Int.tmod t0.1 a1,t0.2.1,t0.2.2.1,t0.2.2.2)) else none)) else ((Z1a.f s0_0 s0_1 s0_2).bind fun t1 => ((Z1a.f t1.2.1 t1.2.2.1 t1.2.2.2).bind fun t2 => ((Z1a.f t2.2.1 t2.2.2.1 t2.2.2.2).bind fun t3 => ((Z1a.f t3.2.1 t3.2.2.1 t3.2.2.2).bind fun t4 => (if a1≠0 then (some (Int.tmod (wrap64 ((wrap64 ((wrap64 ((wrap64 (t1.1 * 16777216)) + (wrap64 (t2.1 * 65536)))) + (wrap64 (t3.1 * 256)))) + t4.1)) a1,t4.2.1,t4.2.2.1,t4.2.2.2)) else none))))))
def Z0I.f (s0_0:List Int) (s0_1:Int) (s0_2:Int) (a1:Int):Option (Bool×(List Int)×Int×Int):=(Z0o.f s0_0 s0_1 s0_2 a1).bind fun t0 => (some ((t0.1 == 0),t0.2.1,t0.2.2.1,t0.2.2.2))
def Z1b.l0:Nat→(List Int)→Int→(List Int)→Int→Int→Option ((List Int)×(List Int)×Int×Int)
 | 0,_,_,_,_,_ => none
 | k + 1,x3,x4,y10000_0,y10000_1,y10000_2 => if x4≤4 then ((Z0I.f y10000_0 y10000_1 y10000_2 2).bind fun t0 => (if t0.1 = true then (if x3.length + 1 < 17592186044417 then (Z1b.l0 k (x3++([x4]:List Int)) (wrap64 (x4 + 1)) t0.2.1 t0.2.2.1 t0.2.2.2) else none) else (Z1b.l0 k x3 (wrap64 (x4 + 1)) t0.2.1 t0.2.2.1 t0.2.2.2))) else (if (x3.length:Int) = 0 then (if x3.length + 1 < 17592186044417 then (some ((x3++([1]:List Int)),y10000_0,y10000_1,y10000_2)) else none) else (some (x3,y10000_0,y10000_1,y10000_2)))
def Z1b.f (k:Nat) (s0_0:List Int) (s0_1:Int) (s0_2:Int):Option ((List Int)×(List Int)×Int×Int):=Z1b.l0 k ([]:List Int) 1 s0_0 s0_1 s0_2
def ZD.f (a0:Int) (a1:Int) (a2:Int):Option (Bool):=if a0≥a1 then (some (decide (a0≤a2))) else (some false)
def Z0O.l0:Nat→List Int→Int→Int→Int→Option (Bool)
 | 0,_,_,_,_ => none
 | k + 1,x0,x1,x2,x7 => if x7 < (x0.length:Int) then (if 0≤x7 then ((ZD.f (rd x0 x7) x1 x2).bind fun t336 => (if t336 = true then (if x7 > 0 then (if 0≤(wrap64 (x7 - 1)) then (if (wrap64 (x7 - 1)) < (x0.length:Int) then (if (rd x0 (wrap64 (x7 - 1)))≥(rd x0 x7) then (some false) else (Z0O.l0 k x0 x1 x2 (wrap64 (x7 + 1)))) else (none)) else (none)) else (Z0O.l0 k x0 x1 x2 (wrap64 (x7 + 1)))) else (some false))) else (none)) else (some true)
def Z0O.f (k:Nat) (l0:List Int) (a1:Int) (a2:Int):Option (Bool):=Z0O.l0 k l0 a1 a2 0
def Z45.f (k:Nat) (l0:List Int):Option (Bool):=(ZD.f (l0.length:Int) 1 4).bind fun t339 => (if t339 = true then ((Z0O.f k l0 1 4).bind fun t340 => (some t340)) else (some false))
def Z2l.f (k:Nat) (l0_0:List Int) (a0_1:Int) (a0_2:Int) (a0_3:Int) (l0_4:List Int):Option (Bool):=(ZD.f (l0_0.length:Int) 1 8).bind fun t342 => (if t342 = true then ((ZD.f a0_1 0 1000).bind fun t343 => (if t343 = true then ((Z0O.f k l0_0 0 (wrap64 (a0_1 - 1))).bind fun t344 => (if t344 = true then ((ZD.f a0_2 0 100000).bind fun t345 => (if t345 = true then ((ZD.f a0_3 0 100000).bind fun t346 => (if t346 = true then ((Z45.f k l0_4).bind fun t347 => (some t347)) else (some false))) else (some false))) else (some false))) else (some false))) else (some false))
def ZP.l0:Nat→Int→List Int→Option (ByteArray)
 | 0,_,_ => none
 | k + 1,x0,x3 => if x0 > 127 then (if x3.length < 140737488355328 then (ZP.l0 k (wrap64 (Int.tdiv x0 128)) (x3++[(wrap64 ((Int.tmod x0 128) + 128)) % 256])) else (none)) else (if x3.length < 140737488355328 then (some (strOfNums (x3++[(x0) % 256]))) else (none))
def ZP.f (k:Nat) (a0:Int):Option (ByteArray):=ZP.l0 k a0 (([]:List Int))
mutual
def Z09.l0:Nat→Int→ByteArray→Int→Option (Int)
 | 0,_,_,_ => none
 | k + 1,x0,x1,x5 => if x5 < (x1.size:Int) then (if 0≤x5 then (Z09.l1 k (Go.bits .xor .u32 x0 ((bt x1 x5) % 4294967296)) x1 x5 0) else (none)) else (some x0)
def Z09.l1:Nat→Int→ByteArray→Int→Int→Option (Int)
 | 0,_,_,_,_ => none
 | k + 1,x0,x1,x5,x6 => if x6 < 8 then (if (Int.tmod x0 2) = 1 then (Z09.l1 k (Go.bits .xor .u32 ((Int.tdiv x0 2) % 4294967296) 3558460437) x1 x5 (wrap64 (x6 + 1))) else (Z09.l1 k ((Int.tdiv x0 2) % 4294967296) x1 x5 (wrap64 (x6 + 1)))) else (Z09.l0 k x0 x1 (wrap64 (x5 + 1)))
end
def Z09.f (k:Nat) (a0:Int) (a1:ByteArray):Option (Int):=Z09.l0 k a0 a1 0
def Z3g.f (k:Nat) (a0:ByteArray):Option (Int):=(Z09.f k 4294967295 a0).bind fun t309 => (some t309)
def Z2e.f (a0:Int):Option (ByteArray):=some (strOfNums (([(a0 / 16777216) % 256,(a0 / 65536) % 256,(a0 / 256) % 256,(a0) % 256]:List Int)))
def Z43.f (k:Nat) (a0:ByteArray):Option (ByteArray×Bool):=if (a0.size:Int) > 20000 then (some ((⟨#[]⟩:ByteArray),false)) else ((Z3g.f k a0).bind fun t348 => ((Z2e.f t348).bind fun t349 => (if a0.size + t349.size≤9223372036854775807 then (some (a0++t349,true)) else (none))))
mutual
def Zh.l0:Nat→ByteArray→Int→List Int→Int→Int→Int→List Int→Option (ByteArray×Bool)
 | 0,_,_,_,_,_,_,_ => none
 | k + 1,x4,x5,x351000,x351001,x351002,x351003,x351004 => if x5 < (x351000.length:Int) then (if 0≤x5 then ((ZP.f k (rd x351000 x5)).bind fun t354 => (if x4.size + t354.size≤9223372036854775807 then (Zh.l0 k (x4++t354) (wrap64 (x5 + 1)) x351000 x351001 x351002 x351003 x351004) else (none))) else (none)) else ((ZP.f k x351001).bind fun t355 => (if x4.size + t355.size≤9223372036854775807 then ((ZP.f k x351002).bind fun t356 => (if (x4++t355).size + t356.size≤9223372036854775807 then ((ZP.f k x351003).bind fun t357 => (if ((x4++t355)++t356).size + t357.size≤9223372036854775807 then ((ZP.f k (x351004.length:Int)).bind fun t358 => (if (((x4++t355)++t356)++t357).size + t358.size≤9223372036854775807 then (Zh.l1 k ((((x4++t355)++t356)++t357)++t358) 0 x351000 x351001 x351002 x351003 x351004) else (none))) else (none))) else (none))) else (none)))
def Zh.l1:Nat→ByteArray→Int→List Int→Int→Int→Int→List Int→Option (ByteArray×Bool)
 | 0,_,_,_,_,_,_,_ => none
 | k + 1,x4,x6,x351000,x351001,x351002,x351003,x351004 => if x6 < (x351004.length:Int) then (if 0≤x6 then ((ZP.f k (rd x351004 x6)).bind fun t360 => (if x4.size + t360.size≤9223372036854775807 then (Zh.l1 k (x4++t360) (wrap64 (x6 + 1)) x351000 x351001 x351002 x351003 x351004) else (none))) else (none)) else ((Z43.f k x4).bind fun bt361 => (some (bt361.1,bt361.2)))
end
def Zh.f (k:Nat) (l0_0:List Int) (a0_1:Int) (a0_2:Int) (a0_3:Int) (l0_4:List Int):Option (ByteArray×Bool):=(Z2l.f k l0_0 a0_1 a0_2 a0_3 l0_4).bind fun t351 => (if t351 = true then ((ZP.f k (l0_0.length:Int)).bind fun t352 => (Zh.l0 k t352 0 l0_0 a0_1 a0_2 a0_3 l0_4)) else (some ((⟨#[]⟩:ByteArray),false)))
def Z2h.f (a0:Int):Option (Int):=if a0 < 10 then (some ((wrap64 (48 + a0)) % 256)) else (some ((wrap64 ((wrap64 (97 + a0)) - 10)) % 256))
def Z0C.l0:Nat→Int→Bool→ByteArray→Option (ByteArray)
 | 0,_,_,_ => none
 | k + 1,x0,x3,x4 => if x0 = 0 then (if x3 = true then (if 1 + x4.size≤9223372036854775807 then (some ((⟨#[45]⟩:ByteArray)++x4)) else (none)) else (some x4)) else (if (Int.tmod x0 10) < 0 then ((Z2h.f (wrap64 (-(Int.tmod x0 10)))).bind fun t287 => ((some (([t287]:List Int):List Int)).bind fun y288 => (if (strOfNums y288).size + x4.size≤9223372036854775807 then (Z0C.l0 k (wrap64 (Int.tdiv x0 10)) x3 ((strOfNums y288)++x4)) else (none)))) else ((Z2h.f (Int.tmod x0 10)).bind fun t291 => ((some (([t291]:List Int):List Int)).bind fun y292 => (if (strOfNums y292).size + x4.size≤9223372036854775807 then (Z0C.l0 k (wrap64 (Int.tdiv x0 10)) x3 ((strOfNums y292)++x4)) else (none)))))
def Z0C.f (k:Nat) (a0:Int):Option (ByteArray):=if a0 = 0 then (some (⟨#[48]⟩:ByteArray)) else (Z0C.l0 k a0 (decide (a0 < 0)) (⟨#[]⟩:ByteArray))
def Z0f.f (k:Nat) (a0:Int):Option (ByteArray):=(ZD.f a0 0 999).bind fun t295 => (if t295 = true then ((Z0C.f k a0).bind fun t296 => (if 1 + t296.size≤9223372036854775807 then (some ((⟨#[103]⟩:ByteArray)++t296)) else (none))) else (some (⟨#[]⟩:ByteArray)))
def Z25.f (k:Nat) (l0:List Int):Option ((List S122)×Bool):=(Zh.f k (([0]:List Int)) 1 0 0 l0).bind fun bt889 => (if bt889.2 = true then ((Z0f.f k 0).bind fun t891 => (some ((([(⟨t891,(⟨#[]⟩:ByteArray)⟩:S122),(⟨(⟨#[109]⟩:ByteArray),bt889.1⟩:S122)]:List S122)),true))) else (some (([]:List S122),false)))
def ZO.l0:Nat→Int→List S122→Option (Bool)
 | 0,_,_ => none
 | k + 1,x3,x315000 => if x3 < (x315000.length:Int) then (if 0≤x3 then ((ZD.f (((Z0k x315000 x3).f0).size:Int) 1 12).bind fun t316 => (if t316 = true then (if (((Z0k x315000 x3).f1).size:Int) > 20000 then (some false) else (if x3 > 0 then (if 0≤(wrap64 (x3 - 1)) then (if (wrap64 (x3 - 1)) < (x315000.length:Int) then (if ((Op.bytesLess (((Z0k x315000 (wrap64 (x3 - 1))).f0).toList) (((Z0k x315000 x3).f0).toList)) = true) then (ZO.l0 k (wrap64 (x3 + 1)) x315000) else (some false)) else (none)) else (none)) else (ZO.l0 k (wrap64 (x3 + 1)) x315000))) else (some false))) else (none)) else (some true)
def ZO.f (k:Nat) (l0_0:List S122):Option (Bool):=if (l0_0.length:Int) > 30 then (some false) else (ZO.l0 k 0 l0_0)
def Z0P.l0:Nat→ByteArray→Int→List S122→Option (Int)
 | 0,_,_,_ => none
 | k + 1,x1,x5,x283000 => if x5 < (x283000.length:Int) then (if 0≤x5 then (if ((Z0k x283000 x5).f0).toList = x1.toList then (some x5) else (Z0P.l0 k x1 (wrap64 (x5 + 1)) x283000)) else (none)) else (some (-1))
def Z0P.f (k:Nat) (l0_0:List S122) (a1:ByteArray):Option (Int):=Z0P.l0 k a1 0 l0_0
def Z44.f (k:Nat) (l0_0:List S122) (a1:ByteArray):Option (ByteArray×Bool):=(Z0P.f k l0_0 a1).bind fun t332 => ((ZO.f k l0_0).bind fun t333 => (if t333 = true then (if t332 < 0 then (some ((⟨#[]⟩:ByteArray),false)) else (if 0≤t332 then (if t332 < (l0_0.length:Int) then (some ((Z0k l0_0 t332).f1,true)) else (none)) else (none))) else (some ((⟨#[]⟩:ByteArray),false))))
def Z32.f (k:Nat) (a0:ByteArray):Option (ByteArray×Bool):=if (wrap64 ((a0.size:Int) - 4)) < 0 then (some ((⟨#[]⟩:ByteArray),false)) else (if (wrap64 ((a0.size:Int) - 4)) > 20000 then (some ((⟨#[]⟩:ByteArray),false)) else (if 0≤(wrap64 ((a0.size:Int) - 4)) then (if (wrap64 ((a0.size:Int) - 4))≤(a0.size:Int) then ((Z3g.f k (a0.extract 0 ((wrap64 ((a0.size:Int) - 4)):Int).toNat)).bind fun t368 => ((Z2e.f t368).bind fun t369 => (if (a0.extract ((wrap64 ((a0.size:Int) - 4)):Int).toNat a0.size).toList = t369.toList then (some (a0.extract 0 ((wrap64 ((a0.size:Int) - 4)):Int).toNat,true)) else (some ((⟨#[]⟩:ByteArray),false))))) else (none)) else (none)))
mutual
def ZA.l0:Nat→ByteArray→Int→Int→Int→Int→Option (Int×Int×Bool)
 | 0,_,_,_,_,_ => none
 | k + 1,x0,x1,x7,x8,x9 => if x9 < (x0.size:Int) then (ZA.j1 k x0 x1 x7 x8 x9 (decide (x9 < (wrap64 (x1 + 5))))) else (ZA.j1 k x0 x1 x7 x8 x9 false)
def ZA.j1:Nat→ByteArray→Int→Int→Int→Int→Bool→Option (Int×Int×Bool)
 | 0,_,_,_,_,_,_ => none
 | k + 1,x0,x1,x7,x8,x9,x25 => if x25 = true then (if 0≤x9 then (if x9 < (x0.size:Int) then (if (bt x0 x9) < 128 then (if (wrap64 (x7 + (wrap64 ((Int.tmod (wrap64 (bt x0 x9)) 128) * x8)))) > 1000000000 then (some (0,0,false)) else ((ZP.f k (wrap64 (x7 + (wrap64 ((Int.tmod (wrap64 (bt x0 x9)) 128) * x8))))).bind fun t364 => (if 0≤x1 then (if x1≤(wrap64 (x9 + 1)) then (if (wrap64 (x9 + 1))≤(x0.size:Int) then (if t364.toList = (x0.extract (x1:Int).toNat ((wrap64 (x9 + 1)):Int).toNat).toList then (some (wrap64 (x7 + (wrap64 ((Int.tmod (wrap64 (bt x0 x9)) 128) * x8))),wrap64 (x9 + 1),true)) else (some (0,0,false))) else (none)) else (none)) else (none)))) else (ZA.l0 k x0 x1 (wrap64 (x7 + (wrap64 ((Int.tmod (wrap64 (bt x0 x9)) 128) * x8)))) (wrap64 (x8 * 128)) (wrap64 (x9 + 1)))) else (none)) else (none)) else (some (0,0,false))
end
def ZA.f (k:Nat) (a0:ByteArray) (a1:Int):Option (Int×Int×Bool):=(ZD.f a1 0 (a0.size:Int)).bind fun t363 => (if t363 = true then (ZA.l0 k a0 a1 0 1 a1) else (some (0,0,false)))
def Z11.f (k:Nat) (s0_0:ByteArray) (s0_1:Int) (s0_2:Bool):Option (Int×ByteArray×Int×Bool):=(ZA.f k s0_0 s0_1).bind fun bt365 => (if s0_2 = true then (some (0,s0_0,s0_1,true)) else (if bt365.2.2 = true then (some (bt365.1,s0_0,bt365.2.1,s0_2)) else (some (0,s0_0,s0_1,true))))
mutual
def Z3.j1:Nat→ByteArray→ByteArray→Int→Bool→List Int→Int→Int→Int→Option (List Int×Int×Int×Int×List Int×Bool)
 | 0,_,_,_,_,_,_,_,_ => none
 | k + 1,x0,x374000,x374001,x374002,x375000,x375001,x375002,x375003 => (Z11.f k x374000 x374001 x374002).bind fun bt386 => ((Z11.f k bt386.2.1 bt386.2.2.1 bt386.2.2.2).bind fun bt390 => ((Z11.f k bt390.2.1 bt390.2.2.1 bt390.2.2.2).bind fun bt394 => ((Z11.f k bt394.2.1 bt394.2.2.1 bt394.2.2.2).bind fun bt398 => (Z3.l1 k x0 bt398.1 0 bt398.2.1 bt398.2.2.1 bt398.2.2.2 x375000 bt386.1 bt390.1 bt394.1 ([]:List Int)))))
def Z3.l1:Nat→ByteArray→Int→Int→ByteArray→Int→Bool→List Int→Int→Int→Int→List Int→Option (List Int×Int×Int×Int×List Int×Bool)
 | 0,_,_,_,_,_,_,_,_,_,_,_ => none
 | k + 1,x0,x8,x10,x374000,x374001,x374002,x375000,x375001,x375002,x375003,x375004 => if x10 < x8 then (if x374002 = true then ((Zh.f k x375000 x375001 x375002 x375003 x375004).bind fun bt402 => (some (([]:List Int),0,0,0,([]:List Int),false))) else (if x10≤4 then ((Z11.f k x374000 x374001 x374002).bind fun bt404 => (if x375004.length < 17592186044416 then (Z3.l1 k x0 x8 (wrap64 (x10 + 1)) bt404.2.1 bt404.2.2.1 bt404.2.2.2 x375000 x375001 x375002 x375003 (x375004++[bt404.1])) else (none))) else ((Zh.f k x375000 x375001 x375002 x375003 x375004).bind fun bt411 => (if bt411.2 = true then (if bt411.1.toList = x0.toList then (some (x375000,x375001,x375002,x375003,x375004,true)) else (some (([]:List Int),0,0,0,([]:List Int),false))) else (some (([]:List Int),0,0,0,([]:List Int),false)))))) else ((Zh.f k x375000 x375001 x375002 x375003 x375004).bind fun bt413 => (if x374002 = true then (some (([]:List Int),0,0,0,([]:List Int),false)) else (if bt413.2 = true then (if bt413.1.toList = x0.toList then (some (x375000,x375001,x375002,x375003,x375004,true)) else (some (([]:List Int),0,0,0,([]:List Int),false))) else (some (([]:List Int),0,0,0,([]:List Int),false)))))
def Z3.l0:Nat→ByteArray→Int→Int→ByteArray→Int→Bool→List Int→Int→Int→Int→Option (List Int×Int×Int×Int×List Int×Bool)
 | 0,_,_,_,_,_,_,_,_,_,_ => none
 | k + 1,x0,x8,x9,x374000,x374001,x374002,x375000,x375001,x375002,x375003 => if x9 < x8 then (if x374002 = true then (Z3.j1 k x0 x374000 x374001 x374002 x375000 x375001 x375002 x375003) else (if x9≤8 then ((Z11.f k x374000 x374001 x374002).bind fun bt379 => (if x375000.length < 17592186044416 then (Z3.l0 k x0 x8 (wrap64 (x9 + 1)) bt379.2.1 bt379.2.2.1 bt379.2.2.2 (x375000++[bt379.1]) x375001 x375002 x375003) else (none))) else (Z3.j1 k x0 x374000 x374001 x374002 x375000 x375001 x375002 x375003))) else (Z3.j1 k x0 x374000 x374001 x374002 x375000 x375001 x375002 x375003)
end
def Z3.f (k:Nat) (a0:ByteArray):Option (List Int×Int×Int×Int×List Int×Bool):=(Z32.f k a0).bind fun bt371 => ((Z11.f k bt371.1 0 (!bt371.2)).bind fun bt375 => (Z3.l0 k a0 bt375.1 0 bt375.2.1 bt375.2.2.1 bt375.2.2.2 ([]:List Int) 0 0 0))
def Z1c.f (k:Nat) (l0_0:List S122) (a1:ByteArray):Option (ByteArray):=(Z0P.f k l0_0 a1).bind fun t285 => (if t285 < 0 then (some (⟨#[]⟩:ByteArray)) else (if 0≤t285 then (if t285 < (l0_0.length:Int) then (some ((Z0k l0_0 t285).f1)) else (none)) else (none)))
def Z1O.f (k:Nat) (a0:ByteArray):Option (ByteArray×Bool):=(ZD.f (a0.size:Int) 1 9000).bind fun t310 => (if t310 = true then ((ZP.f k (a0.size:Int)).bind fun t311 => ((Z3g.f k a0).bind fun t312 => ((Z2e.f t312).bind fun t313 => (if t311.size + t313.size≤9223372036854775807 then (if (t311++t313).size + a0.size≤9223372036854775807 then (some ((t311++t313)++a0,true)) else (none)) else (none))))) else (some ((⟨#[]⟩:ByteArray),false)))
mutual
def ZQ.l0:Nat→ByteArray→List ByteArray→Int→Option (List ByteArray×Int)
 | 0,_,_,_ => none
 | k + 1,x0,x4,x5 => if x5 < (x0.size:Int) then ((ZA.f k x0 x5).bind fun bt418 => (if bt418.2.2 = true then (ZQ.j1 k x0 x4 x5 bt418.1 bt418.2.1 (decide (bt418.1 > (wrap64 ((wrap64 ((x0.size:Int) - bt418.2.1)) - 4))))) else (ZQ.j1 k x0 x4 x5 bt418.1 bt418.2.1 true))) else (some (x4,x5))
def ZQ.j1:Nat→ByteArray→List ByteArray→Int→Int→Int→Bool→Option (List ByteArray×Int)
 | 0,_,_,_,_,_,_ => none
 | k + 1,x0,x4,x5,x6,x7,x38 => if x38 = true then (some (x4,x5)) else (if 0≤(wrap64 (x7 + 4)) then (if (wrap64 (x7 + 4))≤(wrap64 ((wrap64 (x7 + 4)) + x6)) then (if (wrap64 ((wrap64 (x7 + 4)) + x6))≤(x0.size:Int) then ((Z1O.f k (x0.extract ((wrap64 (x7 + 4)):Int).toNat ((wrap64 ((wrap64 (x7 + 4)) + x6)):Int).toNat)).bind fun bt421 => (if bt421.2 = true then (if 0≤x5 then (if x5≤(wrap64 ((wrap64 (x7 + 4)) + x6)) then (if bt421.1.toList = (x0.extract (x5:Int).toNat ((wrap64 ((wrap64 (x7 + 4)) + x6)):Int).toNat).toList then (if x4.length < 8796093022208 then (ZQ.l0 k x0 (x4++[x0.extract ((wrap64 (x7 + 4)):Int).toNat ((wrap64 ((wrap64 (x7 + 4)) + x6)):Int).toNat]) (wrap64 ((wrap64 (x7 + 4)) + x6))) else (none)) else (some (x4,x5))) else (none)) else (none)) else (some (x4,x5)))) else (none)) else (none)) else (none))
end
def ZQ.f (k:Nat) (a0:ByteArray):Option (List ByteArray×Int):=(some (([]:List ByteArray):List ByteArray)).bind fun y415 => (if (a0.size:Int) > 20000 then (some (y415,0)) else (ZQ.l0 k a0 y415 0))
def Z2A.f (s0_0:ByteArray) (s0_1:Int) (s0_2:Bool) (a1:Int):Option (ByteArray×ByteArray×Int×Bool):=if s0_2 = true then (some ((⟨#[]⟩:ByteArray),s0_0,s0_1,true)) else (if a1 > (wrap64 ((s0_0.size:Int) - s0_1)) then (some ((⟨#[]⟩:ByteArray),s0_0,s0_1,true)) else (if 0≤(wrap64 ((wrap64 (s0_1 + a1)) - a1)) then (if (wrap64 ((wrap64 (s0_1 + a1)) - a1))≤(wrap64 (s0_1 + a1)) then (if (wrap64 (s0_1 + a1))≤(s0_0.size:Int) then (some (s0_0.extract ((wrap64 ((wrap64 (s0_1 + a1)) - a1)):Int).toNat ((wrap64 (s0_1 + a1)):Int).toNat,s0_0,wrap64 (s0_1 + a1),s0_2)) else (none)) else (none)) else (none)))
def Z1y.f (k:Nat) (s0_0:ByteArray) (s0_1:Int) (s0_2:Bool):Option (ByteArray×ByteArray×Int×Bool):=(Z11.f k s0_0 s0_1 s0_2).bind fun bt446 => ((Z2A.f bt446.2.1 bt446.2.2.1 bt446.2.2.2 bt446.1).bind fun bt450 => (some (bt450.1,bt450.2.1,bt450.2.2.1,bt450.2.2.2)))
def Z2n.f (a0:ByteArray):Option (Bool):=(ZD.f (a0.size:Int) 1 10).bind fun t320 => (some t320)
mutual
def Zq.j0:Nat→Bool→Int→List S162→Option (Bool)
 | 0,_,_,_ => none
 | k + 1,x14,x427000,x427001 => if x14 = true then (some false) else (Zq.l0 k 0 x427000 x427001)
def Zq.l0:Nat→Int→Int→List S162→Option (Bool)
 | 0,_,_,_ => none
 | k + 1,x3,x427000,x427001 => if x3 < (x427001.length:Int) then (if 0≤x3 then ((Z2n.f ((ZS x427001 x3).f0)).bind fun t430 => (if t430 = true then (if x3 > 0 then (if 0≤(wrap64 (x3 - 1)) then (if (wrap64 (x3 - 1)) < (x427001.length:Int) then (if ((Op.bytesLess (((ZS x427001 (wrap64 (x3 - 1))).f0).toList) (((ZS x427001 x3).f0).toList)) = true) then (if (((ZS x427001 x3).f1).size:Int) > 40 then (some false) else (if (ZS x427001 x3).f2 = true then (if ((ZS x427001 x3).f1).toList = ([]:List UInt8) then (Zq.l0 k (wrap64 (x3 + 1)) x427000 x427001) else (some false)) else (Zq.l0 k (wrap64 (x3 + 1)) x427000 x427001))) else (some false)) else (none)) else (none)) else (if (((ZS x427001 x3).f1).size:Int) > 40 then (some false) else (if (ZS x427001 x3).f2 = true then (if ((ZS x427001 x3).f1).toList = ([]:List UInt8) then (Zq.l0 k (wrap64 (x3 + 1)) x427000 x427001) else (some false)) else (Zq.l0 k (wrap64 (x3 + 1)) x427000 x427001)))) else (some false))) else (none)) else (some true)
end
def Zq.f (k:Nat) (a0_0:Int) (l0_1:List S162):Option (Bool):=(ZD.f a0_0 0 100000).bind fun t427 => (if t427 = true then (Zq.j0 k (decide ((l0_1.length:Int) > 60)) a0_0 l0_1) else (Zq.j0 k true a0_0 l0_1))
def Z1D.f (k:Nat) (a0:ByteArray):Option (ByteArray):=(ZP.f k (a0.size:Int)).bind fun t432 => (if t432.size + a0.size≤9223372036854775807 then (some (t432++a0)) else (none))
def Z06.l0:Nat→ByteArray→Int→Int→List S162→Option (ByteArray×Bool)
 | 0,_,_,_,_ => none
 | k + 1,x4,x5,x434000,x434001 => if x5 < (x434001.length:Int) then (if 0≤x5 then (if (ZS x434001 x5).f2 = true then ((Z1D.f k ((ZS x434001 x5).f0)).bind fun t439 => (if x4.size + t439.size≤9223372036854775807 then (if (x4++t439).size + 1≤9223372036854775807 then ((Z1D.f k ((ZS x434001 x5).f1)).bind fun t441 => (if ((x4++t439)++(⟨#[1]⟩:ByteArray)).size + t441.size≤9223372036854775807 then (Z06.l0 k (((x4++t439)++(⟨#[1]⟩:ByteArray))++t441) (wrap64 (x5 + 1)) x434000 x434001) else (none))) else (none)) else (none))) else ((Z1D.f k ((ZS x434001 x5).f0)).bind fun t443 => (if x4.size + t443.size≤9223372036854775807 then (if (x4++t443).size + 1≤9223372036854775807 then ((Z1D.f k ((ZS x434001 x5).f1)).bind fun t445 => (if ((x4++t443)++(⟨#[0]⟩:ByteArray)).size + t445.size≤9223372036854775807 then (Z06.l0 k (((x4++t443)++(⟨#[0]⟩:ByteArray))++t445) (wrap64 (x5 + 1)) x434000 x434001) else (none))) else (none)) else (none)))) else (none)) else (some (x4,true))
def Z06.f (k:Nat) (a0_0:Int) (l0_1:List S162):Option (ByteArray×Bool):=(Zq.f k a0_0 l0_1).bind fun t434 => (if t434 = true then ((ZP.f k a0_0).bind fun t435 => ((ZP.f k (l0_1.length:Int)).bind fun t436 => (if t435.size + t436.size≤9223372036854775807 then (Z06.l0 k (t435++t436) 0 a0_0 l0_1) else (none)))) else (some ((⟨#[]⟩:ByteArray),false)))
mutual
def Zc.l0:Nat→ByteArray→Int→Int→ByteArray→Int→Bool→Int→List S162→Option (Int×(List S162)×Bool)
 | 0,_,_,_,_,_,_,_,_ => none
 | k + 1,x0,x6,x7,x456000,x456001,x456002,x457000,x457001 => if x7 < x6 then (Zc.j1 k x0 x6 x7 (!x456002) x456000 x456001 x456002 x457000 x457001) else (Zc.j1 k x0 x6 x7 false x456000 x456001 x456002 x457000 x457001)
def Zc.j1:Nat→ByteArray→Int→Int→Bool→ByteArray→Int→Bool→Int→List S162→Option (Int×(List S162)×Bool)
 | 0,_,_,_,_,_,_,_,_,_ => none
 | k + 1,x0,x6,x7,x29,x456000,x456001,x456002,x457000,x457001 => if x29 = true then ((Z1y.f k x456000 x456001 x456002).bind fun bt466 => ((Z2A.f bt466.2.1 bt466.2.2.1 bt466.2.2.2 1).bind fun bt470 => ((Z1y.f k bt470.2.1 bt470.2.2.1 bt470.2.2.2).bind fun bt474 => (if x457001.length < 3518437208883 then (Zc.l0 k x0 x6 (wrap64 (x7 + 1)) bt474.2.1 bt474.2.2.1 bt474.2.2.2 x457000 (x457001++[(⟨bt466.1,bt474.1,(bt470.1.toList == ([1]:List UInt8))⟩:S162)])) else (none))))) else ((Z06.f k x457000 x457001).bind fun bt481 => (if x456002 = true then (some (0,([]:List S162),false)) else (if bt481.2 = true then (if bt481.1.toList = x0.toList then (some (x457000,x457001,true)) else (some (0,([]:List S162),false))) else (some (0,([]:List S162),false)))))
end
def Zc.f (k:Nat) (a0:ByteArray):Option (Int×(List S162)×Bool):=(Z11.f k a0 0 false).bind fun bt457 => ((Z11.f k bt457.2.1 bt457.2.2.1 bt457.2.2.2).bind fun bt461 => (Zc.l0 k a0 bt461.1 0 bt461.2.1 bt461.2.2.1 bt461.2.2.2 bt457.1 ([]:List S162)))
mutual
def Z01.l0:Nat→Int→List S145→List ByteArray→Int→List ByteArray→Int→Int→Option ((List S145)×List ByteArray×Int)
 | 0,_,_,_,_,_,_,_ => none
 | k + 1,x1,x7,x8,x9,x10,x12,x13 => if x13 < (x10.length:Int) then (if 0≤x13 then ((Zc.f k (rdOf ByteArray.empty x10 x13)).bind fun bt494 => (if bt494.2.2 = true then ((Z1O.f k (rdOf ByteArray.empty x10 x13)).bind fun bt501 => ((ZP.f k bt494.1).bind fun t504 => ((ZP.f k (bt494.2.1.length:Int)).bind fun t505 => (Z01.l1 k x1 x7 x8 x9 x10 x12 x13 bt501.1 (wrap64 ((wrap64 ((wrap64 ((wrap64 (x12 + (bt501.1.size:Int))) - ((rdOf ByteArray.empty x10 x13).size:Int))) + (t504.size:Int))) + (t505.size:Int))) 0 bt494.1 bt494.2.1)))) else (some (x7,x8,x9)))) else (none)) else (some (x7,x8,x9))
def Z01.l1:Nat→Int→List S145→List ByteArray→Int→List ByteArray→Int→Int→ByteArray→Int→Int→Int→List S162→Option ((List S145)×List ByteArray×Int)
 | 0,_,_,_,_,_,_,_,_,_,_,_,_ => none
 | k + 1,x1,x7,x8,x9,x10,x12,x13,x16,x18,x19,x500000,x500001 => if x19 < (x500001.length:Int) then (if 0≤x19 then ((Z1D.f k ((ZS x500001 x19).f0)).bind fun t516 => ((ZP.f k (((ZS x500001 x19).f1).size:Int)).bind fun t517 => (if (ZS x500001 x19).f2 = true then (if x7.length < 3518437208883 then (Z01.l1 k x1 (x7++[(⟨(ZS x500001 x19).f0,x1,0,(-1)⟩:S145)]) x8 x9 x10 x12 x13 x16 (wrap64 ((wrap64 ((wrap64 ((wrap64 (x18 + (t516.size:Int))) + 1)) + (t517.size:Int))) + (((ZS x500001 x19).f1).size:Int))) (wrap64 (x19 + 1)) x500000 x500001) else (none)) else (if x7.length < 3518437208883 then (Z01.l1 k x1 (x7++[(⟨(ZS x500001 x19).f0,x1,wrap64 ((wrap64 ((wrap64 (x18 + (t516.size:Int))) + 1)) + (t517.size:Int)),(((ZS x500001 x19).f1).size:Int)⟩:S145)]) x8 x9 x10 x12 x13 x16 (wrap64 ((wrap64 ((wrap64 ((wrap64 (x18 + (t516.size:Int))) + 1)) + (t517.size:Int))) + (((ZS x500001 x19).f1).size:Int))) (wrap64 (x19 + 1)) x500000 x500001) else (none))))) else (none)) else (if x500000 > x9 then (if 0≤x13 then (if x13 < (x10.length:Int) then (if x8.length < 8796093022208 then (Z01.l0 k x1 x7 (x8++[rdOf ByteArray.empty x10 x13]) x500000 x10 (wrap64 (x12 + (x16.size:Int))) (wrap64 (x13 + 1))) else (none)) else (none)) else (none)) else (if 0≤x13 then (if x13 < (x10.length:Int) then (if x8.length < 8796093022208 then (Z01.l0 k x1 x7 (x8++[rdOf ByteArray.empty x10 x13]) x9 x10 (wrap64 (x12 + (x16.size:Int))) (wrap64 (x13 + 1))) else (none)) else (none)) else (none)))
end
def Z01.f (k:Nat) (a0:ByteArray) (a1:Int):Option ((List S145)×List ByteArray×Int):=(ZQ.f k a0).bind fun bt489 => (Z01.l0 k a1 (([]:List S145)) (([]:List ByteArray)) (-1) bt489.1 0 0)
mutual
def Zf.l0:Nat→List S145→List S145→Int→Option ((List S145))
 | 0,_,_,_ => none
 | k + 1,x1,x5,x6 => if x6 < (x1.length:Int) then (if 0≤x6 then (Zf.l1 k x1 x5 x6 (([]:List S145)) 0 ((Za x1 x6).f0) ((Za x1 x6).f1) ((Za x1 x6).f2) ((Za x1 x6).f3)) else (none)) else (some x5)
def Zf.l1:Nat→List S145→List S145→Int→List S145→Int→ByteArray→Int→Int→Int→Option ((List S145))
 | 0,_,_,_,_,_,_,_,_,_ => none
 | k + 1,x1,x5,x6,x8,x9,x532000,x532001,x532002,x532003 => if x9 < (x5.length:Int) then (if 0≤x9 then (if (Op.bytesLess (((Za x5 x9).f0).toList) x532000.toList) = true then (if x8.length < 3518437208883 then (Zf.l1 k x1 x5 x6 (x8++[(⟨(Za x5 x9).f0,(Za x5 x9).f1,(Za x5 x9).f2,(Za x5 x9).f3⟩:S145)]) (wrap64 (x9 + 1)) x532000 x532001 x532002 x532003) else (none)) else (Zf.l1 k x1 x5 x6 x8 (wrap64 (x9 + 1)) x532000 x532001 x532002 x532003)) else (none)) else (if x532003 = (-1) then (Zf.j2 k x1 x5 x6 x8 x532000 x532001 x532002 x532003) else (if x8.length < 3518437208883 then (Zf.j2 k x1 x5 x6 (x8++[(⟨x532000,x532001,x532002,x532003⟩:S145)]) x532000 x532001 x532002 x532003) else (none)))
def Zf.j2:Nat→List S145→List S145→Int→List S145→ByteArray→Int→Int→Int→Option ((List S145))
 | 0,_,_,_,_,_,_,_,_ => none
 | k + 1,x1,x5,x6,x8,x532000,x532001,x532002,x532003 => Zf.l2 k x1 x5 x6 x8 0 x532000 x532001 x532002 x532003
def Zf.l2:Nat→List S145→List S145→Int→List S145→Int→ByteArray→Int→Int→Int→Option ((List S145))
 | 0,_,_,_,_,_,_,_,_,_ => none
 | k + 1,x1,x5,x6,x8,x10,x532000,x532001,x532002,x532003 => if x10 < (x5.length:Int) then (if 0≤x10 then (if (Op.bytesLess x532000.toList (((Za x5 x10).f0).toList)) = true then (if x8.length < 3518437208883 then (Zf.l2 k x1 x5 x6 (x8++[(⟨(Za x5 x10).f0,(Za x5 x10).f1,(Za x5 x10).f2,(Za x5 x10).f3⟩:S145)]) (wrap64 (x10 + 1)) x532000 x532001 x532002 x532003) else (none)) else (Zf.l2 k x1 x5 x6 x8 (wrap64 (x10 + 1)) x532000 x532001 x532002 x532003)) else (none)) else (Zf.l0 k x1 x8 (wrap64 (x6 + 1)))
end
def Zf.f (k:Nat) (l0:List S145) (l1:List S145):Option ((List S145)):=(some (([]:List S145):List S145)).bind fun y524 => (if y524.length + l0.length < 3518437208883 then (Zf.l0 k l1 (y524++l0) 0) else (none))
def Z1j.l0:Nat→List S145→Int→Option (Bool)
 | 0,_,_ => none
 | k + 1,x0,x3 => if x3 < (x0.length:Int) then (if 0≤x3 then ((Z2n.f ((Za x0 x3).f0)).bind fun t323 => (if t323 = true then (if x3 > 0 then (if 0≤(wrap64 (x3 - 1)) then (if (wrap64 (x3 - 1)) < (x0.length:Int) then (if ((Op.bytesLess (((Za x0 (wrap64 (x3 - 1))).f0).toList) (((Za x0 x3).f0).toList)) = true) then ((ZD.f ((Za x0 x3).f1) 0 999).bind fun t325 => (if t325 = true then ((ZD.f ((Za x0 x3).f2) 0 20000).bind fun t326 => (if t326 = true then ((ZD.f ((Za x0 x3).f3) 0 40).bind fun t327 => (if t327 = true then (Z1j.l0 k x0 (wrap64 (x3 + 1))) else (some false))) else (some false))) else (some false))) else (some false)) else (none)) else (none)) else ((ZD.f ((Za x0 x3).f1) 0 999).bind fun t328 => (if t328 = true then ((ZD.f ((Za x0 x3).f2) 0 20000).bind fun t329 => (if t329 = true then ((ZD.f ((Za x0 x3).f3) 0 40).bind fun t330 => (if t330 = true then (Z1j.l0 k x0 (wrap64 (x3 + 1))) else (some false))) else (some false))) else (some false)))) else (some false))) else (none)) else (some true)
def Z1j.f (k:Nat) (l0:List S145):Option (Bool):=if (l0.length:Int) > 60 then (some false) else (Z1j.l0 k l0 0)
mutual
def Z6.j0:Nat→Bool→List S122→List Int→Int→Int→Int→List Int→Option (List Int×Int×Int×Int×List Int×(List S145)×Int×Int×Int)
 | 0,_,_,_,_,_,_,_ => none
 | k + 1,x39,x549000,x564000,x564001,x564002,x564003,x564004 => if x39 = true then (some (([]:List Int),0,0,0,([]:List Int),([]:List S145),0,0,2)) else (Z6.l0 k 0 x549000 x564000 x564001 x564002 x564003 x564004 x564000 x564001 x564002 x564003 x564004 x564002)
def Z6.l0:Nat→Int→List S122→List Int→Int→Int→Int→List Int→List Int→Int→Int→Int→List Int→Int→Option (List Int×Int×Int×Int×List Int×(List S145)×Int×Int×Int)
 | 0,_,_,_,_,_,_,_,_,_,_,_,_,_ => none
 | k + 1,x10,x549000,x564000,x564001,x564002,x564003,x564004,x565000,x565001,x565002,x565003,x565004,x565006 => if x10 < (x564000.length:Int) then (if 0≤x10 then ((Z0f.f k (rd x564000 x10)).bind fun t566 => ((Z0P.f k x549000 t566).bind fun t567 => (if t567 < 0 then (some (([]:List Int),0,0,0,([]:List Int),([]:List S145),0,0,3)) else (Z6.l0 k (wrap64 (x10 + 1)) x549000 x564000 x564001 x564002 x564003 x564004 x565000 x565001 x565002 x565003 x565004 x565006)))) else (none)) else (Z6.l1 k 0 0 x549000 x564000 x564001 x564002 x564003 x564004 x565000 x565001 x565002 x565003 x565004 ([]:List S145) x565006)
def Z6.l1:Nat→Int→Int→List S122→List Int→Int→Int→Int→List Int→List Int→Int→Int→Int→List Int→List S145→Int→Option (List Int×Int×Int×Int×List Int×(List S145)×Int×Int×Int)
 | 0,_,_,_,_,_,_,_,_,_,_,_,_,_,_,_ => none
 | k + 1,x11,x12,x549000,x564000,x564001,x564002,x564003,x564004,x565000,x565001,x565002,x565003,x565004,x565005,x565006 => if x12 < (x564000.length:Int) then (if 0≤x12 then ((Z0f.f k (rd x564000 x12)).bind fun t570 => ((Z1c.f k x549000 t570).bind fun t571 => ((Z01.f k t571 (rd x564000 x12)).bind fun bt573 => (Z6.l2 k 0 x12 t571 bt573.1 bt573.2.1 bt573.2.2 0 x549000 x564000 x564001 x564002 x564003 x564004 x565000 x565001 x565002 x565003 x565004 x565005 x565006)))) else (none)) else ((Z1j.f k x565005).bind fun t568 => (if t568 = true then (some (x565000,x565001,x565002,x565003,x565004,x565005,x565006,x11,0)) else (some (([]:List Int),0,0,0,([]:List Int),([]:List S145),0,0,4))))
def Z6.l2:Nat→Int→Int→ByteArray→List S145→List ByteArray→Int→Int→List S122→List Int→Int→Int→Int→List Int→List Int→Int→Int→Int→List Int→List S145→Int→Option (List Int×Int×Int×Int×List Int×(List S145)×Int×Int×Int)
 | 0,_,_,_,_,_,_,_,_,_,_,_,_,_,_,_,_,_,_,_,_ => none
 | k + 1,x11,x12,x13,x14,x15,x16,x17,x549000,x564000,x564001,x564002,x564003,x564004,x565000,x565001,x565002,x565003,x565004,x565005,x565006 => if x17 < (x15.length:Int) then (if 0≤x17 then ((Z1O.f k (rdOf ByteArray.empty x15 x17)).bind fun bt581 => (Z6.l2 k (wrap64 (x11 + (bt581.1.size:Int))) x12 x13 x14 x15 x16 (wrap64 (x17 + 1)) x549000 x564000 x564001 x564002 x564003 x564004 x565000 x565001 x565002 x565003 x565004 x565005 x565006)) else (none)) else (if x11 < (x13.size:Int) then (Z6.j4 k x11 x12 x14 x16 (decide ((wrap64 (x12 + 1)) < (x564000.length:Int))) x549000 x564000 x564001 x564002 x564003 x564004 x565000 x565001 x565002 x565003 x565004 x565005 x565006) else (Z6.j4 k x11 x12 x14 x16 false x549000 x564000 x564001 x564002 x564003 x564004 x565000 x565001 x565002 x565003 x565004 x565005 x565006))
def Z6.j4:Nat→Int→Int→List S145→Int→Bool→List S122→List Int→Int→Int→Int→List Int→List Int→Int→Int→Int→List Int→List S145→Int→Option (List Int×Int×Int×Int×List Int×(List S145)×Int×Int×Int)
 | 0,_,_,_,_,_,_,_,_,_,_,_,_,_,_,_,_,_,_ => none
 | k + 1,x11,x12,x14,x16,x117,x549000,x564000,x564001,x564002,x564003,x564004,x565000,x565001,x565002,x565003,x565004,x565005,x565006 => if x117 = true then (some (([]:List Int),0,0,0,([]:List Int),([]:List S145),0,0,4)) else ((Zf.f k x565005 x14).bind fun t583 => (if x16 > x565006 then (Z6.l1 k x11 (wrap64 (x12 + 1)) x549000 x564000 x564001 x564002 x564003 x564004 x565000 x565001 x565002 x565003 x565004 t583 x16) else (Z6.l1 k x11 (wrap64 (x12 + 1)) x549000 x564000 x564001 x564002 x564003 x564004 x565000 x565001 x565002 x565003 x565004 t583 x565006)))
end
def Z6.f (k:Nat) (l0_0:List S122):Option (List Int×Int×Int×Int×List Int×(List S145)×Int×Int×Int):=(ZO.f k l0_0).bind fun t550 => (if t550 = true then ((Z44.f k l0_0 (⟨#[109]⟩:ByteArray)).bind fun bt551 => ((Z3.f k bt551.1).bind fun bt553 => (if bt551.2 = true then (Z6.j0 k (!bt553.2.2.2.2.2) l0_0 bt553.1 bt553.2.1 bt553.2.2.1 bt553.2.2.2.1 bt553.2.2.2.2.1) else (Z6.j0 k true l0_0 bt553.1 bt553.2.1 bt553.2.2.1 bt553.2.2.2.1 bt553.2.2.2.2.1)))) else (some (([]:List Int),0,0,0,([]:List Int),([]:List S145),0,0,1)))
def ZH.l0:Nat→ByteArray→Int→Int→Option (Int×Bool)
 | 0,_,_,_ => none
 | k + 1,x0,x4,x5 => if x5 < (x0.size:Int) then (if 0≤x5 then (if (bt x0 x5) < 48 then (some (0,false)) else (if (bt x0 x5) > 57 then (some (0,false)) else (ZH.l0 k x0 (wrap64 ((wrap64 ((wrap64 (10 * x4)) + (wrap64 (bt x0 x5)))) - 48)) (wrap64 (x5 + 1))))) else (none)) else (if x4 > 1000000000 then (some (0,false)) else ((Z0C.f k x4).bind fun t586 => (if t586.toList = x0.toList then (some (x4,true)) else (some (0,false)))))
def ZH.f (k:Nat) (a0:ByteArray):Option (Int×Bool):=if (a0.size:Int) > 10 then (some (0,false)) else (ZH.l0 k a0 0 0)
def Z3Y.f (k:Nat) (a0:ByteArray):Option (Int):=if (a0.size:Int) < 2 then (some (-1)) else (if 1≤(a0.size:Int) then ((ZH.f k (a0.extract 1 a0.size)).bind fun bt587 => (if bt587.2 = true then ((Z0f.f k bt587.1).bind fun t589 => (if t589.toList = a0.toList then (some bt587.1) else (some (-1)))) else (some (-1)))) else (none))
def Z20.l0:Nat→List Int→Int→Int→Option (Bool)
 | 0,_,_,_ => none
 | k + 1,x0,x1,x5 => if x5 < (x0.length:Int) then (if 0≤x5 then (if (rd x0 x5) = x1 then (some true) else (Z20.l0 k x0 x1 (wrap64 (x5 + 1)))) else (none)) else (some false)
def Z20.f (k:Nat) (l0:List Int) (a1:Int):Option (Bool):=Z20.l0 k l0 a1 0
mutual
def Zl.j0:Nat→Int→List S119→List S122→List Int→Int→Int→Int→List Int→List S145→Int→Option (List Int×Int×Int×Int×List Int×(List S145)×Int×(List S119)×Int)
 | 0,_,_,_,_,_,_,_,_,_,_ => none
 | k + 1,x6,x8,x592000,x609000,x609001,x609002,x609003,x609004,x609005,x609006 => Zl.l0 k x6 x8 0 x592000 x609000 x609001 x609002 x609003 x609004 x609005 x609006
def Zl.l0:Nat→Int→List S119→Int→List S122→List Int→Int→Int→Int→List Int→List S145→Int→Option (List Int×Int×Int×Int×List Int×(List S145)×Int×(List S119)×Int)
 | 0,_,_,_,_,_,_,_,_,_,_,_ => none
 | k + 1,x6,x8,x9,x592000,x609000,x609001,x609002,x609003,x609004,x609005,x609006 => if x9 < (x592000.length:Int) then (if 0≤x9 then ((Z3Y.f k ((Z0k x592000 x9).f0)).bind fun t617 => (if t617≥0 then ((Z20.f k x609000 t617).bind fun t618 => (if t618 = true then (Zl.l0 k x6 x8 (wrap64 (x9 + 1)) x592000 x609000 x609001 x609002 x609003 x609004 x609005 x609006) else (if x8.length < 2513169434916 then (Zl.l0 k x6 (x8++[(⟨4,(Z0k x592000 x9).f0,(⟨#[]⟩:ByteArray),(⟨#[]⟩:ByteArray)⟩:S119)]) (wrap64 (x9 + 1)) x592000 x609000 x609001 x609002 x609003 x609004 x609005 x609006) else (none)))) else (Zl.l0 k x6 x8 (wrap64 (x9 + 1)) x592000 x609000 x609001 x609002 x609003 x609004 x609005 x609006))) else (none)) else (if 0≤(wrap64 ((x609000.length:Int) - 1)) then (if (wrap64 ((x609000.length:Int) - 1)) < (x609000.length:Int) then ((Z0f.f k (rd x609000 (wrap64 ((x609000.length:Int) - 1)))).bind fun t624 => ((Z1c.f k x592000 t624).bind fun t625 => (if x6 < (t625.size:Int) then (if 0≤x6 then (if x6≤(t625.size:Int) then (if x8.length < 2513169434916 then (some (x609000,x609001,x609002,x609003,x609004,x609005,x609006,(x8++[(⟨1,t624,(⟨#[]⟩:ByteArray),t625.extract 0 (x6:Int).toNat⟩:S119)]),0)) else (none)) else (none)) else (none)) else (some (x609000,x609001,x609002,x609003,x609004,x609005,x609006,x8,0))))) else (none)) else (none))
end
def Zl.f (k:Nat) (l0_0:List S122):Option (List Int×Int×Int×Int×List Int×(List S145)×Int×(List S119)×Int):=(Z6.f k l0_0).bind fun bt593 => ((some (([]:List S119):List S119)).bind fun y609 => (if bt593.2.2.2.2.2.2.2.2 = 0 then ((Z0P.f k l0_0 (⟨#[109,43]⟩:ByteArray)).bind fun t612 => (if t612≥0 then (if y609.length < 2513169434916 then (Zl.j0 k bt593.2.2.2.2.2.2.2.1 (y609++[(⟨4,(⟨#[109,43]⟩:ByteArray),(⟨#[]⟩:ByteArray),(⟨#[]⟩:ByteArray)⟩:S119)]) l0_0 bt593.1 bt593.2.1 bt593.2.2.1 bt593.2.2.2.1 bt593.2.2.2.2.1 bt593.2.2.2.2.2.1 bt593.2.2.2.2.2.2.1) else (none)) else (Zl.j0 k bt593.2.2.2.2.2.2.2.1 y609 l0_0 bt593.1 bt593.2.1 bt593.2.2.1 bt593.2.2.2.1 bt593.2.2.2.2.1 bt593.2.2.2.2.2.1 bt593.2.2.2.2.2.2.1))) else (some (([]:List Int),0,0,0,([]:List Int),([]:List S145),0,y609,bt593.2.2.2.2.2.2.2.2))))
def Z3v.f (s0_0:List Int) (s0_1:Int) (s0_2:Int) (l1:List ByteArray):Option (ByteArray×(List Int)×Int×Int):=(Z0o.f s0_0 s0_1 s0_2 (l1.length:Int)).bind fun t0 => (if 0≤t0.1 then (if t0.1 < (l1.length:Int) then (some (rdOf ByteArray.empty l1 t0.1,t0.2.1,t0.2.2.1,t0.2.2.2)) else none) else none)
def Z37.f (s0_0:List Int) (s0_1:Int) (s0_2:Int):Option (ByteArray×(List Int)×Int×Int):=(Z3v.f s0_0 s0_1 s0_2 ([(⟨#[107,97]⟩:ByteArray),(⟨#[107,98]⟩:ByteArray),(⟨#[107,99]⟩:ByteArray),(⟨#[110]⟩:ByteArray),(⟨#[115,49]⟩:ByteArray),(⟨#[115,50]⟩:ByteArray),(⟨#[107,100]⟩:ByteArray)]:List ByteArray)).bind fun t0 => (some (t0.1,t0.2.1,t0.2.2.1,t0.2.2.2))
def Z0Y.l0:Nat→Int→(List Int)→Int→(List Int)→Int→Int→Option (ByteArray×(List Int)×Int×Int)
 | 0,_,_,_,_,_,_ => none
 | k + 1,x1,x5,x6,y10000_0,y10000_1,y10000_2 => if x6 < x1 then ((Z1a.f y10000_0 y10000_1 y10000_2).bind fun t0 => (if x5.length + 1 < 140737488355329 then (Z0Y.l0 k x1 (x5++([(t0.1) % 256]:List Int)) (wrap64 (x6 + 1)) t0.2.1 t0.2.2.1 t0.2.2.2) else none)) else (some (strOfNums x5,y10000_0,y10000_1,y10000_2))
def Z0Y.f (k:Nat) (s0_0:List Int) (s0_1:Int) (s0_2:Int) (a1:Int):Option (ByteArray×(List Int)×Int×Int):=if a1 > 5000 then (Z0Y.l0 k 5000 ([]:List Int) 0 s0_0 s0_1 s0_2) else (Z0Y.l0 k a1 ([]:List Int) 0 s0_0 s0_1 s0_2)
mutual
def Zj.l0:Nat→Int→Int→(List S162)→Int→(List S162)→(List Int)→Int→Int→Option (Int×(List S162)×(List Int)×Int×Int)
 | 0,_,_,_,_,_,_,_,_ => none
 | k + 1,x6,y4_0,y4_1,y5_0,y5_1,y10000_0,y10000_1,y10000_2 => (Z0o.f y10000_0 y10000_1 y10000_2 4).bind fun t0 => (if x6 < t0.1 then ((Z37.f t0.2.1 t0.2.2.1 t0.2.2.2).bind fun t1 => ((Z0o.f t1.2.1 t1.2.2.1 t1.2.2.2 6).bind fun t2 => ((Z0Y.f k t2.2.1 t2.2.2.1 t2.2.2.2 t2.1).bind fun t3 => ((Z0I.f t3.2.1 t3.2.2.1 t3.2.2.2 4).bind fun t4 => (if t4.1 = true then (Zj.l1 k x6 ([]:List S162) 0 y4_0 y4_1 y5_0 y5_1 t1.1 (⟨#[]⟩:ByteArray) true t4.2.1 t4.2.2.1 t4.2.2.2) else (Zj.l1 k x6 ([]:List S162) 0 y4_0 y4_1 y5_0 y5_1 t1.1 t3.1 false t4.2.1 t4.2.2.1 t4.2.2.2)))))) else (some (y5_0,y5_1,t0.2.1,t0.2.2.1,t0.2.2.2)))
def Zj.l1:Nat→Int→(List S162)→Int→Int→(List S162)→Int→(List S162)→ByteArray→ByteArray→Bool→(List Int)→Int→Int→Option (Int×(List S162)×(List Int)×Int×Int)
 | 0,_,_,_,_,_,_,_,_,_,_,_,_,_ => none
 | k + 1,x6,x8,x9,y4_0,y4_1,y5_0,y5_1,y7_0,y7_1,y7_2,y10000_0,y10000_1,y10000_2 => if x9 < (y5_1.length:Int) then (if 0≤x9 then (if Op.bytesLess ((ZS y5_1 x9).f0).toList y7_0.toList = true then (if x8.length + 1 < 3518437208884 then (Zj.l1 k x6 (x8++([(⟨(ZS y5_1 x9).f0,(ZS y5_1 x9).f1,(ZS y5_1 x9).f2⟩:S162)]:List S162)) (wrap64 (x9 + 1)) y4_0 y4_1 y5_0 y5_1 y7_0 y7_1 y7_2 y10000_0 y10000_1 y10000_2) else none) else (Zj.l1 k x6 x8 (wrap64 (x9 + 1)) y4_0 y4_1 y5_0 y5_1 y7_0 y7_1 y7_2 y10000_0 y10000_1 y10000_2)) else none) else (if x8.length + 1 < 3518437208884 then (Zj.l2 k x6 (x8++([(⟨y7_0,y7_1,y7_2⟩:S162)]:List S162)) 0 y4_0 y4_1 y5_0 y5_1 y7_0 y7_1 y7_2 y10000_0 y10000_1 y10000_2) else none)
def Zj.l2:Nat→Int→(List S162)→Int→Int→(List S162)→Int→(List S162)→ByteArray→ByteArray→Bool→(List Int)→Int→Int→Option (Int×(List S162)×(List Int)×Int×Int)
 | 0,_,_,_,_,_,_,_,_,_,_,_,_,_ => none
 | k + 1,x6,x8,x10,y4_0,y4_1,y5_0,y5_1,y7_0,y7_1,y7_2,y10000_0,y10000_1,y10000_2 => if x10 < (y5_1.length:Int) then (if 0≤x10 then (if Op.bytesLess y7_0.toList ((ZS y5_1 x10).f0).toList = true then (if x8.length + 1 < 3518437208884 then (Zj.l2 k x6 (x8++([(⟨(ZS y5_1 x10).f0,(ZS y5_1 x10).f1,(ZS y5_1 x10).f2⟩:S162)]:List S162)) (wrap64 (x10 + 1)) y4_0 y4_1 y5_0 y5_1 y7_0 y7_1 y7_2 y10000_0 y10000_1 y10000_2) else none) else (Zj.l2 k x6 x8 (wrap64 (x10 + 1)) y4_0 y4_1 y5_0 y5_1 y7_0 y7_1 y7_2 y10000_0 y10000_1 y10000_2)) else none) else (Zj.l0 k (wrap64 (x6 + 1)) y4_0 y4_1 y5_0 x8 y10000_0 y10000_1 y10000_2)
end
def Zj.f (k:Nat) (s0_0:List Int) (s0_1:Int) (s0_2:Int) (a1:Int):Option (Int×(List S162)×(List Int)×Int×Int):=Zj.l0 k 0 0 [] a1 [] s0_0 s0_1 s0_2
def Z17.l0:Nat→Int→Int→List Int→Int→Option (ByteArray)
 | 0,_,_,_,_ => none
 | k + 1,x0,x1,x5,x6 => if x6 < x0 then (if 0≤x6 then (if x6 < (x5.length:Int) then (Z17.l0 k x0 x1 (x5.set (x6:Int).toNat x1) (wrap64 (x6 + 1))) else (none)) else (none)) else (some (strOfNums x5))
def Z17.f (k:Nat) (a0:Int) (a1:Int):Option (ByteArray):=if 0≤a0 then (if (a0:Int).toNat≤281474976710656 then (Z17.l0 k a0 a1 (List.replicate (a0:Int).toNat 0) 0) else (none)) else (none)
def Z0b.l0:Nat→List Int→List Int→Int→Option (Bool)
 | 0,_,_,_ => none
 | k + 1,x0,x1,x5 => if x5 < (x0.length:Int) then (if 0≤x5 then (if x5 < (x1.length:Int) then (if (rd x0 x5) = (rd x1 x5) then (Z0b.l0 k x0 x1 (wrap64 (x5 + 1))) else (some false)) else (none)) else (none)) else (some true)
def Z0b.f (k:Nat) (l0:List Int) (l1:List Int):Option (Bool):=if (l0.length:Int) = (l1.length:Int) then (Z0b.l0 k l0 l1 0) else (some false)
mutual
def Zv.j0:Nat→Bool→List Int→Int→Int→Int→List Int→List S145→Int→List Int→Int→Int→Int→List Int→List S145→Int→Option (Bool)
 | 0,_,_,_,_,_,_,_,_,_,_,_,_,_,_,_ => none
 | k + 1,x66,x649000,x649001,x649002,x649003,x649004,x649005,x649006,x650000,x650001,x650002,x650003,x650004,x650005,x650006 => if x66 = true then (some false) else (Zv.l0 k 0 x649000 x649001 x649002 x649003 x649004 x649005 x649006 x650000 x650001 x650002 x650003 x650004 x650005 x650006)
def Zv.l0:Nat→Int→List Int→Int→Int→Int→List Int→List S145→Int→List Int→Int→Int→Int→List Int→List S145→Int→Option (Bool)
 | 0,_,_,_,_,_,_,_,_,_,_,_,_,_,_,_ => none
 | k + 1,x5,x649000,x649001,x649002,x649003,x649004,x649005,x649006,x650000,x650001,x650002,x650003,x650004,x650005,x650006 => if x5 < (x649005.length:Int) then (if 0≤x5 then (if x5 < (x650005.length:Int) then (if (!((((Za x649005 x5).f0).toList) == (((Za x650005 x5).f0).toList)) || (!(((Za x649005 x5).f1) == ((Za x650005 x5).f1)) || (!(((Za x649005 x5).f2) == ((Za x650005 x5).f2)) || (!(((Za x649005 x5).f3) == ((Za x650005 x5).f3)))))) = true then (some false) else (Zv.l0 k (wrap64 (x5 + 1)) x649000 x649001 x649002 x649003 x649004 x649005 x649006 x650000 x650001 x650002 x650003 x650004 x650005 x650006)) else (none)) else (none)) else (some true)
end
def Zv.f (k:Nat) (l0_0:List Int) (a0_1:Int) (a0_2:Int) (a0_3:Int) (l0_4:List Int) (l0_5:List S145) (a0_6:Int) (l1_0:List Int) (a1_1:Int) (a1_2:Int) (a1_3:Int) (l1_4:List Int) (l1_5:List S145) (a1_6:Int):Option (Bool):=if a0_6 = a1_6 then ((Z0b.f k l0_0 l1_0).bind fun t650 => (if t650 = true then (if a0_1 = a1_1 then (if a0_2 = a1_2 then (if a0_3 = a1_3 then ((Z0b.f k l0_4 l1_4).bind fun t651 => (if t651 = true then (Zv.j0 k ((l0_5.length:Int) != (l1_5.length:Int)) l0_0 a0_1 a0_2 a0_3 l0_4 l0_5 a0_6 l1_0 a1_1 a1_2 a1_3 l1_4 l1_5 a1_6) else (Zv.j0 k true l0_0 a0_1 a0_2 a0_3 l0_4 l0_5 a0_6 l1_0 a1_1 a1_2 a1_3 l1_4 l1_5 a1_6))) else (Zv.j0 k true l0_0 a0_1 a0_2 a0_3 l0_4 l0_5 a0_6 l1_0 a1_1 a1_2 a1_3 l1_4 l1_5 a1_6)) else (Zv.j0 k true l0_0 a0_1 a0_2 a0_3 l0_4 l0_5 a0_6 l1_0 a1_1 a1_2 a1_3 l1_4 l1_5 a1_6)) else (Zv.j0 k true l0_0 a0_1 a0_2 a0_3 l0_4 l0_5 a0_6 l1_0 a1_1 a1_2 a1_3 l1_4 l1_5 a1_6)) else (Zv.j0 k true l0_0 a0_1 a0_2 a0_3 l0_4 l0_5 a0_6 l1_0 a1_1 a1_2 a1_3 l1_4 l1_5 a1_6))) else (Zv.j0 k true l0_0 a0_1 a0_2 a0_3 l0_4 l0_5 a0_6 l1_0 a1_1 a1_2 a1_3 l1_4 l1_5 a1_6)
def Z28.f (k:Nat) (l0_0:List S122) (l1_0:List Int) (a1_1:Int) (a1_2:Int) (a1_3:Int) (l1_4:List Int) (l1_5:List S145) (a1_6:Int):Option (Bool):=(Zl.f k l0_0).bind fun bt656 => (if bt656.2.2.2.2.2.2.2.2 = 0 then (if (bt656.2.2.2.2.2.2.2.1.length:Int) = 0 then ((Zv.f k l1_0 a1_1 a1_2 a1_3 l1_4 l1_5 a1_6 bt656.1 bt656.2.1 bt656.2.2.1 bt656.2.2.2.1 bt656.2.2.2.2.1 bt656.2.2.2.2.2.1 bt656.2.2.2.2.2.2.1).bind fun t674 => (some t674)) else (some false)) else (some false))
def Z2k.f (l0_0:List Int) (a0_1:Int) (a0_2:Int) (a0_3:Int) (l0_4:List Int):Option (List Int×Int×Int×Int×List Int):=(some (([]:List Int):List Int)).bind fun y897 => (if y897.length + l0_0.length < 17592186044416 then ((some (([]:List Int):List Int)).bind fun y903 => (if y903.length + l0_4.length < 17592186044416 then (some ((y897++l0_0),a0_1,a0_2,a0_3,(y903++l0_4))) else (none))) else (none))
def Z1q.f (k:Nat) (l0_0:List Int) (a0_1:Int) (a0_2:Int) (a0_3:Int) (l0_4:List Int):Option ((List S119)×Bool):=(Zh.f k l0_0 a0_1 a0_2 a0_3 l0_4).bind fun bt690 => (some ((([(⟨1,(⟨#[109,43]⟩:ByteArray),(⟨#[]⟩:ByteArray),bt690.1⟩:S119),(⟨3,(⟨#[109,43]⟩:ByteArray),(⟨#[109]⟩:ByteArray),(⟨#[]⟩:ByteArray)⟩:S119)]:List S119)),bt690.2))
mutual
def Z0d.l0:Nat→Int→List S122→ByteArray→ByteArray→List S122→Option ((List S122))
 | 0,_,_,_,_,_ => none
 | k + 1,x6,x696000,x697000,x697001,x699000 => if x6 < (x696000.length:Int) then (if 0≤x6 then (if (Op.bytesLess (((Z0k x696000 x6).f0).toList) x697000.toList) = true then (if x699000.length < 4398046511104 then (Z0d.l0 k (wrap64 (x6 + 1)) x696000 x697000 x697001 (x699000++[(⟨(Z0k x696000 x6).f0,(Z0k x696000 x6).f1⟩:S122)])) else (none)) else (Z0d.l0 k (wrap64 (x6 + 1)) x696000 x697000 x697001 x699000)) else (none)) else (if x699000.length < 4398046511104 then (Z0d.l1 k 0 x696000 x697000 x697001 (x699000++[(⟨x697000,x697001⟩:S122)])) else (none))
def Z0d.l1:Nat→Int→List S122→ByteArray→ByteArray→List S122→Option ((List S122))
 | 0,_,_,_,_,_ => none
 | k + 1,x7,x696000,x697000,x697001,x699000 => if x7 < (x696000.length:Int) then (if 0≤x7 then (if (Op.bytesLess x697000.toList (((Z0k x696000 x7).f0).toList)) = true then (if x699000.length < 4398046511104 then (Z0d.l1 k (wrap64 (x7 + 1)) x696000 x697000 x697001 (x699000++[(⟨(Z0k x696000 x7).f0,(Z0k x696000 x7).f1⟩:S122)])) else (none)) else (Z0d.l1 k (wrap64 (x7 + 1)) x696000 x697000 x697001 x699000)) else (none)) else (some x699000)
end
def Z0d.f (k:Nat) (l0_0:List S122) (a1_0:ByteArray) (a1_1:ByteArray):Option ((List S122)):=Z0d.l0 k 0 l0_0 a1_0 a1_1 ([]:List S122)
def Z0W.l0:Nat→ByteArray→Int→List S122→List S122→Option ((List S122))
 | 0,_,_,_,_ => none
 | k + 1,x1,x6,x713000,x715000 => if x6 < (x713000.length:Int) then (if 0≤x6 then (if ((Z0k x713000 x6).f0).toList = x1.toList then (Z0W.l0 k x1 (wrap64 (x6 + 1)) x713000 x715000) else (if x715000.length < 4398046511104 then (Z0W.l0 k x1 (wrap64 (x6 + 1)) x713000 (x715000++[(⟨(Z0k x713000 x6).f0,(Z0k x713000 x6).f1⟩:S122)])) else (none))) else (none)) else (some x715000)
def Z0W.f (k:Nat) (l0_0:List S122) (a1:ByteArray):Option ((List S122)):=Z0W.l0 k a1 0 l0_0 ([]:List S122)
def Z0g.j0:Nat→Int→Bool→List S122→Int→ByteArray→ByteArray→ByteArray→Option ((List S122)×Bool)
 | 0,_,_,_,_,_,_,_ => none
 | k + 1,x6,x29,x721000,x722000,x722001,x722002,x722003 => if x29 = true then (some (([]:List S122),false)) else ((some (([]:List S122):List S122)).bind fun y726 => (if y726.length + x721000.length < 4398046511104 then ((some (y726++x721000:List S122)).bind fun y729 => (if x722000 = 1 then ((Z0d.f k x721000 x722001 x722003).bind fun t733 => ((ZO.f k t733).bind fun t736 => (if t736 = true then (some (t733,true)) else (some (([]:List S122),false))))) else (if x722000 = 2 then ((Z1c.f k x721000 x722001).bind fun t737 => (if t737.size + x722003.size≤9223372036854775807 then ((Z0d.f k x721000 x722001 (t737++x722003)).bind fun t738 => ((ZO.f k t738).bind fun t741 => (if t741 = true then (some (t738,true)) else (some (([]:List S122),false))))) else (none))) else (if x722000 = 3 then (if x722002.toList = x722001.toList then ((ZO.f k y729).bind fun t742 => (if t742 = true then (some (y729,true)) else (some (([]:List S122),false)))) else ((Z0W.f k x721000 x722001).bind fun t743 => (if 0≤x6 then (if x6 < (x721000.length:Int) then ((Z0d.f k t743 x722002 ((Z0k x721000 x6).f1)).bind fun t747 => ((ZO.f k t747).bind fun t750 => (if t750 = true then (some (t747,true)) else (some (([]:List S122),false))))) else (none)) else (none)))) else (if x722000 = 4 then ((Z0W.f k x721000 x722001).bind fun t751 => ((ZO.f k t751).bind fun t754 => (if t754 = true then (some (t751,true)) else (some (([]:List S122),false))))) else ((ZO.f k y729).bind fun t755 => (if t755 = true then (some (y729,true)) else (some (([]:List S122),false))))))))) else (none)))
def Z0g.f (k:Nat) (l0_0:List S122) (a1_0:Int) (a1_1:ByteArray) (a1_2:ByteArray) (a1_3:ByteArray):Option ((List S122)×Bool):=(Z0P.f k l0_0 a1_1).bind fun t723 => ((ZO.f k l0_0).bind fun t724 => (if t724 = true then ((ZD.f a1_0 1 4).bind fun t725 => (if t725 = true then (if t723 < 0 then (Z0g.j0 k t723 (decide (a1_0≥3)) l0_0 a1_0 a1_1 a1_2 a1_3) else (Z0g.j0 k t723 false l0_0 a1_0 a1_1 a1_2 a1_3)) else (Z0g.j0 k t723 true l0_0 a1_0 a1_1 a1_2 a1_3))) else (Z0g.j0 k t723 true l0_0 a1_0 a1_1 a1_2 a1_3)))
mutual
def Zg.j0:Nat→List S119→Bool→List S122→Option ((List S122)×Int)
 | 0,_,_,_ => none
 | k + 1,x1,x17,x757000 => if x17 = true then (some (([]:List S122),0)) else ((some (([]:List S122):List S122)).bind fun y759 => (if y759.length + x757000.length < 4398046511104 then (Zg.l0 k x1 0 (y759++x757000)) else (none)))
def Zg.l0:Nat→List S119→Int→List S122→Option ((List S122)×Int)
 | 0,_,_,_ => none
 | k + 1,x1,x7,x766000 => if x7 < (x1.length:Int) then (if 0≤x7 then ((Z0g.f k x766000 ((ZX x1 x7).f0) ((ZX x1 x7).f1) ((ZX x1 x7).f2) ((ZX x1 x7).f3)).bind fun bt767 => (if bt767.2 = true then (Zg.l0 k x1 (wrap64 (x7 + 1)) bt767.1) else (some (x766000,x7)))) else (none)) else (some (x766000,(x1.length:Int)))
end
def Zg.f (k:Nat) (l0_0:List S122) (l1:List S119):Option ((List S122)×Int):=(ZO.f k l0_0).bind fun t758 => (if t758 = true then (Zg.j0 k l1 (decide ((l1.length:Int) > 60)) l0_0) else (Zg.j0 k l1 true l0_0))
def Z1Q.f (k:Nat) (l0_0:List S122) (l1:List S119):Option (List Int×Int×Int×Int×List Int×(List S145)×Int×Bool):=(Zg.f k l0_0 l1).bind fun bt774 => (if bt774.2 = (l1.length:Int) then ((Zl.f k bt774.1).bind fun bt779 => (if bt779.2.2.2.2.2.2.2.2 = 0 then (some (bt779.1,bt779.2.1,bt779.2.2.1,bt779.2.2.2.1,bt779.2.2.2.2.1,bt779.2.2.2.2.2.1,bt779.2.2.2.2.2.2.1,((bt779.2.2.2.2.2.2.2.1.length:Int) == 0))) else (some (bt779.1,bt779.2.1,bt779.2.2.1,bt779.2.2.2.1,bt779.2.2.2.2.1,bt779.2.2.2.2.2.1,bt779.2.2.2.2.2.2.1,false)))) else (some (([]:List Int),0,0,0,([]:List Int),([]:List S145),0,false)))
mutual
def Zb.j0:Nat→ByteArray→Bool→List S122→List Int→Int→Int→Int→List Int→List S145→Int→Option (List Int×Int×Int×Int×List Int×(List S145)×Int×(List S119)×Bool)
 | 0,_,_,_,_,_,_,_,_,_,_ => none
 | k + 1,x9,x39,x910000,x911000,x911001,x911002,x911003,x911004,x911005,x911006 => if x39 = true then (some (([]:List Int),0,0,0,([]:List Int),([]:List S145),0,(([]:List S119)),false)) else ((Z1O.f k x9).bind fun bt919 => ((Z2k.f x911000 x911001 x911002 x911003 x911004).bind fun bt921 => (if 0≤(wrap64 ((bt921.1.length:Int) - 1)) then (if (wrap64 ((bt921.1.length:Int) - 1)) < (bt921.1.length:Int) then ((Z0f.f k (rd bt921.1 (wrap64 ((bt921.1.length:Int) - 1)))).bind fun t932 => ((some (([(⟨2,t932,(⟨#[]⟩:ByteArray),bt919.1⟩:S119)]:List S119):List S119)).bind fun y933 => ((Z1c.f k x910000 t932).bind fun t936 => (if (t936.size:Int)≥500 then (if (bt921.1.length:Int) < 8 then (Zb.j1 k bt919.1 y933 (decide (bt921.2.1≤999)) x910000 bt921.1 bt921.2.1 bt921.2.2.1 bt921.2.2.2.1 bt921.2.2.2.2) else (Zb.j1 k bt919.1 y933 false x910000 bt921.1 bt921.2.1 bt921.2.2.1 bt921.2.2.2.1 bt921.2.2.2.2)) else (Zb.j1 k bt919.1 y933 false x910000 bt921.1 bt921.2.1 bt921.2.2.1 bt921.2.2.2.1 bt921.2.2.2.2))))) else (none)) else (none))))
def Zb.j1:Nat→ByteArray→List S119→Bool→List S122→List Int→Int→Int→Int→List Int→Option (List Int×Int×Int×Int×List Int×(List S145)×Int×(List S119)×Bool)
 | 0,_,_,_,_,_,_,_,_,_ => none
 | k + 1,x11,x15,x78,x910000,x931000,x931001,x931002,x931003,x931004 => if x78 = true then ((Z0f.f k x931001).bind fun t937 => ((some (([(⟨1,t937,(⟨#[]⟩:ByteArray),x11⟩:S119)]:List S119):List S119)).bind fun y938 => (if x931000.length < 17592186044416 then ((Z1q.f k (x931000++[x931001]) (wrap64 (x931001 + 1)) x931002 x931003 x931004).bind fun bt944 => (if y938.length + bt944.1.length < 2513169434916 then ((some (y938++bt944.1:List S119)).bind fun y948 => ((Z1Q.f k x910000 y948).bind fun bt951 => (if bt951.2.2.2.2.2.2.2 = true then (some (bt951.1,bt951.2.1,bt951.2.2.1,bt951.2.2.2.1,bt951.2.2.2.2.1,bt951.2.2.2.2.2.1,bt951.2.2.2.2.2.2.1,y948,true)) else (some (([]:List Int),0,0,0,([]:List Int),([]:List S145),0,(([]:List S119)),false))))) else (none))) else (none)))) else ((Z1Q.f k x910000 x15).bind fun bt969 => (if bt969.2.2.2.2.2.2.2 = true then (some (bt969.1,bt969.2.1,bt969.2.2.1,bt969.2.2.2.1,bt969.2.2.2.2.1,bt969.2.2.2.2.2.1,bt969.2.2.2.2.2.2.1,x15,true)) else (some (([]:List Int),0,0,0,([]:List Int),([]:List S145),0,(([]:List S119)),false))))
end
def Zb.f (k:Nat) (l0_0:List S122) (l1_0:List Int) (a1_1:Int) (a1_2:Int) (a1_3:Int) (l1_4:List Int) (l1_5:List S145) (a1_6:Int) (a2_0:Int) (l2_1:List S162):Option (List Int×Int×Int×Int×List Int×(List S145)×Int×(List S119)×Bool):=(Z06.f k a2_0 l2_1).bind fun bt913 => (if bt913.2 = true then ((Z28.f k l0_0 l1_0 a1_1 a1_2 a1_3 l1_4 l1_5 a1_6).bind fun t915 => (if t915 = true then (Zb.j0 k bt913.1 (decide (a2_0 < a1_6)) l0_0 l1_0 a1_1 a1_2 a1_3 l1_4 l1_5 a1_6) else (Zb.j0 k bt913.1 true l0_0 l1_0 a1_1 a1_2 a1_3 l1_4 l1_5 a1_6))) else (Zb.j0 k bt913.1 true l0_0 l1_0 a1_1 a1_2 a1_3 l1_4 l1_5 a1_6))
mutual
def Zw.j0:Nat→List S147→Bool→List S122→List Int→Int→Int→Int→List Int→List S145→Int→Option ((List S147)×Bool)
 | 0,_,_,_,_,_,_,_,_,_,_ => none
 | k + 1,x6,x19,x630000,x631000,x631001,x631002,x631003,x631004,x631005,x631006 => if x19 = true then (some (x6,false)) else (Zw.l0 k x6 0 x630000 x631000 x631001 x631002 x631003 x631004 x631005 x631006)
def Zw.l0:Nat→List S147→Int→List S122→List Int→Int→Int→Int→List Int→List S145→Int→Option ((List S147)×Bool)
 | 0,_,_,_,_,_,_,_,_,_,_ => none
 | k + 1,x6,x7,x630000,x631000,x631001,x631002,x631003,x631004,x631005,x631006 => if x7 < (x631005.length:Int) then (if 0≤x7 then ((Z0f.f k ((Za x631005 x7).f1)).bind fun t638 => ((Z1c.f k x630000 t638).bind fun t639 => (if (wrap64 (((Za x631005 x7).f2) + ((Za x631005 x7).f3))) > (t639.size:Int) then (some ((([]:List S147)),false)) else (if 0≤((Za x631005 x7).f2) then (if ((Za x631005 x7).f2)≤(wrap64 (((Za x631005 x7).f2) + ((Za x631005 x7).f3))) then (if (wrap64 (((Za x631005 x7).f2) + ((Za x631005 x7).f3)))≤(t639.size:Int) then (if x6.length < 4398046511104 then (Zw.l0 k (x6++[(⟨(Za x631005 x7).f0,t639.extract (((Za x631005 x7).f2):Int).toNat ((wrap64 (((Za x631005 x7).f2) + ((Za x631005 x7).f3))):Int).toNat⟩:S147)]) (wrap64 (x7 + 1)) x630000 x631000 x631001 x631002 x631003 x631004 x631005 x631006) else (none)) else (none)) else (none)) else (none))))) else (none)) else (some (x6,true))
end
def Zw.f (k:Nat) (l0_0:List S122) (l1_0:List Int) (a1_1:Int) (a1_2:Int) (a1_3:Int) (l1_4:List Int) (l1_5:List S145) (a1_6:Int):Option ((List S147)×Bool):=(some (([]:List S147):List S147)).bind fun y631 => ((ZO.f k l0_0).bind fun t634 => (if t634 = true then ((Z1j.f k l1_5).bind fun t635 => (Zw.j0 k y631 (!t635) l0_0 l1_0 a1_1 a1_2 a1_3 l1_4 l1_5 a1_6)) else (Zw.j0 k y631 true l0_0 l1_0 a1_1 a1_2 a1_3 l1_4 l1_5 a1_6)))
def Z1i.l0:Nat→List S147→Int→Option (Bool)
 | 0,_,_ => none
 | k + 1,x0,x3 => if x3 < (x0.length:Int) then (if 0≤x3 then ((Z2n.f ((Z1W x0 x3).f0)).bind fun t676 => (if t676 = true then (if (((Z1W x0 x3).f1).size:Int) > 40 then (some false) else (if x3 > 0 then (if 0≤(wrap64 (x3 - 1)) then (if (wrap64 (x3 - 1)) < (x0.length:Int) then (if ((Op.bytesLess (((Z1W x0 (wrap64 (x3 - 1))).f0).toList) (((Z1W x0 x3).f0).toList)) = true) then (Z1i.l0 k x0 (wrap64 (x3 + 1))) else (some false)) else (none)) else (none)) else (Z1i.l0 k x0 (wrap64 (x3 + 1))))) else (some false))) else (none)) else (some true)
def Z1i.f (k:Nat) (l0:List S147):Option (Bool):=if (l0.length:Int) > 60 then (some false) else (Z1i.l0 k l0 0)
mutual
def Zz.j0:Nat→List S147→Int→Bool→Option (Int×(List S162)×Bool)
 | 0,_,_,_ => none
 | k + 1,x0,x1,x15 => if x15 = true then (some (0,([]:List S162),false)) else (Zz.l0 k x0 0 x1 ([]:List S162))
def Zz.l0:Nat→List S147→Int→Int→List S162→Option (Int×(List S162)×Bool)
 | 0,_,_,_,_ => none
 | k + 1,x0,x7,x684000,x684001 => if x7 < (x0.length:Int) then (if 0≤x7 then (if x684001.length < 3518437208883 then (Zz.l0 k x0 (wrap64 (x7 + 1)) x684000 (x684001++[(⟨(Z1W x0 x7).f0,(Z1W x0 x7).f1,false⟩:S162)])) else (none)) else (none)) else (some (x684000,x684001,true))
end
def Zz.f (k:Nat) (l0:List S147) (a1:Int):Option (Int×(List S162)×Bool):=(Z1i.f k l0).bind fun t681 => (if t681 = true then ((ZD.f a1 0 100000).bind fun t682 => (Zz.j0 k l0 a1 (!t682))) else (Zz.j0 k l0 a1 true))
mutual
def ZU.j0:Nat→ByteArray→ByteArray→List S119→Bool→List S122→List Int→Int→Int→Int→List Int→List S145→Int→Option (List Int×Int×Int×Int×List Int×(List S145)×Int×(List S119)×Bool)
 | 0,_,_,_,_,_,_,_,_,_,_,_,_ => none
 | k + 1,x2,x15,x17,x51,x798000,x799000,x799001,x799002,x799003,x799004,x799005,x799006 => if x51 = true then (some (([]:List Int),0,0,0,([]:List Int),([]:List S145),0,(([]:List S119)),false)) else ((some (([(⟨1,x15,(⟨#[]⟩:ByteArray),x2⟩:S119)]:List S119):List S119)).bind fun y818 => (if y818.length + x17.length < 2513169434916 then (ZU.l0 k (y818++x17) 0 x798000 x799000 x799001 x799002 x799003 x799004 x799005 x799006) else (none)))
def ZU.l0:Nat→List S119→Int→List S122→List Int→Int→Int→Int→List Int→List S145→Int→Option (List Int×Int×Int×Int×List Int×(List S145)×Int×(List S119)×Bool)
 | 0,_,_,_,_,_,_,_,_,_,_ => none
 | k + 1,x19,x20,x798000,x799000,x799001,x799002,x799003,x799004,x799005,x799006 => if x20 < (x799000.length:Int) then (if 0≤x20 then ((Z0f.f k (rd x799000 x20)).bind fun t825 => (if x19.length < 2513169434916 then (ZU.l0 k (x19++[(⟨4,t825,(⟨#[]⟩:ByteArray),(⟨#[]⟩:ByteArray)⟩:S119)]) (wrap64 (x20 + 1)) x798000 x799000 x799001 x799002 x799003 x799004 x799005 x799006) else (none))) else (none)) else ((Z1Q.f k x798000 x19).bind fun bt829 => (if bt829.2.2.2.2.2.2.2 = true then (some (bt829.1,bt829.2.1,bt829.2.2.1,bt829.2.2.2.1,bt829.2.2.2.2.1,bt829.2.2.2.2.2.1,bt829.2.2.2.2.2.2.1,x19,true)) else (some (([]:List Int),0,0,0,([]:List Int),([]:List S145),0,(([]:List S119)),false))))
end
def ZU.f (k:Nat) (l0_0:List S122) (l1_0:List Int) (a1_1:Int) (a1_2:Int) (a1_3:Int) (l1_4:List Int) (l1_5:List S145) (a1_6:Int) (a2:ByteArray) (a3:Int) (a4:Int) (l5:List Int):Option (List Int×Int×Int×Int×List Int×(List S145)×Int×(List S119)×Bool):=(Z0f.f k a1_1).bind fun t800 => ((some (([]:List Int):List Int)).bind fun y804 => (if y804.length + l5.length < 17592186044416 then ((Z1q.f k (([a1_1]:List Int)) (wrap64 (a1_1 + 1)) a3 a4 (y804++l5)).bind fun bt811 => (if bt811.2 = true then (ZU.j0 k a2 t800 bt811.1 (t800.toList == ([]:List UInt8)) l0_0 l1_0 a1_1 a1_2 a1_3 l1_4 l1_5 a1_6) else (ZU.j0 k a2 t800 bt811.1 true l0_0 l1_0 a1_1 a1_2 a1_3 l1_4 l1_5 a1_6))) else (none)))
def Zp.j0:Nat→Int→Int→List Int→Bool→List S122→List Int→Int→Int→Int→List Int→List S145→Int→Option (List Int×Int×Int×Int×List Int×(List S145)×Int×(List S119)×Bool)
 | 0,_,_,_,_,_,_,_,_,_,_,_,_ => none
 | k + 1,x2,x3,x4,x30,x848000,x849000,x849001,x849002,x849003,x849004,x849005,x849006 => if x30 = true then (some (([]:List Int),0,0,0,([]:List Int),([]:List S145),0,(([]:List S119)),false)) else ((Zw.f k x848000 x849000 x849001 x849002 x849003 x849004 x849005 x849006).bind fun bt854 => ((Zz.f k bt854.1 x849006).bind fun bt858 => ((Z06.f k bt858.1 bt858.2.1).bind fun bt864 => ((Z1O.f k bt864.1).bind fun bt866 => ((ZU.f k x848000 x849000 x849001 x849002 x849003 x849004 x849005 x849006 bt866.1 x2 x3 x4).bind fun bt868 => (some (bt868.1,bt868.2.1,bt868.2.2.1,bt868.2.2.2.1,bt868.2.2.2.2.1,bt868.2.2.2.2.2.1,bt868.2.2.2.2.2.2.1,bt868.2.2.2.2.2.2.2.1,bt868.2.2.2.2.2.2.2.2)))))))
def Zp.f (k:Nat) (l0_0:List S122) (l1_0:List Int) (a1_1:Int) (a1_2:Int) (a1_3:Int) (l1_4:List Int) (l1_5:List S145) (a1_6:Int) (a2:Int) (a3:Int) (l4:List Int):Option (List Int×Int×Int×Int×List Int×(List S145)×Int×(List S119)×Bool):=(Z28.f k l0_0 l1_0 a1_1 a1_2 a1_3 l1_4 l1_5 a1_6).bind fun t850 => (if t850 = true then (Zp.j0 k a2 a3 l4 (a2 != a1_6) l0_0 l1_0 a1_1 a1_2 a1_3 l1_4 l1_5 a1_6) else (Zp.j0 k a2 a3 l4 true l0_0 l1_0 a1_1 a1_2 a1_3 l1_4 l1_5 a1_6))
def Zo.l0:Nat→Int→Int→Int→(List S122)→(List Int)→Int→Int→Int→(List Int)→(List S145)→Int→(List S122)→(List Int)→Int→Int→Int→(List Int)→(List S145)→Int→(List Int)→Int→Int→Option ((List S122)×(List Int)×Int×Int×Int×(List Int)×(List S145)×Int×(List Int)×Int×Int)
 | 0,_,_,_,_,_,_,_,_,_,_,_,_,_,_,_,_,_,_,_,_,_,_ => none
 | k + 1,x1,x11,x12,y4_0,y5_0,y5_1,y5_2,y5_3,y5_4,y5_5,y5_6,y6_0,y8_0,y8_1,y8_2,y8_3,y8_4,y8_5,y8_6,y10000_0,y10000_1,y10000_2 => if x12 < x1 then ((Z0o.f y10000_0 y10000_1 y10000_2 2).bind fun t3 => ((Zj.f k t3.2.1 t3.2.2.1 t3.2.2.2 (wrap64 ((wrap64 (x11 + 1)) + t3.1))).bind fun t4 => ((Z0I.f t4.2.2.1 t4.2.2.2.1 t4.2.2.2.2 6).bind fun t5 => (if t5.1 = true then ((Z17.f k 40 ((wrap64 (65 + x12)) % 256)).bind fun t6 => (if t4.2.1.length + 1 < 3518437208884 then ((Zb.f k y6_0 y8_0 y8_1 y8_2 y8_3 y8_4 y8_5 y8_6 t4.1 (t4.2.1++([(⟨(⟨#[122,122]⟩:ByteArray),t6,false⟩:S162)]:List S162))).bind fun t7 => (if t7.2.2.2.2.2.2.2.2 = true then ((Zg.f k y6_0 t7.2.2.2.2.2.2.2.1).bind fun t8 => ((Z0I.f t5.2.1 t5.2.2.1 t5.2.2.2 7).bind fun t9 => (if t9.1 = true then ((Zp.f k t8.1 t7.1 t7.2.1 t7.2.2.1 t7.2.2.2.1 t7.2.2.2.2.1 t7.2.2.2.2.2.1 t7.2.2.2.2.2.2.1 t7.2.2.2.2.2.2.1 1 t7.2.2.2.2.1).bind fun t10 => (if t10.2.2.2.2.2.2.2.2 = true then ((Zg.f k t8.1 t10.2.2.2.2.2.2.2.1).bind fun t11 => (Zo.l0 k x1 (wrap64 ((wrap64 (x11 + 1)) + t3.1)) (wrap64 (x12 + 1)) y4_0 y5_0 y5_1 y5_2 y5_3 y5_4 y5_5 y5_6 t11.1 t10.1 t10.2.1 t10.2.2.1 t10.2.2.2.1 t10.2.2.2.2.1 t10.2.2.2.2.2.1 t10.2.2.2.2.2.2.1 t9.2.1 t9.2.2.1 t9.2.2.2)) else (Zo.l0 k x1 (wrap64 ((wrap64 (x11 + 1)) + t3.1)) (wrap64 (x12 + 1)) y4_0 y5_0 y5_1 y5_2 y5_3 y5_4 y5_5 y5_6 t8.1 t7.1 t7.2.1 t7.2.2.1 t7.2.2.2.1 t7.2.2.2.2.1 t7.2.2.2.2.2.1 t7.2.2.2.2.2.2.1 t9.2.1 t9.2.2.1 t9.2.2.2))) else (Zo.l0 k x1 (wrap64 ((wrap64 (x11 + 1)) + t3.1)) (wrap64 (x12 + 1)) y4_0 y5_0 y5_1 y5_2 y5_3 y5_4 y5_5 y5_6 t8.1 t7.1 t7.2.1 t7.2.2.1 t7.2.2.2.1 t7.2.2.2.2.1 t7.2.2.2.2.2.1 t7.2.2.2.2.2.2.1 t9.2.1 t9.2.2.1 t9.2.2.2)))) else ((Z0I.f t5.2.1 t5.2.2.1 t5.2.2.2 7).bind fun t12 => (if t12.1 = true then ((Zp.f k y6_0 y8_0 y8_1 y8_2 y8_3 y8_4 y8_5 y8_6 y8_6 1 y8_4).bind fun t13 => (if t13.2.2.2.2.2.2.2.2 = true then ((Zg.f k y6_0 t13.2.2.2.2.2.2.2.1).bind fun t14 => (Zo.l0 k x1 (wrap64 ((wrap64 (x11 + 1)) + t3.1)) (wrap64 (x12 + 1)) y4_0 y5_0 y5_1 y5_2 y5_3 y5_4 y5_5 y5_6 t14.1 t13.1 t13.2.1 t13.2.2.1 t13.2.2.2.1 t13.2.2.2.2.1 t13.2.2.2.2.2.1 t13.2.2.2.2.2.2.1 t12.2.1 t12.2.2.1 t12.2.2.2)) else (Zo.l0 k x1 (wrap64 ((wrap64 (x11 + 1)) + t3.1)) (wrap64 (x12 + 1)) y4_0 y5_0 y5_1 y5_2 y5_3 y5_4 y5_5 y5_6 y6_0 y8_0 y8_1 y8_2 y8_3 y8_4 y8_5 y8_6 t12.2.1 t12.2.2.1 t12.2.2.2))) else (Zo.l0 k x1 (wrap64 ((wrap64 (x11 + 1)) + t3.1)) (wrap64 (x12 + 1)) y4_0 y5_0 y5_1 y5_2 y5_3 y5_4 y5_5 y5_6 y6_0 y8_0 y8_1 y8_2 y8_3 y8_4 y8_5 y8_6 t12.2.1 t12.2.2.1 t12.2.2.2))))) else none)) else ((Zb.f k y6_0 y8_0 y8_1 y8_2 y8_3 y8_4 y8_5 y8_6 t4.1 t4.2.1).bind fun t15 => (if t15.2.2.2.2.2.2.2.2 = true then ((Zg.f k y6_0 t15.2.2.2.2.2.2.2.1).bind fun t16 => ((Z0I.f t5.2.1 t5.2.2.1 t5.2.2.2 7).bind fun t17 => (if t17.1 = true then ((Zp.f k t16.1 t15.1 t15.2.1 t15.2.2.1 t15.2.2.2.1 t15.2.2.2.2.1 t15.2.2.2.2.2.1 t15.2.2.2.2.2.2.1 t15.2.2.2.2.2.2.1 1 t15.2.2.2.2.1).bind fun t18 => (if t18.2.2.2.2.2.2.2.2 = true then ((Zg.f k t16.1 t18.2.2.2.2.2.2.2.1).bind fun t19 => (Zo.l0 k x1 (wrap64 ((wrap64 (x11 + 1)) + t3.1)) (wrap64 (x12 + 1)) y4_0 y5_0 y5_1 y5_2 y5_3 y5_4 y5_5 y5_6 t19.1 t18.1 t18.2.1 t18.2.2.1 t18.2.2.2.1 t18.2.2.2.2.1 t18.2.2.2.2.2.1 t18.2.2.2.2.2.2.1 t17.2.1 t17.2.2.1 t17.2.2.2)) else (Zo.l0 k x1 (wrap64 ((wrap64 (x11 + 1)) + t3.1)) (wrap64 (x12 + 1)) y4_0 y5_0 y5_1 y5_2 y5_3 y5_4 y5_5 y5_6 t16.1 t15.1 t15.2.1 t15.2.2.1 t15.2.2.2.1 t15.2.2.2.2.1 t15.2.2.2.2.2.1 t15.2.2.2.2.2.2.1 t17.2.1 t17.2.2.1 t17.2.2.2))) else (Zo.l0 k x1 (wrap64 ((wrap64 (x11 + 1)) + t3.1)) (wrap64 (x12 + 1)) y4_0 y5_0 y5_1 y5_2 y5_3 y5_4 y5_5 y5_6 t16.1 t15.1 t15.2.1 t15.2.2.1 t15.2.2.2.1 t15.2.2.2.2.1 t15.2.2.2.2.2.1 t15.2.2.2.2.2.2.1 t17.2.1 t17.2.2.1 t17.2.2.2)))) else ((Z0I.f t5.2.1 t5.2.2.1 t5.2.2.2 7).bind fun t20 => (if t20.1 = true then ((Zp.f k y6_0 y8_0 y8_1 y8_2 y8_3 y8_4 y8_5 y8_6 y8_6 1 y8_4).bind fun t21 => (if t21.2.2.2.2.2.2.2.2 = true then ((Zg.f k y6_0 t21.2.2.2.2.2.2.2.1).bind fun t22 => (Zo.l0 k x1 (wrap64 ((wrap64 (x11 + 1)) + t3.1)) (wrap64 (x12 + 1)) y4_0 y5_0 y5_1 y5_2 y5_3 y5_4 y5_5 y5_6 t22.1 t21.1 t21.2.1 t21.2.2.1 t21.2.2.2.1 t21.2.2.2.2.1 t21.2.2.2.2.2.1 t21.2.2.2.2.2.2.1 t20.2.1 t20.2.2.1 t20.2.2.2)) else (Zo.l0 k x1 (wrap64 ((wrap64 (x11 + 1)) + t3.1)) (wrap64 (x12 + 1)) y4_0 y5_0 y5_1 y5_2 y5_3 y5_4 y5_5 y5_6 y6_0 y8_0 y8_1 y8_2 y8_3 y8_4 y8_5 y8_6 t20.2.1 t20.2.2.1 t20.2.2.2))) else (Zo.l0 k x1 (wrap64 ((wrap64 (x11 + 1)) + t3.1)) (wrap64 (x12 + 1)) y4_0 y5_0 y5_1 y5_2 y5_3 y5_4 y5_5 y5_6 y6_0 y8_0 y8_1 y8_2 y8_3 y8_4 y8_5 y8_6 t20.2.1 t20.2.2.1 t20.2.2.2))))))))) else (some (y6_0,y8_0,y8_1,y8_2,y8_3,y8_4,y8_5,y8_6,y10000_0,y10000_1,y10000_2))
def Zo.f (k:Nat) (s0_0:List Int) (s0_1:Int) (s0_2:Int) (a1:Int):Option ((List S122)×(List Int)×Int×Int×Int×(List Int)×(List S145)×Int×(List Int)×Int×Int):=(Z1b.f k s0_0 s0_1 s0_2).bind fun t0 => ((Z25.f k t0.1).bind fun t1 => ((Zl.f k t1.1).bind fun t2 => (Zo.l0 k a1 0 0 [] [] 0 0 0 [] [] 0 t1.1 t2.1 t2.2.1 t2.2.2.1 t2.2.2.2.1 t2.2.2.2.2.1 t2.2.2.2.2.2.1 t2.2.2.2.2.2.2.1 t0.2.1 t0.2.2.1 t0.2.2.2)))
def Z1w.f (k:Nat) (l0:List Int):Option ((List S122)×(List Int)×Int×Int×Int×(List Int)×(List S145)×Int×Int×(List S162)):=(Z1n.f k l0).bind fun t0 => ((Z3u.f l0).bind fun t1 => ((Z0o.f t0.1 t0.2.1 t0.2.2 t1).bind fun t2 => ((Zo.f k t2.2.1 t2.2.2.1 t2.2.2.2 t2.1).bind fun t3 => ((Z0o.f t3.2.2.2.2.2.2.2.2.1 t3.2.2.2.2.2.2.2.2.2.1 t3.2.2.2.2.2.2.2.2.2.2 3).bind fun t4 => ((Zj.f k t4.2.1 t4.2.2.1 t4.2.2.2 (wrap64 ((wrap64 (t3.2.2.2.2.2.2.2.1 + 1)) + t4.1))).bind fun t5 => (some (t3.1,t3.2.1,t3.2.2.1,t3.2.2.2.1,t3.2.2.2.2.1,t3.2.2.2.2.2.1,t3.2.2.2.2.2.2.1,t3.2.2.2.2.2.2.2.1,t5.1,t5.2.1)))))))
def ZN.f (a0:Int) (a1:Int) (a2:Int):Option (Bool):=if a0≥a1 then (some (decide (a0≤a2))) else (some false)
def Z3H.f (a0:ByteArray):Option (Bool):=(ZN.f (a0.size:Int) 1 10).bind fun t139 => (some t139)
def Z0B.l0:Nat→List S162→Int→Int→Int→List S162→Option (Bool)
 | 0,_,_,_,_,_ => none
 | k + 1,x6,x7,x8,x141000,x141001 => if x8 < x7 then (if 0≤x8 then (if x8 < (x6.length:Int) then ((Z3H.f ((ZS x6 x8).f0)).bind fun t143 => (if t143 = true then (if (((ZS x6 x8).f1).size:Int) > 40 then (some false) else (if (ZS x6 x8).f2 = true then (if ((ZS x6 x8).f1).toList = ([]:List UInt8) then (if x8 > 0 then (if 0≤(wrap64 (x8 - 1)) then (if (wrap64 (x8 - 1)) < (x141001.length:Int) then (if ((Op.bytesLess (((ZS x141001 (wrap64 (x8 - 1))).f0).toList) (((ZS x6 x8).f0).toList)) = true) then (Z0B.l0 k x6 x7 (wrap64 (x8 + 1)) x141000 x141001) else (some false)) else (none)) else (none)) else (Z0B.l0 k x6 x7 (wrap64 (x8 + 1)) x141000 x141001)) else (some false)) else (if x8 > 0 then (if 0≤(wrap64 (x8 - 1)) then (if (wrap64 (x8 - 1)) < (x141001.length:Int) then (if ((Op.bytesLess (((ZS x141001 (wrap64 (x8 - 1))).f0).toList) (((ZS x6 x8).f0).toList)) = true) then (Z0B.l0 k x6 x7 (wrap64 (x8 + 1)) x141000 x141001) else (some false)) else (none)) else (none)) else (Z0B.l0 k x6 x7 (wrap64 (x8 + 1)) x141000 x141001)))) else (some false))) else (none)) else (none)) else ((ZN.f x141000 0 100000).bind fun t146 => (if t146 = true then (some (decide ((x141001.length:Int)≤60))) else (some false)))
def Z0B.f (k:Nat) (a0_0:Int) (l0_1:List S162):Option (Bool):=Z0B.l0 k l0_1 (l0_1.length:Int) 0 a0_0 l0_1
def Z0t.l0:Nat→Int→List Int→Option (ByteArray×Bool)
 | 0,_,_ => none
 | k + 1,x0,x4 => if x0 > 127 then (if x4.length < 140737488355328 then (Z0t.l0 k (wrap64 (Int.tdiv x0 128)) (x4++[(wrap64 ((Int.tmod x0 128) + 128)) % 256])) else (none)) else (if x4.length < 140737488355328 then (some (strOfNums (x4++[(x0) % 256]),true)) else (none))
def Z0t.f (k:Nat) (a0:Int):Option (ByteArray×Bool):=(ZN.f a0 0 1000000000).bind fun t113 => (if t113 = true then (Z0t.l0 k a0 ([]:List Int)) else (some ((⟨#[]⟩:ByteArray),false)))
def Z1E.l0:Nat→List Int→List Int→Int→Int→Option (ByteArray×Bool)
 | 0,_,_,_,_ => none
 | k + 1,x4,x9,x10,x11 => if x11 < x10 then (if 0≤x11 then (if x11 < (x9.length:Int) then ((Z0t.f k (rd x9 x11)).bind fun bt148 => (if bt148.2 = true then (if x4.length + bt148.1.size < 140737488355328 then (Z1E.l0 k (x4++bytesOf bt148.1) x9 x10 (wrap64 (x11 + 1))) else (none)) else (some ((⟨#[]⟩:ByteArray),false)))) else (none)) else (none)) else (some (strOfNums x4,true))
def Z1E.f (k:Nat) (l0:List Int):Option (ByteArray×Bool):=Z1E.l0 k ([]:List Int) l0 (l0.length:Int) 0
def Z3m.f (k:Nat) (a0:ByteArray):Option (ByteArray×Bool):=if (a0.size:Int) > 20000 then (some ((⟨#[]⟩:ByteArray),false)) else ((Z0t.f k (a0.size:Int)).bind fun bt153 => (if bt153.1.size + a0.size≤9223372036854775807 then (some (bt153.1++a0,true)) else (none)))
def Z3f.f (k:Nat) (a0:ByteArray):Option (ByteArray):=(Z3m.f k a0).bind fun bt155 => (some bt155.1)
def Z5P.f (a0:Bool):Option (ByteArray):=if a0 = true then (some (⟨#[1]⟩:ByteArray)) else (some (⟨#[0]⟩:ByteArray))
def Z0u.l0:Nat→ByteArray→List S162→Int→Int→Option (ByteArray×Bool)
 | 0,_,_,_,_ => none
 | k + 1,x4,x22,x23,x24 => if x24 < x23 then (if 0≤x24 then (if x24 < (x22.length:Int) then ((Z3f.f k ((ZS x22 x24).f0)).bind fun t166 => ((Z5P.f ((ZS x22 x24).f2)).bind fun t167 => (if t166.size + t167.size≤9223372036854775807 then ((Z3f.f k ((ZS x22 x24).f1)).bind fun t168 => (if (t166++t167).size + t168.size≤9223372036854775807 then (if x4.size + ((t166++t167)++t168).size≤9223372036854775807 then (Z0u.l0 k (x4++((t166++t167)++t168)) x22 x23 (wrap64 (x24 + 1))) else (none)) else (none))) else (none)))) else (none)) else (none)) else (some (x4,true))
def Z0u.f (k:Nat) (a0_0:Int) (l0_1:List S162):Option (ByteArray×Bool):=(Z0B.f k a0_0 l0_1).bind fun t158 => (if t158 = true then ((Z1E.f k (([a0_0,(l0_1.length:Int)]:List Int))).bind fun bt162 => (Z0u.l0 k bt162.1 l0_1 (l0_1.length:Int) 0)) else (some ((⟨#[]⟩:ByteArray),false)))
mutual
def Z0a.l0:Nat→Int→ByteArray→Int→Option (Int)
 | 0,_,_,_ => none
 | k + 1,x0,x1,x5 => if x5 < (x1.size:Int) then (if 0≤x5 then (Z0a.l1 k (Go.bits .xor .u32 x0 ((bt x1 x5) % 4294967296)) x1 x5 0) else (none)) else (some x0)
def Z0a.l1:Nat→Int→ByteArray→Int→Int→Option (Int)
 | 0,_,_,_,_ => none
 | k + 1,x0,x1,x5,x6 => if x6 < 8 then (if (Int.tmod x0 2) = 1 then (Z0a.l1 k (Go.bits .xor .u32 ((Int.tdiv x0 2) % 4294967296) 3558460437) x1 x5 (wrap64 (x6 + 1))) else (Z0a.l1 k ((Int.tdiv x0 2) % 4294967296) x1 x5 (wrap64 (x6 + 1)))) else (Z0a.l0 k x0 x1 (wrap64 (x5 + 1)))
end
def Z0a.f (k:Nat) (a0:Int) (a1:ByteArray):Option (Int):=Z0a.l0 k a0 a1 0
def Z47.f (k:Nat) (a0:ByteArray):Option (Int):=(Z0a.f k 4294967295 a0).bind fun t120 => (some t120)
def Z2X.f (k:Nat) (a0:ByteArray):Option (ByteArray×Bool):=(ZN.f (a0.size:Int) 1 9000).bind fun t121 => (if t121 = true then ((Z0t.f k (a0.size:Int)).bind fun bt122 => ((Z47.f k a0).bind fun t124 => ((some (([(t124 / 16777216) % 256,(t124 / 65536) % 256,(t124 / 256) % 256,(t124) % 256]:List Int):List Int)).bind fun y125 => (if bt122.1.size + (strOfNums y125).size≤9223372036854775807 then (if (bt122.1++(strOfNums y125)).size + a0.size≤9223372036854775807 then (some ((bt122.1++(strOfNums y125))++a0,true)) else (none)) else (none))))) else (some ((⟨#[]⟩:ByteArray),false)))
def Z02.l0:Nat→List S122→Int→Int→List S122→Option (Bool)
 | 0,_,_,_,_ => none
 | k + 1,x6,x7,x8,x102000 => if x8 < x7 then (if 0≤x8 then (if x8 < (x6.length:Int) then ((ZN.f (((Z0k x6 x8).f0).size:Int) 1 12).bind fun t104 => (if t104 = true then (if (((Z0k x6 x8).f1).size:Int) > 20000 then (some false) else (if x8 > 0 then (if 0≤(wrap64 (x8 - 1)) then (if (wrap64 (x8 - 1)) < (x102000.length:Int) then (if ((Op.bytesLess (((Z0k x102000 (wrap64 (x8 - 1))).f0).toList) (((Z0k x6 x8).f0).toList)) = true) then (Z02.l0 k x6 x7 (wrap64 (x8 + 1)) x102000) else (some false)) else (none)) else (none)) else (Z02.l0 k x6 x7 (wrap64 (x8 + 1)) x102000))) else (some false))) else (none)) else (none)) else (some (decide ((x102000.length:Int)≤30)))
def Z02.f (k:Nat) (l0_0:List S122):Option (Bool):=Z02.l0 k l0_0 (l0_0.length:Int) 0 l0_0
def Z2W.f (a0 a1:ByteArray):Option Int:=some (Lib.compareBytes a0.data.toList a1.data.toList)
def Z3l.f (a0_0:ByteArray) (a0_1:ByteArray) (a1:ByteArray):Option Int:=(Z2W.f a0_0 a1).bind fun t0 => (some t0)
def Z1.l0:Nat→(List S122)→ByteArray→Int→Int→Int→Option (Int×Bool)
 | 0,_,_,_,_,_ => none
 | k + 1,x0,x1,x8,x9,x10 => if x9 < x10 then (if 0≤wrap64 (((wrap64 (x9 + x10)) % 18446744073709551616) / 2) then (if wrap64 (((wrap64 (x9 + x10)) % 18446744073709551616) / 2) < (x0.length:Int) then ((Z3l.f ((Z0k x0 (wrap64 (((wrap64 (x9 + x10)) % 18446744073709551616) / 2))).f0) ((Z0k x0 (wrap64 (((wrap64 (x9 + x10)) % 18446744073709551616) / 2))).f1) x1).bind fun t0 => (if t0 < 0 then (Z1.l0 k x0 x1 x8 (wrap64 ((wrap64 (((wrap64 (x9 + x10)) % 18446744073709551616) / 2)) + 1)) x10) else (Z1.l0 k x0 x1 x8 x9 (wrap64 (((wrap64 (x9 + x10)) % 18446744073709551616) / 2))))) else none) else none) else (if x9 < x8 then (if 0≤x9 then (if x9 < (x0.length:Int) then ((Z3l.f ((Z0k x0 x9).f0) ((Z0k x0 x9).f1) x1).bind fun t1 => (some (x9,(t1 == 0)))) else none) else none) else (some (x9,false)))
def Z1.f (k:Nat) (l0:List S122) (a1:ByteArray):Option (Int×Bool):=Z1.l0 k l0 a1 (l0.length:Int) 0 (l0.length:Int)
def Z2m.f (k:Nat) (l0_0:List S122) (a1:ByteArray):Option (Int×Bool):=(Z1.f k l0_0 a1).bind fun t0 => (some (t0.1,t0.2))
def Z1g.f (k:Nat) (l0_0:List S122) (a1:ByteArray):Option (ByteArray×Bool):=(Z02.f k l0_0).bind fun t0 => (if t0 = true then ((Z2m.f k l0_0 a1).bind fun t1 => (if t1.2 = true then (if 0≤t1.1 then (if t1.1 < (l0_0.length:Int) then (some ((Z0k l0_0 t1.1).f1,true)) else none) else none) else (some ((⟨#[]⟩:ByteArray),false)))) else (some ((⟨#[]⟩:ByteArray),false)))
def Z38.f (k:Nat) (a0:ByteArray):Option (ByteArray×Bool):=if (a0.size:Int) > 20000 then (some ((⟨#[]⟩:ByteArray),false)) else ((Z47.f k a0).bind fun t188 => ((some (([(t188 / 16777216) % 256,(t188 / 65536) % 256,(t188 / 256) % 256,(t188) % 256]:List Int):List Int)).bind fun y189 => (if a0.size + (strOfNums y189).size≤9223372036854775807 then (some (a0++(strOfNums y189),true)) else (none))))
def Z35.f (k:Nat) (a0:ByteArray):Option (ByteArray×Bool):=if (a0.size:Int) < 4 then (some ((⟨#[]⟩:ByteArray),false)) else (if 0≤(wrap64 ((a0.size:Int) - 4)) then (if (wrap64 ((a0.size:Int) - 4))≤(a0.size:Int) then ((Z38.f k (a0.extract 0 ((wrap64 ((a0.size:Int) - 4)):Int).toNat)).bind fun bt192 => (if bt192.2 = true then (if bt192.1.toList = a0.toList then (some (a0.extract 0 ((wrap64 ((a0.size:Int) - 4)):Int).toNat,true)) else (some ((⟨#[]⟩:ByteArray),false))) else (some ((⟨#[]⟩:ByteArray),false)))) else (none)) else (none))
mutual
def Zu.l0:Nat→ByteArray→Int→Int→Int→Option (Int×Int×Bool)
 | 0,_,_,_,_ => none
 | k + 1,x0,x1,x7,x8 => if x8 < 5 then (Zu.j1 k x0 x1 x7 x8 (decide ((wrap64 (x1 + x8)) < (x0.size:Int)))) else (Zu.j1 k x0 x1 x7 x8 false)
def Zu.j1:Nat→ByteArray→Int→Int→Int→Bool→Option (Int×Int×Bool)
 | 0,_,_,_,_,_ => none
 | k + 1,x0,x1,x7,x8,x26 => if x26 = true then (if 0≤(wrap64 (x1 + x8)) then (if (wrap64 (x1 + x8)) < (x0.size:Int) then (if 0≤(wrap64 (7 * x8)) then (if (wrap64 (bt x0 (wrap64 (x1 + x8)))) < 128 then ((Z0t.f k (wrap64 (x7 + (shl .i64 (Int.tmod (wrap64 (bt x0 (wrap64 (x1 + x8)))) 128) (wrap64 (7 * x8)))))).bind fun bt129 => (if bt129.2 = true then (if (bt129.1.size:Int) = (wrap64 (x8 + 1)) then (some (wrap64 (x7 + (shl .i64 (Int.tmod (wrap64 (bt x0 (wrap64 (x1 + x8)))) 128) (wrap64 (7 * x8)))),wrap64 ((wrap64 (x1 + x8)) + 1),true)) else (some (0,0,false))) else (some (0,0,false)))) else (Zu.l0 k x0 x1 (wrap64 (x7 + (shl .i64 (Int.tmod (wrap64 (bt x0 (wrap64 (x1 + x8)))) 128) (wrap64 (7 * x8))))) (wrap64 (x8 + 1)))) else (none)) else (none)) else (none)) else (some (0,0,false))
end
def Zu.f (k:Nat) (a0:ByteArray) (a1:Int):Option (Int×Int×Bool):=(ZN.f a1 0 (a0.size:Int)).bind fun t128 => (if t128 = true then (Zu.l0 k a0 a1 0 0) else (some (0,0,false)))
def ZK.f (k:Nat) (s0_0:ByteArray) (s0_1:Int) (s0_2:Bool):Option (Int×ByteArray×Int×Bool):=(Zu.f k s0_0 s0_1).bind fun bt169 => (if s0_2 = true then (some (0,s0_0,s0_1,true)) else (if bt169.2.2 = true then (some (bt169.1,s0_0,bt169.2.1,s0_2)) else (some (0,s0_0,s0_1,true))))
def Z1m.f (k:Nat) (l0_0:List Int) (s0_1:Int) (s0_2:Int) (s0_3:Int) (l0_4:List Int) (s1_0_0:ByteArray) (s1_0_1:Int) (s1_0_2:Bool):Option ((List Int)×Int×Int×Int×(List Int)×ByteArray×Int×Bool):=(ZK.f k s1_0_0 s1_0_1 s1_0_2).bind fun t0 => (if l0_0.length + 1 < 17592186044417 then (some ((l0_0++([t0.1]:List Int)),s0_1,s0_2,s0_3,l0_4,t0.2.1,t0.2.2.1,t0.2.2.2)) else none)
def Zs.l0:Nat→Int→Int→ByteArray→Int→Bool→(List Int)→Int→Int→Int→(List Int)→Option (ByteArray×Int×Bool×(List Int)×Int×Int×Int×(List Int))
 | 0,_,_,_,_,_,_,_,_,_,_ => none
 | k + 1,x4,x5,y10000_0,y10000_1,y10000_2,y10001_0,y10001_1,y10001_2,y10001_3,y10001_4 => if x5 < x4 then (if y10000_2 = true then (some (y10000_0,y10000_1,y10000_2,y10001_0,y10001_1,y10001_2,y10001_3,y10001_4)) else ((Z1m.f k y10001_0 y10001_1 y10001_2 y10001_3 y10001_4 y10000_0 y10000_1 y10000_2).bind fun t1 => (Zs.l0 k x4 (wrap64 (x5 + 1)) t1.2.2.2.2.2.1 t1.2.2.2.2.2.2.1 t1.2.2.2.2.2.2.2 t1.1 t1.2.1 t1.2.2.1 t1.2.2.2.1 t1.2.2.2.2.1))) else (some (y10000_0,y10000_1,y10000_2,y10001_0,y10001_1,y10001_2,y10001_3,y10001_4))
def Zs.f (k:Nat) (s0_0:ByteArray) (s0_1:Int) (s0_2:Bool) (s1_0_1:Int) (s1_0_2:Int) (s1_0_3:Int):Option (ByteArray×Int×Bool×(List Int)×Int×Int×Int×(List Int)):=(ZK.f k s0_0 s0_1 s0_2).bind fun t0 => (Zs.l0 k t0.1 0 t0.2.1 t0.2.2.1 t0.2.2.2 [] s1_0_1 s1_0_2 s1_0_3 [])
def Z1l.f (k:Nat) (l0_0:List Int) (s0_1:Int) (s0_2:Int) (s0_3:Int) (l0_4:List Int) (s1_0_0:ByteArray) (s1_0_1:Int) (s1_0_2:Bool):Option (Int×Int×Int×(List Int)×(List Int)×ByteArray×Int×Bool):=(ZK.f k s1_0_0 s1_0_1 s1_0_2).bind fun t0 => (if l0_4.length + 1 < 17592186044417 then (some (s0_1,s0_2,s0_3,(l0_4++([t0.1]:List Int)),l0_0,t0.2.1,t0.2.2.1,t0.2.2.2)) else none)
def Zt.l0:Nat→Int→Int→ByteArray→Int→Bool→(List Int)→Int→Int→Int→(List Int)→Option (ByteArray×Int×Bool×Int×Int×Int×(List Int)×(List Int))
 | 0,_,_,_,_,_,_,_,_,_,_ => none
 | k + 1,x4,x5,y10000_0,y10000_1,y10000_2,w3,y10001_1,y10001_2,y10001_3,y10001_4 => if x5 < x4 then (if y10000_2 = true then (some (y10000_0,y10000_1,y10000_2,y10001_1,y10001_2,y10001_3,y10001_4,w3)) else ((Z1l.f k w3 y10001_1 y10001_2 y10001_3 y10001_4 y10000_0 y10000_1 y10000_2).bind fun t1 => (Zt.l0 k x4 (wrap64 (x5 + 1)) t1.2.2.2.2.2.1 t1.2.2.2.2.2.2.1 t1.2.2.2.2.2.2.2 t1.2.2.2.2.1 t1.1 t1.2.1 t1.2.2.1 t1.2.2.2.1))) else (some (y10000_0,y10000_1,y10000_2,y10001_1,y10001_2,y10001_3,y10001_4,w3))
def Zt.f (k:Nat) (s0_0:ByteArray) (s0_1:Int) (s0_2:Bool) (l1_0_0:List Int) (s1_0_1:Int) (s1_0_2:Int) (s1_0_3:Int) (l1_0_4:List Int):Option (ByteArray×Int×Bool×Int×Int×Int×(List Int)×(List Int)):=(ZK.f k s0_0 s0_1 s0_2).bind fun t0 => (Zt.l0 k t0.1 0 t0.2.1 t0.2.2.1 t0.2.2.2 l1_0_0 s1_0_1 s1_0_2 s1_0_3 l1_0_4)
def Z23.f (s0_0:ByteArray) (s0_1:Int) (s0_2:Bool):Option (Bool×ByteArray×Int×Bool):=if s0_2 = true then (some (false,s0_0,s0_1,s0_2)) else (some ((s0_1 == (s0_0.size:Int)),s0_0,s0_1,s0_2))
def Z1u.l0:Nat→List Int→List Int→Int→Int→Option (Bool)
 | 0,_,_,_,_ => none
 | k + 1,x0,x5,x6,x7 => if x7 < x6 then (if 0≤x7 then (if x7 < (x5.length:Int) then ((ZN.f (rd x5 x7) 1 4).bind fun t195 => (if t195 = true then (if x7 > 0 then (if 0≤(wrap64 (x7 - 1)) then (if (wrap64 (x7 - 1)) < (x0.length:Int) then (if (rd x0 (wrap64 (x7 - 1)))≥(rd x5 x7) then (some false) else (Z1u.l0 k x0 x5 x6 (wrap64 (x7 + 1)))) else (none)) else (none)) else (Z1u.l0 k x0 x5 x6 (wrap64 (x7 + 1)))) else (some false))) else (none)) else (none)) else ((ZN.f (x0.length:Int) 1 4).bind fun t197 => (some t197))
def Z1u.f (k:Nat) (l0:List Int):Option (Bool):=Z1u.l0 k l0 l0 (l0.length:Int) 0
def Z0h.l0:Nat→List Int→Int→Int→List Int→Int→Int→Int→List Int→Option (Bool)
 | 0,_,_,_,_,_,_,_,_ => none
 | k + 1,x6,x7,x8,x199000,x199001,x199002,x199003,x199004 => if x8 < x7 then (if 0≤x8 then (if x8 < (x6.length:Int) then ((ZN.f (rd x6 x8) 0 999).bind fun t200 => (if t200 = true then (if (rd x6 x8)≥x199001 then (some false) else (if x8 > 0 then (if 0≤(wrap64 (x8 - 1)) then (if (wrap64 (x8 - 1)) < (x199000.length:Int) then (if (rd x199000 (wrap64 (x8 - 1)))≥(rd x6 x8) then (some false) else (Z0h.l0 k x6 x7 (wrap64 (x8 + 1)) x199000 x199001 x199002 x199003 x199004)) else (none)) else (none)) else (Z0h.l0 k x6 x7 (wrap64 (x8 + 1)) x199000 x199001 x199002 x199003 x199004))) else (some false))) else (none)) else (none)) else ((ZN.f (x199000.length:Int) 1 8).bind fun t202 => (if t202 = true then (if x199001≤1000 then ((ZN.f x199002 0 100000).bind fun t203 => (if t203 = true then ((ZN.f x199003 0 100000).bind fun t204 => (if t204 = true then ((Z1u.f k x199004).bind fun t205 => (some t205)) else (some false))) else (some false))) else (some false)) else (some false)))
def Z0h.f (k:Nat) (l0_0:List Int) (a0_1:Int) (a0_2:Int) (a0_3:Int) (l0_4:List Int):Option (Bool):=Z0h.l0 k l0_0 (l0_0.length:Int) 0 l0_0 a0_1 a0_2 a0_3 l0_4
def Z0U.f (k:Nat) (a0:ByteArray):Option ((List Int)×Int×Int×Int×(List Int)×Bool):=(Z35.f k a0).bind fun t0 => (if t0.2 = true then ((Zs.f k t0.1 0 false 0 0 0).bind fun t1 => ((ZK.f k t1.1 t1.2.1 t1.2.2.1).bind fun t2 => ((ZK.f k t2.2.1 t2.2.2.1 t2.2.2.2).bind fun t3 => ((ZK.f k t3.2.1 t3.2.2.1 t3.2.2.2).bind fun t4 => ((Zt.f k t4.2.1 t4.2.2.1 t4.2.2.2 t1.2.2.2.1 t2.1 t3.1 t4.1 t1.2.2.2.2.2.2.2).bind fun t5 => ((Z23.f t5.1 t5.2.1 t5.2.2.1).bind fun t6 => (if t6.1 = true then ((Z0h.f k t5.2.2.2.2.2.2.2 t5.2.2.2.1 t5.2.2.2.2.1 t5.2.2.2.2.2.1 t5.2.2.2.2.2.2.1).bind fun t7 => (if t7 = true then (some (t5.2.2.2.2.2.2.2,t5.2.2.2.1,t5.2.2.2.2.1,t5.2.2.2.2.2.1,t5.2.2.2.2.2.2.1,true)) else (some ([],0,0,0,[],false)))) else (some ([],0,0,0,[],false))))))))) else (some ([],0,0,0,[],false)))
def impl_Decimal.f (a0:Int):Option (ByteArray):=if -9223372036854775808≤a0 then (if a0≤9223372036854775807 then some ⟨(Lib.itoa a0).toArray⟩ else none) else none
def Z0l.f (a0:Int):Option (ByteArray):=(ZN.f a0 0 999).bind fun t111 => (if t111 = true then ((impl_Decimal.f a0).bind fun t112 => (if 1 + t112.size≤9223372036854775807 then (some ((⟨#[103]⟩:ByteArray)++t112)) else (none))) else (some (⟨#[]⟩:ByteArray)))
def Z0x.f (a0:ByteArray) (a1:ByteArray):Option Bool:=if (a0.size:Int)≥(a1.size:Int) then (if 0≤(a1.size:Int) then (if (a1.size:Int)≤(a0.size:Int) then (some ((a0.extract 0 ((a1.size:Int):Int).toNat).toList == a1.toList)) else none) else none) else (some false)
def Z0y.f (a0:ByteArray) (a1:ByteArray):Option (ByteArray×Bool):=(Z0x.f a0 a1).bind fun t0 => (if t0 = true then (if 0≤(a1.size:Int) then (if (a1.size:Int)≤(a0.size:Int) then (some (a0.extract ((a1.size:Int):Int).toNat a0.size,true)) else none) else none) else (some (a0,false)))
def Z1L.f (a0:ByteArray) (a1:ByteArray):Option (ByteArray×Bool):=(Z0y.f a0 a1).bind fun t0 => (some (t0.1,t0.2))
def strconv_Atoi.f (a0:ByteArray):Option (Int×Bool):=atoiO a0
def Z1s.f (a0:ByteArray):Option (Int×Bool):=(strconv_Atoi.f a0).bind fun t0 => (if t0.2 = true then ((impl_Decimal.f t0.1).bind fun t1 => (if t1.toList = a0.toList then ((ZN.f t0.1 0 1000000000).bind fun t2 => (if t2 = true then (some (t0.1,true)) else (some (0,false)))) else (some (0,false)))) else (some (0,false)))
def Z2N.f (a0:ByteArray):Option Bool:=(Z1L.f a0 (⟨#[103]⟩:ByteArray)).bind fun t0 => ((Z1s.f t0.1).bind fun t1 => (if t0.2 = true then (if t1.2 = true then ((Z0l.f t1.1).bind fun t2 => (some (t2.toList == a0.toList))) else (some false)) else (some false)))
def Z2v.f (a0:Int) (s1_0:ByteArray) (s1_1:ByteArray):Option (Bool×ByteArray×ByteArray):=(Z0l.f a0).bind fun t0 => (some ((t0.toList == s1_0.toList),s1_0,s1_1))
def ZB.l0:Nat→(List Int)→Int→Int→ByteArray→ByteArray→Option (Int×ByteArray×ByteArray)
 | 0,_,_,_,_,_ => none
 | k + 1,x0,x7,x8,y10000_0,y10000_1 => if x8 < x7 then (if 0≤x8 then (if x8 < (x0.length:Int) then ((Z2v.f (rd x0 x8) y10000_0 y10000_1).bind fun t0 => (if t0.1 = true then (some (x8,t0.2.1,t0.2.2)) else (ZB.l0 k x0 x7 (wrap64 (x8 + 1)) t0.2.1 t0.2.2))) else none) else none) else (some ((-1),y10000_0,y10000_1))
def ZB.f (k:Nat) (l0:List Int) (s1_0_0:ByteArray) (s1_0_1:ByteArray):Option (Int×ByteArray×ByteArray):=ZB.l0 k l0 (l0.length:Int) 0 s1_0_0 s1_0_1
def Z0v.f (k:Nat) (l0:List Int) (s1_0_0:ByteArray) (s1_0_1:ByteArray):Option (Bool×ByteArray×ByteArray):=(ZB.f k l0 s1_0_0 s1_0_1).bind fun t0 => (some (decide (t0.1≥0),t0.2.1,t0.2.2))
def Z0r.l0:Nat→(List S119)→(List S122)→Int→Int→(List Int)→Int→Int→Int→(List Int)→Option (List S119)
 | 0,_,_,_,_,_,_,_,_,_ => none
 | k + 1,x5,x21,x22,x23,y3_0,y3_1,y3_2,y3_3,y3_4 => if x23 < x22 then (if 0≤x23 then (if x23 < (x21.length:Int) then ((Z2N.f ((Z0k x21 x23).f0)).bind fun t1 => (if t1 = true then ((Z0v.f k y3_0 ((Z0k x21 x23).f0) ((Z0k x21 x23).f1)).bind fun t2 => (if t2.1 = true then (Z0r.l0 k x5 x21 x22 (wrap64 (x23 + 1)) y3_0 y3_1 y3_2 y3_3 y3_4) else (if x5.length + 1 < 2513169434917 then (Z0r.l0 k (x5++([(⟨4,t2.2.1,(⟨#[]⟩:ByteArray),(⟨#[]⟩:ByteArray)⟩:S119)]:List S119)) x21 x22 (wrap64 (x23 + 1)) y3_0 y3_1 y3_2 y3_3 y3_4) else none))) else (Z0r.l0 k x5 x21 x22 (wrap64 (x23 + 1)) y3_0 y3_1 y3_2 y3_3 y3_4))) else none) else none) else (some x5)
def Z0r.f (k:Nat) (l0_0:List S122) (l1_0:List Int) (a1_1:Int) (a1_2:Int) (a1_3:Int) (l1_4:List Int):Option (List S119):=(Z1g.f k l0_0 (⟨#[109,43]⟩:ByteArray)).bind fun t0 => (if t0.2 = true then (if 1 < 2513169434917 then (Z0r.l0 k ([]++([(⟨4,(⟨#[109,43]⟩:ByteArray),(⟨#[]⟩:ByteArray),(⟨#[]⟩:ByteArray)⟩:S119)]:List S119)) l0_0 (l0_0.length:Int) 0 l1_0 a1_1 a1_2 a1_3 l1_4) else none) else (Z0r.l0 k [] l0_0 (l0_0.length:Int) 0 l1_0 a1_1 a1_2 a1_3 l1_4))
mutual
def ZR.l0:Nat→ByteArray→List ByteArray→Int→Option (List ByteArray×Int)
 | 0,_,_,_ => none
 | k + 1,x0,x4,x5 => (Zu.f k x0 x5).bind fun bt131 => (if bt131.2.2 = true then (ZR.j1 k x0 x4 x5 bt131.1 bt131.2.1 (decide (bt131.1 > (wrap64 ((wrap64 ((x0.size:Int) - bt131.2.1)) - 4))))) else (ZR.j1 k x0 x4 x5 bt131.1 bt131.2.1 true))
def ZR.j1:Nat→ByteArray→List ByteArray→Int→Int→Int→Bool→Option (List ByteArray×Int)
 | 0,_,_,_,_,_,_ => none
 | k + 1,x0,x4,x5,x6,x7,x32 => if x32 = true then (some (x4,x5)) else (if 0≤(wrap64 (x7 + 4)) then (if (wrap64 (x7 + 4))≤(wrap64 ((wrap64 (x7 + 4)) + x6)) then (if (wrap64 ((wrap64 (x7 + 4)) + x6))≤(x0.size:Int) then ((Z2X.f k (x0.extract ((wrap64 (x7 + 4)):Int).toNat ((wrap64 ((wrap64 (x7 + 4)) + x6)):Int).toNat)).bind fun bt134 => (if bt134.2 = true then (if 0≤x5 then (if x5≤(wrap64 ((wrap64 (x7 + 4)) + x6)) then (if bt134.1.toList = (x0.extract (x5:Int).toNat ((wrap64 ((wrap64 (x7 + 4)) + x6)):Int).toNat).toList then (if x4.length < 8796093022208 then (ZR.l0 k x0 (x4++[x0.extract ((wrap64 (x7 + 4)):Int).toNat ((wrap64 ((wrap64 (x7 + 4)) + x6)):Int).toNat]) (wrap64 ((wrap64 (x7 + 4)) + x6))) else (none)) else (some (x4,x5))) else (none)) else (none)) else (some (x4,x5)))) else (none)) else (none)) else (none))
end
def ZR.f (k:Nat) (a0:ByteArray):Option (List ByteArray×Int):=if (a0.size:Int) > 20000 then (some (([]:List ByteArray),0)) else (ZR.l0 k a0 ([]:List ByteArray) 0)
def Z2I.f (k:Nat) (a0:ByteArray) (a1:Int):Option (ByteArray×Int×Bool):=(Zu.f k a0 a1).bind fun t0 => (if t0.2.2 = true then (if t0.1 > 20000 then (some ((⟨#[]⟩:ByteArray),0,false)) else (if t0.1 > wrap64 ((a0.size:Int) - t0.2.1) then (some ((⟨#[]⟩:ByteArray),0,false)) else (if 0≤t0.2.1 then (if t0.2.1≤wrap64 (t0.2.1 + t0.1) then (if wrap64 (t0.2.1 + t0.1)≤(a0.size:Int) then (some (a0.extract (t0.2.1:Int).toNat (wrap64 (t0.2.1 + t0.1):Int).toNat,wrap64 (t0.2.1 + t0.1),true)) else none) else none) else none))) else (some ((⟨#[]⟩:ByteArray),0,false)))
def Z1J.f (k:Nat) (s0_0:ByteArray) (s0_1:Int) (s0_2:Bool):Option (ByteArray×ByteArray×Int×Bool):=(Z2I.f k s0_0 s0_1).bind fun t0 => (if s0_2 = true then (some ((⟨#[]⟩:ByteArray),s0_0,s0_1,true)) else (if t0.2.2 = true then (some (t0.1,s0_0,t0.2.1,s0_2)) else (some ((⟨#[]⟩:ByteArray),s0_0,s0_1,true))))
def Z26.f (s0_0:ByteArray) (s0_1:Int) (s0_2:Bool):Option (Int×ByteArray×Int×Bool):=if s0_2 = true then (some (0,s0_0,s0_1,true)) else (if s0_1≥(s0_0.size:Int) then (some (0,s0_0,s0_1,true)) else (if 0≤wrap64 ((wrap64 (s0_1 + 1)) - 1) then (if wrap64 ((wrap64 (s0_1 + 1)) - 1) < (s0_0.size:Int) then (some (wrap64 (bt s0_0 (wrap64 ((wrap64 (s0_1 + 1)) - 1))),s0_0,wrap64 (s0_1 + 1),s0_2)) else none) else none))
def Z1x.f (k:Nat) (s0_0_0:ByteArray) (s0_0_1:Int) (s0_0_2:Bool) (s1_0:Int) (l1_1:List S162):Option (Int×(List S162)×ByteArray×Int×Bool):=(Z1J.f k s0_0_0 s0_0_1 s0_0_2).bind fun t0 => ((Z26.f t0.2.1 t0.2.2.1 t0.2.2.2).bind fun t1 => ((Z1J.f k t1.2.1 t1.2.2.1 t1.2.2.2).bind fun t2 => (if l1_1.length + 1 < 3518437208884 then (some (s1_0,(l1_1++([(⟨t0.1,t2.1,(t1.1 == 1)⟩:S162)]:List S162)),t2.2.1,t2.2.2.1,t2.2.2.2)) else none)))
def ZJ.l0:Nat→Int→Int→ByteArray→Int→Bool→Int→(List S162)→Option (ByteArray×Int×Bool×Int×(List S162))
 | 0,_,_,_,_,_,_,_ => none
 | k + 1,x4,x5,y10000_0,y10000_1,y10000_2,y10002_0,y10002_1 => if x5 < x4 then (if y10000_2 = true then (some (y10000_0,y10000_1,y10000_2,y10002_0,y10002_1)) else ((Z1x.f k y10000_0 y10000_1 y10000_2 y10002_0 y10002_1).bind fun t1 => (ZJ.l0 k x4 (wrap64 (x5 + 1)) t1.2.2.1 t1.2.2.2.1 t1.2.2.2.2 t1.1 t1.2.1))) else (some (y10000_0,y10000_1,y10000_2,y10002_0,y10002_1))
def ZJ.f (k:Nat) (s0_0:ByteArray) (s0_1:Int) (s0_2:Bool) (s1_1_0:Int):Option (ByteArray×Int×Bool×Int×(List S162)):=(ZK.f k s0_0 s0_1 s0_2).bind fun t0 => (ZJ.l0 k t0.1 0 t0.2.1 t0.2.2.1 t0.2.2.2 s1_1_0 [])
def Z1B.f (k:Nat) (a0:ByteArray):Option (Int×(List S162)×Bool):=(ZK.f k a0 0 false).bind fun t0 => ((ZJ.f k t0.2.1 t0.2.2.1 t0.2.2.2 t0.1).bind fun t1 => ((Z0u.f k t1.2.2.2.1 t1.2.2.2.2).bind fun t2 => (if t1.2.2.1 = true then (some (0,[],false)) else (if t2.2 = true then (if t2.1.toList = a0.toList then (some (t1.2.2.2.1,t1.2.2.2.2,true)) else (some (0,[],false))) else (some (0,[],false))))))
def ZW.l0:Nat→List S113→Int→List ByteArray→Int→Int→Option ((List S113)×Int)
 | 0,_,_,_,_,_ => none
 | k + 1,x6,x7,x19,x20,x21 => if x21 < x20 then (if 0≤x21 then (if x21 < (x19.length:Int) then ((Z1B.f k (rdOf ByteArray.empty x19 x21)).bind fun bt177 => (if bt177.2.2 = true then ((Z2X.f k (rdOf ByteArray.empty x19 x21)).bind fun bt183 => (if x6.length < 2513169434916 then (ZW.l0 k (x6++[(⟨(⟨bt177.1,bt177.2.1⟩:S59),rdOf ByteArray.empty x19 x21,wrap64 ((wrap64 (x7 + (bt183.1.size:Int))) - ((rdOf ByteArray.empty x19 x21).size:Int))⟩:S113)]) (wrap64 (x7 + (bt183.1.size:Int))) x19 x20 (wrap64 (x21 + 1))) else (none))) else (some (x6,x7)))) else (none)) else (none)) else (some (x6,x7))
def ZW.f (k:Nat) (a0:ByteArray):Option ((List S113)×Int):=(ZR.f k a0).bind fun bt172 => (ZW.l0 k ([]:List S113) 0 bt172.1 (bt172.1.length:Int) 0)
def Z0X.l0:Nat→Int→Int→List S145→List S162→Int→Int→Option ((List S145))
 | 0,_,_,_,_,_,_ => none
 | k + 1,x1,x7,x8,x31,x32,x33 => if x33 < x32 then (if 0≤x33 then (if x33 < (x31.length:Int) then ((Z3f.f k ((ZS x31 x33).f1)).bind fun t237 => ((Z3f.f k ((ZS x31 x33).f0)).bind fun t238 => (if (ZS x31 x33).f2 = true then (if x8.length < 3518437208883 then (Z0X.l0 k x1 (wrap64 (x7 + (wrap64 ((wrap64 ((t238.size:Int) + 1)) + (t237.size:Int))))) (x8++[(⟨(ZS x31 x33).f0,x1,0,(-1)⟩:S145)]) x31 x32 (wrap64 (x33 + 1))) else (none)) else (if x8.length < 3518437208883 then (Z0X.l0 k x1 (wrap64 (x7 + (wrap64 ((wrap64 ((t238.size:Int) + 1)) + (t237.size:Int))))) (x8++[(⟨(ZS x31 x33).f0,x1,wrap64 ((wrap64 (x7 + (wrap64 ((wrap64 ((t238.size:Int) + 1)) + (t237.size:Int))))) - (((ZS x31 x33).f1).size:Int)),(((ZS x31 x33).f1).size:Int)⟩:S145)]) x31 x32 (wrap64 (x33 + 1))) else (none))))) else (none)) else (none)) else (some x8)
def Z0X.f (k:Nat) (a0_0:Int) (l0_1:List S162) (a0_2:ByteArray) (a0_3:Int) (a1:Int):Option ((List S145)):=(Z1E.f k (([a0_0,(l0_1.length:Int)]:List Int))).bind fun bt233 => (Z0X.l0 k a1 (wrap64 (a0_3 + (bt233.1.size:Int))) ([]:List S145) l0_1 (l0_1.length:Int) 0)
def Z1d.l0:Nat→Int→List S145→List ByteArray→Int→List S113→Int→Int→Option ((List S145)×List ByteArray×Int)
 | 0,_,_,_,_,_,_,_ => none
 | k + 1,x1,x9,x10,x11,x19,x20,x21 => if x21 < x20 then (if 0≤x21 then (if x21 < (x19.length:Int) then ((Z0X.f k ((Z3N x19 x21).f0.f0) ((Z3N x19 x21).f0.f1) ((Z3N x19 x21).f1) ((Z3N x19 x21).f2) x1).bind fun t251 => (if x9.length + t251.length < 3518437208883 then (if x10.length < 8796093022208 then (Z1d.l0 k x1 (x9++t251) (x10++[(Z3N x19 x21).f1]) (mx x11 ((Z3N x19 x21).f0.f0)) x19 x20 (wrap64 (x21 + 1))) else (none)) else (none))) else (none)) else (none)) else (some (x9,x10,x11))
def Z1d.f (k:Nat) (a0:ByteArray) (a1:Int):Option ((List S145)×List ByteArray×Int):=(ZW.f k a0).bind fun bt245 => (Z1d.l0 k a1 ([]:List S145) ([]:List ByteArray) (-1) bt245.1 (bt245.1.length:Int) 0)
def Z1h.l0:Nat→List S145→List S145→Int→Int→Option (Bool)
 | 0,_,_,_,_ => none
 | k + 1,x0,x5,x6,x7 => if x7 < x6 then (if 0≤x7 then (if x7 < (x5.length:Int) then ((Z3H.f ((Za x5 x7).f0)).bind fun t262 => (if t262 = true then ((ZN.f ((Za x5 x7).f1) 0 999).bind fun t263 => (if t263 = true then ((ZN.f ((Za x5 x7).f2) 0 20000).bind fun t264 => (if t264 = true then ((ZN.f ((Za x5 x7).f3) 0 40).bind fun t265 => (if t265 = true then (if x7 > 0 then (if 0≤(wrap64 (x7 - 1)) then (if (wrap64 (x7 - 1)) < (x0.length:Int) then (if ((Op.bytesLess (((Za x0 (wrap64 (x7 - 1))).f0).toList) (((Za x5 x7).f0).toList)) = true) then (Z1h.l0 k x0 x5 x6 (wrap64 (x7 + 1))) else (some false)) else (none)) else (none)) else (Z1h.l0 k x0 x5 x6 (wrap64 (x7 + 1)))) else (some false))) else (some false))) else (some false))) else (some false))) else (none)) else (none)) else (some (decide ((x0.length:Int)≤60)))
def Z1h.f (k:Nat) (l0:List S145):Option (Bool):=Z1h.l0 k l0 l0 (l0.length:Int) 0
def Z2V.f (a0_0:ByteArray) (a0_1:Int) (a0_2:Int) (a0_3:Int) (a1:ByteArray):Option Int:=(Z2W.f a0_0 a1).bind fun t0 => (some t0)
def Z0.l0:Nat→(List S145)→ByteArray→Int→Int→Int→Option (Int×Bool)
 | 0,_,_,_,_,_ => none
 | k + 1,x0,x1,x8,x9,x10 => if x9 < x10 then (if 0≤wrap64 (((wrap64 (x9 + x10)) % 18446744073709551616) / 2) then (if wrap64 (((wrap64 (x9 + x10)) % 18446744073709551616) / 2) < (x0.length:Int) then ((Z2V.f ((Za x0 (wrap64 (((wrap64 (x9 + x10)) % 18446744073709551616) / 2))).f0) ((Za x0 (wrap64 (((wrap64 (x9 + x10)) % 18446744073709551616) / 2))).f1) ((Za x0 (wrap64 (((wrap64 (x9 + x10)) % 18446744073709551616) / 2))).f2) ((Za x0 (wrap64 (((wrap64 (x9 + x10)) % 18446744073709551616) / 2))).f3) x1).bind fun t0 => (if t0 < 0 then (Z0.l0 k x0 x1 x8 (wrap64 ((wrap64 (((wrap64 (x9 + x10)) % 18446744073709551616) / 2)) + 1)) x10) else (Z0.l0 k x0 x1 x8 x9 (wrap64 (((wrap64 (x9 + x10)) % 18446744073709551616) / 2))))) else none) else none) else (if x9 < x8 then (if 0≤x9 then (if x9 < (x0.length:Int) then ((Z2V.f ((Za x0 x9).f0) ((Za x0 x9).f1) ((Za x0 x9).f2) ((Za x0 x9).f3) x1).bind fun t1 => (some (x9,(t1 == 0)))) else none) else none) else (some (x9,false)))
def Z0.f (k:Nat) (l0:List S145) (a1:ByteArray):Option (Int×Bool):=Z0.l0 k l0 a1 (l0.length:Int) 0 (l0.length:Int)
def Z0i.f (l0:List S145) (a1 a2:Int):Option (List S145):=delO a1 a2 l0
def Z03.f (l0:List S145) (a1:Int) (l2:List S145):Option ((List S145)×(List S145)):=(insO 40 l0 a1 l2).bind fun t => some (t,l2)
def Z0s.l0:Nat→(List S145)→(List S145)→Int→Int→Option ((List S145)×Bool)
 | 0,_,_,_,_ => none
 | k + 1,x6,x16,x17,x18 => if x18 < x17 then (if 0≤x18 then (if x18 < (x16.length:Int) then ((Z0.f k x6 ((Za x16 x18).f0)).bind fun t1 => (if (Za x16 x18).f3 = (-1) then (if t1.2 = true then ((Z0i.f x6 t1.1 (wrap64 (t1.1 + 1))).bind fun t2 => (Z0s.l0 k t2 x16 x17 (wrap64 (x18 + 1)))) else (if (Za x16 x18).f3 = (-1) then (Z0s.l0 k x6 x16 x17 (wrap64 (x18 + 1))) else (if t1.2 = true then (if 0≤t1.1 then (if t1.1 < (x6.length:Int) then (Z0s.l0 k (x6.set (t1.1:Int).toNat (⟨(Za x16 x18).f0,(Za x16 x18).f1,(Za x16 x18).f2,(Za x16 x18).f3⟩:S145)) x16 x17 (wrap64 (x18 + 1))) else none) else none) else ((Z03.f x6 t1.1 ([(⟨(Za x16 x18).f0,(Za x16 x18).f1,(Za x16 x18).f2,(Za x16 x18).f3⟩:S145)]:List S145)).bind fun t3 => (Z0s.l0 k t3.1 x16 x17 (wrap64 (x18 + 1))))))) else (if (Za x16 x18).f3 = (-1) then (Z0s.l0 k x6 x16 x17 (wrap64 (x18 + 1))) else (if t1.2 = true then (if 0≤t1.1 then (if t1.1 < (x6.length:Int) then (Z0s.l0 k (x6.set (t1.1:Int).toNat (⟨(Za x16 x18).f0,(Za x16 x18).f1,(Za x16 x18).f2,(Za x16 x18).f3⟩:S145)) x16 x17 (wrap64 (x18 + 1))) else none) else none) else ((Z03.f x6 t1.1 ([(⟨(Za x16 x18).f0,(Za x16 x18).f1,(Za x16 x18).f2,(Za x16 x18).f3⟩:S145)]:List S145)).bind fun t4 => (Z0s.l0 k t4.1 x16 x17 (wrap64 (x18 + 1)))))))) else none) else none) else ((Z1h.f k x6).bind fun t5 => (if t5 = true then (some (x6,true)) else (some ([],false))))
def Z0s.f (k:Nat) (l0:List S145) (l1:List S145):Option ((List S145)×Bool):=(Z1h.f k l0).bind fun t0 => (if t0 = true then (if l0.length < 3518437208884 then (Z0s.l0 k ([]++l0) l1 (l1.length:Int) 0) else none) else (some ([],false)))
mutual
def Zm.l0:Nat→(List Int)→Int→Int→(List S122)→(List Int)→Int→Int→Int→(List Int)→(List S145)→Int→Int→Int→Int→(List Int)→Option ((List Int)×Int×Int×Int×(List Int)×(List S145)×Int×(List S119)×Int)
 | 0,_,_,_,_,_,_,_,_,_,_,_,_,_,_,_ => none
 | k + 1,x49,x50,x51,y1_0,y2_0,y2_1,y2_2,y2_3,y2_4,y2_5,y2_6,y7_1,y7_2,y7_3,y7_4 => if x51 < x50 then (if 0≤x51 then (if x51 < (x49.length:Int) then ((Z0l.f (rd x49 x51)).bind fun t3 => ((Z1g.f k y1_0 t3).bind fun t4 => (if t4.2 = true then (Zm.l0 k x49 x50 (wrap64 (x51 + 1)) y1_0 y2_0 y2_1 y2_2 y2_3 y2_4 y2_5 y2_6 y7_1 y7_2 y7_3 y7_4) else (some ([],0,0,0,[],[],0,[],3))))) else none) else none) else ((Z0r.f k y1_0 x49 y7_1 y7_2 y7_3 y7_4).bind fun t5 => (Zm.l1 k t5 [] x49 (x49.length:Int) 0 y1_0 y2_0 y2_1 y2_2 y2_3 y2_4 y2_5 y2_6 y7_1 y7_2 y7_3 y7_4 y7_1 y7_2 y7_3 [] y7_2))
def Zm.l1:Nat→(List S119)→(List S145)→(List Int)→Int→Int→(List S122)→(List Int)→Int→Int→Int→(List Int)→(List S145)→Int→Int→Int→Int→(List Int)→Int→Int→Int→(List S145)→Int→Option ((List Int)×Int×Int×Int×(List Int)×(List S145)×Int×(List S119)×Int)
 | 0,_,_,_,_,_,_,_,_,_,_,_,_,_,_,_,_,_,_,_,_,_,_ => none
 | k + 1,x14,x15,x74,x75,x76,y1_0,y2_0,y2_1,y2_2,y2_3,y2_4,y2_5,y2_6,y7_1,y7_2,y7_3,y7_4,y13_1,y13_2,y13_3,y13_5,y13_6 => if x76 < x75 then (if 0≤x76 then (if x76 < (x74.length:Int) then ((Z0l.f (rd x74 x76)).bind fun t6 => ((Z1g.f k y1_0 t6).bind fun t7 => ((Z1d.f k t7.1 (rd x74 x76)).bind fun t8 => ((ZW.f k t7.1).bind fun t9 => (if t9.2 < (t7.1.size:Int) then (if x76 < wrap64 ((x74.length:Int) - 1) then (some ([],0,0,0,[],[],0,[],4)) else (if t9.2 < (t7.1.size:Int) then ((Z0l.f (rd x74 x76)).bind fun t10 => (if 0≤t9.2 then (if t9.2≤(t7.1.size:Int) then (if x14.length + 1 < 2513169434917 then (if x15.length + t8.1.length < 3518437208884 then (Zm.l1 k (x14++([(⟨1,t10,(⟨#[]⟩:ByteArray),t7.1.extract 0 (t9.2:Int).toNat⟩:S119)]:List S119)) (x15++t8.1) x74 x75 (wrap64 (x76 + 1)) y1_0 y2_0 y2_1 y2_2 y2_3 y2_4 y2_5 y2_6 y7_1 y7_2 y7_3 y7_4 y13_1 y13_2 y13_3 y13_5 (mx y13_6 t8.2.2)) else none) else none) else none) else none)) else (if x15.length + t8.1.length < 3518437208884 then (Zm.l1 k x14 (x15++t8.1) x74 x75 (wrap64 (x76 + 1)) y1_0 y2_0 y2_1 y2_2 y2_3 y2_4 y2_5 y2_6 y7_1 y7_2 y7_3 y7_4 y13_1 y13_2 y13_3 y13_5 (mx y13_6 t8.2.2)) else none))) else (if t9.2 < (t7.1.size:Int) then ((Z0l.f (rd x74 x76)).bind fun t11 => (if 0≤t9.2 then (if t9.2≤(t7.1.size:Int) then (if x14.length + 1 < 2513169434917 then (if x15.length + t8.1.length < 3518437208884 then (Zm.l1 k (x14++([(⟨1,t11,(⟨#[]⟩:ByteArray),t7.1.extract 0 (t9.2:Int).toNat⟩:S119)]:List S119)) (x15++t8.1) x74 x75 (wrap64 (x76 + 1)) y1_0 y2_0 y2_1 y2_2 y2_3 y2_4 y2_5 y2_6 y7_1 y7_2 y7_3 y7_4 y13_1 y13_2 y13_3 y13_5 (mx y13_6 t8.2.2)) else none) else none) else none) else none)) else (if x15.length + t8.1.length < 3518437208884 then (Zm.l1 k x14 (x15++t8.1) x74 x75 (wrap64 (x76 + 1)) y1_0 y2_0 y2_1 y2_2 y2_3 y2_4 y2_5 y2_6 y7_1 y7_2 y7_3 y7_4 y13_1 y13_2 y13_3 y13_5 (mx y13_6 t8.2.2)) else none))))))) else none) else none) else ((Z0s.f k [] x15).bind fun t12 => (if t12.2 = true then (some (x74,y13_1,y13_2,y13_3,y7_4,t12.1,y13_6,x14,0)) else (some ([],0,0,0,[],[],0,[],4))))
end
def Zm.f (k:Nat) (l0_0:List S122):Option ((List Int)×Int×Int×Int×(List Int)×(List S145)×Int×(List S119)×Int):=(Z02.f k l0_0).bind fun t0 => (if t0 = true then ((Z1g.f k l0_0 (⟨#[109]⟩:ByteArray)).bind fun t1 => ((Z0U.f k t1.1).bind fun t2 => (if t1.2 = true then (if t2.2.2.2.2.2 = true then (Zm.l0 k t2.1 (t2.1.length:Int) 0 l0_0 [] 0 0 0 [] [] 0 t2.2.1 t2.2.2.1 t2.2.2.2.1 t2.2.2.2.2.1) else (some ([],0,0,0,[],[],0,[],2))) else (some ([],0,0,0,[],[],0,[],2))))) else (some ([],0,0,0,[],[],0,[],1)))
def ZI.l0:Nat→(List Int)→(List Int)→Int→Int→Option Bool
 | 0,_,_,_,_ => none
 | k + 1,x0,x1,x12,x13 => if x13 < x12 then (if 0≤x13 then (if x13 < (x0.length:Int) then (if x13 < (x1.length:Int) then (if rd x0 x13 = rd x1 x13 then (ZI.l0 k x0 x1 x12 (wrap64 (x13 + 1))) else (some false)) else none) else none) else none) else (some true)
def ZI.f (k:Nat) (l0:List Int) (l1:List Int):Option Bool:=if (l0.length:Int) = (l1.length:Int) then (ZI.l0 k l0 l1 (l0.length:Int) 0) else (some false)
def Z1M.f (k:Nat) (l0_0:List Int) (a0_1:Int) (a0_2:Int) (a0_3:Int) (l0_4:List Int) (l1_0:List Int) (a1_1:Int) (a1_2:Int) (a1_3:Int) (l1_4:List Int):Option Bool:=(ZI.f k l0_0 l1_0).bind fun t0 => (if t0 = true then (if a0_1 = a1_1 then (if a0_2 = a1_2 then (if a0_3 = a1_3 then ((ZI.f k l0_4 l1_4).bind fun t1 => (some t1)) else (some false)) else (some false)) else (some false)) else (some false))
def Zd.l0:Nat→(List S145)→(List S145)→Int→Int→Option Bool
 | 0,_,_,_,_ => none
 | k + 1,x0,x1,x12,x13 => if x13 < x12 then (if 0≤x13 then (if x13 < (x0.length:Int) then (if x13 < (x1.length:Int) then (if ((((Za x0 x13).f0).toList == ((Za x1 x13).f0).toList) && ((((Za x0 x13).f1) == ((Za x1 x13).f1)) && ((((Za x0 x13).f2) == ((Za x1 x13).f2)) && (((Za x0 x13).f3) == ((Za x1 x13).f3))))) = true then (Zd.l0 k x0 x1 x12 (wrap64 (x13 + 1))) else (some false)) else none) else none) else none) else (some true)
def Zd.f (k:Nat) (l0:List S145) (l1:List S145):Option Bool:=if (l0.length:Int) = (l1.length:Int) then (Zd.l0 k l0 l1 (l0.length:Int) 0) else (some false)
def Z2K.f (k:Nat) (l0_0:List Int) (a0_1:Int) (a0_2:Int) (a0_3:Int) (l0_4:List Int) (l0_5:List S145) (a0_6:Int) (l1_0:List Int) (a1_1:Int) (a1_2:Int) (a1_3:Int) (l1_4:List Int) (l1_5:List S145) (a1_6:Int):Option Bool:=(Z1M.f k l0_0 a0_1 a0_2 a0_3 l0_4 l1_0 a1_1 a1_2 a1_3 l1_4).bind fun t0 => (if t0 = true then ((Zd.f k l0_5 l1_5).bind fun t1 => (if t1 = true then (some (a0_6 == a1_6)) else (some false))) else (some false))
def Z42.f (k:Nat) (l0_0:List S122) (l1_0:List Int) (a1_1:Int) (a1_2:Int) (a1_3:Int) (l1_4:List Int) (l1_5:List S145) (a1_6:Int):Option Bool:=(Zm.f k l0_0).bind fun t0 => (if t0.2.2.2.2.2.2.2.2 = 0 then (if (t0.2.2.2.2.2.2.2.1.length:Int) = 0 then ((Z2K.f k t0.1 t0.2.1 t0.2.2.1 t0.2.2.2.1 t0.2.2.2.2.1 t0.2.2.2.2.2.1 t0.2.2.2.2.2.2.1 l1_0 a1_1 a1_2 a1_3 l1_4 l1_5 a1_6).bind fun t1 => (some t1)) else (some false)) else (some false))
def Z0Q.f (l0_0:List S122):Option (List S122):=if l0_0.length < 4398046511105 then (some ([]++l0_0)) else none
def Z0F.f (l0:List S122) (a1:Int) (l2:List S122):Option ((List S122)×(List S122)):=(insO 32 l0 a1 l2).bind fun t => some (t,l2)
def Z29.f (k:Nat) (l0_0:List S122) (a1:ByteArray) (a2:ByteArray):Option (List S122):=(Z0Q.f l0_0).bind fun t0 => ((Z2m.f k l0_0 a1).bind fun t1 => (if t1.2 = true then (if 0≤t1.1 then (if t1.1 < (t0.length:Int) then (some (t0.set (t1.1:Int).toNat (⟨(Z0k t0 t1.1).f0,a2⟩:S122))) else none) else none) else ((Z0F.f t0 t1.1 ([(⟨a1,a2⟩:S122)]:List S122)).bind fun t2 => (some t2.1))))
def Z0D.f (l0:List S122) (a1 a2:Int):Option (List S122):=delO a1 a2 l0
def Z30.f (k:Nat) (l0_0:List S122) (a1:ByteArray):Option (List S122):=(Z0Q.f l0_0).bind fun t0 => ((Z2m.f k l0_0 a1).bind fun t1 => (if t1.2 = true then ((Z0D.f t0 t1.1 (wrap64 (t1.1 + 1))).bind fun t2 => (some t2)) else (some t0)))
def Z41.f (k:Nat) (l0_0:List S122) (a1_0:Int) (a1_1:ByteArray) (a1_2:ByteArray) (a1_3:ByteArray):Option ((List S122)×Bool):=(Z02.f k l0_0).bind fun t0 => (if t0 = true then ((Z1g.f k l0_0 a1_1).bind fun t1 => (if a1_0 = 1 then ((Z29.f k l0_0 a1_1 a1_3).bind fun t2 => ((Z02.f k t2).bind fun t3 => (if t3 = true then (some (t2,true)) else (some ([],false))))) else (if a1_0 = 2 then (if t1.1.size + a1_3.size≤9223372036854775807 then ((Z29.f k l0_0 a1_1 (t1.1++a1_3)).bind fun t4 => ((Z02.f k t4).bind fun t5 => (if t5 = true then (some (t4,true)) else (some ([],false))))) else none) else (if a1_0 = 3 then ((Z0Q.f l0_0).bind fun t6 => (if a1_1.toList = a1_2.toList then (if t1.2 = true then ((Z02.f k t6).bind fun t10 => (if t10 = true then (some (t6,true)) else (some ([],false)))) else (some ([],false))) else ((Z30.f k l0_0 a1_1).bind fun t7 => ((Z29.f k t7 a1_2 t1.1).bind fun t8 => (if t1.2 = true then ((Z02.f k t8).bind fun t9 => (if t9 = true then (some (t8,true)) else (some ([],false)))) else (some ([],false))))))) else (if a1_0 = 4 then ((Z30.f k l0_0 a1_1).bind fun t11 => (if t1.2 = true then ((Z02.f k t11).bind fun t12 => (if t12 = true then (some (t11,true)) else (some ([],false)))) else (some ([],false)))) else (some ([],false))))))) else (some ([],false)))
def Z18.l0:Nat→(List S119)→(List S119)→Int→Int→(List S122)→(List S122)→Option ((List S122)×Int)
 | 0,_,_,_,_,_,_ => none
 | k + 1,x1,x22,x23,x24,y4_0,y6_0 => if x24 < x23 then (if 0≤x24 then (if x24 < (x22.length:Int) then ((Z41.f k y6_0 ((ZX x22 x24).f0) ((ZX x22 x24).f1) ((ZX x22 x24).f2) ((ZX x22 x24).f3)).bind fun t2 => (if t2.2 = true then (Z18.l0 k x1 x22 x23 (wrap64 (x24 + 1)) y4_0 t2.1) else (some (y6_0,x24)))) else none) else none) else (some (y6_0,(x1.length:Int)))
def Z18.f (k:Nat) (l0_0:List S122) (l1:List S119):Option ((List S122)×Int):=(Z02.f k l0_0).bind fun t0 => (if t0 = true then (if (l1.length:Int) > 60 then (some ([],0)) else ((Z0Q.f l0_0).bind fun t1 => (Z18.l0 k l1 l1 (l1.length:Int) 0 [] t1))) else (some ([],0)))
def Z2M.f (k:Nat) (l0_0:List S122) (l1:List S119):Option ((List Int)×Int×Int×Int×(List Int)×(List S145)×Int×(List S119)×Bool):=(Z18.f k l0_0 l1).bind fun t0 => ((Zm.f k t0.1).bind fun t1 => (if t0.2 < (l1.length:Int) then (some ([],0,0,0,[],[],0,[],false)) else (if t1.2.2.2.2.2.2.2.2 = 0 then (if (t1.2.2.2.2.2.2.2.1.length:Int) > 0 then (some ([],0,0,0,[],[],0,[],false)) else (some (t1.1,t1.2.1,t1.2.2.1,t1.2.2.2.1,t1.2.2.2.2.1,t1.2.2.2.2.2.1,t1.2.2.2.2.2.2.1,l1,true))) else (some ([],0,0,0,[],[],0,[],false)))))
def Z2i.f (l0_0:List Int) (a0_1:Int) (a0_2:Int) (a0_3:Int) (l0_4:List Int):Option ((List Int)×Int×Int×Int×(List Int)):=if l0_0.length < 17592186044417 then (if l0_4.length < 17592186044417 then (some (([]++l0_0),a0_1,a0_2,a0_3,([]++l0_4))) else none) else none
def Z16.f (l0:List (List Int)):Option (List Int):=if l0.length≤1000 then (if 1≤l0.length then (if l0.flatten.length * 8≤140737488355328 then some l0.flatten else none) else none) else none
def Z1N.f (k:Nat) (l0_0:List Int) (a0_1:Int) (a0_2:Int) (a0_3:Int) (l0_4:List Int):Option (ByteArray×Bool):=(Z0h.f k l0_0 a0_1 a0_2 a0_3 l0_4).bind fun t0 => (if t0 = true then ((Z16.f ([([(l0_0.length:Int)]:List Int),l0_0,([a0_1,a0_2,a0_3,(l0_4.length:Int)]:List Int),l0_4]:List (List Int))).bind fun t1 => ((Z1E.f k t1).bind fun t2 => ((Z38.f k t2.1).bind fun t3 => (some (t3.1,t3.2))))) else (some ((⟨#[]⟩:ByteArray),false)))
def Z3x.f (k:Nat) (l0_0:List Int) (a0_1:Int) (a0_2:Int) (a0_3:Int) (l0_4:List Int):Option ((List S119)×Bool):=(Z1N.f k l0_0 a0_1 a0_2 a0_3 l0_4).bind fun bt1265 => (some ((([(⟨1,(⟨#[109,43]⟩:ByteArray),(⟨#[]⟩:ByteArray),bt1265.1⟩:S119),(⟨3,(⟨#[109,43]⟩:ByteArray),(⟨#[109]⟩:ByteArray),(⟨#[]⟩:ByteArray)⟩:S119)]:List S119)),bt1265.2))
def Z3a.f (k:Nat) (l0_0:List S122) (l1_0:List Int) (a1_1:Int) (a1_2:Int) (a1_3:Int) (l1_4:List Int) (l1_5:List S145) (a1_6:Int) (a2_0:Int) (l2_1:List S162):Option ((List Int)×Int×Int×Int×(List Int)×(List S145)×Int×(List S119)×Bool):=(Z0u.f k a2_0 l2_1).bind fun t0 => ((Z2X.f k t0.1).bind fun t1 => ((Z42.f k l0_0 l1_0 a1_1 a1_2 a1_3 l1_4 l1_5 a1_6).bind fun t2 => (if t2 = true then (if t0.2 = true then (if t1.2 = true then (if a2_0 < a1_6 then (some ([],0,0,0,[],[],0,[],false)) else (if 0≤wrap64 ((l1_0.length:Int) - 1) then (if wrap64 ((l1_0.length:Int) - 1) < (l1_0.length:Int) then ((Z0l.f (rd l1_0 (wrap64 ((l1_0.length:Int) - 1)))).bind fun t3 => ((Z1g.f k l0_0 t3).bind fun t4 => (if (t4.1.size:Int) < 500 then ((Z0l.f (rd l1_0 (wrap64 ((l1_0.length:Int) - 1)))).bind fun t5 => ((Z2M.f k l0_0 ([(⟨2,t5,(⟨#[]⟩:ByteArray),t1.1⟩:S119)]:List S119)).bind fun t6 => (some (t6.1,t6.2.1,t6.2.2.1,t6.2.2.2.1,t6.2.2.2.2.1,t6.2.2.2.2.2.1,t6.2.2.2.2.2.2.1,t6.2.2.2.2.2.2.2.1,t6.2.2.2.2.2.2.2.2)))) else (if (l1_0.length:Int)≥8 then ((Z0l.f (rd l1_0 (wrap64 ((l1_0.length:Int) - 1)))).bind fun t7 => ((Z2M.f k l0_0 ([(⟨2,t7,(⟨#[]⟩:ByteArray),t1.1⟩:S119)]:List S119)).bind fun t8 => (some (t8.1,t8.2.1,t8.2.2.1,t8.2.2.2.1,t8.2.2.2.2.1,t8.2.2.2.2.2.1,t8.2.2.2.2.2.2.1,t8.2.2.2.2.2.2.2.1,t8.2.2.2.2.2.2.2.2)))) else (if a1_1 > 999 then ((Z0l.f (rd l1_0 (wrap64 ((l1_0.length:Int) - 1)))).bind fun t9 => ((Z2M.f k l0_0 ([(⟨2,t9,(⟨#[]⟩:ByteArray),t1.1⟩:S119)]:List S119)).bind fun t10 => (some (t10.1,t10.2.1,t10.2.2.1,t10.2.2.2.1,t10.2.2.2.2.1,t10.2.2.2.2.2.1,t10.2.2.2.2.2.2.1,t10.2.2.2.2.2.2.2.1,t10.2.2.2.2.2.2.2.2)))) else ((Z2i.f l1_0 a1_1 a1_2 a1_3 l1_4).bind fun t11 => (if t11.1.length + 1 < 17592186044417 then ((Z3x.f k (t11.1++([t11.2.1]:List Int)) (wrap64 (t11.2.1 + 1)) t11.2.2.1 t11.2.2.2.1 t11.2.2.2.2).bind fun t12 => (if t12.2 = true then ((Z0l.f a1_1).bind fun t13 => (if 1 + t12.1.length < 2513169434917 then ((Z2M.f k l0_0 (([(⟨1,t13,(⟨#[]⟩:ByteArray),t1.1⟩:S119)]:List S119)++t12.1)).bind fun t14 => (some (t14.1,t14.2.1,t14.2.2.1,t14.2.2.2.1,t14.2.2.2.2.1,t14.2.2.2.2.2.1,t14.2.2.2.2.2.2.1,t14.2.2.2.2.2.2.2.1,t14.2.2.2.2.2.2.2.2))) else none)) else (some ([],0,0,0,[],[],0,[],false)))) else none))))))) else none) else none)) else (some ([],0,0,0,[],[],0,[],false))) else (some ([],0,0,0,[],[],0,[],false))) else (some ([],0,0,0,[],[],0,[],false)))))
def Z0w.l0:Nat→(List Int)→Int→(List Int)→Int→Int→Option (List Int)
 | 0,_,_,_,_,_ => none
 | k + 1,x4,x5,y50112_0,y50112_1,y50112_2 => if x5 < 12 then ((Z0o.f y50112_0 y50112_1 y50112_2 10000).bind fun t2 => (if x4.length + 1 < 17592186044417 then (Z0w.l0 k (x4++([t2.1]:List Int)) (wrap64 (x5 + 1)) t2.2.1 t2.2.2.1 t2.2.2.2) else none)) else (some x4)
def Z0w.f (k:Nat) (l0:List Int):Option (List Int):=(Z1n.f k l0).bind fun t0 => ((Z1a.f t0.1 t0.2.1 t0.2.2).bind fun t1 => (Z0w.l0 k ([]:List Int) 0 t1.2.1 t1.2.2.1 t1.2.2.2))
def Z3D.f (l0:List S119) (a1:Int):Option (Int):=if a1≥(l0.length:Int) then (some 0) else (if 0≤a1 then (if a1 < (l0.length:Int) then (if ((ZX l0 a1).f0) > 2 then (some 0) else (if ((ZX l0 a1).f0) < 1 then (some 0) else (some (((ZX l0 a1).f3).size:Int)))) else (none)) else (none))
def Z2y.f (k:Nat) (l0_0:List S122) (l1:List S119) (a2:Int) (a3:Int):Option ((List S122)×Bool):=(ZO.f k l0_0).bind fun t0 => (if t0 = true then (if (l1.length:Int) > 60 then (some ([],false)) else ((ZD.f a2 0 (l1.length:Int)).bind fun t1 => (if t1 = true then ((Z3D.f l1 a2).bind fun t2 => ((ZD.f a3 0 t2).bind fun t3 => (if t3 = true then (if 0≤a2 then (if a2≤(l1.length:Int) then (if ((l1.drop 0).take ((a2:Int).toNat - 0)).length < 2513169434917 then (if a3 > 0 then (if a2 < (l1.length:Int) then (if 0≤a3 then (if a3≤(((ZX l1 a2).f3).size:Int) then (if (([]:List S119)++((l1.drop 0).take ((a2:Int).toNat - 0))).length + 1 < 2513169434917 then ((Zg.f k l0_0 ((([]:List S119)++((l1.drop 0).take ((a2:Int).toNat - 0)))++([(⟨(ZX l1 a2).f0,(ZX l1 a2).f1,(ZX l1 a2).f2,((ZX l1 a2).f3).extract 0 (a3:Int).toNat⟩:S119)]:List S119))).bind fun t4 => (if t4.2 = (((([]:List S119)++((l1.drop 0).take ((a2:Int).toNat - 0)))++([(⟨(ZX l1 a2).f0,(ZX l1 a2).f1,(ZX l1 a2).f2,((ZX l1 a2).f3).extract 0 (a3:Int).toNat⟩:S119)]:List S119)).length:Int) then (some (t4.1,true)) else (some ([],false)))) else none) else none) else none) else none) else ((Zg.f k l0_0 (([]:List S119)++((l1.drop 0).take ((a2:Int).toNat - 0)))).bind fun t5 => (if t5.2 = ((([]:List S119)++((l1.drop 0).take ((a2:Int).toNat - 0))).length:Int) then (some (t5.1,true)) else (some ([],false))))) else none) else none) else none) else (some ([],false))))) else (some ([],false))))) else (some ([],false)))
def Z4u.f (k:Nat) (l0_0:List S122) (l1:List S119) (a2:Int) (a3:Int):Option ((List S122)×Bool):=if (wrap64 ((l1.length:Int) + 1)) = 0 then (none) else (if (Int.tmod a2 (wrap64 ((l1.length:Int) + 1))) < (l1.length:Int) then (if 0≤(Int.tmod a2 (wrap64 ((l1.length:Int) + 1))) then (if ((ZX l1 (Int.tmod a2 (wrap64 ((l1.length:Int) + 1)))).f0)≤2 then (if (wrap64 ((((ZX l1 (Int.tmod a2 (wrap64 ((l1.length:Int) + 1)))).f3).size:Int) + 1)) = 0 then (none) else ((Z2y.f k l0_0 l1 (Int.tmod a2 (wrap64 ((l1.length:Int) + 1))) (Int.tmod a3 (wrap64 ((((ZX l1 (Int.tmod a2 (wrap64 ((l1.length:Int) + 1)))).f3).size:Int) + 1)))).bind fun bt1382 => (some (bt1382.1,bt1382.2)))) else ((Z2y.f k l0_0 l1 (Int.tmod a2 (wrap64 ((l1.length:Int) + 1))) 0).bind fun bt1386 => (some (bt1386.1,bt1386.2)))) else (none)) else ((Z2y.f k l0_0 l1 (Int.tmod a2 (wrap64 ((l1.length:Int) + 1))) 0).bind fun bt1390 => (some (bt1390.1,bt1390.2))))
mutual
def Zy.j0:Nat→Bool→List S122→List Int→Int→Int→Int→List Int→List S145→Int→Option ((List S147)×Bool)
 | 0,_,_,_,_,_,_,_,_,_ => none
 | k + 1,x19,x1209000,x1210000,x1210001,x1210002,x1210003,x1210004,x1210005,x1210006 => if x19 = true then (some (([]:List S147),false)) else (Zy.l0 k ([]:List S147) x1210005 (x1210005.length:Int) 0 x1209000)
def Zy.l0:Nat→List S147→List S145→Int→Int→List S122→Option ((List S147)×Bool)
 | 0,_,_,_,_,_ => none
 | k + 1,x6,x21,x22,x23,x1209000 => if x23 < x22 then (if 0≤x23 then (if x23 < (x21.length:Int) then ((Z0l.f ((Za x21 x23).f1)).bind fun t1214 => ((Z1g.f k x1209000 t1214).bind fun bt1215 => (if (wrap64 (((Za x21 x23).f2) + ((Za x21 x23).f3))) > (bt1215.1.size:Int) then (some (([]:List S147),false)) else (if 0≤((Za x21 x23).f2) then (if ((Za x21 x23).f2)≤(wrap64 (((Za x21 x23).f2) + ((Za x21 x23).f3))) then (if (wrap64 (((Za x21 x23).f2) + ((Za x21 x23).f3)))≤(bt1215.1.size:Int) then (if x6.length < 4398046511104 then (Zy.l0 k (x6++[(⟨(Za x21 x23).f0,bt1215.1.extract (((Za x21 x23).f2):Int).toNat ((wrap64 (((Za x21 x23).f2) + ((Za x21 x23).f3))):Int).toNat⟩:S147)]) x21 x22 (wrap64 (x23 + 1)) x1209000) else (none)) else (none)) else (none)) else (none))))) else (none)) else (none)) else (some (x6,true))
end
def Zy.f (k:Nat) (l0_0:List S122) (l1_0:List Int) (a1_1:Int) (a1_2:Int) (a1_3:Int) (l1_4:List Int) (l1_5:List S145) (a1_6:Int):Option ((List S147)×Bool):=(Z02.f k l0_0).bind fun t1210 => (if t1210 = true then ((Z1h.f k l1_5).bind fun t1211 => (Zy.j0 k (!t1211) l0_0 l1_0 a1_1 a1_2 a1_3 l1_4 l1_5 a1_6)) else (Zy.j0 k true l0_0 l1_0 a1_1 a1_2 a1_3 l1_4 l1_5 a1_6))
def Z1v.l0:Nat→List S147→ByteArray→List S147→Int→Option ((List S147))
 | 0,_,_,_,_ => none
 | k + 1,x0,x1,x5,x6 => if x6 < (x0.length:Int) then (if 0≤x6 then (if ((Z1W x0 x6).f0).toList = x1.toList then (Z1v.l0 k x0 x1 x5 (wrap64 (x6 + 1))) else (if x5.length < 4398046511104 then (Z1v.l0 k x0 x1 (x5++[(⟨(Z1W x0 x6).f0,(Z1W x0 x6).f1⟩:S147)]) (wrap64 (x6 + 1))) else (none))) else (none)) else (some x5)
def Z1v.f (k:Nat) (l0:List S147) (a1:ByteArray):Option ((List S147)):=Z1v.l0 k l0 a1 (([]:List S147)) 0
mutual
def Z0n.l0:Nat→List S147→ByteArray→ByteArray→List S147→Int→Option ((List S147))
 | 0,_,_,_,_,_ => none
 | k + 1,x0,x1,x2,x7,x8 => if x8 < (x0.length:Int) then (if 0≤x8 then (if (Op.bytesLess (((Z1W x0 x8).f0).toList) x1.toList) = true then (if x7.length < 4398046511104 then (Z0n.l0 k x0 x1 x2 (x7++[(⟨(Z1W x0 x8).f0,(Z1W x0 x8).f1⟩:S147)]) (wrap64 (x8 + 1))) else (none)) else (Z0n.l0 k x0 x1 x2 x7 (wrap64 (x8 + 1)))) else (none)) else (if x7.length < 4398046511104 then (Z0n.l1 k x0 x1 (x7++[(⟨x1,x2⟩:S147)]) 0) else (none))
def Z0n.l1:Nat→List S147→ByteArray→List S147→Int→Option ((List S147))
 | 0,_,_,_,_ => none
 | k + 1,x0,x1,x7,x9 => if x9 < (x0.length:Int) then (if 0≤x9 then (if (Op.bytesLess x1.toList (((Z1W x0 x9).f0).toList)) = true then (if x7.length < 4398046511104 then (Z0n.l1 k x0 x1 (x7++[(⟨(Z1W x0 x9).f0,(Z1W x0 x9).f1⟩:S147)]) (wrap64 (x9 + 1))) else (none)) else (Z0n.l1 k x0 x1 x7 (wrap64 (x9 + 1)))) else (none)) else (some x7)
end
def Z0n.f (k:Nat) (l0:List S147) (a1:ByteArray) (a2:ByteArray):Option ((List S147)):=Z0n.l0 k l0 a1 a2 (([]:List S147)) 0
mutual
def Z04.j0:Nat→List S147→Bool→Int→List S162→Option ((List S147)×Bool)
 | 0,_,_,_,_ => none
 | k + 1,x0,x15,x1303000,x1303001 => if x15 = true then (some ((([]:List S147)),false)) else ((some (([]:List S147):List S147)).bind fun y1308 => (if y1308.length + x0.length < 4398046511104 then (Z04.l0 k (y1308++x0) 0 x1303000 x1303001) else (none)))
def Z04.l0:Nat→List S147→Int→Int→List S162→Option ((List S147)×Bool)
 | 0,_,_,_,_ => none
 | k + 1,x6,x7,x1303000,x1303001 => if x7 < (x1303001.length:Int) then (if 0≤x7 then (if (ZS x1303001 x7).f2 = true then ((Z1v.f k x6 ((ZS x1303001 x7).f0)).bind fun t1320 => (Z04.l0 k t1320 (wrap64 (x7 + 1)) x1303000 x1303001)) else ((Z0n.f k x6 ((ZS x1303001 x7).f0) ((ZS x1303001 x7).f1)).bind fun t1325 => (Z04.l0 k t1325 (wrap64 (x7 + 1)) x1303000 x1303001))) else (none)) else ((Z1i.f k x6).bind fun t1314 => (if t1314 = true then (some (x6,true)) else (some ((([]:List S147)),false))))
end
def Z04.f (k:Nat) (l0:List S147) (a1_0:Int) (l1_1:List S162):Option ((List S147)×Bool):=(Z1i.f k l0).bind fun t1303 => (if t1303 = true then ((Zq.f k a1_0 l1_1).bind fun t1304 => (Z04.j0 k l0 (!t1304) a1_0 l1_1)) else (Z04.j0 k l0 true a1_0 l1_1))
def Z05.l0:Nat→List S147→List S147→Int→Option (Bool)
 | 0,_,_,_ => none
 | k + 1,x0,x1,x5 => if x5 < (x0.length:Int) then (if 0≤x5 then (if x5 < (x1.length:Int) then (if (!((((Z1W x0 x5).f0).toList) == (((Z1W x1 x5).f0).toList)) || (!((((Z1W x0 x5).f1).toList) == (((Z1W x1 x5).f1).toList)))) = true then (some false) else (Z05.l0 k x0 x1 (wrap64 (x5 + 1)))) else (none)) else (none)) else (some true)
def Z05.f (k:Nat) (l0:List S147) (l1:List S147):Option (Bool):=if (l0.length:Int) = (l1.length:Int) then (Z05.l0 k l0 l1 0) else (some false)
def laws_FnComesBack.f (k:Nat) (l0:List Int):Option Bool:=(Z7T.f l0).bind fun t0 => (if t0 = true then (some true) else ((Z1w.f k l0).bind fun t1 => ((Zw.f k t1.1 t1.2.1 t1.2.2.1 t1.2.2.2.1 t1.2.2.2.2.1 t1.2.2.2.2.2.1 t1.2.2.2.2.2.2.1 t1.2.2.2.2.2.2.2.1).bind fun t2 => ((Z3a.f k t1.1 t1.2.1 t1.2.2.1 t1.2.2.2.1 t1.2.2.2.2.1 t1.2.2.2.2.2.1 t1.2.2.2.2.2.2.1 t1.2.2.2.2.2.2.2.1 t1.2.2.2.2.2.2.2.2.1 t1.2.2.2.2.2.2.2.2.2).bind fun t3 => ((Zb.f k t1.1 t1.2.1 t1.2.2.1 t1.2.2.2.1 t1.2.2.2.2.1 t1.2.2.2.2.2.1 t1.2.2.2.2.2.2.1 t1.2.2.2.2.2.2.2.1 t1.2.2.2.2.2.2.2.2.1 t1.2.2.2.2.2.2.2.2.2).bind fun t4 => (if (t3.2.2.2.2.2.2.2.2 != t4.2.2.2.2.2.2.2.2) = true then (some false) else (if t3.2.2.2.2.2.2.2.2 = true then ((Z0w.f k l0).bind fun t5 => (if 0 < (t5.length:Int) then (if 1 < (t5.length:Int) then ((Z4u.f k t1.1 t3.2.2.2.2.2.2.2.1 (rd t5 0) (rd t5 1)).bind fun t6 => ((Zm.f k t6.1).bind fun t7 => ((Zg.f k t6.1 t7.2.2.2.2.2.2.2.1).bind fun t8 => ((Zm.f k t8.1).bind fun t9 => ((Zy.f k t8.1 t9.1 t9.2.1 t9.2.2.1 t9.2.2.2.1 t9.2.2.2.2.1 t9.2.2.2.2.2.1 t9.2.2.2.2.2.2.1).bind fun t10 => ((Z04.f k t2.1 t1.2.2.2.2.2.2.2.2.1 t1.2.2.2.2.2.2.2.2.2).bind fun t11 => (if t6.2 = true then (if t7.2.2.2.2.2.2.2.2 = 0 then (if t8.2 = (t7.2.2.2.2.2.2.2.1.length:Int) then (if t9.2.2.2.2.2.2.2.2 = 0 then (if (t9.2.2.2.2.2.2.2.1.length:Int) = 0 then (if t10.2 = true then (if t7.2.2.2.2.2.2.1 = t9.2.2.2.2.2.2.1 then ((Z05.f k t10.1 t2.1).bind fun t12 => (if t12 = true then (if t9.2.2.2.2.2.2.1 = t1.2.2.2.2.2.2.2.1 then (some true) else ((Z05.f k t10.1 t11.1).bind fun t13 => (if t13 = true then (some (t9.2.2.2.2.2.2.1 == t1.2.2.2.2.2.2.2.2.1)) else (some false)))) else ((Z05.f k t10.1 t11.1).bind fun t14 => (if t14 = true then (some (t9.2.2.2.2.2.2.1 == t1.2.2.2.2.2.2.2.2.1)) else (some false))))) else (some false)) else (some false)) else (some false)) else (some false)) else (some false)) else (some false)) else (some false)))))))) else none) else none)) else (some true))))))))
def nL (l:List (List Int)):List (List CV):=l.map fun x => [.sl [.int .i64] (nI .i64 x)]
structure En where
 eI:IntKind→List Int→List (List CV)
 eS:List ByteArray→List (List CV)
 eL:List (List Int)→List (List CV)
 e122:List S122→List (List CV)
 e162:List S162→List (List CV)
 e59:List S59→List (List CV)
 e113:List S113→List (List CV)
 e145:List S145→List (List CV)
 e119:List S119→List (List CV)
 e147:List S147→List (List CV)
def c122 (x:S122):List CV:=[.str x.f0,.str x.f1]
def m122 (l:List S122):List (List CV):=l.map c122
theorem Z77 (l:List S122):(m122 l).length = l.length:=List.length_map _
theorem m122_nil:m122 [] = []:=rfl
theorem m122_app (a:List S122) (f0:ByteArray) (f1:ByteArray):m122 a++[[.str f0,.str f1]] = m122 (a++[(⟨f0,f1⟩:S122)]):=by simp [m122,c122]
theorem m122_cut (l:List S122) (i j:Int):cutR (m122 l) i j = m122 ((l.drop i.toNat).take (j.toNat - i.toNat)):=by simp [cutR,m122]
theorem m122_cat (a b:List S122):m122 a++m122 b = m122 (a++b):=List.map_append.symm
theorem m122_cons (x:S122) (l:List S122):m122 (x::l) = [.str x.f0,.str x.f1]::m122 l:=rfl
theorem m122_0 (l:List S122) (i:Int):gS (m122 l) i 0 = (Z0k l i).f0:=by
 unfold gS Z0k m122;rw [Z3s,List.getD_eq_getElem?_getD]
 cases l[i.toNat]? <;> rfl
theorem m122_1 (l:List S122) (i:Int):gS (m122 l) i 1 = (Z0k l i).f1:=by
 unfold gS Z0k m122;rw [Z3s,List.getD_eq_getElem?_getD]
 cases l[i.toNat]? <;> rfl
def c162 (x:S162):List CV:=[.str x.f0,.str x.f1,.bool x.f2]
def m162 (l:List S162):List (List CV):=l.map c162
theorem m162_len (l:List S162):(m162 l).length = l.length:=List.length_map _
theorem m162_nil:m162 [] = []:=rfl
theorem m162_app (a:List S162) (f0:ByteArray) (f1:ByteArray) (f2:Bool):m162 a++[[.str f0,.str f1,.bool f2]] = m162 (a++[(⟨f0,f1,f2⟩:S162)]):=by simp [m162,c162]
theorem m162_cut (l:List S162) (i j:Int):cutR (m162 l) i j = m162 ((l.drop i.toNat).take (j.toNat - i.toNat)):=by simp [cutR,m162]
theorem m162_cat (a b:List S162):m162 a++m162 b = m162 (a++b):=List.map_append.symm
theorem m162_cons (x:S162) (l:List S162):m162 (x::l) = [.str x.f0,.str x.f1,.bool x.f2]::m162 l:=rfl
theorem m162_0 (l:List S162) (i:Int):gS (m162 l) i 0 = (ZS l i).f0:=by
 unfold gS ZS m162;rw [Z3s,List.getD_eq_getElem?_getD]
 cases l[i.toNat]? <;> rfl
theorem m162_1 (l:List S162) (i:Int):gS (m162 l) i 1 = (ZS l i).f1:=by
 unfold gS ZS m162;rw [Z3s,List.getD_eq_getElem?_getD]
 cases l[i.toNat]? <;> rfl
theorem m162_2 (l:List S162) (i:Int):gB (m162 l) i 2 = (ZS l i).f2:=by
 unfold gB ZS m162;rw [Z3s,List.getD_eq_getElem?_getD]
 cases l[i.toNat]? <;> rfl
def c59 (x:S59):List CV:=[.int .i64 x.f0,.sl [.str,.str,.bool] (m162 x.f1)]
def m59 (l:List S59):List (List CV):=l.map c59
theorem m59_len (l:List S59):(m59 l).length = l.length:=List.length_map _
theorem m59_nil:m59 [] = []:=rfl
theorem m59_app (a:List S59) (f0:Int) (f1:List S162):m59 a++[[.int .i64 f0,.sl [.str,.str,.bool] (m162 f1)]] = m59 (a++[(⟨f0,f1⟩:S59)]):=by simp [m59,c59]
theorem m59_cut (l:List S59) (i j:Int):cutR (m59 l) i j = m59 ((l.drop i.toNat).take (j.toNat - i.toNat)):=by simp [cutR,m59]
theorem m59_cat (a b:List S59):m59 a++m59 b = m59 (a++b):=List.map_append.symm
theorem m59_cons (x:S59) (l:List S59):m59 (x::l) = [.int .i64 x.f0,.sl [.str,.str,.bool] (m162 x.f1)]::m59 l:=rfl
theorem m59_0 (l:List S59) (i:Int):gI (m59 l) i 0 = (rd_T59 l i).f0:=by
 unfold gI rd_T59 m59;rw [Z3s,List.getD_eq_getElem?_getD]
 cases l[i.toNat]? <;> rfl
theorem m59_1 (l:List S59) (i:Int):gR (m59 l) i 1 = m162 (rd_T59 l i).f1:=by
 unfold gR rd_T59 m59;rw [Z3s,List.getD_eq_getElem?_getD]
 cases l[i.toNat]? <;> rfl
def c113 (x:S113):List CV:=[.int .i64 x.f0.f0,.sl [.str,.str,.bool] (m162 x.f0.f1),.str x.f1,.int .i64 x.f2]
def m113 (l:List S113):List (List CV):=l.map c113
theorem m113_len (l:List S113):(m113 l).length = l.length:=List.length_map _
theorem m113_nil:m113 [] = []:=rfl
theorem m113_app (a:List S113) (f0_f0:Int) (f0_f1:List S162) (f1:ByteArray) (f2:Int):m113 a++[[.int .i64 f0_f0,.sl [.str,.str,.bool] (m162 f0_f1),.str f1,.int .i64 f2]] = m113 (a++[(⟨⟨f0_f0,f0_f1⟩,f1,f2⟩:S113)]):=by simp [m113,c113]
theorem m113_cut (l:List S113) (i j:Int):cutR (m113 l) i j = m113 ((l.drop i.toNat).take (j.toNat - i.toNat)):=by simp [cutR,m113]
theorem m113_cat (a b:List S113):m113 a++m113 b = m113 (a++b):=List.map_append.symm
theorem m113_cons (x:S113) (l:List S113):m113 (x::l) = [.int .i64 x.f0.f0,.sl [.str,.str,.bool] (m162 x.f0.f1),.str x.f1,.int .i64 x.f2]::m113 l:=rfl
theorem m113_0 (l:List S113) (i:Int):gI (m113 l) i 0 = (Z3N l i).f0.f0:=by
 unfold gI Z3N m113;rw [Z3s,List.getD_eq_getElem?_getD]
 cases l[i.toNat]? <;> rfl
theorem m113_1 (l:List S113) (i:Int):gR (m113 l) i 1 = m162 (Z3N l i).f0.f1:=by
 unfold gR Z3N m113;rw [Z3s,List.getD_eq_getElem?_getD]
 cases l[i.toNat]? <;> rfl
theorem m113_2 (l:List S113) (i:Int):gS (m113 l) i 2 = (Z3N l i).f1:=by
 unfold gS Z3N m113;rw [Z3s,List.getD_eq_getElem?_getD]
 cases l[i.toNat]? <;> rfl
theorem m113_3 (l:List S113) (i:Int):gI (m113 l) i 3 = (Z3N l i).f2:=by
 unfold gI Z3N m113;rw [Z3s,List.getD_eq_getElem?_getD]
 cases l[i.toNat]? <;> rfl
def c145 (x:S145):List CV:=[.str x.f0,.int .i64 x.f1,.int .i64 x.f2,.int .i64 x.f3]
def m145 (l:List S145):List (List CV):=l.map c145
theorem Z71 (l:List S145):(m145 l).length = l.length:=List.length_map _
theorem m145_nil:m145 [] = []:=rfl
theorem m145_app (a:List S145) (f0:ByteArray) (f1:Int) (f2:Int) (f3:Int):m145 a++[[.str f0,.int .i64 f1,.int .i64 f2,.int .i64 f3]] = m145 (a++[(⟨f0,f1,f2,f3⟩:S145)]):=by simp [m145,c145]
theorem m145_cut (l:List S145) (i j:Int):cutR (m145 l) i j = m145 ((l.drop i.toNat).take (j.toNat - i.toNat)):=by simp [cutR,m145]
theorem m145_cat (a b:List S145):m145 a++m145 b = m145 (a++b):=List.map_append.symm
theorem m145_cons (x:S145) (l:List S145):m145 (x::l) = [.str x.f0,.int .i64 x.f1,.int .i64 x.f2,.int .i64 x.f3]::m145 l:=rfl
theorem m145_0 (l:List S145) (i:Int):gS (m145 l) i 0 = (Za l i).f0:=by
 unfold gS Za m145;rw [Z3s,List.getD_eq_getElem?_getD]
 cases l[i.toNat]? <;> rfl
theorem m145_1 (l:List S145) (i:Int):gI (m145 l) i 1 = (Za l i).f1:=by
 unfold gI Za m145;rw [Z3s,List.getD_eq_getElem?_getD]
 cases l[i.toNat]? <;> rfl
theorem m145_2 (l:List S145) (i:Int):gI (m145 l) i 2 = (Za l i).f2:=by
 unfold gI Za m145;rw [Z3s,List.getD_eq_getElem?_getD]
 cases l[i.toNat]? <;> rfl
theorem m145_3 (l:List S145) (i:Int):gI (m145 l) i 3 = (Za l i).f3:=by
 unfold gI Za m145;rw [Z3s,List.getD_eq_getElem?_getD]
 cases l[i.toNat]? <;> rfl
def c119 (x:S119):List CV:=[.int .i64 x.f0,.str x.f1,.str x.f2,.str x.f3]
def m119 (l:List S119):List (List CV):=l.map c119
theorem m119_len (l:List S119):(m119 l).length = l.length:=List.length_map _
theorem m119_nil:m119 [] = []:=rfl
theorem m119_app (a:List S119) (f0:Int) (f1:ByteArray) (f2:ByteArray) (f3:ByteArray):m119 a++[[.int .i64 f0,.str f1,.str f2,.str f3]] = m119 (a++[(⟨f0,f1,f2,f3⟩:S119)]):=by simp [m119,c119]
theorem m119_cut (l:List S119) (i j:Int):cutR (m119 l) i j = m119 ((l.drop i.toNat).take (j.toNat - i.toNat)):=by simp [cutR,m119]
theorem m119_cat (a b:List S119):m119 a++m119 b = m119 (a++b):=List.map_append.symm
theorem m119_cons (x:S119) (l:List S119):m119 (x::l) = [.int .i64 x.f0,.str x.f1,.str x.f2,.str x.f3]::m119 l:=rfl
theorem m119_0 (l:List S119) (i:Int):gI (m119 l) i 0 = (ZX l i).f0:=by
 unfold gI ZX m119;rw [Z3s,List.getD_eq_getElem?_getD]
 cases l[i.toNat]? <;> rfl
theorem m119_1 (l:List S119) (i:Int):gS (m119 l) i 1 = (ZX l i).f1:=by
 unfold gS ZX m119;rw [Z3s,List.getD_eq_getElem?_getD]
 cases l[i.toNat]? <;> rfl
theorem m119_2 (l:List S119) (i:Int):gS (m119 l) i 2 = (ZX l i).f2:=by
 unfold gS ZX m119;rw [Z3s,List.getD_eq_getElem?_getD]
 cases l[i.toNat]? <;> rfl
theorem m119_3 (l:List S119) (i:Int):gS (m119 l) i 3 = (ZX l i).f3:=by
 unfold gS ZX m119;rw [Z3s,List.getD_eq_getElem?_getD]
 cases l[i.toNat]? <;> rfl
def c147 (x:S147):List CV:=[.str x.f0,.str x.f1]
def m147 (l:List S147):List (List CV):=l.map c147
theorem m147_len (l:List S147):(m147 l).length = l.length:=List.length_map _
theorem m147_nil:m147 [] = []:=rfl
theorem m147_app (a:List S147) (f0:ByteArray) (f1:ByteArray):m147 a++[[.str f0,.str f1]] = m147 (a++[(⟨f0,f1⟩:S147)]):=by simp [m147,c147]
theorem m147_cut (l:List S147) (i j:Int):cutR (m147 l) i j = m147 ((l.drop i.toNat).take (j.toNat - i.toNat)):=by simp [cutR,m147]
theorem m147_cat (a b:List S147):m147 a++m147 b = m147 (a++b):=List.map_append.symm
theorem m147_cons (x:S147) (l:List S147):m147 (x::l) = [.str x.f0,.str x.f1]::m147 l:=rfl
theorem m147_0 (l:List S147) (i:Int):gS (m147 l) i 0 = (Z1W l i).f0:=by
 unfold gS Z1W m147;rw [Z3s,List.getD_eq_getElem?_getD]
 cases l[i.toNat]? <;> rfl
theorem m147_1 (l:List S147) (i:Int):gS (m147 l) i 1 = (Z1W l i).f1:=by
 unfold gS Z1W m147;rw [Z3s,List.getD_eq_getElem?_getD]
 cases l[i.toNat]? <;> rfl
@[reducible] def E0:En:=⟨nI,nS,nL,m122,m162,m59,m113,m145,m119,m147⟩
theorem m122_s (l:List S122) (i:Int) (v0:ByteArray) (v1:ByteArray):setR (m122 l) i 0 [.str v0,.str v1] = m122 (l.set i.toNat (⟨v0,v1⟩:S122)):=Z4F c122 l i 0 _ _ z122 rfl
theorem m122_s0 (l:List S122) (i:Int) (v0:ByteArray):setR (m122 l) i 0 [.str v0] = m122 (l.set i.toNat (⟨v0,(Z0k l i).f1⟩:S122)):=Z4F c122 l i 0 _ _ z122 rfl
theorem m122_s1 (l:List S122) (i:Int) (v1:ByteArray):setR (m122 l) i 1 [.str v1] = m122 (l.set i.toNat (⟨(Z0k l i).f0,v1⟩:S122)):=Z4F c122 l i 1 _ _ z122 rfl
theorem m145_s (l:List S145) (i:Int) (v0:ByteArray) (v1:Int) (v2:Int) (v3:Int):setR (m145 l) i 0 [.str v0,.int .i64 v1,.int .i64 v2,.int .i64 v3] = m145 (l.set i.toNat (⟨v0,v1,v2,v3⟩:S145)):=Z4F c145 l i 0 _ _ z145 rfl
theorem m145_s0 (l:List S145) (i:Int) (v0:ByteArray):setR (m145 l) i 0 [.str v0] = m145 (l.set i.toNat (⟨v0,(Za l i).f1,(Za l i).f2,(Za l i).f3⟩:S145)):=Z4F c145 l i 0 _ _ z145 rfl
theorem m145_s1 (l:List S145) (i:Int) (v1:Int):setR (m145 l) i 1 [.int .i64 v1] = m145 (l.set i.toNat (⟨(Za l i).f0,v1,(Za l i).f2,(Za l i).f3⟩:S145)):=Z4F c145 l i 1 _ _ z145 rfl
theorem m145_s2 (l:List S145) (i:Int) (v2:Int):setR (m145 l) i 2 [.int .i64 v2] = m145 (l.set i.toNat (⟨(Za l i).f0,(Za l i).f1,v2,(Za l i).f3⟩:S145)):=Z4F c145 l i 2 _ _ z145 rfl
theorem m145_s3 (l:List S145) (i:Int) (v3:Int):setR (m145 l) i 3 [.int .i64 v3] = m145 (l.set i.toNat (⟨(Za l i).f0,(Za l i).f1,(Za l i).f2,v3⟩:S145)):=Z4F c145 l i 3 _ _ z145 rfl
theorem nL_len (l:List (List Int)):(nL l).length = l.length:=by simp [nL]
theorem nL_nil:nL [] = []:=rfl
theorem litL (a:List Int):[[CV.sl [.int .i64] (nI .i64 a)]] = nL [a]:=rfl
theorem consL (a:List Int) (l:List (List Int)):[CV.sl [.int .i64] (nI .i64 a)]::nL l = nL (a::l):=rfl
def pow10V:Array Value:=(Lib.pow10Tab.map fun z => Value.int .u64 z).toArray
def TBX : TBs := ⟨fun w G => TabG Tryz.prog w G "internal/strconv.uint64pow10" pow10V ∧ ∃ ev, TabG Tryz.prog w G "strconv.ErrSyntax" #[ev] ∧ (ev = .nilIface ∨ ∃ te pe, ev = .iface te pe),
 fun he h => ⟨h.1.ext he,h.2.imp fun _ h2 => ⟨h2.1.ext he,h2.2⟩⟩⟩
def tab:Tr:=.node none (.node none (.node (some ⟨.int .i64,1,8,[.int .i64]⟩) (.node none (.node none (.nil) (.node (some ⟨.slice 119,1,24,[.sl [.int .i64,.str,.str,.str]]⟩) (.nil) (.nil))) (.node none (.node (some ⟨.struct [(0,25),(1,3),(2,3),(3,3),(4,25)],5,72,[.sl [.int .i64],.int .i64,.int .i64,.int .i64,.sl [.int .i64]]⟩) (.nil) (.nil)) (.node (some ⟨.slice 5,1,24,[.sl [.int .u8]]⟩) (.nil) (.node (some ⟨.struct [(0,3),(1,9),(2,9),(3,9)],4,56,[.int .i64,.str,.str,.str]⟩) (.nil) (.nil))))) (.node none (.node none (.node (some ⟨.slice 122,1,24,[.sl [.str,.str]]⟩) (.nil) (.nil)) (.node none (.node none (.node (some ⟨.struct [(0,9),(1,9)],2,32,[.str,.str]⟩) (.nil) (.nil)) (.node (some ⟨.struct [(0,55),(1,3),(2,3)],3,40,[.sl [.int .u8],.int .i64,.int .i64]⟩) (.nil) (.nil))) (.node none (.node (some ⟨.struct [(0,9),(1,3),(2,4)],3,32,[.str,.int .i64,.bool]⟩) (.nil) (.nil)) (.nil)))) (.node none (.nil) (.node (some ⟨.struct [(0,3),(1,57)],2,32,[.int .i64,.sl [.str,.str,.bool]]⟩) (.nil) (.nil))))) (.node (some ⟨.int .u8,1,1,[.int .u8]⟩) (.node (some ⟨.str,1,16,[.str]⟩) (.node none (.node none (.nil) (.node (some ⟨.slice 9,1,24,[.sl [.str]]⟩) (.nil) (.nil))) (.node none (.node none (.node (some ⟨.struct [(0,9),(1,3),(2,3),(3,3)],4,40,[.str,.int .i64,.int .i64,.int .i64]⟩) (.nil) (.nil)) (.nil)) (.node (some ⟨.struct [(0,59),(2,9),(3,3)],4,56,[.int .i64,.sl [.str,.str,.bool],.str,.int .i64]⟩) (.node (some ⟨.ptr 179,1,8,[]⟩) (.nil) (.nil)) (.nil)))) (.node (some ⟨.slice 3,1,24,[.sl [.int .i64]]⟩) (.nil) (.node (some ⟨.slice 162,1,24,[.sl [.str,.str,.bool]]⟩) (.nil) (.nil)))) (.node none (.node none (.node (some ⟨.struct [(0,35)],1,24,[.sl [.str,.str]]⟩) (.nil) (.nil)) (.nil)) (.node none (.node none (.nil) (.node (some ⟨.slice 113,1,24,[.sl [.int .i64,.sl [.str,.str,.bool],.str,.int .i64]]⟩) (.nil) (.nil))) (.node none (.node none (.nil) (.node (some ⟨.int .u64,1,8,[.int .u64]⟩) (.nil) (.nil))) (.nil)))))) (.node none (.node (some ⟨.bool,1,1,[.bool]⟩) (.node none (.nil) (.node none (.node (some ⟨.slice 145,1,24,[.sl [.str,.int .i64,.int .i64,.int .i64]]⟩) (.node none (.node (some ⟨.ptr 211,1,8,[]⟩) (.nil) (.nil)) (.nil)) (.nil)) (.node none (.nil) (.node none (.node (some ⟨.int .u32,1,4,[.int .u32]⟩) (.nil) (.nil)) (.node (some ⟨.slice 25,1,24,[.sl [.sl [.int .i64]]]⟩) (.nil) (.nil)))))) (.node none (.node none (.node none (.node none (.nil) (.node (some ⟨.struct [(0,9),(1,3),(2,4)],3,32,[.str,.int .i64,.bool]⟩) (.nil) (.nil))) (.nil)) (.nil)) (.nil))) (.node none (.node none (.node none (.node none (.node none (.nil) (.node (some ⟨.ptr 196,1,8,[]⟩) (.nil) (.nil))) (.node none (.node (some ⟨.struct [(0,9),(1,9),(2,4)],3,40,[.str,.str,.bool]⟩) (.nil) (.nil)) (.nil))) (.nil)) (.node none (.node (some ⟨.struct [(0,39),(5,40),(6,3)],7,104,[.sl [.int .i64],.int .i64,.int .i64,.int .i64,.sl [.int .i64],.sl [.str,.int .i64,.int .i64,.int .i64],.int .i64]⟩) (.nil) (.nil)) (.node none (.nil) (.node (some ⟨.struct [(0,9),(1,9)],2,32,[.str,.str]⟩) (.nil) (.nil))))) (.node none (.nil) (.node none (.nil) (.node (some ⟨.slice 147,1,24,[.sl [.str,.str]]⟩) (.nil) (.nil))))))
theorem tabOk:TabOk Tryz.prog tab:=TabOk.of (by kernel_rfl)
def tabM:Tr:=.md [109,156,157,159,164,167,169,170,201,204,238,239] tab
theorem Z0L:TabOk Tryz.prog tabM:=fun t ti h => tabOk t ti h
theorem g_rd (k:IntKind) (l:List Int) (i:Int):gI (nI k l) i 0 = rd l i:=gI_nI k l i
theorem b_bt (s:ByteArray) (i:Int):byteAt s i = bt s i:=by
 unfold byteAt bt
 by_cases h:i.toNat < s.size
 ·rw [dif_pos h,Array.getElem?_eq_getElem h];rfl
 ·rw [dif_neg h,Array.getElem?_eq_none (Nat.le_of_not_lt h)];rfl
theorem g_rds (l:List ByteArray) (i:Int):gS (nS l) i 0 = rdOf ByteArray.empty l i:=gS_nS l i
theorem i_shl (k:IntKind) (a b:Int):int2 .shl k a b = shl k a b:=rfl
theorem b_of (z:ByteArray):Z7g z = nI .u8 (bytesOf z):=by simp [Z7g,nI,bytesOf]
theorem b_neq_t (a b:Bool):(cmpB .neq a b = true) = (a≠b):=by cases a <;> cases b <;> simp [cmpB]
theorem b_neq_f (a b:Bool):(cmpB .neq a b = false) = (a = b):=by cases a <;> cases b <;> simp [cmpB]
theorem b_eql_t (a b:Bool):(cmpB .eql a b = true) = (a = b):=by cases a <;> cases b <;> simp [cmpB]
theorem b_eql_f (a b:Bool):(cmpB .eql a b = false) = (a≠b):=by cases a <;> cases b <;> simp [cmpB]
theorem b_eql (a b:Bool):cmpB .eql a b = (a == b):=rfl
theorem b_neq (a b:Bool):cmpB .neq a b = (a != b):=rfl
theorem f_max (a b:Int):maxI a b = mx a b:=rfl
theorem f_min (a b:Int):minI a b = mn a b:=rfl
theorem sh_i64_33 (a:Int):int2 .shr .i64 a 33 = a / 8589934592:=by rw [i_shr];rfl
theorem sh_i64_45 (a:Int):int2 .shr .i64 a 45 = a / 35184372088832:=by rw [i_shr];rfl
theorem sh_u32_8 (a:Int):int2 .shr .u32 a 8 = a / 256:=by rw [i_shr];rfl
theorem sh_u32_16 (a:Int):int2 .shr .u32 a 16 = a / 65536:=by rw [i_shr];rfl
theorem sh_u32_24 (a:Int):int2 .shr .u32 a 24 = a / 16777216:=by rw [i_shr];rfl
theorem sh_u64_1 (a:Int):int2 .shr .u64 a 1 = a / 2:=by rw [i_shr];rfl
theorem vs:(type_of% @mkR_nI)∧(type_of% @setR_nI)∧(type_of% @setR_nS)∧(type_of% @i_shl)∧(type_of% @f_len)∧(type_of% @f_cat)∧(type_of% @f_not)∧(type_of% @f_and)∧(type_of% @f_neg2)∧(type_of% @f_wrap)∧(type_of% @f_slen)∧(type_of% @f_sub)∧(type_of% @f_app)∧(type_of% @w64)∧(type_of% @w8)∧(type_of% @w32)∧(type_of% @wu64)∧(type_of% @i_add)∧(type_of% @i_sub)∧(type_of% @i_mul)∧(type_of% @i_quo)∧(type_of% @i_rem)∧(type_of% @i_and)∧(type_of% @i_or)∧(type_of% @i_xor)∧(type_of% @nI_len)∧(type_of% @nS_len)∧(type_of% @nI_fold)∧(type_of% @nS_fold)∧(type_of% @lit1)∧(type_of% @consI)∧(type_of% @litS)∧(type_of% @consS)∧(type_of% @tn0)∧(type_of% @sz_mk)∧(type_of% @nI_nil)∧(type_of% @nS_nil)∧(type_of% @tl_mk)∧(type_of% @cutR_nI)∧(type_of% @cutR_nS)∧(type_of% @strOf_nI)∧(type_of% @g_rd)∧(type_of% @g_rds)∧(type_of% @b_bt)∧(type_of% @b_of)∧(type_of% @rows_cons)∧(type_of% @rows_nil)∧(type_of% @rows_app0)∧(type_of% @q_n)∧(type_of% @r_n)∧(type_of% @tn_n)∧(type_of% @Z77)∧(type_of% @m122_nil)∧(type_of% @m122_app)∧(type_of% @m122_cut)∧(type_of% @m122_cat)∧(type_of% @m122_cons)∧(type_of% @m122_0)∧(type_of% @m122_1)∧(type_of% @m162_len)∧(type_of% @m162_nil)∧(type_of% @m162_app)∧(type_of% @m162_cut)∧(type_of% @m162_cat)∧(type_of% @m162_cons)∧(type_of% @m162_0)∧(type_of% @m162_1)∧(type_of% @m162_2)∧(type_of% @m59_len)∧(type_of% @m59_nil)∧(type_of% @m59_app)∧(type_of% @m59_cut)∧(type_of% @m59_cat)∧(type_of% @m59_cons)∧(type_of% @m59_0)∧(type_of% @m59_1)∧(type_of% @m113_len)∧(type_of% @m113_nil)∧(type_of% @m113_app)∧(type_of% @m113_cut)∧(type_of% @m113_cat)∧(type_of% @m113_cons)∧(type_of% @m113_0)∧(type_of% @m113_1)∧(type_of% @m113_2)∧(type_of% @m113_3)∧(type_of% @Z71)∧(type_of% @m145_nil)∧(type_of% @m145_app)∧(type_of% @m145_cut)∧(type_of% @m145_cat)∧(type_of% @m145_cons)∧(type_of% @m145_0)∧(type_of% @m145_1)∧(type_of% @m145_2)∧(type_of% @m145_3)∧(type_of% @m119_len)∧(type_of% @m119_nil)∧(type_of% @m119_app)∧(type_of% @m119_cut)∧(type_of% @m119_cat)∧(type_of% @m119_cons)∧(type_of% @m119_0)∧(type_of% @m119_1)∧(type_of% @m119_2)∧(type_of% @m119_3)∧(type_of% @m147_len)∧(type_of% @m147_nil)∧(type_of% @m147_app)∧(type_of% @m147_cut)∧(type_of% @m147_cat)∧(type_of% @m147_cons)∧(type_of% @m147_0)∧(type_of% @m147_1)∧(type_of% @m122_s)∧(type_of% @m122_s0)∧(type_of% @m122_s1)∧(type_of% @m145_s)∧(type_of% @m145_s0)∧(type_of% @m145_s1)∧(type_of% @m145_s2)∧(type_of% @m145_s3)∧(type_of% @nL_len)∧(type_of% @nL_nil)∧(type_of% @litL)∧(type_of% @consL)∧(type_of% @f_max)∧(type_of% @f_min)∧(type_of% @sh_i64_33)∧(type_of% @sh_i64_45)∧(type_of% @sh_u32_8)∧(type_of% @sh_u32_16)∧(type_of% @sh_u32_24)∧(type_of% @sh_u64_1):=⟨@mkR_nI,@setR_nI,@setR_nS,@i_shl,@f_len,@f_cat,@f_not,@f_and,@f_neg2,@f_wrap,@f_slen,@f_sub,@f_app,@w64,@w8,@w32,@wu64,@i_add,@i_sub,@i_mul,@i_quo,@i_rem,@i_and,@i_or,@i_xor,@nI_len,@nS_len,@nI_fold,@nS_fold,@lit1,@consI,@litS,@consS,@tn0,@sz_mk,@nI_nil,@nS_nil,@tl_mk,@cutR_nI,@cutR_nS,@strOf_nI,@g_rd,@g_rds,@b_bt,@b_of,@rows_cons,@rows_nil,@rows_app0,@q_n,@r_n,@tn_n,@Z77,@m122_nil,@m122_app,@m122_cut,@m122_cat,@m122_cons,@m122_0,@m122_1,@m162_len,@m162_nil,@m162_app,@m162_cut,@m162_cat,@m162_cons,@m162_0,@m162_1,@m162_2,@m59_len,@m59_nil,@m59_app,@m59_cut,@m59_cat,@m59_cons,@m59_0,@m59_1,@m113_len,@m113_nil,@m113_app,@m113_cut,@m113_cat,@m113_cons,@m113_0,@m113_1,@m113_2,@m113_3,@Z71,@m145_nil,@m145_app,@m145_cut,@m145_cat,@m145_cons,@m145_0,@m145_1,@m145_2,@m145_3,@m119_len,@m119_nil,@m119_app,@m119_cut,@m119_cat,@m119_cons,@m119_0,@m119_1,@m119_2,@m119_3,@m147_len,@m147_nil,@m147_app,@m147_cut,@m147_cat,@m147_cons,@m147_0,@m147_1,@m122_s,@m122_s0,@m122_s1,@m145_s,@m145_s0,@m145_s1,@m145_s2,@m145_s3,@nL_len,@nL_nil,@litL,@consL,@f_max,@f_min,@sh_i64_33,@sh_i64_45,@sh_u32_8,@sh_u32_16,@sh_u32_24,@sh_u64_1⟩
theorem hs:(type_of% @c_eql_t)∧(type_of% @c_eql_f)∧(type_of% @c_neq_t)∧(type_of% @c_neq_f)∧(type_of% @c_lss_t)∧(type_of% @c_lss_f)∧(type_of% @c_leq_t)∧(type_of% @c_leq_f)∧(type_of% @c_gtr_t)∧(type_of% @c_gtr_f)∧(type_of% @c_geq_t)∧(type_of% @c_geq_f)∧(type_of% @s_eql_t)∧(type_of% @s_eql_f)∧(type_of% @s_neq_t)∧(type_of% @s_neq_f)∧(type_of% @s_lss)∧(type_of% @s_lss_f)∧(type_of% @s_gtr)∧(type_of% @s_gtr_f)∧(type_of% @s_geq_t)∧(type_of% @s_geq_f)∧(type_of% @n_t)∧(type_of% @n_f)∧(type_of% @b_f)∧(type_of% @not_t)∧(type_of% @nn_t)∧(type_of% @b_neq_t)∧(type_of% @b_neq_f)∧(type_of% @b_eql_t)∧(type_of% @b_eql_f):=⟨@c_eql_t,@c_eql_f,@c_neq_t,@c_neq_f,@c_lss_t,@c_lss_f,@c_leq_t,@c_leq_f,@c_gtr_t,@c_gtr_f,@c_geq_t,@c_geq_f,@s_eql_t,@s_eql_f,@s_neq_t,@s_neq_f,@s_lss,@s_lss_f,@s_gtr,@s_gtr_f,@s_geq_t,@s_geq_f,@n_t,@n_f,@b_f,@not_t,@nn_t,@b_neq_t,@b_neq_f,@b_eql_t,@b_eql_f⟩
theorem cs:(type_of% @c_eql)∧(type_of% @c_neq)∧(type_of% @c_lss)∧(type_of% @c_leq)∧(type_of% @c_gtr)∧(type_of% @c_geq)∧(type_of% @s_eql)∧(type_of% @s_neq)∧(type_of% @s_lss)∧(type_of% @s_leq)∧(type_of% @s_gtr)∧(type_of% @s_geq)∧(type_of% @b_eql)∧(type_of% @b_neq):=⟨@c_eql,@c_neq,@c_lss,@c_leq,@c_gtr,@c_geq,@s_eql,@s_neq,@s_lss,@s_leq,@s_gtr,@s_geq,@b_eql,@b_neq⟩
theorem f_ {p:Prop} (h:p:=by (try (conv => lhs;cbv));first | done | (with_reducible rfl) | (simp only [hF,hE];done) | (simp only [hF,hE];simp only [vs];done) | (simp only [hF,hE];simp only [vs,List.cons_append,List.nil_append];done) | (simp only [hF,hE];simp only [vs,cs];done) | (simp only [hF,hE];with_reducible rfl) | (simp only [hF,hE];simp only [vs];with_reducible rfl) | (simp only [hF,hE];simp only [vs];rfl)):p:=h
theorem o_ {p:Prop} (h:p:=by (try simp only [hF,hE]);(try simp only [vs,List.length_cons,List.length_nil,List.length_append]);first | done | omega | exact hc | assumption):p:=h
theorem i_ {c A B:Prop} (hb:c) (H:A) (h:A→B:=by intro H;first | (simp only [not_t,b_f] at H;first | (rewrite [if_pos hb] at H;exact H) | (rewrite [if_neg hb] at H;exact H) | (rewrite [if_nn hb] at H;exact H)) | (simp only [←Bool.not_and,f_and,f_not,Bool.and_true,cs] at H hb;first | (rewrite [if_pos hb] at H;exact H) | (rewrite [if_neg hb] at H;exact H) | (simp only [Bool.not_eq_true,Bool.not_eq_true'] at H hb;first | (rewrite [if_pos hb] at H;exact H) | (rewrite [if_neg hb] at H;exact H) | (simp only [hb,Bool.false_eq_true,Bool.true_eq_false,if_true,if_false] at H;exact H)))):B:=h H
theorem s_ {A B:Prop} (H:A) (h:A→B:=by intro H;first | (simp only [List.nil_append,bne_iff_ne,beq_iff_eq,decide_eq_true_eq,Bool.false_eq_true,if_false,if_true] at H;exact H) | (rewrite [Option.bind_some] at H;exact H)):B:=h H
theorem w_ {P:Program} {T:TBs} {F:Hd} {K G:Prop} (hF:F = F0 P T) (k:K) (h:K→G:=by intro k;first | ((with_reducible refine idx_ hF ?_ k);exact o_) | ((with_reducible refine cut_ hF ?_ k);exact o_) | ((with_reducible refine room_ hF ?_ k);exact o_) | ((with_reducible refine roomM_ hF ?_ k);exact o_) | ((with_reducible refine cat_ hF ?_ k);exact o_) | ((with_reducible refine nz_ hF ?_ k);exact o_) | ((with_reducible refine nn_ hF ?_ k);exact o_) | (with_reducible exact eqn_ hF rfl k) | (with_reducible exact isI_ hF (by kernel_rfl) k) | (with_reducible exact cmpT_ hF (by kernel_rfl) (by kernel_rfl) (by kernel_rfl) (by cbv) (by cbv) k) | (with_reducible exact drawn_ hF (by kernel_rfl) (by kernel_rfl) k)):G:=h k
theorem br2 {P:Program} {T:TBs} {F:Hd} {b:Bool} {p q A B C c d:Prop} (hF:F = F0 P T) (H:A) (h1:c→B→p) (h2:d→C→q) (k1:b = true→c:=by intro hb;(try simp only [hF,hE] at hb);first | ((try simp only [hs,vs] at hb);exact hb) | (show False;simp only [hs,vs] at hb)) (k2:b = false→d:=by intro hb;(try simp only [hF,hE] at hb);first | ((try simp only [hs,vs] at hb);exact hb) | (show False;simp only [hs,vs] at hb)) (t1:c→A→B:=by intro hb H;first | exact (False.elim hb:False) | (rewrite [if_pos hb] at H;exact H) | (rewrite [if_neg hb] at H;exact H) | (rewrite [if_nn hb] at H;exact H) | exact i_ hb H | (simp only [hb,not_t,b_f,not_true_eq_false,not_false_eq_true,Bool.not_true,Bool.not_false,Bool.false_eq_true,if_true,if_false] at H;exact H) | (show False;simp only [hb,not_t,b_f,not_true_eq_false,not_false_eq_true,Bool.not_true,Bool.not_false,Bool.false_eq_true,if_true,if_false] at H) | exact H) (t2:d→A→C:=by intro hb H;first | exact (False.elim hb:False) | (rewrite [if_pos hb] at H;exact H) | (rewrite [if_neg hb] at H;exact H) | (rewrite [if_nn hb] at H;exact H) | exact i_ hb H | (simp only [hb,not_t,b_f,not_true_eq_false,not_false_eq_true,Bool.not_true,Bool.not_false,Bool.false_eq_true,if_true,if_false] at H;exact H) | (show False;simp only [hb,not_t,b_f,not_true_eq_false,not_false_eq_true,Bool.not_true,Bool.not_false,Bool.false_eq_true,if_true,if_false] at H) | exact H):F.branch b p q:=br_ hF (fun h => h1 (k1 h) (t1 (k1 h) H)) (fun h => h2 (k2 h) (t2 (k2 h) H))
theorem ca_ {P:Program} {T:TBs} {F:Hd} {f:FuncId} {ar ar' io io' K} {r news outs} (hF:F = F0 P T) (hc:Con P T f ar' io' r news outs) (hk:K r news outs) (ha:ar = ar':=by exact f_) (hio:io = io':=by exact f_):F.call f ar io K:=call_ hF hc ha hio hk
def Into (hp:Hp) (I:Nat→St→Prop) (s:St):Prop:=∃ n t,Weak s t∧I n t
theorem into_ {hp:Hp} {I:Nat→St→Prop} {s:St} {n N:Nat} {L O} (a:I n (At N L O)) (b:hp.ok N (hp.pre s) = true) (c:hp.L (hp.pre s) = L) (d:hp.O (hp.pre s) = O):Into hp I s:=let ⟨t,h⟩:=head_ hp a b c d;⟨n,t,h⟩
theorem lo_ {P:Program} {T:TBs} {F:Hd} {step s Q} (hF:F = F0 P T) (I:Nat→St→Prop) (hp:Hp) (hr:∀ n t,I n t→∀ Q':Ex→St→Prop,(∀ s',Into hp (fun m u => m < n∧I m u) s'→Q' .normal s')→(∀ e s',e≠.normal→Q e s'→Q' e s')→step t Q') (h0:Into hp I s:=by apply into_;(case a => ((repeat' first | exact ⟨rfl,H⟩ | apply Exists.intro | apply And.intro);all_goals omega));(case b => cbv);(case c => exact f_);(case d => exact f_)):F.loop step s Q:=let ⟨n,t,hw,hI⟩:=h0;loop_ hF I n ⟨t,hw,hI⟩ (fun n t ht Q' h1 h2 => hr n t ht Q' (fun s' ⟨m,u,hw,hm,hI⟩ => h1 s' ⟨m,hm,u,hw,hI⟩) h2)
theorem nx_ {hp I s'} {Q':Ex→St→Prop} (h:∀ s',Into hp I s'→Q' .normal s') (k:Into hp I s':=by apply into_;(case a => ((repeat' first | exact ⟨rfl,H⟩ | apply Exists.intro | apply And.intro);all_goals omega));(case b => cbv);(case c => exact f_);(case d => exact f_)):Q' .normal s':=h s' k
theorem xt_ {e s'} {Q Q':Ex→St→Prop} (h:∀ e s',e≠.normal→Q e s'→Q' e s') (k:Q e s') (ne:e≠.normal:=by first | exact ne_ret | exact ne_exit _):Q' e s':=h e s' ne k
theorem co_ {P:Program} {T:TBs} {tab f fn c args ins r news outs} (hf:P.funcs[f]? = some fn) (hT:TabOk P tab) (ids:List Nat)
  (h : ∀ F : Hd, F = F0 P T → ∀ Q : Ex → St → Prop, (∀ e s t, (e = .ret ∨ e = .normal) → Weak s t → fin tab fn.results.toList ids ins.length t = some (r, news, outs) → Q e s) → evC F tab c (start fn.ntmps args ins) Q) (hb : fn.body = some c := by exact rfl) (hn : (fn.name == "runtime.NumGoroutine") = false := by kernel_rfl) (hl : ins.length ≤ 8 := by exact Nat.le_of_ble_eq_true rfl) : Con P T f args ins r news outs := con_of hf hb hn hT ids hl (fun F hF Q hQ hQn => h F hF Q (fun _ s t he => by rcases he with rfl | rfl <;> first | exact hQ s t | exact hQn s t))
theorem en_ {s:St} {tab rs ids io X} {e:Ex} {Q:Ex→St→Prop} (h:Hp) (n:Nat) (hq:∀ e s t,(e = .ret∨e = .normal)→Weak s t→fin tab rs ids io t = some X→Q e s) (he:e = .ret∨e = .normal:=by first | exact .inl rfl | exact .inr rfl) (hok:h.ok n (h.pre s) = true:=by cbv) (hf:fin tab rs ids io (At n (h.L (h.pre s)) (h.O (h.pre s))) = some X:=by (with_reducible have hS:=Option.some.inj H);clear hS;cases H;exact f_):Q e s:=end_ h n (fun s t => hq e s t he) hok hf
abbrev Cn:=Con Tryz.prog TBX
theorem k1_ {F:Hd} (f:FuncId) {α β:Type} {ar io K} {x:Option α} {g:α→Option β} {r:β} (H:x.bind g = some r) (h:∀ a,x = some a→g a = some r→F.call f ar io K):F.call f ar io K:=let ⟨y,h1,h2⟩:=bind_ H;h y h1 h2
theorem k2_ {F:Hd} (f:FuncId) {α0 α1 β:Type} {ar io K} {x:Option (α0×α1)} {g:α0×α1→Option β} {r:β} (H:x.bind g = some r) (h:∀ a0 a1,x = some (a0,a1)→g (a0,a1) = some r→F.call f ar io K):F.call f ar io K:=let ⟨_,h1,h2⟩:=bind_ H;h _ _ h1 h2
theorem k3_ {F:Hd} (f:FuncId) {α0 α1 α2 β:Type} {ar io K} {x:Option (α0×α1×α2)} {g:α0×α1×α2→Option β} {r:β} (H:x.bind g = some r) (h:∀ a0 a1 a2,x = some (a0,a1,a2)→g (a0,a1,a2) = some r→F.call f ar io K):F.call f ar io K:=let ⟨_,h1,h2⟩:=bind_ H;h _ _ _ h1 h2
theorem k4_ {F:Hd} (f:FuncId) {α0 α1 α2 α3 β:Type} {ar io K} {x:Option (α0×α1×α2×α3)} {g:α0×α1×α2×α3→Option β} {r:β} (H:x.bind g = some r) (h:∀ a0 a1 a2 a3,x = some (a0,a1,a2,a3)→g (a0,a1,a2,a3) = some r→F.call f ar io K):F.call f ar io K:=let ⟨_,h1,h2⟩:=bind_ H;h _ _ _ _ h1 h2
theorem k5_ {F:Hd} (f:FuncId) {α0 α1 α2 α3 α4 β:Type} {ar io K} {x:Option (α0×α1×α2×α3×α4)} {g:α0×α1×α2×α3×α4→Option β} {r:β} (H:x.bind g = some r) (h:∀ a0 a1 a2 a3 a4,x = some (a0,a1,a2,a3,a4)→g (a0,a1,a2,a3,a4) = some r→F.call f ar io K):F.call f ar io K:=let ⟨_,h1,h2⟩:=bind_ H;h _ _ _ _ _ h1 h2
theorem k6_ {F:Hd} (f:FuncId) {α0 α1 α2 α3 α4 α5 β:Type} {ar io K} {x:Option (α0×α1×α2×α3×α4×α5)} {g:α0×α1×α2×α3×α4×α5→Option β} {r:β} (H:x.bind g = some r) (h:∀ a0 a1 a2 a3 a4 a5,x = some (a0,a1,a2,a3,a4,a5)→g (a0,a1,a2,a3,a4,a5) = some r→F.call f ar io K):F.call f ar io K:=let ⟨_,h1,h2⟩:=bind_ H;h _ _ _ _ _ _ h1 h2
theorem k8_ {F:Hd} (f:FuncId) {α0 α1 α2 α3 α4 α5 α6 α7 β:Type} {ar io K} {x:Option (α0×α1×α2×α3×α4×α5×α6×α7)} {g:α0×α1×α2×α3×α4×α5×α6×α7→Option β} {r:β} (H:x.bind g = some r) (h:∀ a0 a1 a2 a3 a4 a5 a6 a7,x = some (a0,a1,a2,a3,a4,a5,a6,a7)→g (a0,a1,a2,a3,a4,a5,a6,a7) = some r→F.call f ar io K):F.call f ar io K:=let ⟨_,h1,h2⟩:=bind_ H;h _ _ _ _ _ _ _ _ h1 h2
theorem k9_ {F:Hd} (f:FuncId) {α0 α1 α2 α3 α4 α5 α6 α7 α8 β:Type} {ar io K} {x:Option (α0×α1×α2×α3×α4×α5×α6×α7×α8)} {g:α0×α1×α2×α3×α4×α5×α6×α7×α8→Option β} {r:β} (H:x.bind g = some r) (h:∀ a0 a1 a2 a3 a4 a5 a6 a7 a8,x = some (a0,a1,a2,a3,a4,a5,a6,a7,a8)→g (a0,a1,a2,a3,a4,a5,a6,a7,a8) = some r→F.call f ar io K):F.call f ar io K:=let ⟨_,h1,h2⟩:=bind_ H;h _ _ _ _ _ _ _ _ _ h1 h2
theorem k10_ {F:Hd} (f:FuncId) {α0 α1 α2 α3 α4 α5 α6 α7 α8 α9 β:Type} {ar io K} {x:Option (α0×α1×α2×α3×α4×α5×α6×α7×α8×α9)} {g:α0×α1×α2×α3×α4×α5×α6×α7×α8×α9→Option β} {r:β} (H:x.bind g = some r) (h:∀ a0 a1 a2 a3 a4 a5 a6 a7 a8 a9,x = some (a0,a1,a2,a3,a4,a5,a6,a7,a8,a9)→g (a0,a1,a2,a3,a4,a5,a6,a7,a8,a9) = some r→F.call f ar io K):F.call f ar io K:=let ⟨_,h1,h2⟩:=bind_ H;h _ _ _ _ _ _ _ _ _ _ h1 h2
theorem k11_ {F:Hd} (f:FuncId) {α0 α1 α2 α3 α4 α5 α6 α7 α8 α9 α10 β:Type} {ar io K} {x:Option (α0×α1×α2×α3×α4×α5×α6×α7×α8×α9×α10)} {g:α0×α1×α2×α3×α4×α5×α6×α7×α8×α9×α10→Option β} {r:β} (H:x.bind g = some r) (h:∀ a0 a1 a2 a3 a4 a5 a6 a7 a8 a9 a10,x = some (a0,a1,a2,a3,a4,a5,a6,a7,a8,a9,a10)→g (a0,a1,a2,a3,a4,a5,a6,a7,a8,a9,a10) = some r→F.call f ar io K):F.call f ar io K:=let ⟨_,h1,h2⟩:=bind_ H;h _ _ _ _ _ _ _ _ _ _ _ h1 h2
end Go.Ev
