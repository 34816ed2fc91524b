/- The plain functions that the Go functions of this law come to. No conditions but those that each statement names. By this repo's programs; comments are taken out. -/
import Derived.Shelf.Strconv.Itoa3
import Derived.Lib.Atoi
import Derived.Lib.Bytealg
import Derived.Test.YtlmicldpfnmeaaaGreatDoorProg
import Derived.Test.YtlmicldpfnmeaaaGreatDoorVFnExactSnapTextEd
import Derived.Test.YtlmicldpfnmeaaaGreatDoorVFnExactSnapTextW
set_option linter.all false
namespace Go.Ev
open Go.RowKit Go.Proofs Go.Proofs.YtlmicldpfnmeaaaGreatDoorW.PrintWords Go.Proofs.YtlmicldpfnmeaaaGreatDoorW.PrintLast Go.Proofs.YtlmicldpfnmeaaaGreatDoorW.PrintMore
structure S171 where
 f0:ByteArray
 f1:ByteArray
def z171:S171:=⟨(⟨#[]⟩:ByteArray),(⟨#[]⟩:ByteArray)⟩
def rd_T171 (xs:List S171) (i:Int):S171:=xs.getD i.toNat z171
structure S173 where
 f0:ByteArray
 f1:Int
 f2:Int
 f3:Int
def z173:S173:=⟨(⟨#[]⟩:ByteArray),(0:Int),(0:Int),(0:Int)⟩
def rd_T173 (xs:List S173) (i:Int):S173:=xs.getD i.toNat z173
structure S122 where
 f0:ByteArray
 f1:ByteArray
def z122:S122:=⟨(⟨#[]⟩:ByteArray),(⟨#[]⟩:ByteArray)⟩
def rd_T122 (xs:List S122) (i:Int):S122:=xs.getD i.toNat z122
structure S145 where
 f0:ByteArray
 f1:Int
 f2:Int
 f3:Int
def z145:S145:=⟨(⟨#[]⟩:ByteArray),(0:Int),(0:Int),(0:Int)⟩
def rd_T145 (xs:List S145) (i:Int):S145:=xs.getD i.toNat z145
structure S162 where
 f0:ByteArray
 f1:ByteArray
 f2:Bool
def z162:S162:=⟨(⟨#[]⟩:ByteArray),(⟨#[]⟩:ByteArray),false⟩
def rd_T162 (xs:List S162) (i:Int):S162:=xs.getD i.toNat z162
structure S119 where
 f0:Int
 f1:ByteArray
 f2:ByteArray
 f3:ByteArray
def z119:S119:=⟨(0:Int),(⟨#[]⟩:ByteArray),(⟨#[]⟩:ByteArray),(⟨#[]⟩:ByteArray)⟩
def rd_T119 (xs:List S119) (i:Int):S119:=xs.getD i.toNat z119
structure S59 where
 f0:Int
 f1:(List S162)
def z59:S59:=⟨(0:Int),([]:List S162)⟩
def rd_T59 (xs:List S59) (i:Int):S59:=xs.getD i.toNat z59
structure S113 where
 f0:S59
 f1:ByteArray
 f2:Int
def z113:S113:=⟨z59,(⟨#[]⟩:ByteArray),(0:Int)⟩
def rd_T113 (xs:List S113) (i:Int):S113:=xs.getD i.toNat z113
def atoiO (s:ByteArray):Option (Int×Bool):=if s.size≤18 then (match Lib.atoi s.data.toList with | some n => some (n,true) | none => some (0,false)) else none
def delO {α:Type} (a1 a2:Int) (l:List α):Option (List α):=if a2 = a1 + 1 then (if 0≤a1 then (if a1 < (l.length:Int) then some (l.take a1.toNat++l.drop (a1.toNat + 1)) else none) else none) else none
def insO {α:Type} (b:Nat) (l:List α) (a1:Int):List α→Option (List α)
 | [x] => if 0≤a1 then (if a1≤(l.length:Int) then (if (l.length + 1) * b≤140737488355328 then some (l.take a1.toNat++x::l.drop a1.toNat) else none) else none) else none
 | _ => none
def laws_szFile.f (a0_0:ByteArray) (a0_1:ByteArray) (a1:Int):Option (Int):=if (wrap64 (a1 - (a0_0.size:Int))) < 0 then (some (-1)) else (if (wrap64 ((wrap64 (a1 - (a0_0.size:Int))) - (a0_1.size:Int))) < 0 then (some (-1)) else (some (wrap64 ((wrap64 (a1 - (a0_0.size:Int))) - (a0_1.size:Int)))))
def laws_szFileS.l0:Nat→List S171→Int→Int→Option (Int)
 | 0,_,_,_ => none
 | k + 1,x0,x1,x5 => if x5 < (x0.length:Int) then (if 0≤x5 then ((laws_szFile.f ((rd_T171 x0 x5).f0) ((rd_T171 x0 x5).f1) x1).bind fun t103 => (if t103 < 0 then (some (-1)) else (laws_szFileS.l0 k x0 t103 (wrap64 (x5 + 1))))) else (none)) else (some x1)
def laws_szFileS.f (k:Nat) (l0:List S171) (a1:Int):Option (Int):=if (wrap64 (a1 - (l0.length:Int))) < 0 then (some (-1)) else (laws_szFileS.l0 k l0 (wrap64 (a1 - (l0.length:Int))) 0)
def laws_szDisk.f (k:Nat) (l0_0:List S171) (a1:Int):Option (Int):=(laws_szFileS.f k l0_0 a1).bind fun t105 => (if t105 < 0 then (some (-1)) else (some t105))
def laws_szIntS.f (l0:List Int) (a1:Int):Option (Int):=if (wrap64 (a1 - (l0.length:Int))) < 0 then (some (-1)) else (some (wrap64 (a1 - (l0.length:Int))))
def laws_szManifest.f (l0_0:List Int) (a0_1:Int) (a0_2:Int) (a0_3:Int) (l0_4:List Int) (a1:Int):Option (Int):=(laws_szIntS.f l0_0 a1).bind fun t107 => (if t107 < 0 then (some (-1)) else ((laws_szIntS.f l0_4 t107).bind fun t108 => (if t108 < 0 then (some (-1)) else (some t108))))
def laws_szSpot.f (a0_0:ByteArray) (a0_1:Int) (a0_2:Int) (a0_3:Int) (a1:Int):Option (Int):=if (wrap64 (a1 - (a0_0.size:Int))) < 0 then (some (-1)) else (some (wrap64 (a1 - (a0_0.size:Int))))
def laws_szSpotS.l0:Nat→List S173→Int→Int→Option (Int)
 | 0,_,_,_ => none
 | k + 1,x0,x1,x5 => if x5 < (x0.length:Int) then (if 0≤x5 then ((laws_szSpot.f ((rd_T173 x0 x5).f0) ((rd_T173 x0 x5).f1) ((rd_T173 x0 x5).f2) ((rd_T173 x0 x5).f3) x1).bind fun t111 => (if t111 < 0 then (some (-1)) else (laws_szSpotS.l0 k x0 t111 (wrap64 (x5 + 1))))) else (none)) else (some x1)
def laws_szSpotS.f (k:Nat) (l0:List S173) (a1:Int):Option (Int):=if (wrap64 (a1 - (l0.length:Int))) < 0 then (some (-1)) else (laws_szSpotS.l0 k l0 (wrap64 (a1 - (l0.length:Int))) 0)
def laws_szShelf.f (k:Nat) (l0_0:List Int) (a0_1:Int) (a0_2:Int) (a0_3:Int) (l0_4:List Int) (l0_5:List S173) (a0_6:Int) (a1:Int):Option (Int):=(laws_szManifest.f l0_0 a0_1 a0_2 a0_3 l0_4 a1).bind fun t113 => (if t113 < 0 then (some (-1)) else ((laws_szSpotS.f k l0_5 t113).bind fun t114 => (if t114 < 0 then (some (-1)) else (some t114))))
def laws_toFile.f (a0_0:ByteArray) (a0_1:ByteArray):Option (ByteArray×ByteArray):=some (a0_0,a0_1)
def laws_toFileS.l0:Nat→List S171→List S122→Int→Option ((List S122))
 | 0,_,_,_ => none
 | k + 1,x0,x3,x4 => if x4 < (x0.length:Int) then (if 0≤x4 then ((laws_toFile.f ((rd_T171 x0 x4).f0) ((rd_T171 x0 x4).f1)).bind fun bt515 => (if x4 < (x3.length:Int) then (laws_toFileS.l0 k x0 (x3.set (x4:Int).toNat (⟨bt515.1,bt515.2⟩:S122)) (wrap64 (x4 + 1))) else (none))) else (none)) else (some x3)
def laws_toFileS.f (k:Nat) (l0:List S171):Option ((List S122)):=if 0≤(l0.length:Int) then (if ((l0.length:Int):Int).toNat≤8796093022208 then (laws_toFileS.l0 k l0 (List.replicate ((l0.length:Int):Int).toNat z122) 0) else (none)) else (none)
def laws_toDisk.f (k:Nat) (l0_0:List S171):Option ((List S122)):=(laws_toFileS.f k l0_0).bind fun t521 => (some t521)
def laws_toIntS.l0:Nat→List Int→List Int→Int→Option (List Int)
 | 0,_,_,_ => none
 | k + 1,x0,x3,x4 => if x4 < (x0.length:Int) then (if 0≤x4 then (if x4 < (x3.length:Int) then (laws_toIntS.l0 k x0 (x3.set (x4:Int).toNat (rd x0 x4)) (wrap64 (x4 + 1))) else (none)) else (none)) else (some x3)
def laws_toIntS.f (k:Nat) (l0:List Int):Option (List Int):=if 0≤(l0.length:Int) then (if ((l0.length:Int):Int).toNat≤35184372088832 then (laws_toIntS.l0 k l0 (List.replicate ((l0.length:Int):Int).toNat 0) 0) else (none)) else (none)
def laws_toManifest.f (k:Nat) (l0_0:List Int) (a0_1:Int) (a0_2:Int) (a0_3:Int) (l0_4:List Int):Option (List Int×Int×Int×Int×List Int):=(laws_toIntS.f k l0_0).bind fun t532 => ((laws_toIntS.f k l0_4).bind fun t535 => (some (t532,a0_1,a0_2,a0_3,t535)))
def laws_toSpot.f (a0_0:ByteArray) (a0_1:Int) (a0_2:Int) (a0_3:Int):Option (ByteArray×Int×Int×Int):=some (a0_0,a0_1,a0_2,a0_3)
def laws_toSpotS.l0:Nat→List S173→List S145→Int→Option ((List S145))
 | 0,_,_,_ => none
 | k + 1,x0,x3,x4 => if x4 < (x0.length:Int) then (if 0≤x4 then ((laws_toSpot.f ((rd_T173 x0 x4).f0) ((rd_T173 x0 x4).f1) ((rd_T173 x0 x4).f2) ((rd_T173 x0 x4).f3)).bind fun bt545 => (if x4 < (x3.length:Int) then (laws_toSpotS.l0 k x0 (x3.set (x4:Int).toNat (⟨bt545.1,bt545.2.1,bt545.2.2.1,bt545.2.2.2⟩:S145)) (wrap64 (x4 + 1))) else (none))) else (none)) else (some x3)
def laws_toSpotS.f (k:Nat) (l0:List S173):Option ((List S145)):=if 0≤(l0.length:Int) then (if ((l0.length:Int):Int).toNat≤7036874417766 then (laws_toSpotS.l0 k l0 (List.replicate ((l0.length:Int):Int).toNat z145) 0) else (none)) else (none)
def laws_toShelf.f (k:Nat) (l0_0:List Int) (a0_1:Int) (a0_2:Int) (a0_3:Int) (l0_4:List Int) (l0_5:List S173) (a0_6:Int):Option (List Int×Int×Int×Int×List Int×(List S145)×Int):=(laws_toManifest.f k l0_0 a0_1 a0_2 a0_3 l0_4).bind fun bt553 => ((laws_toSpotS.f k l0_5).bind fun t562 => (some (bt553.1,bt553.2.1,bt553.2.2.1,bt553.2.2.2.1,bt553.2.2.2.2,t562,a0_6)))
def spec_l01In.f (a0:Int) (a1:Int) (a2:Int):Option (Bool):=if a0≥a1 then (some (decide (a0≤a2))) else (some false)
def spec_DiskOk.l0:Nat→Int→List S122→Option (Bool)
 | 0,_,_ => none
 | k + 1,x3,x148000 => if x3 < (x148000.length:Int) then (if 0≤x3 then ((spec_l01In.f (((rd_T122 x148000 x3).f0).size:Int) 1 12).bind fun t149 => (if t149 = true then (if (((rd_T122 x148000 x3).f1).size:Int) > 20000 then (some false) else (if x3 > 0 then (if 0≤(wrap64 (x3 - 1)) then (if (wrap64 (x3 - 1)) < (x148000.length:Int) then (if ((Op.bytesLess (((rd_T122 x148000 (wrap64 (x3 - 1))).f0).toList) (((rd_T122 x148000 x3).f0).toList)) = true) then (spec_DiskOk.l0 k (wrap64 (x3 + 1)) x148000) else (some false)) else (none)) else (none)) else (spec_DiskOk.l0 k (wrap64 (x3 + 1)) x148000))) else (some false))) else (none)) else (some true)
def spec_DiskOk.f (k:Nat) (l0_0:List S122):Option (Bool):=if (l0_0.length:Int) > 30 then (some false) else (spec_DiskOk.l0 k 0 l0_0)
def spec_l03At.l0:Nat→ByteArray→Int→List S122→Option (Int)
 | 0,_,_,_ => none
 | k + 1,x1,x5,x116000 => if x5 < (x116000.length:Int) then (if 0≤x5 then (if ((rd_T122 x116000 x5).f0).toList = x1.toList then (some x5) else (spec_l03At.l0 k x1 (wrap64 (x5 + 1)) x116000)) else (none)) else (some (-1))
def spec_l03At.f (k:Nat) (l0_0:List S122) (a1:ByteArray):Option (Int):=spec_l03At.l0 k a1 0 l0_0
def spec_FileAt.f (k:Nat) (l0_0:List S122) (a1:ByteArray):Option (ByteArray×Bool):=(spec_l03At.f k l0_0 a1).bind fun t165 => ((spec_DiskOk.f k l0_0).bind fun t166 => (if t166 = true then (if t165 < 0 then (some ((⟨#[]⟩:ByteArray),false)) else (if 0≤t165 then (if t165 < (l0_0.length:Int) then (some ((rd_T122 l0_0 t165).f1,true)) else (none)) else (none))) else (some ((⟨#[]⟩:ByteArray),false))))
mutual
def spec_SumMore.l0:Nat→Int→ByteArray→Int→Option (Int)
 | 0,_,_,_ => none
 | k + 1,x0,x1,x5 => if x5 < (x1.size:Int) then (if 0≤x5 then (spec_SumMore.l1 k (Go.bits .xor .u32 x0 ((bt x1 x5) % 4294967296)) x1 x5 0) else (none)) else (some x0)
def spec_SumMore.l1:Nat→Int→ByteArray→Int→Int→Option (Int)
 | 0,_,_,_,_ => none
 | k + 1,x0,x1,x5,x6 => if x6 < 8 then (if (Int.tmod x0 2) = 1 then (spec_SumMore.l1 k (Go.bits .xor .u32 ((Int.tdiv x0 2) % 4294967296) 3558460437) x1 x5 (wrap64 (x6 + 1))) else (spec_SumMore.l1 k ((Int.tdiv x0 2) % 4294967296) x1 x5 (wrap64 (x6 + 1)))) else (spec_SumMore.l0 k x0 x1 (wrap64 (x5 + 1)))
end
def spec_SumMore.f (k:Nat) (a0:Int) (a1:ByteArray):Option (Int):=spec_SumMore.l0 k a0 a1 0
def spec_SumOf.f (k:Nat) (a0:ByteArray):Option (Int):=(spec_SumMore.f k 4294967295 a0).bind fun t142 => (some t142)
def spec_l02Four.f (a0:Int):Option (ByteArray):=some (strOfNums (([(a0 / 16777216) % 256,(a0 / 65536) % 256,(a0 / 256) % 256,(a0) % 256]:List Int)))
def spec_Unsealed.f (k:Nat) (a0:ByteArray):Option (ByteArray×Bool):=if (wrap64 ((a0.size:Int) - 4)) < 0 then (some ((⟨#[]⟩:ByteArray),false)) else (if (wrap64 ((a0.size:Int) - 4)) > 20000 then (some ((⟨#[]⟩:ByteArray),false)) else (if 0≤(wrap64 ((a0.size:Int) - 4)) then (if (wrap64 ((a0.size:Int) - 4))≤(a0.size:Int) then ((spec_SumOf.f k (a0.extract 0 ((wrap64 ((a0.size:Int) - 4)):Int).toNat)).bind fun t201 => ((spec_l02Four.f t201).bind fun t202 => (if (a0.extract ((wrap64 ((a0.size:Int) - 4)):Int).toNat a0.size).toList = t202.toList then (some (a0.extract 0 ((wrap64 ((a0.size:Int) - 4)):Int).toNat,true)) else (some ((⟨#[]⟩:ByteArray),false))))) else (none)) else (none)))
def spec_l01Var.l0:Nat→Int→List Int→Option (ByteArray)
 | 0,_,_ => none
 | k + 1,x0,x3 => if x0 > 127 then (if x3.length < 140737488355328 then (spec_l01Var.l0 k (wrap64 (Int.tdiv x0 128)) (x3++[(wrap64 ((Int.tmod x0 128) + 128)) % 256])) else (none)) else (if x3.length < 140737488355328 then (some (strOfNums (x3++[(x0) % 256]))) else (none))
def spec_l01Var.f (k:Nat) (a0:Int):Option (ByteArray):=spec_l01Var.l0 k a0 (([]:List Int))
mutual
def spec_ReadVar.l0:Nat→ByteArray→Int→Int→Int→Int→Option (Int×Int×Bool)
 | 0,_,_,_,_,_ => none
 | k + 1,x0,x1,x7,x8,x9 => if x9 < (x0.size:Int) then (spec_ReadVar.j1 k x0 x1 x7 x8 x9 (decide (x9 < (wrap64 (x1 + 5))))) else (spec_ReadVar.j1 k x0 x1 x7 x8 x9 false)
def spec_ReadVar.j1:Nat→ByteArray→Int→Int→Int→Int→Bool→Option (Int×Int×Bool)
 | 0,_,_,_,_,_,_ => none
 | k + 1,x0,x1,x7,x8,x9,x25 => if x25 = true then (if 0≤x9 then (if x9 < (x0.size:Int) then (if (bt x0 x9) < 128 then (if (wrap64 (x7 + (wrap64 ((Int.tmod (wrap64 (bt x0 x9)) 128) * x8)))) > 1000000000 then (some (0,0,false)) else ((spec_l01Var.f k (wrap64 (x7 + (wrap64 ((Int.tmod (wrap64 (bt x0 x9)) 128) * x8))))).bind fun t197 => (if 0≤x1 then (if x1≤(wrap64 (x9 + 1)) then (if (wrap64 (x9 + 1))≤(x0.size:Int) then (if t197.toList = (x0.extract (x1:Int).toNat ((wrap64 (x9 + 1)):Int).toNat).toList then (some (wrap64 (x7 + (wrap64 ((Int.tmod (wrap64 (bt x0 x9)) 128) * x8))),wrap64 (x9 + 1),true)) else (some (0,0,false))) else (none)) else (none)) else (none)))) else (spec_ReadVar.l0 k x0 x1 (wrap64 (x7 + (wrap64 ((Int.tmod (wrap64 (bt x0 x9)) 128) * x8)))) (wrap64 (x8 * 128)) (wrap64 (x9 + 1)))) else (none)) else (none)) else (some (0,0,false))
end
def spec_ReadVar.f (k:Nat) (a0:ByteArray) (a1:Int):Option (Int×Int×Bool):=(spec_l01In.f a1 0 (a0.size:Int)).bind fun t196 => (if t196 = true then (spec_ReadVar.l0 k a0 a1 0 1 a1) else (some (0,0,false)))
def spec_l05Var.f (k:Nat) (s0_0:ByteArray) (s0_1:Int) (s0_2:Bool):Option (Int×ByteArray×Int×Bool):=(spec_ReadVar.f k s0_0 s0_1).bind fun bt198 => (if s0_2 = true then (some (0,s0_0,s0_1,true)) else (if bt198.2.2 = true then (some (bt198.1,s0_0,bt198.2.1,s0_2)) else (some (0,s0_0,s0_1,true))))
def spec_l07Rise.l0:Nat→List Int→Int→Int→Int→Option (Bool)
 | 0,_,_,_,_ => none
 | k + 1,x0,x1,x2,x7 => if x7 < (x0.length:Int) then (if 0≤x7 then ((spec_l01In.f (rd x0 x7) x1 x2).bind fun t169 => (if t169 = true then (if x7 > 0 then (if 0≤(wrap64 (x7 - 1)) then (if (wrap64 (x7 - 1)) < (x0.length:Int) then (if (rd x0 (wrap64 (x7 - 1)))≥(rd x0 x7) then (some false) else (spec_l07Rise.l0 k x0 x1 x2 (wrap64 (x7 + 1)))) else (none)) else (none)) else (spec_l07Rise.l0 k x0 x1 x2 (wrap64 (x7 + 1)))) else (some false))) else (none)) else (some true)
def spec_l07Rise.f (k:Nat) (l0:List Int) (a1:Int) (a2:Int):Option (Bool):=spec_l07Rise.l0 k l0 a1 a2 0
def spec_ConfOk.f (k:Nat) (l0:List Int):Option (Bool):=(spec_l01In.f (l0.length:Int) 1 4).bind fun t172 => (if t172 = true then ((spec_l07Rise.f k l0 1 4).bind fun t173 => (some t173)) else (some false))
def spec_ManifestOk.f (k:Nat) (l0_0:List Int) (a0_1:Int) (a0_2:Int) (a0_3:Int) (l0_4:List Int):Option (Bool):=(spec_l01In.f (l0_0.length:Int) 1 8).bind fun t175 => (if t175 = true then ((spec_l01In.f a0_1 0 1000).bind fun t176 => (if t176 = true then ((spec_l07Rise.f k l0_0 0 (wrap64 (a0_1 - 1))).bind fun t177 => (if t177 = true then ((spec_l01In.f a0_2 0 100000).bind fun t178 => (if t178 = true then ((spec_l01In.f a0_3 0 100000).bind fun t179 => (if t179 = true then ((spec_ConfOk.f k l0_4).bind fun t180 => (some t180)) else (some false))) else (some false))) else (some false))) else (some false))) else (some false))
def spec_Sealed.f (k:Nat) (a0:ByteArray):Option (ByteArray×Bool):=if (a0.size:Int) > 20000 then (some ((⟨#[]⟩:ByteArray),false)) else ((spec_SumOf.f k a0).bind fun t181 => ((spec_l02Four.f t181).bind fun t182 => (if a0.size + t182.size≤9223372036854775807 then (some (a0++t182,true)) else (none))))
mutual
def spec_ManifestText.l0:Nat→ByteArray→Int→List Int→Int→Int→Int→List Int→Option (ByteArray×Bool)
 | 0,_,_,_,_,_,_,_ => none
 | k + 1,x4,x5,x184000,x184001,x184002,x184003,x184004 => if x5 < (x184000.length:Int) then (if 0≤x5 then ((spec_l01Var.f k (rd x184000 x5)).bind fun t187 => (if x4.size + t187.size≤9223372036854775807 then (spec_ManifestText.l0 k (x4++t187) (wrap64 (x5 + 1)) x184000 x184001 x184002 x184003 x184004) else (none))) else (none)) else ((spec_l01Var.f k x184001).bind fun t188 => (if x4.size + t188.size≤9223372036854775807 then ((spec_l01Var.f k x184002).bind fun t189 => (if (x4++t188).size + t189.size≤9223372036854775807 then ((spec_l01Var.f k x184003).bind fun t190 => (if ((x4++t188)++t189).size + t190.size≤9223372036854775807 then ((spec_l01Var.f k (x184004.length:Int)).bind fun t191 => (if (((x4++t188)++t189)++t190).size + t191.size≤9223372036854775807 then (spec_ManifestText.l1 k ((((x4++t188)++t189)++t190)++t191) 0 x184000 x184001 x184002 x184003 x184004) else (none))) else (none))) else (none))) else (none)))
def spec_ManifestText.l1:Nat→ByteArray→Int→List Int→Int→Int→Int→List Int→Option (ByteArray×Bool)
 | 0,_,_,_,_,_,_,_ => none
 | k + 1,x4,x6,x184000,x184001,x184002,x184003,x184004 => if x6 < (x184004.length:Int) then (if 0≤x6 then ((spec_l01Var.f k (rd x184004 x6)).bind fun t193 => (if x4.size + t193.size≤9223372036854775807 then (spec_ManifestText.l1 k (x4++t193) (wrap64 (x6 + 1)) x184000 x184001 x184002 x184003 x184004) else (none))) else (none)) else ((spec_Sealed.f k x4).bind fun bt194 => (some (bt194.1,bt194.2)))
end
def spec_ManifestText.f (k:Nat) (l0_0:List Int) (a0_1:Int) (a0_2:Int) (a0_3:Int) (l0_4:List Int):Option (ByteArray×Bool):=(spec_ManifestOk.f k l0_0 a0_1 a0_2 a0_3 l0_4).bind fun t184 => (if t184 = true then ((spec_l01Var.f k (l0_0.length:Int)).bind fun t185 => (spec_ManifestText.l0 k t185 0 l0_0 a0_1 a0_2 a0_3 l0_4)) else (some ((⟨#[]⟩:ByteArray),false)))
mutual
def spec_ReadManifest.j1:Nat→ByteArray→ByteArray→Int→Bool→List Int→Int→Int→Int→Option (List Int×Int×Int×Int×List Int×Bool)
 | 0,_,_,_,_,_,_,_,_ => none
 | k + 1,x0,x207000,x207001,x207002,x208000,x208001,x208002,x208003 => (spec_l05Var.f k x207000 x207001 x207002).bind fun bt219 => ((spec_l05Var.f k bt219.2.1 bt219.2.2.1 bt219.2.2.2).bind fun bt223 => ((spec_l05Var.f k bt223.2.1 bt223.2.2.1 bt223.2.2.2).bind fun bt227 => ((spec_l05Var.f k bt227.2.1 bt227.2.2.1 bt227.2.2.2).bind fun bt231 => (spec_ReadManifest.l1 k x0 bt231.1 0 bt231.2.1 bt231.2.2.1 bt231.2.2.2 x208000 bt219.1 bt223.1 bt227.1 ([]:List Int)))))
def spec_ReadManifest.l1:Nat→ByteArray→Int→Int→ByteArray→Int→Bool→List Int→Int→Int→Int→List Int→Option (List Int×Int×Int×Int×List Int×Bool)
 | 0,_,_,_,_,_,_,_,_,_,_,_ => none
 | k + 1,x0,x8,x10,x207000,x207001,x207002,x208000,x208001,x208002,x208003,x208004 => if x10 < x8 then (if x207002 = true then ((spec_ManifestText.f k x208000 x208001 x208002 x208003 x208004).bind fun bt235 => (some (([]:List Int),0,0,0,([]:List Int),false))) else (if x10≤4 then ((spec_l05Var.f k x207000 x207001 x207002).bind fun bt237 => (if x208004.length < 17592186044416 then (spec_ReadManifest.l1 k x0 x8 (wrap64 (x10 + 1)) bt237.2.1 bt237.2.2.1 bt237.2.2.2 x208000 x208001 x208002 x208003 (x208004++[bt237.1])) else (none))) else ((spec_ManifestText.f k x208000 x208001 x208002 x208003 x208004).bind fun bt244 => (if bt244.2 = true then (if bt244.1.toList = x0.toList then (some (x208000,x208001,x208002,x208003,x208004,true)) else (some (([]:List Int),0,0,0,([]:List Int),false))) else (some (([]:List Int),0,0,0,([]:List Int),false)))))) else ((spec_ManifestText.f k x208000 x208001 x208002 x208003 x208004).bind fun bt246 => (if x207002 = true then (some (([]:List Int),0,0,0,([]:List Int),false)) else (if bt246.2 = true then (if bt246.1.toList = x0.toList then (some (x208000,x208001,x208002,x208003,x208004,true)) else (some (([]:List Int),0,0,0,([]:List Int),false))) else (some (([]:List Int),0,0,0,([]:List Int),false)))))
def spec_ReadManifest.l0:Nat→ByteArray→Int→Int→ByteArray→Int→Bool→List Int→Int→Int→Int→Option (List Int×Int×Int×Int×List Int×Bool)
 | 0,_,_,_,_,_,_,_,_,_,_ => none
 | k + 1,x0,x8,x9,x207000,x207001,x207002,x208000,x208001,x208002,x208003 => if x9 < x8 then (if x207002 = true then (spec_ReadManifest.j1 k x0 x207000 x207001 x207002 x208000 x208001 x208002 x208003) else (if x9≤8 then ((spec_l05Var.f k x207000 x207001 x207002).bind fun bt212 => (if x208000.length < 17592186044416 then (spec_ReadManifest.l0 k x0 x8 (wrap64 (x9 + 1)) bt212.2.1 bt212.2.2.1 bt212.2.2.2 (x208000++[bt212.1]) x208001 x208002 x208003) else (none))) else (spec_ReadManifest.j1 k x0 x207000 x207001 x207002 x208000 x208001 x208002 x208003))) else (spec_ReadManifest.j1 k x0 x207000 x207001 x207002 x208000 x208001 x208002 x208003)
end
def spec_ReadManifest.f (k:Nat) (a0:ByteArray):Option (List Int×Int×Int×Int×List Int×Bool):=(spec_Unsealed.f k a0).bind fun bt204 => ((spec_l05Var.f k bt204.1 0 (!bt204.2)).bind fun bt208 => (spec_ReadManifest.l0 k a0 bt208.1 0 bt208.2.1 bt208.2.2.1 bt208.2.2.2 ([]:List Int) 0 0 0))
def spec_l01Figure.f (a0:Int):Option (Int):=if a0 < 10 then (some ((wrap64 (48 + a0)) % 256)) else (some ((wrap64 ((wrap64 (97 + a0)) - 10)) % 256))
def spec_Decimal.l0:Nat→Int→Bool→ByteArray→Option (ByteArray)
 | 0,_,_,_ => none
 | k + 1,x0,x3,x4 => if x0 = 0 then (if x3 = true then (if 1 + x4.size≤9223372036854775807 then (some ((⟨#[45]⟩:ByteArray)++x4)) else (none)) else (some x4)) else (if (Int.tmod x0 10) < 0 then ((spec_l01Figure.f (wrap64 (-(Int.tmod x0 10)))).bind fun t120 => ((some (([t120]:List Int):List Int)).bind fun y121 => (if (strOfNums y121).size + x4.size≤9223372036854775807 then (spec_Decimal.l0 k (wrap64 (Int.tdiv x0 10)) x3 ((strOfNums y121)++x4)) else (none)))) else ((spec_l01Figure.f (Int.tmod x0 10)).bind fun t124 => ((some (([t124]:List Int):List Int)).bind fun y125 => (if (strOfNums y125).size + x4.size≤9223372036854775807 then (spec_Decimal.l0 k (wrap64 (Int.tdiv x0 10)) x3 ((strOfNums y125)++x4)) else (none)))))
def spec_Decimal.f (k:Nat) (a0:Int):Option (ByteArray):=if a0 = 0 then (some (⟨#[48]⟩:ByteArray)) else (spec_Decimal.l0 k a0 (decide (a0 < 0)) (⟨#[]⟩:ByteArray))
def spec_SegName.f (k:Nat) (a0:Int):Option (ByteArray):=(spec_l01In.f a0 0 999).bind fun t128 => (if t128 = true then ((spec_Decimal.f k a0).bind fun t129 => (if 1 + t129.size≤9223372036854775807 then (some ((⟨#[103]⟩:ByteArray)++t129)) else (none))) else (some (⟨#[]⟩:ByteArray)))
def spec_l03Text.f (k:Nat) (l0_0:List S122) (a1:ByteArray):Option (ByteArray):=(spec_l03At.f k l0_0 a1).bind fun t118 => (if t118 < 0 then (some (⟨#[]⟩:ByteArray)) else (if 0≤t118 then (if t118 < (l0_0.length:Int) then (some ((rd_T122 l0_0 t118).f1)) else (none)) else (none)))
def spec_Frame.f (k:Nat) (a0:ByteArray):Option (ByteArray×Bool):=(spec_l01In.f (a0.size:Int) 1 9000).bind fun t143 => (if t143 = true then ((spec_l01Var.f k (a0.size:Int)).bind fun t144 => ((spec_SumOf.f k a0).bind fun t145 => ((spec_l02Four.f t145).bind fun t146 => (if t144.size + t146.size≤9223372036854775807 then (if (t144++t146).size + a0.size≤9223372036854775807 then (some ((t144++t146)++a0,true)) else (none)) else (none))))) else (some ((⟨#[]⟩:ByteArray),false)))
mutual
def spec_Unframe.l0:Nat→ByteArray→List ByteArray→Int→Option (List ByteArray×Int)
 | 0,_,_,_ => none
 | k + 1,x0,x4,x5 => if x5 < (x0.size:Int) then ((spec_ReadVar.f k x0 x5).bind fun bt251 => (if bt251.2.2 = true then (spec_Unframe.j1 k x0 x4 x5 bt251.1 bt251.2.1 (decide (bt251.1 > (wrap64 ((wrap64 ((x0.size:Int) - bt251.2.1)) - 4))))) else (spec_Unframe.j1 k x0 x4 x5 bt251.1 bt251.2.1 true))) else (some (x4,x5))
def spec_Unframe.j1:Nat→ByteArray→List ByteArray→Int→Int→Int→Bool→Option (List ByteArray×Int)
 | 0,_,_,_,_,_,_ => none
 | k + 1,x0,x4,x5,x6,x7,x38 => if x38 = true then (some (x4,x5)) else (if 0≤(wrap64 (x7 + 4)) then (if (wrap64 (x7 + 4))≤(wrap64 ((wrap64 (x7 + 4)) + x6)) then (if (wrap64 ((wrap64 (x7 + 4)) + x6))≤(x0.size:Int) then ((spec_Frame.f k (x0.extract ((wrap64 (x7 + 4)):Int).toNat ((wrap64 ((wrap64 (x7 + 4)) + x6)):Int).toNat)).bind fun bt254 => (if bt254.2 = true then (if 0≤x5 then (if x5≤(wrap64 ((wrap64 (x7 + 4)) + x6)) then (if bt254.1.toList = (x0.extract (x5:Int).toNat ((wrap64 ((wrap64 (x7 + 4)) + x6)):Int).toNat).toList then (if x4.length < 8796093022208 then (spec_Unframe.l0 k x0 (x4++[x0.extract ((wrap64 (x7 + 4)):Int).toNat ((wrap64 ((wrap64 (x7 + 4)) + x6)):Int).toNat]) (wrap64 ((wrap64 (x7 + 4)) + x6))) else (none)) else (some (x4,x5))) else (none)) else (none)) else (some (x4,x5)))) else (none)) else (none)) else (none))
end
def spec_Unframe.f (k:Nat) (a0:ByteArray):Option (List ByteArray×Int):=(some (([]:List ByteArray):List ByteArray)).bind fun y248 => (if (a0.size:Int) > 20000 then (some (y248,0)) else (spec_Unframe.l0 k a0 y248 0))
def spec_l05Take.f (s0_0:ByteArray) (s0_1:Int) (s0_2:Bool) (a1:Int):Option (ByteArray×ByteArray×Int×Bool):=if s0_2 = true then (some ((⟨#[]⟩:ByteArray),s0_0,s0_1,true)) else (if a1 > (wrap64 ((s0_0.size:Int) - s0_1)) then (some ((⟨#[]⟩:ByteArray),s0_0,s0_1,true)) else (if 0≤(wrap64 ((wrap64 (s0_1 + a1)) - a1)) then (if (wrap64 ((wrap64 (s0_1 + a1)) - a1))≤(wrap64 (s0_1 + a1)) then (if (wrap64 (s0_1 + a1))≤(s0_0.size:Int) then (some (s0_0.extract ((wrap64 ((wrap64 (s0_1 + a1)) - a1)):Int).toNat ((wrap64 (s0_1 + a1)):Int).toNat,s0_0,wrap64 (s0_1 + a1),s0_2)) else (none)) else (none)) else (none)))
def spec_l05ReadShort.f (k:Nat) (s0_0:ByteArray) (s0_1:Int) (s0_2:Bool):Option (ByteArray×ByteArray×Int×Bool):=(spec_l05Var.f k s0_0 s0_1 s0_2).bind fun bt279 => ((spec_l05Take.f bt279.2.1 bt279.2.2.1 bt279.2.2.2 bt279.1).bind fun bt283 => (some (bt283.1,bt283.2.1,bt283.2.2.1,bt283.2.2.2)))
def spec_l05Key.f (a0:ByteArray):Option (Bool):=(spec_l01In.f (a0.size:Int) 1 10).bind fun t153 => (some t153)
mutual
def spec_BatchOk.j0:Nat→Bool→Int→List S162→Option (Bool)
 | 0,_,_,_ => none
 | k + 1,x14,x260000,x260001 => if x14 = true then (some false) else (spec_BatchOk.l0 k 0 x260000 x260001)
def spec_BatchOk.l0:Nat→Int→Int→List S162→Option (Bool)
 | 0,_,_,_ => none
 | k + 1,x3,x260000,x260001 => if x3 < (x260001.length:Int) then (if 0≤x3 then ((spec_l05Key.f ((rd_T162 x260001 x3).f0)).bind fun t263 => (if t263 = true then (if x3 > 0 then (if 0≤(wrap64 (x3 - 1)) then (if (wrap64 (x3 - 1)) < (x260001.length:Int) then (if ((Op.bytesLess (((rd_T162 x260001 (wrap64 (x3 - 1))).f0).toList) (((rd_T162 x260001 x3).f0).toList)) = true) then (if (((rd_T162 x260001 x3).f1).size:Int) > 40 then (some false) else (if (rd_T162 x260001 x3).f2 = true then (if ((rd_T162 x260001 x3).f1).toList = ([]:List UInt8) then (spec_BatchOk.l0 k (wrap64 (x3 + 1)) x260000 x260001) else (some false)) else (spec_BatchOk.l0 k (wrap64 (x3 + 1)) x260000 x260001))) else (some false)) else (none)) else (none)) else (if (((rd_T162 x260001 x3).f1).size:Int) > 40 then (some false) else (if (rd_T162 x260001 x3).f2 = true then (if ((rd_T162 x260001 x3).f1).toList = ([]:List UInt8) then (spec_BatchOk.l0 k (wrap64 (x3 + 1)) x260000 x260001) else (some false)) else (spec_BatchOk.l0 k (wrap64 (x3 + 1)) x260000 x260001)))) else (some false))) else (none)) else (some true)
end
def spec_BatchOk.f (k:Nat) (a0_0:Int) (l0_1:List S162):Option (Bool):=(spec_l01In.f a0_0 0 100000).bind fun t260 => (if t260 = true then (spec_BatchOk.j0 k (decide ((l0_1.length:Int) > 60)) a0_0 l0_1) else (spec_BatchOk.j0 k true a0_0 l0_1))
def spec_l05Short.f (k:Nat) (a0:ByteArray):Option (ByteArray):=(spec_l01Var.f k (a0.size:Int)).bind fun t265 => (if t265.size + a0.size≤9223372036854775807 then (some (t265++a0)) else (none))
def spec_BatchText.l0:Nat→ByteArray→Int→Int→List S162→Option (ByteArray×Bool)
 | 0,_,_,_,_ => none
 | k + 1,x4,x5,x267000,x267001 => if x5 < (x267001.length:Int) then (if 0≤x5 then (if (rd_T162 x267001 x5).f2 = true then ((spec_l05Short.f k ((rd_T162 x267001 x5).f0)).bind fun t272 => (if x4.size + t272.size≤9223372036854775807 then (if (x4++t272).size + 1≤9223372036854775807 then ((spec_l05Short.f k ((rd_T162 x267001 x5).f1)).bind fun t274 => (if ((x4++t272)++(⟨#[1]⟩:ByteArray)).size + t274.size≤9223372036854775807 then (spec_BatchText.l0 k (((x4++t272)++(⟨#[1]⟩:ByteArray))++t274) (wrap64 (x5 + 1)) x267000 x267001) else (none))) else (none)) else (none))) else ((spec_l05Short.f k ((rd_T162 x267001 x5).f0)).bind fun t276 => (if x4.size + t276.size≤9223372036854775807 then (if (x4++t276).size + 1≤9223372036854775807 then ((spec_l05Short.f k ((rd_T162 x267001 x5).f1)).bind fun t278 => (if ((x4++t276)++(⟨#[0]⟩:ByteArray)).size + t278.size≤9223372036854775807 then (spec_BatchText.l0 k (((x4++t276)++(⟨#[0]⟩:ByteArray))++t278) (wrap64 (x5 + 1)) x267000 x267001) else (none))) else (none)) else (none)))) else (none)) else (some (x4,true))
def spec_BatchText.f (k:Nat) (a0_0:Int) (l0_1:List S162):Option (ByteArray×Bool):=(spec_BatchOk.f k a0_0 l0_1).bind fun t267 => (if t267 = true then ((spec_l01Var.f k a0_0).bind fun t268 => ((spec_l01Var.f k (l0_1.length:Int)).bind fun t269 => (if t268.size + t269.size≤9223372036854775807 then (spec_BatchText.l0 k (t268++t269) 0 a0_0 l0_1) else (none)))) else (some ((⟨#[]⟩:ByteArray),false)))
mutual
def spec_ReadBatch.l0:Nat→ByteArray→Int→Int→ByteArray→Int→Bool→Int→List S162→Option (Int×(List S162)×Bool)
 | 0,_,_,_,_,_,_,_,_ => none
 | k + 1,x0,x6,x7,x289000,x289001,x289002,x290000,x290001 => if x7 < x6 then (spec_ReadBatch.j1 k x0 x6 x7 (!x289002) x289000 x289001 x289002 x290000 x290001) else (spec_ReadBatch.j1 k x0 x6 x7 false x289000 x289001 x289002 x290000 x290001)
def spec_ReadBatch.j1:Nat→ByteArray→Int→Int→Bool→ByteArray→Int→Bool→Int→List S162→Option (Int×(List S162)×Bool)
 | 0,_,_,_,_,_,_,_,_,_ => none
 | k + 1,x0,x6,x7,x29,x289000,x289001,x289002,x290000,x290001 => if x29 = true then ((spec_l05ReadShort.f k x289000 x289001 x289002).bind fun bt299 => ((spec_l05Take.f bt299.2.1 bt299.2.2.1 bt299.2.2.2 1).bind fun bt303 => ((spec_l05ReadShort.f k bt303.2.1 bt303.2.2.1 bt303.2.2.2).bind fun bt307 => (if x290001.length < 3518437208883 then (spec_ReadBatch.l0 k x0 x6 (wrap64 (x7 + 1)) bt307.2.1 bt307.2.2.1 bt307.2.2.2 x290000 (x290001++[(⟨bt299.1,bt307.1,(bt303.1.toList == ([1]:List UInt8))⟩:S162)])) else (none))))) else ((spec_BatchText.f k x290000 x290001).bind fun bt314 => (if x289002 = true then (some (0,([]:List S162),false)) else (if bt314.2 = true then (if bt314.1.toList = x0.toList then (some (x290000,x290001,true)) else (some (0,([]:List S162),false))) else (some (0,([]:List S162),false)))))
end
def spec_ReadBatch.f (k:Nat) (a0:ByteArray):Option (Int×(List S162)×Bool):=(spec_l05Var.f k a0 0 false).bind fun bt290 => ((spec_l05Var.f k bt290.2.1 bt290.2.2.1 bt290.2.2.2).bind fun bt294 => (spec_ReadBatch.l0 k a0 bt294.1 0 bt294.2.1 bt294.2.2.1 bt294.2.2.2 bt290.1 ([]:List S162)))
mutual
def spec_ScanSeg.l0:Nat→Int→List S145→List ByteArray→Int→List ByteArray→Int→Int→Option ((List S145)×List ByteArray×Int)
 | 0,_,_,_,_,_,_,_ => none
 | k + 1,x1,x7,x8,x9,x10,x12,x13 => if x13 < (x10.length:Int) then (if 0≤x13 then ((spec_ReadBatch.f k (rdOf ByteArray.empty x10 x13)).bind fun bt327 => (if bt327.2.2 = true then ((spec_Frame.f k (rdOf ByteArray.empty x10 x13)).bind fun bt334 => ((spec_l01Var.f k bt327.1).bind fun t337 => ((spec_l01Var.f k (bt327.2.1.length:Int)).bind fun t338 => (spec_ScanSeg.l1 k x1 x7 x8 x9 x10 x12 x13 bt334.1 (wrap64 ((wrap64 ((wrap64 ((wrap64 (x12 + (bt334.1.size:Int))) - ((rdOf ByteArray.empty x10 x13).size:Int))) + (t337.size:Int))) + (t338.size:Int))) 0 bt327.1 bt327.2.1)))) else (some (x7,x8,x9)))) else (none)) else (some (x7,x8,x9))
def spec_ScanSeg.l1:Nat→Int→List S145→List ByteArray→Int→List ByteArray→Int→Int→ByteArray→Int→Int→Int→List S162→Option ((List S145)×List ByteArray×Int)
 | 0,_,_,_,_,_,_,_,_,_,_,_,_ => none
 | k + 1,x1,x7,x8,x9,x10,x12,x13,x16,x18,x19,x333000,x333001 => if x19 < (x333001.length:Int) then (if 0≤x19 then ((spec_l05Short.f k ((rd_T162 x333001 x19).f0)).bind fun t349 => ((spec_l01Var.f k (((rd_T162 x333001 x19).f1).size:Int)).bind fun t350 => (if (rd_T162 x333001 x19).f2 = true then (if x7.length < 3518437208883 then (spec_ScanSeg.l1 k x1 (x7++[(⟨(rd_T162 x333001 x19).f0,x1,0,(-1)⟩:S145)]) x8 x9 x10 x12 x13 x16 (wrap64 ((wrap64 ((wrap64 ((wrap64 (x18 + (t349.size:Int))) + 1)) + (t350.size:Int))) + (((rd_T162 x333001 x19).f1).size:Int))) (wrap64 (x19 + 1)) x333000 x333001) else (none)) else (if x7.length < 3518437208883 then (spec_ScanSeg.l1 k x1 (x7++[(⟨(rd_T162 x333001 x19).f0,x1,wrap64 ((wrap64 ((wrap64 (x18 + (t349.size:Int))) + 1)) + (t350.size:Int)),(((rd_T162 x333001 x19).f1).size:Int)⟩:S145)]) x8 x9 x10 x12 x13 x16 (wrap64 ((wrap64 ((wrap64 ((wrap64 (x18 + (t349.size:Int))) + 1)) + (t350.size:Int))) + (((rd_T162 x333001 x19).f1).size:Int))) (wrap64 (x19 + 1)) x333000 x333001) else (none))))) else (none)) else (if x333000 > x9 then (if 0≤x13 then (if x13 < (x10.length:Int) then (if x8.length < 8796093022208 then (spec_ScanSeg.l0 k x1 x7 (x8++[rdOf ByteArray.empty x10 x13]) x333000 x10 (wrap64 (x12 + (x16.size:Int))) (wrap64 (x13 + 1))) else (none)) else (none)) else (none)) else (if 0≤x13 then (if x13 < (x10.length:Int) then (if x8.length < 8796093022208 then (spec_ScanSeg.l0 k x1 x7 (x8++[rdOf ByteArray.empty x10 x13]) x9 x10 (wrap64 (x12 + (x16.size:Int))) (wrap64 (x13 + 1))) else (none)) else (none)) else (none)))
end
def spec_ScanSeg.f (k:Nat) (a0:ByteArray) (a1:Int):Option ((List S145)×List ByteArray×Int):=(spec_Unframe.f k a0).bind fun bt322 => (spec_ScanSeg.l0 k a1 (([]:List S145)) (([]:List ByteArray)) (-1) bt322.1 0 0)
mutual
def spec_l08More.l0:Nat→List S145→List S145→Int→Option ((List S145))
 | 0,_,_,_ => none
 | k + 1,x1,x5,x6 => if x6 < (x1.length:Int) then (if 0≤x6 then (spec_l08More.l1 k x1 x5 x6 (([]:List S145)) 0 ((rd_T145 x1 x6).f0) ((rd_T145 x1 x6).f1) ((rd_T145 x1 x6).f2) ((rd_T145 x1 x6).f3)) else (none)) else (some x5)
def spec_l08More.l1:Nat→List S145→List S145→Int→List S145→Int→ByteArray→Int→Int→Int→Option ((List S145))
 | 0,_,_,_,_,_,_,_,_,_ => none
 | k + 1,x1,x5,x6,x8,x9,x365000,x365001,x365002,x365003 => if x9 < (x5.length:Int) then (if 0≤x9 then (if (Op.bytesLess (((rd_T145 x5 x9).f0).toList) x365000.toList) = true then (if x8.length < 3518437208883 then (spec_l08More.l1 k x1 x5 x6 (x8++[(⟨(rd_T145 x5 x9).f0,(rd_T145 x5 x9).f1,(rd_T145 x5 x9).f2,(rd_T145 x5 x9).f3⟩:S145)]) (wrap64 (x9 + 1)) x365000 x365001 x365002 x365003) else (none)) else (spec_l08More.l1 k x1 x5 x6 x8 (wrap64 (x9 + 1)) x365000 x365001 x365002 x365003)) else (none)) else (if x365003 = (-1) then (spec_l08More.j2 k x1 x5 x6 x8 x365000 x365001 x365002 x365003) else (if x8.length < 3518437208883 then (spec_l08More.j2 k x1 x5 x6 (x8++[(⟨x365000,x365001,x365002,x365003⟩:S145)]) x365000 x365001 x365002 x365003) else (none)))
def spec_l08More.j2:Nat→List S145→List S145→Int→List S145→ByteArray→Int→Int→Int→Option ((List S145))
 | 0,_,_,_,_,_,_,_,_ => none
 | k + 1,x1,x5,x6,x8,x365000,x365001,x365002,x365003 => spec_l08More.l2 k x1 x5 x6 x8 0 x365000 x365001 x365002 x365003
def spec_l08More.l2:Nat→List S145→List S145→Int→List S145→Int→ByteArray→Int→Int→Int→Option ((List S145))
 | 0,_,_,_,_,_,_,_,_,_ => none
 | k + 1,x1,x5,x6,x8,x10,x365000,x365001,x365002,x365003 => if x10 < (x5.length:Int) then (if 0≤x10 then (if (Op.bytesLess x365000.toList (((rd_T145 x5 x10).f0).toList)) = true then (if x8.length < 3518437208883 then (spec_l08More.l2 k x1 x5 x6 (x8++[(⟨(rd_T145 x5 x10).f0,(rd_T145 x5 x10).f1,(rd_T145 x5 x10).f2,(rd_T145 x5 x10).f3⟩:S145)]) (wrap64 (x10 + 1)) x365000 x365001 x365002 x365003) else (none)) else (spec_l08More.l2 k x1 x5 x6 x8 (wrap64 (x10 + 1)) x365000 x365001 x365002 x365003)) else (none)) else (spec_l08More.l0 k x1 x8 (wrap64 (x6 + 1)))
end
def spec_l08More.f (k:Nat) (l0:List S145) (l1:List S145):Option ((List S145)):=(some (([]:List S145):List S145)).bind fun y357 => (if y357.length + l0.length < 3518437208883 then (spec_l08More.l0 k l1 (y357++l0) 0) else (none))
def spec_DirOk.l0:Nat→List S145→Int→Option (Bool)
 | 0,_,_ => none
 | k + 1,x0,x3 => if x3 < (x0.length:Int) then (if 0≤x3 then ((spec_l05Key.f ((rd_T145 x0 x3).f0)).bind fun t156 => (if t156 = true then (if x3 > 0 then (if 0≤(wrap64 (x3 - 1)) then (if (wrap64 (x3 - 1)) < (x0.length:Int) then (if ((Op.bytesLess (((rd_T145 x0 (wrap64 (x3 - 1))).f0).toList) (((rd_T145 x0 x3).f0).toList)) = true) then ((spec_l01In.f ((rd_T145 x0 x3).f1) 0 999).bind fun t158 => (if t158 = true then ((spec_l01In.f ((rd_T145 x0 x3).f2) 0 20000).bind fun t159 => (if t159 = true then ((spec_l01In.f ((rd_T145 x0 x3).f3) 0 40).bind fun t160 => (if t160 = true then (spec_DirOk.l0 k x0 (wrap64 (x3 + 1))) else (some false))) else (some false))) else (some false))) else (some false)) else (none)) else (none)) else ((spec_l01In.f ((rd_T145 x0 x3).f1) 0 999).bind fun t161 => (if t161 = true then ((spec_l01In.f ((rd_T145 x0 x3).f2) 0 20000).bind fun t162 => (if t162 = true then ((spec_l01In.f ((rd_T145 x0 x3).f3) 0 40).bind fun t163 => (if t163 = true then (spec_DirOk.l0 k x0 (wrap64 (x3 + 1))) else (some false))) else (some false))) else (some false)))) else (some false))) else (none)) else (some true)
def spec_DirOk.f (k:Nat) (l0:List S145):Option (Bool):=if (l0.length:Int) > 60 then (some false) else (spec_DirOk.l0 k l0 0)
mutual
def spec_l09Load.j0:Nat→Bool→List S122→List Int→Int→Int→Int→List Int→Option (List Int×Int×Int×Int×List Int×(List S145)×Int×Int×Int)
 | 0,_,_,_,_,_,_,_ => none
 | k + 1,x39,x382000,x397000,x397001,x397002,x397003,x397004 => if x39 = true then (some (([]:List Int),0,0,0,([]:List Int),([]:List S145),0,0,2)) else (spec_l09Load.l0 k 0 x382000 x397000 x397001 x397002 x397003 x397004 x397000 x397001 x397002 x397003 x397004 x397002)
def spec_l09Load.l0:Nat→Int→List S122→List Int→Int→Int→Int→List Int→List Int→Int→Int→Int→List Int→Int→Option (List Int×Int×Int×Int×List Int×(List S145)×Int×Int×Int)
 | 0,_,_,_,_,_,_,_,_,_,_,_,_,_ => none
 | k + 1,x10,x382000,x397000,x397001,x397002,x397003,x397004,x398000,x398001,x398002,x398003,x398004,x398006 => if x10 < (x397000.length:Int) then (if 0≤x10 then ((spec_SegName.f k (rd x397000 x10)).bind fun t399 => ((spec_l03At.f k x382000 t399).bind fun t400 => (if t400 < 0 then (some (([]:List Int),0,0,0,([]:List Int),([]:List S145),0,0,3)) else (spec_l09Load.l0 k (wrap64 (x10 + 1)) x382000 x397000 x397001 x397002 x397003 x397004 x398000 x398001 x398002 x398003 x398004 x398006)))) else (none)) else (spec_l09Load.l1 k 0 0 x382000 x397000 x397001 x397002 x397003 x397004 x398000 x398001 x398002 x398003 x398004 ([]:List S145) x398006)
def spec_l09Load.l1:Nat→Int→Int→List S122→List Int→Int→Int→Int→List Int→List Int→Int→Int→Int→List Int→List S145→Int→Option (List Int×Int×Int×Int×List Int×(List S145)×Int×Int×Int)
 | 0,_,_,_,_,_,_,_,_,_,_,_,_,_,_,_ => none
 | k + 1,x11,x12,x382000,x397000,x397001,x397002,x397003,x397004,x398000,x398001,x398002,x398003,x398004,x398005,x398006 => if x12 < (x397000.length:Int) then (if 0≤x12 then ((spec_SegName.f k (rd x397000 x12)).bind fun t403 => ((spec_l03Text.f k x382000 t403).bind fun t404 => ((spec_ScanSeg.f k t404 (rd x397000 x12)).bind fun bt406 => (spec_l09Load.l2 k 0 x12 t404 bt406.1 bt406.2.1 bt406.2.2 0 x382000 x397000 x397001 x397002 x397003 x397004 x398000 x398001 x398002 x398003 x398004 x398005 x398006)))) else (none)) else ((spec_DirOk.f k x398005).bind fun t401 => (if t401 = true then (some (x398000,x398001,x398002,x398003,x398004,x398005,x398006,x11,0)) else (some (([]:List Int),0,0,0,([]:List Int),([]:List S145),0,0,4))))
def spec_l09Load.l2:Nat→Int→Int→ByteArray→List S145→List ByteArray→Int→Int→List S122→List Int→Int→Int→Int→List Int→List Int→Int→Int→Int→List Int→List S145→Int→Option (List Int×Int×Int×Int×List Int×(List S145)×Int×Int×Int)
 | 0,_,_,_,_,_,_,_,_,_,_,_,_,_,_,_,_,_,_,_,_ => none
 | k + 1,x11,x12,x13,x14,x15,x16,x17,x382000,x397000,x397001,x397002,x397003,x397004,x398000,x398001,x398002,x398003,x398004,x398005,x398006 => if x17 < (x15.length:Int) then (if 0≤x17 then ((spec_Frame.f k (rdOf ByteArray.empty x15 x17)).bind fun bt414 => (spec_l09Load.l2 k (wrap64 (x11 + (bt414.1.size:Int))) x12 x13 x14 x15 x16 (wrap64 (x17 + 1)) x382000 x397000 x397001 x397002 x397003 x397004 x398000 x398001 x398002 x398003 x398004 x398005 x398006)) else (none)) else (if x11 < (x13.size:Int) then (spec_l09Load.j4 k x11 x12 x14 x16 (decide ((wrap64 (x12 + 1)) < (x397000.length:Int))) x382000 x397000 x397001 x397002 x397003 x397004 x398000 x398001 x398002 x398003 x398004 x398005 x398006) else (spec_l09Load.j4 k x11 x12 x14 x16 false x382000 x397000 x397001 x397002 x397003 x397004 x398000 x398001 x398002 x398003 x398004 x398005 x398006))
def spec_l09Load.j4:Nat→Int→Int→List S145→Int→Bool→List S122→List Int→Int→Int→Int→List Int→List Int→Int→Int→Int→List Int→List S145→Int→Option (List Int×Int×Int×Int×List Int×(List S145)×Int×Int×Int)
 | 0,_,_,_,_,_,_,_,_,_,_,_,_,_,_,_,_,_,_ => none
 | k + 1,x11,x12,x14,x16,x117,x382000,x397000,x397001,x397002,x397003,x397004,x398000,x398001,x398002,x398003,x398004,x398005,x398006 => if x117 = true then (some (([]:List Int),0,0,0,([]:List Int),([]:List S145),0,0,4)) else ((spec_l08More.f k x398005 x14).bind fun t416 => (if x16 > x398006 then (spec_l09Load.l1 k x11 (wrap64 (x12 + 1)) x382000 x397000 x397001 x397002 x397003 x397004 x398000 x398001 x398002 x398003 x398004 t416 x16) else (spec_l09Load.l1 k x11 (wrap64 (x12 + 1)) x382000 x397000 x397001 x397002 x397003 x397004 x398000 x398001 x398002 x398003 x398004 t416 x398006)))
end
def spec_l09Load.f (k:Nat) (l0_0:List S122):Option (List Int×Int×Int×Int×List Int×(List S145)×Int×Int×Int):=(spec_DiskOk.f k l0_0).bind fun t383 => (if t383 = true then ((spec_FileAt.f k l0_0 (⟨#[109]⟩:ByteArray)).bind fun bt384 => ((spec_ReadManifest.f k bt384.1).bind fun bt386 => (if bt384.2 = true then (spec_l09Load.j0 k (!bt386.2.2.2.2.2) l0_0 bt386.1 bt386.2.1 bt386.2.2.1 bt386.2.2.2.1 bt386.2.2.2.2.1) else (spec_l09Load.j0 k true l0_0 bt386.1 bt386.2.1 bt386.2.2.1 bt386.2.2.2.1 bt386.2.2.2.2.1)))) else (some (([]:List Int),0,0,0,([]:List Int),([]:List S145),0,0,1)))
def spec_ReadDecimal.l0:Nat→ByteArray→Int→Int→Option (Int×Bool)
 | 0,_,_,_ => none
 | k + 1,x0,x4,x5 => if x5 < (x0.size:Int) then (if 0≤x5 then (if (bt x0 x5) < 48 then (some (0,false)) else (if (bt x0 x5) > 57 then (some (0,false)) else (spec_ReadDecimal.l0 k x0 (wrap64 ((wrap64 ((wrap64 (10 * x4)) + (wrap64 (bt x0 x5)))) - 48)) (wrap64 (x5 + 1))))) else (none)) else (if x4 > 1000000000 then (some (0,false)) else ((spec_Decimal.f k x4).bind fun t419 => (if t419.toList = x0.toList then (some (x4,true)) else (some (0,false)))))
def spec_ReadDecimal.f (k:Nat) (a0:ByteArray):Option (Int×Bool):=if (a0.size:Int) > 10 then (some (0,false)) else (spec_ReadDecimal.l0 k a0 0 0)
def spec_l09Seg.f (k:Nat) (a0:ByteArray):Option (Int):=if (a0.size:Int) < 2 then (some (-1)) else (if 1≤(a0.size:Int) then ((spec_ReadDecimal.f k (a0.extract 1 a0.size)).bind fun bt420 => (if bt420.2 = true then ((spec_SegName.f k bt420.1).bind fun t422 => (if t422.toList = a0.toList then (some bt420.1) else (some (-1)))) else (some (-1)))) else (none))
def spec_l09In.l0:Nat→List Int→Int→Int→Option (Bool)
 | 0,_,_,_ => none
 | k + 1,x0,x1,x5 => if x5 < (x0.length:Int) then (if 0≤x5 then (if (rd x0 x5) = x1 then (some true) else (spec_l09In.l0 k x0 x1 (wrap64 (x5 + 1)))) else (none)) else (some false)
def spec_l09In.f (k:Nat) (l0:List Int) (a1:Int):Option (Bool):=spec_l09In.l0 k l0 a1 0
mutual
def spec_OpenShelf.j0:Nat→Int→List S119→List S122→List Int→Int→Int→Int→List Int→List S145→Int→Option (List Int×Int×Int×Int×List Int×(List S145)×Int×(List S119)×Int)
 | 0,_,_,_,_,_,_,_,_,_,_ => none
 | k + 1,x6,x8,x425000,x442000,x442001,x442002,x442003,x442004,x442005,x442006 => spec_OpenShelf.l0 k x6 x8 0 x425000 x442000 x442001 x442002 x442003 x442004 x442005 x442006
def spec_OpenShelf.l0:Nat→Int→List S119→Int→List S122→List Int→Int→Int→Int→List Int→List S145→Int→Option (List Int×Int×Int×Int×List Int×(List S145)×Int×(List S119)×Int)
 | 0,_,_,_,_,_,_,_,_,_,_,_ => none
 | k + 1,x6,x8,x9,x425000,x442000,x442001,x442002,x442003,x442004,x442005,x442006 => if x9 < (x425000.length:Int) then (if 0≤x9 then ((spec_l09Seg.f k ((rd_T122 x425000 x9).f0)).bind fun t450 => (if t450≥0 then ((spec_l09In.f k x442000 t450).bind fun t451 => (if t451 = true then (spec_OpenShelf.l0 k x6 x8 (wrap64 (x9 + 1)) x425000 x442000 x442001 x442002 x442003 x442004 x442005 x442006) else (if x8.length < 2513169434916 then (spec_OpenShelf.l0 k x6 (x8++[(⟨4,(rd_T122 x425000 x9).f0,(⟨#[]⟩:ByteArray),(⟨#[]⟩:ByteArray)⟩:S119)]) (wrap64 (x9 + 1)) x425000 x442000 x442001 x442002 x442003 x442004 x442005 x442006) else (none)))) else (spec_OpenShelf.l0 k x6 x8 (wrap64 (x9 + 1)) x425000 x442000 x442001 x442002 x442003 x442004 x442005 x442006))) else (none)) else (if 0≤(wrap64 ((x442000.length:Int) - 1)) then (if (wrap64 ((x442000.length:Int) - 1)) < (x442000.length:Int) then ((spec_SegName.f k (rd x442000 (wrap64 ((x442000.length:Int) - 1)))).bind fun t457 => ((spec_l03Text.f k x425000 t457).bind fun t458 => (if x6 < (t458.size:Int) then (if 0≤x6 then (if x6≤(t458.size:Int) then (if x8.length < 2513169434916 then (some (x442000,x442001,x442002,x442003,x442004,x442005,x442006,(x8++[(⟨1,t457,(⟨#[]⟩:ByteArray),t458.extract 0 (x6:Int).toNat⟩:S119)]),0)) else (none)) else (none)) else (none)) else (some (x442000,x442001,x442002,x442003,x442004,x442005,x442006,x8,0))))) else (none)) else (none))
end
def spec_OpenShelf.f (k:Nat) (l0_0:List S122):Option (List Int×Int×Int×Int×List Int×(List S145)×Int×(List S119)×Int):=(spec_l09Load.f k l0_0).bind fun bt426 => ((some (([]:List S119):List S119)).bind fun y442 => (if bt426.2.2.2.2.2.2.2.2 = 0 then ((spec_l03At.f k l0_0 (⟨#[109,43]⟩:ByteArray)).bind fun t445 => (if t445≥0 then (if y442.length < 2513169434916 then (spec_OpenShelf.j0 k bt426.2.2.2.2.2.2.2.1 (y442++[(⟨4,(⟨#[109,43]⟩:ByteArray),(⟨#[]⟩:ByteArray),(⟨#[]⟩:ByteArray)⟩:S119)]) l0_0 bt426.1 bt426.2.1 bt426.2.2.1 bt426.2.2.2.1 bt426.2.2.2.2.1 bt426.2.2.2.2.2.1 bt426.2.2.2.2.2.2.1) else (none)) else (spec_OpenShelf.j0 k bt426.2.2.2.2.2.2.2.1 y442 l0_0 bt426.1 bt426.2.1 bt426.2.2.1 bt426.2.2.2.1 bt426.2.2.2.2.1 bt426.2.2.2.2.2.1 bt426.2.2.2.2.2.2.1))) else (some (([]:List Int),0,0,0,([]:List Int),([]:List S145),0,y442,bt426.2.2.2.2.2.2.2.2))))
def spec_l09SameInts.l0:Nat→List Int→List Int→Int→Option (Bool)
 | 0,_,_,_ => none
 | k + 1,x0,x1,x5 => if x5 < (x0.length:Int) then (if 0≤x5 then (if x5 < (x1.length:Int) then (if (rd x0 x5) = (rd x1 x5) then (spec_l09SameInts.l0 k x0 x1 (wrap64 (x5 + 1))) else (some false)) else (none)) else (none)) else (some true)
def spec_l09SameInts.f (k:Nat) (l0:List Int) (l1:List Int):Option (Bool):=if (l0.length:Int) = (l1.length:Int) then (spec_l09SameInts.l0 k l0 l1 0) else (some false)
mutual
def spec_l09Same.j0:Nat→Bool→List Int→Int→Int→Int→List Int→List S145→Int→List Int→Int→Int→Int→List Int→List S145→Int→Option (Bool)
 | 0,_,_,_,_,_,_,_,_,_,_,_,_,_,_,_ => none
 | k + 1,x66,x465000,x465001,x465002,x465003,x465004,x465005,x465006,x466000,x466001,x466002,x466003,x466004,x466005,x466006 => if x66 = true then (some false) else (spec_l09Same.l0 k 0 x465000 x465001 x465002 x465003 x465004 x465005 x465006 x466000 x466001 x466002 x466003 x466004 x466005 x466006)
def spec_l09Same.l0:Nat→Int→List Int→Int→Int→Int→List Int→List S145→Int→List Int→Int→Int→Int→List Int→List S145→Int→Option (Bool)
 | 0,_,_,_,_,_,_,_,_,_,_,_,_,_,_,_ => none
 | k + 1,x5,x465000,x465001,x465002,x465003,x465004,x465005,x465006,x466000,x466001,x466002,x466003,x466004,x466005,x466006 => if x5 < (x465005.length:Int) then (if 0≤x5 then (if x5 < (x466005.length:Int) then (if (!((((rd_T145 x465005 x5).f0).toList) == (((rd_T145 x466005 x5).f0).toList)) || (!(((rd_T145 x465005 x5).f1) == ((rd_T145 x466005 x5).f1)) || (!(((rd_T145 x465005 x5).f2) == ((rd_T145 x466005 x5).f2)) || (!(((rd_T145 x465005 x5).f3) == ((rd_T145 x466005 x5).f3)))))) = true then (some false) else (spec_l09Same.l0 k (wrap64 (x5 + 1)) x465000 x465001 x465002 x465003 x465004 x465005 x465006 x466000 x466001 x466002 x466003 x466004 x466005 x466006)) else (none)) else (none)) else (some true)
end
def spec_l09Same.f (k:Nat) (l0_0:List Int) (a0_1:Int) (a0_2:Int) (a0_3:Int) (l0_4:List Int) (l0_5:List S145) (a0_6:Int) (l1_0:List Int) (a1_1:Int) (a1_2:Int) (a1_3:Int) (l1_4:List Int) (l1_5:List S145) (a1_6:Int):Option (Bool):=if a0_6 = a1_6 then ((spec_l09SameInts.f k l0_0 l1_0).bind fun t466 => (if t466 = true then (if a0_1 = a1_1 then (if a0_2 = a1_2 then (if a0_3 = a1_3 then ((spec_l09SameInts.f k l0_4 l1_4).bind fun t467 => (if t467 = true then (spec_l09Same.j0 k ((l0_5.length:Int) != (l1_5.length:Int)) l0_0 a0_1 a0_2 a0_3 l0_4 l0_5 a0_6 l1_0 a1_1 a1_2 a1_3 l1_4 l1_5 a1_6) else (spec_l09Same.j0 k true l0_0 a0_1 a0_2 a0_3 l0_4 l0_5 a0_6 l1_0 a1_1 a1_2 a1_3 l1_4 l1_5 a1_6))) else (spec_l09Same.j0 k true l0_0 a0_1 a0_2 a0_3 l0_4 l0_5 a0_6 l1_0 a1_1 a1_2 a1_3 l1_4 l1_5 a1_6)) else (spec_l09Same.j0 k true l0_0 a0_1 a0_2 a0_3 l0_4 l0_5 a0_6 l1_0 a1_1 a1_2 a1_3 l1_4 l1_5 a1_6)) else (spec_l09Same.j0 k true l0_0 a0_1 a0_2 a0_3 l0_4 l0_5 a0_6 l1_0 a1_1 a1_2 a1_3 l1_4 l1_5 a1_6)) else (spec_l09Same.j0 k true l0_0 a0_1 a0_2 a0_3 l0_4 l0_5 a0_6 l1_0 a1_1 a1_2 a1_3 l1_4 l1_5 a1_6))) else (spec_l09Same.j0 k true l0_0 a0_1 a0_2 a0_3 l0_4 l0_5 a0_6 l1_0 a1_1 a1_2 a1_3 l1_4 l1_5 a1_6)
def spec_SnapText.j0:Nat→Bool→List S122→List Int→Int→Int→Int→List Int→List S145→Int→Option (ByteArray×Bool)
 | 0,_,_,_,_,_,_,_,_,_ => none
 | k + 1,x32,x471000,x472000,x472001,x472002,x472003,x472004,x472005,x472006 => if x32 = true then (some ((⟨#[]⟩:ByteArray),false)) else (if 0 < (x472000.length:Int) then ((spec_SegName.f k (rd x472000 0)).bind fun t492 => ((spec_l03Text.f k x471000 t492).bind fun t493 => ((spec_Unframe.f k t493).bind fun bt494 => (if (bt494.1.length:Int) = 0 then (some ((⟨#[]⟩:ByteArray),false)) else (if 0 < (bt494.1.length:Int) then ((spec_ReadBatch.f k (rdOf ByteArray.empty bt494.1 0)).bind fun bt499 => (if bt499.2.2 = true then (if bt499.1 = x472002 then ((spec_Frame.f k (rdOf ByteArray.empty bt494.1 0)).bind fun bt506 => (some (bt506.1,bt506.2))) else (some ((⟨#[]⟩:ByteArray),false))) else (some ((⟨#[]⟩:ByteArray),false)))) else (none)))))) else (none))
def spec_SnapText.f (k:Nat) (l0_0:List S122) (l1_0:List Int) (a1_1:Int) (a1_2:Int) (a1_3:Int) (l1_4:List Int) (l1_5:List S145) (a1_6:Int):Option (ByteArray×Bool):=(spec_OpenShelf.f k l0_0).bind fun bt472 => (if bt472.2.2.2.2.2.2.2.2 = 0 then ((spec_l09Same.f k l1_0 a1_1 a1_2 a1_3 l1_4 l1_5 a1_6 bt472.1 bt472.2.1 bt472.2.2.1 bt472.2.2.2.1 bt472.2.2.2.2.1 bt472.2.2.2.2.2.1 bt472.2.2.2.2.2.2.1).bind fun t490 => (if t490 = true then (spec_SnapText.j0 k (a1_2 == 0) l0_0 l1_0 a1_1 a1_2 a1_3 l1_4 l1_5 a1_6) else (spec_SnapText.j0 k true l0_0 l1_0 a1_1 a1_2 a1_3 l1_4 l1_5 a1_6))) else (spec_SnapText.j0 k true l0_0 l1_0 a1_1 a1_2 a1_3 l1_4 l1_5 a1_6))
def impl_within.f (a0:Int) (a1:Int) (a2:Int):Option (Bool):=if a0≥a1 then (some (decide (a0≤a2))) else (some false)
def impl_DiskOk.l0:Nat→List S122→Int→Int→List S122→Option (Bool)
 | 0,_,_,_,_ => none
 | k + 1,x6,x7,x8,x566000 => if x8 < x7 then (if 0≤x8 then (if x8 < (x6.length:Int) then ((impl_within.f (((rd_T122 x6 x8).f0).size:Int) 1 12).bind fun t568 => (if t568 = true then (if (((rd_T122 x6 x8).f1).size:Int) > 20000 then (some false) else (if x8 > 0 then (if 0≤(wrap64 (x8 - 1)) then (if (wrap64 (x8 - 1)) < (x566000.length:Int) then (if ((Op.bytesLess (((rd_T122 x566000 (wrap64 (x8 - 1))).f0).toList) (((rd_T122 x6 x8).f0).toList)) = true) then (impl_DiskOk.l0 k x6 x7 (wrap64 (x8 + 1)) x566000) else (some false)) else (none)) else (none)) else (impl_DiskOk.l0 k x6 x7 (wrap64 (x8 + 1)) x566000))) else (some false))) else (none)) else (none)) else (some (decide ((x566000.length:Int)≤30)))
def impl_DiskOk.f (k:Nat) (l0_0:List S122):Option (Bool):=impl_DiskOk.l0 k l0_0 (l0_0.length:Int) 0 l0_0
def strings_Compare.f (a0 a1:ByteArray):Option Int:=some (Lib.compareBytes a0.data.toList a1.data.toList)
def impl_fileNo_c1.f (a0_0:ByteArray) (a0_1:ByteArray) (a1:ByteArray):Option Int:=(strings_Compare.f a0_0 a1).bind fun t0 => (some t0)
def slices_BinarySearchFunc_impl_File_impl_File_string.l0:Nat→(List S122)→ByteArray→Int→Int→Int→Option (Int×Bool)
 | 0,_,_,_,_,_ => none
 | k + 1,x0,x1,x8,x9,x10 => if x9 < x10 then (if 0≤wrap64 (((wrap64 (x9 + x10)) % 18446744073709551616) / 2) then (if wrap64 (((wrap64 (x9 + x10)) % 18446744073709551616) / 2) < (x0.length:Int) then ((impl_fileNo_c1.f ((rd_T122 x0 (wrap64 (((wrap64 (x9 + x10)) % 18446744073709551616) / 2))).f0) ((rd_T122 x0 (wrap64 (((wrap64 (x9 + x10)) % 18446744073709551616) / 2))).f1) x1).bind fun t0 => (if t0 < 0 then (slices_BinarySearchFunc_impl_File_impl_File_string.l0 k x0 x1 x8 (wrap64 ((wrap64 (((wrap64 (x9 + x10)) % 18446744073709551616) / 2)) + 1)) x10) else (slices_BinarySearchFunc_impl_File_impl_File_string.l0 k x0 x1 x8 x9 (wrap64 (((wrap64 (x9 + x10)) % 18446744073709551616) / 2))))) else none) else none) else (if x9 < x8 then (if 0≤x9 then (if x9 < (x0.length:Int) then ((impl_fileNo_c1.f ((rd_T122 x0 x9).f0) ((rd_T122 x0 x9).f1) x1).bind fun t1 => (some (x9,(t1 == 0)))) else none) else none) else (some (x9,false)))
def slices_BinarySearchFunc_impl_File_impl_File_string.f (k:Nat) (l0:List S122) (a1:ByteArray):Option (Int×Bool):=slices_BinarySearchFunc_impl_File_impl_File_string.l0 k l0 a1 (l0.length:Int) 0 (l0.length:Int)
def impl_fileNo.f (k:Nat) (l0_0:List S122) (a1:ByteArray):Option (Int×Bool):=(slices_BinarySearchFunc_impl_File_impl_File_string.f k l0_0 a1).bind fun t0 => (some (t0.1,t0.2))
def impl_FileAt.f (k:Nat) (l0_0:List S122) (a1:ByteArray):Option (ByteArray×Bool):=(impl_DiskOk.f k l0_0).bind fun t0 => (if t0 = true then ((impl_fileNo.f k l0_0 a1).bind fun t1 => (if t1.2 = true then (if 0≤t1.1 then (if t1.1 < (l0_0.length:Int) then (some ((rd_T122 l0_0 t1.1).f1,true)) else none) else none) else (some ((⟨#[]⟩:ByteArray),false)))) else (some ((⟨#[]⟩:ByteArray),false)))
mutual
def impl_SumMore.l0:Nat→Int→ByteArray→Int→Option (Int)
 | 0,_,_,_ => none
 | k + 1,x0,x1,x5 => if x5 < (x1.size:Int) then (if 0≤x5 then (impl_SumMore.l1 k (Go.bits .xor .u32 x0 ((bt x1 x5) % 4294967296)) x1 x5 0) else (none)) else (some x0)
def impl_SumMore.l1:Nat→Int→ByteArray→Int→Int→Option (Int)
 | 0,_,_,_,_ => none
 | k + 1,x0,x1,x5,x6 => if x6 < 8 then (if (Int.tmod x0 2) = 1 then (impl_SumMore.l1 k (Go.bits .xor .u32 ((Int.tdiv x0 2) % 4294967296) 3558460437) x1 x5 (wrap64 (x6 + 1))) else (impl_SumMore.l1 k ((Int.tdiv x0 2) % 4294967296) x1 x5 (wrap64 (x6 + 1)))) else (impl_SumMore.l0 k x0 x1 (wrap64 (x5 + 1)))
end
def impl_SumMore.f (k:Nat) (a0:Int) (a1:ByteArray):Option (Int):=impl_SumMore.l0 k a0 a1 0
def impl_SumOf.f (k:Nat) (a0:ByteArray):Option (Int):=(impl_SumMore.f k 4294967295 a0).bind fun t584 => (some t584)
def impl_Sealed.f (k:Nat) (a0:ByteArray):Option (ByteArray×Bool):=if (a0.size:Int) > 20000 then (some ((⟨#[]⟩:ByteArray),false)) else ((impl_SumOf.f k a0).bind fun t652 => ((some (([(t652 / 16777216) % 256,(t652 / 65536) % 256,(t652 / 256) % 256,(t652) % 256]:List Int):List Int)).bind fun y653 => (if a0.size + (strOfNums y653).size≤9223372036854775807 then (some (a0++(strOfNums y653),true)) else (none))))
def impl_Unsealed.f (k:Nat) (a0:ByteArray):Option (ByteArray×Bool):=if (a0.size:Int) < 4 then (some ((⟨#[]⟩:ByteArray),false)) else (if 0≤(wrap64 ((a0.size:Int) - 4)) then (if (wrap64 ((a0.size:Int) - 4))≤(a0.size:Int) then ((impl_Sealed.f k (a0.extract 0 ((wrap64 ((a0.size:Int) - 4)):Int).toNat)).bind fun bt656 => (if bt656.2 = true then (if bt656.1.toList = a0.toList then (some (a0.extract 0 ((wrap64 ((a0.size:Int) - 4)):Int).toNat,true)) else (some ((⟨#[]⟩:ByteArray),false))) else (some ((⟨#[]⟩:ByteArray),false)))) else (none)) else (none))
def impl_VarText.l0:Nat→Int→List Int→Option (ByteArray×Bool)
 | 0,_,_ => none
 | k + 1,x0,x4 => if x0 > 127 then (if x4.length < 140737488355328 then (impl_VarText.l0 k (wrap64 (Int.tdiv x0 128)) (x4++[(wrap64 ((Int.tmod x0 128) + 128)) % 256])) else (none)) else (if x4.length < 140737488355328 then (some (strOfNums (x4++[(x0) % 256]),true)) else (none))
def impl_VarText.f (k:Nat) (a0:Int):Option (ByteArray×Bool):=(impl_within.f a0 0 1000000000).bind fun t577 => (if t577 = true then (impl_VarText.l0 k a0 ([]:List Int)) else (some ((⟨#[]⟩:ByteArray),false)))
mutual
def impl_ReadVar.l0:Nat→ByteArray→Int→Int→Int→Option (Int×Int×Bool)
 | 0,_,_,_,_ => none
 | k + 1,x0,x1,x7,x8 => if x8 < 5 then (impl_ReadVar.j1 k x0 x1 x7 x8 (decide ((wrap64 (x1 + x8)) < (x0.size:Int)))) else (impl_ReadVar.j1 k x0 x1 x7 x8 false)
def impl_ReadVar.j1:Nat→ByteArray→Int→Int→Int→Bool→Option (Int×Int×Bool)
 | 0,_,_,_,_,_ => none
 | k + 1,x0,x1,x7,x8,x26 => if x26 = true then (if 0≤(wrap64 (x1 + x8)) then (if (wrap64 (x1 + x8)) < (x0.size:Int) then (if 0≤(wrap64 (7 * x8)) then (if (wrap64 (bt x0 (wrap64 (x1 + x8)))) < 128 then ((impl_VarText.f k (wrap64 (x7 + (shl .i64 (Int.tmod (wrap64 (bt x0 (wrap64 (x1 + x8)))) 128) (wrap64 (7 * x8)))))).bind fun bt593 => (if bt593.2 = true then (if (bt593.1.size:Int) = (wrap64 (x8 + 1)) then (some (wrap64 (x7 + (shl .i64 (Int.tmod (wrap64 (bt x0 (wrap64 (x1 + x8)))) 128) (wrap64 (7 * x8)))),wrap64 ((wrap64 (x1 + x8)) + 1),true)) else (some (0,0,false))) else (some (0,0,false)))) else (impl_ReadVar.l0 k x0 x1 (wrap64 (x7 + (shl .i64 (Int.tmod (wrap64 (bt x0 (wrap64 (x1 + x8)))) 128) (wrap64 (7 * x8))))) (wrap64 (x8 + 1)))) else (none)) else (none)) else (none)) else (some (0,0,false))
end
def impl_ReadVar.f (k:Nat) (a0:ByteArray) (a1:Int):Option (Int×Int×Bool):=(impl_within.f a1 0 (a0.size:Int)).bind fun t592 => (if t592 = true then (impl_ReadVar.l0 k a0 a1 0 0) else (some (0,0,false)))
def impl_reader_num.f (k:Nat) (s0_0:ByteArray) (s0_1:Int) (s0_2:Bool):Option (Int×ByteArray×Int×Bool):=(impl_ReadVar.f k s0_0 s0_1).bind fun bt633 => (if s0_2 = true then (some (0,s0_0,s0_1,true)) else (if bt633.2.2 = true then (some (bt633.1,s0_0,bt633.2.1,s0_2)) else (some (0,s0_0,s0_1,true))))
def impl_ReadManifest_c1.f (k:Nat) (l0_0:List Int) (s0_1:Int) (s0_2:Int) (s0_3:Int) (l0_4:List Int) (s1_0_0:ByteArray) (s1_0_1:Int) (s1_0_2:Bool):Option ((List Int)×Int×Int×Int×(List Int)×ByteArray×Int×Bool):=(impl_reader_num.f k s1_0_0 s1_0_1 s1_0_2).bind fun t0 => (if l0_0.length + 1 < 17592186044417 then (some ((l0_0++([t0.1]:List Int)),s0_1,s0_2,s0_3,l0_4,t0.2.1,t0.2.2.1,t0.2.2.2)) else none)
def each_ReadManifest_c1.l0:Nat→Int→Int→ByteArray→Int→Bool→(List Int)→Int→Int→Int→(List Int)→Option (ByteArray×Int×Bool×(List Int)×Int×Int×Int×(List Int))
 | 0,_,_,_,_,_,_,_,_,_,_ => none
 | k + 1,x4,x5,y10000_0,y10000_1,y10000_2,y10001_0,y10001_1,y10001_2,y10001_3,y10001_4 => if x5 < x4 then (if y10000_2 = true then (some (y10000_0,y10000_1,y10000_2,y10001_0,y10001_1,y10001_2,y10001_3,y10001_4)) else ((impl_ReadManifest_c1.f k y10001_0 y10001_1 y10001_2 y10001_3 y10001_4 y10000_0 y10000_1 y10000_2).bind fun t1 => (each_ReadManifest_c1.l0 k x4 (wrap64 (x5 + 1)) t1.2.2.2.2.2.1 t1.2.2.2.2.2.2.1 t1.2.2.2.2.2.2.2 t1.1 t1.2.1 t1.2.2.1 t1.2.2.2.1 t1.2.2.2.2.1))) else (some (y10000_0,y10000_1,y10000_2,y10001_0,y10001_1,y10001_2,y10001_3,y10001_4))
def each_ReadManifest_c1.f (k:Nat) (s0_0:ByteArray) (s0_1:Int) (s0_2:Bool) (s1_0_1:Int) (s1_0_2:Int) (s1_0_3:Int):Option (ByteArray×Int×Bool×(List Int)×Int×Int×Int×(List Int)):=(impl_reader_num.f k s0_0 s0_1 s0_2).bind fun t0 => (each_ReadManifest_c1.l0 k t0.1 0 t0.2.1 t0.2.2.1 t0.2.2.2 [] s1_0_1 s1_0_2 s1_0_3 [])
def impl_ReadManifest_c2.f (k:Nat) (l0_0:List Int) (s0_1:Int) (s0_2:Int) (s0_3:Int) (l0_4:List Int) (s1_0_0:ByteArray) (s1_0_1:Int) (s1_0_2:Bool):Option (Int×Int×Int×(List Int)×(List Int)×ByteArray×Int×Bool):=(impl_reader_num.f k s1_0_0 s1_0_1 s1_0_2).bind fun t0 => (if l0_4.length + 1 < 17592186044417 then (some (s0_1,s0_2,s0_3,(l0_4++([t0.1]:List Int)),l0_0,t0.2.1,t0.2.2.1,t0.2.2.2)) else none)
def each_ReadManifest_c2.l0:Nat→Int→Int→ByteArray→Int→Bool→(List Int)→Int→Int→Int→(List Int)→Option (ByteArray×Int×Bool×Int×Int×Int×(List Int)×(List Int))
 | 0,_,_,_,_,_,_,_,_,_,_ => none
 | k + 1,x4,x5,y10000_0,y10000_1,y10000_2,w3,y10001_1,y10001_2,y10001_3,y10001_4 => if x5 < x4 then (if y10000_2 = true then (some (y10000_0,y10000_1,y10000_2,y10001_1,y10001_2,y10001_3,y10001_4,w3)) else ((impl_ReadManifest_c2.f k w3 y10001_1 y10001_2 y10001_3 y10001_4 y10000_0 y10000_1 y10000_2).bind fun t1 => (each_ReadManifest_c2.l0 k x4 (wrap64 (x5 + 1)) t1.2.2.2.2.2.1 t1.2.2.2.2.2.2.1 t1.2.2.2.2.2.2.2 t1.2.2.2.2.1 t1.1 t1.2.1 t1.2.2.1 t1.2.2.2.1))) else (some (y10000_0,y10000_1,y10000_2,y10001_1,y10001_2,y10001_3,y10001_4,w3))
def each_ReadManifest_c2.f (k:Nat) (s0_0:ByteArray) (s0_1:Int) (s0_2:Bool) (l1_0_0:List Int) (s1_0_1:Int) (s1_0_2:Int) (s1_0_3:Int) (l1_0_4:List Int):Option (ByteArray×Int×Bool×Int×Int×Int×(List Int)×(List Int)):=(impl_reader_num.f k s0_0 s0_1 s0_2).bind fun t0 => (each_ReadManifest_c2.l0 k t0.1 0 t0.2.1 t0.2.2.1 t0.2.2.2 l1_0_0 s1_0_1 s1_0_2 s1_0_3 l1_0_4)
def impl_reader_done.f (s0_0:ByteArray) (s0_1:Int) (s0_2:Bool):Option (Bool×ByteArray×Int×Bool):=if s0_2 = true then (some (false,s0_0,s0_1,s0_2)) else (some ((s0_1 == (s0_0.size:Int)),s0_0,s0_1,s0_2))
def impl_ConfOk.l0:Nat→List Int→List Int→Int→Int→Option (Bool)
 | 0,_,_,_,_ => none
 | k + 1,x0,x5,x6,x7 => if x7 < x6 then (if 0≤x7 then (if x7 < (x5.length:Int) then ((impl_within.f (rd x5 x7) 1 4).bind fun t659 => (if t659 = true then (if x7 > 0 then (if 0≤(wrap64 (x7 - 1)) then (if (wrap64 (x7 - 1)) < (x0.length:Int) then (if (rd x0 (wrap64 (x7 - 1)))≥(rd x5 x7) then (some false) else (impl_ConfOk.l0 k x0 x5 x6 (wrap64 (x7 + 1)))) else (none)) else (none)) else (impl_ConfOk.l0 k x0 x5 x6 (wrap64 (x7 + 1)))) else (some false))) else (none)) else (none)) else ((impl_within.f (x0.length:Int) 1 4).bind fun t661 => (some t661))
def impl_ConfOk.f (k:Nat) (l0:List Int):Option (Bool):=impl_ConfOk.l0 k l0 l0 (l0.length:Int) 0
def impl_ManifestOk.l0:Nat→List Int→Int→Int→List Int→Int→Int→Int→List Int→Option (Bool)
 | 0,_,_,_,_,_,_,_,_ => none
 | k + 1,x6,x7,x8,x663000,x663001,x663002,x663003,x663004 => if x8 < x7 then (if 0≤x8 then (if x8 < (x6.length:Int) then ((impl_within.f (rd x6 x8) 0 999).bind fun t664 => (if t664 = true then (if (rd x6 x8)≥x663001 then (some false) else (if x8 > 0 then (if 0≤(wrap64 (x8 - 1)) then (if (wrap64 (x8 - 1)) < (x663000.length:Int) then (if (rd x663000 (wrap64 (x8 - 1)))≥(rd x6 x8) then (some false) else (impl_ManifestOk.l0 k x6 x7 (wrap64 (x8 + 1)) x663000 x663001 x663002 x663003 x663004)) else (none)) else (none)) else (impl_ManifestOk.l0 k x6 x7 (wrap64 (x8 + 1)) x663000 x663001 x663002 x663003 x663004))) else (some false))) else (none)) else (none)) else ((impl_within.f (x663000.length:Int) 1 8).bind fun t666 => (if t666 = true then (if x663001≤1000 then ((impl_within.f x663002 0 100000).bind fun t667 => (if t667 = true then ((impl_within.f x663003 0 100000).bind fun t668 => (if t668 = true then ((impl_ConfOk.f k x663004).bind fun t669 => (some t669)) else (some false))) else (some false))) else (some false)) else (some false)))
def impl_ManifestOk.f (k:Nat) (l0_0:List Int) (a0_1:Int) (a0_2:Int) (a0_3:Int) (l0_4:List Int):Option (Bool):=impl_ManifestOk.l0 k l0_0 (l0_0.length:Int) 0 l0_0 a0_1 a0_2 a0_3 l0_4
def impl_ReadManifest.f (k:Nat) (a0:ByteArray):Option ((List Int)×Int×Int×Int×(List Int)×Bool):=(impl_Unsealed.f k a0).bind fun t0 => (if t0.2 = true then ((each_ReadManifest_c1.f k t0.1 0 false 0 0 0).bind fun t1 => ((impl_reader_num.f k t1.1 t1.2.1 t1.2.2.1).bind fun t2 => ((impl_reader_num.f k t2.2.1 t2.2.2.1 t2.2.2.2).bind fun t3 => ((impl_reader_num.f k t3.2.1 t3.2.2.1 t3.2.2.2).bind fun t4 => ((each_ReadManifest_c2.f k t4.2.1 t4.2.2.1 t4.2.2.2 t1.2.2.2.1 t2.1 t3.1 t4.1 t1.2.2.2.2.2.2.2).bind fun t5 => ((impl_reader_done.f t5.1 t5.2.1 t5.2.2.1).bind fun t6 => (if t6.1 = true then ((impl_ManifestOk.f k t5.2.2.2.2.2.2.2 t5.2.2.2.1 t5.2.2.2.2.1 t5.2.2.2.2.2.1 t5.2.2.2.2.2.2.1).bind fun t7 => (if t7 = true then (some (t5.2.2.2.2.2.2.2,t5.2.2.2.1,t5.2.2.2.2.1,t5.2.2.2.2.2.1,t5.2.2.2.2.2.2.1,true)) else (some ([],0,0,0,[],false)))) else (some ([],0,0,0,[],false))))))))) else (some ([],0,0,0,[],false)))
def impl_Decimal.f (a0:Int):Option (ByteArray):=if -9223372036854775808≤a0 then (if a0≤9223372036854775807 then some ⟨(Lib.itoa a0).toArray⟩ else none) else none
def impl_SegName.f (a0:Int):Option (ByteArray):=(impl_within.f a0 0 999).bind fun t575 => (if t575 = true then ((impl_Decimal.f a0).bind fun t576 => (if 1 + t576.size≤9223372036854775807 then (some ((⟨#[103]⟩:ByteArray)++t576)) else (none))) else (some (⟨#[]⟩:ByteArray)))
def internal_stringslite_HasPrefix.f (a0:ByteArray) (a1:ByteArray):Option Bool:=if (a0.size:Int)≥(a1.size:Int) then (if 0≤(a1.size:Int) then (if (a1.size:Int)≤(a0.size:Int) then (some ((a0.extract 0 ((a1.size:Int):Int).toNat).toList == a1.toList)) else none) else none) else (some false)
def internal_stringslite_CutPrefix.f (a0:ByteArray) (a1:ByteArray):Option (ByteArray×Bool):=(internal_stringslite_HasPrefix.f a0 a1).bind fun t0 => (if t0 = true then (if 0≤(a1.size:Int) then (if (a1.size:Int)≤(a0.size:Int) then (some (a0.extract ((a1.size:Int):Int).toNat a0.size,true)) else none) else none) else (some (a0,false)))
def strings_CutPrefix.f (a0:ByteArray) (a1:ByteArray):Option (ByteArray×Bool):=(internal_stringslite_CutPrefix.f a0 a1).bind fun t0 => (some (t0.1,t0.2))
def strconv_Atoi.f (a0:ByteArray):Option (Int×Bool):=atoiO a0
def impl_ReadDecimal.f (a0:ByteArray):Option (Int×Bool):=(strconv_Atoi.f a0).bind fun t0 => (if t0.2 = true then ((impl_Decimal.f t0.1).bind fun t1 => (if t1.toList = a0.toList then ((impl_within.f t0.1 0 1000000000).bind fun t2 => (if t2 = true then (some (t0.1,true)) else (some (0,false)))) else (some (0,false)))) else (some (0,false)))
def impl_isSegName.f (a0:ByteArray):Option Bool:=(strings_CutPrefix.f a0 (⟨#[103]⟩:ByteArray)).bind fun t0 => ((impl_ReadDecimal.f t0.1).bind fun t1 => (if t0.2 = true then (if t1.2 = true then ((impl_SegName.f t1.1).bind fun t2 => (some (t2.toList == a0.toList))) else (some false)) else (some false)))
def impl_cleaning_c1.f (a0:Int) (s1_0:ByteArray) (s1_1:ByteArray):Option (Bool×ByteArray×ByteArray):=(impl_SegName.f a0).bind fun t0 => (some ((t0.toList == s1_0.toList),s1_0,s1_1))
def slices_IndexFunc_int_int.l0:Nat→(List Int)→Int→Int→ByteArray→ByteArray→Option (Int×ByteArray×ByteArray)
 | 0,_,_,_,_,_ => none
 | k + 1,x0,x7,x8,y10000_0,y10000_1 => if x8 < x7 then (if 0≤x8 then (if x8 < (x0.length:Int) then ((impl_cleaning_c1.f (rd x0 x8) y10000_0 y10000_1).bind fun t0 => (if t0.1 = true then (some (x8,t0.2.1,t0.2.2)) else (slices_IndexFunc_int_int.l0 k x0 x7 (wrap64 (x8 + 1)) t0.2.1 t0.2.2))) else none) else none) else (some ((-1),y10000_0,y10000_1))
def slices_IndexFunc_int_int.f (k:Nat) (l0:List Int) (s1_0_0:ByteArray) (s1_0_1:ByteArray):Option (Int×ByteArray×ByteArray):=slices_IndexFunc_int_int.l0 k l0 (l0.length:Int) 0 s1_0_0 s1_0_1
def slices_ContainsFunc_int_int.f (k:Nat) (l0:List Int) (s1_0_0:ByteArray) (s1_0_1:ByteArray):Option (Bool×ByteArray×ByteArray):=(slices_IndexFunc_int_int.f k l0 s1_0_0 s1_0_1).bind fun t0 => (some (decide (t0.1≥0),t0.2.1,t0.2.2))
def impl_cleaning.l0:Nat→(List S119)→(List S122)→Int→Int→(List Int)→Int→Int→Int→(List Int)→Option (List S119)
 | 0,_,_,_,_,_,_,_,_,_ => none
 | k + 1,x5,x21,x22,x23,y3_0,y3_1,y3_2,y3_3,y3_4 => if x23 < x22 then (if 0≤x23 then (if x23 < (x21.length:Int) then ((impl_isSegName.f ((rd_T122 x21 x23).f0)).bind fun t1 => (if t1 = true then ((slices_ContainsFunc_int_int.f k y3_0 ((rd_T122 x21 x23).f0) ((rd_T122 x21 x23).f1)).bind fun t2 => (if t2.1 = true then (impl_cleaning.l0 k x5 x21 x22 (wrap64 (x23 + 1)) y3_0 y3_1 y3_2 y3_3 y3_4) else (if x5.length + 1 < 2513169434917 then (impl_cleaning.l0 k (x5++([(⟨4,t2.2.1,(⟨#[]⟩:ByteArray),(⟨#[]⟩:ByteArray)⟩:S119)]:List S119)) x21 x22 (wrap64 (x23 + 1)) y3_0 y3_1 y3_2 y3_3 y3_4) else none))) else (impl_cleaning.l0 k x5 x21 x22 (wrap64 (x23 + 1)) y3_0 y3_1 y3_2 y3_3 y3_4))) else none) else none) else (some x5)
def impl_cleaning.f (k:Nat) (l0_0:List S122) (l1_0:List Int) (a1_1:Int) (a1_2:Int) (a1_3:Int) (l1_4:List Int):Option (List S119):=(impl_FileAt.f k l0_0 (⟨#[109,43]⟩:ByteArray)).bind fun t0 => (if t0.2 = true then (if 1 < 2513169434917 then (impl_cleaning.l0 k ([]++([(⟨4,(⟨#[109,43]⟩:ByteArray),(⟨#[]⟩:ByteArray),(⟨#[]⟩:ByteArray)⟩:S119)]:List S119)) l0_0 (l0_0.length:Int) 0 l1_0 a1_1 a1_2 a1_3 l1_4) else none) else (impl_cleaning.l0 k [] l0_0 (l0_0.length:Int) 0 l1_0 a1_1 a1_2 a1_3 l1_4))
def impl_Frame.f (k:Nat) (a0:ByteArray):Option (ByteArray×Bool):=(impl_within.f (a0.size:Int) 1 9000).bind fun t585 => (if t585 = true then ((impl_VarText.f k (a0.size:Int)).bind fun bt586 => ((impl_SumOf.f k a0).bind fun t588 => ((some (([(t588 / 16777216) % 256,(t588 / 65536) % 256,(t588 / 256) % 256,(t588) % 256]:List Int):List Int)).bind fun y589 => (if bt586.1.size + (strOfNums y589).size≤9223372036854775807 then (if (bt586.1++(strOfNums y589)).size + a0.size≤9223372036854775807 then (some ((bt586.1++(strOfNums y589))++a0,true)) else (none)) else (none))))) else (some ((⟨#[]⟩:ByteArray),false)))
mutual
def impl_Unframe.l0:Nat→ByteArray→List ByteArray→Int→Option (List ByteArray×Int)
 | 0,_,_,_ => none
 | k + 1,x0,x4,x5 => (impl_ReadVar.f k x0 x5).bind fun bt595 => (if bt595.2.2 = true then (impl_Unframe.j1 k x0 x4 x5 bt595.1 bt595.2.1 (decide (bt595.1 > (wrap64 ((wrap64 ((x0.size:Int) - bt595.2.1)) - 4))))) else (impl_Unframe.j1 k x0 x4 x5 bt595.1 bt595.2.1 true))
def impl_Unframe.j1:Nat→ByteArray→List ByteArray→Int→Int→Int→Bool→Option (List ByteArray×Int)
 | 0,_,_,_,_,_,_ => none
 | k + 1,x0,x4,x5,x6,x7,x32 => if x32 = true then (some (x4,x5)) else (if 0≤(wrap64 (x7 + 4)) then (if (wrap64 (x7 + 4))≤(wrap64 ((wrap64 (x7 + 4)) + x6)) then (if (wrap64 ((wrap64 (x7 + 4)) + x6))≤(x0.size:Int) then ((impl_Frame.f k (x0.extract ((wrap64 (x7 + 4)):Int).toNat ((wrap64 ((wrap64 (x7 + 4)) + x6)):Int).toNat)).bind fun bt598 => (if bt598.2 = true then (if 0≤x5 then (if x5≤(wrap64 ((wrap64 (x7 + 4)) + x6)) then (if bt598.1.toList = (x0.extract (x5:Int).toNat ((wrap64 ((wrap64 (x7 + 4)) + x6)):Int).toNat).toList then (if x4.length < 8796093022208 then (impl_Unframe.l0 k x0 (x4++[x0.extract ((wrap64 (x7 + 4)):Int).toNat ((wrap64 ((wrap64 (x7 + 4)) + x6)):Int).toNat]) (wrap64 ((wrap64 (x7 + 4)) + x6))) else (none)) else (some (x4,x5))) else (none)) else (none)) else (some (x4,x5)))) else (none)) else (none)) else (none))
end
def impl_Unframe.f (k:Nat) (a0:ByteArray):Option (List ByteArray×Int):=if (a0.size:Int) > 20000 then (some (([]:List ByteArray),0)) else (impl_Unframe.l0 k a0 ([]:List ByteArray) 0)
def impl_ReadShort.f (k:Nat) (a0:ByteArray) (a1:Int):Option (ByteArray×Int×Bool):=(impl_ReadVar.f k a0 a1).bind fun t0 => (if t0.2.2 = true then (if t0.1 > 20000 then (some ((⟨#[]⟩:ByteArray),0,false)) else (if t0.1 > wrap64 ((a0.size:Int) - t0.2.1) then (some ((⟨#[]⟩:ByteArray),0,false)) else (if 0≤t0.2.1 then (if t0.2.1≤wrap64 (t0.2.1 + t0.1) then (if wrap64 (t0.2.1 + t0.1)≤(a0.size:Int) then (some (a0.extract (t0.2.1:Int).toNat (wrap64 (t0.2.1 + t0.1):Int).toNat,wrap64 (t0.2.1 + t0.1),true)) else none) else none) else none))) else (some ((⟨#[]⟩:ByteArray),0,false)))
def impl_reader_text.f (k:Nat) (s0_0:ByteArray) (s0_1:Int) (s0_2:Bool):Option (ByteArray×ByteArray×Int×Bool):=(impl_ReadShort.f k s0_0 s0_1).bind fun t0 => (if s0_2 = true then (some ((⟨#[]⟩:ByteArray),s0_0,s0_1,true)) else (if t0.2.2 = true then (some (t0.1,s0_0,t0.2.1,s0_2)) else (some ((⟨#[]⟩:ByteArray),s0_0,s0_1,true))))
def impl_reader_byte.f (s0_0:ByteArray) (s0_1:Int) (s0_2:Bool):Option (Int×ByteArray×Int×Bool):=if s0_2 = true then (some (0,s0_0,s0_1,true)) else (if s0_1≥(s0_0.size:Int) then (some (0,s0_0,s0_1,true)) else (if 0≤wrap64 ((wrap64 (s0_1 + 1)) - 1) then (if wrap64 ((wrap64 (s0_1 + 1)) - 1) < (s0_0.size:Int) then (some (wrap64 (bt s0_0 (wrap64 ((wrap64 (s0_1 + 1)) - 1))),s0_0,wrap64 (s0_1 + 1),s0_2)) else none) else none))
def impl_ReadBatch_c1.f (k:Nat) (s0_0_0:ByteArray) (s0_0_1:Int) (s0_0_2:Bool) (s1_0:Int) (l1_1:List S162):Option (Int×(List S162)×ByteArray×Int×Bool):=(impl_reader_text.f k s0_0_0 s0_0_1 s0_0_2).bind fun t0 => ((impl_reader_byte.f t0.2.1 t0.2.2.1 t0.2.2.2).bind fun t1 => ((impl_reader_text.f k t1.2.1 t1.2.2.1 t1.2.2.2).bind fun t2 => (if l1_1.length + 1 < 3518437208884 then (some (s1_0,(l1_1++([(⟨t0.1,t2.1,(t1.1 == 1)⟩:S162)]:List S162)),t2.2.1,t2.2.2.1,t2.2.2.2)) else none)))
def each_ReadBatch_c1.l0:Nat→Int→Int→ByteArray→Int→Bool→Int→(List S162)→Option (ByteArray×Int×Bool×Int×(List S162))
 | 0,_,_,_,_,_,_,_ => none
 | k + 1,x4,x5,y10000_0,y10000_1,y10000_2,y10002_0,y10002_1 => if x5 < x4 then (if y10000_2 = true then (some (y10000_0,y10000_1,y10000_2,y10002_0,y10002_1)) else ((impl_ReadBatch_c1.f k y10000_0 y10000_1 y10000_2 y10002_0 y10002_1).bind fun t1 => (each_ReadBatch_c1.l0 k x4 (wrap64 (x5 + 1)) t1.2.2.1 t1.2.2.2.1 t1.2.2.2.2 t1.1 t1.2.1))) else (some (y10000_0,y10000_1,y10000_2,y10002_0,y10002_1))
def each_ReadBatch_c1.f (k:Nat) (s0_0:ByteArray) (s0_1:Int) (s0_2:Bool) (s1_1_0:Int):Option (ByteArray×Int×Bool×Int×(List S162)):=(impl_reader_num.f k s0_0 s0_1 s0_2).bind fun t0 => (each_ReadBatch_c1.l0 k t0.1 0 t0.2.1 t0.2.2.1 t0.2.2.2 s1_1_0 [])
def impl_keyOk.f (a0:ByteArray):Option (Bool):=(impl_within.f (a0.size:Int) 1 10).bind fun t603 => (some t603)
def impl_BatchOk.l0:Nat→List S162→Int→Int→Int→List S162→Option (Bool)
 | 0,_,_,_,_,_ => none
 | k + 1,x6,x7,x8,x605000,x605001 => if x8 < x7 then (if 0≤x8 then (if x8 < (x6.length:Int) then ((impl_keyOk.f ((rd_T162 x6 x8).f0)).bind fun t607 => (if t607 = true then (if (((rd_T162 x6 x8).f1).size:Int) > 40 then (some false) else (if (rd_T162 x6 x8).f2 = true then (if ((rd_T162 x6 x8).f1).toList = ([]:List UInt8) then (if x8 > 0 then (if 0≤(wrap64 (x8 - 1)) then (if (wrap64 (x8 - 1)) < (x605001.length:Int) then (if ((Op.bytesLess (((rd_T162 x605001 (wrap64 (x8 - 1))).f0).toList) (((rd_T162 x6 x8).f0).toList)) = true) then (impl_BatchOk.l0 k x6 x7 (wrap64 (x8 + 1)) x605000 x605001) else (some false)) else (none)) else (none)) else (impl_BatchOk.l0 k x6 x7 (wrap64 (x8 + 1)) x605000 x605001)) else (some false)) else (if x8 > 0 then (if 0≤(wrap64 (x8 - 1)) then (if (wrap64 (x8 - 1)) < (x605001.length:Int) then (if ((Op.bytesLess (((rd_T162 x605001 (wrap64 (x8 - 1))).f0).toList) (((rd_T162 x6 x8).f0).toList)) = true) then (impl_BatchOk.l0 k x6 x7 (wrap64 (x8 + 1)) x605000 x605001) else (some false)) else (none)) else (none)) else (impl_BatchOk.l0 k x6 x7 (wrap64 (x8 + 1)) x605000 x605001)))) else (some false))) else (none)) else (none)) else ((impl_within.f x605000 0 100000).bind fun t610 => (if t610 = true then (some (decide ((x605001.length:Int)≤60))) else (some false)))
def impl_BatchOk.f (k:Nat) (a0_0:Int) (l0_1:List S162):Option (Bool):=impl_BatchOk.l0 k l0_1 (l0_1.length:Int) 0 a0_0 l0_1
def impl_vars.l0:Nat→List Int→List Int→Int→Int→Option (ByteArray×Bool)
 | 0,_,_,_,_ => none
 | k + 1,x4,x9,x10,x11 => if x11 < x10 then (if 0≤x11 then (if x11 < (x9.length:Int) then ((impl_VarText.f k (rd x9 x11)).bind fun bt612 => (if bt612.2 = true then (if x4.length + bt612.1.size < 140737488355328 then (impl_vars.l0 k (x4++bytesOf bt612.1) x9 x10 (wrap64 (x11 + 1))) else (none)) else (some ((⟨#[]⟩:ByteArray),false)))) else (none)) else (none)) else (some (strOfNums x4,true))
def impl_vars.f (k:Nat) (l0:List Int):Option (ByteArray×Bool):=impl_vars.l0 k ([]:List Int) l0 (l0.length:Int) 0
def impl_ShortText.f (k:Nat) (a0:ByteArray):Option (ByteArray×Bool):=if (a0.size:Int) > 20000 then (some ((⟨#[]⟩:ByteArray),false)) else ((impl_VarText.f k (a0.size:Int)).bind fun bt617 => (if bt617.1.size + a0.size≤9223372036854775807 then (some (bt617.1++a0,true)) else (none)))
def impl_short.f (k:Nat) (a0:ByteArray):Option (ByteArray):=(impl_ShortText.f k a0).bind fun bt619 => (some bt619.1)
def impl_flag.f (a0:Bool):Option (ByteArray):=if a0 = true then (some (⟨#[1]⟩:ByteArray)) else (some (⟨#[0]⟩:ByteArray))
def impl_BatchText.l0:Nat→ByteArray→List S162→Int→Int→Option (ByteArray×Bool)
 | 0,_,_,_,_ => none
 | k + 1,x4,x22,x23,x24 => if x24 < x23 then (if 0≤x24 then (if x24 < (x22.length:Int) then ((impl_short.f k ((rd_T162 x22 x24).f0)).bind fun t630 => ((impl_flag.f ((rd_T162 x22 x24).f2)).bind fun t631 => (if t630.size + t631.size≤9223372036854775807 then ((impl_short.f k ((rd_T162 x22 x24).f1)).bind fun t632 => (if (t630++t631).size + t632.size≤9223372036854775807 then (if x4.size + ((t630++t631)++t632).size≤9223372036854775807 then (impl_BatchText.l0 k (x4++((t630++t631)++t632)) x22 x23 (wrap64 (x24 + 1))) else (none)) else (none))) else (none)))) else (none)) else (none)) else (some (x4,true))
def impl_BatchText.f (k:Nat) (a0_0:Int) (l0_1:List S162):Option (ByteArray×Bool):=(impl_BatchOk.f k a0_0 l0_1).bind fun t622 => (if t622 = true then ((impl_vars.f k (([a0_0,(l0_1.length:Int)]:List Int))).bind fun bt626 => (impl_BatchText.l0 k bt626.1 l0_1 (l0_1.length:Int) 0)) else (some ((⟨#[]⟩:ByteArray),false)))
def impl_ReadBatch.f (k:Nat) (a0:ByteArray):Option (Int×(List S162)×Bool):=(impl_reader_num.f k a0 0 false).bind fun t0 => ((each_ReadBatch_c1.f k t0.2.1 t0.2.2.1 t0.2.2.2 t0.1).bind fun t1 => ((impl_BatchText.f k t1.2.2.2.1 t1.2.2.2.2).bind fun t2 => (if t1.2.2.1 = true then (some (0,[],false)) else (if t2.2 = true then (if t2.1.toList = a0.toList then (some (t1.2.2.2.1,t1.2.2.2.2,true)) else (some (0,[],false))) else (some (0,[],false))))))
def impl_batchesOf.l0:Nat→List S113→Int→List ByteArray→Int→Int→Option ((List S113)×Int)
 | 0,_,_,_,_,_ => none
 | k + 1,x6,x7,x19,x20,x21 => if x21 < x20 then (if 0≤x21 then (if x21 < (x19.length:Int) then ((impl_ReadBatch.f k (rdOf ByteArray.empty x19 x21)).bind fun bt641 => (if bt641.2.2 = true then ((impl_Frame.f k (rdOf ByteArray.empty x19 x21)).bind fun bt647 => (if x6.length < 2513169434916 then (impl_batchesOf.l0 k (x6++[(⟨(⟨bt641.1,bt641.2.1⟩:S59),rdOf ByteArray.empty x19 x21,wrap64 ((wrap64 (x7 + (bt647.1.size:Int))) - ((rdOf ByteArray.empty x19 x21).size:Int))⟩:S113)]) (wrap64 (x7 + (bt647.1.size:Int))) x19 x20 (wrap64 (x21 + 1))) else (none))) else (some (x6,x7)))) else (none)) else (none)) else (some (x6,x7))
def impl_batchesOf.f (k:Nat) (a0:ByteArray):Option ((List S113)×Int):=(impl_Unframe.f k a0).bind fun bt636 => (impl_batchesOf.l0 k ([]:List S113) 0 bt636.1 (bt636.1.length:Int) 0)
def impl_spotsOf.l0:Nat→Int→Int→List S145→List S162→Int→Int→Option ((List S145))
 | 0,_,_,_,_,_,_ => none
 | k + 1,x1,x7,x8,x31,x32,x33 => if x33 < x32 then (if 0≤x33 then (if x33 < (x31.length:Int) then ((impl_short.f k ((rd_T162 x31 x33).f1)).bind fun t701 => ((impl_short.f k ((rd_T162 x31 x33).f0)).bind fun t702 => (if (rd_T162 x31 x33).f2 = true then (if x8.length < 3518437208883 then (impl_spotsOf.l0 k x1 (wrap64 (x7 + (wrap64 ((wrap64 ((t702.size:Int) + 1)) + (t701.size:Int))))) (x8++[(⟨(rd_T162 x31 x33).f0,x1,0,(-1)⟩:S145)]) x31 x32 (wrap64 (x33 + 1))) else (none)) else (if x8.length < 3518437208883 then (impl_spotsOf.l0 k x1 (wrap64 (x7 + (wrap64 ((wrap64 ((t702.size:Int) + 1)) + (t701.size:Int))))) (x8++[(⟨(rd_T162 x31 x33).f0,x1,wrap64 ((wrap64 (x7 + (wrap64 ((wrap64 ((t702.size:Int) + 1)) + (t701.size:Int))))) - (((rd_T162 x31 x33).f1).size:Int)),(((rd_T162 x31 x33).f1).size:Int)⟩:S145)]) x31 x32 (wrap64 (x33 + 1))) else (none))))) else (none)) else (none)) else (some x8)
def impl_spotsOf.f (k:Nat) (a0_0:Int) (l0_1:List S162) (a0_2:ByteArray) (a0_3:Int) (a1:Int):Option ((List S145)):=(impl_vars.f k (([a0_0,(l0_1.length:Int)]:List Int))).bind fun bt697 => (impl_spotsOf.l0 k a1 (wrap64 (a0_3 + (bt697.1.size:Int))) ([]:List S145) l0_1 (l0_1.length:Int) 0)
def impl_ScanSeg.l0:Nat→Int→List S145→List ByteArray→Int→List S113→Int→Int→Option ((List S145)×List ByteArray×Int)
 | 0,_,_,_,_,_,_,_ => none
 | k + 1,x1,x9,x10,x11,x19,x20,x21 => if x21 < x20 then (if 0≤x21 then (if x21 < (x19.length:Int) then ((impl_spotsOf.f k ((rd_T113 x19 x21).f0.f0) ((rd_T113 x19 x21).f0.f1) ((rd_T113 x19 x21).f1) ((rd_T113 x19 x21).f2) x1).bind fun t715 => (if x9.length + t715.length < 3518437208883 then (if x10.length < 8796093022208 then (impl_ScanSeg.l0 k x1 (x9++t715) (x10++[(rd_T113 x19 x21).f1]) (mx x11 ((rd_T113 x19 x21).f0.f0)) x19 x20 (wrap64 (x21 + 1))) else (none)) else (none))) else (none)) else (none)) else (some (x9,x10,x11))
def impl_ScanSeg.f (k:Nat) (a0:ByteArray) (a1:Int):Option ((List S145)×List ByteArray×Int):=(impl_batchesOf.f k a0).bind fun bt709 => (impl_ScanSeg.l0 k a1 ([]:List S145) ([]:List ByteArray) (-1) bt709.1 (bt709.1.length:Int) 0)
def impl_DirOk.l0:Nat→List S145→List S145→Int→Int→Option (Bool)
 | 0,_,_,_,_ => none
 | k + 1,x0,x5,x6,x7 => if x7 < x6 then (if 0≤x7 then (if x7 < (x5.length:Int) then ((impl_keyOk.f ((rd_T145 x5 x7).f0)).bind fun t726 => (if t726 = true then ((impl_within.f ((rd_T145 x5 x7).f1) 0 999).bind fun t727 => (if t727 = true then ((impl_within.f ((rd_T145 x5 x7).f2) 0 20000).bind fun t728 => (if t728 = true then ((impl_within.f ((rd_T145 x5 x7).f3) 0 40).bind fun t729 => (if t729 = true then (if x7 > 0 then (if 0≤(wrap64 (x7 - 1)) then (if (wrap64 (x7 - 1)) < (x0.length:Int) then (if ((Op.bytesLess (((rd_T145 x0 (wrap64 (x7 - 1))).f0).toList) (((rd_T145 x5 x7).f0).toList)) = true) then (impl_DirOk.l0 k x0 x5 x6 (wrap64 (x7 + 1))) else (some false)) else (none)) else (none)) else (impl_DirOk.l0 k x0 x5 x6 (wrap64 (x7 + 1)))) else (some false))) else (some false))) else (some false))) else (some false))) else (none)) else (none)) else (some (decide ((x0.length:Int)≤60)))
def impl_DirOk.f (k:Nat) (l0:List S145):Option (Bool):=impl_DirOk.l0 k l0 l0 (l0.length:Int) 0
def impl_DirMore_c1.f (a0_0:ByteArray) (a0_1:Int) (a0_2:Int) (a0_3:Int) (a1:ByteArray):Option Int:=(strings_Compare.f a0_0 a1).bind fun t0 => (some t0)
def slices_BinarySearchFunc_impl_Spot_impl_Spot_string.l0:Nat→(List S145)→ByteArray→Int→Int→Int→Option (Int×Bool)
 | 0,_,_,_,_,_ => none
 | k + 1,x0,x1,x8,x9,x10 => if x9 < x10 then (if 0≤wrap64 (((wrap64 (x9 + x10)) % 18446744073709551616) / 2) then (if wrap64 (((wrap64 (x9 + x10)) % 18446744073709551616) / 2) < (x0.length:Int) then ((impl_DirMore_c1.f ((rd_T145 x0 (wrap64 (((wrap64 (x9 + x10)) % 18446744073709551616) / 2))).f0) ((rd_T145 x0 (wrap64 (((wrap64 (x9 + x10)) % 18446744073709551616) / 2))).f1) ((rd_T145 x0 (wrap64 (((wrap64 (x9 + x10)) % 18446744073709551616) / 2))).f2) ((rd_T145 x0 (wrap64 (((wrap64 (x9 + x10)) % 18446744073709551616) / 2))).f3) x1).bind fun t0 => (if t0 < 0 then (slices_BinarySearchFunc_impl_Spot_impl_Spot_string.l0 k x0 x1 x8 (wrap64 ((wrap64 (((wrap64 (x9 + x10)) % 18446744073709551616) / 2)) + 1)) x10) else (slices_BinarySearchFunc_impl_Spot_impl_Spot_string.l0 k x0 x1 x8 x9 (wrap64 (((wrap64 (x9 + x10)) % 18446744073709551616) / 2))))) else none) else none) else (if x9 < x8 then (if 0≤x9 then (if x9 < (x0.length:Int) then ((impl_DirMore_c1.f ((rd_T145 x0 x9).f0) ((rd_T145 x0 x9).f1) ((rd_T145 x0 x9).f2) ((rd_T145 x0 x9).f3) x1).bind fun t1 => (some (x9,(t1 == 0)))) else none) else none) else (some (x9,false)))
def slices_BinarySearchFunc_impl_Spot_impl_Spot_string.f (k:Nat) (l0:List S145) (a1:ByteArray):Option (Int×Bool):=slices_BinarySearchFunc_impl_Spot_impl_Spot_string.l0 k l0 a1 (l0.length:Int) 0 (l0.length:Int)
def slices_Delete_impl_Spot_impl_Spot.f (l0:List S145) (a1 a2:Int):Option (List S145):=delO a1 a2 l0
def slices_Insert_impl_Spot_impl_Spot.f (l0:List S145) (a1:Int) (l2:List S145):Option ((List S145)×(List S145)):=(insO 40 l0 a1 l2).bind fun t => some (t,l2)
def impl_DirMore.l0:Nat→(List S145)→(List S145)→Int→Int→Option ((List S145)×Bool)
 | 0,_,_,_,_ => none
 | k + 1,x6,x16,x17,x18 => if x18 < x17 then (if 0≤x18 then (if x18 < (x16.length:Int) then ((slices_BinarySearchFunc_impl_Spot_impl_Spot_string.f k x6 ((rd_T145 x16 x18).f0)).bind fun t1 => (if (rd_T145 x16 x18).f3 = (-1) then (if t1.2 = true then ((slices_Delete_impl_Spot_impl_Spot.f x6 t1.1 (wrap64 (t1.1 + 1))).bind fun t2 => (impl_DirMore.l0 k t2 x16 x17 (wrap64 (x18 + 1)))) else (if (rd_T145 x16 x18).f3 = (-1) then (impl_DirMore.l0 k x6 x16 x17 (wrap64 (x18 + 1))) else (if t1.2 = true then (if 0≤t1.1 then (if t1.1 < (x6.length:Int) then (impl_DirMore.l0 k (x6.set (t1.1:Int).toNat (⟨(rd_T145 x16 x18).f0,(rd_T145 x16 x18).f1,(rd_T145 x16 x18).f2,(rd_T145 x16 x18).f3⟩:S145)) x16 x17 (wrap64 (x18 + 1))) else none) else none) else ((slices_Insert_impl_Spot_impl_Spot.f x6 t1.1 ([(⟨(rd_T145 x16 x18).f0,(rd_T145 x16 x18).f1,(rd_T145 x16 x18).f2,(rd_T145 x16 x18).f3⟩:S145)]:List S145)).bind fun t3 => (impl_DirMore.l0 k t3.1 x16 x17 (wrap64 (x18 + 1))))))) else (if (rd_T145 x16 x18).f3 = (-1) then (impl_DirMore.l0 k x6 x16 x17 (wrap64 (x18 + 1))) else (if t1.2 = true then (if 0≤t1.1 then (if t1.1 < (x6.length:Int) then (impl_DirMore.l0 k (x6.set (t1.1:Int).toNat (⟨(rd_T145 x16 x18).f0,(rd_T145 x16 x18).f1,(rd_T145 x16 x18).f2,(rd_T145 x16 x18).f3⟩:S145)) x16 x17 (wrap64 (x18 + 1))) else none) else none) else ((slices_Insert_impl_Spot_impl_Spot.f x6 t1.1 ([(⟨(rd_T145 x16 x18).f0,(rd_T145 x16 x18).f1,(rd_T145 x16 x18).f2,(rd_T145 x16 x18).f3⟩:S145)]:List S145)).bind fun t4 => (impl_DirMore.l0 k t4.1 x16 x17 (wrap64 (x18 + 1)))))))) else none) else none) else ((impl_DirOk.f k x6).bind fun t5 => (if t5 = true then (some (x6,true)) else (some ([],false))))
def impl_DirMore.f (k:Nat) (l0:List S145) (l1:List S145):Option ((List S145)×Bool):=(impl_DirOk.f k l0).bind fun t0 => (if t0 = true then (if l0.length < 3518437208884 then (impl_DirMore.l0 k ([]++l0) l1 (l1.length:Int) 0) else none) else (some ([],false)))
mutual
def impl_OpenShelf.l0:Nat→(List Int)→Int→Int→(List S122)→(List Int)→Int→Int→Int→(List Int)→(List S145)→Int→Int→Int→Int→(List Int)→Option ((List Int)×Int×Int×Int×(List Int)×(List S145)×Int×(List S119)×Int)
 | 0,_,_,_,_,_,_,_,_,_,_,_,_,_,_,_ => none
 | k + 1,x49,x50,x51,y1_0,y2_0,y2_1,y2_2,y2_3,y2_4,y2_5,y2_6,y7_1,y7_2,y7_3,y7_4 => if x51 < x50 then (if 0≤x51 then (if x51 < (x49.length:Int) then ((impl_SegName.f (rd x49 x51)).bind fun t3 => ((impl_FileAt.f k y1_0 t3).bind fun t4 => (if t4.2 = true then (impl_OpenShelf.l0 k x49 x50 (wrap64 (x51 + 1)) y1_0 y2_0 y2_1 y2_2 y2_3 y2_4 y2_5 y2_6 y7_1 y7_2 y7_3 y7_4) else (some ([],0,0,0,[],[],0,[],3))))) else none) else none) else ((impl_cleaning.f k y1_0 x49 y7_1 y7_2 y7_3 y7_4).bind fun t5 => (impl_OpenShelf.l1 k t5 [] x49 (x49.length:Int) 0 y1_0 y2_0 y2_1 y2_2 y2_3 y2_4 y2_5 y2_6 y7_1 y7_2 y7_3 y7_4 y7_1 y7_2 y7_3 [] y7_2))
def impl_OpenShelf.l1:Nat→(List S119)→(List S145)→(List Int)→Int→Int→(List S122)→(List Int)→Int→Int→Int→(List Int)→(List S145)→Int→Int→Int→Int→(List Int)→Int→Int→Int→(List S145)→Int→Option ((List Int)×Int×Int×Int×(List Int)×(List S145)×Int×(List S119)×Int)
 | 0,_,_,_,_,_,_,_,_,_,_,_,_,_,_,_,_,_,_,_,_,_,_ => none
 | k + 1,x14,x15,x74,x75,x76,y1_0,y2_0,y2_1,y2_2,y2_3,y2_4,y2_5,y2_6,y7_1,y7_2,y7_3,y7_4,y13_1,y13_2,y13_3,y13_5,y13_6 => if x76 < x75 then (if 0≤x76 then (if x76 < (x74.length:Int) then ((impl_SegName.f (rd x74 x76)).bind fun t6 => ((impl_FileAt.f k y1_0 t6).bind fun t7 => ((impl_ScanSeg.f k t7.1 (rd x74 x76)).bind fun t8 => ((impl_batchesOf.f k t7.1).bind fun t9 => (if t9.2 < (t7.1.size:Int) then (if x76 < wrap64 ((x74.length:Int) - 1) then (some ([],0,0,0,[],[],0,[],4)) else (if t9.2 < (t7.1.size:Int) then ((impl_SegName.f (rd x74 x76)).bind fun t10 => (if 0≤t9.2 then (if t9.2≤(t7.1.size:Int) then (if x14.length + 1 < 2513169434917 then (if x15.length + t8.1.length < 3518437208884 then (impl_OpenShelf.l1 k (x14++([(⟨1,t10,(⟨#[]⟩:ByteArray),t7.1.extract 0 (t9.2:Int).toNat⟩:S119)]:List S119)) (x15++t8.1) x74 x75 (wrap64 (x76 + 1)) y1_0 y2_0 y2_1 y2_2 y2_3 y2_4 y2_5 y2_6 y7_1 y7_2 y7_3 y7_4 y13_1 y13_2 y13_3 y13_5 (mx y13_6 t8.2.2)) else none) else none) else none) else none)) else (if x15.length + t8.1.length < 3518437208884 then (impl_OpenShelf.l1 k x14 (x15++t8.1) x74 x75 (wrap64 (x76 + 1)) y1_0 y2_0 y2_1 y2_2 y2_3 y2_4 y2_5 y2_6 y7_1 y7_2 y7_3 y7_4 y13_1 y13_2 y13_3 y13_5 (mx y13_6 t8.2.2)) else none))) else (if t9.2 < (t7.1.size:Int) then ((impl_SegName.f (rd x74 x76)).bind fun t11 => (if 0≤t9.2 then (if t9.2≤(t7.1.size:Int) then (if x14.length + 1 < 2513169434917 then (if x15.length + t8.1.length < 3518437208884 then (impl_OpenShelf.l1 k (x14++([(⟨1,t11,(⟨#[]⟩:ByteArray),t7.1.extract 0 (t9.2:Int).toNat⟩:S119)]:List S119)) (x15++t8.1) x74 x75 (wrap64 (x76 + 1)) y1_0 y2_0 y2_1 y2_2 y2_3 y2_4 y2_5 y2_6 y7_1 y7_2 y7_3 y7_4 y13_1 y13_2 y13_3 y13_5 (mx y13_6 t8.2.2)) else none) else none) else none) else none)) else (if x15.length + t8.1.length < 3518437208884 then (impl_OpenShelf.l1 k x14 (x15++t8.1) x74 x75 (wrap64 (x76 + 1)) y1_0 y2_0 y2_1 y2_2 y2_3 y2_4 y2_5 y2_6 y7_1 y7_2 y7_3 y7_4 y13_1 y13_2 y13_3 y13_5 (mx y13_6 t8.2.2)) else none))))))) else none) else none) else ((impl_DirMore.f k [] x15).bind fun t12 => (if t12.2 = true then (some (x74,y13_1,y13_2,y13_3,y7_4,t12.1,y13_6,x14,0)) else (some ([],0,0,0,[],[],0,[],4))))
end
def impl_OpenShelf.f (k:Nat) (l0_0:List S122):Option ((List Int)×Int×Int×Int×(List Int)×(List S145)×Int×(List S119)×Int):=(impl_DiskOk.f k l0_0).bind fun t0 => (if t0 = true then ((impl_FileAt.f k l0_0 (⟨#[109]⟩:ByteArray)).bind fun t1 => ((impl_ReadManifest.f k t1.1).bind fun t2 => (if t1.2 = true then (if t2.2.2.2.2.2 = true then (impl_OpenShelf.l0 k t2.1 (t2.1.length:Int) 0 l0_0 [] 0 0 0 [] [] 0 t2.2.1 t2.2.2.1 t2.2.2.2.1 t2.2.2.2.2.1) else (some ([],0,0,0,[],[],0,[],2))) else (some ([],0,0,0,[],[],0,[],2))))) else (some ([],0,0,0,[],[],0,[],1)))
def slices_Equal_int_int.l0:Nat→(List Int)→(List Int)→Int→Int→Option Bool
 | 0,_,_,_,_ => none
 | k + 1,x0,x1,x12,x13 => if x13 < x12 then (if 0≤x13 then (if x13 < (x0.length:Int) then (if x13 < (x1.length:Int) then (if rd x0 x13 = rd x1 x13 then (slices_Equal_int_int.l0 k x0 x1 x12 (wrap64 (x13 + 1))) else (some false)) else none) else none) else none) else (some true)
def slices_Equal_int_int.f (k:Nat) (l0:List Int) (l1:List Int):Option Bool:=if (l0.length:Int) = (l1.length:Int) then (slices_Equal_int_int.l0 k l0 l1 (l0.length:Int) 0) else (some false)
def impl_sameManifest.f (k:Nat) (l0_0:List Int) (a0_1:Int) (a0_2:Int) (a0_3:Int) (l0_4:List Int) (l1_0:List Int) (a1_1:Int) (a1_2:Int) (a1_3:Int) (l1_4:List Int):Option Bool:=(slices_Equal_int_int.f k l0_0 l1_0).bind fun t0 => (if t0 = true then (if a0_1 = a1_1 then (if a0_2 = a1_2 then (if a0_3 = a1_3 then ((slices_Equal_int_int.f k l0_4 l1_4).bind fun t1 => (some t1)) else (some false)) else (some false)) else (some false)) else (some false))
def slices_Equal_impl_Spot_impl_Spot.l0:Nat→(List S145)→(List S145)→Int→Int→Option Bool
 | 0,_,_,_,_ => none
 | k + 1,x0,x1,x12,x13 => if x13 < x12 then (if 0≤x13 then (if x13 < (x0.length:Int) then (if x13 < (x1.length:Int) then (if ((((rd_T145 x0 x13).f0).toList == ((rd_T145 x1 x13).f0).toList) && ((((rd_T145 x0 x13).f1) == ((rd_T145 x1 x13).f1)) && ((((rd_T145 x0 x13).f2) == ((rd_T145 x1 x13).f2)) && (((rd_T145 x0 x13).f3) == ((rd_T145 x1 x13).f3))))) = true then (slices_Equal_impl_Spot_impl_Spot.l0 k x0 x1 x12 (wrap64 (x13 + 1))) else (some false)) else none) else none) else none) else (some true)
def slices_Equal_impl_Spot_impl_Spot.f (k:Nat) (l0:List S145) (l1:List S145):Option Bool:=if (l0.length:Int) = (l1.length:Int) then (slices_Equal_impl_Spot_impl_Spot.l0 k l0 l1 (l0.length:Int) 0) else (some false)
def impl_sameShelf.f (k:Nat) (l0_0:List Int) (a0_1:Int) (a0_2:Int) (a0_3:Int) (l0_4:List Int) (l0_5:List S145) (a0_6:Int) (l1_0:List Int) (a1_1:Int) (a1_2:Int) (a1_3:Int) (l1_4:List Int) (l1_5:List S145) (a1_6:Int):Option Bool:=(impl_sameManifest.f k l0_0 a0_1 a0_2 a0_3 l0_4 l1_0 a1_1 a1_2 a1_3 l1_4).bind fun t0 => (if t0 = true then ((slices_Equal_impl_Spot_impl_Spot.f k l0_5 l1_5).bind fun t1 => (if t1 = true then (some (a0_6 == a1_6)) else (some false))) else (some false))
def impl_SnapText.f (k:Nat) (l0_0:List S122) (l1_0:List Int) (a1_1:Int) (a1_2:Int) (a1_3:Int) (l1_4:List Int) (l1_5:List S145) (a1_6:Int):Option (ByteArray×Bool):=(impl_OpenShelf.f k l0_0).bind fun t0 => (if t0.2.2.2.2.2.2.2.2 = 0 then ((impl_sameShelf.f k t0.1 t0.2.1 t0.2.2.1 t0.2.2.2.1 t0.2.2.2.2.1 t0.2.2.2.2.2.1 t0.2.2.2.2.2.2.1 l1_0 a1_1 a1_2 a1_3 l1_4 l1_5 a1_6).bind fun t1 => (if t1 = true then (if a1_2 = 0 then (some ((⟨#[]⟩:ByteArray),false)) else (if 0 < (l1_0.length:Int) then ((impl_SegName.f (rd l1_0 0)).bind fun t2 => ((impl_FileAt.f k l0_0 t2).bind fun t3 => ((impl_batchesOf.f k t3.1).bind fun t4 => (if (t4.1.length:Int) = 0 then (some ((⟨#[]⟩:ByteArray),false)) else (if 0 < (t4.1.length:Int) then (if (rd_T113 t4.1 0).f0.f0 = a1_2 then (if 0≤wrap64 (((rd_T113 t4.1 0).f2) + (((rd_T113 t4.1 0).f1).size:Int)) then (if wrap64 (((rd_T113 t4.1 0).f2) + (((rd_T113 t4.1 0).f1).size:Int))≤(t3.1.size:Int) then (some (t3.1.extract 0 (wrap64 (((rd_T113 t4.1 0).f2) + (((rd_T113 t4.1 0).f1).size:Int)):Int).toNat,true)) else none) else none) else (some ((⟨#[]⟩:ByteArray),false))) else none))))) else none)) else (some ((⟨#[]⟩:ByteArray),false)))) else (some ((⟨#[]⟩:ByteArray),false)))
def laws_eqFile.f (a0_0:ByteArray) (a0_1:ByteArray) (a1_0:ByteArray) (a1_1:ByteArray):Option (Bool):=if a0_0.toList = a1_0.toList then (if a0_1.toList = a1_1.toList then (some true) else (some false)) else (some false)
def laws_eqFileS.l0:Nat→List S122→List S122→Int→Option (Bool)
 | 0,_,_,_ => none
 | k + 1,x0,x1,x5 => if x5 < (x0.length:Int) then (if 0≤x5 then (if x5 < (x1.length:Int) then ((laws_eqFile.f ((rd_T122 x0 x5).f0) ((rd_T122 x0 x5).f1) ((rd_T122 x1 x5).f0) ((rd_T122 x1 x5).f1)).bind fun t761 => (if t761 = true then (laws_eqFileS.l0 k x0 x1 (wrap64 (x5 + 1))) else (some false))) else (none)) else (none)) else (some true)
def laws_eqFileS.f (k:Nat) (l0:List S122) (l1:List S122):Option (Bool):=if (l0.length:Int) = (l1.length:Int) then (laws_eqFileS.l0 k l0 l1 0) else (some false)
def laws_eqDisk.f (k:Nat) (l0_0:List S122) (l1_0:List S122):Option (Bool):=(laws_eqFileS.f k l0_0 l1_0).bind fun t764 => (if t764 = true then (some true) else (some false))
def laws_eqIntS.l0:Nat→List Int→List Int→Int→Option (Bool)
 | 0,_,_,_ => none
 | k + 1,x0,x1,x5 => if x5 < (x0.length:Int) then (if 0≤x5 then (if x5 < (x1.length:Int) then (if (rd x0 x5) = (rd x1 x5) then (laws_eqIntS.l0 k x0 x1 (wrap64 (x5 + 1))) else (some false)) else (none)) else (none)) else (some true)
def laws_eqIntS.f (k:Nat) (l0:List Int) (l1:List Int):Option (Bool):=if (l0.length:Int) = (l1.length:Int) then (laws_eqIntS.l0 k l0 l1 0) else (some false)
def laws_eqManifest.f (k:Nat) (l0_0:List Int) (a0_1:Int) (a0_2:Int) (a0_3:Int) (l0_4:List Int) (l1_0:List Int) (a1_1:Int) (a1_2:Int) (a1_3:Int) (l1_4:List Int):Option (Bool):=(laws_eqIntS.f k l0_0 l1_0).bind fun t769 => (if t769 = true then (if a0_1 = a1_1 then (if a0_2 = a1_2 then (if a0_3 = a1_3 then ((laws_eqIntS.f k l0_4 l1_4).bind fun t770 => (if t770 = true then (some true) else (some false))) else (some false)) else (some false)) else (some false)) else (some false))
def laws_eqSpot.f (a0_0:ByteArray) (a0_1:Int) (a0_2:Int) (a0_3:Int) (a1_0:ByteArray) (a1_1:Int) (a1_2:Int) (a1_3:Int):Option (Bool):=if a0_0.toList = a1_0.toList then (if a0_1 = a1_1 then (if a0_2 = a1_2 then (if a0_3 = a1_3 then (some true) else (some false)) else (some false)) else (some false)) else (some false)
def laws_eqSpotS.l0:Nat→List S145→List S145→Int→Option (Bool)
 | 0,_,_,_ => none
 | k + 1,x0,x1,x5 => if x5 < (x0.length:Int) then (if 0≤x5 then (if x5 < (x1.length:Int) then ((laws_eqSpot.f ((rd_T145 x0 x5).f0) ((rd_T145 x0 x5).f1) ((rd_T145 x0 x5).f2) ((rd_T145 x0 x5).f3) ((rd_T145 x1 x5).f0) ((rd_T145 x1 x5).f1) ((rd_T145 x1 x5).f2) ((rd_T145 x1 x5).f3)).bind fun t775 => (if t775 = true then (laws_eqSpotS.l0 k x0 x1 (wrap64 (x5 + 1))) else (some false))) else (none)) else (none)) else (some true)
def laws_eqSpotS.f (k:Nat) (l0:List S145) (l1:List S145):Option (Bool):=if (l0.length:Int) = (l1.length:Int) then (laws_eqSpotS.l0 k l0 l1 0) else (some false)
def laws_eqShelf.f (k:Nat) (l0_0:List Int) (a0_1:Int) (a0_2:Int) (a0_3:Int) (l0_4:List Int) (l0_5:List S145) (a0_6:Int) (l1_0:List Int) (a1_1:Int) (a1_2:Int) (a1_3:Int) (l1_4:List Int) (l1_5:List S145) (a1_6:Int):Option (Bool):=(laws_eqManifest.f k l0_0 a0_1 a0_2 a0_3 l0_4 l1_0 a1_1 a1_2 a1_3 l1_4).bind fun t778 => (if t778 = true then ((laws_eqSpotS.f k l0_5 l1_5).bind fun t779 => (if t779 = true then (if a0_6 = a1_6 then (some true) else (some false)) else (some false))) else (some false))
def laws_FnExactSnapText.f (k:Nat) (l0_0:List S171) (l1_0:List Int) (a1_1:Int) (a1_2:Int) (a1_3:Int) (l1_4:List Int) (l1_5:List S173) (a1_6:Int):Option Bool:=(laws_szDisk.f k l0_0 1048576).bind fun t0 => (if t0 < 0 then (some true) else ((laws_szShelf.f k l1_0 a1_1 a1_2 a1_3 l1_4 l1_5 a1_6 t0).bind fun t1 => (if t1 < 0 then (some true) else ((laws_toDisk.f k l0_0).bind fun t2 => ((laws_toShelf.f k l1_0 a1_1 a1_2 a1_3 l1_4 l1_5 a1_6).bind fun t3 => ((spec_SnapText.f k t2 t3.1 t3.2.1 t3.2.2.1 t3.2.2.2.1 t3.2.2.2.2.1 t3.2.2.2.2.2.1 t3.2.2.2.2.2.2).bind fun t4 => ((laws_toDisk.f k l0_0).bind fun t5 => ((laws_toShelf.f k l1_0 a1_1 a1_2 a1_3 l1_4 l1_5 a1_6).bind fun t6 => ((impl_SnapText.f k t5 t6.1 t6.2.1 t6.2.2.1 t6.2.2.2.1 t6.2.2.2.2.1 t6.2.2.2.2.2.1 t6.2.2.2.2.2.2).bind fun t7 => (if t7.1.toList = t4.1.toList then (if (t7.2 != t4.2) = true then (some false) else ((laws_toDisk.f k l0_0).bind fun t8 => ((laws_eqDisk.f k t5 t8).bind fun t9 => (if t9 = true then ((laws_toShelf.f k l1_0 a1_1 a1_2 a1_3 l1_4 l1_5 a1_6).bind fun t10 => ((laws_eqShelf.f k t6.1 t6.2.1 t6.2.2.1 t6.2.2.2.1 t6.2.2.2.2.1 t6.2.2.2.2.2.1 t6.2.2.2.2.2.2 t10.1 t10.2.1 t10.2.2.1 t10.2.2.2.1 t10.2.2.2.2.1 t10.2.2.2.2.2.1 t10.2.2.2.2.2.2).bind fun t11 => (if t11 = true then (some true) else (some false)))) else (some false))))) else (some false)))))))))))
structure En where
 eI:IntKind→List Int→List (List CV)
 eS:List ByteArray→List (List CV)
 e171:List S171→List (List CV)
 e173:List S173→List (List CV)
 e122:List S122→List (List CV)
 e145:List S145→List (List CV)
 e162:List S162→List (List CV)
 e119:List S119→List (List CV)
 e59:List S59→List (List CV)
 e113:List S113→List (List CV)
def c171 (x:S171):List CV:=[.str x.f0,.str x.f1]
def m171 (l:List S171):List (List CV):=l.map c171
theorem m171_len (l:List S171):(m171 l).length = l.length:=List.length_map _
theorem m171_nil:m171 [] = []:=rfl
theorem m171_app (a:List S171) (f0:ByteArray) (f1:ByteArray):m171 a++[[.str f0,.str f1]] = m171 (a++[(⟨f0,f1⟩:S171)]):=by simp [m171,c171]
theorem m171_cut (l:List S171) (i j:Int):cutR (m171 l) i j = m171 ((l.drop i.toNat).take (j.toNat - i.toNat)):=by simp [cutR,m171]
theorem m171_cat (a b:List S171):m171 a++m171 b = m171 (a++b):=List.map_append.symm
theorem m171_cons (x:S171) (l:List S171):m171 (x::l) = [.str x.f0,.str x.f1]::m171 l:=rfl
theorem m171_0 (l:List S171) (i:Int):gS (m171 l) i 0 = (rd_T171 l i).f0:=by
 unfold gS rd_T171 m171;rw [gC_map,List.getD_eq_getElem?_getD]
 cases l[i.toNat]? <;> rfl
theorem m171_1 (l:List S171) (i:Int):gS (m171 l) i 1 = (rd_T171 l i).f1:=by
 unfold gS rd_T171 m171;rw [gC_map,List.getD_eq_getElem?_getD]
 cases l[i.toNat]? <;> rfl
def c173 (x:S173):List CV:=[.str x.f0,.int .i64 x.f1,.int .i64 x.f2,.int .i64 x.f3]
def m173 (l:List S173):List (List CV):=l.map c173
theorem m173_len (l:List S173):(m173 l).length = l.length:=List.length_map _
theorem m173_nil:m173 [] = []:=rfl
theorem m173_app (a:List S173) (f0:ByteArray) (f1:Int) (f2:Int) (f3:Int):m173 a++[[.str f0,.int .i64 f1,.int .i64 f2,.int .i64 f3]] = m173 (a++[(⟨f0,f1,f2,f3⟩:S173)]):=by simp [m173,c173]
theorem m173_cut (l:List S173) (i j:Int):cutR (m173 l) i j = m173 ((l.drop i.toNat).take (j.toNat - i.toNat)):=by simp [cutR,m173]
theorem m173_cat (a b:List S173):m173 a++m173 b = m173 (a++b):=List.map_append.symm
theorem m173_cons (x:S173) (l:List S173):m173 (x::l) = [.str x.f0,.int .i64 x.f1,.int .i64 x.f2,.int .i64 x.f3]::m173 l:=rfl
theorem m173_0 (l:List S173) (i:Int):gS (m173 l) i 0 = (rd_T173 l i).f0:=by
 unfold gS rd_T173 m173;rw [gC_map,List.getD_eq_getElem?_getD]
 cases l[i.toNat]? <;> rfl
theorem m173_1 (l:List S173) (i:Int):gI (m173 l) i 1 = (rd_T173 l i).f1:=by
 unfold gI rd_T173 m173;rw [gC_map,List.getD_eq_getElem?_getD]
 cases l[i.toNat]? <;> rfl
theorem m173_2 (l:List S173) (i:Int):gI (m173 l) i 2 = (rd_T173 l i).f2:=by
 unfold gI rd_T173 m173;rw [gC_map,List.getD_eq_getElem?_getD]
 cases l[i.toNat]? <;> rfl
theorem m173_3 (l:List S173) (i:Int):gI (m173 l) i 3 = (rd_T173 l i).f3:=by
 unfold gI rd_T173 m173;rw [gC_map,List.getD_eq_getElem?_getD]
 cases l[i.toNat]? <;> rfl
def c122 (x:S122):List CV:=[.str x.f0,.str x.f1]
def m122 (l:List S122):List (List CV):=l.map c122
theorem m122_len (l:List S122):(m122 l).length = l.length:=List.length_map _
theorem m122_nil:m122 [] = []:=rfl
theorem m122_app (a:List S122) (f0:ByteArray) (f1:ByteArray):m122 a++[[.str f0,.str f1]] = m122 (a++[(⟨f0,f1⟩:S122)]):=by simp [m122,c122]
theorem m122_cut (l:List S122) (i j:Int):cutR (m122 l) i j = m122 ((l.drop i.toNat).take (j.toNat - i.toNat)):=by simp [cutR,m122]
theorem m122_cat (a b:List S122):m122 a++m122 b = m122 (a++b):=List.map_append.symm
theorem m122_cons (x:S122) (l:List S122):m122 (x::l) = [.str x.f0,.str x.f1]::m122 l:=rfl
theorem m122_0 (l:List S122) (i:Int):gS (m122 l) i 0 = (rd_T122 l i).f0:=by
 unfold gS rd_T122 m122;rw [gC_map,List.getD_eq_getElem?_getD]
 cases l[i.toNat]? <;> rfl
theorem m122_1 (l:List S122) (i:Int):gS (m122 l) i 1 = (rd_T122 l i).f1:=by
 unfold gS rd_T122 m122;rw [gC_map,List.getD_eq_getElem?_getD]
 cases l[i.toNat]? <;> rfl
def c145 (x:S145):List CV:=[.str x.f0,.int .i64 x.f1,.int .i64 x.f2,.int .i64 x.f3]
def m145 (l:List S145):List (List CV):=l.map c145
theorem m145_len (l:List S145):(m145 l).length = l.length:=List.length_map _
theorem m145_nil:m145 [] = []:=rfl
theorem m145_app (a:List S145) (f0:ByteArray) (f1:Int) (f2:Int) (f3:Int):m145 a++[[.str f0,.int .i64 f1,.int .i64 f2,.int .i64 f3]] = m145 (a++[(⟨f0,f1,f2,f3⟩:S145)]):=by simp [m145,c145]
theorem m145_cut (l:List S145) (i j:Int):cutR (m145 l) i j = m145 ((l.drop i.toNat).take (j.toNat - i.toNat)):=by simp [cutR,m145]
theorem m145_cat (a b:List S145):m145 a++m145 b = m145 (a++b):=List.map_append.symm
theorem m145_cons (x:S145) (l:List S145):m145 (x::l) = [.str x.f0,.int .i64 x.f1,.int .i64 x.f2,.int .i64 x.f3]::m145 l:=rfl
theorem m145_0 (l:List S145) (i:Int):gS (m145 l) i 0 = (rd_T145 l i).f0:=by
 unfold gS rd_T145 m145;rw [gC_map,List.getD_eq_getElem?_getD]
 cases l[i.toNat]? <;> rfl
theorem m145_1 (l:List S145) (i:Int):gI (m145 l) i 1 = (rd_T145 l i).f1:=by
 unfold gI rd_T145 m145;rw [gC_map,List.getD_eq_getElem?_getD]
 cases l[i.toNat]? <;> rfl
theorem m145_2 (l:List S145) (i:Int):gI (m145 l) i 2 = (rd_T145 l i).f2:=by
 unfold gI rd_T145 m145;rw [gC_map,List.getD_eq_getElem?_getD]
 cases l[i.toNat]? <;> rfl
theorem m145_3 (l:List S145) (i:Int):gI (m145 l) i 3 = (rd_T145 l i).f3:=by
 unfold gI rd_T145 m145;rw [gC_map,List.getD_eq_getElem?_getD]
 cases l[i.toNat]? <;> rfl
def c162 (x:S162):List CV:=[.str x.f0,.str x.f1,.bool x.f2]
def m162 (l:List S162):List (List CV):=l.map c162
theorem m162_len (l:List S162):(m162 l).length = l.length:=List.length_map _
theorem m162_nil:m162 [] = []:=rfl
theorem m162_app (a:List S162) (f0:ByteArray) (f1:ByteArray) (f2:Bool):m162 a++[[.str f0,.str f1,.bool f2]] = m162 (a++[(⟨f0,f1,f2⟩:S162)]):=by simp [m162,c162]
theorem m162_cut (l:List S162) (i j:Int):cutR (m162 l) i j = m162 ((l.drop i.toNat).take (j.toNat - i.toNat)):=by simp [cutR,m162]
theorem m162_cat (a b:List S162):m162 a++m162 b = m162 (a++b):=List.map_append.symm
theorem m162_cons (x:S162) (l:List S162):m162 (x::l) = [.str x.f0,.str x.f1,.bool x.f2]::m162 l:=rfl
theorem m162_0 (l:List S162) (i:Int):gS (m162 l) i 0 = (rd_T162 l i).f0:=by
 unfold gS rd_T162 m162;rw [gC_map,List.getD_eq_getElem?_getD]
 cases l[i.toNat]? <;> rfl
theorem m162_1 (l:List S162) (i:Int):gS (m162 l) i 1 = (rd_T162 l i).f1:=by
 unfold gS rd_T162 m162;rw [gC_map,List.getD_eq_getElem?_getD]
 cases l[i.toNat]? <;> rfl
theorem m162_2 (l:List S162) (i:Int):gB (m162 l) i 2 = (rd_T162 l i).f2:=by
 unfold gB rd_T162 m162;rw [gC_map,List.getD_eq_getElem?_getD]
 cases l[i.toNat]? <;> rfl
def c119 (x:S119):List CV:=[.int .i64 x.f0,.str x.f1,.str x.f2,.str x.f3]
def m119 (l:List S119):List (List CV):=l.map c119
theorem m119_len (l:List S119):(m119 l).length = l.length:=List.length_map _
theorem m119_nil:m119 [] = []:=rfl
theorem m119_app (a:List S119) (f0:Int) (f1:ByteArray) (f2:ByteArray) (f3:ByteArray):m119 a++[[.int .i64 f0,.str f1,.str f2,.str f3]] = m119 (a++[(⟨f0,f1,f2,f3⟩:S119)]):=by simp [m119,c119]
theorem m119_cut (l:List S119) (i j:Int):cutR (m119 l) i j = m119 ((l.drop i.toNat).take (j.toNat - i.toNat)):=by simp [cutR,m119]
theorem m119_cat (a b:List S119):m119 a++m119 b = m119 (a++b):=List.map_append.symm
theorem m119_cons (x:S119) (l:List S119):m119 (x::l) = [.int .i64 x.f0,.str x.f1,.str x.f2,.str x.f3]::m119 l:=rfl
theorem m119_0 (l:List S119) (i:Int):gI (m119 l) i 0 = (rd_T119 l i).f0:=by
 unfold gI rd_T119 m119;rw [gC_map,List.getD_eq_getElem?_getD]
 cases l[i.toNat]? <;> rfl
theorem m119_1 (l:List S119) (i:Int):gS (m119 l) i 1 = (rd_T119 l i).f1:=by
 unfold gS rd_T119 m119;rw [gC_map,List.getD_eq_getElem?_getD]
 cases l[i.toNat]? <;> rfl
theorem m119_2 (l:List S119) (i:Int):gS (m119 l) i 2 = (rd_T119 l i).f2:=by
 unfold gS rd_T119 m119;rw [gC_map,List.getD_eq_getElem?_getD]
 cases l[i.toNat]? <;> rfl
theorem m119_3 (l:List S119) (i:Int):gS (m119 l) i 3 = (rd_T119 l i).f3:=by
 unfold gS rd_T119 m119;rw [gC_map,List.getD_eq_getElem?_getD]
 cases l[i.toNat]? <;> rfl
def c59 (x:S59):List CV:=[.int .i64 x.f0,.sl [.str,.str,.bool] (m162 x.f1)]
def m59 (l:List S59):List (List CV):=l.map c59
theorem m59_len (l:List S59):(m59 l).length = l.length:=List.length_map _
theorem m59_nil:m59 [] = []:=rfl
theorem m59_app (a:List S59) (f0:Int) (f1:List S162):m59 a++[[.int .i64 f0,.sl [.str,.str,.bool] (m162 f1)]] = m59 (a++[(⟨f0,f1⟩:S59)]):=by simp [m59,c59]
theorem m59_cut (l:List S59) (i j:Int):cutR (m59 l) i j = m59 ((l.drop i.toNat).take (j.toNat - i.toNat)):=by simp [cutR,m59]
theorem m59_cat (a b:List S59):m59 a++m59 b = m59 (a++b):=List.map_append.symm
theorem m59_cons (x:S59) (l:List S59):m59 (x::l) = [.int .i64 x.f0,.sl [.str,.str,.bool] (m162 x.f1)]::m59 l:=rfl
theorem m59_0 (l:List S59) (i:Int):gI (m59 l) i 0 = (rd_T59 l i).f0:=by
 unfold gI rd_T59 m59;rw [gC_map,List.getD_eq_getElem?_getD]
 cases l[i.toNat]? <;> rfl
theorem m59_1 (l:List S59) (i:Int):gR (m59 l) i 1 = m162 (rd_T59 l i).f1:=by
 unfold gR rd_T59 m59;rw [gC_map,List.getD_eq_getElem?_getD]
 cases l[i.toNat]? <;> rfl
def c113 (x:S113):List CV:=[.int .i64 x.f0.f0,.sl [.str,.str,.bool] (m162 x.f0.f1),.str x.f1,.int .i64 x.f2]
def m113 (l:List S113):List (List CV):=l.map c113
theorem m113_len (l:List S113):(m113 l).length = l.length:=List.length_map _
theorem m113_nil:m113 [] = []:=rfl
theorem m113_app (a:List S113) (f0_f0:Int) (f0_f1:List S162) (f1:ByteArray) (f2:Int):m113 a++[[.int .i64 f0_f0,.sl [.str,.str,.bool] (m162 f0_f1),.str f1,.int .i64 f2]] = m113 (a++[(⟨⟨f0_f0,f0_f1⟩,f1,f2⟩:S113)]):=by simp [m113,c113]
theorem m113_cut (l:List S113) (i j:Int):cutR (m113 l) i j = m113 ((l.drop i.toNat).take (j.toNat - i.toNat)):=by simp [cutR,m113]
theorem m113_cat (a b:List S113):m113 a++m113 b = m113 (a++b):=List.map_append.symm
theorem m113_cons (x:S113) (l:List S113):m113 (x::l) = [.int .i64 x.f0.f0,.sl [.str,.str,.bool] (m162 x.f0.f1),.str x.f1,.int .i64 x.f2]::m113 l:=rfl
theorem m113_0 (l:List S113) (i:Int):gI (m113 l) i 0 = (rd_T113 l i).f0.f0:=by
 unfold gI rd_T113 m113;rw [gC_map,List.getD_eq_getElem?_getD]
 cases l[i.toNat]? <;> rfl
theorem m113_1 (l:List S113) (i:Int):gR (m113 l) i 1 = m162 (rd_T113 l i).f0.f1:=by
 unfold gR rd_T113 m113;rw [gC_map,List.getD_eq_getElem?_getD]
 cases l[i.toNat]? <;> rfl
theorem m113_2 (l:List S113) (i:Int):gS (m113 l) i 2 = (rd_T113 l i).f1:=by
 unfold gS rd_T113 m113;rw [gC_map,List.getD_eq_getElem?_getD]
 cases l[i.toNat]? <;> rfl
theorem m113_3 (l:List S113) (i:Int):gI (m113 l) i 3 = (rd_T113 l i).f2:=by
 unfold gI rd_T113 m113;rw [gC_map,List.getD_eq_getElem?_getD]
 cases l[i.toNat]? <;> rfl
@[reducible] def E0:En:=⟨nI,nS,m171,m173,m122,m145,m162,m119,m59,m113⟩
theorem m122_s (l:List S122) (i:Int) (v0:ByteArray) (v1:ByteArray):setR (m122 l) i 0 [.str v0,.str v1] = m122 (l.set i.toNat (⟨v0,v1⟩:S122)):=setR_map c122 l i 0 _ _ z122 rfl
theorem m122_s0 (l:List S122) (i:Int) (v0:ByteArray):setR (m122 l) i 0 [.str v0] = m122 (l.set i.toNat (⟨v0,(rd_T122 l i).f1⟩:S122)):=setR_map c122 l i 0 _ _ z122 rfl
theorem m122_s1 (l:List S122) (i:Int) (v1:ByteArray):setR (m122 l) i 1 [.str v1] = m122 (l.set i.toNat (⟨(rd_T122 l i).f0,v1⟩:S122)):=setR_map c122 l i 1 _ _ z122 rfl
theorem m145_s (l:List S145) (i:Int) (v0:ByteArray) (v1:Int) (v2:Int) (v3:Int):setR (m145 l) i 0 [.str v0,.int .i64 v1,.int .i64 v2,.int .i64 v3] = m145 (l.set i.toNat (⟨v0,v1,v2,v3⟩:S145)):=setR_map c145 l i 0 _ _ z145 rfl
theorem m145_s0 (l:List S145) (i:Int) (v0:ByteArray):setR (m145 l) i 0 [.str v0] = m145 (l.set i.toNat (⟨v0,(rd_T145 l i).f1,(rd_T145 l i).f2,(rd_T145 l i).f3⟩:S145)):=setR_map c145 l i 0 _ _ z145 rfl
theorem m145_s1 (l:List S145) (i:Int) (v1:Int):setR (m145 l) i 1 [.int .i64 v1] = m145 (l.set i.toNat (⟨(rd_T145 l i).f0,v1,(rd_T145 l i).f2,(rd_T145 l i).f3⟩:S145)):=setR_map c145 l i 1 _ _ z145 rfl
theorem m145_s2 (l:List S145) (i:Int) (v2:Int):setR (m145 l) i 2 [.int .i64 v2] = m145 (l.set i.toNat (⟨(rd_T145 l i).f0,(rd_T145 l i).f1,v2,(rd_T145 l i).f3⟩:S145)):=setR_map c145 l i 2 _ _ z145 rfl
theorem m145_s3 (l:List S145) (i:Int) (v3:Int):setR (m145 l) i 3 [.int .i64 v3] = m145 (l.set i.toNat (⟨(rd_T145 l i).f0,(rd_T145 l i).f1,(rd_T145 l i).f2,v3⟩:S145)):=setR_map c145 l i 3 _ _ z145 rfl
theorem m122_mk (n:Int):mkR n [.str,.str] = m122 (List.replicate n.toNat z122):=by simp [mkR,m122,zeroC,c122,z122,z171,z173,z145,z162,z119,z59,z113]
theorem m145_mk (n:Int):mkR n [.str,.int .i64,.int .i64,.int .i64] = m145 (List.replicate n.toNat z145):=by simp [mkR,m145,zeroC,c145,z145,z171,z173,z122,z162,z119,z59,z113]
def pow10V:Array Value:=(Lib.pow10Tab.map fun z => Value.int .u64 z).toArray
def TBX : TBs := ⟨fun w G => TabG Tryz.prog w G "internal/strconv.uint64pow10" pow10V ∧ ∃ ev, TabG Tryz.prog w G "strconv.ErrSyntax" #[ev] ∧ (ev = .nilIface ∨ ∃ te pe, ev = .iface te pe),
 fun he h => ⟨h.1.ext he,h.2.imp fun _ h2 => ⟨h2.1.ext he,h2.2⟩⟩⟩
def tab:Tr:=.node none (.node none (.node (some ⟨.int .i64,1,8,[.int .i64]⟩) (.node none (.node none (.nil) (.node (some ⟨.slice 119,1,24,[.sl [.int .i64,.str,.str,.str]]⟩) (.nil) (.nil))) (.node none (.node (some ⟨.struct [(0,25),(1,3),(2,3),(3,3),(4,25)],5,72,[.sl [.int .i64],.int .i64,.int .i64,.int .i64,.sl [.int .i64]]⟩) (.nil) (.nil)) (.node (some ⟨.slice 5,1,24,[.sl [.int .u8]]⟩) (.nil) (.node (some ⟨.struct [(0,3),(1,9),(2,9),(3,9)],4,56,[.int .i64,.str,.str,.str]⟩) (.nil) (.nil))))) (.node none (.node none (.node (some ⟨.slice 122,1,24,[.sl [.str,.str]]⟩) (.nil) (.nil)) (.node none (.nil) (.node none (.node (some ⟨.struct [(0,9),(1,3),(2,4)],3,32,[.str,.int .i64,.bool]⟩) (.nil) (.nil)) (.nil)))) (.node (some ⟨.struct [(0,25),(1,3),(2,3),(3,3),(4,25)],5,72,[.sl [.int .i64],.int .i64,.int .i64,.int .i64,.sl [.int .i64]]⟩) (.node none (.nil) (.node none (.node (some ⟨.struct [(0,9),(1,9)],2,32,[.str,.str]⟩) (.nil) (.nil)) (.nil))) (.node (some ⟨.struct [(0,3),(1,57)],2,32,[.int .i64,.sl [.str,.str,.bool]]⟩) (.nil) (.nil))))) (.node (some ⟨.int .u8,1,1,[.int .u8]⟩) (.node (some ⟨.str,1,16,[.str]⟩) (.node none (.node none (.nil) (.node (some ⟨.slice 9,1,24,[.sl [.str]]⟩) (.nil) (.nil))) (.node none (.node none (.node (some ⟨.struct [(0,9),(1,3),(2,3),(3,3)],4,40,[.str,.int .i64,.int .i64,.int .i64]⟩) (.nil) (.nil)) (.nil)) (.node (some ⟨.struct [(0,59),(2,9),(3,3)],4,56,[.int .i64,.sl [.str,.str,.bool],.str,.int .i64]⟩) (.node (some ⟨.ptr 179,1,8,[]⟩) (.nil) (.nil)) (.nil)))) (.node (some ⟨.slice 3,1,24,[.sl [.int .i64]]⟩) (.nil) (.node (some ⟨.slice 162,1,24,[.sl [.str,.str,.bool]]⟩) (.nil) (.nil)))) (.node none (.node none (.node (some ⟨.struct [(0,35)],1,24,[.sl [.str,.str]]⟩) (.nil) (.nil)) (.nil)) (.node none (.node none (.nil) (.node (some ⟨.slice 113,1,24,[.sl [.int .i64,.sl [.str,.str,.bool],.str,.int .i64]]⟩) (.node (some ⟨.struct [(0,9),(1,3),(2,3),(3,3)],4,40,[.str,.int .i64,.int .i64,.int .i64]⟩) (.nil) (.nil)) (.nil))) (.node none (.node none (.nil) (.node (some ⟨.int .u64,1,8,[.int .u64]⟩) (.nil) (.nil))) (.nil)))))) (.node none (.node (some ⟨.bool,1,1,[.bool]⟩) (.node none (.nil) (.node (some ⟨.struct [(0,22)],1,24,[.sl [.str,.str]]⟩) (.node (some ⟨.slice 145,1,24,[.sl [.str,.int .i64,.int .i64,.int .i64]]⟩) (.nil) (.nil)) (.node none (.nil) (.node none (.node (some ⟨.int .u32,1,4,[.int .u32]⟩) (.nil) (.nil)) (.nil))))) (.node none (.node none (.node none (.node none (.nil) (.node (some ⟨.struct [(0,9),(1,3),(2,4)],3,32,[.str,.int .i64,.bool]⟩) (.nil) (.nil))) (.nil)) (.nil)) (.node (some ⟨.slice 173,1,24,[.sl [.str,.int .i64,.int .i64,.int .i64]]⟩) (.nil) (.nil)))) (.node none (.node none (.node none (.node none (.node none (.nil) (.node (some ⟨.ptr 196,1,8,[]⟩) (.nil) (.nil))) (.node none (.node (some ⟨.struct [(0,9),(1,9),(2,4)],3,40,[.str,.str,.bool]⟩) (.nil) (.nil)) (.nil))) (.nil)) (.node none (.node (some ⟨.struct [(0,39),(5,40),(6,3)],7,104,[.sl [.int .i64],.int .i64,.int .i64,.int .i64,.sl [.int .i64],.sl [.str,.int .i64,.int .i64,.int .i64],.int .i64]⟩) (.nil) (.nil)) (.node none (.nil) (.node (some ⟨.struct [(0,9),(1,9)],2,32,[.str,.str]⟩) (.nil) (.nil))))) (.node none (.node (some ⟨.slice 171,1,24,[.sl [.str,.str]]⟩) (.nil) (.nil)) (.node (some ⟨.struct [(0,27),(5,28),(6,3)],7,104,[.sl [.int .i64],.int .i64,.int .i64,.int .i64,.sl [.int .i64],.sl [.str,.int .i64,.int .i64,.int .i64],.int .i64]⟩) (.nil) (.nil)))))
theorem tabOk:TabOk Tryz.prog tab:=TabOk.of (by kernel_rfl)
def tabM:Tr:=.md [156,157,159,164,167,169,170,201,204] tab
theorem tabOkM:TabOk Tryz.prog tabM:=fun t ti h => tabOk t ti h
theorem g_rd (k:IntKind) (l:List Int) (i:Int):gI (nI k l) i 0 = rd l i:=gI_nI k l i
theorem b_bt (s:ByteArray) (i:Int):byteAt s i = bt s i:=by
 unfold byteAt bt
 by_cases h:i.toNat < s.size
 ·rw [dif_pos h,Array.getElem?_eq_getElem h];rfl
 ·rw [dif_neg h,Array.getElem?_eq_none (Nat.le_of_not_lt h)];rfl
theorem g_rds (l:List ByteArray) (i:Int):gS (nS l) i 0 = rdOf ByteArray.empty l i:=gS_nS l i
theorem i_shl (k:IntKind) (a b:Int):int2 .shl k a b = shl k a b:=rfl
theorem b_of (z:ByteArray):bytesR z = nI .u8 (bytesOf z):=by simp [bytesR,nI,bytesOf]
theorem b_neq_t (a b:Bool):(cmpB .neq a b = true) = (a≠b):=by cases a <;> cases b <;> simp [cmpB]
theorem b_neq_f (a b:Bool):(cmpB .neq a b = false) = (a = b):=by cases a <;> cases b <;> simp [cmpB]
theorem b_eql_t (a b:Bool):(cmpB .eql a b = true) = (a = b):=by cases a <;> cases b <;> simp [cmpB]
theorem b_eql_f (a b:Bool):(cmpB .eql a b = false) = (a≠b):=by cases a <;> cases b <;> simp [cmpB]
theorem b_eql (a b:Bool):cmpB .eql a b = (a == b):=rfl
theorem b_neq (a b:Bool):cmpB .neq a b = (a != b):=rfl
theorem f_max (a b:Int):maxI a b = mx a b:=rfl
theorem f_min (a b:Int):minI a b = mn a b:=rfl
theorem sh_u32_8 (a:Int):int2 .shr .u32 a 8 = a / 256:=by rw [i_shr];rfl
theorem sh_u32_16 (a:Int):int2 .shr .u32 a 16 = a / 65536:=by rw [i_shr];rfl
theorem sh_u32_24 (a:Int):int2 .shr .u32 a 24 = a / 16777216:=by rw [i_shr];rfl
theorem sh_u64_1 (a:Int):int2 .shr .u64 a 1 = a / 2:=by rw [i_shr];rfl
theorem vs:(type_of% @mkR_nI)∧(type_of% @setR_nI)∧(type_of% @setR_nS)∧(type_of% @i_shl)∧(type_of% @f_len)∧(type_of% @f_cat)∧(type_of% @f_not)∧(type_of% @f_and)∧(type_of% @f_neg2)∧(type_of% @f_wrap)∧(type_of% @f_slen)∧(type_of% @f_sub)∧(type_of% @f_app)∧(type_of% @w64)∧(type_of% @w8)∧(type_of% @w32)∧(type_of% @wu64)∧(type_of% @i_add)∧(type_of% @i_sub)∧(type_of% @i_mul)∧(type_of% @i_quo)∧(type_of% @i_rem)∧(type_of% @i_and)∧(type_of% @i_or)∧(type_of% @i_xor)∧(type_of% @nI_len)∧(type_of% @nS_len)∧(type_of% @nI_fold)∧(type_of% @nS_fold)∧(type_of% @lit1)∧(type_of% @consI)∧(type_of% @litS)∧(type_of% @consS)∧(type_of% @tn0)∧(type_of% @sz_mk)∧(type_of% @nI_nil)∧(type_of% @nS_nil)∧(type_of% @tl_mk)∧(type_of% @cutR_nI)∧(type_of% @cutR_nS)∧(type_of% @strOf_nI)∧(type_of% @g_rd)∧(type_of% @g_rds)∧(type_of% @b_bt)∧(type_of% @b_of)∧(type_of% @rows_cons)∧(type_of% @rows_nil)∧(type_of% @rows_app0)∧(type_of% @q_n)∧(type_of% @r_n)∧(type_of% @tn_n)∧(type_of% @m171_len)∧(type_of% @m171_nil)∧(type_of% @m171_app)∧(type_of% @m171_cut)∧(type_of% @m171_cat)∧(type_of% @m171_cons)∧(type_of% @m171_0)∧(type_of% @m171_1)∧(type_of% @m173_len)∧(type_of% @m173_nil)∧(type_of% @m173_app)∧(type_of% @m173_cut)∧(type_of% @m173_cat)∧(type_of% @m173_cons)∧(type_of% @m173_0)∧(type_of% @m173_1)∧(type_of% @m173_2)∧(type_of% @m173_3)∧(type_of% @m122_len)∧(type_of% @m122_nil)∧(type_of% @m122_app)∧(type_of% @m122_cut)∧(type_of% @m122_cat)∧(type_of% @m122_cons)∧(type_of% @m122_0)∧(type_of% @m122_1)∧(type_of% @m145_len)∧(type_of% @m145_nil)∧(type_of% @m145_app)∧(type_of% @m145_cut)∧(type_of% @m145_cat)∧(type_of% @m145_cons)∧(type_of% @m145_0)∧(type_of% @m145_1)∧(type_of% @m145_2)∧(type_of% @m145_3)∧(type_of% @m162_len)∧(type_of% @m162_nil)∧(type_of% @m162_app)∧(type_of% @m162_cut)∧(type_of% @m162_cat)∧(type_of% @m162_cons)∧(type_of% @m162_0)∧(type_of% @m162_1)∧(type_of% @m162_2)∧(type_of% @m119_len)∧(type_of% @m119_nil)∧(type_of% @m119_app)∧(type_of% @m119_cut)∧(type_of% @m119_cat)∧(type_of% @m119_cons)∧(type_of% @m119_0)∧(type_of% @m119_1)∧(type_of% @m119_2)∧(type_of% @m119_3)∧(type_of% @m59_len)∧(type_of% @m59_nil)∧(type_of% @m59_app)∧(type_of% @m59_cut)∧(type_of% @m59_cat)∧(type_of% @m59_cons)∧(type_of% @m59_0)∧(type_of% @m59_1)∧(type_of% @m113_len)∧(type_of% @m113_nil)∧(type_of% @m113_app)∧(type_of% @m113_cut)∧(type_of% @m113_cat)∧(type_of% @m113_cons)∧(type_of% @m113_0)∧(type_of% @m113_1)∧(type_of% @m113_2)∧(type_of% @m113_3)∧(type_of% @m122_s)∧(type_of% @m122_s0)∧(type_of% @m122_s1)∧(type_of% @m145_s)∧(type_of% @m145_s0)∧(type_of% @m145_s1)∧(type_of% @m145_s2)∧(type_of% @m145_s3)∧(type_of% @m122_mk)∧(type_of% @m145_mk)∧(type_of% @f_max)∧(type_of% @f_min)∧(type_of% @sh_u32_8)∧(type_of% @sh_u32_16)∧(type_of% @sh_u32_24)∧(type_of% @sh_u64_1):=⟨@mkR_nI,@setR_nI,@setR_nS,@i_shl,@f_len,@f_cat,@f_not,@f_and,@f_neg2,@f_wrap,@f_slen,@f_sub,@f_app,@w64,@w8,@w32,@wu64,@i_add,@i_sub,@i_mul,@i_quo,@i_rem,@i_and,@i_or,@i_xor,@nI_len,@nS_len,@nI_fold,@nS_fold,@lit1,@consI,@litS,@consS,@tn0,@sz_mk,@nI_nil,@nS_nil,@tl_mk,@cutR_nI,@cutR_nS,@strOf_nI,@g_rd,@g_rds,@b_bt,@b_of,@rows_cons,@rows_nil,@rows_app0,@q_n,@r_n,@tn_n,@m171_len,@m171_nil,@m171_app,@m171_cut,@m171_cat,@m171_cons,@m171_0,@m171_1,@m173_len,@m173_nil,@m173_app,@m173_cut,@m173_cat,@m173_cons,@m173_0,@m173_1,@m173_2,@m173_3,@m122_len,@m122_nil,@m122_app,@m122_cut,@m122_cat,@m122_cons,@m122_0,@m122_1,@m145_len,@m145_nil,@m145_app,@m145_cut,@m145_cat,@m145_cons,@m145_0,@m145_1,@m145_2,@m145_3,@m162_len,@m162_nil,@m162_app,@m162_cut,@m162_cat,@m162_cons,@m162_0,@m162_1,@m162_2,@m119_len,@m119_nil,@m119_app,@m119_cut,@m119_cat,@m119_cons,@m119_0,@m119_1,@m119_2,@m119_3,@m59_len,@m59_nil,@m59_app,@m59_cut,@m59_cat,@m59_cons,@m59_0,@m59_1,@m113_len,@m113_nil,@m113_app,@m113_cut,@m113_cat,@m113_cons,@m113_0,@m113_1,@m113_2,@m113_3,@m122_s,@m122_s0,@m122_s1,@m145_s,@m145_s0,@m145_s1,@m145_s2,@m145_s3,@m122_mk,@m145_mk,@f_max,@f_min,@sh_u32_8,@sh_u32_16,@sh_u32_24,@sh_u64_1⟩
theorem hs:(type_of% @c_eql_t)∧(type_of% @c_eql_f)∧(type_of% @c_neq_t)∧(type_of% @c_neq_f)∧(type_of% @c_lss_t)∧(type_of% @c_lss_f)∧(type_of% @c_leq_t)∧(type_of% @c_leq_f)∧(type_of% @c_gtr_t)∧(type_of% @c_gtr_f)∧(type_of% @c_geq_t)∧(type_of% @c_geq_f)∧(type_of% @s_eql_t)∧(type_of% @s_eql_f)∧(type_of% @s_neq_t)∧(type_of% @s_neq_f)∧(type_of% @s_lss)∧(type_of% @s_lss_f)∧(type_of% @s_gtr)∧(type_of% @s_gtr_f)∧(type_of% @s_geq_t)∧(type_of% @s_geq_f)∧(type_of% @n_t)∧(type_of% @n_f)∧(type_of% @b_f)∧(type_of% @not_t)∧(type_of% @nn_t)∧(type_of% @b_neq_t)∧(type_of% @b_neq_f)∧(type_of% @b_eql_t)∧(type_of% @b_eql_f):=⟨@c_eql_t,@c_eql_f,@c_neq_t,@c_neq_f,@c_lss_t,@c_lss_f,@c_leq_t,@c_leq_f,@c_gtr_t,@c_gtr_f,@c_geq_t,@c_geq_f,@s_eql_t,@s_eql_f,@s_neq_t,@s_neq_f,@s_lss,@s_lss_f,@s_gtr,@s_gtr_f,@s_geq_t,@s_geq_f,@n_t,@n_f,@b_f,@not_t,@nn_t,@b_neq_t,@b_neq_f,@b_eql_t,@b_eql_f⟩
theorem cs:(type_of% @c_eql)∧(type_of% @c_neq)∧(type_of% @c_lss)∧(type_of% @c_leq)∧(type_of% @c_gtr)∧(type_of% @c_geq)∧(type_of% @s_eql)∧(type_of% @s_neq)∧(type_of% @s_lss)∧(type_of% @s_leq)∧(type_of% @s_gtr)∧(type_of% @s_geq)∧(type_of% @b_eql)∧(type_of% @b_neq):=⟨@c_eql,@c_neq,@c_lss,@c_leq,@c_gtr,@c_geq,@s_eql,@s_neq,@s_lss,@s_leq,@s_gtr,@s_geq,@b_eql,@b_neq⟩
theorem f_ {p:Prop} (h:p:=by (try (conv => lhs;cbv));first | done | (with_reducible rfl) | (simp only [hF,hE];done) | (simp only [hF,hE];simp only [vs];done) | (simp only [hF,hE];simp only [vs,List.cons_append,List.nil_append];done) | (simp only [hF,hE];simp only [vs,cs];done) | (simp only [hF,hE];with_reducible rfl) | (simp only [hF,hE];simp only [vs];with_reducible rfl) | (simp only [hF,hE];simp only [vs];rfl)):p:=h
theorem o_ {p:Prop} (h:p:=by (try simp only [hF,hE]);(try simp only [vs,List.length_cons,List.length_nil,List.length_append]);first | done | omega | exact hc | assumption):p:=h
theorem i_ {c A B:Prop} (hb:c) (H:A) (h:A→B:=by intro H;first | (simp only [not_t,b_f] at H;first | (rewrite [if_pos hb] at H;exact H) | (rewrite [if_neg hb] at H;exact H) | (rewrite [if_nn hb] at H;exact H)) | (simp only [←Bool.not_and,f_and,f_not,Bool.and_true,cs] at H hb;first | (rewrite [if_pos hb] at H;exact H) | (rewrite [if_neg hb] at H;exact H) | (simp only [Bool.not_eq_true,Bool.not_eq_true'] at H hb;first | (rewrite [if_pos hb] at H;exact H) | (rewrite [if_neg hb] at H;exact H) | (simp only [hb,Bool.false_eq_true,Bool.true_eq_false,if_true,if_false] at H;exact H)))):B:=h H
theorem s_ {A B:Prop} (H:A) (h:A→B:=by intro H;first | (simp only [List.nil_append,bne_iff_ne,beq_iff_eq,decide_eq_true_eq,Bool.false_eq_true,if_false,if_true] at H;exact H) | (rewrite [Option.bind_some] at H;exact H)):B:=h H
theorem w_ {P:Program} {T:TBs} {F:Hd} {K G:Prop} (hF:F = F0 P T) (k:K) (h:K→G:=by intro k;first | ((with_reducible refine idx_ hF ?_ k);exact o_) | ((with_reducible refine cut_ hF ?_ k);exact o_) | ((with_reducible refine room_ hF ?_ k);exact o_) | ((with_reducible refine roomM_ hF ?_ k);exact o_) | ((with_reducible refine cat_ hF ?_ k);exact o_) | ((with_reducible refine nz_ hF ?_ k);exact o_) | ((with_reducible refine nn_ hF ?_ k);exact o_) | (with_reducible exact eqn_ hF rfl k) | (with_reducible exact isI_ hF (by kernel_rfl) k) | (with_reducible exact cmpT_ hF (by kernel_rfl) (by kernel_rfl) (by kernel_rfl) (by cbv) (by cbv) k) | (with_reducible exact drawn_ hF (by kernel_rfl) (by kernel_rfl) k)):G:=h k
theorem br2 {P:Program} {T:TBs} {F:Hd} {b:Bool} {p q A B C c d:Prop} (hF:F = F0 P T) (H:A) (h1:c→B→p) (h2:d→C→q) (k1:b = true→c:=by intro hb;(try simp only [hF,hE] at hb);first | ((try simp only [hs,vs] at hb);exact hb) | (show False;simp only [hs,vs] at hb)) (k2:b = false→d:=by intro hb;(try simp only [hF,hE] at hb);first | ((try simp only [hs,vs] at hb);exact hb) | (show False;simp only [hs,vs] at hb)) (t1:c→A→B:=by intro hb H;first | exact (False.elim hb:False) | (rewrite [if_pos hb] at H;exact H) | (rewrite [if_neg hb] at H;exact H) | (rewrite [if_nn hb] at H;exact H) | exact i_ hb H | (simp only [hb,not_t,b_f,not_true_eq_false,not_false_eq_true,Bool.not_true,Bool.not_false,Bool.false_eq_true,if_true,if_false] at H;exact H) | (show False;simp only [hb,not_t,b_f,not_true_eq_false,not_false_eq_true,Bool.not_true,Bool.not_false,Bool.false_eq_true,if_true,if_false] at H) | exact H) (t2:d→A→C:=by intro hb H;first | exact (False.elim hb:False) | (rewrite [if_pos hb] at H;exact H) | (rewrite [if_neg hb] at H;exact H) | (rewrite [if_nn hb] at H;exact H) | exact i_ hb H | (simp only [hb,not_t,b_f,not_true_eq_false,not_false_eq_true,Bool.not_true,Bool.not_false,Bool.false_eq_true,if_true,if_false] at H;exact H) | (show False;simp only [hb,not_t,b_f,not_true_eq_false,not_false_eq_true,Bool.not_true,Bool.not_false,Bool.false_eq_true,if_true,if_false] at H) | exact H):F.branch b p q:=br_ hF (fun h => h1 (k1 h) (t1 (k1 h) H)) (fun h => h2 (k2 h) (t2 (k2 h) H))
theorem ca_ {P:Program} {T:TBs} {F:Hd} {f:FuncId} {ar ar' io io' K} {r news outs} (hF:F = F0 P T) (hc:Con P T f ar' io' r news outs) (hk:K r news outs) (ha:ar = ar':=by exact f_) (hio:io = io':=by exact f_):F.call f ar io K:=call_ hF hc ha hio hk
def Into (hp:Hp) (I:Nat→St→Prop) (s:St):Prop:=∃ n t,Weak s t∧I n t
theorem into_ {hp:Hp} {I:Nat→St→Prop} {s:St} {n N:Nat} {L O} (a:I n (At N L O)) (b:hp.ok N (hp.pre s) = true) (c:hp.L (hp.pre s) = L) (d:hp.O (hp.pre s) = O):Into hp I s:=let ⟨t,h⟩:=head_ hp a b c d;⟨n,t,h⟩
theorem lo_ {P:Program} {T:TBs} {F:Hd} {step s Q} (hF:F = F0 P T) (I:Nat→St→Prop) (hp:Hp) (hr:∀ n t,I n t→∀ Q':Ex→St→Prop,(∀ s',Into hp (fun m u => m < n∧I m u) s'→Q' .normal s')→(∀ e s',e≠.normal→Q e s'→Q' e s')→step t Q') (h0:Into hp I s:=by apply into_;(case a => ((repeat' first | exact ⟨rfl,H⟩ | apply Exists.intro | apply And.intro);all_goals omega));(case b => cbv);(case c => exact f_);(case d => exact f_)):F.loop step s Q:=let ⟨n,t,hw,hI⟩:=h0;loop_ hF I n ⟨t,hw,hI⟩ (fun n t ht Q' h1 h2 => hr n t ht Q' (fun s' ⟨m,u,hw,hm,hI⟩ => h1 s' ⟨m,hm,u,hw,hI⟩) h2)
theorem nx_ {hp I s'} {Q':Ex→St→Prop} (h:∀ s',Into hp I s'→Q' .normal s') (k:Into hp I s':=by apply into_;(case a => ((repeat' first | exact ⟨rfl,H⟩ | apply Exists.intro | apply And.intro);all_goals omega));(case b => cbv);(case c => exact f_);(case d => exact f_)):Q' .normal s':=h s' k
theorem xt_ {e s'} {Q Q':Ex→St→Prop} (h:∀ e s',e≠.normal→Q e s'→Q' e s') (k:Q e s') (ne:e≠.normal:=by first | exact ne_ret | exact ne_exit _):Q' e s':=h e s' ne k
theorem co_ {P:Program} {T:TBs} {tab f fn c args ins r news outs} (hf:P.funcs[f]? = some fn) (hT:TabOk P tab) (ids:List Nat)
  (h : ∀ F : Hd, F = F0 P T → ∀ Q : Ex → St → Prop, (∀ e s t, (e = .ret ∨ e = .normal) → Weak s t → fin tab fn.results.toList ids ins.length t = some (r, news, outs) → Q e s) → evC F tab c (start fn.ntmps args ins) Q) (hb : fn.body = some c := by exact rfl) (hn : (fn.name == "runtime.NumGoroutine") = false := by kernel_rfl) (hl : ins.length ≤ 8 := by exact Nat.le_of_ble_eq_true rfl) : Con P T f args ins r news outs := con_of hf hb hn hT ids hl (fun F hF Q hQ hQn => h F hF Q (fun _ s t he => by rcases he with rfl | rfl <;> first | exact hQ s t | exact hQn s t))
theorem en_ {s:St} {tab rs ids io X} {e:Ex} {Q:Ex→St→Prop} (h:Hp) (n:Nat) (hq:∀ e s t,(e = .ret∨e = .normal)→Weak s t→fin tab rs ids io t = some X→Q e s) (he:e = .ret∨e = .normal:=by first | exact .inl rfl | exact .inr rfl) (hok:h.ok n (h.pre s) = true:=by cbv) (hf:fin tab rs ids io (At n (h.L (h.pre s)) (h.O (h.pre s))) = some X:=by (with_reducible have hS:=Option.some.inj H);clear hS;cases H;exact f_):Q e s:=end_ h n (fun s t => hq e s t he) hok hf
abbrev Cn:=Con Tryz.prog TBX
theorem k1_ {F:Hd} (f:FuncId) {α β:Type} {ar io K} {x:Option α} {g:α→Option β} {r:β} (H:x.bind g = some r) (h:∀ a,x = some a→g a = some r→F.call f ar io K):F.call f ar io K:=let ⟨y,h1,h2⟩:=bind_ H;h y h1 h2
theorem k2_ {F:Hd} (f:FuncId) {α0 α1 β:Type} {ar io K} {x:Option (α0×α1)} {g:α0×α1→Option β} {r:β} (H:x.bind g = some r) (h:∀ a0 a1,x = some (a0,a1)→g (a0,a1) = some r→F.call f ar io K):F.call f ar io K:=let ⟨_,h1,h2⟩:=bind_ H;h _ _ h1 h2
theorem k3_ {F:Hd} (f:FuncId) {α0 α1 α2 β:Type} {ar io K} {x:Option (α0×α1×α2)} {g:α0×α1×α2→Option β} {r:β} (H:x.bind g = some r) (h:∀ a0 a1 a2,x = some (a0,a1,a2)→g (a0,a1,a2) = some r→F.call f ar io K):F.call f ar io K:=let ⟨_,h1,h2⟩:=bind_ H;h _ _ _ h1 h2
theorem k4_ {F:Hd} (f:FuncId) {α0 α1 α2 α3 β:Type} {ar io K} {x:Option (α0×α1×α2×α3)} {g:α0×α1×α2×α3→Option β} {r:β} (H:x.bind g = some r) (h:∀ a0 a1 a2 a3,x = some (a0,a1,a2,a3)→g (a0,a1,a2,a3) = some r→F.call f ar io K):F.call f ar io K:=let ⟨_,h1,h2⟩:=bind_ H;h _ _ _ _ h1 h2
theorem k5_ {F:Hd} (f:FuncId) {α0 α1 α2 α3 α4 β:Type} {ar io K} {x:Option (α0×α1×α2×α3×α4)} {g:α0×α1×α2×α3×α4→Option β} {r:β} (H:x.bind g = some r) (h:∀ a0 a1 a2 a3 a4,x = some (a0,a1,a2,a3,a4)→g (a0,a1,a2,a3,a4) = some r→F.call f ar io K):F.call f ar io K:=let ⟨_,h1,h2⟩:=bind_ H;h _ _ _ _ _ h1 h2
theorem k6_ {F:Hd} (f:FuncId) {α0 α1 α2 α3 α4 α5 β:Type} {ar io K} {x:Option (α0×α1×α2×α3×α4×α5)} {g:α0×α1×α2×α3×α4×α5→Option β} {r:β} (H:x.bind g = some r) (h:∀ a0 a1 a2 a3 a4 a5,x = some (a0,a1,a2,a3,a4,a5)→g (a0,a1,a2,a3,a4,a5) = some r→F.call f ar io K):F.call f ar io K:=let ⟨_,h1,h2⟩:=bind_ H;h _ _ _ _ _ _ h1 h2
theorem k7_ {F:Hd} (f:FuncId) {α0 α1 α2 α3 α4 α5 α6 β:Type} {ar io K} {x:Option (α0×α1×α2×α3×α4×α5×α6)} {g:α0×α1×α2×α3×α4×α5×α6→Option β} {r:β} (H:x.bind g = some r) (h:∀ a0 a1 a2 a3 a4 a5 a6,x = some (a0,a1,a2,a3,a4,a5,a6)→g (a0,a1,a2,a3,a4,a5,a6) = some r→F.call f ar io K):F.call f ar io K:=let ⟨_,h1,h2⟩:=bind_ H;h _ _ _ _ _ _ _ h1 h2
theorem k8_ {F:Hd} (f:FuncId) {α0 α1 α2 α3 α4 α5 α6 α7 β:Type} {ar io K} {x:Option (α0×α1×α2×α3×α4×α5×α6×α7)} {g:α0×α1×α2×α3×α4×α5×α6×α7→Option β} {r:β} (H:x.bind g = some r) (h:∀ a0 a1 a2 a3 a4 a5 a6 a7,x = some (a0,a1,a2,a3,a4,a5,a6,a7)→g (a0,a1,a2,a3,a4,a5,a6,a7) = some r→F.call f ar io K):F.call f ar io K:=let ⟨_,h1,h2⟩:=bind_ H;h _ _ _ _ _ _ _ _ h1 h2
theorem k9_ {F:Hd} (f:FuncId) {α0 α1 α2 α3 α4 α5 α6 α7 α8 β:Type} {ar io K} {x:Option (α0×α1×α2×α3×α4×α5×α6×α7×α8)} {g:α0×α1×α2×α3×α4×α5×α6×α7×α8→Option β} {r:β} (H:x.bind g = some r) (h:∀ a0 a1 a2 a3 a4 a5 a6 a7 a8,x = some (a0,a1,a2,a3,a4,a5,a6,a7,a8)→g (a0,a1,a2,a3,a4,a5,a6,a7,a8) = some r→F.call f ar io K):F.call f ar io K:=let ⟨_,h1,h2⟩:=bind_ H;h _ _ _ _ _ _ _ _ _ h1 h2
end Go.Ev
