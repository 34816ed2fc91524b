/- The plain functions that the Go functions of this law come to. No conditions but those that each statement names. By this repo's programs; comments are taken out. -/
import Derived.Shelf.Strconv.Itoa3
import Derived.Lib.Atoi
import Derived.Lib.Bytealg
import Derived.Test.YtlmicldpfnmeaaaGreatDoorProg
import Derived.Test.YtlmicldpfnmeaaaGreatDoorVFnExactMergeShelfEd
import Derived.Test.YtlmicldpfnmeaaaGreatDoorVFnExactMergeShelfW
set_option linter.all false
namespace Go.Ev
open Go.RowKit Go.Proofs Go.Proofs.YtlmicldpfnmeaaaGreatDoorW.PrintWords Go.Proofs.YtlmicldpfnmeaaaGreatDoorW.PrintLast Go.Proofs.YtlmicldpfnmeaaaGreatDoorW.PrintMore
structure S171 where
 f0:ByteArray
 f1:ByteArray
def z171:S171:=⟨(⟨#[]⟩:ByteArray),(⟨#[]⟩:ByteArray)⟩
def rd_T171 (xs:List S171) (i:Int):S171:=xs.getD i.toNat z171
structure S173 where
 f0:ByteArray
 f1:Int
 f2:Int
 f3:Int
def z173:S173:=⟨(⟨#[]⟩:ByteArray),(0:Int),(0:Int),(0:Int)⟩
def rd_T173 (xs:List S173) (i:Int):S173:=xs.getD i.toNat z173
structure S122 where
 f0:ByteArray
 f1:ByteArray
def z122:S122:=⟨(⟨#[]⟩:ByteArray),(⟨#[]⟩:ByteArray)⟩
def rd_T122 (xs:List S122) (i:Int):S122:=xs.getD i.toNat z122
structure S145 where
 f0:ByteArray
 f1:Int
 f2:Int
 f3:Int
def z145:S145:=⟨(⟨#[]⟩:ByteArray),(0:Int),(0:Int),(0:Int)⟩
def rd_T145 (xs:List S145) (i:Int):S145:=xs.getD i.toNat z145
structure S119 where
 f0:Int
 f1:ByteArray
 f2:ByteArray
 f3:ByteArray
def z119:S119:=⟨(0:Int),(⟨#[]⟩:ByteArray),(⟨#[]⟩:ByteArray),(⟨#[]⟩:ByteArray)⟩
def rd_T119 (xs:List S119) (i:Int):S119:=xs.getD i.toNat z119
structure S147 where
 f0:ByteArray
 f1:ByteArray
def z147:S147:=⟨(⟨#[]⟩:ByteArray),(⟨#[]⟩:ByteArray)⟩
def rd_T147 (xs:List S147) (i:Int):S147:=xs.getD i.toNat z147
structure S162 where
 f0:ByteArray
 f1:ByteArray
 f2:Bool
def z162:S162:=⟨(⟨#[]⟩:ByteArray),(⟨#[]⟩:ByteArray),false⟩
def rd_T162 (xs:List S162) (i:Int):S162:=xs.getD i.toNat z162
structure S59 where
 f0:Int
 f1:(List S162)
def z59:S59:=⟨(0:Int),([]:List S162)⟩
def rd_T59 (xs:List S59) (i:Int):S59:=xs.getD i.toNat z59
structure S113 where
 f0:S59
 f1:ByteArray
 f2:Int
def z113:S113:=⟨z59,(⟨#[]⟩:ByteArray),(0:Int)⟩
def rd_T113 (xs:List S113) (i:Int):S113:=xs.getD i.toNat z113
def atoiO (s:ByteArray):Option (Int×Bool):=if s.size≤18 then (match Lib.atoi s.data.toList with | some n => some (n,true) | none => some (0,false)) else none
def delO {α:Type} (a1 a2:Int) (l:List α):Option (List α):=if a2 = a1 + 1 then (if 0≤a1 then (if a1 < (l.length:Int) then some (l.take a1.toNat++l.drop (a1.toNat + 1)) else none) else none) else none
def insO {α:Type} (b:Nat) (l:List α) (a1:Int):List α→Option (List α)
 | [x] => if 0≤a1 then (if a1≤(l.length:Int) then (if (l.length + 1) * b≤140737488355328 then some (l.take a1.toNat++x::l.drop a1.toNat) else none) else none) else none
 | _ => none
def laws_szFile.f (a0_0:ByteArray) (a0_1:ByteArray) (a1:Int):Option (Int):=if (wrap64 (a1 - (a0_0.size:Int))) < 0 then (some (-1)) else (if (wrap64 ((wrap64 (a1 - (a0_0.size:Int))) - (a0_1.size:Int))) < 0 then (some (-1)) else (some (wrap64 ((wrap64 (a1 - (a0_0.size:Int))) - (a0_1.size:Int)))))
def laws_szFileS.l0:Nat→List S171→Int→Int→Option (Int)
 | 0,_,_,_ => none
 | k + 1,x0,x1,x5 => if x5 < (x0.length:Int) then (if 0≤x5 then ((laws_szFile.f ((rd_T171 x0 x5).f0) ((rd_T171 x0 x5).f1) x1).bind fun t103 => (if t103 < 0 then (some (-1)) else (laws_szFileS.l0 k x0 t103 (wrap64 (x5 + 1))))) else (none)) else (some x1)
def laws_szFileS.f (k:Nat) (l0:List S171) (a1:Int):Option (Int):=if (wrap64 (a1 - (l0.length:Int))) < 0 then (some (-1)) else (laws_szFileS.l0 k l0 (wrap64 (a1 - (l0.length:Int))) 0)
def laws_szDisk.f (k:Nat) (l0_0:List S171) (a1:Int):Option (Int):=(laws_szFileS.f k l0_0 a1).bind fun t105 => (if t105 < 0 then (some (-1)) else (some t105))
def laws_szIntS.f (l0:List Int) (a1:Int):Option (Int):=if (wrap64 (a1 - (l0.length:Int))) < 0 then (some (-1)) else (some (wrap64 (a1 - (l0.length:Int))))
def laws_szManifest.f (l0_0:List Int) (a0_1:Int) (a0_2:Int) (a0_3:Int) (l0_4:List Int) (a1:Int):Option (Int):=(laws_szIntS.f l0_0 a1).bind fun t107 => (if t107 < 0 then (some (-1)) else ((laws_szIntS.f l0_4 t107).bind fun t108 => (if t108 < 0 then (some (-1)) else (some t108))))
def laws_szSpot.f (a0_0:ByteArray) (a0_1:Int) (a0_2:Int) (a0_3:Int) (a1:Int):Option (Int):=if (wrap64 (a1 - (a0_0.size:Int))) < 0 then (some (-1)) else (some (wrap64 (a1 - (a0_0.size:Int))))
def laws_szSpotS.l0:Nat→List S173→Int→Int→Option (Int)
 | 0,_,_,_ => none
 | k + 1,x0,x1,x5 => if x5 < (x0.length:Int) then (if 0≤x5 then ((laws_szSpot.f ((rd_T173 x0 x5).f0) ((rd_T173 x0 x5).f1) ((rd_T173 x0 x5).f2) ((rd_T173 x0 x5).f3) x1).bind fun t111 => (if t111 < 0 then (some (-1)) else (laws_szSpotS.l0 k x0 t111 (wrap64 (x5 + 1))))) else (none)) else (some x1)
def laws_szSpotS.f (k:Nat) (l0:List S173) (a1:Int):Option (Int):=if (wrap64 (a1 - (l0.length:Int))) < 0 then (some (-1)) else (laws_szSpotS.l0 k l0 (wrap64 (a1 - (l0.length:Int))) 0)
def laws_szShelf.f (k:Nat) (l0_0:List Int) (a0_1:Int) (a0_2:Int) (a0_3:Int) (l0_4:List Int) (l0_5:List S173) (a0_6:Int) (a1:Int):Option (Int):=(laws_szManifest.f l0_0 a0_1 a0_2 a0_3 l0_4 a1).bind fun t113 => (if t113 < 0 then (some (-1)) else ((laws_szSpotS.f k l0_5 t113).bind fun t114 => (if t114 < 0 then (some (-1)) else (some t114))))
def laws_toFile.f (a0_0:ByteArray) (a0_1:ByteArray):Option (ByteArray×ByteArray):=some (a0_0,a0_1)
def laws_toFileS.l0:Nat→List S171→List S122→Int→Option ((List S122))
 | 0,_,_,_ => none
 | k + 1,x0,x3,x4 => if x4 < (x0.length:Int) then (if 0≤x4 then ((laws_toFile.f ((rd_T171 x0 x4).f0) ((rd_T171 x0 x4).f1)).bind fun bt122 => (if x4 < (x3.length:Int) then (laws_toFileS.l0 k x0 (x3.set (x4:Int).toNat (⟨bt122.1,bt122.2⟩:S122)) (wrap64 (x4 + 1))) else (none))) else (none)) else (some x3)
def laws_toFileS.f (k:Nat) (l0:List S171):Option ((List S122)):=if 0≤(l0.length:Int) then (if ((l0.length:Int):Int).toNat≤8796093022208 then (laws_toFileS.l0 k l0 (List.replicate ((l0.length:Int):Int).toNat z122) 0) else (none)) else (none)
def laws_toDisk.f (k:Nat) (l0_0:List S171):Option ((List S122)):=(laws_toFileS.f k l0_0).bind fun t128 => (some t128)
def laws_toIntS.l0:Nat→List Int→List Int→Int→Option (List Int)
 | 0,_,_,_ => none
 | k + 1,x0,x3,x4 => if x4 < (x0.length:Int) then (if 0≤x4 then (if x4 < (x3.length:Int) then (laws_toIntS.l0 k x0 (x3.set (x4:Int).toNat (rd x0 x4)) (wrap64 (x4 + 1))) else (none)) else (none)) else (some x3)
def laws_toIntS.f (k:Nat) (l0:List Int):Option (List Int):=if 0≤(l0.length:Int) then (if ((l0.length:Int):Int).toNat≤35184372088832 then (laws_toIntS.l0 k l0 (List.replicate ((l0.length:Int):Int).toNat 0) 0) else (none)) else (none)
def laws_toManifest.f (k:Nat) (l0_0:List Int) (a0_1:Int) (a0_2:Int) (a0_3:Int) (l0_4:List Int):Option (List Int×Int×Int×Int×List Int):=(laws_toIntS.f k l0_0).bind fun t139 => ((laws_toIntS.f k l0_4).bind fun t142 => (some (t139,a0_1,a0_2,a0_3,t142)))
def laws_toSpot.f (a0_0:ByteArray) (a0_1:Int) (a0_2:Int) (a0_3:Int):Option (ByteArray×Int×Int×Int):=some (a0_0,a0_1,a0_2,a0_3)
def laws_toSpotS.l0:Nat→List S173→List S145→Int→Option ((List S145))
 | 0,_,_,_ => none
 | k + 1,x0,x3,x4 => if x4 < (x0.length:Int) then (if 0≤x4 then ((laws_toSpot.f ((rd_T173 x0 x4).f0) ((rd_T173 x0 x4).f1) ((rd_T173 x0 x4).f2) ((rd_T173 x0 x4).f3)).bind fun bt152 => (if x4 < (x3.length:Int) then (laws_toSpotS.l0 k x0 (x3.set (x4:Int).toNat (⟨bt152.1,bt152.2.1,bt152.2.2.1,bt152.2.2.2⟩:S145)) (wrap64 (x4 + 1))) else (none))) else (none)) else (some x3)
def laws_toSpotS.f (k:Nat) (l0:List S173):Option ((List S145)):=if 0≤(l0.length:Int) then (if ((l0.length:Int):Int).toNat≤7036874417766 then (laws_toSpotS.l0 k l0 (List.replicate ((l0.length:Int):Int).toNat z145) 0) else (none)) else (none)
def laws_toShelf.f (k:Nat) (l0_0:List Int) (a0_1:Int) (a0_2:Int) (a0_3:Int) (l0_4:List Int) (l0_5:List S173) (a0_6:Int):Option (List Int×Int×Int×Int×List Int×(List S145)×Int):=(laws_toManifest.f k l0_0 a0_1 a0_2 a0_3 l0_4).bind fun bt160 => ((laws_toSpotS.f k l0_5).bind fun t169 => (some (bt160.1,bt160.2.1,bt160.2.2.1,bt160.2.2.2.1,bt160.2.2.2.2,t169,a0_6)))
def spec_l01In.f (a0:Int) (a1:Int) (a2:Int):Option (Bool):=if a0≥a1 then (some (decide (a0≤a2))) else (some false)
def spec_DiskOk.l0:Nat→Int→List S122→Option (Bool)
 | 0,_,_ => none
 | k + 1,x3,x527000 => if x3 < (x527000.length:Int) then (if 0≤x3 then ((spec_l01In.f (((rd_T122 x527000 x3).f0).size:Int) 1 12).bind fun t528 => (if t528 = true then (if (((rd_T122 x527000 x3).f1).size:Int) > 20000 then (some false) else (if x3 > 0 then (if 0≤(wrap64 (x3 - 1)) then (if (wrap64 (x3 - 1)) < (x527000.length:Int) then (if ((Op.bytesLess (((rd_T122 x527000 (wrap64 (x3 - 1))).f0).toList) (((rd_T122 x527000 x3).f0).toList)) = true) then (spec_DiskOk.l0 k (wrap64 (x3 + 1)) x527000) else (some false)) else (none)) else (none)) else (spec_DiskOk.l0 k (wrap64 (x3 + 1)) x527000))) else (some false))) else (none)) else (some true)
def spec_DiskOk.f (k:Nat) (l0_0:List S122):Option (Bool):=if (l0_0.length:Int) > 30 then (some false) else (spec_DiskOk.l0 k 0 l0_0)
def spec_l03At.l0:Nat→ByteArray→Int→List S122→Option (Int)
 | 0,_,_,_ => none
 | k + 1,x1,x5,x512000 => if x5 < (x512000.length:Int) then (if 0≤x5 then (if ((rd_T122 x512000 x5).f0).toList = x1.toList then (some x5) else (spec_l03At.l0 k x1 (wrap64 (x5 + 1)) x512000)) else (none)) else (some (-1))
def spec_l03At.f (k:Nat) (l0_0:List S122) (a1:ByteArray):Option (Int):=spec_l03At.l0 k a1 0 l0_0
def spec_FileAt.f (k:Nat) (l0_0:List S122) (a1:ByteArray):Option (ByteArray×Bool):=(spec_l03At.f k l0_0 a1).bind fun t578 => ((spec_DiskOk.f k l0_0).bind fun t579 => (if t579 = true then (if t578 < 0 then (some ((⟨#[]⟩:ByteArray),false)) else (if 0≤t578 then (if t578 < (l0_0.length:Int) then (some ((rd_T122 l0_0 t578).f1,true)) else (none)) else (none))) else (some ((⟨#[]⟩:ByteArray),false))))
mutual
def spec_SumMore.l0:Nat→Int→ByteArray→Int→Option (Int)
 | 0,_,_,_ => none
 | k + 1,x0,x1,x5 => if x5 < (x1.size:Int) then (if 0≤x5 then (spec_SumMore.l1 k (Go.bits .xor .u32 x0 ((bt x1 x5) % 4294967296)) x1 x5 0) else (none)) else (some x0)
def spec_SumMore.l1:Nat→Int→ByteArray→Int→Int→Option (Int)
 | 0,_,_,_,_ => none
 | k + 1,x0,x1,x5,x6 => if x6 < 8 then (if (Int.tmod x0 2) = 1 then (spec_SumMore.l1 k (Go.bits .xor .u32 ((Int.tdiv x0 2) % 4294967296) 3558460437) x1 x5 (wrap64 (x6 + 1))) else (spec_SumMore.l1 k ((Int.tdiv x0 2) % 4294967296) x1 x5 (wrap64 (x6 + 1)))) else (spec_SumMore.l0 k x0 x1 (wrap64 (x5 + 1)))
end
def spec_SumMore.f (k:Nat) (a0:Int) (a1:ByteArray):Option (Int):=spec_SumMore.l0 k a0 a1 0
def spec_SumOf.f (k:Nat) (a0:ByteArray):Option (Int):=(spec_SumMore.f k 4294967295 a0).bind fun t572 => (some t572)
def spec_l02Four.f (a0:Int):Option (ByteArray):=some (strOfNums (([(a0 / 16777216) % 256,(a0 / 65536) % 256,(a0 / 256) % 256,(a0) % 256]:List Int)))
def spec_Unsealed.f (k:Nat) (a0:ByteArray):Option (ByteArray×Bool):=if (wrap64 ((a0.size:Int) - 4)) < 0 then (some ((⟨#[]⟩:ByteArray),false)) else (if (wrap64 ((a0.size:Int) - 4)) > 20000 then (some ((⟨#[]⟩:ByteArray),false)) else (if 0≤(wrap64 ((a0.size:Int) - 4)) then (if (wrap64 ((a0.size:Int) - 4))≤(a0.size:Int) then ((spec_SumOf.f k (a0.extract 0 ((wrap64 ((a0.size:Int) - 4)):Int).toNat)).bind fun t614 => ((spec_l02Four.f t614).bind fun t615 => (if (a0.extract ((wrap64 ((a0.size:Int) - 4)):Int).toNat a0.size).toList = t615.toList then (some (a0.extract 0 ((wrap64 ((a0.size:Int) - 4)):Int).toNat,true)) else (some ((⟨#[]⟩:ByteArray),false))))) else (none)) else (none)))
def spec_l01Var.l0:Nat→Int→List Int→Option (ByteArray)
 | 0,_,_ => none
 | k + 1,x0,x3 => if x0 > 127 then (if x3.length < 140737488355328 then (spec_l01Var.l0 k (wrap64 (Int.tdiv x0 128)) (x3++[(wrap64 ((Int.tmod x0 128) + 128)) % 256])) else (none)) else (if x3.length < 140737488355328 then (some (strOfNums (x3++[(x0) % 256]))) else (none))
def spec_l01Var.f (k:Nat) (a0:Int):Option (ByteArray):=spec_l01Var.l0 k a0 (([]:List Int))
mutual
def spec_ReadVar.l0:Nat→ByteArray→Int→Int→Int→Int→Option (Int×Int×Bool)
 | 0,_,_,_,_,_ => none
 | k + 1,x0,x1,x7,x8,x9 => if x9 < (x0.size:Int) then (spec_ReadVar.j1 k x0 x1 x7 x8 x9 (decide (x9 < (wrap64 (x1 + 5))))) else (spec_ReadVar.j1 k x0 x1 x7 x8 x9 false)
def spec_ReadVar.j1:Nat→ByteArray→Int→Int→Int→Int→Bool→Option (Int×Int×Bool)
 | 0,_,_,_,_,_,_ => none
 | k + 1,x0,x1,x7,x8,x9,x25 => if x25 = true then (if 0≤x9 then (if x9 < (x0.size:Int) then (if (bt x0 x9) < 128 then (if (wrap64 (x7 + (wrap64 ((Int.tmod (wrap64 (bt x0 x9)) 128) * x8)))) > 1000000000 then (some (0,0,false)) else ((spec_l01Var.f k (wrap64 (x7 + (wrap64 ((Int.tmod (wrap64 (bt x0 x9)) 128) * x8))))).bind fun t610 => (if 0≤x1 then (if x1≤(wrap64 (x9 + 1)) then (if (wrap64 (x9 + 1))≤(x0.size:Int) then (if t610.toList = (x0.extract (x1:Int).toNat ((wrap64 (x9 + 1)):Int).toNat).toList then (some (wrap64 (x7 + (wrap64 ((Int.tmod (wrap64 (bt x0 x9)) 128) * x8))),wrap64 (x9 + 1),true)) else (some (0,0,false))) else (none)) else (none)) else (none)))) else (spec_ReadVar.l0 k x0 x1 (wrap64 (x7 + (wrap64 ((Int.tmod (wrap64 (bt x0 x9)) 128) * x8)))) (wrap64 (x8 * 128)) (wrap64 (x9 + 1)))) else (none)) else (none)) else (some (0,0,false))
end
def spec_ReadVar.f (k:Nat) (a0:ByteArray) (a1:Int):Option (Int×Int×Bool):=(spec_l01In.f a1 0 (a0.size:Int)).bind fun t609 => (if t609 = true then (spec_ReadVar.l0 k a0 a1 0 1 a1) else (some (0,0,false)))
def spec_l05Var.f (k:Nat) (s0_0:ByteArray) (s0_1:Int) (s0_2:Bool):Option (Int×ByteArray×Int×Bool):=(spec_ReadVar.f k s0_0 s0_1).bind fun bt611 => (if s0_2 = true then (some (0,s0_0,s0_1,true)) else (if bt611.2.2 = true then (some (bt611.1,s0_0,bt611.2.1,s0_2)) else (some (0,s0_0,s0_1,true))))
def spec_l07Rise.l0:Nat→List Int→Int→Int→Int→Option (Bool)
 | 0,_,_,_,_ => none
 | k + 1,x0,x1,x2,x7 => if x7 < (x0.length:Int) then (if 0≤x7 then ((spec_l01In.f (rd x0 x7) x1 x2).bind fun t582 => (if t582 = true then (if x7 > 0 then (if 0≤(wrap64 (x7 - 1)) then (if (wrap64 (x7 - 1)) < (x0.length:Int) then (if (rd x0 (wrap64 (x7 - 1)))≥(rd x0 x7) then (some false) else (spec_l07Rise.l0 k x0 x1 x2 (wrap64 (x7 + 1)))) else (none)) else (none)) else (spec_l07Rise.l0 k x0 x1 x2 (wrap64 (x7 + 1)))) else (some false))) else (none)) else (some true)
def spec_l07Rise.f (k:Nat) (l0:List Int) (a1:Int) (a2:Int):Option (Bool):=spec_l07Rise.l0 k l0 a1 a2 0
def spec_ConfOk.f (k:Nat) (l0:List Int):Option (Bool):=(spec_l01In.f (l0.length:Int) 1 4).bind fun t585 => (if t585 = true then ((spec_l07Rise.f k l0 1 4).bind fun t586 => (some t586)) else (some false))
def spec_ManifestOk.f (k:Nat) (l0_0:List Int) (a0_1:Int) (a0_2:Int) (a0_3:Int) (l0_4:List Int):Option (Bool):=(spec_l01In.f (l0_0.length:Int) 1 8).bind fun t588 => (if t588 = true then ((spec_l01In.f a0_1 0 1000).bind fun t589 => (if t589 = true then ((spec_l07Rise.f k l0_0 0 (wrap64 (a0_1 - 1))).bind fun t590 => (if t590 = true then ((spec_l01In.f a0_2 0 100000).bind fun t591 => (if t591 = true then ((spec_l01In.f a0_3 0 100000).bind fun t592 => (if t592 = true then ((spec_ConfOk.f k l0_4).bind fun t593 => (some t593)) else (some false))) else (some false))) else (some false))) else (some false))) else (some false))
def spec_Sealed.f (k:Nat) (a0:ByteArray):Option (ByteArray×Bool):=if (a0.size:Int) > 20000 then (some ((⟨#[]⟩:ByteArray),false)) else ((spec_SumOf.f k a0).bind fun t594 => ((spec_l02Four.f t594).bind fun t595 => (if a0.size + t595.size≤9223372036854775807 then (some (a0++t595,true)) else (none))))
mutual
def spec_ManifestText.l0:Nat→ByteArray→Int→List Int→Int→Int→Int→List Int→Option (ByteArray×Bool)
 | 0,_,_,_,_,_,_,_ => none
 | k + 1,x4,x5,x597000,x597001,x597002,x597003,x597004 => if x5 < (x597000.length:Int) then (if 0≤x5 then ((spec_l01Var.f k (rd x597000 x5)).bind fun t600 => (if x4.size + t600.size≤9223372036854775807 then (spec_ManifestText.l0 k (x4++t600) (wrap64 (x5 + 1)) x597000 x597001 x597002 x597003 x597004) else (none))) else (none)) else ((spec_l01Var.f k x597001).bind fun t601 => (if x4.size + t601.size≤9223372036854775807 then ((spec_l01Var.f k x597002).bind fun t602 => (if (x4++t601).size + t602.size≤9223372036854775807 then ((spec_l01Var.f k x597003).bind fun t603 => (if ((x4++t601)++t602).size + t603.size≤9223372036854775807 then ((spec_l01Var.f k (x597004.length:Int)).bind fun t604 => (if (((x4++t601)++t602)++t603).size + t604.size≤9223372036854775807 then (spec_ManifestText.l1 k ((((x4++t601)++t602)++t603)++t604) 0 x597000 x597001 x597002 x597003 x597004) else (none))) else (none))) else (none))) else (none)))
def spec_ManifestText.l1:Nat→ByteArray→Int→List Int→Int→Int→Int→List Int→Option (ByteArray×Bool)
 | 0,_,_,_,_,_,_,_ => none
 | k + 1,x4,x6,x597000,x597001,x597002,x597003,x597004 => if x6 < (x597004.length:Int) then (if 0≤x6 then ((spec_l01Var.f k (rd x597004 x6)).bind fun t606 => (if x4.size + t606.size≤9223372036854775807 then (spec_ManifestText.l1 k (x4++t606) (wrap64 (x6 + 1)) x597000 x597001 x597002 x597003 x597004) else (none))) else (none)) else ((spec_Sealed.f k x4).bind fun bt607 => (some (bt607.1,bt607.2)))
end
def spec_ManifestText.f (k:Nat) (l0_0:List Int) (a0_1:Int) (a0_2:Int) (a0_3:Int) (l0_4:List Int):Option (ByteArray×Bool):=(spec_ManifestOk.f k l0_0 a0_1 a0_2 a0_3 l0_4).bind fun t597 => (if t597 = true then ((spec_l01Var.f k (l0_0.length:Int)).bind fun t598 => (spec_ManifestText.l0 k t598 0 l0_0 a0_1 a0_2 a0_3 l0_4)) else (some ((⟨#[]⟩:ByteArray),false)))
mutual
def spec_ReadManifest.j1:Nat→ByteArray→ByteArray→Int→Bool→List Int→Int→Int→Int→Option (List Int×Int×Int×Int×List Int×Bool)
 | 0,_,_,_,_,_,_,_,_ => none
 | k + 1,x0,x620000,x620001,x620002,x621000,x621001,x621002,x621003 => (spec_l05Var.f k x620000 x620001 x620002).bind fun bt632 => ((spec_l05Var.f k bt632.2.1 bt632.2.2.1 bt632.2.2.2).bind fun bt636 => ((spec_l05Var.f k bt636.2.1 bt636.2.2.1 bt636.2.2.2).bind fun bt640 => ((spec_l05Var.f k bt640.2.1 bt640.2.2.1 bt640.2.2.2).bind fun bt644 => (spec_ReadManifest.l1 k x0 bt644.1 0 bt644.2.1 bt644.2.2.1 bt644.2.2.2 x621000 bt632.1 bt636.1 bt640.1 ([]:List Int)))))
def spec_ReadManifest.l1:Nat→ByteArray→Int→Int→ByteArray→Int→Bool→List Int→Int→Int→Int→List Int→Option (List Int×Int×Int×Int×List Int×Bool)
 | 0,_,_,_,_,_,_,_,_,_,_,_ => none
 | k + 1,x0,x8,x10,x620000,x620001,x620002,x621000,x621001,x621002,x621003,x621004 => if x10 < x8 then (if x620002 = true then ((spec_ManifestText.f k x621000 x621001 x621002 x621003 x621004).bind fun bt648 => (some (([]:List Int),0,0,0,([]:List Int),false))) else (if x10≤4 then ((spec_l05Var.f k x620000 x620001 x620002).bind fun bt650 => (if x621004.length < 17592186044416 then (spec_ReadManifest.l1 k x0 x8 (wrap64 (x10 + 1)) bt650.2.1 bt650.2.2.1 bt650.2.2.2 x621000 x621001 x621002 x621003 (x621004++[bt650.1])) else (none))) else ((spec_ManifestText.f k x621000 x621001 x621002 x621003 x621004).bind fun bt657 => (if bt657.2 = true then (if bt657.1.toList = x0.toList then (some (x621000,x621001,x621002,x621003,x621004,true)) else (some (([]:List Int),0,0,0,([]:List Int),false))) else (some (([]:List Int),0,0,0,([]:List Int),false)))))) else ((spec_ManifestText.f k x621000 x621001 x621002 x621003 x621004).bind fun bt659 => (if x620002 = true then (some (([]:List Int),0,0,0,([]:List Int),false)) else (if bt659.2 = true then (if bt659.1.toList = x0.toList then (some (x621000,x621001,x621002,x621003,x621004,true)) else (some (([]:List Int),0,0,0,([]:List Int),false))) else (some (([]:List Int),0,0,0,([]:List Int),false)))))
def spec_ReadManifest.l0:Nat→ByteArray→Int→Int→ByteArray→Int→Bool→List Int→Int→Int→Int→Option (List Int×Int×Int×Int×List Int×Bool)
 | 0,_,_,_,_,_,_,_,_,_,_ => none
 | k + 1,x0,x8,x9,x620000,x620001,x620002,x621000,x621001,x621002,x621003 => if x9 < x8 then (if x620002 = true then (spec_ReadManifest.j1 k x0 x620000 x620001 x620002 x621000 x621001 x621002 x621003) else (if x9≤8 then ((spec_l05Var.f k x620000 x620001 x620002).bind fun bt625 => (if x621000.length < 17592186044416 then (spec_ReadManifest.l0 k x0 x8 (wrap64 (x9 + 1)) bt625.2.1 bt625.2.2.1 bt625.2.2.2 (x621000++[bt625.1]) x621001 x621002 x621003) else (none))) else (spec_ReadManifest.j1 k x0 x620000 x620001 x620002 x621000 x621001 x621002 x621003))) else (spec_ReadManifest.j1 k x0 x620000 x620001 x620002 x621000 x621001 x621002 x621003)
end
def spec_ReadManifest.f (k:Nat) (a0:ByteArray):Option (List Int×Int×Int×Int×List Int×Bool):=(spec_Unsealed.f k a0).bind fun bt617 => ((spec_l05Var.f k bt617.1 0 (!bt617.2)).bind fun bt621 => (spec_ReadManifest.l0 k a0 bt621.1 0 bt621.2.1 bt621.2.2.1 bt621.2.2.2 ([]:List Int) 0 0 0))
def spec_l01Figure.f (a0:Int):Option (Int):=if a0 < 10 then (some ((wrap64 (48 + a0)) % 256)) else (some ((wrap64 ((wrap64 (97 + a0)) - 10)) % 256))
def spec_Decimal.l0:Nat→Int→Bool→ByteArray→Option (ByteArray)
 | 0,_,_,_ => none
 | k + 1,x0,x3,x4 => if x0 = 0 then (if x3 = true then (if 1 + x4.size≤9223372036854775807 then (some ((⟨#[45]⟩:ByteArray)++x4)) else (none)) else (some x4)) else (if (Int.tmod x0 10) < 0 then ((spec_l01Figure.f (wrap64 (-(Int.tmod x0 10)))).bind fun t516 => ((some (([t516]:List Int):List Int)).bind fun y517 => (if (strOfNums y517).size + x4.size≤9223372036854775807 then (spec_Decimal.l0 k (wrap64 (Int.tdiv x0 10)) x3 ((strOfNums y517)++x4)) else (none)))) else ((spec_l01Figure.f (Int.tmod x0 10)).bind fun t520 => ((some (([t520]:List Int):List Int)).bind fun y521 => (if (strOfNums y521).size + x4.size≤9223372036854775807 then (spec_Decimal.l0 k (wrap64 (Int.tdiv x0 10)) x3 ((strOfNums y521)++x4)) else (none)))))
def spec_Decimal.f (k:Nat) (a0:Int):Option (ByteArray):=if a0 = 0 then (some (⟨#[48]⟩:ByteArray)) else (spec_Decimal.l0 k a0 (decide (a0 < 0)) (⟨#[]⟩:ByteArray))
def spec_SegName.f (k:Nat) (a0:Int):Option (ByteArray):=(spec_l01In.f a0 0 999).bind fun t524 => (if t524 = true then ((spec_Decimal.f k a0).bind fun t525 => (if 1 + t525.size≤9223372036854775807 then (some ((⟨#[103]⟩:ByteArray)++t525)) else (none))) else (some (⟨#[]⟩:ByteArray)))
def spec_l03Text.f (k:Nat) (l0_0:List S122) (a1:ByteArray):Option (ByteArray):=(spec_l03At.f k l0_0 a1).bind fun t514 => (if t514 < 0 then (some (⟨#[]⟩:ByteArray)) else (if 0≤t514 then (if t514 < (l0_0.length:Int) then (some ((rd_T122 l0_0 t514).f1)) else (none)) else (none)))
def spec_Frame.f (k:Nat) (a0:ByteArray):Option (ByteArray×Bool):=(spec_l01In.f (a0.size:Int) 1 9000).bind fun t573 => (if t573 = true then ((spec_l01Var.f k (a0.size:Int)).bind fun t574 => ((spec_SumOf.f k a0).bind fun t575 => ((spec_l02Four.f t575).bind fun t576 => (if t574.size + t576.size≤9223372036854775807 then (if (t574++t576).size + a0.size≤9223372036854775807 then (some ((t574++t576)++a0,true)) else (none)) else (none))))) else (some ((⟨#[]⟩:ByteArray),false)))
mutual
def spec_Unframe.l0:Nat→ByteArray→List ByteArray→Int→Option (List ByteArray×Int)
 | 0,_,_,_ => none
 | k + 1,x0,x4,x5 => if x5 < (x0.size:Int) then ((spec_ReadVar.f k x0 x5).bind fun bt664 => (if bt664.2.2 = true then (spec_Unframe.j1 k x0 x4 x5 bt664.1 bt664.2.1 (decide (bt664.1 > (wrap64 ((wrap64 ((x0.size:Int) - bt664.2.1)) - 4))))) else (spec_Unframe.j1 k x0 x4 x5 bt664.1 bt664.2.1 true))) else (some (x4,x5))
def spec_Unframe.j1:Nat→ByteArray→List ByteArray→Int→Int→Int→Bool→Option (List ByteArray×Int)
 | 0,_,_,_,_,_,_ => none
 | k + 1,x0,x4,x5,x6,x7,x38 => if x38 = true then (some (x4,x5)) else (if 0≤(wrap64 (x7 + 4)) then (if (wrap64 (x7 + 4))≤(wrap64 ((wrap64 (x7 + 4)) + x6)) then (if (wrap64 ((wrap64 (x7 + 4)) + x6))≤(x0.size:Int) then ((spec_Frame.f k (x0.extract ((wrap64 (x7 + 4)):Int).toNat ((wrap64 ((wrap64 (x7 + 4)) + x6)):Int).toNat)).bind fun bt667 => (if bt667.2 = true then (if 0≤x5 then (if x5≤(wrap64 ((wrap64 (x7 + 4)) + x6)) then (if bt667.1.toList = (x0.extract (x5:Int).toNat ((wrap64 ((wrap64 (x7 + 4)) + x6)):Int).toNat).toList then (if x4.length < 8796093022208 then (spec_Unframe.l0 k x0 (x4++[x0.extract ((wrap64 (x7 + 4)):Int).toNat ((wrap64 ((wrap64 (x7 + 4)) + x6)):Int).toNat]) (wrap64 ((wrap64 (x7 + 4)) + x6))) else (none)) else (some (x4,x5))) else (none)) else (none)) else (some (x4,x5)))) else (none)) else (none)) else (none))
end
def spec_Unframe.f (k:Nat) (a0:ByteArray):Option (List ByteArray×Int):=(some (([]:List ByteArray):List ByteArray)).bind fun y661 => (if (a0.size:Int) > 20000 then (some (y661,0)) else (spec_Unframe.l0 k a0 y661 0))
def spec_l05Take.f (s0_0:ByteArray) (s0_1:Int) (s0_2:Bool) (a1:Int):Option (ByteArray×ByteArray×Int×Bool):=if s0_2 = true then (some ((⟨#[]⟩:ByteArray),s0_0,s0_1,true)) else (if a1 > (wrap64 ((s0_0.size:Int) - s0_1)) then (some ((⟨#[]⟩:ByteArray),s0_0,s0_1,true)) else (if 0≤(wrap64 ((wrap64 (s0_1 + a1)) - a1)) then (if (wrap64 ((wrap64 (s0_1 + a1)) - a1))≤(wrap64 (s0_1 + a1)) then (if (wrap64 (s0_1 + a1))≤(s0_0.size:Int) then (some (s0_0.extract ((wrap64 ((wrap64 (s0_1 + a1)) - a1)):Int).toNat ((wrap64 (s0_1 + a1)):Int).toNat,s0_0,wrap64 (s0_1 + a1),s0_2)) else (none)) else (none)) else (none)))
def spec_l05ReadShort.f (k:Nat) (s0_0:ByteArray) (s0_1:Int) (s0_2:Bool):Option (ByteArray×ByteArray×Int×Bool):=(spec_l05Var.f k s0_0 s0_1 s0_2).bind fun bt692 => ((spec_l05Take.f bt692.2.1 bt692.2.2.1 bt692.2.2.2 bt692.1).bind fun bt696 => (some (bt696.1,bt696.2.1,bt696.2.2.1,bt696.2.2.2)))
def spec_l05Key.f (a0:ByteArray):Option (Bool):=(spec_l01In.f (a0.size:Int) 1 10).bind fun t532 => (some t532)
mutual
def spec_BatchOk.j0:Nat→Bool→Int→List S162→Option (Bool)
 | 0,_,_,_ => none
 | k + 1,x14,x673000,x673001 => if x14 = true then (some false) else (spec_BatchOk.l0 k 0 x673000 x673001)
def spec_BatchOk.l0:Nat→Int→Int→List S162→Option (Bool)
 | 0,_,_,_ => none
 | k + 1,x3,x673000,x673001 => if x3 < (x673001.length:Int) then (if 0≤x3 then ((spec_l05Key.f ((rd_T162 x673001 x3).f0)).bind fun t676 => (if t676 = true then (if x3 > 0 then (if 0≤(wrap64 (x3 - 1)) then (if (wrap64 (x3 - 1)) < (x673001.length:Int) then (if ((Op.bytesLess (((rd_T162 x673001 (wrap64 (x3 - 1))).f0).toList) (((rd_T162 x673001 x3).f0).toList)) = true) then (if (((rd_T162 x673001 x3).f1).size:Int) > 40 then (some false) else (if (rd_T162 x673001 x3).f2 = true then (if ((rd_T162 x673001 x3).f1).toList = ([]:List UInt8) then (spec_BatchOk.l0 k (wrap64 (x3 + 1)) x673000 x673001) else (some false)) else (spec_BatchOk.l0 k (wrap64 (x3 + 1)) x673000 x673001))) else (some false)) else (none)) else (none)) else (if (((rd_T162 x673001 x3).f1).size:Int) > 40 then (some false) else (if (rd_T162 x673001 x3).f2 = true then (if ((rd_T162 x673001 x3).f1).toList = ([]:List UInt8) then (spec_BatchOk.l0 k (wrap64 (x3 + 1)) x673000 x673001) else (some false)) else (spec_BatchOk.l0 k (wrap64 (x3 + 1)) x673000 x673001)))) else (some false))) else (none)) else (some true)
end
def spec_BatchOk.f (k:Nat) (a0_0:Int) (l0_1:List S162):Option (Bool):=(spec_l01In.f a0_0 0 100000).bind fun t673 => (if t673 = true then (spec_BatchOk.j0 k (decide ((l0_1.length:Int) > 60)) a0_0 l0_1) else (spec_BatchOk.j0 k true a0_0 l0_1))
def spec_l05Short.f (k:Nat) (a0:ByteArray):Option (ByteArray):=(spec_l01Var.f k (a0.size:Int)).bind fun t678 => (if t678.size + a0.size≤9223372036854775807 then (some (t678++a0)) else (none))
def spec_BatchText.l0:Nat→ByteArray→Int→Int→List S162→Option (ByteArray×Bool)
 | 0,_,_,_,_ => none
 | k + 1,x4,x5,x680000,x680001 => if x5 < (x680001.length:Int) then (if 0≤x5 then (if (rd_T162 x680001 x5).f2 = true then ((spec_l05Short.f k ((rd_T162 x680001 x5).f0)).bind fun t685 => (if x4.size + t685.size≤9223372036854775807 then (if (x4++t685).size + 1≤9223372036854775807 then ((spec_l05Short.f k ((rd_T162 x680001 x5).f1)).bind fun t687 => (if ((x4++t685)++(⟨#[1]⟩:ByteArray)).size + t687.size≤9223372036854775807 then (spec_BatchText.l0 k (((x4++t685)++(⟨#[1]⟩:ByteArray))++t687) (wrap64 (x5 + 1)) x680000 x680001) else (none))) else (none)) else (none))) else ((spec_l05Short.f k ((rd_T162 x680001 x5).f0)).bind fun t689 => (if x4.size + t689.size≤9223372036854775807 then (if (x4++t689).size + 1≤9223372036854775807 then ((spec_l05Short.f k ((rd_T162 x680001 x5).f1)).bind fun t691 => (if ((x4++t689)++(⟨#[0]⟩:ByteArray)).size + t691.size≤9223372036854775807 then (spec_BatchText.l0 k (((x4++t689)++(⟨#[0]⟩:ByteArray))++t691) (wrap64 (x5 + 1)) x680000 x680001) else (none))) else (none)) else (none)))) else (none)) else (some (x4,true))
def spec_BatchText.f (k:Nat) (a0_0:Int) (l0_1:List S162):Option (ByteArray×Bool):=(spec_BatchOk.f k a0_0 l0_1).bind fun t680 => (if t680 = true then ((spec_l01Var.f k a0_0).bind fun t681 => ((spec_l01Var.f k (l0_1.length:Int)).bind fun t682 => (if t681.size + t682.size≤9223372036854775807 then (spec_BatchText.l0 k (t681++t682) 0 a0_0 l0_1) else (none)))) else (some ((⟨#[]⟩:ByteArray),false)))
mutual
def spec_ReadBatch.l0:Nat→ByteArray→Int→Int→ByteArray→Int→Bool→Int→List S162→Option (Int×(List S162)×Bool)
 | 0,_,_,_,_,_,_,_,_ => none
 | k + 1,x0,x6,x7,x702000,x702001,x702002,x703000,x703001 => if x7 < x6 then (spec_ReadBatch.j1 k x0 x6 x7 (!x702002) x702000 x702001 x702002 x703000 x703001) else (spec_ReadBatch.j1 k x0 x6 x7 false x702000 x702001 x702002 x703000 x703001)
def spec_ReadBatch.j1:Nat→ByteArray→Int→Int→Bool→ByteArray→Int→Bool→Int→List S162→Option (Int×(List S162)×Bool)
 | 0,_,_,_,_,_,_,_,_,_ => none
 | k + 1,x0,x6,x7,x29,x702000,x702001,x702002,x703000,x703001 => if x29 = true then ((spec_l05ReadShort.f k x702000 x702001 x702002).bind fun bt712 => ((spec_l05Take.f bt712.2.1 bt712.2.2.1 bt712.2.2.2 1).bind fun bt716 => ((spec_l05ReadShort.f k bt716.2.1 bt716.2.2.1 bt716.2.2.2).bind fun bt720 => (if x703001.length < 3518437208883 then (spec_ReadBatch.l0 k x0 x6 (wrap64 (x7 + 1)) bt720.2.1 bt720.2.2.1 bt720.2.2.2 x703000 (x703001++[(⟨bt712.1,bt720.1,(bt716.1.toList == ([1]:List UInt8))⟩:S162)])) else (none))))) else ((spec_BatchText.f k x703000 x703001).bind fun bt727 => (if x702002 = true then (some (0,([]:List S162),false)) else (if bt727.2 = true then (if bt727.1.toList = x0.toList then (some (x703000,x703001,true)) else (some (0,([]:List S162),false))) else (some (0,([]:List S162),false)))))
end
def spec_ReadBatch.f (k:Nat) (a0:ByteArray):Option (Int×(List S162)×Bool):=(spec_l05Var.f k a0 0 false).bind fun bt703 => ((spec_l05Var.f k bt703.2.1 bt703.2.2.1 bt703.2.2.2).bind fun bt707 => (spec_ReadBatch.l0 k a0 bt707.1 0 bt707.2.1 bt707.2.2.1 bt707.2.2.2 bt703.1 ([]:List S162)))
mutual
def spec_ScanSeg.l0:Nat→Int→List S145→List ByteArray→Int→List ByteArray→Int→Int→Option ((List S145)×List ByteArray×Int)
 | 0,_,_,_,_,_,_,_ => none
 | k + 1,x1,x7,x8,x9,x10,x12,x13 => if x13 < (x10.length:Int) then (if 0≤x13 then ((spec_ReadBatch.f k (rdOf ByteArray.empty x10 x13)).bind fun bt740 => (if bt740.2.2 = true then ((spec_Frame.f k (rdOf ByteArray.empty x10 x13)).bind fun bt747 => ((spec_l01Var.f k bt740.1).bind fun t750 => ((spec_l01Var.f k (bt740.2.1.length:Int)).bind fun t751 => (spec_ScanSeg.l1 k x1 x7 x8 x9 x10 x12 x13 bt747.1 (wrap64 ((wrap64 ((wrap64 ((wrap64 (x12 + (bt747.1.size:Int))) - ((rdOf ByteArray.empty x10 x13).size:Int))) + (t750.size:Int))) + (t751.size:Int))) 0 bt740.1 bt740.2.1)))) else (some (x7,x8,x9)))) else (none)) else (some (x7,x8,x9))
def spec_ScanSeg.l1:Nat→Int→List S145→List ByteArray→Int→List ByteArray→Int→Int→ByteArray→Int→Int→Int→List S162→Option ((List S145)×List ByteArray×Int)
 | 0,_,_,_,_,_,_,_,_,_,_,_,_ => none
 | k + 1,x1,x7,x8,x9,x10,x12,x13,x16,x18,x19,x746000,x746001 => if x19 < (x746001.length:Int) then (if 0≤x19 then ((spec_l05Short.f k ((rd_T162 x746001 x19).f0)).bind fun t762 => ((spec_l01Var.f k (((rd_T162 x746001 x19).f1).size:Int)).bind fun t763 => (if (rd_T162 x746001 x19).f2 = true then (if x7.length < 3518437208883 then (spec_ScanSeg.l1 k x1 (x7++[(⟨(rd_T162 x746001 x19).f0,x1,0,(-1)⟩:S145)]) x8 x9 x10 x12 x13 x16 (wrap64 ((wrap64 ((wrap64 ((wrap64 (x18 + (t762.size:Int))) + 1)) + (t763.size:Int))) + (((rd_T162 x746001 x19).f1).size:Int))) (wrap64 (x19 + 1)) x746000 x746001) else (none)) else (if x7.length < 3518437208883 then (spec_ScanSeg.l1 k x1 (x7++[(⟨(rd_T162 x746001 x19).f0,x1,wrap64 ((wrap64 ((wrap64 (x18 + (t762.size:Int))) + 1)) + (t763.size:Int)),(((rd_T162 x746001 x19).f1).size:Int)⟩:S145)]) x8 x9 x10 x12 x13 x16 (wrap64 ((wrap64 ((wrap64 ((wrap64 (x18 + (t762.size:Int))) + 1)) + (t763.size:Int))) + (((rd_T162 x746001 x19).f1).size:Int))) (wrap64 (x19 + 1)) x746000 x746001) else (none))))) else (none)) else (if x746000 > x9 then (if 0≤x13 then (if x13 < (x10.length:Int) then (if x8.length < 8796093022208 then (spec_ScanSeg.l0 k x1 x7 (x8++[rdOf ByteArray.empty x10 x13]) x746000 x10 (wrap64 (x12 + (x16.size:Int))) (wrap64 (x13 + 1))) else (none)) else (none)) else (none)) else (if 0≤x13 then (if x13 < (x10.length:Int) then (if x8.length < 8796093022208 then (spec_ScanSeg.l0 k x1 x7 (x8++[rdOf ByteArray.empty x10 x13]) x9 x10 (wrap64 (x12 + (x16.size:Int))) (wrap64 (x13 + 1))) else (none)) else (none)) else (none)))
end
def spec_ScanSeg.f (k:Nat) (a0:ByteArray) (a1:Int):Option ((List S145)×List ByteArray×Int):=(spec_Unframe.f k a0).bind fun bt735 => (spec_ScanSeg.l0 k a1 (([]:List S145)) (([]:List ByteArray)) (-1) bt735.1 0 0)
mutual
def spec_l08More.l0:Nat→List S145→List S145→Int→Option ((List S145))
 | 0,_,_,_ => none
 | k + 1,x1,x5,x6 => if x6 < (x1.length:Int) then (if 0≤x6 then (spec_l08More.l1 k x1 x5 x6 (([]:List S145)) 0 ((rd_T145 x1 x6).f0) ((rd_T145 x1 x6).f1) ((rd_T145 x1 x6).f2) ((rd_T145 x1 x6).f3)) else (none)) else (some x5)
def spec_l08More.l1:Nat→List S145→List S145→Int→List S145→Int→ByteArray→Int→Int→Int→Option ((List S145))
 | 0,_,_,_,_,_,_,_,_,_ => none
 | k + 1,x1,x5,x6,x8,x9,x778000,x778001,x778002,x778003 => if x9 < (x5.length:Int) then (if 0≤x9 then (if (Op.bytesLess (((rd_T145 x5 x9).f0).toList) x778000.toList) = true then (if x8.length < 3518437208883 then (spec_l08More.l1 k x1 x5 x6 (x8++[(⟨(rd_T145 x5 x9).f0,(rd_T145 x5 x9).f1,(rd_T145 x5 x9).f2,(rd_T145 x5 x9).f3⟩:S145)]) (wrap64 (x9 + 1)) x778000 x778001 x778002 x778003) else (none)) else (spec_l08More.l1 k x1 x5 x6 x8 (wrap64 (x9 + 1)) x778000 x778001 x778002 x778003)) else (none)) else (if x778003 = (-1) then (spec_l08More.j2 k x1 x5 x6 x8 x778000 x778001 x778002 x778003) else (if x8.length < 3518437208883 then (spec_l08More.j2 k x1 x5 x6 (x8++[(⟨x778000,x778001,x778002,x778003⟩:S145)]) x778000 x778001 x778002 x778003) else (none)))
def spec_l08More.j2:Nat→List S145→List S145→Int→List S145→ByteArray→Int→Int→Int→Option ((List S145))
 | 0,_,_,_,_,_,_,_,_ => none
 | k + 1,x1,x5,x6,x8,x778000,x778001,x778002,x778003 => spec_l08More.l2 k x1 x5 x6 x8 0 x778000 x778001 x778002 x778003
def spec_l08More.l2:Nat→List S145→List S145→Int→List S145→Int→ByteArray→Int→Int→Int→Option ((List S145))
 | 0,_,_,_,_,_,_,_,_,_ => none
 | k + 1,x1,x5,x6,x8,x10,x778000,x778001,x778002,x778003 => if x10 < (x5.length:Int) then (if 0≤x10 then (if (Op.bytesLess x778000.toList (((rd_T145 x5 x10).f0).toList)) = true then (if x8.length < 3518437208883 then (spec_l08More.l2 k x1 x5 x6 (x8++[(⟨(rd_T145 x5 x10).f0,(rd_T145 x5 x10).f1,(rd_T145 x5 x10).f2,(rd_T145 x5 x10).f3⟩:S145)]) (wrap64 (x10 + 1)) x778000 x778001 x778002 x778003) else (none)) else (spec_l08More.l2 k x1 x5 x6 x8 (wrap64 (x10 + 1)) x778000 x778001 x778002 x778003)) else (none)) else (spec_l08More.l0 k x1 x8 (wrap64 (x6 + 1)))
end
def spec_l08More.f (k:Nat) (l0:List S145) (l1:List S145):Option ((List S145)):=(some (([]:List S145):List S145)).bind fun y770 => (if y770.length + l0.length < 3518437208883 then (spec_l08More.l0 k l1 (y770++l0) 0) else (none))
def spec_DirOk.l0:Nat→List S145→Int→Option (Bool)
 | 0,_,_ => none
 | k + 1,x0,x3 => if x3 < (x0.length:Int) then (if 0≤x3 then ((spec_l05Key.f ((rd_T145 x0 x3).f0)).bind fun t535 => (if t535 = true then (if x3 > 0 then (if 0≤(wrap64 (x3 - 1)) then (if (wrap64 (x3 - 1)) < (x0.length:Int) then (if ((Op.bytesLess (((rd_T145 x0 (wrap64 (x3 - 1))).f0).toList) (((rd_T145 x0 x3).f0).toList)) = true) then ((spec_l01In.f ((rd_T145 x0 x3).f1) 0 999).bind fun t537 => (if t537 = true then ((spec_l01In.f ((rd_T145 x0 x3).f2) 0 20000).bind fun t538 => (if t538 = true then ((spec_l01In.f ((rd_T145 x0 x3).f3) 0 40).bind fun t539 => (if t539 = true then (spec_DirOk.l0 k x0 (wrap64 (x3 + 1))) else (some false))) else (some false))) else (some false))) else (some false)) else (none)) else (none)) else ((spec_l01In.f ((rd_T145 x0 x3).f1) 0 999).bind fun t540 => (if t540 = true then ((spec_l01In.f ((rd_T145 x0 x3).f2) 0 20000).bind fun t541 => (if t541 = true then ((spec_l01In.f ((rd_T145 x0 x3).f3) 0 40).bind fun t542 => (if t542 = true then (spec_DirOk.l0 k x0 (wrap64 (x3 + 1))) else (some false))) else (some false))) else (some false)))) else (some false))) else (none)) else (some true)
def spec_DirOk.f (k:Nat) (l0:List S145):Option (Bool):=if (l0.length:Int) > 60 then (some false) else (spec_DirOk.l0 k l0 0)
mutual
def spec_l09Load.j0:Nat→Bool→List S122→List Int→Int→Int→Int→List Int→Option (List Int×Int×Int×Int×List Int×(List S145)×Int×Int×Int)
 | 0,_,_,_,_,_,_,_ => none
 | k + 1,x39,x795000,x810000,x810001,x810002,x810003,x810004 => if x39 = true then (some (([]:List Int),0,0,0,([]:List Int),([]:List S145),0,0,2)) else (spec_l09Load.l0 k 0 x795000 x810000 x810001 x810002 x810003 x810004 x810000 x810001 x810002 x810003 x810004 x810002)
def spec_l09Load.l0:Nat→Int→List S122→List Int→Int→Int→Int→List Int→List Int→Int→Int→Int→List Int→Int→Option (List Int×Int×Int×Int×List Int×(List S145)×Int×Int×Int)
 | 0,_,_,_,_,_,_,_,_,_,_,_,_,_ => none
 | k + 1,x10,x795000,x810000,x810001,x810002,x810003,x810004,x811000,x811001,x811002,x811003,x811004,x811006 => if x10 < (x810000.length:Int) then (if 0≤x10 then ((spec_SegName.f k (rd x810000 x10)).bind fun t812 => ((spec_l03At.f k x795000 t812).bind fun t813 => (if t813 < 0 then (some (([]:List Int),0,0,0,([]:List Int),([]:List S145),0,0,3)) else (spec_l09Load.l0 k (wrap64 (x10 + 1)) x795000 x810000 x810001 x810002 x810003 x810004 x811000 x811001 x811002 x811003 x811004 x811006)))) else (none)) else (spec_l09Load.l1 k 0 0 x795000 x810000 x810001 x810002 x810003 x810004 x811000 x811001 x811002 x811003 x811004 ([]:List S145) x811006)
def spec_l09Load.l1:Nat→Int→Int→List S122→List Int→Int→Int→Int→List Int→List Int→Int→Int→Int→List Int→List S145→Int→Option (List Int×Int×Int×Int×List Int×(List S145)×Int×Int×Int)
 | 0,_,_,_,_,_,_,_,_,_,_,_,_,_,_,_ => none
 | k + 1,x11,x12,x795000,x810000,x810001,x810002,x810003,x810004,x811000,x811001,x811002,x811003,x811004,x811005,x811006 => if x12 < (x810000.length:Int) then (if 0≤x12 then ((spec_SegName.f k (rd x810000 x12)).bind fun t816 => ((spec_l03Text.f k x795000 t816).bind fun t817 => ((spec_ScanSeg.f k t817 (rd x810000 x12)).bind fun bt819 => (spec_l09Load.l2 k 0 x12 t817 bt819.1 bt819.2.1 bt819.2.2 0 x795000 x810000 x810001 x810002 x810003 x810004 x811000 x811001 x811002 x811003 x811004 x811005 x811006)))) else (none)) else ((spec_DirOk.f k x811005).bind fun t814 => (if t814 = true then (some (x811000,x811001,x811002,x811003,x811004,x811005,x811006,x11,0)) else (some (([]:List Int),0,0,0,([]:List Int),([]:List S145),0,0,4))))
def spec_l09Load.l2:Nat→Int→Int→ByteArray→List S145→List ByteArray→Int→Int→List S122→List Int→Int→Int→Int→List Int→List Int→Int→Int→Int→List Int→List S145→Int→Option (List Int×Int×Int×Int×List Int×(List S145)×Int×Int×Int)
 | 0,_,_,_,_,_,_,_,_,_,_,_,_,_,_,_,_,_,_,_,_ => none
 | k + 1,x11,x12,x13,x14,x15,x16,x17,x795000,x810000,x810001,x810002,x810003,x810004,x811000,x811001,x811002,x811003,x811004,x811005,x811006 => if x17 < (x15.length:Int) then (if 0≤x17 then ((spec_Frame.f k (rdOf ByteArray.empty x15 x17)).bind fun bt827 => (spec_l09Load.l2 k (wrap64 (x11 + (bt827.1.size:Int))) x12 x13 x14 x15 x16 (wrap64 (x17 + 1)) x795000 x810000 x810001 x810002 x810003 x810004 x811000 x811001 x811002 x811003 x811004 x811005 x811006)) else (none)) else (if x11 < (x13.size:Int) then (spec_l09Load.j4 k x11 x12 x14 x16 (decide ((wrap64 (x12 + 1)) < (x810000.length:Int))) x795000 x810000 x810001 x810002 x810003 x810004 x811000 x811001 x811002 x811003 x811004 x811005 x811006) else (spec_l09Load.j4 k x11 x12 x14 x16 false x795000 x810000 x810001 x810002 x810003 x810004 x811000 x811001 x811002 x811003 x811004 x811005 x811006))
def spec_l09Load.j4:Nat→Int→Int→List S145→Int→Bool→List S122→List Int→Int→Int→Int→List Int→List Int→Int→Int→Int→List Int→List S145→Int→Option (List Int×Int×Int×Int×List Int×(List S145)×Int×Int×Int)
 | 0,_,_,_,_,_,_,_,_,_,_,_,_,_,_,_,_,_,_ => none
 | k + 1,x11,x12,x14,x16,x117,x795000,x810000,x810001,x810002,x810003,x810004,x811000,x811001,x811002,x811003,x811004,x811005,x811006 => if x117 = true then (some (([]:List Int),0,0,0,([]:List Int),([]:List S145),0,0,4)) else ((spec_l08More.f k x811005 x14).bind fun t829 => (if x16 > x811006 then (spec_l09Load.l1 k x11 (wrap64 (x12 + 1)) x795000 x810000 x810001 x810002 x810003 x810004 x811000 x811001 x811002 x811003 x811004 t829 x16) else (spec_l09Load.l1 k x11 (wrap64 (x12 + 1)) x795000 x810000 x810001 x810002 x810003 x810004 x811000 x811001 x811002 x811003 x811004 t829 x811006)))
end
def spec_l09Load.f (k:Nat) (l0_0:List S122):Option (List Int×Int×Int×Int×List Int×(List S145)×Int×Int×Int):=(spec_DiskOk.f k l0_0).bind fun t796 => (if t796 = true then ((spec_FileAt.f k l0_0 (⟨#[109]⟩:ByteArray)).bind fun bt797 => ((spec_ReadManifest.f k bt797.1).bind fun bt799 => (if bt797.2 = true then (spec_l09Load.j0 k (!bt799.2.2.2.2.2) l0_0 bt799.1 bt799.2.1 bt799.2.2.1 bt799.2.2.2.1 bt799.2.2.2.2.1) else (spec_l09Load.j0 k true l0_0 bt799.1 bt799.2.1 bt799.2.2.1 bt799.2.2.2.1 bt799.2.2.2.2.1)))) else (some (([]:List Int),0,0,0,([]:List Int),([]:List S145),0,0,1)))
def spec_ReadDecimal.l0:Nat→ByteArray→Int→Int→Option (Int×Bool)
 | 0,_,_,_ => none
 | k + 1,x0,x4,x5 => if x5 < (x0.size:Int) then (if 0≤x5 then (if (bt x0 x5) < 48 then (some (0,false)) else (if (bt x0 x5) > 57 then (some (0,false)) else (spec_ReadDecimal.l0 k x0 (wrap64 ((wrap64 ((wrap64 (10 * x4)) + (wrap64 (bt x0 x5)))) - 48)) (wrap64 (x5 + 1))))) else (none)) else (if x4 > 1000000000 then (some (0,false)) else ((spec_Decimal.f k x4).bind fun t832 => (if t832.toList = x0.toList then (some (x4,true)) else (some (0,false)))))
def spec_ReadDecimal.f (k:Nat) (a0:ByteArray):Option (Int×Bool):=if (a0.size:Int) > 10 then (some (0,false)) else (spec_ReadDecimal.l0 k a0 0 0)
def spec_l09Seg.f (k:Nat) (a0:ByteArray):Option (Int):=if (a0.size:Int) < 2 then (some (-1)) else (if 1≤(a0.size:Int) then ((spec_ReadDecimal.f k (a0.extract 1 a0.size)).bind fun bt833 => (if bt833.2 = true then ((spec_SegName.f k bt833.1).bind fun t835 => (if t835.toList = a0.toList then (some bt833.1) else (some (-1)))) else (some (-1)))) else (none))
def spec_l09In.l0:Nat→List Int→Int→Int→Option (Bool)
 | 0,_,_,_ => none
 | k + 1,x0,x1,x5 => if x5 < (x0.length:Int) then (if 0≤x5 then (if (rd x0 x5) = x1 then (some true) else (spec_l09In.l0 k x0 x1 (wrap64 (x5 + 1)))) else (none)) else (some false)
def spec_l09In.f (k:Nat) (l0:List Int) (a1:Int):Option (Bool):=spec_l09In.l0 k l0 a1 0
mutual
def spec_OpenShelf.j0:Nat→Int→List S119→List S122→List Int→Int→Int→Int→List Int→List S145→Int→Option (List Int×Int×Int×Int×List Int×(List S145)×Int×(List S119)×Int)
 | 0,_,_,_,_,_,_,_,_,_,_ => none
 | k + 1,x6,x8,x838000,x855000,x855001,x855002,x855003,x855004,x855005,x855006 => spec_OpenShelf.l0 k x6 x8 0 x838000 x855000 x855001 x855002 x855003 x855004 x855005 x855006
def spec_OpenShelf.l0:Nat→Int→List S119→Int→List S122→List Int→Int→Int→Int→List Int→List S145→Int→Option (List Int×Int×Int×Int×List Int×(List S145)×Int×(List S119)×Int)
 | 0,_,_,_,_,_,_,_,_,_,_,_ => none
 | k + 1,x6,x8,x9,x838000,x855000,x855001,x855002,x855003,x855004,x855005,x855006 => if x9 < (x838000.length:Int) then (if 0≤x9 then ((spec_l09Seg.f k ((rd_T122 x838000 x9).f0)).bind fun t863 => (if t863≥0 then ((spec_l09In.f k x855000 t863).bind fun t864 => (if t864 = true then (spec_OpenShelf.l0 k x6 x8 (wrap64 (x9 + 1)) x838000 x855000 x855001 x855002 x855003 x855004 x855005 x855006) else (if x8.length < 2513169434916 then (spec_OpenShelf.l0 k x6 (x8++[(⟨4,(rd_T122 x838000 x9).f0,(⟨#[]⟩:ByteArray),(⟨#[]⟩:ByteArray)⟩:S119)]) (wrap64 (x9 + 1)) x838000 x855000 x855001 x855002 x855003 x855004 x855005 x855006) else (none)))) else (spec_OpenShelf.l0 k x6 x8 (wrap64 (x9 + 1)) x838000 x855000 x855001 x855002 x855003 x855004 x855005 x855006))) else (none)) else (if 0≤(wrap64 ((x855000.length:Int) - 1)) then (if (wrap64 ((x855000.length:Int) - 1)) < (x855000.length:Int) then ((spec_SegName.f k (rd x855000 (wrap64 ((x855000.length:Int) - 1)))).bind fun t870 => ((spec_l03Text.f k x838000 t870).bind fun t871 => (if x6 < (t871.size:Int) then (if 0≤x6 then (if x6≤(t871.size:Int) then (if x8.length < 2513169434916 then (some (x855000,x855001,x855002,x855003,x855004,x855005,x855006,(x8++[(⟨1,t870,(⟨#[]⟩:ByteArray),t871.extract 0 (x6:Int).toNat⟩:S119)]),0)) else (none)) else (none)) else (none)) else (some (x855000,x855001,x855002,x855003,x855004,x855005,x855006,x8,0))))) else (none)) else (none))
end
def spec_OpenShelf.f (k:Nat) (l0_0:List S122):Option (List Int×Int×Int×Int×List Int×(List S145)×Int×(List S119)×Int):=(spec_l09Load.f k l0_0).bind fun bt839 => ((some (([]:List S119):List S119)).bind fun y855 => (if bt839.2.2.2.2.2.2.2.2 = 0 then ((spec_l03At.f k l0_0 (⟨#[109,43]⟩:ByteArray)).bind fun t858 => (if t858≥0 then (if y855.length < 2513169434916 then (spec_OpenShelf.j0 k bt839.2.2.2.2.2.2.2.1 (y855++[(⟨4,(⟨#[109,43]⟩:ByteArray),(⟨#[]⟩:ByteArray),(⟨#[]⟩:ByteArray)⟩:S119)]) l0_0 bt839.1 bt839.2.1 bt839.2.2.1 bt839.2.2.2.1 bt839.2.2.2.2.1 bt839.2.2.2.2.2.1 bt839.2.2.2.2.2.2.1) else (none)) else (spec_OpenShelf.j0 k bt839.2.2.2.2.2.2.2.1 y855 l0_0 bt839.1 bt839.2.1 bt839.2.2.1 bt839.2.2.2.1 bt839.2.2.2.2.1 bt839.2.2.2.2.2.1 bt839.2.2.2.2.2.2.1))) else (some (([]:List Int),0,0,0,([]:List Int),([]:List S145),0,y855,bt839.2.2.2.2.2.2.2.2))))
def spec_l09SameInts.l0:Nat→List Int→List Int→Int→Option (Bool)
 | 0,_,_,_ => none
 | k + 1,x0,x1,x5 => if x5 < (x0.length:Int) then (if 0≤x5 then (if x5 < (x1.length:Int) then (if (rd x0 x5) = (rd x1 x5) then (spec_l09SameInts.l0 k x0 x1 (wrap64 (x5 + 1))) else (some false)) else (none)) else (none)) else (some true)
def spec_l09SameInts.f (k:Nat) (l0:List Int) (l1:List Int):Option (Bool):=if (l0.length:Int) = (l1.length:Int) then (spec_l09SameInts.l0 k l0 l1 0) else (some false)
mutual
def spec_l09Same.j0:Nat→Bool→List Int→Int→Int→Int→List Int→List S145→Int→List Int→Int→Int→Int→List Int→List S145→Int→Option (Bool)
 | 0,_,_,_,_,_,_,_,_,_,_,_,_,_,_,_ => none
 | k + 1,x66,x878000,x878001,x878002,x878003,x878004,x878005,x878006,x879000,x879001,x879002,x879003,x879004,x879005,x879006 => if x66 = true then (some false) else (spec_l09Same.l0 k 0 x878000 x878001 x878002 x878003 x878004 x878005 x878006 x879000 x879001 x879002 x879003 x879004 x879005 x879006)
def spec_l09Same.l0:Nat→Int→List Int→Int→Int→Int→List Int→List S145→Int→List Int→Int→Int→Int→List Int→List S145→Int→Option (Bool)
 | 0,_,_,_,_,_,_,_,_,_,_,_,_,_,_,_ => none
 | k + 1,x5,x878000,x878001,x878002,x878003,x878004,x878005,x878006,x879000,x879001,x879002,x879003,x879004,x879005,x879006 => if x5 < (x878005.length:Int) then (if 0≤x5 then (if x5 < (x879005.length:Int) then (if (!((((rd_T145 x878005 x5).f0).toList) == (((rd_T145 x879005 x5).f0).toList)) || (!(((rd_T145 x878005 x5).f1) == ((rd_T145 x879005 x5).f1)) || (!(((rd_T145 x878005 x5).f2) == ((rd_T145 x879005 x5).f2)) || (!(((rd_T145 x878005 x5).f3) == ((rd_T145 x879005 x5).f3)))))) = true then (some false) else (spec_l09Same.l0 k (wrap64 (x5 + 1)) x878000 x878001 x878002 x878003 x878004 x878005 x878006 x879000 x879001 x879002 x879003 x879004 x879005 x879006)) else (none)) else (none)) else (some true)
end
def spec_l09Same.f (k:Nat) (l0_0:List Int) (a0_1:Int) (a0_2:Int) (a0_3:Int) (l0_4:List Int) (l0_5:List S145) (a0_6:Int) (l1_0:List Int) (a1_1:Int) (a1_2:Int) (a1_3:Int) (l1_4:List Int) (l1_5:List S145) (a1_6:Int):Option (Bool):=if a0_6 = a1_6 then ((spec_l09SameInts.f k l0_0 l1_0).bind fun t879 => (if t879 = true then (if a0_1 = a1_1 then (if a0_2 = a1_2 then (if a0_3 = a1_3 then ((spec_l09SameInts.f k l0_4 l1_4).bind fun t880 => (if t880 = true then (spec_l09Same.j0 k ((l0_5.length:Int) != (l1_5.length:Int)) l0_0 a0_1 a0_2 a0_3 l0_4 l0_5 a0_6 l1_0 a1_1 a1_2 a1_3 l1_4 l1_5 a1_6) else (spec_l09Same.j0 k true l0_0 a0_1 a0_2 a0_3 l0_4 l0_5 a0_6 l1_0 a1_1 a1_2 a1_3 l1_4 l1_5 a1_6))) else (spec_l09Same.j0 k true l0_0 a0_1 a0_2 a0_3 l0_4 l0_5 a0_6 l1_0 a1_1 a1_2 a1_3 l1_4 l1_5 a1_6)) else (spec_l09Same.j0 k true l0_0 a0_1 a0_2 a0_3 l0_4 l0_5 a0_6 l1_0 a1_1 a1_2 a1_3 l1_4 l1_5 a1_6)) else (spec_l09Same.j0 k true l0_0 a0_1 a0_2 a0_3 l0_4 l0_5 a0_6 l1_0 a1_1 a1_2 a1_3 l1_4 l1_5 a1_6)) else (spec_l09Same.j0 k true l0_0 a0_1 a0_2 a0_3 l0_4 l0_5 a0_6 l1_0 a1_1 a1_2 a1_3 l1_4 l1_5 a1_6))) else (spec_l09Same.j0 k true l0_0 a0_1 a0_2 a0_3 l0_4 l0_5 a0_6 l1_0 a1_1 a1_2 a1_3 l1_4 l1_5 a1_6)
def spec_l09Clean.f (k:Nat) (l0_0:List S122) (l1_0:List Int) (a1_1:Int) (a1_2:Int) (a1_3:Int) (l1_4:List Int) (l1_5:List S145) (a1_6:Int):Option (Bool):=(spec_OpenShelf.f k l0_0).bind fun bt885 => (if bt885.2.2.2.2.2.2.2.2 = 0 then (if (bt885.2.2.2.2.2.2.2.1.length:Int) = 0 then ((spec_l09Same.f k l1_0 a1_1 a1_2 a1_3 l1_4 l1_5 a1_6 bt885.1 bt885.2.1 bt885.2.2.1 bt885.2.2.2.1 bt885.2.2.2.2.1 bt885.2.2.2.2.2.1 bt885.2.2.2.2.2.2.1).bind fun t903 => (some t903)) else (some false)) else (some false))
mutual
def spec_ShelfMap.j0:Nat→List S147→Bool→List S122→List Int→Int→Int→Int→List Int→List S145→Int→Option ((List S147)×Bool)
 | 0,_,_,_,_,_,_,_,_,_,_ => none
 | k + 1,x6,x19,x544000,x545000,x545001,x545002,x545003,x545004,x545005,x545006 => if x19 = true then (some (x6,false)) else (spec_ShelfMap.l0 k x6 0 x544000 x545000 x545001 x545002 x545003 x545004 x545005 x545006)
def spec_ShelfMap.l0:Nat→List S147→Int→List S122→List Int→Int→Int→Int→List Int→List S145→Int→Option ((List S147)×Bool)
 | 0,_,_,_,_,_,_,_,_,_,_ => none
 | k + 1,x6,x7,x544000,x545000,x545001,x545002,x545003,x545004,x545005,x545006 => if x7 < (x545005.length:Int) then (if 0≤x7 then ((spec_SegName.f k ((rd_T145 x545005 x7).f1)).bind fun t552 => ((spec_l03Text.f k x544000 t552).bind fun t553 => (if (wrap64 (((rd_T145 x545005 x7).f2) + ((rd_T145 x545005 x7).f3))) > (t553.size:Int) then (some ((([]:List S147)),false)) else (if 0≤((rd_T145 x545005 x7).f2) then (if ((rd_T145 x545005 x7).f2)≤(wrap64 (((rd_T145 x545005 x7).f2) + ((rd_T145 x545005 x7).f3))) then (if (wrap64 (((rd_T145 x545005 x7).f2) + ((rd_T145 x545005 x7).f3)))≤(t553.size:Int) then (if x6.length < 4398046511104 then (spec_ShelfMap.l0 k (x6++[(⟨(rd_T145 x545005 x7).f0,t553.extract (((rd_T145 x545005 x7).f2):Int).toNat ((wrap64 (((rd_T145 x545005 x7).f2) + ((rd_T145 x545005 x7).f3))):Int).toNat⟩:S147)]) (wrap64 (x7 + 1)) x544000 x545000 x545001 x545002 x545003 x545004 x545005 x545006) else (none)) else (none)) else (none)) else (none))))) else (none)) else (some (x6,true))
end
def spec_ShelfMap.f (k:Nat) (l0_0:List S122) (l1_0:List Int) (a1_1:Int) (a1_2:Int) (a1_3:Int) (l1_4:List Int) (l1_5:List S145) (a1_6:Int):Option ((List S147)×Bool):=(some (([]:List S147):List S147)).bind fun y545 => ((spec_DiskOk.f k l0_0).bind fun t548 => (if t548 = true then ((spec_DirOk.f k l1_5).bind fun t549 => (spec_ShelfMap.j0 k y545 (!t549) l0_0 l1_0 a1_1 a1_2 a1_3 l1_4 l1_5 a1_6)) else (spec_ShelfMap.j0 k y545 true l0_0 l1_0 a1_1 a1_2 a1_3 l1_4 l1_5 a1_6)))
def spec_MapOk.l0:Nat→List S147→Int→Option (Bool)
 | 0,_,_ => none
 | k + 1,x0,x3 => if x3 < (x0.length:Int) then (if 0≤x3 then ((spec_l05Key.f ((rd_T147 x0 x3).f0)).bind fun t905 => (if t905 = true then (if (((rd_T147 x0 x3).f1).size:Int) > 40 then (some false) else (if x3 > 0 then (if 0≤(wrap64 (x3 - 1)) then (if (wrap64 (x3 - 1)) < (x0.length:Int) then (if ((Op.bytesLess (((rd_T147 x0 (wrap64 (x3 - 1))).f0).toList) (((rd_T147 x0 x3).f0).toList)) = true) then (spec_MapOk.l0 k x0 (wrap64 (x3 + 1))) else (some false)) else (none)) else (none)) else (spec_MapOk.l0 k x0 (wrap64 (x3 + 1))))) else (some false))) else (none)) else (some true)
def spec_MapOk.f (k:Nat) (l0:List S147):Option (Bool):=if (l0.length:Int) > 60 then (some false) else (spec_MapOk.l0 k l0 0)
mutual
def spec_MapBatch.j0:Nat→List S147→Int→Bool→Option (Int×(List S162)×Bool)
 | 0,_,_,_ => none
 | k + 1,x0,x1,x15 => if x15 = true then (some (0,([]:List S162),false)) else (spec_MapBatch.l0 k x0 0 x1 ([]:List S162))
def spec_MapBatch.l0:Nat→List S147→Int→Int→List S162→Option (Int×(List S162)×Bool)
 | 0,_,_,_,_ => none
 | k + 1,x0,x7,x913000,x913001 => if x7 < (x0.length:Int) then (if 0≤x7 then (if x913001.length < 3518437208883 then (spec_MapBatch.l0 k x0 (wrap64 (x7 + 1)) x913000 (x913001++[(⟨(rd_T147 x0 x7).f0,(rd_T147 x0 x7).f1,false⟩:S162)])) else (none)) else (none)) else (some (x913000,x913001,true))
end
def spec_MapBatch.f (k:Nat) (l0:List S147) (a1:Int):Option (Int×(List S162)×Bool):=(spec_MapOk.f k l0).bind fun t910 => (if t910 = true then ((spec_l01In.f a1 0 100000).bind fun t911 => (spec_MapBatch.j0 k l0 a1 (!t911))) else (spec_MapBatch.j0 k l0 a1 true))
def spec_l09NewMan.f (k:Nat) (l0_0:List Int) (a0_1:Int) (a0_2:Int) (a0_3:Int) (l0_4:List Int):Option ((List S119)×Bool):=(spec_ManifestText.f k l0_0 a0_1 a0_2 a0_3 l0_4).bind fun bt919 => (some ((([(⟨1,(⟨#[109,43]⟩:ByteArray),(⟨#[]⟩:ByteArray),bt919.1⟩:S119),(⟨3,(⟨#[109,43]⟩:ByteArray),(⟨#[109]⟩:ByteArray),(⟨#[]⟩:ByteArray)⟩:S119)]:List S119)),bt919.2))
mutual
def spec_l03Put.l0:Nat→Int→List S122→ByteArray→ByteArray→List S122→Option ((List S122))
 | 0,_,_,_,_,_ => none
 | k + 1,x6,x925000,x926000,x926001,x928000 => if x6 < (x925000.length:Int) then (if 0≤x6 then (if (Op.bytesLess (((rd_T122 x925000 x6).f0).toList) x926000.toList) = true then (if x928000.length < 4398046511104 then (spec_l03Put.l0 k (wrap64 (x6 + 1)) x925000 x926000 x926001 (x928000++[(⟨(rd_T122 x925000 x6).f0,(rd_T122 x925000 x6).f1⟩:S122)])) else (none)) else (spec_l03Put.l0 k (wrap64 (x6 + 1)) x925000 x926000 x926001 x928000)) else (none)) else (if x928000.length < 4398046511104 then (spec_l03Put.l1 k 0 x925000 x926000 x926001 (x928000++[(⟨x926000,x926001⟩:S122)])) else (none))
def spec_l03Put.l1:Nat→Int→List S122→ByteArray→ByteArray→List S122→Option ((List S122))
 | 0,_,_,_,_,_ => none
 | k + 1,x7,x925000,x926000,x926001,x928000 => if x7 < (x925000.length:Int) then (if 0≤x7 then (if (Op.bytesLess x926000.toList (((rd_T122 x925000 x7).f0).toList)) = true then (if x928000.length < 4398046511104 then (spec_l03Put.l1 k (wrap64 (x7 + 1)) x925000 x926000 x926001 (x928000++[(⟨(rd_T122 x925000 x7).f0,(rd_T122 x925000 x7).f1⟩:S122)])) else (none)) else (spec_l03Put.l1 k (wrap64 (x7 + 1)) x925000 x926000 x926001 x928000)) else (none)) else (some x928000)
end
def spec_l03Put.f (k:Nat) (l0_0:List S122) (a1_0:ByteArray) (a1_1:ByteArray):Option ((List S122)):=spec_l03Put.l0 k 0 l0_0 a1_0 a1_1 ([]:List S122)
def spec_l03Drop.l0:Nat→ByteArray→Int→List S122→List S122→Option ((List S122))
 | 0,_,_,_,_ => none
 | k + 1,x1,x6,x942000,x944000 => if x6 < (x942000.length:Int) then (if 0≤x6 then (if ((rd_T122 x942000 x6).f0).toList = x1.toList then (spec_l03Drop.l0 k x1 (wrap64 (x6 + 1)) x942000 x944000) else (if x944000.length < 4398046511104 then (spec_l03Drop.l0 k x1 (wrap64 (x6 + 1)) x942000 (x944000++[(⟨(rd_T122 x942000 x6).f0,(rd_T122 x942000 x6).f1⟩:S122)])) else (none))) else (none)) else (some x944000)
def spec_l03Drop.f (k:Nat) (l0_0:List S122) (a1:ByteArray):Option ((List S122)):=spec_l03Drop.l0 k a1 0 l0_0 ([]:List S122)
def spec_PutRaw.j0:Nat→Int→Bool→List S122→Int→ByteArray→ByteArray→ByteArray→Option ((List S122)×Bool)
 | 0,_,_,_,_,_,_,_ => none
 | k + 1,x6,x29,x950000,x951000,x951001,x951002,x951003 => if x29 = true then (some (([]:List S122),false)) else ((some (([]:List S122):List S122)).bind fun y955 => (if y955.length + x950000.length < 4398046511104 then ((some (y955++x950000:List S122)).bind fun y958 => (if x951000 = 1 then ((spec_l03Put.f k x950000 x951001 x951003).bind fun t962 => ((spec_DiskOk.f k t962).bind fun t965 => (if t965 = true then (some (t962,true)) else (some (([]:List S122),false))))) else (if x951000 = 2 then ((spec_l03Text.f k x950000 x951001).bind fun t966 => (if t966.size + x951003.size≤9223372036854775807 then ((spec_l03Put.f k x950000 x951001 (t966++x951003)).bind fun t967 => ((spec_DiskOk.f k t967).bind fun t970 => (if t970 = true then (some (t967,true)) else (some (([]:List S122),false))))) else (none))) else (if x951000 = 3 then (if x951002.toList = x951001.toList then ((spec_DiskOk.f k y958).bind fun t971 => (if t971 = true then (some (y958,true)) else (some (([]:List S122),false)))) else ((spec_l03Drop.f k x950000 x951001).bind fun t972 => (if 0≤x6 then (if x6 < (x950000.length:Int) then ((spec_l03Put.f k t972 x951002 ((rd_T122 x950000 x6).f1)).bind fun t976 => ((spec_DiskOk.f k t976).bind fun t979 => (if t979 = true then (some (t976,true)) else (some (([]:List S122),false))))) else (none)) else (none)))) else (if x951000 = 4 then ((spec_l03Drop.f k x950000 x951001).bind fun t980 => ((spec_DiskOk.f k t980).bind fun t983 => (if t983 = true then (some (t980,true)) else (some (([]:List S122),false))))) else ((spec_DiskOk.f k y958).bind fun t984 => (if t984 = true then (some (y958,true)) else (some (([]:List S122),false))))))))) else (none)))
def spec_PutRaw.f (k:Nat) (l0_0:List S122) (a1_0:Int) (a1_1:ByteArray) (a1_2:ByteArray) (a1_3:ByteArray):Option ((List S122)×Bool):=(spec_l03At.f k l0_0 a1_1).bind fun t952 => ((spec_DiskOk.f k l0_0).bind fun t953 => (if t953 = true then ((spec_l01In.f a1_0 1 4).bind fun t954 => (if t954 = true then (if t952 < 0 then (spec_PutRaw.j0 k t952 (decide (a1_0≥3)) l0_0 a1_0 a1_1 a1_2 a1_3) else (spec_PutRaw.j0 k t952 false l0_0 a1_0 a1_1 a1_2 a1_3)) else (spec_PutRaw.j0 k t952 true l0_0 a1_0 a1_1 a1_2 a1_3))) else (spec_PutRaw.j0 k t952 true l0_0 a1_0 a1_1 a1_2 a1_3)))
mutual
def spec_PutRaws.j0:Nat→List S119→Bool→List S122→Option ((List S122)×Int)
 | 0,_,_,_ => none
 | k + 1,x1,x17,x986000 => if x17 = true then (some (([]:List S122),0)) else ((some (([]:List S122):List S122)).bind fun y988 => (if y988.length + x986000.length < 4398046511104 then (spec_PutRaws.l0 k x1 0 (y988++x986000)) else (none)))
def spec_PutRaws.l0:Nat→List S119→Int→List S122→Option ((List S122)×Int)
 | 0,_,_,_ => none
 | k + 1,x1,x7,x995000 => if x7 < (x1.length:Int) then (if 0≤x7 then ((spec_PutRaw.f k x995000 ((rd_T119 x1 x7).f0) ((rd_T119 x1 x7).f1) ((rd_T119 x1 x7).f2) ((rd_T119 x1 x7).f3)).bind fun bt996 => (if bt996.2 = true then (spec_PutRaws.l0 k x1 (wrap64 (x7 + 1)) bt996.1) else (some (x995000,x7)))) else (none)) else (some (x995000,(x1.length:Int)))
end
def spec_PutRaws.f (k:Nat) (l0_0:List S122) (l1:List S119):Option ((List S122)×Int):=(spec_DiskOk.f k l0_0).bind fun t987 => (if t987 = true then (spec_PutRaws.j0 k l1 (decide ((l1.length:Int) > 60)) l0_0) else (spec_PutRaws.j0 k l1 true l0_0))
def spec_l09After.f (k:Nat) (l0_0:List S122) (l1:List S119):Option (List Int×Int×Int×Int×List Int×(List S145)×Int×Bool):=(spec_PutRaws.f k l0_0 l1).bind fun bt1003 => (if bt1003.2 = (l1.length:Int) then ((spec_OpenShelf.f k bt1003.1).bind fun bt1008 => (if bt1008.2.2.2.2.2.2.2.2 = 0 then (some (bt1008.1,bt1008.2.1,bt1008.2.2.1,bt1008.2.2.2.1,bt1008.2.2.2.2.1,bt1008.2.2.2.2.2.1,bt1008.2.2.2.2.2.2.1,((bt1008.2.2.2.2.2.2.2.1.length:Int) == 0))) else (some (bt1008.1,bt1008.2.1,bt1008.2.2.1,bt1008.2.2.2.1,bt1008.2.2.2.2.1,bt1008.2.2.2.2.2.1,bt1008.2.2.2.2.2.2.1,false)))) else (some (([]:List Int),0,0,0,([]:List Int),([]:List S145),0,false)))
mutual
def spec_l10New.j0:Nat→ByteArray→ByteArray→List S119→Bool→List S122→List Int→Int→Int→Int→List Int→List S145→Int→Option (List Int×Int×Int×Int×List Int×(List S145)×Int×(List S119)×Bool)
 | 0,_,_,_,_,_,_,_,_,_,_,_,_ => none
 | k + 1,x2,x15,x17,x51,x1027000,x1028000,x1028001,x1028002,x1028003,x1028004,x1028005,x1028006 => if x51 = true then (some (([]:List Int),0,0,0,([]:List Int),([]:List S145),0,(([]:List S119)),false)) else ((some (([(⟨1,x15,(⟨#[]⟩:ByteArray),x2⟩:S119)]:List S119):List S119)).bind fun y1047 => (if y1047.length + x17.length < 2513169434916 then (spec_l10New.l0 k (y1047++x17) 0 x1027000 x1028000 x1028001 x1028002 x1028003 x1028004 x1028005 x1028006) else (none)))
def spec_l10New.l0:Nat→List S119→Int→List S122→List Int→Int→Int→Int→List Int→List S145→Int→Option (List Int×Int×Int×Int×List Int×(List S145)×Int×(List S119)×Bool)
 | 0,_,_,_,_,_,_,_,_,_,_ => none
 | k + 1,x19,x20,x1027000,x1028000,x1028001,x1028002,x1028003,x1028004,x1028005,x1028006 => if x20 < (x1028000.length:Int) then (if 0≤x20 then ((spec_SegName.f k (rd x1028000 x20)).bind fun t1054 => (if x19.length < 2513169434916 then (spec_l10New.l0 k (x19++[(⟨4,t1054,(⟨#[]⟩:ByteArray),(⟨#[]⟩:ByteArray)⟩:S119)]) (wrap64 (x20 + 1)) x1027000 x1028000 x1028001 x1028002 x1028003 x1028004 x1028005 x1028006) else (none))) else (none)) else ((spec_l09After.f k x1027000 x19).bind fun bt1058 => (if bt1058.2.2.2.2.2.2.2 = true then (some (bt1058.1,bt1058.2.1,bt1058.2.2.1,bt1058.2.2.2.1,bt1058.2.2.2.2.1,bt1058.2.2.2.2.2.1,bt1058.2.2.2.2.2.2.1,x19,true)) else (some (([]:List Int),0,0,0,([]:List Int),([]:List S145),0,(([]:List S119)),false))))
end
def spec_l10New.f (k:Nat) (l0_0:List S122) (l1_0:List Int) (a1_1:Int) (a1_2:Int) (a1_3:Int) (l1_4:List Int) (l1_5:List S145) (a1_6:Int) (a2:ByteArray) (a3:Int) (a4:Int) (l5:List Int):Option (List Int×Int×Int×Int×List Int×(List S145)×Int×(List S119)×Bool):=(spec_SegName.f k a1_1).bind fun t1029 => ((some (([]:List Int):List Int)).bind fun y1033 => (if y1033.length + l5.length < 17592186044416 then ((spec_l09NewMan.f k (([a1_1]:List Int)) (wrap64 (a1_1 + 1)) a3 a4 (y1033++l5)).bind fun bt1040 => (if bt1040.2 = true then (spec_l10New.j0 k a2 t1029 bt1040.1 (t1029.toList == ([]:List UInt8)) l0_0 l1_0 a1_1 a1_2 a1_3 l1_4 l1_5 a1_6) else (spec_l10New.j0 k a2 t1029 bt1040.1 true l0_0 l1_0 a1_1 a1_2 a1_3 l1_4 l1_5 a1_6))) else (none)))
def spec_MergeShelf.j0:Nat→Int→Int→List Int→Bool→List S122→List Int→Int→Int→Int→List Int→List S145→Int→Option (List Int×Int×Int×Int×List Int×(List S145)×Int×(List S119)×Bool)
 | 0,_,_,_,_,_,_,_,_,_,_,_,_ => none
 | k + 1,x2,x3,x4,x30,x1077000,x1078000,x1078001,x1078002,x1078003,x1078004,x1078005,x1078006 => if x30 = true then (some (([]:List Int),0,0,0,([]:List Int),([]:List S145),0,(([]:List S119)),false)) else ((spec_ShelfMap.f k x1077000 x1078000 x1078001 x1078002 x1078003 x1078004 x1078005 x1078006).bind fun bt1083 => ((spec_MapBatch.f k bt1083.1 x1078006).bind fun bt1087 => ((spec_BatchText.f k bt1087.1 bt1087.2.1).bind fun bt1093 => ((spec_Frame.f k bt1093.1).bind fun bt1095 => ((spec_l10New.f k x1077000 x1078000 x1078001 x1078002 x1078003 x1078004 x1078005 x1078006 bt1095.1 x2 x3 x4).bind fun bt1097 => (some (bt1097.1,bt1097.2.1,bt1097.2.2.1,bt1097.2.2.2.1,bt1097.2.2.2.2.1,bt1097.2.2.2.2.2.1,bt1097.2.2.2.2.2.2.1,bt1097.2.2.2.2.2.2.2.1,bt1097.2.2.2.2.2.2.2.2)))))))
def spec_MergeShelf.f (k:Nat) (l0_0:List S122) (l1_0:List Int) (a1_1:Int) (a1_2:Int) (a1_3:Int) (l1_4:List Int) (l1_5:List S145) (a1_6:Int) (a2:Int) (a3:Int) (l4:List Int):Option (List Int×Int×Int×Int×List Int×(List S145)×Int×(List S119)×Bool):=(spec_l09Clean.f k l0_0 l1_0 a1_1 a1_2 a1_3 l1_4 l1_5 a1_6).bind fun t1079 => (if t1079 = true then (spec_MergeShelf.j0 k a2 a3 l4 (a2 != a1_6) l0_0 l1_0 a1_1 a1_2 a1_3 l1_4 l1_5 a1_6) else (spec_MergeShelf.j0 k a2 a3 l4 true l0_0 l1_0 a1_1 a1_2 a1_3 l1_4 l1_5 a1_6))
def impl_within.f (a0:Int) (a1:Int) (a2:Int):Option (Bool):=if a0≥a1 then (some (decide (a0≤a2))) else (some false)
def impl_DiskOk.l0:Nat→List S122→Int→Int→List S122→Option (Bool)
 | 0,_,_,_,_ => none
 | k + 1,x6,x7,x8,x254000 => if x8 < x7 then (if 0≤x8 then (if x8 < (x6.length:Int) then ((impl_within.f (((rd_T122 x6 x8).f0).size:Int) 1 12).bind fun t256 => (if t256 = true then (if (((rd_T122 x6 x8).f1).size:Int) > 20000 then (some false) else (if x8 > 0 then (if 0≤(wrap64 (x8 - 1)) then (if (wrap64 (x8 - 1)) < (x254000.length:Int) then (if ((Op.bytesLess (((rd_T122 x254000 (wrap64 (x8 - 1))).f0).toList) (((rd_T122 x6 x8).f0).toList)) = true) then (impl_DiskOk.l0 k x6 x7 (wrap64 (x8 + 1)) x254000) else (some false)) else (none)) else (none)) else (impl_DiskOk.l0 k x6 x7 (wrap64 (x8 + 1)) x254000))) else (some false))) else (none)) else (none)) else (some (decide ((x254000.length:Int)≤30)))
def impl_DiskOk.f (k:Nat) (l0_0:List S122):Option (Bool):=impl_DiskOk.l0 k l0_0 (l0_0.length:Int) 0 l0_0
def strings_Compare.f (a0 a1:ByteArray):Option Int:=some (Lib.compareBytes a0.data.toList a1.data.toList)
def impl_fileNo_c1.f (a0_0:ByteArray) (a0_1:ByteArray) (a1:ByteArray):Option Int:=(strings_Compare.f a0_0 a1).bind fun t0 => (some t0)
def slices_BinarySearchFunc_impl_File_impl_File_string.l0:Nat→(List S122)→ByteArray→Int→Int→Int→Option (Int×Bool)
 | 0,_,_,_,_,_ => none
 | k + 1,x0,x1,x8,x9,x10 => if x9 < x10 then (if 0≤wrap64 (((wrap64 (x9 + x10)) % 18446744073709551616) / 2) then (if wrap64 (((wrap64 (x9 + x10)) % 18446744073709551616) / 2) < (x0.length:Int) then ((impl_fileNo_c1.f ((rd_T122 x0 (wrap64 (((wrap64 (x9 + x10)) % 18446744073709551616) / 2))).f0) ((rd_T122 x0 (wrap64 (((wrap64 (x9 + x10)) % 18446744073709551616) / 2))).f1) x1).bind fun t0 => (if t0 < 0 then (slices_BinarySearchFunc_impl_File_impl_File_string.l0 k x0 x1 x8 (wrap64 ((wrap64 (((wrap64 (x9 + x10)) % 18446744073709551616) / 2)) + 1)) x10) else (slices_BinarySearchFunc_impl_File_impl_File_string.l0 k x0 x1 x8 x9 (wrap64 (((wrap64 (x9 + x10)) % 18446744073709551616) / 2))))) else none) else none) else (if x9 < x8 then (if 0≤x9 then (if x9 < (x0.length:Int) then ((impl_fileNo_c1.f ((rd_T122 x0 x9).f0) ((rd_T122 x0 x9).f1) x1).bind fun t1 => (some (x9,(t1 == 0)))) else none) else none) else (some (x9,false)))
def slices_BinarySearchFunc_impl_File_impl_File_string.f (k:Nat) (l0:List S122) (a1:ByteArray):Option (Int×Bool):=slices_BinarySearchFunc_impl_File_impl_File_string.l0 k l0 a1 (l0.length:Int) 0 (l0.length:Int)
def impl_fileNo.f (k:Nat) (l0_0:List S122) (a1:ByteArray):Option (Int×Bool):=(slices_BinarySearchFunc_impl_File_impl_File_string.f k l0_0 a1).bind fun t0 => (some (t0.1,t0.2))
def impl_FileAt.f (k:Nat) (l0_0:List S122) (a1:ByteArray):Option (ByteArray×Bool):=(impl_DiskOk.f k l0_0).bind fun t0 => (if t0 = true then ((impl_fileNo.f k l0_0 a1).bind fun t1 => (if t1.2 = true then (if 0≤t1.1 then (if t1.1 < (l0_0.length:Int) then (some ((rd_T122 l0_0 t1.1).f1,true)) else none) else none) else (some ((⟨#[]⟩:ByteArray),false)))) else (some ((⟨#[]⟩:ByteArray),false)))
mutual
def impl_SumMore.l0:Nat→Int→ByteArray→Int→Option (Int)
 | 0,_,_,_ => none
 | k + 1,x0,x1,x5 => if x5 < (x1.size:Int) then (if 0≤x5 then (impl_SumMore.l1 k (Go.bits .xor .u32 x0 ((bt x1 x5) % 4294967296)) x1 x5 0) else (none)) else (some x0)
def impl_SumMore.l1:Nat→Int→ByteArray→Int→Int→Option (Int)
 | 0,_,_,_,_ => none
 | k + 1,x0,x1,x5,x6 => if x6 < 8 then (if (Int.tmod x0 2) = 1 then (impl_SumMore.l1 k (Go.bits .xor .u32 ((Int.tdiv x0 2) % 4294967296) 3558460437) x1 x5 (wrap64 (x6 + 1))) else (impl_SumMore.l1 k ((Int.tdiv x0 2) % 4294967296) x1 x5 (wrap64 (x6 + 1)))) else (impl_SumMore.l0 k x0 x1 (wrap64 (x5 + 1)))
end
def impl_SumMore.f (k:Nat) (a0:Int) (a1:ByteArray):Option (Int):=impl_SumMore.l0 k a0 a1 0
def impl_SumOf.f (k:Nat) (a0:ByteArray):Option (Int):=(impl_SumMore.f k 4294967295 a0).bind fun t292 => (some t292)
def impl_Sealed.f (k:Nat) (a0:ByteArray):Option (ByteArray×Bool):=if (a0.size:Int) > 20000 then (some ((⟨#[]⟩:ByteArray),false)) else ((impl_SumOf.f k a0).bind fun t359 => ((some (([(t359 / 16777216) % 256,(t359 / 65536) % 256,(t359 / 256) % 256,(t359) % 256]:List Int):List Int)).bind fun y360 => (if a0.size + (strOfNums y360).size≤9223372036854775807 then (some (a0++(strOfNums y360),true)) else (none))))
def impl_Unsealed.f (k:Nat) (a0:ByteArray):Option (ByteArray×Bool):=if (a0.size:Int) < 4 then (some ((⟨#[]⟩:ByteArray),false)) else (if 0≤(wrap64 ((a0.size:Int) - 4)) then (if (wrap64 ((a0.size:Int) - 4))≤(a0.size:Int) then ((impl_Sealed.f k (a0.extract 0 ((wrap64 ((a0.size:Int) - 4)):Int).toNat)).bind fun bt363 => (if bt363.2 = true then (if bt363.1.toList = a0.toList then (some (a0.extract 0 ((wrap64 ((a0.size:Int) - 4)):Int).toNat,true)) else (some ((⟨#[]⟩:ByteArray),false))) else (some ((⟨#[]⟩:ByteArray),false)))) else (none)) else (none))
def impl_VarText.l0:Nat→Int→List Int→Option (ByteArray×Bool)
 | 0,_,_ => none
 | k + 1,x0,x4 => if x0 > 127 then (if x4.length < 140737488355328 then (impl_VarText.l0 k (wrap64 (Int.tdiv x0 128)) (x4++[(wrap64 ((Int.tmod x0 128) + 128)) % 256])) else (none)) else (if x4.length < 140737488355328 then (some (strOfNums (x4++[(x0) % 256]),true)) else (none))
def impl_VarText.f (k:Nat) (a0:Int):Option (ByteArray×Bool):=(impl_within.f a0 0 1000000000).bind fun t285 => (if t285 = true then (impl_VarText.l0 k a0 ([]:List Int)) else (some ((⟨#[]⟩:ByteArray),false)))
mutual
def impl_ReadVar.l0:Nat→ByteArray→Int→Int→Int→Option (Int×Int×Bool)
 | 0,_,_,_,_ => none
 | k + 1,x0,x1,x7,x8 => if x8 < 5 then (impl_ReadVar.j1 k x0 x1 x7 x8 (decide ((wrap64 (x1 + x8)) < (x0.size:Int)))) else (impl_ReadVar.j1 k x0 x1 x7 x8 false)
def impl_ReadVar.j1:Nat→ByteArray→Int→Int→Int→Bool→Option (Int×Int×Bool)
 | 0,_,_,_,_,_ => none
 | k + 1,x0,x1,x7,x8,x26 => if x26 = true then (if 0≤(wrap64 (x1 + x8)) then (if (wrap64 (x1 + x8)) < (x0.size:Int) then (if 0≤(wrap64 (7 * x8)) then (if (wrap64 (bt x0 (wrap64 (x1 + x8)))) < 128 then ((impl_VarText.f k (wrap64 (x7 + (shl .i64 (Int.tmod (wrap64 (bt x0 (wrap64 (x1 + x8)))) 128) (wrap64 (7 * x8)))))).bind fun bt301 => (if bt301.2 = true then (if (bt301.1.size:Int) = (wrap64 (x8 + 1)) then (some (wrap64 (x7 + (shl .i64 (Int.tmod (wrap64 (bt x0 (wrap64 (x1 + x8)))) 128) (wrap64 (7 * x8)))),wrap64 ((wrap64 (x1 + x8)) + 1),true)) else (some (0,0,false))) else (some (0,0,false)))) else (impl_ReadVar.l0 k x0 x1 (wrap64 (x7 + (shl .i64 (Int.tmod (wrap64 (bt x0 (wrap64 (x1 + x8)))) 128) (wrap64 (7 * x8))))) (wrap64 (x8 + 1)))) else (none)) else (none)) else (none)) else (some (0,0,false))
end
def impl_ReadVar.f (k:Nat) (a0:ByteArray) (a1:Int):Option (Int×Int×Bool):=(impl_within.f a1 0 (a0.size:Int)).bind fun t300 => (if t300 = true then (impl_ReadVar.l0 k a0 a1 0 0) else (some (0,0,false)))
def impl_reader_num.f (k:Nat) (s0_0:ByteArray) (s0_1:Int) (s0_2:Bool):Option (Int×ByteArray×Int×Bool):=(impl_ReadVar.f k s0_0 s0_1).bind fun bt340 => (if s0_2 = true then (some (0,s0_0,s0_1,true)) else (if bt340.2.2 = true then (some (bt340.1,s0_0,bt340.2.1,s0_2)) else (some (0,s0_0,s0_1,true))))
def impl_ReadManifest_c1.f (k:Nat) (l0_0:List Int) (s0_1:Int) (s0_2:Int) (s0_3:Int) (l0_4:List Int) (s1_0_0:ByteArray) (s1_0_1:Int) (s1_0_2:Bool):Option ((List Int)×Int×Int×Int×(List Int)×ByteArray×Int×Bool):=(impl_reader_num.f k s1_0_0 s1_0_1 s1_0_2).bind fun t0 => (if l0_0.length + 1 < 17592186044417 then (some ((l0_0++([t0.1]:List Int)),s0_1,s0_2,s0_3,l0_4,t0.2.1,t0.2.2.1,t0.2.2.2)) else none)
def each_ReadManifest_c1.l0:Nat→Int→Int→ByteArray→Int→Bool→(List Int)→Int→Int→Int→(List Int)→Option (ByteArray×Int×Bool×(List Int)×Int×Int×Int×(List Int))
 | 0,_,_,_,_,_,_,_,_,_,_ => none
 | k + 1,x4,x5,y10000_0,y10000_1,y10000_2,y10001_0,y10001_1,y10001_2,y10001_3,y10001_4 => if x5 < x4 then (if y10000_2 = true then (some (y10000_0,y10000_1,y10000_2,y10001_0,y10001_1,y10001_2,y10001_3,y10001_4)) else ((impl_ReadManifest_c1.f k y10001_0 y10001_1 y10001_2 y10001_3 y10001_4 y10000_0 y10000_1 y10000_2).bind fun t1 => (each_ReadManifest_c1.l0 k x4 (wrap64 (x5 + 1)) t1.2.2.2.2.2.1 t1.2.2.2.2.2.2.1 t1.2.2.2.2.2.2.2 t1.1 t1.2.1 t1.2.2.1 t1.2.2.2.1 t1.2.2.2.2.1))) else (some (y10000_0,y10000_1,y10000_2,y10001_0,y10001_1,y10001_2,y10001_3,y10001_4))
def each_ReadManifest_c1.f (k:Nat) (s0_0:ByteArray) (s0_1:Int) (s0_2:Bool) (s1_0_1:Int) (s1_0_2:Int) (s1_0_3:Int):Option (ByteArray×Int×Bool×(List Int)×Int×Int×Int×(List Int)):=(impl_reader_num.f k s0_0 s0_1 s0_2).bind fun t0 => (each_ReadManifest_c1.l0 k t0.1 0 t0.2.1 t0.2.2.1 t0.2.2.2 [] s1_0_1 s1_0_2 s1_0_3 [])
def impl_ReadManifest_c2.f (k:Nat) (l0_0:List Int) (s0_1:Int) (s0_2:Int) (s0_3:Int) (l0_4:List Int) (s1_0_0:ByteArray) (s1_0_1:Int) (s1_0_2:Bool):Option (Int×Int×Int×(List Int)×(List Int)×ByteArray×Int×Bool):=(impl_reader_num.f k s1_0_0 s1_0_1 s1_0_2).bind fun t0 => (if l0_4.length + 1 < 17592186044417 then (some (s0_1,s0_2,s0_3,(l0_4++([t0.1]:List Int)),l0_0,t0.2.1,t0.2.2.1,t0.2.2.2)) else none)
def each_ReadManifest_c2.l0:Nat→Int→Int→ByteArray→Int→Bool→(List Int)→Int→Int→Int→(List Int)→Option (ByteArray×Int×Bool×Int×Int×Int×(List Int)×(List Int))
 | 0,_,_,_,_,_,_,_,_,_,_ => none
 | k + 1,x4,x5,y10000_0,y10000_1,y10000_2,w3,y10001_1,y10001_2,y10001_3,y10001_4 => if x5 < x4 then (if y10000_2 = true then (some (y10000_0,y10000_1,y10000_2,y10001_1,y10001_2,y10001_3,y10001_4,w3)) else ((impl_ReadManifest_c2.f k w3 y10001_1 y10001_2 y10001_3 y10001_4 y10000_0 y10000_1 y10000_2).bind fun t1 => (each_ReadManifest_c2.l0 k x4 (wrap64 (x5 + 1)) t1.2.2.2.2.2.1 t1.2.2.2.2.2.2.1 t1.2.2.2.2.2.2.2 t1.2.2.2.2.1 t1.1 t1.2.1 t1.2.2.1 t1.2.2.2.1))) else (some (y10000_0,y10000_1,y10000_2,y10001_1,y10001_2,y10001_3,y10001_4,w3))
def each_ReadManifest_c2.f (k:Nat) (s0_0:ByteArray) (s0_1:Int) (s0_2:Bool) (l1_0_0:List Int) (s1_0_1:Int) (s1_0_2:Int) (s1_0_3:Int) (l1_0_4:List Int):Option (ByteArray×Int×Bool×Int×Int×Int×(List Int)×(List Int)):=(impl_reader_num.f k s0_0 s0_1 s0_2).bind fun t0 => (each_ReadManifest_c2.l0 k t0.1 0 t0.2.1 t0.2.2.1 t0.2.2.2 l1_0_0 s1_0_1 s1_0_2 s1_0_3 l1_0_4)
def impl_reader_done.f (s0_0:ByteArray) (s0_1:Int) (s0_2:Bool):Option (Bool×ByteArray×Int×Bool):=if s0_2 = true then (some (false,s0_0,s0_1,s0_2)) else (some ((s0_1 == (s0_0.size:Int)),s0_0,s0_1,s0_2))
def impl_ConfOk.l0:Nat→List Int→List Int→Int→Int→Option (Bool)
 | 0,_,_,_,_ => none
 | k + 1,x0,x5,x6,x7 => if x7 < x6 then (if 0≤x7 then (if x7 < (x5.length:Int) then ((impl_within.f (rd x5 x7) 1 4).bind fun t366 => (if t366 = true then (if x7 > 0 then (if 0≤(wrap64 (x7 - 1)) then (if (wrap64 (x7 - 1)) < (x0.length:Int) then (if (rd x0 (wrap64 (x7 - 1)))≥(rd x5 x7) then (some false) else (impl_ConfOk.l0 k x0 x5 x6 (wrap64 (x7 + 1)))) else (none)) else (none)) else (impl_ConfOk.l0 k x0 x5 x6 (wrap64 (x7 + 1)))) else (some false))) else (none)) else (none)) else ((impl_within.f (x0.length:Int) 1 4).bind fun t368 => (some t368))
def impl_ConfOk.f (k:Nat) (l0:List Int):Option (Bool):=impl_ConfOk.l0 k l0 l0 (l0.length:Int) 0
def impl_ManifestOk.l0:Nat→List Int→Int→Int→List Int→Int→Int→Int→List Int→Option (Bool)
 | 0,_,_,_,_,_,_,_,_ => none
 | k + 1,x6,x7,x8,x370000,x370001,x370002,x370003,x370004 => if x8 < x7 then (if 0≤x8 then (if x8 < (x6.length:Int) then ((impl_within.f (rd x6 x8) 0 999).bind fun t371 => (if t371 = true then (if (rd x6 x8)≥x370001 then (some false) else (if x8 > 0 then (if 0≤(wrap64 (x8 - 1)) then (if (wrap64 (x8 - 1)) < (x370000.length:Int) then (if (rd x370000 (wrap64 (x8 - 1)))≥(rd x6 x8) then (some false) else (impl_ManifestOk.l0 k x6 x7 (wrap64 (x8 + 1)) x370000 x370001 x370002 x370003 x370004)) else (none)) else (none)) else (impl_ManifestOk.l0 k x6 x7 (wrap64 (x8 + 1)) x370000 x370001 x370002 x370003 x370004))) else (some false))) else (none)) else (none)) else ((impl_within.f (x370000.length:Int) 1 8).bind fun t373 => (if t373 = true then (if x370001≤1000 then ((impl_within.f x370002 0 100000).bind fun t374 => (if t374 = true then ((impl_within.f x370003 0 100000).bind fun t375 => (if t375 = true then ((impl_ConfOk.f k x370004).bind fun t376 => (some t376)) else (some false))) else (some false))) else (some false)) else (some false)))
def impl_ManifestOk.f (k:Nat) (l0_0:List Int) (a0_1:Int) (a0_2:Int) (a0_3:Int) (l0_4:List Int):Option (Bool):=impl_ManifestOk.l0 k l0_0 (l0_0.length:Int) 0 l0_0 a0_1 a0_2 a0_3 l0_4
def impl_ReadManifest.f (k:Nat) (a0:ByteArray):Option ((List Int)×Int×Int×Int×(List Int)×Bool):=(impl_Unsealed.f k a0).bind fun t0 => (if t0.2 = true then ((each_ReadManifest_c1.f k t0.1 0 false 0 0 0).bind fun t1 => ((impl_reader_num.f k t1.1 t1.2.1 t1.2.2.1).bind fun t2 => ((impl_reader_num.f k t2.2.1 t2.2.2.1 t2.2.2.2).bind fun t3 => ((impl_reader_num.f k t3.2.1 t3.2.2.1 t3.2.2.2).bind fun t4 => ((each_ReadManifest_c2.f k t4.2.1 t4.2.2.1 t4.2.2.2 t1.2.2.2.1 t2.1 t3.1 t4.1 t1.2.2.2.2.2.2.2).bind fun t5 => ((impl_reader_done.f t5.1 t5.2.1 t5.2.2.1).bind fun t6 => (if t6.1 = true then ((impl_ManifestOk.f k t5.2.2.2.2.2.2.2 t5.2.2.2.1 t5.2.2.2.2.1 t5.2.2.2.2.2.1 t5.2.2.2.2.2.2.1).bind fun t7 => (if t7 = true then (some (t5.2.2.2.2.2.2.2,t5.2.2.2.1,t5.2.2.2.2.1,t5.2.2.2.2.2.1,t5.2.2.2.2.2.2.1,true)) else (some ([],0,0,0,[],false)))) else (some ([],0,0,0,[],false))))))))) else (some ([],0,0,0,[],false)))
def impl_Decimal.f (a0:Int):Option (ByteArray):=if -9223372036854775808≤a0 then (if a0≤9223372036854775807 then some ⟨(Lib.itoa a0).toArray⟩ else none) else none
def impl_SegName.f (a0:Int):Option (ByteArray):=(impl_within.f a0 0 999).bind fun t263 => (if t263 = true then ((impl_Decimal.f a0).bind fun t264 => (if 1 + t264.size≤9223372036854775807 then (some ((⟨#[103]⟩:ByteArray)++t264)) else (none))) else (some (⟨#[]⟩:ByteArray)))
def internal_stringslite_HasPrefix.f (a0:ByteArray) (a1:ByteArray):Option Bool:=if (a0.size:Int)≥(a1.size:Int) then (if 0≤(a1.size:Int) then (if (a1.size:Int)≤(a0.size:Int) then (some ((a0.extract 0 ((a1.size:Int):Int).toNat).toList == a1.toList)) else none) else none) else (some false)
def internal_stringslite_CutPrefix.f (a0:ByteArray) (a1:ByteArray):Option (ByteArray×Bool):=(internal_stringslite_HasPrefix.f a0 a1).bind fun t0 => (if t0 = true then (if 0≤(a1.size:Int) then (if (a1.size:Int)≤(a0.size:Int) then (some (a0.extract ((a1.size:Int):Int).toNat a0.size,true)) else none) else none) else (some (a0,false)))
def strings_CutPrefix.f (a0:ByteArray) (a1:ByteArray):Option (ByteArray×Bool):=(internal_stringslite_CutPrefix.f a0 a1).bind fun t0 => (some (t0.1,t0.2))
def strconv_Atoi.f (a0:ByteArray):Option (Int×Bool):=atoiO a0
def impl_ReadDecimal.f (a0:ByteArray):Option (Int×Bool):=(strconv_Atoi.f a0).bind fun t0 => (if t0.2 = true then ((impl_Decimal.f t0.1).bind fun t1 => (if t1.toList = a0.toList then ((impl_within.f t0.1 0 1000000000).bind fun t2 => (if t2 = true then (some (t0.1,true)) else (some (0,false)))) else (some (0,false)))) else (some (0,false)))
def impl_isSegName.f (a0:ByteArray):Option Bool:=(strings_CutPrefix.f a0 (⟨#[103]⟩:ByteArray)).bind fun t0 => ((impl_ReadDecimal.f t0.1).bind fun t1 => (if t0.2 = true then (if t1.2 = true then ((impl_SegName.f t1.1).bind fun t2 => (some (t2.toList == a0.toList))) else (some false)) else (some false)))
def impl_cleaning_c1.f (a0:Int) (s1_0:ByteArray) (s1_1:ByteArray):Option (Bool×ByteArray×ByteArray):=(impl_SegName.f a0).bind fun t0 => (some ((t0.toList == s1_0.toList),s1_0,s1_1))
def slices_IndexFunc_int_int.l0:Nat→(List Int)→Int→Int→ByteArray→ByteArray→Option (Int×ByteArray×ByteArray)
 | 0,_,_,_,_,_ => none
 | k + 1,x0,x7,x8,y10000_0,y10000_1 => if x8 < x7 then (if 0≤x8 then (if x8 < (x0.length:Int) then ((impl_cleaning_c1.f (rd x0 x8) y10000_0 y10000_1).bind fun t0 => (if t0.1 = true then (some (x8,t0.2.1,t0.2.2)) else (slices_IndexFunc_int_int.l0 k x0 x7 (wrap64 (x8 + 1)) t0.2.1 t0.2.2))) else none) else none) else (some ((-1),y10000_0,y10000_1))
def slices_IndexFunc_int_int.f (k:Nat) (l0:List Int) (s1_0_0:ByteArray) (s1_0_1:ByteArray):Option (Int×ByteArray×ByteArray):=slices_IndexFunc_int_int.l0 k l0 (l0.length:Int) 0 s1_0_0 s1_0_1
def slices_ContainsFunc_int_int.f (k:Nat) (l0:List Int) (s1_0_0:ByteArray) (s1_0_1:ByteArray):Option (Bool×ByteArray×ByteArray):=(slices_IndexFunc_int_int.f k l0 s1_0_0 s1_0_1).bind fun t0 => (some (decide (t0.1≥0),t0.2.1,t0.2.2))
def impl_cleaning.l0:Nat→(List S119)→(List S122)→Int→Int→(List Int)→Int→Int→Int→(List Int)→Option (List S119)
 | 0,_,_,_,_,_,_,_,_,_ => none
 | k + 1,x5,x21,x22,x23,y3_0,y3_1,y3_2,y3_3,y3_4 => if x23 < x22 then (if 0≤x23 then (if x23 < (x21.length:Int) then ((impl_isSegName.f ((rd_T122 x21 x23).f0)).bind fun t1 => (if t1 = true then ((slices_ContainsFunc_int_int.f k y3_0 ((rd_T122 x21 x23).f0) ((rd_T122 x21 x23).f1)).bind fun t2 => (if t2.1 = true then (impl_cleaning.l0 k x5 x21 x22 (wrap64 (x23 + 1)) y3_0 y3_1 y3_2 y3_3 y3_4) else (if x5.length + 1 < 2513169434917 then (impl_cleaning.l0 k (x5++([(⟨4,t2.2.1,(⟨#[]⟩:ByteArray),(⟨#[]⟩:ByteArray)⟩:S119)]:List S119)) x21 x22 (wrap64 (x23 + 1)) y3_0 y3_1 y3_2 y3_3 y3_4) else none))) else (impl_cleaning.l0 k x5 x21 x22 (wrap64 (x23 + 1)) y3_0 y3_1 y3_2 y3_3 y3_4))) else none) else none) else (some x5)
def impl_cleaning.f (k:Nat) (l0_0:List S122) (l1_0:List Int) (a1_1:Int) (a1_2:Int) (a1_3:Int) (l1_4:List Int):Option (List S119):=(impl_FileAt.f k l0_0 (⟨#[109,43]⟩:ByteArray)).bind fun t0 => (if t0.2 = true then (if 1 < 2513169434917 then (impl_cleaning.l0 k ([]++([(⟨4,(⟨#[109,43]⟩:ByteArray),(⟨#[]⟩:ByteArray),(⟨#[]⟩:ByteArray)⟩:S119)]:List S119)) l0_0 (l0_0.length:Int) 0 l1_0 a1_1 a1_2 a1_3 l1_4) else none) else (impl_cleaning.l0 k [] l0_0 (l0_0.length:Int) 0 l1_0 a1_1 a1_2 a1_3 l1_4))
def impl_Frame.f (k:Nat) (a0:ByteArray):Option (ByteArray×Bool):=(impl_within.f (a0.size:Int) 1 9000).bind fun t293 => (if t293 = true then ((impl_VarText.f k (a0.size:Int)).bind fun bt294 => ((impl_SumOf.f k a0).bind fun t296 => ((some (([(t296 / 16777216) % 256,(t296 / 65536) % 256,(t296 / 256) % 256,(t296) % 256]:List Int):List Int)).bind fun y297 => (if bt294.1.size + (strOfNums y297).size≤9223372036854775807 then (if (bt294.1++(strOfNums y297)).size + a0.size≤9223372036854775807 then (some ((bt294.1++(strOfNums y297))++a0,true)) else (none)) else (none))))) else (some ((⟨#[]⟩:ByteArray),false)))
mutual
def impl_Unframe.l0:Nat→ByteArray→List ByteArray→Int→Option (List ByteArray×Int)
 | 0,_,_,_ => none
 | k + 1,x0,x4,x5 => (impl_ReadVar.f k x0 x5).bind fun bt303 => (if bt303.2.2 = true then (impl_Unframe.j1 k x0 x4 x5 bt303.1 bt303.2.1 (decide (bt303.1 > (wrap64 ((wrap64 ((x0.size:Int) - bt303.2.1)) - 4))))) else (impl_Unframe.j1 k x0 x4 x5 bt303.1 bt303.2.1 true))
def impl_Unframe.j1:Nat→ByteArray→List ByteArray→Int→Int→Int→Bool→Option (List ByteArray×Int)
 | 0,_,_,_,_,_,_ => none
 | k + 1,x0,x4,x5,x6,x7,x32 => if x32 = true then (some (x4,x5)) else (if 0≤(wrap64 (x7 + 4)) then (if (wrap64 (x7 + 4))≤(wrap64 ((wrap64 (x7 + 4)) + x6)) then (if (wrap64 ((wrap64 (x7 + 4)) + x6))≤(x0.size:Int) then ((impl_Frame.f k (x0.extract ((wrap64 (x7 + 4)):Int).toNat ((wrap64 ((wrap64 (x7 + 4)) + x6)):Int).toNat)).bind fun bt306 => (if bt306.2 = true then (if 0≤x5 then (if x5≤(wrap64 ((wrap64 (x7 + 4)) + x6)) then (if bt306.1.toList = (x0.extract (x5:Int).toNat ((wrap64 ((wrap64 (x7 + 4)) + x6)):Int).toNat).toList then (if x4.length < 8796093022208 then (impl_Unframe.l0 k x0 (x4++[x0.extract ((wrap64 (x7 + 4)):Int).toNat ((wrap64 ((wrap64 (x7 + 4)) + x6)):Int).toNat]) (wrap64 ((wrap64 (x7 + 4)) + x6))) else (none)) else (some (x4,x5))) else (none)) else (none)) else (some (x4,x5)))) else (none)) else (none)) else (none))
end
def impl_Unframe.f (k:Nat) (a0:ByteArray):Option (List ByteArray×Int):=if (a0.size:Int) > 20000 then (some (([]:List ByteArray),0)) else (impl_Unframe.l0 k a0 ([]:List ByteArray) 0)
def impl_ReadShort.f (k:Nat) (a0:ByteArray) (a1:Int):Option (ByteArray×Int×Bool):=(impl_ReadVar.f k a0 a1).bind fun t0 => (if t0.2.2 = true then (if t0.1 > 20000 then (some ((⟨#[]⟩:ByteArray),0,false)) else (if t0.1 > wrap64 ((a0.size:Int) - t0.2.1) then (some ((⟨#[]⟩:ByteArray),0,false)) else (if 0≤t0.2.1 then (if t0.2.1≤wrap64 (t0.2.1 + t0.1) then (if wrap64 (t0.2.1 + t0.1)≤(a0.size:Int) then (some (a0.extract (t0.2.1:Int).toNat (wrap64 (t0.2.1 + t0.1):Int).toNat,wrap64 (t0.2.1 + t0.1),true)) else none) else none) else none))) else (some ((⟨#[]⟩:ByteArray),0,false)))
def impl_reader_text.f (k:Nat) (s0_0:ByteArray) (s0_1:Int) (s0_2:Bool):Option (ByteArray×ByteArray×Int×Bool):=(impl_ReadShort.f k s0_0 s0_1).bind fun t0 => (if s0_2 = true then (some ((⟨#[]⟩:ByteArray),s0_0,s0_1,true)) else (if t0.2.2 = true then (some (t0.1,s0_0,t0.2.1,s0_2)) else (some ((⟨#[]⟩:ByteArray),s0_0,s0_1,true))))
def impl_reader_byte.f (s0_0:ByteArray) (s0_1:Int) (s0_2:Bool):Option (Int×ByteArray×Int×Bool):=if s0_2 = true then (some (0,s0_0,s0_1,true)) else (if s0_1≥(s0_0.size:Int) then (some (0,s0_0,s0_1,true)) else (if 0≤wrap64 ((wrap64 (s0_1 + 1)) - 1) then (if wrap64 ((wrap64 (s0_1 + 1)) - 1) < (s0_0.size:Int) then (some (wrap64 (bt s0_0 (wrap64 ((wrap64 (s0_1 + 1)) - 1))),s0_0,wrap64 (s0_1 + 1),s0_2)) else none) else none))
def impl_ReadBatch_c1.f (k:Nat) (s0_0_0:ByteArray) (s0_0_1:Int) (s0_0_2:Bool) (s1_0:Int) (l1_1:List S162):Option (Int×(List S162)×ByteArray×Int×Bool):=(impl_reader_text.f k s0_0_0 s0_0_1 s0_0_2).bind fun t0 => ((impl_reader_byte.f t0.2.1 t0.2.2.1 t0.2.2.2).bind fun t1 => ((impl_reader_text.f k t1.2.1 t1.2.2.1 t1.2.2.2).bind fun t2 => (if l1_1.length + 1 < 3518437208884 then (some (s1_0,(l1_1++([(⟨t0.1,t2.1,(t1.1 == 1)⟩:S162)]:List S162)),t2.2.1,t2.2.2.1,t2.2.2.2)) else none)))
def each_ReadBatch_c1.l0:Nat→Int→Int→ByteArray→Int→Bool→Int→(List S162)→Option (ByteArray×Int×Bool×Int×(List S162))
 | 0,_,_,_,_,_,_,_ => none
 | k + 1,x4,x5,y10000_0,y10000_1,y10000_2,y10002_0,y10002_1 => if x5 < x4 then (if y10000_2 = true then (some (y10000_0,y10000_1,y10000_2,y10002_0,y10002_1)) else ((impl_ReadBatch_c1.f k y10000_0 y10000_1 y10000_2 y10002_0 y10002_1).bind fun t1 => (each_ReadBatch_c1.l0 k x4 (wrap64 (x5 + 1)) t1.2.2.1 t1.2.2.2.1 t1.2.2.2.2 t1.1 t1.2.1))) else (some (y10000_0,y10000_1,y10000_2,y10002_0,y10002_1))
def each_ReadBatch_c1.f (k:Nat) (s0_0:ByteArray) (s0_1:Int) (s0_2:Bool) (s1_1_0:Int):Option (ByteArray×Int×Bool×Int×(List S162)):=(impl_reader_num.f k s0_0 s0_1 s0_2).bind fun t0 => (each_ReadBatch_c1.l0 k t0.1 0 t0.2.1 t0.2.2.1 t0.2.2.2 s1_1_0 [])
def impl_keyOk.f (a0:ByteArray):Option (Bool):=(impl_within.f (a0.size:Int) 1 10).bind fun t265 => (some t265)
def impl_BatchOk.l0:Nat→List S162→Int→Int→Int→List S162→Option (Bool)
 | 0,_,_,_,_,_ => none
 | k + 1,x6,x7,x8,x312000,x312001 => if x8 < x7 then (if 0≤x8 then (if x8 < (x6.length:Int) then ((impl_keyOk.f ((rd_T162 x6 x8).f0)).bind fun t314 => (if t314 = true then (if (((rd_T162 x6 x8).f1).size:Int) > 40 then (some false) else (if (rd_T162 x6 x8).f2 = true then (if ((rd_T162 x6 x8).f1).toList = ([]:List UInt8) then (if x8 > 0 then (if 0≤(wrap64 (x8 - 1)) then (if (wrap64 (x8 - 1)) < (x312001.length:Int) then (if ((Op.bytesLess (((rd_T162 x312001 (wrap64 (x8 - 1))).f0).toList) (((rd_T162 x6 x8).f0).toList)) = true) then (impl_BatchOk.l0 k x6 x7 (wrap64 (x8 + 1)) x312000 x312001) else (some false)) else (none)) else (none)) else (impl_BatchOk.l0 k x6 x7 (wrap64 (x8 + 1)) x312000 x312001)) else (some false)) else (if x8 > 0 then (if 0≤(wrap64 (x8 - 1)) then (if (wrap64 (x8 - 1)) < (x312001.length:Int) then (if ((Op.bytesLess (((rd_T162 x312001 (wrap64 (x8 - 1))).f0).toList) (((rd_T162 x6 x8).f0).toList)) = true) then (impl_BatchOk.l0 k x6 x7 (wrap64 (x8 + 1)) x312000 x312001) else (some false)) else (none)) else (none)) else (impl_BatchOk.l0 k x6 x7 (wrap64 (x8 + 1)) x312000 x312001)))) else (some false))) else (none)) else (none)) else ((impl_within.f x312000 0 100000).bind fun t317 => (if t317 = true then (some (decide ((x312001.length:Int)≤60))) else (some false)))
def impl_BatchOk.f (k:Nat) (a0_0:Int) (l0_1:List S162):Option (Bool):=impl_BatchOk.l0 k l0_1 (l0_1.length:Int) 0 a0_0 l0_1
def impl_vars.l0:Nat→List Int→List Int→Int→Int→Option (ByteArray×Bool)
 | 0,_,_,_,_ => none
 | k + 1,x4,x9,x10,x11 => if x11 < x10 then (if 0≤x11 then (if x11 < (x9.length:Int) then ((impl_VarText.f k (rd x9 x11)).bind fun bt319 => (if bt319.2 = true then (if x4.length + bt319.1.size < 140737488355328 then (impl_vars.l0 k (x4++bytesOf bt319.1) x9 x10 (wrap64 (x11 + 1))) else (none)) else (some ((⟨#[]⟩:ByteArray),false)))) else (none)) else (none)) else (some (strOfNums x4,true))
def impl_vars.f (k:Nat) (l0:List Int):Option (ByteArray×Bool):=impl_vars.l0 k ([]:List Int) l0 (l0.length:Int) 0
def impl_ShortText.f (k:Nat) (a0:ByteArray):Option (ByteArray×Bool):=if (a0.size:Int) > 20000 then (some ((⟨#[]⟩:ByteArray),false)) else ((impl_VarText.f k (a0.size:Int)).bind fun bt324 => (if bt324.1.size + a0.size≤9223372036854775807 then (some (bt324.1++a0,true)) else (none)))
def impl_short.f (k:Nat) (a0:ByteArray):Option (ByteArray):=(impl_ShortText.f k a0).bind fun bt326 => (some bt326.1)
def impl_flag.f (a0:Bool):Option (ByteArray):=if a0 = true then (some (⟨#[1]⟩:ByteArray)) else (some (⟨#[0]⟩:ByteArray))
def impl_BatchText.l0:Nat→ByteArray→List S162→Int→Int→Option (ByteArray×Bool)
 | 0,_,_,_,_ => none
 | k + 1,x4,x22,x23,x24 => if x24 < x23 then (if 0≤x24 then (if x24 < (x22.length:Int) then ((impl_short.f k ((rd_T162 x22 x24).f0)).bind fun t337 => ((impl_flag.f ((rd_T162 x22 x24).f2)).bind fun t338 => (if t337.size + t338.size≤9223372036854775807 then ((impl_short.f k ((rd_T162 x22 x24).f1)).bind fun t339 => (if (t337++t338).size + t339.size≤9223372036854775807 then (if x4.size + ((t337++t338)++t339).size≤9223372036854775807 then (impl_BatchText.l0 k (x4++((t337++t338)++t339)) x22 x23 (wrap64 (x24 + 1))) else (none)) else (none))) else (none)))) else (none)) else (none)) else (some (x4,true))
def impl_BatchText.f (k:Nat) (a0_0:Int) (l0_1:List S162):Option (ByteArray×Bool):=(impl_BatchOk.f k a0_0 l0_1).bind fun t329 => (if t329 = true then ((impl_vars.f k (([a0_0,(l0_1.length:Int)]:List Int))).bind fun bt333 => (impl_BatchText.l0 k bt333.1 l0_1 (l0_1.length:Int) 0)) else (some ((⟨#[]⟩:ByteArray),false)))
def impl_ReadBatch.f (k:Nat) (a0:ByteArray):Option (Int×(List S162)×Bool):=(impl_reader_num.f k a0 0 false).bind fun t0 => ((each_ReadBatch_c1.f k t0.2.1 t0.2.2.1 t0.2.2.2 t0.1).bind fun t1 => ((impl_BatchText.f k t1.2.2.2.1 t1.2.2.2.2).bind fun t2 => (if t1.2.2.1 = true then (some (0,[],false)) else (if t2.2 = true then (if t2.1.toList = a0.toList then (some (t1.2.2.2.1,t1.2.2.2.2,true)) else (some (0,[],false))) else (some (0,[],false))))))
def impl_batchesOf.l0:Nat→List S113→Int→List ByteArray→Int→Int→Option ((List S113)×Int)
 | 0,_,_,_,_,_ => none
 | k + 1,x6,x7,x19,x20,x21 => if x21 < x20 then (if 0≤x21 then (if x21 < (x19.length:Int) then ((impl_ReadBatch.f k (rdOf ByteArray.empty x19 x21)).bind fun bt348 => (if bt348.2.2 = true then ((impl_Frame.f k (rdOf ByteArray.empty x19 x21)).bind fun bt354 => (if x6.length < 2513169434916 then (impl_batchesOf.l0 k (x6++[(⟨(⟨bt348.1,bt348.2.1⟩:S59),rdOf ByteArray.empty x19 x21,wrap64 ((wrap64 (x7 + (bt354.1.size:Int))) - ((rdOf ByteArray.empty x19 x21).size:Int))⟩:S113)]) (wrap64 (x7 + (bt354.1.size:Int))) x19 x20 (wrap64 (x21 + 1))) else (none))) else (some (x6,x7)))) else (none)) else (none)) else (some (x6,x7))
def impl_batchesOf.f (k:Nat) (a0:ByteArray):Option ((List S113)×Int):=(impl_Unframe.f k a0).bind fun bt343 => (impl_batchesOf.l0 k ([]:List S113) 0 bt343.1 (bt343.1.length:Int) 0)
def impl_spotsOf.l0:Nat→Int→Int→List S145→List S162→Int→Int→Option ((List S145))
 | 0,_,_,_,_,_,_ => none
 | k + 1,x1,x7,x8,x31,x32,x33 => if x33 < x32 then (if 0≤x33 then (if x33 < (x31.length:Int) then ((impl_short.f k ((rd_T162 x31 x33).f1)).bind fun t408 => ((impl_short.f k ((rd_T162 x31 x33).f0)).bind fun t409 => (if (rd_T162 x31 x33).f2 = true then (if x8.length < 3518437208883 then (impl_spotsOf.l0 k x1 (wrap64 (x7 + (wrap64 ((wrap64 ((t409.size:Int) + 1)) + (t408.size:Int))))) (x8++[(⟨(rd_T162 x31 x33).f0,x1,0,(-1)⟩:S145)]) x31 x32 (wrap64 (x33 + 1))) else (none)) else (if x8.length < 3518437208883 then (impl_spotsOf.l0 k x1 (wrap64 (x7 + (wrap64 ((wrap64 ((t409.size:Int) + 1)) + (t408.size:Int))))) (x8++[(⟨(rd_T162 x31 x33).f0,x1,wrap64 ((wrap64 (x7 + (wrap64 ((wrap64 ((t409.size:Int) + 1)) + (t408.size:Int))))) - (((rd_T162 x31 x33).f1).size:Int)),(((rd_T162 x31 x33).f1).size:Int)⟩:S145)]) x31 x32 (wrap64 (x33 + 1))) else (none))))) else (none)) else (none)) else (some x8)
def impl_spotsOf.f (k:Nat) (a0_0:Int) (l0_1:List S162) (a0_2:ByteArray) (a0_3:Int) (a1:Int):Option ((List S145)):=(impl_vars.f k (([a0_0,(l0_1.length:Int)]:List Int))).bind fun bt404 => (impl_spotsOf.l0 k a1 (wrap64 (a0_3 + (bt404.1.size:Int))) ([]:List S145) l0_1 (l0_1.length:Int) 0)
def impl_ScanSeg.l0:Nat→Int→List S145→List ByteArray→Int→List S113→Int→Int→Option ((List S145)×List ByteArray×Int)
 | 0,_,_,_,_,_,_,_ => none
 | k + 1,x1,x9,x10,x11,x19,x20,x21 => if x21 < x20 then (if 0≤x21 then (if x21 < (x19.length:Int) then ((impl_spotsOf.f k ((rd_T113 x19 x21).f0.f0) ((rd_T113 x19 x21).f0.f1) ((rd_T113 x19 x21).f1) ((rd_T113 x19 x21).f2) x1).bind fun t422 => (if x9.length + t422.length < 3518437208883 then (if x10.length < 8796093022208 then (impl_ScanSeg.l0 k x1 (x9++t422) (x10++[(rd_T113 x19 x21).f1]) (mx x11 ((rd_T113 x19 x21).f0.f0)) x19 x20 (wrap64 (x21 + 1))) else (none)) else (none))) else (none)) else (none)) else (some (x9,x10,x11))
def impl_ScanSeg.f (k:Nat) (a0:ByteArray) (a1:Int):Option ((List S145)×List ByteArray×Int):=(impl_batchesOf.f k a0).bind fun bt416 => (impl_ScanSeg.l0 k a1 ([]:List S145) ([]:List ByteArray) (-1) bt416.1 (bt416.1.length:Int) 0)
def impl_DirOk.l0:Nat→List S145→List S145→Int→Int→Option (Bool)
 | 0,_,_,_,_ => none
 | k + 1,x0,x5,x6,x7 => if x7 < x6 then (if 0≤x7 then (if x7 < (x5.length:Int) then ((impl_keyOk.f ((rd_T145 x5 x7).f0)).bind fun t268 => (if t268 = true then ((impl_within.f ((rd_T145 x5 x7).f1) 0 999).bind fun t269 => (if t269 = true then ((impl_within.f ((rd_T145 x5 x7).f2) 0 20000).bind fun t270 => (if t270 = true then ((impl_within.f ((rd_T145 x5 x7).f3) 0 40).bind fun t271 => (if t271 = true then (if x7 > 0 then (if 0≤(wrap64 (x7 - 1)) then (if (wrap64 (x7 - 1)) < (x0.length:Int) then (if ((Op.bytesLess (((rd_T145 x0 (wrap64 (x7 - 1))).f0).toList) (((rd_T145 x5 x7).f0).toList)) = true) then (impl_DirOk.l0 k x0 x5 x6 (wrap64 (x7 + 1))) else (some false)) else (none)) else (none)) else (impl_DirOk.l0 k x0 x5 x6 (wrap64 (x7 + 1)))) else (some false))) else (some false))) else (some false))) else (some false))) else (none)) else (none)) else (some (decide ((x0.length:Int)≤60)))
def impl_DirOk.f (k:Nat) (l0:List S145):Option (Bool):=impl_DirOk.l0 k l0 l0 (l0.length:Int) 0
def impl_DirMore_c1.f (a0_0:ByteArray) (a0_1:Int) (a0_2:Int) (a0_3:Int) (a1:ByteArray):Option Int:=(strings_Compare.f a0_0 a1).bind fun t0 => (some t0)
def slices_BinarySearchFunc_impl_Spot_impl_Spot_string.l0:Nat→(List S145)→ByteArray→Int→Int→Int→Option (Int×Bool)
 | 0,_,_,_,_,_ => none
 | k + 1,x0,x1,x8,x9,x10 => if x9 < x10 then (if 0≤wrap64 (((wrap64 (x9 + x10)) % 18446744073709551616) / 2) then (if wrap64 (((wrap64 (x9 + x10)) % 18446744073709551616) / 2) < (x0.length:Int) then ((impl_DirMore_c1.f ((rd_T145 x0 (wrap64 (((wrap64 (x9 + x10)) % 18446744073709551616) / 2))).f0) ((rd_T145 x0 (wrap64 (((wrap64 (x9 + x10)) % 18446744073709551616) / 2))).f1) ((rd_T145 x0 (wrap64 (((wrap64 (x9 + x10)) % 18446744073709551616) / 2))).f2) ((rd_T145 x0 (wrap64 (((wrap64 (x9 + x10)) % 18446744073709551616) / 2))).f3) x1).bind fun t0 => (if t0 < 0 then (slices_BinarySearchFunc_impl_Spot_impl_Spot_string.l0 k x0 x1 x8 (wrap64 ((wrap64 (((wrap64 (x9 + x10)) % 18446744073709551616) / 2)) + 1)) x10) else (slices_BinarySearchFunc_impl_Spot_impl_Spot_string.l0 k x0 x1 x8 x9 (wrap64 (((wrap64 (x9 + x10)) % 18446744073709551616) / 2))))) else none) else none) else (if x9 < x8 then (if 0≤x9 then (if x9 < (x0.length:Int) then ((impl_DirMore_c1.f ((rd_T145 x0 x9).f0) ((rd_T145 x0 x9).f1) ((rd_T145 x0 x9).f2) ((rd_T145 x0 x9).f3) x1).bind fun t1 => (some (x9,(t1 == 0)))) else none) else none) else (some (x9,false)))
def slices_BinarySearchFunc_impl_Spot_impl_Spot_string.f (k:Nat) (l0:List S145) (a1:ByteArray):Option (Int×Bool):=slices_BinarySearchFunc_impl_Spot_impl_Spot_string.l0 k l0 a1 (l0.length:Int) 0 (l0.length:Int)
def slices_Delete_impl_Spot_impl_Spot.f (l0:List S145) (a1 a2:Int):Option (List S145):=delO a1 a2 l0
def slices_Insert_impl_Spot_impl_Spot.f (l0:List S145) (a1:Int) (l2:List S145):Option ((List S145)×(List S145)):=(insO 40 l0 a1 l2).bind fun t => some (t,l2)
def impl_DirMore.l0:Nat→(List S145)→(List S145)→Int→Int→Option ((List S145)×Bool)
 | 0,_,_,_,_ => none
 | k + 1,x6,x16,x17,x18 => if x18 < x17 then (if 0≤x18 then (if x18 < (x16.length:Int) then ((slices_BinarySearchFunc_impl_Spot_impl_Spot_string.f k x6 ((rd_T145 x16 x18).f0)).bind fun t1 => (if (rd_T145 x16 x18).f3 = (-1) then (if t1.2 = true then ((slices_Delete_impl_Spot_impl_Spot.f x6 t1.1 (wrap64 (t1.1 + 1))).bind fun t2 => (impl_DirMore.l0 k t2 x16 x17 (wrap64 (x18 + 1)))) else (if (rd_T145 x16 x18).f3 = (-1) then (impl_DirMore.l0 k x6 x16 x17 (wrap64 (x18 + 1))) else (if t1.2 = true then (if 0≤t1.1 then (if t1.1 < (x6.length:Int) then (impl_DirMore.l0 k (x6.set (t1.1:Int).toNat (⟨(rd_T145 x16 x18).f0,(rd_T145 x16 x18).f1,(rd_T145 x16 x18).f2,(rd_T145 x16 x18).f3⟩:S145)) x16 x17 (wrap64 (x18 + 1))) else none) else none) else ((slices_Insert_impl_Spot_impl_Spot.f x6 t1.1 ([(⟨(rd_T145 x16 x18).f0,(rd_T145 x16 x18).f1,(rd_T145 x16 x18).f2,(rd_T145 x16 x18).f3⟩:S145)]:List S145)).bind fun t3 => (impl_DirMore.l0 k t3.1 x16 x17 (wrap64 (x18 + 1))))))) else (if (rd_T145 x16 x18).f3 = (-1) then (impl_DirMore.l0 k x6 x16 x17 (wrap64 (x18 + 1))) else (if t1.2 = true then (if 0≤t1.1 then (if t1.1 < (x6.length:Int) then (impl_DirMore.l0 k (x6.set (t1.1:Int).toNat (⟨(rd_T145 x16 x18).f0,(rd_T145 x16 x18).f1,(rd_T145 x16 x18).f2,(rd_T145 x16 x18).f3⟩:S145)) x16 x17 (wrap64 (x18 + 1))) else none) else none) else ((slices_Insert_impl_Spot_impl_Spot.f x6 t1.1 ([(⟨(rd_T145 x16 x18).f0,(rd_T145 x16 x18).f1,(rd_T145 x16 x18).f2,(rd_T145 x16 x18).f3⟩:S145)]:List S145)).bind fun t4 => (impl_DirMore.l0 k t4.1 x16 x17 (wrap64 (x18 + 1)))))))) else none) else none) else ((impl_DirOk.f k x6).bind fun t5 => (if t5 = true then (some (x6,true)) else (some ([],false))))
def impl_DirMore.f (k:Nat) (l0:List S145) (l1:List S145):Option ((List S145)×Bool):=(impl_DirOk.f k l0).bind fun t0 => (if t0 = true then (if l0.length < 3518437208884 then (impl_DirMore.l0 k ([]++l0) l1 (l1.length:Int) 0) else none) else (some ([],false)))
mutual
def impl_OpenShelf.l0:Nat→(List Int)→Int→Int→(List S122)→(List Int)→Int→Int→Int→(List Int)→(List S145)→Int→Int→Int→Int→(List Int)→Option ((List Int)×Int×Int×Int×(List Int)×(List S145)×Int×(List S119)×Int)
 | 0,_,_,_,_,_,_,_,_,_,_,_,_,_,_,_ => none
 | k + 1,x49,x50,x51,y1_0,y2_0,y2_1,y2_2,y2_3,y2_4,y2_5,y2_6,y7_1,y7_2,y7_3,y7_4 => if x51 < x50 then (if 0≤x51 then (if x51 < (x49.length:Int) then ((impl_SegName.f (rd x49 x51)).bind fun t3 => ((impl_FileAt.f k y1_0 t3).bind fun t4 => (if t4.2 = true then (impl_OpenShelf.l0 k x49 x50 (wrap64 (x51 + 1)) y1_0 y2_0 y2_1 y2_2 y2_3 y2_4 y2_5 y2_6 y7_1 y7_2 y7_3 y7_4) else (some ([],0,0,0,[],[],0,[],3))))) else none) else none) else ((impl_cleaning.f k y1_0 x49 y7_1 y7_2 y7_3 y7_4).bind fun t5 => (impl_OpenShelf.l1 k t5 [] x49 (x49.length:Int) 0 y1_0 y2_0 y2_1 y2_2 y2_3 y2_4 y2_5 y2_6 y7_1 y7_2 y7_3 y7_4 y7_1 y7_2 y7_3 [] y7_2))
def impl_OpenShelf.l1:Nat→(List S119)→(List S145)→(List Int)→Int→Int→(List S122)→(List Int)→Int→Int→Int→(List Int)→(List S145)→Int→Int→Int→Int→(List Int)→Int→Int→Int→(List S145)→Int→Option ((List Int)×Int×Int×Int×(List Int)×(List S145)×Int×(List S119)×Int)
 | 0,_,_,_,_,_,_,_,_,_,_,_,_,_,_,_,_,_,_,_,_,_,_ => none
 | k + 1,x14,x15,x74,x75,x76,y1_0,y2_0,y2_1,y2_2,y2_3,y2_4,y2_5,y2_6,y7_1,y7_2,y7_3,y7_4,y13_1,y13_2,y13_3,y13_5,y13_6 => if x76 < x75 then (if 0≤x76 then (if x76 < (x74.length:Int) then ((impl_SegName.f (rd x74 x76)).bind fun t6 => ((impl_FileAt.f k y1_0 t6).bind fun t7 => ((impl_ScanSeg.f k t7.1 (rd x74 x76)).bind fun t8 => ((impl_batchesOf.f k t7.1).bind fun t9 => (if t9.2 < (t7.1.size:Int) then (if x76 < wrap64 ((x74.length:Int) - 1) then (some ([],0,0,0,[],[],0,[],4)) else (if t9.2 < (t7.1.size:Int) then ((impl_SegName.f (rd x74 x76)).bind fun t10 => (if 0≤t9.2 then (if t9.2≤(t7.1.size:Int) then (if x14.length + 1 < 2513169434917 then (if x15.length + t8.1.length < 3518437208884 then (impl_OpenShelf.l1 k (x14++([(⟨1,t10,(⟨#[]⟩:ByteArray),t7.1.extract 0 (t9.2:Int).toNat⟩:S119)]:List S119)) (x15++t8.1) x74 x75 (wrap64 (x76 + 1)) y1_0 y2_0 y2_1 y2_2 y2_3 y2_4 y2_5 y2_6 y7_1 y7_2 y7_3 y7_4 y13_1 y13_2 y13_3 y13_5 (mx y13_6 t8.2.2)) else none) else none) else none) else none)) else (if x15.length + t8.1.length < 3518437208884 then (impl_OpenShelf.l1 k x14 (x15++t8.1) x74 x75 (wrap64 (x76 + 1)) y1_0 y2_0 y2_1 y2_2 y2_3 y2_4 y2_5 y2_6 y7_1 y7_2 y7_3 y7_4 y13_1 y13_2 y13_3 y13_5 (mx y13_6 t8.2.2)) else none))) else (if t9.2 < (t7.1.size:Int) then ((impl_SegName.f (rd x74 x76)).bind fun t11 => (if 0≤t9.2 then (if t9.2≤(t7.1.size:Int) then (if x14.length + 1 < 2513169434917 then (if x15.length + t8.1.length < 3518437208884 then (impl_OpenShelf.l1 k (x14++([(⟨1,t11,(⟨#[]⟩:ByteArray),t7.1.extract 0 (t9.2:Int).toNat⟩:S119)]:List S119)) (x15++t8.1) x74 x75 (wrap64 (x76 + 1)) y1_0 y2_0 y2_1 y2_2 y2_3 y2_4 y2_5 y2_6 y7_1 y7_2 y7_3 y7_4 y13_1 y13_2 y13_3 y13_5 (mx y13_6 t8.2.2)) else none) else none) else none) else none)) else (if x15.length + t8.1.length < 3518437208884 then (impl_OpenShelf.l1 k x14 (x15++t8.1) x74 x75 (wrap64 (x76 + 1)) y1_0 y2_0 y2_1 y2_2 y2_3 y2_4 y2_5 y2_6 y7_1 y7_2 y7_3 y7_4 y13_1 y13_2 y13_3 y13_5 (mx y13_6 t8.2.2)) else none))))))) else none) else none) else ((impl_DirMore.f k [] x15).bind fun t12 => (if t12.2 = true then (some (x74,y13_1,y13_2,y13_3,y7_4,t12.1,y13_6,x14,0)) else (some ([],0,0,0,[],[],0,[],4))))
end
def impl_OpenShelf.f (k:Nat) (l0_0:List S122):Option ((List Int)×Int×Int×Int×(List Int)×(List S145)×Int×(List S119)×Int):=(impl_DiskOk.f k l0_0).bind fun t0 => (if t0 = true then ((impl_FileAt.f k l0_0 (⟨#[109]⟩:ByteArray)).bind fun t1 => ((impl_ReadManifest.f k t1.1).bind fun t2 => (if t1.2 = true then (if t2.2.2.2.2.2 = true then (impl_OpenShelf.l0 k t2.1 (t2.1.length:Int) 0 l0_0 [] 0 0 0 [] [] 0 t2.2.1 t2.2.2.1 t2.2.2.2.1 t2.2.2.2.2.1) else (some ([],0,0,0,[],[],0,[],2))) else (some ([],0,0,0,[],[],0,[],2))))) else (some ([],0,0,0,[],[],0,[],1)))
def slices_Equal_int_int.l0:Nat→(List Int)→(List Int)→Int→Int→Option Bool
 | 0,_,_,_,_ => none
 | k + 1,x0,x1,x12,x13 => if x13 < x12 then (if 0≤x13 then (if x13 < (x0.length:Int) then (if x13 < (x1.length:Int) then (if rd x0 x13 = rd x1 x13 then (slices_Equal_int_int.l0 k x0 x1 x12 (wrap64 (x13 + 1))) else (some false)) else none) else none) else none) else (some true)
def slices_Equal_int_int.f (k:Nat) (l0:List Int) (l1:List Int):Option Bool:=if (l0.length:Int) = (l1.length:Int) then (slices_Equal_int_int.l0 k l0 l1 (l0.length:Int) 0) else (some false)
def impl_sameManifest.f (k:Nat) (l0_0:List Int) (a0_1:Int) (a0_2:Int) (a0_3:Int) (l0_4:List Int) (l1_0:List Int) (a1_1:Int) (a1_2:Int) (a1_3:Int) (l1_4:List Int):Option Bool:=(slices_Equal_int_int.f k l0_0 l1_0).bind fun t0 => (if t0 = true then (if a0_1 = a1_1 then (if a0_2 = a1_2 then (if a0_3 = a1_3 then ((slices_Equal_int_int.f k l0_4 l1_4).bind fun t1 => (some t1)) else (some false)) else (some false)) else (some false)) else (some false))
def slices_Equal_impl_Spot_impl_Spot.l0:Nat→(List S145)→(List S145)→Int→Int→Option Bool
 | 0,_,_,_,_ => none
 | k + 1,x0,x1,x12,x13 => if x13 < x12 then (if 0≤x13 then (if x13 < (x0.length:Int) then (if x13 < (x1.length:Int) then (if ((((rd_T145 x0 x13).f0).toList == ((rd_T145 x1 x13).f0).toList) && ((((rd_T145 x0 x13).f1) == ((rd_T145 x1 x13).f1)) && ((((rd_T145 x0 x13).f2) == ((rd_T145 x1 x13).f2)) && (((rd_T145 x0 x13).f3) == ((rd_T145 x1 x13).f3))))) = true then (slices_Equal_impl_Spot_impl_Spot.l0 k x0 x1 x12 (wrap64 (x13 + 1))) else (some false)) else none) else none) else none) else (some true)
def slices_Equal_impl_Spot_impl_Spot.f (k:Nat) (l0:List S145) (l1:List S145):Option Bool:=if (l0.length:Int) = (l1.length:Int) then (slices_Equal_impl_Spot_impl_Spot.l0 k l0 l1 (l0.length:Int) 0) else (some false)
def impl_sameShelf.f (k:Nat) (l0_0:List Int) (a0_1:Int) (a0_2:Int) (a0_3:Int) (l0_4:List Int) (l0_5:List S145) (a0_6:Int) (l1_0:List Int) (a1_1:Int) (a1_2:Int) (a1_3:Int) (l1_4:List Int) (l1_5:List S145) (a1_6:Int):Option Bool:=(impl_sameManifest.f k l0_0 a0_1 a0_2 a0_3 l0_4 l1_0 a1_1 a1_2 a1_3 l1_4).bind fun t0 => (if t0 = true then ((slices_Equal_impl_Spot_impl_Spot.f k l0_5 l1_5).bind fun t1 => (if t1 = true then (some (a0_6 == a1_6)) else (some false))) else (some false))
def impl_isOpen.f (k:Nat) (l0_0:List S122) (l1_0:List Int) (a1_1:Int) (a1_2:Int) (a1_3:Int) (l1_4:List Int) (l1_5:List S145) (a1_6:Int):Option Bool:=(impl_OpenShelf.f k l0_0).bind fun t0 => (if t0.2.2.2.2.2.2.2.2 = 0 then (if (t0.2.2.2.2.2.2.2.1.length:Int) = 0 then ((impl_sameShelf.f k t0.1 t0.2.1 t0.2.2.1 t0.2.2.2.1 t0.2.2.2.2.1 t0.2.2.2.2.2.1 t0.2.2.2.2.2.2.1 l1_0 a1_1 a1_2 a1_3 l1_4 l1_5 a1_6).bind fun t1 => (some t1)) else (some false)) else (some false))
mutual
def impl_ShelfMap.j0:Nat→Bool→List S122→List Int→Int→Int→Int→List Int→List S145→Int→Option ((List S147)×Bool)
 | 0,_,_,_,_,_,_,_,_,_ => none
 | k + 1,x19,x274000,x275000,x275001,x275002,x275003,x275004,x275005,x275006 => if x19 = true then (some (([]:List S147),false)) else (impl_ShelfMap.l0 k ([]:List S147) x275005 (x275005.length:Int) 0 x274000)
def impl_ShelfMap.l0:Nat→List S147→List S145→Int→Int→List S122→Option ((List S147)×Bool)
 | 0,_,_,_,_,_ => none
 | k + 1,x6,x21,x22,x23,x274000 => if x23 < x22 then (if 0≤x23 then (if x23 < (x21.length:Int) then ((impl_SegName.f ((rd_T145 x21 x23).f1)).bind fun t279 => ((impl_FileAt.f k x274000 t279).bind fun bt280 => (if (wrap64 (((rd_T145 x21 x23).f2) + ((rd_T145 x21 x23).f3))) > (bt280.1.size:Int) then (some (([]:List S147),false)) else (if 0≤((rd_T145 x21 x23).f2) then (if ((rd_T145 x21 x23).f2)≤(wrap64 (((rd_T145 x21 x23).f2) + ((rd_T145 x21 x23).f3))) then (if (wrap64 (((rd_T145 x21 x23).f2) + ((rd_T145 x21 x23).f3)))≤(bt280.1.size:Int) then (if x6.length < 4398046511104 then (impl_ShelfMap.l0 k (x6++[(⟨(rd_T145 x21 x23).f0,bt280.1.extract (((rd_T145 x21 x23).f2):Int).toNat ((wrap64 (((rd_T145 x21 x23).f2) + ((rd_T145 x21 x23).f3))):Int).toNat⟩:S147)]) x21 x22 (wrap64 (x23 + 1)) x274000) else (none)) else (none)) else (none)) else (none))))) else (none)) else (none)) else (some (x6,true))
end
def impl_ShelfMap.f (k:Nat) (l0_0:List S122) (l1_0:List Int) (a1_1:Int) (a1_2:Int) (a1_3:Int) (l1_4:List Int) (l1_5:List S145) (a1_6:Int):Option ((List S147)×Bool):=(impl_DiskOk.f k l0_0).bind fun t275 => (if t275 = true then ((impl_DirOk.f k l1_5).bind fun t276 => (impl_ShelfMap.j0 k (!t276) l0_0 l1_0 a1_1 a1_2 a1_3 l1_4 l1_5 a1_6)) else (impl_ShelfMap.j0 k true l0_0 l1_0 a1_1 a1_2 a1_3 l1_4 l1_5 a1_6))
def impl_MapOk.l0:Nat→List S147→List S147→Int→Int→Option (Bool)
 | 0,_,_,_,_ => none
 | k + 1,x0,x5,x6,x7 => if x7 < x6 then (if 0≤x7 then (if x7 < (x5.length:Int) then ((impl_keyOk.f ((rd_T147 x5 x7).f0)).bind fun t459 => (if t459 = true then (if (((rd_T147 x5 x7).f1).size:Int) > 40 then (some false) else (if x7 > 0 then (if 0≤(wrap64 (x7 - 1)) then (if (wrap64 (x7 - 1)) < (x0.length:Int) then (if ((Op.bytesLess (((rd_T147 x0 (wrap64 (x7 - 1))).f0).toList) (((rd_T147 x5 x7).f0).toList)) = true) then (impl_MapOk.l0 k x0 x5 x6 (wrap64 (x7 + 1))) else (some false)) else (none)) else (none)) else (impl_MapOk.l0 k x0 x5 x6 (wrap64 (x7 + 1))))) else (some false))) else (none)) else (none)) else (some (decide ((x0.length:Int)≤60)))
def impl_MapOk.f (k:Nat) (l0:List S147):Option (Bool):=impl_MapOk.l0 k l0 l0 (l0.length:Int) 0
def impl_MapBatch.l0:Nat→List S147→List S147→Int→Int→Int→List S162→Option (Int×(List S162)×Bool)
 | 0,_,_,_,_,_,_ => none
 | k + 1,x0,x11,x12,x13,x463000,x463001 => if x13 < x12 then (if 0≤x13 then (if x13 < (x11.length:Int) then (if x463001.length < 3518437208883 then (impl_MapBatch.l0 k x0 x11 x12 (wrap64 (x13 + 1)) x463000 (x463001++[(⟨(rd_T147 x11 x13).f0,(rd_T147 x11 x13).f1,false⟩:S162)])) else (none)) else (none)) else (none)) else ((impl_MapOk.f k x0).bind fun t468 => (if t468 = true then ((impl_BatchOk.f k x463000 x463001).bind fun t469 => (if t469 = true then (some (x463000,x463001,true)) else (some (0,([]:List S162),false)))) else (some (0,([]:List S162),false))))
def impl_MapBatch.f (k:Nat) (l0:List S147) (a1:Int):Option (Int×(List S162)×Bool):=impl_MapBatch.l0 k l0 l0 (l0.length:Int) 0 a1 ([]:List S162)
def slices_Concat_int_int.f (l0:List (List Int)):Option (List Int):=if l0.length≤1000 then (if 1≤l0.length then (if l0.flatten.length * 8≤140737488355328 then some l0.flatten else none) else none) else none
def impl_ManifestText.f (k:Nat) (l0_0:List Int) (a0_1:Int) (a0_2:Int) (a0_3:Int) (l0_4:List Int):Option (ByteArray×Bool):=(impl_ManifestOk.f k l0_0 a0_1 a0_2 a0_3 l0_4).bind fun t0 => (if t0 = true then ((slices_Concat_int_int.f ([([(l0_0.length:Int)]:List Int),l0_0,([a0_1,a0_2,a0_3,(l0_4.length:Int)]:List Int),l0_4]:List (List Int))).bind fun t1 => ((impl_vars.f k t1).bind fun t2 => ((impl_Sealed.f k t2.1).bind fun t3 => (some (t3.1,t3.2))))) else (some ((⟨#[]⟩:ByteArray),false)))
def impl_renewed.f (k:Nat) (l0_0:List Int) (a0_1:Int) (a0_2:Int) (a0_3:Int) (l0_4:List Int):Option ((List S119)×Bool):=(impl_ManifestText.f k l0_0 a0_1 a0_2 a0_3 l0_4).bind fun bt497 => (some ((([(⟨1,(⟨#[109,43]⟩:ByteArray),(⟨#[]⟩:ByteArray),bt497.1⟩:S119),(⟨3,(⟨#[109,43]⟩:ByteArray),(⟨#[109]⟩:ByteArray),(⟨#[]⟩:ByteArray)⟩:S119)]:List S119)),bt497.2))
def impl_copyDisk.f (l0_0:List S122):Option (List S122):=if l0_0.length < 4398046511105 then (some ([]++l0_0)) else none
def slices_Insert_impl_File_impl_File.f (l0:List S122) (a1:Int) (l2:List S122):Option ((List S122)×(List S122)):=(insO 32 l0 a1 l2).bind fun t => some (t,l2)
def impl_withFile.f (k:Nat) (l0_0:List S122) (a1:ByteArray) (a2:ByteArray):Option (List S122):=(impl_copyDisk.f l0_0).bind fun t0 => ((impl_fileNo.f k l0_0 a1).bind fun t1 => (if t1.2 = true then (if 0≤t1.1 then (if t1.1 < (t0.length:Int) then (some (t0.set (t1.1:Int).toNat (⟨(rd_T122 t0 t1.1).f0,a2⟩:S122))) else none) else none) else ((slices_Insert_impl_File_impl_File.f t0 t1.1 ([(⟨a1,a2⟩:S122)]:List S122)).bind fun t2 => (some t2.1))))
def slices_Delete_impl_File_impl_File.f (l0:List S122) (a1 a2:Int):Option (List S122):=delO a1 a2 l0
def impl_without.f (k:Nat) (l0_0:List S122) (a1:ByteArray):Option (List S122):=(impl_copyDisk.f l0_0).bind fun t0 => ((impl_fileNo.f k l0_0 a1).bind fun t1 => (if t1.2 = true then ((slices_Delete_impl_File_impl_File.f t0 t1.1 (wrap64 (t1.1 + 1))).bind fun t2 => (some t2)) else (some t0)))
def impl_PutRaw.f (k:Nat) (l0_0:List S122) (a1_0:Int) (a1_1:ByteArray) (a1_2:ByteArray) (a1_3:ByteArray):Option ((List S122)×Bool):=(impl_DiskOk.f k l0_0).bind fun t0 => (if t0 = true then ((impl_FileAt.f k l0_0 a1_1).bind fun t1 => (if a1_0 = 1 then ((impl_withFile.f k l0_0 a1_1 a1_3).bind fun t2 => ((impl_DiskOk.f k t2).bind fun t3 => (if t3 = true then (some (t2,true)) else (some ([],false))))) else (if a1_0 = 2 then (if t1.1.size + a1_3.size≤9223372036854775807 then ((impl_withFile.f k l0_0 a1_1 (t1.1++a1_3)).bind fun t4 => ((impl_DiskOk.f k t4).bind fun t5 => (if t5 = true then (some (t4,true)) else (some ([],false))))) else none) else (if a1_0 = 3 then ((impl_copyDisk.f l0_0).bind fun t6 => (if a1_1.toList = a1_2.toList then (if t1.2 = true then ((impl_DiskOk.f k t6).bind fun t10 => (if t10 = true then (some (t6,true)) else (some ([],false)))) else (some ([],false))) else ((impl_without.f k l0_0 a1_1).bind fun t7 => ((impl_withFile.f k t7 a1_2 t1.1).bind fun t8 => (if t1.2 = true then ((impl_DiskOk.f k t8).bind fun t9 => (if t9 = true then (some (t8,true)) else (some ([],false)))) else (some ([],false))))))) else (if a1_0 = 4 then ((impl_without.f k l0_0 a1_1).bind fun t11 => (if t1.2 = true then ((impl_DiskOk.f k t11).bind fun t12 => (if t12 = true then (some (t11,true)) else (some ([],false)))) else (some ([],false)))) else (some ([],false))))))) else (some ([],false)))
def impl_PutRaws.l0:Nat→(List S119)→(List S119)→Int→Int→(List S122)→(List S122)→Option ((List S122)×Int)
 | 0,_,_,_,_,_,_ => none
 | k + 1,x1,x22,x23,x24,y4_0,y6_0 => if x24 < x23 then (if 0≤x24 then (if x24 < (x22.length:Int) then ((impl_PutRaw.f k y6_0 ((rd_T119 x22 x24).f0) ((rd_T119 x22 x24).f1) ((rd_T119 x22 x24).f2) ((rd_T119 x22 x24).f3)).bind fun t2 => (if t2.2 = true then (impl_PutRaws.l0 k x1 x22 x23 (wrap64 (x24 + 1)) y4_0 t2.1) else (some (y6_0,x24)))) else none) else none) else (some (y6_0,(x1.length:Int)))
def impl_PutRaws.f (k:Nat) (l0_0:List S122) (l1:List S119):Option ((List S122)×Int):=(impl_DiskOk.f k l0_0).bind fun t0 => (if t0 = true then (if (l1.length:Int) > 60 then (some ([],0)) else ((impl_copyDisk.f l0_0).bind fun t1 => (impl_PutRaws.l0 k l1 l1 (l1.length:Int) 0 [] t1))) else (some ([],0)))
def impl_behind.f (k:Nat) (l0_0:List S122) (l1:List S119):Option ((List Int)×Int×Int×Int×(List Int)×(List S145)×Int×(List S119)×Bool):=(impl_PutRaws.f k l0_0 l1).bind fun t0 => ((impl_OpenShelf.f k t0.1).bind fun t1 => (if t0.2 < (l1.length:Int) then (some ([],0,0,0,[],[],0,[],false)) else (if t1.2.2.2.2.2.2.2.2 = 0 then (if (t1.2.2.2.2.2.2.2.1.length:Int) > 0 then (some ([],0,0,0,[],[],0,[],false)) else (some (t1.1,t1.2.1,t1.2.2.1,t1.2.2.2.1,t1.2.2.2.2.1,t1.2.2.2.2.2.1,t1.2.2.2.2.2.2.1,l1,true))) else (some ([],0,0,0,[],[],0,[],false)))))
def impl_merged.l0:Nat→(List S119)→(List Int)→Int→Int→(List S122)→(List Int)→Int→Int→Int→(List Int)→(List S145)→Int→Option ((List Int)×Int×Int×Int×(List Int)×(List S145)×Int×(List S119)×Bool)
 | 0,_,_,_,_,_,_,_,_,_,_,_,_ => none
 | k + 1,x16,x52,x53,x54,y6_0,y12_0,y12_1,y12_2,y12_3,y12_4,y12_5,y12_6 => if x54 < x53 then (if 0≤x54 then (if x54 < (x52.length:Int) then ((impl_SegName.f (rd x52 x54)).bind fun t2 => (if x16.length + 1 < 2513169434917 then (impl_merged.l0 k (x16++([(⟨4,t2,(⟨#[]⟩:ByteArray),(⟨#[]⟩:ByteArray)⟩:S119)]:List S119)) x52 x53 (wrap64 (x54 + 1)) y6_0 y12_0 y12_1 y12_2 y12_3 y12_4 y12_5 y12_6) else none)) else none) else none) else ((impl_behind.f k y6_0 x16).bind fun t3 => (some (t3.1,t3.2.1,t3.2.2.1,t3.2.2.2.1,t3.2.2.2.2.1,t3.2.2.2.2.2.1,t3.2.2.2.2.2.2.1,t3.2.2.2.2.2.2.2.1,t3.2.2.2.2.2.2.2.2)))
def impl_merged.f (k:Nat) (l0_0:List S122) (l1_0:List Int) (a1_1:Int) (a1_2:Int) (a1_3:Int) (l1_4:List Int) (l1_5:List S145) (a1_6:Int) (a2:ByteArray) (a3:Int) (a4:Int) (l5:List Int):Option ((List Int)×Int×Int×Int×(List Int)×(List S145)×Int×(List S119)×Bool):=if l5.length < 17592186044417 then ((impl_renewed.f k ([a1_1]:List Int) (wrap64 (a1_1 + 1)) a3 a4 ([]++l5)).bind fun t0 => (if t0.2 = true then ((impl_SegName.f a1_1).bind fun t1 => (if 1 + t0.1.length < 2513169434917 then (impl_merged.l0 k (([(⟨1,t1,(⟨#[]⟩:ByteArray),a2⟩:S119)]:List S119)++t0.1) l1_0 (l1_0.length:Int) 0 l0_0 [] 0 0 0 [] [] 0) else none)) else (some ([],0,0,0,[],[],0,[],false)))) else none
def impl_MergeShelf.f (k:Nat) (l0_0:List S122) (l1_0:List Int) (a1_1:Int) (a1_2:Int) (a1_3:Int) (l1_4:List Int) (l1_5:List S145) (a1_6:Int) (a2:Int) (a3:Int) (l4:List Int):Option ((List Int)×Int×Int×Int×(List Int)×(List S145)×Int×(List S119)×Bool):=(impl_isOpen.f k l0_0 l1_0 a1_1 a1_2 a1_3 l1_4 l1_5 a1_6).bind fun t0 => (if t0 = true then (if a2 = a1_6 then ((impl_ShelfMap.f k l0_0 l1_0 a1_1 a1_2 a1_3 l1_4 l1_5 a1_6).bind fun t1 => ((impl_MapBatch.f k t1.1 a1_6).bind fun t2 => ((impl_BatchText.f k t2.1 t2.2.1).bind fun t3 => ((impl_Frame.f k t3.1).bind fun t4 => (if t1.2 = true then (if t2.2.2 = true then (if t3.2 = true then (if t4.2 = true then ((impl_merged.f k l0_0 l1_0 a1_1 a1_2 a1_3 l1_4 l1_5 a1_6 t4.1 a2 a3 l4).bind fun t5 => (some (t5.1,t5.2.1,t5.2.2.1,t5.2.2.2.1,t5.2.2.2.2.1,t5.2.2.2.2.2.1,t5.2.2.2.2.2.2.1,t5.2.2.2.2.2.2.2.1,t5.2.2.2.2.2.2.2.2))) else (some ([],0,0,0,[],[],0,[],false))) else (some ([],0,0,0,[],[],0,[],false))) else (some ([],0,0,0,[],[],0,[],false))) else (some ([],0,0,0,[],[],0,[],false))))))) else (some ([],0,0,0,[],[],0,[],false))) else (some ([],0,0,0,[],[],0,[],false)))
def laws_eqIntS.l0:Nat→List Int→List Int→Int→Option (Bool)
 | 0,_,_,_ => none
 | k + 1,x0,x1,x5 => if x5 < (x0.length:Int) then (if 0≤x5 then (if x5 < (x1.length:Int) then (if (rd x0 x5) = (rd x1 x5) then (laws_eqIntS.l0 k x0 x1 (wrap64 (x5 + 1))) else (some false)) else (none)) else (none)) else (some true)
def laws_eqIntS.f (k:Nat) (l0:List Int) (l1:List Int):Option (Bool):=if (l0.length:Int) = (l1.length:Int) then (laws_eqIntS.l0 k l0 l1 0) else (some false)
def laws_eqManifest.f (k:Nat) (l0_0:List Int) (a0_1:Int) (a0_2:Int) (a0_3:Int) (l0_4:List Int) (l1_0:List Int) (a1_1:Int) (a1_2:Int) (a1_3:Int) (l1_4:List Int):Option (Bool):=(laws_eqIntS.f k l0_0 l1_0).bind fun t184 => (if t184 = true then (if a0_1 = a1_1 then (if a0_2 = a1_2 then (if a0_3 = a1_3 then ((laws_eqIntS.f k l0_4 l1_4).bind fun t185 => (if t185 = true then (some true) else (some false))) else (some false)) else (some false)) else (some false)) else (some false))
def laws_eqSpot.f (a0_0:ByteArray) (a0_1:Int) (a0_2:Int) (a0_3:Int) (a1_0:ByteArray) (a1_1:Int) (a1_2:Int) (a1_3:Int):Option (Bool):=if a0_0.toList = a1_0.toList then (if a0_1 = a1_1 then (if a0_2 = a1_2 then (if a0_3 = a1_3 then (some true) else (some false)) else (some false)) else (some false)) else (some false)
def laws_eqSpotS.l0:Nat→List S145→List S145→Int→Option (Bool)
 | 0,_,_,_ => none
 | k + 1,x0,x1,x5 => if x5 < (x0.length:Int) then (if 0≤x5 then (if x5 < (x1.length:Int) then ((laws_eqSpot.f ((rd_T145 x0 x5).f0) ((rd_T145 x0 x5).f1) ((rd_T145 x0 x5).f2) ((rd_T145 x0 x5).f3) ((rd_T145 x1 x5).f0) ((rd_T145 x1 x5).f1) ((rd_T145 x1 x5).f2) ((rd_T145 x1 x5).f3)).bind fun t190 => (if t190 = true then (laws_eqSpotS.l0 k x0 x1 (wrap64 (x5 + 1))) else (some false))) else (none)) else (none)) else (some true)
def laws_eqSpotS.f (k:Nat) (l0:List S145) (l1:List S145):Option (Bool):=if (l0.length:Int) = (l1.length:Int) then (laws_eqSpotS.l0 k l0 l1 0) else (some false)
def laws_eqShelf.f (k:Nat) (l0_0:List Int) (a0_1:Int) (a0_2:Int) (a0_3:Int) (l0_4:List Int) (l0_5:List S145) (a0_6:Int) (l1_0:List Int) (a1_1:Int) (a1_2:Int) (a1_3:Int) (l1_4:List Int) (l1_5:List S145) (a1_6:Int):Option (Bool):=(laws_eqManifest.f k l0_0 a0_1 a0_2 a0_3 l0_4 l1_0 a1_1 a1_2 a1_3 l1_4).bind fun t193 => (if t193 = true then ((laws_eqSpotS.f k l0_5 l1_5).bind fun t194 => (if t194 = true then (if a0_6 = a1_6 then (some true) else (some false)) else (some false))) else (some false))
def laws_eqRaw.f (a0_0:Int) (a0_1:ByteArray) (a0_2:ByteArray) (a0_3:ByteArray) (a1_0:Int) (a1_1:ByteArray) (a1_2:ByteArray) (a1_3:ByteArray):Option (Bool):=if a0_0 = a1_0 then (if a0_1.toList = a1_1.toList then (if a0_2.toList = a1_2.toList then (if a0_3.toList = a1_3.toList then (some true) else (some false)) else (some false)) else (some false)) else (some false)
def laws_eqRawS.l0:Nat→List S119→List S119→Int→Option (Bool)
 | 0,_,_,_ => none
 | k + 1,x0,x1,x5 => if x5 < (x0.length:Int) then (if 0≤x5 then (if x5 < (x1.length:Int) then ((laws_eqRaw.f ((rd_T119 x0 x5).f0) ((rd_T119 x0 x5).f1) ((rd_T119 x0 x5).f2) ((rd_T119 x0 x5).f3) ((rd_T119 x1 x5).f0) ((rd_T119 x1 x5).f1) ((rd_T119 x1 x5).f2) ((rd_T119 x1 x5).f3)).bind fun t199 => (if t199 = true then (laws_eqRawS.l0 k x0 x1 (wrap64 (x5 + 1))) else (some false))) else (none)) else (none)) else (some true)
def laws_eqRawS.f (k:Nat) (l0:List S119) (l1:List S119):Option (Bool):=if (l0.length:Int) = (l1.length:Int) then (laws_eqRawS.l0 k l0 l1 0) else (some false)
def laws_eqFile.f (a0_0:ByteArray) (a0_1:ByteArray) (a1_0:ByteArray) (a1_1:ByteArray):Option (Bool):=if a0_0.toList = a1_0.toList then (if a0_1.toList = a1_1.toList then (some true) else (some false)) else (some false)
def laws_eqFileS.l0:Nat→List S122→List S122→Int→Option (Bool)
 | 0,_,_,_ => none
 | k + 1,x0,x1,x5 => if x5 < (x0.length:Int) then (if 0≤x5 then (if x5 < (x1.length:Int) then ((laws_eqFile.f ((rd_T122 x0 x5).f0) ((rd_T122 x0 x5).f1) ((rd_T122 x1 x5).f0) ((rd_T122 x1 x5).f1)).bind fun t176 => (if t176 = true then (laws_eqFileS.l0 k x0 x1 (wrap64 (x5 + 1))) else (some false))) else (none)) else (none)) else (some true)
def laws_eqFileS.f (k:Nat) (l0:List S122) (l1:List S122):Option (Bool):=if (l0.length:Int) = (l1.length:Int) then (laws_eqFileS.l0 k l0 l1 0) else (some false)
def laws_eqDisk.f (k:Nat) (l0_0:List S122) (l1_0:List S122):Option (Bool):=(laws_eqFileS.f k l0_0 l1_0).bind fun t179 => (if t179 = true then (some true) else (some false))
def laws_markText.l0:Nat→Int→ByteArray→Option ByteArray
 | 0,_,_ => none
 | k + 1,x0,x3 => if x0 > 0 then (if (strOfNums ([(wrap64 (48 + (Int.tmod x0 10))) % 256]:List Int)).size + x3.size≤9223372036854775807 then (laws_markText.l0 k (wrap64 (Int.tdiv x0 10)) (strOfNums ([(wrap64 (48 + (Int.tmod x0 10))) % 256]:List Int)++x3)) else none) else (if (⟨#[109]⟩:ByteArray).size + x3.size≤9223372036854775807 then (some ((⟨#[109]⟩:ByteArray)++x3)) else none)
def laws_markText.f (k:Nat) (a0:Int):Option ByteArray:=if a0≤0 then (some (⟨#[109,48]⟩:ByteArray)) else (laws_markText.l0 k a0 (⟨#[]⟩:ByteArray))
def laws_markFileS.l0:Nat→(List S122)→Int→Int→Option (Int×(List S122))
 | 0,_,_,_ => none
 | k + 1,w0,x1,x5 => if x5 < (w0.length:Int) then ((laws_markText.f k x1).bind fun t0 => (if 0≤x5 then ((laws_markText.f k (wrap64 (x1 + 1))).bind fun t1 => ((fun (w1:List S122) => (if x5 < (w1.length:Int) then (laws_markFileS.l0 k (w1.set (x5:Int).toNat (⟨(rd_T122 w1 x5).f0,t1⟩:S122)) (wrap64 ((wrap64 (x1 + 1)) + 1)) (wrap64 (x5 + 1))) else none)) (w0.set (x5:Int).toNat (⟨t0,(rd_T122 w0 x5).f1⟩:S122)))) else none)) else (some (x1,w0))
def laws_markFileS.f (k:Nat) (l0:List S122) (a1:Int):Option (Int×(List S122)):=laws_markFileS.l0 k l0 a1 0
def laws_markDisk.f (k:Nat) (l0_0:List S122) (a1:Int):Option (Int×(List S122)):=(laws_markFileS.f k l0_0 a1).bind fun t0 => (some (t0.1,t0.2))
def laws_markIntS.l0:Nat→(List Int)→Int→Int→Option (Int×(List Int))
 | 0,_,_,_ => none
 | k + 1,w0,x1,x5 => if x5 < (w0.length:Int) then (if 0≤x5 then (laws_markIntS.l0 k (w0.set (x5:Int).toNat x1) (wrap64 (x1 + 1)) (wrap64 (x5 + 1))) else none) else (some (x1,w0))
def laws_markIntS.f (k:Nat) (l0:List Int) (a1:Int):Option (Int×(List Int)):=laws_markIntS.l0 k l0 a1 0
def laws_markManifest.f (k:Nat) (l0_0:List Int) (a0_1:Int) (a0_2:Int) (a0_3:Int) (l0_4:List Int) (a1:Int):Option (Int×(List Int)×(List Int)):=(laws_markIntS.f k l0_0 a1).bind fun t0 => ((laws_markIntS.f k l0_4 t0.1).bind fun t1 => (some (t1.1,t0.2,t1.2)))
def laws_markSpotS.l0:Nat→(List S145)→Int→Int→Option (Int×(List S145))
 | 0,_,_,_ => none
 | k + 1,w0,x1,x5 => if x5 < (w0.length:Int) then ((laws_markText.f k x1).bind fun t0 => (if 0≤x5 then ((fun (w1:List S145) => (if x5 < (w1.length:Int) then ((fun (w2:List S145) => (if x5 < (w2.length:Int) then ((fun (w3:List S145) => (if x5 < (w3.length:Int) then (laws_markSpotS.l0 k (w3.set (x5:Int).toNat (⟨(rd_T145 w3 x5).f0,(rd_T145 w3 x5).f1,(rd_T145 w3 x5).f2,wrap64 ((wrap64 ((wrap64 (x1 + 1)) + 1)) + 1)⟩:S145)) (wrap64 ((wrap64 ((wrap64 ((wrap64 (x1 + 1)) + 1)) + 1)) + 1)) (wrap64 (x5 + 1))) else none)) (w2.set (x5:Int).toNat (⟨(rd_T145 w2 x5).f0,(rd_T145 w2 x5).f1,wrap64 ((wrap64 (x1 + 1)) + 1),(rd_T145 w2 x5).f3⟩:S145))) else none)) (w1.set (x5:Int).toNat (⟨(rd_T145 w1 x5).f0,wrap64 (x1 + 1),(rd_T145 w1 x5).f2,(rd_T145 w1 x5).f3⟩:S145))) else none)) (w0.set (x5:Int).toNat (⟨t0,(rd_T145 w0 x5).f1,(rd_T145 w0 x5).f2,(rd_T145 w0 x5).f3⟩:S145))) else none)) else (some (x1,w0))
def laws_markSpotS.f (k:Nat) (l0:List S145) (a1:Int):Option (Int×(List S145)):=laws_markSpotS.l0 k l0 a1 0
def laws_markShelf.f (k:Nat) (l0_0:List Int) (a0_1:Int) (a0_2:Int) (a0_3:Int) (l0_4:List Int) (l0_5:List S145) (a0_6:Int) (a1:Int):Option (Int×(List Int)×(List Int)×(List S145)):=(laws_markManifest.f k l0_0 a0_1 a0_2 a0_3 l0_4 a1).bind fun t0 => ((laws_markSpotS.f k l0_5 t0.1).bind fun t1 => (some (t1.1,t0.2.1,t0.2.2,t1.2)))
def laws_markRawS.l0:Nat→(List S119)→Int→Int→Option (Int×(List S119))
 | 0,_,_,_ => none
 | k + 1,w0,x1,x5 => if x5 < (w0.length:Int) then (if 0≤x5 then ((laws_markText.f k (wrap64 (x1 + 1))).bind fun t0 => ((fun (w1:List S119) => (if x5 < (w1.length:Int) then ((laws_markText.f k (wrap64 ((wrap64 (x1 + 1)) + 1))).bind fun t1 => ((fun (w2:List S119) => (if x5 < (w2.length:Int) then ((laws_markText.f k (wrap64 ((wrap64 ((wrap64 (x1 + 1)) + 1)) + 1))).bind fun t2 => ((fun (w3:List S119) => (if x5 < (w3.length:Int) then (laws_markRawS.l0 k (w3.set (x5:Int).toNat (⟨(rd_T119 w3 x5).f0,(rd_T119 w3 x5).f1,(rd_T119 w3 x5).f2,t2⟩:S119)) (wrap64 ((wrap64 ((wrap64 ((wrap64 (x1 + 1)) + 1)) + 1)) + 1)) (wrap64 (x5 + 1))) else none)) (w2.set (x5:Int).toNat (⟨(rd_T119 w2 x5).f0,(rd_T119 w2 x5).f1,t1,(rd_T119 w2 x5).f3⟩:S119)))) else none)) (w1.set (x5:Int).toNat (⟨(rd_T119 w1 x5).f0,t0,(rd_T119 w1 x5).f2,(rd_T119 w1 x5).f3⟩:S119)))) else none)) (w0.set (x5:Int).toNat (⟨x1,(rd_T119 w0 x5).f1,(rd_T119 w0 x5).f2,(rd_T119 w0 x5).f3⟩:S119)))) else none) else (some (x1,w0))
def laws_markRawS.f (k:Nat) (l0:List S119) (a1:Int):Option (Int×(List S119)):=laws_markRawS.l0 k l0 a1 0
def laws_heldIntS.l0:Nat→List Int→Int→Int→Option (Int)
 | 0,_,_,_ => none
 | k + 1,x0,x1,x5 => if x5 < (x0.length:Int) then (if 0≤x5 then (if (rd x0 x5) = x1 then (laws_heldIntS.l0 k x0 (wrap64 (x1 + 1)) (wrap64 (x5 + 1))) else (some (-1))) else (none)) else (some x1)
def laws_heldIntS.f (k:Nat) (l0:List Int) (a1:Int):Option (Int):=laws_heldIntS.l0 k l0 a1 0
def laws_heldManifest.f (k:Nat) (l0_0:List Int) (a0_1:Int) (a0_2:Int) (a0_3:Int) (l0_4:List Int) (a1:Int):Option (Int):=(laws_heldIntS.f k l0_0 a1).bind fun t236 => (if t236 < 0 then (some (-1)) else ((laws_heldIntS.f k l0_4 t236).bind fun t237 => (if t237 < 0 then (some (-1)) else (some t237))))
def laws_heldSpotS.l0:Nat→List S145→Int→Int→Option (Int)
 | 0,_,_,_ => none
 | k + 1,x0,x1,x5 => if x5 < (x0.length:Int) then (if 0≤x5 then ((laws_markText.f k x1).bind fun t239 => (if ((rd_T145 x0 x5).f0).toList = t239.toList then (if ((rd_T145 x0 x5).f1) = (wrap64 (x1 + 1)) then (if ((rd_T145 x0 x5).f2) = (wrap64 ((wrap64 (x1 + 1)) + 1)) then (if ((rd_T145 x0 x5).f3) = (wrap64 ((wrap64 ((wrap64 (x1 + 1)) + 1)) + 1)) then (laws_heldSpotS.l0 k x0 (wrap64 ((wrap64 ((wrap64 ((wrap64 (x1 + 1)) + 1)) + 1)) + 1)) (wrap64 (x5 + 1))) else (some (-1))) else (some (-1))) else (some (-1))) else (some (-1)))) else (none)) else (some x1)
def laws_heldSpotS.f (k:Nat) (l0:List S145) (a1:Int):Option (Int):=laws_heldSpotS.l0 k l0 a1 0
def laws_heldShelf.f (k:Nat) (l0_0:List Int) (a0_1:Int) (a0_2:Int) (a0_3:Int) (l0_4:List Int) (l0_5:List S145) (a0_6:Int) (a1:Int):Option (Int):=(laws_heldManifest.f k l0_0 a0_1 a0_2 a0_3 l0_4 a1).bind fun t244 => (if t244 < 0 then (some (-1)) else ((laws_heldSpotS.f k l0_5 t244).bind fun t245 => (if t245 < 0 then (some (-1)) else (some t245))))
def laws_heldRawS.l0:Nat→List S119→Int→Int→Option (Int)
 | 0,_,_,_ => none
 | k + 1,x0,x1,x5 => if x5 < (x0.length:Int) then (if 0≤x5 then (if ((rd_T119 x0 x5).f0) = x1 then ((laws_markText.f k (wrap64 (x1 + 1))).bind fun t248 => (if ((rd_T119 x0 x5).f1).toList = t248.toList then ((laws_markText.f k (wrap64 ((wrap64 (x1 + 1)) + 1))).bind fun t250 => (if ((rd_T119 x0 x5).f2).toList = t250.toList then ((laws_markText.f k (wrap64 ((wrap64 ((wrap64 (x1 + 1)) + 1)) + 1))).bind fun t252 => (if ((rd_T119 x0 x5).f3).toList = t252.toList then (laws_heldRawS.l0 k x0 (wrap64 ((wrap64 ((wrap64 ((wrap64 (x1 + 1)) + 1)) + 1)) + 1)) (wrap64 (x5 + 1))) else (some (-1)))) else (some (-1)))) else (some (-1)))) else (some (-1))) else (none)) else (some x1)
def laws_heldRawS.f (k:Nat) (l0:List S119) (a1:Int):Option (Int):=laws_heldRawS.l0 k l0 a1 0
def laws_FnExactMergeShelf.f (k:Nat) (l0_0:List S171) (l1_0:List Int) (a1_1:Int) (a1_2:Int) (a1_3:Int) (l1_4:List Int) (l1_5:List S173) (a1_6:Int) (a2:Int) (a3:Int) (l4:List Int):Option Bool:=if (l4.length:Int) > 1048576 then (some true) else ((laws_szDisk.f k l0_0 1048576).bind fun t0 => (if t0 < 0 then (some true) else ((laws_szShelf.f k l1_0 a1_1 a1_2 a1_3 l1_4 l1_5 a1_6 t0).bind fun t1 => (if t1 < 0 then (some true) else ((laws_toDisk.f k l0_0).bind fun t2 => ((laws_toShelf.f k l1_0 a1_1 a1_2 a1_3 l1_4 l1_5 a1_6).bind fun t3 => ((laws_toIntS.f k l4).bind fun t4 => ((spec_MergeShelf.f k t2 t3.1 t3.2.1 t3.2.2.1 t3.2.2.2.1 t3.2.2.2.2.1 t3.2.2.2.2.2.1 t3.2.2.2.2.2.2 a2 a3 t4).bind fun t5 => ((laws_toDisk.f k l0_0).bind fun t6 => ((laws_toShelf.f k l1_0 a1_1 a1_2 a1_3 l1_4 l1_5 a1_6).bind fun t7 => ((laws_toIntS.f k l4).bind fun t8 => ((impl_MergeShelf.f k t6 t7.1 t7.2.1 t7.2.2.1 t7.2.2.2.1 t7.2.2.2.2.1 t7.2.2.2.2.2.1 t7.2.2.2.2.2.2 a2 a3 t8).bind fun t9 => ((laws_eqShelf.f k t9.1 t9.2.1 t9.2.2.1 t9.2.2.2.1 t9.2.2.2.2.1 t9.2.2.2.2.2.1 t9.2.2.2.2.2.2.1 t5.1 t5.2.1 t5.2.2.1 t5.2.2.2.1 t5.2.2.2.2.1 t5.2.2.2.2.2.1 t5.2.2.2.2.2.2.1).bind fun t10 => (if t10 = true then ((laws_eqRawS.f k t9.2.2.2.2.2.2.2.1 t5.2.2.2.2.2.2.2.1).bind fun t11 => (if t11 = true then (if (t9.2.2.2.2.2.2.2.2 != t5.2.2.2.2.2.2.2.2) = true then (some false) else ((laws_toDisk.f k l0_0).bind fun t12 => ((laws_eqDisk.f k t6 t12).bind fun t13 => (if t13 = true then ((laws_toShelf.f k l1_0 a1_1 a1_2 a1_3 l1_4 l1_5 a1_6).bind fun t14 => ((laws_eqShelf.f k t7.1 t7.2.1 t7.2.2.1 t7.2.2.2.1 t7.2.2.2.2.1 t7.2.2.2.2.2.1 t7.2.2.2.2.2.2 t14.1 t14.2.1 t14.2.2.1 t14.2.2.2.1 t14.2.2.2.2.1 t14.2.2.2.2.2.1 t14.2.2.2.2.2.2).bind fun t15 => (if t15 = true then ((laws_toIntS.f k l4).bind fun t16 => ((laws_eqIntS.f k t8 t16).bind fun t17 => (if t17 = true then ((laws_markDisk.f k t6 1).bind fun t18 => ((laws_markShelf.f k t7.1 t7.2.1 t7.2.2.1 t7.2.2.2.1 t7.2.2.2.2.1 t7.2.2.2.2.2.1 t7.2.2.2.2.2.2 t18.1).bind fun t19 => ((laws_markIntS.f k t8 t19.1).bind fun t20 => (if t20.1 < 0 then (some false) else ((laws_eqShelf.f k t9.1 t9.2.1 t9.2.2.1 t9.2.2.2.1 t9.2.2.2.2.1 t9.2.2.2.2.2.1 t9.2.2.2.2.2.2.1 t5.1 t5.2.1 t5.2.2.1 t5.2.2.2.1 t5.2.2.2.2.1 t5.2.2.2.2.2.1 t5.2.2.2.2.2.2.1).bind fun t21 => (if t21 = true then ((laws_eqRawS.f k t9.2.2.2.2.2.2.2.1 t5.2.2.2.2.2.2.2.1).bind fun t22 => (if t22 = true then (if (t9.2.2.2.2.2.2.2.2 != t5.2.2.2.2.2.2.2.2) = true then (some false) else ((laws_markShelf.f k t9.1 t9.2.1 t9.2.2.1 t9.2.2.2.1 t9.2.2.2.2.1 t9.2.2.2.2.2.1 t9.2.2.2.2.2.2.1 1).bind fun t23 => ((laws_markRawS.f k t9.2.2.2.2.2.2.2.1 t23.1).bind fun t24 => ((laws_heldShelf.f k t23.2.1 t9.2.1 t9.2.2.1 t9.2.2.2.1 t23.2.2.1 t23.2.2.2 t9.2.2.2.2.2.2.1 1).bind fun t25 => (if t25 < 0 then (some false) else ((laws_heldRawS.f k t24.2 t25).bind fun t26 => (if t26 < 0 then (some false) else (if t26 = t24.1 then ((laws_toDisk.f k l0_0).bind fun t27 => ((laws_toShelf.f k l1_0 a1_1 a1_2 a1_3 l1_4 l1_5 a1_6).bind fun t28 => ((laws_toIntS.f k l4).bind fun t29 => ((impl_MergeShelf.f k t27 t28.1 t28.2.1 t28.2.2.1 t28.2.2.2.1 t28.2.2.2.2.1 t28.2.2.2.2.2.1 t28.2.2.2.2.2.2 a2 a3 t29).bind fun t30 => ((laws_eqShelf.f k t30.1 t30.2.1 t30.2.2.1 t30.2.2.2.1 t30.2.2.2.2.1 t30.2.2.2.2.2.1 t30.2.2.2.2.2.2.1 t5.1 t5.2.1 t5.2.2.1 t5.2.2.2.1 t5.2.2.2.2.1 t5.2.2.2.2.2.1 t5.2.2.2.2.2.2.1).bind fun t31 => (if t31 = true then ((laws_eqRawS.f k t30.2.2.2.2.2.2.2.1 t5.2.2.2.2.2.2.2.1).bind fun t32 => (if t32 = true then (if (t30.2.2.2.2.2.2.2.2 != t5.2.2.2.2.2.2.2.2) = true then (some false) else ((laws_heldShelf.f k t23.2.1 t9.2.1 t9.2.2.1 t9.2.2.2.1 t23.2.2.1 t23.2.2.2 t9.2.2.2.2.2.2.1 1).bind fun t33 => (if t33 < 0 then (some false) else ((laws_heldRawS.f k t24.2 t33).bind fun t34 => (if t34 < 0 then (some false) else (if t34 = t24.1 then (some true) else (some false))))))) else (some false))) else (some false))))))) else (some false))))))))) else (some false))) else (some false))))))) else (some false)))) else (some false)))) else (some false))))) else (some false))) else (some false)))))))))))))))
def nL (l:List (List Int)):List (List CV):=l.map fun x => [.sl [.int .i64] (nI .i64 x)]
structure En where
 eI:IntKind→List Int→List (List CV)
 eS:List ByteArray→List (List CV)
 eL:List (List Int)→List (List CV)
 e171:List S171→List (List CV)
 e173:List S173→List (List CV)
 e122:List S122→List (List CV)
 e145:List S145→List (List CV)
 e119:List S119→List (List CV)
 e147:List S147→List (List CV)
 e162:List S162→List (List CV)
 e59:List S59→List (List CV)
 e113:List S113→List (List CV)
def c171 (x:S171):List CV:=[.str x.f0,.str x.f1]
def m171 (l:List S171):List (List CV):=l.map c171
theorem m171_len (l:List S171):(m171 l).length = l.length:=List.length_map _
theorem m171_nil:m171 [] = []:=rfl
theorem m171_app (a:List S171) (f0:ByteArray) (f1:ByteArray):m171 a++[[.str f0,.str f1]] = m171 (a++[(⟨f0,f1⟩:S171)]):=by simp [m171,c171]
theorem m171_cut (l:List S171) (i j:Int):cutR (m171 l) i j = m171 ((l.drop i.toNat).take (j.toNat - i.toNat)):=by simp [cutR,m171]
theorem m171_cat (a b:List S171):m171 a++m171 b = m171 (a++b):=List.map_append.symm
theorem m171_cons (x:S171) (l:List S171):m171 (x::l) = [.str x.f0,.str x.f1]::m171 l:=rfl
theorem m171_0 (l:List S171) (i:Int):gS (m171 l) i 0 = (rd_T171 l i).f0:=by
 unfold gS rd_T171 m171;rw [gC_map,List.getD_eq_getElem?_getD]
 cases l[i.toNat]? <;> rfl
theorem m171_1 (l:List S171) (i:Int):gS (m171 l) i 1 = (rd_T171 l i).f1:=by
 unfold gS rd_T171 m171;rw [gC_map,List.getD_eq_getElem?_getD]
 cases l[i.toNat]? <;> rfl
def c173 (x:S173):List CV:=[.str x.f0,.int .i64 x.f1,.int .i64 x.f2,.int .i64 x.f3]
def m173 (l:List S173):List (List CV):=l.map c173
theorem m173_len (l:List S173):(m173 l).length = l.length:=List.length_map _
theorem m173_nil:m173 [] = []:=rfl
theorem m173_app (a:List S173) (f0:ByteArray) (f1:Int) (f2:Int) (f3:Int):m173 a++[[.str f0,.int .i64 f1,.int .i64 f2,.int .i64 f3]] = m173 (a++[(⟨f0,f1,f2,f3⟩:S173)]):=by simp [m173,c173]
theorem m173_cut (l:List S173) (i j:Int):cutR (m173 l) i j = m173 ((l.drop i.toNat).take (j.toNat - i.toNat)):=by simp [cutR,m173]
theorem m173_cat (a b:List S173):m173 a++m173 b = m173 (a++b):=List.map_append.symm
theorem m173_cons (x:S173) (l:List S173):m173 (x::l) = [.str x.f0,.int .i64 x.f1,.int .i64 x.f2,.int .i64 x.f3]::m173 l:=rfl
theorem m173_0 (l:List S173) (i:Int):gS (m173 l) i 0 = (rd_T173 l i).f0:=by
 unfold gS rd_T173 m173;rw [gC_map,List.getD_eq_getElem?_getD]
 cases l[i.toNat]? <;> rfl
theorem m173_1 (l:List S173) (i:Int):gI (m173 l) i 1 = (rd_T173 l i).f1:=by
 unfold gI rd_T173 m173;rw [gC_map,List.getD_eq_getElem?_getD]
 cases l[i.toNat]? <;> rfl
theorem m173_2 (l:List S173) (i:Int):gI (m173 l) i 2 = (rd_T173 l i).f2:=by
 unfold gI rd_T173 m173;rw [gC_map,List.getD_eq_getElem?_getD]
 cases l[i.toNat]? <;> rfl
theorem m173_3 (l:List S173) (i:Int):gI (m173 l) i 3 = (rd_T173 l i).f3:=by
 unfold gI rd_T173 m173;rw [gC_map,List.getD_eq_getElem?_getD]
 cases l[i.toNat]? <;> rfl
def c122 (x:S122):List CV:=[.str x.f0,.str x.f1]
def m122 (l:List S122):List (List CV):=l.map c122
theorem m122_len (l:List S122):(m122 l).length = l.length:=List.length_map _
theorem m122_nil:m122 [] = []:=rfl
theorem m122_app (a:List S122) (f0:ByteArray) (f1:ByteArray):m122 a++[[.str f0,.str f1]] = m122 (a++[(⟨f0,f1⟩:S122)]):=by simp [m122,c122]
theorem m122_cut (l:List S122) (i j:Int):cutR (m122 l) i j = m122 ((l.drop i.toNat).take (j.toNat - i.toNat)):=by simp [cutR,m122]
theorem m122_cat (a b:List S122):m122 a++m122 b = m122 (a++b):=List.map_append.symm
theorem m122_cons (x:S122) (l:List S122):m122 (x::l) = [.str x.f0,.str x.f1]::m122 l:=rfl
theorem m122_0 (l:List S122) (i:Int):gS (m122 l) i 0 = (rd_T122 l i).f0:=by
 unfold gS rd_T122 m122;rw [gC_map,List.getD_eq_getElem?_getD]
 cases l[i.toNat]? <;> rfl
theorem m122_1 (l:List S122) (i:Int):gS (m122 l) i 1 = (rd_T122 l i).f1:=by
 unfold gS rd_T122 m122;rw [gC_map,List.getD_eq_getElem?_getD]
 cases l[i.toNat]? <;> rfl
def c145 (x:S145):List CV:=[.str x.f0,.int .i64 x.f1,.int .i64 x.f2,.int .i64 x.f3]
def m145 (l:List S145):List (List CV):=l.map c145
theorem m145_len (l:List S145):(m145 l).length = l.length:=List.length_map _
theorem m145_nil:m145 [] = []:=rfl
theorem m145_app (a:List S145) (f0:ByteArray) (f1:Int) (f2:Int) (f3:Int):m145 a++[[.str f0,.int .i64 f1,.int .i64 f2,.int .i64 f3]] = m145 (a++[(⟨f0,f1,f2,f3⟩:S145)]):=by simp [m145,c145]
theorem m145_cut (l:List S145) (i j:Int):cutR (m145 l) i j = m145 ((l.drop i.toNat).take (j.toNat - i.toNat)):=by simp [cutR,m145]
theorem m145_cat (a b:List S145):m145 a++m145 b = m145 (a++b):=List.map_append.symm
theorem m145_cons (x:S145) (l:List S145):m145 (x::l) = [.str x.f0,.int .i64 x.f1,.int .i64 x.f2,.int .i64 x.f3]::m145 l:=rfl
theorem m145_0 (l:List S145) (i:Int):gS (m145 l) i 0 = (rd_T145 l i).f0:=by
 unfold gS rd_T145 m145;rw [gC_map,List.getD_eq_getElem?_getD]
 cases l[i.toNat]? <;> rfl
theorem m145_1 (l:List S145) (i:Int):gI (m145 l) i 1 = (rd_T145 l i).f1:=by
 unfold gI rd_T145 m145;rw [gC_map,List.getD_eq_getElem?_getD]
 cases l[i.toNat]? <;> rfl
theorem m145_2 (l:List S145) (i:Int):gI (m145 l) i 2 = (rd_T145 l i).f2:=by
 unfold gI rd_T145 m145;rw [gC_map,List.getD_eq_getElem?_getD]
 cases l[i.toNat]? <;> rfl
theorem m145_3 (l:List S145) (i:Int):gI (m145 l) i 3 = (rd_T145 l i).f3:=by
 unfold gI rd_T145 m145;rw [gC_map,List.getD_eq_getElem?_getD]
 cases l[i.toNat]? <;> rfl
def c119 (x:S119):List CV:=[.int .i64 x.f0,.str x.f1,.str x.f2,.str x.f3]
def m119 (l:List S119):List (List CV):=l.map c119
theorem m119_len (l:List S119):(m119 l).length = l.length:=List.length_map _
theorem m119_nil:m119 [] = []:=rfl
theorem m119_app (a:List S119) (f0:Int) (f1:ByteArray) (f2:ByteArray) (f3:ByteArray):m119 a++[[.int .i64 f0,.str f1,.str f2,.str f3]] = m119 (a++[(⟨f0,f1,f2,f3⟩:S119)]):=by simp [m119,c119]
theorem m119_cut (l:List S119) (i j:Int):cutR (m119 l) i j = m119 ((l.drop i.toNat).take (j.toNat - i.toNat)):=by simp [cutR,m119]
theorem m119_cat (a b:List S119):m119 a++m119 b = m119 (a++b):=List.map_append.symm
theorem m119_cons (x:S119) (l:List S119):m119 (x::l) = [.int .i64 x.f0,.str x.f1,.str x.f2,.str x.f3]::m119 l:=rfl
theorem m119_0 (l:List S119) (i:Int):gI (m119 l) i 0 = (rd_T119 l i).f0:=by
 unfold gI rd_T119 m119;rw [gC_map,List.getD_eq_getElem?_getD]
 cases l[i.toNat]? <;> rfl
theorem m119_1 (l:List S119) (i:Int):gS (m119 l) i 1 = (rd_T119 l i).f1:=by
 unfold gS rd_T119 m119;rw [gC_map,List.getD_eq_getElem?_getD]
 cases l[i.toNat]? <;> rfl
theorem m119_2 (l:List S119) (i:Int):gS (m119 l) i 2 = (rd_T119 l i).f2:=by
 unfold gS rd_T119 m119;rw [gC_map,List.getD_eq_getElem?_getD]
 cases l[i.toNat]? <;> rfl
theorem m119_3 (l:List S119) (i:Int):gS (m119 l) i 3 = (rd_T119 l i).f3:=by
 unfold gS rd_T119 m119;rw [gC_map,List.getD_eq_getElem?_getD]
 cases l[i.toNat]? <;> rfl
def c147 (x:S147):List CV:=[.str x.f0,.str x.f1]
def m147 (l:List S147):List (List CV):=l.map c147
theorem m147_len (l:List S147):(m147 l).length = l.length:=List.length_map _
theorem m147_nil:m147 [] = []:=rfl
theorem m147_app (a:List S147) (f0:ByteArray) (f1:ByteArray):m147 a++[[.str f0,.str f1]] = m147 (a++[(⟨f0,f1⟩:S147)]):=by simp [m147,c147]
theorem m147_cut (l:List S147) (i j:Int):cutR (m147 l) i j = m147 ((l.drop i.toNat).take (j.toNat - i.toNat)):=by simp [cutR,m147]
theorem m147_cat (a b:List S147):m147 a++m147 b = m147 (a++b):=List.map_append.symm
theorem m147_cons (x:S147) (l:List S147):m147 (x::l) = [.str x.f0,.str x.f1]::m147 l:=rfl
theorem m147_0 (l:List S147) (i:Int):gS (m147 l) i 0 = (rd_T147 l i).f0:=by
 unfold gS rd_T147 m147;rw [gC_map,List.getD_eq_getElem?_getD]
 cases l[i.toNat]? <;> rfl
theorem m147_1 (l:List S147) (i:Int):gS (m147 l) i 1 = (rd_T147 l i).f1:=by
 unfold gS rd_T147 m147;rw [gC_map,List.getD_eq_getElem?_getD]
 cases l[i.toNat]? <;> rfl
def c162 (x:S162):List CV:=[.str x.f0,.str x.f1,.bool x.f2]
def m162 (l:List S162):List (List CV):=l.map c162
theorem m162_len (l:List S162):(m162 l).length = l.length:=List.length_map _
theorem m162_nil:m162 [] = []:=rfl
theorem m162_app (a:List S162) (f0:ByteArray) (f1:ByteArray) (f2:Bool):m162 a++[[.str f0,.str f1,.bool f2]] = m162 (a++[(⟨f0,f1,f2⟩:S162)]):=by simp [m162,c162]
theorem m162_cut (l:List S162) (i j:Int):cutR (m162 l) i j = m162 ((l.drop i.toNat).take (j.toNat - i.toNat)):=by simp [cutR,m162]
theorem m162_cat (a b:List S162):m162 a++m162 b = m162 (a++b):=List.map_append.symm
theorem m162_cons (x:S162) (l:List S162):m162 (x::l) = [.str x.f0,.str x.f1,.bool x.f2]::m162 l:=rfl
theorem m162_0 (l:List S162) (i:Int):gS (m162 l) i 0 = (rd_T162 l i).f0:=by
 unfold gS rd_T162 m162;rw [gC_map,List.getD_eq_getElem?_getD]
 cases l[i.toNat]? <;> rfl
theorem m162_1 (l:List S162) (i:Int):gS (m162 l) i 1 = (rd_T162 l i).f1:=by
 unfold gS rd_T162 m162;rw [gC_map,List.getD_eq_getElem?_getD]
 cases l[i.toNat]? <;> rfl
theorem m162_2 (l:List S162) (i:Int):gB (m162 l) i 2 = (rd_T162 l i).f2:=by
 unfold gB rd_T162 m162;rw [gC_map,List.getD_eq_getElem?_getD]
 cases l[i.toNat]? <;> rfl
def c59 (x:S59):List CV:=[.int .i64 x.f0,.sl [.str,.str,.bool] (m162 x.f1)]
def m59 (l:List S59):List (List CV):=l.map c59
theorem m59_len (l:List S59):(m59 l).length = l.length:=List.length_map _
theorem m59_nil:m59 [] = []:=rfl
theorem m59_app (a:List S59) (f0:Int) (f1:List S162):m59 a++[[.int .i64 f0,.sl [.str,.str,.bool] (m162 f1)]] = m59 (a++[(⟨f0,f1⟩:S59)]):=by simp [m59,c59]
theorem m59_cut (l:List S59) (i j:Int):cutR (m59 l) i j = m59 ((l.drop i.toNat).take (j.toNat - i.toNat)):=by simp [cutR,m59]
theorem m59_cat (a b:List S59):m59 a++m59 b = m59 (a++b):=List.map_append.symm
theorem m59_cons (x:S59) (l:List S59):m59 (x::l) = [.int .i64 x.f0,.sl [.str,.str,.bool] (m162 x.f1)]::m59 l:=rfl
theorem m59_0 (l:List S59) (i:Int):gI (m59 l) i 0 = (rd_T59 l i).f0:=by
 unfold gI rd_T59 m59;rw [gC_map,List.getD_eq_getElem?_getD]
 cases l[i.toNat]? <;> rfl
theorem m59_1 (l:List S59) (i:Int):gR (m59 l) i 1 = m162 (rd_T59 l i).f1:=by
 unfold gR rd_T59 m59;rw [gC_map,List.getD_eq_getElem?_getD]
 cases l[i.toNat]? <;> rfl
def c113 (x:S113):List CV:=[.int .i64 x.f0.f0,.sl [.str,.str,.bool] (m162 x.f0.f1),.str x.f1,.int .i64 x.f2]
def m113 (l:List S113):List (List CV):=l.map c113
theorem m113_len (l:List S113):(m113 l).length = l.length:=List.length_map _
theorem m113_nil:m113 [] = []:=rfl
theorem m113_app (a:List S113) (f0_f0:Int) (f0_f1:List S162) (f1:ByteArray) (f2:Int):m113 a++[[.int .i64 f0_f0,.sl [.str,.str,.bool] (m162 f0_f1),.str f1,.int .i64 f2]] = m113 (a++[(⟨⟨f0_f0,f0_f1⟩,f1,f2⟩:S113)]):=by simp [m113,c113]
theorem m113_cut (l:List S113) (i j:Int):cutR (m113 l) i j = m113 ((l.drop i.toNat).take (j.toNat - i.toNat)):=by simp [cutR,m113]
theorem m113_cat (a b:List S113):m113 a++m113 b = m113 (a++b):=List.map_append.symm
theorem m113_cons (x:S113) (l:List S113):m113 (x::l) = [.int .i64 x.f0.f0,.sl [.str,.str,.bool] (m162 x.f0.f1),.str x.f1,.int .i64 x.f2]::m113 l:=rfl
theorem m113_0 (l:List S113) (i:Int):gI (m113 l) i 0 = (rd_T113 l i).f0.f0:=by
 unfold gI rd_T113 m113;rw [gC_map,List.getD_eq_getElem?_getD]
 cases l[i.toNat]? <;> rfl
theorem m113_1 (l:List S113) (i:Int):gR (m113 l) i 1 = m162 (rd_T113 l i).f0.f1:=by
 unfold gR rd_T113 m113;rw [gC_map,List.getD_eq_getElem?_getD]
 cases l[i.toNat]? <;> rfl
theorem m113_2 (l:List S113) (i:Int):gS (m113 l) i 2 = (rd_T113 l i).f1:=by
 unfold gS rd_T113 m113;rw [gC_map,List.getD_eq_getElem?_getD]
 cases l[i.toNat]? <;> rfl
theorem m113_3 (l:List S113) (i:Int):gI (m113 l) i 3 = (rd_T113 l i).f2:=by
 unfold gI rd_T113 m113;rw [gC_map,List.getD_eq_getElem?_getD]
 cases l[i.toNat]? <;> rfl
@[reducible] def E0:En:=⟨nI,nS,nL,m171,m173,m122,m145,m119,m147,m162,m59,m113⟩
theorem m119_s (l:List S119) (i:Int) (v0:Int) (v1:ByteArray) (v2:ByteArray) (v3:ByteArray):setR (m119 l) i 0 [.int .i64 v0,.str v1,.str v2,.str v3] = m119 (l.set i.toNat (⟨v0,v1,v2,v3⟩:S119)):=setR_map c119 l i 0 _ _ z119 rfl
theorem m119_s0 (l:List S119) (i:Int) (v0:Int):setR (m119 l) i 0 [.int .i64 v0] = m119 (l.set i.toNat (⟨v0,(rd_T119 l i).f1,(rd_T119 l i).f2,(rd_T119 l i).f3⟩:S119)):=setR_map c119 l i 0 _ _ z119 rfl
theorem m119_s1 (l:List S119) (i:Int) (v1:ByteArray):setR (m119 l) i 1 [.str v1] = m119 (l.set i.toNat (⟨(rd_T119 l i).f0,v1,(rd_T119 l i).f2,(rd_T119 l i).f3⟩:S119)):=setR_map c119 l i 1 _ _ z119 rfl
theorem m119_s2 (l:List S119) (i:Int) (v2:ByteArray):setR (m119 l) i 2 [.str v2] = m119 (l.set i.toNat (⟨(rd_T119 l i).f0,(rd_T119 l i).f1,v2,(rd_T119 l i).f3⟩:S119)):=setR_map c119 l i 2 _ _ z119 rfl
theorem m119_s3 (l:List S119) (i:Int) (v3:ByteArray):setR (m119 l) i 3 [.str v3] = m119 (l.set i.toNat (⟨(rd_T119 l i).f0,(rd_T119 l i).f1,(rd_T119 l i).f2,v3⟩:S119)):=setR_map c119 l i 3 _ _ z119 rfl
theorem m122_s (l:List S122) (i:Int) (v0:ByteArray) (v1:ByteArray):setR (m122 l) i 0 [.str v0,.str v1] = m122 (l.set i.toNat (⟨v0,v1⟩:S122)):=setR_map c122 l i 0 _ _ z122 rfl
theorem m122_s0 (l:List S122) (i:Int) (v0:ByteArray):setR (m122 l) i 0 [.str v0] = m122 (l.set i.toNat (⟨v0,(rd_T122 l i).f1⟩:S122)):=setR_map c122 l i 0 _ _ z122 rfl
theorem m122_s1 (l:List S122) (i:Int) (v1:ByteArray):setR (m122 l) i 1 [.str v1] = m122 (l.set i.toNat (⟨(rd_T122 l i).f0,v1⟩:S122)):=setR_map c122 l i 1 _ _ z122 rfl
theorem m145_s (l:List S145) (i:Int) (v0:ByteArray) (v1:Int) (v2:Int) (v3:Int):setR (m145 l) i 0 [.str v0,.int .i64 v1,.int .i64 v2,.int .i64 v3] = m145 (l.set i.toNat (⟨v0,v1,v2,v3⟩:S145)):=setR_map c145 l i 0 _ _ z145 rfl
theorem m145_s0 (l:List S145) (i:Int) (v0:ByteArray):setR (m145 l) i 0 [.str v0] = m145 (l.set i.toNat (⟨v0,(rd_T145 l i).f1,(rd_T145 l i).f2,(rd_T145 l i).f3⟩:S145)):=setR_map c145 l i 0 _ _ z145 rfl
theorem m145_s1 (l:List S145) (i:Int) (v1:Int):setR (m145 l) i 1 [.int .i64 v1] = m145 (l.set i.toNat (⟨(rd_T145 l i).f0,v1,(rd_T145 l i).f2,(rd_T145 l i).f3⟩:S145)):=setR_map c145 l i 1 _ _ z145 rfl
theorem m145_s2 (l:List S145) (i:Int) (v2:Int):setR (m145 l) i 2 [.int .i64 v2] = m145 (l.set i.toNat (⟨(rd_T145 l i).f0,(rd_T145 l i).f1,v2,(rd_T145 l i).f3⟩:S145)):=setR_map c145 l i 2 _ _ z145 rfl
theorem m145_s3 (l:List S145) (i:Int) (v3:Int):setR (m145 l) i 3 [.int .i64 v3] = m145 (l.set i.toNat (⟨(rd_T145 l i).f0,(rd_T145 l i).f1,(rd_T145 l i).f2,v3⟩:S145)):=setR_map c145 l i 3 _ _ z145 rfl
theorem m122_mk (n:Int):mkR n [.str,.str] = m122 (List.replicate n.toNat z122):=by simp [mkR,m122,zeroC,c122,z122,z171,z173,z145,z162,z119,z147,z59,z113]
theorem m145_mk (n:Int):mkR n [.str,.int .i64,.int .i64,.int .i64] = m145 (List.replicate n.toNat z145):=by simp [mkR,m145,zeroC,c145,z145,z171,z173,z122,z162,z119,z147,z59,z113]
theorem nL_len (l:List (List Int)):(nL l).length = l.length:=by simp [nL]
theorem nL_nil:nL [] = []:=rfl
theorem litL (a:List Int):[[CV.sl [.int .i64] (nI .i64 a)]] = nL [a]:=rfl
theorem consL (a:List Int) (l:List (List Int)):[CV.sl [.int .i64] (nI .i64 a)]::nL l = nL (a::l):=rfl
def pow10V:Array Value:=(Lib.pow10Tab.map fun z => Value.int .u64 z).toArray
def TBX : TBs := ⟨fun w G => TabG Tryz.prog w G "internal/strconv.uint64pow10" pow10V ∧ ∃ ev, TabG Tryz.prog w G "strconv.ErrSyntax" #[ev] ∧ (ev = .nilIface ∨ ∃ te pe, ev = .iface te pe),
 fun he h => ⟨h.1.ext he,h.2.imp fun _ h2 => ⟨h2.1.ext he,h2.2⟩⟩⟩
def tab:Tr:=.node none (.node none (.node (some ⟨.int .i64,1,8,[.int .i64]⟩) (.node none (.node none (.nil) (.node (some ⟨.slice 119,1,24,[.sl [.int .i64,.str,.str,.str]]⟩) (.nil) (.nil))) (.node none (.node (some ⟨.struct [(0,25),(1,3),(2,3),(3,3),(4,25)],5,72,[.sl [.int .i64],.int .i64,.int .i64,.int .i64,.sl [.int .i64]]⟩) (.nil) (.nil)) (.node (some ⟨.slice 5,1,24,[.sl [.int .u8]]⟩) (.nil) (.node (some ⟨.struct [(0,3),(1,9),(2,9),(3,9)],4,56,[.int .i64,.str,.str,.str]⟩) (.nil) (.nil))))) (.node none (.node none (.node (some ⟨.slice 122,1,24,[.sl [.str,.str]]⟩) (.nil) (.nil)) (.node none (.node none (.node (some ⟨.struct [(0,9),(1,9)],2,32,[.str,.str]⟩) (.nil) (.nil)) (.nil)) (.node none (.node (some ⟨.struct [(0,9),(1,3),(2,4)],3,32,[.str,.int .i64,.bool]⟩) (.nil) (.nil)) (.nil)))) (.node (some ⟨.struct [(0,25),(1,3),(2,3),(3,3),(4,25)],5,72,[.sl [.int .i64],.int .i64,.int .i64,.int .i64,.sl [.int .i64]]⟩) (.node none (.nil) (.node none (.node (some ⟨.struct [(0,9),(1,9)],2,32,[.str,.str]⟩) (.nil) (.nil)) (.nil))) (.node (some ⟨.struct [(0,3),(1,57)],2,32,[.int .i64,.sl [.str,.str,.bool]]⟩) (.nil) (.nil))))) (.node (some ⟨.int .u8,1,1,[.int .u8]⟩) (.node (some ⟨.str,1,16,[.str]⟩) (.node none (.node none (.nil) (.node (some ⟨.slice 9,1,24,[.sl [.str]]⟩) (.nil) (.nil))) (.node none (.node none (.node (some ⟨.struct [(0,9),(1,3),(2,3),(3,3)],4,40,[.str,.int .i64,.int .i64,.int .i64]⟩) (.nil) (.nil)) (.nil)) (.node (some ⟨.struct [(0,59),(2,9),(3,3)],4,56,[.int .i64,.sl [.str,.str,.bool],.str,.int .i64]⟩) (.node (some ⟨.ptr 179,1,8,[]⟩) (.nil) (.nil)) (.nil)))) (.node (some ⟨.slice 3,1,24,[.sl [.int .i64]]⟩) (.nil) (.node (some ⟨.slice 162,1,24,[.sl [.str,.str,.bool]]⟩) (.nil) (.nil)))) (.node none (.node none (.node (some ⟨.struct [(0,35)],1,24,[.sl [.str,.str]]⟩) (.nil) (.nil)) (.nil)) (.node none (.node none (.nil) (.node (some ⟨.slice 113,1,24,[.sl [.int .i64,.sl [.str,.str,.bool],.str,.int .i64]]⟩) (.node (some ⟨.struct [(0,9),(1,3),(2,3),(3,3)],4,40,[.str,.int .i64,.int .i64,.int .i64]⟩) (.nil) (.nil)) (.nil))) (.node none (.node none (.nil) (.node (some ⟨.int .u64,1,8,[.int .u64]⟩) (.nil) (.nil))) (.nil)))))) (.node none (.node (some ⟨.bool,1,1,[.bool]⟩) (.node none (.nil) (.node (some ⟨.struct [(0,22)],1,24,[.sl [.str,.str]]⟩) (.node (some ⟨.slice 145,1,24,[.sl [.str,.int .i64,.int .i64,.int .i64]]⟩) (.nil) (.nil)) (.node none (.nil) (.node none (.node (some ⟨.int .u32,1,4,[.int .u32]⟩) (.nil) (.nil)) (.node (some ⟨.slice 25,1,24,[.sl [.sl [.int .i64]]]⟩) (.nil) (.nil)))))) (.node none (.node none (.node none (.node none (.nil) (.node (some ⟨.struct [(0,9),(1,3),(2,4)],3,32,[.str,.int .i64,.bool]⟩) (.nil) (.nil))) (.nil)) (.nil)) (.node (some ⟨.slice 173,1,24,[.sl [.str,.int .i64,.int .i64,.int .i64]]⟩) (.nil) (.nil)))) (.node none (.node none (.node none (.node none (.node none (.nil) (.node (some ⟨.ptr 196,1,8,[]⟩) (.nil) (.nil))) (.node none (.node (some ⟨.struct [(0,9),(1,9),(2,4)],3,40,[.str,.str,.bool]⟩) (.nil) (.nil)) (.nil))) (.nil)) (.node none (.node (some ⟨.struct [(0,39),(5,40),(6,3)],7,104,[.sl [.int .i64],.int .i64,.int .i64,.int .i64,.sl [.int .i64],.sl [.str,.int .i64,.int .i64,.int .i64],.int .i64]⟩) (.nil) (.nil)) (.node none (.nil) (.node (some ⟨.struct [(0,9),(1,9)],2,32,[.str,.str]⟩) (.nil) (.nil))))) (.node none (.node (some ⟨.slice 171,1,24,[.sl [.str,.str]]⟩) (.nil) (.nil)) (.node (some ⟨.struct [(0,27),(5,28),(6,3)],7,104,[.sl [.int .i64],.int .i64,.int .i64,.int .i64,.sl [.int .i64],.sl [.str,.int .i64,.int .i64,.int .i64],.int .i64]⟩) (.nil) (.node (some ⟨.slice 147,1,24,[.sl [.str,.str]]⟩) (.nil) (.nil))))))
theorem tabOk:TabOk Tryz.prog tab:=TabOk.of (by kernel_rfl)
def tabM:Tr:=.md [23,24,25,47,84,85,86,87,109,156,157,159,164,167,169,170,201,204,238,239] tab
theorem tabOkM:TabOk Tryz.prog tabM:=fun t ti h => tabOk t ti h
theorem g_rd (k:IntKind) (l:List Int) (i:Int):gI (nI k l) i 0 = rd l i:=gI_nI k l i
theorem b_bt (s:ByteArray) (i:Int):byteAt s i = bt s i:=by
 unfold byteAt bt
 by_cases h:i.toNat < s.size
 ·rw [dif_pos h,Array.getElem?_eq_getElem h];rfl
 ·rw [dif_neg h,Array.getElem?_eq_none (Nat.le_of_not_lt h)];rfl
theorem g_rds (l:List ByteArray) (i:Int):gS (nS l) i 0 = rdOf ByteArray.empty l i:=gS_nS l i
theorem i_shl (k:IntKind) (a b:Int):int2 .shl k a b = shl k a b:=rfl
theorem b_of (z:ByteArray):bytesR z = nI .u8 (bytesOf z):=by simp [bytesR,nI,bytesOf]
theorem b_neq_t (a b:Bool):(cmpB .neq a b = true) = (a≠b):=by cases a <;> cases b <;> simp [cmpB]
theorem b_neq_f (a b:Bool):(cmpB .neq a b = false) = (a = b):=by cases a <;> cases b <;> simp [cmpB]
theorem b_eql_t (a b:Bool):(cmpB .eql a b = true) = (a = b):=by cases a <;> cases b <;> simp [cmpB]
theorem b_eql_f (a b:Bool):(cmpB .eql a b = false) = (a≠b):=by cases a <;> cases b <;> simp [cmpB]
theorem b_eql (a b:Bool):cmpB .eql a b = (a == b):=rfl
theorem b_neq (a b:Bool):cmpB .neq a b = (a != b):=rfl
theorem f_max (a b:Int):maxI a b = mx a b:=rfl
theorem f_min (a b:Int):minI a b = mn a b:=rfl
theorem sh_u32_8 (a:Int):int2 .shr .u32 a 8 = a / 256:=by rw [i_shr];rfl
theorem sh_u32_16 (a:Int):int2 .shr .u32 a 16 = a / 65536:=by rw [i_shr];rfl
theorem sh_u32_24 (a:Int):int2 .shr .u32 a 24 = a / 16777216:=by rw [i_shr];rfl
theorem sh_u64_1 (a:Int):int2 .shr .u64 a 1 = a / 2:=by rw [i_shr];rfl
theorem vs:(type_of% @mkR_nI)∧(type_of% @setR_nI)∧(type_of% @setR_nS)∧(type_of% @i_shl)∧(type_of% @f_len)∧(type_of% @f_cat)∧(type_of% @f_not)∧(type_of% @f_and)∧(type_of% @f_neg2)∧(type_of% @f_wrap)∧(type_of% @f_slen)∧(type_of% @f_sub)∧(type_of% @f_app)∧(type_of% @w64)∧(type_of% @w8)∧(type_of% @w32)∧(type_of% @wu64)∧(type_of% @i_add)∧(type_of% @i_sub)∧(type_of% @i_mul)∧(type_of% @i_quo)∧(type_of% @i_rem)∧(type_of% @i_and)∧(type_of% @i_or)∧(type_of% @i_xor)∧(type_of% @nI_len)∧(type_of% @nS_len)∧(type_of% @nI_fold)∧(type_of% @nS_fold)∧(type_of% @lit1)∧(type_of% @consI)∧(type_of% @litS)∧(type_of% @consS)∧(type_of% @tn0)∧(type_of% @sz_mk)∧(type_of% @nI_nil)∧(type_of% @nS_nil)∧(type_of% @tl_mk)∧(type_of% @cutR_nI)∧(type_of% @cutR_nS)∧(type_of% @strOf_nI)∧(type_of% @g_rd)∧(type_of% @g_rds)∧(type_of% @b_bt)∧(type_of% @b_of)∧(type_of% @rows_cons)∧(type_of% @rows_nil)∧(type_of% @rows_app0)∧(type_of% @q_n)∧(type_of% @r_n)∧(type_of% @tn_n)∧(type_of% @m171_len)∧(type_of% @m171_nil)∧(type_of% @m171_app)∧(type_of% @m171_cut)∧(type_of% @m171_cat)∧(type_of% @m171_cons)∧(type_of% @m171_0)∧(type_of% @m171_1)∧(type_of% @m173_len)∧(type_of% @m173_nil)∧(type_of% @m173_app)∧(type_of% @m173_cut)∧(type_of% @m173_cat)∧(type_of% @m173_cons)∧(type_of% @m173_0)∧(type_of% @m173_1)∧(type_of% @m173_2)∧(type_of% @m173_3)∧(type_of% @m122_len)∧(type_of% @m122_nil)∧(type_of% @m122_app)∧(type_of% @m122_cut)∧(type_of% @m122_cat)∧(type_of% @m122_cons)∧(type_of% @m122_0)∧(type_of% @m122_1)∧(type_of% @m145_len)∧(type_of% @m145_nil)∧(type_of% @m145_app)∧(type_of% @m145_cut)∧(type_of% @m145_cat)∧(type_of% @m145_cons)∧(type_of% @m145_0)∧(type_of% @m145_1)∧(type_of% @m145_2)∧(type_of% @m145_3)∧(type_of% @m119_len)∧(type_of% @m119_nil)∧(type_of% @m119_app)∧(type_of% @m119_cut)∧(type_of% @m119_cat)∧(type_of% @m119_cons)∧(type_of% @m119_0)∧(type_of% @m119_1)∧(type_of% @m119_2)∧(type_of% @m119_3)∧(type_of% @m147_len)∧(type_of% @m147_nil)∧(type_of% @m147_app)∧(type_of% @m147_cut)∧(type_of% @m147_cat)∧(type_of% @m147_cons)∧(type_of% @m147_0)∧(type_of% @m147_1)∧(type_of% @m162_len)∧(type_of% @m162_nil)∧(type_of% @m162_app)∧(type_of% @m162_cut)∧(type_of% @m162_cat)∧(type_of% @m162_cons)∧(type_of% @m162_0)∧(type_of% @m162_1)∧(type_of% @m162_2)∧(type_of% @m59_len)∧(type_of% @m59_nil)∧(type_of% @m59_app)∧(type_of% @m59_cut)∧(type_of% @m59_cat)∧(type_of% @m59_cons)∧(type_of% @m59_0)∧(type_of% @m59_1)∧(type_of% @m113_len)∧(type_of% @m113_nil)∧(type_of% @m113_app)∧(type_of% @m113_cut)∧(type_of% @m113_cat)∧(type_of% @m113_cons)∧(type_of% @m113_0)∧(type_of% @m113_1)∧(type_of% @m113_2)∧(type_of% @m113_3)∧(type_of% @m119_s)∧(type_of% @m119_s0)∧(type_of% @m119_s1)∧(type_of% @m119_s2)∧(type_of% @m119_s3)∧(type_of% @m122_s)∧(type_of% @m122_s0)∧(type_of% @m122_s1)∧(type_of% @m145_s)∧(type_of% @m145_s0)∧(type_of% @m145_s1)∧(type_of% @m145_s2)∧(type_of% @m145_s3)∧(type_of% @m122_mk)∧(type_of% @m145_mk)∧(type_of% @nL_len)∧(type_of% @nL_nil)∧(type_of% @litL)∧(type_of% @consL)∧(type_of% @f_max)∧(type_of% @f_min)∧(type_of% @sh_u32_8)∧(type_of% @sh_u32_16)∧(type_of% @sh_u32_24)∧(type_of% @sh_u64_1):=⟨@mkR_nI,@setR_nI,@setR_nS,@i_shl,@f_len,@f_cat,@f_not,@f_and,@f_neg2,@f_wrap,@f_slen,@f_sub,@f_app,@w64,@w8,@w32,@wu64,@i_add,@i_sub,@i_mul,@i_quo,@i_rem,@i_and,@i_or,@i_xor,@nI_len,@nS_len,@nI_fold,@nS_fold,@lit1,@consI,@litS,@consS,@tn0,@sz_mk,@nI_nil,@nS_nil,@tl_mk,@cutR_nI,@cutR_nS,@strOf_nI,@g_rd,@g_rds,@b_bt,@b_of,@rows_cons,@rows_nil,@rows_app0,@q_n,@r_n,@tn_n,@m171_len,@m171_nil,@m171_app,@m171_cut,@m171_cat,@m171_cons,@m171_0,@m171_1,@m173_len,@m173_nil,@m173_app,@m173_cut,@m173_cat,@m173_cons,@m173_0,@m173_1,@m173_2,@m173_3,@m122_len,@m122_nil,@m122_app,@m122_cut,@m122_cat,@m122_cons,@m122_0,@m122_1,@m145_len,@m145_nil,@m145_app,@m145_cut,@m145_cat,@m145_cons,@m145_0,@m145_1,@m145_2,@m145_3,@m119_len,@m119_nil,@m119_app,@m119_cut,@m119_cat,@m119_cons,@m119_0,@m119_1,@m119_2,@m119_3,@m147_len,@m147_nil,@m147_app,@m147_cut,@m147_cat,@m147_cons,@m147_0,@m147_1,@m162_len,@m162_nil,@m162_app,@m162_cut,@m162_cat,@m162_cons,@m162_0,@m162_1,@m162_2,@m59_len,@m59_nil,@m59_app,@m59_cut,@m59_cat,@m59_cons,@m59_0,@m59_1,@m113_len,@m113_nil,@m113_app,@m113_cut,@m113_cat,@m113_cons,@m113_0,@m113_1,@m113_2,@m113_3,@m119_s,@m119_s0,@m119_s1,@m119_s2,@m119_s3,@m122_s,@m122_s0,@m122_s1,@m145_s,@m145_s0,@m145_s1,@m145_s2,@m145_s3,@m122_mk,@m145_mk,@nL_len,@nL_nil,@litL,@consL,@f_max,@f_min,@sh_u32_8,@sh_u32_16,@sh_u32_24,@sh_u64_1⟩
theorem hs:(type_of% @c_eql_t)∧(type_of% @c_eql_f)∧(type_of% @c_neq_t)∧(type_of% @c_neq_f)∧(type_of% @c_lss_t)∧(type_of% @c_lss_f)∧(type_of% @c_leq_t)∧(type_of% @c_leq_f)∧(type_of% @c_gtr_t)∧(type_of% @c_gtr_f)∧(type_of% @c_geq_t)∧(type_of% @c_geq_f)∧(type_of% @s_eql_t)∧(type_of% @s_eql_f)∧(type_of% @s_neq_t)∧(type_of% @s_neq_f)∧(type_of% @s_lss)∧(type_of% @s_lss_f)∧(type_of% @s_gtr)∧(type_of% @s_gtr_f)∧(type_of% @s_geq_t)∧(type_of% @s_geq_f)∧(type_of% @n_t)∧(type_of% @n_f)∧(type_of% @b_f)∧(type_of% @not_t)∧(type_of% @nn_t)∧(type_of% @b_neq_t)∧(type_of% @b_neq_f)∧(type_of% @b_eql_t)∧(type_of% @b_eql_f):=⟨@c_eql_t,@c_eql_f,@c_neq_t,@c_neq_f,@c_lss_t,@c_lss_f,@c_leq_t,@c_leq_f,@c_gtr_t,@c_gtr_f,@c_geq_t,@c_geq_f,@s_eql_t,@s_eql_f,@s_neq_t,@s_neq_f,@s_lss,@s_lss_f,@s_gtr,@s_gtr_f,@s_geq_t,@s_geq_f,@n_t,@n_f,@b_f,@not_t,@nn_t,@b_neq_t,@b_neq_f,@b_eql_t,@b_eql_f⟩
theorem cs:(type_of% @c_eql)∧(type_of% @c_neq)∧(type_of% @c_lss)∧(type_of% @c_leq)∧(type_of% @c_gtr)∧(type_of% @c_geq)∧(type_of% @s_eql)∧(type_of% @s_neq)∧(type_of% @s_lss)∧(type_of% @s_leq)∧(type_of% @s_gtr)∧(type_of% @s_geq)∧(type_of% @b_eql)∧(type_of% @b_neq):=⟨@c_eql,@c_neq,@c_lss,@c_leq,@c_gtr,@c_geq,@s_eql,@s_neq,@s_lss,@s_leq,@s_gtr,@s_geq,@b_eql,@b_neq⟩
theorem f_ {p:Prop} (h:p:=by (try (conv => lhs;cbv));first | done | (with_reducible rfl) | (simp only [hF,hE];done) | (simp only [hF,hE];simp only [vs];done) | (simp only [hF,hE];simp only [vs,List.cons_append,List.nil_append];done) | (simp only [hF,hE];simp only [vs,cs];done) | (simp only [hF,hE];with_reducible rfl) | (simp only [hF,hE];simp only [vs];with_reducible rfl) | (simp only [hF,hE];simp only [vs];rfl)):p:=h
theorem o_ {p:Prop} (h:p:=by (try simp only [hF,hE]);(try simp only [vs,List.length_cons,List.length_nil,List.length_append]);first | done | omega | exact hc | assumption):p:=h
theorem i_ {c A B:Prop} (hb:c) (H:A) (h:A→B:=by intro H;first | (simp only [not_t,b_f] at H;first | (rewrite [if_pos hb] at H;exact H) | (rewrite [if_neg hb] at H;exact H) | (rewrite [if_nn hb] at H;exact H)) | (simp only [←Bool.not_and,f_and,f_not,Bool.and_true,cs] at H hb;first | (rewrite [if_pos hb] at H;exact H) | (rewrite [if_neg hb] at H;exact H) | (simp only [Bool.not_eq_true,Bool.not_eq_true'] at H hb;first | (rewrite [if_pos hb] at H;exact H) | (rewrite [if_neg hb] at H;exact H) | (simp only [hb,Bool.false_eq_true,Bool.true_eq_false,if_true,if_false] at H;exact H)))):B:=h H
theorem s_ {A B:Prop} (H:A) (h:A→B:=by intro H;first | (simp only [List.nil_append,bne_iff_ne,beq_iff_eq,decide_eq_true_eq,Bool.false_eq_true,if_false,if_true] at H;exact H) | (rewrite [Option.bind_some] at H;exact H)):B:=h H
theorem w_ {P:Program} {T:TBs} {F:Hd} {K G:Prop} (hF:F = F0 P T) (k:K) (h:K→G:=by intro k;first | ((with_reducible refine idx_ hF ?_ k);exact o_) | ((with_reducible refine cut_ hF ?_ k);exact o_) | ((with_reducible refine room_ hF ?_ k);exact o_) | ((with_reducible refine roomM_ hF ?_ k);exact o_) | ((with_reducible refine cat_ hF ?_ k);exact o_) | ((with_reducible refine nz_ hF ?_ k);exact o_) | ((with_reducible refine nn_ hF ?_ k);exact o_) | (with_reducible exact eqn_ hF rfl k) | (with_reducible exact isI_ hF (by kernel_rfl) k) | (with_reducible exact cmpT_ hF (by kernel_rfl) (by kernel_rfl) (by kernel_rfl) (by cbv) (by cbv) k) | (with_reducible exact drawn_ hF (by kernel_rfl) (by kernel_rfl) k)):G:=h k
theorem br2 {P:Program} {T:TBs} {F:Hd} {b:Bool} {p q A B C c d:Prop} (hF:F = F0 P T) (H:A) (h1:c→B→p) (h2:d→C→q) (k1:b = true→c:=by intro hb;(try simp only [hF,hE] at hb);first | ((try simp only [hs,vs] at hb);exact hb) | (show False;simp only [hs,vs] at hb)) (k2:b = false→d:=by intro hb;(try simp only [hF,hE] at hb);first | ((try simp only [hs,vs] at hb);exact hb) | (show False;simp only [hs,vs] at hb)) (t1:c→A→B:=by intro hb H;first | exact (False.elim hb:False) | (rewrite [if_pos hb] at H;exact H) | (rewrite [if_neg hb] at H;exact H) | (rewrite [if_nn hb] at H;exact H) | exact i_ hb H | (simp only [hb,not_t,b_f,not_true_eq_false,not_false_eq_true,Bool.not_true,Bool.not_false,Bool.false_eq_true,if_true,if_false] at H;exact H) | (show False;simp only [hb,not_t,b_f,not_true_eq_false,not_false_eq_true,Bool.not_true,Bool.not_false,Bool.false_eq_true,if_true,if_false] at H) | exact H) (t2:d→A→C:=by intro hb H;first | exact (False.elim hb:False) | (rewrite [if_pos hb] at H;exact H) | (rewrite [if_neg hb] at H;exact H) | (rewrite [if_nn hb] at H;exact H) | exact i_ hb H | (simp only [hb,not_t,b_f,not_true_eq_false,not_false_eq_true,Bool.not_true,Bool.not_false,Bool.false_eq_true,if_true,if_false] at H;exact H) | (show False;simp only [hb,not_t,b_f,not_true_eq_false,not_false_eq_true,Bool.not_true,Bool.not_false,Bool.false_eq_true,if_true,if_false] at H) | exact H):F.branch b p q:=br_ hF (fun h => h1 (k1 h) (t1 (k1 h) H)) (fun h => h2 (k2 h) (t2 (k2 h) H))
theorem ca_ {P:Program} {T:TBs} {F:Hd} {f:FuncId} {ar ar' io io' K} {r news outs} (hF:F = F0 P T) (hc:Con P T f ar' io' r news outs) (hk:K r news outs) (ha:ar = ar':=by exact f_) (hio:io = io':=by exact f_):F.call f ar io K:=call_ hF hc ha hio hk
def Into (hp:Hp) (I:Nat→St→Prop) (s:St):Prop:=∃ n t,Weak s t∧I n t
theorem into_ {hp:Hp} {I:Nat→St→Prop} {s:St} {n N:Nat} {L O} (a:I n (At N L O)) (b:hp.ok N (hp.pre s) = true) (c:hp.L (hp.pre s) = L) (d:hp.O (hp.pre s) = O):Into hp I s:=let ⟨t,h⟩:=head_ hp a b c d;⟨n,t,h⟩
theorem lo_ {P:Program} {T:TBs} {F:Hd} {step s Q} (hF:F = F0 P T) (I:Nat→St→Prop) (hp:Hp) (hr:∀ n t,I n t→∀ Q':Ex→St→Prop,(∀ s',Into hp (fun m u => m < n∧I m u) s'→Q' .normal s')→(∀ e s',e≠.normal→Q e s'→Q' e s')→step t Q') (h0:Into hp I s:=by apply into_;(case a => ((repeat' first | exact ⟨rfl,H⟩ | apply Exists.intro | apply And.intro);all_goals omega));(case b => cbv);(case c => exact f_);(case d => exact f_)):F.loop step s Q:=let ⟨n,t,hw,hI⟩:=h0;loop_ hF I n ⟨t,hw,hI⟩ (fun n t ht Q' h1 h2 => hr n t ht Q' (fun s' ⟨m,u,hw,hm,hI⟩ => h1 s' ⟨m,hm,u,hw,hI⟩) h2)
theorem nx_ {hp I s'} {Q':Ex→St→Prop} (h:∀ s',Into hp I s'→Q' .normal s') (k:Into hp I s':=by apply into_;(case a => ((repeat' first | exact ⟨rfl,H⟩ | apply Exists.intro | apply And.intro);all_goals omega));(case b => cbv);(case c => exact f_);(case d => exact f_)):Q' .normal s':=h s' k
theorem xt_ {e s'} {Q Q':Ex→St→Prop} (h:∀ e s',e≠.normal→Q e s'→Q' e s') (k:Q e s') (ne:e≠.normal:=by first | exact ne_ret | exact ne_exit _):Q' e s':=h e s' ne k
theorem co_ {P:Program} {T:TBs} {tab f fn c args ins r news outs} (hf:P.funcs[f]? = some fn) (hT:TabOk P tab) (ids:List Nat)
  (h : ∀ F : Hd, F = F0 P T → ∀ Q : Ex → St → Prop, (∀ e s t, (e = .ret ∨ e = .normal) → Weak s t → fin tab fn.results.toList ids ins.length t = some (r, news, outs) → Q e s) → evC F tab c (start fn.ntmps args ins) Q) (hb : fn.body = some c := by exact rfl) (hn : (fn.name == "runtime.NumGoroutine") = false := by kernel_rfl) (hl : ins.length ≤ 8 := by exact Nat.le_of_ble_eq_true rfl) : Con P T f args ins r news outs := con_of hf hb hn hT ids hl (fun F hF Q hQ hQn => h F hF Q (fun _ s t he => by rcases he with rfl | rfl <;> first | exact hQ s t | exact hQn s t))
theorem en_ {s:St} {tab rs ids io X} {e:Ex} {Q:Ex→St→Prop} (h:Hp) (n:Nat) (hq:∀ e s t,(e = .ret∨e = .normal)→Weak s t→fin tab rs ids io t = some X→Q e s) (he:e = .ret∨e = .normal:=by first | exact .inl rfl | exact .inr rfl) (hok:h.ok n (h.pre s) = true:=by cbv) (hf:fin tab rs ids io (At n (h.L (h.pre s)) (h.O (h.pre s))) = some X:=by (with_reducible have hS:=Option.some.inj H);clear hS;cases H;exact f_):Q e s:=end_ h n (fun s t => hq e s t he) hok hf
abbrev Cn:=Con Tryz.prog TBX
theorem k1_ {F:Hd} (f:FuncId) {α β:Type} {ar io K} {x:Option α} {g:α→Option β} {r:β} (H:x.bind g = some r) (h:∀ a,x = some a→g a = some r→F.call f ar io K):F.call f ar io K:=let ⟨y,h1,h2⟩:=bind_ H;h y h1 h2
theorem k2_ {F:Hd} (f:FuncId) {α0 α1 β:Type} {ar io K} {x:Option (α0×α1)} {g:α0×α1→Option β} {r:β} (H:x.bind g = some r) (h:∀ a0 a1,x = some (a0,a1)→g (a0,a1) = some r→F.call f ar io K):F.call f ar io K:=let ⟨_,h1,h2⟩:=bind_ H;h _ _ h1 h2
theorem k3_ {F:Hd} (f:FuncId) {α0 α1 α2 β:Type} {ar io K} {x:Option (α0×α1×α2)} {g:α0×α1×α2→Option β} {r:β} (H:x.bind g = some r) (h:∀ a0 a1 a2,x = some (a0,a1,a2)→g (a0,a1,a2) = some r→F.call f ar io K):F.call f ar io K:=let ⟨_,h1,h2⟩:=bind_ H;h _ _ _ h1 h2
theorem k4_ {F:Hd} (f:FuncId) {α0 α1 α2 α3 β:Type} {ar io K} {x:Option (α0×α1×α2×α3)} {g:α0×α1×α2×α3→Option β} {r:β} (H:x.bind g = some r) (h:∀ a0 a1 a2 a3,x = some (a0,a1,a2,a3)→g (a0,a1,a2,a3) = some r→F.call f ar io K):F.call f ar io K:=let ⟨_,h1,h2⟩:=bind_ H;h _ _ _ _ h1 h2
theorem k5_ {F:Hd} (f:FuncId) {α0 α1 α2 α3 α4 β:Type} {ar io K} {x:Option (α0×α1×α2×α3×α4)} {g:α0×α1×α2×α3×α4→Option β} {r:β} (H:x.bind g = some r) (h:∀ a0 a1 a2 a3 a4,x = some (a0,a1,a2,a3,a4)→g (a0,a1,a2,a3,a4) = some r→F.call f ar io K):F.call f ar io K:=let ⟨_,h1,h2⟩:=bind_ H;h _ _ _ _ _ h1 h2
theorem k6_ {F:Hd} (f:FuncId) {α0 α1 α2 α3 α4 α5 β:Type} {ar io K} {x:Option (α0×α1×α2×α3×α4×α5)} {g:α0×α1×α2×α3×α4×α5→Option β} {r:β} (H:x.bind g = some r) (h:∀ a0 a1 a2 a3 a4 a5,x = some (a0,a1,a2,a3,a4,a5)→g (a0,a1,a2,a3,a4,a5) = some r→F.call f ar io K):F.call f ar io K:=let ⟨_,h1,h2⟩:=bind_ H;h _ _ _ _ _ _ h1 h2
theorem k7_ {F:Hd} (f:FuncId) {α0 α1 α2 α3 α4 α5 α6 β:Type} {ar io K} {x:Option (α0×α1×α2×α3×α4×α5×α6)} {g:α0×α1×α2×α3×α4×α5×α6→Option β} {r:β} (H:x.bind g = some r) (h:∀ a0 a1 a2 a3 a4 a5 a6,x = some (a0,a1,a2,a3,a4,a5,a6)→g (a0,a1,a2,a3,a4,a5,a6) = some r→F.call f ar io K):F.call f ar io K:=let ⟨_,h1,h2⟩:=bind_ H;h _ _ _ _ _ _ _ h1 h2
theorem k8_ {F:Hd} (f:FuncId) {α0 α1 α2 α3 α4 α5 α6 α7 β:Type} {ar io K} {x:Option (α0×α1×α2×α3×α4×α5×α6×α7)} {g:α0×α1×α2×α3×α4×α5×α6×α7→Option β} {r:β} (H:x.bind g = some r) (h:∀ a0 a1 a2 a3 a4 a5 a6 a7,x = some (a0,a1,a2,a3,a4,a5,a6,a7)→g (a0,a1,a2,a3,a4,a5,a6,a7) = some r→F.call f ar io K):F.call f ar io K:=let ⟨_,h1,h2⟩:=bind_ H;h _ _ _ _ _ _ _ _ h1 h2
theorem k9_ {F:Hd} (f:FuncId) {α0 α1 α2 α3 α4 α5 α6 α7 α8 β:Type} {ar io K} {x:Option (α0×α1×α2×α3×α4×α5×α6×α7×α8)} {g:α0×α1×α2×α3×α4×α5×α6×α7×α8→Option β} {r:β} (H:x.bind g = some r) (h:∀ a0 a1 a2 a3 a4 a5 a6 a7 a8,x = some (a0,a1,a2,a3,a4,a5,a6,a7,a8)→g (a0,a1,a2,a3,a4,a5,a6,a7,a8) = some r→F.call f ar io K):F.call f ar io K:=let ⟨_,h1,h2⟩:=bind_ H;h _ _ _ _ _ _ _ _ _ h1 h2
end Go.Ev
