/- An abstract run of a Go function's code, and that it is sound. No conditions but those that each statement names. By this repo's programs; comments are taken out. -/
import Derived.RowKit
import Derived.Maps.AppendAt
import Derived.Deep.MidRow
import Derived.Laws.BytesString
import Derived.Laws.Small
import Derived.WideLaws
import Derived.Laws.Slices
set_option linter.all false
namespace Go.Ev
inductive Sh where
 | int (k:IntKind) | bool | str | fn
 | sl (cs:List Sh)
inductive CV where
 | int (k:IntKind) (n:Int) | bool (b:Bool) | str (s:ByteArray) | fn (f:FuncId)
 | sl (sh:List Sh) (rows:List (List CV))
def CV.sh:CV→Sh
 | .int k _ => .int k | .bool _ => .bool | .str _ => .str | .fn _ => .fn | .sl s _ => .sl s
inductive AV where
 | c (v:CV) | tt | ff | nil (sh:List Sh) | ptr (o off:Nat) | own (o:Nat)
 | elp (sh:List Sh) (rows:List (List CV)) (i:Int) (off:Nat)
 | elo (o:Nat) (i:Int) (off:Nat) | ifc (b:Bool) | clo (f:FuncId) (cs:List AV)
 | agg (cs:List AV) | tup (vs:List AV) | dead
inductive Ob where
 | gone
 | box (cs:List AV)
 | row (z:Bool) (e:Nat) (sh:List Sh) (rows:List (List CV))
inductive TK where
 | bool | int (k:IntKind) | str | slice (e:Nat) | ptr (e:Nat) | struct (fs:List (Nat×Nat)) | other
structure TI where
 k:TK
 sz:Nat
 bytes:Nat
 sh:List Sh
inductive Tr where
 | nil | node (v:Option TI) (l r:Tr)
 | md (l:List Nat) (t:Tr)
def Tr.get:Tr→Nat→Option TI
 | .nil,_ => none
 | .md _ t,n => t.get n
 | .node v l r,n => if n = 0 then v else if n % 2 = 1 then l.get (n / 2) else r.get (n / 2 - 1)
def Za1:AV→Bool
 | .c _ | .tt | .ff | .nil _ | .ptr .. | .own _ | .ifc _ => true
 | _ => false
def nofn:Sh→Bool
 | .fn => false
 | _ => true
def nosl:Sh→Bool
 | .int _ | .bool | .str => true
 | _ => false
def hasN:List Nat→Nat→Bool
 | [],_ => false
 | a::l,n => (a == n) || hasN l n
def Tr.mode:Tr→Nat→Bool
 | .md l _,f => hasN l f
 | _,_ => false
structure St where
 sl:List AV
 ob:Nat→Option Ob
inductive Ex where
 | normal | exit (id:Nat) | ret
structure Hd where
 no:Prop
 branch:Bool→Prop→Prop→Prop
 idx:Int→Int→Prop→Prop
 cutB:Int→Int→Int→Prop→Prop
 room:Int→Int→Nat→Prop→Prop
 catB:ByteArray→ByteArray→Prop→Prop
 nz:Int→Prop→Prop
 nn:Int→Prop→Prop
 eqn:Int→Int→Prop→Prop
 roomM:Int→Nat→Prop→Prop
 cmpT:TypeId→List Sh→List AV→List AV→Prop→Prop
 isI:TypeId→Prop→Prop
 call:FuncId→List AV→List Ob→(AV→List Ob→List Ob→Prop)→Prop
 drawn:Array Oper→Prop→Prop
 loop:(St→(Ex→St→Prop)→Prop)→St→(Ex→St→Prop)→Prop
 int2:BinOp→IntKind→Int→Int→Int
 cmpI:BinOp→Int→Int→Bool
 cmpS:BinOp→ByteArray→ByteArray→Bool
 cmpB:BinOp→Bool→Bool→Bool
 cat:ByteArray→ByteArray→ByteArray
 not:Bool→Bool
 and:Bool→Bool→Bool
 neg:IntKind→Int→Int
 wrap:IntKind→Int→Int
 max:Int→Int→Int
 min:Int→Int→Int
 len:List (List CV)→Int
 slen:ByteArray→Int
 gI:List (List CV)→Int→Nat→Int
 gB:List (List CV)→Int→Nat→Bool
 gS:List (List CV)→Int→Nat→ByteArray
 gR:List (List CV)→Int→Nat→List (List CV)
 byteAt:ByteArray→Int→Int
 sub:ByteArray→Int→Int→ByteArray
 app:List (List CV)→List (List CV)→List (List CV)
 cut:List (List CV)→Int→Int→List (List CV)
 strOf:List (List CV)→ByteArray
 setR:List (List CV)→Int→Nat→List CV→List (List CV)
 mkR:Int→List Sh→List (List CV)
 bytesOf:ByteArray→List (List CV)
def zeroC:Sh→CV
 | .int k => .int k 0 | .bool => .bool false | .str => .str ⟨#[]⟩ | .fn => .bool false | .sl s => .sl s []
def zeroA:Sh→AV
 | .int k => .c (.int k 0) | .bool => .ff | .str => .c (.str ⟨#[]⟩) | .fn => .dead | .sl s => .nil s
mutual
def shB:Sh→Sh→Bool
 | .int j,.int k => j == k
 | .bool,.bool => true
 | .str,.str => true
 | .fn,.fn => true
 | .sl a,.sl b => shsB a b
 | _,_ => false
def shsB:List Sh→List Sh→Bool
 | [],[] => true
 | a::x,b::y => shB a b && shsB x y
 | _,_ => false
end
def ofCell:Value→AV
 | .int k n => .c (.int k n) | .bool b => if b = true then .tt else .ff | .string s => .c (.str s)
 | .slice none n m => if n = 0∧m = 0 then .nil [] else .dead
 | .func (.func f) a b => if a.size = 0∧b.size = 0 then .c (.fn f) else .dead
 | .nilIface => .ifc true
 | _ => .dead
def ofValue:Value→AV
 | .agg cs => .agg (cs.toList.map ofCell)
 | v => ofCell v
def St.eval (s:St):Operand→AV
 | .tmp t => s.sl.getD t .dead
 | .const v => ofValue v
 | .func f => .c (.fn f)
 | .global _ => .dead
def updCh (ch:List (Nat×Ob)) (ob:Nat→Option Ob):Nat→Option Ob :=
 match ch with
 | [] => ob
 | (o,b)::r => fun x => if x = o then some b else updCh r ob x
def St.put (s:St) (d:Option Tmp) (v:AV) (ch:List (Nat×Ob)):St :=
 {sl:=match d with
   | some t => s.sl.set t v
   | none => s.sl
  ob:=updCh ch s.ob }
def Z7m (ob:Nat→Option Ob):AV→AV
 | .own o => match ob o with
  | some (.row _ _ sh rows) => .c (.sl sh rows)
  | _ => .dead
 | v => v
def Z5l (ob:Nat→Option Ob):AV→AV
 | .agg cs => .agg (cs.map (Z7m ob))
 | v => Z7m ob v
def Zb4:List AV→Option (List CV)
 | [] => some []
 | a::r => match (match a with
   | .c v => some v
   | .tt => some (.bool true)
   | .ff => some (.bool false)
   | .nil sh => some (.sl sh [])
   | _ => none),Zb4 r with
  | some c,some cs => some (c::cs)
  | _,_ => none
def Z9Q (ob:Nat→Option Ob):AV→Option AV
 | .c v => some (.c v)
 | .tt => some .tt
 | .ff => some .ff
 | .nil sh => some (.nil sh)
 | .own o => match ob o with
  | some (.row ..) => some (.own o)
  | _ => none
 | .ptr o off => match ob o with
  | some (.box _) => some (.ptr o off)
  | _ => none
 | _ => none
def Z6J (ob:Nat→Option Ob):List AV→Option (List AV)
 | [] => some []
 | a::r => match Z9Q ob a,Z6J ob r with
  | some c,some cs => some (c::cs)
  | _,_ => none
def cellsOf (ob:Nat→Option Ob):AV→Option (List AV)
 | .agg cs => Z6J ob cs
 | v => match Z9Q ob v with
  | some c => some [c]
  | none => none
def Zdg (F:Hd) (sh:List Sh) (rows:List (List CV)) (i:Int) (k:Nat):AV :=
 match sh[k]? with
 | some (.int q) => .c (.int q (F.gI rows i k))
 | some .bool => .c (.bool (F.gB rows i k))
 | some .str => .c (.str (F.gS rows i k))
 | some (.sl s) => .c (.sl s (F.gR rows i k))
 | _ => .dead
def Z6v (F:Hd) (sh:List Sh) (rows:List (List CV)) (i:Int):Nat→Nat→List AV
 | _,0 => []
 | k,n + 1 => Zdg F sh rows i k::Z6v F sh rows i (k + 1) n
def setCells (cs:List AV) (off:Nat):List AV→List AV
 | [] => cs
 | v::r => setCells (cs.set off v) (off + 1) r
def Z36:List Sh→List AV→List AV
 | .sl q::sh,.nil _::cs => .nil q::Z36 sh cs
 | _::sh,c::cs => c::Z36 sh cs
 | _,cs => cs
def tyFix (tab:Tr) (t:TypeId):AV→AV
 | .nil sh => match tab.get t with
  | some { sh:=[.sl q],.. } => .nil q
  | _ => .nil sh
 | .agg cs => match tab.get t with
  | some ti => .agg (Z36 ti.sh cs)
  | none => .agg cs
 | v => v
def Z4n (tab:Tr):List TypeId→List AV→List AV
 | t::ts,v::vs => tyFix tab t v::Z4n tab ts vs
 | _,vs => vs
def fillA (places:List (Nat×Nat)) (sz:Tr) (ob:Nat→Option Ob) (cs:List AV):List (Nat×AV)→Option (List AV)
 | [] => some cs
 | (i,v)::r => match places[i]? with
  | some (off,t) => match sz.get t,cellsOf ob (tyFix sz t v) with
   | some ti,some vs => if vs.length = ti.sz∧off + vs.length≤cs.length then fillA places sz ob (setCells cs off vs) r else none
   | _,_ => none
  | none => none
def Z5E (F:Hd):List AV→List AV→Option Bool
 | [],[] => some true
 | .c (.int _ a)::x,.c (.int _ b)::y => (Z5E F x y).map (F.and (F.cmpI .eql a b))
 | .c (.str a)::x,.c (.str b)::y => (Z5E F x y).map (F.and (F.cmpS .eql a b))
 | .c (.bool a)::x,.c (.bool b)::y => (Z5E F x y).map (F.and (F.cmpB .eql a b))
 | _,_ => none
def rowOf (ob:Nat→Option Ob):AV→Option (List Sh×List (List CV))
 | .c (.sl sh rows) => some (sh,rows)
 | .nil sh => some (sh,[])
 | .own o => match ob o with
  | some (.row _ _ sh rows) => some (sh,rows)
  | _ => none
 | _ => none
def Z0A (ob:Nat→Option Ob) (o:Nat):List (Nat×Ob) :=
 match ob o with
 | some (.row _ e sh rows) => [(o,.row true e sh rows)]
 | _ => []
def owns:AV→List Nat
 | .own o => [o]
 | _ => []
def owns1:AV→List Nat
 | .agg cs => cs.flatMap owns
 | .clo _ cs => cs.flatMap owns
 | v => owns v
def rootC (m:Bool):AV→List Nat
 | .ptr o _ => [o]
 | .own o => if m then [o] else []
 | _ => []
def root1 (m:Bool):AV→List Nat
 | .agg cs => cs.flatMap (rootC m)
 | .clo _ cs => cs.flatMap (rootC m)
 | v => rootC m v
def kids (ob:Nat→Option Ob) (o:Nat):List Nat :=
 match ob o with
 | some (.box cs) => cs.flatMap (rootC true)
 | _ => []
def reach (ob:Nat→Option Ob):Nat→List Nat→List Nat→List Nat
 | 0,_,seen => seen
 | _ + 1,[],seen => seen
 | n + 1,o::r,seen => if hasN seen o then reach ob n r seen else reach ob n (r++kids ob o) (seen++[o])
def idx:List Nat→Nat→Nat→Option Nat
 | [],_,_ => none
 | a::l,k,o => if a = o then some k else idx l (k + 1) o
def argC (m:Bool) (hs:List Nat) (ob:Nat→Option Ob):AV→Option AV
 | .c v => some (.c v)
 | .tt => some (.c (.bool true))
 | .ff => some (.c (.bool false))
 | .nil sh => some (if m then .nil sh else .c (.sl sh []))
 | .ifc b => some (.ifc b)
 | .ptr o off => match idx hs 10000 o with
  | some k => some (.ptr k off)
  | none => none
 | .own o => match idx hs 10000 o with
  | some k => some (.own k)
  | none => match ob o with
   | some (.row _ _ sh rows) => some (.c (.sl sh rows))
   | _ => none
 | _ => none
def argsC (m:Bool) (hs:List Nat) (ob:Nat→Option Ob):List AV→Option (List AV)
 | [] => some []
 | a::r => match argC m hs ob a,argsC m hs ob r with
  | some c,some cs => some (c::cs)
  | _,_ => none
def arg1 (m:Bool) (hs:List Nat) (ob:Nat→Option Ob):AV→Option AV
 | .agg cs => (argsC m hs ob cs).map .agg
 | .clo f cs => (argsC m hs ob cs).map (.clo f)
 | v => argC m hs ob v
def args1 (m:Bool) (hs:List Nat) (ob:Nat→Option Ob):List AV→Option (List AV)
 | [] => some []
 | a::r => match arg1 m hs ob a,args1 m hs ob r with
  | some c,some cs => some (c::cs)
  | _,_ => none
def boxC (m:Bool) (hs:List Nat):AV→Option AV
 | .own o => match idx hs 10000 o with
  | some k => some (.own k)
  | none => none
 | v => argC m hs (fun _ => none) v
def boxCs (m:Bool) (hs:List Nat):List AV→Option (List AV)
 | [] => some []
 | a::r => match boxC m hs a,boxCs m hs r with
  | some c,some cs => some (c::cs)
  | _,_ => none
def inO (m:Bool) (hs:List Nat) (ob:Nat→Option Ob) (o:Nat):Option Ob :=
 match ob o with
 | some (.box cs) => (boxCs m hs cs).map .box
 | some (.row z e sh rows) => some (.row z e sh rows)
 | _ => none
def inOs (m:Bool) (hs:List Nat) (ob:Nat→Option Ob):List Nat→Option (List Ob)
 | [] => some []
 | o::r => match inO m hs ob o,inOs m hs ob r with
  | some c,some cs => some (c::cs)
  | _,_ => none
def Z2z (hs:List Nat) (vs:List AV):List Nat:=(vs.flatMap owns1).filter fun o => !hasN hs o
def flatC:AV→Bool
 | .c (.sl ..) => false
 | .c _ | .tt | .ff | .nil _ | .ptr .. | .own _ | .ifc _ | .dead => true
 | _ => false
def flat1:AV→Bool
 | .agg cs => cs.all flatC
 | v => flatC v
def flatA:AV→Bool
 | .tup vs => vs.all flat1
 | v => flat1 v
def flatS:Sh→Bool
 | .sl _ => false
 | _ => true
def flatO:Ob→Bool
 | .gone => true
 | .box cs => cs.all flatC
 | .row _ _ sh _ => sh.all flatS
def ZdG (r:AV) (news outs:List Ob):Bool:=flatA r && news.all flatO && outs.all flatO
def numB (hs:List Nat) (b q:Nat):Nat:=if q < 10000 then b + q else hs.getD (q - 10000) 0
def renC (hs:List Nat) (b:Nat):AV→AV
 | .own o => .own (numB hs b o)
 | .ptr o off => .ptr (numB hs b o) off
 | .elo .. => .dead
 | v => v
def ren1 (hs:List Nat) (b:Nat):AV→AV
 | .agg cs => .agg (cs.map (renC hs b))
 | .clo .. => .dead
 | v => renC hs b v
def renA (hs:List Nat) (b:Nat):AV→AV
 | .tup vs => .tup (vs.map (ren1 hs b))
 | v => ren1 hs b v
def renO (hs:List Nat) (b:Nat):Ob→Ob
 | .box cs => .box (cs.map (renC hs b))
 | o => o
def Z6B (hs:List Nat) (b:Nat):Nat→List Ob→List (Nat×Ob)
 | _,[] => []
 | k,o::r => (b + k,renO hs b o)::Z6B hs b (k + 1) r
def Z6A (hs:List Nat) (b:Nat):List Nat→List Ob→List (Nat×Ob)
 | h::l,o::r => (h,renO hs b o)::Z6A hs b l r
 | _,_ => []
def Z4s (ob:Nat→Option Ob) (b:Nat):Nat→Nat→Bool
 | _,0 => true
 | k,n + 1 => (ob (b + k)).isNone && Z4s ob b (k + 1) n
def Z6K:List Nat→Bool
 | [] => true
 | x::r => !hasN r x && Z6K r
def Z9T (ob:Nat→Option Ob) (hs lent:List Nat) (b:Nat) (r:AV) (news outs:List Ob):List (Nat×Ob) :=
 Z6A hs b hs outs++(Z6B hs b 0 news++(if ZdG r news outs then [] else lent.flatMap (Z0A ob)))
def Z4Q (s:St) (dflt:Int):Option Operand→Option Int
 | none => some dflt
 | some q => match s.eval q with
  | .c (.int _ l) => some l
  | _ => none
inductive Cont where
 | no
 | ret (v:AV) (ch:List (Nat×Ob))
 | branch (b:Bool) (x y:Cont)
 | idx (i n:Int) (k:Cont)
 | cutB (l h n:Int) (k:Cont)
 | room (n m:Int) (bytes:Nat) (k:Cont)
 | catB (a b:ByteArray) (k:Cont)
 | nz (n:Int) (k:Cont)
 | nn (n:Int) (k:Cont)
 | eqn (n m:Int) (k:Cont)
 | roomM (n:Int) (bytes:Nat) (k:Cont)
 | cmpT (t:TypeId) (sh:List Sh) (a b:List AV) (k:Cont)
 | isI (t:TypeId) (k:Cont)
 | call (f:FuncId) (as:List AV) (ins:List Ob) (k:AV→List Ob→List Ob→Cont)
abbrev Out:=AV→List (Nat×Ob)→Prop
def Cont.sem (F:Hd) (R:Out):Cont→Prop
 | .no => F.no
 | .ret v ch => R v ch
 | .branch b x y => F.branch b (x.sem F R) (y.sem F R)
 | .idx i n k => F.idx i n (k.sem F R)
 | .cutB l h n k => F.cutB l h n (k.sem F R)
 | .room n m b k => F.room n m b (k.sem F R)
 | .catB a b k => F.catB a b (k.sem F R)
 | .nz n k => F.nz n (k.sem F R)
 | .nn n k => F.nn n (k.sem F R)
 | .eqn n m k => F.eqn n m (k.sem F R)
 | .roomM n b k => F.roomM n b (k.sem F R)
 | .cmpT t sh a b k => F.cmpT t sh a b (k.sem F R)
 | .isI t k => F.isI t (k.sem F R)
 | .call f as ins k => F.call f as ins fun r news outs => (k r news outs).sem F R
def callB:Option Tmp→Nat
 | some t => t * 16 + 50000
 | none => 40000
def Z7K (tab:Tr) (s:St) (d:Option Tmp) (f:FuncId) (vs:List AV):Cont :=
 match reach s.ob 64 (vs.flatMap (root1 (tab.mode f))) [] with
 | hs => match args1 (tab.mode f) hs s.ob vs,inOs (tab.mode f) hs s.ob hs with
  | some as,some ins => if Z6K hs then
    .call f as ins fun r news outs => if Z4s s.ob (callB d) 0 news.length && decide (news.length≤16) && Nat.beq outs.length hs.length then
      .ret (renA hs (callB d) r) (Z9T s.ob hs (Z2z hs vs) (callB d) r news outs) else .no
   else .no
  | _,_ => .no
def boolOf:AV→Option Bool
 | .c (.bool b) => some b
 | .tt => some true
 | .ff => some false
 | _ => none
def binAct (F:Hd) (op:BinOp) (x y:AV):Cont :=
 match x,y with
 | .c (.int k a),.c (.int k' b) =>
  match op with
  | .shl | .shr => .nn b (.ret (.c (.int k (F.int2 op k a b))) [])
  | .add | .sub | .mul | .and | .or | .xor | .andNot => if k = k' then .ret (.c (.int k (F.int2 op k a b))) [] else .no
  | .quo | .rem => if k = k' then .nz b (.ret (.c (.int k (F.int2 op k a b))) []) else .no
  | _ => if k = k' then .ret (.c (.bool (F.cmpI op a b))) [] else .no
 | .c (.str a),.c (.str b) =>
  match op with
  | .add => .catB a b (.ret (.c (.str (F.cat a b))) [])
  | .eql | .neq | .lss | .leq | .gtr | .geq => .ret (.c (.bool (F.cmpS op a b))) []
  | _ => .no
 | _,_ => .no
def appAct (F:Hd) (tab:Tr) (s:St) (d:Tmp) (t:TypeId) (x y:AV):Cont :=
 match tab.get t with
 | some { k:=.slice e,.. } =>
  match tab.get e,rowOf s.ob (tyFix tab t y) with
  | some te,some (shy,ys) =>
   if (s.ob d).isSome || decide (te.sz = 0) || decide (te.sh.length≠te.sz) || !shsB shy te.sh then .no else
   match x with
   | .nil _ => .room 0 (F.len ys) te.bytes (.ret (.own d) [(d,.row false e te.sh (F.app [] ys))])
   | .own o => match s.ob o with
    | some (.row z e' sh xs) => if e' = e∧shsB shy sh = true then .room (F.len xs) (F.len ys) te.bytes (.ret (.own d) [(o,.gone),(d,.row z e' sh (F.app xs ys))]) else .no
    | _ => .no
   | _ => .no
  | _,_ => .no
 | _ => .no
def strAct (F:Hd) (tab:Tr) (s:St) (d:Tmp) (t u:TypeId) (x y:AV):Cont :=
 match tab.get t,tab.get u,y with
 | some { k:=.slice e,.. },some { k:=.str,.. },.c (.str z) =>
  match tab.get e with
  | some { k:=.int .u8,bytes:=1,sh:=[.int .u8],.. } =>
   if (s.ob d).isSome then .no else
   match x with
   | .nil _ => .room 0 (F.slen z) 1 (.ret (.own d) [(d,.row false e [.int .u8] (F.app [] (F.bytesOf z)))])
   | .own o => match s.ob o with
    | some (.row f e' sh xs) => if e' = e∧shsB [.int .u8] sh = true then .room (F.len xs) (F.slen z) 1 (.ret (.own d) [(o,.gone),(d,.row f e' sh (F.app xs (F.bytesOf z)))]) else .no
    | _ => .no
   | _ => .no
  | _ => .no
 | _,_,_ => .no
def bsAct (tab:Tr) (s:St) (dst:Option Tmp) (t:TypeId) (len:Nat) (parts:Array (Nat×Operand)) (fz:List Nat):Cont :=
 match dst,tab.get t with
 | some d,some { k:=.slice e,.. } =>
  match tab.get e with
  | some te =>
   if (s.ob d).isSome || decide (te.sz = 0) || decide (te.sh.length≠te.sz) || decide (16777216 < len * te.sz) then .no else
   match fillA ((List.range len).map fun i => (i * te.sz,e)) tab (updCh (fz.flatMap (Z0A s.ob)) s.ob) ((List.range len).flatMap fun _ => te.sh.map zeroA) (parts.toList.map fun p => (p.1,Z5l (updCh (fz.flatMap (Z0A s.ob)) s.ob) (s.eval p.2))) with
   | some cs => match Zb4 cs with
    | some l => if ((List.range len).map fun i => (l.drop (i * te.sz)).take te.sz).all (fun r => shsB (r.map CV.sh) te.sh) then .ret (.own d) ((d,.row false e te.sh ((List.range len).map fun i => (l.drop (i * te.sz)).take te.sz))::fz.flatMap (Z0A s.ob)) else .no
    | none => .no
   | none => .no
  | none => .no
 | _,_ => .no
def opAct (F:Hd) (tab:Tr) (s:St) (o:Oper):Cont :=
 match o.op with
 | .move x | .assign x => .ret (tyFix tab o.type (s.eval x)) []
 | .pick c a b =>
  match s.eval c with
  | .tt => .ret (tyFix tab o.type (s.eval a)) []
  | .ff => .ret (tyFix tab o.type (s.eval b)) []
  | .c (.bool v) => .branch v (.ret (s.eval a) []) (.ret (s.eval b) [])
  | _ => .no
 | .alloc e =>
  match o.dst,tab.get e with
  | some d,some te => if (s.ob d).isSome || decide (te.sh.length≠te.sz) then (match te.k with
    | .ptr _ => if (s.ob d).isSome then .no else .ret (.ptr d 0) [(d,.box [.dead])]
    | _ => .no) else .ret (.ptr d 0) [(d,.box (te.sh.map zeroA))]
  | _,_ => .no
 | .box e x =>
  match o.dst,cellsOf s.ob (tyFix tab e (s.eval x)) with
  | some d,some cs => if (s.ob d).isSome then .no else .ret (.ptr d 0) [(d,.box cs)]
  | _,_ => .no
 | .build t parts =>
  match tab.get t with
  | some { k:=.struct fs,sh:=sh,.. } =>
   match fillA fs tab s.ob (sh.map zeroA) (parts.toList.map fun p => (p.1,s.eval p.2)) with
   | some cs => .ret (.agg cs) []
   | none => .no
  | _ => .no
 | .buildSlice t len parts => bsAct tab s o.dst t len parts (parts.toList.flatMap fun p => owns1 (s.eval p.2))
 | .load t a =>
  match s.eval a,tab.get t with
  | .ptr o off,some ti =>
   match s.ob o,ti.k with
   | some (.box cs),.struct _ => if off + ti.sz≤cs.length then .ret (.agg ((cs.drop off).take ti.sz)) [] else .no
   | some (.box cs),_ => match cs[off]? with
    | some v => .ret v []
    | none => .no
   | _,_ => .no
  | .elp sh rows i off,some ti =>
   match ti.k with
   | .struct _ => if off + ti.sz≤sh.length then .ret (.agg (Z6v F sh rows i off ti.sz)) [] else .no
   | _ => if off < sh.length then .ret (Zdg F sh rows i off) [] else .no
  | .elo o i off,some ti =>
   match s.ob o,ti.k with
   | some (.row _ _ sh rows),.struct _ => if off + ti.sz≤sh.length then .ret (.agg (Z6v F sh rows i off ti.sz)) [] else .no
   | some (.row _ _ sh rows),_ => if off < sh.length then .ret (Zdg F sh rows i off) [] else .no
   | _,_ => .no
  | _,_ => .no
 | .store t a x =>
  match s.eval a,tab.get t,cellsOf s.ob (tyFix tab t (s.eval x)) with
  | .ptr o off,some ti,some vs =>
   match s.ob o with
   | some (.box cs) => if vs.length = ti.sz∧off + ti.sz≤cs.length then .ret .dead [(o,.box (setCells cs off vs))] else .no
   | _ => .no
  | .elo o i off,some ti,some vs =>
   match s.ob o,Zb4 vs with
   | some (.row false e sh rows),some l => if l.length = ti.sz∧off + ti.sz≤sh.length∧shsB (l.map CV.sh) ((sh.drop off).take ti.sz) = true then .ret .dead [(o,.row false e sh (F.setR rows i off l))] else .no
   | _,_ => .no
  | _,_,_ => .no
 | .nilCheck x =>
  match s.eval x with
  | .ptr o off => match s.ob o with
   | some (.box _) => .ret (.ptr o off) []
   | _ => .no
  | .elp sh rows i off => .ret (.elp sh rows i off) []
  | .elo o i off => match s.ob o with
   | some (.row ..) => .ret (.elo o i off) []
   | _ => .no
  | _ => .no
 | .binOp op t x y _ =>
  match s.eval x,s.eval y with
  | .agg a,.agg b => match tab.get t,Z5E F a b,op with
   | some { sh:=sh,.. },some r,.eql => .cmpT t sh a b (.ret (.c (.bool r)) [])
   | some { sh:=sh,.. },some r,.neq => .cmpT t sh a b (.ret (.c (.bool (F.not r))) [])
   | _,_,_ => .no
  | .ifc a,.ifc true => match y,op with
   | .const _,.eql => .isI t (.ret (.c (.bool a)) [])
   | .const _,.neq => .isI t (.ret (.c (.bool (F.not a))) [])
   | _,_ => .no
  | a,b => match tab.get t,boolOf a,boolOf b,op with
   | some { k:=.bool,.. },some p,some q,.eql => .ret (.c (.bool (F.cmpB .eql p q))) []
   | some { k:=.bool,.. },some p,some q,.neq => .ret (.c (.bool (F.cmpB .neq p q))) []
   | _,_,_,_ => binAct F op a b
 | .unOp op _ x =>
  match op,s.eval x with
  | .not,.c (.bool b) => .ret (.c (.bool (F.not b))) []
  | .not,.tt => .ret .ff []
  | .not,.ff => .ret .tt []
  | .neg,.c (.int k n) => .ret (.c (.int k (F.neg k n))) []
  | _,_ => .no
 | .convert src dst x =>
  match s.eval x,tab.get src,tab.get dst with
  | .c (.int _ n),some _,some { k:=.int k,.. } => .ret (.c (.int k (F.wrap k n))) []
  | .c (.str b),some _,some { k:=.str,.. } => .ret (.c (.str b)) []
  | v,some { k:=.slice e,.. },some { k:=.str,.. } =>
   match tab.get e,rowOf s.ob v with
   | some { k:=.int .u8,.. },some (sh,rows) => if shsB sh [.int .u8] = true then .ret (.c (.str (F.strOf rows))) [] else .no
   | _,_ => .no
  | _,_,_ => .no
 | .slice t x lo hi none =>
  match tab.get t,s.eval x with
  | some { k:=.str,.. },.c (.str b) =>
   match Z4Q s 0 lo,Z4Q s (F.slen b) hi with
   | some l,some h => .cutB l h (F.slen b) (.ret (.c (.str (F.sub b l h))) [])
   | _,_ => .no
  | some { k:=.slice e,.. },v =>
   match rowOf s.ob v with
   | some (sh,rows) =>
    match Z4Q s 0 lo,Z4Q s (F.len rows) hi with
    | some l,some h => match tab.get e with
     | some te => if te.sz = sh.length then .cutB l h (F.len rows) (.ret (.c (.sl sh (F.cut rows l h))) ((owns v).flatMap (Z0A s.ob))) else .no
     | none => .no
    | _,_ => .no
   | none => .no
  | _,_ => .no
 | .fieldAddr t x f =>
  match tab.get t with
  | some { k:=.struct fs,.. } =>
   match fs[f]? with
   | some (off,u) => match tab.get u with
    | some tu => if tu.sz = 0 then .no else
     match s.eval x with
     | .ptr o p => match s.ob o with
      | some (.box _) => .ret (.ptr o (p + off)) []
      | _ => .no
     | .elp sh rows i p => .ret (.elp sh rows i (p + off)) []
     | .elo o i p => match s.ob o with
      | some (.row ..) => .ret (.elo o i (p + off)) []
      | _ => .no
     | _ => .no
    | none => .no
   | none => .no
  | _ => .no
 | .indexAddr t x i =>
  match tab.get t,rowOf s.ob (s.eval x),s.eval i with
  | some { k:=.slice e,.. },some (sh,rows),.c (.int _ j) =>
   match tab.get e with
   | some te => if te.sz = sh.length then .idx j (F.len rows) (.ret (match s.eval x with
    | .own o => .elo o j 0
    | _ => .elp sh rows j 0) []) else .no
   | none => .no
  | _,_,_ => .no
 | .index t x i =>
  match tab.get t,s.eval x,s.eval i with
  | some { k:=.str,.. },.c (.str b),.c (.int _ j) => .idx j (F.slen b) (.ret (.c (.int .u8 (F.byteAt b j))) [])
  | _,_,_ => .no
 | .extract x i =>
  match s.eval x with
  | .tup vs => match vs[i]? with
   | some v => .ret v []
   | none => .no
  | _ => .no
 | .call c =>
  match c.callee with
  | .builtin .len =>
   match (c.args.toList.map s.eval),c.argTypes.toList with
   | [v],[t] => match tab.get t,v with
    | some { k:=.str,.. },.c (.str b) => .ret (.c (.int .i64 (F.slen b))) []
    | some { k:=.slice _,.. },v => match rowOf s.ob v with
     | some (_,rows) => .ret (.c (.int .i64 (F.len rows))) []
     | none => .no
    | _,_ => .no
   | _,_ => .no
  | .builtin .append =>
   match o.dst,(c.args.toList.map s.eval),c.argTypes.toList with
   | some d,[x,y],[t,t'] => if t = t' then appAct F tab s d t x y else strAct F tab s d t t' x y
   | _,_,_ => .no
  | .builtin .max =>
   match (c.args.toList.map s.eval) with
   | [.c (.int k a),.c (.int k' b)] => if k = k' then .ret (.c (.int k (F.max a b))) [] else .no
   | _ => .no
  | .builtin .min =>
   match (c.args.toList.map s.eval) with
   | [.c (.int k a),.c (.int k' b)] => if k = k' then .ret (.c (.int k (F.min a b))) [] else .no
   | _ => .no
  | .value q =>
   match s.eval q with
   | .c (.fn f) => Z7K tab s o.dst f (Z4n tab c.argTypes.toList (c.args.toList.map s.eval))
   | .clo f cs => if cs.all Za1 then Z7K tab s o.dst f (Z4n tab c.argTypes.toList (c.args.toList.map s.eval)++cs) else .no
   | _ => .no
  | _ => .no
 | .makeFunc (.func f) first caps => if first.size = 0∧(caps.toList.all fun x => Za1 (s.eval x)) = true then .ret (.clo f (caps.toList.map s.eval)) [] else .no
 | .makeSlice t l c =>
  match o.dst,tab.get t,s.eval l,s.eval c with
  | some d,some { k:=.slice e,.. },.c (.int .i64 n),.c (.int .i64 m) =>
   match tab.get e with
   | some te => if (s.ob d).isSome || decide (te.sz = 0) || decide (te.sh.length≠te.sz) || !te.sh.all nofn then .no else .nn n (.eqn n m (.roomM n te.bytes (.ret (.own d) [(d,.row false e te.sh (F.mkR n te.sh))])))
   | none => .no
  | _,_,_,_ => .no
 | _ => .no
def opSem (F:Hd) (tab:Tr) (s:St) (o:Oper) (R:Out):Prop:=(opAct F tab s o).sem F R
def isGuard (ops:Array Oper) (i:Nat):Bool:=ops.toList.any fun o => match o.guard with
 | some (j,_) => j == i
 | none => false
def Z54 (F:Hd) (tab:Tr) (ops:Array Oper) (i:Nat) (s:St) (R:Out):Prop :=
 match ops[i]? with
 | none => F.no
 | some o =>
  let run (R:Out):Prop:=if isGuard ops i then opSem F tab s o fun v ch => match v with
    | .c (.bool b) => F.branch b (R .tt ch) (R .ff ch)
    | v => R v ch
   else opSem F tab s o R
  match o.guard with
  | none => run R
  | some (j,want) =>
   match (ops[j]?).bind (·.dst) with
   | none => F.no
   | some g => match s.sl.getD g .dead with
    | .tt => if want then run R else R (.tup []) []
    | .ff => if want then R (.tup []) [] else run R
    | .tup [] => R (.tup []) []
    | _ => F.no
def idsC:AV→List Nat
 | .ptr o _ => [o]
 | .own o => [o]
 | .elo o _ _ => [o]
 | _ => []
def ids1:AV→List Nat
 | .agg cs => cs.flatMap idsC
 | .clo _ cs => cs.flatMap idsC
 | v => idsC v
def idsA:AV→List Nat
 | .tup vs => vs.flatMap ids1
 | v => ids1 v
def Z4X (s:St) (c:Call):Nat :=
 match c.callee with
 | .value q => match s.eval q with
  | .c (.fn f) => f
  | .clo f _ => f
  | _ => 0
 | _ => 0
def Z3j (s:St) (c:Call):List AV :=
 match c.callee with
 | .value q => match s.eval q with
  | .clo _ cs => c.args.toList.map s.eval++cs
  | _ => c.args.toList.map s.eval
 | _ => []
def blind:Op→Bool
 | .move _ | .assign _ | .extract .. | .pick .. | .unOp .. => true
 | _ => false
def Z2t (tab:Tr) (s:St) (o:Oper):List Nat :=
 (if blind o.op then [] else o.op.operands.toList.flatMap fun x => idsA (s.eval x))++(match o.op,o.dst with
  | .alloc _,some d | .box ..,some d | .buildSlice ..,some d | .makeSlice ..,some d | .call { callee:=.builtin _,.. },some d => [d]
  | .call c,d => ((List.range 16).map fun k => callB d + k)++reach s.ob 64 ((Z3j s c).flatMap (root1 (tab.mode (Z4X s c)))) []
  | _,_ => [])
def turns (o:Oper):Bool :=
 match o.op with
 | .alloc _ | .box .. | .buildSlice .. | .makeSlice .. | .slice .. | .store .. | .call { callee:=.builtin .append,.. } | .call { callee:=.value _,.. } => true
 | _ => false
def disj (a b:List Nat):Bool:=a.all fun x => !b.contains x
def Z9V (o:Oper) (acc:List Nat):Nat:=o.after.toList.foldl (fun m e => if Region.binds .any e then m ||| 2 ^ e.on ||| acc.getD e.on 0 else m) 0
def masks:List Oper→List Nat→List Nat
 | [],acc => acc
 | o::r,acc => masks r (acc++[Z9V o acc])
def hotOk (m:Nat) (t:Bool) (ft:List Nat) (H:List (Nat×Bool×List Nat)):Bool :=
 H.all fun e => m.testBit e.1 || (!t && !e.2.1) || disj ft e.2.2
def chOk (t:Bool) (ft:List Nat) (ch:List (Nat×Ob)):Bool:=ch.all fun p => t && ft.contains p.1
def seqAll (F:Hd) (tab:Tr) (ops:Array Oper):List Nat→St→(St→Prop)→Prop
 | [],s,K => K s
 | i::r,s,K => Z54 F tab ops i s fun v ch => seqAll F tab ops r (s.put ((ops[i]?).bind (·.dst)) v ch) K
def Z3p (F:Hd) (tab:Tr) (ops:Array Oper) (ms:List Nat):List (Nat×Bool×List Nat)→List Nat→St→(St→Prop)→Prop
 | _,[],s,K => K s
 | H,i::r,s,K => match ops[i]? with
  | none => F.no
  | some o => if hotOk (ms.getD i 0) (turns o) (Z2t tab s o) H then
    Z54 F tab ops i s fun v ch => if chOk (turns o) (Z2t tab s o) ch then Z3p F tab ops ms ((i,turns o,Z2t tab s o)::H) r (s.put o.dst v ch) K else F.no
   else F.no
def evC (F:Hd) (tab:Tr):Code→St→(Ex→St→Prop)→Prop
 | .skip,s,Q => Q .normal s
 | .region _ ops draw,s,Q => if draw then F.drawn ops (Z3p F tab ops (masks ops.toList []) [] (List.range ops.size) s (Q .normal)) else seqAll F tab ops (List.range ops.size) s (Q .normal)
 | .seq a b,s,Q => evC F tab a s fun e s' => match e with
  | .normal => evC F tab b s' Q
  | e => Q e s'
 | .cond c x y,s,Q =>
  match s.eval c with
  | .tt => evC F tab x s Q
  | .ff => evC F tab y s Q
  | .c (.bool b) => F.branch b (evC F tab x s Q) (evC F tab y s Q)
  | _ => F.no
 | .block id c,s,Q => evC F tab c s fun e s' => match e with
  | .exit id' => if id' = id then Q .normal s' else Q (.exit id') s'
  | e => Q e s'
 | .loop c,s,Q => F.loop (evC F tab c) s Q
 | .exit id,s,Q => Q (.exit id) s
 | .ret,s,Q => Q .ret s
 | _,_,_ => F.no
end Go.Ev
namespace Go.Ev
inductive RepC (w:World) (G:Nat→Nat):Value→CV→Prop
 | int (k n):RepC w G (.int k n) (.int k n)
 | bool (b):RepC w G (.bool b) (.bool b)
 | str (s):RepC w G (.string s) (.str s)
 | fn (f):RepC w G (.func (.func f) #[] #[]) (.fn f)
 | sl (A:Option Addr) (c:Nat) (sh:List Sh) (rows:List (List CV)) (val:Nat→Nat→Value) (b o:Nat)
   (hc:rows.length≤c) (hsh:∀ row∈rows,row.map CV.sh = sh)
   (hA:rows≠[]→A = some ⟨b,o,none⟩)
   (hr:∀ j row k cv,rows[j]? = some row→row[k]? = some cv→o + (j * sh.length + k) < G b∧w.cell? ⟨b,o + (j * sh.length + k),none⟩ = some (val j k))
   (hv:∀ j row k cv,rows[j]? = some row→row[k]? = some cv→RepC w G (val j k) cv) :
   RepC w G (.slice A rows.length c) (.sl sh rows)
def Ext (w:World) (G:Nat→Nat) (w':World) (G':Nat→Nat):Prop :=
 ∀ b p,p < G b→p < G' b∧w'.cell? ⟨b,p,none⟩ = w.cell? ⟨b,p,none⟩
theorem Ext.refl (w:World) (G:Nat→Nat):Ext w G w G:=fun _ _ h => ⟨h,rfl⟩
theorem Ext.trans {w w' w'':World} {G G' G'':Nat→Nat} (h:Ext w G w' G') (h':Ext w' G' w'' G''):Ext w G w'' G'' :=
 fun b p hp => ⟨(h' b p (h b p hp).1).1,(h' b p (h b p hp).1).2.trans (h b p hp).2⟩
theorem RepC.ext {w w':World} {G G':Nat→Nat} (he:Ext w G w' G') {v:Value} {cv:CV} (h:RepC w G v cv):RepC w' G' v cv:=by
 induction h with
 | int k n => exact .int k n
 | bool b => exact .bool b
 | str s => exact .str s
 | fn f => exact .fn f
 | sl A c sh rows val b o hc hsh hA hr hv ih =>
  exact .sl A c sh rows val b o hc hsh hA (fun j row k cv h1 h2 => ⟨(he b _ (hr j row k cv h1 h2).1).1,(he b _ (hr j row k cv h1 h2).1).2.trans (hr j row k cv h1 h2).2⟩) ih
theorem RepC.one {w:World} {G:Nat→Nat} {v:Value} {cv:CV} (h:RepC w G v cv):v.oneCell' = true:=by
 cases h <;> rfl
theorem RepC.notagg {w:World} {G:Nat→Nat} {v:Value} {cv:CV} (h:RepC w G v cv):v.cells = #[v]:=by
 cases h <;> rfl
structure Gh where
 blk:Nat→Nat
 top:Nat→Value
 G:Nat→Nat
def Rep0 (w:World) (g:Gh) (ob:Nat→Option Ob) (v:Value):AV→Prop
 | .c cv => RepC w g.G v cv
 | .tt => v = .bool true
 | .ff => v = .bool false
 | .nil _ => v = .slice none 0 0
 | .ifc b => (b = true→v = .nilIface)∧(b = false→∃ t u,v = .iface t u)
 | .ptr o off => (∃ x,ob o = some x)∧∀ cs,ob o = some (.box cs)→v = .pointer (some ⟨g.blk o,off,none⟩)
 | .own o => (∃ x,ob o = some x)∧∀ z e sh rows,ob o = some (.row z e sh rows)→v = g.top o
 | .elo o i off => (∃ x,ob o = some x)∧∀ z e sh rows,ob o = some (.row z e sh rows)→(0≤i∧i < (rows.length:Int))∧∃ b n c,g.top o = .slice (some ⟨b,0,none⟩) n c∧v = .pointer (some ⟨b,i.toNat * sh.length + off,none⟩)
 | .elp sh rows i off => (0≤i∧i < (rows.length:Int))∧(∀ row∈rows,row.map CV.sh = sh)∧∃ (b p:Nat) (val:Nat→Value),v = .pointer (some ⟨b,p + off,none⟩) ∧
   ∀ k cv,(rows.getD i.toNat [])[k]? = some cv→(p + k < g.G b∧w.cell? ⟨b,p + k,none⟩ = some (val k))∧RepC w g.G (val k) cv
 | .dead => True
 | _ => False
def Rep1 (w:World) (g:Gh) (ob:Nat→Option Ob) (v:Value):AV→Prop
 | .agg cs => ∃ vs:Array Value,v = .agg vs∧vs.size = cs.length∧∀ k c,cs[k]? = some c→Rep0 w g ob (vs.getD k undef) c
 | .clo f cs => ∃ vs:Array Value,v = .func (.func f) #[] vs∧vs.size = cs.length∧∀ k c,cs[k]? = some c→Rep0 w g ob (vs.getD k undef) c
 | .tup _ => False
 | a => Rep0 w g ob v a
def Rep (w:World) (g:Gh) (ob:Nat→Option Ob) (v:Value):AV→Prop
 | .tup as => ∃ vs:Array Value,v = .tuple vs∧vs.size = as.length∧∀ k c,as[k]? = some c→Rep1 w g ob (vs.getD k undef) c
 | a => Rep1 w g ob v a
def Keep (g:Gh) (ob:Nat→Option Ob) (g':Gh) (ob':Nat→Option Ob):Prop :=
 ∀ o x,ob o = some x→∃ x',ob' o = some x'∧(∀ cs,x' = .box cs→(∃ cs0,x = .box cs0)∧g'.blk o = g.blk o) ∧
  (∀ z e sh rows,x' = .row z e sh rows→(∃ z0 rows0,x = .row z0 e sh rows0∧rows0.length = rows.length)∧g'.top o = g.top o)∧∀ cs,x = .box cs→∃ cs',x' = .box cs'
theorem Keep.one {g g':Gh} {o:Nat} {x:Ob} {ob':Nat→Option Ob} (h:ob' o = some x) (hb:g'.blk o = g.blk o) (ht:g'.top o = g.top o):∃ x',ob' o = some x'∧(∀ cs,x' = .box cs→(∃ cs0,x = .box cs0)∧g'.blk o = g.blk o) ∧
  (∀ z e sh rows,x' = .row z e sh rows→(∃ z0 rows0,x = .row z0 e sh rows0∧rows0.length = rows.length)∧g'.top o = g.top o)∧∀ cs,x = .box cs→∃ cs',x' = .box cs' :=
 ⟨x,h,fun cs hx => ⟨⟨cs,hx⟩,hb⟩,fun z _ _ rows hx => ⟨⟨z,rows,hx,rfl⟩,ht⟩,fun cs hx => ⟨cs,hx⟩⟩
theorem Keep.refl (g:Gh) (ob:Nat→Option Ob):Keep g ob g ob:=fun _ _ h => Keep.one h rfl rfl
theorem Keep.trans {g g' g'':Gh} {ob ob' ob'':Nat→Option Ob} (h:Keep g ob g' ob') (h':Keep g' ob' g'' ob''):Keep g ob g'' ob'':=fun o x hx => by
 obtain ⟨x',h1,h2,h3,h4⟩:=h o x hx
 obtain ⟨x'',k1,k2,k3,k4⟩:=h' o x' h1
 refine ⟨x'',k1,fun cs hc => ?_,fun z e sh rows hc => ?_,fun cs hc => ?_⟩
 ·obtain ⟨⟨cs',hc'⟩,e1⟩:=k2 cs hc
  obtain ⟨h5,e2⟩:=h2 cs' hc'
  exact ⟨h5,e1.trans e2⟩
 ·obtain ⟨⟨z',rows',hc',l1⟩,e1⟩:=k3 z e sh rows hc
  obtain ⟨⟨z0,rows0,h5,l2⟩,e2⟩:=h3 z' e sh rows' hc'
  exact ⟨⟨z0,rows0,h5,l2.trans l1⟩,e1.trans e2⟩
 ·obtain ⟨cs',hc'⟩:=h4 cs hc
  exact k4 cs' hc'
section
variable {w w':World} {g g':Gh} {ob ob':Nat→Option Ob}
theorem Rep0.keep (he:Ext w g.G w' g'.G) (hk:Keep g ob g' ob') {v:Value}:∀ {a:AV},Rep0 w g ob v a→Rep0 w' g' ob' v a
 | .c _,h => RepC.ext he h
 | .tt,h => h
 | .ff,h => h
 | .nil _,h => h
 | .ifc _,h => h
 | .ptr o off,h => by
  obtain ⟨⟨x,hx⟩,h2⟩:=h
  obtain ⟨x',hx',h3,_⟩:=hk o x hx
  refine ⟨⟨x',hx'⟩,fun cs hc => ?_⟩
  have:x' = .box cs:=Option.some.inj (hx'.symm.trans hc)
  obtain ⟨⟨cs0,h0⟩,hb⟩:=h3 cs this
  subst h0
  rw [h2 cs0 hx,hb]
 | .own o,h => by
  obtain ⟨⟨x,hx⟩,h2⟩:=h
  obtain ⟨x',hx',_,h3,_⟩:=hk o x hx
  refine ⟨⟨x',hx'⟩,fun z e sh rows hc => ?_⟩
  have:x' = .row z e sh rows:=Option.some.inj (hx'.symm.trans hc)
  obtain ⟨⟨z0,rows0,h0,_⟩,hb⟩:=h3 z e sh rows this
  subst h0
  rw [h2 z0 e sh rows0 hx,hb]
 | .elo o i off,h => by
  obtain ⟨⟨x,hx⟩,h2⟩:=h
  obtain ⟨x',hx',_,h3,_⟩:=hk o x hx
  refine ⟨⟨x',hx'⟩,fun z e sh rows hc => ?_⟩
  have:x' = .row z e sh rows:=Option.some.inj (hx'.symm.trans hc)
  obtain ⟨⟨z0,rows0,h0,hl⟩,hb⟩:=h3 z e sh rows this
  subst h0
  rw [hb,←hl];exact h2 z0 e sh rows0 hx
 | .elp sh rows i off,h => by
  obtain ⟨h1,h2,b,p,val,hv,hc⟩:=h
  exact ⟨h1,h2,b,p,val,hv,fun k cv hk' => ⟨⟨(he b _ (hc k cv hk').1.1).1,(he b _ (hc k cv hk').1.1).2.trans (hc k cv hk').1.2⟩,(hc k cv hk').2.ext he⟩⟩
 | .dead,_ => trivial
 | .agg _,h => h
 | .tup _,h => h
 | .clo _ _,h => h
theorem Rep1.keep (he:Ext w g.G w' g'.G) (hk:Keep g ob g' ob') {v:Value} {a:AV} (h:Rep1 w g ob v a):Rep1 w' g' ob' v a:=by
 cases a <;> simp only [Rep1] at h ⊢ <;> first | exact h.keep he hk | skip
 ·obtain ⟨vs,h1,h2,h3⟩:=h
  exact ⟨vs,h1,h2,fun k c hc => (h3 k c hc).keep he hk⟩
 ·obtain ⟨vs,h1,h2,h3⟩:=h
  exact ⟨vs,h1,h2,fun k c hc => (h3 k c hc).keep he hk⟩
theorem Rep.keep (he:Ext w g.G w' g'.G) (hk:Keep g ob g' ob') {v:Value} {a:AV} (h:Rep w g ob v a):Rep w' g' ob' v a:=by
 cases a <;> simp only [Rep] at h ⊢ <;> first | exact h.keep he hk | skip
 obtain ⟨vs,h1,h2,h3⟩:=h
 exact ⟨vs,h1,h2,fun k c hc => (h3 k c hc).keep he hk⟩
end
def Z1X:AV→Prop
 | .c _ | .tt | .ff | .nil _ | .ptr .. | .own _ | .ifc _ | .dead => True
 | _ => False
def RepOb (w:World) (g:Gh) (ob:Nat→Option Ob) (o:Nat):Ob→Prop
 | .gone => True
 | .box cs => ∃ (vs:Array Value) (e:TypeId),w.heap[g.blk o]? = some (.cells vs e (0,0))∧vs.size = cs.length∧(∀ k c,cs[k]? = some c→Rep0 w g ob (vs.getD k undef) c∧Z1X c)∧g.G (g.blk o) = 0
 | .row z e sh rows => ∃ cs:List Value,w.ownsRow 0 e sh.length (g.top o) rows.length cs∧(∀ row∈rows,row.map CV.sh = sh)∧(∀ b,(g.top o).ownBlock = some b→g.G b = if z then rows.length * sh.length else 0) ∧
   ∀ j row k cv,rows[j]? = some row→row[k]? = some cv→∃ v,cs[j * sh.length + k]? = some v∧RepC w g.G v cv
def obBlk (g:Gh) (o:Nat):Ob→Option Nat
 | .gone => none
 | .box _ => some (g.blk o)
 | .row .. => (g.top o).ownBlock
def Bk (g:Gh) (ob:Nat→Option Ob) (b:Nat):Prop:=∃ o x,ob o = some x∧obBlk g o x = some b
structure Grown (w w':World) (B:Nat→Prop):Prop where
 os:w'.os = w.os
 tape:w'.tape = w.tape
 output:w'.output = w.output
 size:w.heap.size≤w'.heap.size
 block:∀ k,k < w.heap.size→¬ B k→w'.heap[k]? = w.heap[k]?
theorem Grown.refl (w:World) (B:Nat→Prop):Grown w w B:=⟨rfl,rfl,rfl,Nat.le_refl _,fun _ _ _ => rfl⟩
theorem Grown.trans {w w' w'':World} {B B':Nat→Prop} (h:Grown w w' B) (h':Grown w' w'' B') (hb:∀ b,B' b→B b∨w.heap.size≤b):Grown w w'' B :=
 ⟨h'.os.trans h.os,h'.tape.trans h.tape,h'.output.trans h.output,Nat.le_trans h.size h'.size,fun k hk hB => (h'.block k (Nat.lt_of_lt_of_le hk h.size) (fun e => by rcases hb k e with h1 | h1;exact hB h1;omega)).trans (h.block k hk hB)⟩
theorem Grown.of {w w':World} {p:Option Nat} (h:w.grownBy w' p):Grown w w' (fun b => some b = p):=⟨h.os,h.tape,h.output,h.size,fun k hk hb => h.block k hk hb⟩
structure TBs where
 T:World→(Nat→Nat)→Prop
 ext:∀ {w G w' G'},Ext w G w' G'→T w G→T w' G'
structure Inv (T:TBs) (w0:World) (gp:Gh) (obp:Nat→Option Ob) (g:Gh) (w:World) (a:Act) (s:St):Prop where
 size:a.tmps.size = s.sl.length
 slots:∀ t v,s.sl[t]? = some v→Rep w g s.ob (a.tmps.getD t undef) v
 defers:a.defers = []
 obs:∀ o x,s.ob o = some x→RepOb w g s.ob o x
 inj:∀ o o' x x' b,s.ob o = some x→s.ob o' = some x'→obBlk g o x = some b→obBlk g o' x' = some b→o = o'
 fresh:∀ o x b,s.ob o = some x→obBlk g o x = some b→Bk gp obp b∨w0.heap.size≤b
 grow:Grown w0 w (Bk gp obp)
 old:∀ b,b < w0.heap.size→¬ Bk gp obp b→g.G b = gp.G b
 gz:∀ b,w.heap.size≤b→g.G b = 0
 par:∀ b,Bk gp obp b→b < w0.heap.size
 keep:Keep gp obp g s.ob
 ext:Ext w0 gp.G w g.G
 tb0:T.T w0 gp.G
 pnum:∀ o x,obp o = some x→10000≤o∧o < 10008
theorem own_lt {w:World} {base:Nat} {e:TypeId} {size n:Nat} {v:Value} {xs:List Value} (h:w.ownsRow base e size v n xs) {b:Nat} (hb:v.ownBlock = some b):b < w.heap.size:=by
 rcases h.2 with ⟨h2,_⟩ | ⟨q,cap,cur,h2,_,h3,_⟩
 ·rw [h2] at hb;simp [Value.ownBlock] at hb
 ·rw [h2] at hb
  simp only [Value.ownBlock,Option.some.injEq] at hb
  subst hb
  exact (Array.getElem?_eq_some_iff.1 h3).1
theorem RepOb.lt {w:World} {g:Gh} {ob:Nat→Option Ob} {o:Nat} {x:Ob} {b:Nat} (h:RepOb w g ob o x) (hb:obBlk g o x = some b):b < w.heap.size:=by
 cases x with
 | gone => simp [obBlk] at hb
 | box cs =>
  obtain ⟨vs,e,h1,_⟩:=h
  simp only [obBlk,Option.some.injEq] at hb
  subst hb
  exact (Array.getElem?_eq_some_iff.1 h1).1
 | row z e sh rows => obtain ⟨cs,h1,_⟩:=h;exact own_lt h1 hb
section
variable {T:TBs} {w0:World} {gp:Gh} {obp:Nat→Option Ob} {g:Gh} {w:World} {a:Act} {s:St}
theorem put_get {a:Act} {t:Nat} {v:Value} {x:Nat} (ht:t < a.tmps.size):(a.put (some t) v).tmps.getD x undef = if x = t then v else a.tmps.getD x undef:=by
 simp only [Act.put,Array.getD_eq_getD_getElem?]
 by_cases h:x = t
 ·subst h;simp [ht]
 ·rw [if_neg h,Array.getElem?_setIfInBounds_ne (fun e => h e.symm)]
theorem slots_put {w':World} {g':Gh} {ob':Nat→Option Ob} {sl:List AV} (hs:a.tmps.size = sl.length) (h:∀ t v,sl[t]? = some v→Rep w' g' ob' (a.tmps.getD t undef) v) (d:Option Tmp) {v:Value} {av:AV} (hv:Rep w' g' ob' v av) :
  (a.put d v).tmps.size = (match d with | some t => sl.set t av | none => sl).length∧∀ t u,(match d with | some t => sl.set t av | none => sl)[t]? = some u→Rep w' g' ob' ((a.put d v).tmps.getD t undef) u:=by
 cases d with
 | none => exact ⟨hs,h⟩
 | some d =>
  refine ⟨by simp [Act.put,hs],fun t u hu => ?_⟩
  simp only [List.getElem?_set] at hu
  by_cases hd:d = t
  ·subst hd
   by_cases hl:d < sl.length
   ·simp only [if_true,hl] at hu
    obtain rfl:=Option.some.inj hu
    rw [put_get (hs ▸ hl),if_pos rfl];exact hv
   ·simp [hl] at hu
  ·simp only [hd,if_false] at hu
   by_cases hl:d < sl.length
   ·rw [put_get (hs ▸ hl),if_neg (fun e => hd e.symm)];exact h t u hu
   ·have:a.put (some d) v = a:=by
     have hx:a.tmps.setIfInBounds d v = a.tmps:=Array.setIfInBounds_eq_of_size_le (hs.symm ▸ Nat.le_of_not_lt hl)
     simp only [Act.put,hx]
    rw [this];exact h t u hu
theorem ZcI (d:Option Tmp) (v:Value):(a.put d v).defers = a.defers:=by cases d <;> rfl
theorem Inv.put (h:Inv T w0 gp obp g w a s) (d:Option Tmp) {v:Value} {av:AV} (hv:Rep w g s.ob v av):Inv T w0 gp obp g w (a.put d v) (s.put d av []):=by
 have hp:=slots_put h.size h.slots d hv
 exact { h with size:=hp.1,slots:=hp.2,defers:=(ZcI d v).trans h.defers }
theorem getD_of {l:List AV} {t:Nat} {x:AV} (h:l.getD t .dead = x) (hx:x≠.dead):l[t]? = some x:=by
 rw [List.getD_eq_getElem?_getD] at h
 cases hl:l[t]? with
 | none => rw [hl] at h;exact absurd h.symm hx
 | some y => rw [hl] at h;exact congrArg some h
theorem Zdb (w:World) (g:Gh) (ob:Nat→Option Ob) (v:Value):Rep0 w g ob v (ofCell v):=by
 unfold ofCell
 split
 ·exact .int _ _
 ·split
  ·simp_all [Rep0]
  ·simp_all [Rep0]
 ·exact .str _
 ·split
  ·rename_i h;obtain ⟨rfl,rfl⟩:=h
   exact rfl
  ·trivial
 ·rename_i a b;split
  ·rename_i h;obtain ⟨h1,h2⟩:=h
   obtain rfl:a = #[]:=Array.eq_empty_of_size_eq_zero h1
   obtain rfl:b = #[]:=Array.eq_empty_of_size_eq_zero h2
   exact .fn _
  ·trivial
 ·exact ⟨fun _ => rfl,fun h => by cases h⟩
 ·trivial
theorem Z0S {v:Value} {x:AV} {ob:Nat→Option Ob} (h:Rep0 w g ob v x):Rep w g ob v x:=by
 cases x <;> first | exact h | exact h.elim
theorem ZC {v:Value} {x:AV} {ob:Nat→Option Ob} (h:Rep0 w g ob v x):Rep1 w g ob v x:=by
 cases x <;> first | exact h | exact h.elim
theorem Z0p {v:Value} {x:AV} {ob:Nat→Option Ob} (h:Rep1 w g ob v x):Rep w g ob v x:=by
 cases x <;> first | exact h | exact h.elim
theorem Inv.eval (h:Inv T w0 gp obp g w a s) (x:Operand):Rep w g s.ob (a.eval x) (s.eval x):=by
 cases x with
 | tmp t =>
  simp only [Act.eval,St.eval,List.getD_eq_getElem?_getD]
  cases hs:s.sl[t]? with
  | none => exact Z0S (x:=.dead) trivial
  | some v => exact h.slots t v hs
 | const v =>
  simp only [Act.eval,St.eval,ofValue]
  split
  ·rename_i cs
   refine ⟨cs,rfl,by simp,fun k c hc => ?_⟩
   simp only [List.getElem?_map,Option.map_eq_some_iff] at hc
   obtain ⟨u,hu,rfl⟩:=hc
   have:cs.getD k undef = u:=by rw [Array.getD_eq_getD_getElem?];simp at hu;simp [hu]
   rw [this];exact Zdb w g s.ob u
  ·exact Z0S (Zdb w g s.ob v)
 | global _ => exact Z0S (x:=.dead) trivial
 | func f => exact Z0S (x:=.c (.fn f)) (RepC.fn f)
end
end Go.Ev
namespace Go.Ev
def gC (rows:List (List CV)) (i:Int) (k:Nat):CV:=((rows.getD i.toNat [])[k]?).getD (.bool false)
def gI (rows:List (List CV)) (i:Int) (k:Nat):Int:=match gC rows i k with
 | .int _ n => n
 | _ => 0
def gB (rows:List (List CV)) (i:Int) (k:Nat):Bool:=match gC rows i k with
 | .bool b => b
 | _ => false
def gS (rows:List (List CV)) (i:Int) (k:Nat):ByteArray:=match gC rows i k with
 | .str s => s
 | _ => ByteArray.empty
def gR (rows:List (List CV)) (i:Int) (k:Nat):List (List CV):=match gC rows i k with
 | .sl _ r => r
 | _ => []
def byteAt (s:ByteArray) (i:Int):Int:=((s.data[i.toNat]?).getD 0).toNat
def subS (s:ByteArray) (l h:Int):ByteArray:=s.extract l.toNat h.toNat
def cutR (rows:List (List CV)) (l h:Int):List (List CV):=(rows.drop l.toNat).take (h.toNat - l.toNat)
def maxI (a b:Int):Int:=if b > a then b else a
def minI (a b:Int):Int:=if b < a then b else a
def strOf (rows:List (List CV)):ByteArray:=rows.foldl (fun r row => r.push (UInt8.ofNat (match row with
 | [.int _ n] => n.toNat
 | _ => 0))) ByteArray.empty
def setCs:List CV→Nat→List CV→List CV
 | l,_,[] => l
 | l,o,v::r => setCs (l.set o v) (o + 1) r
def setR (rows:List (List CV)) (i:Int) (off:Nat) (l:List CV):List (List CV):=rows.set i.toNat (setCs (rows.getD i.toNat []) off l)
def mkR (n:Int) (sh:List Sh):List (List CV):=List.replicate n.toNat (sh.map zeroC)
def obIn (ins:List Ob):Nat→Option Ob:=fun q => if q < 10000 then none else ins[q - 10000]?
def obOut (news outs:List Ob):Nat→Option Ob:=fun q => if q < 10000 then news[q]? else outs[q - 10000]?
structure Res (w:World) (gp:Gh) (ins:List Ob) (r:AV) (news outs:List Ob) (v:Value) (w':World) (g':Gh):Prop where
 grow:Grown w w' (Bk gp (obIn ins))
 old:∀ b,b < w.heap.size→¬ Bk gp (obIn ins) b→g'.G b = gp.G b
 gz:∀ b,w'.heap.size≤b→g'.G b = 0
 val:Rep w' g' (obOut news outs) v r
 obs:∀ o x,obOut news outs o = some x→RepOb w' g' (obOut news outs) o x
 inj:∀ o o' x x' b,obOut news outs o = some x→obOut news outs o' = some x'→obBlk g' o x = some b→obBlk g' o' x' = some b→o = o'
 fresh:∀ o x b,obOut news outs o = some x→obBlk g' o x = some b→Bk gp (obIn ins) b∨w.heap.size≤b
 keep:Keep gp (obIn ins) g' (obOut news outs)
 ext:Ext w gp.G w' g'.G
def Z76 (P : Program) (f : FuncId) : Prop := ∃ fn, P.funcs[f]? = some fn ∧ fn.body.isNone = false ∧ (fn.name == "runtime.NumGoroutine") = false
def Con (P:Program) (T:TBs) (f:FuncId) (args:List AV) (ins:List Ob) (r:AV) (news outs:List Ob):Prop :=
 Z76 P f∧∀ (w:World) (gp:Gh) (vs:List Value),(∀ b,w.heap.size≤b→gp.G b = 0)→T.T w gp.G→vs.length = args.length →
  (∀ o x,obIn ins o = some x→RepOb w gp (obIn ins) o x) →
  (∀ o o' x x' b,obIn ins o = some x→obIn ins o' = some x'→obBlk gp o x = some b→obBlk gp o' x' = some b→o = o') →
  (∀ k c,args[k]? = some c→Rep1 w gp (obIn ins) (vs.getD k undef) c) →
  Calls P f vs.toArray w fun e w' => ∃ v g',e = .returned v∧Res w gp ins r news outs v w' g'
def int2 (op:BinOp) (k:IntKind) (a b:Int):Int :=
 match op with
 | .add => k.wrap (a + b)
 | .sub => k.wrap (a - b)
 | .mul => k.wrap (a * b)
 | .quo => k.wrap (a.tdiv b)
 | .rem => a.tmod b
 | .and => k.wrap (BitVec.ofInt k.bits a &&& BitVec.ofInt k.bits b).toNat
 | .or => k.wrap (BitVec.ofInt k.bits a ||| BitVec.ofInt k.bits b).toNat
 | .xor => k.wrap (BitVec.ofInt k.bits a ^^^ BitVec.ofInt k.bits b).toNat
 | .andNot => k.wrap (BitVec.ofInt k.bits a &&& ~~~ BitVec.ofInt k.bits b).toNat
 | .shl => k.wrap (a * 2 ^ (min b.toNat k.bits))
 | .shr => a.fdiv (2 ^ (min b.toNat k.bits))
 | _ => 0
def cmpI (op:BinOp) (x y:Int):Bool :=
 match op with
 | .eql => x == y
 | .neq => x != y
 | .lss => x < y
 | .leq => x≤y
 | .gtr => x > y
 | .geq => x≥y
 | _ => false
def cmpS (op:BinOp) (x y:ByteArray):Bool :=
 match op with
 | .eql => x.toList == y.toList
 | .neq => !(x.toList == y.toList)
 | .lss => Op.bytesLess x.toList y.toList
 | .leq => Op.bytesLess x.toList y.toList || x.toList == y.toList
 | .gtr => !(Op.bytesLess x.toList y.toList || x.toList == y.toList)
 | .geq => !(Op.bytesLess x.toList y.toList)
 | _ => false
def cmpB (op:BinOp) (a b:Bool):Bool:=match op with
 | .neq => a != b
 | _ => a == b
def catS (a b:ByteArray):ByteArray:=a++b
def notB (b:Bool):Bool:=!b
def andB (a b:Bool):Bool:=a && b
def negI (k:IntKind) (n:Int):Int:=k.wrap (0 - n)
def wrapI (k:IntKind) (n:Int):Int:=k.wrap n
def lenR (rows:List (List CV)):Int:=rows.length
def lenS (s:ByteArray):Int:=s.size
def appR (a b:List (List CV)):List (List CV):=a++b
def Z7g (s:ByteArray):List (List CV):=s.data.toList.map fun b => [.int .u8 b.toNat]
def eqFld (P:Program) (R:TypeId→List Sh→Bool):List Field→Nat→List Sh→Bool
 | [],_,[] => true
 | f :: fs, off, sh => f.name != "_" && f.offset == off && match P.info? f.type with
  | some i => decide (i.size≤sh.length) && R f.type (sh.take i.size) && eqFld P R fs (off + i.size) (sh.drop i.size)
  | none => false
 | _,_,_ => false
def eqTy (P:Program):Nat→TypeId→List Sh→Bool
 | 0,_,_ => false
 | d + 1,t,sh => match P.underlying t,sh with
  | some .bool,[.bool] => true
  | some (.int k),[.int k'] => k == k'
  | some .string,[.str] => true
  | some (.struct fs),sh => !P.stoodInHeld t && (match P.info? t with
   | some i => i.size == sh.length
   | none => false) && eqFld P (eqTy P d) fs.toList 0 sh
  | _,_ => false
def isStr (P:Program) (t:TypeId):Bool:=match P.underlying t with
 | some (.struct _) => true
 | _ => false
def isIfc (P:Program) (t:TypeId):Bool:=match P.underlying t with
 | some (.interface _) => true
 | _ => false
def Z3Z:List Sh→List AV→Bool
 | [],[] => true
 | s::sh,.c v::cs => shB s v.sh && Z3Z sh cs
 | _,_ => false
def drawOk (ops:Array Oper):Bool :=
 let ms:=masks ops.toList []
 (List.range ops.size).all fun i => match ops[i]? with
  | none => false
  | some oi => (oi.after.toList.all fun e => !Region.binds .any e || decide (e.on < i)) && (match oi.op with
    | .select .. => false
    | _ => true) &&
   (match oi.guard with
    | some (g,_) => (ms.getD i 0).testBit g
    | none => true) &&
   (List.range i).all fun j => match ops[j]? with
    | none => false
    | some oj => (ms.getD i 0).testBit j || oj.apart ops oi
def Weak (s t:St):Prop:=∀ T w0 gp obp g w a,Inv T w0 gp obp g w a s→∃ g',Inv T w0 gp obp g' w a t
def loopSem (step:St→(Ex→St→Prop)→Prop) (s:St) (Q:Ex→St→Prop):Prop :=
 ∃ (I:Nat→St→Prop) (n:Nat),(∃ t,Weak s t∧I n t)∧∀ n t,I n t→step t fun e s' => match e with
  | .normal => ∃ m,m < n∧∃ t',Weak s' t'∧I m t'
  | e => Q e s'
@[reducible] def F0 (P:Program) (T:TBs):Hd where
 no:=False
 branch b p q:=(b = true→p)∧(b = false→q)
 idx i n K:=(0≤i∧i < n)∧K
 cutB l h n K:=(0≤l∧l≤h∧h≤n)∧K
 room n m b K:=((n + m) * b≤140737488355328∧n + m≤4611686018427387904)∧K
 catB a b K:=a.size + b.size≤9223372036854775807∧K
 nz n K:=n≠0∧K
 nn n K:=0≤n∧K
 eqn n m K:=n = m∧K
 roomM n b K:=(n * b≤281474976710656∧n≤4611686018427387904)∧K
 cmpT t sh a b K:=(eqTy P 20 t sh = true∧P.eqGuardType P.depth t = false∧isStr P t = true∧Z3Z sh a = true∧Z3Z sh b = true)∧K
 isI t K:=isIfc P t = true∧K
 call f as ins K:=∃ r news outs,Con P T f as ins r news outs∧K r news outs
 loop step s Q:=loopSem step s Q
 drawn ops K:=(P.follows .mixedOrders = true∧drawOk ops = true)∧K
 int2:=int2
 cmpI:=cmpI
 cmpS:=cmpS
 cmpB:=cmpB
 cat:=catS
 not:=notB
 and:=andB
 neg:=negI
 wrap:=wrapI
 max:=maxI
 min:=minI
 len:=lenR
 slen:=lenS
 gI:=gI
 gB:=gB
 gS:=gS
 gR:=gR
 byteAt:=byteAt
 sub:=subS
 app:=appR
 cut:=cutR
 strOf:=strOf
 setR:=setR
 mkR:=mkR
 bytesOf:=Z7g
theorem Z3O {P:Program} {T:TBs} {R:Out}:∀ {c:Cont},c.sem (F0 P T) R→∃ v ch,c.sem (F0 P T) (fun v' ch' => v' = v∧ch' = ch)∧R v ch
 | .no,h => h.elim
 | .ret v ch,h => ⟨v,ch,⟨rfl,rfl⟩,h⟩
 | .branch b x y,h => by
  cases b with
  | true =>
   obtain ⟨v,ch,h1,h2⟩:=Z3O (c:=x) (h.1 rfl)
   exact ⟨v,ch,⟨fun _ => h1,fun e => by cases e⟩,h2⟩
  | false =>
   obtain ⟨v,ch,h1,h2⟩:=Z3O (c:=y) (h.2 rfl)
   exact ⟨v,ch,⟨(fun e => by cases e),fun _ => h1⟩,h2⟩
 | .idx i n k,h => let ⟨v,ch,h1,h2⟩:=Z3O (c:=k) h.2;⟨v,ch,⟨h.1,h1⟩,h2⟩
 | .cutB l m n k,h => let ⟨v,ch,h1,h2⟩:=Z3O (c:=k) h.2;⟨v,ch,⟨h.1,h1⟩,h2⟩
 | .room n m b k,h => let ⟨v,ch,h1,h2⟩:=Z3O (c:=k) h.2;⟨v,ch,⟨h.1,h1⟩,h2⟩
 | .catB a b k,h => let ⟨v,ch,h1,h2⟩:=Z3O (c:=k) h.2;⟨v,ch,⟨h.1,h1⟩,h2⟩
 | .nz n k,h => let ⟨v,ch,h1,h2⟩:=Z3O (c:=k) h.2;⟨v,ch,⟨h.1,h1⟩,h2⟩
 | .nn n k,h => let ⟨v,ch,h1,h2⟩:=Z3O (c:=k) h.2;⟨v,ch,⟨h.1,h1⟩,h2⟩
 | .eqn n m k,h => let ⟨v,ch,h1,h2⟩:=Z3O (c:=k) h.2;⟨v,ch,⟨h.1,h1⟩,h2⟩
 | .roomM n b k,h => let ⟨v,ch,h1,h2⟩:=Z3O (c:=k) h.2;⟨v,ch,⟨h.1,h1⟩,h2⟩
 | .cmpT t sh a b k,h => let ⟨v,ch,h1,h2⟩:=Z3O (c:=k) h.2;⟨v,ch,⟨h.1,h1⟩,h2⟩
 | .isI t k,h => let ⟨v,ch,h1,h2⟩:=Z3O (c:=k) h.2;⟨v,ch,⟨h.1,h1⟩,h2⟩
 | .call f as ins k,h => by
  obtain ⟨r,news,outs,hc,h⟩:=h
  obtain ⟨v,ch,h1,h2⟩:=Z3O (c:=k r news outs) h
  exact ⟨v,ch,⟨r,news,outs,hc,h1⟩,h2⟩
theorem Z8p {P:Program} {T:TBs} {R R':Out} (hR:∀ v ch,R v ch→R' v ch) {c:Cont} (h:c.sem (F0 P T) R):c.sem (F0 P T) R':=by
 induction c with
 | no => exact h
 | ret v ch => exact hR v ch h
 | branch b x y ihx ihy => exact ⟨fun e => ihx (h.1 e),fun e => ihy (h.2 e)⟩
 | idx i n k ih => exact ⟨h.1,ih h.2⟩
 | cutB l m n k ih => exact ⟨h.1,ih h.2⟩
 | room n m b k ih => exact ⟨h.1,ih h.2⟩
 | catB a b k ih => exact ⟨h.1,ih h.2⟩
 | nz n k ih => exact ⟨h.1,ih h.2⟩
 | nn n k ih => exact ⟨h.1,ih h.2⟩
 | eqn n m k ih => exact ⟨h.1,ih h.2⟩
 | roomM n b k ih => exact ⟨h.1,ih h.2⟩
 | cmpT t sh a b k ih => exact ⟨h.1,ih h.2⟩
 | isI t k ih => exact ⟨h.1,ih h.2⟩
 | call f as ins k ih => obtain ⟨r,news,outs,hc,h⟩:=h;exact ⟨r,news,outs,hc,ih r news outs h⟩
def zeroV:Sh→Value
 | .int k => .int k 0 | .bool => .bool false | .str => .string ⟨#[]⟩ | .fn => .nilFunc | .sl _ => .slice none 0 0
def zeroB:Sh→Value→Bool
 | .int k,.int j n => k == j && n == 0
 | .bool,.bool b => !b
 | .str,.string s => s.data.size == 0
 | .sl _,.slice none 0 0 => true
 | _,_ => false
theorem Zdx {s:Sh} {v:Value} (h:zeroB s v = true):v = zeroV s:=by
 unfold zeroB at h
 split at h <;> simp_all [zeroV]
 rename_i s
 rfl
def Z8v:List Sh→List Value→Bool
 | [],[] => true
 | s::x,v::y => zeroB s v && Z8v x y
 | _,_ => false
theorem zerosB_eq:∀ {l:List Sh} {vs:List Value},Z8v l vs = true→vs = l.map zeroV
 | [],[],_ => rfl
 | s::x,v::y,h => by
  simp only [Z8v,Bool.and_eq_true] at h
  rw [List.map_cons,Zdx h.1,zerosB_eq h.2]
 | [],_::_,h => by simp [Z8v] at h
 | _::_,[],h => by simp [Z8v] at h
def tkB:TK→TypeDesc→Bool
 | .bool,.bool => true
 | .int k,.int j => k == j
 | .str,.string => true
 | .slice e,.slice e' => e == e'
 | .ptr e,.pointer e' => e == e'
 | .struct fs,.struct F => F.toList.map (fun f => (f.offset,f.type)) == fs
 | _,_ => false
def tiB (P:Program) (t:TypeId) (ti:TI):Bool :=
 match P.info? t,P.underlying t with
 | some i,some d => i.size == ti.sz && i.bytes == ti.bytes && tkB ti.k d && (match ti.k with
   | .ptr _ => (ti.sh.isEmpty && ti.sz == 1) && (match i.zero with
    | some (.pointer none) => true
    | _ => false)
   | .struct fs => ti.sh.length == ti.sz && (match i.zero with
    | some (.agg cs) => Z8v ti.sh cs.toList
    | _ => false) && fs.all fun f => (P.info? f.2).isSome
   | _ => ti.sz == 1 && (match ti.sh,i.zero with
    | [s],some v => zeroB s v
    | _,_ => false))
 | _,_ => false
def Tr.allB (p:Nat→TI→Bool):Nat→Nat→Tr→Bool
 | _,_,.nil => true
 | a,b,.md _ t => t.allB p a b
 | a,b,.node v l r => (match v with
   | some ti => p b ti
   | none => true) && l.allB p (2 * a) (a + b) && r.allB p (2 * a) (2 * a + b)
theorem Tr.allB_get (p:Nat→TI→Bool):∀ (t:Tr) (a b n:Nat) (ti:TI),t.allB p a b = true→t.get n = some ti→p (a * n + b) ti = true
 | .nil,_,_,_,_,_,h => by simp [Tr.get] at h
 | .md _ t,a,b,n,ti,hb,h => Tr.allB_get p t a b n ti hb h
 | .node v l r,a,b,n,ti,hb,h => by
  simp only [Tr.allB,Bool.and_eq_true] at hb
  obtain ⟨⟨h1,h2⟩,h3⟩:=hb
  simp only [Tr.get] at h
  by_cases h0:n = 0
  ·rw [if_pos h0] at h
   subst h0;subst h
   simpa using h1
  ·rw [if_neg h0] at h
   by_cases hm:n % 2 = 1
   ·rw [if_pos hm] at h
    have:=Tr.allB_get p l _ _ _ _ h2 h
    rwa [show 2 * a * (n / 2) + (a + b) = a * n + b by
     have:n = 2 * (n / 2) + 1:=by omega
     rw [this,Nat.mul_add];rw [show (2 * (n / 2) + 1) / 2 = n / 2 by omega,Nat.mul_comm 2 a,Nat.mul_assoc];omega] at this
   ·rw [if_neg hm] at h
    have:=Tr.allB_get p r _ _ _ _ h3 h
    rwa [show 2 * a * (n / 2 - 1) + (2 * a + b) = a * n + b by
     obtain ⟨m,hm⟩:∃ m,n = 2 * (m + 1):=⟨n / 2 - 1,by omega⟩
     subst hm
     rw [show 2 * (m + 1) / 2 - 1 = m by omega,Nat.mul_comm 2 a,Nat.mul_assoc,Nat.mul_add 2 m 1,Nat.mul_add a];omega] at this
def TabOk (P:Program) (tab:Tr):Prop:=∀ t ti,tab.get t = some ti→tiB P t ti = true
theorem TabOk.of {P:Program} {tab:Tr} (h:tab.allB (tiB P) 1 0 = true):TabOk P tab:=fun t ti ht => by
 have:=Tr.allB_get _ tab 1 0 t ti h ht
 simpa using this
theorem Z5A {P:Program} {t:TypeId} {ti:TI} (h:tiB P t ti = true):∃ i,P.info? t = some i∧i.size = ti.sz∧i.bytes = ti.bytes:=by
 unfold tiB at h
 split at h
 ·rename_i i d hi hd
  simp only [Bool.and_eq_true,beq_iff_eq] at h
  exact ⟨i,hi,h.1.1.1,h.1.1.2⟩
 ·cases h
theorem ti_k {P:Program} {t:TypeId} {ti:TI} (h:tiB P t ti = true):∃ d,P.underlying t = some d∧tkB ti.k d = true:=by
 unfold tiB at h
 split at h
 ·rename_i i d hi hd
  simp only [Bool.and_eq_true] at h
  exact ⟨d,hd,h.1.2⟩
 ·cases h
theorem ZcT {P:Program} {t:TypeId} {ti:TI} (h:tiB P t ti = true) (hk:ti.k = .str):P.underlying t = some .string:=by
 obtain ⟨d,h1,h2⟩:=ti_k h
 rw [hk] at h2;unfold tkB at h2;split at h2 <;> simp_all
theorem ti_bool {P:Program} {t:TypeId} {ti:TI} (h:tiB P t ti = true) (hk:ti.k = .bool):P.underlying t = some .bool:=by
 obtain ⟨d,h1,h2⟩:=ti_k h
 rw [hk] at h2;unfold tkB at h2;split at h2 <;> simp_all
theorem ti_int {P:Program} {t:TypeId} {ti:TI} {k:IntKind} (h:tiB P t ti = true) (hk:ti.k = .int k):P.underlying t = some (.int k):=by
 obtain ⟨d,h1,h2⟩:=ti_k h
 rw [hk] at h2;unfold tkB at h2;split at h2 <;> simp_all
theorem Z5s {P:Program} {t e:TypeId} {ti:TI} (h:tiB P t ti = true) (hk:ti.k = .slice e):P.underlying t = some (.slice e):=by
 obtain ⟨d,h1,h2⟩:=ti_k h
 rw [hk] at h2;unfold tkB at h2;split at h2 <;> simp_all
theorem ti_struct {P:Program} {t:TypeId} {ti:TI} {fs:List (Nat×Nat)} (h:tiB P t ti = true) (hk:ti.k = .struct fs):∃ F,P.underlying t = some (.struct F)∧F.toList.map (fun f => (f.offset,f.type)) = fs:=by
 obtain ⟨d,h1,h2⟩:=ti_k h
 rw [hk] at h2;unfold tkB at h2;split at h2 <;> simp_all
theorem ZbO {P:Program} {t:TypeId} {ti:TI} (h:tiB P t ti = true) (hk:∀ e,ti.k≠.ptr e) :
  ti.sh.length = ti.sz∧∃ i z,P.info? t = some i∧i.size = ti.sz∧i.bytes = ti.bytes∧i.zero = some z∧z.cells.toList = ti.sh.map zeroV∧z.cells.size = ti.sz:=by
 obtain ⟨i0,hi0,hsz,hby⟩:=Z5A h
 unfold tiB at h
 split at h
 ·rename_i i d hi hd
  obtain rfl:i = i0:=Option.some.inj (hi.symm.trans hi0)
  simp only [Bool.and_eq_true] at h
  have h2:=h.2
  split at h2
  ·rename_i e he;exact absurd he (hk e)
  ·simp only [Bool.and_eq_true,beq_iff_eq] at h2
   obtain ⟨⟨hl,hz⟩,_⟩:=h2
   split at hz
   ·rename_i cs hc
    have:=zerosB_eq hz
    refine ⟨hl,i,_,hi,hsz,hby,hc,this,?_⟩
    have:=congrArg List.length this
    simpa [Value.cells,hl] using this
   ·cases hz
  ·simp only [Bool.and_eq_true,beq_iff_eq] at h2
   obtain ⟨hl,hz⟩:=h2
   split at hz
   ·rename_i s v hsh hzz
    have hv:=Zdx hz
    have hc:v.cells = #[v]:=by rw [hv];cases s <;> rfl
    refine ⟨by rw [hsh,hl];rfl,i,v,hi,hsz,hby,hzz,by rw [hc,hsh,hv];rfl,by rw [hc,hl];rfl⟩
   ·cases hz
 ·cases h
theorem tk_row {P:Program} {t:TypeId} {ti:TI} (h:tiB P t ti = true) {d:TypeDesc} (hd:P.underlying t = some d):d.isRow = true↔∃ fs,ti.k = .struct fs:=by
 obtain ⟨d',h1,h2⟩:=ti_k h
 obtain rfl:d = d':=Option.some.inj (hd.symm.trans h1)
 unfold tkB at h2
 split at h2 <;> simp_all [TypeDesc.isRow]
section
variable {P:Program} {T:TBs} {tab:Tr} {w0:World} {gp:Gh} {obp:Nat→Option Ob} {g:Gh} {w:World} {a:Act} {s:St} {o:Oper}
def Good (P:Program) (T:TBs) (w0:World) (gp:Gh) (obp:Nat→Option Ob) (w:World) (a:Act) (s:St) (o:Oper) (v:AV) (ch:List (Nat×Ob)):Prop :=
 ∀ Q,o.wp P a w (fun a' w' => ∃ g',Inv T w0 gp obp g' w' a' (s.put o.dst v ch)) Q
theorem Z51 {K:Act→World→Prop} {Q:Exit→Act→World→Prop} {v:Value} {w':World} (h:(execOp a.eval o).run P w = .ok (.value v) w') (hk:K (a.put o.dst v) w'):o.wp P a w K Q:=by
 unfold Oper.wp;rw [h];exact hk
theorem wp_skip {K:Act→World→Prop} {Q:Exit→Act→World→Prop} {w':World} (h:(execOp a.eval o).run P w = .ok .skip w') (hk:K (a.put o.dst undef) w'):o.wp P a w K Q:=by
 unfold Oper.wp;rw [h];exact hk
theorem ZG (hI:Inv T w0 gp obp g w a s) {v:Value} {av:AV} (h:(execOp a.eval o).run P w = .ok (.value v) w) (hv:Rep w g s.ob v av):Good P T w0 gp obp w a s o av [] :=
 fun _ => Z51 h ⟨g,hI.put _ hv⟩
theorem rep_tyCells {ob:Nat→Option Ob} (vs:Nat→Value):∀ (sh:List Sh) (cs:List AV),(∀ k c,cs[k]? = some c→Rep0 w g ob (vs k) c)→∀ k c,(Z36 sh cs)[k]? = some c→Rep0 w g ob (vs k) c:=by
 intro sh
 induction sh generalizing vs with
 | nil => intro cs h;simpa [Z36] using h
 | cons q sh ih =>
  intro cs h
  cases cs with
  | nil => simpa [Z36] using h
  | cons c cs =>
   have hr:=ih (fun k => vs (k + 1)) cs (fun k c hc => h (k + 1) c (by simpa using hc))
   intro k c' hk
   unfold Z36 at hk
   split at hk
   ·rename_i q' _ sh' cs' h1 h2
    simp only [List.cons.injEq] at h1 h2
    obtain ⟨rfl,rfl⟩:=h1
    obtain ⟨rfl,rfl⟩:=h2
    cases k with
    | zero => simp at hk;subst hk;show vs 0 = _;exact h 0 (.nil _) rfl
    | succ k => exact hr k c' (by simpa using hk)
   ·rename_i h1 h2
    simp only [List.cons.injEq] at h1 h2
    obtain ⟨rfl,rfl⟩:=h1
    obtain ⟨rfl,rfl⟩:=h2
    cases k with
    | zero => simp at hk;subst hk;exact h 0 _ rfl
    | succ k => exact hr k c' (by simpa using hk)
   ·rename_i x1 x2
    exact absurd rfl (x2 q sh c cs rfl)
theorem Z7f:∀ (sh:List Sh) (cs:List AV),(Z36 sh cs).length = cs.length
 | [],cs => by simp [Z36]
 | q::sh,[] => by simp [Z36]
 | q::sh,c::cs => by
  have:=Z7f sh cs
  unfold Z36
  split <;> simp_all
theorem Z4b {ob:Nat→Option Ob} {v:Value} (t:TypeId) {x:AV} (h:Rep w g ob v x):Rep w g ob v (tyFix tab t x):=by
 cases x <;> simp only [tyFix] <;> try exact h
 ·split
  ·exact h
  ·exact h
 ·split
  ·obtain ⟨vs,h1,h2,h3⟩:=h
   exact ⟨vs,h1,by rw [h2,Z7f],rep_tyCells _ _ _ h3⟩
  ·exact h
theorem good_move (hI:Inv T w0 gp obp g w a s) {x:Operand} (ho:o.op = .move x∨o.op = .assign x):Good P T w0 gp obp w a s o (tyFix tab o.type (s.eval x)) [] :=
 ZG hI (v:=a.eval x) (by rcases ho with h | h <;> simp [execOp,h]) (Z4b _ (hI.eval x))
theorem good_pick (hI:Inv T w0 gp obp g w a s) {c x y:Operand} (ho:o.op = .pick c x y) {v:AV} {ch:List (Nat×Ob)} (h:(opAct (F0 P T) tab s o).sem (F0 P T) (fun v' ch' => v' = v∧ch' = ch)):Good P T w0 gp obp w a s o v ch:=by
 unfold opAct at h
 simp only [ho] at h
 have hc:=hI.eval c
 split at h
 ·rename_i e;rw [e] at hc
  obtain ⟨rfl,rfl⟩:=h
  have hc:a.eval c = .bool true:=hc
  exact ZG hI (v:=a.eval x) (by simp [execOp,ho,hc,asBool]) (Z4b _ (hI.eval x))
 ·rename_i e;rw [e] at hc
  obtain ⟨rfl,rfl⟩:=h
  have hc:a.eval c = .bool false:=hc
  exact ZG hI (v:=a.eval y) (by simp [execOp,ho,hc,asBool]) (Z4b _ (hI.eval y))
 ·rename_i b e;rw [e] at hc
  have hc:RepC w g.G (a.eval c) (.bool b):=hc
  generalize hq:a.eval c = q at hc
  cases hc
  cases b with
  | true =>
   obtain ⟨rfl,rfl⟩:=h.1 rfl
   exact ZG hI (v:=a.eval x) (by simp [execOp,ho,hq,asBool]) (hI.eval x)
  | false =>
   obtain ⟨rfl,rfl⟩:=h.2 rfl
   exact ZG hI (v:=a.eval y) (by simp [execOp,ho,hq,asBool]) (hI.eval y)
 ·exact h.elim
theorem good_extract (hI:Inv T w0 gp obp g w a s) {x:Operand} {i:Nat} (ho:o.op = .extract x i) {v:AV} {ch:List (Nat×Ob)} (h:(opAct (F0 P T) tab s o).sem (F0 P T) (fun v' ch' => v' = v∧ch' = ch)):Good P T w0 gp obp w a s o v ch:=by
 unfold opAct at h
 simp only [ho] at h
 have hc:=hI.eval x
 split at h
 ·rename_i vs e;rw [e] at hc
  split at h
  ·rename_i u hu
   obtain ⟨rfl,rfl⟩:=h
   obtain ⟨us,h1,h2,h3⟩:=hc
   have hlt:i < us.size:=by
    have:=(List.getElem?_eq_some_iff.1 hu).1;omega
   have hg:us[i]? = some (us.getD i undef):=by simp [hlt]
   have h4:=h3 i _ hu
   generalize us.getD i undef = y at h4 hg
   exact ZG hI (v:=y) (by unfold execOp;simp only [ho,h1,Instr.extract,hg];rfl) (Z0p h4)
  ·exact h.elim
 ·exact h.elim
theorem ZdZ (hI:Inv T w0 gp obp g w a s) {x:Operand} (ho:o.op = .nilCheck x) {v:AV} {ch:List (Nat×Ob)} (h:(opAct (F0 P T) tab s o).sem (F0 P T) (fun v' ch' => v' = v∧ch' = ch)):Good P T w0 gp obp w a s o v ch:=by
 unfold opAct at h
 simp only [ho] at h
 have hc:=hI.eval x
 split at h
 ·rename_i q off e;rw [e] at hc
  split at h
  ·rename_i cs hcs
   obtain ⟨rfl,rfl⟩:=h
   have hp:=hc.2 cs hcs
   exact ZG hI (v:=a.eval x) (by simp [execOp,ho,hp]) (by rw [←e];exact hI.eval x)
  ·exact h.elim
 ·rename_i sh rows i off e;rw [e] at hc
  obtain ⟨rfl,rfl⟩:=h
  obtain ⟨_,_,b,p,val,hp,_⟩:=id hc
  exact ZG hI (v:=a.eval x) (by simp [execOp,ho,hp]) hc
 ·rename_i q i off e;rw [e] at hc
  split at h
  ·rename_i hq
   obtain ⟨rfl,rfl⟩:=h
   obtain ⟨_,b,n,c,_,hp⟩:=hc.2 _ _ _ _ hq
   exact ZG hI (v:=a.eval x) (by simp [execOp,ho,hp]) (by rw [←e];exact hI.eval x)
  ·exact h.elim
 ·exact h.elim
theorem good_unOp (hI:Inv T w0 gp obp g w a s) {u:UnOp} {t:TypeId} {x:Operand} (ho:o.op = .unOp u t x) {v:AV} {ch:List (Nat×Ob)} (h:(opAct (F0 P T) tab s o).sem (F0 P T) (fun v' ch' => v' = v∧ch' = ch)):Good P T w0 gp obp w a s o v ch:=by
 unfold opAct at h
 simp only [ho] at h
 have hc:=hI.eval x
 split at h
 ·rename_i b e;rw [e] at hc
  obtain ⟨rfl,rfl⟩:=h
  have hc:RepC w g.G (a.eval x) (.bool b):=hc
  generalize hq:a.eval x = q at hc
  cases hc
  exact ZG hI (v:=.bool !b) (by unfold execOp;simp only [ho,hq];rfl) (RepC.bool _)
 ·rename_i e;rw [e] at hc
  obtain ⟨rfl,rfl⟩:=h
  have hc:a.eval x = .bool true:=hc
  exact ZG hI (v:=.bool false) (by unfold execOp;simp only [ho,hc];rfl) rfl
 ·rename_i e;rw [e] at hc
  obtain ⟨rfl,rfl⟩:=h
  have hc:a.eval x = .bool false:=hc
  exact ZG hI (v:=.bool true) (by unfold execOp;simp only [ho,hc];rfl) rfl
 ·rename_i k n e;rw [e] at hc
  obtain ⟨rfl,rfl⟩:=h
  have hc:RepC w g.G (a.eval x) (.int k n):=hc
  generalize hq:a.eval x = q at hc
  cases hc
  exact ZG hI (v:=.int k (k.wrap (0 - n))) (by unfold execOp;simp only [ho,hq];rfl) (RepC.int _ _)
 ·exact h.elim
end
end Go.Ev
namespace Go.Ev
theorem row_lt {rows:List (List CV)} {sh:List Sh} (hsh:∀ row∈rows,row.map CV.sh = sh) {j k:Nat} {row:List CV} {cv:CV} (h1:rows[j]? = some row) (h2:row[k]? = some cv) :
  j < rows.length∧k < sh.length∧j * sh.length + k < rows.length * sh.length:=by
 have hj:=(List.getElem?_eq_some_iff.1 h1).1
 have hk:=(List.getElem?_eq_some_iff.1 h2).1
 have hr:=congrArg List.length (hsh row (List.mem_of_getElem? h1))
 simp only [List.length_map] at hr
 refine ⟨hj,by omega,?_⟩
 have:(j + 1) * sh.length≤rows.length * sh.length:=Nat.mul_le_mul_right _ hj
 rw [Nat.add_mul] at this
 omega
section
variable {P:Program} {T:TBs} {tab:Tr} {w0:World} {gp:Gh} {obp:Nat→Option Ob} {g:Gh} {w:World} {a:Act} {s:St} {o:Oper}
def RowIs (w:World) (G:Nat→Nat) (v:Value) (sh:List Sh) (rows:List (List CV)):Prop :=
 ∃ (A:Option Addr) (c b o:Nat) (val:Nat→Nat→Value),v = .slice A rows.length c∧rows.length≤c∧(∀ row∈rows,row.map CV.sh = sh)∧(rows≠[]→A = some ⟨b,o,none⟩) ∧
  ∀ j row k cv,rows[j]? = some row→row[k]? = some cv→w.cell? ⟨b,o + (j * sh.length + k),none⟩ = some (val j k)∧RepC w G (val j k) cv
theorem RepC.rowIs {G:Nat→Nat} {v:Value} {sh:List Sh} {rows:List (List CV)} (h:RepC w G v (.sl sh rows)):RowIs w G v sh rows:=by
 cases h with
 | sl A c _ _ val b o hc hsh hA hr hv => exact ⟨A,c,b,o,val,rfl,hc,hsh,hA,fun j row k cv h1 h2 => ⟨(hr j row k cv h1 h2).2,hv j row k cv h1 h2⟩⟩
theorem row_is {ob:Nat→Option Ob} {z:Bool} {x e:Nat} {sh:List Sh} {rows:List (List CV)} (h:RepOb w g ob x (.row z e sh rows)):∃ (A:Option Addr) (c q:Nat) (val:Nat→Nat→Value),g.top x = .slice A rows.length c∧rows.length≤c∧(rows≠[]→A = some ⟨q,0,none⟩∧(g.top x).ownBlock = some q) ∧
  ∀ j row k cv,rows[j]? = some row→row[k]? = some cv→w.cell? ⟨q,j * sh.length + k,none⟩ = some (val j k)∧RepC w g.G (val j k) cv:=by
 obtain ⟨cs,ho,hsh,hG,hc⟩:=h
 rcases ho.2 with ⟨h1,h2⟩ | ⟨q,cap,cur,h1,_,h3,h4,_,h6,h7⟩
 ·have hn:rows = []:=List.eq_nil_of_length_eq_zero h2
  subst hn
  exact ⟨none,0,0,fun _ _ => undef,h1,Nat.le_refl _,fun h => absurd rfl h,fun _ _ _ _ h => by simp at h⟩
 ·refine ⟨some ⟨q,0,none⟩,cap,q,fun j k => cs.getD (j * sh.length + k) undef,h1,h4,fun _ => ⟨rfl,by rw [h1];rfl⟩,fun j row k cv hj hk => ?_⟩
  obtain ⟨hlj,hlk,hlt⟩:=row_lt hsh hj hk
  obtain ⟨v,hv,hr⟩:=hc j row k cv hj hk
  have e1:cs.getD (j * sh.length + k) undef = v:=by rw [List.getD_eq_getElem?_getD,hv];rfl
  show w.cell? _ = some (cs.getD (j * sh.length + k) undef)∧RepC w g.G (cs.getD (j * sh.length + k) undef) cv
  rw [e1]
  refine ⟨?_,hr⟩
  have hq:cur[j * sh.length + k]? = some v:=by
   rw [←h7,List.getElem?_take,if_pos hlt] at hv
   simpa using hv
  simp only [World.cell?,h3]
  simpa using hq
theorem row_rowIs {ob:Nat→Option Ob} {z:Bool} {x e:Nat} {sh:List Sh} {rows:List (List CV)} (h:RepOb w g ob x (.row z e sh rows)):RowIs w g.G (g.top x) sh rows:=by
 obtain ⟨A,c,q,val,h1,h2,h3,h4⟩:=row_is h
 obtain ⟨_,_,hsh,_⟩:=h
 exact ⟨A,c,q,0,val,h1,h2,hsh,fun hn => (h3 hn).1,fun j row k cv hj hk => by rw [Nat.zero_add];exact h4 j row k cv hj hk⟩
theorem Ze1 {ob:Nat→Option Ob} {x e:Nat} {sh:List Sh} {rows:List (List CV)} (h:RepOb w g ob x (.row true e sh rows)):RepC w g.G (g.top x) (.sl sh rows):=by
 obtain ⟨A,c,q,val,h1,h2,h3,h4⟩:=row_is h
 obtain ⟨_,_,hsh,hG,_⟩:=h
 rw [h1]
 refine RepC.sl A c sh rows val q 0 h2 hsh (fun hn => (h3 hn).1) (fun j row k cv hj hk => ?_) (fun j row k cv hj hk => (h4 j row k cv hj hk).2)
 obtain ⟨hlj,hlk,hlt⟩:=row_lt hsh hj hk
 have hn:rows≠[]:=fun e => by rw [e] at hlj;simp at hlj
 refine ⟨?_,by rw [Nat.zero_add];exact (h4 j row k cv hj hk).1⟩
 rw [hG q (h3 hn).2,if_pos rfl,Nat.zero_add];exact hlt
theorem Z63 {G:Nat→Nat} (sh:List Sh):RepC w G (.slice none 0 0) (.sl sh []) :=
 RepC.sl none 0 sh [] (fun _ _ => undef) 0 0 (Nat.le_refl _) (fun _ h => by cases h) (fun h => absurd rfl h) (fun _ _ _ _ h => by simp at h) (fun _ _ _ _ h => by simp at h)
theorem ZaE (hob:∀ o x,s.ob o = some x→RepOb w g s.ob o x) {v:Value} {x:AV} {sh:List Sh} {rows:List (List CV)} (hx:rowOf s.ob x = some (sh,rows)) (h:Rep w g s.ob v x):RowIs w g.G v sh rows:=by
 unfold rowOf at hx
 split at hx
 ·simp only [Option.some.injEq,Prod.mk.injEq] at hx;obtain ⟨rfl,rfl⟩:=hx;exact RepC.rowIs h
 ·simp only [Option.some.injEq,Prod.mk.injEq] at hx;obtain ⟨rfl,rfl⟩:=hx;rw [show v = .slice none 0 0 from h];exact (Z63 _).rowIs
 ·split at hx
  ·rename_i q z e sh' rows' hq
   simp only [Option.some.injEq,Prod.mk.injEq] at hx;obtain ⟨rfl,rfl⟩:=hx
   rw [h.2 _ _ _ _ hq]
   exact row_rowIs (hob _ _ hq)
  ·cases hx
 ·cases hx
theorem rowOf_rep (hob:∀ o x,s.ob o = some x→RepOb w g s.ob o x) {v:Value} {x:AV} {sh:List Sh} {rows:List (List CV)} (hx:rowOf s.ob x = some (sh,rows)) (hn:∀ o,x = .own o→∀ z e sh rows,s.ob o = some (.row z e sh rows)→z = true) (h:Rep w g s.ob v x):RepC w g.G v (.sl sh rows):=by
 unfold rowOf at hx
 split at hx
 ·simp only [Option.some.injEq,Prod.mk.injEq] at hx;obtain ⟨rfl,rfl⟩:=hx;exact h
 ·simp only [Option.some.injEq,Prod.mk.injEq] at hx;obtain ⟨rfl,rfl⟩:=hx;rw [show v = .slice none 0 0 from h];exact Z63 _
 ·split at hx
  ·rename_i q z e sh' rows' hq
   simp only [Option.some.injEq,Prod.mk.injEq] at hx;obtain ⟨rfl,rfl⟩:=hx
   rw [h.2 _ _ _ _ hq]
   obtain rfl:=hn _ rfl _ _ _ _ hq
   exact Ze1 (hob _ _ hq)
  ·cases hx
 ·cases hx
theorem Z3o {G:Nat→Nat} {v:Value} {k:IntKind} {n:Int} (h:RepC w G v (.int k n)):v = .int k n:=by cases h;rfl
theorem Z8C {G:Nat→Nat} {v:Value} {b:Bool} (h:RepC w G v (.bool b)):v = .bool b:=by cases h;rfl
theorem Z6S {G:Nat→Nat} {v:Value} {b:ByteArray} (h:RepC w G v (.str b)):v = .string b:=by cases h;rfl
theorem ZaQ (op:BinOp) (t:TypeId) (x y:Operand) (c:Value) (hy:y = .const c) (b:Bool) (v:Value) (hv:(b = true→v = .nilIface)∧(b = false→∃ u z,v = .iface u z)) (ht:isIfc P t = true) (hop:op = .eql∨op = .neq) :
  (eqGuard op t x y v .nilIface >>= fun _ => binOp op t v .nilIface).run P w = .ok (.bool (if op = .eql then b else !b)) w:=by
 subst hy
 have hu:P.underlying t = some (.interface (P.methodsAt t)):=by
  unfold isIfc at ht
  unfold Program.methodsAt
  split at ht
  ·rename_i ms hm;rw [hm]
  ·cases ht
 cases b with
 | true =>
  obtain rfl:=hv.1 rfl
  rw [eqGuard_nil_constR]
  rcases hop with rfl | rfl
  ·rw [pure_bind,run_eql_nil_nil w t hu];rfl
  ·rw [pure_bind,run_neq_nil_nil w t hu];rfl
 | false =>
  obtain ⟨u,z,rfl⟩:=hv.2 rfl
  have hg:eqGuard op t x (.const c) (.iface u z) .nilIface = pure ():=by cases op <;> rfl
  rw [hg]
  rcases hop with rfl | rfl
  ·rw [pure_bind,run_eql_held_nil w t u z hu];rfl
  ·rw [pure_bind,run_neq_held_nil w t u z hu];rfl
theorem Z7L (op:BinOp) (t:TypeId) (x y:Operand) (k:IntKind) (m n:Int) (hsh:op = .shl∨op = .shr→False) (hnz:op = .quo∨op = .rem→n≠0) :
  (eqGuard op t x y (.int k m) (.int k n) >>= fun _ => binOp op t (.int k m) (.int k n)).run P w = .ok (match op with
   | .eql | .neq | .lss | .leq | .gtr | .geq => .bool (cmpI op m n)
   | _ => .int k (int2 op k m n)) w:=by
 cases op <;> simp only [eqGuard,Sem.run_bind,Sem.run_pure,Result.andThen_ok,binOp,ne_eq,not_true_eq_false,if_false,Op.intArith,Op.intDiv,Op.intBits,Op.intCmp,cmpI,int2] <;> first
  | rfl
  | exact (hsh (Or.inl rfl)).elim
  | exact (hsh (Or.inr rfl)).elim
  | (rw [if_neg (hnz (Or.inl rfl))];rfl)
  | (rw [if_neg (hnz (Or.inr rfl))];rfl)
theorem Z84 (op:BinOp) (t:TypeId) (x y:Operand) (k k':IntKind) (m n:Int) (hsh:op = .shl∨op = .shr) (hn:0≤n) :
  (eqGuard op t x y (.int k m) (.int k' n) >>= fun _ => binOp op t (.int k m) (.int k' n)).run P w = .ok (.int k (int2 op k m n)) w:=by
 have h0:¬ n < 0:=by omega
 rcases hsh with rfl | rfl
 ·simp only [eqGuard,Sem.run_bind,Sem.run_pure,Result.andThen_ok,binOp,Op.shift,if_neg h0,int2];rfl
 ·simp only [eqGuard,Sem.run_bind,Sem.run_pure,Result.andThen_ok,binOp,Op.shift,if_neg h0,int2];rfl
theorem run_bin_str (op:BinOp) (t:TypeId) (x y:Operand) (m n:ByteArray) (hop:op = .eql∨op = .neq∨op = .lss∨op = .leq∨op = .gtr∨op = .geq) :
  (eqGuard op t x y (.string m) (.string n) >>= fun _ => binOp op t (.string m) (.string n)).run P w = .ok (.bool (cmpS op m n)) w:=by
 rcases hop with rfl | rfl | rfl | rfl | rfl | rfl <;> simp only [eqGuard,Sem.run_bind,Sem.run_pure,Result.andThen_ok,binOp,Op.stringOp,cmpS] <;> rfl
theorem run_bin_cat (t:TypeId) (x y:Operand) (m n:ByteArray) (h:m.size + n.size≤9223372036854775807) :
  (eqGuard .add t x y (.string m) (.string n) >>= fun _ => binOp .add t (.string m) (.string n)).run P w = .ok (.string (m++n)) w:=by
 have h0:¬ (((m.size + n.size:Nat):Int) > IntKind.i64.max):=by
  have:IntKind.i64.max = 9223372036854775807:=rfl
  rw [this];omega
 simp only [eqGuard,Sem.run_bind,Sem.run_pure,Result.andThen_ok,binOp,Op.stringOp,if_neg h0];rfl
theorem Zaf (t:TypeId) (x y:Operand) (a b:Bool) (hu:P.underlying t = some .bool) :
  (eqGuard .eql t x y (.bool a) (.bool b) >>= fun _ => binOp .eql t (.bool a) (.bool b)).run P w = .ok (.bool (cmpB .eql a b)) w ∧
  (eqGuard .neq t x y (.bool a) (.bool b) >>= fun _ => binOp .neq t (.bool a) (.bool b)).run P w = .ok (.bool (cmpB .neq a b)) w:=by
 constructor <;> simp only [eqGuard,ite_self,Sem.run_bind,Sem.run_pure,Result.andThen_ok,binOp,run_equal_bool w t a b hu] <;> rfl
theorem Z6T {v:Value} {x:AV} {p:Bool} (hx:boolOf x = some p) (h:Rep w g s.ob v x):v = .bool p:=by
 unfold boolOf at hx
 split at hx
 ·obtain rfl:=Option.some.inj hx;exact Z8C h
 ·obtain rfl:=Option.some.inj hx;exact h
 ·obtain rfl:=Option.some.inj hx;exact h
 ·cases hx
theorem good_binOp0 (hI:Inv T w0 gp obp g w a s) {op:BinOp} {t t':TypeId} {x y:Operand} (ho:o.op = .binOp op t x y t') {v:AV} {ch:List (Nat×Ob)} (h:(binAct (F0 P T) op (s.eval x) (s.eval y)).sem (F0 P T) (fun v' ch' => v' = v∧ch' = ch)):Good P T w0 gp obp w a s o v ch:=by
 have hx:=hI.eval x
 have hy:=hI.eval y
 have run:∀ r:Value,(eqGuard op t x y (a.eval x) (a.eval y) >>= fun _ => binOp op t (a.eval x) (a.eval y)).run P w = .ok r w→(execOp a.eval o).run P w = .ok (.value r) w:=by
  intro r hr
  unfold execOp
  simp only [ho,Sem.run_bind,Sem.run_pure] at hr ⊢
  rw [hr];rfl
 unfold binAct at h
 split at h
 ·rename_i k m k' n ex ey
  rw [ex] at hx;rw [ey] at hy
  have hx:=Z3o hx
  have hy:=Z3o hy
  rw [hx,hy] at run
  split at h
  ·obtain ⟨h0,rfl,rfl⟩:=h
   exact ZG hI (run _ (Z84 _ t x y k k' m n (.inl rfl) h0)) (RepC.int _ _)
  ·obtain ⟨h0,rfl,rfl⟩:=h
   exact ZG hI (run _ (Z84 _ t x y k k' m n (.inr rfl) h0)) (RepC.int _ _)
  iterate 7
   split at h
   ·rename_i hk;subst hk
    obtain ⟨rfl,rfl⟩:=h
    exact ZG hI (run _ (Z7L _ t x y k m n (by simp) (by simp))) (RepC.int _ _)
   ·exact h.elim
  iterate 2
   split at h
   ·rename_i hk;subst hk
    obtain ⟨h0,rfl,rfl⟩:=h
    exact ZG hI (run _ (Z7L _ t x y k m n (by simp) (fun _ => h0))) (RepC.int _ _)
   ·exact h.elim
  split at h
  ·rename_i hk;subst hk
   obtain ⟨rfl,rfl⟩:=h
   refine ZG hI (run (.bool (cmpI op m n)) ?_) (RepC.bool _)
   rw [Z7L op t x y k m n (by rintro (rfl | rfl) <;> simp_all) (by rintro (rfl | rfl) <;> simp_all)]
   cases op <;> simp_all
  ·exact h.elim
 ·rename_i m n ex ey
  rw [ex] at hx;rw [ey] at hy
  have hx:=Z6S hx
  have hy:=Z6S hy
  rw [hx,hy] at run
  split at h
  ·obtain ⟨h0,rfl,rfl⟩:=h
   exact ZG hI (run _ (run_bin_cat t x y m n h0)) (RepC.str _)
  iterate 6
   ·obtain ⟨rfl,rfl⟩:=h
    exact ZG hI (run _ (run_bin_str _ t x y m n (by simp))) (RepC.bool _)
  ·exact h.elim
 ·exact h.elim
end
end Go.Ev
namespace Go.Ev
section
variable {P:Program} {T:TBs} {tab:Tr} {w0:World} {gp:Gh} {obp:Nat→Option Ob} {g:Gh} {w:World} {a:Act} {s:St} {o:Oper}
theorem Z5R {t:TypeId} {ti:TI} (h:tiB P t ti = true) (w:World):(sizeOf t).run P w = .ok ti.sz w:=by
 obtain ⟨i,hi,hs,_⟩:=Z5A h
 simp [sizeOf,typeInfo,hi,hs]
theorem Zcu (hT:TabOk P tab) (hI:Inv T w0 gp obp g w a s) {t:TypeId} {x:Operand} {f:Nat} (ho:o.op = .fieldAddr t x f) {v:AV} {ch:List (Nat×Ob)} (h:(opAct (F0 P T) tab s o).sem (F0 P T) (fun v' ch' => v' = v∧ch' = ch)):Good P T w0 gp obp w a s o v ch:=by
 unfold opAct at h
 simp only [ho] at h
 have hx:=hI.eval x
 split at h
 ·rename_i fs sz by_ sh htab
  obtain ⟨F,hu,hF⟩:=ti_struct (hT _ _ htab) rfl
  split at h
  ·rename_i off u hf
   split at h
   ·rename_i tu htu
    split at h
    ·exact h.elim
    ·rename_i hsz
     have hfld:∃ fl,F[f]? = some fl∧fl.offset = off∧fl.type = u:=by
      rw [←hF,List.getElem?_map,Option.map_eq_some_iff] at hf
      obtain ⟨fl,h1,h2⟩:=hf
      simp only [Prod.mk.injEq] at h2
      exact ⟨fl,by simpa using h1,h2.1,h2.2⟩
     obtain ⟨fl,hfl,rfl,rfl⟩:=hfld
     have hsz':¬ tu.sz = 0:=hsz
     have key:∀ b p,a.eval x = .pointer (some ⟨b,p,none⟩)→(execOp a.eval o).run P w = .ok (.value (.pointer (some ⟨b,p + fl.offset,none⟩))) w:=by
      intro b p hp
      unfold execOp
      simp only [ho,hp,Instr.fieldAt,Sem.run_bind,run_underlying hu,Result.andThen_ok,hfl,Instr.sureAddr,Sem.run_pure,fieldPlace,Z5R (hT _ _ htu),if_neg hsz',Addr.add_mid]
     split at h
     ·rename_i q p e;rw [e] at hx
      split at h
      ·rename_i cs hcs
       obtain ⟨rfl,rfl⟩:=h
       exact ZG hI (key _ _ (hx.2 cs hcs)) (show Rep0 w g s.ob _ (.ptr q (p + fl.offset)) from ⟨hx.1,fun _ _ => rfl⟩)
      ·exact h.elim
     ·rename_i sh' rows i p e;rw [e] at hx
      obtain ⟨rfl,rfl⟩:=h
      obtain ⟨h1,h2,b,q,val,hp,h3⟩:=hx
      exact ZG hI (key _ _ hp) (show Rep0 w g s.ob _ (.elp sh' rows i (p + fl.offset)) from ⟨h1,h2,b,q,val,by rw [Nat.add_assoc],h3⟩)
     ·rename_i q i p e;rw [e] at hx
      split at h
      ·rename_i z e' sh' rows hq
       obtain ⟨rfl,rfl⟩:=h
       obtain ⟨h1,b,n,c,h2,hp⟩:=hx.2 _ _ _ _ hq
       refine ZG hI (key _ _ hp) (show Rep0 w g s.ob _ (.elo q i (p + fl.offset)) from ⟨hx.1,fun z2 e2 sh2 rows2 hq2 => ?_⟩)
       rw [hq] at hq2;cases hq2
       exact ⟨h1,b,n,c,h2,by rw [Nat.add_assoc]⟩
      ·exact h.elim
     ·exact h.elim
   ·exact h.elim
  ·exact h.elim
 ·exact h.elim
theorem Zcx (hT:TabOk P tab) (hI:Inv T w0 gp obp g w a s) {t:TypeId} {x i:Operand} (ho:o.op = .indexAddr t x i) {v:AV} {ch:List (Nat×Ob)} (h:(opAct (F0 P T) tab s o).sem (F0 P T) (fun v' ch' => v' = v∧ch' = ch)):Good P T w0 gp obp w a s o v ch:=by
 unfold opAct at h
 simp only [ho] at h
 have hx:=hI.eval x
 have hi:=hI.eval i
 split at h
 ·rename_i e sz by_ sh' sh rows k j htab hrow ei
  have hr:=ZaE hI.obs hrow hx
  rw [ei] at hi
  have hi:=Z3o hi
  have hu:=Z5s (hT _ _ htab) rfl
  split at h
  ·rename_i te hte
   split at h
   ·rename_i hsz
    obtain ⟨⟨h0,h1⟩,rfl,rfl⟩:=h
    have h1:j < (rows.length:Int):=h1
    have hrun:∀ A c b q,a.eval x = .slice A rows.length c→(rows≠[]→A = some ⟨b,q,none⟩)→(execOp a.eval o).run P w = .ok (.value (.pointer (some ⟨b,q + j.toNat * sh.length,none⟩))) w:=by
     intro A c b q hv hA
     have hne:rows≠[]:=by intro e;subst e;simp at h1;omega
     have hA:=hA hne
     subst hA
     unfold execOp
     simp only [ho,hv,hi,Instr.indexAt,Sem.run_bind,asIntOf,Sem.run_pure,Result.andThen_ok,run_underlying hu,h0,h1,and_self,if_true,Z5R (hT _ _ hte),hsz,Addr.add_mid]
    have hlt:j.toNat < rows.length:=by omega
    have hne:rows≠[]:=by intro e;subst e;simp at h1;omega
    split
    ·rename_i q e'
     rw [e'] at hx hrow
     unfold rowOf at hrow
     simp only at hrow
     split at hrow
     ·rename_i z e2 sh2 rows2 hq
      simp only [Option.some.injEq,Prod.mk.injEq] at hrow
      obtain ⟨rfl,rfl⟩:=hrow
      obtain ⟨A,c,b,val,k1,k2,k3,k4⟩:=row_is (hI.obs _ _ hq)
      obtain rfl:=(k3 hne).1
      have hv:=(hx.2 _ _ _ _ hq).trans k1
      refine ZG hI (hrun _ c b 0 hv (fun _ => rfl)) (show Rep0 w g s.ob _ (.elo q j 0) from ⟨hx.1,fun z3 e3 sh3 rows3 hq3 => ?_⟩)
      rw [hq] at hq3;cases hq3
      exact ⟨⟨h0,h1⟩,b,rows2.length,c,k1,by simp⟩
     ·cases hrow
    ·rename_i hno
     have hr:=rowOf_rep hI.obs hrow (fun q e => absurd e (hno q)) hx
     generalize hv:a.eval x = v at hr
     cases hr with
     | sl A c _ _ val b q hc hsh hA hr hrv =>
      refine ZG hI (hrun A c b q hv hA) (show Rep0 w g s.ob _ (.elp sh rows j 0) from ⟨⟨h0,h1⟩,hsh,b,q + j.toNat * sh.length,fun k => val j.toNat k,by simp,fun k cv hk => ?_⟩)
      have hj:rows[j.toNat]? = some (rows.getD j.toNat []):=by simp [hlt]
      have:=hr j.toNat _ k cv hj hk
      exact ⟨by rw [Nat.add_assoc];exact this,hrv j.toNat _ k cv hj hk⟩
   ·exact h.elim
  ·exact h.elim
 ·exact h.elim
theorem good_index (hT:TabOk P tab) (hI:Inv T w0 gp obp g w a s) {t:TypeId} {x i:Operand} (ho:o.op = .index t x i) {v:AV} {ch:List (Nat×Ob)} (h:(opAct (F0 P T) tab s o).sem (F0 P T) (fun v' ch' => v' = v∧ch' = ch)):Good P T w0 gp obp w a s o v ch:=by
 unfold opAct at h
 simp only [ho] at h
 have hx:=hI.eval x
 have hi:=hI.eval i
 split at h
 ·rename_i sz by_ sh' b k j htab ex ei
  rw [ex] at hx;rw [ei] at hi
  have hx:=Z6S hx
  have hi:=Z3o hi
  have hu:=ZcT (hT _ _ htab) rfl
  obtain ⟨⟨h0,h1⟩,rfl,rfl⟩:=h
  have h1:j < (b.size:Int):=h1
  have hlt:j.toNat < b.data.size:=by have:b.size = b.data.size:=rfl;omega
  have hb:b[j.toNat]? = some (b.data[j.toNat]'hlt):=by
   show (if h:j.toNat < b.size then some b[j.toNat] else none) = _
   rw [dif_pos (show j.toNat < b.size from hlt)];rfl
  have hd:((b.data[j.toNat]?).getD 0).toNat = (b.data[j.toNat]'hlt).toNat:=by rw [Array.getElem?_eq_getElem hlt];rfl
  refine ZG hI (v:=.int .u8 ((b.data[j.toNat]?).getD 0).toNat) ?_ (RepC.int _ _)
  unfold execOp
  simp only [ho,hx,hi,Instr.index,Sem.run_bind,asIntOf,Sem.run_pure,Result.andThen_ok,run_underlying hu,h0,if_true,hb,hd]
 ·exact h.elim
theorem Zbh (rows:List (List CV)) (ns:List Int) (h:rows = ns.map fun n => [.int .u8 n]):strOf rows = ns.foldl (fun r n => r.push (UInt8.ofNat n.toNat)) ByteArray.empty:=by
 subst h
 unfold strOf
 rw [List.foldl_map]
theorem bytes_rows {G:Nat→Nat} {rows:List (List CV)} {sh:List Sh} (hs:shsB sh [.int .u8] = true) (h:∀ row∈rows,row.map CV.sh = sh):∃ ns:List Int,rows = ns.map fun n => [.int .u8 n]:=by
 have hsh:sh = [.int .u8]:=by
  unfold shsB at hs
  split at hs <;> simp_all
  rename_i h1 h2
  obtain ⟨h3,h4⟩:=hs
  unfold shB at h3
  split at h3 <;> simp_all
  unfold shsB at h4
  split at h4 <;> simp_all
 subst hsh
 induction rows with
 | nil => exact ⟨[],rfl⟩
 | cons r rows ih =>
  obtain ⟨ns,rfl⟩:=ih (fun row hr => h row (List.mem_cons_of_mem _ hr))
  have hr:=h r List.mem_cons_self
  match r,hr with
  | [.int k n],hr =>
   simp only [List.map_cons,List.map_nil,CV.sh,List.cons.injEq,Sh.int.injEq,and_true] at hr
   subst hr
   exact ⟨n::ns,rfl⟩
theorem good_convert (hT:TabOk P tab) (hI:Inv T w0 gp obp g w a s) {t t':TypeId} {x:Operand} (ho:o.op = .convert t t' x) {v:AV} {ch:List (Nat×Ob)} (h:(opAct (F0 P T) tab s o).sem (F0 P T) (fun v' ch' => v' = v∧ch' = ch)):Good P T w0 gp obp w a s o v ch:=by
 unfold opAct at h
 simp only [ho] at h
 have hx:=hI.eval x
 split at h
 ·rename_i kk n ti k sz by_ sh ex htab htab'
  rw [ex] at hx
  have hx:=Z3o hx
  obtain ⟨d,hd,_⟩:=ti_k (hT _ _ htab)
  have hu:=ti_int (hT _ _ htab') rfl
  obtain ⟨rfl,rfl⟩:=h
  refine ZG hI (v:=.int k (k.wrap n)) ?_ (RepC.int _ _)
  unfold execOp
  simp only [ho,hx,convert,Sem.run_bind,run_underlying hd,run_underlying hu,Result.andThen_ok,Conv.intToInt,Sem.run_pure]
 ·rename_i b ti sz by_ sh ex htab htab'
  rw [ex] at hx
  have hx:=Z6S hx
  obtain ⟨d,hd,_⟩:=ti_k (hT _ _ htab)
  have hu:=ZcT (hT _ _ htab') rfl
  obtain ⟨rfl,rfl⟩:=h
  refine ZG hI (v:=.string b) ?_ (RepC.str _)
  unfold execOp
  simp only [ho,hx,convert,Sem.run_bind,run_underlying hd,run_underlying hu,Result.andThen_ok,Sem.run_pure]
 ·rename_i e sz by_ sh sz' by' sh' htab htab' _
  have hd:=Z5s (hT _ _ htab) rfl
  have hu:=ZcT (hT _ _ htab') rfl
  split at h
  ·rename_i sz2 by2 sh2 shr rows hte hrow
   split at h
   ·rename_i hsh
    obtain ⟨rfl,rfl⟩:=h
    have he:=ti_int (hT _ _ hte) rfl
    have hr:=ZaE hI.obs hrow hx
    refine ZG hI (v:=.string (strOf rows)) ?_ (RepC.str _)
    obtain ⟨A,c,b,q,val,hv,hc,hshr,hA,hrd'⟩:=hr
    have hrd:=fun j row k cv h1 h2 => (hrd' j row k cv h1 h2).1
    have hrv:=fun j row k cv h1 h2 => (hrd' j row k cv h1 h2).2
    have hcv:True:=trivial
    ·obtain ⟨ns,hns⟩:=bytes_rows (G:=g.G) hsh hshr
     have hsl:shr.length = 1∨rows = []:=by
      cases ns with
      | nil => exact .inr hns
      | cons n ns => left;rw [←hshr ([.int .u8 n]) (by rw [hns];simp)];rfl
     unfold execOp
     simp only [ho,hv,convert,Sem.run_bind,run_underlying hd,run_underlying hu,Result.andThen_ok,run_underlying he]
     rw [Zbh rows ns hns]
     by_cases hne:rows = []
     ·rw [hne] at hns
      have hns0:ns = []:=by cases ns with
       | nil => rfl
       | cons _ _ => simp at hns
      subst hns0
      cases A with
      | none => simp [Conv.bytesToString]
      | some ad => simp [Conv.bytesToString,hne,loadCells,loadCellsFrom]
     ·have hA:=hA hne
      subst hA
      have hlen:rows.length = ns.length:=by rw [hns];simp
      have hl:(loadCells ⟨b,q,none⟩ rows.length).run P w = .ok (ns.map (Value.int .u8)).toArray w:=by
       have:=run_loadCells_list (P:=P) w ⟨b,q,none⟩ (ns.map (Value.int .u8)) (fun j v hv => by
        rw [Addr.add_mid]
        simp only [List.getElem?_map,Option.map_eq_some_iff] at hv
        obtain ⟨n,hn,rfl⟩:=hv
        have h1:rows[j]? = some [.int .u8 n]:=by rw [hns];simp [hn]
        have h2:=hrd j _ 0 _ h1 rfl
        have h3:=Z3o (hrv j _ 0 _ h1 rfl)
        rcases hsl with hsl | hsl
        ·rw [hsl,Nat.mul_one,Nat.add_zero] at h2
         rw [h2,h3]
        ·exact absurd hsl hne)
       rw [List.length_map,←hlen] at this
       exact this
      rw [run_bytesToString w ⟨b,q,none⟩ rows.length c ns hl]
      rfl
   ·exact h.elim
  ·exact h.elim
 ·exact h.elim
end
end Go.Ev
namespace Go.Ev
section
variable {P:Program} {T:TBs} {tab:Tr} {w0:World} {gp:Gh} {obp:Nat→Option Ob} {g:Gh} {w:World} {a:Act} {s:St} {o:Oper}
theorem Z5p {t:TypeId} {d:TypeDesc} (hu:P.underlying t = some d) (hd:d.isRow = false) {b p:Nat} {v:Value} (hc:w.cell? ⟨b,p,none⟩ = some v) :
  (Instr.loadAt t (.pointer (some ⟨b,p,none⟩))).run P w = .ok v w:=by
 have hagg:(isAgg t).run P w = .ok false w:=by
  unfold isAgg
  rw [Sem.run_bind,run_underlying hu w]
  cases d <;> simp_all [TypeDesc.isRow]
 simp [Instr.loadAt,Instr.sureAddr,loadVar,Sem.run_bind,hagg,hc]
theorem Z74 {G:Nat→Nat} {ob:Nat→Option Ob} {g:Gh} (hG:g.G = G) {sh:List Sh} {rows:List (List CV)} {i:Int} {k:Nat} {cv:CV} (hsh:(rows.getD i.toNat []).map CV.sh = sh) (hk:(rows.getD i.toNat [])[k]? = some cv) {v:Value} (hv:RepC w G v cv) :
  Rep0 w g ob v (Zdg (F0 P T) sh rows i k):=by
 subst hG
 have h1:sh[k]? = some cv.sh:=by rw [←hsh,List.getElem?_map,hk];rfl
 have h2:gC rows i k = cv:=by unfold gC;rw [hk];rfl
 unfold Zdg
 rw [h1]
 cases cv with
 | int q n => show RepC w g.G v (.int q (match gC rows i k with
   | .int _ n => n
   | _ => 0));rw [h2];exact hv
 | bool b => show RepC w g.G v (.bool (match gC rows i k with
   | .bool b => b
   | _ => false));rw [h2];exact hv
 | str b => show RepC w g.G v (.str (match gC rows i k with
   | .str b => b
   | _ => ByteArray.empty));rw [h2];exact hv
 | fn f => trivial
 | sl s r => show RepC w g.G v (.sl s (match gC rows i k with
   | .sl _ r => r
   | _ => []));rw [h2];exact hv
theorem Z7z (F:Hd) (sh:List Sh) (rows:List (List CV)) (i:Int):∀ (n k j:Nat) (c:AV),(Z6v F sh rows i k n)[j]? = some c→j < n∧c = Zdg F sh rows i (k + j)
 | 0,_,_,_,h => by simp [Z6v] at h
 | n + 1,k,j,c,h => by
  unfold Z6v at h
  cases j with
  | zero => simp at h;exact ⟨Nat.succ_pos _,h.symm⟩
  | succ j =>
   obtain ⟨h1,h2⟩:=Z7z F sh rows i n (k + 1) j c (by simpa using h)
   exact ⟨by omega,by rw [h2];congr 1;omega⟩
theorem Z5y (F:Hd) (sh:List Sh) (rows:List (List CV)) (i:Int):∀ (n k:Nat),(Z6v F sh rows i k n).length = n
 | 0,_ => rfl
 | n + 1,k => by unfold Z6v;rw [List.length_cons,Z5y F sh rows i n]
theorem good_load (hT:TabOk P tab) (hI:Inv T w0 gp obp g w a s) {t:TypeId} {x:Operand} (ho:o.op = .load t x) {v:AV} {ch:List (Nat×Ob)} (h:(opAct (F0 P T) tab s o).sem (F0 P T) (fun v' ch' => v' = v∧ch' = ch)):Good P T w0 gp obp w a s o v ch:=by
 have ex:∀ r:Value,(Instr.loadAt t (a.eval x)).run P w = .ok r w→(execOp a.eval o).run P w = .ok (.value r) w:=by
  intro r hr
  unfold execOp
  simp only [ho,Sem.run_bind,hr,Result.andThen_ok,Sem.run_pure]
 unfold opAct at h
 simp only [ho] at h
 have hx:=hI.eval x
 split at h
 ·rename_i q off ti e htab
  rw [e] at hx
  have hti:=hT _ _ htab
  obtain ⟨i,hi,hsz,_⟩:=Z5A hti
  obtain ⟨d,hd,_⟩:=ti_k hti
  have hrow:=tk_row hti hd
  split at h
  ·rename_i cs fs hob hk
   split at h
   ·rename_i hle
    obtain ⟨rfl,rfl⟩:=h
    have hp:=hx.2 cs hob
    obtain ⟨vs,el,hh,hl,hc,_⟩:=hI.obs _ _ hob
    have hlen:((vs.toList.drop off).take ti.sz).length = ti.sz:=by rw [List.length_take,List.length_drop];simp;omega
    have hr:=run_loadAt_mid (P:=P) w (g.blk q) off t ((vs.toList.drop off).take ti.sz) d (fun j u hj => by
      rw [List.getElem?_take] at hj
      split at hj
      ·rw [List.getElem?_drop] at hj
       simp only [World.cell?,hh]
       simpa using hj
      ·cases hj) hd (hrow.2 ⟨fs,hk⟩) (by rw [hi,hlen];simp [hsz])
    rw [←hp] at hr
    refine ZG hI (ex _ hr) (show Rep1 w g s.ob _ (.agg _) from ⟨_,rfl,by simp;omega,fun k c hk' => ?_⟩)
    rw [List.getElem?_take] at hk'
    split at hk'
    ·rename_i hlt
     rw [List.getElem?_drop] at hk'
     have:=(hc _ _ hk').1
     have hg:((vs.toList.drop off).take ti.sz).toArray.getD k undef = vs.getD (off + k) undef:=by
      simp only [Array.getD_eq_getD_getElem?,List.getElem?_toArray,List.getElem?_take,hlt,if_true,List.getElem?_drop]
      simp
     rw [hg];exact this
    ·cases hk'
   ·exact h.elim
  ·rename_i k cs hob hnk
   split at h
   ·rename_i u hu
    obtain ⟨rfl,rfl⟩:=h
    have hp:=hx.2 cs hob
    obtain ⟨vs,el,hh,hl,hc,_⟩:=hI.obs _ _ hob
    have hlt:off < vs.size:=by have:=(List.getElem?_eq_some_iff.1 hu).1;omega
    have hdr:d.isRow = false:=by
     cases hq:d.isRow with
     | false => rfl
     | true => obtain ⟨fs,hf⟩:=hrow.1 hq;exact absurd hf (hnk fs)
    have hr:=Z5p (P:=P) (w:=w) hd hdr (b:=g.blk q) (p:=off) (v:=vs.getD off undef) (by simp only [World.cell?,hh];simp [hlt])
    rw [←hp] at hr
    exact ZG hI (ex _ hr) (Z0S (hc _ _ hu).1)
   ·exact h.elim
  ·exact h.elim
 ·rename_i sh rows i off ti e htab
  rw [e] at hx
  have hti:=hT _ _ htab
  obtain ⟨ii,hi,hsz,_⟩:=Z5A hti
  obtain ⟨d,hd,_⟩:=ti_k hti
  have hrow:=tk_row hti hd
  obtain ⟨⟨h0,h1⟩,hsh,b,p,val,hp,hc⟩:=hx
  have hlt:i.toNat < rows.length:=by omega
  have hmem:rows.getD i.toNat []∈rows:=by
   rw [List.getD_eq_getElem?_getD,List.getElem?_eq_getElem hlt];exact List.getElem_mem hlt
  have hrl:=hsh _ hmem
  have hrlen:(rows.getD i.toNat []).length = sh.length:=by have:=congrArg List.length hrl;simpa using this
  have cellk:∀ k,k < sh.length→∃ cv,(rows.getD i.toNat [])[k]? = some cv:=fun k hk => ⟨_,List.getElem?_eq_getElem (by rw [hrlen];exact hk)⟩
  split at h
  ·rename_i fs hk
   split at h
   ·rename_i hle
    obtain ⟨rfl,rfl⟩:=h
    have hr:=run_loadAt_mid (P:=P) w b (p + off) t ((List.range ti.sz).map fun k => val (off + k)) d (fun j u hj => by
      simp only [List.getElem?_map,Option.map_eq_some_iff] at hj
      obtain ⟨j',hj',rfl⟩:=hj
      have:j < ti.sz∧j = j':=by
       rw [List.getElem?_eq_some_iff] at hj'
       obtain ⟨h1,h2⟩:=hj'
       simp at h1 h2
       exact ⟨h1,h2⟩
      obtain ⟨hjl,rfl⟩:=this
      obtain ⟨cv,hcv⟩:=cellk (off + j) (by omega)
      rw [Nat.add_assoc];exact (hc _ cv hcv).1.2) hd (hrow.2 ⟨fs,hk⟩) (by simp [hi,hsz])
    rw [←hp] at hr
    refine ZG hI (ex _ hr) (show Rep1 w g s.ob _ (.agg _) from ⟨_,rfl,by simp [Z5y],fun k c hk' => ?_⟩)
    obtain ⟨hkl,rfl⟩:=Z7z _ _ _ _ _ _ _ _ hk'
    obtain ⟨cv,hcv⟩:=cellk (off + k) (by omega)
    have hg:((List.range ti.sz).map fun k => val (off + k)).toArray.getD k undef = val (off + k):=by simp [hkl]
    rw [hg]
    exact Z74 rfl hrl hcv (hc _ cv hcv).2
   ·exact h.elim
  ·rename_i k hnk
   split at h
   ·rename_i hlt'
    obtain ⟨rfl,rfl⟩:=h
    obtain ⟨cv,hcv⟩:=cellk off hlt'
    have hdr:d.isRow = false:=by
     cases hq:d.isRow with
     | false => rfl
     | true => obtain ⟨fs,hf⟩:=hrow.1 hq;exact absurd hf (hnk fs)
    have hr:=Z5p (P:=P) (w:=w) hd hdr (hc _ cv hcv).1.2
    rw [←hp] at hr
    exact ZG hI (ex _ hr) (Z0S (Z74 rfl hrl hcv (hc _ cv hcv).2))
   ·exact h.elim
 ·rename_i q i off ti e htab
  rw [e] at hx
  have hti:=hT _ _ htab
  obtain ⟨ii,hi,hsz,_⟩:=Z5A hti
  obtain ⟨d,hd,_⟩:=ti_k hti
  have hrow:=tk_row hti hd
  have key:∀ z el sh rows,s.ob q = some (.row z el sh rows)→∃ (b:Nat) (val:Nat→Value),a.eval x = .pointer (some ⟨b,i.toNat * sh.length + off,none⟩)∧(rows.getD i.toNat []).map CV.sh = sh ∧
    ∀ k,k < sh.length→∃ cv,(rows.getD i.toNat [])[k]? = some cv∧w.cell? ⟨b,i.toNat * sh.length + k,none⟩ = some (val k)∧RepC w g.G (val k) cv:=by
   intro z el sh rows hq
   obtain ⟨⟨h0,h1⟩,b,n,c,htop,hp⟩:=hx.2 _ _ _ _ hq
   obtain ⟨A,c',b',val,k1,k2,k3,k4⟩:=row_is (hI.obs _ _ hq)
   obtain ⟨_,_,hsh,_⟩:=hI.obs _ _ hq
   have hlt:i.toNat < rows.length:=by omega
   have hne:rows≠[]:=by intro e;subst e;simp at hlt
   have hb:b' = b:=by
    have e1:=htop.symm.trans k1
    rw [(k3 hne).1] at e1
    simp only [Value.slice.injEq,Option.some.injEq,Addr.mk.injEq] at e1
    exact e1.1.1.symm
   subst hb
   have hj:rows[i.toNat]? = some (rows.getD i.toNat []):=by simp [hlt]
   have hrl:=hsh _ (List.mem_of_getElem? hj)
   have hrlen:(rows.getD i.toNat []).length = sh.length:=by have:=congrArg List.length hrl;simpa using this
   refine ⟨b',val i.toNat,hp,hrl,fun k hk => ⟨_,List.getElem?_eq_getElem (by rw [hrlen];exact hk),?_⟩⟩
   exact k4 _ _ k _ hj (List.getElem?_eq_getElem (by rw [hrlen];exact hk))
  split at h
  ·rename_i z el sh rows fs hq hk
   split at h
   ·rename_i hle
    obtain ⟨rfl,rfl⟩:=h
    obtain ⟨b,val,hp,hrl,hc⟩:=key _ _ _ _ hq
    have hr:=run_loadAt_mid (P:=P) w b (i.toNat * sh.length + off) t ((List.range ti.sz).map fun k => val (off + k)) d (fun j u hj => by
      simp only [List.getElem?_map,Option.map_eq_some_iff] at hj
      obtain ⟨j',hj',rfl⟩:=hj
      have:j < ti.sz∧j = j':=by
       rw [List.getElem?_eq_some_iff] at hj'
       obtain ⟨h1,h2⟩:=hj'
       simp at h1 h2
       exact ⟨h1,h2⟩
      obtain ⟨hjl,rfl⟩:=this
      obtain ⟨cv,_,h2,_⟩:=hc (off + j) (by omega)
      rw [Nat.add_assoc];exact h2) hd (hrow.2 ⟨fs,hk⟩) (by simp [hi,hsz])
    rw [←hp] at hr
    refine ZG hI (ex _ hr) (show Rep1 w g s.ob _ (.agg _) from ⟨_,rfl,by simp [Z5y],fun k c hk' => ?_⟩)
    obtain ⟨hkl,rfl⟩:=Z7z _ _ _ _ _ _ _ _ hk'
    obtain ⟨cv,hcv,_,hr3⟩:=hc (off + k) (by omega)
    have hg:((List.range ti.sz).map fun k => val (off + k)).toArray.getD k undef = val (off + k):=by simp [hkl]
    rw [hg]
    exact Z74 rfl hrl hcv hr3
   ·exact h.elim
  ·rename_i k z el sh rows hq hnk
   split at h
   ·rename_i hlt'
    obtain ⟨rfl,rfl⟩:=h
    obtain ⟨b,val,hp,hrl,hc⟩:=key _ _ _ _ hq
    obtain ⟨cv,hcv,h2,h3⟩:=hc off hlt'
    have hdr:d.isRow = false:=by
     cases hq:d.isRow with
     | false => rfl
     | true => obtain ⟨fs,hf⟩:=hrow.1 hq;exact absurd hf (hnk fs)
    have hr:=Z5p (P:=P) (w:=w) hd hdr h2
    rw [←hp] at hr
    exact ZG hI (ex _ hr) (Z0S (Z74 rfl hrl hcv h3))
   ·exact h.elim
  ·exact h.elim
 ·exact h.elim
theorem ZaI {l:List Operand} {f:Operand→AV} {x y:AV} (h:l.map f = [x,y]):∃ p q,l = [p,q]∧f p = x∧f q = y:=by
 match l,h with
 | [p,q],h => simp at h;exact ⟨p,q,rfl,h.1,h.2⟩
theorem args_one {l:List Operand} {f:Operand→AV} {x:AV} (h:l.map f = [x]):∃ p,l = [p]∧f p = x:=by
 match l,h with
 | [p],h => simp at h;exact ⟨p,rfl,h⟩
theorem Za4 {α:Type} {x:Array α} {l:List α} (h:x.toList = l):x = l.toArray:=by rw [←h]
theorem good_len (hT:TabOk P tab) (hI:Inv T w0 gp obp g w a s) {c:Call} (ho:o.op = .call c) (hc:c.callee = .builtin .len) {v:AV} {ch:List (Nat×Ob)} (h:(opAct (F0 P T) tab s o).sem (F0 P T) (fun v' ch' => v' = v∧ch' = ch)):Good P T w0 gp obp w a s o v ch:=by
 unfold opAct at h
 simp only [ho,hc] at h
 split at h
 ·rename_i u t hargs htys
  obtain ⟨q,hq,rfl⟩:=args_one hargs
  have hx:=hI.eval q
  have ex:∀ r:Value,(Builtin.len_ #[t] o.type #[a.eval q]).run P w = .ok r w→(execOp a.eval o).run P w = .ok (.value r) w:=by
   intro r hr
   unfold execOp
   simp only [ho,resolve,hc,Sem.run_bind,Sem.run_pure,Result.andThen_ok,invoke,builtin,Za4 hq,Za4 htys]
   simp only [List.map_toArray,List.map_cons,List.map_nil,hr,Result.andThen_ok]
  split at h
  ·rename_i sz by_ sh b htab e
   rw [e] at hx
   have hx:=Z6S hx
   obtain ⟨rfl,rfl⟩:=h
   refine ZG hI (v:=.int .i64 b.size) (ex _ ?_) (RepC.int _ _)
   rw [hx]
   simp only [Builtin.len_,Sem.run_bind,Array.getElem?_eq_getElem,List.size_toArray,List.getElem?_toArray,List.getElem?_cons_zero,run_underlying (ZcT (hT _ _ htab) rfl),Result.andThen_ok,Sem.run_pure]
   rfl
  ·rename_i e sz by_ sh htab
   split at h
   ·rename_i sh' rows hrow
    obtain ⟨rfl,rfl⟩:=h
    obtain ⟨A,c',_,_,_,hv,_⟩:=ZaE hI.obs hrow hx
    refine ZG hI (v:=.int .i64 rows.length) (ex _ ?_) (RepC.int _ _)
    rw [hv]
    simp only [Builtin.len_,Sem.run_bind,List.getElem?_toArray,List.getElem?_cons_zero,run_underlying (Z5s (hT _ _ htab) rfl),Result.andThen_ok,Sem.run_pure]
    rfl
   ·exact h.elim
  ·exact h.elim
 ·exact h.elim
theorem good_max (hI:Inv T w0 gp obp g w a s) {c:Call} (ho:o.op = .call c) (hc:c.callee = .builtin .max) {v:AV} {ch:List (Nat×Ob)} (h:(opAct (F0 P T) tab s o).sem (F0 P T) (fun v' ch' => v' = v∧ch' = ch)):Good P T w0 gp obp w a s o v ch:=by
 unfold opAct at h
 simp only [ho,hc] at h
 split at h
 ·rename_i k m k' n hargs
  obtain ⟨p,q,hq,ep,eq⟩:=ZaI hargs
  have hp:=hI.eval p
  have hq':=hI.eval q
  rw [ep] at hp;rw [eq] at hq'
  have hp:=Z3o hp
  have hq':=Z3o hq'
  split at h
  ·rename_i hk;subst hk
   obtain ⟨rfl,rfl⟩:=h
   refine ZG hI (v:=.int k (if n > m then n else m)) ?_ (RepC.int _ _)
   unfold execOp
   simp only [ho,resolve,hc,Sem.run_bind,Sem.run_pure,Result.andThen_ok,invoke,builtin,Za4 hq]
   simp only [List.map_toArray,List.map_cons,List.map_nil,hp,hq',Builtin.max_,List.foldlM,Builtin.max2,Sem.run_bind,Sem.run_pure,Result.andThen_ok]
  ·exact h.elim
 ·exact h.elim
theorem good_min (hI:Inv T w0 gp obp g w a s) {c:Call} (ho:o.op = .call c) (hc:c.callee = .builtin .min) {v:AV} {ch:List (Nat×Ob)} (h:(opAct (F0 P T) tab s o).sem (F0 P T) (fun v' ch' => v' = v∧ch' = ch)):Good P T w0 gp obp w a s o v ch:=by
 unfold opAct at h
 simp only [ho,hc] at h
 split at h
 ·rename_i k m k' n hargs
  obtain ⟨p,q,hq,ep,eq⟩:=ZaI hargs
  have hp:=hI.eval p
  have hq':=hI.eval q
  rw [ep] at hp;rw [eq] at hq'
  have hp:=Z3o hp
  have hq':=Z3o hq'
  split at h
  ·rename_i hk;subst hk
   obtain ⟨rfl,rfl⟩:=h
   refine ZG hI (v:=.int k (if n < m then n else m)) ?_ (RepC.int _ _)
   unfold execOp
   simp only [ho,resolve,hc,Sem.run_bind,Sem.run_pure,Result.andThen_ok,invoke,builtin,Za4 hq]
   simp only [List.map_toArray,List.map_cons,List.map_nil,hp,hq',Builtin.min_,List.foldlM,Builtin.min2,Sem.run_bind,Sem.run_pure,Result.andThen_ok]
  ·exact h.elim
 ·exact h.elim
end
end Go.Ev
namespace Go.Ev
section
variable {P:Program} {T:TBs} {tab:Tr} {w0:World} {gp:Gh} {obp:Nat→Option Ob} {g g':Gh} {w w':World} {a:Act} {s:St} {o:Oper}
theorem Inv.change (hI:Inv T w0 gp obp g w a s) {ch:List (Nat×Ob)} {d:Option Tmp} {v:Value} {av:AV} (he:Ext w g.G w' g'.G) (hk:Keep g s.ob g' (updCh ch s.ob)) (hv:Rep w' g' (updCh ch s.ob) v av)
  (hobs:∀ o x,updCh ch s.ob o = some x→RepOb w' g' (updCh ch s.ob) o x)
  (hinj:∀ o o' x x' b,updCh ch s.ob o = some x→updCh ch s.ob o' = some x'→obBlk g' o x = some b→obBlk g' o' x' = some b→o = o')
  (hfresh:∀ o x b,updCh ch s.ob o = some x→obBlk g' o x = some b→Bk gp obp b∨w0.heap.size≤b)
  (hgrow:Grown w0 w' (Bk gp obp)) (hold:∀ b,b < w0.heap.size→¬ Bk gp obp b→g'.G b = g.G b) (hgz:∀ b,w'.heap.size≤b→g'.G b = 0) :
  Inv T w0 gp obp g' w' (a.put d v) (s.put d av ch):=by
 have hp:=slots_put (a:=a) (w':=w') (g':=g') (ob':=updCh ch s.ob) hI.size (fun t u hu => (hI.slots t u hu).keep he hk) d hv
 exact ⟨hp.1,hp.2,(ZcI d v).trans hI.defers,hobs,hinj,hfresh,hgrow,fun b hb hn => (hold b hb hn).trans (hI.old b hb hn),hgz,hI.par,hI.keep.trans hk,hI.ext.trans he,hI.tb0,hI.pnum⟩
theorem RepOb.keep {ob ob':Nat→Option Ob} (he:Ext w g.G w' g'.G) (hk:Keep g ob g' ob') {o:Nat} {x:Ob} (h:RepOb w g ob o x) (hb:∀ b,obBlk g o x = some b→w'.heap[b]? = w.heap[b]?∧g'.G b = g.G b) (hblk:g'.blk o = g.blk o) (htop:g'.top o = g.top o):RepOb w' g' ob' o x:=by
 cases x with
 | gone => trivial
 | box cs =>
  obtain ⟨vs,e,h1,h2,h3,h4⟩:=h
  have:=hb (g.blk o) rfl
  exact ⟨vs,e,by rw [hblk,this.1];exact h1,h2,fun k c hc => ⟨(h3 k c hc).1.keep he hk,(h3 k c hc).2⟩,by rw [hblk,this.2];exact h4⟩
 | row z e sh rows =>
  obtain ⟨cs,h1,h2,h3,h4⟩:=h
  refine ⟨cs,?_,h2,fun b hbb => ?_,fun j row k cv hj hk' => ?_⟩
  ·rw [htop]
   refine ⟨h1.1,?_⟩
   rcases h1.2 with h5 | ⟨q,cap,cur,h5,h6,h7,h8⟩
   ·exact .inl h5
   ·exact .inr ⟨q,cap,cur,h5,h6,(hb q (by simp [obBlk,h5,Value.ownBlock])).1.trans h7,h8⟩
  ·rw [htop] at hbb
   rw [(hb b hbb).2];exact h3 b hbb
  ·obtain ⟨v,hv,hr⟩:=h4 j row k cv hj hk'
   exact ⟨v,hv,hr.ext he⟩
theorem ZbP (hgz:∀ b,w.heap.size≤b→g.G b = 0) (ob:Obj):Ext w g.G (w.alloc ob) g.G:=fun b p hp => ⟨hp,by
 have hb:b < w.heap.size:=by
  rcases Nat.lt_or_ge b w.heap.size with h | h
  ·exact h
  ·rw [hgz b h] at hp;omega
 unfold World.cell? World.alloc
 simp only [Array.getElem?_push,Nat.ne_of_lt hb,if_false]⟩
theorem alloc_heap (ob:Obj) {b:Nat} (hb:b < w.heap.size):(w.alloc ob).heap[b]? = w.heap[b]?:=by
 unfold World.alloc
 simp only [Array.getElem?_push,Nat.ne_of_lt hb,if_false]
theorem alloc_size (ob:Obj):(w.alloc ob).heap.size = w.heap.size + 1:=by unfold World.alloc;simp
theorem Inv.obs_lt (hI:Inv T w0 gp obp g w a s) {q:Nat} {x:Ob} {b:Nat} (hx:s.ob q = some x) (hb:obBlk g q x = some b):b < w.heap.size:=(hI.obs q x hx).lt hb
theorem Z1U (d:Nat) (x:Ob) (ob:Nat→Option Ob) (q:Nat):updCh [(d,x)] ob q = if q = d then some x else ob q:=rfl
def fset (f:Nat→Nat) (d v:Nat):Nat→Nat:=fun q => if q = d then v else f q
def vset (f:Nat→Value) (d:Nat) (v:Value):Nat→Value:=fun q => if q = d then v else f q
theorem Inv.fresh_ob (hI:Inv T w0 gp obp g w a s) {d:Nat} (hd:s.ob d = none) {x:Ob} {v:Value} {av:AV} {dst:Option Tmp} (cells:Obj) (tp:Value) (G':Nat→Nat)
  (hG:∀ b,b < w.heap.size→G' b = g.G b) (hGz:∀ b,w.heap.size < b→G' b = 0)
  (hx:RepOb (w.alloc cells) ⟨fset g.blk d w.heap.size,vset g.top d tp,G'⟩ (updCh [(d,x)] s.ob) d x)
  (hxb:obBlk ⟨fset g.blk d w.heap.size,vset g.top d tp,G'⟩ d x = some w.heap.size∨obBlk ⟨fset g.blk d w.heap.size,vset g.top d tp,G'⟩ d x = none)
  (hv:Rep (w.alloc cells) ⟨fset g.blk d w.heap.size,vset g.top d tp,G'⟩ (updCh [(d,x)] s.ob) v av) :
  Inv T w0 gp obp ⟨fset g.blk d w.heap.size,vset g.top d tp,G'⟩ (w.alloc cells) (a.put dst v) (s.put dst av [(d,x)]):=by
 have hne:∀ q y,s.ob q = some y→q≠d:=fun q y hy e => by rw [e,hd] at hy;cases hy
 have he:Ext w g.G (w.alloc cells) G':=fun b p hp => by
  have hb:b < w.heap.size:=by
   rcases Nat.lt_or_ge b w.heap.size with h | h
   ·exact h
   ·rw [hI.gz b h] at hp;omega
  exact ⟨by rw [hG b hb];exact hp,(ZbP hI.gz cells b p hp).2⟩
 have hk:Keep g s.ob ⟨fset g.blk d w.heap.size,vset g.top d tp,G'⟩ (updCh [(d,x)] s.ob):=fun q y hy => by
  have:=hne q y hy
  exact Keep.one (by rw [Z1U,if_neg this];exact hy) (by simp [fset,this]) (by simp [vset,this])
 have blkeq:∀ q y,s.ob q = some y→obBlk ⟨fset g.blk d w.heap.size,vset g.top d tp,G'⟩ q y = obBlk g q y:=fun q y hy => by
  have:=hne q y hy
  cases y <;> simp [obBlk,fset,vset,this]
 refine hI.change he hk hv (fun q y hy => ?_) (fun q q' y y' b h1 h2 h3 h4 => ?_) (fun q y b h1 h2 => ?_) (hI.grow.trans (Grown.of (World.grownBy_alloc w cells none)) (fun b hb => by cases hb)) (fun b hb _ => hG b (by have:=hI.grow.size;omega)) (fun b hb => hGz b (by rw [alloc_size] at hb;omega))
 ·rw [Z1U] at hy
  by_cases e:q = d
  ·subst e;rw [if_pos rfl] at hy;obtain rfl:=Option.some.inj hy;exact hx
  ·rw [if_neg e] at hy
   exact (hI.obs q y hy).keep he hk (fun b hb => ⟨alloc_heap _ (hI.obs_lt hy hb),hG b (hI.obs_lt hy hb)⟩) (by simp [fset,e]) (by simp [vset,e])
 ·rw [Z1U] at h1 h2
  by_cases e:q = d <;> by_cases e':q' = d
  ·rw [e,e']
  ·exfalso
   subst e;rw [if_pos rfl] at h1;obtain rfl:=Option.some.inj h1
   rw [if_neg e'] at h2
   rw [blkeq q' y' h2] at h4
   have:=hI.obs_lt h2 h4
   rcases hxb with hb | hb <;> rw [hb] at h3
   ·simp only [Option.some.injEq] at h3;omega
   ·cases h3
  ·exfalso
   subst e';rw [if_pos rfl] at h2;obtain rfl:=Option.some.inj h2
   rw [if_neg e] at h1
   rw [blkeq q y h1] at h3
   have:=hI.obs_lt h1 h3
   rcases hxb with hb | hb <;> rw [hb] at h4
   ·simp only [Option.some.injEq] at h4;omega
   ·cases h4
  ·rw [if_neg e] at h1;rw [if_neg e'] at h2
   rw [blkeq q y h1] at h3;rw [blkeq q' y' h2] at h4
   exact hI.inj q q' y y' b h1 h2 h3 h4
 ·rw [Z1U] at h1
  by_cases e:q = d
  ·subst e;rw [if_pos rfl] at h1;obtain rfl:=Option.some.inj h1
   have:=hI.grow.size
   right
   rcases hxb with hb | hb <;> rw [hb] at h2
   ·simp only [Option.some.injEq] at h2;omega
   ·cases h2
  ·rw [if_neg e] at h1
   rw [blkeq q y h1] at h2
   exact hI.fresh q y b h1 h2
theorem Z5C (ob:Nat→Option Ob) (q:Nat):∀ (l:List Nat),updCh (l.flatMap (Z0A ob)) ob q = if q∈l then (match ob q with
  | some (.row _ e sh rows) => some (.row true e sh rows)
  | x => x) else ob q
 | [] => by simp [updCh]
 | p::l => by
  have ih:=Z5C ob q l
  rw [List.flatMap_cons]
  by_cases hr:∃ z e sh rows,ob p = some (.row z e sh rows)
  ·obtain ⟨z,e,sh,rows,hp⟩:=hr
   have:Z0A ob p = [(p,.row true e sh rows)]:=by unfold Z0A;rw [hp]
   rw [this]
   show (if q = p then some (Ob.row true e sh rows) else updCh (l.flatMap (Z0A ob)) ob q) = _
   by_cases hqp:q = p
   ·subst hqp;rw [if_pos rfl,if_pos List.mem_cons_self,hp]
   ·rw [if_neg hqp,ih];simp [hqp]
  ·have:Z0A ob p = []:=by
    unfold Z0A
    split
    ·rename_i z e sh rows hp;exact absurd ⟨z,e,sh,rows,hp⟩ hr
    ·rfl
   rw [this,List.nil_append,ih]
   by_cases hqp:q = p
   ·subst hqp
    rw [if_pos (List.mem_cons_self)]
    split
    ·rfl
    ·split
     ·rename_i z e sh rows hp;exact absurd ⟨z,e,sh,rows,hp⟩ hr
     ·rfl
   ·simp [hqp]
theorem Inv.freeze1 (hI:Inv T w0 gp obp g w a s) {q:Nat} {z:Bool} {e:Nat} {sh:List Sh} {rows:List (List CV)} (hq:s.ob q = some (.row z e sh rows)):∃ G',Inv T w0 gp obp ⟨g.blk,g.top,G'⟩ w a ⟨s.sl,updCh [(q,.row true e sh rows)] s.ob⟩∧(∀ b,g.G b≤G' b)∧∀ b,(g.top q).ownBlock≠some b→G' b = g.G b:=by
 let G':Nat→Nat:=fun b => if (g.top q).ownBlock = some b then rows.length * sh.length else g.G b
 have hrep:=hI.obs q _ hq
 obtain ⟨cs,h1,h2,h3,h4⟩:=hrep
 have hle:∀ b,g.G b≤G' b:=fun b => by
  show g.G b≤if _ then _ else _
  split
  ·rename_i hb;rw [h3 b hb];split <;> simp
  ·exact Nat.le_refl _
 have he:Ext w g.G w G':=fun b p hp => ⟨Nat.lt_of_lt_of_le hp (hle b),rfl⟩
 have hk:Keep g s.ob ⟨g.blk,g.top,G'⟩ (updCh [(q,.row true e sh rows)] s.ob):=fun y x hx => by
  by_cases hy:y = q
  ·subst hy
   rw [hq] at hx;obtain rfl:=Option.some.inj hx
   exact ⟨_,by rw [Z1U,if_pos rfl],(fun cs hc => by cases hc),fun z' e' sh' rows' hc => by cases hc;exact ⟨⟨z,rows,rfl,rfl⟩,rfl⟩,(fun cs hc => by cases hc)⟩
  ·exact Keep.one (by rw [Z1U,if_neg hy];exact hx) rfl rfl
 have blk_:∀ y x,updCh [(q,.row true e sh rows)] s.ob y = some x→∃ x0,s.ob y = some x0∧obBlk (⟨g.blk,g.top,G'⟩:Gh) y x = obBlk g y x0:=fun y x hx => by
  rw [Z1U] at hx
  by_cases hy:y = q
  ·subst hy;rw [if_pos rfl] at hx;obtain rfl:=Option.some.inj hx
   exact ⟨_,hq,rfl⟩
  ·rw [if_neg hy] at hx
   exact ⟨x,hx,by cases x <;> rfl⟩
 have hlt:∀ b,(g.top q).ownBlock = some b→b < w.heap.size:=fun b hb => hI.obs_lt hq hb
 refine ⟨G',hI.change (d:=none) (v:=undef) (av:=.dead) he hk (Z0S (x:=.dead) trivial) (fun y x hx => ?_) (fun y y' x x' b k1 k2 k3 k4 => ?_) (fun y x b k1 k2 => ?_) hI.grow (fun b hb hn => ?_) (fun b hb => ?_),hle,fun b hb => if_neg hb⟩
 ·rw [Z1U] at hx
  by_cases hy:y = q
  ·subst hy;rw [if_pos rfl] at hx;obtain rfl:=Option.some.inj hx
   refine ⟨cs,h1,h2,fun b hb => ?_,fun j row k cv k1 k2 => ?_⟩
   ·show (if _ then _ else _) = _
    rw [if_pos hb];rfl
   ·obtain ⟨v,k3,k4⟩:=h4 j row k cv k1 k2
    exact ⟨v,k3,k4.ext he⟩
  ·rw [if_neg hy] at hx
   refine (hI.obs y x hx).keep he hk (fun b hb => ⟨rfl,?_⟩) rfl rfl
   show (if _ then _ else _) = _
   exact if_neg (fun e => hy (hI.inj y q x _ b hx hq hb e))
 ·obtain ⟨x0,l1,l2⟩:=blk_ y x k1
  obtain ⟨x1,l3,l4⟩:=blk_ y' x' k2
  exact hI.inj y y' x0 x1 b l1 l3 (l2 ▸ k3) (l4 ▸ k4)
 ·obtain ⟨x0,l1,l2⟩:=blk_ y x k1
  exact hI.fresh y x0 b l1 (l2 ▸ k2)
 ·show (if _ then _ else _) = _
  rw [if_neg (fun e => by rcases hI.fresh q _ b hq e with h | h;exact hn h;omega)]
 ·show (if _ then _ else _) = _
  rw [if_neg (fun e => by have:=hlt b e;omega)]
  exact hI.gz b hb
theorem Inv.freeze' (hI:Inv T w0 gp obp g w a s):∀ (l:List Nat),∃ G',Inv T w0 gp obp ⟨g.blk,g.top,G'⟩ w a ⟨s.sl,updCh (l.flatMap (Z0A s.ob)) s.ob⟩∧(∀ b,g.G b≤G' b)∧∀ p x b,p ∉ l→s.ob p = some x→obBlk g p x = some b→G' b = g.G b
 | [] => ⟨g.G,hI,fun _ => Nat.le_refl _,fun _ _ _ _ _ _ => rfl⟩
 | q::l => by
  obtain ⟨G1,h1,h1l,h1e⟩:=hI.freeze' l
  rw [List.flatMap_cons]
  by_cases hr:∃ z e sh rows,s.ob q = some (.row z e sh rows)
  ·obtain ⟨z,e,sh,rows,hq⟩:=hr
   have:Z0A s.ob q = [(q,.row true e sh rows)]:=by unfold Z0A;rw [hq]
   rw [this]
   obtain ⟨z',hq'⟩:∃ z',updCh (l.flatMap (Z0A s.ob)) s.ob q = some (.row z' e sh rows):=by
    rw [Z5C,hq];split
    ·exact ⟨true,rfl⟩
    ·exact ⟨z,rfl⟩
   obtain ⟨G2,h2,h2l,h2e⟩:=h1.freeze1 hq'
   refine ⟨G2,h2,fun b => Nat.le_trans (h1l b) (h2l b),fun p x b hp hx hb => ?_⟩
   simp only [List.mem_cons,not_or] at hp
   exact (h2e b (fun e => hp.1 (hI.inj p q x _ b hx hq hb e))).trans (h1e p x b hp.2 hx hb)
  ·have:Z0A s.ob q = []:=by
    unfold Z0A
    split
    ·rename_i z e sh rows hp;exact absurd ⟨z,e,sh,rows,hp⟩ hr
    ·rfl
   rw [this]
   exact ⟨G1,h1,h1l,fun p x b hp hx hb => h1e p x b (fun h => hp (List.mem_cons_of_mem _ h)) hx hb⟩
theorem Inv.freeze (hI:Inv T w0 gp obp g w a s) (l:List Nat):∃ G',Inv T w0 gp obp ⟨g.blk,g.top,G'⟩ w a ⟨s.sl,updCh (l.flatMap (Z0A s.ob)) s.ob⟩:=let ⟨G',h,_⟩:=hI.freeze' l;⟨G',h⟩
theorem alive_rep (hob:∀ o x,s.ob o = some x→RepOb w g s.ob o x) {v:Value} {x c:AV} (hx:Z9Q s.ob x = some c) (h:Rep0 w g s.ob v x) :
  Rep0 w g s.ob v c∧Z1X c∧v.oneCell' = true∧v.cells = #[v]:=by
 unfold Z9Q at hx
 split at hx
 ·obtain rfl:=Option.some.inj hx
  exact ⟨h,trivial,RepC.one h,RepC.notagg h⟩
 ·obtain rfl:=Option.some.inj hx
  exact ⟨h,trivial,by rw [show v = .bool true from h];rfl,by rw [show v = .bool true from h];rfl⟩
 ·obtain rfl:=Option.some.inj hx
  exact ⟨h,trivial,by rw [show v = .bool false from h];rfl,by rw [show v = .bool false from h];rfl⟩
 ·obtain rfl:=Option.some.inj hx
  exact ⟨h,trivial,by rw [show v = .slice none 0 0 from h];rfl,by rw [show v = .slice none 0 0 from h];rfl⟩
 ·split at hx
  ·rename_i q z e sh rows hq
   obtain rfl:=Option.some.inj hx
   have hv:=h.2 _ _ _ _ hq
   obtain ⟨_,_,_,_,_,h1,_⟩:=row_rowIs (hob _ _ hq)
   rw [h1] at hv
   exact ⟨h,trivial,by rw [hv];rfl,by rw [hv];rfl⟩
  ·cases hx
 ·split at hx
  ·rename_i q off cs hq
   obtain rfl:=Option.some.inj hx
   have hv:=h.2 cs hq
   exact ⟨h,trivial,by rw [hv];rfl,by rw [hv];rfl⟩
  ·cases hx
 ·cases hx
theorem Zdc (hob:∀ o x,s.ob o = some x→RepOb w g s.ob o x):∀ {xs cs:List AV} (vs:Nat→Value),Z6J s.ob xs = some cs→(∀ k c,xs[k]? = some c→Rep0 w g s.ob (vs k) c) →
  cs.length = xs.length∧∀ k c,cs[k]? = some c→Rep0 w g s.ob (vs k) c∧Z1X c∧(vs k).oneCell' = true
 | [],cs,vs,hx,h => by
  simp only [Z6J,Option.some.injEq] at hx
  subst hx
  exact ⟨rfl,fun k c hc => by simp at hc⟩
 | x::xs,cs,vs,hx,h => by
  unfold Z6J at hx
  split at hx
  ·rename_i c cs' h1 h2
   obtain rfl:=Option.some.inj hx
   obtain ⟨hl,hr⟩:=Zdc hob (fun k => vs (k + 1)) h2 (fun k c hc => h (k + 1) c (by simpa using hc))
   refine ⟨by simp [hl],fun k c' hk => ?_⟩
   cases k with
   | zero =>
    simp at hk;subst hk
    have:=alive_rep hob h1 (h 0 x rfl)
    exact ⟨this.1,this.2.1,this.2.2.1⟩
   | succ k => exact hr k c' (by simpa using hk)
  ·cases hx
theorem Z87 (hob:∀ o x,s.ob o = some x→RepOb w g s.ob o x) {v:Value} {x:AV} {cs:List AV} (hx:cellsOf s.ob x = some cs) (h:Rep w g s.ob v x) :
  v.cells.size = cs.length∧∀ k c,cs[k]? = some c→Rep0 w g s.ob (v.cells.getD k undef) c∧Z1X c∧(v.cells.getD k undef).oneCell' = true:=by
 unfold cellsOf at hx
 split at hx
 ·obtain ⟨vs,rfl,hl,hc⟩:=h
  obtain ⟨h1,h2⟩:=Zdc hob (fun k => vs.getD k undef) hx hc
  exact ⟨by simp only [Value.cells];omega,h2⟩
 ·split at hx
  ·rename_i c hc
   obtain rfl:=Option.some.inj hx
   have h0:Rep0 w g s.ob v x:=by
    unfold Z9Q at hc
    split at hc <;> first | exact h | cases hc
   obtain ⟨h1,h2,h3,h4⟩:=alive_rep hob hc h0
   rw [h4]
   refine ⟨rfl,fun k c' hk => ?_⟩
   cases k with
   | zero => simp at hk;subst hk;exact ⟨h1,h2,h3⟩
   | succ k => simp at hk
  ·cases hx
theorem zero_rep {ob:Nat→Option Ob} (s:Sh):Rep0 w g ob (zeroV s) (zeroA s)∧(zeroA s = .dead∨Z1X (zeroA s)):=by
 cases s with
 | int k => exact ⟨.int _ _,.inr trivial⟩
 | bool => exact ⟨rfl,.inr trivial⟩
 | str => exact ⟨.str _,.inr trivial⟩
 | fn => exact ⟨trivial,.inl rfl⟩
 | sl s => exact ⟨rfl,.inr trivial⟩
theorem zero_like:∀ {s:Sh} {v:Value},zeroB s v = true→Z1X (zeroA s):=by
 intro s v h
 cases s <;> first | trivial | (unfold zeroB at h;simp at h)
end
end Go.Ev
