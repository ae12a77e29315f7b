/- An interpreter for loaded functions over plain data, and that it is right: part 1 (no condition). -/
import GoSem.Core.Code
import GoSem.Dispatch
import Derived.Calls
import Derived.Laws.Sem
import Derived.Tactics
import Derived.Laws.Entries
import Derived.Laws.Cells
import Derived.Laws.CopyRow
import Derived.Laws.StructEq
import Derived.Laws.Tables
import Derived.Great.BuildSlice
import Derived.Laws.MakeOwn
import Derived.Laws.Append
namespace Go.Vm
open Go
set_option linter.unusedSimpArgs false
set_option linter.unusedVariables false
inductive D where
 | int (k:IntKind) (n:Int)
 | bool (b:Bool)
 | str (s:ByteArray)
 | sl (sz:Nat) (xs:List D)
 | rs (sz:Nat) (xs:List D)
 | agg (fs:List D)
 | tup (fs:List D)
 | ptr (d:D)
 | clo (f:FuncId) (caps:List D)
 | nili
 | ifc
 | anyb
 | dead
 deriving Inhabited
inductive AV where
 | bad
 | dat (e:Option Nat) (d:D)
 | dp (e:Option Nat) (d:D)
 | nil (sz:Nat)
 | sl (l v off len sz:Nat)
 | ptr (l v i:Nat) (j:Option Nat)
 | ref (l v r i:Nat) (j:Option Nat)
 | agg (xs:List AV)
 | tup (xs:List AV)
 | clo (f:FuncId) (caps:List AV)
 deriving Inhabited
inductive Obj where
 | arr (v:Nat) (own:Bool) (sz:Nat) (xs:List D)
 | box (v:Nat) (x:AV)
def Obj.ver:Obj→Nat
 | .arr v _ _ _=>v
 | .box v _=>v
structure Mem where
 m:Nat→Option Obj
 e:Nat
 r:Nat
 c:Nat
structure St where
 s:Nat→AV
 M:Mem
def upd {α:Type} (f:Nat→α) (i:Nat) (x:α):Nat→α:=fun j=>if j=i then x else f j
def Mem.set (M:Mem) (l:Nat) (o:Option Obj):Mem:={ M with m:=upd M.m l o }
def Mem.tick (M:Mem):Mem:={ M with e:=M.e+1 }
def Mem.tickR (M:Mem):Mem:={ M with r:=M.r+1 }
def D.size:D→Nat
 | .agg fs=>fs.length
 | _=>1
def isSc1:D→Bool
 | .int _ _|.bool _|.str _|.nili|.ifc|.anyb=>true
 | _=>false
def isSc:D→Bool
 | .agg fs=>fs.all isSc1
 | .tup fs=>fs.all isSc1
 | d=>isSc1 d
def isAgD:D→Bool
 | .agg _=>true
 | _=>false
def isAg:AV→Bool
 | .agg _=>true
 | .dat _ d=>isAgD d
 | _=>false
def isBad:AV→Bool
 | .bad=>true
 | _=>false
def AV.size:AV→Nat
 | .agg xs=>xs.length
 | .dat _ d=>d.size
 | _=>1
def vD (M:Mem):Option Nat→Bool
 | none=>true
 | some e=>e == M.e
def fldD:D→Option Nat→Option D
 | d,none=>some d
 | .agg fs,some j=>match fs[j]? with
  | some d=>if isAgD d then none else some d
  | none=>none
 | _,some _=>none
def fldA (M:Mem):AV→Option Nat→Option AV
 | x,none=>some x
 | .agg xs,some j=>match xs[j]? with
  | some x=>if isAg x then none else some x
  | none=>none
 | .dat e (.agg fs),some j=>if vD M e then match fs[j]? with
  | some d=>if isAgD d then none else some (.dat e d)
  | none=>none else none
 | _,some _=>none
def setD:D→Option Nat→D→Option D
 | _,none,y=>some y
 | .agg fs,some j,y=>if j < fs.length then some (.agg (fs.set j y)) else none
 | _,some _,_=>none
def setA (M:Mem):AV→Option Nat→AV→Option AV
 | _,none,y=>some y
 | .agg xs,some j,y=>if j < xs.length then some (.agg (xs.set j y)) else none
 | .dat e (.agg fs),some j,y=>if vD M e&&decide (j < fs.length) then some (.agg ((fs.map (.dat e)).set j y)) else none
 | _,some _,_=>none
def rsOk1:D→Bool
 | .sl _ _|.rs _ _|.clo _ _=>true
 | d=>isSc1 d
def rsOk:D→Bool
 | .agg fs=>fs.all rsOk1
 | .tup fs=>fs.all rsOk1
 | d=>rsOk1 d
def rs1:D→D
 | .sl sz xs=>.rs sz xs
 | d=>d
def rsD:D→D
 | .agg fs=>.agg (fs.map rs1)
 | .tup fs=>.tup (fs.map rs1)
 | d=>rs1 d
def sl1:D→D
 | .rs sz xs=>.sl sz xs
 | d=>d
def slD:D→D
 | .agg fs=>.agg (fs.map sl1)
 | .tup fs=>.tup (fs.map sl1)
 | d=>sl1 d
def hasRs1:D→Bool
 | .rs _ _=>true
 | _=>false
def hasRs:D→Bool
 | .agg fs=>fs.any hasRs1
 | .tup fs=>fs.any fun d=>match d with|.agg gs=>gs.any hasRs1|d=>hasRs1 d
 | .ptr (.agg fs)=>fs.any hasRs1
 | .ptr d=>hasRs1 d
 | d=>hasRs1 d
def placeD (M:Mem) (l v i:Nat) (j:Option Nat):Option (Bool×D) :=
 match M.m l with
 | some (.arr v' own _ xs)=>if v'=v then match (xs[i]?).bind (fldD · j) with
  | some d=>if isAgD d then none else some (own,d)
  | none=>none else none
 | _=>none
def optL {α:Type}:List (Option α)→Option (List α)
 | []=>some []
 | none::_=>none
 | some x::l=>match optL l with
  | some xs=>some (x::xs)
  | none=>none
def frz (M:Mem):Nat→AV→Option D
 | 0,_=>none
 | _+1,.dat e d=>if vD M e then some d else none
 | _+1,.dp e d=>if vD M e then some (.ptr d) else none
 | _+1,.nil sz=>some (.sl sz [])
 | _+1,.sl l v off len sz=>match M.m l with
  | some (.arr v' _ sz' xs)=>if v'=v∧sz'=sz∧off+len≤xs.length then some (.sl sz ((xs.drop off).take len)) else none
  | _=>none
 | _+1,.ref l v r i j=>if r=M.r∧r≠0 then (placeD M l v i j).map (·.2) else none
 | n+1,.ptr l v i j=>match M.m l with
  | some (.arr v' _ _ xs)=>if v'=v then ((xs[i]?).bind (fldD · j)).map .ptr else none
  | some (.box v' x)=>if v'=v∧i=0 then match fldA M x j with|some y=>(frz M n y).map .ptr|none=>none else none
  | none=>none
 | n+1,.agg xs=>(optL (xs.map (frz M n))).map .agg
 | n+1,.tup xs=>(optL (xs.map (frz M n))).map .tup
 | n+1,.clo f xs=>(optL (xs.map (frz M n))).map (.clo f)
 | _+1,.bad=>none
def takL (f:AV→Mem→Option (D×Mem)):List AV→Mem→Option (List D×Mem)
 | [],M=>some ([],M)
 | x::xs,M=>match f x M with
  | some (d,M')=>match takL f xs M' with
   | some (ds,M'')=>some (d::ds,M'')
   | none=>none
  | none=>none
def tak:Nat→AV→Mem→Option (D×Mem)
 | 0,_,_=>none
 | _+1,.dat none d,M=>if isSc d then some (d,M) else if rsOk d then some (rsD d,M) else none
 | _+1,.dat (some _) _,_=>none
 | _+1,.nil sz,M=>some (.sl sz [],M)
 | _+1,.sl l v off len sz,M=>match M.m l with
  | some (.arr v' own sz' xs) =>
   if v'=v∧sz'=sz∧off+len≤xs.length then
    some (if own then .sl sz ((xs.drop off).take len) else .rs sz ((xs.drop off).take len),M.set l none) else none
  | _=>none
 | _+1,.ref l v r i j,M=>if r=M.r∧r≠0 then match placeD M l v i j with
  | some (own,d)=>if own then some (d,M.set l none) else none
  | none=>none else none
 | n+1,.ptr l v i j,M=>match M.m l with
  | some (.box v' x)=>if v'=v∧i=0∧j=none then match tak n x (M.set l none) with
   | some (d,M')=>some (.ptr d,M')
   | none=>none else none
  | _=>none
 | n+1,.agg xs,M=>match takL (tak n) xs M with|some (ds,M')=>some (.agg ds,M')|none=>none
 | n+1,.tup xs,M=>match takL (tak n) xs M with|some (ds,M')=>some (.tup ds,M')|none=>none
 | _+1,.bad,_=>none
 | _+1,.dp _ _,_=>none
 | _+1,.clo _ _,_=>none
mutual
def bindD (nb ib:Nat):D→Nat→Mem→AV×Nat×Mem
 | .sl sz xs,k,M=>(.sl (nb+k) (ib+k) 0 xs.length sz,k+1,M.set (nb+k) (some (.arr (ib+k) true sz xs)))
 | .rs sz xs,k,M=>(.dat none (.sl sz xs),k,M)
 | .agg fs,k,M=>let (xs,k',M'):=bindL nb ib fs k M;(.agg xs,k',M')
 | .tup fs,k,M=>let (xs,k',M'):=bindL nb ib fs k M;(.tup xs,k',M')
 | .ptr d,k,M=>let (x,k',M'):=bindD nb ib d (k+1) M;(.ptr (nb+k) (ib+k) 0 none,k',M'.set (nb+k) (some (.box (ib+k) x)))
 | d,k,M=>(.dat none d,k,M)
def bindL (nb ib:Nat):List D→Nat→Mem→List AV×Nat×Mem
 | [],k,M=>([],k,M)
 | d::ds,k,M=>let (x,k1,M1):=bindD nb ib d k M;let (xs,k2,M2):=bindL nb ib ds k1 M1;(x::xs,k2,M2)
end
def bindRo:D→AV
 | .ptr d=>.dp none d
 | .clo f caps=>.clo f (caps.map fun c=>match c with|.ptr d=>.dp none d|c=>.dat none c)
 | d=>.dat none d
inductive X where
 | t (n:Nat)
 | k (a:AV)
 deriving Inhabited
def X.ev (s:Nat→AV):X→AV
 | .t n=>s n
 | .k a=>a
inductive I where
 | mv (x:X)
 | pick (c a b:X)
 | box (x:X)
 | bld (xs:List X)
 | bsl (fr:Bool) (sz:Nat) (xs:List X)
 | load (h ag:Bool) (n:Nat) (p:X)
 | store (n:Nat) (p v:X)
 | bin (op:BinOp) (x y:X)
 | eqb (neg:Bool) (x y:X)
 | eqn (neg:Bool) (x:X)
 | eqag (n:Nat) (neg:Bool) (x y:X)
 | eqnil (neg:Bool) (x:X)
 | un (op:UnOp) (x:X)
 | mkf (f:FuncId) (caps:List X)
 | mks (sz bytes:Nat) (z:D) (len cap:X)
 | slc (sz:Nat) (x:X) (lo hi:Option X)
 | sls (x:X) (lo hi:Option X)
 | fad (j:Nat) (x:X)
 | iad (sz:Nat) (x i:X)
 | ids (x i:X)
 | ext (j:Nat) (x:X)
 | len (x:X)
 | lens (x:X)
 | capn (x:X)
 | apz (sz bytes:Nat) (z:D) (x n:X)
 | app (sz bytes:Nat) (s x:X)
 | apr (sz bytes:Nat) (s x:X)
 | mnx (mx:Bool) (x y:X)
 | cnv (k:IntKind) (x:X)
 | no
 | nck (x:X)
 | b2s (x:X)
 | clr (sz:Nat) (z:D) (x:X)
 | cpy (sz:Nat) (d x:X)
 deriving Inhabited
def ibin (op:BinOp) (k:IntKind) (x y:Int):Option D :=
 match op with
 | .add=>some (.int k (k.wrap (x+y)))
 | .sub=>some (.int k (k.wrap (x - y)))
 | .mul=>some (.int k (k.wrap (x * y)))
 | .quo=>if y=0 then none else some (.int k (k.wrap (x.tdiv y)))
 | .rem=>if y=0 then none else some (.int k (x.tmod y))
 | .and=>some (.int k (k.wrap (BitVec.ofInt k.bits x &&& BitVec.ofInt k.bits y).toNat))
 | .or=>some (.int k (k.wrap (BitVec.ofInt k.bits x ||| BitVec.ofInt k.bits y).toNat))
 | .xor=>some (.int k (k.wrap (BitVec.ofInt k.bits x ^^^ BitVec.ofInt k.bits y).toNat))
 | .andNot=>some (.int k (k.wrap (BitVec.ofInt k.bits x &&& ~~~BitVec.ofInt k.bits y).toNat))
 | .eql=>some (.bool (x == y))
 | .neq=>some (.bool (x != y))
 | .lss=>some (.bool (x < y))
 | .leq=>some (.bool (x≤y))
 | .gtr=>some (.bool (x > y))
 | .geq=>some (.bool (x ≥ y))
 | _=>none
def ishift (op:BinOp) (k:IntKind) (x y:Int):Option D :=
 if y < 0 then none else match op with
 | .shl=>some (.int k (k.wrap (x * 2 ^ (min y.toNat k.bits))))
 | .shr=>some (.int k (x.fdiv (2 ^ (min y.toNat k.bits))))
 | _=>none
def isShift:BinOp→Bool
 | .shl|.shr=>true
 | _=>false
def dbin (op:BinOp):D→D→Option D
 | .int k x,.int k' y=>if isShift op then ishift op k x y else if k=k' then ibin op k x y else none
 | .str a,.str b=>match op with
  | .add=>if a.size+b.size≤1152921504606846976 then some (.str (a++b)) else none
  | .eql=>some (.bool (a.toList == b.toList))
  | .neq=>some (.bool (!(a.toList == b.toList)))
  | _=>none
 | _,_=>none
def dun (op:UnOp):D→Option D
 | .int k n=>match op with
  | .neg=>some (.int k (k.wrap (0 - n)))
  | _=>none
 | .bool b=>match op with
  | .not=>some (.bool !b)
  | _=>none
 | _=>none
def eqS1:D→D→Option Bool
 | .int k x,.int k' y=>if k=k' then some (x == y) else none
 | _,_=>none
def eqL:List D→List D→Option Bool
 | [],[]=>some true
 | x::xs,y::ys=>match eqS1 x y,eqL xs ys with
  | some a,some b=>some (a&&b)
  | _,_=>none
 | _,_=>none
def fldsOf:AV→Option (List D)
 | .dat none (.agg fs)=>some fs
 | .agg xs=>optL (xs.map fun x=>match x with|.dat none d=>if isSc1 d then some d else none|_=>none)
 | _=>none
def lsOf:D→Option (Nat×List D)
 | .sl sz xs=>some (sz,xs)
 | .rs sz xs=>some (sz,xs)
 | _=>none
def mvE (M:Mem) (sz:Nat):AV→Option (Bool×List D×Mem)
 | .nil sz'=>if sz'=sz then some (true,[],M) else none
 | .dat e d=>match lsOf d with
  | some (sz',ys)=>if sz'=sz then (if ys.all isSc then (if vD M e then some (true,ys,M) else none) else if e=none then some (false,ys,M) else none) else none
  | none=>none
 | .sl l v off len sz'=>match M.m l with
  | some (.arr v' own sz'' xs) =>
   if v'=v∧sz'=sz∧sz''=sz∧off+len≤xs.length then
    (if ((xs.drop off).take len).all isSc then some (true,(xs.drop off).take len,M) else some (own,(xs.drop off).take len,M.set l none)) else none
  | _=>none
 | _=>none
def asI:AV→Option Int
 | .dat none (.int _ n)=>some n
 | _=>none
def asB:AV→Option Bool
 | .dat none (.bool b)=>some b
 | _=>none
def I64 (n:Int):AV:=.dat none (.int .i64 n)
def stpIad (M:Mem) (sz:Nat) (x:AV) (i:Int):Option AV :=
 match x with
 | .sl l v off len sz'=>if sz'=sz∧0≤i∧i < len then some (.ptr l v (off+i.toNat) none) else none
 | .dat e (.sl sz' xs)=>if vD M e=true∧sz'=sz∧0≤i∧i < xs.length then (xs[i.toNat]?).map (.dp e) else none
 | .ref l v r k j=>if r=M.r∧r≠0 then match placeD M l v k j with
  | some (_,.sl sz' xs)=>if sz'=sz∧0≤i∧i < xs.length then (xs[i.toNat]?).map (.dp (some M.e)) else none
  | _=>none else none
 | _=>none
def gd (M:Mem):AV→Bool
 | .bad=>false
 | .dat e _=>vD M e
 | .dp e _=>vD M e
 | .ref _ _ _ _ _=>false
 | _=>true
def stpLen (M:Mem):AV→Option AV
 | .sl _ _ _ len _=>some (I64 len)
 | .dat e (.sl _ xs)=>if vD M e then some (I64 xs.length) else none
 | .nil _=>some (I64 0)
 | .ref l v r k j=>if r=M.r∧r≠0 then match placeD M l v k j with
  | some (_,.sl _ xs)=>some (I64 xs.length)
  | _=>none else none
 | _=>none
def oneD:D→Bool
 | .agg _|.tup _=>false
 | _=>true
def oneA (M:Mem):AV→Bool
 | .bad=>false
 | .dat e d=>vD M e&&oneD d
 | .dp e _=>vD M e
 | .agg _|.tup _=>false
 | .ref _ _ _ _ _=>false
 | _=>true
def okA (M:Mem):AV→Bool
 | .agg xs=>xs.all (oneA M)
 | .dat e (.agg fs)=>vD M e&&fs.all oneD
 | a=>oneA M a
def ldD (M:Mem) (own:Bool) (d:D):AV:=if own&&!isSc d then .dat (some M.e) d else .dat none d
def stpLoad (M:Mem) (h:Bool):AV→Option AV
 | .ptr l v i j=>match M.m l with
  | some (.arr v' own _ xs)=>if v'=v then ((xs[i]?).bind (fldD · j)).bind fun d =>
   if h then (if own&&!isAgD d&&M.r != 0 then some (.ref l v M.r i j) else none) else some (ldD M own d) else none
  | some (.box v' x)=>if v'=v∧i=0∧h=false then fldA M x j else none
  | none=>none
 | .dp e d=>if h then none else some (.dat e d)
 | _=>none
def stpStore (M:Mem) (n:Nat) (p a:AV):Option Mem :=
 if !okA M a||!(a.size == n) then none else
 match p with
 | .ptr l v i j=>match M.m l with
  | some (.box v' x)=>if v'=v∧i=0∧((j=none∧gd M x=true)∨(j≠none∧isAg a=false)) then match fldA M x j,setA M x j a with
   | some y,some x'=>if y.size=n then some (M.set l (some (.box v x'))) else none
   | _,_=>none else none
  | some (.arr _ _ _ _)=>match tak 8 a M with
   | some (d,M1)=>match M1.m l with
    | some (.arr v' own sz xs)=>if v'=v then match xs[i]? with
     | some x=>match fldD x j,setD x j (slD d) with
      | some y,some x'=>if y.size=n∧d.size=n∧(j=none∨isAgD d=false) then some (M1.set l (some (.arr v (own&&!hasRs d) sz (xs.set i x')))).tickR else none
      | _,_=>none
     | none=>none else none
    | _=>none
   | none=>none
  | none=>none
 | _=>none
def stpSlc (M:Mem) (sz:Nat) (x:AV) (lo:Option Int) (hi:Option Int):Option AV :=
 match x with
 | .sl l v off len sz'=>if sz'=sz∧0≤lo.getD 0∧lo.getD 0≤hi.getD len∧hi.getD len≤len then some (.sl l v (off+(lo.getD 0).toNat) (hi.getD len - lo.getD 0).toNat sz) else none
 | .dat e (.sl sz' xs)=>if vD M e=true∧sz'=sz∧0≤lo.getD 0∧lo.getD 0≤hi.getD xs.length∧hi.getD xs.length≤xs.length then
  some (.dat e (.sl sz ((xs.take (hi.getD xs.length).toNat).drop (lo.getD 0).toNat))) else none
 | .nil sz'=>if sz'=sz∧lo.getD 0=0∧hi.getD 0=0 then some (.nil sz) else none
 | _=>none
def stpSls (x:AV) (lo:Option Int) (hi:Option Int):Option AV :=
 match x with
 | .dat none (.str s)=>if 0≤lo.getD 0∧lo.getD 0≤hi.getD s.size∧hi.getD s.size≤s.size then some (.dat none (.str (s.extract (lo.getD 0).toNat (hi.getD s.size).toNat))) else none
 | _=>none
def opI (s:Nat→AV):Option X→Option (Option Int)
 | none=>some none
 | some x=>(asI (x.ev s)).map some
def stpApp (M:Mem) (nb ib sz bytes:Nat) (s x:AV):Option (AV×Mem) :=
 match mvE M sz x with
 | some (own,ys,M1)=>match s with
  | .nil sz'=>if sz'=sz∧ys.length * bytes≤70368744177664 then some (.sl nb ib 0 ys.length sz,M1.set nb (some (.arr ib own sz ys))) else none
  | .sl l v off len sz'=>match M1.m l with
   | some (.arr v' own' sz'' xs) =>
    if v'=v∧sz'=sz∧sz''=sz∧off+len≤xs.length∧(len+ys.length) * bytes≤70368744177664 then
     some (.sl l ib 0 (len+ys.length) sz,M1.set l (some (.arr ib (own'&&own) sz ((xs.drop off).take len++ys))))
    else none
   | _=>none
  | _=>none
 | none=>none
def takeOut (M:Mem) (nb ib sz l v r i:Nat) (j:Option Nat):Option (AV×Mem) :=
 if r=M.r∧r≠0 then match M.m l with
  | some (.arr v' own sz' xs)=>if v'=v∧own=true then match xs[i]? with
   | some x=>match fldD x j,setD x j .dead with
    | some (.sl s2 ys),some x'=>if s2=sz then
     some (.sl nb (ib+1) 0 ys.length sz,((M.set l (some (.arr v true sz' (xs.set i x')))).tick.tickR).set nb (some (.arr (ib+1) true sz ys))) else none
    | _,_=>none
   | none=>none else none
  | _=>none else none
def stpApr (M:Mem) (nb ib sz bytes:Nat) (s x:AV):Option (AV×Mem):=match s with
 | .ref l v r i j=>match takeOut M nb ib sz l v r i j with
  | some (a,M1)=>stpApp M1 nb ib sz bytes a x
  | none=>none
 | _=>none
def bytesOf:List D→Option (List UInt8)
 | []=>some []
 | .int .u8 n::ds=>(bytesOf ds).map (UInt8.ofNat n.toNat::·)
 | _::_=>none
def plO (M:Mem) (sz:Nat) (a:AV):Option (List D):=match mvE M sz a with
 | some (_,ys,_)=>if ys.all isSc then some ys else none
 | none=>none
def stpWr (M:Mem) (l v sz off:Nat) (ys:List D):Option Mem:=match M.m l with
 | some (.arr v' own sz' xs)=>if v'=v∧sz'=sz∧off+ys.length≤xs.length∧((xs.drop off).take ys.length).all isSc=true then
  some (M.set l (some (.arr v own sz (xs.take off++ys++xs.drop (off+ys.length))))).tickR else none
 | _=>none
def stp (s:Nat→AV) (M:Mem) (nb ib:Nat):I→Option (AV×Mem)
 | .mv x=>some (x.ev s,M)
 | .pick c a b=>(asB (c.ev s)).map fun t=>(if t then a.ev s else b.ev s,M)
 | .box x=>if isBad (x.ev s) then none else some (.ptr nb ib 0 none,M.set nb (some (.box ib (x.ev s))))
 | .bld xs=>if (xs.map (X.ev s)).all (fun a=>gd M a&&!isAg a) then some (.agg (xs.map (X.ev s)),M) else none
 | .bsl fr sz xs=>match takL (tak 8) (xs.map (X.ev s)) M with
  | some (ds,M1)=>if (xs.map (X.ev s)).all (fun a=>okA M a&&a.size == sz)&&ds.all (fun d=>d.size == sz) then
   (if fr then (if ds.all isSc then some (.dat none (.sl sz ds),M1) else none)
    else some (.sl nb ib 0 ds.length sz,M1.set nb (some (.arr ib (!ds.any hasRs) sz (ds.map slD))))) else none
  | none=>none
 | .load h ag n p=>match stpLoad M h (p.ev s) with
  | some a=>if isAg a == ag&&(h||gd M a)&&a.size == n then some (a,M) else none
  | none=>none
 | .store n p v=>(stpStore M n (p.ev s) (v.ev s)).map (.bad,·)
 | .bin op x y=>match x.ev s,y.ev s with
  | .dat none a,.dat none b=>(dbin op a b).map fun d=>(.dat none d,M)
  | _,_=>none
 | .eqb neg x y=>match asB (x.ev s),asB (y.ev s) with
  | some a,some b=>some (.dat none (.bool ((a == b) != neg)),M)
  | _,_=>none
 | .eqn neg x=>match x.ev s with
  | .dat none .nili=>some (.dat none (.bool !neg),M)
  | .dat none .ifc=>some (.dat none (.bool neg),M)
  | _=>none
 | .eqag n neg x y=>match fldsOf (x.ev s),fldsOf (y.ev s) with
  | some a,some b=>if a.length=n∧b.length=n then (eqL a b).map (fun t=>(.dat none (.bool (t != neg)),M)) else none
  | _,_=>none
 | .eqnil neg x=>match x.ev s with
  | .nil _=>some (.dat none (.bool !neg),M)
  | .sl _ _ _ (_+1) _=>some (.dat none (.bool neg),M)
  | .dat none (.sl _ (_::_))=>some (.dat none (.bool neg),M)
  | .dat none (.sl _ [])=>some (.dat none .anyb,M)
  | .sl _ _ _ 0 _=>some (.dat none .anyb,M)
  | _=>none
 | .un op x=>match x.ev s with
  | .dat none a=>(dun op a).map fun d=>(.dat none d,M)
  | _=>none
 | .mkf f caps=>some (.clo f (caps.map (X.ev s)),M)
 | .mks sz bytes z len cap=>match asI (len.ev s),asI (cap.ev s) with
  | some l,some c=>if 0≤l∧l≤c∧c * bytes≤70368744177664∧z.size=sz then
   some (.sl nb ib 0 l.toNat sz,M.set nb (some (.arr ib true sz (List.replicate l.toNat z)))) else none
  | _,_=>none
 | .slc sz x lo hi=>match opI s lo,opI s hi with
  | some l,some h=>(stpSlc M sz (x.ev s) l h).map (·,M)
  | _,_=>none
 | .sls x lo hi=>match opI s lo,opI s hi with
  | some l,some h=>(stpSls (x.ev s) l h).map (·,M)
  | _,_=>none
 | .fad j x=>match x.ev s with
  | .ptr l v i none=>some (.ptr l v i (some j),M)
  | .dp e (.agg fs)=>if vD M e then match fs[j]? with
   | some d=>if isAgD d then none else some (.dp e d,M)
   | none=>none else none
  | _=>none
 | .iad sz x i=>(asI (i.ev s)).bind fun i=>(stpIad M sz (x.ev s) i).map (·,M)
 | .ids x i=>match x.ev s with
  | .dat none (.str b)=>(asI (i.ev s)).bind fun i=>if h:0≤i∧i < b.size then some (.dat none (.int .u8 ((b[i.toNat]'(by omega)).toNat)),M) else none
  | _=>none
 | .ext j x=>if 1000≤j then (match fldA M (x.ev s) (some (j - 1000)) with
  | some y=>if isBad y then none else some (y,M)
  | none=>none) else match x.ev s with
  | .tup xs=>match xs[j]? with
   | some a=>if isBad a then none else some (a,M)
   | none=>none
  | .dat e (.tup ds)=>if vD M e then (ds[j]?).map fun d=>(.dat e d,M) else none
  | _=>none
 | .len x=>(stpLen M (x.ev s)).map (·,M)
 | .apz sz bytes z x n=>match x.ev s,asI (n.ev s) with
  | .nil sz',some l=>if sz'=sz∧0 < l∧l * bytes≤70368744177664∧z.size=sz then
   some (.sl nb ib 0 l.toNat sz,M.set nb (some (.arr ib true sz (List.replicate l.toNat z)))) else none
  | _,_=>none
 | .capn x=>match x.ev s with
  | .nil _=>some (I64 0,M)
  | _=>none
 | .lens x=>match x.ev s with
  | .dat none (.str b)=>some (I64 b.size,M)
  | _=>none
 | .app sz bytes t x=>stpApp M nb ib sz bytes (t.ev s) (x.ev s)
 | .apr sz bytes t x=>stpApr M nb ib sz bytes (t.ev s) (x.ev s)
 | .mnx mx x y=>match x.ev s,y.ev s with
  | .dat none (.int k a),.dat none (.int _ b)=>some (.dat none (.int k (if mx then (if b > a then b else a) else (if b < a then b else a))),M)
  | _,_=>none
 | .cnv k x=>match x.ev s with
  | .dat none (.int _ n)=>some (.dat none (.int k (k.wrap n)),M)
  | _=>none
 | .no=>none
 | .nck x=>match x.ev s with
  | .ptr l v i j=>some (.ptr l v i j,M)
  | .dp none d=>some (.dp none d,M)
  | _=>none
 | .b2s x=>match plO M 1 (x.ev s) with
  | some ys=>(bytesOf ys).map fun b=>(.dat none (.str ⟨b.toArray⟩),M)
  | none=>none
 | .clr sz z x=>match x.ev s with
  | .nil sz'=>if sz'=sz then some (.tup [],M) else none
  | .sl l v off len sz'=>if len=0 then some (.tup [],M) else if sz'=sz∧z.size=sz∧isSc z=true then (stpWr M l v sz off (List.replicate len z)).map (.tup [],·) else none
  | _=>none
 | .cpy sz d x=>match plO M sz (x.ev s),d.ev s with
  | some ys,.sl l v off len sz'=>if len=0 then some (I64 0,M) else if sz'=sz then (stpWr M l v sz off (ys.take len)).map (I64 (min ys.length len:Nat),·) else none
  | _,_=>none
end Go.Vm
namespace Go.Vm
open Go
set_option linter.unusedSimpArgs false
set_option linter.unusedVariables false
def RM (w:World) (a:Addr) (n:Nat):Prop :=
 ∃ cs E,w.heap[a.block]? = some (.cells cs E (0,0))∧(n=0∨a.off+n≤cs.size)
def CL (w:World) (a:Addr) (vs:List Value):Prop:=∀ k v,vs[k]? = some v→w.cell? (a.add k)=some v
def NilV (o:Bool) (v:Value):Prop:=v=.slice none 0 0∨(o=false∧∃ a,v=.slice (some a) 0 0)
theorem NilV.ex {o:Bool} {v:Value} (h:NilV o v):∃ a,v=.slice a 0 0:=by
 rcases h with h|⟨_,a,h⟩
 · exact ⟨none,h⟩
 · exact ⟨some a,h⟩
theorem NilV.own {v:Value} (h:NilV true v):v=.slice none 0 0:=by
 rcases h with h|⟨h,_⟩
 · exact h
 · cases h
theorem NilV.off {o:Bool} {v:Value} (h:NilV o v):NilV false v:=by
 rcases h with h|⟨_,h⟩
 · exact .inl h
 · exact .inr ⟨rfl,h⟩
mutual
def TV (X:Nat→Prop) (o:Bool) (w:World):D→Value→List Nat→Prop
 | .int k n,v,F=>v=.int k n∧F=[]
 | .bool b,v,F=>v=.bool b∧F=[]
 | .str s,v,F=>v=.string s∧F=[]
 | .nili,v,F=>v=.nilIface∧F=[]
 | .ifc,v,F=>(∃ t x,v=.iface t x)∧F=[]
 | .anyb,v,F=>(∃ b,v=.bool b)∧F=[]
 | .dead,v,F=>(∃ a n c,v=.slice a n c)∧F=[]
 | .sl sz xs,v,F=>(xs=[]∧NilV o v∧F=[]) ∨
  ∃ a c vs,v=.slice (some a) xs.length c∧a.spot=none∧xs.length≤c∧a.block < w.heap.size∧CL w a vs ∧
   ((o=true∧∃ F',F=a.block::F'∧RM w a (c * sz)∧TE X o w sz xs vs F')∨(o=false∧¬ X a.block∧TE X o w sz xs vs F))
 | .rs sz xs,v,F=>F=[]∧((xs=[]∧NilV false v) ∨
  ∃ a c vs,v=.slice (some a) xs.length c∧a.spot=none∧xs.length≤c∧a.block < w.heap.size∧CL w a vs∧¬ X a.block∧TE X false w sz xs vs [])
 | .agg fs,v,F=>∃ vs:List Value,v=.agg vs.toArray∧TL X o w fs vs F
 | .tup fs,v,F=>∃ vs:List Value,v=.tuple vs.toArray∧TL X o w fs vs F
 | .ptr (.agg fs), v, F => ∃ a us, v = .pointer (some a) ∧ a.spot = none ∧ a.block < w.heap.size ∧ CL w a us ∧
       ((o=true∧∃ F',F=a.block::F'∧RM w a us.length∧TL X o w fs us F')∨(o=false∧¬ X a.block∧TL X o w fs us F))
 | .ptr d, v, F => ∃ a u, v = .pointer (some a) ∧ a.spot = none ∧ a.block < w.heap.size ∧ CL w a [u] ∧
       ((o=true∧∃ F',F=a.block::F'∧RM w a 1∧TV X o w d u F')∨(o=false∧¬ X a.block∧TV X o w d u F))
 | .clo f caps,v,F=>F=[]∧∃ vs:List Value,v=.func (.func f) #[] vs.toArray∧TL X false w caps vs []
def TE (X:Nat→Prop) (o:Bool) (w:World) (sz:Nat):List D→List Value→List Nat→Prop
 | [],vs,F=>vs=[]∧F=[]
 | .agg fs::xs,vs,F=>∃ us r F1 F2,vs=us++r∧(us.length=sz∧∀ u∈us,u.oneCell'=true)∧F=F1++F2∧TL X o w fs us F1∧TE X o w sz xs r F2
 | x::xs,vs,F=>∃ us r F1 F2,vs=us++r∧(us.length=sz∧∀ u∈us,u.oneCell'=true)∧F=F1++F2∧(∃ u,us=[u]∧TV X o w x u F1)∧TE X o w sz xs r F2
def TL (X:Nat→Prop) (o:Bool) (w:World):List D→List Value→List Nat→Prop
 | [],vs,F=>vs=[]∧F=[]
 | x::xs,vs,F=>∃ u us F1 F2,vs=u::us∧F=F1++F2∧TV X o w x u F1∧TL X o w xs us F2
end
def TC (X:Nat→Prop) (o:Bool) (w:World):D→List Value→List Nat→Prop
 | .agg fs,us,F=>TL X o w fs us F
 | d,us,F=>∃ u,us=[u]∧TV X o w d u F
theorem Za8 {X:Nat→Prop} {o:Bool} {w:World} {sz:Nat} {x:D} {xs:List D} {vs:List Value} {F:List Nat} :
 TE X o w sz (x::xs) vs F↔∃ us r F1 F2,vs=us++r∧(us.length=sz∧∀ u∈us,u.oneCell'=true)∧F=F1++F2∧TC X o w x us F1∧TE X o w sz xs r F2:=by
 cases x<;>simp only [TE,TC]
def isAgDP (d:D):Bool:=isAgD d
def PS (X:Nat→Prop) (o:Bool) (w:World) (d:D) (v:Value) (F:List Nat):Prop :=
 ∃ a us,v=.pointer (some a)∧a.spot=none∧a.block < w.heap.size∧CL w a us ∧
  ((o=true∧∃ F',F=a.block::F'∧RM w a us.length∧TC X o w d us F')∨(o=false∧¬ X a.block∧TC X o w d us F))
theorem Zav {X:Nat→Prop} {o:Bool} {w:World} {d:D} {v:Value} {F:List Nat}:TV X o w (.ptr d) v F↔PS X o w d v F:=by
 cases d with
 | agg fs=>simp only [TV,PS,TC]
 | _ =>
  simp only [TV,PS,TC]
  constructor
  · rintro ⟨a,u,h1,h2,h3,h4,h5⟩
    refine ⟨a,[u],h1,h2,h3,h4,?_⟩
    rcases h5 with ⟨ho,F',hF,hr,ht⟩|⟨ho,hx,ht⟩
    · exact .inl ⟨ho,F',hF,hr,u,rfl,ht⟩
    · exact .inr ⟨ho,hx,u,rfl,ht⟩
  · rintro ⟨a,us,h1,h2,h3,h4,h5⟩
    rcases h5 with ⟨ho,F',hF,hr,u,rfl,ht⟩|⟨ho,hx,u,rfl,ht⟩
    · exact ⟨a,u,h1,h2,h3,h4,.inl ⟨ho,F',hF,hr,ht⟩⟩
    · exact ⟨a,u,h1,h2,h3,h4,.inr ⟨ho,hx,ht⟩⟩
theorem ZaC (a:Addr) (n:Nat):(a.add n).block=a.block:=by unfold Addr.add;split<;>rfl
theorem ZmG {w w':World} {a:Addr} (h:w'.heap[a.block]? = w.heap[a.block]?):w'.cell? a=w.cell? a:=by
 simp only [World.cell?,h]
theorem RM.eq {w w':World} {a:Addr} {n:Nat} (h:w'.heap[a.block]? = w.heap[a.block]?) (hr:RM w a n):RM w' a n:=by
 obtain ⟨cs,E,h1,h2⟩:=hr
 exact ⟨cs,E,h.trans h1,h2⟩
theorem CL.eq {w w':World} {a:Addr} {vs:List Value} (h:w'.heap[a.block]? = w.heap[a.block]?) (hr:CL w a vs):CL w' a vs :=
 fun k v hk=>(ZmG (by rw [ZaC];exact h)).trans (hr k v hk)
structure Same (X X':Nat→Prop) (w w':World) (F:List Nat):Prop where
 size:w.heap.size≤w'.heap.size
 out:∀ b,b < w.heap.size→¬ X b→¬ X' b
 heap:∀ b,b < w.heap.size→(¬ X b∨b∈F)→w'.heap[b]? = w.heap[b]?
theorem Same.sub {X X':Nat→Prop} {w w':World} {F G:List Nat} (h:Same X X' w w' F) (hs:∀ b,b∈G→b∈F):Same X X' w w' G :=
 ⟨h.size,h.out,fun b hb hx=>h.heap b hb (hx.imp id (hs b))⟩
theorem Same.left {X X':Nat→Prop} {w w':World} {F1 F2:List Nat} (h:Same X X' w w' (F1++F2)):Same X X' w w' F1:=h.sub fun _=>List.mem_append_left _
theorem Same.right {X X':Nat→Prop} {w w':World} {F1 F2:List Nat} (h:Same X X' w w' (F1++F2)):Same X X' w w' F2:=h.sub fun _=>List.mem_append_right _
theorem Same.tail {X X':Nat→Prop} {w w':World} {b:Nat} {F:List Nat} (h:Same X X' w w' (b::F)):Same X X' w w' F:=h.sub fun _=>List.mem_cons_of_mem _
theorem psStable {X X':Nat→Prop} {o:Bool} {w w':World} {d:D} {v:Value} {F:List Nat} (h:PS X o w d v F) (hs:Same X X' w w' F)
 (ih:∀ us G,TC X o w d us G→Same X X' w w' G→TC X' o w' d us G):PS X' o w' d v F:=by
 obtain ⟨a,us,h1,h2,h4,hc,h5⟩:=h
 rcases h5 with ⟨ho,F',rfl,hr,ht⟩|⟨ho,hx,ht⟩
 · have hb:=hs.heap a.block h4 (.inr List.mem_cons_self)
   exact ⟨a,us,h1,h2,Nat.lt_of_lt_of_le h4 hs.size,hc.eq hb,.inl ⟨ho,F',rfl,hr.eq hb,ih us F' ht hs.tail⟩⟩
 · exact ⟨a,us,h1,h2,Nat.lt_of_lt_of_le h4 hs.size,hc.eq (hs.heap _ h4 (.inl hx)),.inr ⟨ho,hs.out _ h4 hx,ih us F ht hs⟩⟩
theorem TC.mk {X:Nat→Prop} {o:Bool} {w:World} {d:D} {us:List Value} {F:List Nat} (hn:isAgD d=false) :
 TC X o w d us F↔∃ u,us=[u]∧TV X o w d u F:=by
 cases d<;>simp [isAgD] at hn<;>simp only [TC]
mutual
theorem TV.stable {X X':Nat→Prop} {o:Bool} {w w':World}:∀ (d:D) (v:Value) (F:List Nat),TV X o w d v F→Same X X' w w' F→TV X' o w' d v F
 | .int _ _,_,_,h,_=>by simpa only [TV] using h
 | .bool _,_,_,h,_=>by simpa only [TV] using h
 | .str _,_,_,h,_=>by simpa only [TV] using h
 | .nili,_,_,h,_=>by simpa only [TV] using h
 | .ifc,_,_,h,_=>by simpa only [TV] using h
 | .anyb,_,_,h,_=>by simpa only [TV] using h
 | .dead,_,_,h,_=>by simpa only [TV] using h
 | .sl sz xs,v,F,h,hs=>by
  simp only [TV] at h ⊢
  rcases h with h|⟨a,c,vs,h1,h2,h3,h4,hc,h5⟩
  · exact .inl h
  · refine .inr ⟨a,c,vs,h1,h2,h3,Nat.lt_of_lt_of_le h4 hs.size,?_⟩
    rcases h5 with ⟨ho,F',rfl,hr,ht⟩|⟨ho,hx,ht⟩
    · have hb:=hs.heap a.block h4 (.inr List.mem_cons_self)
      exact ⟨hc.eq hb,.inl ⟨ho,F',rfl,hr.eq hb,TE.stable xs vs F' ht hs.tail⟩⟩
    · exact ⟨hc.eq (hs.heap _ h4 (.inl hx)),.inr ⟨ho,hs.out _ h4 hx,TE.stable xs vs F ht hs⟩⟩
 | .rs sz xs,v,F,h,hs=>by
  simp only [TV] at h ⊢
  obtain ⟨hF,h⟩:=h
  refine ⟨hF,?_⟩
  rcases h with h|⟨a,c,vs,h1,h2,h3,h4,hc,hx,ht⟩
  · exact .inl h
  · exact .inr ⟨a,c,vs,h1,h2,h3,Nat.lt_of_lt_of_le h4 hs.size,hc.eq (hs.heap _ h4 (.inl hx)),hs.out _ h4 hx,TE.stable xs vs [] ht (hs.sub (by simp))⟩
 | .agg fs,v,F,h,hs=>by
  simp only [TV] at h ⊢
  obtain ⟨vs,h1,h2⟩:=h
  exact ⟨vs,h1,TL.stable fs vs F h2 hs⟩
 | .tup fs,v,F,h,hs=>by
  simp only [TV] at h ⊢
  obtain ⟨vs,h1,h2⟩:=h
  exact ⟨vs,h1,TL.stable fs vs F h2 hs⟩
 | .ptr (.agg fs),v,F,h,hs=>Zav.2 (psStable (Zav.1 h) hs fun us G h' hs'=>TL.stable fs us G h' hs')
 | .ptr (.int k n),v,F,h,hs=>Zav.2 (psStable (Zav.1 h) hs fun us G h' hs'=>(TC.mk rfl).2 (let ⟨u,e,t⟩:=(TC.mk rfl).1 h';⟨u,e,TV.stable (.int k n) u G t hs'⟩))
 | .ptr (.bool b),v,F,h,hs=>Zav.2 (psStable (Zav.1 h) hs fun us G h' hs'=>(TC.mk rfl).2 (let ⟨u,e,t⟩:=(TC.mk rfl).1 h';⟨u,e,TV.stable (.bool b) u G t hs'⟩))
 | .ptr (.str b),v,F,h,hs=>Zav.2 (psStable (Zav.1 h) hs fun us G h' hs'=>(TC.mk rfl).2 (let ⟨u,e,t⟩:=(TC.mk rfl).1 h';⟨u,e,TV.stable (.str b) u G t hs'⟩))
 | .ptr (.sl sz xs),v,F,h,hs=>Zav.2 (psStable (Zav.1 h) hs fun us G h' hs'=>(TC.mk rfl).2 (let ⟨u,e,t⟩:=(TC.mk rfl).1 h';⟨u,e,TV.stable (.sl sz xs) u G t hs'⟩))
 | .ptr (.rs sz xs),v,F,h,hs=>Zav.2 (psStable (Zav.1 h) hs fun us G h' hs'=>(TC.mk rfl).2 (let ⟨u,e,t⟩:=(TC.mk rfl).1 h';⟨u,e,TV.stable (.rs sz xs) u G t hs'⟩))
 | .ptr (.tup xs),v,F,h,hs=>Zav.2 (psStable (Zav.1 h) hs fun us G h' hs'=>(TC.mk rfl).2 (let ⟨u,e,t⟩:=(TC.mk rfl).1 h';⟨u,e,TV.stable (.tup xs) u G t hs'⟩))
 | .ptr (.ptr d),v,F,h,hs=>Zav.2 (psStable (Zav.1 h) hs fun us G h' hs'=>(TC.mk rfl).2 (let ⟨u,e,t⟩:=(TC.mk rfl).1 h';⟨u,e,TV.stable (.ptr d) u G t hs'⟩))
 | .ptr (.clo f xs),v,F,h,hs=>Zav.2 (psStable (Zav.1 h) hs fun us G h' hs'=>(TC.mk rfl).2 (let ⟨u,e,t⟩:=(TC.mk rfl).1 h';⟨u,e,TV.stable (.clo f xs) u G t hs'⟩))
 | .ptr .nili,v,F,h,hs=>Zav.2 (psStable (Zav.1 h) hs fun us G h' hs'=>(TC.mk rfl).2 (let ⟨u,e,t⟩:=(TC.mk rfl).1 h';⟨u,e,TV.stable .nili u G t hs'⟩))
 | .ptr .ifc,v,F,h,hs=>Zav.2 (psStable (Zav.1 h) hs fun us G h' hs'=>(TC.mk rfl).2 (let ⟨u,e,t⟩:=(TC.mk rfl).1 h';⟨u,e,TV.stable .ifc u G t hs'⟩))
 | .ptr .anyb,v,F,h,hs=>Zav.2 (psStable (Zav.1 h) hs fun us G h' hs'=>(TC.mk rfl).2 (let ⟨u,e,t⟩:=(TC.mk rfl).1 h';⟨u,e,TV.stable .anyb u G t hs'⟩))
 | .ptr .dead,v,F,h,hs=>Zav.2 (psStable (Zav.1 h) hs fun us G h' hs'=>(TC.mk rfl).2 (let ⟨u,e,t⟩:=(TC.mk rfl).1 h';⟨u,e,TV.stable .dead u G t hs'⟩))
 | .clo f caps,v,F,h,hs=>by
  simp only [TV] at h ⊢
  obtain ⟨hF,vs,h1,h2⟩:=h
  exact ⟨hF,vs,h1,TL.stable caps vs [] h2 (hs.sub (by simp))⟩
theorem TE.stable {X X':Nat→Prop} {o:Bool} {w w':World} {sz:Nat}:∀ (xs:List D) (vs:List Value) (F:List Nat),TE X o w sz xs vs F →
 Same X X' w w' F→TE X' o w' sz xs vs F
 | [],_,_,h,_=>by simpa only [TE] using h
 | x::xs,vs,F,h,hs=>by
  rw [Za8] at h ⊢
  obtain ⟨us,r,F1,F2,h1,h2,rfl,h3,h4⟩:=h
  refine ⟨us,r,F1,F2,h1,h2,rfl,?_,TE.stable xs r F2 h4 hs.right⟩
  have hs1:=hs.left
  cases x with
  | agg fs=>exact TL.stable fs us F1 h3 hs1
  | int k n=>obtain ⟨u,e,t⟩:=h3;exact ⟨u,e,TV.stable (.int k n) u F1 t hs1⟩
  | bool b=>obtain ⟨u,e,t⟩:=h3;exact ⟨u,e,TV.stable (.bool b) u F1 t hs1⟩
  | str b=>obtain ⟨u,e,t⟩:=h3;exact ⟨u,e,TV.stable (.str b) u F1 t hs1⟩
  | sl s l=>obtain ⟨u,e,t⟩:=h3;exact ⟨u,e,TV.stable (.sl s l) u F1 t hs1⟩
  | rs s l=>obtain ⟨u,e,t⟩:=h3;exact ⟨u,e,TV.stable (.rs s l) u F1 t hs1⟩
  | tup l=>obtain ⟨u,e,t⟩:=h3;exact ⟨u,e,TV.stable (.tup l) u F1 t hs1⟩
  | ptr d=>obtain ⟨u,e,t⟩:=h3;exact ⟨u,e,TV.stable (.ptr d) u F1 t hs1⟩
  | clo f l=>obtain ⟨u,e,t⟩:=h3;exact ⟨u,e,TV.stable (.clo f l) u F1 t hs1⟩
  | nili=>obtain ⟨u,e,t⟩:=h3;exact ⟨u,e,TV.stable .nili u F1 t hs1⟩
  | ifc=>obtain ⟨u,e,t⟩:=h3;exact ⟨u,e,TV.stable .ifc u F1 t hs1⟩
  | anyb=>obtain ⟨u,e,t⟩:=h3;exact ⟨u,e,TV.stable .anyb u F1 t hs1⟩
  | dead=>obtain ⟨u,e,t⟩:=h3;exact ⟨u,e,TV.stable .dead u F1 t hs1⟩
theorem TL.stable {X X':Nat→Prop} {o:Bool} {w w':World}:∀ (xs:List D) (vs:List Value) (F:List Nat),TL X o w xs vs F →
 Same X X' w w' F→TL X' o w' xs vs F
 | [],_,_,h,_=>by simpa only [TL] using h
 | x::xs,vs,F,h,hs=>by
  simp only [TL] at h ⊢
  obtain ⟨u,us,F1,F2,h1,rfl,h2,h3⟩:=h
  exact ⟨u,us,F1,F2,h1,rfl,TV.stable x u F1 h2 hs.left,TL.stable xs us F2 h3 hs.right⟩
end
theorem TC.stable {X X':Nat→Prop} {o:Bool} {w w':World} (d:D) {us:List Value} {F:List Nat} (h:TC X o w d us F) (hs:Same X X' w w' F):TC X' o w' d us F:=by
 cases hd:isAgD d with
 | false=>obtain ⟨u,e,t⟩:=(TC.mk hd).1 h;exact (TC.mk hd).2 ⟨u,e,TV.stable d u F t hs⟩
 | true=>cases d<;>simp [isAgD] at hd;exact TL.stable _ us F h hs
end Go.Vm
namespace Go.Vm
open Go
set_option linter.unusedSimpArgs false
set_option linter.unusedVariables false
mutual
theorem TV.lt {X:Nat→Prop} {o:Bool} {w:World}:∀ (d:D) (v:Value) (F:List Nat),TV X o w d v F→∀ b∈F,b < w.heap.size
 | .int _ _,_,_,h=>by simp only [TV] at h;simp [h.2]
 | .bool _,_,_,h=>by simp only [TV] at h;simp [h.2]
 | .str _,_,_,h=>by simp only [TV] at h;simp [h.2]
 | .nili,_,_,h=>by simp only [TV] at h;simp [h.2]
 | .ifc,_,_,h=>by simp only [TV] at h;simp [h.2]
 | .anyb,_,_,h=>by simp only [TV] at h;simp [h.2]
 | .dead,_,_,h=>by simp only [TV] at h;simp [h.2]
 | .sl sz xs,v,F,h=>by
  simp only [TV] at h
  rcases h with h|⟨a,c,vs,h1,h2,h3,h4,hc,h5⟩
  · simp [h.2.2]
  · rcases h5 with ⟨ho,F',rfl,hr,ht⟩|⟨ho,hx,ht⟩
    · intro b hb
      rcases List.mem_cons.1 hb with rfl|hb
      · exact h4
      · exact TE.lt xs vs F' ht b hb
    · exact TE.lt xs vs F ht
 | .rs sz xs,v,F,h=>by simp only [TV] at h;simp [h.1]
 | .agg fs,v,F,h=>by simp only [TV] at h;obtain ⟨vs,_,h⟩:=h;exact TL.lt fs vs F h
 | .tup fs,v,F,h=>by simp only [TV] at h;obtain ⟨vs,_,h⟩:=h;exact TL.lt fs vs F h
 | .ptr d,v,F,h=>by
  obtain ⟨a,us,h1,h2,h4,hc,h5⟩:=Zav.1 h
  have key:∀ G,TC X o w d us G→∀ b∈G,b < w.heap.size:=by
   intro G hG
   cases d with
   | agg fs=>exact TL.lt fs us G hG
   | int k n=>obtain ⟨u,e,t⟩:=hG;exact TV.lt (.int k n) u G t
   | bool b=>obtain ⟨u,e,t⟩:=hG;exact TV.lt (.bool b) u G t
   | str b=>obtain ⟨u,e,t⟩:=hG;exact TV.lt (.str b) u G t
   | sl s l=>obtain ⟨u,e,t⟩:=hG;exact TV.lt (.sl s l) u G t
   | rs s l=>obtain ⟨u,e,t⟩:=hG;exact TV.lt (.rs s l) u G t
   | tup l=>obtain ⟨u,e,t⟩:=hG;exact TV.lt (.tup l) u G t
   | ptr d=>obtain ⟨u,e,t⟩:=hG;exact TV.lt (.ptr d) u G t
   | clo f l=>obtain ⟨u,e,t⟩:=hG;exact TV.lt (.clo f l) u G t
   | nili=>obtain ⟨u,e,t⟩:=hG;exact TV.lt .nili u G t
   | ifc=>obtain ⟨u,e,t⟩:=hG;exact TV.lt .ifc u G t
   | anyb=>obtain ⟨u,e,t⟩:=hG;exact TV.lt .anyb u G t
   | dead=>obtain ⟨u,e,t⟩:=hG;exact TV.lt .dead u G t
  rcases h5 with ⟨ho,F',rfl,hr,ht⟩|⟨ho,hx,ht⟩
  · intro b hb
    rcases List.mem_cons.1 hb with rfl|hb
    · exact h4
    · exact key F' ht b hb
  · exact key F ht
 | .clo f caps,v,F,h=>by simp only [TV] at h;simp [h.1]
theorem TE.lt {X:Nat→Prop} {o:Bool} {w:World} {sz:Nat}:∀ (xs:List D) (vs:List Value) (F:List Nat),TE X o w sz xs vs F→∀ b∈F,b < w.heap.size
 | [],_,_,h=>by simp only [TE] at h;simp [h.2]
 | x::xs,vs,F,h=>by
  rw [Za8] at h
  obtain ⟨us,r,F1,F2,h1,h2,rfl,h3,h4⟩:=h
  have key:∀ b∈F1,b < w.heap.size:=by
   cases x with
   | agg fs=>exact TL.lt fs us F1 h3
   | int k n=>obtain ⟨u,e,t⟩:=h3;exact TV.lt (.int k n) u F1 t
   | bool b=>obtain ⟨u,e,t⟩:=h3;exact TV.lt (.bool b) u F1 t
   | str b=>obtain ⟨u,e,t⟩:=h3;exact TV.lt (.str b) u F1 t
   | sl s l=>obtain ⟨u,e,t⟩:=h3;exact TV.lt (.sl s l) u F1 t
   | rs s l=>obtain ⟨u,e,t⟩:=h3;exact TV.lt (.rs s l) u F1 t
   | tup l=>obtain ⟨u,e,t⟩:=h3;exact TV.lt (.tup l) u F1 t
   | ptr d=>obtain ⟨u,e,t⟩:=h3;exact TV.lt (.ptr d) u F1 t
   | clo f l=>obtain ⟨u,e,t⟩:=h3;exact TV.lt (.clo f l) u F1 t
   | nili=>obtain ⟨u,e,t⟩:=h3;exact TV.lt .nili u F1 t
   | ifc=>obtain ⟨u,e,t⟩:=h3;exact TV.lt .ifc u F1 t
   | anyb=>obtain ⟨u,e,t⟩:=h3;exact TV.lt .anyb u F1 t
   | dead=>obtain ⟨u,e,t⟩:=h3;exact TV.lt .dead u F1 t
  intro b hb
  rcases List.mem_append.1 hb with hb|hb
  · exact key b hb
  · exact TE.lt xs r F2 h4 b hb
theorem TL.lt {X:Nat→Prop} {o:Bool} {w:World}:∀ (xs:List D) (vs:List Value) (F:List Nat),TL X o w xs vs F→∀ b∈F,b < w.heap.size
 | [],_,_,h=>by simp only [TL] at h;simp [h.2]
 | x::xs,vs,F,h=>by
  simp only [TL] at h
  obtain ⟨u,us,F1,F2,h1,rfl,h2,h3⟩:=h
  intro b hb
  rcases List.mem_append.1 hb with hb|hb
  · exact TV.lt x u F1 h2 b hb
  · exact TL.lt xs us F2 h3 b hb
end
structure Cool (w:World) (X X':Nat→Prop) (F:List Nat):Prop where
 out:∀ b,b < w.heap.size→¬ X b→¬ X' b
 fp:∀ b,b∈F→¬ X' b
theorem Cool.sub {w:World} {X X':Nat→Prop} {F G:List Nat} (h:Cool w X X' F) (hs:∀ b,b∈G→b∈F):Cool w X X' G:=⟨h.out,fun b hb=>h.fp b (hs b hb)⟩
mutual
theorem TV.cool {X X':Nat→Prop} {o:Bool} {w:World}:∀ (d:D) (v:Value) (F:List Nat),TV X o w d v F→Cool w X X' F→TV X' false w d v []
 | .int _ _,_,_,h,_=>by simp only [TV] at h ⊢;exact ⟨h.1,trivial⟩
 | .bool _,_,_,h,_=>by simp only [TV] at h ⊢;exact ⟨h.1,trivial⟩
 | .str _,_,_,h,_=>by simp only [TV] at h ⊢;exact ⟨h.1,trivial⟩
 | .nili,_,_,h,_=>by simp only [TV] at h ⊢;exact ⟨h.1,trivial⟩
 | .ifc,_,_,h,_=>by simp only [TV] at h ⊢;exact ⟨h.1,trivial⟩
 | .anyb,_,_,h,_=>by simp only [TV] at h ⊢;exact ⟨h.1,trivial⟩
 | .dead,_,_,h,_=>by simp only [TV] at h ⊢;exact ⟨h.1,trivial⟩
 | .sl sz xs,v,F,h,k=>by
  simp only [TV] at h ⊢
  rcases h with h|⟨a,c,vs,h1,h2,h3,h4,hc,h5⟩
  · exact .inl ⟨h.1,h.2.1.off,trivial⟩
  · refine .inr ⟨a,c,vs,h1,h2,h3,h4,hc,.inr ⟨trivial,?_⟩⟩
    rcases h5 with ⟨ho,F',rfl,hr,ht⟩|⟨ho,hx,ht⟩
    · exact ⟨k.fp _ List.mem_cons_self,TE.cool xs vs F' ht (k.sub fun _=>List.mem_cons_of_mem _)⟩
    · exact ⟨k.out _ h4 hx,TE.cool xs vs F ht k⟩
 | .rs sz xs,v,F,h,k=>by
  simp only [TV] at h ⊢
  obtain ⟨hF,h⟩:=h
  refine ⟨trivial,?_⟩
  rcases h with h|⟨a,c,vs,h1,h2,h3,h4,hc,hx,ht⟩
  · exact .inl h
  · exact .inr ⟨a,c,vs,h1,h2,h3,h4,hc,k.out _ h4 hx,TE.cool xs vs [] ht (k.sub (by simp))⟩
 | .agg fs,v,F,h,k=>by
  simp only [TV] at h ⊢
  obtain ⟨vs,h1,h2⟩:=h
  exact ⟨vs,h1,TL.cool fs vs F h2 k⟩
 | .tup fs,v,F,h,k=>by
  simp only [TV] at h ⊢
  obtain ⟨vs,h1,h2⟩:=h
  exact ⟨vs,h1,TL.cool fs vs F h2 k⟩
 | .ptr d,v,F,h,k=>by
  obtain ⟨a,us,h1,h2,h4,hc,h5⟩:=Zav.1 h
  have key:∀ G,TC X o w d us G→Cool w X X' G→TC X' false w d us []:=by
   intro G hG kG
   cases d with
   | agg fs=>exact TL.cool fs us G hG kG
   | int k n=>obtain ⟨u,e,t⟩:=hG;exact ⟨u,e,TV.cool (.int k n) u G t kG⟩
   | bool b=>obtain ⟨u,e,t⟩:=hG;exact ⟨u,e,TV.cool (.bool b) u G t kG⟩
   | str b=>obtain ⟨u,e,t⟩:=hG;exact ⟨u,e,TV.cool (.str b) u G t kG⟩
   | sl s l=>obtain ⟨u,e,t⟩:=hG;exact ⟨u,e,TV.cool (.sl s l) u G t kG⟩
   | rs s l=>obtain ⟨u,e,t⟩:=hG;exact ⟨u,e,TV.cool (.rs s l) u G t kG⟩
   | tup l=>obtain ⟨u,e,t⟩:=hG;exact ⟨u,e,TV.cool (.tup l) u G t kG⟩
   | ptr d=>obtain ⟨u,e,t⟩:=hG;exact ⟨u,e,TV.cool (.ptr d) u G t kG⟩
   | clo f l=>obtain ⟨u,e,t⟩:=hG;exact ⟨u,e,TV.cool (.clo f l) u G t kG⟩
   | nili=>obtain ⟨u,e,t⟩:=hG;exact ⟨u,e,TV.cool .nili u G t kG⟩
   | ifc=>obtain ⟨u,e,t⟩:=hG;exact ⟨u,e,TV.cool .ifc u G t kG⟩
   | anyb=>obtain ⟨u,e,t⟩:=hG;exact ⟨u,e,TV.cool .anyb u G t kG⟩
   | dead=>obtain ⟨u,e,t⟩:=hG;exact ⟨u,e,TV.cool .dead u G t kG⟩
  refine Zav.2 ⟨a,us,h1,h2,h4,hc,.inr ⟨rfl,?_⟩⟩
  rcases h5 with ⟨ho,F',rfl,hr,ht⟩|⟨ho,hx,ht⟩
  · exact ⟨k.fp _ List.mem_cons_self,key F' ht (k.sub fun _=>List.mem_cons_of_mem _)⟩
  · exact ⟨k.out _ h4 hx,key F ht k⟩
 | .clo f caps,v,F,h,k=>by
  simp only [TV] at h ⊢
  obtain ⟨hF,vs,h1,h2⟩:=h
  exact ⟨trivial,vs,h1,TL.cool caps vs [] h2 (k.sub (by simp))⟩
theorem TE.cool {X X':Nat→Prop} {o:Bool} {w:World} {sz:Nat}:∀ (xs:List D) (vs:List Value) (F:List Nat),TE X o w sz xs vs F→Cool w X X' F→TE X' false w sz xs vs []
 | [],_,_,h,_=>by simp only [TE] at h ⊢;exact ⟨h.1,trivial⟩
 | x::xs,vs,F,h,k=>by
  rw [Za8] at h ⊢
  obtain ⟨us,r,F1,F2,h1,h2,rfl,h3,h4⟩:=h
  refine ⟨us,r,[],[],h1,h2,rfl,?_,TE.cool xs r F2 h4 (k.sub fun _=>List.mem_append_right _)⟩
  have k1:Cool w X X' F1:=k.sub fun _=>List.mem_append_left _
  cases x with
  | agg fs=>exact TL.cool fs us F1 h3 k1
  | int k n=>obtain ⟨u,e,t⟩:=h3;exact ⟨u,e,TV.cool (.int k n) u F1 t k1⟩
  | bool b=>obtain ⟨u,e,t⟩:=h3;exact ⟨u,e,TV.cool (.bool b) u F1 t k1⟩
  | str b=>obtain ⟨u,e,t⟩:=h3;exact ⟨u,e,TV.cool (.str b) u F1 t k1⟩
  | sl s l=>obtain ⟨u,e,t⟩:=h3;exact ⟨u,e,TV.cool (.sl s l) u F1 t k1⟩
  | rs s l=>obtain ⟨u,e,t⟩:=h3;exact ⟨u,e,TV.cool (.rs s l) u F1 t k1⟩
  | tup l=>obtain ⟨u,e,t⟩:=h3;exact ⟨u,e,TV.cool (.tup l) u F1 t k1⟩
  | ptr d=>obtain ⟨u,e,t⟩:=h3;exact ⟨u,e,TV.cool (.ptr d) u F1 t k1⟩
  | clo f l=>obtain ⟨u,e,t⟩:=h3;exact ⟨u,e,TV.cool (.clo f l) u F1 t k1⟩
  | nili=>obtain ⟨u,e,t⟩:=h3;exact ⟨u,e,TV.cool .nili u F1 t k1⟩
  | ifc=>obtain ⟨u,e,t⟩:=h3;exact ⟨u,e,TV.cool .ifc u F1 t k1⟩
  | anyb=>obtain ⟨u,e,t⟩:=h3;exact ⟨u,e,TV.cool .anyb u F1 t k1⟩
  | dead=>obtain ⟨u,e,t⟩:=h3;exact ⟨u,e,TV.cool .dead u F1 t k1⟩
theorem TL.cool {X X':Nat→Prop} {o:Bool} {w:World}:∀ (xs:List D) (vs:List Value) (F:List Nat),TL X o w xs vs F→Cool w X X' F→TL X' false w xs vs []
 | [],_,_,h,_=>by simp only [TL] at h ⊢;exact ⟨h.1,trivial⟩
 | x::xs,vs,F,h,k=>by
  simp only [TL] at h ⊢
  obtain ⟨u,us,F1,F2,h1,rfl,h2,h3⟩:=h
  exact ⟨u,us,[],[],h1,rfl,TV.cool x u F1 h2 (k.sub fun _=>List.mem_append_left _),TL.cool xs us F2 h3 (k.sub fun _=>List.mem_append_right _)⟩
end
end Go.Vm
namespace Go.Vm
open Go
set_option linter.unusedSimpArgs false
set_option linter.unusedVariables false
theorem TV.nof {X:Nat→Prop} {w:World} {d:D} {v:Value} {F:List Nat} (h:TV X false w d v F):F=[]:=by
 have:=(TV.lt d v F h)
 revert h
 cases F with
 | nil=>intro _;rfl
 | cons b F =>
  intro h
  exact absurd h (by
   have key:∀ (d:D) (v:Value) (F:List Nat),TV X false w d v F→F=[]:=by
    have main:(∀ (d:D) (v:Value) (F:List Nat),TV X false w d v F→F=[]):=by
     intro d
     refine D.rec (motive_1:=fun d=>∀ v F,TV X false w d v F→F=[]) (motive_2:=fun xs=>(∀ sz vs F,TE X false w sz xs vs F→F=[])∧(∀ vs F,TL X false w xs vs F→F=[]))
      ?_ ?_ ?_ ?_ ?_ ?_ ?_ ?_ ?_ ?_ ?_ ?_ ?_ ?_ ?_ d
     · intro k n v F h;simp only [TV] at h;exact h.2
     · intro b v F h;simp only [TV] at h;exact h.2
     · intro b v F h;simp only [TV] at h;exact h.2
     · intro sz xs ih v F h
       simp only [TV] at h
       rcases h with h|⟨a,c,vs,h1,h2,h3,h4,hc,h5⟩
       · exact h.2.2
       · rcases h5 with ⟨ho,_⟩|⟨_,_,ht⟩
         · exact absurd ho (by simp)
         · exact ih.1 _ _ _ ht
     · intro sz xs ih v F h;simp only [TV] at h;exact h.1
     · intro xs ih v F h;simp only [TV] at h;obtain ⟨vs,_,h⟩:=h;exact ih.2 _ _ h
     · intro xs ih v F h;simp only [TV] at h;obtain ⟨vs,_,h⟩:=h;exact ih.2 _ _ h
     · intro d ih v F h
       obtain ⟨a,us,h1,h2,h4,hc,h5⟩:=Zav.1 h
       rcases h5 with ⟨ho,_⟩|⟨_,_,ht⟩
       · exact absurd ho (by simp)
       · cases hd:isAgD d with
         | false=>obtain ⟨u,e,t⟩:=(TC.mk hd).1 ht;exact ih _ _ t
         | true =>
          cases d<;>simp [isAgD] at hd
          exact ih (.agg us.toArray) F (by simp only [TV];exact ⟨us,rfl,ht⟩)
     · intro f xs ih v F h;simp only [TV] at h;exact h.1
     · intro v F h;simp only [TV] at h;exact h.2
     · intro v F h;simp only [TV] at h;exact h.2
     · intro v F h;simp only [TV] at h;exact h.2
     · intro v F h;simp only [TV] at h;exact h.2
     · exact ⟨fun sz vs F h=>by simp only [TE] at h;exact h.2,fun vs F h=>by simp only [TL] at h;exact h.2⟩
     · intro x xs ih1 ih2
       refine ⟨fun sz vs F h=>?_,fun vs F h=>?_⟩
       · rw [Za8] at h
         obtain ⟨us,r,F1,F2,h1,h2,rfl,h3,h4⟩:=h
         rw [ih2.1 _ _ _ h4]
         cases hd:isAgD x with
         | false=>obtain ⟨u,e,t⟩:=(TC.mk hd).1 h3;rw [ih1 _ _ t];rfl
         | true =>
          cases x<;>simp [isAgD] at hd
          rw [ih1 (.agg us.toArray) F1 (by simp only [TV];exact ⟨us,rfl,h3⟩)];rfl
       · simp only [TL] at h
         obtain ⟨u,us,F1,F2,h1,rfl,h2,h3⟩:=h
         rw [ih1 _ _ h2,ih2.2 _ _ h3];rfl
    exact main
   intro h;exact List.cons_ne_nil _ _ (key d v _ h))
theorem TE.nof {X:Nat→Prop} {w:World} {sz:Nat} {xs:List D} {vs:List Value} {F:List Nat} (h:TE X false w sz xs vs F):F=[]:=by
 induction xs generalizing vs F with
 | nil=>simp only [TE] at h;exact h.2
 | cons x xs ih =>
  rw [Za8] at h
  obtain ⟨us,r,F1,F2,h1,h2,rfl,h3,h4⟩:=h
  rw [ih h4,List.append_nil]
  cases hd:isAgD x with
  | false=>obtain ⟨u,e,t⟩:=(TC.mk hd).1 h3;exact t.nof
  | true =>
   cases x<;>simp [isAgD] at hd
   exact TV.nof (d:=.agg _) (v:=.agg us.toArray) (by simp only [TV];exact ⟨us,rfl,h3⟩)
theorem TL.nof {X:Nat→Prop} {w:World} {xs:List D} {vs:List Value} {F:List Nat} (h:TL X false w xs vs F):F=[] :=
 TV.nof (d:=.agg xs) (v:=.agg vs.toArray) (by simp only [TV];exact ⟨vs,rfl,h⟩)
theorem TC.nof {X:Nat→Prop} {w:World} {d:D} {vs:List Value} {F:List Nat} (h:TC X false w d vs F):F=[]:=by
 cases hd:isAgD d with
 | false=>obtain ⟨u,e,t⟩:=(TC.mk hd).1 h;exact t.nof
 | true=>cases d<;>simp [isAgD] at hd;exact TL.nof h
theorem TV.sc1 {X X':Nat→Prop} {o o':Bool} {w w':World} {d:D} {v:Value} {F:List Nat} (hs:isSc1 d=true) (h:TV X o w d v F) :
 F=[]∧TV X' o' w' d v []:=by
 cases d<;>first|(simp only [TV] at h ⊢;exact ⟨h.2,h.1,trivial⟩)|(simp [isSc1] at hs;done)
theorem TL.sc {X X':Nat→Prop} {o o':Bool} {w w':World}:∀ {fs:List D} {vs:List Value} {F:List Nat},fs.all isSc1=true→TL X o w fs vs F →
 F=[]∧TL X' o' w' fs vs []
 | [],vs,F,_,h=>by simp only [TL] at h ⊢;exact ⟨h.2,h.1,trivial⟩
 | x::xs,vs,F,hs,h=>by
  simp only [List.all_cons,Bool.and_eq_true] at hs
  simp only [TL] at h ⊢
  obtain ⟨u,us,F1,F2,h1,rfl,h2,h3⟩:=h
  have k2:=TV.sc1 (X':=X') (o':=o') (w':=w') hs.1 h2
  have k3:=TL.sc (X':=X') (o':=o') (w':=w') hs.2 h3
  exact ⟨by rw [k2.1,k3.1];rfl,u,us,[],[],h1,rfl,k2.2,k3.2⟩
theorem TV.sc {X X':Nat→Prop} {o o':Bool} {w w':World} {d:D} {v:Value} {F:List Nat} (hs:isSc d=true) (h:TV X o w d v F) :
 F=[]∧TV X' o' w' d v []:=by
 cases d with
 | agg fs =>
  simp only [isSc] at hs
  simp only [TV] at h ⊢
  obtain ⟨vs,h1,h2⟩:=h
  obtain ⟨h3,h4⟩:=TL.sc (X':=X') (o':=o') (w':=w') hs h2
  exact ⟨h3,vs,h1,h4⟩
 | tup fs =>
  simp only [isSc] at hs
  simp only [TV] at h ⊢
  obtain ⟨vs,h1,h2⟩:=h
  obtain ⟨h3,h4⟩:=TL.sc (X':=X') (o':=o') (w':=w') hs h2
  exact ⟨h3,vs,h1,h4⟩
 | _=>exact TV.sc1 (by simpa [isSc] using hs) h
theorem TV.rs1 {X:Nat→Prop} {o:Bool} {w:World} {d:D} {v:Value} {F:List Nat} (h:TV X false w d v F) (hp:∀ e,d≠.ptr e) (ha:∀ e,d≠.agg e) (ht:∀ e,d≠.tup e):TV X o w (rs1 d) v []:=by
 have hF:=h.nof
 subst hF
 cases d with
 | sl sz xs =>
  simp only [TV] at h
  simp only [Vm.rs1,TV]
  refine ⟨trivial,?_⟩
  rcases h with h|⟨a,c,vs,h1,h2,h3,h4,hc,h5⟩
  · exact .inl ⟨h.1,h.2.1⟩
  · rcases h5 with ⟨ho,_⟩|⟨_,hx,ht⟩
    · exact absurd ho (by simp)
    · exact .inr ⟨a,c,vs,h1,h2,h3,h4,hc,hx,ht⟩
 | ptr d=>exact absurd rfl (hp d)
 | agg d=>exact absurd rfl (ha d)
 | tup d=>exact absurd rfl (ht d)
 | _=>simp only [Vm.rs1];simpa only [TV] using h
theorem TV.sl_rs {X:Nat→Prop} {o:Bool} {w:World} {sz:Nat} {xs:List D} {v:Value} {F:List Nat} (h:TV X o w (.rs sz xs) v F) :
 F=[]∧TV X false w (.sl sz xs) v []:=by
 simp only [TV] at h ⊢
 obtain ⟨hF,h⟩:=h
 refine ⟨hF,?_⟩
 rcases h with h|⟨a,c,vs,h1,h2,h3,h4,hc,hx,ht⟩
 · exact .inl ⟨h.1,h.2,trivial⟩
 · exact .inr ⟨a,c,vs,h1,h2,h3,h4,hc,.inr ⟨trivial,hx,ht⟩⟩
theorem TV.rs_sl {X:Nat→Prop} {o:Bool} {w:World} {sz:Nat} {xs:List D} {v:Value} {F:List Nat} (h:TV X false w (.sl sz xs) v F) :
 TV X o w (.rs sz xs) v []:=TV.rs1 (o:=o) h (by simp) (by simp) (by simp)
theorem TC.len {X:Nat→Prop} {o:Bool} {w:World} {d:D} {us:List Value} {F:List Nat} (h:TC X o w d us F):us.length=d.size:=by
 have hl:∀ (fs:List D) (us:List Value) (F:List Nat),TL X o w fs us F→us.length=fs.length:=by
  intro fs
  induction fs with
  | nil=>intro us F h;simp only [TL] at h;simp [h.1]
  | cons x xs ih =>
   intro us F h
   simp only [TL] at h
   obtain ⟨u,r,F1,F2,h1,_,_,h3⟩:=h
   rw [h1,List.length_cons,ih _ _ h3,List.length_cons]
 cases d with
 | agg fs=>exact hl fs us F h
 | _=>obtain ⟨u,e,t⟩:=h;simp [e,D.size]
theorem TE.len {X:Nat→Prop} {o:Bool} {w:World} {sz:Nat}:∀ {xs:List D} {vs:List Value} {F:List Nat},TE X o w sz xs vs F→vs.length=xs.length * sz
 | [],vs,F,h=>by simp only [TE] at h;simp [h.1]
 | x::xs,vs,F,h=>by
  rw [Za8] at h
  obtain ⟨us,r,F1,F2,h1,h2,rfl,h3,h4⟩:=h
  rw [h1,List.length_append,h2.1,TE.len h4,List.length_cons,Nat.add_mul];omega
theorem TE.append {X:Nat→Prop} {o:Bool} {w:World} {sz:Nat} {ys:List D}:∀ {xs:List D} {vs us:List Value} {F G:List Nat},TE X o w sz xs vs F→TE X o w sz ys us G →
 TE X o w sz (xs++ys) (vs++us) (F++G)
 | [],vs,us,F,G,h,k=>by simp only [TE] at h;rw [h.1,h.2];exact k
 | x::xs,vs,us,F,G,h,k=>by
  rw [Za8] at h
  obtain ⟨u,r,F1,F2,rfl,h2,rfl,h3,h4⟩:=h
  rw [List.cons_append,Za8]
  exact ⟨u,r++us,F1,F2++G,by simp,h2,by simp,h3,TE.append h4 k⟩
theorem TE.split {X:Nat→Prop} {o:Bool} {w:World} {sz:Nat} {ys:List D}:∀ {xs:List D} {vs:List Value} {F:List Nat},TE X o w sz (xs++ys) vs F →
 ∃ v1 v2 F1 F2,vs=v1++v2∧F=F1++F2∧TE X o w sz xs v1 F1∧TE X o w sz ys v2 F2
 | [],vs,F,h=>⟨[],vs,[],F,rfl,rfl,by simp only [TE];exact ⟨trivial,trivial⟩,h⟩
 | x::xs,vs,F,h=>by
  rw [List.cons_append,Za8] at h
  obtain ⟨us,r,F1,F2,rfl,h2,rfl,h3,h4⟩:=h
  obtain ⟨v1,v2,G1,G2,rfl,rfl,k1,k2⟩:=TE.split h4
  exact ⟨us++v1,v2,F1++G1,G2,by simp,by simp,by rw [Za8];exact ⟨us,v1,F1,G1,rfl,h2,rfl,h3,k1⟩,k2⟩
theorem TE.one {X:Nat→Prop} {o:Bool} {w:World} {sz:Nat} {x:D} {us:List Value} {F:List Nat} (h:TC X o w x us F) (hs:x.size=sz) (ho:∀ u∈us,u.oneCell'=true):TE X o w sz [x] us F:=by
 rw [Za8]
 exact ⟨us,[],F,[],by simp,⟨by rw [h.len,hs],ho⟩,by simp,h,by simp only [TE];exact ⟨trivial,trivial⟩⟩
theorem TE.get {X:Nat→Prop} {o:Bool} {w:World} {sz:Nat} {xs:List D} {vs:List Value} {F:List Nat} (h:TE X o w sz xs vs F) {i:Nat} {x:D} (hi:xs[i]? = some x) :
 ∃ v1 us v2 F1 Fi F2,vs=v1++us++v2∧F=F1++Fi++F2∧v1.length=i * sz∧(us.length=sz∧∀ u∈us,u.oneCell'=true)∧x.size=sz∧TC X o w x us Fi ∧
  TE X o w sz (xs.take i) v1 F1∧TE X o w sz (xs.drop (i+1)) v2 F2:=by
 have hlt:i < xs.length:=(List.getElem?_eq_some_iff.1 hi).1
 have hx:xs=xs.take i++x::xs.drop (i+1):=by
  have hxi:xs[i]=x:=(List.getElem?_eq_some_iff.1 hi).2
  rw [← hxi,List.getElem_cons_drop,List.take_append_drop]
 rw [hx] at h
 obtain ⟨v1,v2,F1,F2,rfl,rfl,h1,h2⟩:=TE.split h
 rw [Za8] at h2
 obtain ⟨us,r,G1,G2,rfl,k2,rfl,k3,k4⟩:=h2
 refine ⟨v1,us,r,F1,G1,G2,by simp,by simp,?_,k2,?_,k3,h1,k4⟩
 · rw [h1.len,List.length_take,Nat.min_eq_left (Nat.le_of_lt hlt)]
 · rw [← k3.len,k2.1]
theorem TE.set {X:Nat→Prop} {o:Bool} {w:World} {sz:Nat} {xs:List D} {v1 us v2:List Value} {F1 Fi F2:List Nat} {i:Nat} {y:D} (hi:i < xs.length)
 (h1:TE X o w sz (xs.take i) v1 F1) (h2:TC X o w y us Fi) (hy:y.size=sz) (ho:∀ u∈us,u.oneCell'=true) (h3:TE X o w sz (xs.drop (i+1)) v2 F2) :
 TE X o w sz (xs.set i y) (v1++us++v2) (F1++Fi++F2):=by
 rw [List.set_eq_take_append_cons_drop,if_pos hi,List.append_assoc,List.append_assoc]
 exact TE.append h1 (by rw [Za8];exact ⟨us,v2,Fi,F2,rfl,⟨by rw [h2.len,hy],ho⟩,rfl,h2,h3⟩)
theorem TL.get {X:Nat→Prop} {o:Bool} {w:World}:∀ {fs:List D} {us:List Value} {F:List Nat} {j:Nat} {d:D},TL X o w fs us F→fs[j]? = some d →
 ∃ u1 u u2 F1 Fj F2,us=u1++u::u2∧F=F1++Fj++F2∧u1.length=j∧TV X o w d u Fj∧TL X o w (fs.take j) u1 F1∧TL X o w (fs.drop (j+1)) u2 F2
 | [],us,F,j,d,h,hj=>by simp at hj
 | x::xs,us,F,0,d,h,hj=>by
  simp only [TL] at h
  obtain ⟨u,r,F1,F2,rfl,rfl,h2,h3⟩:=h
  simp at hj
  subst hj
  exact ⟨[],u,r,[],F1,F2,rfl,by simp,rfl,h2,by simp only [List.take_zero,TL];exact ⟨trivial,trivial⟩,by simpa using h3⟩
 | x::xs,us,F,j+1,d,h,hj=>by
  simp only [TL] at h
  obtain ⟨u,r,F1,F2,rfl,rfl,h2,h3⟩:=h
  obtain ⟨u1,u',u2,G1,Gj,G2,rfl,rfl,hl,k1,k2,k3⟩:=TL.get h3 (by simpa using hj)
  exact ⟨u::u1,u',u2,F1++G1,Gj,G2,rfl,by simp,by simp [hl],k1,by simp only [List.take_succ_cons,TL];exact ⟨u,u1,F1,G1,rfl,rfl,h2,k2⟩,by simpa using k3⟩
theorem TL.append {X:Nat→Prop} {o:Bool} {w:World} {gs:List D}:∀ {fs:List D} {us vs:List Value} {F G:List Nat},TL X o w fs us F→TL X o w gs vs G →
 TL X o w (fs++gs) (us++vs) (F++G)
 | [],us,vs,F,G,h,k=>by simp only [TL] at h;rw [h.1,h.2];exact k
 | x::xs,us,vs,F,G,h,k=>by
  simp only [TL] at h
  obtain ⟨u,r,F1,F2,rfl,rfl,h2,h3⟩:=h
  simp only [List.cons_append,TL]
  exact ⟨u,r++vs,F1,F2++G,rfl,by simp,h2,TL.append h3 k⟩
theorem TL.set {X:Nat→Prop} {o:Bool} {w:World} {fs:List D} {u1 u2:List Value} {u:Value} {F1 Fj F2:List Nat} {j:Nat} {d:D} (hj:j < fs.length)
 (h1:TL X o w (fs.take j) u1 F1) (h2:TV X o w d u Fj) (h3:TL X o w (fs.drop (j+1)) u2 F2):TL X o w (fs.set j d) (u1++u::u2) (F1++Fj++F2):=by
 rw [List.set_eq_take_append_cons_drop,if_pos hj,List.append_assoc]
 exact TL.append h1 (by simp only [TL];exact ⟨u,u2,Fj,F2,rfl,rfl,h2,h3⟩)
theorem ZaW (a:Addr) (m n:Nat):(a.add m).add n=a.add (m+n):=by
 unfold Addr.add
 by_cases hm:m=0
 · subst hm;simp
 · by_cases hn:n=0
   · subst hn;simp [hm]
   · simp [hm,hn,Nat.add_assoc]
theorem CL.left {w:World} {a:Addr} {vs us:List Value} (h:CL w a (vs++us)):CL w a vs:=fun k v hk =>
 h k v (by rw [List.getElem?_append_left (List.getElem?_eq_some_iff.1 hk).1];exact hk)
theorem CL.right {w:World} {a:Addr} {vs us:List Value} (h:CL w a (vs++us)):CL w (a.add vs.length) us:=fun k v hk=>by
 rw [ZaW];exact h (vs.length+k) v (by rw [List.getElem?_append_right (by omega)];simpa using hk)
theorem CL.join {w:World} {a:Addr} {vs us:List Value} (h:CL w a vs) (k:CL w (a.add vs.length) us):CL w a (vs++us):=fun i v hi=>by
 by_cases hlt:i < vs.length
 · exact h i v (by rwa [List.getElem?_append_left hlt] at hi)
 · have:=k (i - vs.length) v (by rwa [List.getElem?_append_right (by omega)] at hi)
   rw [ZaW] at this
   rwa [show vs.length+(i - vs.length)=i from by omega] at this
end Go.Vm
namespace Go.Vm
open Go
set_option linter.unusedSimpArgs false
set_option linter.unusedVariables false
structure G where
 U:Nat→Prop
 AD:Nat→Addr
 SZ:Nat→Nat
 BS:Nat→Nat
 VR:Nat→Prop
 FP:Nat→List Nat
 P:Nat→Prop
 PB:Nat→Prop
def Own (g:G) (M:Mem) (b:Nat):Prop:=g.P b∨∃ l o,M.m l=some o∧b∈g.FP o.ver
def Base (g:G) (M:Mem) (b:Nat):Prop:=g.PB b∨∃ l o,M.m l=some o∧b∈g.FP o.ver∧b=(g.AD o.ver).block
def XA (g:G) (Y:Nat→Prop) (M:Mem) (b:Nat):Prop:=Y b∨Own g M b
def XB (g:G) (Y:Nat→Prop) (M:Mem) (b:Nat):Prop:=Y b∨Base g M b
mutual
def SV (g:G) (Y:Nat→Prop) (M:Mem) (w:World):AV→Value→Prop
 | .bad,_=>True
 | .dat none d,v=>TV (XA g Y M) false w d v []
 | .dat (some e) d,v=>e≤M.e∧(e=M.e→TV (XB g Y M) false w d v [])
 | .dp none d,v=>TV (XA g Y M) false w (.ptr d) v []
 | .dp (some e) d,v=>e≤M.e∧(e=M.e→TV (XB g Y M) false w (.ptr d) v [])
 | .nil _,v=>v=.slice none 0 0
 | .sl _ id off len sz,v=>g.U id∧g.SZ id=sz∧((g.VR id∧v=.slice none 0 0∧len=0∧off=0) ∨
  (¬ g.VR id∧∃ a c,v=.slice (some a) len c∧a.spot=none∧a.block=(g.AD id).block∧len≤c∧(c=0∨a=(g.AD id).add (off * sz))∧off * sz+c * sz≤g.BS id))
 | .ptr _ id i j,v=>g.U id∧¬ g.VR id∧v=.pointer (some ((g.AD id).add (i * g.SZ id+j.getD 0)))
 | .ref l id r i j,v=>r≤M.r∧(r=M.r→g.U id∧∀ own sz xs,M.m l=some (.arr id own sz xs) →
  own=true∧¬ g.VR id∧∃ d,(xs[i]?).bind (fldD · j)=some d∧isAgD d=false∧w.cell? ((g.AD id).add (i * sz+j.getD 0))=some v)
 | .agg xs,v=>∃ vs:List Value,v=.agg vs.toArray∧SVL g Y M w xs vs
 | .tup xs,v=>∃ vs:List Value,v=.tuple vs.toArray∧SVL g Y M w xs vs
 | .clo f xs,v=>∃ vs:List Value,v=.func (.func f) #[] vs.toArray∧SVL g Y M w xs vs
def SVL (g:G) (Y:Nat→Prop) (M:Mem) (w:World):List AV→List Value→Prop
 | [],vs=>vs=[]
 | x::xs,vs=>∃ u us,vs=u::us∧SV g Y M w x u∧SVL g Y M w xs us
end
def isArrO:Obj→Bool
 | .arr _ _ _ _=>true
 | .box _ _=>false
def Rows (w w':World):Prop:=∀ (b:Nat) (cs:Array Value) (E:TypeId) (fr:Nat×Nat),w.heap[b]? = some (.cells cs E fr)→∃ cs' E',w'.heap[b]? = some (.cells cs' E' fr)∧cs'.size=cs.size
theorem Rows.same {w w':World} (h:w'.heap=w.heap):Rows w w':=fun b cs E fr k=>⟨cs,E,by rw [h];exact k,rfl⟩
theorem Rows.push {w w':World} {ob:Go.Obj} (h:w'.heap=w.heap.push ob):Rows w w':=fun b cs E fr k=>by
 refine ⟨cs,E,?_,rfl⟩
 have hb:b < w.heap.size:=(Array.getElem?_eq_some_iff.1 k).1
 rw [h,Array.getElem?_push]
 simpa [show ¬ b=w.heap.size by omega] using k
theorem Rows.trans {w w1 w2:World} (a:Rows w w1) (b:Rows w1 w2):Rows w w2:=fun x cs E fr k=>by
 obtain ⟨cs1,E1,k1,e1⟩:=a x cs E fr k
 obtain ⟨cs2,E2,k2,e2⟩:=b x cs1 E1 fr k1
 exact ⟨cs2,E2,k2,e2.trans e1⟩
theorem Rows.rm {w w':World} (h:Rows w w') {a:Addr} {n:Nat} (k:RM w a n):RM w' a n:=by
 obtain ⟨cs,E,k1,k2⟩:=k
 obtain ⟨cs',E',q1,q2⟩:=h _ _ _ _ k1
 exact ⟨cs',E',q1,by rw [q2];exact k2⟩
def IOk (w w':World):Prop:=w'.os=w.os∧w'.output=w.output∧w'.tape=w.tape∧Rows w w'
theorem IOk.refl {w:World}:IOk w w:=⟨rfl,rfl,rfl,Rows.same rfl⟩
theorem IOk.trans {w w1 w2:World} (a:IOk w w1) (b:IOk w1 w2):IOk w w2:=⟨b.1.trans a.1,b.2.1.trans a.2.1,b.2.2.1.trans a.2.2.1,a.2.2.2.trans b.2.2.2⟩
structure Stp (g:G) (M:Mem) (w:World) (g':G) (M':Mem) (w':World):Prop where
 size:w.heap.size≤w'.heap.size
 heap:∀ b,b < w.heap.size→¬ Own g M b→w'.heap[b]? = w.heap[b]?
 own:∀ b,Own g' M' b→Own g M b∨w.heap.size≤b
 gh:∀ id,g.U id→g'.U id∧g'.AD id=g.AD id∧g'.SZ id=g.SZ id∧g'.BS id=g.BS id∧(g'.VR id↔g.VR id)
 e:M.e≤M'.e
 r:M.r≤M'.r
 base:M'.e=M.e→(∀ b,b < w.heap.size→¬ Base g M b→w'.heap[b]? = w.heap[b]?)∧(∀ b,Base g' M' b→Base g M b∨w.heap.size≤b)
 ref:M'.r=M.r→∀ l o',M'.m l=some o'→g.U o'.ver→isArrO o'=true→M.m l=some o'∧(¬ g.VR o'.ver→w'.heap[(g.AD o'.ver).block]? = w.heap[(g.AD o'.ver).block]?)
 io:IOk w w'
theorem Stp.refl (g:G) (M:Mem) (w:World):Stp g M w g M w :=
 ⟨Nat.le_refl _,fun _ _ _=>rfl,fun _ h=>.inl h,fun _ h=>⟨h,rfl,rfl,rfl,Iff.rfl⟩,Nat.le_refl _,Nat.le_refl _,fun _=>⟨fun _ _ _=>rfl,fun _ h=>.inl h⟩,
  fun _ _ _ h _ _=>⟨h,fun _=>rfl⟩,IOk.refl⟩
theorem Stp.trans {g g1 g2:G} {M M1 M2:Mem} {w w1 w2:World} (a:Stp g M w g1 M1 w1) (b:Stp g1 M1 w1 g2 M2 w2):Stp g M w g2 M2 w2 where
 size:=Nat.le_trans a.size b.size
 io:=a.io.trans b.io
 heap:=fun x hx hn=>by
  rw [b.heap x (Nat.lt_of_lt_of_le hx a.size) (fun h=>by rcases a.own x h with h|h;exact hn h;omega),a.heap x hx hn]
 own:=fun x h=>by
  rcases b.own x h with h|h
  · exact a.own x h
  · exact .inr (Nat.le_trans a.size h)
 gh:=fun id h=>by
  obtain ⟨h1,h2,h3,h4,h5⟩:=a.gh id h
  obtain ⟨k1,k2,k3,k4,k5⟩:=b.gh id h1
  exact ⟨k1,k2.trans h2,k3.trans h3,k4.trans h4,k5.trans h5⟩
 e:=Nat.le_trans a.e b.e
 r:=Nat.le_trans a.r b.r
 base:=fun he=>by
  have e1:M1.e=M.e:=Nat.le_antisymm (he▸b.e) a.e
  have e2:M2.e=M1.e:=he.trans e1.symm
  obtain ⟨h1,h2⟩:=a.base e1
  obtain ⟨k1,k2⟩:=b.base e2
  refine ⟨fun x hx hn=>?_,fun x h=>?_⟩
  · rw [k1 x (Nat.lt_of_lt_of_le hx a.size) (fun h=>by rcases h2 x h with h|h;exact hn h;omega),h1 x hx hn]
  · rcases k2 x h with h|h
    · exact h2 x h
    · exact .inr (Nat.le_trans a.size h)
 ref:=fun hr l o' h hu ha=>by
  have r1:M1.r=M.r:=Nat.le_antisymm (hr▸b.r) a.r
  have r2:M2.r=M1.r:=hr.trans r1.symm
  obtain ⟨h1,h2⟩:=b.ref r2 l o' h (a.gh _ hu).1 ha
  obtain ⟨k1,k2⟩:=a.ref r1 l o' h1 hu ha
  refine ⟨k1,fun hv=>?_⟩
  have h2':=h2 (fun k=>hv ((a.gh _ hu).2.2.2.2.1 k))
  rw [(a.gh _ hu).2.1] at h2'
  exact h2'.trans (k2 hv)
theorem Stp.sameA {g g':G} {Y:Nat→Prop} {M M':Mem} {w w':World} (a:Stp g M w g' M' w'):Same (XA g Y M) (XA g' Y M') w w' [] where
 size:=a.size
 out:=fun b hb hn hx=>by
  rcases hx with hx|hx
  · exact hn (.inl hx)
  · rcases a.own b hx with h|h
    · exact hn (.inr h)
    · omega
 heap:=fun b hb h=>by
  rcases h with h|h
  · exact a.heap b hb (fun k=>h (.inr k))
  · cases h
theorem Stp.sameB {g g':G} {Y:Nat→Prop} {M M':Mem} {w w':World} (a:Stp g M w g' M' w') (he:M'.e=M.e):Same (XB g Y M) (XB g' Y M') w w' [] where
 size:=a.size
 out:=fun b hb hn hx=>by
  rcases hx with hx|hx
  · exact hn (.inl hx)
  · rcases (a.base he).2 b hx with h|h
    · exact hn (.inr h)
    · omega
 heap:=fun b hb h=>by
  rcases h with h|h
  · exact (a.base he).1 b hb (fun k=>h (.inr k))
  · cases h
mutual
theorem SV.stp {g g':G} {Y:Nat→Prop} {M M':Mem} {w w':World} (a:Stp g M w g' M' w'):∀ (x:AV) (v:Value),SV g Y M w x v→SV g' Y M' w' x v
 | .bad,_,_=>by simp only [SV]
 | .dat none d,v,h=>by simp only [SV] at h ⊢;exact TV.stable d v [] h a.sameA
 | .dat (some e) d,v,h=>by
  simp only [SV] at h ⊢
  refine ⟨Nat.le_trans h.1 a.e,fun he=>?_⟩
  have e1:e=M.e:=Nat.le_antisymm h.1 (he▸a.e)
  exact TV.stable d v [] (h.2 e1) (a.sameB (he.symm.trans e1))
 | .dp none d,v,h=>by simp only [SV] at h ⊢;exact TV.stable _ v [] h a.sameA
 | .dp (some e) d,v,h=>by
  simp only [SV] at h ⊢
  refine ⟨Nat.le_trans h.1 a.e,fun he=>?_⟩
  have e1:e=M.e:=Nat.le_antisymm h.1 (he▸a.e)
  exact TV.stable _ v [] (h.2 e1) (a.sameB (he.symm.trans e1))
 | .nil _,v,h=>by simpa only [SV] using h
 | .sl l id off len sz,v,h=>by
  simp only [SV] at h ⊢
  obtain ⟨hu,h⟩:=h
  obtain ⟨k1,k2,k3,k4,k5⟩:=a.gh id hu
  rw [k2,k3,k4,k5]
  exact ⟨k1,h⟩
 | .ptr l id i j,v,h=>by
  simp only [SV] at h ⊢
  obtain ⟨hu,h⟩:=h
  obtain ⟨k1,k2,k3,k4,k5⟩:=a.gh id hu
  rw [k2,k3,k5]
  exact ⟨k1,h⟩
 | .ref l id r i j,v,h=>by
  simp only [SV] at h ⊢
  refine ⟨Nat.le_trans h.1 a.r,fun hr=>?_⟩
  have r1:r=M.r:=Nat.le_antisymm h.1 (hr▸a.r)
  obtain ⟨hu,h2⟩:=h.2 r1
  obtain ⟨k1,k2,k3,k4,k5⟩:=a.gh id hu
  refine ⟨k1,fun own sz xs hm=>?_⟩
  obtain ⟨q1,q2⟩:=a.ref (hr.symm.trans r1) l _ hm hu rfl
  obtain ⟨p0,p1,d,p2,p3,p4⟩:=h2 own sz xs q1
  have hc:w'.cell? ((g.AD id).add (i * sz+j.getD 0))=w.cell? ((g.AD id).add (i * sz+j.getD 0)):=ZmG (by simpa only [ZaC,Obj.ver] using q2 p1)
  exact ⟨p0,fun hv=>p1 (k5.1 hv),d,p2,p3,by rw [k2,hc];exact p4⟩
 | .agg xs,v,h=>by simp only [SV] at h ⊢;obtain ⟨vs,h1,h2⟩:=h;exact ⟨vs,h1,SVL.stp a xs vs h2⟩
 | .tup xs,v,h=>by simp only [SV] at h ⊢;obtain ⟨vs,h1,h2⟩:=h;exact ⟨vs,h1,SVL.stp a xs vs h2⟩
 | .clo f xs,v,h=>by simp only [SV] at h ⊢;obtain ⟨vs,h1,h2⟩:=h;exact ⟨vs,h1,SVL.stp a xs vs h2⟩
theorem SVL.stp {g g':G} {Y:Nat→Prop} {M M':Mem} {w w':World} (a:Stp g M w g' M' w'):∀ (xs:List AV) (vs:List Value),SVL g Y M w xs vs→SVL g' Y M' w' xs vs
 | [],vs,h=>by simpa only [SVL] using h
 | x::xs,vs,h=>by simp only [SVL] at h ⊢;obtain ⟨u,us,h1,h2,h3⟩:=h;exact ⟨u,us,h1,SV.stp a x u h2,SVL.stp a xs us h3⟩
end
def OB (g:G) (Y:Nat→Prop) (M:Mem) (w:World):Obj→Prop
 | .arr id own sz xs=>g.U id∧g.SZ id=sz∧(g.FP id).Nodup∧((g.VR id∧xs=[]∧g.FP id=[]) ∨
  (¬ g.VR id∧∃ vs F',g.FP id=(g.AD id).block::F'∧(g.AD id).spot=none∧RM w (g.AD id) (g.BS id)∧CL w (g.AD id) vs∧TE (XA g Y M) own w sz xs vs F'))
 | .box id x=>g.U id∧¬ g.VR id∧g.FP id=[(g.AD id).block]∧(g.AD id).spot=none∧isBad x=false ∧
  ∃ v,RM w (g.AD id) v.cells.size∧CL w (g.AD id) v.cells.toList∧SV g Y M w x v
structure Inv (g:G) (Y:Nat→Prop) (M:Mem) (w:World):Prop where
 ob:∀ l o,M.m l=some o→OB g Y M w o
 dj:∀ l l' o o',M.m l=some o→M.m l'=some o'→l≠l'→o.ver≠o'.ver∧∀ b,b∈g.FP o.ver→b ∉ g.FP o'.ver
 lt:∀ b,Own g M b→b < w.heap.size∧¬ Y b
 pd:∀ b,g.P b→∀ l o,M.m l=some o→b ∉ g.FP o.ver
 pb:∀ b,g.PB b→g.P b
 y:∀ b,Y b→b < w.heap.size
theorem OB.keep {g g':G} {Y:Nat→Prop} {M M':Mem} {w w':World} {o:Obj} (a:Stp g M w g' M' w') (h:OB g Y M w o)
 (hfp:g'.FP o.ver=g.FP o.ver) (hb:∀ b∈g.FP o.ver,b < w.heap.size→w'.heap[b]? = w.heap[b]?) (hlt:∀ b∈g.FP o.ver,b < w.heap.size):OB g' Y M' w' o:=by
 cases o with
 | arr id own sz xs =>
  simp only [OB,Obj.ver] at h hfp hb hlt ⊢
  obtain ⟨hu,h1,h2,h3⟩:=h
  obtain ⟨k1,k2,k3,k4,k5⟩:=a.gh id hu
  rw [k2,k3,k4,k5,hfp]
  refine ⟨k1,h1,h2,?_⟩
  rcases h3 with h3|⟨h3,vs,F',h4,h5,h6,h7,h8⟩
  · exact .inl h3
  · have hbl:=hb _ (by rw [h4];exact List.mem_cons_self) (hlt _ (by rw [h4];exact List.mem_cons_self))
    refine .inr ⟨h3,vs,F',h4,h5,h6.eq hbl,h7.eq hbl,TE.stable xs vs F' h8 ⟨a.size,(a.sameA).out,fun b hb' hx=>?_⟩⟩
    rcases hx with hx|hx
    · exact (a.sameA).heap b hb' (.inl hx)
    · exact hb b (by rw [h4];exact List.mem_cons_of_mem _ hx) hb'
 | box id x =>
  simp only [OB,Obj.ver] at h hfp hb hlt ⊢
  obtain ⟨hu,h1,h2,h3,hbad,v,h4,h5,h6⟩:=h
  obtain ⟨k1,k2,k3,k4,k5⟩:=a.gh id hu
  rw [k2,k5,hfp]
  have hbl:=hb _ (by rw [h2];exact List.mem_cons_self) (hlt _ (by rw [h2];exact List.mem_cons_self))
  exact ⟨k1,h1,h2,h3,hbad,v,h4.eq hbl,h5.eq hbl,SV.stp a x v h6⟩
theorem Zbj {M:Mem} {l l':Nat} {o:Option Obj} (h:l'≠l):(M.set l o).m l'=M.m l':=by simp [Mem.set,upd,h]
theorem Zb4 {M:Mem} {l:Nat} {o:Option Obj}:(M.set l o).m l=o:=by simp [Mem.set,upd]
theorem ZbU {M:Mem} {l l':Nat} {o:Obj} (h:(M.set l none).m l'=some o):l'≠l∧M.m l'=some o:=by
 by_cases hl:l'=l
 · subst hl;rw [Zb4] at h;cases h
 · exact ⟨hl,by rwa [Zbj hl] at h⟩
def G.pend (g:G) (F:List Nat) (B:Nat→Prop):G:={ g with P:=fun b=>g.P b∨b∈F,PB:=fun b=>g.PB b∨(b∈F∧B b) }
def G.add (g:G) (id:Nat) (ad:Addr) (sz bs:Nat) (vr:Prop) (fp:List Nat):G :=
 { U:=fun i=>g.U i∨i=id,AD:=upd g.AD id ad,SZ:=upd g.SZ id sz,BS:=upd g.BS id bs,VR:=fun i=>(i=id∧vr)∨(i≠id∧g.VR i),
   FP:=upd g.FP id fp,P:=fun b=>g.P b∧b ∉ fp,PB:=fun b=>g.PB b∧b ∉ fp }
section
variable {g:G} {Y:Nat→Prop} {M:Mem} {w:World}
theorem Stp.sub {M':Mem} {g':G} (hm:∀ l o,M'.m l=some o→M.m l=some o) (hg:g' = { g with P:=g'.P,PB:=g'.PB }) (hp:∀ b,g'.P b→Own g M b) (hb:∀ b,g'.PB b→Base g M b)
 (he:M.e≤M'.e) (hr:M.r≤M'.r):Stp g M w g' M' w where
 size:=Nat.le_refl _
 io:=IOk.refl
 heap:=fun _ _ _=>rfl
 own:=fun b h=>by
  rcases h with h|⟨l,o,h1,h2⟩
  · exact .inl (hp b h)
  · rw [hg] at h2;exact .inl (.inr ⟨l,o,hm l o h1,h2⟩)
 gh:=fun id h=>by rw [hg];exact ⟨h,rfl,rfl,rfl,Iff.rfl⟩
 e:=he
 r:=hr
 base:=fun _=>⟨fun _ _ _=>rfl,fun b h=>by
  rcases h with h|⟨l,o,h1,h2,h3⟩
  · exact .inl (hb b h)
  · rw [hg] at h2 h3;exact .inl (.inr ⟨l,o,hm l o h1,h2,h3⟩)⟩
 ref:=fun _ l o h _ _=>⟨hm l o h,fun _=>rfl⟩
theorem Inv.sub (hI:Inv g Y M w) {M':Mem} {g':G} (hm:∀ l o,M'.m l=some o→M.m l=some o) (hg:g' = { g with P:=g'.P,PB:=g'.PB }) (hp:∀ b,g'.P b→Own g M b)
 (hb:∀ b,g'.PB b→Base g M b) (hbp:∀ b,g'.PB b→g'.P b) (hd:∀ b,g'.P b→∀ l o,M'.m l=some o→b ∉ g.FP o.ver)
 (he:M.e≤M'.e) (hr:M.r≤M'.r):Inv g' Y M' w∧Stp g M w g' M' w:=by
 have hS:Stp g M w g' M' w:=Stp.sub hm hg hp hb he hr
 have hfp:g'.FP=g.FP:=by rw [hg]
 refine ⟨⟨fun l o h=>?_,fun l1 l2 o1 o2 h1 h2 hne=>by rw [hfp];exact hI.dj l1 l2 o1 o2 (hm _ _ h1) (hm _ _ h2) hne,fun b h=>?_,fun b h l o ho=>by rw [hfp];exact hd b h l o ho,hbp,hI.y⟩,hS⟩
 · have h':=hm l o h
   exact OB.keep hS (hI.ob l o h') (by rw [hfp]) (fun _ _ _=>rfl) (fun b hb=>(hI.lt b (.inr ⟨l,o,h',hb⟩)).1)
 · rcases hS.own b h with h|h
   · exact hI.lt b h
   · exact absurd h (by
      rcases h with h
      intro _
      rename_i h0 h1
      rcases h0 with h0|⟨l,o,h2,h3⟩
      · have:=(hI.lt b (hp b h0)).1;omega
      · rw [hfp] at h3;have:=(hI.lt b (.inr ⟨l,o,hm l o h2,h3⟩)).1;omega)
theorem Inv.drop (hI:Inv g Y M w) {l:Nat} {o:Obj} (ho:M.m l=some o) {F:List Nat} (hF:∀ b∈F,b∈g.FP o.ver) :
 Inv (g.pend F (· = (g.AD o.ver).block)) Y (M.set l none) w∧Stp g M w (g.pend F (· = (g.AD o.ver).block)) (M.set l none) w:=by
 refine Inv.sub hI (fun l' o' h=>(ZbU h).2) rfl ?_ ?_ ?_ ?_ (Nat.le_refl _) (Nat.le_refl _)
 · rintro b (h|h)
   · exact .inl h
   · exact .inr ⟨l,o,ho,hF b h⟩
 · rintro b (h|⟨h,h'⟩)
   · exact .inl h
   · exact .inr ⟨l,o,ho,hF b h,h'⟩
 · rintro b (h|⟨h,h'⟩)
   · exact .inl (hI.pb b h)
   · exact .inr h
 · intro b h l' o' h'
   obtain ⟨hne,h'⟩:=ZbU h'
   rcases h with h|h
   · exact hI.pd b h l' o' h'
   · exact (hI.dj l l' o o' ho h' (fun e=>hne e.symm)).2 b (hF b h)
theorem Inv.world (hI:Inv g Y M w) {w':World} (hio:IOk w w') (hs:w.heap.size≤w'.heap.size) (hh:∀ b,b < w.heap.size→¬ g.PB b→w'.heap[b]? = w.heap[b]?) {N:List Nat}
 (hN:∀ b∈N,w.heap.size≤b∧b < w'.heap.size):Inv (g.pend N fun _=>True) Y M w'∧Stp g M w (g.pend N fun _=>True) M w':=by
 have hnob:∀ l o,M.m l=some o→∀ b∈g.FP o.ver,¬ g.PB b:=fun l o h b hb hp=>hI.pd b (hI.pb b hp) l o h hb
 have hS:Stp g M w (g.pend N fun _=>True) M w' :=
  { size:=hs,io:=hio
    heap:=fun b hb hn=>hh b hb fun h=>hn (.inl (hI.pb b h))
    own:=by
     rintro b (h|h)
     · rcases h with h|h
       · exact .inl (.inl h)
       · exact .inr (hN b h).1
     · exact .inl (.inr h)
    gh:=fun _ h=>⟨h,rfl,rfl,rfl,Iff.rfl⟩,e:=Nat.le_refl _,r:=Nat.le_refl _
    base:=fun _=>⟨fun b hb hn=>hh b hb fun h=>hn (.inl h),by
     rintro b (h|h)
     · rcases h with h|h
       · exact .inl (.inl h)
       · exact .inr (hN b h.1).1
     · exact .inl (.inr h)⟩
    ref:=fun _ l o h hu _=>⟨h,fun hv=>by
     have hb:=hI.ob l o h
     have hin:(g.AD o.ver).block∈g.FP o.ver:=by
      cases o with
      | arr id own sz xs =>
       simp only [OB,Obj.ver] at hb hv ⊢
       obtain ⟨_,_,_,h3⟩:=hb
       rcases h3 with h3|⟨_,vs,F',h4,_⟩
       · exact absurd h3.1 hv
       · rw [h4];exact List.mem_cons_self
      | box id x=>simp only [OB,Obj.ver] at hb ⊢;rw [hb.2.2.1];exact List.mem_cons_self
     exact hh _ (hI.lt _ (.inr ⟨l,o,h,hin⟩)).1 (hnob l o h _ hin)⟩ }
 refine ⟨⟨fun l o h=>OB.keep hS (hI.ob l o h) rfl (fun b hb hlt=>hh b hlt (hnob l o h b hb)) (fun b hb=>(hI.lt b (.inr ⟨l,o,h,hb⟩)).1),hI.dj,?_,?_,?_,fun b h=>Nat.lt_of_lt_of_le (hI.y b h) hs⟩,hS⟩
 · rintro b (h|h)
   · rcases h with h|h
     · exact ⟨Nat.lt_of_lt_of_le (hI.lt b (.inl h)).1 hs,(hI.lt b (.inl h)).2⟩
     · exact ⟨(hN b h).2,fun hy=>by have:=hI.y b hy;have:=(hN b h).1;omega⟩
   · exact ⟨Nat.lt_of_lt_of_le (hI.lt b (.inr h)).1 hs,(hI.lt b (.inr h)).2⟩
 · rintro b (h|h) l o ho hb
   · exact hI.pd b h l o ho hb
   · have:=(hI.lt b (.inr ⟨l,o,ho,hb⟩)).1
     have:=(hN b h).1
     omega
 · rintro b (h|h)
   · exact .inl (hI.pb b h)
   · exact .inr h.1
theorem OB.u {o:Obj} (h:OB g Y M w o):g.U o.ver:=by cases o<;>exact h.1
theorem Inv.add (hI:Inv g Y M w) {l id sz bs:Nat} {ad:Addr} {vr:Prop} {fp:List Nat} {o:Obj} (hv:o.ver=id) (hid:¬ g.U id) (hP:∀ b∈fp,g.P b)
 (hB:∀ b∈fp,b=ad.block→g.PB b)
 (hob:Stp g M w (g.add id ad sz bs vr fp) (M.set l (some o)) w→OB (g.add id ad sz bs vr fp) Y (M.set l (some o)) w o) :
 Inv (g.add id ad sz bs vr fp) Y (M.set l (some o)) w∧Stp g M w (g.add id ad sz bs vr fp) (M.set l (some o)) w:=by
 have hver:∀ l' o',M.m l'=some o'→o'.ver≠id:=fun l' o' h e=>hid (e▸(hI.ob l' o' h).u)
 have hget:∀ l' o',(M.set l (some o)).m l'=some o'→(l'=l∧o'=o)∨(l'≠l∧M.m l'=some o'):=by
  intro l' o' h
  by_cases e:l'=l
  · subst e;rw [Zb4] at h;exact .inl ⟨rfl,(Option.some.inj h).symm⟩
  · rw [Zbj e] at h;exact .inr ⟨e,h⟩
 have hfn:(g.add id ad sz bs vr fp).FP id=fp:=by simp [G.add,upd]
 have hfo:∀ i,i≠id→(g.add id ad sz bs vr fp).FP i=g.FP i:=fun i h=>by simp [G.add,upd,h]
 have hS:Stp g M w (g.add id ad sz bs vr fp) (M.set l (some o)) w :=
  { size:=Nat.le_refl _,io:=IOk.refl,heap:=fun _ _ _=>rfl
    own:=by
     rintro b (h|⟨l',o',h1,h2⟩)
     · exact .inl (.inl h.1)
     · rcases hget l' o' h1 with ⟨_,rfl⟩|⟨_,h⟩
       · rw [hv,hfn] at h2;exact .inl (.inl (hP b h2))
       · rw [hfo _ (hver l' o' h)] at h2;exact .inl (.inr ⟨l',o',h,h2⟩)
    gh:=fun i h=>by
     have hne:i≠id:=fun e=>hid (e▸h)
     simp [G.add,upd,hne,h]
    e:=Nat.le_refl _,r:=Nat.le_refl _
    base:=fun _=>⟨fun _ _ _=>rfl,by
     rintro b (h|⟨l',o',h1,h2,h3⟩)
     · exact .inl (.inl h.1)
     · rcases hget l' o' h1 with ⟨_,rfl⟩|⟨_,h⟩
       · rw [hv,hfn] at h2
         rw [hv] at h3
         exact .inl (.inl (hB b h2 (by simpa [G.add,upd] using h3)))
       · rw [hfo _ (hver l' o' h)] at h2
         have h3':b=(g.AD o'.ver).block:=by simpa [G.add,upd,hver l' o' h] using h3
         exact .inl (.inr ⟨l',o',h,h2,h3'⟩)⟩
    ref:=fun _ l' o' h hu _=>by
     rcases hget l' o' h with ⟨_,rfl⟩|⟨_,h⟩
     · exact absurd (hv▸hu) hid
     · exact ⟨h,fun _=>rfl⟩ }
 refine ⟨⟨?_,?_,?_,?_,?_,hI.y⟩,hS⟩
 · intro l' o' h
   rcases hget l' o' h with ⟨_,rfl⟩|⟨_,h⟩
   · exact hob hS
   · exact OB.keep hS (hI.ob l' o' h) (hfo _ (hver l' o' h)) (fun _ _ _=>rfl) (fun b hb=>(hI.lt b (.inr ⟨l',o',h,hb⟩)).1)
 · intro l1 l2 o1 o2 h1 h2 hne
   rcases hget l1 o1 h1 with ⟨e1,q1⟩|⟨n1,k1⟩<;>rcases hget l2 o2 h2 with ⟨e2,q2⟩|⟨n2,k2⟩
   · exact absurd (e1.trans e2.symm) hne
   · rw [q1,hv,hfn,hfo _ (hver l2 o2 k2)]
     exact ⟨fun e=>hver l2 o2 k2 e.symm,fun b hb=>hI.pd b (hP b hb) l2 o2 k2⟩
   · rw [q2,hv,hfn,hfo _ (hver l1 o1 k1)]
     exact ⟨hver l1 o1 k1,fun b hb hb'=>hI.pd b (hP b hb') l1 o1 k1 hb⟩
   · rw [hfo _ (hver l1 o1 k1),hfo _ (hver l2 o2 k2)]
     exact hI.dj l1 l2 o1 o2 k1 k2 hne
 · intro b h
   rcases hS.own b h with h|h
   · exact hI.lt b h
   · rcases h with h
     rename_i h0
     rcases h0 with h0|⟨l',o',h1,h2⟩
     · exact hI.lt b (.inl h0.1)
     · rcases hget l' o' h1 with ⟨_,rfl⟩|⟨_,h1⟩
       · rw [hv,hfn] at h2;exact hI.lt b (.inl (hP b h2))
       · rw [hfo _ (hver l' o' h1)] at h2;exact hI.lt b (.inr ⟨l',o',h1,h2⟩)
 · intro b h l' o' h'
   rcases hget l' o' h' with ⟨_,rfl⟩|⟨_,h'⟩
   · rw [hv,hfn];exact h.2
   · rw [hfo _ (hver l' o' h')];exact hI.pd b h.1 l' o' h'
 · intro b h
   exact ⟨hI.pb b h.1,h.2⟩
def G.put (g:G) (id:Nat) (fp:List Nat):G:={ g with FP:=upd g.FP id fp,P:=fun b=>g.P b∧b ∉ fp,PB:=fun b=>g.PB b∧b ∉ fp }
theorem Inv.put (hI:Inv g Y M w) {l id:Nat} {fp:List Nat} {o:Obj} {M':Mem} (hM:M'.m=(M.set l (some o)).m) (hMe:M'.e=M.e) (hMr:M.r≤M'.r) (hrr:isArrO o=true→M'.r≠M.r) (hv:o.ver=id) (hid:g.U id)
 (hno:∀ l' o',M.m l'=some o'→o'.ver≠id) (hP:∀ b∈fp,g.P b) (hB:∀ b∈fp,b=(g.AD id).block→g.PB b)
 (hob:Stp g M w (g.put id fp) M' w→OB (g.put id fp) Y M' w o) :
 Inv (g.put id fp) Y M' w∧Stp g M w (g.put id fp) M' w:=by
 have hget:∀ l' o',M'.m l'=some o'→(l'=l∧o'=o)∨(l'≠l∧M.m l'=some o'):=by
  intro l' o' h
  rw [hM] at h
  by_cases e:l'=l
  · subst e;rw [Zb4] at h;exact .inl ⟨rfl,(Option.some.inj h).symm⟩
  · rw [Zbj e] at h;exact .inr ⟨e,h⟩
 have hfn:(g.put id fp).FP id=fp:=by simp [G.put,upd]
 have hfo:∀ i,i≠id→(g.put id fp).FP i=g.FP i:=fun i h=>by simp [G.put,upd,h]
 have hS:Stp g M w (g.put id fp) M' w :=
  { size:=Nat.le_refl _,io:=IOk.refl,heap:=fun _ _ _=>rfl
    own:=by
     rintro b (h|⟨l',o',h1,h2⟩)
     · exact .inl (.inl h.1)
     · rcases hget l' o' h1 with ⟨_,rfl⟩|⟨_,h⟩
       · rw [hv,hfn] at h2;exact .inl (.inl (hP b h2))
       · rw [hfo _ (hno l' o' h)] at h2;exact .inl (.inr ⟨l',o',h,h2⟩)
    gh:=fun i h=>⟨h,rfl,rfl,rfl,Iff.rfl⟩
    e:=Nat.le_of_eq hMe.symm,r:=hMr
    base:=fun _=>⟨fun _ _ _=>rfl,by
     rintro b (h|⟨l',o',h1,h2,h3⟩)
     · exact .inl (.inl h.1)
     · rcases hget l' o' h1 with ⟨_,rfl⟩|⟨_,h⟩
       · rw [hv,hfn] at h2
         rw [hv] at h3
         exact .inl (.inl (hB b h2 h3))
       · rw [hfo _ (hno l' o' h)] at h2
         exact .inl (.inr ⟨l',o',h,h2,h3⟩)⟩
    ref:=fun hr l' o' h hu ha=>by
     rcases hget l' o' h with ⟨_,rfl⟩|⟨_,h⟩
     · exact absurd hr (hrr ha)
     · exact ⟨h,fun _=>rfl⟩ }
 refine ⟨⟨?_,?_,?_,?_,?_,hI.y⟩,hS⟩
 · intro l' o' h
   rcases hget l' o' h with ⟨_,rfl⟩|⟨_,h⟩
   · exact hob hS
   · exact OB.keep hS (hI.ob l' o' h) (hfo _ (hno l' o' h)) (fun _ _ _=>rfl) (fun b hb=>(hI.lt b (.inr ⟨l',o',h,hb⟩)).1)
 · intro l1 l2 o1 o2 h1 h2 hne
   rcases hget l1 o1 h1 with ⟨e1,q1⟩|⟨n1,k1⟩<;>rcases hget l2 o2 h2 with ⟨e2,q2⟩|⟨n2,k2⟩
   · exact absurd (e1.trans e2.symm) hne
   · rw [q1,hv,hfn,hfo _ (hno l2 o2 k2)]
     exact ⟨fun e=>hno l2 o2 k2 e.symm,fun b hb=>hI.pd b (hP b hb) l2 o2 k2⟩
   · rw [q2,hv,hfn,hfo _ (hno l1 o1 k1)]
     exact ⟨hno l1 o1 k1,fun b hb hb'=>hI.pd b (hP b hb') l1 o1 k1 hb⟩
   · rw [hfo _ (hno l1 o1 k1),hfo _ (hno l2 o2 k2)]
     exact hI.dj l1 l2 o1 o2 k1 k2 hne
 · intro b h
   rcases hS.own b h with h|h
   · exact hI.lt b h
   · rename_i h0
     rcases h0 with h0|⟨l',o',h1,h2⟩
     · exact hI.lt b (.inl h0.1)
     · rcases hget l' o' h1 with ⟨_,rfl⟩|⟨_,h1⟩
       · rw [hv,hfn] at h2;exact hI.lt b (.inl (hP b h2))
       · rw [hfo _ (hno l' o' h1)] at h2;exact hI.lt b (.inr ⟨l',o',h1,h2⟩)
 · intro b h l' o' h'
   rcases hget l' o' h' with ⟨_,rfl⟩|⟨_,h'⟩
   · rw [hv,hfn];exact h.2
   · rw [hfo _ (hno l' o' h')];exact hI.pd b h.1 l' o' h'
 · intro b h
   exact ⟨hI.pb b h.1,h.2⟩
theorem Inv.addArr (hI:Inv g Y M w) {l id sz bs:Nat} {ad:Addr} {own:Bool} {xs:List D} {vs:List Value} {F:List Nat} (hid:¬ g.U id) (hsp:ad.spot=none)
 (hP:∀ b∈ad.block::F,g.P b) (hB:g.PB ad.block) (hn:(ad.block::F).Nodup) (hr:RM w ad bs) (hc:CL w ad vs) (ht:TE (XA g Y M) own w sz xs vs F) :
 Inv (g.add id ad sz bs False (ad.block::F)) Y (M.set l (some (.arr id own sz xs))) w∧Stp g M w (g.add id ad sz bs False (ad.block::F)) (M.set l (some (.arr id own sz xs))) w:=by
 refine Inv.add hI rfl hid hP (fun b _ h=>h▸hB) fun hS=>?_
 have hA:(g.add id ad sz bs False (ad.block::F)).AD id=ad:=by simp [G.add,upd]
 have hZ:(g.add id ad sz bs False (ad.block::F)).SZ id=sz:=by simp [G.add,upd]
 have hX:(g.add id ad sz bs False (ad.block::F)).BS id=bs:=by simp [G.add,upd]
 have hF:(g.add id ad sz bs False (ad.block::F)).FP id=ad.block::F:=by simp [G.add,upd]
 have hV:¬ (g.add id ad sz bs False (ad.block::F)).VR id:=by simp [G.add]
 simp only [OB]
 rw [hA,hZ,hX,hF]
 refine ⟨by simp [G.add],rfl,hn,.inr ⟨hV,vs,F,rfl,hsp,hr,hc,?_⟩⟩
 exact TE.stable xs vs F ht ⟨Nat.le_refl _,hS.sameA.out,fun _ _ _=>rfl⟩
theorem Inv.addVirt (hI:Inv g Y M w) {l id sz:Nat} {own:Bool} (hid:¬ g.U id) :
 Inv (g.add id default sz 0 True []) Y (M.set l (some (.arr id own sz []))) w∧Stp g M w (g.add id default sz 0 True []) (M.set l (some (.arr id own sz []))) w:=by
 refine Inv.add hI rfl hid (by simp) (by simp) fun hS=>?_
 simp only [OB]
 refine ⟨by simp [G.add],by simp [G.add,upd],by simp [G.add,upd],.inl ⟨by simp [G.add],trivial,by simp [G.add,upd]⟩⟩
theorem Inv.addBox (hI:Inv g Y M w) {l id:Nat} {sz bs:Nat} {ad:Addr} {x:AV} {v:Value} (hid:¬ g.U id) (hsp:ad.spot=none) (hP:g.P ad.block) (hB:g.PB ad.block)
 (hx:isBad x=false) (hr:RM w ad v.cells.size) (hc:CL w ad v.cells.toList) (hsv:SV g Y M w x v) :
 Inv (g.add id ad sz bs False [ad.block]) Y (M.set l (some (.box id x))) w∧Stp g M w (g.add id ad sz bs False [ad.block]) (M.set l (some (.box id x))) w:=by
 refine Inv.add hI rfl hid (by simpa using hP) (fun b _ h=>h▸hB) fun hS=>?_
 have hA:(g.add id ad sz bs False [ad.block]).AD id=ad:=by simp [G.add,upd]
 simp only [OB]
 rw [hA]
 exact ⟨by simp [G.add],by simp [G.add],by simp [G.add,upd],hsp,hx,v,hr,hc,SV.stp hS x v hsv⟩
theorem Inv.tick (hI:Inv g Y M w):Inv { g with PB:=g.P } Y M.tick w∧Stp g M w { g with PB:=g.P } M.tick w:=by
 have hS:Stp g M w { g with PB:=g.P } M.tick w :=
  { size:=Nat.le_refl _,io:=IOk.refl,heap:=fun _ _ _=>rfl,own:=fun b h=>.inl h,gh:=fun _ h=>⟨h,rfl,rfl,rfl,Iff.rfl⟩,e:=Nat.le_succ _,r:=Nat.le_refl _
    base:=fun h=>by simp [Mem.tick] at h,ref:=fun _ l o h _ _=>⟨h,fun _=>rfl⟩ }
 exact ⟨⟨fun l o h=>OB.keep hS (hI.ob l o h) rfl (fun _ _ _=>rfl) (fun b hb=>(hI.lt b (.inr ⟨l,o,h,hb⟩)).1),hI.dj,hI.lt,hI.pd,fun b h=>h,hI.y⟩,hS⟩
theorem Inv.tickR (hI:Inv g Y M w):Inv g Y M.tickR w∧Stp g M w g M.tickR w:=by
 have hS:Stp g M w g M.tickR w :=
  { size:=Nat.le_refl _,io:=IOk.refl,heap:=fun _ _ _=>rfl,own:=fun b h=>.inl h,gh:=fun _ h=>⟨h,rfl,rfl,rfl,Iff.rfl⟩,e:=Nat.le_refl _,r:=Nat.le_succ _
    base:=fun _=>⟨fun _ _ _=>rfl,fun b h=>.inl h⟩,ref:=fun _ l o h _ _=>⟨h,fun _=>rfl⟩ }
 exact ⟨⟨fun l o h=>OB.keep hS (hI.ob l o h) rfl (fun _ _ _=>rfl) (fun b hb=>(hI.lt b (.inr ⟨l,o,h,hb⟩)).1),hI.dj,hI.lt,hI.pd,hI.pb,hI.y⟩,hS⟩
end
end Go.Vm
namespace Go.Vm
open Go
set_option linter.unusedSimpArgs false
set_option linter.unusedVariables false
section
variable {g:G} {Y:Nat→Prop} {M:Mem} {w:World}
theorem TC.of {X:Nat→Prop} {o:Bool} {d:D} {v:Value} {F:List Nat} (h:TV X o w d v F):TC X o w d v.cells.toList F:=by
 cases d with
 | agg fs=>simp only [TV] at h;obtain ⟨vs,rfl,h⟩:=h;simpa [TC,Value.cells] using h
 | sl sz xs =>
  refine ⟨v,?_,h⟩
  simp only [TV] at h
  rcases h with ⟨_,hnv,_⟩|⟨a,c,vs,rfl,_⟩<;>(try obtain ⟨_,rfl⟩:=hnv.ex)<;>rfl
 | rs sz xs =>
  refine ⟨v,?_,h⟩
  simp only [TV] at h
  rcases h.2 with ⟨_,hnv⟩|⟨a,c,vs,rfl,_⟩<;>(try obtain ⟨_,rfl⟩:=hnv.ex)<;>rfl
 | ptr d=>refine ⟨v,?_,h⟩;obtain ⟨a,us,rfl,_⟩:=Zav.1 h;rfl
 | ifc=>refine ⟨v,?_,h⟩;simp only [TV] at h;obtain ⟨⟨t,x,rfl⟩,_⟩:=h;rfl
 | anyb=>refine ⟨v,?_,h⟩;simp only [TV] at h;obtain ⟨⟨b,rfl⟩,_⟩:=h;rfl
 | dead=>refine ⟨v,?_,h⟩;simp only [TV] at h;obtain ⟨⟨a,n,c,rfl⟩,_⟩:=h;rfl
 | int k n=>refine ⟨v,?_,h⟩;simp only [TV] at h;rw [h.1];rfl
 | bool k=>refine ⟨v,?_,h⟩;simp only [TV] at h;rw [h.1];rfl
 | str k=>refine ⟨v,?_,h⟩;simp only [TV] at h;rw [h.1];rfl
 | nili=>refine ⟨v,?_,h⟩;simp only [TV] at h;rw [h.1];rfl
 | tup fs=>refine ⟨v,?_,h⟩;simp only [TV] at h;obtain ⟨vs,rfl,h⟩:=h;rfl
 | clo f xs=>refine ⟨v,?_,h⟩;simp only [TV] at h;obtain ⟨_,vs,rfl,h⟩:=h;rfl
theorem SVL.get:∀ {xs:List AV} {vs:List Value} {j:Nat} {y:AV},SVL g Y M w xs vs→xs[j]? = some y→∃ u,vs[j]? = some u∧SV g Y M w y u
 | [],vs,j,y,_,h=>by simp at h
 | x::xs,vs,0,y,h,hj=>by
  simp only [SVL] at h
  obtain ⟨u,us,rfl,h2,h3⟩:=h
  simp at hj
  subst hj
  exact ⟨u,rfl,h2⟩
 | x::xs,vs,j+1,y,h,hj=>by
  simp only [SVL] at h
  obtain ⟨u,us,rfl,h2,h3⟩:=h
  obtain ⟨u',k1,k2⟩:=SVL.get h3 (by simpa using hj)
  exact ⟨u',by simpa using k1,k2⟩
theorem SVL.length:∀ {xs:List AV} {vs:List Value},SVL g Y M w xs vs→vs.length=xs.length
 | [],vs,h=>by simp only [SVL] at h;simp [h]
 | x::xs,vs,h=>by simp only [SVL] at h;obtain ⟨u,us,rfl,_,h3⟩:=h;simp [SVL.length h3]
theorem ZiG {x y:AV} {v:Value} {j:Option Nat} (h:SV g Y M w x v) (hf:fldA M x j=some y) :
 ∃ u,SV g Y M w y u∧(j=none→y=x∧u=v)∧∀ k,j=some k→v.cells[k]? = some u∧isAg y=false:=by
 cases j with
 | none=>simp [fldA] at hf;subst hf;exact ⟨v,h,fun _=>⟨rfl,rfl⟩,fun k hk=>by cases hk⟩
 | some k =>
  cases x with
  | agg xs =>
   simp only [fldA] at hf
   simp only [SV] at h
   obtain ⟨vs,rfl,h⟩:=h
   cases hx:xs[k]? with
   | none=>rw [hx] at hf;cases hf
   | some x0 =>
   rw [hx] at hf
   simp only at hf
   split at hf
   · cases hf
   rename_i hag
   cases hf
   obtain ⟨u,h1,h2⟩:=SVL.get h hx
   refine ⟨u,h2,(fun hk=>by cases hk),fun k' hk=>?_⟩
   cases hk
   exact ⟨by simpa [Value.cells] using h1,by simpa using hag⟩
  | dat e d =>
   cases d with
   | agg fs =>
    simp only [fldA] at hf
    by_cases hv:vD M e=true
    · rw [if_pos hv] at hf
      cases hd:fs[k]? with
      | none=>rw [hd] at hf;cases hf
      | some d =>
       rw [hd] at hf
       simp only at hf
       split at hf
       · cases hf
       rename_i hag
       cases hf
       cases e with
       | none =>
        simp only [SV,TV] at h
        obtain ⟨vs,rfl,h⟩:=h
        obtain ⟨u1,u,u2,F1,Fj,F2,rfl,hF,hl,ht,_⟩:=TL.get h hd
        refine ⟨u,?_,(fun hk=>by cases hk),fun k' hk=>?_⟩
        · simp only [SV];have:=ht.nof;subst this;exact ht
        · cases hk;exact ⟨by simp [Value.cells,← hl],by simpa [isAg] using hag⟩
       | some e =>
        simp only [SV,TV] at h
        obtain ⟨he,h⟩:=h
        simp [vD] at hv
        obtain ⟨vs,hv2,h2⟩:=h hv
        subst hv2
        obtain ⟨u1,u,u2,F1,Fj,F2,e1,hF,hl,ht,_⟩:=TL.get h2 hd
        subst e1
        refine ⟨u,?_,(fun hk=>by cases hk),fun k' hk=>?_⟩
        · simp only [SV];refine ⟨he,fun _=>?_⟩;have:=ht.nof;subst this;exact ht
        · cases hk;exact ⟨by simp [Value.cells,← hl],by simpa [isAg] using hag⟩
    · rw [if_neg hv] at hf;cases hf
   | _=>simp [fldA] at hf
  | _=>simp [fldA] at hf
theorem TE.range {X:Nat→Prop} {o:Bool} {sz:Nat} {xs:List D} {vs:List Value} {F:List Nat} (h:TE X o w sz xs vs F) {a:Addr} (hc:CL w a vs) (off len:Nat) (hl:off+len≤xs.length) :
 ∃ us Fa Fb Fc,F=Fa++Fb++Fc∧CL w (a.add (off * sz)) us∧TE X o w sz ((xs.drop off).take len) us Fb:=by
 rw [show xs=xs.take off++((xs.drop off).take len++(xs.drop off).drop len) from by rw [List.take_append_drop,List.take_append_drop]] at h
 obtain ⟨v1,v2,F1,F2,rfl,rfl,h1,h2⟩:=TE.split h
 obtain ⟨v3,v4,F3,F4,rfl,rfl,h3,h4⟩:=TE.split h2
 refine ⟨v3,F1,F3,F4,by simp,?_,h3⟩
 have:=hc.right
 rw [h1.len,List.length_take,Nat.min_eq_left (by omega)] at this
 exact this.left
theorem ZnH {α β:Type} {f:α→Option β}:∀ {xs:List α} {ds:List β},optL (xs.map f)=some ds→ds.length=xs.length∧∀ (i:Nat) (x:α),xs[i]? = some x→∃ d,f x=some d∧ds[i]? = some d
 | [],ds,h=>by simp [optL] at h;subst h;simp
 | x::xs,ds,h=>by
  simp only [List.map_cons] at h
  cases hx:f x with
  | none=>rw [hx] at h;simp [optL] at h
  | some d =>
   rw [hx] at h
   simp only [optL] at h
   cases hr:optL (xs.map f) with
   | none=>rw [hr] at h;cases h
   | some r =>
    rw [hr] at h
    simp at h
    subst h
    obtain ⟨h1,h2⟩:=ZnH hr
    refine ⟨by simp [h1],fun i y hi=>?_⟩
    cases i with
    | zero=>simp at hi;subst hi;exact ⟨d,hx,rfl⟩
    | succ i=>simpa using h2 i y (by simpa using hi)
def ZZ (g:G) (Y:Nat→Prop) (b:Nat):Prop:=Y b∨g.P b
theorem Zpi {b:Nat} (h:¬ XA g Y M b):¬ ZZ g Y b:=fun k=>h (k.imp id .inl)
theorem ZqB (hp:∀ b,g.P b→g.PB b) {b:Nat} (h:¬ XB g Y M b):¬ ZZ g Y b:=fun k=>h (k.imp id fun k=>.inl (hp b k))
theorem ZdZ {n:Nat} (ih:∀ (a:AV) (v:Value) (d:D),SV g Y M w a v→frz M n a=some d→TV (ZZ g Y) false w d v []) :
 ∀ {xs:List AV} {vs:List Value} {ds:List D},SVL g Y M w xs vs→optL (xs.map (frz M n))=some ds→TL (ZZ g Y) false w ds vs []
 | [],vs,ds,h,hd=>by simp [optL] at hd;subst hd;simp only [SVL] at h;simp only [TL];exact ⟨h,trivial⟩
 | x::xs,vs,ds,h,hd=>by
  simp only [List.map_cons] at hd
  simp only [SVL] at h
  obtain ⟨u,us,rfl,h2,h3⟩:=h
  cases hx:frz M n x with
  | none=>rw [hx] at hd;simp [optL] at hd
  | some d =>
   rw [hx] at hd
   simp only [optL] at hd
   cases hr:optL (xs.map (frz M n)) with
   | none=>rw [hr] at hd;cases hd
   | some r =>
    rw [hr] at hd
    simp at hd
    subst hd
    simp only [TL]
    exact ⟨u,us,[],[],rfl,rfl,ih x u d h2 hx,ZdZ ih h3 hr⟩
theorem OB.arr_cool {id:Nat} {own:Bool} {sz:Nat} {xs:List D} (hI:Inv g Y M w) {l:Nat} (ho:M.m l=some (.arr id own sz xs)) (hv:¬ g.VR id) :
 ∃ vs F',g.FP id=(g.AD id).block::F'∧(g.AD id).spot=none∧(g.AD id).block < w.heap.size∧¬ ZZ g Y (g.AD id).block∧RM w (g.AD id) (g.BS id)∧CL w (g.AD id) vs ∧
  TE (XA g Y M) own w sz xs vs F'∧TE (ZZ g Y) false w sz xs vs []:=by
 have hb:=hI.ob l _ ho
 simp only [OB] at hb
 obtain ⟨_,_,_,h3⟩:=hb
 rcases h3 with h3|⟨_,vs,F',h4,h5,h6,h7,h8⟩
 · exact absurd h3.1 hv
 · have hz:∀ b∈g.FP id,b < w.heap.size∧¬ ZZ g Y b:=fun b hb=>by
    have h0:=hI.lt b (.inr ⟨l,_,ho,hb⟩)
    exact ⟨h0.1,fun k=>k.elim h0.2 fun k=>hI.pd b k l _ ho hb⟩
   refine ⟨vs,F',h4,h5,(hz _ (by rw [h4];exact List.mem_cons_self)).1,(hz _ (by rw [h4];exact List.mem_cons_self)).2,h6,h7,h8,?_⟩
   exact TE.cool xs vs F' h8 ⟨fun b _ h=>Zpi h,fun b hb=>(hz b (by rw [h4];exact List.mem_cons_of_mem _ hb)).2⟩
theorem Zcm {x d:D} {j:Nat} (h:fldD x (some j)=some d):∃ fs,fs[j]? = some d∧x=.agg fs∧isAgD d=false:=by
 cases x with
 | agg fs =>
  simp only [fldD] at h
  cases hd:fs[j]? with
  | none=>rw [hd] at h;cases h
  | some d0 =>
   rw [hd] at h
   simp only at h
   split at h
   · cases h
   · cases h;exact ⟨fs,hd,rfl,by simp_all⟩
 | _=>simp [fldD] at h
theorem ZqN {n:Nat} {y:AV} {d:D} (h:frz M n y=some d):isAgD d=isAg y:=by
 cases n with
 | zero=>simp [frz] at h
 | succ n =>
  cases y with
  | dat e d0=>simp only [frz] at h;split at h<;>simp at h;subst h;rfl
  | dp e d0=>simp only [frz] at h;split at h<;>simp at h;subst h;rfl
  | nil sz=>simp only [frz] at h;cases h;rfl
  | sl l v off len sz=>simp only [frz] at h;split at h<;>(try split at h)<;>simp at h;subst h;rfl
  | ref l v r i j =>
   simp only [frz] at h
   split at h
   · cases hp:placeD M l v i j with
     | none=>rw [hp] at h;cases h
     | some p =>
      rw [hp] at h
      simp at h
      subst h
      simp only [placeD] at hp
      split at hp
      · split at hp
        · split at hp
          · split at hp
            · cases hp
            · cases hp;simp_all [isAg]
          · cases hp
        · cases hp
      · cases hp
   · cases h
  | ptr l v i j =>
   simp only [frz] at h
   split at h
   · rename_i xs _
     split at h
     · cases hq:(xs[i]?).bind (fldD · j) with
       | none=>rw [hq] at h;cases h
       | some a=>rw [hq] at h;cases h;rfl
     · cases h
   · split at h
     · split at h<;>simp at h
       obtain ⟨_,_,rfl⟩:=h;rfl
     · cases h
   · cases h
  | agg xs=>simp only [frz] at h;simp at h;obtain ⟨_,_,rfl⟩:=h;rfl
  | tup xs=>simp only [frz] at h;simp at h;obtain ⟨_,_,rfl⟩:=h;rfl
  | clo f xs=>simp only [frz] at h;simp at h;obtain ⟨_,_,rfl⟩:=h;rfl
  | bad=>simp [frz] at h
theorem Zcb {a:Addr} (h:a.spot=none) (n:Nat):(a.add n).spot=none:=by unfold Addr.add;split<;>simp [h]
theorem Zc3 (hI:Inv g Y M w) (hp:∀ b,g.P b→g.PB b):∀ (n:Nat) (a:AV) (v:Value) (d:D),SV g Y M w a v→frz M n a=some d→TV (ZZ g Y) false w d v []
 | 0,_,_,_,_,h=>by simp [frz] at h
 | _+1,.bad,_,_,_,h=>by simp [frz] at h
 | n+1,.dat e d,v,d',hs,h=>by
  simp only [frz] at h
  by_cases hv:vD M e=true
  · rw [if_pos hv] at h
    cases h
    cases e with
    | none=>simp only [SV] at hs;exact TV.cool _ _ _ hs ⟨fun b _ h=>Zpi h,by simp⟩
    | some e=>simp only [SV] at hs;simp [vD] at hv;exact TV.cool _ _ _ (hs.2 hv) ⟨fun b _ h=>ZqB hp h,by simp⟩
  · rw [if_neg hv] at h;cases h
 | n+1,.dp e d,v,d',hs,h=>by
  simp only [frz] at h
  by_cases hv:vD M e=true
  · rw [if_pos hv] at h
    cases h
    cases e with
    | none=>simp only [SV] at hs;exact TV.cool _ _ _ hs ⟨fun b _ h=>Zpi h,by simp⟩
    | some e=>simp only [SV] at hs;simp [vD] at hv;exact TV.cool _ _ _ (hs.2 hv) ⟨fun b _ h=>ZqB hp h,by simp⟩
  · rw [if_neg hv] at h;cases h
 | n+1,.nil sz,v,d,hs,h=>by
  simp only [frz] at h
  cases h
  simp only [SV] at hs
  simp only [TV]
  exact .inl ⟨trivial,.inl hs,trivial⟩
 | n+1,.sl l id off len sz,v,d,hs,h=>by
  simp only [frz] at h
  split at h
  · rename_i v' own sz' xs hm
    split at h
    · rename_i hc
      cases h
      obtain ⟨rfl,rfl,hle⟩:=hc
      simp only [SV] at hs
      obtain ⟨hu,hz,hs⟩:=hs
      rcases hs with ⟨hvr,rfl,rfl,rfl⟩|⟨hvr,a,c,rfl,h2,h3,h4,h5,h6⟩
      · simp only [TV];exact .inl ⟨by simp,.inl rfl,trivial⟩
      · obtain ⟨vs,F',k1,k2,k3,k4,k5,k6,k7,k8⟩:=OB.arr_cool hI hm hvr
        obtain ⟨us,Fa,Fb,Fc,q1,q2,q3⟩:=TE.range k8 k6 off len hle
        have hFb:Fb=[]:=by have:=congrArg List.length q1;simp at this;exact List.eq_nil_of_length_eq_zero (by omega)
        subst hFb
        have hlen:((xs.drop off).take len).length=len:=by simp;omega
        simp only [TV]
        refine .inr ⟨a,c,us,by rw [hlen],h2,by rw [hlen];exact h4,by rw [h3];exact k3,?_,.inr ⟨trivial,by rw [h3];exact k4,q3⟩⟩
        rcases h5 with rfl|rfl
        · have:len=0:=by omega
          subst this
          have:=q3.len
          simp at this
          subst this
          intro k v hk
          simp at hk
        · exact q2
    · cases h
  · cases h
 | n+1,.ref l id r i j,v,d,hs,h=>by
  simp only [frz] at h
  split at h
  · rename_i hr
    simp only [placeD] at h
    split at h
    · rename_i v' own sz xs hm
      split at h
      · rename_i hv
        subst hv
        simp only [SV] at hs
        obtain ⟨_,hs⟩:=hs
        obtain ⟨hu,hs⟩:=hs hr.1
        obtain ⟨hown,hvr,d0,p1,p2,p3⟩:=hs own sz xs hm
        rw [p1] at h
        simp [p2] at h
        subst h
        obtain ⟨vs,F',k1,k2,k3,k4,k5,k6,k7,k8⟩:=OB.arr_cool hI hm hvr
        cases hx:xs[i]? with
        | none=>rw [hx] at p1;simp at p1
        | some x =>
         rw [hx] at p1
         simp at p1
         obtain ⟨v1,us,v2,F1,Fi,F2,q1,q2,q3,q4,q5,q6,_⟩:=TE.get k8 hx
         have hFi:Fi=[]:=by have:=congrArg List.length q2;simp at this;exact List.eq_nil_of_length_eq_zero (by omega)
         subst hFi
         rw [q1] at k6
         have hcu:=k6.left.right
         rw [q3] at hcu
         cases j with
         | none =>
          simp [fldD] at p1
          subst p1
          obtain ⟨u,rfl,ht⟩:=(TC.mk p2).1 q6
          have h0:=hcu 0 u rfl
          rw [ZaW] at h0
          simp only [Option.getD_none] at p3
          rw [p3] at h0
          cases h0
          exact ht
         | some j =>
          obtain ⟨fs,p1a,rfl,p1b⟩:=Zcm p1
          obtain ⟨u1,u,u2,G1,Gj,G2,e1,e2,e3,e4,_⟩:=TL.get q6 p1a
          have hG:Gj=[]:=by have:=congrArg List.length e2;simp at this;exact List.eq_nil_of_length_eq_zero (by omega)
          subst hG
          have h0:=hcu j u (by rw [e1,← e3];simp)
          rw [ZaW] at h0
          simp only [Option.getD_some] at p3
          rw [p3] at h0
          cases h0
          exact e4
      · simp at h
    · simp at h
  · cases h
 | n+1,.ptr l id i j,v,d,hs,h=>by
  simp only [frz] at h
  simp only [SV] at hs
  obtain ⟨hu,hvr,rfl⟩:=hs
  split at h
  · rename_i v' own sz xs hm
    split at h
    · rename_i hv
      subst hv
      have hz:g.SZ v'=sz:=(hI.ob l _ hm).2.1
      obtain ⟨vs,F',k1,k2,k3,k4,k5,k6,k7,k8⟩:=OB.arr_cool hI hm hvr
      cases hx:xs[i]? with
      | none=>rw [hx] at h;simp at h
      | some x =>
       rw [hx] at h
       simp at h
       obtain ⟨d0,p1,rfl⟩:=h
       obtain ⟨v1,us,v2,F1,Fi,F2,q1,q2,q3,q4,q5,q6,_⟩:=TE.get k8 hx
       have hFi:Fi=[]:=by have:=congrArg List.length q2;simp at this;exact List.eq_nil_of_length_eq_zero (by omega)
       subst hFi
       rw [q1] at k6
       have hcu:=k6.left.right
       rw [q3] at hcu
       cases j with
       | none =>
        simp [fldD] at p1
        subst p1
        exact Zav.2 ⟨_,us,rfl,Zcb k2 _,by rw [ZaC];exact k3,by rw [hz];exact hcu,.inr ⟨rfl,by rw [ZaC];exact k4,q6⟩⟩
       | some j =>
        obtain ⟨fs,p1a,rfl,p1b⟩:=Zcm p1
        obtain ⟨u1,u,u2,G1,Gj,G2,e1,e2,e3,e4,_⟩:=TL.get q6 p1a
        have hG:Gj=[]:=by have:=congrArg List.length e2;simp at this;exact List.eq_nil_of_length_eq_zero (by omega)
        subst hG
        have h0:=hcu j u (by rw [e1,← e3];simp)
        rw [ZaW] at h0
        exact Zav.2 ⟨_,[u],rfl,Zcb k2 _,by rw [ZaC];exact k3,by
         intro k v hk
         cases k with
         | zero=>simp at hk;subst hk;rw [hz,ZaW];simpa using h0
         | succ k=>simp at hk,.inr ⟨rfl,by rw [ZaC];exact k4,(TC.mk p1b).2 ⟨u,rfl,e4⟩⟩⟩
    · cases h
  · rename_i v' x hm
    split at h
    · rename_i hc
      obtain ⟨rfl,rfl⟩:=hc
      split at h
      · rename_i y hy
        cases hd:frz M n y with
        | none=>rw [hd] at h;cases h
        | some d0 =>
         rw [hd] at h
         simp at h
         subst h
         have hb:=hI.ob l _ hm
         simp only [OB] at hb
         obtain ⟨_,_,k1,k2,_,v,k3,k4,k5⟩:=hb
         obtain ⟨u,q1,q2,q3⟩:=ZiG k5 hy
         have ht:=Zc3 hI hp n y u d0 q1 hd
         have hbl:(g.AD v').block < w.heap.size∧¬ ZZ g Y (g.AD v').block:=by
          have h0:=hI.lt (g.AD v').block (.inr ⟨l,_,hm,by simp only [Obj.ver];rw [k1];exact List.mem_cons_self⟩)
          exact ⟨h0.1,fun k=>k.elim h0.2 fun k=>hI.pd _ k l _ hm (by simp only [Obj.ver];rw [k1];exact List.mem_cons_self)⟩
         simp only [Nat.zero_mul,Nat.zero_add]
         cases j with
         | none =>
          obtain ⟨rfl,rfl⟩:=q2 rfl
          exact Zav.2 ⟨_,u.cells.toList,rfl,Zcb k2 _,by rw [ZaC];exact hbl.1,by simpa [Addr.add] using k4,.inr ⟨rfl,by rw [ZaC];exact hbl.2,TC.of ht⟩⟩
         | some j =>
          obtain ⟨q3,q4⟩:=q3 j rfl
          refine Zav.2 ⟨_,[u],rfl,Zcb k2 _,by rw [ZaC];exact hbl.1,?_,.inr ⟨rfl,by rw [ZaC];exact hbl.2,(TC.mk ((ZqN hd).trans q4)).2 ⟨u,rfl,ht⟩⟩⟩
          intro k v hk
          cases k with
          | zero=>simp at hk;subst hk;rw [ZaW];simpa using k4 j _ (by simpa using q3)
          | succ k=>simp at hk
      · cases h
    · cases h
  · cases h
 | n+1,.agg xs,v,d,hs,h=>by
  simp only [frz] at h
  simp only [SV] at hs
  obtain ⟨vs,rfl,hs⟩:=hs
  cases hr:optL (xs.map (frz M n)) with
  | none=>rw [hr] at h;cases h
  | some ds=>rw [hr] at h;simp at h;subst h;simp only [TV];exact ⟨vs,rfl,ZdZ (Zc3 hI hp n) hs hr⟩
 | n+1,.tup xs,v,d,hs,h=>by
  simp only [frz] at h
  simp only [SV] at hs
  obtain ⟨vs,rfl,hs⟩:=hs
  cases hr:optL (xs.map (frz M n)) with
  | none=>rw [hr] at h;cases h
  | some ds=>rw [hr] at h;simp at h;subst h;simp only [TV];exact ⟨vs,rfl,ZdZ (Zc3 hI hp n) hs hr⟩
 | n+1,.clo f xs,v,d,hs,h=>by
  simp only [frz] at h
  simp only [SV] at hs
  obtain ⟨vs,rfl,hs⟩:=hs
  cases hr:optL (xs.map (frz M n)) with
  | none=>rw [hr] at h;cases h
  | some ds=>rw [hr] at h;simp at h;subst h;simp only [TV];exact ⟨trivial,vs,rfl,ZdZ (Zc3 hI hp n) hs hr⟩
end
end Go.Vm
namespace Go.Vm
open Go
set_option linter.unusedSimpArgs false
set_option linter.unusedVariables false
section
variable {Y:Nat→Prop} {w:World}
structure Tk (g:G) (Y:Nat→Prop) (M:Mem) (w:World) (g1:G) (M1:Mem) (F:List Nat):Prop where
 inv:Inv g1 Y M1 w
 stp:Stp g M w g1 M1 w
 gh:g1 = { g with P:=g1.P,PB:=g1.PB }
 nd:F.Nodup
 inP:∀ b∈F,g1.P b
 new:∀ b∈F,¬ g.P b
 mono:∀ b,g.P b→g1.P b
 sub:∀ l o,M1.m l=some o→M.m l=some o
 e:M1.e=M.e
 r:M1.r=M.r
 c:M1.c=M.c
theorem Tk.same {g:G} {M:Mem} (hI:Inv g Y M w):Tk g Y M w g M []:=⟨hI,Stp.refl _ _ _,rfl,List.nodup_nil,by simp,by simp,fun _ h=>h,fun _ _ h=>h,rfl,rfl,rfl⟩
theorem Tk.trans {g g1 g2:G} {M M1 M2:Mem} {F1 F2:List Nat} (a:Tk g Y M w g1 M1 F1) (b:Tk g1 Y M1 w g2 M2 F2):Tk g Y M w g2 M2 (F1++F2) where
 inv:=b.inv
 stp:=a.stp.trans b.stp
 gh:=by rw [b.gh,a.gh]
 nd:=List.nodup_append.2 ⟨a.nd,b.nd,fun x hx y hy e=>b.new y hy (e▸a.inP x hx)⟩
 inP:=fun x hx=>(List.mem_append.1 hx).elim (fun h=>b.mono x (a.inP x h)) (b.inP x)
 new:=fun x hx=>(List.mem_append.1 hx).elim (a.new x) (fun h k=>b.new x h (a.mono x k))
 mono:=fun x h=>b.mono x (a.mono x h)
 sub:=fun l o h=>a.sub l o (b.sub l o h)
 e:=b.e.trans a.e
 r:=b.r.trans a.r
 c:=b.c.trans a.c
theorem TV.later {g1 g2:G} {M1 M2:Mem} {o:Bool} {d:D} {v:Value} {F:List Nat} (s:Stp g1 M1 w g2 M2 w) (h:TV (XA g1 Y M1) o w d v F):TV (XA g2 Y M2) o w d v F :=
 TV.stable d v F h ⟨Nat.le_refl _,s.sameA.out,fun _ _ _=>rfl⟩
theorem Zc6 {f:AV→Mem→Option (D×Mem)}
 (ih:∀ (g:G) (M:Mem) (a:AV) (v:Value) (d:D) (M1:Mem),Inv g Y M w→SV g Y M w a v→f a M=some (d,M1)→∃ g1 F,Tk g Y M w g1 M1 F∧TV (XA g1 Y M1) true w d v F) :
 ∀ {xs:List AV} {vs:List Value} {ds:List D} {g:G} {M M1:Mem},Inv g Y M w→SVL g Y M w xs vs→takL f xs M=some (ds,M1) →
  ∃ g1 F,Tk g Y M w g1 M1 F∧TL (XA g1 Y M1) true w ds vs F
 | [],vs,ds,g,M,M1,hI,h,hd=>by
  simp [takL] at hd
  obtain ⟨rfl,rfl⟩:=hd
  simp only [SVL] at h
  exact ⟨g,[],Tk.same hI,by simp only [TL];exact ⟨h,trivial⟩⟩
 | x::xs,vs,ds,g,M,M1,hI,h,hd=>by
  simp only [SVL] at h
  obtain ⟨u,us,rfl,h2,h3⟩:=h
  simp only [takL] at hd
  cases hx:f x M with
  | none=>rw [hx] at hd;cases hd
  | some p =>
   obtain ⟨d,Ma⟩:=p
   rw [hx] at hd
   simp only at hd
   obtain ⟨ga,Fa,ta,ha⟩:=ih g M x u d Ma hI h2 hx
   cases hr:takL f xs Ma with
   | none=>rw [hr] at hd;cases hd
   | some q =>
    obtain ⟨r,Mb⟩:=q
    rw [hr] at hd
    simp at hd
    obtain ⟨rfl,rfl⟩:=hd
    obtain ⟨gb,Fb,tb,hb⟩:=Zc6 ih ta.inv (SVL.stp ta.stp xs us h3) hr
    refine ⟨gb,Fa++Fb,ta.trans tb,?_⟩
    simp only [TL]
    exact ⟨u,us,Fa,Fb,rfl,rfl,TV.later tb.stp ha,hb⟩
theorem TL.rsOk {X:Nat→Prop} {o:Bool}:∀ {fs:List D} {vs:List Value},fs.all rsOk1=true→TL X false w fs vs []→TL X o w (fs.map rs1) vs []
 | [],vs,_,h=>by simpa only [List.map_nil,TL] using h
 | x::xs,vs,hs,h=>by
  simp only [List.all_cons,Bool.and_eq_true] at hs
  simp only [List.map_cons,TL] at h ⊢
  obtain ⟨u,us,F1,F2,rfl,hF,h2,h3⟩:=h
  obtain ⟨rfl,rfl⟩:=List.append_eq_nil_iff.1 hF.symm
  refine ⟨u,us,[],[],rfl,rfl,TV.rs1 h2 ?_ ?_ ?_,TL.rsOk hs.2 h3⟩<;>(intro e he;subst he;simp [rsOk1,isSc1] at hs)
theorem TV.rsOk {X:Nat→Prop} {o:Bool} {d:D} {v:Value} (hs:rsOk d=true) (h:TV X false w d v []):TV X o w (rsD d) v []:=by
 cases d with
 | agg fs=>simp only [Vm.rsOk] at hs;simp only [rsD,TV] at h ⊢;obtain ⟨vs,h1,h2⟩:=h;exact ⟨vs,h1,TL.rsOk hs h2⟩
 | tup fs=>simp only [Vm.rsOk] at hs;simp only [rsD,TV] at h ⊢;obtain ⟨vs,h1,h2⟩:=h;exact ⟨vs,h1,TL.rsOk hs h2⟩
 | ptr d=>simp [Vm.rsOk,rsOk1,isSc1] at hs
 | _=>exact TV.rs1 h (by simp) (by simp) (by simp)
theorem Inv.dropTk {g:G} {M:Mem} (hI:Inv g Y M w) {l:Nat} {o:Obj} (ho:M.m l=some o) {F:List Nat} (hF:∀ b∈F,b∈g.FP o.ver) (hn:F.Nodup) :
 Tk g Y M w (g.pend F (· = (g.AD o.ver).block)) (M.set l none) F:=by
 obtain ⟨h1,h2⟩:=hI.drop ho hF
 exact ⟨h1,h2,rfl,hn,fun b h=>.inr h,fun b h k=>hI.pd b k l o ho (hF b h),fun b h=>.inl h,fun l' o' h=>(ZbU h).2,rfl,rfl,rfl⟩
theorem ZbF:∀ (n:Nat) (g:G) (M:Mem) (a:AV) (v:Value) (d:D) (M1:Mem),Inv g Y M w→SV g Y M w a v→tak n a M=some (d,M1) →
 ∃ g1 F,Tk g Y M w g1 M1 F∧TV (XA g1 Y M1) true w d v F
 | 0,_,_,_,_,_,_,_,_,h=>by simp [tak] at h
 | n+1,g,M,.bad,v,d,M1,hI,hs,h=>by simp [tak] at h
 | n+1,g,M,.dp _ _,v,d,M1,hI,hs,h=>by simp [tak] at h
 | n+1,g,M,.clo _ _,v,d,M1,hI,hs,h=>by simp [tak] at h
 | n+1,g,M,.dat none d0,v,d,M1,hI,hs,h=>by
  simp only [tak] at h
  simp only [SV] at hs
  split at h
  · rename_i hsc;cases h;exact ⟨g,[],Tk.same hI,(TV.sc hsc hs).2⟩
  · split at h
    · rename_i hok;cases h;exact ⟨g,[],Tk.same hI,TV.rsOk hok hs⟩
    · cases h
 | n+1,g,M,.dat (some e) d0,v,d,M1,hI,hs,h=>by
  simp [tak] at h
 | n+1,g,M,.nil sz,v,d,M1,hI,hs,h=>by
  simp only [tak] at h
  cases h
  simp only [SV] at hs
  exact ⟨g,[],Tk.same hI,by simp only [TV];exact .inl ⟨trivial,.inl hs,trivial⟩⟩
 | n+1,g,M,.sl l id off len sz,v,d,M1,hI,hs,h=>by
  simp only [tak] at h
  split at h
  · rename_i v' own sz' xs hm
    split at h
    · rename_i hc
      obtain ⟨rfl,rfl,hle⟩:=hc
      cases h
      simp only [SV] at hs
      obtain ⟨hu,hz,hs⟩:=hs
      have hob:=hI.ob l _ hm
      simp only [OB] at hob
      obtain ⟨_,_,hnd,hob⟩:=hob
      rcases hs with ⟨hvr,rfl,rfl,rfl⟩|⟨hvr,a,c,rfl,h2,h3,h4,h5,h6⟩
      · refine ⟨_,[],hI.dropTk hm (by simp) List.nodup_nil,?_⟩
        cases own
        · simp only [Bool.false_eq_true,if_false,TV];exact ⟨trivial,.inl ⟨by simp,.inl rfl⟩⟩
        · simp only [if_true,TV];exact .inl ⟨by simp,.inl rfl,trivial⟩
      · rcases hob with hob|⟨_,vs,F',k1,k2,k3,k4,k5⟩
        · exact absurd hob.1 hvr
        · have hblt:(g.AD v').block < w.heap.size:=(hI.lt _ (.inr ⟨l,_,hm,by simp only [Obj.ver];rw [k1];exact List.mem_cons_self⟩)).1
          obtain ⟨us,Fa,Fb,Fc,q1,q2,q3⟩:=TE.range k5 k4 off len hle
          have hlen:((xs.drop off).take len).length=len:=by simp;omega
          have hcl:CL w a us:=by
           rcases h5 with rfl|rfl
           · have:len=0:=by omega
             subst this
             have:=q3.len
             simp at this
             subst this
             intro k v hk
             simp at hk
           · exact q2
          have hrm:RM w a (c * sz'):=by
           obtain ⟨cs,E,r1,r2⟩:=k3
           refine ⟨cs,E,by rw [h3];exact r1,?_⟩
           rcases h5 with rfl|rfl
           · exact .inl (by simp)
           · rcases r2 with r2|r2
             · exact .inl (by omega)
             · refine .inr ?_
               have:((g.AD v').add (off * sz')).off=(g.AD v').off+off * sz':=by unfold Addr.add;split<;>simp_all
               rw [this];omega
          cases own with
          | true =>
           refine ⟨_,(g.AD v').block::Fb,hI.dropTk hm ?_ ?_,?_⟩
           · intro b hb
             simp only [Obj.ver]
             rw [k1,q1]
             rcases List.mem_cons.1 hb with rfl|hb
             · exact List.mem_cons_self
             · exact List.mem_cons_of_mem _ (List.mem_append_left _ (List.mem_append_right _ hb))
           · rw [k1,q1] at hnd
             obtain ⟨n1,n2⟩:=List.nodup_cons.1 hnd
             refine List.nodup_cons.2 ⟨fun hb=>n1 (List.mem_append_left _ (List.mem_append_right _ hb)),?_⟩
             exact (List.nodup_append.1 (List.nodup_append.1 n2).1).2.1
           · simp only [if_true,TV]
             refine .inr ⟨a,c,us,by rw [hlen],h2,by rw [hlen];exact h4,by rw [h3];exact hblt,hcl,.inl ⟨trivial,Fb,by rw [h3],hrm,?_⟩⟩
             refine TE.stable _ us Fb q3 ⟨Nat.le_refl _,?_,fun _ _ _=>rfl⟩
             exact (hI.drop hm (F:=(g.AD v').block::Fb) (by
              intro b hb
              simp only [Obj.ver]
              rw [k1,q1]
              rcases List.mem_cons.1 hb with rfl|hb
              · exact List.mem_cons_self
              · exact List.mem_cons_of_mem _ (List.mem_append_left _ (List.mem_append_right _ hb)))).2.sameA.out
          | false =>
           have ht:=hI.dropTk hm (F:=[]) (by simp) List.nodup_nil
           refine ⟨_,[],ht,?_⟩
           have hFb:Fb=[]:=q3.nof
           subst hFb
           simp only [Bool.false_eq_true,if_false,TV]
           refine ⟨trivial,.inr ⟨a,c,us,by rw [hlen],h2,by rw [hlen];exact h4,by rw [h3];exact hblt,hcl,?_,TE.stable _ us [] q3 ⟨Nat.le_refl _,ht.stp.sameA.out,fun _ _ _=>rfl⟩⟩⟩
           rw [h3]
           have hin:(g.AD v').block∈g.FP (Obj.arr v' false sz' xs).ver:=by simp only [Obj.ver];rw [k1];exact List.mem_cons_self
           intro hx
           rcases hx with hy|hp|⟨l',o',m1,m2⟩
           · exact (hI.lt _ (.inr ⟨l,_,hm,hin⟩)).2 hy
           · rcases hp with hp|hp
             · exact hI.pd _ hp l _ hm hin
             · cases hp
           · obtain ⟨hne,m1⟩:=ZbU m1
             exact (hI.dj l l' _ o' hm m1 (fun e=>hne e.symm)).2 _ hin m2
    · cases h
  · cases h
 | n+1,g,M,.ref l id r i j,v,d,M1,hI,hs,h=>by
  simp only [tak] at h
  split at h
  · rename_i hr
    split at h
    · rename_i own d0 hp
      split at h
      · rename_i hown
        cases h
        simp only [placeD] at hp
        split at hp
        · rename_i v' own' sz xs hm
          split at hp
          · rename_i hv
            subst hv
            simp only [SV] at hs
            obtain ⟨hu,hs⟩:=hs.2 hr.1
            obtain ⟨hown',hvr,d1,p1,p2,p3⟩:=hs own' sz xs hm
            rw [p1] at hp
            simp [p2] at hp
            obtain ⟨_,rfl⟩:=hp
            subst hown'
            have hob:=hI.ob l _ hm
            simp only [OB] at hob
            obtain ⟨_,_,hnd,hob⟩:=hob
            rcases hob with hob|⟨_,vs,F',k1,k2,k3,k4,k5⟩
            · exact absurd hob.1 hvr
            · cases hx:xs[i]? with
              | none=>rw [hx] at p1;simp at p1
              | some x =>
               rw [hx] at p1
               simp at p1
               obtain ⟨v1,us,v2,F1,Fi,F2,q1,q2,q3,q4,q5,q6,_⟩:=TE.get k5 hx
               rw [q1] at k4
               have hcu:=k4.left.right
               rw [q3] at hcu
               have key:∃ Fj,(∀ b∈Fj,b∈Fi)∧(Fi.Nodup→Fj.Nodup)∧TV (XA g Y M) true w d1 v Fj:=by
                cases j with
                | none =>
                 simp [fldD] at p1
                 subst p1
                 obtain ⟨u,rfl,ht⟩:=(TC.mk p2).1 q6
                 have h0:=hcu 0 u rfl
                 rw [ZaW] at h0
                 simp only [Option.getD_none] at p3
                 rw [p3] at h0
                 cases h0
                 exact ⟨Fi,fun _ h=>h,fun h=>h,ht⟩
                | some j =>
                 obtain ⟨fs,p1a,rfl,p1b⟩:=Zcm p1
                 obtain ⟨u1,u,u2,G1,Gj,G2,e1,e2,e3,e4,_⟩:=TL.get q6 p1a
                 have h0:=hcu j u (by rw [e1,← e3];simp)
                 rw [ZaW] at h0
                 simp only [Option.getD_some] at p3
                 rw [p3] at h0
                 cases h0
                 refine ⟨Gj,fun b hb=>?_,fun hn=>?_,e4⟩
                 · rw [e2];exact List.mem_append_left _ (List.mem_append_right _ hb)
                 · rw [e2] at hn;exact (List.nodup_append.1 (List.nodup_append.1 hn).1).2.1
               obtain ⟨Fj,j1,j2,j3⟩:=key
               have hin:∀ b∈Fj,b∈g.FP (Obj.arr v' true sz xs).ver:=by
                intro b hb
                simp only [Obj.ver]
                rw [k1,q2]
                exact List.mem_cons_of_mem _ (List.mem_append_left _ (List.mem_append_right _ (j1 b hb)))
               have hnj:Fj.Nodup:=by
                rw [k1,q2] at hnd
                exact j2 (List.nodup_append.1 (List.nodup_append.1 (List.nodup_cons.1 hnd).2).1).2.1
               have ht:=hI.dropTk hm hin hnj
               exact ⟨_,Fj,ht,TV.later ht.stp j3⟩
          · simp at hp
        · simp at hp
      · cases h
    · cases h
  · cases h
 | n+1,g,M,.ptr l id i j,v,d,M1,hI,hs,h=>by
  simp only [tak] at h
  simp only [SV] at hs
  obtain ⟨hu,hvr,rfl⟩:=hs
  split at h
  · rename_i v' x hm
    split at h
    · rename_i hc
      obtain ⟨rfl,rfl,rfl⟩:=hc
      cases hr:tak n x (M.set l none) with
      | none=>rw [hr] at h;cases h
      | some p =>
       obtain ⟨d0,Ma⟩:=p
       rw [hr] at h
       simp at h
       obtain ⟨rfl,rfl⟩:=h
       have hob:=hI.ob l _ hm
       simp only [OB] at hob
       obtain ⟨_,_,k1,k2,_,u,k3,k4,k5⟩:=hob
       have hin:∀ b∈[(g.AD v').block],b∈g.FP (Obj.box v' x).ver:=by simp only [Obj.ver];rw [k1];exact fun _ h=>h
       have ht:=hI.dropTk hm hin (by simp)
       obtain ⟨g1,F,h1,h2⟩:=ZbF n _ _ x u d0 Ma ht.inv (SV.stp ht.stp x u k5) hr
       refine ⟨g1,_,ht.trans h1,?_⟩
       simp only [Nat.zero_mul,Nat.zero_add,Option.getD_none,Addr.add,if_true]
       have hlt:=(hI.lt _ (.inr ⟨l,_,hm,hin _ (List.mem_singleton.2 rfl)⟩)).1
       exact Zav.2 ⟨_,u.cells.toList,rfl,k2,hlt,k4,.inl ⟨rfl,F,rfl,by simpa using k3,TC.of h2⟩⟩
    · cases h
  · cases h
 | n+1,g,M,.agg xs,v,d,M1,hI,hs,h=>by
  simp only [tak] at h
  simp only [SV] at hs
  obtain ⟨vs,rfl,hs⟩:=hs
  cases hr:takL (tak n) xs M with
  | none=>rw [hr] at h;cases h
  | some p =>
   obtain ⟨ds,Ma⟩:=p
   rw [hr] at h
   simp at h
   obtain ⟨rfl,rfl⟩:=h
   obtain ⟨g1,F,h1,h2⟩:=Zc6 (ZbF n) hI hs hr
   exact ⟨g1,F,h1,by simp only [TV];exact ⟨vs,rfl,h2⟩⟩
 | n+1,g,M,.tup xs,v,d,M1,hI,hs,h=>by
  simp only [tak] at h
  simp only [SV] at hs
  obtain ⟨vs,rfl,hs⟩:=hs
  cases hr:takL (tak n) xs M with
  | none=>rw [hr] at h;cases h
  | some p =>
   obtain ⟨ds,Ma⟩:=p
   rw [hr] at h
   simp at h
   obtain ⟨rfl,rfl⟩:=h
   obtain ⟨g1,F,h1,h2⟩:=Zc6 (ZbF n) hI hs hr
   exact ⟨g1,F,h1,by simp only [TV];exact ⟨vs,rfl,h2⟩⟩
end
end Go.Vm
namespace Go.Vm
open Go
set_option linter.unusedVariables false
set_option linter.unusedSimpArgs false
def isVD:D→Value→Bool
 | .int k n,.int k' n'=>k == k'&&n == n'
 | .bool a,.bool b=>a == b
 | .str s,.string t=>s.data == t.data
 | .nili,.nilIface=>true
 | _,_=>false
def isV1:AV→Value→Bool
 | .dat none d,v=>isVD d v
 | .nil _,.slice none 0 0=>true
 | .clo f [],.func (.func f') fs cs=>f == f'&&fs.size == 0&&cs.size == 0
 | _,_=>false
def isVL:List AV→List Value→Bool
 | [],[]=>true
 | x::xs,v::vs=>isV1 x v&&isVL xs vs
 | _,_=>false
def isV:AV→Value→Bool
 | .agg xs,.agg vs=>isVL xs vs.toList
 | a,v=>isV1 a v
def chkX:Operand→X→Bool
 | .tmp n,.t m=>n == m
 | .const v,.k a=>isV a v
 | .func f,.k (.clo f' [])=>f == f'
 | _,_=>false
section
variable {P:Program} {g:G} {Y:Nat→Prop} {M:Mem} {w:World}
theorem Zi1 {d:D} {v:Value} (h:isVD d v=true) {X:Nat→Prop} {o:Bool} {w:World}:TV X o w d v []:=by
 cases d<;>cases v<;>simp [isVD] at h<;>simp only [TV]<;>try exact ⟨trivial,trivial⟩
 · obtain ⟨rfl,rfl⟩:=h;exact ⟨rfl,trivial⟩
 · subst h;exact ⟨rfl,trivial⟩
 · rename_i s t
   cases s;cases t;simp at h;subst h;exact ⟨rfl,trivial⟩
theorem ZiL {a:AV} {v:Value} (h:isV1 a v=true):SV g Y M w a v:=by
 cases a with
 | dat e d=>cases e<;>simp [isV1] at h;simp only [SV];exact Zi1 h
 | nil sz=>cases v with
  | slice a l c=>cases a<;>cases l<;>cases c<;>simp [isV1] at h;simp only [SV]
  | _=>simp [isV1] at h
 | clo f xs=>cases xs with
  | nil=>cases v with
   | func fn fs cs=>cases fn with
    | func f' =>
     simp [isV1] at h
     obtain ⟨⟨rfl,h1⟩,h2⟩:=h
     subst h1
     subst h2
     simp only [SV,SVL]
     exact ⟨[],rfl,rfl⟩
    | _=>simp [isV1] at h
   | _=>simp [isV1] at h
  | cons _ _=>simp [isV1] at h
 | _=>simp [isV1] at h
theorem Zlu:∀ {xs:List AV} {vs:List Value},isVL xs vs=true→SVL g Y M w xs vs
 | [],[],_=>by simp only [SVL]
 | [],_::_,h=>by simp [isVL] at h
 | x::xs,[],h=>by simp [isVL] at h
 | x::xs,v::vs,h=>by simp [isVL] at h;simp only [SVL];exact ⟨v,vs,rfl,ZiL h.1,Zlu h.2⟩
theorem ZoS {a:AV} {v:Value} (h:isV a v=true):SV g Y M w a v:=by
 cases a with
 | agg xs=>cases v with
  | agg vs=>simp only [isV] at h;simp only [SV];exact ⟨vs.toList,by simp,Zlu h⟩
  | _=>simp [isV,isV1] at h
 | _=>exact ZiL (by simpa [isV] using h)
structure Slots (g:G) (Y:Nat→Prop) (M:Mem) (w:World) (s:Nat→AV) (ρ:Operand→Value):Prop where
 sl:∀ t,SV g Y M w (s t) (ρ (.tmp t))
 const:∀ v,ρ (.const v)=v
 fn:∀ f,ρ (.func f)=.func (.func f) #[] #[]
theorem Zaq {s:Nat→AV} {ρ:Operand→Value} (hs:Slots g Y M w s ρ) {x:Operand} {y:X} (h:chkX x y=true):SV g Y M w (y.ev s) (ρ x):=by
 cases x<;>cases y<;>simp [chkX] at h
 · subst h;exact hs.sl _
 · rw [hs.const];exact ZoS h
 · rename_i f b
   cases b with
   | clo f' xs=>cases xs with
    | nil=>simp [chkX] at h;subst h;rw [hs.fn];simp only [X.ev,SV,SVL];exact ⟨[],rfl,rfl⟩
    | cons _ _=>simp [chkX] at h
   | _=>simp [chkX] at h
def Res (P:Program) (o:Oper) (ρ:Operand→Value) (g:G) (Y:Nat→Prop) (M:Mem) (w:World) (ib:Nat) (av:AV) (M':Mem):Prop :=
 ∃ v w' g',((execOp ρ o).run P w=.ok (.value v) w'∨((execOp ρ o).run P w=.ok .skip w'∧v=undef)) ∧
  Inv g' Y M' w'∧Stp g M w g' M' w'∧SV g' Y M' w' av v∧(∀ id,g'.U id→g.U id∨(ib≤id∧id < ib+64))∧∀ b,¬ g'.P b
theorem Res.pure {o:Oper} {ρ:Operand→Value} {ib:Nat} {av:AV} {v:Value} (hI:Inv g Y M w) (hp:∀ b,¬ g.P b) (hr:(execOp ρ o).run P w=.ok (.value v) w)
 (hv:SV g Y M w av v):Res P o ρ g Y M w ib av M :=
 ⟨v,w,g,.inl hr,hI,Stp.refl _ _ _,hv,fun _ h=>.inl h,hp⟩
theorem Zgp {a:AV} {v:Value} (hs:SV g Y M w a v) (h:oneA M a=true):v.oneCell'=true∧v.cells = #[v]:=by
 have key:∀ (X:Nat→Prop) (d:D),TV X false w d v []→oneD d=true→v.oneCell'=true∧v.cells = #[v]:=by
  intro X d ht hd
  cases d with
  | int k n=>simp only [TV] at ht;rw [ht.1];exact ⟨rfl,rfl⟩
  | bool b=>simp only [TV] at ht;rw [ht.1];exact ⟨rfl,rfl⟩
  | str b=>simp only [TV] at ht;rw [ht.1];exact ⟨rfl,rfl⟩
  | nili=>simp only [TV] at ht;rw [ht.1];exact ⟨rfl,rfl⟩
  | ifc=>simp only [TV] at ht;obtain ⟨⟨t,x,rfl⟩,_⟩:=ht;exact ⟨rfl,rfl⟩
  | anyb=>simp only [TV] at ht;obtain ⟨⟨b,rfl⟩,_⟩:=ht;exact ⟨rfl,rfl⟩
  | dead=>simp only [TV] at ht;obtain ⟨⟨a,n,c,rfl⟩,_⟩:=ht;exact ⟨rfl,rfl⟩
  | sl sz xs=>simp only [TV] at ht;rcases ht with ⟨_,hnv,_⟩|⟨a,c,vs,rfl,_⟩<;>(try obtain ⟨_,rfl⟩:=hnv.ex)<;>exact ⟨rfl,rfl⟩
  | rs sz xs=>simp only [TV] at ht;rcases ht.2 with ⟨_,hnv⟩|⟨a,c,vs,rfl,_⟩<;>(try obtain ⟨_,rfl⟩:=hnv.ex)<;>exact ⟨rfl,rfl⟩
  | ptr d=>obtain ⟨a,us,rfl,_⟩:=Zav.1 ht;exact ⟨rfl,rfl⟩
  | clo f xs=>simp only [TV] at ht;obtain ⟨_,vs,rfl,_⟩:=ht;exact ⟨rfl,rfl⟩
  | agg fs=>simp [oneD] at hd
  | tup fs=>simp [oneD] at hd
 cases a with
 | bad=>simp [oneA] at h
 | dat e d =>
  simp [oneA] at h
  cases e with
  | none=>simp only [SV] at hs;exact key _ d hs h.2
  | some e=>simp only [SV] at hs;simp [vD] at h;exact key _ d (hs.2 h.1) h.2
 | dp e d =>
  simp [oneA] at h
  cases e with
  | none=>simp only [SV] at hs;exact key _ (.ptr d) hs rfl
  | some e=>simp only [SV] at hs;simp [vD] at h;exact key _ (.ptr d) (hs.2 h) rfl
 | nil sz=>simp only [SV] at hs;rw [hs];exact ⟨rfl,rfl⟩
 | sl l v off len sz=>simp only [SV] at hs;rcases hs.2.2 with ⟨_,rfl,_⟩|⟨_,a,c,rfl,_⟩<;>exact ⟨rfl,rfl⟩
 | ptr l v i j=>simp only [SV] at hs;rw [hs.2.2];exact ⟨rfl,rfl⟩
 | ref l v r i j=>simp [oneA] at h
 | agg xs=>simp [oneA] at h
 | tup xs=>simp [oneA] at h
 | clo f xs=>simp only [SV] at hs;obtain ⟨vs,rfl,_⟩:=hs;exact ⟨rfl,rfl⟩
theorem Zlv:∀ {xs:List AV} {vs:List Value},SVL g Y M w xs vs→xs.all (oneA M)=true→∀ u∈vs,u.oneCell'=true
 | [],vs,h,_=>by simp only [SVL] at h;subst h;simp
 | x::xs,vs,h,ha=>by
  simp only [List.all_cons,Bool.and_eq_true] at ha
  simp only [SVL] at h
  obtain ⟨u,us,rfl,h2,h3⟩:=h
  intro y hy
  rcases List.mem_cons.1 hy with rfl|hy
  · exact (Zgp h2 ha.1).1
  · exact Zlv h3 ha.2 y hy
theorem ZhB {X:Nat→Prop} {o:Bool}:∀ {fs:List D} {vs:List Value} {F:List Nat},TL X o w fs vs F→fs.all oneD=true→∀ u∈vs,u.oneCell'=true
 | [],vs,F,h,_=>by simp only [TL] at h;rw [h.1];simp
 | x::xs,vs,F,h,ha=>by
  simp only [List.all_cons,Bool.and_eq_true] at ha
  simp only [TL] at h
  obtain ⟨u,us,F1,F2,rfl,_,h2,h3⟩:=h
  intro y hy
  rcases List.mem_cons.1 hy with rfl|hy
  · have hd:=ha.1
    cases x with
    | int k n=>simp only [TV] at h2;rw [h2.1];rfl
    | bool b=>simp only [TV] at h2;rw [h2.1];rfl
    | str b=>simp only [TV] at h2;rw [h2.1];rfl
    | nili=>simp only [TV] at h2;rw [h2.1];rfl
    | ifc=>simp only [TV] at h2;obtain ⟨⟨t,x,rfl⟩,_⟩:=h2;rfl
    | anyb=>simp only [TV] at h2;obtain ⟨⟨b,rfl⟩,_⟩:=h2;rfl
    | dead=>simp only [TV] at h2;obtain ⟨⟨a,n,c,rfl⟩,_⟩:=h2;rfl
    | sl sz xs=>simp only [TV] at h2;rcases h2 with ⟨_,hnv,_⟩|⟨a,c,vs,rfl,_⟩<;>(try obtain ⟨_,rfl⟩:=hnv.ex)<;>rfl
    | rs sz xs=>simp only [TV] at h2;rcases h2.2 with ⟨_,hnv⟩|⟨a,c,vs,rfl,_⟩<;>(try obtain ⟨_,rfl⟩:=hnv.ex)<;>rfl
    | ptr d=>obtain ⟨a,us,rfl,_⟩:=Zav.1 h2;rfl
    | clo f xs=>simp only [TV] at h2;obtain ⟨_,vs,rfl,_⟩:=h2;rfl
    | agg fs=>simp [oneD] at hd
    | tup fs=>simp [oneD] at hd
  · exact ZhB h3 ha.2 y hy
theorem TL.len {X:Nat→Prop} {o:Bool} {fs:List D} {us:List Value} {F:List Nat} (h:TL X o w fs us F):us.length=fs.length:=TC.len (d:=.agg fs) h
theorem ZpT {a:AV} {v:Value} (hs:SV g Y M w a v) (h:okA M a=true):(∀ u∈v.cells.toList,u.oneCell'=true)∧v.cells.size=a.size:=by
 have one:oneA M a=true→a.size=1→(∀ u∈v.cells.toList,u.oneCell'=true)∧v.cells.size=a.size:=by
  intro h1 h2
  obtain ⟨k1,k2⟩:=Zgp hs h1
  rw [k2,h2]
  simp [k1]
 cases a with
 | agg xs =>
  simp only [okA] at h
  simp only [SV] at hs
  obtain ⟨vs,rfl,hs⟩:=hs
  exact ⟨by simpa [Value.cells] using Zlv hs h,by simp [Value.cells,AV.size,hs.length]⟩
 | dat e d =>
  cases d with
  | agg fs =>
   simp [okA] at h
   have ha:fs.all oneD=true:=by simpa using h.2
   cases e with
   | none =>
    simp only [SV,TV] at hs
    obtain ⟨vs,rfl,hs⟩:=hs
    exact ⟨by simpa [Value.cells] using ZhB hs ha,by simp [Value.cells,AV.size,D.size,TL.len hs]⟩
   | some e =>
    simp only [SV,TV] at hs
    simp [vD] at h
    obtain ⟨vs,e1,h1⟩:=hs.2 h.1
    subst e1
    exact ⟨by simpa [Value.cells] using ZhB h1 ha,by simp [Value.cells,AV.size,D.size,TL.len h1]⟩
  | _=>exact one h rfl
 | _=>exact one h rfl
end
end Go.Vm
namespace Go.Vm
open Go
set_option linter.unusedVariables false
set_option linter.unusedSimpArgs false
def uSl (P:Program) (t e:TypeId):Bool:=match P.underlying t with
 | some (.slice e')=>e' == e
 | _=>false
def elT (P:Program) (t:TypeId):TypeId:=match P.underlying t with
 | some (.slice e)=>e
 | _=>0
def isSlT (P:Program) (t:TypeId):Bool:=match P.underlying t with
 | some (.slice _)=>true
 | _=>false
def isAggT (P:Program) (t:TypeId):Bool:=match P.underlying t with
 | some (.struct _)=>true
 | some (.array _ _)=>true
 | _=>false
def hasU (P:Program) (t:TypeId):Bool:=(P.underlying t).isSome
def szT (P:Program) (t:TypeId) (n:Nat):Bool:=match P.info? t with
 | some i=>i.size == n
 | none=>false
def byT (P:Program) (t:TypeId) (n:Nat):Bool:=match P.info? t with
 | some i=>i.bytes == n
 | none=>false
def zeroT (P:Program) (t:TypeId) (a:AV):Bool:=match P.info? t with
 | some i=>match i.zero with
  | some z=>isV a z
  | none=>false
 | none=>false
def chkXs:List Operand→List X→Bool
 | [],[]=>true
 | x::xs,y::ys=>chkX x y&&chkXs xs ys
 | _,_=>false
def chkO:Option Operand→Option X→Bool
 | none,none=>true
 | some x,some y=>chkX x y
 | _,_=>false
def chkParts:Nat→List (Nat×Operand)→List X→Bool
 | _,[],[]=>true
 | k,(i,x)::ps,y::ys=>i == k&&chkX x y&&chkParts (k+1) ps ys
 | _,_,_=>false
def zX:X→Value→Bool
 | .k a,z=>isV1 a z
 | _,_=>false
def chkFlds:Nat→List (Nat×Operand)→List Value→List X→Bool
 | _,[],[],[]=>true
 | k,(i,x)::ps,z::zs,y::ys=>if i == k then chkX x y&&chkFlds (k+1) ps zs ys else zX y z&&chkFlds (k+1) ((i,x)::ps) zs ys
 | k,[],z::zs,y::ys=>zX y z&&chkFlds (k+1) [] zs ys
 | _,_,_,_=>false
def insP (p:Nat×Operand):List (Nat×Operand)→List (Nat×Operand)
 | []=>[p]
 | q::l=>if p.1≤q.1 then p::q::l else q::insP p l
def srtP:List (Nat×Operand)→List (Nat×Operand)
 | []=>[]
 | p::l=>insP p (srtP l)
def zeroD (P:Program) (t:TypeId) (z:D):Bool:=match P.info? t with
 | some i=>match i.zero with
  | some v=>(match z,v with
   | .sl _ [],.slice none 0 0=>true
   | .agg ds,.agg vs=>isVL (ds.map fun d=>match d with|.sl sz []=>.nil sz|d=>.dat none d) vs.toList
   | d,v=>isVD d v)
  | none=>false
 | none=>false
def zeroSz (P:Program) (t:TypeId) (sz:Nat):Bool:=match P.info? t with
 | some i=>(match i.zero with|some z=>z.cells.size == sz|none=>false)
 | none=>false
def isNilI:Operand→Bool
 | .const .nilIface=>true
 | _=>false
def isNilS:Operand→Bool
 | .const (.slice none 0 0)=>true
 | _=>false
def isFn:Fn→FuncId→Bool
 | .func f,f'=>f == f'
 | _,_=>false
def intsT (P:Program) (t:TypeId) (n:Nat):Bool:=match P.underlying t with
 | some (.struct fs) => fs.size == n && fs.toList.zipIdx.all fun p => p.1.offset == p.2 && p.1.name != "_" && (match P.underlying p.1.type with | some (.int _) => true | _ => false)
 | _=>false
def chkI (P:Program) (o:Oper) (i:I):Bool :=
 match o.op,i with
 | .move x,.mv y=>chkX x y
 | .assign x,.mv y=>chkX x y
 | .pick c a b,.pick c' a' b'=>chkX c c'&&chkX a a'&&chkX b b'
 | .alloc e,.box y=>(match y with|.k a=>zeroT P e a|_=>false)
 | .box _ x,.box y=>chkX x y
 | .build t ps,.bld ys=>(match P.underlying t,P.info? t with
  | some (.struct fs),some i=>(match i.zero with
   | some (.agg zs)=>fs.size == zs.size&&fs.toList.zipIdx.all (fun (f,k)=>f.offset == k&&szT P f.type 1)&&chkFlds 0 (srtP ps.toList) zs.toList ys
   | _=>false)
  | _,_=>false)
 | .buildSlice t n ps,.bsl _ sz ys=>isSlT P t&&szT P (elT P t) sz&&n == ys.length&&decide (n * sz≤16777216)&&(decide (n * sz=0)||(match P.info? (elT P t) with|some i=>i.zero.isSome|none=>false))&&chkParts 0 ps.toList ys
 | .load t x,.load _ ag n y=>chkX x y&&hasU P t&&isAggT P t == ag&&szT P t n
 | .store t x v,.store n y z=>chkX x y&&chkX v z&&szT P t n&&decide (0 < n)
 | .binOp op _ x y _,.bin op' x' y'=>op == op'&&chkX x x'&&chkX y y'
 | .binOp op t x y _,.eqb neg x' y'=>chkX x x'&&chkX y y'&&(match P.underlying t with|some .bool=>true|_=>false)&&(match op with|.eql=>!neg|.neq=>neg|_=>false)
 | .binOp op t x u _,.eqn neg x'=>isNilI u&&chkX x x'&&(match P.underlying t with|some (.interface _)=>true|_=>false)&&(match op with|.eql=>!neg|.neq=>neg|_=>false)
 | .binOp op t x u _,.eqnil neg x'=>isNilS u&&chkX x x'&&isSlT P t&&(match op with|.eql=>!neg|.neq=>neg|_=>false)
 | .binOp op t x y _,.eqag n neg x' y'=>chkX x x'&&chkX y y'&&!P.stoodInHeld t&&!P.eqGuardType P.depth t&&intsT P t n&&(match op with|.eql=>!neg|.neq=>neg|_=>false)
 | .unOp op _ x,.un op' y=>op == op'&&chkX x y
 | .makeFunc fn fs caps,.mkf f' ys=>isFn fn f'&&fs.size == 0&&chkXs caps.toList ys
 | .makeSlice t l c,.mks sz bytes z l' c'=>chkX l l'&&chkX c c'&&isSlT P t&&szT P (elT P t) sz&&byT P (elT P t) bytes&&decide (0 < bytes)&&decide (0 < sz)&&zeroD P (elT P t) z
 | .slice t x lo hi mx,.slc sz y lo' hi'=>mx.isNone&&chkX x y&&chkO lo lo'&&chkO hi hi'&&isSlT P t&&szT P (elT P t) sz
 | .slice t x lo hi mx,.sls y lo' hi'=>mx.isNone&&chkX x y&&chkO lo lo'&&chkO hi hi'&&(match P.underlying t with|some .string=>true|_=>false)
 | .fieldAddr t x f,.fad j y=>chkX x y&&(match P.underlying t with
  | some (.struct fs)=>(match fs[f]? with
   | some fd=>fd.offset == j&&szT P fd.type 1
   | none=>false)
  | _=>false)
 | .indexAddr t x i,.iad sz y k=>chkX x y&&chkX i k&&isSlT P t&&szT P (elT P t) sz
 | .index t x i,.ids y k=>chkX x y&&chkX i k&&(match P.underlying t with|some .string=>true|_=>false)
 | .extract x j,.ext j' y=>j == j'&&chkX x y&&decide (j < 1000)
 | .field t x f,.ext j y=>chkX x y&&(match P.underlying t with
  | some (.struct fs)=>(match fs[f]? with
   | some fd=>fd.offset+1000 == j&&hasU P fd.type&&!isAggT P fd.type
   | none=>false)
  | _=>false)
 | .call c,.len y=>(match c.callee,c.args.toList,c.argTypes.toList with
  | .builtin .len,[x],[t]=>chkX x y&&isSlT P t
  | _,_,_=>false)
 | .call c,.lens y=>(match c.callee,c.args.toList,c.argTypes.toList with
  | .builtin .len,[x],[t]=>chkX x y&&(match P.underlying t with|some .string=>true|_=>false)
  | _,_,_=>false)
 | .call c,.capn y=>(match c.callee,c.args.toList,c.argTypes.toList with
  | .builtin .cap,[x],[t]=>chkX x y&&isSlT P t
  | _,_,_=>false)
 | .call c,.apz sz bytes z y n=>(match c.callee,c.args.toList,c.argTypes.toList with
  | .builtin .append,[x,u],[t,tu]=>chkX x y&&chkX u n&&isSlT P t&&szT P (elT P t) sz&&byT P (elT P t) bytes&&decide (0 < bytes)&&decide (0 < sz)&&zeroD P (elT P t) z&&(match P.underlying tu with|some (.int _)=>true|_=>false)
  | _,_,_=>false)
 | .call c,.app sz bytes y z=>(match c.callee,c.args.toList,c.argTypes.toList with
  | .builtin .append,[x,u],[t,tu]=>chkX x y&&chkX u z&&isSlT P t&&szT P (elT P t) sz&&byT P (elT P t) bytes&&decide (0 < bytes)&&zeroSz P (elT P t) sz&&isSlT P tu
  | _,_,_=>false)
 | .call c,.apr sz bytes y z=>(match c.callee,c.args.toList,c.argTypes.toList with
  | .builtin .append,[x,u],[t,tu]=>chkX x y&&chkX u z&&isSlT P t&&szT P (elT P t) sz&&byT P (elT P t) bytes&&decide (0 < bytes)&&zeroSz P (elT P t) sz&&isSlT P tu
  | _,_,_=>false)
 | .call c,.mnx mx y z=>(match c.callee,c.args.toList with
  | .builtin .max,[x,u]=>mx&&chkX x y&&chkX u z
  | .builtin .min,[x,u]=>!mx&&chkX x y&&chkX u z
  | _,_=>false)
 | .convert src dst x,.cnv k y=>chkX x y&&hasU P src&&(match P.underlying dst with|some (.int k')=>k' == k|_=>false)
 | .nilCheck x,.nck y=>chkX x y
 | .convert src dst x,.b2s y=>chkX x y&&isSlT P src&&(match P.underlying dst with|some .string=>true|_=>false)&&(match P.underlying (elT P src) with|some (.int .u8)=>true|_=>false)
 | .call c,.clr sz z y=>(match c.callee,c.args.toList,c.argTypes.toList with
  | .builtin .clear,[x],[t]=>chkX x y&&isSlT P t&&szT P (elT P t) sz&&decide (0 < sz)&&zeroD P (elT P t) z
  | _,_,_=>false)
 | .call c,.cpy sz d y=>(match c.callee,c.args.toList,c.argTypes.toList with
  | .builtin .copy,[u,x],[t,tu]=>chkX u d&&chkX x y&&isSlT P t&&szT P (elT P t) sz&&decide (0 < sz)
  | _,_,_=>false)
 | _,.no=>true
 | _,_=>false
section
variable {P:Program} {g:G} {Y:Nat→Prop} {M:Mem} {w:World} {s:Nat→AV} {ρ:Operand→Value} {o:Oper} {nb ib:Nat} {av:AV} {M':Mem}
theorem slT {t:TypeId} (h:isSlT P t=true):P.underlying t=some (.slice (elT P t)):=by
 unfold isSlT at h;unfold elT;split at h<;>simp_all
theorem Zbz {t:TypeId} {n:Nat} (h:szT P t n=true):∃ i,P.info? t=some i∧i.size=n:=by
 unfold szT at h;split at h<;>simp_all
theorem Zhs {t:TypeId} {n:Nat} (h:byT P t n=true):∃ i,P.info? t=some i∧i.bytes=n:=by
 unfold byT at h;split at h<;>simp_all
theorem ZgQ {x:AV} {v:Value} {n:Int} (hs:SV g Y M w x v) (h:asI x=some n):∃ k,v=.int k n:=by
 unfold asI at h;split at h
 · cases h;simp only [SV,TV] at hs;exact ⟨_,hs.1⟩
 · cases h
theorem ZmK {x:AV} {v:Value} {b:Bool} (hs:SV g Y M w x v) (h:asB x=some b):v=.bool b:=by
 unfold asB at h;split at h
 · cases h;simp only [SV,TV] at hs;exact hs.1
 · cases h
theorem ZfV {d:D} {v:Value} (h:∀ X:Nat→Prop,TV X false w d v []):SV g Y M w (.dat none d) v:=by simp only [SV];exact h _
theorem ZcL {k:IntKind} {n:Int}:SV g Y M w (.dat none (.int k n)) (.int k n):=ZfV fun X=>by simp only [TV];exact ⟨trivial,trivial⟩
theorem ZdR {b:Bool}:SV g Y M w (.dat none (.bool b)) (.bool b):=ZfV fun X=>by simp only [TV];exact ⟨trivial,trivial⟩
theorem ZoQ {x:Operand} {y:X} (ho:o.op=.move x∨o.op=.assign x) (hc:chkX x y=true) (hI:Inv g Y M w) (hp:∀ b,¬ g.P b) (hs:Slots g Y M w s ρ)
 (h:stp s M nb ib (.mv y)=some (av,M')):Res P o ρ g Y M w ib av M':=by
 simp only [stp] at h
 cases h
 refine Res.pure hI hp ?_ (Zaq hs hc)
 rcases ho with ho|ho<;>simp [execOp,ho,go_sem]
theorem Zoq {c x y:Operand} {c' x' y':X} (ho:o.op=.pick c x y) (h1:chkX c c'=true) (h2:chkX x x'=true) (h3:chkX y y'=true) (hI:Inv g Y M w) (hp:∀ b,¬ g.P b)
 (hs:Slots g Y M w s ρ) (h:stp s M nb ib (.pick c' x' y')=some (av,M')):Res P o ρ g Y M w ib av M':=by
 simp only [stp] at h
 cases hb:asB (c'.ev s) with
 | none=>rw [hb] at h;cases h
 | some t =>
  rw [hb] at h
  simp at h
  obtain ⟨rfl,rfl⟩:=h
  have hv:=ZmK (Zaq hs h1) hb
  refine Res.pure (v:=if t then ρ x else ρ y) hI hp ?_ ?_
  · simp [execOp,ho,hv,asBool,go_sem]
  · cases t
    · exact Zaq hs h3
    · exact Zaq hs h2
def valD:D→Value
 | .int k n=>.int k n
 | .bool b=>.bool b
 | .str b=>.string b
 | _=>.nilIface
theorem Zj0 {op:BinOp} {t:TypeId} {k:IntKind} {n m:Int} {d:D} (hd:ibin op k n m=some d) :
 (binOp op t (.int k n) (.int k m)).run P w=.ok (valD d) w∧∀ X:Nat→Prop,TV X false w d (valD d) []:=by
 unfold ibin at hd
 cases op<;>simp only at hd
 case quo|rem =>
  split at hd
  · cases hd
  · rename_i hz
    cases hd
    exact ⟨by simp [binOp,Op.intDiv,hz,valD,go_sem],fun X=>by simp only [TV,valD];exact ⟨trivial,trivial⟩⟩
 case shl|shr=>cases hd
 all_goals
  cases hd
  exact ⟨by simp [binOp,Op.intArith,Op.intBits,Op.intCmp,valD,go_sem],fun X=>by simp only [TV,valD];exact ⟨trivial,trivial⟩⟩
theorem Zgz {op:BinOp} {t:TypeId} {k k':IntKind} {n m:Int} {d:D} (hs:isShift op=true) (hd:ishift op k n m=some d) :
 (binOp op t (.int k n) (.int k' m)).run P w=.ok (valD d) w∧∀ X:Nat→Prop,TV X false w d (valD d) []:=by
 unfold ishift at hd
 split at hd
 · cases hd
 · rename_i hneg
   cases op<;>simp [isShift] at hs
   all_goals
    cases hd
    exact ⟨by simp [binOp,Op.shift,hneg,valD,go_sem],fun X=>by simp only [TV,valD];exact ⟨trivial,trivial⟩⟩
theorem ZlC {op:BinOp} {t:TypeId} {a b:ByteArray} {d:D} (hd:dbin op (.str a) (.str b)=some d) :
 (binOp op t (.string a) (.string b)).run P w=.ok (valD d) w∧∀ X:Nat→Prop,TV X false w d (valD d) []:=by
 unfold dbin at hd
 cases op<;>simp only at hd
 case add =>
  split at hd
  · rename_i hsz
    cases hd
    refine ⟨?_,fun X=>by simp only [TV,valD];exact ⟨trivial,trivial⟩⟩
    simp only [binOp,Op.stringOp]
    rw [if_neg (by simp [IntKind.max,IntKind.signed,IntKind.bits];omega)]
    simp [valD,go_sem]
  · cases hd
 case eql|neq =>
  cases hd
  exact ⟨by simp [binOp,Op.stringOp,valD,go_sem],fun X=>by simp only [TV,valD];exact ⟨trivial,trivial⟩⟩
 all_goals cases hd
theorem Zpk {op:BinOp} {t tt:TypeId} {x y:Operand} {x' y':X} (ho:o.op=.binOp op t x y tt) (h1:chkX x x'=true) (h2:chkX y y'=true) (hI:Inv g Y M w) (hp:∀ b,¬ g.P b)
 (hs:Slots g Y M w s ρ) (h:stp s M nb ib (.bin op x' y')=some (av,M')):Res P o ρ g Y M w ib av M':=by
 simp only [stp] at h
 have hx:=Zaq hs h1
 have hy:=Zaq hs h2
 split at h
 · rename_i da db ea eb
   rw [ea] at hx
   rw [eb] at hy
   simp only [SV] at hx hy
   cases hd:dbin op da db with
   | none=>rw [hd] at h;cases h
   | some d =>
    rw [hd] at h
    simp at h
    obtain ⟨rfl,rfl⟩:=h
    have key:(binOp op t (ρ x) (ρ y)).run P w=.ok (valD d) w∧(∀ X:Nat→Prop,TV X false w d (valD d) [])∧(eqGuard op t x y (ρ x) (ρ y)).run P w=.ok () w:=by
     cases da<;>cases db<;>try (simp [dbin] at hd;done)
     · rename_i k1 n1 k2 n2
       simp only [TV] at hx hy
       rw [hx.1,hy.1]
       simp only [dbin] at hd
       split at hd
       · rename_i hsh;exact ⟨(Zgz hsh hd).1,(Zgz (P:=P) (w:=w) (t:=t) (k':=k2) hsh hd).2,by simp [eqGuard,go_sem]⟩
       · split at hd
         · rename_i hk
           subst hk
           exact ⟨(Zj0 hd).1,(Zj0 (P:=P) (w:=w) (t:=t) hd).2,by simp [eqGuard,go_sem]⟩
         · cases hd
     · simp only [TV] at hx hy
       rw [hx.1,hy.1]
       exact ⟨(ZlC hd).1,(ZlC (P:=P) (w:=w) (t:=t) hd).2,by simp [eqGuard,go_sem]⟩
    obtain ⟨k1,k2,k3⟩:=key
    refine Res.pure hI hp ?_ (ZfV k2)
    simp only [execOp,ho]
    simp [k1,k3,go_sem]
 · cases h
theorem Za5 {t:TypeId} {d:TypeDesc} (h:P.underlying t=some d):(underlying t).run P w=.ok d w:=run_underlying h w
theorem ZhC {t:TypeId} {i:TypeInfo} (h:P.info? t=some i):(typeInfo t).run P w=.ok i w:=by
 simp [typeInfo,program,Sem.run_bind,Sem.run,h,Result.andThen,go_sem]
theorem ZcR {t:TypeId} {i:TypeInfo} (h:P.info? t=some i):(sizeOf t).run P w=.ok i.size w:=by
 simp [sizeOf,ZhC h,go_sem]
theorem Zp0 {t:TypeId} (d:Nat) (a b:Bool) (h:P.underlying t=some .bool):(Op.equalIn (d+1) t (.bool a) (.bool b)).run P w=.ok (a == b) w:=by
 simp only [Op.equalIn];simp [Za5 h,go_sem]
theorem Zpx {t:TypeId} {ms:Array (String×TypeId)} (d:Nat) (h:P.underlying t=some (.interface ms)):(Op.equalIn (d+1) t .nilIface .nilIface).run P w=.ok true w:=by
 simp only [Op.equalIn];simp [Za5 h,go_sem]
theorem Zrc {t t':TypeId} {x:Value} {ms:Array (String×TypeId)} (d:Nat) (h:P.underlying t=some (.interface ms)):(Op.equalIn (d+1) t (.iface t' x) .nilIface).run P w=.ok false w:=by
 simp only [Op.equalIn];simp [Za5 h,go_sem]
theorem Zog {t e:TypeId} (d:Nat) (A:Option Addr) (l c:Nat) (h:P.underlying t=some (.slice e)):(Op.equalIn (d+1) t (.slice A l c) (.slice none 0 0)).run P w=.ok A.isNone w:=by
 cases A<;>simp only [Op.equalIn]<;>simp [Za5 h,go_sem]
theorem ZpQ {op:BinOp} {t tt:TypeId} {x y:Operand} {neg:Bool} {x' y':X} (ho:o.op=.binOp op t x y tt) (h1:chkX x x'=true) (h2:chkX y y'=true) (ht:P.underlying t=some .bool)
 (hop:(op=.eql∧neg=false)∨(op=.neq∧neg=true)) (hI:Inv g Y M w) (hp:∀ b,¬ g.P b)
 (hs:Slots g Y M w s ρ) (h:stp s M nb ib (.eqb neg x' y')=some (av,M')):Res P o ρ g Y M w ib av M':=by
 simp only [stp] at h
 cases ha:asB (x'.ev s) with
 | none=>rw [ha] at h;cases h
 | some b1 =>
  cases hb:asB (y'.ev s) with
  | none=>rw [ha,hb] at h;cases h
  | some b2 =>
   rw [ha,hb] at h
   simp only at h
   cases h
   have e1:=ZmK (Zaq hs h1) ha
   have e2:=ZmK (Zaq hs h2) hb
   refine Res.pure (v:=.bool ((b1 == b2) != neg)) hI hp ?_ ZdR
   have he:(Op.equal t (.bool b1) (.bool b2)).run P w=.ok (b1 == b2) w:=Zp0 9999 b1 b2 ht
   rcases hop with ⟨rfl,rfl⟩|⟨rfl,rfl⟩<;>simp [execOp,ho,e1,e2,eqGuard,binOp,he,go_sem]
theorem ZoU {op:BinOp} {t tt:TypeId} {x:Operand} {ms:Array (String×TypeId)} {neg:Bool} {x':X} (ho:o.op=.binOp op t x (.const .nilIface) tt) (h1:chkX x x'=true) (ht:P.underlying t=some (.interface ms))
 (hop:(op=.eql∧neg=false)∨(op=.neq∧neg=true)) (hI:Inv g Y M w) (hp:∀ b,¬ g.P b)
 (hs:Slots g Y M w s ρ) (h:stp s M nb ib (.eqn neg x')=some (av,M')):Res P o ρ g Y M w ib av M':=by
 simp only [stp] at h
 have hx:=Zaq hs h1
 split at h
 · rename_i ea
   cases h
   rw [ea] at hx
   simp only [SV,TV] at hx
   refine Res.pure (v:=.bool (!neg)) hI hp ?_ ZdR
   have he:(Op.equal t .nilIface .nilIface).run P w=.ok true w:=Zpx 9999 ht
   rcases hop with ⟨rfl,rfl⟩|⟨rfl,rfl⟩<;>simp [execOp,ho,hx.1,hs.const,eqGuard,binOp,he,go_sem]
 · rename_i ea
   cases h
   rw [ea] at hx
   simp only [SV,TV] at hx
   obtain ⟨⟨t',x',hx⟩,_⟩:=hx
   refine Res.pure (v:=.bool neg) hI hp ?_ ZdR
   have he:(Op.equal t (.iface t' x') .nilIface).run P w=.ok false w:=Zrc 9999 ht
   rcases hop with ⟨rfl,rfl⟩|⟨rfl,rfl⟩<;>simp [execOp,ho,hx,hs.const,eqGuard,binOp,he,go_sem]
 · cases h
theorem ZmI {op:BinOp} {t tt:TypeId} {x:Operand} {neg:Bool} {x':X} (ho:o.op=.binOp op t x (.const (.slice none 0 0)) tt) (h1:chkX x x'=true) (ht:isSlT P t=true)
 (hop:(op=.eql∧neg=false)∨(op=.neq∧neg=true)) (hI:Inv g Y M w) (hp:∀ b,¬ g.P b)
 (hs:Slots g Y M w s ρ) (h:stp s M nb ib (.eqnil neg x')=some (av,M')):Res P o ρ g Y M w ib av M':=by
 simp only [stp] at h
 have hx:=Zaq hs h1
 have ht:=slT ht
 have key:∀ (A:Option Addr) (l c:Nat),(Op.equal t (.slice A l c) (.slice none 0 0)).run P w=.ok A.isNone w:=fun A l c=>Zog 9999 A l c ht
 have fin:∀ (A:Option Addr) (l c:Nat),ρ x=.slice A l c→(execOp ρ o).run P w=.ok (.value (.bool (A.isNone != neg))) w:=by
  intro A l c hv
  rcases hop with ⟨rfl,rfl⟩|⟨rfl,rfl⟩<;>simp [execOp,ho,hv,hs.const,eqGuard,binOp,key,go_sem]
 split at h
 · rename_i ea
   cases h
   rw [ea] at hx
   simp only [SV] at hx
   exact Res.pure hI hp (fin _ _ _ hx) (by cases neg<;>exact ZdR)
 · rename_i ea
   cases h
   rw [ea] at hx
   simp only [SV] at hx
   rcases hx.2.2 with ⟨_,_,h0,_⟩|⟨_,A,c,hv,_⟩
   · cases h0
   · exact Res.pure hI hp (fin _ _ _ hv) (by cases neg<;>exact ZdR)
 · rename_i ea
   cases h
   rw [ea] at hx
   simp only [SV,TV] at hx
   rcases hx with ⟨h0,_⟩|⟨A,c,vs,hv,_⟩
   · cases h0
   · exact Res.pure hI hp (fin _ _ _ hv) (by cases neg<;>exact ZdR)
 · rename_i ea
   cases h
   rw [ea] at hx
   simp only [SV,TV] at hx
   have anyS:∀ b,SV g Y M w (.dat none .anyb) (.bool b):=fun b=>ZfV fun X=>by simp only [TV];exact ⟨⟨b,rfl⟩,trivial⟩
   rcases hx with ⟨_,hnv,_⟩|⟨A,c,vs,hv,_⟩
   · obtain ⟨A,hv⟩:=hnv.ex
     exact Res.pure hI hp (fin _ _ _ hv) (anyS _)
   · exact Res.pure hI hp (fin _ _ _ hv) (anyS _)
 · rename_i ea
   cases h
   rw [ea] at hx
   simp only [SV] at hx
   have anyS:∀ b,SV g Y M w (.dat none .anyb) (.bool b):=fun b=>ZfV fun X=>by simp only [TV];exact ⟨⟨b,rfl⟩,trivial⟩
   rcases hx.2.2 with ⟨_,hv,_⟩|⟨_,A,c,hv,_⟩
   · exact Res.pure hI hp (fin _ _ _ hv) (anyS _)
   · exact Res.pure hI hp (fin _ _ _ hv) (anyS _)
 · cases h
theorem Zm0 {d:Nat}:∀ (fs:List Field) (k:Nat) (xs ys:Array Value) (as bs:List D) (t:Bool),
 (∀ p ∈ fs.zipIdx k, p.1.offset = p.2 ∧ p.1.name ≠ "_" ∧ ∃ kk, P.underlying p.1.type = some (.int kk)) → fs.length = as.length → fs.length = bs.length →
 (∀ (i:Nat) (kk:IntKind) (n:Int),as[i]? = some (D.int kk n)→xs[k+i]? = some (Value.int kk n))→(∀ (i:Nat) (kk:IntKind) (n:Int),bs[i]? = some (D.int kk n)→ys[k+i]? = some (Value.int kk n))→eqL as bs=some t →
 (Op.eqFields (d+1) xs ys fs).run P w=.ok t w
 | [],k,xs,ys,as,bs,t,_,ha,hb,_,_,h=>by
  have:as=[]:=List.eq_nil_of_length_eq_zero ha.symm
  have:bs=[]:=List.eq_nil_of_length_eq_zero hb.symm
  subst as bs
  simp only [eqL] at h
  cases h
  simp [Op.eqFields]
 | f::fs,k,xs,ys,as,bs,t,hf,ha,hb,hx,hy,h=>by
  cases as with
  | nil=>simp at ha
  | cons a as =>
  cases bs with
  | nil=>simp at hb
  | cons b bs =>
  obtain ⟨f1,f2,kk,f3⟩:=hf (f,k) (by simp)
  simp only at f1 f2 f3
  simp only [eqL] at h
  split at h
  case h_2=>cases h
  rename_i e r he hr
  cases h
  unfold eqS1 at he
  split at he
  case h_2=>cases he
  rename_i k1 m1 k2 m2
  split at he
  case isFalse=>cases he
  rename_i hk
  subst hk
  cases he
  have h1:=hx 0 k1 m1 rfl
  have h2:=hy 0 k1 m2 rfl
  rw [Nat.add_zero] at h1 h2
  have hp:∀ (zs:Array Value) (v:Value),zs[k]? = some v→(part f.type zs f.offset).run P w=.ok v w:=by
   intro zs v hz
   rw [f1]
   simp [part,isAgg,run_underlying f3,hz]
  have ih:=Zm0 (d:=d) fs (k+1) xs ys as bs r (fun p hp=>hf p (by rw [List.zipIdx_cons];exact List.mem_cons_of_mem _ hp)) (by simpa using ha) (by simpa using hb)
   (fun i kk n hi=>by have:=hx (i+1) kk n (by simpa using hi);rwa [show k+(i+1)=k+1+i by omega] at this)
   (fun i kk n hi=>by have:=hy (i+1) kk n (by simpa using hi);rwa [show k+(i+1)=k+1+i by omega] at this) hr
  simp only [Op.eqFields]
  rw [if_pos f2]
  simp only [Sem.run_bind,hp xs _ h1,hp ys _ h2,Result.andThen_ok,run_equalIn_int w d f.type k1 kk m1 m2 f3]
  cases hm:(m1 == m2) with
  | false=>simp
  | true=>simpa using ih
theorem ZmX {F:AV→Option D} (hF:∀ x d,F x=some d→x=.dat none d):∀ {xs:List AV} {fs:List D} {vs:List Value},optL (xs.map F)=some fs→SVL g Y M w xs vs →
 ∀ (i:Nat) (kk:IntKind) (n:Int),fs[i]? = some (D.int kk n)→vs[i]? = some (Value.int kk n)
 | [],fs,vs,h,_,i,kk,n,hi=>by
  simp only [List.map_nil,optL] at h
  cases h
  simp at hi
 | x::xs,fs,vs,h,hs,i,kk,n,hi=>by
  simp only [SVL] at hs
  obtain ⟨u,us,rfl,h1,h2⟩:=hs
  simp only [List.map_cons] at h
  cases hx:F x with
  | none=>rw [hx] at h;simp [optL] at h
  | some d =>
   rw [hx] at h
   simp only [optL] at h
   split at h
   · rename_i r hr
     cases h
     cases i with
     | zero =>
      simp at hi
      subst hi
      have:=hF x _ hx
      subst this
      simp only [SV,TV] at h1
      rw [h1.1];rfl
     | succ i =>
      simp only [List.getElem?_cons_succ] at hi ⊢
      exact ZmX hF hr h2 i kk n hi
   · cases h
theorem ZmS {a:AV} {v:Value} {fs:List D} (hs:SV g Y M w a v) (h:fldsOf a=some fs):∃ vs:List Value,v=.agg vs.toArray∧∀ (i:Nat) (kk:IntKind) (n:Int),fs[i]? = some (D.int kk n)→vs[i]? = some (Value.int kk n):=by
 unfold fldsOf at h
 split at h
 · cases h
   simp only [SV,TV] at hs
   obtain ⟨vs,hv,ht⟩:=hs
   refine ⟨vs,hv,fun i kk n hi=>?_⟩
   obtain ⟨u1,u,u2,F1,Fj,F2,e1,e2,e3,e4,_⟩:=TL.get ht hi
   simp only [TV] at e4
   rw [e1,← e3,e4.1];simp
 · rename_i xs
   simp only [SV] at hs
   obtain ⟨vs,hv,hs⟩:=hs
   refine ⟨vs,hv,ZmX (fun x d hx=>?_) h hs⟩
   split at hx
   · split at hx
     · cases hx;rfl
     · cases hx
   · cases hx
 · cases h
theorem ZnQ {op:BinOp} {t tt:TypeId} {x y:Operand} {n:Nat} {neg:Bool} {x' y':X} (ho:o.op=.binOp op t x y tt) (h1:chkX x x'=true) (h2:chkX y y'=true) (hst:P.stoodInHeld t=false) (heg:P.eqGuardType P.depth t=false)
 (ht:intsT P t n=true) (hop:(op=.eql∧neg=false)∨(op=.neq∧neg=true)) (hI:Inv g Y M w) (hp:∀ b,¬ g.P b)
 (hs:Slots g Y M w s ρ) (h:stp s M nb ib (.eqag n neg x' y')=some (av,M')):Res P o ρ g Y M w ib av M':=by
 simp only [stp] at h
 have hx:=Zaq hs h1
 have hy:=Zaq hs h2
 split at h
 case h_2=>cases h
 rename_i p q hpp hqq
 split at h
 case isFalse=>cases h
 rename_i hc
 cases he:eqL p q with
 | none=>rw [he] at h;cases h
 | some r =>
  rw [he] at h
  cases h
  obtain ⟨vs,hv,hvs⟩:=ZmS hx hpp
  obtain ⟨us,hu,hus⟩:=ZmS hy hqq
  unfold intsT at ht
  split at ht
  case h_2=>cases ht
  rename_i fs hfs
  simp only [Bool.and_eq_true,beq_iff_eq,List.all_eq_true] at ht
  have hfo:P.fieldsOf t=fs:=by unfold Program.fieldsOf;rw [hfs]
  have hrun:(Op.equalIn 10000 t (.agg vs.toArray) (.agg us.toArray)).run P w=.ok r w:=by
   rw [run_equalIn_struct w 9999 t vs.toArray us.toArray (by rw [hfo];exact hfs) hst,hfo]
   refine Zm0 (d:=9998) fs.toList 0 vs.toArray us.toArray p q r (fun pr hpr=>?_) (by simp;omega) (by simp;omega) (fun i kk m hi=>by simpa using hvs i kk m hi) (fun i kk m hi=>by simpa using hus i kk m hi) he
   have:=ht.2 pr hpr
   obtain ⟨⟨k1,k2⟩,k3⟩:=this
   refine ⟨k1,by simpa using k2,?_⟩
   split at k3
   · rename_i kk hkk;exact ⟨kk,hkk⟩
   · cases k3
  refine Res.pure (v:=.bool (r != neg)) hI hp ?_ ZdR
  rcases hop with ⟨rfl,rfl⟩|⟨rfl,rfl⟩
  · simp [execOp,ho,hv,hu,run_eqGuard_agg w .eql t x y vs.toArray us.toArray heg,run_eql_struct,hrun,go_sem]
  · simp [execOp,ho,hv,hu,run_eqGuard_agg w .neq t x y vs.toArray us.toArray heg,run_neq_struct,hrun,go_sem]
theorem Zqj {op:UnOp} {t:TypeId} {x:Operand} {x':X} (ho:o.op=.unOp op t x) (h1:chkX x x'=true) (hI:Inv g Y M w) (hp:∀ b,¬ g.P b)
 (hs:Slots g Y M w s ρ) (h:stp s M nb ib (.un op x')=some (av,M')):Res P o ρ g Y M w ib av M':=by
 simp only [stp] at h
 have hx:=Zaq hs h1
 split at h
 · rename_i d ea
   rw [ea] at hx
   simp only [SV] at hx
   cases hd:dun op d with
   | none=>rw [hd] at h;cases h
   | some r =>
    rw [hd] at h
    simp at h
    obtain ⟨rfl,rfl⟩:=h
    unfold dun at hd
    split at hd
    · simp only [TV] at hx
      split at hd
      · cases hd
        exact Res.pure (v:=.int _ _) hI hp (by simp [execOp,ho,hx.1,Op.unary,Op.intArith,go_sem]) ZcL
      · cases hd
    · simp only [TV] at hx
      split at hd
      · cases hd
        exact Res.pure (v:=.bool _) hI hp (by simp [execOp,ho,hx.1,Op.unary,go_sem]) ZdR
      · cases hd
    · cases hd
 · cases h
theorem Zfz (hs:Slots g Y M w s ρ):∀ {xs:List Operand} {ys:List X},chkXs xs ys=true→SVL g Y M w (ys.map (X.ev s)) (xs.map ρ)
 | [],[],_=>by simp only [List.map_nil,SVL]
 | x::xs,[],h=>by simp [chkXs] at h
 | [],y::ys,h=>by simp [chkXs] at h
 | x::xs,y::ys,h=>by
  simp [chkXs] at h
  simp only [List.map_cons,SVL]
  exact ⟨_,_,rfl,Zaq hs h.1,Zfz hs h.2⟩
theorem Zo1 {f:FuncId} {caps:Array Operand} {ys:List X} (ho:o.op=.makeFunc (.func f) #[] caps) (h1:chkXs caps.toList ys=true) (hI:Inv g Y M w) (hp:∀ b,¬ g.P b)
 (hs:Slots g Y M w s ρ) (h:stp s M nb ib (.mkf f ys)=some (av,M')):Res P o ρ g Y M w ib av M':=by
 simp only [stp] at h
 cases h
 refine Res.pure (v:=.func (.func f) #[] (caps.map ρ)) hI hp (by simp [execOp,ho,Instr.makeFunc,go_sem]) ?_
 simp only [SV]
 exact ⟨caps.toList.map ρ,by rw [← Array.toList_map],Zfz hs h1⟩
theorem Zpn {j:Nat} {x:Operand} {x':X} (ho:o.op=.extract x j) (h1:chkX x x'=true) (hj:j < 1000) (hI:Inv g Y M w) (hp:∀ b,¬ g.P b)
 (hs:Slots g Y M w s ρ) (h:stp s M nb ib (.ext j x')=some (av,M')):Res P o ρ g Y M w ib av M':=by
 simp only [stp] at h
 rw [if_neg (by omega)] at h
 have hx:=Zaq hs h1
 split at h
 · rename_i xs ea
   rw [ea] at hx
   simp only [SV] at hx
   obtain ⟨vs,hv,hx⟩:=hx
   split at h
   · rename_i y hy
     split at h
     · cases h
     · cases h
       obtain ⟨u,k1,k2⟩:=SVL.get hx hy
       exact Res.pure (v:=u) hI hp (by simp [execOp,ho,hv,Instr.extract,k1,go_sem]) k2
   · cases h
 · rename_i e ds ea
   rw [ea] at hx
   split at h
   · rename_i hvd
     cases hd:ds[j]? with
     | none=>rw [hd] at h;cases h
     | some d =>
      rw [hd] at h
      simp at h
      obtain ⟨rfl,rfl⟩:=h
      have key:∃ X,TV X false w (.tup ds) (ρ x) []∧∀ u,TV X false w d u []→SV g Y M w (.dat e d) u:=by
       cases e with
       | none=>simp only [SV] at hx;exact ⟨_,hx,fun u h=>by simp only [SV];exact h⟩
       | some e=>simp only [SV] at hx;simp [vD] at hvd;exact ⟨_,hx.2 hvd,fun u h=>by simp only [SV];exact ⟨hx.1,fun _=>h⟩⟩
      obtain ⟨X,k1,k2⟩:=key
      simp only [TV] at k1
      obtain ⟨vs,hv,k1⟩:=k1
      obtain ⟨u1,u,u2,F1,Fj,F2,e1,e2,e3,e4,_⟩:=TL.get k1 hd
      have hu:vs[j]? = some u:=by rw [e1,← e3];simp
      have hF:=e4.nof
      subst hF
      exact Res.pure (v:=u) hI hp (by simp [execOp,ho,hv,Instr.extract,hu,go_sem]) (k2 u e4)
   · cases h
 · cases h
theorem ZlU {c:Call} {mx:Bool} {x y:Operand} {x' y':X} (ho:o.op=.call c) (hcal:c.callee=.builtin (if mx then .max else .min)) (hargs:c.args = #[x,y]) (h1:chkX x x'=true) (h2:chkX y y'=true)
 (hI:Inv g Y M w) (hp:∀ b,¬ g.P b) (hs:Slots g Y M w s ρ) (h:stp s M nb ib (.mnx mx x' y')=some (av,M')):Res P o ρ g Y M w ib av M':=by
 simp only [stp] at h
 have hx:=Zaq hs h1
 have hy:=Zaq hs h2
 split at h
 · rename_i k a k' b ea eb
   cases h
   rw [ea] at hx
   rw [eb] at hy
   simp only [SV,TV] at hx hy
   refine Res.pure (v:=.int k _) hI hp ?_ ZcL
   cases mx
   · simp [execOp,ho,resolve,hcal,hargs,invoke,builtin,hx.1,hy.1,Builtin.min_,Builtin.min2,go_sem]
   · simp [execOp,ho,resolve,hcal,hargs,invoke,builtin,hx.1,hy.1,Builtin.max_,Builtin.max2,go_sem]
 · cases h
end
end Go.Vm
namespace Go.Vm
open Go
set_option linter.unusedVariables false
set_option linter.unusedSimpArgs false
section
variable {P:Program} {g:G} {Y:Nat→Prop} {M:Mem} {w:World} {s:Nat→AV} {ρ:Operand→Value} {o:Oper} {nb ib:Nat} {av:AV} {M':Mem}
theorem ZfM {t:TypeId} (h:hasU P t=true):(isAgg t).run P w=.ok (isAggT P t) w:=by
 unfold hasU at h
 unfold isAggT isAgg
 cases hu:P.underlying t with
 | none=>rw [hu] at h;cases h
 | some d=>cases d<;>simp [Za5 hu,go_sem]
theorem Zf6 {t:TypeId} {a:Addr} {us:List Value} {i:TypeInfo} (h:hasU P t=true) (hi:P.info? t=some i) (hc:CL w a us) (hn:isAggT P t=true→us.length=i.size) (h1:isAggT P t=false→∃ u,us=[u]) :
 (loadVar t a).run P w=.ok (if isAggT P t then .agg us.toArray else us.headD undef) w:=by
 unfold loadVar
 rw [Sem.run_bind,ZfM h]
 simp only [Result.andThen_ok]
 cases hb:isAggT P t with
 | true =>
  have:=run_loadCells_list (P:=P) (w:=w) a us hc
  rw [hn hb] at this
  simp only [if_true,Sem.run_bind,ZcR hi,Result.andThen_ok,this]
  rfl
 | false =>
  obtain ⟨u,rfl⟩:=h1 hb
  have h0:=hc 0 u rfl
  simp only [Addr.add,if_true] at h0
  simp [load,Sem.run,h0,go_sem]
theorem ZnJ (hI:Inv g Y M w) (hp:∀ b,¬ g.P b) {l id:Nat} {own:Bool} {sz:Nat} {xs:List D} (hm:M.m l=some (.arr id own sz xs)) {F':List Nat} (hf:g.FP id=(g.AD id).block::F')
 {b:Nat} (hb:b∈F'):¬ XB g Y M b:=by
 have hob:=hI.ob l _ hm
 simp only [OB] at hob
 have hnd:=hob.2.2.1
 rw [hf] at hnd
 have hin:b∈g.FP (Obj.arr id own sz xs).ver:=by simp only [Obj.ver];rw [hf];exact List.mem_cons_of_mem _ hb
 rintro (h|h|⟨l',o',h1,h2,h3⟩)
 · exact (hI.lt b (.inr ⟨l,_,hm,hin⟩)).2 h
 · exact hp b (hI.pb b h)
 · by_cases hl:l'=l
   · subst hl
     rw [hm] at h1
     cases h1
     simp only [Obj.ver] at h3
     rw [h3] at hb
     exact (List.nodup_cons.1 hnd).1 hb
   · exact (hI.dj l' l o' _ h1 hm hl).2 b h2 hin
theorem Zim (hI:Inv g Y M w) (hp:∀ b,¬ g.P b) {l id:Nat} {own:Bool} {sz:Nat} {xs:List D} (hm:M.m l=some (.arr id own sz xs)) (hv:¬ g.VR id) {i:Nat} {x:D} (hx:xs[i]? = some x) :
 ∃ us,CL w ((g.AD id).add (i * sz)) us∧us.length=sz∧x.size=sz∧(g.AD id).spot=none∧(g.AD id).block < w.heap.size ∧
  TC (if own then XB g Y M else XA g Y M) false w x us []:=by
 have hob:=hI.ob l _ hm
 simp only [OB] at hob
 obtain ⟨_,_,_,h3⟩:=hob
 rcases h3 with h3|⟨_,vs,F',h4,h5,h6,h7,h8⟩
 · exact absurd h3.1 hv
 · have hbl:=(hI.lt (g.AD id).block (.inr ⟨l,_,hm,by simp only [Obj.ver];rw [h4];exact List.mem_cons_self⟩)).1
   have h9:TE (if own then XB g Y M else XA g Y M) false w sz xs vs []:=by
    cases own with
    | true=>exact TE.cool xs vs F' h8 ⟨fun b _ h k=>h (k.imp (fun y=>y) (fun k=>k.elim (fun k=>.inl (hI.pb b k)) fun ⟨l,o,h1,h2,_⟩=>.inr ⟨l,o,h1,h2⟩)),fun b hb=>ZnJ hI hp hm h4 hb⟩
    | false=>have hF:=h8.nof;subst hF;exact h8
   obtain ⟨v1,us,v2,F1,Fi,F2,q1,q2,q3,q4,q5,q6,_⟩:=TE.get h9 hx
   have hFi:Fi=[]:=by have:=congrArg List.length q2;simp at this;exact List.eq_nil_of_length_eq_zero (by omega)
   subst hFi
   rw [q1] at h7
   have hcu:=h7.left.right
   rw [q3] at hcu
   exact ⟨us,hcu,q4.1,q5,h5,hbl,q6⟩
theorem Zo7 {c:Call} {t:TypeId} {x:Operand} {x':X} (ho:o.op=.call c) (hcal:c.callee=.builtin .len) (hargs:c.args = #[x]) (hty:c.argTypes = #[t]) (h1:chkX x x'=true) (ht:isSlT P t=true)
 (hI:Inv g Y M w) (hp:∀ b,¬ g.P b) (hs:Slots g Y M w s ρ) (h:stp s M nb ib (.len x')=some (av,M')):Res P o ρ g Y M w ib av M':=by
 simp only [stp] at h
 have hx:=Zaq hs h1
 have ht:=slT ht
 have fin:∀ (A:Option Addr) (l c:Nat),ρ x=.slice A l c→(execOp ρ o).run P w=.ok (.value (.int .i64 l)) w:=by
  intro A l c hv
  simp [execOp,ho,resolve,hcal,hargs,hty,invoke,builtin,hv,Builtin.len_,Za5 ht,goInt,go_sem]
 cases hl:stpLen M (x'.ev s) with
 | none=>rw [hl] at h;cases h
 | some r =>
  rw [hl] at h
  simp at h
  obtain ⟨rfl,rfl⟩:=h
  unfold stpLen at hl
  split at hl
  · rename_i ea
    cases hl
    rw [ea] at hx
    simp only [SV] at hx
    rcases hx.2.2 with ⟨_,hv,rfl,_⟩|⟨_,A,c,hv,_⟩
    · exact Res.pure hI hp (fin _ _ _ hv) ZcL
    · exact Res.pure hI hp (fin _ _ _ hv) ZcL
  · rename_i e sz xs ea
    split at hl
    · rename_i hvd
      cases hl
      rw [ea] at hx
      have key:∃ X,TV X false w (.sl sz xs) (ρ x) []:=by
       cases e with
       | none=>simp only [SV] at hx;exact ⟨_,hx⟩
       | some e=>simp only [SV] at hx;simp [vD] at hvd;exact ⟨_,hx.2 hvd⟩
      obtain ⟨X,key⟩:=key
      simp only [TV] at key
      rcases key with ⟨rfl,hv,_⟩|⟨A,c,vs,hv,_⟩
      · exact Res.pure hI hp (fin _ _ _ hv.ex.choose_spec) ZcL
      · exact Res.pure hI hp (fin _ _ _ hv) ZcL
    · cases hl
  · rename_i ea
    cases hl
    rw [ea] at hx
    simp only [SV] at hx
    exact Res.pure hI hp (fin _ _ _ hx) ZcL
  · rename_i l id r i j ea
    split at hl
    · rename_i hr
      split at hl
      · rename_i own sz xs hpl
        cases hl
        rw [ea] at hx
        have hf:frz M 1 (.ref l id r i j)=some (.sl sz xs):=by simp only [frz];rw [if_pos hr,hpl];rfl
        have hv:=Zc3 hI (fun b h=>absurd h (hp b)) 1 _ _ _ hx hf
        simp only [TV] at hv
        rcases hv with ⟨rfl,hv,_⟩|⟨A,c,vs,hv,_⟩
        · exact Res.pure hI hp (fin _ _ _ hv.ex.choose_spec) ZcL
        · exact Res.pure hI hp (fin _ _ _ hv) ZcL
      · cases hl
    · cases hl
  · cases hl
theorem Zn6 {c:Call} {t:TypeId} {x:Operand} {x':X} (ho:o.op=.call c) (hcal:c.callee=.builtin .cap) (hargs:c.args = #[x]) (hty:c.argTypes = #[t]) (h1:chkX x x'=true) (ht:isSlT P t=true)
 (hI:Inv g Y M w) (hp:∀ b,¬ g.P b) (hs:Slots g Y M w s ρ) (h:stp s M nb ib (.capn x')=some (av,M')):Res P o ρ g Y M w ib av M':=by
 simp only [stp] at h
 have hx:=Zaq hs h1
 have ht:=slT ht
 split at h
 · rename_i ea
   cases h
   rw [ea] at hx
   simp only [SV] at hx
   exact Res.pure (v:=.int .i64 0) hI hp (by simp [execOp,ho,resolve,hcal,hargs,hty,invoke,builtin,hx,Builtin.cap_,Za5 ht,goInt,go_sem]) ZcL
 · cases h
theorem ZnR {c:Call} {t:TypeId} {x:Operand} {x':X} (ho:o.op=.call c) (hcal:c.callee=.builtin .len) (hargs:c.args = #[x]) (hty:c.argTypes = #[t]) (h1:chkX x x'=true) (ht:P.underlying t=some .string)
 (hI:Inv g Y M w) (hp:∀ b,¬ g.P b) (hs:Slots g Y M w s ρ) (h:stp s M nb ib (.lens x')=some (av,M')):Res P o ρ g Y M w ib av M':=by
 simp only [stp] at h
 have hx:=Zaq hs h1
 split at h
 · rename_i b ea
   cases h
   rw [ea] at hx
   simp only [SV,TV] at hx
   exact Res.pure (v:=.int .i64 b.size) hI hp (by simp [execOp,ho,resolve,hcal,hargs,hty,invoke,builtin,hx.1,Builtin.len_,Za5 ht,goInt,go_sem]) ZcL
 · cases h
theorem ZpX {t:TypeId} {x k:Operand} {x' k':X} (ho:o.op=.index t x k) (h1:chkX x x'=true) (h2:chkX k k'=true) (ht:P.underlying t=some .string)
 (hI:Inv g Y M w) (hp:∀ b,¬ g.P b) (hs:Slots g Y M w s ρ) (h:stp s M nb ib (.ids x' k')=some (av,M')):Res P o ρ g Y M w ib av M':=by
 simp only [stp] at h
 have hx:=Zaq hs h1
 split at h
 · rename_i b ea
   rw [ea] at hx
   simp only [SV,TV] at hx
   cases hi:asI (k'.ev s) with
   | none=>rw [hi] at h;cases h
   | some n =>
    rw [hi] at h
    simp only [Option.bind_some] at h
    split at h
    case isFalse=>cases h
    rename_i hb
    cases h
    obtain ⟨kk,hk⟩:=ZgQ (Zaq hs h2) hi
    have hlt:n.toNat < b.size:=by omega
    refine Res.pure (v:=.int .u8 (b[n.toNat].toNat)) hI hp ?_ ZcL
    simp [execOp,ho,Instr.index,hx.1,hk,asIntOf,Za5 ht,hb.1,hlt,go_sem]
 · cases h
end
end Go.Vm
namespace Go.Vm
open Go
set_option linter.unusedVariables false
set_option linter.unusedSimpArgs false
section
variable {P:Program} {g:G} {Y:Nat→Prop} {M:Mem} {w:World} {s:Nat→AV} {ρ:Operand→Value} {o:Oper} {nb ib:Nat} {av:AV} {M':Mem}
theorem ZpG {t:TypeId} {f j:Nat} {x:Operand} {x':X} {fs:Array Field} {fd:Field} (ho:o.op=.field t x f) (h1:chkX x x'=true) (ht:P.underlying t=some (.struct fs)) (hf:fs[f]? = some fd)
 (hoff:fd.offset+1000=j) (hu:hasU P fd.type=true) (hag:isAggT P fd.type=false) (hI:Inv g Y M w) (hp:∀ b,¬ g.P b) (hs:Slots g Y M w s ρ) (h:stp s M nb ib (.ext j x')=some (av,M')):Res P o ρ g Y M w ib av M':=by
 simp only [stp] at h
 rw [if_pos (by omega)] at h
 have hx:=Zaq hs h1
 have hj:j - 1000=fd.offset:=by omega
 rw [hj] at h
 have hcs:∃ cs,ρ x=.agg cs:=by
  cases ha:x'.ev s with
  | agg xs =>
   rw [ha] at hx
   simp only [SV] at hx
   obtain ⟨vs,hv,_⟩:=hx
   exact ⟨_,hv⟩
  | dat e d =>
   rw [ha] at h hx
   cases d with
   | agg ds =>
    simp only [fldA] at h
    by_cases hv:vD M e=true
    · cases e with
      | none =>
       simp only [SV,TV] at hx
       obtain ⟨vs,h2,_⟩:=hx
       exact ⟨_,h2⟩
      | some e =>
       simp only [SV,TV] at hx
       simp [vD] at hv
       obtain ⟨vs,h2,_⟩:=hx.2 hv
       exact ⟨_,h2⟩
    · rw [if_neg hv] at h;cases h
   | _=>simp [fldA] at h
  | _=>rw [ha] at h;simp [fldA] at h
 obtain ⟨cs,hcs⟩:=hcs
 split at h
 · rename_i y hy
   split at h
   · cases h
   · cases h
     obtain ⟨u,q1,_,q2⟩:=ZiG hx hy
     obtain ⟨q3,_⟩:=q2 _ rfl
     rw [hcs] at q3
     simp only [Value.cells] at q3
     refine Res.pure (v:=u) hI hp ?_ q1
     have hr:=ZfM (P:=P) (w:=w) hu
     rw [hag] at hr
     simp [execOp,ho,Instr.field,Za5 ht,hf,hcs,asAgg,part,hr,q3,go_sem]
 · cases h
theorem Zo9 {t:TypeId} {f j:Nat} {x:Operand} {x':X} {fs:Array Field} {fd:Field} (ho:o.op=.fieldAddr t x f) (h1:chkX x x'=true) (ht:P.underlying t=some (.struct fs)) (hf:fs[f]? = some fd)
 (hoff:fd.offset=j) (hsz:szT P fd.type 1=true) (hI:Inv g Y M w) (hp:∀ b,¬ g.P b) (hs:Slots g Y M w s ρ) (h:stp s M nb ib (.fad j x')=some (av,M')):Res P o ρ g Y M w ib av M':=by
 simp only [stp] at h
 have hx:=Zaq hs h1
 obtain ⟨i,hi,hi1⟩:=Zbz hsz
 have fin:∀ (a:Addr),ρ x=.pointer (some a)→(execOp ρ o).run P w=.ok (.value (.pointer (some (a.add j)))) w:=by
  intro a hv
  simp [execOp,ho,Instr.fieldAt,Instr.sureAddr,hv,Za5 ht,hf,fieldPlace,ZcR hi,hi1,hoff,go_sem]
 split at h
 · rename_i l id k ea
   cases h
   rw [ea] at hx
   simp only [SV] at hx
   obtain ⟨hu,hvr,hv⟩:=hx
   refine Res.pure hI hp (fin _ hv) ?_
   simp only [SV]
   refine ⟨hu,hvr,?_⟩
   simp [ZaW]
 · rename_i e ds ea
   rw [ea] at hx
   split at h
   · rename_i hvd
     split at h
     · rename_i d hd
       split at h
       · cases h
       · rename_i hag
         cases h
         have key:∃ X,TV X false w (.ptr (.agg ds)) (ρ x) []∧∀ u,TV X false w (.ptr d) u []→SV g Y M w (.dp e d) u:=by
          cases e with
          | none=>simp only [SV] at hx;exact ⟨_,hx,fun u h=>by simp only [SV];exact h⟩
          | some e=>simp only [SV] at hx;simp [vD] at hvd;exact ⟨_,hx.2 hvd,fun u h=>by simp only [SV];exact ⟨hx.1,fun _=>h⟩⟩
         obtain ⟨X,k1,k2⟩:=key
         obtain ⟨a,us,hv,q1,q2,q3,q4⟩:=Zav.1 k1
         rcases q4 with ⟨q4,_⟩|⟨_,q4,q5⟩
         · cases q4
         · obtain ⟨u1,u,u2,F1,Fj,F2,e1,e2,e3,e4,_⟩:=TL.get (fs:=ds) q5 hd
           have hF:=e4.nof
           subst hF
           refine Res.pure hI hp (fin _ hv) (k2 _ (Zav.2 ⟨_,[u],rfl,Zcb q1 _,by rw [ZaC];exact q2,?_,.inr ⟨rfl,by rw [ZaC];exact q4,(TC.mk (by simpa using hag)).2 ⟨u,rfl,e4⟩⟩⟩))
           intro k v hk
           cases k with
           | zero =>
            simp at hk
            subst hk
            rw [ZaW]
            simpa using q3 j u (by rw [e1,← e3];simp)
           | succ k=>simp at hk
     · cases h
   · cases h
 · cases h
theorem ZqY {f j:Nat} {x:Operand} {x':X} (h1:chkX x x'=true) (hs:Slots g Y M w s ρ) (h:stp s M nb ib (.fad j x')=some (av,M')) :
 M'=M∧∃ a,ρ x=.pointer (some a)∧SV g Y M w av (.pointer (some (a.add j))):=by
 simp only [stp] at h
 have hx:=Zaq hs h1
 split at h
 · rename_i l id k ea
   cases h
   rw [ea] at hx
   simp only [SV] at hx
   obtain ⟨hu,hvr,hv⟩:=hx
   refine ⟨rfl,_,hv,?_⟩
   simp only [SV]
   refine ⟨hu,hvr,?_⟩
   simp [ZaW]
 · rename_i e ds ea
   rw [ea] at hx
   split at h
   · rename_i hvd
     split at h
     · rename_i d hd
       split at h
       · cases h
       · rename_i hag
         cases h
         have key:∃ X,TV X false w (.ptr (.agg ds)) (ρ x) []∧∀ u,TV X false w (.ptr d) u []→SV g Y M w (.dp e d) u:=by
          cases e with
          | none=>simp only [SV] at hx;exact ⟨_,hx,fun u h=>by simp only [SV];exact h⟩
          | some e=>simp only [SV] at hx;simp [vD] at hvd;exact ⟨_,hx.2 hvd,fun u h=>by simp only [SV];exact ⟨hx.1,fun _=>h⟩⟩
         obtain ⟨X,k1,k2⟩:=key
         obtain ⟨a,us,hv,q1,q2,q3,q4⟩:=Zav.1 k1
         rcases q4 with ⟨q4,_⟩|⟨_,q4,q5⟩
         · cases q4
         · obtain ⟨u1,u,u2,F1,Fj,F2,e1,e2,e3,e4,_⟩:=TL.get (fs:=ds) q5 hd
           have hF:=e4.nof
           subst hF
           refine ⟨rfl,_,hv,k2 _ (Zav.2 ⟨_,[u],rfl,Zcb q1 _,by rw [ZaC];exact q2,?_,.inr ⟨rfl,by rw [ZaC];exact q4,(TC.mk (by simpa using hag)).2 ⟨u,rfl,e4⟩⟩⟩)⟩
           intro k v hk
           cases k with
           | zero =>
            simp at hk
            subst hk
            rw [ZaW]
            simpa using q3 j u (by rw [e1,← e3];simp)
           | succ k=>simp at hk
     · cases h
   · cases h
 · cases h
theorem Ziw {t:TypeId} {i:TypeInfo} {A:Addr} {l c:Nat} {k:IntKind} {n:Int} (ht:isSlT P t=true) (hi:P.info? (elT P t)=some i) (h0:0≤n) (h1:n < l) :
 (Instr.indexAt t (.slice (some A) l c) (.int k n)).run P w=.ok (.pointer (some (A.add (n.toNat * i.size)))) w:=by
 simp [Instr.indexAt,asIntOf,Za5 (slT ht),ZcR hi,h0,h1,go_sem]
theorem Zo0 {t:TypeId} {sz:Nat} {x k:Operand} {x' k':X} (ho:o.op=.indexAddr t x k) (h1:chkX x x'=true) (h2:chkX k k'=true) (ht:isSlT P t=true) (hsz:szT P (elT P t) sz=true)
 (hI:Inv g Y M w) (hp:∀ b,¬ g.P b) (hs:Slots g Y M w s ρ) (h:stp s M nb ib (.iad sz x' k')=some (av,M')):Res P o ρ g Y M w ib av M':=by
 simp only [stp] at h
 have hx:=Zaq hs h1
 obtain ⟨i,hi,hi1⟩:=Zbz hsz
 cases hk:asI (k'.ev s) with
 | none=>rw [hk] at h;cases h
 | some n =>
  rw [hk] at h
  simp only [Option.bind_some] at h
  obtain ⟨kk,hkv⟩:=ZgQ (Zaq hs h2) hk
  have fin:∀ (A:Addr) (l c:Nat),ρ x=.slice (some A) l c→0≤n→n < l→(execOp ρ o).run P w=.ok (.value (.pointer (some (A.add (n.toNat * sz))))) w:=by
   intro A l c hv h0 h3
   have:=Ziw (w:=w) (A:=A) (c:=c) (k:=kk) ht hi h0 h3
   rw [hi1] at this
   simp only [execOp,ho,hv,hkv]
   simp [this,go_sem]
  cases hr:stpIad M sz (x'.ev s) n with
  | none=>rw [hr] at h;cases h
  | some r =>
   rw [hr] at h
   simp at h
   obtain ⟨rfl,rfl⟩:=h
   unfold stpIad at hr
   split at hr
   · rename_i l id off len sz' ea
     split at hr
     · rename_i hc
       obtain ⟨rfl,h0,h3⟩:=hc
       cases hr
       rw [ea] at hx
       simp only [SV] at hx
       obtain ⟨hu,hz,hx⟩:=hx
       rcases hx with ⟨_,_,hl,_⟩|⟨hvr,A,c,hv,q1,q2,q3,q4,q5⟩
       · omega
       · refine Res.pure hI hp (fin _ _ _ hv h0 h3) ?_
         simp only [SV]
         refine ⟨hu,hvr,?_⟩
         rcases q4 with rfl|rfl
         · omega
         · rw [ZaW,hz,Nat.add_mul]
           simp
     · cases hr
   · rename_i e sz' xs ea
     split at hr
     · rename_i hc
       obtain ⟨hvd,rfl,h0,h3⟩:=hc
       rw [ea] at hx
       cases hd:xs[n.toNat]? with
       | none=>rw [hd] at hr;cases hr
       | some d =>
        rw [hd] at hr
        simp at hr
        subst hr
        have key:∃ X,TV X false w (.sl sz' xs) (ρ x) []∧∀ u,TV X false w (.ptr d) u []→SV g Y M w (.dp e d) u:=by
         cases e with
         | none=>simp only [SV] at hx;exact ⟨_,hx,fun u h=>by simp only [SV];exact h⟩
         | some e=>simp only [SV] at hx;simp [vD] at hvd;exact ⟨_,hx.2 hvd,fun u h=>by simp only [SV];exact ⟨hx.1,fun _=>h⟩⟩
        obtain ⟨X,k1,k2⟩:=key
        simp only [TV] at k1
        rcases k1 with ⟨rfl,_⟩|⟨A,c,vs,hv,q1,q2,q3,q4,q5⟩
        · simp at hd
        · rcases q5 with ⟨q5,_⟩|⟨_,q5,q6⟩
          · cases q5
          · obtain ⟨v1,us,v2,F1,Fi,F2,e1,e2,e3,e4,e5,e6,_⟩:=TE.get q6 hd
            have hF:=e6.nof
            subst hF
            refine Res.pure hI hp (fin _ _ _ hv h0 h3) (k2 _ (Zav.2 ⟨_,us,rfl,Zcb q1 _,by rw [ZaC];exact q3,?_,.inr ⟨rfl,by rw [ZaC];exact q5,e6⟩⟩))
            rw [e1] at q4
            have:=q4.left.right
            rwa [e3] at this
     · cases hr
   · rename_i l id r0 k0 j ea
     split at hr
     · rename_i hr0
       split at hr
       · rename_i own sz' xs hpl
         split at hr
         · rename_i hc
           obtain ⟨rfl,h0,h3⟩:=hc
           rw [ea] at hx
           cases hd:xs[n.toNat]? with
           | none=>rw [hd] at hr;cases hr
           | some d =>
            rw [hd] at hr
            simp at hr
            subst hr
            have k1:TV (XB g Y M) false w (.sl sz' xs) (ρ x) []:=by
             simp only [SV] at hx
             obtain ⟨_,hx⟩:=hx
             obtain ⟨hu,hx⟩:=hx hr0.1
             simp only [placeD] at hpl
             split at hpl
             · rename_i v' own' sz0 ys hm
               split at hpl
               · rename_i hv
                 subst hv
                 obtain ⟨hown,hvr,d0,p1,p2,p3⟩:=hx own' sz0 ys hm
                 rw [p1] at hpl
                 simp [p2] at hpl
                 obtain ⟨_,rfl⟩:=hpl
                 subst hown
                 cases hy:ys[k0]? with
                 | none=>rw [hy] at p1;simp at p1
                 | some y =>
                  rw [hy] at p1
                  simp at p1
                  obtain ⟨us,c1,c2,c3,c4,c5,c6⟩:=Zim hI hp hm hvr hy
                  simp only [if_true] at c6
                  cases j with
                  | none =>
                   simp [fldD] at p1
                   subst p1
                   obtain ⟨u,rfl,ht⟩:=(TC.mk p2).1 c6
                   have h0:=c1 0 u rfl
                   rw [ZaW] at h0
                   simp only [Option.getD_none] at p3
                   rw [p3] at h0
                   cases h0
                   exact ht
                  | some j =>
                   obtain ⟨fs,p1a,rfl,p1b⟩:=Zcm p1
                   obtain ⟨u1,u,u2,G1,Gj,G2,e1,e2,e3,e4,_⟩:=TL.get c6 p1a
                   have hG:=e4.nof
                   subst hG
                   have h0:=c1 j u (by rw [e1,← e3];simp)
                   rw [ZaW] at h0
                   simp only [Option.getD_some] at p3
                   rw [p3] at h0
                   cases h0
                   exact e4
               · simp at hpl
             · simp at hpl
            simp only [TV] at k1
            rcases k1 with ⟨rfl,_⟩|⟨A,c,vs,hv,q1,q2,q3,q4,q5⟩
            · simp at hd
            · rcases q5 with ⟨q5,_⟩|⟨_,q5,q6⟩
              · cases q5
              · obtain ⟨v1,us,v2,F1,Fi,F2,e1,e2,e3,e4,e5,e6,_⟩:=TE.get q6 hd
                have hF:=e6.nof
                subst hF
                refine Res.pure hI hp (fin _ _ _ hv h0 h3) ?_
                simp only [SV]
                refine ⟨Nat.le_refl _,fun _=>Zav.2 ⟨_,us,rfl,Zcb q1 _,by rw [ZaC];exact q3,?_,.inr ⟨rfl,by rw [ZaC];exact q5,e6⟩⟩⟩
                rw [e1] at q4
                have:=q4.left.right
                rwa [e3] at this
         · cases hr
       · cases hr
     · cases hr
   · cases hr
end
end Go.Vm
namespace Go.Vm
open Go
set_option linter.unusedVariables false
set_option linter.unusedSimpArgs false
section
variable {P:Program} {g:G} {Y:Nat→Prop} {M:Mem} {w:World} {s:Nat→AV} {ρ:Operand→Value} {o:Oper} {nb ib:Nat} {av:AV} {M':Mem}
theorem CL.sub1 {a:Addr} {us:List Value} (h:CL w a us) {j:Nat} {u:Value} (hj:us[j]? = some u):CL w (a.add j) [u]:=by
 intro k v hk
 cases k with
 | zero=>simp at hk;subst hk;rw [ZaW];simpa using h j u hj
 | succ k=>simp at hk
theorem ZoI {e:Option Nat} {d:D} {v:Value} (hs:SV g Y M w (.dat e d) v) (h:gd M (.dat e d)=true):∃ X,TV X false w d v []:=by
 cases e with
 | none=>simp only [SV] at hs;exact ⟨_,hs⟩
 | some e=>simp only [SV] at hs;simp [gd,vD] at h;exact ⟨_,hs.2 h⟩
theorem ZoE {a:AV} {v:Value} (hs:SV g Y M w a v) (h:gd M a=true) (ha:isAg a=true):∃ vs:List Value,v=.agg vs.toArray∧vs.length=a.size:=by
 cases a with
 | agg xs=>simp only [SV] at hs;obtain ⟨vs,rfl,hs⟩:=hs;exact ⟨vs,rfl,by rw [hs.length];rfl⟩
 | dat e d =>
  obtain ⟨X,ht⟩:=ZoI hs h
  cases d<;>simp [isAg,isAgD] at ha
  simp only [TV] at ht
  obtain ⟨vs,rfl,ht⟩:=ht
  exact ⟨vs,rfl,by rw [TL.len ht];rfl⟩
 | _=>simp [isAg] at ha
theorem TV.noag {X:Nat→Prop} {o:Bool} {d:D} {v:Value} {F:List Nat} (hd:isAgD d=false) (ht:TV X o w d v F):v.cells = #[v]:=by
 cases d with
 | agg fs=>simp [isAgD] at hd
 | int k n=>simp only [TV] at ht;rw [ht.1];rfl
 | bool b=>simp only [TV] at ht;rw [ht.1];rfl
 | str b=>simp only [TV] at ht;rw [ht.1];rfl
 | nili=>simp only [TV] at ht;rw [ht.1];rfl
 | ifc=>simp only [TV] at ht;obtain ⟨⟨t,x,rfl⟩,_⟩:=ht;rfl
 | anyb=>simp only [TV] at ht;obtain ⟨⟨b,rfl⟩,_⟩:=ht;rfl
 | dead=>simp only [TV] at ht;obtain ⟨⟨a,n,c,rfl⟩,_⟩:=ht;rfl
 | sl sz xs=>simp only [TV] at ht;rcases ht with ⟨_,hnv,_⟩|⟨a,c,vs,rfl,_⟩<;>(try obtain ⟨_,rfl⟩:=hnv.ex)<;>rfl
 | rs sz xs=>simp only [TV] at ht;rcases ht.2 with ⟨_,hnv⟩|⟨a,c,vs,rfl,_⟩<;>(try obtain ⟨_,rfl⟩:=hnv.ex)<;>rfl
 | ptr d=>obtain ⟨a,us,rfl,_⟩:=Zav.1 ht;rfl
 | clo f xs=>simp only [TV] at ht;obtain ⟨_,vs,rfl,_⟩:=ht;rfl
 | tup fs=>simp only [TV] at ht;obtain ⟨vs,rfl,_⟩:=ht;rfl
theorem Zjh {a:AV} {v:Value} (hs:SV g Y M w a v) (h:gd M a=true) (ha:isAg a=false):v.cells = #[v]:=by
 cases a with
 | agg xs=>simp [isAg] at ha
 | dat e d =>
  obtain ⟨X,ht⟩:=ZoI hs h
  exact TV.noag (by simpa [isAg] using ha) ht
 | tup xs=>simp only [SV] at hs;obtain ⟨vs,rfl,_⟩:=hs;rfl
 | clo f xs=>simp only [SV] at hs;obtain ⟨vs,rfl,_⟩:=hs;rfl
 | dp e d=>exact (Zgp hs (by simpa [oneA,gd] using h)).2
 | nil sz=>exact (Zgp hs rfl).2
 | sl l v off len sz=>exact (Zgp hs rfl).2
 | ptr l v i j=>exact (Zgp hs rfl).2
 | ref l v r i j=>simp [gd] at h
 | bad=>simp [gd] at h
theorem Znn {t:TypeId} {hh ag:Bool} {n:Nat} {x:Operand} {x':X} (ho:o.op=.load t x) (h1:chkX x x'=true) (hu0:hasU P t=true) (hag:isAggT P t=ag) (hsz:szT P t n=true)
 (hI:Inv g Y M w) (hp:∀ b,¬ g.P b) (hs:Slots g Y M w s ρ) (h:stp s M nb ib (.load hh ag n x')=some (av,M')):Res P o ρ g Y M w ib av M':=by
 simp only [stp] at h
 have hx:=Zaq hs h1
 obtain ⟨i,hi,hi1⟩:=Zbz hsz
 have fin:∀ (A:Addr) (us:List Value),ρ x=.pointer (some A)→CL w A us→(ag=true→us.length=n)→(ag=false→∃ u,us=[u]) →
  (execOp ρ o).run P w=.ok (.value (if ag then .agg us.toArray else us.headD undef)) w:=by
  intro A us hv hc q1 q2
  have:=Zf6 (P:=P) hu0 hi hc (by rw [hag,hi1];exact q1) (by rw [hag];exact q2)
  rw [hag] at this
  simp only [execOp,ho,Instr.loadAt,Instr.sureAddr,hv]
  simp only [Sem.run_bind,Sem.run_pure,Result.andThen_ok,this]
 have finD:∀ (A:Addr) (us:List Value) (X:Nat→Prop) (d:D),ρ x=.pointer (some A)→CL w A us→TC X false w d us []→isAgD d=ag→(ag=true→us.length=n) →
  ∃ v,(execOp ρ o).run P w=.ok (.value v) w∧TV X false w d v []:=by
  intro A us X d hv hc ht hd hn
  cases hb:ag with
  | true =>
   have:=fin A us hv hc hn (by rw [hb];simp)
   rw [hb] at this hd
   cases d<;>simp [isAgD] at hd
   exact ⟨_,this,by simp only [TV,if_true];exact ⟨us,rfl,ht⟩⟩
  | false =>
   rw [hb] at hd
   obtain ⟨u,e1,ht1⟩:=(TC.mk hd).1 ht
   subst e1
   have:=fin A [u] hv hc (by rw [hb];simp) (fun _=>⟨u,rfl⟩)
   rw [hb] at this
   exact ⟨_,this,by simpa using ht1⟩
 split at h
 · rename_i r hr
   split at h
   · rename_i hcnd
     cases h
     simp only [Bool.and_eq_true,beq_iff_eq,Bool.or_eq_true] at hcnd
     obtain ⟨⟨hia,hnb⟩,hn⟩:=hcnd
     unfold stpLoad at hr
     split at hr
     · rename_i l id k j ea
       rw [ea] at hx
       simp only [SV] at hx
       obtain ⟨hu,hvr,hv⟩:=hx
       split at hr
       · rename_i v' own sz xs hm
         split at hr
         · rename_i hvv
           subst hvv
           have hz:g.SZ v'=sz:=(hI.ob l _ hm).2.1
           cases hxk:xs[k]? with
           | none=>rw [hxk] at hr;simp at hr
           | some y =>
            rw [hxk] at hr
            simp only [Option.bind_some] at hr
            cases hfd:fldD y j with
            | none=>rw [hfd] at hr;cases hr
            | some d =>
             rw [hfd] at hr
             simp only [Option.bind_some] at hr
             obtain ⟨us,c1,c2,c3,c4,c5,c6⟩:=Zim hI hp hm hvr hxk
             have key:∃ us',CL w ((g.AD v').add (k * sz+j.getD 0)) us'∧TC (if own then XB g Y M else XA g Y M) false w d us' []∧us'.length=d.size:=by
              cases j with
              | none=>simp [fldD] at hfd;subst hfd;exact ⟨us,by simpa using c1,c6,by rw [c2,c3]⟩
              | some j =>
               obtain ⟨fs,p1a,rfl,p1b⟩:=Zcm hfd
               obtain ⟨u1,u,u2,G1,Gj,G2,e1,e2,e3,e4,_⟩:=TL.get c6 p1a
               have hG:=e4.nof
               subst hG
               have:=CL.sub1 c1 (j:=j) (u:=u) (by rw [e1,← e3];simp)
               rw [ZaW] at this
               refine ⟨[u],by simpa using this,(TC.mk p1b).2 ⟨u,rfl,e4⟩,?_⟩
               cases d<;>simp [isAgD] at p1b<;>rfl
             obtain ⟨us',d1,d2,d3⟩:=key
             rw [hz] at hv
             split at hr
             · split at hr
               · rename_i hh1
                 cases hr
                 simp only [Bool.and_eq_true,Bool.not_eq_true'] at hh1
                 obtain ⟨⟨rfl,hag2⟩,_⟩:=hh1
                 simp only [isAg] at hia
                 obtain ⟨v,f1,f2⟩:=finD _ us' _ d hv d1 d2 (by rw [hag2,hia]) (by rw [← hia];simp)
                 refine Res.pure hI hp f1 ?_
                 simp only [SV]
                 refine ⟨Nat.le_refl _,fun _=>⟨hu,fun own' sz' xs' hm'=>?_⟩⟩
                 rw [hm] at hm'
                 cases hm'
                 refine ⟨rfl,hvr,d,by rw [hxk];exact hfd,hag2,?_⟩
                 obtain ⟨u,e1,e2⟩:=(TC.mk hag2).1 d2
                 have hvu:v=u:=by
                  have:=fin _ us' hv d1 (by rw [← hia];simp) (fun _=>⟨u,e1⟩)
                  rw [f1,← hia,e1] at this
                  simpa using this
                 rw [hvu]
                 have:=d1 0 u (by rw [e1];rfl)
                 simpa [Addr.add] using this
               · cases hr
             · cases hr
               unfold ldD at hia hn ⊢
               cases hsc:(own&&!isSc d) with
               | true =>
                rw [hsc] at hia hn
                simp only [if_true,isAg] at hia hn
                simp only [Bool.and_eq_true] at hsc
                obtain ⟨v,f1,f2⟩:=finD _ us' _ d hv d1 d2 hia (fun _=>by rw [d3];simpa [AV.size] using hn)
                refine Res.pure hI hp f1 ?_
                simp only [if_true,SV]
                rw [hsc.1] at f2
                exact ⟨Nat.le_refl _,fun _=>f2⟩
               | false =>
                rw [hsc] at hia hn
                simp only [Bool.false_eq_true,if_false,isAg] at hia hn
                obtain ⟨v,f1,f2⟩:=finD _ us' _ d hv d1 d2 hia (fun _=>by rw [d3];simpa [AV.size] using hn)
                refine Res.pure hI hp f1 ?_
                simp only [Bool.false_eq_true,if_false,SV]
                cases hown:own with
                | false=>rw [hown] at f2;exact f2
                | true=>rw [hown] at hsc;simp at hsc;exact (TV.sc hsc f2).2
         · cases hr
       · rename_i v' y hm
         split at hr
         · rename_i hc
           obtain ⟨rfl,rfl,rfl⟩:=hc
           have hob:=hI.ob l _ hm
           simp only [OB] at hob
           obtain ⟨_,_,k1,k2,kb,u0,k3,k4,k5⟩:=hob
           obtain ⟨u,q1,q2,q3⟩:=ZiG k5 hr
           simp only [Nat.zero_mul,Nat.zero_add] at hv
           have hgd:gd M av=true:=by simpa using hnb
           cases hb:ag with
           | true =>
            rw [hb] at hia
            cases j with
            | some j=>have:=(q3 j rfl).2;rw [this] at hia;cases hia
            | none =>
             obtain ⟨rfl,rfl⟩:=q2 rfl
             obtain ⟨vs,rfl,hl⟩:=ZoE q1 hgd hia
             have:=fin _ vs hv (by simpa [Addr.add,Value.cells] using k4) (fun _=>by rw [hl];exact hn) (by rw [hb];simp)
             rw [hb] at this
             exact Res.pure hI hp this q1
           | false =>
            rw [hb] at hia
            have hcu:CL w ((g.AD v').add (j.getD 0)) [u]:=by
             cases j with
             | none=>obtain ⟨rfl,rfl⟩:=q2 rfl;rw [Zjh q1 hgd hia] at k4;simpa [Addr.add] using k4
             | some j=>exact CL.sub1 k4 (by simpa using (q3 j rfl).1)
            have:=fin _ [u] hv hcu (by rw [hb];simp) (fun _=>⟨u,rfl⟩)
            rw [hb] at this
            exact Res.pure hI hp this q1
         · cases hr
       · cases hr
     · rename_i e d ea
       split at hr
       · cases hr
       · rename_i hhf
         cases hr
         rw [ea] at hx
         have hvd:vD M e=true:=by simpa [hhf,gd] using hnb
         have key:∃ X,TV X false w (.ptr d) (ρ x) []∧∀ u,TV X false w d u []→SV g Y M w (.dat e d) u:=by
          cases e with
          | none=>simp only [SV] at hx;exact ⟨_,hx,fun u h=>by simp only [SV];exact h⟩
          | some e=>simp only [SV] at hx;simp [vD] at hvd;exact ⟨_,hx.2 hvd,fun u h=>by simp only [SV];exact ⟨hx.1,fun _=>h⟩⟩
         obtain ⟨X,k1,k2⟩:=key
         obtain ⟨A,us,hv,q1,q2,q3,q4⟩:=Zav.1 k1
         rcases q4 with ⟨q4,_⟩|⟨_,q4,q5⟩
         · cases q4
         · obtain ⟨v,f1,f2⟩:=finD A us X d hv q3 q5 hia (fun _=>by rw [q5.len];simpa [AV.size] using hn)
           exact Res.pure hI hp f1 (k2 v f2)
     · cases hr
   · cases h
 · cases h
theorem Zjq (hs:Slots g Y M w s ρ) {x:Option Operand} {y:Option X} {n:Option Int} (hc:chkO x y=true) (h:opI s y=some n) :
 (x=none∧n=none)∨∃ x' k m,x=some x'∧ρ x'=.int k m∧n=some m:=by
 cases x<;>cases y<;>simp [chkO] at hc
 · simp [opI] at h;exact .inl ⟨rfl,h.symm⟩
 · rename_i x y
   simp only [opI] at h
   cases hn:asI (y.ev s) with
   | none=>rw [hn] at h;cases h
   | some m =>
    rw [hn] at h
    simp at h
    obtain ⟨k,hk⟩:=ZgQ (Zaq hs hc) hn
    exact .inr ⟨x,k,m,rfl,hk,h.symm⟩
theorem ZdB {k:IntKind} {n:Int} {y:Nat} {code:BoundsCode} (h0:0≤n) (h1:n≤y):(Instr.sliceBound (.int k n) y code).run P w=.ok n.toNat w:=by
 simp [Instr.sliceBound,asIntOf,h0,h1,go_sem]
theorem ZgG {b:Bool} {len cap:Nat} {lo hi:Option Operand} {l h:Option Int} (hl:(lo=none∧l=none)∨∃ x k m,lo=some x∧ρ x=.int k m∧l=some m)
 (hh:(hi=none∧h=none)∨∃ x k m,hi=some x∧ρ x=.int k m∧h=some m) (h0:0≤l.getD 0) (h1:l.getD 0≤h.getD len) (h2:h.getD len≤len) (h3:len≤cap) :
 (Instr.sliceBounds b len cap (lo.map ρ) (hi.map ρ) none).run P w=.ok ((l.getD 0).toNat,(h.getD len).toNat,cap) w:=by
 unfold Instr.sliceBounds
 rcases hl with ⟨rfl,rfl⟩|⟨x,k,m,rfl,hx,rfl⟩<;>rcases hh with ⟨rfl,rfl⟩|⟨x',k',m',rfl,hx',rfl⟩
 · simp [go_sem]
 · simp only [Option.getD_some,Option.getD_none] at h0 h1 h2
   simp only [Option.map_some,Option.map_none,hx',Sem.run_bind,Sem.run_pure,Result.andThen_ok,ZdB (P:=P) (w:=w) (k:=k') (show 0≤m' by omega) (show m'≤cap by omega)]
   simp [ZdB (P:=P) (w:=w) (k:=k') (show 0≤m' by omega) (show m'≤(cap:Int) by omega),go_sem]
 · simp only [Option.getD_some,Option.getD_none] at h0 h1 h2
   simp [hx,ZdB (P:=P) (w:=w) (k:=k) (y:=len) h0 h1,go_sem]
 · simp only [Option.getD_some,Option.getD_none] at h0 h1 h2
   simp [hx,hx',ZdB (P:=P) (w:=w) (k:=k') (show 0≤m' by omega) (show m'≤(cap:Int) by omega),ZdB (P:=P) (w:=w) (k:=k) (y:=m'.toNat) h0 (by omega),go_sem]
theorem RM.mono {a:Addr} {m n:Nat} (h:RM w a n) (hm:m≤n):RM w a m:=by
 obtain ⟨cs,E,h1,h2⟩:=h
 exact ⟨cs,E,h1,by omega⟩
theorem ZoY {t:TypeId} {sz:Nat} {x:Operand} {lo hi:Option Operand} {x':X} {lo' hi':Option X} (ho:o.op=.slice t x lo hi none) (h1:chkX x x'=true) (hlo:chkO lo lo'=true) (hhi:chkO hi hi'=true)
 (ht:isSlT P t=true) (hsz:szT P (elT P t) sz=true) (hI:Inv g Y M w) (hp:∀ b,¬ g.P b) (hs:Slots g Y M w s ρ) (h:stp s M nb ib (.slc sz x' lo' hi')=some (av,M')):Res P o ρ g Y M w ib av M':=by
 simp only [stp] at h
 have hx:=Zaq hs h1
 obtain ⟨i,hi0,hi1⟩:=Zbz hsz
 cases hl:opI s lo' with
 | none=>rw [hl] at h;cases h
 | some l =>
  cases hh:opI s hi' with
  | none=>rw [hl,hh] at h;cases h
  | some hhv =>
   rw [hl,hh] at h
   simp only at h
   have bl:=Zjq hs hlo hl
   have bh:=Zjq hs hhi hh
   cases hr:stpSlc M sz (x'.ev s) l hhv with
   | none=>rw [hr] at h;cases h
   | some r =>
    rw [hr] at h
    simp at h
    obtain ⟨rfl,rfl⟩:=h
    have fin:∀ (A:Option Addr) (len c:Nat),ρ x=.slice A len c→0≤l.getD 0→l.getD 0≤hhv.getD len→hhv.getD len≤len→len≤c →
     (execOp ρ o).run P w=.ok (.value (.slice (if c=(l.getD 0).toNat then A else A.map (·.add ((l.getD 0).toNat * sz))) ((hhv.getD len).toNat - (l.getD 0).toNat) (c - (l.getD 0).toNat))) w:=by
     intro A len c hv a0 a1 a2 a3
     have:=ZgG (P:=P) (w:=w) (b:=true) bl bh a0 a1 a2 a3
     simp only [execOp,ho,Instr.sliceAt,Instr.slice,hv]
     simp [Za5 (slT ht),this,ZcR hi0,hi1,go_sem]
    unfold stpSlc at hr
    split at hr
    · rename_i l0 id off len sz' ea
      split at hr
      · rename_i hc
        obtain ⟨rfl,a0,a1,a2⟩:=hc
        cases hr
        rw [ea] at hx
        simp only [SV] at hx
        obtain ⟨hu,hz,hx⟩:=hx
        rcases hx with ⟨hvr,hv,rfl,rfl⟩|⟨hvr,A,c,hv,q1,q2,q3,q4,q5⟩
        · refine Res.pure hI hp (fin _ _ _ hv a0 a1 a2 (Nat.le_refl _)) ?_
          change _≤hhv.getD (0:Int) at a1
          change hhv.getD (0:Int)≤(0:Int) at a2
          have e0:l.getD 0=0:=by omega
          have e1:hhv.getD 0=0:=by omega
          simp only [SV]
          exact ⟨hu,hz,.inl ⟨hvr,by simp [e0,e1],by simp [e0,e1],by simp [e0]⟩⟩
        · refine Res.pure hI hp (fin _ _ _ hv a0 a1 a2 q3) ?_
          simp only [SV]
          refine ⟨hu,hz,.inr ⟨hvr,?_⟩⟩
          have hlen:(hhv.getD len - l.getD 0).toNat=(hhv.getD len).toNat - (l.getD 0).toNat:=by omega
          by_cases hcl:c=(l.getD 0).toNat
          · refine ⟨A,c - (l.getD 0).toNat,by rw [if_pos hcl,hlen],q1,q2,by omega,.inl (by omega),?_⟩
            have:(off+(l.getD 0).toNat) * sz'+(c - (l.getD 0).toNat) * sz'=off * sz'+c * sz':=by
             rw [← Nat.add_mul,← Nat.add_mul];congr 1;omega
            rw [this];exact q5
          · refine ⟨A.add ((l.getD 0).toNat * sz'),c - (l.getD 0).toNat,by rw [if_neg hcl,hlen];rfl,Zcb q1 _,by rw [ZaC];exact q2,by omega,.inr ?_,?_⟩
            · rcases q4 with q4|q4
              · omega
              · rw [q4,ZaW,Nat.add_mul]
            · have:(off+(l.getD 0).toNat) * sz'+(c - (l.getD 0).toNat) * sz'=off * sz'+c * sz':=by
               rw [← Nat.add_mul,← Nat.add_mul];congr 1;omega
              rw [this];exact q5
      · cases hr
    · rename_i e sz' xs ea
      split at hr
      · rename_i hc
        obtain ⟨hvd,rfl,a0,a1,a2⟩:=hc
        cases hr
        rw [ea] at hx
        have key:∃ X,TV X false w (.sl sz' xs) (ρ x) []∧∀ ys u,TV X false w (.sl sz' ys) u []→SV g Y M w (.dat e (.sl sz' ys)) u:=by
         cases e with
         | none=>simp only [SV] at hx;exact ⟨_,hx,fun ys u h=>by simp only [SV];exact h⟩
         | some e=>simp only [SV] at hx;simp [vD] at hvd;exact ⟨_,hx.2 hvd,fun ys u h=>by simp only [SV];exact ⟨hx.1,fun _=>h⟩⟩
        obtain ⟨X,k1,k2⟩:=key
        simp only [TV] at k1
        rcases k1 with ⟨rfl,hv,_⟩|⟨A,c,vs,hv,q1,q2,q3,q4,q5⟩
        · obtain ⟨A,hv⟩:=hv.ex
          refine Res.pure hI hp (fin _ _ _ hv a0 (by simpa using a1) (by simpa using a2) (Nat.le_refl _)) (k2 _ _ ?_)
          change _≤hhv.getD (0:Int) at a1
          change hhv.getD (0:Int)≤(0:Int) at a2
          have e0:l.getD 0=0:=by omega
          have e1:hhv.getD 0=0:=by omega
          simp only [TV]
          refine .inl ⟨by simp,?_,trivial⟩
          simp only [e0]
          cases A with
          | none=>exact .inl (by simp [e1])
          | some A=>exact .inr ⟨rfl,A,by simp [e1]⟩
        · rcases q5 with ⟨q5,_⟩|⟨_,q5,q6⟩
          · cases q5
          · refine Res.pure hI hp (fin _ _ _ hv a0 a1 a2 q2) (k2 _ _ ?_)
            obtain ⟨us,Fa,Fb,Fc,e1,e2,e3⟩:=TE.range q6 q4 (l.getD 0).toNat ((hhv.getD xs.length).toNat - (l.getD 0).toNat) (by omega)
            have hFb:=e3.nof
            subst hFb
            have hxs:(xs.take (hhv.getD xs.length).toNat).drop (l.getD 0).toNat=(xs.drop (l.getD 0).toNat).take ((hhv.getD xs.length).toNat - (l.getD 0).toNat):=by
             rw [List.drop_take]
            have hln:((xs.drop (l.getD 0).toNat).take ((hhv.getD xs.length).toNat - (l.getD 0).toNat)).length=(hhv.getD xs.length).toNat - (l.getD 0).toNat:=by simp;omega
            rw [hxs]
            simp only [TV]
            refine .inr ?_
            by_cases hcl:c=(l.getD 0).toNat
            · have h00:(hhv.getD xs.length).toNat - (l.getD 0).toNat=0:=by omega
              refine ⟨A,c - (l.getD 0).toNat,us,by rw [if_pos hcl,hln],q1,by rw [hln];omega,q3,?_,.inr ⟨trivial,q5,e3⟩⟩
              have:=e3.len
              rw [hln,h00] at this
              simp at this
              subst this
              intro k v hk
              simp at hk
            · exact ⟨A.add ((l.getD 0).toNat * sz'),c - (l.getD 0).toNat,us,by rw [if_neg hcl,hln];rfl,Zcb q1 _,by rw [hln];omega,by rw [ZaC];exact q3,e2,.inr ⟨trivial,by rw [ZaC];exact q5,e3⟩⟩
      · cases hr
    · rename_i sz' ea
      split at hr
      · rename_i hc
        obtain ⟨rfl,a0,a1⟩:=hc
        cases hr
        rw [ea] at hx
        simp only [SV] at hx
        refine Res.pure hI hp (fin _ _ _ hx (by omega) (by simp [a0,a1]) (by simp [a1]) (Nat.le_refl _)) ?_
        simp only [SV]
        simp [a0,a1]
      · cases hr
    · cases hr
theorem Zo2 {t:TypeId} {x:Operand} {lo hi:Option Operand} {x':X} {lo' hi':Option X} (ho:o.op=.slice t x lo hi none) (h1:chkX x x'=true) (hlo:chkO lo lo'=true) (hhi:chkO hi hi'=true)
 (ht:P.underlying t=some .string) (hI:Inv g Y M w) (hp:∀ b,¬ g.P b) (hs:Slots g Y M w s ρ) (h:stp s M nb ib (.sls x' lo' hi')=some (av,M')):Res P o ρ g Y M w ib av M':=by
 simp only [stp] at h
 have hx:=Zaq hs h1
 cases hl:opI s lo' with
 | none=>rw [hl] at h;cases h
 | some l =>
  cases hh:opI s hi' with
  | none=>rw [hl,hh] at h;cases h
  | some hhv =>
   rw [hl,hh] at h
   simp only at h
   have bl:=Zjq hs hlo hl
   have bh:=Zjq hs hhi hh
   cases hr:stpSls (x'.ev s) l hhv with
   | none=>rw [hr] at h;cases h
   | some r =>
    rw [hr] at h
    simp at h
    obtain ⟨rfl,rfl⟩:=h
    unfold stpSls at hr
    split at hr
    · rename_i b ea
      split at hr
      · rename_i hc
        obtain ⟨a0,a1,a2⟩:=hc
        cases hr
        rw [ea] at hx
        simp only [SV,TV] at hx
        have:=ZgG (P:=P) (w:=w) (b:=false) (len:=b.size) (cap:=b.size) bl bh a0 a1 a2 (Nat.le_refl _)
        refine Res.pure (v:=.string (b.extract (l.getD 0).toNat (hhv.getD b.size).toNat)) hI hp ?_ (ZfV fun X=>by simp only [TV];exact ⟨trivial,trivial⟩)
        simp only [execOp,ho,Instr.sliceAt,Instr.slice,hx.1]
        simp [Za5 ht,this,go_sem]
      · cases hr
    · cases hr
end
end Go.Vm
namespace Go.Vm
open Go
set_option linter.unusedVariables false
set_option linter.unusedSimpArgs false
section
variable {P:Program} {g:G} {Y:Nat→Prop} {M:Mem} {w:World} {s:Nat→AV} {ρ:Operand→Value} {o:Oper} {nb ib:Nat} {av:AV} {M':Mem}
theorem Zj5 {place:Nat→Option (Nat×Nat)} {cells:Array Value} {i:Nat} {v:Value} {rest:List (Nat×Value)} (hp:place i=some (i,1)) (hv:v.cells = #[v]) (hi:i < cells.size) :
 Instr.fill place cells ((i,v)::rest)=Instr.fill place (cells.setIfInBounds i v) rest:=by
 simp only [Instr.fill,hp,hv]
 simp [show ¬ (i+1 > cells.size) by omega,List.zipIdx]
theorem Zf3 (hs:Slots g Y M w s ρ) {place:Nat→Option (Nat×Nat)} {n:Nat} (hpl:∀ i,i < n→place i=some (i,1)) :
 ∀ (ys:List X) (zs:List Value) (ps:List (Nat×Operand)) (k:Nat) (pre:List Value),pre.length=k→pre.length+zs.length=n→chkFlds k ps zs ys=true →
  (ys.map (X.ev s)).all (fun a=>gd M a&&!isAg a)=true →
  ∃ vs,Instr.fill place (pre++zs).toArray (ps.map fun (i,x)=>(i,ρ x))=some (pre++vs).toArray∧SVL g Y M w (ys.map (X.ev s)) vs
 | [],zs,ps,k,pre,hk,hn,hc,_=>by
  cases zs<;>cases ps<;>simp [chkFlds] at hc
  exact ⟨[],by simp [Instr.fill],by simp only [List.map_nil,SVL]⟩
 | y::ys,zs,ps,k,pre,hk,hn,hc,hg=>by
  simp only [List.map_cons,List.all_cons,Bool.and_eq_true,Bool.not_eq_true'] at hg
  obtain ⟨⟨hgd,hna⟩,hg⟩:=hg
  cases zs with
  | nil=>cases ps with
   | nil=>simp [chkFlds] at hc
   | cons p ps=>obtain ⟨i,x⟩:=p;simp [chkFlds] at hc
  | cons z zs =>
   have hzero:∀ {ps':List (Nat×Operand)},(zX y z&&chkFlds (k+1) ps' zs ys)=true →
    ∃ vs,Instr.fill place (pre++z::zs).toArray (ps'.map fun (i,x)=>(i,ρ x))=some (pre++vs).toArray∧SVL g Y M w ((y::ys).map (X.ev s)) vs:=by
    intro ps' h
    simp only [Bool.and_eq_true] at h
    obtain ⟨vs,h1,h2⟩:=Zf3 hs hpl ys zs ps' (k+1) (pre++[z]) (by simp [hk]) (by simp at hn ⊢;omega) h.2 hg
    refine ⟨z::vs,by simpa using h1,?_⟩
    simp only [List.map_cons,SVL]
    refine ⟨z,vs,rfl,?_,h2⟩
    cases y with
    | t n=>simp [zX] at h
    | k a=>exact ZiL h.1
   cases ps with
   | nil=>simp only [chkFlds] at hc;exact hzero hc
   | cons p ps =>
    obtain ⟨i,x⟩:=p
    simp only [chkFlds] at hc
    split at hc
    · rename_i hik
      simp only [beq_iff_eq] at hik
      subst hik
      simp only [Bool.and_eq_true] at hc
      have hx:=Zaq hs hc.1
      have hv:=Zjh hx hgd hna
      obtain ⟨vs,h1,h2⟩:=Zf3 hs hpl ys zs ps (i+1) (pre++[ρ x]) (by simp [hk]) (by simp at hn ⊢;omega) hc.2 hg
      refine ⟨ρ x::vs,?_,by simp only [List.map_cons,SVL];exact ⟨_,_,rfl,hx,h2⟩⟩
      rw [List.map_cons,Zj5 (hpl i (by simp at hn;omega)) hv (by simp;omega)]
      have:(pre++z::zs).toArray.setIfInBounds i (ρ x)=(pre++[ρ x]++zs).toArray:=by
       simp [← hk]
      rw [this]
      simpa using h1
    · exact hzero hc
theorem Zil (p:Nat×Operand):∀ l:List (Nat×Operand),(insP p l).Perm (p::l)
 | []=>List.Perm.refl _
 | q::l=>by
  unfold insP
  split
  · exact List.Perm.refl _
  · exact (List.Perm.cons q (Zil p l)).trans (List.Perm.swap p q l)
theorem ZhP:∀ l:List (Nat×Operand),(srtP l).Perm l
 | []=>List.Perm.refl _
 | p::l=>(Zil p (srtP l)).trans (List.Perm.cons p (ZhP l))
theorem ZiT (hs:Slots g Y M w s ρ):∀ (ys:List X) (zs:List Value) (ps:List (Nat×Operand)) (k:Nat),chkFlds k ps zs ys=true→(ys.map (X.ev s)).all (fun a=>gd M a&&!isAg a)=true →
 (ps.map (·.1)).Nodup∧∀ p∈ps,k≤p.1∧p.1 < k+zs.length∧(ρ p.2).cells = #[ρ p.2]
 | [],zs,ps,k,hc,_=>by
  cases zs<;>cases ps<;>simp [chkFlds] at hc
  exact ⟨List.nodup_nil,by simp⟩
 | y::ys,zs,ps,k,hc,hg=>by
  simp only [List.map_cons,List.all_cons,Bool.and_eq_true,Bool.not_eq_true'] at hg
  obtain ⟨⟨hgd,hna⟩,hg⟩:=hg
  cases zs with
  | nil=>cases ps with
   | nil=>simp [chkFlds] at hc
   | cons p ps=>obtain ⟨i,x⟩:=p;simp [chkFlds] at hc
  | cons z zs =>
   have hzero:∀ {ps':List (Nat×Operand)},(zX y z&&chkFlds (k+1) ps' zs ys)=true→(ps'.map (·.1)).Nodup∧∀ p∈ps',k≤p.1∧p.1 < k+(z::zs).length∧(ρ p.2).cells = #[ρ p.2]:=by
    intro ps' h
    simp only [Bool.and_eq_true] at h
    obtain ⟨q1,q2⟩:=ZiT hs ys zs ps' (k+1) h.2 hg
    refine ⟨q1,fun p hp=>?_⟩
    obtain ⟨a,b,c⟩:=q2 p hp
    exact ⟨by omega,by simp only [List.length_cons];omega,c⟩
   cases ps with
   | nil=>simp only [chkFlds] at hc;exact hzero hc
   | cons p ps =>
    obtain ⟨i,x⟩:=p
    simp only [chkFlds] at hc
    split at hc
    · rename_i hik
      simp only [beq_iff_eq] at hik
      subst hik
      simp only [Bool.and_eq_true] at hc
      have hv:=Zjh (Zaq hs hc.1) hgd hna
      obtain ⟨q1,q2⟩:=ZiT hs ys zs ps (i+1) hc.2 hg
      refine ⟨?_,fun p hp=>?_⟩
      · rw [List.map_cons,List.nodup_cons]
        refine ⟨fun hm=>?_,q1⟩
        obtain ⟨p,hp,e⟩:=List.mem_map.1 hm
        have:=(q2 p hp).1
        omega
      · rcases List.mem_cons.1 hp with rfl|hp
        · exact ⟨Nat.le_refl _,by simp only [List.length_cons];omega,hv⟩
        · obtain ⟨a,b,c⟩:=q2 p hp
          exact ⟨by omega,by simp only [List.length_cons];omega,c⟩
    · exact hzero hc
theorem Zf9 {place:Nat→Option (Nat×Nat)} {n:Nat} (hpl:∀ i,i < n→place i=some (i,1)):∀ (ps:List (Nat×Operand)) (cells:Array Value),cells.size=n→(∀ p∈ps,p.1 < n∧(ρ p.2).cells = #[ρ p.2]) →
 Instr.fill place cells (ps.map fun (i,x)=>(i,ρ x))=some (ps.foldl (fun c p=>c.setIfInBounds p.1 (ρ p.2)) cells)
 | [],cells,_,_=>by simp [Instr.fill]
 | p::ps,cells,hn,h=>by
  obtain ⟨h1,h2⟩:=h p List.mem_cons_self
  rw [List.map_cons,List.foldl_cons]
  show Instr.fill place cells ((p.1,ρ p.2)::_)=_
  rw [Zj5 (hpl p.1 h1) h2 (by omega)]
  exact Zf9 hpl ps _ (by simpa using hn) fun q hq=>h q (List.mem_cons_of_mem _ hq)
theorem ZlE {ps qs:List (Nat×Operand)} (hp:ps.Perm qs) (hn:(ps.map (·.1)).Nodup) (cells:Array Value) :
 ps.foldl (fun c p=>c.setIfInBounds p.1 (ρ p.2)) cells=qs.foldl (fun c p=>c.setIfInBounds p.1 (ρ p.2)) cells:=by
 refine hp.foldl_eq' (fun x hx y hy z=>?_) cells
 by_cases e:x.1=y.1
 · have:x=y:=by
    have key:∀ l:List (Nat×Operand),(l.map (·.1)).Nodup→x∈l→y∈l→x=y:=by
     intro l
     induction l with
     | nil=>intro _ h;cases h
     | cons a l ih =>
      intro hn hx hy
      rw [List.map_cons,List.nodup_cons] at hn
      rcases List.mem_cons.1 hx with hx|hx<;>rcases List.mem_cons.1 hy with hy|hy
      · rw [hx,hy]
      · exact absurd (List.mem_map.2 ⟨y,hy,by rw [← hx,e]⟩) hn.1
      · exact absurd (List.mem_map.2 ⟨x,hx,by rw [← hy,e]⟩) hn.1
      · exact ih hn.2 hx hy
    exact key ps hn hx hy
   rw [this]
 · apply Array.ext
   · simp
   · intro i h1 h2
     simp only [Array.getElem_setIfInBounds,Array.size_setIfInBounds] at h1 h2 ⊢
     rw [Array.getElem_setIfInBounds (by simpa using h1),Array.getElem_setIfInBounds (by simpa using h1),Array.getElem_setIfInBounds (by simpa using h1),Array.getElem_setIfInBounds (by simpa using h1)]
     by_cases a:x.1=i<;>by_cases b:y.1=i
     · omega
     · rw [if_neg b,if_pos a,if_pos a]
     · rw [if_pos b,if_neg a,if_pos b]
     · rw [if_neg b,if_neg a,if_neg a,if_neg b]
theorem Zla {fs:List Field} (h:fs.zipIdx.all (fun (f,k)=>f.offset == k&&szT P f.type 1)=true) :
 fs.mapM (fun f=>(P.info? f.type).map fun i=>(f.offset,i.size))=some ((List.range fs.length).map fun i=>(i,1)):=by
 have main:∀ (fs:List Field) (k:Nat),(fs.zipIdx k).all (fun (f,k)=>f.offset == k&&szT P f.type 1)=true →
  fs.mapM (fun f=>(P.info? f.type).map fun i=>(f.offset,i.size))=some ((List.range' k fs.length).map fun i=>(i,1)):=by
  intro fs
  induction fs with
  | nil=>intro k _;simp
  | cons f fs ih =>
   intro k h
   simp only [List.zipIdx_cons,List.all_cons,Bool.and_eq_true,beq_iff_eq] at h
   obtain ⟨i,hi,hi1⟩:=Zbz h.1.2
   simp [List.mapM_cons,hi,hi1,h.1.1,ih (k+1) h.2,List.range'_succ]
 rw [main fs 0 h,List.range_eq_range']
theorem ZpN {t:TypeId} {ps:Array (Nat×Operand)} {ys:List X} {fs:Array Field} {i:TypeInfo} {zs:Array Value} (ho:o.op=.build t ps) (ht:P.underlying t=some (.struct fs)) (hi:P.info? t=some i)
 (hz:i.zero=some (.agg zs)) (hn:fs.size=zs.size) (hfs:fs.toList.zipIdx.all (fun (f,k)=>f.offset == k&&szT P f.type 1)=true) (hc:chkFlds 0 (srtP ps.toList) zs.toList ys=true)
 (hI:Inv g Y M w) (hp:∀ b,¬ g.P b) (hs:Slots g Y M w s ρ) (h:stp s M nb ib (.bld ys)=some (av,M')):Res P o ρ g Y M w ib av M':=by
 simp only [stp] at h
 split at h
 · rename_i hg
   cases h
   obtain ⟨vs,h1,h2⟩:=Zf3 (place:=fun x=>(((List.range fs.toList.length).map fun i=>(i,1)).toArray)[x]?) (n:=fs.size) hs (by intro i hi;simp [hi]) ys zs.toList (srtP ps.toList) 0 [] rfl (by simp [hn]) hc hg
   obtain ⟨n1,n2⟩:=ZiT hs ys zs.toList (srtP ps.toList) 0 hc hg
   have hsz:zs.size=fs.size:=hn.symm
   have hpl:∀ i,i < fs.size→(fun x=>(((List.range fs.toList.length).map fun i=>(i,1)).toArray)[x]?) i=some (i,1):=by intro i hi;simp [hi]
   have hprm:=ZhP ps.toList
   rw [List.nil_append,List.nil_append,Zf9 (n:=fs.size) hpl (srtP ps.toList) _ (by simpa using hsz) (fun p hp=>by obtain ⟨_,b,c⟩:=n2 p hp;exact ⟨by simpa [hsz] using b,c⟩),ZlE hprm n1,
    ← Zf9 (n:=fs.size) hpl ps.toList _ (by simpa using hsz) (fun p hp=>by obtain ⟨_,b,c⟩:=n2 p (hprm.mem_iff.2 hp);exact ⟨by simpa [hsz] using b,c⟩)] at h1
   refine Res.pure (v:=.agg vs.toArray) hI hp ?_ (by simp only [SV];exact ⟨vs,rfl,h2⟩)
   have hb:P.built t (ps.map fun (i,x)=>(i,ρ x)).toList=some vs.toArray:=by
    unfold Program.built
    simp only [hi,ht,hz,Zla hfs]
    simpa [Value.cells] using h1
   simp only [execOp,ho]
   simp [run_build w t _ _ hb,go_sem]
 · cases h
end
end Go.Vm
namespace Go.Vm
open Go
set_option linter.unusedVariables false
set_option linter.unusedSimpArgs false
section
variable {P:Program} {g:G} {Y:Nat→Prop} {M:Mem} {w:World} {s:Nat→AV} {ρ:Operand→Value} {o:Oper} {nb ib:Nat} {av:AV} {M':Mem}
def G.clear (g:G):G:={ g with P:=fun _=>False,PB:=fun _=>False }
theorem Inv.clear (hI:Inv g Y M w):Inv g.clear Y M w∧Stp g M w g.clear M w :=
 Inv.sub hI (fun _ _ h=>h) rfl (fun _ h=>h.elim) (fun _ h=>h.elim) (fun _ h=>h.elim) (fun _ h=>h.elim) (Nat.le_refl _) (Nat.le_refl _)
theorem Zg7 {x:AV} {v:Value} (hI:Inv g Y M w) (h:SV g Y M w x v):SV g.clear Y M w x v:=SV.stp hI.clear.2 x v h
theorem Res.fin {v:Value} {w':World} {g':G} (hr:(execOp ρ o).run P w=.ok (.value v) w'∨((execOp ρ o).run P w=.ok .skip w'∧v=undef))
 (hI:Inv g' Y M' w') (hS:Stp g M w g' M' w') (hv:SV g' Y M' w' av v) (hu:∀ id,g'.U id→g.U id∨(ib≤id∧id < ib+64)):Res P o ρ g Y M w ib av M' :=
 ⟨v,w',g'.clear,hr,hI.clear.1,hS.trans hI.clear.2,Zg7 hI hv,hu,fun _ h=>h⟩
structure Nw (g:G) (Y:Nat→Prop) (M:Mem) (w:World) (g':G) (M':Mem) (w':World) (id:Nat):Prop where
 inv:Inv g' Y M' w'
 stp:Stp g M w g' M' w'
 u:∀ i,g'.U i→g.U i∨i=id
theorem ZfR {w w':World} {ob:Go.Obj} (h:w'.heap=w.heap.push ob):w.heap.size < w'.heap.size∧(∀ b,b < w.heap.size→w'.heap[b]? = w.heap[b]?)∧w'.heap[w.heap.size]? = some ob:=by
 refine ⟨by rw [h];simp,fun b hb=>?_,by rw [h];simp⟩
 rw [h,Array.getElem?_push]
 simp [show ¬ b=w.heap.size by omega]
theorem ZfL (hI:Inv g Y M w) {w':World} (hio:IOk w w') {cs:Array Value} {E:TypeId} {l id sz bs:Nat} {own:Bool} {xs:List D} {vs rest:List Value} {F:List Nat} (hid:¬ g.U id)
 (hw:w'.heap=w.heap.push (.cells cs E (0,0))) (hcs:cs.toList=vs++rest) (hbs:bs≤cs.size) (hF:∀ b∈F,g.P b) (hn:F.Nodup) (ht:TE (XA g Y M) own w sz xs vs F) :
 ∃ g',Nw g Y M w g' (M.set l (some (.arr id own sz xs))) w' id∧g'.U id∧g'.AD id=⟨w.heap.size,0,none⟩∧g'.SZ id=sz∧g'.BS id=bs∧¬ g'.VR id∧(∀ b,g'.P b→g.P b∧b ∉ F):=by
 obtain ⟨q1,q2,q3⟩:=ZfR hw
 obtain ⟨i1,s1⟩:=hI.world hio (w':=w') (N:=[w.heap.size]) (Nat.le_of_lt q1) (fun b hb _=>q2 b hb) (by intro b hb;simp at hb;subst hb;exact ⟨Nat.le_refl _,q1⟩)
 have hnP:∀ b∈F,b < w.heap.size:=fun b hb=>(hI.lt b (.inl (hF b hb))).1
 have ht1:TE (XA (g.pend [w.heap.size] fun _=>True) Y M) own w' sz xs vs F :=
  TE.stable xs vs F ht ⟨s1.size,s1.sameA.out,fun b hb _=>q2 b hb⟩
 have hcl:CL w' (⟨w.heap.size,0,none⟩:Addr) vs:=by
  intro k v hk
  have hkk:cs.toList[k]? = some v:=by rw [hcs,List.getElem?_append_left (List.getElem?_eq_some_iff.1 hk).1];exact hk
  have hadd:(⟨w.heap.size,0,none⟩:Addr).add k=⟨w.heap.size,k,none⟩:=by unfold Addr.add;split<;>simp_all
  rw [hadd]
  simp only [World.cell?,q3]
  simpa using hkk
 obtain ⟨i2,s2⟩:=i1.addArr (l:=l) (id:=id) (sz:=sz) (bs:=bs) (ad:=⟨w.heap.size,0,none⟩) (own:=own) (xs:=xs) (vs:=vs) (F:=F) hid rfl
  (by intro b hb;rcases List.mem_cons.1 hb with rfl|hb
      · exact .inr (List.mem_singleton.2 rfl)
      · exact .inl (hF b hb))
  (.inr ⟨List.mem_singleton.2 rfl,trivial⟩)
  (List.nodup_cons.2 ⟨fun h=>Nat.lt_irrefl _ (hnP _ h),hn⟩)
  ⟨cs,E,q3,.inr (by simpa using hbs)⟩ hcl ht1
 refine ⟨_,⟨i2,s1.trans s2,fun i h=>h⟩,.inr rfl,by simp [G.add,upd],by simp [G.add,upd],by simp [G.add,upd],by simp [G.add],fun b h=>?_⟩
 obtain ⟨h1,h2⟩:=h
 rcases h1 with h1|h1
 · exact ⟨h1,fun k=>h2 (List.mem_cons_of_mem _ k)⟩
 · simp at h1;exact absurd (List.mem_cons.2 (.inl h1)) h2
theorem Zpq (hI:Inv g Y M w) {w':World} (hio:IOk w w') {E:TypeId} {l id:Nat} {x:AV} {v:Value} (hid:¬ g.U id)
 (hw:w'.heap=w.heap.push (.cells v.cells E (0,0))) (hx:isBad x=false) (hv:SV g Y M w x v) :
 ∃ g',Nw g Y M w g' (M.set l (some (.box id x))) w' id∧g'.U id∧g'.AD id=⟨w.heap.size,0,none⟩∧¬ g'.VR id∧(∀ b,g'.P b→g.P b):=by
 obtain ⟨q1,q2,q3⟩:=ZfR hw
 obtain ⟨i1,s1⟩:=hI.world hio (w':=w') (N:=[w.heap.size]) (Nat.le_of_lt q1) (fun b hb _=>q2 b hb) (by intro b hb;simp at hb;subst hb;exact ⟨Nat.le_refl _,q1⟩)
 have hcl:CL w' (⟨w.heap.size,0,none⟩:Addr) v.cells.toList:=by
  intro k u hk
  have hadd:(⟨w.heap.size,0,none⟩:Addr).add k=⟨w.heap.size,k,none⟩:=by unfold Addr.add;split<;>simp_all
  rw [hadd]
  simp only [World.cell?,q3]
  simpa using hk
 obtain ⟨i2,s2⟩:=i1.addBox (l:=l) (id:=id) (sz:=0) (bs:=0) (ad:=⟨w.heap.size,0,none⟩) (x:=x) (v:=v) hid rfl
  (.inr (List.mem_singleton.2 rfl)) (.inr ⟨List.mem_singleton.2 rfl,trivial⟩) hx ⟨v.cells,E,q3,.inr (by simp)⟩ hcl (SV.stp s1 x v hv)
 refine ⟨_,⟨i2,s1.trans s2,fun i h=>h⟩,.inr rfl,by simp [G.add,upd],by simp [G.add],fun b h=>?_⟩
 obtain ⟨h1,h2⟩:=h
 rcases h1 with h1|h1
 · exact h1
 · simp at h1;exact absurd (List.mem_singleton.2 h1) h2
theorem Zme {x:X} {v:Value} {E:TypeId} (hrun:(execOp ρ o).run P w=.ok (.value (.pointer (some ⟨w.heap.size,0,none⟩))) { w with heap:=w.heap.push (.cells v.cells E (0,0)) })
 (hv:SV g Y M w (x.ev s) v) (hid:∀ k,k < 64→¬ g.U (ib+k)) (hI:Inv g Y M w) (hp:∀ b,¬ g.P b) (h:stp s M nb ib (.box x)=some (av,M')):Res P o ρ g Y M w ib av M':=by
 simp only [stp] at h
 split at h
 · cases h
 · rename_i hb
   cases h
   obtain ⟨g',hn,k1,k2,k3,k4⟩:=Zpq (l:=nb) (x:=x.ev s) hI ⟨rfl,rfl,rfl,Rows.push rfl⟩ (hid 0 (by omega)) (w':={ w with heap:=w.heap.push (.cells v.cells E (0,0)) }) rfl (by simpa using hb) hv
   refine ⟨_,_,g',.inl hrun,hn.inv,hn.stp,?_,fun i hi=>?_,fun b hb=>hp b (k4 b hb)⟩
   · simp only [SV]
     refine ⟨by simpa using k1,by simpa using k3,?_⟩
     simp only [Nat.add_zero] at k2
     rw [k2]
     simp [Addr.add]
   · rcases hn.u i hi with h|h
     · exact .inl h
     · exact .inr (by omega)
theorem ZnO {E:TypeId} {x:Operand} {y:X} (ho:o.op=.box E x) (hc:chkX x y=true) (hid:∀ k,k < 64→¬ g.U (ib+k)) (hI:Inv g Y M w) (hp:∀ b,¬ g.P b) (hs:Slots g Y M w s ρ)
 (h:stp s M nb ib (.box y)=some (av,M')):Res P o ρ g Y M w ib av M':=by
 refine Zme (v:=ρ x) (E:=E) ?_ (Zaq hs hc) hid hI hp h
 simp [execOp,ho,Instr.box,newVar,newRow,newObj,Sem.run,go_sem]
theorem Zls {E:TypeId} {a:AV} (ho:o.op=.alloc E) (hz:zeroT P E a=true) (hid:∀ k,k < 64→¬ g.U (ib+k)) (hI:Inv g Y M w) (hp:∀ b,¬ g.P b)
 (h:stp s M nb ib (.box (.k a))=some (av,M')):Res P o ρ g Y M w ib av M':=by
 unfold zeroT at hz
 split at hz
 · rename_i i hi
   split at hz
   · rename_i z hzz
     refine Zme (x:=.k a) (v:=z) (E:=E) ?_ (ZoS hz) hid hI hp h
     simp [execOp,ho,Instr.alloc,zeroValue,ZhC hi,hzz,newVar,newRow,newObj,Sem.run,go_sem]
   · cases hz
 · cases hz
theorem TE.rep {X:Nat→Prop} {sz:Nat} {z:D} {us:List Value} (ht:TC X true w z us []) (hz:z.size=sz) (ho:∀ u∈us,u.oneCell'=true):∀ n,TE X true w sz (List.replicate n z) (List.replicate n us).flatten []
 | 0=>by simp only [List.replicate,TE,List.flatten_nil];exact ⟨trivial,trivial⟩
 | n+1=>by
  rw [List.replicate_succ,List.replicate_succ,List.flatten_cons,Za8]
  exact ⟨us,_,[],[],rfl,⟨by rw [ht.len,hz],ho⟩,rfl,ht,TE.rep ht hz ho n⟩
theorem ZiB {X:Nat→Prop}:∀ {ds:List D} {vs:List Value},isVL (ds.map fun d=>match d with|.sl sz []=>AV.nil sz|d=>.dat none d) vs=true→TL X true w ds vs []∧∀ u∈vs,u.oneCell'=true
 | [],[],_=>by simp only [TL];simp
 | [],_::_,h=>by simp [isVL] at h
 | d::ds,[],h=>by simp [isVL] at h
 | d::ds,v::vs,h=>by
  simp only [List.map_cons,isVL,Bool.and_eq_true] at h
  obtain ⟨h1,h2⟩:=ZiB (X:=X) h.2
  have key:TV X true w d v []∧v.oneCell'=true:=by
   have h0:=h.1
   split at h0
   · cases v with
     | slice a l c=>cases a<;>cases l<;>cases c<;>simp [isV1] at h0;exact ⟨by simp only [TV];exact .inl ⟨trivial,.inl rfl,trivial⟩,rfl⟩
     | _=>simp [isV1] at h0
   · simp only [isV1] at h0
     refine ⟨Zi1 h0,?_⟩
     cases d<;>cases v<;>simp [isVD] at h0<;>rfl
  simp only [TL]
  refine ⟨⟨v,vs,[],[],rfl,rfl,key.1,h1⟩,fun u hu=>?_⟩
  rcases List.mem_cons.1 hu with rfl|hu
  · exact key.2
  · exact h2 u hu
theorem Zhk {X:Nat→Prop} {t:TypeId} {z:D} (h:zeroD P t z=true):∃ i v,P.info? t=some i∧i.zero=some v∧TC X true w z v.cells.toList []∧∀ u∈v.cells.toList,u.oneCell'=true:=by
 unfold zeroD at h
 split at h
 · rename_i i hi
   split at h
   · rename_i v hv
     refine ⟨i,v,hi,hv,?_⟩
     split at h
     · simp only [Value.cells]
       exact ⟨⟨_,rfl,by simp only [TV];exact .inl ⟨trivial,.inl rfl,trivial⟩⟩,by simp [Value.oneCell']⟩
     · rename_i ds vs
       obtain ⟨h1,h2⟩:=ZiB (w:=w) (X:=X) h
       exact ⟨by simpa [TC,Value.cells] using h1,by simpa [Value.cells] using h2⟩
     · have ht:=Zi1 (X:=X) (o:=true) (w:=w) h
       refine ⟨TC.of ht,?_⟩
       clear ht hv
       cases z<;>cases v<;>simp [isVD] at h<;>simp [Value.cells,Value.oneCell']
   · cases h
 · cases h
theorem ZeM (z:Array Value) {sz:Nat} (hz:z.size=sz) (h0:0 < sz):∀ n,((Array.range (n * sz)).map (z[· % z.size]!)).toList=(List.replicate n z.toList).flatten
 | 0=>by simp
 | n+1=>by
  rw [List.replicate_succ',List.flatten_append,← ZeM z hz h0 n]
  simp only [Array.toList_map,Array.toList_range,Nat.add_mul,Nat.one_mul,List.range_add,List.map_append,List.map_map,List.flatten_cons,List.flatten_nil,List.append_nil]
  congr 1
  apply List.ext_getElem
  · simp [hz]
  · intro k h1 h2
    simp at h1
    simp [hz,Nat.mul_add_mod_of_lt h1,Nat.add_comm,h1,Nat.mod_eq_of_lt h1]
theorem Zph {t:TypeId} {l c:Operand} {l' c':X} {sz bytes:Nat} {z:D} (ho:o.op=.makeSlice t l c) (h1:chkX l l'=true) (h2:chkX c c'=true) (ht:isSlT P t=true) (hsz:szT P (elT P t) sz=true)
 (hby:byT P (elT P t) bytes=true) (hb0:0 < bytes) (hs0:0 < sz) (hz:zeroD P (elT P t) z=true) (hid:∀ k,k < 64→¬ g.U (ib+k)) (hI:Inv g Y M w) (hp:∀ b,¬ g.P b) (hs:Slots g Y M w s ρ)
 (h:stp s M nb ib (.mks sz bytes z l' c')=some (av,M')):Res P o ρ g Y M w ib av M':=by
 simp only [stp] at h
 cases hl:asI (l'.ev s) with
 | none=>rw [hl] at h;cases h
 | some ln =>
  cases hc:asI (c'.ev s) with
  | none=>rw [hl,hc] at h;cases h
  | some cn =>
   rw [hl,hc] at h
   simp only at h
   split at h
   · rename_i hcond
     obtain ⟨a0,a1,a2,a3⟩:=hcond
     cases h
     obtain ⟨kl,hlv⟩:=ZgQ (Zaq hs h1) hl
     obtain ⟨kc,hcv⟩:=ZgQ (Zaq hs h2) hc
     obtain ⟨i,v,hi,hv,htc,hone⟩:=Zhk (X:=XA g Y M) (w:=w) hz
     obtain ⟨i2,hi2,hi3⟩:=Zbz hsz
     obtain ⟨i4,hi4,hi5⟩:=Zhs hby
     rw [hi] at hi2 hi4
     cases hi2
     cases hi4
     have hvs:v.cells.size=sz:=by have:=htc.len;simp at this;omega
     have hcb:cn≤70368744177664:=by
      have:cn * 1≤cn * bytes:=Int.mul_le_mul_of_nonneg_left (by omega) (by omega)
      omega
     have hwl:IntKind.i64.wrap ln=ln:=by simp [IntKind.wrap,IntKind.signed,IntKind.bits,Int.bmod];omega
     have hwc:IntKind.i64.wrap cn=cn:=by simp [IntKind.wrap,IntKind.signed,IntKind.bits,Int.bmod];omega
     let cells:Array Value:=(Array.range (cn.toNat * sz)).map (v.cells[· % v.cells.size]!)
     have h6:=run_make (P:=P) w t (elT P t) i v (slT ht) hi hv kl kc ln cn a0 a1 (by rw [hi5,Int.mul_comm];omega) (by omega)
     have hrun:∃ w',(execOp ρ o).run P w=.ok (.value (.slice (some ⟨w.heap.size,0,none⟩) ln.toNat cn.toNat)) w'∧w'.heap=w.heap.push (.cells cells (elT P t) (0,0))∧IOk w w':=by
      rw [hi3] at h6
      refine ⟨w.alloc (.cells (madeCells v.cells (cn.toNat * sz)) (elT P t)),?_,rfl,rfl,rfl,rfl,Rows.push rfl⟩
      simp only [execOp,ho,hlv,hcv,Sem.run_bind,h6,Result.andThen_ok]
      rfl
     obtain ⟨w',hr1,hr2,hio⟩:=hrun
     have hcells:cells.toList=(List.replicate ln.toNat v.cells.toList).flatten++(List.replicate (cn.toNat - ln.toNat) v.cells.toList).flatten:=by
      rw [← List.flatten_append,List.replicate_append_replicate,show ln.toNat+(cn.toNat - ln.toNat)=cn.toNat by omega]
      simp only [cells]
      rw [← ZeM v.cells hvs hs0 cn.toNat]
     obtain ⟨g',hn,k1,k2,k3,k4,k5,k6⟩:=ZfL (l:=nb) (id:=ib) (sz:=sz) (bs:=cn.toNat * sz) (own:=true) (F:=[]) hI hio (by simpa using hid 0 (by omega)) hr2 hcells (by simp [cells]) (by simp) (by simp)
      (TE.rep htc a3 hone ln.toNat)
     refine ⟨_,w',g',.inl hr1,hn.inv,hn.stp,?_,fun i hi=>?_,fun b hb=>hp b (k6 b hb).1⟩
     · simp only [SV]
       exact ⟨k1,k3,.inr ⟨k5,_,_,rfl,rfl,by rw [k2],by omega,.inr (by rw [k2];simp [Addr.add]),by rw [k4];omega⟩⟩
     · rcases hn.u i hi with h|h
       · exact .inl h
       · exact .inr (by omega)
   · cases h
end
end Go.Vm
namespace Go.Vm
open Go
set_option linter.unusedVariables false
set_option linter.unusedSimpArgs false
section
variable {P:Program} {g:G} {Y:Nat→Prop} {M:Mem} {w:World} {s:Nat→AV} {ρ:Operand→Value} {o:Oper} {nb ib:Nat} {av:AV} {M':Mem}
theorem Zj9 (hs:Slots g Y M w s ρ):∀ {ps:List (Nat×Operand)} {ys:List X} {k:Nat},chkParts k ps ys=true →
 SVL g Y M w (ys.map (X.ev s)) (ps.map fun p=>ρ p.2)∧ps.map (fun (i,x)=>(i,ρ x))=((ps.map fun p=>ρ p.2).zipIdx k).map fun (v,i)=>(i,v)
 | [],[],k,_=>by simp [SVL]
 | [],y::ys,k,h=>by simp [chkParts] at h
 | p::ps,[],k,h=>by simp [chkParts] at h
 | (i,x)::ps,y::ys,k,h=>by
  simp only [chkParts,Bool.and_eq_true,beq_iff_eq] at h
  obtain ⟨⟨rfl,h1⟩,h2⟩:=h
  obtain ⟨k1,k2⟩:=Zj9 hs h2
  refine ⟨by simp only [List.map_cons,SVL];exact ⟨_,_,rfl,Zaq hs h1,k1⟩,?_⟩
  simp only [List.map_cons,List.zipIdx_cons]
  rw [k2]
theorem Zg0 {sz:Nat}:∀ (vs:List Value) (k:Nat) (pre rest:List Value),(∀ v∈vs,v.cells.size=sz)→pre.length=k * sz→rest.length=vs.length * sz →
 Instr.fill (fun i=>some (i * sz,sz)) (pre++rest).toArray ((vs.zipIdx k).map fun (v,i)=>(i,v))=some (pre++(vs.map fun v=>v.cells.toList).flatten).toArray
 | [],k,pre,rest,_,_,hr=>by
  have:rest=[]:=List.eq_nil_of_length_eq_zero (by simpa using hr)
  subst this
  simp [Instr.fill]
 | v::vs,k,pre,rest,hv,hp,hr=>by
  have hv0:=hv v List.mem_cons_self
  have hrl:sz≤rest.length:=by rw [hr,List.length_cons,Nat.add_mul];omega
  simp only [List.zipIdx_cons,List.map_cons,Instr.fill]
  rw [if_neg (by simp [hv0,hp];omega)]
  have key:v.cells.zipIdx.foldl (fun cs x=>cs.setIfInBounds (k * sz+x.2) x.1) (pre++rest).toArray=(pre++v.cells.toList++rest.drop sz).toArray:=by
   have main:∀ (us:List Value) (j:Nat) (done rest:List Value),us.length≤rest.length→done.length=j →
    (us.zipIdx j).foldl (fun (cs:Array Value) x=>cs.setIfInBounds (k * sz+x.2) x.1) (pre++done++rest).toArray=(pre++done++us++rest.drop us.length).toArray:=by
    intro us
    induction us with
    | nil=>intro j done rest _ _;simp
    | cons u us ih =>
     intro j done rest hl hd
     cases rest with
     | nil=>simp at hl
     | cons r rest =>
      simp only [List.zipIdx_cons,List.foldl_cons]
      have:(pre++done++r::rest).toArray.setIfInBounds (k * sz+j) u=(pre++(done++[u])++rest).toArray:=by
       simp [← hp,← hd,List.set_append]
      rw [this,ih (j+1) (done++[u]) rest (by simpa using hl) (by simp [hd])]
      simp
   have:=main v.cells.toList 0 [] rest (by simpa [hv0] using hrl) rfl
   rw [← Array.foldl_toList]
   simpa [Array.toList_zipIdx,hv0] using this
  rw [key,Zg0 vs (k+1) (pre++v.cells.toList) (rest.drop sz) (fun v h=>hv v (List.mem_cons_of_mem _ h)) (by simp [hp,hv0,Nat.add_mul]) (by simp [hr,Nat.add_mul])]
  simp
theorem TE.ofTL {X:Nat→Prop} {o:Bool} {sz:Nat}:∀ {ds:List D} {vs:List Value} {F:List Nat},TL X o w ds vs F→ds.all (fun d=>d.size == sz)=true→(∀ v∈vs,∀ u∈v.cells.toList,u.oneCell'=true) →
 TE X o w sz ds (vs.map fun v=>v.cells.toList).flatten F
 | [],vs,F,h,_,_=>by simp only [TL] at h;rw [h.1,h.2];simp only [List.map_nil,List.flatten_nil,TE];exact ⟨trivial,trivial⟩
 | d::ds,vs,F,h,hd,ho=>by
  simp only [TL] at h
  obtain ⟨u,us,F1,F2,rfl,rfl,h2,h3⟩:=h
  simp only [List.all_cons,Bool.and_eq_true,beq_iff_eq] at hd
  rw [List.map_cons,List.flatten_cons,Za8]
  have htc:=TC.of h2
  exact ⟨_,_,F1,F2,rfl,⟨by rw [htc.len,hd.1],ho u List.mem_cons_self⟩,rfl,htc,TE.ofTL h3 hd.2 (fun v hv=>ho v (List.mem_cons_of_mem _ hv))⟩
theorem Zjj (d:D):(slD d).size=d.size:=by cases d<;>simp [slD,sl1,D.size]
theorem ZlI {d:D} (h:hasRs1 d=false):sl1 d=d:=by cases d<;>simp [hasRs1] at h<;>rfl
theorem TV.cool_sl1 {X X':Nat→Prop} {o:Bool} {d:D} {v:Value} {F:List Nat} (h:TV X o w d v F) (k:Cool w X X' F):TV X' false w (sl1 d) v []:=by
 cases d with
 | rs sz xs =>
  have h2:=h.sl_rs
  have h3:=h2.2
  exact TV.cool (.sl sz xs) v [] h3 (k.sub (by simp))
 | _=>exact TV.cool _ _ _ h k
theorem TL.cool_sl1 {X X':Nat→Prop} {o:Bool}:∀ {fs:List D} {vs:List Value} {F:List Nat},TL X o w fs vs F→Cool w X X' F→TL X' false w (fs.map sl1) vs []
 | [],vs,F,h,_=>by simp only [TL] at h;simp only [List.map_nil,TL];exact ⟨h.1,trivial⟩
 | x::xs,vs,F,h,k=>by
  simp only [TL] at h
  obtain ⟨u,us,F1,F2,rfl,rfl,h2,h3⟩:=h
  simp only [List.map_cons,TL]
  exact ⟨u,us,[],[],rfl,rfl,TV.cool_sl1 h2 (k.sub fun _=>List.mem_append_left _),TL.cool_sl1 h3 (k.sub fun _=>List.mem_append_right _)⟩
theorem TV.cool_slD {X X':Nat→Prop} {o:Bool} {d:D} {v:Value} {F:List Nat} (h:TV X o w d v F) (k:Cool w X X' F):TV X' false w (slD d) v []:=by
 cases d with
 | agg fs=>simp only [slD,TV] at h ⊢;obtain ⟨vs,h1,h2⟩:=h;exact ⟨vs,h1,TL.cool_sl1 h2 k⟩
 | tup fs=>simp only [slD,TV] at h ⊢;obtain ⟨vs,h1,h2⟩:=h;exact ⟨vs,h1,TL.cool_sl1 h2 k⟩
 | _=>exact TV.cool_sl1 h k
theorem TL.cool_slD {X X':Nat→Prop} {o:Bool}:∀ {fs:List D} {vs:List Value} {F:List Nat},TL X o w fs vs F→Cool w X X' F→TL X' false w (fs.map slD) vs []
 | [],vs,F,h,_=>by simp only [TL] at h;simp only [List.map_nil,TL];exact ⟨h.1,trivial⟩
 | x::xs,vs,F,h,k=>by
  simp only [TL] at h
  obtain ⟨u,us,F1,F2,rfl,rfl,h2,h3⟩:=h
  simp only [List.map_cons,TL]
  exact ⟨u,us,[],[],rfl,rfl,TV.cool_slD h2 (k.sub fun _=>List.mem_append_left _),TL.cool_slD h3 (k.sub fun _=>List.mem_append_right _)⟩
theorem Zku {d:D} (h:hasRs d=false):slD d=d:=by
 have ml:∀ fs:List D,fs.any hasRs1=false→fs.map sl1=fs:=by
  intro fs hf
  conv=>rhs;rw [← List.map_id fs]
  refine List.map_congr_left fun x hx=>?_
  have:=List.any_eq_false.1 hf x hx
  exact ZlI (by simpa using this)
 cases d with
 | agg fs=>simp only [hasRs] at h;simp only [slD,ml fs h]
 | tup fs =>
  simp only [hasRs] at h
  simp only [slD]
  congr 1
  conv=>rhs;rw [← List.map_id fs]
  refine List.map_congr_left fun x hx=>?_
  have:=List.any_eq_false.1 h x hx
  cases x<;>simp [hasRs1] at this<;>rfl
 | rs sz xs=>simp [hasRs,hasRs1] at h
 | _=>rfl
theorem ZlN {sz:Nat}:∀ {xs:List AV} {vs:List Value},SVL g Y M w xs vs→xs.all (fun a=>okA M a&&a.size == sz)=true→∀ v∈vs,(∀ u∈v.cells.toList,u.oneCell'=true)∧v.cells.size=sz
 | [],vs,h,_=>by simp only [SVL] at h;subst h;simp
 | x::xs,vs,h,ha=>by
  simp only [List.all_cons,Bool.and_eq_true,beq_iff_eq] at ha
  simp only [SVL] at h
  obtain ⟨u,us,rfl,h2,h3⟩:=h
  intro v hv
  rcases List.mem_cons.1 hv with rfl|hv
  · have:=ZpT h2 ha.1.1
    exact ⟨this.1,by rw [this.2,ha.1.2]⟩
  · exact ZlN h3 ha.2 v hv
theorem Zgf (w:World) (t e:TypeId) (len:Nat) (parts:Array (Nat×Value)) (cells:Array Value) (ie:TypeInfo)
 (hu:P.underlying t=some (.slice e)) (hie:P.info? e=some ie) (hz:len * ie.size=0)
 (h:Instr.fill (fun i=>some (i * ie.size,ie.size)) #[] parts.toList=some cells) :
 (Instr.buildSlice t len parts).run P w=.ok (.slice (some ⟨w.heap.size,0,none⟩) len len) (w.alloc (.cells cells e)):=by
 simp [Instr.buildSlice,run_underlying hu,sizeOf,typeInfo,hie,hz,h,newRow,Array.range_zero']
theorem Zpv {t:TypeId} {n sz:Nat} {ps:Array (Nat×Operand)} {fr:Bool} {ys:List X} (ho:o.op=.buildSlice t n ps) (ht:isSlT P t=true) (hsz:szT P (elT P t) sz=true) (hn:n=ys.length)
 (hlim:n * sz≤16777216) (hz:n * sz=0∨∃ i z,P.info? (elT P t)=some i∧i.zero=some z) (hc:chkParts 0 ps.toList ys=true)
 (hid:∀ k,k < 64→¬ g.U (ib+k)) (hI:Inv g Y M w) (hp:∀ b,¬ g.P b) (hs:Slots g Y M w s ρ) (h:stp s M nb ib (.bsl fr sz ys)=some (av,M')):Res P o ρ g Y M w ib av M':=by
 simp only [stp] at h
 obtain ⟨i,hi,hi1⟩:=Zbz hsz
 obtain ⟨hsv,hparts⟩:=Zj9 hs hc
 cases htk:takL (tak 8) (ys.map (X.ev s)) M with
 | none=>rw [htk] at h;cases h
 | some p =>
  obtain ⟨ds,M1⟩:=p
  rw [htk] at h
  simp only at h
  split at h
  case isFalse=>cases h
  rename_i hcond
  simp only [Bool.and_eq_true] at hcond
  obtain ⟨hok,hds⟩:=hcond
  have hcells:=ZlN hsv hok
  obtain ⟨g1,F,tk,htl⟩:=Zc6 (ZbF 8) hI hsv htk
  have hvl:(ps.toList.map fun p=>ρ p.2).length=n:=by rw [hsv.length];simp [hn]
  have hdl:ds.length=n:=by rw [← TL.len htl,hvl]
  let cells:Array Value:=(((ps.toList.map fun p=>ρ p.2).map fun v=>v.cells.toList).flatten).toArray
  have hrun:∃ w',(execOp ρ o).run P w=.ok (.value (.slice (some ⟨w.heap.size,0,none⟩) n n)) w'∧w'.heap=w.heap.push (.cells cells (elT P t) (0,0))∧IOk w w':=by
   refine ⟨w.alloc (.cells cells (elT P t)),?_,rfl,rfl,rfl,rfl,Rows.push rfl⟩
   have hfill:∀ rest:List Value,rest.length=n * sz→Instr.fill (fun i=>some (i * sz,sz)) rest.toArray (ps.map fun (i,x)=>(i,ρ x)).toList=some cells:=by
    intro rest hr
    have:=Zg0 (sz:=sz) (ps.toList.map fun p=>ρ p.2) 0 [] rest (fun v hv=>(hcells v hv).2) (by simp) (by rw [hvl];exact hr)
    rw [Array.toList_map,hparts]
    simpa [cells] using this
   by_cases h0:n * sz=0
   · have:=Zgf (P:=P) w t (elT P t) n (ps.map fun (i,x)=>(i,ρ x)) cells i (slT ht) hi (by rw [hi1];exact h0) (by rw [hi1];exact hfill [] (by simp [h0]))
     simp only [execOp,ho]
     simp only [Sem.run_bind,this,Result.andThen_ok]
     rfl
   · rcases hz with hz|⟨i',z,hi',hz⟩
     · exact absurd hz h0
     · rw [hi] at hi'
       cases hi'
       have:=run_buildSlice (P:=P) w t (elT P t) n (ps.map fun (i,x)=>(i,ρ x)) cells i z (slT ht) hi hz (by rw [hi1];omega) (by rw [hi1];exact h0)
        (by rw [hi1];have hf:=hfill ((Array.range (n * sz)).map (z.cells[· % z.cells.size]!)).toList (by simp);rw [Array.toArray_toList] at hf;exact hf)
       simp only [execOp,ho]
       simp only [Sem.run_bind,this,Result.andThen_ok]
       rfl
  obtain ⟨w',hr1,hr2,hio⟩:=hrun
  have htl2:TL (XA g1 Y M1) true w ds (ps.toList.map fun p=>ρ p.2) F:=htl
  have hsz2:ds.all (fun d=>d.size == sz)=true:=hds
  have hone:∀ v∈ps.toList.map (fun p=>ρ p.2),∀ u∈v.cells.toList,u.oneCell'=true:=fun v hv=>(hcells v hv).1
  have hgu:g1.U=g.U:=by rw [tk.gh]
  cases fr with
  | true =>
   simp only [if_true] at h
   split at h
   · rename_i hall
     cases h
     obtain ⟨q1,q2,q3⟩:=ZfR hr2
     obtain ⟨i1,s1⟩:=tk.inv.world hio (w':=w') (N:=[]) (Nat.le_of_lt q1) (fun b hb _=>q2 b hb) (by simp)
     have hnXA:∀ (g':G),g'.FP=g1.FP→(∀ b,g'.P b→g1.P b)→¬ XA g' Y M' w.heap.size:=by
      intro g' hfp hpp hx
      rcases hx with hx|hx|⟨l,o',m1,m2⟩
      · exact Nat.lt_irrefl _ (tk.inv.y _ hx)
      · exact Nat.lt_irrefl _ (tk.inv.lt _ (.inl (hpp _ hx))).1
      · rw [hfp] at m2;exact Nat.lt_irrefl _ (tk.inv.lt _ (.inr ⟨l,o',m1,m2⟩)).1
     refine Res.fin (.inl hr1) i1 (tk.stp.trans s1) ?_ (fun id h=>.inl (by rw [← hgu];exact h))
     simp only [SV,TV]
     refine .inr ⟨_,n,cells.toList,by rw [hdl],rfl,by omega,q1,?_,.inr ⟨trivial,hnXA (g1.pend [] fun _=>True) rfl (fun b h=>h.elim (fun h=>h) (fun h=>by cases h)),?_⟩⟩
     · intro k v hk
       have hadd:(⟨w.heap.size,0,none⟩:Addr).add k=⟨w.heap.size,k,none⟩:=by unfold Addr.add;split<;>simp_all
       rw [hadd]
       simp only [World.cell?,q3]
       simpa using hk
     · have hsc:∀ (ds:List D) (vs:List Value) (F:List Nat),ds.all isSc=true→TL (XA g1 Y M') true w ds vs F→TL (XA (g1.pend [] fun _=>True) Y M') false w' ds vs []:=by
        intro ds
        induction ds with
        | nil=>intro vs F _ h;simp only [TL] at h ⊢;exact ⟨h.1,trivial⟩
        | cons d ds ih =>
         intro vs F ha h
         simp only [List.all_cons,Bool.and_eq_true] at ha
         simp only [TL] at h ⊢
         obtain ⟨u,us,F1,F2,e1,_,h2,h3⟩:=h
         exact ⟨u,us,[],[],e1,rfl,(TV.sc ha.1 h2).2,ih us F2 ha.2 h3⟩
       have:=TE.ofTL (hsc ds _ F hall htl2) hsz2 hone
       simpa [cells] using this
   · cases h
  | false =>
   simp only [Bool.false_eq_true,if_false] at h
   cases h
   have hid1:¬ g1.U ib:=by rw [hgu];simpa using hid 0 (by omega)
   cases hrs:ds.any hasRs with
   | false =>
    have hmap:ds.map slD=ds:=by
     conv=>rhs;rw [← List.map_id ds]
     exact List.map_congr_left fun x hx=>Zku (by simpa using List.any_eq_false.1 hrs x hx)
    rw [hmap]
    obtain ⟨g',hn',k1,k2,k3,k4,k5,k6⟩:=ZfL (l:=nb) (id:=ib) (sz:=sz) (bs:=n * sz) (own:=true) (rest:=[]) (F:=F) tk.inv hio hid1 hr2 (by simp [cells]) (by
     have:=(TE.ofTL htl2 hsz2 hone).len
     have hc:cells.size=n * sz:=by simp only [cells];simpa [hdl] using this
     omega) tk.inP tk.nd (TE.ofTL htl2 hsz2 hone)
    refine Res.fin (.inl hr1) hn'.inv (tk.stp.trans hn'.stp) ?_ (fun i hi=>?_)
    · simp only [SV]
      exact ⟨k1,k3,.inr ⟨k5,_,_,by rw [hdl],rfl,by rw [k2],by omega,.inr (by rw [k2];simp [Addr.add]),by rw [k4];omega⟩⟩
    · rcases hn'.u i hi with h|h
      · exact .inl (by rw [← hgu];exact h)
      · exact .inr (by omega)
   | true =>
    have hcl:=tk.inv.clear
    have hcool:Cool w (XA g1 Y M1) (XA g1.clear Y M1) F:=by
     refine ⟨fun b _ hb hx=>hb ?_,fun b hb hx=>?_⟩
     · rcases hx with hx|hx|hx
       · exact .inl hx
       · exact hx.elim
       · exact .inr (.inr hx)
     · rcases hx with hx|hx|⟨l,o',m1,m2⟩
       · exact (tk.inv.lt b (.inl (tk.inP b hb))).2 hx
       · exact hx
       · exact tk.inv.pd b (tk.inP b hb) l o' m1 m2
    have htl3:=TL.cool_slD htl2 hcool
    have hsz3:(ds.map slD).all (fun d=>d.size == sz)=true:=by
     rw [List.all_map]
     exact List.all_eq_true.2 fun x hx=>by simpa [Zjj] using List.all_eq_true.1 hsz2 x hx
    have hte:=TE.ofTL htl3 hsz3 hone
    obtain ⟨g',hn',k1,k2,k3,k4,k5,k6⟩:=ZfL (l:=nb) (id:=ib) (sz:=sz) (bs:=n * sz) (own:=false) (rest:=[]) (F:=[]) hcl.1 hio hid1 hr2 (by simp [cells]) (by
     have:=hte.len
     have hc:cells.size=n * sz:=by simp only [cells];simpa [hdl] using this
     omega) (by simp) (by simp) hte
    simp only [Bool.not_true]
    refine Res.fin (.inl hr1) hn'.inv (tk.stp.trans (hcl.2.trans hn'.stp)) ?_ (fun i hi=>?_)
    · simp only [SV]
      exact ⟨k1,k3,.inr ⟨k5,_,_,by rw [hdl],rfl,by rw [k2],by omega,.inr (by rw [k2];simp [Addr.add]),by rw [k4];omega⟩⟩
    · rcases hn'.u i hi with h|h
      · exact .inl (by rw [← hgu];exact h)
      · exact .inr (by omega)
end
end Go.Vm
