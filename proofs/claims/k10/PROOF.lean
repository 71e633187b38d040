import PyProof.Rows.All
import HandS.Base
import HandS.Call
import HandS.List
import HandS.Comp
import HandS.Exc
import HandS.ExcCtx
import HandS.Hot
import HandS.TryOnly
import HandS.ExcOwn
import HandS.ExcIs
import HandS.HotCalls
import HandS.Lambda
import HandS.Nested
import HandS.Iter
import HandS.Zip
import HandS.Walk
import HandS.Conv
import HandS.TupAny
import HandS.TupMul
import HandS.IsInst
import HandS.Wide
import HandS.Flow
import HandS.Style
import HandS.Defaults
import HandS.Text
import KE.DataEq
import HandS.Deep
import KE.DataAny
import KE.GoesMore
import HandS.HeadHook4
import HandS.EndTab
import HandS.HeadWalk
import HandS.Dict
import HandS.FStr
import HandS.ClsMeth
import PyProof.MakeMany
import HandS.Strs
import HandS.SetFor
import HandS.Sort
import KE.DatumOrd
import KE.SortData
import KE.SortLaws
import HandS.Ends
import HandS.HeadHook3
import KE.KOpsOwn
import HandS.Property
import HandS.Star
import KE.KCallOwn
import HandS.ExcField
import HandS.ExcInit
import HandS.ExcValue
import KE.KIsAll
import KE.DataFind
import KE.KRevSl
import KE.KDictZip
import KE.KItemsList
import HandS.More
import HandS.Words
import HandS.WordsExc
import HandS.Head0
import HandS.Head1
import HandS.Head2
import HandS.HeadEnd
import HandS.HeadHook1
import HandS.HeadHook2
import PySem.Challenge.RW_leanmarks_k10_pictures_written_and_read
set_option Elab.async false
set_option linter.all false
set_option maxRecDepth 100000
set_option maxHeartbeats 0
section
namespace PL
open PySem
inductive Val where
 | non|bl (b:Bool)|int (i:Int)|str (x:Str)
 | tup (l:List Val)|lst (l:List Val)
 | fn (i:Nat)|cell (i:Nat)
 | scr (ns:List Int)
 | err (c:Nat) (v:Option Int)
 deriving Inhabited
inductive Ex where
 | one (k:Nat) (caps:List Val)|many (l:List (Nat × List Val))
inductive Ar where
 | v (u:Val)|x (y:Ex)
inductive Cell where
 | lst (l:List Val)
 | dct (l:List (Str × Val))
 | obj (c:Nat) (l:List Val)
abbrev Ks:=List Cell
inductive R (α:Type) where
 | ok (a:α)|exc (c:Nat) (p:Val) (k:Ks)|bad
namespace R
def bind {α β:Type}(r:R α)(f:α→R β):R β:=match r with
 | .ok a=>f a
 | .exc c p k=>.exc c p k
 | .bad=>.bad
def ofO {α:Type}:Option α→R α
 | some a=>.ok a
 | none=>.bad
end R
inductive Slot where
 | val (v:Val)|own (l:List Val)|cls (l:List (Nat × List Nat))|ext (x:Ex)|pin
abbrev Rho:=List (Option Slot)
mutual
def Qzd:Val→Option PyData
 | .non=>some .none
 | .bl b=>some (.bool b)
 | .int i=>some (.int i)
 | .str x=>some (.str x)
 | .tup l=>(toDatas l).map .tuple
 | .lst l=>(toDatas l).map .list
 | _=>none
def toDatas:List Val→Option (List PyData)
 | []=>some []
 | v::vs=>match Qzd v,toDatas vs with
  | some d,some ds=>some (d::ds)
  | _,_=>none
end
mutual
def Val.eqb:Val→Val→Bool
 | .non,.non=>true
 | .bl a,.bl b=>a == b
 | .int a,.int b=>decide (a=b)
 | .str a,.str b=>decide (a=b)
 | .tup l,.tup m=>Val.eqbs l m
 | .lst l,.lst m=>Val.eqbs l m
 | .fn a,.fn b=>decide (a=b)
 | .cell a,.cell b=>decide (a=b)
 | .scr a,.scr b=>decide (a=b)
 | .err c v,.err d u=>decide (c=d)&&decide (v=u)
 | _,_=>false
def Val.eqbs:List Val→List Val→Bool
 | [],[]=>true
 | a::l,b::m=>Val.eqb a b&&Val.eqbs l m
 | _,_=>false
end
def eqD (a b:Val):Option Bool:=match Qzd a,Qzd b with
 | some d,some e=>if SeqAt.shaped d&&SeqAt.shaped e then some (PyData.eqv d e) else none
 | _,_=>none
def Qzh:Val→Bool
 | .non=>true | .bl _=>true | .int _=>true | .str _=>true
 | _=>false
def eqF:Val→Val→Bool
 | .non,.non=>true
 | .bl a,.bl b=>a == b
 | .bl a,.int b=>(if a then 1 else 0) == b
 | .int a,.bl b=>a == (if b then 1 else 0)
 | .int a,.int b=>a == b
 | .str a,.str b=>a == b
 | _,_=>false
@[irreducible] def BIG:Nat:=2^400000
def mulOk (i j:Int):Bool:=(decide (i.natAbs<2^64)||decide (j.natAbs<2^64))||(decide (i.natAbs<BIG)&&decide (j.natAbs<BIG))
def divOk (j:Int):Bool:=decide (0<j)&&decide (j.natAbs<2^9000)
def divNeg (j:Int):Bool:=decide (j<0)&&decide (j.natAbs<2^9000)
def divWide (i j:Int):Bool:=decide (0<j)&&decide (i.natAbs<2^4400*j.natAbs)
inductive Op where
 | add|sub|mul|fdiv|mod|pow
 deriving DecidableEq
inductive Cm where
 | eq|ne|lt|le|gt|ge|is_|isnot|in_|notin|inD
 deriving DecidableEq
abbrev LINE:Nat:=16777216
def opV:Op→Val→Val→Option Val
 | .add,.int i,.int j=>some (.int (i+j))
 | .add,.str x,.str y=>if x.length+y.length≤LINE then some (.str (x++y)) else none
 | .add,.tup x,.tup y=>if x.length+y.length≤LINE then some (.tup (x++y)) else none
 | .add,.lst x,.lst y=>if x.length+y.length≤LINE then some (.lst (x++y)) else none
 | .sub,.int i,.int j=>some (.int (i-j))
 | .mul,.int i,.int j=>if mulOk i j then some (.int (i*j)) else none
 | .mul,.lst x,.int j=>if decide (j<1000)&&decide (-1000<j)&&decide (x.length≤1000) then some (.lst (List.replicate j.toNat x).flatten) else none
 | .mul,.tup x,.int j=>if decide (1<j)&&decide (j<1000)&&decide (0<x.length)&&decide (x.length≤1000) then some (.tup (List.replicate j.toNat x).flatten) else none
 | .mul,.str x,.int j=>if decide (1<j)&&decide (j<1000)&&decide (0<x.length)&&decide (x.length≤1000) then some (.str ⟨(List.replicate j.toNat x.cps).foldl (· ++ ·) #[]⟩) else none
 | .fdiv,.int i,.int j=>if divOk j then some (.int (i/j)) else if divNeg j then some (.int (i.fdiv j)) else if divWide i j then some (.int (i/j)) else none
 | .mod,.int i,.int j=>if decide (0<j) then some (.int (i % j)) else none
 | .pow,.int i,.int j=>if decide (0≤j)&&decide (j≤1000)&&decide (i.natAbs<2^64) then some (.int (i^j.toNat)) else none
 | _,_,_=>none
def addL:Val→Val→Option Val
 | .lst x,.lst y=>if x.length+y.length≤LINE then some (.lst (x++y)) else none
 | _,_=>none
def mulL:Val→Val→Option Val
 | .lst x,.int j=>if decide (j<1000)&&decide (-1000<j)&&decide (x.length≤1000) then some (.lst (List.replicate j.toNat x).flatten) else none
 | _,_=>none
def isNonV:Val→Bool
 | .non=>true
 | _=>false
def cmV:Cm→Val→Val→Option Bool
 | .eq,a,b=>eqD a b
 | .ne,a,b=>(eqD a b).map (!·)
 | .lt,.int i,.int j=>some (decide (i<j))
 | .le,.int i,.int j=>some (decide (i≤j))
 | .gt,.int i,.int j=>some (decide (j<i))
 | .ge,.int i,.int j=>some (decide (j≤i))
 | .is_,a,.non=>some (isNonV a)
 | .isnot,a,.non=>some (!isNonV a)
 | .is_,.bl a,.bl b=>some (a == b)
 | .is_,.non,.bl _=>some false
 | .isnot,.bl a,.bl b=>some (a != b)
 | .in_,a,.lst l=>if Qzh a&&l.all Qzh then some (l.any fun y=>eqF y a) else none
 | .in_,a,.tup l=>if Qzh a&&l.all Qzh then some (l.any fun y=>eqF y a) else none
 | .notin,a,.lst l=>if Qzh a&&l.all Qzh then some (!l.any fun y=>eqF y a) else none
 | .notin,a,.tup l=>if Qzh a&&l.all Qzh then some (!l.any fun y=>eqF y a) else none
 | .inD,a,.lst l=>match Qzd a,toDatas l with
  | some d,some ds=>if SeqAt.shaped d&&SeqAt.shaped (.list ds) then some (ds.any fun z=>PyData.eqv z d) else none
  | _,_=>none
 | _,_,_=>none
def truV:Val→Option Bool
 | .non=>some false
 | .bl b=>some b
 | .int i=>some (i != 0)
 | .str x=>if x.length≤LINE then some ((x.length:Int) != 0) else none
 | .tup l=>some (!l.isEmpty)
 | .lst l=>some (!l.isEmpty)
 | _=>none
def ixV (κ:Ks):Val→Val→Option Val
 | .tup l,.int i=>L2.atI l i
 | .lst l,.int i=>L2.atI l i
 | .str z,.int i=>if z.length≤LINE then (L2.atI z.cps.toList i).map fun c=>.str ⟨#[c]⟩ else none
 | .cell k,.int i=>match κ[k]? with
  | some (.lst l)=>L2.atI l i
  | _=>none
 | .scr ns,.int i=>(L2.atI ns i).map .int
 | _,_=>none
def cutL (xs:List Val)(lo hi:Option Int):List Val:=(xs.drop (HT.sIx xs.length 0 lo)).take (HT.sIx xs.length xs.length hi-HT.sIx xs.length 0 lo)
def slV (v:Val)(lo hi:Option Int):Option Val:=match v with
 | .tup l=>some (.tup (cutL l lo hi))
 | .lst l=>some (.lst (cutL l lo hi))
 | .str z=>if z.length≤LINE then some (.str (L2.cutS z lo hi)) else none
 | _=>none
inductive Ty where
 | int|bool|str|tuple|list
 deriving DecidableEq
def isiV:Ty→Val→Option Bool
 | t,.non=>some false
 | t,.bl _=>some (t == .int||t == .bool)
 | t,.int _=>some (t == .int)
 | t,.str _=>some (t == .str)
 | t,.tup _=>some (t == .tuple)
 | t,.lst _=>some (t == .list)
 | _,_=>none
inductive Bi where
 | len|abs|min2|max2|int|bool|str|tuple|list|all|any
 deriving DecidableEq
def blsOf:List Val→Option (List Bool)
 | []=>some []
 | .bl b::l=>(blsOf l).map (b :: ·)
 | _=>none
def intsOf:List Val→Option (List Int)
 | []=>some []
 | .int b::l=>(intsOf l).map (b :: ·)
 | _=>none
def maxI:Int→List Int→Int
 | x,[]=>x
 | x,y::l=>maxI (if x<y then y else x) l
def minI:Int→List Int→Int
 | x,[]=>x
 | x,y::l=>minI (if y<x then y else x) l
def biV:Bi→List Val→Option Val
 | .max2,[.lst l]=>match intsOf l with
  | some (n::ns)=>some (.int (maxI n ns))
  | _=>none
 | .min2,[.lst l]=>match intsOf l with
  | some (n::ns)=>some (.int (minI n ns))
  | _=>none
 | .len,[.tup l]=>some (.int l.length)
 | .len,[.lst l]=>some (.int l.length)
 | .len,[.scr l]=>some (.int l.length)
 | .len,[.str z]=>if z.length≤LINE then some (.int z.length) else none
 | .abs,[.int i]=>some (.int (if i<0 then -i else i))
 | .min2,[.int i,.int j]=>some (.int (if j<i then j else i))
 | .max2,[.int i,.int j]=>some (.int (if j > i then j else i))
 | .int,[.int i]=>some (.int i)
 | .int,[.bl b]=>some (.int (if b then 1 else 0))
 | .bool,[.bl b]=>some (.bl b)
 | .tuple,[.tup l]=>some (.tup l)
 | .tuple,[.lst l]=>some (.tup l)
 | .list,[.tup l]=>some (.lst l)
 | .list,[.lst l]=>some (.lst l)
 | .all,[.lst l]=>(blsOf l).map fun bs=>.bl (bs.all id)
 | .all,[.tup l]=>(blsOf l).map fun bs=>.bl (bs.all id)
 | .any,[.lst l]=>(blsOf l).map fun bs=>.bl (bs.any id)
 | .str,[.int i]=>if i.natAbs<2^64 then some (.str (toString i)) else none
 | _,_=>none
def itemsV:Val→Option (List Val)
 | .tup l=>some l
 | .lst l=>some l
 | _=>none
def enumL (l:List Val):List Val:=(List.range l.length).zip l |>.map fun p=>.tup [.int (p.1:Nat),p.2]
def zipL (l m:List Val):List Val:=(l.zip m).map fun p=>.tup [p.1,p.2]
def rngL (a b:Int):List Val:=(List.range (b-a).toNat).map fun i=>.int (a+(i:Nat))
def rngOk (a b:Int):Bool:=decide (-1000000≤a)&&decide (a≤1000000)&&decide (-1000000≤b)&&decide (b≤1000000)
def zipV:Val→Val→Option (List Val)
 | .lst l,.lst m=>some (zipL l m)
 | .tup l,.tup m=>some (zipL l m)
 | .tup l,.lst m=>some (zipL l m)
 | _,_=>none
def rngV1:List Val→Option (List Val)
 | [.int j]=>if rngOk 0 j then some (rngL 0 j) else none
 | _=>none
def rngV2:List Val→Option (List Val)
 | [.int i,.int j]=>if rngOk i j then some (rngL i j) else none
 | _=>none
def rngV3:List Val→Option (List Val)
 | [.int i,.int j,.int (-1)]=>if rngOk i j then some ((List.range (i-j).toNat).map fun (n:Nat)=>.int (i+(n:Nat)*(-1))) else none
 | _=>none
mutual
inductive Tg where
 | nm (i:Nat)|tp (l:Tgs)
inductive Tgs where
 | nil|cons (t:Tg) (l:Tgs)
end
inductive Cl where
 | lams (l:List (Nat × List Nat))
 | var (i:Nat)
 | add (a b:Cl)
inductive Sm where
 | join|split|partition|index|count
 deriving DecidableEq
mutual
inductive E where
 | con (v:Val)|glob (k:Nat) (v:Val)|var (i:Nat)|bor (i:Nat)|fnv (f:Nat)
 | op (o:Op) (a b:E)|addL (a b:E)|mulL (a b:E)|cm (o:Cm) (a b:E)|chain (o o':Cm) (a b c:E)|neg (a:E)
 | and (a b:E)|or (a b:E)|not (a:E)|ite (t:T) (a b:E)
 | tup (es:Es)|lst (es:Es)
 | ix (a b:E)|sl (a:E) (lo hi:Oe)|rev (a:E)|sset (a:E)
 | mnl (a:E)|srt (a:E)|lrng (a:E)|lzip (a b:E)|srk (k:Nat) (a:E)
 | call (f:Nat) (es:As)|bi (b:Bi) (es:Es)|isi (t:Ty) (a:E)
 | comp (elt:E) (tg:Tg) (it:It) (cond:Ot) (own:List Nat)
 | callv (i:Nat)|filt (tg src:Nat) (cond:T)
 | sm (m:Sm) (a b:E)
 | fmt (a:E)|fstr (es:Es)|calld (i:Nat) (es:As)|dget (a b:E)|clen (a:E)
 | mkerr (k:Nat) (a:E)|mkerd (k:Nat) (a:E)|isx (ks:List Nat) (a:E)|efld (k:Nat) (a:E)
 | fld (c j:Nat) (o:E)|meth (c f:Nat) (o:E) (es:As)|meth0 (c f:Nat) (o:E)|mk (c f:Nat) (es:As)|mkv (c f:Nat) (es:Es)|compd (elt:E) (tg:Tg) (it:Dit) (cond:Ot) (own:List Nat)|dlen (a:E)|disi (t:Ty) (a:E)
 | prop (c f:Nat) (o:E)|dun (c f:Nat) (o a:E)|dug (c f:Nat) (o a:E)|dnr (c f:Nat) (a o:E)|dnb (t:Ty) (c f:Nat) (o:E)|oeq (c f:Nat) (a b:E)|iso (c:Nat) (a:E)|mks (c f:Nat) (a:E) (es:Es)
 | asfn (i k:Nat) (e:E)|lcnt (a b:E)|lidx (a b:E)|flat (r q:Nat) (a:E)
inductive Es where
 | nil|cons (e:E) (es:Es)
inductive As where
 | nil|cons (e:E) (es:As)|ext (i:Nat) (es:As)|clos (c:Cl) (es:As)|clo1 (k:Nat) (js:List Nat) (es:As)
inductive Oe where
 | no|yes (e:E)
inductive T where
 | val (e:E)|cm (o:Cm) (a b:E)|chain (o o':Cm) (a b c:E)|and (a b:T)|or (a b:T)|not (a:T)|chain3 (o o' o'':Cm) (a b c d:E)
inductive Ot where
 | no|yes (t:T)
inductive It where
 | seq (e:E)|rng1 (l:Es)|rng2 (l:Es)|rng3 (l:Es)|enum (e:E)|zip (a b:E)
inductive Dit where
 | seq (e:E)|zip (a b:E)
end
mutual
inductive S where
 | set (i:Nat) (e:E)|own (i:Nat) (e:E)|cel (i:Nat) (e:E)|asg (tg:Tg) (e:E)|setC (i:Nat) (c:Cl)
 | par (l:List (Nat × Bool)) (es:Es)
 | expr (e:E)|append (i:Nat) (e:E)|pop (i:Nat)|popto (i:Nat) (tg:Tg)|seti (i:Nat) (a e:E)|augi (i:Nat) (a:E) (o:Op) (e:E)|cseti (o a e:E)
 | ite (t:T) (a b:Ss)|loop (tg:Tg) (it:It) (b:Ss)|while (t:T) (b:Ss)
 | ret (e:E)|raise (c:Nat)|came (i:Nat)|dg (i:Nat)|never
 | celd (i:Nat) (ks:List Str) (es:Es)|dseti (o:E) (k:Str) (e:E)|csetp (o a:E) (j:Nat) (es:Es)
 | retO (i:Nat)|sfld (c j:Nat) (o e:E)|appc (i:Nat) (e:E)|capp (o e:E)|cins (o e:E)|cclr (o:E)
 | raised (k:Nat) (e:E)|tryf (e:E) (i j k:Nat)|tryr (e:E) (k:Nat)|oaug (c f i:Nat) (e:E)
inductive Ss where
 | nil|cons (s:S) (l:Ss)
end
structure CB where
 cf:Nat→List Ar→Ks→R (Val × Ks)
 cl:Nat→List Val→Ks→R (Val × Ks)
 kin:Nat→Str
 cm:Option (Nat→List Ar→Ks→R (Val × Ks))
def rdV (ρ:Rho)(i:Nat):Option Val:=match ρ[i]? with
 | some (some (.val v))=>some v
 | _=>none
def rdB (ρ:Rho)(i:Nat):Option Val:=match ρ[i]? with
 | some (some (.val v))=>some v
 | some (some (.own l))=>some (.lst l)
 | _=>none
def rdO (ρ:Rho)(i:Nat):Option (List Val):=match ρ[i]? with
 | some (some (.own l))=>some l
 | _=>none
def wipeR (ρ:Rho):List Nat→Rho
 | []=>ρ
 | v::vs=>(wipeR ρ vs).set v none
mutual
def setTg:Tg→Val→Rho→Option Rho
 | .nm i,v,ρ=>if i<ρ.length then some (ρ.set i (some (.val v))) else none
 | .tp l,.tup vs,ρ=>setTgs l vs ρ
 | .tp l,.lst vs,ρ=>setTgs l vs ρ
 | .tp _,_,_=>none
def setTgs:Tgs→List Val→Rho→Option Rho
 | .nil,[],ρ=>some ρ
 | .cons t l,v::vs,ρ=>match setTg t v ρ with
  | some ρ'=>setTgs l vs ρ'
  | none=>none
 | _,_,_=>none
end
def capsOf (ρ:Rho):List Nat→Option (List Val)
 | []=>some []
 | j::js=>match rdV ρ j,capsOf ρ js with
  | some v,some vs=>some (v::vs)
  | _,_=>none
def clsOf (ρ:Rho):Cl→Option (List (Nat × List Nat))
 | .lams l=>if l.length≤LINE then some l else none
 | .var i=>match ρ[i]? with
  | some (some (.cls l))=>some l
  | _=>none
 | .add a b=>match clsOf ρ a,clsOf ρ b with
  | some x,some y=>if x.length+y.length≤LINE then some (x++y) else none
  | _,_=>none
def eclosOf (ρ:Rho):List (Nat × List Nat)→Option (List (Nat × List Val))
 | []=>some []
 | p::l=>match capsOf ρ p.2,eclosOf ρ l with
  | some v,some vs=>some ((p.1,v)::vs)
  | _,_=>none
def rdX (ρ:Rho)(i:Nat):Option Ex:=match ρ[i]? with
 | some (some (.ext x))=>some x
 | _=>none
def noExc {α:Type}:R α→R α
 | .exc _ _ _=>.bad
 | r=>r
def compL:List Val→(Val→Ks→R (Option Val × Ks))→Ks→R (List Val × Ks)
 | [],_,κ=>.ok ([],κ)
 | v::vs,f,κ=>(f v κ).bind fun p=>(compL vs f p.2).bind fun q=>.ok (p.1.elim q.1 (· :: q.1),q.2)
def filtL:List (Nat × List Val)→(Nat→List Val→Ks→R (Bool × Ks))→Ks→R Ks
 | [],_,κ=>.ok κ
 | p::l,f,κ=>(f p.1 p.2 κ).bind fun b=>if b.1=true then .bad else filtL l f b.2
inductive O where
 | nx (ρ:Rho) (κ:Ks)|ret (v:Val) (κ:Ks)|exc (c:Nat) (p:Val) (κ:Ks)|bad
def R.toO {α:Type}(r:R α)(f:α→O):O:=match r with
 | .ok a=>f a
 | .exc c p k=>.exc c p k
 | .bad=>.bad
def O.then (o:O)(f:Rho→Ks→O):O:=match o with
 | .nx ρ κ=>f ρ κ
 | o=>o
def O.fin:O→R (Val × Ks)
 | .nx _ κ=>.ok (.non,κ)
 | .ret v κ=>.ok (v,κ)
 | .exc c p κ=>.exc c p κ
 | .bad=>.bad
def loopL:List Val→(Val→Rho→Ks→O)→Rho→Ks→O
 | [],_,ρ,κ=>.nx ρ κ
 | v::vs,f,ρ,κ=>(f v ρ κ).then fun ρ' κ'=>loopL vs f ρ' κ'
def whileL:Nat→(Rho→Ks→R (Bool × Ks))→(Rho→Ks→O)→Rho→Ks→O
 | 0,_,_,_,_=>.bad
 | n+1,t,b,ρ,κ=>(t ρ κ).toO fun p=>if p.1=true then (b ρ p.2).then fun ρ' κ'=>whileL n t b ρ' κ' else .nx ρ p.2
def bw (e:E)(ρ:Rho)(κ:Ks)(r:R (Val × Ks)):R (Val × Ks):=match e with
 | .bor i=>R.ofO ((rdB ρ i).map fun v=>(v,κ))
 | _=>r
def strsOf:List Val→Option (List Str)
 | []=>some []
 | .str x::l=>(strsOf l).map (x :: ·)
 | _=>none
def strV:Val→Option Str
 | .str x=>some x
 | _=>none
def smV:Sm→Str→Val→Option Val
 | .split,a,.str b=>if (b.length == 0)=false∧a.length+2≤LINE then some (.lst ((Txt.split a b).map .str)) else none
 | .join,a,.lst l=>match strsOf l with
  | some ys=>if (ys.map (·.length)).sum+ys.length*a.length≤LINE then some (.str (Txt.join a ys)) else none
  | none=>none
 | .partition,a,.str b=>if (b.length == 0)=false∧a.length≤LINE then some (.tup [.str (Txt.partition a b).1,.str (Txt.partition a b).2.1,.str (Txt.partition a b).2.2]) else none
 | _,_,_=>none
def ntV:Val→Option Val
 | .bl b=>some (.bl (!b))
 | _=>none
def blV:Val→Option Bool
 | .bl b=>some b
 | _=>none
def Qzk:Val→Option Int
 | .int i=>some i
 | _=>none
def ngV:Val→Option Val
 | .int i=>some (.int (-i))
 | _=>none
def rvV:Val→Option Val
 | .lst l=>some (.lst l.reverse)
 | .tup l=>some (.tup l.reverse)
 | _=>none
def insD (x:Int):List Int→List Int
 | []=>[x]
 | y::l=>if x<y then x::y::l else if x=y then y::l else y::insD x l
def sdd:List Int→List Int
 | []=>[]
 | x::l=>insD x (sdd l)
def ssV:Val→Option Val
 | .tup l=>match intsOf l with
  | some ns=>if ns.length≤60 then some (.lst ((sdd ns).map .int)) else none
  | none=>none
 | .lst l=>match intsOf l with
  | some ns=>if ns.length≤60 then some (.lst ((sdd ns).map .int)) else none
  | none=>none
 | _=>none
def tupsOf:List Val→Option (List (List Int))
 | []=>some []
 | .tup x::l=>match intsOf x,tupsOf l with
  | some n,some ns=>some (n::ns)
  | _,_=>none
 | _=>none
def ltI:List Int→List Int→Bool
 | [],[]=>false
 | [],_::_=>true
 | _::_,[]=>false
 | x::xs,y::ys=>if x=y then ltI xs ys else decide (x<y)
def minT:List Int→List (List Int)→List Int
 | m,[]=>m
 | m,x::l=>minT (if ltI x m=true then x else m) l
def insT (x:List Int):List (List Int)→List (List Int)
 | []=>[x]
 | y::l=>if ltI y x=true then y::insT x l else x::y::l
def srtT:List (List Int)→List (List Int)
 | []=>[]
 | x::l=>insT x (srtT l)
def tupV (k:List Int):Val:=.tup (k.map .int)
def mnV:Val→Option Val
 | .lst l=>match tupsOf l with
  | some (x::xs)=>some (tupV (minT x xs))
  | _=>none
 | _=>none
def srV:Val→Option Val
 | .lst l=>match tupsOf l with
  | some ks=>if (ks.all (fun k => !k.isEmpty)=true∨ks.length≤1)∧ks.length≤LINE then some (.lst ((srtT ks).map tupV)) else none
  | none=>none
 | _=>none
def skV:Val→Option Val
 | .lst l=>match tupsOf l with
  | some ks=>if ks.all (fun k=>decide (k.length≤LINE))=true∧ks.length≤LINE then some (.lst ((srtT (ks.map fun k=>(k.length:Int)::k)).map fun k=>tupV (k.drop 1))) else none
  | none=>none
 | _=>none
def lrV:Val→Option Val
 | .int n=>if rngOk 0 n then some (.lst (rngL 0 n)) else none
 | _=>none
def lzV:Val→Val→Option Val
 | .lst x,.lst y=>if x.length≤LINE∧y.length≤LINE then some (.lst (zipL x y)) else none
 | _,_=>none
def fmtV:Val→Option Val
 | .str y=>if y.length≤LINE then some (.str y) else none
 | .int i=>if i.natAbs<2^64 then some (.str (toString i)) else none
 | _=>none
def fjV:Str→Val→Option Str
 | acc,.str y=>if acc.length+y.length≤LINE then some (acc++y) else none
 | _,_=>none
def getD_ (l:List (Str × Val))(k:Str):Option Val:=(l.find? fun p=>decide (p.1=k)).map (·.2)
def putD_ (l:List (Str × Val))(k:Str)(v:Val):List (Str × Val):=if (l.any fun p=>decide (p.1=k))=true then l.map (fun p=>if p.1=k then (p.1,v) else p) else l++[(k,v)]
def dgV (κ:Ks):Val→Val→Option Val
 | .cell i,.str k=>match κ[i]? with
  | some (.dct l)=>getD_ l k
  | _=>none
 | _,_=>none
def mkdV (k:Nat):Val→Option Val
 | .int n=>some (.err k (some n))
 | _=>none
def isxV (ks:List Nat):Val→Option Val
 | .err k _=>some (.bl (ks.contains k))
 | _=>none
def efV (k:Nat):Val→Option Val
 | .err j (some n)=>if j=k then some (.int n) else none
 | _=>none
def clV (κ:Ks):Val→Option Val
 | .cell i=>match κ[i]? with
  | some (.lst l)=>some (.int l.length)
  | _=>none
 | _=>none
def fldV (κ:Ks)(c j:Nat):Val→Option Val
 | .cell i=>match κ[i]? with
  | some (.obj c' l)=>if c'=c then l[j]? else none
  | _=>none
 | _=>none
def objB (κ:Ks)(c:Nat):Val→Bool
 | .cell i=>match κ[i]? with
  | some (.obj c' _)=>decide (c'=c)
  | _=>false
 | _=>false
def lcell (κ:Ks):Val→Option (Nat × List Val)
 | .cell i=>match κ[i]? with
  | some (.lst l)=>some (i,l)
  | _=>none
 | _=>none
def dlV (κ:Ks):Val→Option Val
 | .cell i=>clV κ (.cell i)
 | v=>biV .len [v]
def disV (κ:Ks)(t:Ty):Val→Option Bool
 | .cell i=>match κ[i]? with
  | some (.lst _)=>some (t == .list)
  | _=>none
 | v=>isiV t v
def lstC (κ:Ks):Val→Option (List Val × List (Nat × List Val))
 | .cell i=>match κ[i]? with
  | some (.lst l)=>some (l,[(i,l)])
  | _=>none
 | .lst l=>some (l,[])
 | _=>none
def itC (κ:Ks):Val→Option (List Val × List (Nat × List Val))
 | .tup l=>some (l,[])
 | v=>lstC κ v
def zipC (κ:Ks):Val→Val→Option (List Val × List (Nat × List Val))
 | .tup l,.tup m=>some (zipL l m,[])
 | a,b=>match lstC κ a,lstC κ b with
  | some p,some q=>some (zipL p.1 q.1,p.2++q.2)
  | _,_=>none
def sameC (cs:List (Nat × List Val))(κ:Ks):Bool:=cs.all fun p=>match κ[p.1]? with
 | some (.lst l)=>Val.eqbs l p.2
 | _=>false
def datV:Val→Bool
 | .non=>true
 | .bl _=>true
 | .int _=>true
 | .str _=>true
 | .tup _=>true
 | .lst _=>true
 | _=>false
def kndB:Ty→Val→Bool
 | .int,.int n=>decide (0≤n)&&decide (n<9223372036854775808)
 | .bool,.bl _=>true
 | .str,.str x=>decide (x.length≤LINE)
 | _,_=>false
def lstB:Val→Bool
 | .lst _=>true
 | _=>false
def cntV:Val→Val→Option Val
 | .lst l,v=>match toDatas l,Qzd v with
  | some ds,some d=>if PyData.plainAll ds=true∧d.plain=true∧d.depth<60 then some (.int (ds.countP fun y=>PyData.eqv y d)) else none
  | _,_=>none
 | _,_=>none
def lidxV:Val→Val→Option Val
 | .lst l,v=>if Qzh v&&l.all Qzh then (l.findIdx? fun y=>eqF y v).map fun j=>.int (j:Nat) else none
 | _,_=>none
def flats:List Val→Option (List Val)
 | []=>some []
 | .tup x::l=>(flats l).map (x ++ ·)
 | _=>none
def flLV (l:List Val):Option Val:=match flats l with
 | some m=>if m.length<LINE then some (.lst m) else none
 | none=>none
def isoV (κ:Ks)(k:Nat):Val→Option Bool
 | .cell i=>match κ[i]? with
  | some (.obj c' _)=>if c'=k then some true else none
  | _=>none
 | .non=>some false
 | .bl _=>some false
 | .int _=>some false
 | .str _=>some false
 | .tup _=>some false
 | .lst _=>some false
 | _=>none
mutual
def evE (c:CB):E→Rho→Ks→R (Val × Ks)
 | .con v,_,κ=>.ok (v,κ)
 | .glob _ v,_,κ=>.ok (v,κ)
 | .var i,ρ,κ=>R.ofO ((rdV ρ i).map fun v=>(v,κ))
 | .bor _,_,_=>.bad
 | .fnv f,_,κ=>.ok (.fn f,κ)
 | .op o a b,ρ,κ=>(bw a ρ κ (evE c a ρ κ)).bind fun p=>(bw b ρ p.2 (evE c b ρ p.2)).bind fun q=>R.ofO ((opV o p.1 q.1).map fun v=>(v,q.2))
 | .addL a b,ρ,κ=>(bw a ρ κ (evE c a ρ κ)).bind fun p=>(bw b ρ p.2 (evE c b ρ p.2)).bind fun q=>R.ofO ((addL p.1 q.1).map fun v=>(v,q.2))
 | .mulL a b,ρ,κ=>(bw a ρ κ (evE c a ρ κ)).bind fun p=>(bw b ρ p.2 (evE c b ρ p.2)).bind fun q=>R.ofO ((mulL p.1 q.1).map fun v=>(v,q.2))
 | .cm o a b,ρ,κ=>(bw a ρ κ (evE c a ρ κ)).bind fun p=>(bw b ρ p.2 (evE c b ρ p.2)).bind fun q=>R.ofO ((cmV o p.1 q.1).map fun v=>(.bl v,q.2))
 | .chain o o' a b d,ρ,κ=>(evE c a ρ κ).bind fun p=>(evE c b ρ p.2).bind fun q=>(R.ofO (cmV o p.1 q.1)).bind fun k=>
   if k=true then (evE c d ρ q.2).bind fun r=>R.ofO ((cmV o' q.1 r.1).map fun v=>(.bl v,r.2)) else .ok (.bl false,q.2)
 | .neg a,ρ,κ=>(evE c a ρ κ).bind fun p=>R.ofO ((ngV p.1).map fun v=>(v,p.2))
 | .and a b,ρ,κ=>(evE c a ρ κ).bind fun p=>(R.ofO (blV p.1)).bind fun k=>if k=true then evE c b ρ p.2 else .ok (.bl false,p.2)
 | .or a b,ρ,κ=>(evE c a ρ κ).bind fun p=>(R.ofO (blV p.1)).bind fun k=>if k=true then .ok (.bl true,p.2) else evE c b ρ p.2
 | .not a,ρ,κ=>(evE c a ρ κ).bind fun p=>R.ofO ((ntV p.1).map fun v=>(v,p.2))
 | .ite t a b,ρ,κ=>(evT c t ρ κ).bind fun p=>if p.1=true then evE c a ρ p.2 else evE c b ρ p.2
 | .tup es,ρ,κ=>(evEs c es ρ κ).bind fun p=>if p.1.length≤LINE then .ok (.tup p.1,p.2) else .bad
 | .lst es,ρ,κ=>(evEs c es ρ κ).bind fun p=>if p.1.length≤LINE then .ok (.lst p.1,p.2) else .bad
 | .ix a b,ρ,κ=>(bw a ρ κ (evE c a ρ κ)).bind fun p=>(evE c b ρ p.2).bind fun q=>R.ofO ((ixV q.2 p.1 q.1).map fun v=>(v,q.2))
 | .sl a lo hi,ρ,κ=>(bw a ρ κ (evE c a ρ κ)).bind fun p=>(evO c lo ρ p.2).bind fun q=>(evO c hi ρ q.2).bind fun r=>R.ofO ((slV p.1 q.1 r.1).map fun v=>(v,r.2))
 | .rev a,ρ,κ=>(bw a ρ κ (evE c a ρ κ)).bind fun p=>R.ofO ((rvV p.1).map fun v=>(v,p.2))
 | .sset a,ρ,κ=>(bw a ρ κ (evE c a ρ κ)).bind fun p=>R.ofO ((ssV p.1).map fun v=>(v,p.2))
 | .mnl a,ρ,κ=>(bw a ρ κ (evE c a ρ κ)).bind fun p=>R.ofO ((mnV p.1).map fun v=>(v,p.2))
 | .srt a,ρ,κ=>(bw a ρ κ (evE c a ρ κ)).bind fun p=>R.ofO ((srV p.1).map fun v=>(v,p.2))
 | .srk _ a,ρ,κ=>(bw a ρ κ (evE c a ρ κ)).bind fun p=>R.ofO ((skV p.1).map fun v=>(v,p.2))
 | .lrng a,ρ,κ=>(evE c a ρ κ).bind fun p=>R.ofO ((lrV p.1).map fun v=>(v,p.2))
 | .lzip a b,ρ,κ=>(bw a ρ κ (evE c a ρ κ)).bind fun p=>(bw b ρ p.2 (evE c b ρ p.2)).bind fun q=>R.ofO ((lzV p.1 q.1).map fun v=>(v,q.2))
 | .call f es,ρ,κ=>(evA c es ρ κ).bind fun p=>c.cf f p.1 p.2
 | .bi b es,ρ,κ=>(evBs c es ρ κ).bind fun p=>R.ofO ((biV b p.1).map fun v=>(v,p.2))
 | .isi t a,ρ,κ=>(bw a ρ κ (evE c a ρ κ)).bind fun p=>R.ofO ((isiV t p.1).map fun v=>(.bl v,p.2))
 | .comp elt tg it cond own,ρ,κ=>(evI c it ρ κ).bind fun p=>(compL p.1 (fun v κ'=>noExc ((R.ofO (setTg tg v (wipeR ρ own))).bind fun ρ2=>(evOt c cond ρ2 κ').bind fun b=>
   if b.1=true then (evE c elt ρ2 b.2).bind fun x=>.ok (some x.1,x.2) else .ok (none,b.2))) p.2).bind fun q=>if q.1.length<LINE then .ok (.lst q.1,q.2) else .bad
 | .callv i,ρ,κ=>match rdX ρ i with
  | some (.one k caps)=>c.cl k caps κ
  | _=>.bad
 | .filt tg src cond,ρ,κ=>match rdX ρ src with
  | some (.many l)=>(filtL l (fun k caps κ'=>noExc (evT c cond (ρ.set tg (some (.ext (.one k caps)))) κ')) κ).bind fun κ'=>.ok (.lst [],κ')
  | _=>.bad
 | .sm m a b,ρ,κ=>(evE c a ρ κ).bind fun p=>(R.ofO (strV p.1)).bind fun u=>(evE c b ρ p.2).bind fun q=>R.ofO ((smV m u q.1).map fun v=>(v,q.2))
 | .fmt a,ρ,κ=>(evE c a ρ κ).bind fun p=>R.ofO ((fmtV p.1).map fun v=>(v,p.2))
 | .fstr es,ρ,κ=>(evF c es Str.empty ρ κ).bind fun p=>.ok (.str p.1,p.2)
 | .calld i es,ρ,κ=>match rdV ρ i with
  | some (.fn f)=>(evA c es ρ κ).bind fun p=>c.cf f p.1 p.2
  | _=>.bad
 | .dget a b,ρ,κ=>(evE c a ρ κ).bind fun p=>(evE c b ρ p.2).bind fun q=>R.ofO ((dgV q.2 p.1 q.1).map fun v=>(v,q.2))
 | .clen a,ρ,κ=>(evE c a ρ κ).bind fun p=>R.ofO ((clV p.2 p.1).map fun v=>(v,p.2))
 | .mkerr k a,ρ,κ=>(evE c a ρ κ).bind fun p=>.ok (.err k none,p.2)
 | .mkerd k a,ρ,κ=>(evE c a ρ κ).bind fun p=>R.ofO ((mkdV k p.1).map fun v=>(v,p.2))
 | .isx ks a,ρ,κ=>(evE c a ρ κ).bind fun p=>R.ofO ((isxV ks p.1).map fun v=>(v,p.2))
 | .efld k a,ρ,κ=>(evE c a ρ κ).bind fun p=>R.ofO ((efV k p.1).map fun v=>(v,p.2))
 | .fld k j o,ρ,κ=>(evE c o ρ κ).bind fun p=>R.ofO ((fldV p.2 k j p.1).map fun v=>(v,p.2))
 | .meth k f o es,ρ,κ=>(evE c o ρ κ).bind fun p=>if objB p.2 k p.1=true then (evA c es ρ p.2).bind fun q=>c.cf f (.v p.1::q.1) q.2 else .bad
 | .meth0 k f o,ρ,κ=>(evE c o ρ κ).bind fun p=>if objB p.2 k p.1=true then c.cf f [.v p.1] p.2 else .bad
 | .mk k f es,ρ,κ=>match c.cm with
  | none=>.bad
  | some cm=>(evA c es ρ κ).bind fun p=>(cm f (.v (.cell p.2.length)::p.1) (p.2++[.obj k []])).bind fun q=>match q.1 with
   | .non=>.ok (.cell p.2.length,q.2)
   | _=>.bad
 | .mkv k f es,ρ,κ=>match c.cm with
  | none=>.bad
  | some cm=>(evEs c es ρ κ).bind fun p=>if p.1.length≤7 then (cm f [.v (.cell p.2.length),.v (.tup p.1)] (p.2++[.obj k []])).bind fun q=>match q.1 with
    | .non=>.ok (.cell p.2.length,q.2)
    | _=>.bad
   else .bad
 | .compd elt tg it cond own,ρ,κ=>(evD c it ρ κ).bind fun p=>(compL p.1.1 (fun v κ'=>noExc (if sameC p.1.2 κ'=true then (R.ofO (setTg tg v (wipeR ρ own))).bind fun ρ2=>(evOt c cond ρ2 κ').bind fun b=>
   if b.1=true then (evE c elt ρ2 b.2).bind fun x=>.ok (some x.1,x.2) else .ok (none,b.2) else .bad)) p.2).bind fun q=>if sameC p.1.2 q.2=true∧q.1.length<LINE then .ok (.lst q.1,q.2) else .bad
 | .dlen a,ρ,κ=>(evE c a ρ κ).bind fun p=>R.ofO ((dlV p.2 p.1).map fun v=>(v,p.2))
 | .disi t a,ρ,κ=>(evE c a ρ κ).bind fun p=>R.ofO ((disV p.2 t p.1).map fun v=>(.bl v,p.2))
 | .prop k f o,ρ,κ=>match c.cm with
  | none=>.bad
  | some cm=>(evE c o ρ κ).bind fun p=>if objB p.2 k p.1=true then noExc (cm f [.v p.1] p.2) else .bad
 | .dun k f o a,ρ,κ=>(evE c o ρ κ).bind fun p=>if objB p.2 k p.1=true then (evE c a ρ p.2).bind fun q=>if objB q.2 k p.1=true∧datV q.1=true then c.cf f [.v p.1,.v q.1] q.2 else .bad else .bad
 | .dug k f o a,ρ,κ=>match c.cm with
  | none=>.bad
  | some cm=>(evE c o ρ κ).bind fun p=>(evE c a ρ p.2).bind fun q=>if objB q.2 k p.1=true∧datV q.1=true then cm f [.v p.1,.v q.1] q.2 else .bad
 | .dnr k f a o,ρ,κ=>(evE c a ρ κ).bind fun p=>(evE c o ρ p.2).bind fun q=>if objB q.2 k q.1=true∧datV p.1=true then (c.cf f [.v q.1,.v p.1] q.2).bind fun r=>R.ofO ((blV r.1).map fun b=>(.bl b,r.2)) else .bad
 | .dnb t k f o,ρ,κ=>match c.cm with
  | none=>.bad
  | some cm=>(evE c o ρ κ).bind fun p=>if objB p.2 k p.1=true then (noExc (cm f [.v p.1] p.2)).bind fun r=>if kndB t r.1=true then .ok r else .bad else .bad
 | .oeq k f a b,ρ,κ=>(evE c a ρ κ).bind fun p=>(evE c b ρ p.2).bind fun q=>if objB q.2 k p.1=true∧(datV q.1||objB q.2 k q.1)=true then (c.cf f [.v p.1,.v q.1] q.2).bind fun r=>R.ofO ((blV r.1).map fun b=>(.bl b,r.2)) else .bad
 | .iso k a,ρ,κ=>(evE c a ρ κ).bind fun p=>R.ofO ((isoV p.2 k p.1).map fun v=>(.bl v,p.2))
 | .mks k f a es,ρ,κ=>match c.cm with
  | none=>.bad
  | some cm=>(bw a ρ κ (evE c a ρ κ)).bind fun p=>(R.ofO (itemsV p.1)).bind fun l=>(evEs c es ρ p.2).bind fun q=>if (l++q.1).length≤7 then (cm f [.v (.cell q.2.length),.v (.tup (l++q.1))] (q.2++[.obj k []])).bind fun r=>match r.1 with
    | .non=>.ok (.cell q.2.length,r.2)
    | _=>.bad
   else .bad
 | .asfn i k e,ρ,κ=>match rdV ρ i with
  | some (.fn k')=>if k'=k then evE c e ρ κ else .bad
  | _=>.bad
 | .lcnt a b,ρ,κ=>(bw a ρ κ (evE c a ρ κ)).bind fun p=>if lstB p.1=true then (evE c b ρ p.2).bind fun q=>R.ofO ((cntV p.1 q.1).map fun v=>(v,q.2)) else .bad
 | .lidx a b,ρ,κ=>(bw a ρ κ (evE c a ρ κ)).bind fun p=>if lstB p.1=true then (evE c b ρ p.2).bind fun q=>R.ofO ((lidxV p.1 q.1).map fun v=>(v,q.2)) else .bad
 | .flat r q a,ρ,κ=>if r<ρ.length∧q<ρ.length∧r≠q then ((bw a ρ κ (evE c a ρ κ)).bind fun p=>R.ofO ((itemsV p.1).map fun l=>(l,p.2))).bind fun z=>R.ofO ((flLV z.1).map fun v=>(v,z.2)) else .bad
def evEs (c:CB):Es→Rho→Ks→R (List Val × Ks)
 | .nil,_,κ=>.ok ([],κ)
 | .cons e es,ρ,κ=>(evE c e ρ κ).bind fun p=>(evEs c es ρ p.2).bind fun q=>.ok (p.1::q.1,q.2)
def evF (c:CB):Es→Str→Rho→Ks→R (Str × Ks)
 | .nil,acc,_,κ=>.ok (acc,κ)
 | .cons e es,acc,ρ,κ=>(evE c e ρ κ).bind fun p=>(R.ofO (fjV acc p.1)).bind fun s=>evF c es s ρ p.2
def evA (c:CB):As→Rho→Ks→R (List Ar × Ks)
 | .nil,_,κ=>.ok ([],κ)
 | .cons e es,ρ,κ=>(evE c e ρ κ).bind fun p=>(evA c es ρ p.2).bind fun q=>.ok (.v p.1::q.1,q.2)
 | .ext i es,ρ,κ=>(R.ofO ((rdX ρ i).map .x)).bind fun a=>(evA c es ρ κ).bind fun q=>.ok (a::q.1,q.2)
 | .clos d es,ρ,κ=>(R.ofO (((clsOf ρ d).bind (eclosOf ρ)).map fun l=>.x (.many l))).bind fun a=>(evA c es ρ κ).bind fun q=>.ok (a::q.1,q.2)
 | .clo1 k js es,ρ,κ=>(R.ofO ((capsOf ρ js).map fun l=>.x (.one k l))).bind fun a=>(evA c es ρ κ).bind fun q=>.ok (a::q.1,q.2)
def evBs (c:CB):Es→Rho→Ks→R (List Val × Ks)
 | .nil,_,κ=>.ok ([],κ)
 | .cons e es,ρ,κ=>(bw e ρ κ (evE c e ρ κ)).bind fun p=>(evBs c es ρ p.2).bind fun q=>.ok (p.1::q.1,q.2)
def evO (c:CB):Oe→Rho→Ks→R (Option Int × Ks)
 | .no,_,κ=>.ok (none,κ)
 | .yes e,ρ,κ=>(evE c e ρ κ).bind fun p=>R.ofO ((Qzk p.1).map fun i=>(some i,p.2))
def evT (c:CB):T→Rho→Ks→R (Bool × Ks)
 | .val e,ρ,κ=>(evE c e ρ κ).bind fun p=>R.ofO ((truV p.1).map fun b=>(b,p.2))
 | .cm o a b,ρ,κ=>(bw a ρ κ (evE c a ρ κ)).bind fun p=>(bw b ρ p.2 (evE c b ρ p.2)).bind fun q=>R.ofO ((cmV o p.1 q.1).map fun v=>(v,q.2))
 | .chain o o' a b d,ρ,κ=>(evE c a ρ κ).bind fun p=>(evE c b ρ p.2).bind fun q=>(R.ofO (cmV o p.1 q.1)).bind fun k=>
   if k=true then (evE c d ρ q.2).bind fun r=>R.ofO ((cmV o' q.1 r.1).map fun v=>(v,r.2)) else .ok (false,q.2)
 | .and a b,ρ,κ=>(evT c a ρ κ).bind fun p=>if p.1=true then evT c b ρ p.2 else .ok (false,p.2)
 | .or a b,ρ,κ=>(evT c a ρ κ).bind fun p=>if p.1=true then .ok (true,p.2) else evT c b ρ p.2
 | .not a,ρ,κ=>(evT c a ρ κ).bind fun p=>.ok (!p.1,p.2)
 | .chain3 o o' o'' a b d e,ρ,κ=>(evE c a ρ κ).bind fun p=>(evE c b ρ p.2).bind fun q=>(R.ofO (cmV o p.1 q.1)).bind fun k=>
   if k=true then (evE c d ρ q.2).bind fun r=>(R.ofO (cmV o' q.1 r.1)).bind fun k'=>if k'=true then (evE c e ρ r.2).bind fun s=>R.ofO ((cmV o'' r.1 s.1).map fun v=>(v,s.2)) else .ok (false,r.2) else .ok (false,q.2)
def evOt (c:CB):Ot→Rho→Ks→R (Bool × Ks)
 | .no,_,κ=>.ok (true,κ)
 | .yes t,ρ,κ=>evT c t ρ κ
def evI (c:CB):It→Rho→Ks→R (List Val × Ks)
 | .seq e,ρ,κ=>(bw e ρ κ (evE c e ρ κ)).bind fun p=>R.ofO ((itemsV p.1).map fun l=>(l,p.2))
 | .rng1 l,ρ,κ=>(evEs c l ρ κ).bind fun p=>R.ofO ((rngV1 p.1).map fun l=>(l,p.2))
 | .rng2 l,ρ,κ=>(evEs c l ρ κ).bind fun p=>R.ofO ((rngV2 p.1).map fun l=>(l,p.2))
 | .rng3 l,ρ,κ=>(evEs c l ρ κ).bind fun p=>R.ofO ((rngV3 p.1).map fun l=>(l,p.2))
 | .enum e,ρ,κ=>(bw e ρ κ (evE c e ρ κ)).bind fun p=>R.ofO ((itemsV p.1).map fun l=>(enumL l,p.2))
 | .zip a b,ρ,κ=>(bw a ρ κ (evE c a ρ κ)).bind fun p=>(bw b ρ p.2 (evE c b ρ p.2)).bind fun q=>R.ofO ((zipV p.1 q.1).map fun l=>(l,q.2))
def evD (c:CB):Dit→Rho→Ks→R ((List Val × List (Nat × List Val)) × Ks)
 | .seq e,ρ,κ=>(evE c e ρ κ).bind fun p=>R.ofO ((itC p.2 p.1).map fun l=>(l,p.2))
 | .zip a b,ρ,κ=>(evE c a ρ κ).bind fun p=>(evE c b ρ p.2).bind fun q=>R.ofO ((zipC q.2 p.1 q.1).map fun l=>(l,q.2))
end
def Qzc:List (Nat × Bool)→List Val→Rho→Option Rho
 | [],[],ρ=>some ρ
 | (i,false)::l,v::vs,ρ=>Qzc l vs (ρ.set i (some (.val v)))
 | (i,true)::l,.lst x::vs,ρ=>Qzc l vs (ρ.set i (some (.own x)))
 | _,_,_=>none
def cameO (cl:Nat→List Val→Ks→R (Val × Ks))(kin:Nat→Str)(i:Nat)(ρ:Rho)(κ:Ks):O:=match rdX ρ i with
 | some (.one k caps)=>match cl k caps κ with
  | .ok p=>.ret (.tup [p.1,.str ⟨#[]⟩]) p.2
  | .exc c .non κ'=>if c<1000 then .ret (.tup [.non,.str (kin c)]) κ' else .bad
  | _=>.bad
 | _=>.bad
mutual
def exS (c:CB):S→Rho→Ks→O
 | .set i e,ρ,κ=>(evE c e ρ κ).toO fun p=>.nx (ρ.set i (some (.val p.1))) p.2
 | .own i e,ρ,κ=>(evE c e ρ κ).toO fun p=>match p.1 with
  | .lst l=>.nx (ρ.set i (some (.own l))) p.2
  | _=>.bad
 | .cel i e,ρ,κ=>(evE c e ρ κ).toO fun p=>match p.1 with
  | .lst l=>.nx (ρ.set i (some (.val (.cell p.2.length)))) (p.2++[.lst l])
  | _=>.bad
 | .asg tg e,ρ,κ=>(evE c e ρ κ).toO fun p=>match setTg tg p.1 ρ with
  | some ρ'=>.nx ρ' p.2
  | none=>.bad
 | .setC i d,ρ,κ=>match clsOf ρ d with
  | some l=>.nx (ρ.set i (some (.cls l))) κ
  | none=>.bad
 | .par l es,ρ,κ=>(evEs c es ρ κ).toO fun p=>match Qzc l p.1 ρ with
  | some ρ'=>.nx ρ' p.2
  | none=>.bad
 | .expr e,ρ,κ=>(evE c e ρ κ).toO fun p=>.nx ρ p.2
 | .append i e,ρ,κ=>match rdO ρ i with
  | some l=>(evE c e ρ κ).toO fun p=>if l.length<LINE then .nx (ρ.set i (some (.own (l++[p.1])))) p.2 else .bad
  | none=>.bad
 | .pop i,ρ,κ=>match rdO ρ i with
  | some l=>if l.isEmpty then .bad else .nx (ρ.set i (some (.own l.dropLast))) κ
  | none=>.bad
 | .popto i tg,ρ,κ=>match rdO ρ i with
  | some l=>match l.getLast? with
   | some v=>match setTg tg v (ρ.set i (some (.own l.dropLast))) with
    | some ρ'=>.nx ρ' κ
    | none=>.bad
   | none=>.bad
  | none=>.bad
 | .seti i a e,ρ,κ=>(evE c e ρ κ).toO fun p=>match rdO ρ i with
  | some l=>(evE c a ρ p.2).toO fun q=>match q.1 with
   | .int n=>match L2.ixN l.length n with
    | some j=>.nx (ρ.set i (some (.own (l.set j p.1)))) q.2
    | none=>.bad
   | _=>.bad
  | none=>.bad
 | .augi i a o e,ρ,κ=>match rdO ρ i with
  | some l=>(evE c a ρ κ).toO fun q=>match q.1 with
   | .int n=>match L2.ixN l.length n with
    | some j=>match l[j]? with
     | some (.int old)=>(evE c e ρ q.2).toO fun p=>match p.1 with
      | .int y=>match o with
       | .add=>.nx (ρ.set i (some (.own (l.set j (.int (old+y)))))) p.2
       | .sub=>.nx (ρ.set i (some (.own (l.set j (.int (old-y)))))) p.2
       | _=>.bad
      | _=>.bad
     | _=>.bad
    | none=>.bad
   | _=>.bad
  | none=>.bad
 | .cseti o a e,ρ,κ=>(evE c e ρ κ).toO fun p=>(evE c o ρ p.2).toO fun b=>(evE c a ρ b.2).toO fun q=>match b.1,q.1 with
  | .cell k,.int n=>match q.2[k]? with
   | some (.lst l)=>match L2.ixN l.length n with
    | some j=>.nx ρ (q.2.set k (.lst (l.set j p.1)))
    | none=>.bad
   | _=>.bad
  | _,_=>.bad
 | .ite t a b,ρ,κ=>(evT c t ρ κ).toO fun p=>if p.1=true then exSs c a ρ p.2 else exSs c b ρ p.2
 | .loop tg it b,ρ,κ=>(evI c it ρ κ).toO fun p=>loopL p.1 (fun v ρ' κ'=>match setTg tg v ρ' with
  | some ρ2=>exSs c b ρ2 κ'
  | none=>.bad) ρ p.2
 | .while t b,ρ,κ=>whileL BIG (fun ρ' κ'=>evT c t ρ' κ') (fun ρ' κ'=>exSs c b ρ' κ') ρ κ
 | .ret e,ρ,κ=>(evE c e ρ κ).toO fun p=>.ret p.1 p.2
 | .raise k,_,κ=>.exc k .non κ
 | .came i,ρ,κ=>cameO c.cl c.kin i ρ κ
 | .dg i,ρ,κ=>match rdO ρ i with
  | some l=>.nx (ρ.set i (some (.val (.lst l)))) κ
  | none=>.nx ρ κ
 | .never,_,_=>.bad
 | .celd i ks es,ρ,κ=>(evEs c es ρ κ).toO fun p=>if ks.length≤15 then .nx (ρ.set i (some (.val (.cell p.2.length)))) (p.2++[.dct (ks.zip p.1)]) else .bad
 | .dseti o k e,ρ,κ=>(evE c e ρ κ).toO fun v=>(evE c o ρ v.2).toO fun b=>match b.1 with
  | .cell i=>match b.2[i]? with
   | some (.dct l)=>if l.length<LINE then .nx ρ (b.2.set i (.dct (putD_ l k v.1))) else .bad
   | _=>.bad
  | _=>.bad
 | .csetp o a j es,ρ,κ=>(evEs c es ρ κ).toO fun vs=>match vs.1 with
  | [v1,v2]=>(evE c o ρ vs.2).toO fun b=>(evE c a ρ b.2).toO fun q=>match b.1,q.1 with
   | .cell k,.int n=>match q.2[k]? with
    | some (.lst l)=>match L2.ixN l.length n with
     | some i=>.nx (ρ.set j (some (.val v2))) (q.2.set k (.lst (l.set i v1)))
     | none=>.bad
    | _=>.bad
   | _,_=>.bad
  | _=>.bad
 | .retO i,ρ,κ=>match rdO ρ i with
  | some l=>.ret (.lst l) κ
  | none=>.bad
 | .sfld k j o e,ρ,κ=>(evE c e ρ κ).toO fun v=>(evE c o ρ v.2).toO fun b=>match b.1 with
  | .cell i=>match b.2[i]? with
   | some (.obj k' l)=>if k'=k∧j≤l.length then .nx ρ (b.2.set i (.obj k (if j<l.length then l.set j v.1 else l++[v.1]))) else .bad
   | _=>.bad
  | _=>.bad
 | .appc i e,ρ,κ=>match rdO ρ i with
  | some l=>(evE c e ρ κ).toO fun p=>match p.1 with
   | .lst x=>if l.length<LINE then .nx (ρ.set i (some (.own (l++[.cell p.2.length])))) (p.2++[.lst x]) else .bad
   | _=>.bad
  | none=>.bad
 | .capp o e,ρ,κ=>(evE c o ρ κ).toO fun b=>match lcell b.2 b.1 with
  | some (i,_)=>(evE c e ρ b.2).toO fun v=>match lcell v.2 (.cell i) with
   | some (_,l)=>if l.length<LINE then .nx ρ (v.2.set i (.lst (l++[v.1]))) else .bad
   | none=>.bad
  | none=>.bad
 | .cins o e,ρ,κ=>(evE c o ρ κ).toO fun b=>match lcell b.2 b.1 with
  | some (i,_)=>(evE c e ρ b.2).toO fun v=>match lcell v.2 (.cell i) with
   | some (_,l)=>if l.length<LINE then .nx ρ (v.2.set i (.lst (v.1::l))) else .bad
   | none=>.bad
  | none=>.bad
 | .cclr o,ρ,κ=>(evE c o ρ κ).toO fun b=>match lcell b.2 b.1 with
  | some (i,_)=>.nx ρ (b.2.set i (.lst []))
  | none=>.bad
 | .raised k e,ρ,κ=>(evE c e ρ κ).toO fun p=>match p.1 with
  | .int n=>if 0≤n∧n<1000 then .exc (1000*(k+1)+n.toNat) .non p.2 else .bad
  | _=>.bad
 | .tryf e i j k,ρ,κ=>match evE c e ρ κ with
  | .ok p=>.nx ρ p.2
  | .exc c' .non κ'=>if c'/1000=k+1 then .nx ((ρ.set i (some (.val (.int (c' % 1000:Nat))))).set j none) κ' else .bad
  | _=>.bad
 | .tryr e k,ρ,κ=>match evE c e ρ κ with
  | .ok p=>.ret p.1 p.2
  | .exc c' .non κ'=>if c'/1000=k+1 then .ret (.int (c' % 1000:Nat)) κ' else .bad
  | _=>.bad
 | .oaug k f i e,ρ,κ=>match rdV ρ i with
  | some v=>(evE c e ρ κ).toO fun p=>if objB p.2 k v=true∧datV p.1=true then (c.cf f [.v v,.v p.1] p.2).toO fun q=>.nx (ρ.set i (some (.val q.1))) q.2 else .bad
  | none=>.bad
def exSs (c:CB):Ss→Rho→Ks→O
 | .nil,ρ,κ=>.nx ρ κ
 | .cons s l,ρ,κ=>(exS c s ρ κ).then fun ρ' κ'=>exSs c l ρ' κ'
end
def Ar.slot:Ar→Option Slot
 | .v u=>some (.val u)
 | .x y=>some (.ext y)
structure DefI where
 np:Nat
 n:Nat
 body:Ss
structure Tab where
 defs:Nat→Option DefI
 lams:Nat→Option E
 kin:Nat→Str
def cb (t:Tab):Nat→CB
  | 0=>⟨fun _ _ _=>.bad,fun _ _ _=>.bad,t.kin,none⟩
  | d + 1 => ⟨fun f args κ => match t.defs f with
      | some D=>if args.length=D.np then (exSs (cb t d) D.body (args.map Ar.slot++List.replicate (D.n-args.length) none) κ).fin else .bad
      | none=>.bad,
    fun k caps κ=>match t.lams k with
      | some e=>evE (cb t d) e (caps.map fun v=>some (.val v)) κ
      | none=>.bad,
    t.kin,some (cb t d).cf⟩
end PL
end
section
namespace PL
open PySem PySem.Spec PyProof.Rows L2 LamX NdefX
structure LamI where
 qual:Str
 params:Arguments
 body:Expr
 scope:Scope
 fr:List Str
structure Gx where
 K:PySem.W.Frag
 fnA:Nat→Option Addr
 lamI:Nat→Option LamI
 tabs:List NTab
 clsI:Nat→Option (Addr × List Str):=fun _=>none
 errI:Nat→Option (Addr × Str):=fun _=>none
inductive ScrAt (K:PySem.W.Frag)(J:Addr→Prop)(H:Hp)(a:Addr)(ns:List Int):Prop where
 | own (j:J a) (h:H a=some (.lst (ns.map V.int))):ScrAt K J H a ns
 | frz {o:Obj} (h:H a=some (.frz o (.lst (ns.map V.int)))):ScrAt K J H a ns
 | top (h:∀ H',SqL K H' a (ns.map V.int)):ScrAt K J H a ns
def anyO:HO:=.ext fun _=>True
def ErrAt (H:Hp)(C:Addr)(f:Str):Option Int→Addr→Prop
 | none,a=>∃ oe vs,H a=some (.frz oe anyO)∧oe.cls=.ref C∧oe.dict=none∧oe.data=.fields vs
 | some n,a=>∃ oe vs dx od,H a=some (.frz oe anyO)∧oe.cls=.ref C∧oe.dict=some dx∧oe.data=.fields vs∧H dx=some (.frz od (.xd [(f,.int n)]))
mutual
inductive RV (g:Gx)(J:Addr→Prop)(μ:List Addr)(H:Hp):Val→V→Prop where
 | non:RV g J μ H .non .non
 | bl (b:Bool):RV g J μ H (.bl b) (.bl b)
 | int (i:Int):RV g J μ H (.int i) (.int i)
 | str (x:Str):RV g J μ H (.str x) (.str x)
 | tup {a:Addr} {xs:List V} {l:List Val} (h:SqT g.K H a xs) (r:RVs g J μ H l xs):RV g J μ H (.tup l) (.ref a)
 | lst {a:Addr} {xs:List V} {l:List Val} (j:J a) (h:H a=some (.lst xs)) (r:RVs g J μ H l xs):RV g J μ H (.lst l) (.ref a)
 | fn {i:Nat} {a:Addr} (h:g.fnA i=some a):RV g J μ H (.fn i) (.ref a)
 | cell {i:Nat} {a:Addr} (h:μ[i]? = some a):RV g J μ H (.cell i) (.ref a)
 | scr {ns:List Int} {a:Addr} (h:ScrAt g.K J H a ns):RV g J μ H (.scr ns) (.ref a)
 | err {c:Nat} {v:Option Int} {a C:Addr} {f:Str} (hc:g.errI c=some (C,f)) (h:ErrAt H C f v a):RV g J μ H (.err c v) (.ref a)
inductive RVs (g:Gx)(J:Addr→Prop)(μ:List Addr)(H:Hp):List Val→List V→Prop where
 | nil:RVs g J μ H [] []
 | cons {v:Val} {x:V} {l:List Val} {xs:List V} (h:RV g J μ H v x) (t:RVs g J μ H l xs):RVs g J μ H (v::l) (x::xs)
end
structure Wd where
 I:Addr→Prop
 μ:List Addr
section
variable {g:Gx}{J J':Addr→Prop}{μ μ':List Addr}{H H':Hp}
structure Keeps (J J':Addr→Prop)(μ μ':List Addr)(H H':Hp):Prop where
 j:∀ a,J a→J' a
 m:∀ (i:Nat) a,μ[i]? = some a→μ'[i]? = some a
 l:∀ a o,J a→H a=some o→H' a=some o
 t:∀ a xs,H a=some (.tup xs)→H' a=some (.tup xs)
 f:∀ a o u,H a=some (.frz o u)→H' a=some (.frz o u)
theorem SqT.keeps {K:PySem.W.Frag}(k:Keeps J J' μ μ' H H'){a:Addr}{xs:List V}(h:SqT K H a xs):SqT K H' a xs:=by
 rcases h with (h|⟨o,h⟩)|h
 ·exact .inl (.inl (k.t _ _ h))
 ·exact .inl (.inr ⟨o,k.f _ _ _ h⟩)
 ·exact .inr h
theorem ScrAt.keeps {K:PySem.W.Frag}(k:Keeps J J' μ μ' H H'){a:Addr}{ns:List Int}(h:ScrAt K J H a ns):ScrAt K J' H' a ns:=by
 cases h with
 | own j h=>exact .own (k.j _ j) (k.l _ _ j h)
 | frz h=>exact .frz (k.f _ _ _ h)
 | top h=>exact .top h
theorem ErrAt.keeps (k:Keeps J J' μ μ' H H'){C:Addr}{f:Str}{v:Option Int}{a:Addr}(h:ErrAt H C f v a):ErrAt H' C f v a:=by
 cases v with
 | none=>
  obtain ⟨oe,vs,h1,h2,h3,h4⟩:=h
  exact ⟨oe,vs,k.f _ _ _ h1,h2,h3,h4⟩
 | some n=>
  obtain ⟨oe,vs,dx,od,h1,h2,h3,h4,h5⟩:=h
  exact ⟨oe,vs,dx,od,k.f _ _ _ h1,h2,h3,h4,k.f _ _ _ h5⟩
mutual
theorem RV.keeps (k:Keeps J J' μ μ' H H'):∀ {v:Val} {x:V},RV g J μ H v x→RV g J' μ' H' v x
 | _,_,.non=>.non
 | _,_,.bl b=>.bl b
 | _,_,.int i=>.int i
 | _,_,.str i=>.str i
 | _,_,.tup h r=>.tup (PL.SqT.keeps k h) (r.keeps k)
 | _,_,.lst j h r=>.lst (k.j _ j) (k.l _ _ j h) (r.keeps k)
 | _,_,.fn h=>.fn h
 | _,_,.cell h=>.cell (k.m _ _ h)
 | _,_,.scr h=>.scr (PL.ScrAt.keeps k h)
 | _,_,.err hc h=>.err hc (PL.ErrAt.keeps k h)
theorem RVs.keeps (k:Keeps J J' μ μ' H H'):∀ {l:List Val} {xs:List V},RVs g J μ H l xs→RVs g J' μ' H' l xs
 | _,_,.nil=>.nil
 | _,_,.cons h t=>.cons (h.keeps k) (t.keeps k)
end
end
end PL
end
section
namespace PL
open PySem PySem.Spec PyProof.Rows L2 LamX NdefX
section
variable {g:Gx}{X:Cx}{b:Bool}{w w':Wd}{κ:Ks}{H H' Hs:Hp}{ρ:Rho}{σ:L2.St}{a:Addr}{o o2:HO}{c2:Cell}
def Wd.cel (w:Wd)(a:Addr):Wd:=⟨w.I,w.μ++[a]⟩
end
section
variable {c:CB}{d:Nat}{p:Pl}{pos np q q2 pos2 pos':Pos}{i j:Nat}{x y z:Str}{a b e e1 e2 e3:Expr}{ea eb ee:E}{es:List Expr}{l:Es}{fr:Bool}
def Es.len:Es→Nat
 | .nil=>0
 | .cons _ l=>l.len+1
end
end PL
end
section
namespace PL
open PySem PySem.Spec PyProof.Rows L2 LamX NdefX
def excCB (K:PySem.W.Frag)(D:Addr):Bool:=
 decide (PySem.W.findIn K (.ref D) "__getattribute__" = some (some (.builtin "BaseException.__getattribute__")))&&(decide (PySem.W.findIn K (.ref D) "__getattr__" = some none)&&(decide (PySem.W.subIn K (.ref D) (.type "BaseException")=some true)&&(PySem.W.hasDictIn K D &&
 (decide (PySem.W.findIn K (.ref D) "__class__" = some (some (.builtin "object.__class__")))&&(decide (PySem.W.specialIn K (.builtin "object.__class__") "__get__" = some (some (.builtin "getset_descriptor.__get__")))&&(decide (PySem.W.takesIn K (.builtin "object.__class__")=some true)&&decide (PySem.W.mroIn K D (.type "object")=some true)))))))
def kinB (excs kins:List Str)(K:PySem.W.Frag):Bool:=
 excs.all fun x=>excCB K (He.ga K x)&&(decide (PySem.W.kitOne K (.ref (He.ga K x)) (.type "ValueError")=some true)&&(decide (PySem.W.exmOne K (.ref (He.ga K x)) (.ref (He.ga K "MarkError"))=some true)&&kins.all fun y=>decide (PySem.W.kitOne K (.ref (He.ga K x)) (.ref (He.ga K y))=some (decide (x=y)))))
end PL
end
section
namespace PL
open PySem PySem.Spec PyProof.Rows L2 LamX NdefX
def clsD (st:Stmt)(i:Nat):Stmt:=match st with
 | .ClassDef _ _ _ b .. => b.getD i (.Pass ⟨0,0,0,0⟩)
 | _=>.Pass ⟨0,0,0,0⟩
def oexB (K:PySem.W.Frag)(x f:Str):Bool:=
 (match K.lookup (He.ga K x) with
  | some ⟨.type "type", _,.cls cd,sl⟩=>(match cd.mro,sl.toList with
   | .ref C'::bm,[_,_,_,_,some (.builtin n),_]=>C' == He.ga K x&&(n == "ValueError.__new__" && (!cd.hasDel&&(cd.hasDict&&PySem.HandSPX.refsVE bm)))
   | _,_=>false)
  | _=>false) &&
 (He.eqO (PySem.W.findIn K (.ref (He.ga K x)) "__setattr__") (some (some (.builtin "object.__setattr__")))&&(decide (PySem.W.subIn K (.ref (He.ga K x)) (.type "BaseException")=some true)&&(decide (PySem.W.typeIn K (.ref (He.ga K x))=some (.type "type"))&&(PySem.W.keepIn K (.ref (He.ga K x)) &&
 (He.eqO (PySem.W.findIn K (.ref (He.ga K x)) "__init__") (some (some (.ref (He.fAd K (x,some "__init__")))))&&(decide (PySem.W.typeIn K (.ref (He.fAd K (x,some "__init__")))=some (.type "function"))&&(He.eqO (PySem.W.findIn K (.ref (He.ga K x)) f) (some none)&&xfB K (He.ga K x))))))))
def baseB (K:PySem.W.Frag)(x:Str):Bool:=PySem.W.readsIn K (He.ga K x) (.type "type")&&(He.eqO (PySem.W.specialIn K (.ref (He.ga K x)) "__getattribute__") (some (some (.builtin "type.__getattribute__"))) &&
 (match PySem.W.findCls K (.ref (He.ga K x)) (.type "type") "__init__" with
  | some (.val (.builtin n))=>n == "ValueError.__init__"
  | _=>false))
end PL
end
section
namespace K10
open PySem PL
def ir_is_whole:Ss:=
 (.cons (.ret (.and (.isi .int (.var 0)) (.and (.not (.isi .bool (.var 0))) (.chain .le .le (.var 1) (.var 0) (.var 2)))))
 .nil)
def ir_is_right_picture:Ss:=
 (.cons (.ite (.or (.not (.val (.isi .tuple (.var 0)))) (.not (.chain .le .le (.con (.int (3))) (.bi .len (.cons (.var 0) .nil)) (.con (.int (5)))))) (.cons (.ret (.con (.bl false)))
 .nil) .nil)
 (.cons (.ite (.or (.not (.val (.bi .all (.cons (.comp (.call 0 (.cons (.var 1) (.cons (.con (.int (0))) (.cons (.con (.int (60))) .nil)))) (.nm 1) (.seq (.var 0)) .no [1]) .nil)))) (.cm .ne (.ix (.var 0) (.con (.int (0)))) (.con (.int (0))))) (.cons (.ret (.con (.bl false)))
 .nil) .nil)
 (.cons (.ret (.bi .all (.cons (.comp (.cm .lt (.var 2) (.var 3)) (.tp (.cons (.nm 2) (.cons (.nm 3) .nil))) (.zip (.var 0) (.sl (.var 0) (.yes (.con (.int (1)))) .no)) .no [2,3]) .nil)))
 .nil)))
def ir_is_right_sum:Ss:=
 (.cons (.ite (.or (.not (.val (.isi .tuple (.var 1)))) (.not (.chain .le .le (.con (.int (1))) (.bi .len (.cons (.var 1) .nil)) (.con (.int (3)))))) (.cons (.ret (.con (.bl false)))
 .nil) .nil)
 (.cons (.loop (.nm 2) (.seq (.var 1)) (.cons (.ite (.or (.not (.val (.isi .tuple (.var 2)))) (.or (.cm .ne (.bi .len (.cons (.var 2) .nil)) (.con (.int (3)))) (.not (.val (.call 0 (.cons (.ix (.var 2) (.con (.int (0)))) (.cons (.con (.int (1))) (.cons (.con (.int (9))) .nil)))))))) (.cons (.ret (.con (.bl false)))
 .nil) .nil)
 (.cons (.ite (.or (.not (.val (.call 0 (.cons (.ix (.var 2) (.con (.int (1)))) (.cons (.con (.int (0))) (.cons (.op .sub (.bi .len (.cons (.var 0) .nil)) (.con (.int (2)))) .nil)))))) (.not (.val (.call 0 (.cons (.ix (.var 2) (.con (.int (2)))) (.cons (.op .add (.ix (.var 2) (.con (.int (1)))) (.con (.int (1)))) (.cons (.op .sub (.bi .len (.cons (.var 0) .nil)) (.con (.int (1)))) .nil))))))) (.cons (.ret (.con (.bl false)))
 .nil) .nil)
 .nil)))
 (.cons (.ret (.con (.bl true)))
 .nil)))
def ir_is_right_claim:Ss:=
 (.cons (.ite (.or (.not (.val (.isi .tuple (.var 1)))) (.or (.cm .ne (.bi .len (.cons (.var 1) .nil)) (.con (.int (3)))) (.or (.not (.val (.isi .str (.ix (.var 1) (.con (.int (0))))))) (.cm .notin (.ix (.var 1) (.con (.int (0)))) (.glob 0 (.tup [.str "less", .str "upto", .str "same"])))))) (.cons (.ret (.con (.bl false)))
 .nil) .nil)
 (.cons (.ret (.and (.call 2 (.cons (.var 0) (.cons (.ix (.var 1) (.con (.int (1)))) .nil))) (.call 2 (.cons (.var 0) (.cons (.ix (.var 1) (.con (.int (2)))) .nil)))))
 .nil))
def ir_are_right_facts:Ss:=
 (.cons (.ite (.or (.not (.val (.isi .tuple (.var 1)))) (.cm .gt (.bi .len (.cons (.var 1) .nil)) (.glob 0 (.int 4)))) (.cons (.ret (.con (.bl false)))
 .nil) .nil)
 (.cons (.ret (.bi .all (.cons (.comp (.call 3 (.cons (.var 0) (.cons (.var 2) .nil))) (.nm 2) (.seq (.var 1)) .no [2]) .nil)))
 .nil))
def ir_need_picture:Ss:=
 (.cons (.ite (.not (.val (.call 1 (.cons (.var 0) .nil)))) (.cons (.raise 0)
 .nil) .nil)
 .nil)
def ir_need_facts:Ss:=
 (.cons (.ite (.not (.val (.call 4 (.cons (.var 0) (.cons (.var 1) .nil))))) (.cons (.raise 1)
 .nil) .nil)
 .nil)
def ir_picture_line:Ss:=
 (.cons (.ret (.sm .join (.con (.str " ")) (.op .add (.lst (.cons (.con (.str "marks")) .nil)) (.comp (.bi .str (.cons (.var 1) .nil)) (.nm 1) (.seq (.var 0)) .no [1]))))
 .nil)
def ir_sum_words:Ss:=
 (.cons (.ret (.comp (.fstr (.cons (.fmt (.var 1)) (.cons (.con (.str "*")) (.cons (.fmt (.var 2)) (.cons (.con (.str "-")) (.cons (.fmt (.var 3)) .nil)))))) (.tp (.cons (.nm 1) (.cons (.nm 2) (.cons (.nm 3) .nil)))) (.seq (.var 0)) .no [1,2,3]))
 .nil)
def ir_claim_line:Ss:=
 (.cons (.ret (.sm .join (.con (.str " ")) (.op .add (.op .add (.op .add (.lst (.cons (.ix (.var 0) (.con (.int (0)))) .nil)) (.call 8 (.cons (.ix (.var 0) (.con (.int (1)))) .nil))) (.lst (.cons (.con (.str "by")) .nil))) (.call 8 (.cons (.ix (.var 0) (.con (.int (2)))) .nil)))))
 .nil)
def ir_whole_in:Ss:=
 (.cons (.set 1 (.comp (.var 2) (.nm 2) (.rng1 (.cons (.con (.int (61))) .nil)) (.yes (.cm .eq (.bi .str (.cons (.var 2) .nil)) (.var 0))) [2]))
 (.cons (.ret (.ite (.cm .ne (.var 1) (.lst .nil)) (.ix (.var 1) (.con (.int (0)))) (.con (.non))))
 .nil))
def ir_read_sum:Ss:=
 (.cons (.own 1 (.lst .nil))
 (.cons (.loop (.nm 2) (.seq (.var 0)) (.cons (.asg (.tp (.cons (.nm 3) (.cons (.nm 4) (.cons (.nm 5) .nil)))) (.sm .partition (.var 2) (.con (.str "*"))))
 (.cons (.asg (.tp (.cons (.nm 6) (.cons (.nm 7) (.cons (.nm 8) .nil)))) (.sm .partition (.var 5) (.con (.str "-"))))
 (.cons (.append 1 (.tup (.cons (.call 10 (.cons (.var 3) .nil)) (.cons (.call 10 (.cons (.var 6) .nil)) (.cons (.call 10 (.cons (.var 8) .nil)) .nil)))))
 .nil))))
 (.cons (.dg 1)
 (.cons (.ret (.ite (.cm .inD (.con (.non)) (.flat 9 10 (.var 1))) (.con (.non)) (.bi .tuple (.cons (.var 1) .nil))))
 .nil))))
def ir_read_claim:Ss:=
 (.cons (.set 1 (.sm .split (.var 0) (.con (.str " "))))
 (.cons (.ite (.or (.cm .notin (.ix (.var 1) (.con (.int (0)))) (.glob 0 (.tup [.str "less", .str "upto", .str "same"]))) (.cm .notin (.con (.str "by")) (.var 1))) (.cons (.ret (.con (.non)))
 .nil) .nil)
 (.cons (.set 2 (.lidx (.var 1) (.con (.str "by"))))
 (.cons (.set 3 (.tup (.cons (.ix (.var 1) (.con (.int (0)))) (.cons (.call 11 (.cons (.sl (.var 1) (.yes (.con (.int (1)))) (.yes (.var 2))) .nil)) (.cons (.call 11 (.cons (.sl (.var 1) (.yes (.op .add (.var 2) (.con (.int (1))))) .no) .nil)) .nil)))))
 (.cons (.ret (.ite (.and (.val (.call 3 (.cons (.glob 0 (.tup [.int (0),.int (1),.int (2),.int (3),.int (4)])) (.cons (.var 3) .nil)))) (.cm .eq (.call 9 (.cons (.var 3) .nil)) (.var 0))) (.var 3) (.con (.non))))
 .nil)))))
def ir_read_picture:Ss:=
 (.cons (.set 1 (.bi .tuple (.cons (.comp (.call 10 (.cons (.var 2) .nil)) (.nm 2) (.seq (.sl (.sm .split (.var 0) (.con (.str " "))) (.yes (.con (.int (1)))) .no)) .no [2]) .nil)))
 (.cons (.ret (.ite (.and (.val (.call 1 (.cons (.var 1) .nil))) (.cm .eq (.call 7 (.cons (.var 1) .nil)) (.var 0))) (.var 1) (.con (.non))))
 .nil))
def ir_road_text:Ss:=
 (.cons (.expr (.call 5 (.cons (.var 0) .nil)))
 (.cons (.expr (.call 6 (.cons (.var 0) (.cons (.var 1) .nil))))
 (.cons (.ret (.sm .join (.con (.str "\n")) (.op .add (.lst (.cons (.call 7 (.cons (.var 0) .nil)) .nil)) (.comp (.call 9 (.cons (.var 2) .nil)) (.nm 2) (.seq (.var 1)) .no [2]))))
 .nil)))
def ir_read_road:Ss:=
 (.cons (.ite (.not (.val (.isi .str (.var 0)))) (.cons (.raised 0 (.con (.int (0))))
 .nil) .nil)
 (.cons (.set 1 (.sm .split (.var 0) (.con (.str "\n"))))
 (.cons (.set 2 (.call 13 (.cons (.ix (.var 1) (.con (.int (0)))) .nil)))
 (.cons (.ite (.cm .is_ (.var 2) (.con (.non))) (.cons (.raised 0 (.con (.int (1))))
 .nil) .nil)
 (.cons (.set 3 (.tup .nil))
 (.cons (.loop (.tp (.cons (.nm 4) (.cons (.nm 5) .nil))) (.enum (.sl (.var 1) (.yes (.con (.int (1)))) .no)) (.cons (.set 6 (.call 12 (.cons (.var 5) .nil)))
 (.cons (.ite (.cm .is_ (.var 6) (.con (.non))) (.cons (.raised 0 (.op .add (.var 4) (.con (.int (2)))))
 .nil) .nil)
 (.cons (.set 3 (.op .add (.var 3) (.tup (.cons (.var 6) .nil))))
 .nil))))
 (.cons (.ite (.not (.val (.call 4 (.cons (.var 2) (.cons (.var 3) .nil))))) (.cons (.raised 0 (.op .add (.bi .len (.cons (.var 1) .nil)) (.con (.int (1)))))
 .nil) .nil)
 (.cons (.ret (.tup (.cons (.var 2) (.cons (.var 3) .nil))))
 .nil))))))))
def ir__law_spring:Ss:=
 (.cons (.set 2 (.ite (.cm .lt (.var 1) (.bi .len (.cons (.var 0) .nil))) (.bi .abs (.cons (.bi .int (.cons (.ix (.var 0) (.var 1)) .nil)) .nil)) (.op .add (.op .mul (.con (.int (6007))) (.var 1)) (.con (.int (29))))))
 (.cons (.ret (.lst (.cons (.ite (.cm .gt (.var 2) (.op .pow (.con (.int (10))) (.con (.int (15))))) (.var 2) (.con (.int (0)))) (.cons (.op .add (.op .mod (.bi .int (.cons (.op .add (.op .add (.op .mul (.var 2) (.con (.int (48611)))) (.op .mul (.con (.int (7907))) (.var 1))) (.con (.int (13)))) .nil)) (.con (.int (2147483587)))) (.con (.int (1)))) .nil))))
 .nil))
def ir__law_pick:Ss:=
 (.cons (.ite (.cm .gt (.ix (.var 0) (.con (.int (0)))) (.con (.int (0)))) (.cons (.set 2 (.op .mod (.bi .int (.cons (.ix (.var 0) (.con (.int (0)))) .nil)) (.var 1)))
 (.cons (.cseti (.var 0) (.con (.int (0))) (.op .fdiv (.ix (.var 0) (.con (.int (0)))) (.var 1)))
 (.cons (.ret (.var 2))
 .nil))) .nil)
 (.cons (.cseti (.var 0) (.con (.int (1))) (.op .mod (.bi .int (.cons (.op .add (.op .mul (.ix (.var 0) (.con (.int (1)))) (.con (.int (44021)))) (.con (.int (97)))) .nil)) (.con (.int (2147483587)))))
 (.cons (.set 3 (.op .mod (.bi .int (.cons (.op .mul (.ix (.var 0) (.con (.int (1)))) (.op .add (.op .fdiv (.ix (.var 0) (.con (.int (1)))) (.con (.int (7)))) (.con (.int (3))))) .nil)) (.con (.int (2147483563)))))
 (.cons (.ret (.op .mod (.bi .int (.cons (.op .fdiv (.var 3) (.con (.int (64)))) .nil)) (.var 1)))
 .nil))))
def ir__law_chosen:Ss:=
 (.cons (.ret (.ix (.var 1) (.call 17 (.cons (.var 0) (.cons (.bi .len (.cons (.var 1) .nil)) .nil)))))
 .nil)
def ir__law_shot:Ss:=
 (.cons (.set 2 (.tup (.cons (.con (.int (0))) .nil)))
 (.cons (.loop (.nm 3) (.rng1 (.cons (.op .add (.con (.int (2))) (.call 17 (.cons (.var 0) (.cons (.op .sub (.var 1) (.con (.int (2)))) .nil)))) .nil)) (.cons (.set 2 (.op .add (.var 2) (.tup (.cons (.op .add (.op .add (.ix (.var 2) (.neg (.con (.int (1))))) (.con (.int (1)))) (.call 17 (.cons (.var 0) (.cons (.call 18 (.cons (.var 0) (.cons (.lst (.cons (.con (.int (2))) (.cons (.con (.int (4))) (.cons (.con (.int (14))) .nil)))) .nil))) .nil)))) .nil))))
 .nil))
 (.cons (.ret (.var 2))
 .nil)))
def ir__law_lengths:Ss:=
 (.cons (.set 3 (.tup .nil))
 (.cons (.loop (.nm 4) (.rng1 (.cons (.op .add (.con (.int (1))) (.call 17 (.cons (.var 0) (.cons (.var 2) .nil)))) .nil)) (.cons (.set 5 (.call 17 (.cons (.var 0) (.cons (.op .sub (.bi .len (.cons (.var 1) .nil)) (.con (.int (1)))) .nil))))
 (.cons (.set 6 (.op .add (.op .add (.var 5) (.con (.int (1)))) (.call 17 (.cons (.var 0) (.cons (.op .sub (.op .sub (.bi .len (.cons (.var 1) .nil)) (.con (.int (1)))) (.var 5)) .nil)))))
 (.cons (.set 3 (.op .add (.var 3) (.tup (.cons (.tup (.cons (.op .add (.con (.int (1))) (.call 17 (.cons (.var 0) (.cons (.call 18 (.cons (.var 0) (.cons (.lst (.cons (.con (.int (1))) (.cons (.con (.int (3))) (.cons (.con (.int (9))) .nil)))) .nil))) .nil)))) (.cons (.var 5) (.cons (.var 6) .nil)))) .nil))))
 .nil))))
 (.cons (.ret (.var 3))
 .nil)))
def ir__law_saying:Ss:=
 (.cons (.set 2 (.call 18 (.cons (.var 0) (.cons (.lst (.cons (.con (.str "less")) (.cons (.con (.str "less")) (.cons (.con (.str "upto")) (.cons (.con (.str "same")) .nil))))) .nil))))
 (.cons (.ret (.tup (.cons (.var 2) (.cons (.call 20 (.cons (.var 0) (.cons (.var 1) (.cons (.con (.int (2))) .nil)))) (.cons (.call 20 (.cons (.var 0) (.cons (.var 1) (.cons (.con (.int (2))) .nil)))) .nil)))))
 .nil))
def ir__law_sayings:Ss:=
 (.cons (.ret (.bi .tuple (.cons (.comp (.call 21 (.cons (.var 0) (.cons (.var 1) .nil))) (.nm 3) (.rng1 (.cons (.call 17 (.cons (.var 0) (.cons (.op .add (.var 2) (.con (.int (1)))) .nil))) .nil)) .no [3]) .nil)))
 .nil)
def ir__law_came:Ss:=.cons (.came 0) .nil
def ir__law_all_say:Ss:=
 (.cons (.ret (.cm .eq (.filt 2 0 (.cm .ne (.call 24 (.ext 2 .nil)) (.tup (.cons (.con (.non)) (.cons (.op .add (.var 1) (.con (.str " value"))) .nil))))) (.lst .nil)))
 .nil)
def ir__law_twins:Ss:=
 (.cons (.ite (.cm .ne (.call 27 (.cons (.var 0) .nil)) (.call 27 (.cons (.var 1) .nil))) (.cons (.ret (.con (.bl false)))
 .nil) .nil)
 (.cons (.ite (.cm .in_ (.call 27 (.cons (.var 0) .nil)) (.lst (.cons (.con (.int (2))) (.cons (.con (.int (3))) .nil)))) (.cons (.ret (.and (.cm .eq (.bi .len (.cons (.var 0) .nil)) (.bi .len (.cons (.var 1) .nil))) (.cm .eq (.comp (.con (.int (1))) (.tp (.cons (.nm 2) (.cons (.nm 3) .nil))) (.zip (.var 0) (.var 1)) (.yes (.not (.val (.call 26 (.cons (.var 2) (.cons (.var 3) .nil)))))) [2,3]) (.lst .nil))))
 .nil) .nil)
 (.cons (.ret (.cm .eq (.var 0) (.var 1)))
 .nil)))
def ir__law_kind:Ss:=
 (.cons (.ite (.val (.isi .bool (.var 0))) (.cons (.ret (.con (.int (0))))
 .nil) .nil)
 (.cons (.ite (.val (.isi .int (.var 0))) (.cons (.ret (.con (.int (1))))
 .nil) .nil)
 (.cons (.ite (.val (.isi .list (.var 0))) (.cons (.ret (.con (.int (2))))
 .nil) .nil)
 (.cons (.ite (.val (.isi .tuple (.var 0))) (.cons (.ret (.con (.int (3))))
 .nil) .nil)
 (.cons (.ret (.ite (.val (.isi .str (.var 0))) (.con (.int (4))) (.con (.int (5)))))
 .nil)))))
def ir__law_words:Ss:=
 (.cons (.own 1 (.lst .nil))
 (.cons (.loop (.tp (.cons (.nm 2) (.cons (.nm 3) (.cons (.nm 4) .nil)))) (.seq (.var 0)) (.cons (.append 1 (.op .add (.op .add (.op .add (.op .add (.bi .str (.cons (.var 2) .nil)) (.con (.str "*"))) (.bi .str (.cons (.var 3) .nil))) (.con (.str "-"))) (.bi .str (.cons (.var 4) .nil))))
 .nil))
 (.cons (.dg 1)
 (.cons (.ret (.var 1))
 .nil))))
def ir__law_line:Ss:=
 (.cons (.ret (.sm .join (.con (.str " ")) (.op .add (.op .add (.op .add (.lst (.cons (.ix (.var 0) (.con (.int (0)))) .nil)) (.call 28 (.cons (.ix (.var 0) (.con (.int (1)))) .nil))) (.lst (.cons (.con (.str "by")) .nil))) (.call 28 (.cons (.ix (.var 0) (.con (.int (2)))) .nil)))))
 .nil)
def ir__law_text:Ss:=
 (.cons (.set 2 (.sm .join (.con (.str " ")) (.op .add (.lst (.cons (.con (.str "marks")) .nil)) (.comp (.bi .str (.cons (.var 3) .nil)) (.nm 3) (.seq (.var 0)) .no [3]))))
 (.cons (.ret (.sm .join (.con (.str "\n")) (.op .add (.lst (.cons (.var 2) .nil)) (.comp (.call 29 (.cons (.var 4) .nil)) (.nm 4) (.seq (.var 1)) .no [4]))))
 .nil))
def ir__law_number:Ss:=
 (.cons (.set 1 (.comp (.var 2) (.nm 2) (.rng1 (.cons (.con (.int (61))) .nil)) (.yes (.cm .eq (.bi .str (.cons (.var 2) .nil)) (.var 0))) [2]))
 (.cons (.ret (.ite (.cm .ne (.var 1) (.lst .nil)) (.ix (.var 1) (.con (.int (0)))) (.neg (.con (.int (1))))))
 .nil))
def ir__law_marks:Ss:=
 (.cons (.set 1 (.sm .split (.var 0) (.con (.str " "))))
 (.cons (.set 2 (.comp (.call 31 (.cons (.var 3) .nil)) (.nm 3) (.seq (.sl (.var 1) (.yes (.con (.int (1)))) .no)) .no [3]))
 (.cons (.ite (.or (.cm .ne (.ix (.var 1) (.con (.int (0)))) (.con (.str "marks"))) (.or (.not (.chain .le .le (.con (.int (3))) (.bi .len (.cons (.var 2) .nil)) (.con (.int (5))))) (.cm .ne (.ix (.var 2) (.con (.int (0)))) (.con (.int (0)))))) (.cons (.ret (.con (.non)))
 .nil) .nil)
 (.cons (.ret (.ite (.and (.cm .notin (.neg (.con (.int (1)))) (.var 2)) (.cm .eq (.sset (.var 2)) (.var 2))) (.bi .tuple (.cons (.var 2) .nil)) (.con (.non))))
 .nil))))
def ir__law_part:Ss:=
 (.cons (.ite (.or (.cm .ne (.bi .len (.cons (.var 0) .nil)) (.con (.int (5)))) (.or (.cm .ne (.ix (.var 0) (.con (.int (1)))) (.con (.str "*"))) (.cm .ne (.ix (.var 0) (.con (.int (3)))) (.con (.str "-"))))) (.cons (.ret (.con (.non)))
 .nil) .nil)
 (.cons (.asg (.tp (.cons (.nm 1) (.cons (.nm 2) (.cons (.nm 3) .nil)))) (.comp (.call 31 (.cons (.ix (.var 0) (.var 4)) .nil)) (.nm 4) (.seq (.lst (.cons (.con (.int (0))) (.cons (.con (.int (2))) (.cons (.con (.int (4))) .nil))))) .no [4]))
 (.cons (.ret (.ite (.and (.cm .gt (.var 1) (.con (.int (0)))) (.chain3 .le .lt .lt (.con (.int (0))) (.var 2) (.var 3) (.con (.int (5))))) (.tup (.cons (.var 1) (.cons (.var 2) (.cons (.var 3) .nil)))) (.con (.non))))
 .nil)))
def ir__law_claimed:Ss:=
 (.cons (.set 1 (.sm .split (.var 0) (.con (.str " "))))
 (.cons (.ite (.or (.cm .notin (.ix (.var 1) (.con (.int (0)))) (.lst (.cons (.con (.str "less")) (.cons (.con (.str "upto")) (.cons (.con (.str "same")) .nil))))) (.cm .ne (.lcnt (.var 1) (.con (.str "by"))) (.con (.int (1))))) (.cons (.ret (.con (.non)))
 .nil) .nil)
 (.cons (.set 2 (.lidx (.var 1) (.con (.str "by"))))
 (.cons (.par [(3,false),(4,false)] (.cons (.comp (.call 33 (.cons (.var 5) .nil)) (.nm 5) (.seq (.sl (.var 1) (.yes (.con (.int (1)))) (.yes (.var 2)))) .no [5]) (.cons (.comp (.call 33 (.cons (.var 5) .nil)) (.nm 5) (.seq (.sl (.var 1) (.yes (.op .add (.var 2) (.con (.int (1))))) .no)) .no [5]) .nil)))
 (.cons (.ite (.or (.not (.chain .le .le (.con (.int (1))) (.bi .len (.cons (.var 3) .nil)) (.con (.int (3))))) (.or (.not (.chain .le .le (.con (.int (1))) (.bi .len (.cons (.var 4) .nil)) (.con (.int (3))))) (.cm .inD (.con (.non)) (.op .add (.var 3) (.var 4))))) (.cons (.ret (.con (.non)))
 .nil) .nil)
 (.cons (.ret (.tup (.cons (.ix (.var 1) (.con (.int (0)))) (.cons (.bi .tuple (.cons (.var 3) .nil)) (.cons (.bi .tuple (.cons (.var 4) .nil)) .nil)))))
 .nil))))))
def ir__law_due:Ss:=
 (.cons (.ite (.not (.val (.isi .str (.var 0)))) (.cons (.ret (.con (.int (0))))
 .nil) .nil)
 (.cons (.par [(1,false),(2,false)] (.cons (.sm .split (.var 0) (.con (.str "\n"))) (.cons (.tup .nil) .nil)))
 (.cons (.set 3 (.call 32 (.cons (.ix (.var 1) (.con (.int (0)))) .nil)))
 (.cons (.ite (.cm .is_ (.var 3) (.con (.non))) (.cons (.ret (.con (.int (1))))
 .nil) .nil)
 (.cons (.loop (.tp (.cons (.nm 4) (.cons (.nm 5) .nil))) (.enum (.sl (.var 1) (.yes (.con (.int (1)))) .no)) (.cons (.set 6 (.call 34 (.cons (.var 5) .nil)))
 (.cons (.ite (.cm .is_ (.var 6) (.con (.non))) (.cons (.ret (.op .add (.var 4) (.con (.int (2)))))
 .nil) .nil)
 (.cons (.set 2 (.op .add (.var 2) (.tup (.cons (.var 6) .nil))))
 .nil))))
 (.cons (.set 7 (.lst .nil))
 (.cons (.loop (.nm 6) (.seq (.var 2)) (.cons (.set 7 (.op .add (.var 7) (.comp (.con (.int (1))) (.nm 8) (.seq (.op .add (.ix (.var 6) (.con (.int (1)))) (.ix (.var 6) (.con (.int (2)))))) (.yes (.cm .ge (.ix (.var 8) (.con (.int (2)))) (.bi .len (.cons (.var 3) .nil)))) [8])))
 .nil))
 (.cons (.ret (.ite (.and (.cm .lt (.bi .len (.cons (.var 2) .nil)) (.con (.int (5)))) (.cm .eq (.var 7) (.lst .nil))) (.tup (.cons (.var 3) (.cons (.var 2) .nil))) (.op .add (.bi .len (.cons (.var 1) .nil)) (.con (.int (1))))))
 .nil))))))))
def ir__law_read:Ss:=
 (.cons (.tryr (.call 15 (.cons (.var 0) .nil)) 0)
 .nil)
def ir__law_bent:Ss:=
 (.cons (.par [(2,false),(3,false),(4,false)] (.cons (.call 17 (.cons (.var 0) (.cons (.op .add (.bi .len (.cons (.var 1) .nil)) (.con (.int (1)))) .nil))) (.cons (.call 17 (.cons (.var 0) (.cons (.con (.int (7))) .nil))) (.cons (.sm .split (.var 1) (.con (.str "\n"))) .nil))))
 (.cons (.set 5 (.call 17 (.cons (.var 0) (.cons (.bi .len (.cons (.var 4) .nil)) .nil))))
 (.cons (.ite (.cm .eq (.var 3) (.con (.int (0)))) (.cons (.ret (.op .add (.op .add (.sl (.var 1) .no (.yes (.var 2))) (.call 18 (.cons (.var 0) (.cons (.lst (.cons (.con (.str " ")) (.cons (.con (.str "1")) (.cons (.con (.str "0")) (.cons (.con (.str "*")) (.cons (.con (.str "-")) (.cons (.con (.str "\n")) (.cons (.con (.str "by")) (.cons (.con (.str "\nless 1*0-1 by 1*1-2")) .nil))))))))) .nil)))) (.sl (.var 1) (.yes (.var 2)) .no)))
 .nil) .nil)
 (.cons (.ite (.cm .eq (.var 3) (.con (.int (1)))) (.cons (.ret (.op .add (.sl (.var 1) .no (.yes (.var 2))) (.sl (.var 1) (.yes (.op .add (.var 2) (.con (.int (1))))) .no)))
 .nil) .nil)
 (.cons (.ite (.cm .eq (.var 3) (.con (.int (2)))) (.cons (.ret (.sm .join (.con (.str "\n")) (.op .add (.sl (.var 4) .no (.yes (.var 5))) (.sl (.var 4) (.yes (.op .add (.var 5) (.con (.int (1))))) .no))))
 .nil) .nil)
 (.cons (.ite (.cm .eq (.var 3) (.con (.int (3)))) (.cons (.ret (.sm .join (.con (.str "\n")) (.op .add (.sl (.var 4) .no (.yes (.op .add (.var 5) (.con (.int (1)))))) (.sl (.var 4) (.yes (.var 5)) .no))))
 .nil) .nil)
 (.cons (.ite (.cm .eq (.var 3) (.con (.int (4)))) (.cons (.ret (.sm .join (.con (.str "\n")) (.rev (.var 4))))
 .nil) .nil)
 (.cons (.set 6 (.sm .split (.ix (.var 4) (.var 5)) (.con (.str " "))))
 (.cons (.set 7 (.call 17 (.cons (.var 0) (.cons (.bi .len (.cons (.var 6) .nil)) .nil))))
 (.cons (.set 8 (.call 18 (.cons (.var 0) (.cons (.lst (.cons (.con (.str "1*0-1")) (.cons (.con (.str "2*1-4")) (.cons (.con (.str "0*0-1")) (.cons (.con (.str "3*2-1")) (.cons (.con (.str "by")) (.cons (.con (.str "less")) (.cons (.con (.str "same")) (.cons (.con (.str "4")) (.cons (.con (.str "59")) (.cons (.con (.str "61")) (.cons (.con (.str "Marks")) (.cons (.con (.str "")) (.cons (.con (.str "01")) .nil)))))))))))))) .nil))))
 (.cons (.set 9 (.sl (.var 6) (.yes (.op .add (.var 7) (.bi .int (.cons (.cm .gt (.var 3) (.con (.int (5)))) .nil)))) .no))
 (.cons (.set 10 (.sm .join (.con (.str " ")) (.op .add (.op .add (.sl (.var 6) .no (.yes (.var 7))) (.lst (.cons (.var 8) .nil))) (.var 9))))
 (.cons (.ret (.sm .join (.con (.str "\n")) (.op .add (.op .add (.sl (.var 4) .no (.yes (.var 5))) (.lst (.cons (.var 10) .nil))) (.sl (.var 4) (.yes (.op .add (.var 5) (.con (.int (1))))) .no))))
 .nil)))))))))))))
def ir__law_written:Ss:=
 (.cons (.asg (.tp (.cons (.nm 0) (.cons (.nm 1) (.cons (.nm 2) .nil)))) (.tup (.cons (.tup (.cons (.con (.int (0))) (.cons (.con (.int (1))) (.cons (.con (.int (3))) .nil)))) (.cons (.tup (.cons (.tup (.cons (.con (.int (1))) (.cons (.con (.int (0))) (.cons (.con (.int (1))) .nil)))) .nil)) (.cons (.tup (.cons (.tup (.cons (.con (.int (1))) (.cons (.con (.int (1))) (.cons (.con (.int (2))) .nil)))) .nil)) .nil)))))
 (.cons (.ite (.or (.cm .ne (.call 14 (.cons (.var 0) (.cons (.tup (.cons (.tup (.cons (.con (.str "same")) (.cons (.var 1) (.cons (.var 2) .nil)))) .nil)) .nil))) (.con (.str "marks 0 1 3\nsame 1*0-1 by 1*1-2"))) (.cm .ne (.call 14 (.cons (.var 0) (.cons (.tup .nil) .nil))) (.con (.str "marks 0 1 3")))) (.cons (.ret (.con (.bl false)))
 .nil) .nil)
 (.cons (.set 3 (.tup (.cons (.tup (.cons (.con (.int (0))) (.cons (.con (.int (1))) (.cons (.con (.int (3))) .nil)))) (.cons (.tup (.cons (.tup (.cons (.con (.str "upto")) (.cons (.tup (.cons (.tup (.cons (.con (.int (2))) (.cons (.con (.int (0))) (.cons (.con (.int (1))) .nil)))) (.cons (.tup (.cons (.con (.int (1))) (.cons (.con (.int (1))) (.cons (.con (.int (2))) .nil)))) .nil))) (.cons (.tup (.cons (.tup (.cons (.con (.int (9))) (.cons (.con (.int (0))) (.cons (.con (.int (2))) .nil)))) .nil)) .nil)))) .nil)) .nil))))
 (.cons (.ite (.or (.cm .ne (.call 15 (.cons (.con (.str "marks 0 1 3\nupto 2*0-1 1*1-2 by 9*0-2")) .nil)) (.var 3)) (.cm .ne (.call 15 (.cons (.con (.str "marks 0 2 4")) .nil)) (.tup (.cons (.tup (.cons (.con (.int (0))) (.cons (.con (.int (2))) (.cons (.con (.int (4))) .nil)))) (.cons (.tup .nil) .nil))))) (.cons (.ret (.con (.bl false)))
 .nil) .nil)
 (.cons (.set 4 (.con (.str "\nless 1*0-1 by 1*1-2")))
 (.cons (.set 5 (.lst (.cons (.tup (.cons (.con (.str "")) (.cons (.con (.int (1))) .nil))) (.cons (.tup (.cons (.con (.non)) (.cons (.con (.int (0))) .nil))) (.cons (.tup (.cons (.con (.str "marks 0 1")) (.cons (.con (.int (1))) .nil))) (.cons (.tup (.cons (.con (.str "marks 1 2 3")) (.cons (.con (.int (1))) .nil))) (.cons (.tup (.cons (.con (.str "marks 0 1 61")) (.cons (.con (.int (1))) .nil))) (.cons (.tup (.cons (.con (.str "marks 0 1 3\n")) (.cons (.con (.int (2))) .nil))) .nil))))))))
 (.cons (.set 5 (.op .add (.var 5) (.lst (.cons (.tup (.cons (.op .add (.con (.str "marks 0 1 3")) (.op .mul (.var 4) (.con (.int (5))))) (.cons (.con (.int (7))) .nil))) (.cons (.tup (.cons (.con (.str "marks 0 1 3\nless 1*0-3 by 1*0-1")) (.cons (.con (.int (3))) .nil))) (.cons (.tup (.cons (.con (.str "marks 0 01 3")) (.cons (.con (.int (1))) .nil))) .nil))))))
 (.cons (.set 5 (.op .add (.var 5) (.lst (.cons (.tup (.cons (.op .add (.op .add (.con (.str "marks 0 1 3")) (.var 4)) (.con (.str "\nless by 1*0-1"))) (.cons (.con (.int (3))) .nil))) (.cons (.tup (.cons (.con (.str "marks 0 1 3\nless 1*0-5 by 1*0-1")) (.cons (.con (.int (2))) .nil))) .nil)))))
 (.cons (.set 5 (.op .add (.var 5) (.lst (.cons (.tup (.cons (.con (.str "marks 0 1 3\nless 1*0-1 by")) (.cons (.con (.int (2))) .nil))) (.cons (.tup (.cons (.con (.str "marks 0 1 3\nless 10*0-1 by 1*0-1")) (.cons (.con (.int (2))) .nil))) (.cons (.tup (.cons (.con (.str "marks  0 1 3")) (.cons (.con (.int (1))) .nil))) .nil))))))
 (.cons (.set 5 (.op .add (.var 5) (.lst (.cons (.tup (.cons (.con (.str "marks 0 1 3\nsame 1*0-1 by 1*0-1 by 1*0-1")) (.cons (.con (.int (2))) .nil))) (.cons (.tup (.cons (.con (.str "marks 0 1 3\nmore 1*0-1 by 1*0-1")) (.cons (.con (.int (2))) .nil))) .nil)))))
 (.cons (.set 5 (.op .add (.var 5) (.lst (.cons (.tup (.cons (.op .add (.op .add (.con (.str "marks 0 1 3")) (.var 4)) (.con (.str " 1*0-1 1*0-1 1*0-1"))) (.cons (.con (.int (2))) .nil))) (.cons (.tup (.cons (.con (.str "Marks 0 1 3")) (.cons (.con (.int (1))) .nil))) (.cons (.tup (.cons (.con (.str "picture 0 1 3")) (.cons (.con (.int (1))) .nil))) .nil))))))
 (.cons (.ret (.cm .eq (.comp (.var 6) (.tp (.cons (.nm 6) (.cons (.nm 3) .nil))) (.seq (.var 5)) (.yes (.cm .ne (.call 36 (.cons (.var 6) .nil)) (.var 3))) [6,3]) (.lst .nil)))
 .nil))))))))))))
def ir_law:Ss:=
 (.cons (.loop (.nm 1) (.rng1 (.cons (.bi .max2 (.cons (.con (.int (5))) (.cons (.bi .min2 (.cons (.con (.int (12))) (.cons (.bi .len (.cons (.var 0) .nil)) .nil))) .nil))) .nil)) (.cons (.cel 2 (.call 16 (.cons (.var 0) (.cons (.var 1) .nil))))
 (.cons (.set 3 (.call 19 (.cons (.var 2) (.cons (.con (.int (5))) .nil))))
 (.cons (.set 4 (.call 22 (.cons (.var 2) (.cons (.var 3) (.cons (.con (.int (4))) .nil)))))
 (.cons (.set 5 (.call 30 (.cons (.var 3) (.cons (.var 4) .nil))))
 (.cons (.ite (.or (.cm .ne (.call 14 (.cons (.var 3) (.cons (.var 4) .nil))) (.var 5)) (.not (.val (.call 26 (.cons (.call 15 (.cons (.var 5) .nil)) (.cons (.tup (.cons (.var 3) (.cons (.var 4) .nil))) .nil)))))) (.cons (.ret (.con (.bl false)))
 .nil) .nil)
 (.cons (.loop (.nm 6) (.rng1 (.cons (.con (.int (14))) .nil)) (.cons (.set 7 (.call 37 (.cons (.var 2) (.cons (.var 5) .nil))))
 (.cons (.set 7 (.ite (.cm .eq (.op .mod (.var 6) (.con (.int (3)))) (.con (.int (0)))) (.call 37 (.cons (.var 2) (.cons (.var 7) .nil))) (.var 7)))
 (.cons (.ite (.not (.val (.call 26 (.cons (.call 36 (.cons (.var 7) .nil)) (.cons (.call 35 (.cons (.var 7) .nil)) .nil))))) (.cons (.ret (.con (.bl false)))
 .nil) .nil)
 .nil))))
 (.cons (.loop (.nm 8) (.seq (.lst (.cons (.con (.non)) (.cons (.con (.int (5))) (.cons (.tup (.cons (.var 5) .nil)) (.cons (.lst (.cons (.var 5) .nil)) .nil)))))) (.cons (.ite (.cm .ne (.call 36 (.cons (.var 8) .nil)) (.con (.int (0)))) (.cons (.ret (.con (.bl false)))
 .nil) .nil)
 .nil))
 (.cons (.setC 9 (.lams [(2,[3])]))
 (.cons (.ite (.not (.val (.call 25 (.clos (.add (.var 9) (.lams [(1,[3,4])])) (.cons (.con (.str "facts")) .nil))))) (.cons (.ret (.con (.bl false)))
 .nil) .nil)
 (.cons (.ite (.not (.val (.call 25 (.clos (.lams [(0,[5])]) (.cons (.con (.str "picture")) .nil))))) (.cons (.ret (.con (.bl false)))
 .nil) .nil)
 .nil)))))))))))
 (.cons (.ret (.call 38 .nil))
 .nil))
def irl0:E:=(.call 14 (.cons (.var 0) (.cons (.con (.non)) .nil)))
def irl1:E:=(.call 14 (.cons (.var 0) (.cons (.op .add (.var 1) (.tup (.cons (.con (.non)) .nil))) .nil)))
def irl2:E:=(.call 14 (.cons (.var 0) (.cons (.con (.non)) .nil)))
def defs:Nat→Option DefI
 | 0=>some ⟨3,3,ir_is_whole⟩
 | 1=>some ⟨1,4,ir_is_right_picture⟩
 | 2=>some ⟨2,3,ir_is_right_sum⟩
 | 3=>some ⟨2,2,ir_is_right_claim⟩
 | 4=>some ⟨2,3,ir_are_right_facts⟩
 | 5=>some ⟨1,1,ir_need_picture⟩
 | 6=>some ⟨2,2,ir_need_facts⟩
 | 7=>some ⟨1,2,ir_picture_line⟩
 | 8=>some ⟨1,4,ir_sum_words⟩
 | 9=>some ⟨1,1,ir_claim_line⟩
 | 10=>some ⟨1,3,ir_whole_in⟩
 | 11=>some ⟨1,11,ir_read_sum⟩
 | 12=>some ⟨1,4,ir_read_claim⟩
 | 13=>some ⟨1,3,ir_read_picture⟩
 | 14=>some ⟨2,3,ir_road_text⟩
 | 15=>some ⟨1,7,ir_read_road⟩
 | 16=>some ⟨2,3,ir__law_spring⟩
 | 17=>some ⟨2,4,ir__law_pick⟩
 | 18=>some ⟨2,2,ir__law_chosen⟩
 | 19=>some ⟨2,4,ir__law_shot⟩
 | 20=>some ⟨3,7,ir__law_lengths⟩
 | 21=>some ⟨2,3,ir__law_saying⟩
 | 22=>some ⟨3,4,ir__law_sayings⟩
 | 24=>some ⟨1,2,ir__law_came⟩
 | 25=>some ⟨2,3,ir__law_all_say⟩
 | 26=>some ⟨2,4,ir__law_twins⟩
 | 27=>some ⟨1,1,ir__law_kind⟩
 | 28=>some ⟨1,5,ir__law_words⟩
 | 29=>some ⟨1,1,ir__law_line⟩
 | 30=>some ⟨2,5,ir__law_text⟩
 | 31=>some ⟨1,3,ir__law_number⟩
 | 32=>some ⟨1,4,ir__law_marks⟩
 | 33=>some ⟨1,5,ir__law_part⟩
 | 34=>some ⟨1,6,ir__law_claimed⟩
 | 35=>some ⟨1,9,ir__law_due⟩
 | 36=>some ⟨1,2,ir__law_read⟩
 | 37=>some ⟨2,11,ir__law_bent⟩
 | 38=>some ⟨0,7,ir__law_written⟩
 | 39=>some ⟨1,10,ir_law⟩
 | _=>none
def lamE:Nat→Option E
 | 0=>some irl0
 | 1=>some irl1
 | 2=>some irl2
 | _=>none
def cidx (c:Nat):Nat:=if c<1000 then (if c<2 then c else 0) else 2
def kcS (i:Nat):Str:=(["picture value", "facts value", "text value"]:List Str).getD i "picture value"
def kinS (c:Nat):Str:=kcS (cidx c)
def tab:Tab:=⟨defs,lamE,kinS⟩
end K10
end
section
namespace K10
open PySem PySem.Spec PyProof.Rows L2 LamX NdefX PL
abbrev pw:Program:=PySem.Challenge.pw_leanmarks_k10_pictures_written_and_read
def top (i:Nat):Stmt:=pw.main.body.getD i (.Pass ⟨0,0,0,0⟩)
def fnNames:List Str:=(["is_whole", "is_right_picture", "is_right_sum", "is_right_claim", "are_right_facts", "need_picture", "need_facts", "picture_line", "sum_words", "claim_line", "whole_in", "read_sum", "read_claim", "read_picture", "road_text", "read_road", "_law_spring", "_law_pick", "_law_chosen", "_law_shot"]:List Str)++(["_law_lengths", "_law_saying", "_law_sayings", "_law_kin", "_law_came", "_law_all_say", "_law_twins", "_law_kind", "_law_words", "_law_line", "_law_text", "_law_number", "_law_marks", "_law_part", "_law_claimed", "_law_due", "_law_read", "_law_bent", "_law_written", "law"]:List Str)
def freeNames:List Str:=["isinstance", "bool", "int", "zip", "all", "len", "tuple", "str", "range", "enumerate", "abs", "list", "sorted", "set", "min", "max"]
def excNames:List Str:=["InvalidPicture", "InvalidFacts"]
def kinNames:List Str:=["InvalidPicture", "InvalidLean", "InvalidSum", "InvalidClaim", "InvalidFacts", "InvalidMark", "InvalidNumber", "InvalidIndex", "Impossible", "Unlike", "NotOne", "NothingToUndo", "TooMany", "InvalidText", "ValueError"]
end K10
end
section
set_option maxHeartbeats 2000000
namespace PL
open PySem PySem.Spec PyProof.Rows L2
def hasB (m a:Nat):Bool:=Nat.beq (Nat.land (Nat.shiftRight m a) 1) 1
def addsM:List Addr→Nat→List Addr→(Nat→List Addr→Nat × List Addr)→Nat × List Addr
 | [],m,l,k=>k m l
 | a::r,m,l,k=>if hasB m a=true then addsM r m l k else addsM r (Nat.lor m (Nat.shiftLeft 1 a)) (a::l) k
def levelM (g:Addr→Option Obj):List Addr→Nat→List Addr→Nat × List Addr
 | [],m,l=>(m,l)
 | a::r,m,l=>match g a with
  | some o=>addsM (He.refsD o) m l fun m l=>levelM g r m l
  | none=>levelM g r m l
def seesM (g:Addr→Option Obj):Nat→List Addr→Nat→List Addr
 | 0,fr,_=>fr
 | n+1,fr,m=>match levelM g fr m [] with
  | (m',fr')=>fr++seesM g n fr' m'
def asM (n:Nat)(g:Addr→Option Obj):List Addr:=seesM g n [mainGlobals,PySem.cStatics] (Nat.lor (Nat.shiftLeft 1 mainGlobals) (Nat.shiftLeft 1 PySem.cStatics))
section
variable (AS:(Addr→Option Obj)→List Addr)(fa:List He.Fa)(fn:List He.DefD)(ts:List He.Tab)(tf:List He.Defn)(ex:PySem.W.Frag→Bool)
def obsZ (g:Addr→Option Obj):He.AlX:=(He.obsT fa fn ts (He.frT g (AS g)),ex (He.frT g (AS g))&&He.tabsB g tf (He.frT g (AS g)))
theorem saysZ {w:World}{h:Heap}(e:obsZ AS fa fn ts tf ex h.get? = He.valX fn ts w):He.SaysX fa fn ts tf ex w h (He.frT h.get? (AS h.get?)):=by
 unfold obsZ at e
 generalize hK:He.frT h.get? (AS h.get?)=K at e ⊢
 injection e with e1 e2
 obtain ⟨m1,m2⟩:=He.ba e2
 have each:∀ p∈tf,PySem.W.codeHdIn K (He.cT K p).1 (He.cT K p).2=true∧K.lookup (He.cT K p).2=none∧h.get? (He.cT K p).2=some { cls:=.none,data:=.fields #[] }:=fun p hp=>by
  obtain ⟨c1,c2⟩:=He.ba (List.all_eq_true.mp m2 p hp)
  split at c2
  case h_2=>cases c2
  case h_1 o ho=>
   refine ⟨c1,?_,by rw [ho,He.emptyTab_eq c2]⟩
   have:=He.frT_none (as:=AS h.get?) ho c2
   rwa [hK] at this
 exact { t:=e1,more:=m1,hd:=fun p hp=>(each p hp).1,out:=fun p hp=>(each p hp).2.1,empty:=fun p hp=>(each p hp).2.2 }
def hookZ:PySem.W.Hook where
 α:=He.AlX
 obs:=fun st=>obsZ AS fa fn ts tf ex st.heap.get?
 val:=fun w=>He.valX fn ts w
 says:=fun w h=>∃ K:PySem.W.Frag,K.In h∧He.SaysX fa fn ts tf ex w h K
 of:=fun _ _ e=>⟨_,He.frT_in,saysZ AS fa fn ts tf ex e⟩
 keeps:=(He.hookX 0 fa fn ts tf ex).keeps
theorem obsZ_eq {g:Addr→Option Obj}{st:Shared}(h:∀ a,g a=st.heap.get? a):obsZ AS fa fn ts tf ex g=(hookZ AS fa fn ts tf ex).obs st:=congrArg _ (funext h)
end
end PL
end
section
namespace K10
open PySem PySem.Spec PyProof.Rows L2 LamX NdefX PL
abbrev dDf (n:Str)(i:Nat):He.DefD:=⟨(n,none),n,n,defArgs (top i),defBody (top i),defScope (top i),[],[]⟩
def fn:List He.DefD:=
 ([dDf "is_whole" 19,
  dDf "is_right_picture" 20,
  dDf "is_right_sum" 21,
  dDf "is_right_claim" 22,
  dDf "are_right_facts" 23,
  dDf "need_picture" 24,
  dDf "need_facts" 25,
  dDf "picture_line" 28,
  dDf "sum_words" 29,
  dDf "claim_line" 30,
  dDf "whole_in" 31,
  dDf "read_sum" 32,
  dDf "read_claim" 33,
  dDf "read_picture" 34,
  dDf "road_text" 35,
  dDf "read_road" 36,
  dDf "_law_spring" 38,
  dDf "_law_pick" 39,
  dDf "_law_chosen" 40,
  dDf "_law_shot" 41]:List He.DefD) ++
 ([dDf "_law_lengths" 42,
  dDf "_law_saying" 43,
  dDf "_law_sayings" 44,
  dDf "_law_kin" 45,
  dDf "_law_came" 46,
  dDf "_law_all_say" 47,
  dDf "_law_twins" 48,
  dDf "_law_kind" 49,
  dDf "_law_words" 50,
  dDf "_law_line" 51,
  dDf "_law_text" 52,
  dDf "_law_number" 53,
  dDf "_law_marks" 54,
  dDf "_law_part" 55,
  dDf "_law_claimed" 56,
  dDf "_law_due" 57,
  dDf "_law_read" 58,
  dDf "_law_bent" 59,
  dDf "_law_written" 60,
  dDf "law" 61]:List He.DefD) ++
 ([⟨("InvalidText", some "__init__"), "__init__", "InvalidText.__init__", defArgs (clsD (top 15) 0),defBody (clsD (top 15) 0),defScope (clsD (top 15) 0),[],[]⟩]:List He.DefD)
def miscF:List He.Fa:=([.int "MOST_FACTS" (4),.glo "WORDS", .glo "WIDE", .glo "MarkError", .free "ValueError", .glo "InvalidText"]:List He.Fa)
def fa:List He.Fa:=fnNames.map He.Fa.glo++(fnNames.map He.Fa.keep++(freeNames.map He.Fa.free++(excNames.map He.Fa.exc++(excNames.map He.Fa.glo++(kinNames.dropLast.map He.Fa.glo++miscF)))))
def ex (K:PySem.W.Frag):Bool:=(kinB excNames kinNames.dropLast K)&&((He.tupB K "WORDS" [.str "less", .str "upto", .str "same"])&&((He.tupB K "WIDE" [.int (0),.int (1),.int (2),.int (3),.int (4)])&&((baseB K "MarkError")&&((oexB K "InvalidText" "line")&&(decide (PySem.W.exmOne K (.ref (He.ga K "InvalidText")) (.ref (He.ga K "InvalidText"))=some true))))))
def tf:List He.Defn:=[("law", none)]
abbrev Rr:PySem.W.OpenRow:=PySem.W.OpenLaw.row PySem.Challenge.rw_leanmarks_k10_pictures_written_and_read
abbrev hk:PySem.W.Hook:=hookZ (asM 4) fa fn [] tf ex
def ob (s:PySem.W.SharedT):He.AlX:=obsZ (asM 4) fa fn [] tf ex (HandSHeadRun.getT s)
theorem ob_eq (s:PySem.W.SharedT):ob s=hk.obs s.abs:=obsZ_eq (asM 4) fa fn [] tf ex (HandSHeadRun.getT_eq s)
def loose:List Str:=(["MarkError", "InvalidPicture", "InvalidLean", "InvalidSum", "InvalidClaim", "InvalidFacts", "InvalidMark", "InvalidNumber", "InvalidIndex", "Impossible", "Unlike", "NotOne", "NothingToUndo", "TooMany", "InvalidText", "WORDS", "MOST_FACTS", "is_whole", "is_right_picture", "is_right_sum"]:List Str)++(["is_right_claim", "are_right_facts", "need_picture", "need_facts", "WIDE", "picture_line", "sum_words", "claim_line", "whole_in", "read_sum", "read_claim", "read_picture", "road_text", "read_road", "_law_spring", "_law_pick", "_law_chosen", "_law_shot", "_law_lengths", "_law_saying"]:List Str)++(["_law_sayings", "_law_kin", "_law_came", "_law_all_say", "_law_twins", "_law_kind", "_law_words", "_law_line", "_law_text", "_law_number", "_law_marks", "_law_part", "_law_claimed", "_law_due", "_law_read", "_law_bent", "_law_written"]:List Str)
section
open PySem.W PySem.Calls
theorem run_b (w:World)(os:OsState):(HandSHeadRun.endF (HandSHeadRun.stepQ (HandSHeadRun.denQ HandSHeadRun.tabQ) Rr.prog w) 20000 Rr.prog w os).map (fun s=>HandSHeadRun.looksF Rr.prog (boot_heap w.params) s.abs)=some true:=by
 kernel_rfl
theorem run_c (w:World)(os:OsState):(HandSHeadRun.endF (HandSHeadRun.stepQ (HandSHeadRun.denQ HandSHeadRun.tabQ) Rr.prog w) 20000 Rr.prog w os).map (fun s=>HandSHeadRun.seenQ (PySem.W.view Rr.prog [61]) loose (importedModules Rr.prog.main.body) (fun s=>PySem.W.xlAt (PySem.W.view Rr.prog [61]) [] s&&PySem.W.recOk Rr.toRowW.records s) s.abs)=some (PySem.W.openGood (PySem.W.view Rr.prog [61]) loose):=by
 kernel_rfl
theorem run_d0 (w:World)(os:OsState):(HandSHeadRun.endF (HandSHeadRun.stepQ (HandSHeadRun.denQ HandSHeadRun.tabQ) Rr.prog w) 20000 Rr.prog w os).map (fun s=>fa.all fun f=>f.ok (He.frT (HandSHeadRun.getT s) (asM 4 (HandSHeadRun.getT s))))=some true:=by
 kernel_rfl
theorem run_d4 (w:World)(os:OsState):(HandSHeadRun.endF (HandSHeadRun.stepQ (HandSHeadRun.denQ HandSHeadRun.tabQ) Rr.prog w) 20000 Rr.prog w os).map (fun s=>fn.all fun d=>d.ok (He.frT (HandSHeadRun.getT s) (asM 4 (HandSHeadRun.getT s))))=some true:=by
 kernel_rfl
theorem run_d2 (w:World)(os:OsState):(HandSHeadRun.endF (HandSHeadRun.stepQ (HandSHeadRun.denQ HandSHeadRun.tabQ) Rr.prog w) 20000 Rr.prog w os).map (fun s=>fn.map fun d=>He.fnW (He.frT (HandSHeadRun.getT s) (asM 4 (HandSHeadRun.getT s))) d.at_)=some (fn.map He.DefD.val):=by
 kernel_rfl
theorem run_d3 (w:World)(os:OsState):(HandSHeadRun.endF (HandSHeadRun.stepQ (HandSHeadRun.denQ HandSHeadRun.tabQ) Rr.prog w) 20000 Rr.prog w os).map (fun s=>ex (He.frT (HandSHeadRun.getT s) (asM 4 (HandSHeadRun.getT s)))&&He.tabsB (HandSHeadRun.getT s) tf (He.frT (HandSHeadRun.getT s) (asM 4 (HandSHeadRun.getT s))))=some true:=by
 kernel_rfl
end
end K10
end
section
open PySem PySem.W PySem.Calls PyProof.Rows
theorem K10.bare0:(OpenLaw.row PySem.Challenge.rw_leanmarks_k10_pictures_written_and_read).prog.bare:=⟨rfl,rfl,rfl,rfl,rfl,by decide +kernel⟩
theorem K10.top0 (run:∀ w,HandSHeadRun.RunEq (OpenLaw.row PySem.Challenge.rw_leanmarks_k10_pictures_written_and_read) (view (OpenLaw.row PySem.Challenge.rw_leanmarks_k10_pictures_written_and_read).prog [61]) K10.hk K10.ob 20000 K10.loose w)
  (call:WalkO (view (OpenLaw.row PySem.Challenge.rw_leanmarks_k10_pictures_written_and_read).prog [61]) K10.loose (XL (view (OpenLaw.row PySem.Challenge.rw_leanmarks_k10_pictures_written_and_read).prog [61]) []) K10.hk.says (OpenLaw.row PySem.Challenge.rw_leanmarks_k10_pictures_written_and_read).toRowW (HandSHeadRun.topDef (OpenLaw.row PySem.Challenge.rw_leanmarks_k10_pictures_written_and_read).prog 61) [] fun f vs=>PySem.call f vs):PySem.Challenge.rw_leanmarks_k10_pictures_written_and_read.Holds:=by
 w_on;o_law
 refine HandSHeadRun.head_any (r:=OpenLaw.row PySem.Challenge.rw_leanmarks_k10_pictures_written_and_read) (q:=view (OpenLaw.row PySem.Challenge.rw_leanmarks_k10_pictures_written_and_read).prog [61]) (H:=K10.hk) (ob:=K10.ob) (M:=20000) (loose:=K10.loose) (d:=HandSHeadRun.topDef (OpenLaw.row PySem.Challenge.rw_leanmarks_k10_pictures_written_and_read).prog 61) (kwd:=[]) K10.ob_eq
  (by kernel_rfl) (fun s=>by kernel_rfl) run (by kernel_rfl) (by kernel_rfl) (by kernel_rfl) (by rfl) (by first|assumption|decide +kernel) (by decide +kernel) K10.bare0 ?hw call
 w_witness2
end
section
namespace K10
open PySem PL
theorem s_written (d:Nat)(κ:Ks):(cb tab (d+14)).cf 38 [] κ=.ok (.bl true,κ):=by kernel_rfl
end K10
end
section
namespace PL
open PySem
namespace R
@[simp] theorem bind_ok {α β:Type}(a:α)(f:α→R β):(R.ok a).bind f=f a:=rfl
@[simp] theorem bind_exc {α β:Type}(c p k)(f:α→R β):(R.exc c p k).bind f=.exc c p k:=rfl
@[simp] theorem bind_bad {α β:Type}(f:α→R β):(R.bad:R α).bind f=.bad:=rfl
@[simp] theorem ofO_some {α:Type}(a:α):ofO (some a)=.ok a:=rfl
@[simp] theorem ofO_none {α:Type}:ofO (none:Option α)=.bad:=rfl
end R
mutual
theorem Val.eqb_refl:∀ a:Val,Val.eqb a a=true
 | .non=>rfl
 | .bl a=>by simp [Val.eqb]
 | .int a=>decide_eq_true rfl
 | .str a=>decide_eq_true rfl
 | .tup l=>by simp only [Val.eqb];exact Val.eqbs_refl l
 | .lst l=>by simp only [Val.eqb];exact Val.eqbs_refl l
 | .fn a=>decide_eq_true rfl
 | .cell a=>decide_eq_true rfl
 | .scr a=>decide_eq_true rfl
 | .err c v=>by simp [Val.eqb]
theorem Val.eqbs_refl:∀ l:List Val,Val.eqbs l l=true
 | []=>rfl
 | a::l=>by simp only [Val.eqbs,Val.eqb_refl a,Val.eqbs_refl l,Bool.and_self]
end
mutual
theorem Val.eqb_eq:∀ (a b:Val),Val.eqb a b=true→a=b
 | .non,b,h=>by cases b <;> simp_all [Val.eqb]
 | .bl a,b,h=>by cases b <;> simp_all [Val.eqb]
 | .int a,b,h=>by cases b <;> simp_all [Val.eqb]
 | .str a,b,h=>by cases b <;> simp_all [Val.eqb]
 | .tup l,.tup m,h=>by rw [Val.eqbs_eq l m (by simpa only [Val.eqb] using h)]
 | .lst l,.lst m,h=>by rw [Val.eqbs_eq l m (by simpa only [Val.eqb] using h)]
 | .fn a,b,h=>by cases b <;> simp_all [Val.eqb]
 | .cell a,b,h=>by cases b <;> simp_all [Val.eqb]
 | .scr a,b,h=>by cases b <;> simp_all [Val.eqb]
 | .err c v,b,h=>by cases b <;> simp_all [Val.eqb]
theorem Val.eqbs_eq:∀ (l m:List Val),Val.eqbs l m=true→l=m
 | [],[],_=>rfl
 | a::l,b::m,h=>by
  simp only [Val.eqbs,Bool.and_eq_true] at h
  rw [Val.eqb_eq a b h.1,Val.eqbs_eq l m h.2]
end
theorem BIG_eq:BIG=2^400000:=by unfold BIG;exact Eq.refl _
theorem maxI_ge:∀ (l:List Int) (x:Int),x≤maxI x l∧∀ y∈l,y≤maxI x l
 | [],x=>⟨Int.le_refl _,fun y h=>by cases h⟩
 | y::l,x=>by
  have h:=maxI_ge l (if x<y then y else x)
  show x≤maxI (if x<y then y else x) l∧∀ z∈y::l,z≤maxI (if x<y then y else x) l
  refine ⟨by have:=h.1;split at this <;> omega,fun z hz => ?_⟩
  rcases List.mem_cons.mp hz with e|hz
  ·subst e;have:=h.1;split at this <;> omega
  ·exact h.2 z hz
theorem maxI_mem:∀ (l:List Int) (x:Int),maxI x l∈x::l
 | [],x=>List.mem_cons_self
 | y::l,x=>by
  have h:=maxI_mem l (if x<y then y else x)
  show maxI (if x<y then y else x) l∈_
  rcases List.mem_cons.mp h with e|h
  ·rw [e];split
   ·exact List.mem_cons_of_mem _ List.mem_cons_self
   ·exact List.mem_cons_self
  ·exact List.mem_cons_of_mem _ (List.mem_cons_of_mem _ h)
theorem minI_le:∀ (l:List Int) (x:Int),minI x l≤x∧∀ y∈l,minI x l≤y
 | [],x=>⟨Int.le_refl _,fun y h=>by cases h⟩
 | y::l,x=>by
  have h:=minI_le l (if y<x then y else x)
  show minI (if y<x then y else x) l≤x∧∀ z∈y::l,minI (if y<x then y else x) l≤z
  refine ⟨by have:=h.1;split at this <;> omega,fun z hz => ?_⟩
  rcases List.mem_cons.mp hz with e|hz
  ·subst e;have:=h.1;split at this <;> omega
  ·exact h.2 z hz
theorem minI_mem:∀ (l:List Int) (x:Int),minI x l∈x::l
 | [],x=>List.mem_cons_self
 | y::l,x=>by
  have h:=minI_mem l (if y<x then y else x)
  show minI (if y<x then y else x) l∈_
  rcases List.mem_cons.mp h with e|h
  ·rw [e];split
   ·exact List.mem_cons_of_mem _ List.mem_cons_self
   ·exact List.mem_cons_self
  ·exact List.mem_cons_of_mem _ (List.mem_cons_of_mem _ h)
@[simp] theorem R.toO_ok {α:Type}(a:α)(f:α→O):(R.ok a).toO f=f a:=rfl
@[simp] theorem R.toO_exc {α:Type}(c p k)(f:α→O):(R.exc c p k).toO f=.exc c p k:=rfl
@[simp] theorem R.toO_bad {α:Type}(f:α→O):(R.bad:R α).toO f=.bad:=rfl
@[simp] theorem O.then_nx (ρ κ)(f:Rho→Ks→O):(O.nx ρ κ).then f=f ρ κ:=rfl
@[simp] theorem O.then_ret (v κ)(f:Rho→Ks→O):(O.ret v κ).then f=.ret v κ:=rfl
@[simp] theorem O.then_exc (c p κ)(f:Rho→Ks→O):(O.exc c p κ).then f=.exc c p κ:=rfl
@[simp] theorem O.then_bad (f:Rho→Ks→O):O.bad.then f=.bad:=rfl
@[simp] theorem O.fin_nx (ρ κ):(O.nx ρ κ).fin=.ok (.non,κ):=rfl
@[simp] theorem O.fin_ret (v κ):(O.ret v κ).fin=.ok (v,κ):=rfl
@[simp] theorem O.fin_exc (c p κ):(O.exc c p κ).fin=.exc c p κ:=rfl
@[simp] theorem O.fin_bad:O.bad.fin=.bad:=rfl
end PL
end
section
namespace PL
open PySem PySem.Spec PyProof.Rows L2 LamX NdefX
def LamO (f:Addr)(L:LamI)(cl:List (Str × Addr))(c':Addr):HO:=
 .ext fun h=>∃ pm ctv:Value,h.get? f=some (PySem.W.kla_obj "<lambda>" L.qual L.params L.body L.scope cl pm c' ctv)
theorem ScrAt.sq {K:PySem.W.Frag}{J:Addr→Prop}{H:Hp}{a:Addr}{ns:List Int}(h:ScrAt K J H a ns):SqL K H a (ns.map V.int):=by
 cases h with
 | own _ h=>exact .of h
 | frz h=>exact .inl (.inr ⟨_,h⟩)
 | top h=>exact h H
section
variable {g:Gx}{J J':Addr→Prop}{μ μ':List Addr}{H H':Hp}
theorem RVs.length:∀ {l:List Val} {xs:List V},RVs g J μ H l xs→l.length=xs.length
 | _,_,.nil=>rfl
 | _,_,.cons _ t=>by simp [RVs.length t]
theorem RVs.get:∀ {l:List Val} {xs:List V} {i:Nat} {v:Val},RVs g J μ H l xs→l[i]? = some v→∃ x,xs[i]? = some x∧RV g J μ H v x
 | _,_,_,_,.nil,e=>by simp at e
 | _,_,0,_,.cons r _,e=>by simp at e;subst e;exact ⟨_,rfl,r⟩
 | _,_,i+1,v,.cons _ t,e=>by
  obtain ⟨x,h1,h2⟩:=RVs.get (i:=i) (v:=v) t (by simpa using e)
  exact ⟨x,by simpa using h1,h2⟩
theorem RVs.get':∀ {l:List Val} {xs:List V} {i:Nat} {x:V},RVs g J μ H l xs→xs[i]? = some x→∃ v,l[i]? = some v∧RV g J μ H v x
 | _,_,_,_,.nil,e=>by simp at e
 | _,_,0,_,.cons r _,e=>by simp at e;subst e;exact ⟨_,rfl,r⟩
 | _,_,i+1,v,.cons _ t,e=>by
  obtain ⟨x,h1,h2⟩:=RVs.get' (i:=i) (x:=v) t (by simpa using e)
  exact ⟨x,by simpa using h1,h2⟩
theorem RVs.append:∀ {l m:List Val} {xs ys:List V},RVs g J μ H l xs→RVs g J μ H m ys→RVs g J μ H (l++m) (xs++ys)
 | _,_,_,_,.nil,s=>s
 | _,_,_,_,.cons r t,s=>.cons r (RVs.append t s)
theorem RVs.set:∀ {l:List Val} {xs:List V} {v:Val} {x:V} (i:Nat),RV g J μ H v x→RVs g J μ H l xs→RVs g J μ H (l.set i v) (xs.set i x)
 | _,_,_,_,_,_,.nil=>.nil
 | _,_,_,_,0,r,.cons _ t=>.cons r t
 | _,_,_,_,i+1,r,.cons q t=>.cons q (RVs.set i r t)
theorem RVs.take:∀ {l:List Val} {xs:List V} (n:Nat),RVs g J μ H l xs→RVs g J μ H (l.take n) (xs.take n)
 | _,_,0,_=>.nil
 | _,_,_+1,.nil=>.nil
 | _,_,n+1,.cons r t=>.cons r (RVs.take n t)
theorem RVs.drop:∀ {l:List Val} {xs:List V} (n:Nat),RVs g J μ H l xs→RVs g J μ H (l.drop n) (xs.drop n)
 | _,_,0,r=>r
 | _,_,_+1,.nil=>.nil
 | _,_,n+1,.cons _ t=>RVs.drop n t
theorem RVs.dropLast:∀ {l:List Val} {xs:List V},RVs g J μ H l xs→RVs g J μ H l.dropLast xs.dropLast
 | _,_,.nil=>.nil
 | _,_,.cons _ .nil=>.nil
 | _,_,.cons r (.cons q t)=>.cons r (RVs.dropLast (.cons q t))
theorem RVs.reverse {l:List Val}{xs:List V}(r:RVs g J μ H l xs):RVs g J μ H l.reverse xs.reverse:=by
 induction l generalizing xs with
 | nil=>cases r;exact .nil
 | cons v l ih=>cases r with|cons r t=>simp only [List.reverse_cons];exact (ih t).append (.cons r .nil)
theorem RVs.isEmpty {l:List Val}{xs:List V}(r:RVs g J μ H l xs):l.isEmpty=xs.isEmpty:=by cases r <;> rfl
end
def isC:HO→Bool
 | .lst _=>true
 | .dK _=>true
 | .ins _ _ _=>true
 | _=>false
inductive CellOk (g:Gx)(J:Addr→Prop)(μ:List Addr)(H:Hp)(a:Addr):Cell→Prop where
 | lst {l:List Val} {xs:List V} (h:H a=some (.lst xs)) (r:RVs g J μ H l xs):CellOk g J μ H a (.lst l)
 | dct {l:List (Str × Val)} {kvs:List (L2.Key × V)} (h:H a=some (.dK kvs)) (k:kvs.map (·.1)=l.map fun p=>Sum.inr p.1) (r:RVs g J μ H (l.map (·.2)) (kvs.map (·.2))):CellOk g J μ H a (.dct l)
 | obj {c:Nat} {l:List Val} {C dx:Addr} {ns:List Str} {fs:List (Str × V)} (hc:g.clsI c=some (C,ns)) (h:H a=some (.ins C dx fs)) (k:∀ i x,i<l.length→ns[i]? = some x→∃ v y,l[i]? = some v∧fs.lookup x=some y∧RV g J μ H v y) (ln:l.length≤ns.length)
   (out:∀ x,x ∉ ns.take l.length→fs.lookup x=none) (sz:fs.length≤l.length):CellOk g J μ H a (.obj c l)
theorem CellOk.keeps {g:Gx}{J J':Addr→Prop}{μ μ':List Addr}{H H':Hp}(k:Keeps J J' μ μ' H H'){a:Addr}(same:∀ o,isC o=true→H a=some o→H' a=some o){c:Cell}(r:CellOk g J μ H a c):CellOk g J' μ' H' a c:=by
 cases r with
 | lst h r=>exact .lst (same _ rfl h) (r.keeps k)
 | dct h k' r=>exact .dct (same _ rfl h) k' (r.keeps k)
 | obj hc h k' ln out sz=>exact .obj hc (same _ rfl h) (fun i x hi e=>by
   obtain ⟨v,y,h1,h2,h3⟩:=k' i x hi e
   exact ⟨v,y,h1,h2,h3.keeps k⟩) ln out sz
theorem CellOk.there {g:Gx}{J:Addr→Prop}{μ:List Addr}{H:Hp}{a:Addr}{c:Cell}(r:CellOk g J μ H a c):∃ o,H a=some o∧isC o=true:=by
 cases r with
 | lst h r=>exact ⟨_,h,rfl⟩
 | dct h k' r=>exact ⟨_,h,rfl⟩
 | obj hc h k' ln out sz=>exact ⟨_,h,rfl⟩
structure WF (g:Gx)(w:Wd)(κ:Ks)(H:Hp):Prop where
 len:w.μ.length=κ.length
 at_:∀ (i:Nat) a,w.μ[i]? = some a→∃ c,κ[i]? = some c∧CellOk g w.I w.μ H a c
 nd:∀ (i j:Nat) a,w.μ[i]? = some a→w.μ[j]? = some a→i=j
 dis:∀ a∈w.μ,¬ w.I a
 dom:∀ a,w.I a→∃ xs,H a=some (.lst xs)
 tab:TabsN g.tabs H
structure Ext (w:Wd)(H:Hp)(w':Wd)(H':Hp):Prop where
 I:∀ a,w.I a→w'.I a
 new:∀ a,w'.I a→w.I a∨H a=none
 mu:∃ t,w'.μ=w.μ++t∧∀ a∈t,H a=none
 fr:∀ a o,H a=some o→a ∉ w.μ→(∀ ps,o ≠ .tbl ps)→H' a=some o
 dm:∀ a,H' a=none→H a=none
section
variable {g:Gx}{w w' w'':Wd}{κ:Ks}{H H' H'':Hp}
theorem Ext.refl (w:Wd)(H:Hp):Ext w H w H:=⟨fun _ h=>h,fun _ h=>.inl h,⟨[],by simp⟩,fun _ _ h _ _=>h,fun _ h=>h⟩
theorem Ext.trans (a:Ext w H w' H')(b:Ext w' H' w'' H''):Ext w H w'' H'' where
 I:=fun x h=>b.I x (a.I x h)
 new:=fun x h=>(b.new x h).elim (a.new x) fun h=>.inr (a.dm x h)
 mu:=by
  obtain ⟨t,e,ht⟩:=a.mu
  obtain ⟨u,e',hu⟩:=b.mu
  refine ⟨t++u,by rw [e',e,List.append_assoc],fun x hx => ?_⟩
  rcases List.mem_append.mp hx with h|h
  ·exact ht x h
  ·exact a.dm x (hu x h)
 fr:=fun x o h n nt=>b.fr x o (a.fr x o h n nt) (fun z=>by
  obtain ⟨t,e,ht⟩:=a.mu
  rw [e] at z
  rcases List.mem_append.mp z with z|z
  ·exact n z
  ·rw [ht x z] at h;cases h) nt
 dm:=fun x h=>a.dm x (b.dm x h)
theorem WF.nomu (wf:WF g w κ H){a:Addr}{o:HO}(h:H a=some o)(n:isC o=false):a ∉ w.μ:=fun z=>by
 obtain ⟨i,hi⟩:=List.mem_iff_getElem?.mp z
 obtain ⟨c,_,e⟩:=wf.at_ i a hi
 obtain ⟨o',e1,e2⟩:=e.there
 rw [h] at e1;cases e1
 rw [n] at e2;cases e2
theorem Ext.keeps (e:Ext w H w' H')(wf:WF g w κ H){J J':Addr→Prop}(hj:∀ a,J a→J' a)(hm:∀ a,J a→a ∉ w.μ)(hd:∀ a,J a→∃ xs,H a=some (.lst xs)):Keeps J J' w.μ w'.μ H H' where
  j:=hj
  m := fun i a h => by
    obtain ⟨t,et,_⟩:=e.mu
    rw [et]
    rw [List.getElem?_append_left (List.getElem?_eq_some_iff.mp h).1]
    exact h
  l := fun a o j h => e.fr a o h (hm a j) fun ps z => by
    obtain ⟨xs,r⟩:=hd a j
    rw [h] at r;cases r;cases z
  t:=fun a xs h=>e.fr a _ h (wf.nomu h rfl) (by intro _ z;cases z)
  f:=fun a o u h=>e.fr a _ h (wf.nomu h rfl) (by intro _ z;cases z)
theorem Ext.exts (e:Ext w H w' H')(wf:WF g w κ H){a:Addr}{φ:Heap→Prop}(h:H a=some (.ext φ)):H' a=some (.ext φ):=e.fr a _ h (wf.nomu h rfl) (by intro _ z;cases z)
theorem Ext.keepsI (e:Ext w H w' H')(wf:WF g w κ H):Keeps w.I w'.I w.μ w'.μ H H':=
 e.keeps wf e.I (fun a h z=>wf.dis a z h) wf.dom
theorem RV.ext (e:Ext w H w' H')(wf:WF g w κ H){v:Val}{x:V}(r:RV g w.I w.μ H v x):RV g w'.I w'.μ H' v x:=r.keeps (e.keepsI wf)
theorem RVs.ext (e:Ext w H w' H')(wf:WF g w κ H){v:List Val}{x:List V}(r:RVs g w.I w.μ H v x):RVs g w'.I w'.μ H' v x:=r.keeps (e.keepsI wf)
theorem Ext.upd_new (wf:WF g w κ H){a:Addr}(n:H a=none)(o:HO):Ext w H w (upd H a o):=
 ⟨fun _ h=>h,fun _ h=>.inl h,⟨[],by simp⟩,fun b u h _ _=>by rw [upd_ne (ne_of_none h n)];exact h,fun b h=>by
  unfold upd at h;split at h
  ·cases h
  ·exact h⟩
theorem Ext.wf (e:Ext w H w' H')(wf:WF g w κ H)(hw:w'.μ=w.μ)(hI:∀ a,w'.I a→∃ xs,H' a=some (.lst xs))(hT:TabsN g.tabs H')(hc:∀ a∈w.μ,∀ o,isC o=true→H a=some o→H' a=some o)(hd:∀ a∈w.μ,¬ w'.I a):WF g w' κ H' where
 len:=by rw [hw];exact wf.len
 at_:=fun i a h=>by
  rw [hw] at h
  obtain ⟨c,h1,h2⟩:=wf.at_ i a h
  exact ⟨c,h1,h2.keeps (e.keepsI wf) (hc a (List.mem_of_getElem? h))⟩
 nd:=fun i j a h1 h2=>by rw [hw] at h1 h2;exact wf.nd i j a h1 h2
 dis:=fun a h=>by rw [hw] at h;exact hd a h
 dom:=hI
 tab:=hT
theorem TabsN.upd {T:List NTab}(t:TabsN T H){a:Addr}(n:H a=none)(o:HO):TabsN T (upd H a o):=t.ext fun b u h=>by rw [upd_ne (ne_of_none h n)];exact h
theorem Rd.upd {a b:Addr}{o u:HO}(h:Rd H b u)(n:H a=none):Rd (upd H a o) b u:=by
 rcases h with h|⟨x,h⟩
 ·exact .inl (by rw [upd_ne (ne_of_none h n)];exact h)
 ·exact .inr ⟨x,by rw [upd_ne (ne_of_none h n)];exact h⟩
theorem WF.mu_some (wf:WF g w κ H){a:Addr}(h:a∈w.μ):∃ o,H a=some o:=by
 obtain ⟨i,hi⟩:=List.mem_iff_getElem?.mp h
 obtain ⟨c,_,e⟩:=wf.at_ i a hi
 obtain ⟨o,e,_⟩:=e.there
 exact ⟨_,e⟩
theorem WF.upd_new (wf:WF g w κ H){a:Addr}(n:H a=none)(o:HO):WF g w κ (upd H a o):=
 (Ext.upd_new wf n o).wf wf rfl (fun b h=>by
  obtain ⟨xs,r⟩:=wf.dom b h
  exact ⟨xs,by rw [upd_ne (ne_of_none r n)];exact r⟩) (PL.TabsN.upd wf.tab n o) (fun b hb o _ h=>by rw [upd_ne (ne_of_none h n)];exact h) wf.dis
def Wd.fix (w:Wd)(a:Addr):Wd:=⟨fun b=>w.I b∨b=a,w.μ⟩
theorem Ext.fix (e:Ext w H w' H'){a:Addr}(n:H a=none):Ext w H (w'.fix a) H' where
 I:=fun x h=>.inl (e.I x h)
 new:=fun x h=>by
  rcases h with h|h
  ·exact e.new x h
  ·rw [h];exact .inr n
 mu:=e.mu
 fr:=e.fr
 dm:=e.dm
theorem WF.fix (wf:WF g w κ H){a:Addr}{xs:List V}(h:H a=some (.lst xs))(n:a ∉ w.μ):WF g (w.fix a) κ H where
 len:=wf.len
 at_:=fun i b hb=>by
  obtain ⟨c,h1,h2⟩:=wf.at_ i b hb
  exact ⟨c,h1,h2.keeps ⟨fun _ z=>.inl z,fun _ _ z=>z,fun _ _ _ z=>z,fun _ _ z=>z,fun _ _ _ z=>z⟩ fun _ _ z=>z⟩
 nd:=wf.nd
 dis:=fun b hb z=>by
  rcases z with z|z
  ·exact wf.dis b hb z
  ·rw [z] at hb;exact n hb
 dom:=fun b z=>by
  rcases z with z|z
  ·exact wf.dom b z
  ·rw [z];exact ⟨xs,h⟩
 tab:=wf.tab
theorem Keeps.fix {a:Addr}{μ:List Addr}{H:Hp}{I:Addr→Prop}:Keeps I (fun b=>I b∨b=a) μ μ H H:=⟨fun _ z=>.inl z,fun _ _ z=>z,fun _ _ _ z=>z,fun _ _ z=>z,fun _ _ _ z=>z⟩
theorem fix_new (wf:WF g w κ H){a:Addr}(n:H a=none)(xs:List V):Ext w H (w.fix a) (upd H a (.lst xs))∧WF g (w.fix a) κ (upd H a (.lst xs)):=by
 have nm:a ∉ w.μ:=fun z=>by
  obtain ⟨o,e⟩:=wf.mu_some z
  rw [n] at e;cases e
 exact ⟨(Ext.upd_new wf n _).fix n,(wf.upd_new n _).fix upd_same nm⟩
end
def ObjX (c:Addr)(o:Obj):HO:=.ext fun h=>h.get? c=some o
structure Cap where
 y:Str
 c:Addr
 o:Obj
 u:Value
inductive RX1 (g:Gx)(w:Wd)(H:Hp):Nat→List Val→V→Prop where
 | mk {k:Nat} {caps:List Val} {f c':Addr} {L:LamI} {cl:List (Str × Addr)} {ws:List V} {cs:List Cap} (h:g.lamI k=some L) (o:H f=some (LamO f L cl c')) (oc:H c'=some (CodeO c' L.qual))
   (fr:cs.map (·.y)=L.fr) (cc:∀ q∈cs,cl.lookup q.y=some q.c∧H q.c=some (ObjX q.c q.o)∧q.o.data=.cell (some q.u)) (all:∀ y c,cl.lookup y=some c→y∈L.fr) (inj:∀ x y c,cl.lookup x=some c→cl.lookup y=some c→x=y)
   (vs:Vals ws (cs.map (·.u))) (r:RVs g w.I w.μ H caps ws):RX1 g w H k caps (.ref f)
inductive RXs (g:Gx)(w:Wd)(H:Hp):List (Nat × List Val)→List V→Prop where
 | nil:RXs g w H [] []
 | cons {p:Nat × List Val} {x:V} {l:List (Nat × List Val)} {xs:List V} (h:RX1 g w H p.1 p.2 x) (t:RXs g w H l xs):RXs g w H (p::l) (x::xs)
inductive RX (g:Gx)(w:Wd)(H:Hp):Ex→V→Prop where
 | one {k:Nat} {caps:List Val} {x:V} (h:RX1 g w H k caps x):RX g w H (.one k caps) x
 | many {l:List (Nat × List Val)} {a:Addr} {xs:List V} (j:w.I a) (h:H a=some (.lst xs)) (r:RXs g w H l xs):RX g w H (.many l) (.ref a)
section
variable {g:Gx}{w w':Wd}{κ:Ks}{H H':Hp}
theorem RX1.ext (e:Ext w H w' H')(wf:WF g w κ H):∀ {k:Nat} {caps:List Val} {x:V},RX1 g w H k caps x→RX1 g w' H' k caps x
 | _,_,_,.mk h o oc fr cc all inj vs r=>.mk h (e.exts wf o) (e.exts wf oc) fr (fun q hq=>⟨(cc q hq).1,e.exts wf (cc q hq).2.1,(cc q hq).2.2⟩) all inj vs (r.ext e wf)
theorem RXs.ext (e:Ext w H w' H')(wf:WF g w κ H):∀ {l:List (Nat × List Val)} {xs:List V},RXs g w H l xs→RXs g w' H' l xs
 | _,_,.nil=>.nil
 | _,_,.cons h t=>.cons (h.ext e wf) (t.ext e wf)
theorem RX.ext (e:Ext w H w' H')(wf:WF g w κ H):∀ {v:Ex} {x:V},RX g w H v x→RX g w' H' v x
 | _,_,.one h=>.one (h.ext e wf)
 | _,_,.many j h r=>.many (e.I _ j) ((e.keepsI wf).l _ _ j h) (r.ext e wf)
end
end PL
end
section
namespace PL
open PySem PySem.Spec PyProof.Rows L2 LamX NdefX
inductive RB (g:Gx)(w:Wd)(H:Hp):Val→V→Prop where
 | of {v:Val} {x:V} (r:RV g w.I w.μ H v x):RB g w H v x
 | own {l:List Val} {a:Addr} {xs:List V} (h:H a=some (.lst xs)) (n:a ∉ w.μ) (r:RVs g w.I w.μ H l xs):RB g w H (.lst l) (.ref a)
section
variable {g:Gx}{w w':Wd}{κ κ':Ks}{H H':Hp}
theorem Ext.rd (e:Ext w H w' H'){a:Addr}{xs:List V}(n:a ∉ w.μ)(h:H a=some (.lst xs)):H' a=some (.lst xs):=e.fr a _ h n (by intro _ z;cases z)
theorem Ext.nomu (e:Ext w H w' H'){a:Addr}(h:H a≠none)(n:a ∉ w.μ):a ∉ w'.μ:=fun z=>by
 obtain ⟨t,et,ht⟩:=e.mu
 rw [et] at z
 rcases List.mem_append.mp z with z|z
 ·exact n z
 ·exact h (ht a z)
theorem RB.ext {v:Val}{x:V}(e:Ext w H w' H')(wf:WF g w κ H)(r:RB g w H v x):RB g w' H' v x:=by
 cases r with
 | of r=>exact .of (r.ext e wf)
 | own h n r=>exact .own (e.rd n h) (e.nomu (by rw [h];intro z;cases z) n) (r.ext e wf)
theorem RB.int {i:Int}{x:V}(r:RB g w H (.int i) x):x=.int i:=by cases r with|of r=>cases r;rfl
theorem RB.bl {i:Bool}{x:V}(r:RB g w H (.bl i) x):x=.bl i:=by cases r with|of r=>cases r;rfl
theorem RB.str {i:Str}{x:V}(r:RB g w H (.str i) x):x=.str i:=by cases r with|of r=>cases r;rfl
theorem RB.non {x:V}(r:RB g w H .non x):x=.non:=by cases r with|of r=>cases r;rfl
theorem RB.tup {l:List Val}{x:V}(r:RB g w H (.tup l) x):∃ a xs,x=.ref a∧SqT g.K H a xs∧RVs g w.I w.μ H l xs:=by
 cases r with|of r=>cases r with|tup h r=>exact ⟨_,_,rfl,h,r⟩
theorem RB.lst {l:List Val}{x:V}(wf:WF g w κ H)(r:RB g w H (.lst l) x):∃ a xs,x=.ref a∧H a=some (.lst xs)∧a ∉ w.μ∧RVs g w.I w.μ H l xs:=by
 cases r with
 | of r=>cases r with|lst j h r=>exact ⟨_,_,rfl,h,fun z=>wf.dis _ z j,r⟩
 | own h n r=>exact ⟨_,_,rfl,h,n,r⟩
theorem RB.cell {i:Nat}{x:V}(r:RB g w H (.cell i) x):∃ a,x=.ref a∧w.μ[i]? = some a:=by
 cases r with|of r=>cases r with|cell h=>exact ⟨_,rfl,h⟩
theorem RB.scr {i:List Int}{x:V}(r:RB g w H (.scr i) x):∃ a,x=.ref a∧SqL g.K H a (i.map V.int):=by
 cases r with|of r=>cases r with|scr h=>exact ⟨_,rfl,h.sq⟩
theorem RV.newTup (wf:WF g w κ H){l:List Val}{xs:List V}(r:RVs g w.I w.μ H l xs){a:Addr}(n:H a=none) :
  Ext w H w (upd H a (.tup xs))∧WF g w κ (upd H a (.tup xs))∧RV g w.I w.μ (upd H a (.tup xs)) (.tup l) (.ref a):=
 ⟨Ext.upd_new wf n _,wf.upd_new n _,.tup (SqT.of upd_same) (r.ext (Ext.upd_new wf n _) wf)⟩
theorem RV.newLst (wf:WF g w κ H){l:List Val}{xs:List V}(r:RVs g w.I w.μ H l xs){a:Addr}(n:H a=none) :
  Ext w H (w.fix a) (upd H a (.lst xs))∧WF g (w.fix a) κ (upd H a (.lst xs))∧RV g (w.fix a).I (w.fix a).μ (upd H a (.lst xs)) (.lst l) (.ref a):=
 ⟨(fix_new wf n xs).1,(fix_new wf n xs).2,.lst (.inr rfl) upd_same (r.ext (fix_new wf n xs).1 wf)⟩
end
inductive RL1 (g:Gx)(X:Cx)(H:Hp):Nat × List Nat→V→Prop where
 | mk {k:Nat} {js:List Nat} {f c':Addr} {L:LamI} (h:g.lamI k=some L) (o:H f=some (LamO f L (cloFrom X.env.cells L.scope.names []) c')) (oc:H c'=some (CodeO c' L.qual))
   (c:X.Ok→Caps X (cloFrom X.env.cells L.scope.names []) L.fr js) (only:∀ y c,(cloFrom X.env.cells L.scope.names []).lookup y=some c→y∈L.fr):RL1 g X H (k,js) (.ref f)
inductive RLs (g:Gx)(X:Cx)(H:Hp):List (Nat × List Nat)→List V→Prop where
 | nil:RLs g X H [] []
 | cons {p:Nat × List Nat} {x:V} {l:List (Nat × List Nat)} {xs:List V} (h:RL1 g X H p x) (t:RLs g X H l xs):RLs g X H (p::l) (x::xs)
def SlotOk (g:Gx)(X:Cx)(b:Bool)(w:Wd)(H:Hp)(σ:L2.St)(i:Nat):Slot→Prop
 | .val v=>∃ x,σ[i]? = some (some x)∧RV g w.I w.μ H v x
 | .own l=>∃ a xs,σ[i]? = some (some (.ref a))∧H a=some (.lst xs)∧RVs g w.I w.μ H l xs∧¬ w.I a∧a ∉ w.μ∧(b=true∨X.H_0 a=none)
 | .cls l=>b=true∨∃ a xs,σ[i]? = some (some (.ref a))∧w.I a∧H a=some (.lst xs)∧RLs g X H l xs
 | .ext y=>∃ x,σ[i]? = some (some x)∧RX g w H y x
 | .pin=>b=true∨∃ q,X.pn.head? = some q∧σ[i]? = some (some (.ref q.1))
structure RE (g:Gx)(X:Cx)(b:Bool)(w:Wd)(H:Hp)(ρ:Rho)(σ:L2.St):Prop where
 len:ρ.length=σ.length
 at_:∀ (i:Nat) (sl:Slot),ρ[i]? = some (some sl)→SlotOk g X b w H σ i sl
 apart:∀ (i j:Nat) (l m:List Val) (a:Addr),ρ[i]? = some (some (Slot.own l))→ρ[j]? = some (some (Slot.own m))→σ[i]? = some (some (V.ref a))→σ[j]? = some (some (V.ref a))→i=j
section
variable {g:Gx}{X:Cx}{b:Bool}{w w':Wd}{κ κ':Ks}{H H':Hp}{ρ:Rho}{σ:L2.St}
theorem RL1.ext (e:Ext w H w' H')(wf:WF g w κ H){p:Nat × List Nat}{x:V}(r:RL1 g X H p x):RL1 g X H' p x:=by
 cases r with
 | mk h o oc c only=>exact .mk h (e.exts wf o) (e.exts wf oc) c only
theorem RLs.ext (e:Ext w H w' H')(wf:WF g w κ H):∀ {l:List (Nat × List Nat)} {xs:List V},RLs g X H l xs→RLs g X H' l xs
 | _,_,.nil=>.nil
 | _,_,.cons h t=>.cons (h.ext e wf) (t.ext e wf)
theorem RLs.append:∀ {l m:List (Nat × List Nat)} {xs ys:List V},RLs g X H l xs→RLs g X H m ys→RLs g X H (l++m) (xs++ys)
 | _,_,_,_,.nil,s=>s
 | _,_,_,_,.cons r t,s=>.cons r (RLs.append t s)
theorem SlotOk.ext (e:Ext w H w' H')(wf:WF g w κ H){i:Nat}:∀ {sl:Slot},SlotOk g X b w H σ i sl→SlotOk g X b w' H' σ i sl
 | .val _,⟨x,h1,h2⟩=>⟨x,h1,h2.ext e wf⟩
 | .own _,⟨a,xs,h1,h2,h3,h4,h5,h6⟩=>⟨a,xs,h1,e.fr a _ h2 h5 (by intro _ z;cases z),h3.ext e wf,(fun z=>(e.new a z).elim h4 fun q=>by rw [q] at h2;cases h2),e.nomu (by rw [h2];intro z;cases z) h5,h6⟩
 | .cls _,.inl z=>.inl z
 | .cls _,.inr ⟨a,xs,h1,h2,h3,h4⟩=>.inr ⟨a,xs,h1,e.I a h2,(e.keepsI wf).l _ _ h2 h3,h4.ext e wf⟩
 | .ext _,⟨x,h1,h2⟩=>⟨x,h1,h2.ext e wf⟩
 | .pin,h=>h
theorem RE.ext (r:RE g X b w H ρ σ)(e:Ext w H w' H')(wf:WF g w κ H):RE g X b w' H' ρ σ:=⟨r.len,fun i sl h=>(r.at_ i sl h).ext e wf,r.apart⟩
theorem RE.rdV (r:RE g X b w H ρ σ){i:Nat}{v:Val}(h:rdV ρ i=some v):∃ x,σ[i]? = some (some x)∧RV g w.I w.μ H v x:=by
 unfold PL.rdV at h
 split at h
 ·cases h;rename_i e;exact r.at_ i _ e
 ·cases h
theorem RE.rdX (r:RE g X b w H ρ σ){i:Nat}{v:Ex}(h:rdX ρ i=some v):∃ x,σ[i]? = some (some x)∧RX g w H v x:=by
 unfold PL.rdX at h
 split at h
 ·cases h;rename_i e;exact r.at_ i _ e
 ·cases h
end
theorem RE.blk {g:Gx}{X X':Cx}{b:Bool}{w:Wd}{H:Hp}{ρ:Rho}{σ:L2.St}(r:RE g X b w H ρ σ):RE g X' true w H ρ σ:=
 ⟨r.len,fun i sl h=>match sl,r.at_ i sl h with
  | .val _,z=>z
  | .own _,⟨a,xs,h1,h2,h3,h4,h5,_⟩=>⟨a,xs,h1,h2,h3,h4,h5,.inl rfl⟩
  | .cls _,_=>.inl rfl
  | .ext _,z=>z
  | .pin,z=>.inl rfl,r.apart⟩
def DOk (g:Gx)(c:Nat)(d:Option Addr)(H:Hp):Prop:=if c<1000 then d=none else ∃ dx C f,g.errI (c/1000-1)=some (C,f)∧d=some dx∧H dx=some (.xd [(f,.int (c % 1000:Nat))])
theorem dok_of {g:Gx}{c:Nat}{d:Option Addr}{H H':Hp}(k:∀ dx fs,H dx=some (.xd fs)→H' dx=some (.xd fs))(h:DOk g c d H):DOk g c d H':=by
 unfold DOk at h ⊢
 split
 ·rename_i z;rw [if_pos z] at h;exact h
 ·rename_i z
  rw [if_neg z] at h
  obtain ⟨dx,C,f,h1,h2,h3⟩:=h
  exact ⟨dx,C,f,h1,h2,k _ _ h3⟩
theorem dok_ext {g:Gx}{w w':Wd}{κ:Ks}{H H':Hp}{c:Nat}{d:Option Addr}(e:Ext w H w' H')(wf:WF g w κ H)(h:DOk g c d H):DOk g c d H':=
 dok_of (fun dx fs q=>e.fr dx _ q (wf.nomu q rfl) (by intro _ z;cases z)) h
def Post (g:Gx)(clA:Nat→Addr){α:Type}{β:Type}(rel:Wd→Hp→α→β→Prop)(w:Wd)(H:Hp)(r:R (α × Ks))(Q:β→Hp→Prop)(E:XK):Prop:=match r with
 | .ok p=>∀ x w' H',Ext w H w' H'→WF g w' p.2 H'→rel w' H' p.1 x→Q x H'
 | .exc c .non κ'=>∀ w' H',Ext w H w' H'→WF g w' κ' H'→∀ d,DOk g c d H'→E (.ref (clA c)) d H'
 | .exc _ _ _=>False
 | .bad=>False
abbrev rV (g:Gx):Wd→Hp→Val→V→Prop:=fun w H v x=>RV g w.I w.μ H v x
abbrev rB (g:Gx):Wd→Hp→Val→V→Prop:=fun w H v x=>RB g w H v x
abbrev rVs (g:Gx):Wd→Hp→List Val→List V→Prop:=fun w H v x=>RVs g w.I w.μ H v x
inductive RBs (g:Gx)(w:Wd)(H:Hp):List Val→List V→Prop where
 | nil:RBs g w H [] []
 | cons {v:Val} {x:V} {l:List Val} {xs:List V} (h:RB g w H v x) (t:RBs g w H l xs):RBs g w H (v::l) (x::xs)
structure Pl where
 g:Gx
 clA:Nat→Addr
 X:Cx
 W:WX
 b:Bool
section
variable (p:Pl)
def tG {α β:Type}(rel:Wd→Hp→α→β→Prop)(m:Rho→Ks→R (α × Ks)):L2.St→Hp→(β→Hp→Prop)→Prop:=fun σ H Q=>
 ∃ w ρ κ,RE p.g p.X p.b w H ρ σ∧WF p.g w κ H∧Post p.g p.clA rel w H (m ρ κ) Q (fun c d H'=>p.W c d σ H')
abbrev SE (e:Expr)(m:Rho→Ks→R (Val × Ks)):Prop:=PE p.X e (tG p (rV p.g) m)
abbrev SB (e:Expr)(m:Rho→Ks→R (Val × Ks)):Prop:=PE p.X e (tG p (rB p.g) m)
abbrev STt (e:Expr)(m:Rho→Ks→R (Bool × Ks)):Prop:=PT p.X e (tG p (fun _ _ a b=>a=b) m)
abbrev SEs (es:List Expr)(m:Rho→Ks→R (List Val × Ks)):Prop:=PA p.X es (tG p (rVs p.g) m)
abbrev SBs (es:List Expr)(m:Rho→Ks→R (List Val × Ks)):Prop:=PA p.X es (tG p (fun w H l xs=>RBs p.g w H l xs) m)
end
section
variable {p:Pl}
theorem _root_.L2.PE.imp {X:Cx}{e:Expr}{t t':TE}(h:PE X e t)(k:∀ σ H Q,t' σ H Q→t σ H Q):PE X e t':=⟨fun pins s σ H Q I q=>h.run pins s σ H Q I (k σ H Q q)⟩
theorem _root_.L2.PT.imp {X:Cx}{e:Expr}{t t':TT}(h:PT X e t)(k:∀ σ H Q,t' σ H Q→t σ H Q):PT X e t':=⟨fun pins s σ H Q I q=>h.run pins s σ H Q I (k σ H Q q)⟩
theorem _root_.L2.PA.imp {X:Cx}{e:List Expr}{t t':TA}(h:PA X e t)(k:∀ σ H Q,t' σ H Q→t σ H Q):PA X e t':=⟨fun pos pins s σ H Q I q=>h.run pos pins s σ H Q I (k σ H Q q)⟩
theorem Post.bind {g:Gx}{clA:Nat→Addr}{α β γ δ:Type}{rel:Wd→Hp→α→β→Prop}{rel2:Wd→Hp→γ→δ→Prop}{w:Wd}{r:R (α × Ks)}{f:α × Ks→R (γ × Ks)}{H:Hp}{Q:δ→Hp→Prop}{E:XK}{k:β→Hp→Prop}
  (po:Post g clA rel2 w H (r.bind f) Q E)
  (hk:∀ w1 H1 a κ1 x,WF g w1 κ1 H1→Ext w H w1 H1→rel w1 H1 a x→Post g clA rel2 w1 H1 (f (a,κ1)) Q E→k x H1) :
  Post g clA rel w H r k E:=by
 cases r with
 | bad=>exact po
 | exc c v κ'=>
  cases v with
  | non=>exact po
  | _=>exact po
 | ok q=>
  intro x w1 H1 e1 wf1 r1
  refine hk w1 H1 q.1 q.2 x wf1 e1 r1 ?_
  have po:Post g clA rel2 w H (f q) Q E:=po
  show Post g clA rel2 w1 H1 (f q) Q E
  generalize f q=z at po ⊢
  cases z with
  | ok q2=>exact fun y w2 H2 e2=>po y w2 H2 (e1.trans e2)
  | exc c v κ'=>
   cases v with
   | non=>exact fun w2 H2 e2=>po w2 H2 (e1.trans e2)
   | _=>exact po
  | bad=>exact po
theorem Post.some {γ δ:Type}{rel2:Wd→Hp→γ→δ→Prop}{w:Wd}{H:Hp}{o:Option γ}{κ:Ks}{Q:δ→Hp→Prop}{E:XK}(h:Post p.g p.clA rel2 w H (R.ofO (o.map fun v=>(v,κ))) Q E) :
  ∃ v,o=.some v∧∀ x w' H',Ext w H w' H'→WF p.g w' κ H'→rel2 w' H' v x→Q x H':=by
 cases o with
 | none=>exact h.elim
 | some v=>exact ⟨v,rfl,h⟩
theorem Post.weak {α β:Type}{rel rel':Wd→Hp→α→β→Prop}{w:Wd}{H:Hp}{r:R (α × Ks)}{Q:β→Hp→Prop}{E:XK}(h:Post p.g p.clA rel w H r Q E)(k:∀ w' H' κ' a x,WF p.g w' κ' H'→rel' w' H' a x→rel w' H' a x):Post p.g p.clA rel' w H r Q E:=by
 unfold Post at h ⊢
 split
 ·exact fun x w' H' e wf r=>h x w' H' e wf (k _ _ _ _ _ wf r)
 ·exact h
 ·rename_i c v κ' hn
  cases v with
  | non=>exact absurd rfl hn
  | _=>exact h
 ·exact h
theorem SB.of {e:Expr}{m:Rho→Ks→R (Val × Ks)}(h:SE p e m):SB p e m:=h.imp fun σ H Q ⟨w,ρ,κ,re,wf,po⟩=>⟨w,ρ,κ,re,wf,Post.weak (p:=p) po fun _ _ _ _ _ _ r=>RB.of r⟩
theorem Qzn {α β ε ζ:Type}{relA:Wd→Hp→α→β→Prop}{rel3:Wd→Hp→ε→ζ→Prop}{ma:Rho→Ks→R (α × Ks)}{f:Rho→α × Ks→R (ε × Ks)}{σ:L2.St}{H:Hp}{Q:ζ→Hp→Prop}{k:β→Hp→Prop}
  (h:tG p rel3 (fun ρ κ=>(ma ρ κ).bind (f ρ)) σ H Q)
  (hk:∀ w ρ κ H1 a x,RE p.g p.X p.b w H1 ρ σ→WF p.g w κ H1→relA w H1 a x→Post p.g p.clA rel3 w H1 (f ρ (a,κ)) Q (fun c d H'=>p.W c d σ H')→k x H1):tG p relA ma σ H k:=by
 obtain ⟨w,ρ,κ,re,wf,po⟩:=h
 exact ⟨w,ρ,κ,re,wf,Post.bind po fun w1 H1 a κ1 x wf1 e1 ra po1=>hk w1 ρ κ1 H1 a x (re.ext e1 wf) wf1 ra po1⟩
theorem tG_bind2 {α β γ δ ε ζ:Type}{relA:Wd→Hp→α→β→Prop}{relB:Wd→Hp→γ→δ→Prop}{rel3:Wd→Hp→ε→ζ→Prop}{ma:Rho→Ks→R (α × Ks)}{mb:Rho→Ks→R (γ × Ks)}{f:Rho→α→γ × Ks→R (ε × Ks)}{σ:L2.St}{H:Hp}{Q:ζ→Hp→Prop}
  {k:β→δ→Hp→Prop} (hA:∀ {w H w' H' κ a x},Ext w H w' H'→WF p.g w κ H→relA w H a x→relA w' H' a x)
  (h:tG p rel3 (fun ρ κ=>(ma ρ κ).bind fun q=>(mb ρ q.2).bind (f ρ q.1)) σ H Q)
  (hk:∀ w ρ κ H2 a x b y,RE p.g p.X p.b w H2 ρ σ→WF p.g w κ H2→relA w H2 a x→relB w H2 b y→Post p.g p.clA rel3 w H2 (f ρ a (b,κ)) Q (fun c d H'=>p.W c d σ H')→k x y H2) :
  tG p relA ma σ H fun x H1=>tG p relB mb σ H1 fun y H2=>k x y H2:=by
 obtain ⟨w,ρ,κ,re,wf,po⟩:=h
 refine ⟨w,ρ,κ,re,wf,Post.bind po fun w1 H1 a κ1 x wf1 e1 ra po1 => ?_⟩
 exact ⟨w1,ρ,κ1,re.ext e1 wf,wf1,Post.bind po1 fun w2 H2 b κ2 y wf2 e2 rb po2=>hk w2 ρ κ2 H2 a x b y ((re.ext e1 wf).ext e2 wf1) wf2 (hA e2 wf1 ra) rb po2⟩
theorem tG_ret {α β:Type}{rel:Wd→Hp→α→β→Prop}{f:Rho→α}{σ:L2.St}{H:Hp}{Q:β→Hp→Prop}(h:tG p rel (fun ρ κ=>.ok (f ρ,κ)) σ H Q){x:β}(r:∀ w ρ κ,RE p.g p.X p.b w H ρ σ→WF p.g w κ H→rel w H (f ρ) x):Q x H:=by
 obtain ⟨w,ρ,κ,re,wf,po⟩:=h
 exact po x w H (Ext.refl w H) wf (r w ρ κ re wf)
end
end PL
end
section
namespace PL
open PySem PySem.Spec PyProof.Rows L2 LamX NdefX
def Op2Ok (p:Pl)(r:R2)(f:Val→Val→Option Val):Prop:=
  ∀ {w : Wd} {κ : Ks} {H : Hp} {va vb v : Val} {x y : V} {Q : VK}, WF p.g w κ H → RB p.g w H va x → RB p.g w H vb y → f va vb = some v →
    (∀ z w' H',Ext w H w' H'→WF p.g w' κ H'→RV p.g w'.I w'.μ H' v z→Q z H')→r x y H Q
section
variable {p:Pl}{a b c:Expr}{pos:Pos}{ma mb mc:Rho→Ks→R (Val × Ks)}
theorem SE_bin {op:Operator}{r:R2}{f:Val→Val→Option Val}(ho:OpR p.X (binaryOp op) r)(hr:Op2Ok p r f)(ha:SB p a ma)(hb:SB p b mb) :
  SE p (.BinOp a op b pos) (fun ρ κ=>(ma ρ κ).bind fun q=>(mb ρ q.2).bind fun q'=>R.ofO ((f q.1 q'.1).map fun v=>(v,q'.2))):=
 (pe_op ho ha hb).imp fun σ H Q h=>tG_bind2 (f:=fun _ a q'=>R.ofO ((f a q'.1).map fun v=>(v,q'.2))) RB.ext h fun w ρ κ H2 a x b y re wf rx ry po=>by
  obtain ⟨v,ev,k⟩:=Post.some (p:=p) po
  exact hr wf rx ry ev k
theorem here {w:Wd}{κ:Ks}{H:Hp}{v:Val}{z:V}{Q:VK}(wf:WF p.g w κ H)(k:∀ z w' H',Ext w H w' H'→WF p.g w' κ H'→RV p.g w'.I w'.μ H' v z→Q z H')(r:RV p.g w.I w.μ H v z):Q z H:=k z w H (Ext.refl w H) wf r
theorem Qx8:LINE=sizeLine:=by rw [sizeLine_eq]
def rRepS:R2:=fun x y H Q=>∃ (z:Str) (j:Int),x=.str z∧y=.int j∧1<j∧j<1000∧0<z.length∧z.length≤1000∧Q (.str ⟨(List.replicate j.toNat z.cps).foldl (· ++ ·) #[]⟩) H
theorem rep_size (c:Array Nat):∀ (n:Nat) (acc:Array Nat),((List.replicate n c).foldl (· ++ ·) acc).size=acc.size+n*c.size
 | 0,acc=>by simp
 | n+1,acc=>by
  rw [List.replicate_succ,List.foldl_cons,rep_size c n,Array.size_append,Nat.succ_mul]
  omega
theorem op_repS {X:Cx}:OpR X (binaryOp .Mult) rRepS:=by
 intro pins s σ H x y v u Q I rx ry h
 obtain ⟨z,j,rfl,rfl,h1,h2,h3,h4,q⟩:=h
 obtain ⟨t,rfl⟩:=rx
 obtain ⟨t2,rfl⟩:=ry
 have n1:¬ j<1:=by omega
 have n2:((j == 1||z.length == 0))=false:=by
  rw [Bool.or_eq_false_iff]
  exact ⟨by simp;omega,by simp;omega⟩
 have le:z.length*j.toNat≤1000*1000:=Nat.mul_le_mul h4 (by omega)
 refine PySem.P.mul_str (by rw [decide_eq_false (by omega),decide_eq_false (by omega)];rfl) (fun _ _ hh => ?_) (fun _ _ => ?_) ?_
 ·have:=Int.lt_of_lt_of_le (Int.mul_lt_mul_of_pos_right hh (show 0<j by omega)) (by omega:(z.length:Int)*j≤(z.length:Int)*j)
  have e2:(2^63-1:Int)/j*j+(2^63-1) % j=2^63-1:=Int.ediv_mul_add_emod ..
  have m:=Int.emod_lt_of_pos (2^63-1) (show 0<j by omega)
  have e3:(z.length:Int)*j=((z.length*j.toNat:Nat):Int):=by
   rw [Int.natCast_mul,Int.toNat_of_nonneg (by omega)]
  omega
 ·show decide (z.length*j.toNat > sizeLine)=false
  rw [sizeLine_eq]
  exact decide_eq_false (by omega)
 ·rw [if_neg n1,if_neg (by rw [n2];exact Bool.false_ne_true)]
  refine ⟨?_,.str _,H,I.tok _,⟨_,rfl⟩,q⟩
  show ((List.replicate j.toNat z.cps).foldl (· ++ ·) #[]).size≤sizeLine
  rw [rep_size,sizeLine_eq]
  have e:z.cps.size=z.length:=rfl
  rw [e,Nat.mul_comm]
  have:(#[]:Array Nat).size=0:=rfl
  omega
def pyOp:Op→Operator
 | .add=>.Add | .sub=>.Sub | .mul=>.Mult | .fdiv=>.FloorDiv | .mod=>.Mod | .pow=>.Pow
theorem big_lt {i:Int}(h:decide (i.natAbs<BIG)=true):i.natAbs<2^400000:=by rw [← BIG_eq];exact of_decide_eq_true h
theorem RVs.rep {g:Gx}{J:Addr→Prop}{μ:List Addr}{H:Hp}{l:List Val}{xs:List V}(r:RVs g J μ H l xs):∀ n:Nat,RVs g J μ H (List.replicate n l).flatten (List.replicate n xs).flatten
 | 0=>.nil
 | n+1=>by
  rw [List.replicate_succ,List.replicate_succ,List.flatten_cons,List.flatten_cons]
  exact r.append (RVs.rep r n)
def CDivF (i j:Int):Prop:=j≠0∧Builtin.divisionGoesByPylong i j=false
theorem noPylong_wide {i j:Int}(h0:0<j)(h:i.natAbs<2^4400*j.natAbs):Builtin.divisionGoesByPylong i j=false:=by
 have key:(if i == 0 then 0 else i.natAbs.log2/30+1)≤(if j == 0 then 0 else j.natAbs.log2/30+1)+150:=by
  rw [if_neg (show ¬ (j == 0)=true by rw [beq_iff_eq];omega)]
  by_cases hi:(i == 0)=true
  ·rw [if_pos hi];omega
  ·rw [if_neg hi]
   have i0:i.natAbs≠0:=by rw [beq_iff_eq] at hi;omega
   have:i.natAbs.log2<4401+j.natAbs.log2:=by
    refine (Nat.log2_lt i0).mpr (Nat.lt_of_lt_of_le h ?_)
    have hj:j.natAbs<2^(j.natAbs.log2+1):=Nat.lt_log2_self
    have e:2^(4401+j.natAbs.log2)=2^4400*2^(j.natAbs.log2+1):=by rw [← Nat.pow_add,Nat.add_comm j.natAbs.log2 1,← Nat.add_assoc]
    rw [e]
    exact Nat.mul_le_mul_left _ (Nat.le_of_lt hj)
   omega
 show (_&&decide ((if i == 0 then 0 else i.natAbs.log2/30+1) > (if j == 0 then 0 else j.natAbs.log2/30+1)+150))=false
 rw [decide_eq_false (Nat.not_lt.mpr key),Bool.and_false]
theorem op_fdivF {X:Cx}:OpR X (binaryOp .FloorDiv) (rI CDivF fun i j=>.int (i.fdiv j)):=opI fun i j _ _ _ _ _ hc q=>floordiv_int hc.1 q (.inl hc.2)
theorem opr (hK:p.X.K=p.g.K):∀ o:Op,∃ r,OpR p.X (binaryOp (pyOp o)) r∧Op2Ok p r (opV o)
 | .add=>by
  refine ⟨_,OpR.or op_add (OpR.or op_add_str (OpR.or op_catA op_cat)),fun {w κ H va vb v x y Q} wf rx ry e k => ?_⟩
  unfold opV at e
  split at e <;> first|(exact absurd ‹Op.add=_› (by decide))|skip
  ·cases e;cases rx.int;cases ry.int
   exact .inl ⟨_,_,rfl,rfl,here wf k (.int _)⟩
  ·split at e
   ·cases e;cases rx.str;cases ry.str;rename_i hl
    exact .inr (.inl ⟨_,_,rfl,rfl,by rw [← Qx8];exact hl,here wf k (.str _)⟩)
   ·cases e
  ·split at e
   ·cases e;rename_i hl
    obtain ⟨a,xs,rfl,ha,rxs⟩:=rx.tup
    obtain ⟨b,ys,rfl,hb,rys⟩:=ry.tup
    refine .inr (.inr (.inl ⟨a,b,xs,ys,rfl,rfl,by rw [hK];exact ha,by rw [hK];exact hb,by rw [← rxs.length,← rys.length,← Qx8];exact hl,fun z => ?_,fun _ z => ?_,fun _ _ q hq => ?_⟩))
    ·subst z;cases rxs;exact here wf k (.tup hb rys)
    ·subst z;cases rys;refine here wf k ?_;rw [List.append_nil];exact .tup ha rxs
    ·obtain ⟨e1,wf1,r1⟩:=RV.newTup wf (rxs.append rys) hq
     exact k _ _ _ e1 wf1 r1
   ·cases e
  ·split at e
   ·cases e;rename_i hl
    obtain ⟨a,xs,rfl,ha,_,rxs⟩:=rx.lst wf
    obtain ⟨b,ys,rfl,hb,_,rys⟩:=ry.lst wf
    refine .inr (.inr (.inr ⟨a,b,xs,ys,rfl,rfl,ha,hb,by rw [← rxs.length,← rys.length,← Qx8];exact hl,fun q hq => ?_⟩))
    obtain ⟨e1,wf1,r1⟩:=RV.newLst wf (rxs.append rys) hq
    exact k _ _ _ e1 wf1 r1
   ·cases e
  ·cases e
 | .sub=>by
  refine ⟨_,op_sub,fun {w κ H va vb v x y Q} wf rx ry e k => ?_⟩
  unfold opV at e
  split at e <;> first|(exact absurd ‹Op.sub=_› (by decide))|skip
  ·cases e;cases rx.int;cases ry.int
   exact ⟨_,_,rfl,rfl,here wf k (.int _)⟩
  ·cases e
 | .mul=>by
  refine ⟨_,OpR.or op_mul (OpR.or op_mulW (OpR.or op_rep (OpR.or op_repT op_repS))),fun {w κ H va vb v x y Q} wf rx ry e k => ?_⟩
  unfold opV at e
  split at e <;> first|(exact absurd ‹Op.mul=_› (by decide))|skip
  ·split at e
   ·cases e;cases rx.int;cases ry.int;rename_i i j hl
    unfold mulOk at hl
    rcases Bool.or_eq_true_iff.mp hl with h|h
    ·refine .inl ⟨_,_,rfl,rfl,?_,here wf k (.int _)⟩
     rcases Bool.or_eq_true_iff.mp h with h|h
     ·have h:=of_decide_eq_true h
      exact .inl (by omega)
     ·have h:=of_decide_eq_true h
      exact .inr (by omega)
    ·obtain ⟨h1,h2⟩:=Bool.and_eq_true_iff.mp h
     exact .inr (.inl ⟨_,_,rfl,rfl,wide_mul (big_lt h1) (big_lt h2) (by decide) (by decide) (by decide),here wf k (.int _)⟩)
   ·cases e
  ·split at e
   ·cases e;rename_i l j _ hl
    simp only [Bool.and_eq_true,decide_eq_true_eq] at hl
    obtain ⟨⟨h1,h2⟩,h3⟩:=hl
    obtain ⟨a,xs,rfl,ha,_,rxs⟩:=rx.lst wf
    cases ry.int
    refine .inr (.inr (.inl ⟨a,j,xs,rfl,rfl,ha,by omega,by omega,?_,fun q hq => ?_⟩))
    ·rw [← rxs.length,sizeLine_eq]
     have:l.length*j.toNat≤1000*1000:=Nat.mul_le_mul h3 (by omega)
     omega
    ·obtain ⟨e1,wf1,r1⟩:=RV.newLst wf (RVs.rep rxs j.toNat) hq
     exact k _ _ _ e1 wf1 r1
   ·cases e
  ·split at e
   ·cases e;rename_i l j _ hl
    simp only [Bool.and_eq_true,decide_eq_true_eq] at hl
    obtain ⟨⟨⟨h1,h2⟩,h3⟩,h4⟩:=hl
    obtain ⟨a,xs,rfl,ha,rxs⟩:=rx.tup
    cases ry.int
    refine .inr (.inr (.inr (.inl ⟨a,j,xs,rfl,rfl,by rw [hK];exact ha,?_,by omega,by omega,by rw [← rxs.length];exact h4,fun q hq => ?_⟩)))
    ·intro z;subst z;cases rxs;exact absurd h3 (by decide)
    ·obtain ⟨e1,wf1,r1⟩:=RV.newTup wf (RVs.rep rxs j.toNat) hq
     exact k _ _ _ e1 wf1 r1
   ·cases e
  ·split at e
   ·cases e;rename_i hl
    simp only [Bool.and_eq_true,decide_eq_true_eq] at hl
    obtain ⟨⟨⟨h1,h2⟩,h3⟩,h4⟩:=hl
    cases rx.str;cases ry.int
    exact .inr (.inr (.inr (.inr ⟨_,_,rfl,rfl,h1,h2,h3,h4,here wf k (.str _)⟩)))
   ·cases e
  ·cases e
 | .fdiv=>by
  refine ⟨_,op_fdivF,fun {w κ H va vb v x y Q} wf rx ry e k => ?_⟩
  unfold opV at e
  split at e <;> first|(exact absurd ‹Op.fdiv=_› (by decide))|skip
  ·split at e
   ·cases e;cases rx.int;cases ry.int;rename_i i j _ hl
    obtain ⟨h1,h2⟩:=Bool.and_eq_true_iff.mp hl
    have h1:0<j:=of_decide_eq_true h1
    refine ⟨_,_,rfl,rfl,⟨by omega,PyProof.noPylong_of_log2 (Nat.lt_of_lt_of_le (PySem.Flt.log2_lt_of (by decide) (of_decide_eq_true h2)) (by decide))⟩,?_⟩
    show Q (V.int (i.fdiv j)) _
    rw [Int.fdiv_eq_ediv_of_nonneg i (by omega)]
    exact here wf k (.int _)
   ·split at e
    ·cases e;cases rx.int;cases ry.int;rename_i i j _ _ hl
     obtain ⟨h1,h2⟩:=Bool.and_eq_true_iff.mp hl
     have h1:j<0:=of_decide_eq_true h1
     exact ⟨_,_,rfl,rfl,⟨by omega,PyProof.noPylong_of_log2 (Nat.lt_of_lt_of_le (PySem.Flt.log2_lt_of (by decide) (of_decide_eq_true h2)) (by decide))⟩,here wf k (.int _)⟩
    ·split at e
     ·cases e;cases rx.int;cases ry.int;rename_i i j _ _ _ hl
      obtain ⟨h1,h2⟩:=Bool.and_eq_true_iff.mp hl
      have h1:0<j:=of_decide_eq_true h1
      refine ⟨_,_,rfl,rfl,⟨by omega,noPylong_wide h1 (of_decide_eq_true h2)⟩,?_⟩
      show Q (V.int (i.fdiv j)) _
      rw [Int.fdiv_eq_ediv_of_nonneg i (by omega)]
      exact here wf k (.int _)
     ·cases e
  ·cases e
 | .mod=>by
  refine ⟨_,op_mod,fun {w κ H va vb v x y Q} wf rx ry e k => ?_⟩
  unfold opV at e
  split at e <;> first|(exact absurd ‹Op.mod=_› (by decide))|skip
  ·split at e
   ·cases e;cases rx.int;cases ry.int;rename_i hl
    exact ⟨_,_,rfl,rfl,of_decide_eq_true hl,here wf k (.int _)⟩
   ·cases e
  ·cases e
 | .pow=>by
  refine ⟨_,op_pow,fun {w κ H va vb v x y Q} wf rx ry e k => ?_⟩
  unfold opV at e
  split at e <;> first|(exact absurd ‹Op.pow=_› (by decide))|skip
  ·split at e
   ·cases e;cases rx.int;cases ry.int;rename_i hl
    simp only [Bool.and_eq_true,decide_eq_true_eq] at hl
    obtain ⟨⟨h1,h2⟩,h3⟩:=hl
    exact ⟨_,_,rfl,rfl,⟨h1,by omega,h3⟩,here wf k (.int _)⟩
   ·cases e
  ·cases e
end
end PL
end
section
namespace PL
open PySem PySem.Spec PyProof.Rows L2 LamX NdefX
mutual
theorem RV.dp {g:Gx}{J:Addr→Prop}{μ:List Addr}{H:Hp}:∀ {v:Val} {x:V} {d:PyData},RV g J μ H v x→Qzd v=some d→Dp g.K H x d
 | _,_,_,.non,e=>by cases e;exact .non
 | _,_,_,.bl b,e=>by cases e;exact .bl b
 | _,_,_,.int b,e=>by cases e;exact .int b
 | _,_,_,.str b,e=>by cases e;exact .str b
 | _,_,_,.tup h r,e=>by
  unfold Qzd at e
  obtain ⟨ds,e1,e2⟩:=Option.map_eq_some_iff.mp e
  subst e2
  exact .tup h (RVs.dp r e1)
 | _,_,_,.lst j h r,e=>by
  unfold Qzd at e
  obtain ⟨ds,e1,e2⟩:=Option.map_eq_some_iff.mp e
  subst e2
  exact .lst (SqL.of h) (RVs.dp r e1)
 | _,_,_,.fn _,e=>by cases e
 | _,_,_,.cell _,e=>by cases e
 | _,_,_,.scr _,e=>by cases e
 | _,_,_,.err _ _,e=>by cases e
theorem RVs.dp {g:Gx}{J:Addr→Prop}{μ:List Addr}{H:Hp}:∀ {l:List Val} {xs:List V} {ds:List PyData},RVs g J μ H l xs→toDatas l=some ds→DpAll g.K H xs ds
 | _,_,_,.nil,e=>by cases e;exact .nil
 | _,_,_,.cons h t,e=>by
  unfold toDatas at e
  split at e
  ·rename_i d ds' e1 e2
   cases e
   exact .cons (RV.dp h e1) (RVs.dp t e2)
  ·cases e
end
theorem RB.dp {g:Gx}{w:Wd}{H:Hp}{v:Val}{x:V}{d:PyData}(r:RB g w H v x)(e:Qzd v=some d):Dp g.K H x d:=by
 cases r with
 | of r=>exact r.dp e
 | own h n r=>
  unfold Qzd at e
  obtain ⟨ds,e1,e2⟩:=Option.map_eq_some_iff.mp e
  subst e2
  exact .lst (SqL.of h) (RVs.dp r e1)
theorem RV.flat {g:Gx}{J:Addr→Prop}{μ:List Addr}{H:Hp}{v:Val}{x:V}(r:RV g J μ H v x)(f:Qzh v=true):flatV x=true:=by
 cases r <;> first|rfl|cases f
theorem RV.eqF {g g':Gx}{J J':Addr→Prop}{μ μ':List Addr}{H H':Hp}{v u:Val}{x y:V}(r:RV g J μ H v x)(q:RV g' J' μ' H' u y)(f:Qzh v=true)(f':Qzh u=true):eqF v u=eqV x y:=by
 cases r <;> first|cases f|skip
 all_goals (cases q <;> first|rfl|cases f')
theorem RVs.flat {g:Gx}{J:Addr→Prop}{μ:List Addr}{H:Hp}:∀ {l:List Val} {xs:List V},RVs g J μ H l xs→l.all Qzh=true→xs.all flatV=true
 | _,_,.nil,_=>rfl
 | _,_,.cons h t,f=>by
  rw [List.all_cons,Bool.and_eq_true_iff] at f
  rw [List.all_cons,h.flat f.1,t.flat f.2];rfl
theorem RVs.inV {g g':Gx}{J J':Addr→Prop}{μ μ':List Addr}{H H':Hp}{a:Val}{x:V}(ra:RV g' J' μ' H' a x)(fa:Qzh a=true):∀ {l:List Val} {xs:List V},RVs g J μ H l xs→l.all Qzh=true→(l.any fun y=>PL.eqF y a)=L2.inV x xs
 | _,_,.nil,_=>rfl
 | _,_,.cons h t,f=>by
  rw [List.all_cons,Bool.and_eq_true_iff] at f
  have ih:=RVs.inV ra fa t f.2
  unfold L2.inV at ih ⊢
  rw [List.any_cons,List.any_cons,h.eqF ra f.1 fa,ih]
def pyCm:Cm→CmpOp
 | .eq=>.Eq | .ne=>.NotEq | .lt=>.Lt | .le=>.LtE | .gt=>.Gt | .ge=>.GtE | .is_=>.Is | .isnot=>.IsNot | .in_=>.In | .notin=>.NotIn | .inD=>.In
def Cm2Ok (p:Pl)(r:R2)(f:Val→Val→Option Bool):Prop:=
 ∀ {w:Wd} {κ:Ks} {H:Hp} {va vb:Val} {v:Bool} {x y:V} {Q:VK},WF p.g w κ H→RB p.g w H va x→RB p.g w H vb y→f va vb=some v→Q (.bl v) H→r x y H Q
theorem eqD_some {a b:Val}{v:Bool}(h:eqD a b=some v):∃ d e,Qzd a=some d∧Qzd b=some e∧SeqAt.shaped d=true∧SeqAt.shaped e=true∧PyData.eqv d e=v:=by
 unfold eqD at h
 split at h
 ·rename_i d e h1 h2
  split at h
  ·rename_i hs
   cases h
   obtain ⟨s1,s2⟩:=Bool.and_eq_true_iff.mp hs
   exact ⟨d,e,h1,h2,s1,s2,rfl⟩
  ·cases h
 ·cases h
theorem RB.ofFlat {g:Gx}{w:Wd}{H:Hp}{v:Val}{x:V}(r:RB g w H v x)(f:Qzh v=true):RV g w.I w.μ H v x:=by
 cases r with
 | of r=>exact r
 | own _ _ _=>cases f
theorem RB.isNon {g:Gx}{w:Wd}{H:Hp}{v:Val}{x:V}(r:RB g w H v x):decide (x=.non)=isNonV v:=by
 cases r with
 | of r=>cases r <;> rfl
 | own _ _ _=>rfl
def rIsX:R2:=fun x y H Q=>x=.non∧∃ b:Bool,y=.bl b∧Q (.bl false) H
theorem op_isX {X:Cx}:OpR X (compareOp .Is) rIsX:=by
 intro pins s σ H x y v u Q I rx ry h
 obtain ⟨rfl,b,rfl,q⟩:=h
 cases (show v=Value.none from rx)
 cases (show u=Value.bool b from ry)
 exact wpAny_is_other rfl (fun z=>by cases z) ⟨.bl false,H,I,rfl,q⟩
section
variable {p:Pl}{a b c:Expr}{pos:Pos}{ma mb mc:Rho→Ks→R (Val × Ks)}
theorem cmr (hK:p.X.K=p.g.K)(hu5:p.X.A.units+65<cLine):∀ o:Cm,∃ r,OpR p.X (compareOp (pyCm o)) r∧Cm2Ok p r (cmV o)
 | .eq=>by
  refine ⟨_,op_eqD (show p.X.A.units+64<cLine by omega),fun {w κ H va vb v x y Q} wf rx ry e k => ?_⟩
  obtain ⟨d,e',h1,h2,s1,s2,h3⟩:=eqD_some (show eqD va vb=some v from e)
  exact ⟨d,e',by rw [hK];exact rx.dp h1,by rw [hK];exact ry.dp h2,s1,s2,by rw [h3];exact k⟩
 | .ne=>by
  refine ⟨_,op_neD (show p.X.A.units+64<cLine by omega),fun {w κ H va vb v x y Q} wf rx ry e k => ?_⟩
  obtain ⟨v',e1,e2⟩:=Option.map_eq_some_iff.mp (show (eqD va vb).map (!·)=some v from e)
  obtain ⟨d,e',h1,h2,s1,s2,h3⟩:=eqD_some e1
  exact ⟨d,e',by rw [hK];exact rx.dp h1,by rw [hK];exact ry.dp h2,s1,s2,by rw [h3,e2];exact k⟩
 | .lt=>by
  refine ⟨_,op_lt,fun {w κ H va vb v x y Q} wf rx ry e k => ?_⟩
  unfold cmV at e
  split at e <;> first|(exact absurd ‹Cm.lt=_› (by decide))|skip
  ·cases e;cases rx.int;cases ry.int
   exact ⟨_,_,rfl,rfl,k⟩
  ·cases e
 | .le=>by
  refine ⟨_,op_le,fun {w κ H va vb v x y Q} wf rx ry e k => ?_⟩
  unfold cmV at e
  split at e <;> first|(exact absurd ‹Cm.le=_› (by decide))|skip
  ·cases e;cases rx.int;cases ry.int
   exact ⟨_,_,rfl,rfl,k⟩
  ·cases e
 | .gt=>by
  refine ⟨_,op_gt,fun {w κ H va vb v x y Q} wf rx ry e k => ?_⟩
  unfold cmV at e
  split at e <;> first|(exact absurd ‹Cm.gt=_› (by decide))|skip
  ·cases e;cases rx.int;cases ry.int
   exact ⟨_,_,rfl,rfl,k⟩
  ·cases e
 | .ge=>by
  refine ⟨_,op_ge,fun {w κ H va vb v x y Q} wf rx ry e k => ?_⟩
  unfold cmV at e
  split at e <;> first|(exact absurd ‹Cm.ge=_› (by decide))|skip
  ·cases e;cases rx.int;cases ry.int
   exact ⟨_,_,rfl,rfl,k⟩
  ·cases e
 | .is_=>by
  refine ⟨_,OpR.or (OpR.or op_isN op_isBl) op_isX,fun {w κ H va vb v x y Q} wf rx ry e k => ?_⟩
  unfold cmV at e
  split at e <;> first|(exact absurd ‹Cm.is_=_› (by decide))|skip
  ·cases e;cases ry.non
   exact .inl (.inl ⟨rfl,by rw [rx.isNon];exact k⟩)
  ·cases e;cases rx.bl;cases ry.bl
   refine .inl (.inr ⟨_,_,rfl,rfl,?_⟩)
   rw [← Bool.beq_eq_decide_eq];exact k
  ·cases e;cases rx.non;cases ry.bl
   exact .inr ⟨rfl,_,rfl,k⟩
  ·cases e
 | .isnot=>by
  refine ⟨_,OpR.or op_notN op_notBl,fun {w κ H va vb v x y Q} wf rx ry e k => ?_⟩
  unfold cmV at e
  split at e <;> first|(exact absurd ‹Cm.isnot=_› (by decide))|skip
  ·cases e;cases ry.non
   exact .inl ⟨rfl,by rw [rx.isNon];exact k⟩
  ·cases e;cases rx.bl;cases ry.bl
   refine .inr ⟨_,_,rfl,rfl,?_⟩
   rw [← Bool.beq_eq_decide_eq];exact k
  ·cases e
 | .in_=>by
  refine ⟨_,op_in_seq,fun {w κ H va vb v x y Q} wf rx ry e k => ?_⟩
  unfold cmV at e
  split at e <;> first|(exact absurd ‹Cm.in_=_› (by decide))|skip
  all_goals first|(cases e;done)|skip
  all_goals
   split at e <;> first|(cases e;done)|skip
   cases e
   rename_i hf
   obtain ⟨f1,f2⟩:=Bool.and_eq_true_iff.mp hf
   have rx':=rx.ofFlat f1
  ·obtain ⟨b,ys,rfl,hb,_,rys⟩:=ry.lst wf
   exact ⟨b,ys,rfl,.inl (SqL.of hb),rx'.flat f1,rys.flat f2,by show Q (.bl (L2.inV x ys)) H;rw [← RVs.inV rx' f1 rys f2];exact k⟩
  ·obtain ⟨b,ys,rfl,hb,rys⟩:=ry.tup
   exact ⟨b,ys,rfl,.inr (by rw [hK];exact hb),rx'.flat f1,rys.flat f2,by show Q (.bl (L2.inV x ys)) H;rw [← RVs.inV rx' f1 rys f2];exact k⟩
 | .notin=>by
  refine ⟨_,op_notIn_seq,fun {w κ H va vb v x y Q} wf rx ry e k => ?_⟩
  unfold cmV at e
  split at e <;> first|(exact absurd ‹Cm.notin=_› (by decide))|skip
  all_goals first|(cases e;done)|skip
  all_goals
   split at e <;> first|(cases e;done)|skip
   cases e
   rename_i hf
   obtain ⟨f1,f2⟩:=Bool.and_eq_true_iff.mp hf
   have rx':=rx.ofFlat f1
  ·obtain ⟨b,ys,rfl,hb,_,rys⟩:=ry.lst wf
   exact ⟨b,ys,rfl,.inl (SqL.of hb),rx'.flat f1,rys.flat f2,by show Q (.bl (!L2.inV x ys)) H;rw [← RVs.inV rx' f1 rys f2];exact k⟩
  ·obtain ⟨b,ys,rfl,hb,rys⟩:=ry.tup
   exact ⟨b,ys,rfl,.inr (by rw [hK];exact hb),rx'.flat f1,rys.flat f2,by show Q (.bl (!L2.inV x ys)) H;rw [← RVs.inV rx' f1 rys f2];exact k⟩
 | .inD=>by
  refine ⟨_,op_inD hu5,fun {w κ H va vb v x y Q} wf rx ry e k => ?_⟩
  unfold cmV at e
  split at e <;> first|(exact absurd ‹Cm.inD=_› (by decide))|skip
  ·split at e
   ·rename_i d ds h1 h2
    split at e
    ·rename_i hs
     cases e
     obtain ⟨s1,s2⟩:=Bool.and_eq_true_iff.mp hs
     obtain ⟨b,ys,rfl,hb,_,rys⟩:=ry.lst wf
     exact ⟨d,ds,by rw [hK];exact rx.dp h1,.lst (SqL.of hb) (by rw [hK];exact RVs.dp rys h2),s1,s2,k⟩
    ·cases e
   ·cases e
  ·cases e
theorem SE_cm {op:CmpOp}{r:R2}{f:Val→Val→Option Bool}(ho:OpR p.X (compareOp op) r)(hr:Cm2Ok p r f)(ha:SB p a ma)(hb:SB p b mb)(hm:behindInMarks op b=false) :
  SE p (.Compare a [op] [b] pos) (fun ρ κ=>(ma ρ κ).bind fun q=>(mb ρ q.2).bind fun q'=>R.ofO ((f q.1 q'.1).map fun v=>(.bl v,q'.2))):=
 (pe_cmpR ho ha hb hm).imp fun σ H Q h=>tG_bind2 (f:=fun _ a q'=>R.ofO ((f a q'.1).map fun v=>(Val.bl v,q'.2))) RB.ext h fun w ρ κ H2 a x b y re wf rx ry po=>by
  cases e:f a b with
  | none=>rw [e] at po;exact po.elim
  | some v=>
   rw [e] at po
   exact hr wf rx ry e (po _ w H2 (Ext.refl w H2) wf (.bl v))
theorem ST_cm {op:CmpOp}{r:R2}{f:Val→Val→Option Bool}(ho:OpR p.X (compareOp op) r)(hr:Cm2Ok p r f)(ha:SB p a ma)(hb:SB p b mb)(hm:behindInMarks op b=false) :
  STt p (.Compare a [op] [b] pos) (fun ρ κ=>(ma ρ κ).bind fun q=>(mb ρ q.2).bind fun q'=>R.ofO ((f q.1 q'.1).map fun v=>(v,q'.2))):=
 (pt_cmpR ho ha hb hm).imp fun σ H Q h=>tG_bind2 (f:=fun _ a q'=>R.ofO ((f a q'.1).map fun v=>(v,q'.2))) RB.ext h fun w ρ κ H2 a x b y re wf rx ry po=>by
  cases e:f a b with
  | none=>rw [e] at po;exact po.elim
  | some v=>
   rw [e] at po
   exact hr wf rx ry e ⟨v,rfl,po v w H2 (Ext.refl w H2) wf rfl⟩
end
end PL
end
section
namespace PL
open PySem PySem.Spec PyProof.Rows L2 LamX NdefX
section
variable {p:Pl}{a b c:Expr}{pos:Pos}{ma mb mc:Rho→Ks→R (Val × Ks)}
theorem SE_var {i:Nat}{x:Str}(hN:p.X.N[i]? = some x)(hv:Vis p.X.env.scope x)(hd:(x == ("__debug__" : Str))=false)(hcd:(x == ("__classdict__" : Str))=false) :
  SE p (.Name x pos) (fun ρ κ=>R.ofO ((rdV ρ i).map fun v=>(v,κ))):=
 (pe_var hN hv hd hcd).imp fun σ H Q ⟨w,ρ,κ,re,wf,po⟩=>by
  obtain ⟨v,ev,k⟩:=Post.some (p:=p) po
  obtain ⟨x,h1,h2⟩:=re.rdV ev
  exact ⟨x,h1,k x w H (Ext.refl w H) wf h2⟩
theorem SE_con {e:Expr}{v:V}{u:Val}(h:PE p.X e (tC v))(r:∀ (w:Wd) (H:Hp),RV p.g w.I w.μ H u v):SE p e (fun _ κ=>.ok (u,κ)):=
 h.imp fun σ H Q hq=>tG_ret (f:=fun _=>u) hq fun w _ _ _ _=>r w H
def Un1Ok (p:Pl)(r:V→Hp→VK→Prop)(f:Val→Option Val):Prop:=
  ∀ {w : Wd} {κ : Ks} {H : Hp} {va v : Val} {x : V} {Q : VK}, WF p.g w κ H → RB p.g w H va x → f va = some v →
    (∀ z w' H',Ext w H w' H'→WF p.g w' κ H'→RV p.g w'.I w'.μ H' v z→Q z H')→r x H Q
theorem SE_un {e:Expr}{r:V→Hp→VK→Prop}{f:Val→Option Val}(he:∀ ta,PE p.X a ta→PE p.X e (fun σ H Q=>ta σ H fun x H1=>r x H1 Q))(hr:Un1Ok p r f)(ha:SB p a ma) :
  SE p e (fun ρ κ=>(ma ρ κ).bind fun q=>R.ofO ((f q.1).map fun v=>(v,q.2))):=
 (he _ ha).imp fun σ H Q h=>Qzn (f:=fun _ q=>R.ofO ((f q.1).map fun v=>(v,q.2))) h fun w ρ κ H1 a x re wf rx po=>by
  obtain ⟨v,ev,k⟩:=Post.some (p:=p) po
  exact hr wf rx ev k
theorem SE_neg (ha:SE p a ma):SE p (.UnaryOp .USub a pos) (fun ρ κ=>(ma ρ κ).bind fun q=>R.ofO ((ngV q.1).map fun v=>(v,q.2))):=
 SE_un (fun ta h=>pe_un un_neg h) (fun {w κ H va v x Q} wf rx e k=>by
  unfold ngV at e
  split at e
  ·cases e;cases rx.int;exact ⟨_,rfl,here wf k (.int _)⟩
  ·cases e) (SB.of ha)
theorem SE_not (ha:SE p a ma):SE p (.UnaryOp .Not a pos) (fun ρ κ=>(ma ρ κ).bind fun q=>R.ofO ((ntV q.1).map fun v=>(v,q.2))):=
 SE_un (fun ta h=>pe_not h) (fun {w κ H va v x Q} wf rx e k=>by
  unfold ntV at e
  split at e
  ·cases e;cases rx.bl;exact ⟨_,rfl,here wf k (.bl _)⟩
  ·cases e) (SB.of ha)
theorem blV_some {v:Val}{b:Bool}(h:blV v=some b):v=.bl b:=by
 unfold blV at h
 split at h
 ·cases h;rfl
 ·cases h
theorem SE_and {rest:List Expr}(ha:SE p a ma)(hb:SE p (.BoolOp .And (b::rest) pos) mb) :
  SE p (.BoolOp .And (a::b::rest) pos) (fun ρ κ=>(ma ρ κ).bind fun q=>(R.ofO (blV q.1)).bind fun k=>if k=true then mb ρ q.2 else .ok (.bl false,q.2)):=
 (pe_and ha hb).imp fun σ H Q h=>Qzn (f:=fun ρ q=>(R.ofO (blV q.1)).bind fun k=>if k=true then mb ρ q.2 else .ok (Val.bl false,q.2)) h fun w ρ κ H1 a x re wf rx po=>by
  cases e:blV a with
  | none=>rw [e] at po;exact po.elim
  | some k=>
   rw [e] at po
   cases blV_some e
   cases rx
   refine ⟨k,rfl,?_⟩
   cases k with
   | true=>exact ⟨w,ρ,κ,re,wf,po⟩
   | false=>exact po _ w H1 (Ext.refl w H1) wf (.bl false)
theorem SE_ite {mt:Rho→Ks→R (Bool × Ks)}(ht:STt p c mt)(ha:SE p a ma)(hb:SE p b mb) :
  SE p (.IfExp c a b pos) (fun ρ κ=>(mt ρ κ).bind fun q=>if q.1=true then ma ρ q.2 else mb ρ q.2):=
 (pe_ifExp ht ha hb).imp fun σ H Q h=>Qzn (f:=fun ρ q=>if q.1=true then ma ρ q.2 else mb ρ q.2) h fun w ρ κ H1 a x re wf rx po=>by
  cases rx
  cases a with
  | true=>exact ⟨w,ρ,κ,re,wf,po⟩
  | false=>exact ⟨w,ρ,κ,re,wf,po⟩
variable {mt mu:Rho→Ks→R (Bool × Ks)}
theorem tru_some (hK:p.X.K=p.g.K){w:Wd}{κ:Ks}{H:Hp}{v:Val}{x:V}{k:Bool}(wf:WF p.g w κ H)(r:RV p.g w.I w.μ H v x)(h:truV v=some k):TruV p.X.K x H k:=by
 unfold truV at h
 split at h
 ·cases h;cases r;rfl
 ·cases h;cases r;rfl
 ·cases h;cases r;rfl
 ·split at h
  ·cases h;cases r;rename_i hl;exact ⟨by rw [← Qx8];exact hl,rfl⟩
  ·cases h
 ·cases h;cases r with|tup ha r=>exact .inr (.inl ⟨_,by rw [hK];exact ha,by rw [r.isEmpty]⟩)
 ·cases h;cases r with|lst j ha r=>exact .inl ⟨_,SqL.of ha,by rw [r.isEmpty]⟩
 ·cases h
theorem ST_val (hK:p.X.K=p.g.K)(ha:SE p a ma)(he:∀ whole,isTrue a p.X.env whole=(do let v ← whole;standAt a.pos;holding [v] (truthy v))) :
  STt p a (fun ρ κ=>(ma ρ κ).bind fun q=>R.ofO ((truV q.1).map fun b=>(b,q.2))):=
 (pt_truth ha he).imp fun σ H Q h=>Qzn (f:=fun _ q=>R.ofO ((truV q.1).map fun b=>(b,q.2))) h fun w ρ κ H1 a x re wf rx po=>by
  cases e:truV a with
  | none=>rw [e] at po;exact po.elim
  | some k=>
   rw [e] at po
   exact ⟨k,tru_some hK wf rx e,po k w H1 (Ext.refl w H1) wf rfl⟩
theorem ST_not (ha:STt p a mt):STt p (.UnaryOp .Not a pos) (fun ρ κ=>(mt ρ κ).bind fun q=>.ok (!q.1,q.2)):=
 (pt_not ha).imp fun σ H Q h=>Qzn (f:=fun _ q=>.ok (!q.1,q.2)) h fun w ρ κ H1 a x re wf rx po=>by
  cases rx
  exact po _ w H1 (Ext.refl w H1) wf rfl
abbrev SW (p:Pl)(e:Expr)(m:Rho→Ks→R (Bool × Ks)):Prop:=PW p.X e (tG p (fun _ _ a b=>a=b) m)
theorem _root_.L2.PW.imp {X:Cx}{e:Expr}{t t':TT}(h:PW X e t)(k:∀ σ H Q,t' σ H Q→t σ H Q):PW X e t':=⟨fun wh pins s σ H Q I q=>h.run wh pins s σ H Q I (k σ H Q q)⟩
theorem SW_and {rest:List Expr}(ha:STt p a mt)(hb:SW p (.BoolOp .And (b::rest) pos) mu) :
  SW p (.BoolOp .And (a::b::rest) pos) (fun ρ κ=>(mt ρ κ).bind fun q=>if q.1=true then mu ρ q.2 else .ok (false,q.2)):=
 (pw_and ha hb).imp fun σ H Q h=>Qzn (f:=fun ρ q=>if q.1=true then mu ρ q.2 else .ok (false,q.2)) h fun w ρ κ H1 a x re wf rx po=>by
  cases rx
  cases a with
  | true=>exact ⟨w,ρ,κ,re,wf,po⟩
  | false=>exact po _ w H1 (Ext.refl w H1) wf rfl
theorem SW_or {rest:List Expr}(ha:STt p a mt)(hb:SW p (.BoolOp .Or (b::rest) pos) mu) :
  SW p (.BoolOp .Or (a::b::rest) pos) (fun ρ κ=>(mt ρ κ).bind fun q=>if q.1=true then .ok (true,q.2) else mu ρ q.2):=
 (pw_or ha hb).imp fun σ H Q h=>Qzn (f:=fun ρ q=>if q.1=true then .ok (true,q.2) else mu ρ q.2) h fun w ρ κ H1 a x re wf rx po=>by
  cases rx
  cases a with
  | false=>exact ⟨w,ρ,κ,re,wf,po⟩
  | true=>exact po _ w H1 (Ext.refl w H1) wf rfl
theorem SEs_nil:SEs p [] (fun _ κ=>.ok ([],κ)):=pa_nil.imp fun σ H Q h=>tG_ret (f:=fun _=>([]:List Val)) h fun _ _ _ _ _=>.nil
theorem Qzf {es:List Expr}{ms:Rho→Ks→R (List Val × Ks)}(ha:SE p a ma)(hs:SEs p es ms)(hst:starEach (a::es) p.X.env=(false,eval a p.X.env)::starEach es p.X.env) :
  SEs p (a::es) (fun ρ κ=>(ma ρ κ).bind fun q=>(ms ρ q.2).bind fun r=>.ok (q.1::r.1,r.2)):=
 (pa_cons ha hs hst).imp fun σ H Q h=>tG_bind2 (f:=fun _ a r=>.ok (a::r.1,r.2)) (fun e wf r=>RV.ext e wf r) h fun w ρ κ H2 a x b y re wf rx ry po=>po _ w H2 (Ext.refl w H2) wf (.cons rx ry)
theorem SBs_nil:SBs p [] (fun _ κ=>.ok ([],κ)):=pa_nil.imp fun σ H Q h=>tG_ret (f:=fun _=>([]:List Val)) h fun _ _ _ _ _=>.nil
theorem SBs_cons {es:List Expr}{ms:Rho→Ks→R (List Val × Ks)}(ha:SB p a ma)(hs:SBs p es ms)(hst:starEach (a::es) p.X.env=(false,eval a p.X.env)::starEach es p.X.env) :
  SBs p (a::es) (fun ρ κ=>(ma ρ κ).bind fun q=>(ms ρ q.2).bind fun r=>.ok (q.1::r.1,r.2)):=
 (pa_cons ha hs hst).imp fun σ H Q h=>tG_bind2 (f:=fun _ a r=>.ok (a::r.1,r.2)) RB.ext h fun w ρ κ H2 a x b y re wf rx ry po=>po _ w H2 (Ext.refl w H2) wf (.cons rx ry)
variable {es:List Expr}{ms:Rho→Ks→R (List Val × Ks)}
theorem SE_tup {x1:Nat}(h:SEs p es ms):SE p (.Tuple es x1 pos) (fun ρ κ=>(ms ρ κ).bind fun q=>if q.1.length≤LINE then .ok (.tup q.1,q.2) else .bad):=
 (pe_tup h).imp fun σ H Q h=>Qzn (f:=fun _ q=>if q.1.length≤LINE then .ok (Val.tup q.1,q.2) else .bad) h fun w ρ κ H1 a x re wf rx po=>by
  by_cases hl:a.length≤LINE
  ·simp only [hl,if_true] at po
   refine ⟨by rw [← rx.length,← Qx8];exact hl,fun q hq => ?_⟩
   obtain ⟨e1,wf1,r1⟩:=RV.newTup wf rx hq
   exact po _ _ _ e1 wf1 r1
  ·simp only [hl,if_false] at po;exact po.elim
theorem SE_lst (h:SEs p es ms):SE p (.List es pos) (fun ρ κ=>(ms ρ κ).bind fun q=>if q.1.length≤LINE then .ok (.lst q.1,q.2) else .bad):=
 (pe_lst h).imp fun σ H Q h=>Qzn (f:=fun _ q=>if q.1.length≤LINE then .ok (Val.lst q.1,q.2) else .bad) h fun w ρ κ H1 a x re wf rx po=>by
  by_cases hl:a.length≤LINE
  ·simp only [hl,if_true] at po
   refine ⟨by rw [← rx.length,← Qx8];exact hl,fun q hq => ?_⟩
   obtain ⟨e1,wf1,r1⟩:=RV.newLst wf rx hq
   exact po _ _ _ e1 wf1 r1
  ·simp only [hl,if_false] at po;exact po.elim
theorem rvs_atI {w:Wd}{H:Hp}{l:List Val}{xs:List V}(r:RVs p.g w.I w.μ H l xs){i:Int}{v:Val}(h:atI l i=some v):∃ x,atI xs i=some x∧RV p.g w.I w.μ H v x:=by
 unfold atI at h ⊢
 rw [← r.length]
 cases e:ixN l.length i with
 | none=>rw [e] at h;cases h
 | some j=>
  rw [e] at h
  exact r.get h
theorem rvs_cut {w:Wd}{H:Hp}{l:List Val}{xs:List V}(r:RVs p.g w.I w.μ H l xs)(lo hi:Option Int):RVs p.g w.I w.μ H (cutL l lo hi) (cutV xs lo hi):=by
 unfold cutL cutV
 rw [r.length]
 exact (r.drop _).take _
theorem scr_atI {ns:List Int}{i n:Int}(h1:atI ns i=some n):atI (ns.map V.int) i=some (.int n):=by
 unfold atI at h1 ⊢
 rw [List.length_map]
 cases e:ixN ns.length i with
 | none=>rw [e] at h1;cases h1
 | some j=>
  rw [e] at h1
  have h1:ns[j]? = some n:=h1
  show (ns.map V.int)[j]? = some (.int n)
  rw [List.getElem?_map,h1];rfl
theorem SE_ix (hK:p.X.K=p.g.K)(ha:SB p a ma)(hb:SE p b mb)(hs:PlainIx b) :
  SE p (.Subscript a b pos) (fun ρ κ=>(ma ρ κ).bind fun q=>(mb ρ q.2).bind fun q'=>R.ofO ((ixV q'.2 q.1 q'.1).map fun v=>(v,q'.2))):=
 (pe_ix ix_seq ha hb hs).imp fun σ H Q h=>tG_bind2 (f:=fun _ a q'=>R.ofO ((ixV q'.2 a q'.1).map fun v=>(v,q'.2))) RB.ext h fun w ρ κ H2 a x b y re wf rx ry po=>by
  obtain ⟨v,ev,k⟩:=Post.some (p:=p) po
  have ev:ixV κ a b=some v:=ev
  unfold ixV at ev
  split at ev
  ·cases ry
   obtain ⟨q,xs,rfl,hq,r⟩:=rx.tup
   obtain ⟨z,h1,h2⟩:=rvs_atI r ev
   exact .inr (.inl ⟨q,xs,_,z,rfl,rfl,by rw [hK];exact hq,h1,here wf k h2⟩)
  ·cases ry
   obtain ⟨q,xs,rfl,hq,_,r⟩:=rx.lst wf
   obtain ⟨z,h1,h2⟩:=rvs_atI r ev
   exact .inl ⟨q,xs,_,z,rfl,rfl,SqL.of hq,h1,here wf k h2⟩
  ·split at ev
   ·cases ry;cases rx.str
    rename_i hl
    obtain ⟨c,h1,h2⟩:=Option.map_eq_some_iff.mp ev
    subst h2
    exact .inr (.inr ⟨_,_,c,rfl,rfl,by rw [← Qx8];exact hl,h1,here wf k (.str _)⟩)
   ·cases ev
  ·cases ry
   obtain ⟨q,rfl,hm⟩:=rx.cell
   obtain ⟨cc,e1,e2⟩:=wf.at_ _ _ hm
   rw [e1] at ev
   cases e2 with
   | dct _ _ _=>cases ev
   | obj _ _ _ _ _ _=>cases ev
   | lst e2 r=>
    obtain ⟨z,h1,h2⟩:=rvs_atI r ev
    exact .inl ⟨q,_,_,z,rfl,rfl,SqL.of e2,h1,here wf k h2⟩
  ·cases ry
   obtain ⟨q,rfl,hq⟩:=rx.scr
   obtain ⟨n,h1,h2⟩:=Option.map_eq_some_iff.mp ev
   subst h2
   exact .inl ⟨q,_,_,.int n,rfl,rfl,by rw [hK];exact hq,scr_atI h1,here wf k (.int n)⟩
  ·cases ev
abbrev SO (p:Pl)(e:Option Expr)(m:Rho→Ks→R (Option Int × Ks)):Prop:=PO p.X e (tG p (fun _ _ a b=>a=b) m)
theorem _root_.L2.PO.imp {X:Cx}{e:Option Expr}{t t':TO}(h:PO X e t)(k:∀ σ H Q,t' σ H Q→t σ H Q):PO X e t':=⟨fun pins s σ H Q I q=>h.run pins s σ H Q I (k σ H Q q)⟩
theorem SO_no:SO p none (fun _ κ=>.ok (none,κ)):=po_none.imp fun σ H Q h=>tG_ret (f:=fun _=>(none:Option Int)) h fun _ _ _ _ _=>rfl
theorem SO_yes (h:SE p a ma):SO p (some a) (fun ρ κ=>(ma ρ κ).bind fun q=>R.ofO ((Qzk q.1).map fun i=>(some i,q.2))):=
 (po_some h).imp fun σ H Q h=>Qzn (f:=fun _ q=>R.ofO ((Qzk q.1).map fun i=>(some i,q.2))) h fun w ρ κ H1 a x re wf rx po=>by
  cases e:Qzk a with
  | none=>rw [e] at po;exact po.elim
  | some i=>
   rw [e] at po
   unfold Qzk at e
   split at e
   ·cases e;cases rx
    exact ⟨i,rfl,po _ w H1 (Ext.refl w H1) wf rfl⟩
   ·cases e
variable {lo hi:Option Expr}{ml mh:Rho→Ks→R (Option Int × Ks)}{p2:Pos}
theorem SE_sl (hK:p.X.K=p.g.K)(ha:SB p a ma)(hl:SO p lo ml)(hh:SO p hi mh) :
  SE p (.Subscript a (.Slice lo hi none p2) pos) (fun ρ κ=>(ma ρ κ).bind fun q=>(ml ρ q.2).bind fun r=>(mh ρ r.2).bind fun t=>R.ofO ((slV q.1 r.1 t.1).map fun v=>(v,t.2))):=
 (pe_slice (SlR.or sl_list (SlR.or sl_tupA sl_str)) ha hl hh).imp fun σ H Q ⟨w,ρ,κ,re,wf,po⟩=>
  ⟨w,ρ,κ,re,wf,Post.bind po fun w1 H1 v κ1 x wf1 e1 rx po1=>⟨w1,ρ,κ1,re.ext e1 wf,wf1,Post.bind po1 fun w2 H2 l κ2 l' wf2 e2 rl po2=>
   ⟨w2,ρ,κ2,(re.ext e1 wf).ext e2 wf1,wf2,Post.bind po2 fun w3 H3 u κ3 u' wf3 e3 ru po3=>by
    have rx3:=(rx.ext e2 wf1).ext e3 wf2
    cases rl;cases ru
    obtain ⟨z,ev,k⟩:=Post.some (p:=p) po3
    have ev:slV v l u=some z:=ev
    unfold slV at ev
    split at ev
    ·cases ev
     obtain ⟨q,xs,rfl,hq,r⟩:=rx3.tup
     refine .inr (.inl ⟨q,xs,rfl,by rw [hK];exact hq,fun hw => ?_,fun hw n hn => ?_⟩)
     ·refine here wf3 k ?_
      rename_i l0
      have e0:cutL l0 l u=l0:=by
       unfold cutL
       rw [r.length,hw.1,hw.2,← r.length]
       simp
      rw [e0]
      exact .tup hq r
     ·have r2:=rvs_cut r l u
      obtain ⟨e4,wf4,r4⟩:=RV.newTup wf3 r2 hn
      exact k _ _ _ e4 wf4 r4
    ·cases ev
     obtain ⟨q,xs,rfl,hq,_,r⟩:=rx3.lst wf3
     refine .inl ⟨q,xs,rfl,SqL.of hq,fun n hn => ?_⟩
     have r2:=rvs_cut r l u
     obtain ⟨e4,wf4,r4⟩:=RV.newLst wf3 r2 hn
     exact k _ _ _ e4 wf4 r4
    ·split at ev
     ·cases ev
      rename_i hz
      cases rx3.str
      exact .inr (.inr ⟨_,rfl,by rw [← Qx8];exact hz,here wf3 k (.str _)⟩)
     ·cases ev
    ·cases ev⟩⟩⟩
theorem SE_chain {o o':Cm}{op op':CmpOp}{r r':R2}(ho:OpR p.X (compareOp op) r)(hr:Cm2Ok p r (cmV o))(ho':OpR p.X (compareOp op') r')(hr':Cm2Ok p r' (cmV o'))(ha:SE p a ma)(hb:SE p b mb)(hc:SE p c mc)
  (hm:lastMarks [op,op'] [b,c]=false) :
  SE p (.Compare a [op,op'] [b,c] pos) (fun ρ κ=>(ma ρ κ).bind fun q=>(mb ρ q.2).bind fun q'=>(R.ofO (cmV o q.1 q'.1)).bind fun k=>
   if k=true then (mc ρ q'.2).bind fun r=>R.ofO ((cmV o' q'.1 r.1).map fun v=>(.bl v,r.2)) else .ok (.bl false,q'.2)):=
 (pe_chain ho ho' ha hb hc hm).imp fun σ H Q ⟨w,ρ,κ,re,wf,po⟩=>
  ⟨w,ρ,κ,re,wf,Post.bind po fun w1 H1 v κ1 x wf1 e1 rx po1=>⟨w1,ρ,κ1,re.ext e1 wf,wf1,Post.bind po1 fun w2 H2 l κ2 y wf2 e2 ry po2=>by
   have rx2:=rx.ext e2 wf1
   have re2:=(re.ext e1 wf).ext e2 wf1
   have po2:Post p.g p.clA (rV p.g) w2 H2 ((R.ofO (cmV o v l)).bind fun k=>if k=true then (mc ρ κ2).bind fun r=>R.ofO ((cmV o' l r.1).map fun v=>(Val.bl v,r.2)) else .ok (Val.bl false,κ2)) Q (fun c d H'=>p.W c d σ H'):=po2
   cases e:cmV o v l with
   | none=>rw [e] at po2;exact po2.elim
   | some k=>
    rw [e] at po2
    refine hr wf2 (.of rx2) (.of ry) e ⟨k,rfl,?_⟩
    cases k with
    | false=>exact po2 _ w2 H2 (Ext.refl w2 H2) wf2 (.bl false)
    | true=>
     rw [if_pos rfl]
     refine ⟨w2,ρ,κ2,re2,wf2,Post.bind po2 fun w3 H3 u κ3 z wf3 e3 rz po3 => ?_⟩
     have po3:Post p.g p.clA (rV p.g) w3 H3 (R.ofO ((cmV o' l u).map fun v=>(Val.bl v,κ3))) Q (fun c d H'=>p.W c d σ H'):=po3
     cases e':cmV o' l u with
     | none=>rw [e'] at po3;exact po3.elim
     | some k'=>
      rw [e'] at po3
      exact hr' wf3 (.of (ry.ext e3 wf2)) (.of rz) e' (po3 _ w3 H3 (Ext.refl w3 H3) wf3 (.bl k'))⟩⟩
theorem ST_chain {o o':Cm}{op op':CmpOp}{r r':R2}(ho:OpR p.X (compareOp op) r)(hr:Cm2Ok p r (cmV o))(ho':OpR p.X (compareOp op') r')(hr':Cm2Ok p r' (cmV o'))(ha:SE p a ma)(hb:SE p b mb)(hc:SE p c mc)
  (hm:lastMarks [op,op'] [b,c]=false) :
  STt p (.Compare a [op,op'] [b,c] pos) (fun ρ κ=>(ma ρ κ).bind fun q=>(mb ρ q.2).bind fun q'=>(R.ofO (cmV o q.1 q'.1)).bind fun k=>
   if k=true then (mc ρ q'.2).bind fun r=>R.ofO ((cmV o' q'.1 r.1).map fun v=>(v,r.2)) else .ok (false,q'.2)):=
 (pt_chain ho ho' ha hb hc hm).imp fun σ H Q ⟨w,ρ,κ,re,wf,po⟩=>
  ⟨w,ρ,κ,re,wf,Post.bind po fun w1 H1 v κ1 x wf1 e1 rx po1=>⟨w1,ρ,κ1,re.ext e1 wf,wf1,Post.bind po1 fun w2 H2 l κ2 y wf2 e2 ry po2=>by
   have rx2:=rx.ext e2 wf1
   have re2:=(re.ext e1 wf).ext e2 wf1
   have po2:Post p.g p.clA (fun _ _ a b=>a=b) w2 H2 ((R.ofO (cmV o v l)).bind fun k=>if k=true then (mc ρ κ2).bind fun r=>R.ofO ((cmV o' l r.1).map fun v=>(v,r.2)) else .ok (false,κ2)) Q (fun c d H'=>p.W c d σ H'):=po2
   cases e:cmV o v l with
   | none=>rw [e] at po2;exact po2.elim
   | some k=>
    rw [e] at po2
    refine hr wf2 (.of rx2) (.of ry) e ⟨k,rfl,?_⟩
    cases k with
    | false=>exact ⟨false,rfl,po2 _ w2 H2 (Ext.refl w2 H2) wf2 rfl⟩
    | true=>
     rw [if_pos rfl]
     refine ⟨w2,ρ,κ2,re2,wf2,Post.bind po2 fun w3 H3 u κ3 z wf3 e3 rz po3 => ?_⟩
     have po3:Post p.g p.clA (fun _ _ a b=>a=b) w3 H3 (R.ofO ((cmV o' l u).map fun v=>(v,κ3))) Q (fun c d H'=>p.W c d σ H'):=po3
     cases e':cmV o' l u with
     | none=>rw [e'] at po3;exact po3.elim
     | some k'=>
      rw [e'] at po3
      exact hr' wf3 (.of (ry.ext e3 wf2)) (.of rz) e' ⟨k',rfl,po3 _ w3 H3 (Ext.refl w3 H3) wf3 rfl⟩⟩⟩
end
end PL
end
section
namespace PL
open PySem PySem.Spec PyProof.Rows L2 LamX NdefX
def CallOk (p:Pl)(r:List V→Hp→VK→Prop)(f:List Val→Option Val):Prop:=
  ∀ {w : Wd} {κ : Ks} {H : Hp} {l : List Val} {v : Val} {xs : List V} {Q : VK}, WF p.g w κ H → RBs p.g w H l xs → f l = some v →
    (∀ z w' H',Ext w H w' H'→WF p.g w' κ H'→RV p.g w'.I w'.μ H' v z→Q z H')→r xs H Q
def biN:Bi→Str
 | .len => "len" | .abs => "abs" | .min2 => "min" | .max2 => "max" | .int => "int" | .bool => "bool" | .str => "str" | .tuple => "tuple" | .list => "list" | .all => "all" | .any => "any"
def biF:Bi→Value
 | .len=>.builtin "len" | .abs=>.builtin "abs" | .min2=>.builtin "min" | .max2=>.builtin "max" | .int=>.type "int" | .bool=>.type "bool" | .str=>.type "str" | .tuple=>.type "tuple" | .list=>.type "list" | .all=>.builtin "all" | .any=>.builtin "any"
theorem CallR.or {X:Cx}{f:Value}{r r':List V→Hp→VK→Prop}(h:CallR X f r)(h':CallR X f r'):CallR X f (fun xs H Q=>r xs H Q∨r' xs H Q):=fun pins s σ H xs us Q I r q=>q.elim (h pins s σ H xs us Q I r) (h' pins s σ H xs us Q I r)
theorem RBs.one {g:Gx}{w:Wd}{H:Hp}{v:Val}{xs:List V}(r:RBs g w H [v] xs):∃ x,xs=[x]∧RB g w H v x:=by
 cases r with|cons h t=>cases t;exact ⟨_,rfl,h⟩
theorem RBs.two {g:Gx}{w:Wd}{H:Hp}{v u:Val}{xs:List V}(r:RBs g w H [v,u] xs):∃ x y,xs=[x,y]∧RB g w H v x∧RB g w H u y:=by
 cases r with|cons h t=>cases t with|cons h' t=>cases t;exact ⟨_,_,rfl,h,h'⟩
theorem bls_of {g:Gx}{J:Addr→Prop}{μ:List Addr}{H:Hp}:∀ {l:List Val} {xs:List V} {bs:List Bool},RVs g J μ H l xs→blsOf l=some bs→xs=bs.map V.bl
 | _,_,_,.nil,e=>by cases e;rfl
 | _,_,_,.cons h t,e=>by
  unfold blsOf at e
  split at e
  ·rename_i h0;cases h0
  ·rename_i h0
   cases h0
   obtain ⟨bs',e1,e2⟩:=Option.map_eq_some_iff.mp e
   subst e2
   cases h
   rw [bls_of t e1];rfl
  ·cases e
theorem ints_of' {g:Gx}{J:Addr→Prop}{μ:List Addr}{H:Hp}:∀ {l:List Val} {xs:List V} {ns:List Int},RVs g J μ H l xs→intsOf l=some ns→xs=ns.map V.int
 | _,_,_,.nil,e=>by cases e;rfl
 | _,_,_,.cons h t,e=>by
  unfold intsOf at e
  split at e
  ·rename_i h0;cases h0
  ·rename_i h0
   cases h0
   obtain ⟨bs',e1,e2⟩:=Option.map_eq_some_iff.mp e
   subst e2
   cases h
   rw [ints_of' t e1];rfl
  ·cases e
def rAllT (K:PySem.W.Frag):List V→Hp→VK→Prop:=fun vs H Q=>∃ (a:Addr) (bs:List Bool),vs=[V.ref a]∧SqT K H a (bs.map V.bl)∧Q (.bl (bs.all id)) H
theorem dp_bls {K:PySem.W.Frag}{H:Hp}:∀ bs:List Bool,DpAll K H (bs.map V.bl) (bs.map PyData.bool)
 | []=>.nil
 | b::bs=>.cons (.bl b) (dp_bls bs)
theorem bls_plain:∀ bs:List Bool,PyData.plainAll (bs.map PyData.bool)=true
 | []=>rfl
 | b::bs=>by
  rw [List.map_cons,PyData.plainAll,bls_plain bs];rfl
theorem bls_truthy:∀ bs:List Bool,(bs.map PyData.bool).all PyData.truthy=bs.all id
 | []=>rfl
 | b::bs=>by
  rw [List.map_cons,List.all_cons,List.all_cons,bls_truthy bs];rfl
theorem cr_allT {X:Cx}(hc:X.calm=true):CallR X (.builtin "all") (rAllT X.K):=by
 intro pins s σ H vs us Q I r h
 obtain ⟨a,bs,rfl,hs,q⟩:=h
 obtain ⟨its,rv,ht,_⟩:=I.tuple hs
 rw [Vals.ref1 r]
 obtain ⟨as,rd⟩:=Dp.readsAll I _ _ _ (dp_bls bs) rv
 refine PySem.W.all_tuple_data (I.ok.hd hc) ht (by simpa using rd) (bls_plain bs) (fun x hx => ?_) fun h' tk hk => ?_
 ·obtain ⟨b,_,rfl⟩:=List.mem_map.mp hx
  trivial
 ·rw [bls_truthy]
  exact ⟨.bl (bs.all id),H,I.kept hk,rfl,q⟩
section
variable {p:Pl}{a b c:Expr}{pos:Pos}{ma mb mc:Rho→Ks→R (Val × Ks)}
theorem bir (hK:p.X.K=p.g.K)(hc:p.X.calm=true):∀ b:Bi,∃ r,CallR p.X (biF b) r∧CallOk p r (biV b)
 | .len=>by
  refine ⟨_,call_len,fun {w κ H l v xs Q} wf rx e k => ?_⟩
  unfold biV at e
  split at e <;> first|(exact absurd ‹Bi.len=_› (by decide))|skip
  ·cases e;obtain ⟨x,rfl,r⟩:=rx.one
   obtain ⟨q,ys,rfl,hq,r⟩:=r.tup
   exact ⟨_,_,rfl,.inr ⟨ys,by rw [hK];exact hq,rfl⟩,by rw [← r.length];exact here wf k (.int _)⟩
  ·cases e;obtain ⟨x,rfl,r⟩:=rx.one
   obtain ⟨q,ys,rfl,hq,_,r⟩:=r.lst wf
   exact ⟨_,_,rfl,.inl ⟨ys,SqL.of hq,rfl⟩,by rw [← r.length];exact here wf k (.int _)⟩
  ·cases e;obtain ⟨x,rfl,r⟩:=rx.one
   obtain ⟨q,rfl,hq⟩:=r.scr
   exact ⟨_,_,rfl,.inl ⟨_,by rw [hK];exact hq,rfl⟩,by rw [List.length_map];exact here wf k (.int _)⟩
  ·split at e
   ·cases e;obtain ⟨x,rfl,r⟩:=rx.one
    cases r.str;rename_i hl
    exact ⟨_,_,rfl,⟨by rw [← Qx8];exact hl,rfl⟩,here wf k (.int _)⟩
   ·cases e
  ·cases e
 | .abs=>by
  refine ⟨_,call_abs,fun {w κ H l v xs Q} wf rx e k => ?_⟩
  unfold biV at e
  split at e <;> first|(exact absurd ‹Bi.abs=_› (by decide))|skip
  ·cases e;obtain ⟨x,rfl,r⟩:=rx.one;cases r.int
   exact ⟨_,rfl,here wf k (.int _)⟩
  ·cases e
 | .min2=>by
  refine ⟨_,(call_min2 hc).or (cr_min hc),fun {w κ H l v xs Q} wf rx e k => ?_⟩
  unfold biV at e
  split at e <;> first|(exact absurd ‹Bi.min2=_› (by decide))|skip
  ·split at e
   ·rename_i n ns e1
    cases e;obtain ⟨x,rfl,r⟩:=rx.one
    obtain ⟨q,ys,rfl,hq,_,r⟩:=r.lst wf
    cases ints_of' r e1
    refine .inr ⟨q,n::ns,rfl,SqL.of hq,by simp,fun m hm hy => ?_⟩
    have e2:m=minI n ns:=by
     have h1:=hy _ (minI_mem ns n)
     have h2:=minI_le ns n
     rcases List.mem_cons.mp hm with h|h
     ·have:=h2.1;omega
     ·have:=h2.2 m h;omega
    rw [e2]
    exact here wf k (.int _)
   ·cases e
  ·cases e;obtain ⟨x,y,rfl,r,r'⟩:=rx.two;cases r.int;cases r'.int
   exact .inl ⟨_,_,rfl,here wf k (.int _)⟩
  ·cases e
 | .max2=>by
  refine ⟨_,(call_max2 hc).or (cr_max hc),fun {w κ H l v xs Q} wf rx e k => ?_⟩
  unfold biV at e
  split at e <;> first|(exact absurd ‹Bi.max2=_› (by decide))|skip
  ·split at e
   ·rename_i n ns e1
    cases e;obtain ⟨x,rfl,r⟩:=rx.one
    obtain ⟨q,ys,rfl,hq,_,r⟩:=r.lst wf
    cases ints_of' r e1
    refine .inr ⟨q,n::ns,rfl,SqL.of hq,by simp,fun m hm hy => ?_⟩
    have e2:m=maxI n ns:=by
     have h1:=hy _ (maxI_mem ns n)
     have h2:=maxI_ge ns n
     rcases List.mem_cons.mp hm with h|h
     ·have:=h2.1;omega
     ·have:=h2.2 m h;omega
    rw [e2]
    exact here wf k (.int _)
   ·cases e
  ·cases e;obtain ⟨x,y,rfl,r,r'⟩:=rx.two;cases r.int;cases r'.int
   exact .inl ⟨_,_,rfl,here wf k (.int _)⟩
  ·cases e
 | .int=>by
  refine ⟨_,call_int1,fun {w κ H l v xs Q} wf rx e k => ?_⟩
  unfold biV at e
  split at e <;> first|(exact absurd ‹Bi.int=_› (by decide))|skip
  ·cases e;obtain ⟨x,rfl,r⟩:=rx.one;cases r.int
   exact .inl ⟨_,rfl,here wf k (.int _)⟩
  ·cases e;obtain ⟨x,rfl,r⟩:=rx.one;cases r.bl
   exact .inr ⟨_,rfl,here wf k (.int _)⟩
  ·cases e
 | .bool=>by
  refine ⟨_,call_bool1,fun {w κ H l v xs Q} wf rx e k => ?_⟩
  unfold biV at e
  split at e <;> first|(exact absurd ‹Bi.bool=_› (by decide))|skip
  ·cases e;obtain ⟨x,rfl,r⟩:=rx.one;cases r.bl
   exact .inr ⟨_,rfl,here wf k (.bl _)⟩
  ·cases e
 | .str=>by
  refine ⟨_,call_str_int,fun {w κ H l v xs Q} wf rx e k => ?_⟩
  unfold biV at e
  split at e <;> first|(exact absurd ‹Bi.str=_› (by decide))|skip
  ·split at e
   ·cases e;obtain ⟨x,rfl,r⟩:=rx.one;cases r.int;rename_i hl
    exact ⟨_,rfl,Nat.lt_trans (PySem.Flt.log2_lt_of (by decide) hl) (by decide),here wf k (.str _)⟩
   ·cases e
  ·cases e
 | .tuple=>by
  refine ⟨_,call_tuple_of,fun {w κ H l v xs Q} wf rx e k => ?_⟩
  unfold biV at e
  split at e <;> first|(exact absurd ‹Bi.tuple=_› (by decide))|skip
  ·cases e;obtain ⟨x,rfl,r⟩:=rx.one
   obtain ⟨q,ys,rfl,hq,r⟩:=r.tup
   exact ⟨_,_,rfl,.inr ⟨by rw [hK];exact hq,here wf k (.tup hq r)⟩⟩
  ·cases e;obtain ⟨x,rfl,r⟩:=rx.one
   obtain ⟨q,ys,rfl,hq,_,r⟩:=r.lst wf
   refine ⟨_,_,rfl,.inl ⟨SqL.of hq,fun n hn => ?_⟩⟩
   obtain ⟨e1,wf1,r1⟩:=RV.newTup wf r hn
   exact k _ _ _ e1 wf1 r1
  ·cases e
 | .list=>by
  refine ⟨_,call_list_of,fun {w κ H l v xs Q} wf rx e k => ?_⟩
  unfold biV at e
  split at e <;> first|(exact absurd ‹Bi.list=_› (by decide))|skip
  ·cases e;obtain ⟨x,rfl,r⟩:=rx.one
   obtain ⟨q,ys,rfl,hq,r⟩:=r.tup
   refine ⟨_,_,rfl,.inr (by rw [hK];exact hq),fun n hn => ?_⟩
   obtain ⟨e1,wf1,r1⟩:=RV.newLst wf r hn
   exact k _ _ _ e1 wf1 r1
  ·cases e;obtain ⟨x,rfl,r⟩:=rx.one
   obtain ⟨q,ys,rfl,hq,_,r⟩:=r.lst wf
   refine ⟨_,_,rfl,.inl (SqL.of hq),fun n hn => ?_⟩
   obtain ⟨e1,wf1,r1⟩:=RV.newLst wf r hn
   exact k _ _ _ e1 wf1 r1
  ·cases e
 | .all=>by
  refine ⟨_,(cr_all hc).or (cr_allT hc),fun {w κ H l v xs Q} wf rx e k => ?_⟩
  unfold biV at e
  split at e <;> first|(exact absurd ‹Bi.all=_› (by decide))|skip
  ·obtain ⟨bs,e1,e2⟩:=Option.map_eq_some_iff.mp e
   subst e2
   obtain ⟨x,rfl,r⟩:=rx.one
   obtain ⟨q,ys,rfl,hq,_,r⟩:=r.lst wf
   cases bls_of r e1
   exact .inl ⟨_,_,rfl,SqL.of hq,here wf k (.bl _)⟩
  ·obtain ⟨bs,e1,e2⟩:=Option.map_eq_some_iff.mp e
   subst e2
   obtain ⟨x,rfl,r⟩:=rx.one
   obtain ⟨q,ys,rfl,hq,r⟩:=r.tup
   cases bls_of r e1
   exact .inr ⟨_,_,rfl,by rw [hK];exact hq,here wf k (.bl _)⟩
  ·cases e
 | .any=>by
  refine ⟨_,cr_any hc,fun {w κ H l v xs Q} wf rx e k => ?_⟩
  unfold biV at e
  split at e <;> first|(exact absurd ‹Bi.any=_› (by decide))|skip
  ·obtain ⟨bs,e1,e2⟩:=Option.map_eq_some_iff.mp e
   subst e2
   obtain ⟨x,rfl,r⟩:=rx.one
   obtain ⟨q,ys,rfl,hq,_,r⟩:=r.lst wf
   cases bls_of r e1
   exact ⟨_,_,rfl,SqL.of hq,here wf k (.bl _)⟩
  ·cases e
theorem SE_callr {e:Expr}{es:List Expr}{ms:Rho→Ks→R (List Val × Ks)}{x:Str}{q pos:Pos}{F:Value}{r:List V→Hp→VK→Prop}{f:List Val→Option Val}(hF:(∃ id,F=.builtin id)∨∃ T,F=.type T)(hc:CallR p.X F r)(hr:CallOk p r f)(hg:L2.Gl p.X x)(hm:p.X.mg x=none)
  (hv:bootBuiltins x=some F) (ha:SBs p (e::es) ms) (hn:x ≠ "__name__") (hdb:(x == ("__debug__" : Str))=false) (he:starEach (e::es) p.X.env=(false,eval e p.X.env)::starEach es p.X.env) (hpl:(backTo pos (starEach es p.X.env)).any (·.1)=false) :
  SE p (.Call (.Name x q) (e::es) [] pos) (fun ρ κ=>(ms ρ κ).bind fun q=>R.ofO ((f q.1).map fun v=>(v,q.2))):=by
 have go:∀ σ H Q,tG p (rV p.g) (fun ρ κ=>(ms ρ κ).bind fun q=>R.ofO ((f q.1).map fun v=>(v,q.2))) σ H Q→tCB r (tG p (fun w H l xs=>RBs p.g w H l xs) ms) σ H Q:=fun σ H Q h=>
  Qzn (f:=fun _ q=>R.ofO ((f q.1).map fun v=>(v,q.2))) h fun w ρ κ H1 a x re wf rx po=>by
   obtain ⟨v,ev,k⟩:=Post.some (p:=p) po
   exact hr wf rx ev k
 rcases hF with ⟨id,rfl⟩|⟨T,rfl⟩
 ·exact (pe_callB hc hg hm hv ha hn hdb he hpl).imp go
 ·exact (pe_callTy hc hg hm hv ha hn hdb he hpl).imp go
theorem biF_form (b:Bi):(∃ id,biF b=.builtin id)∨∃ T,biF b=.type T:=by cases b <;> first|exact .inl ⟨_,rfl⟩|exact .inr ⟨_,rfl⟩
theorem biN_name (b:Bi):biN b ≠ "__name__" := by cases b <;> decide +kernel
theorem biN_debug (b:Bi):(biN b == ("__debug__" : Str))=false:=by cases b <;> decide +kernel
def tyN:Ty→Str
 | .int => "int" | .bool => "bool" | .str => "str" | .tuple => "tuple" | .list => "list"
def tyS:Ty→String
 | .int => "int" | .bool => "bool" | .str => "str" | .tuple => "tuple" | .list => "list"
theorem ty_boot (t:Ty):bootBuiltins (tyN t)=some (.type (tyS t)):=by cases t <;> decide +kernel
theorem tyN_name (b:Ty):tyN b ≠ "__name__" := by cases b <;> decide +kernel
theorem tyN_debug (b:Ty):(tyN b == ("__debug__" : Str))=false:=by cases b <;> decide +kernel
def tyOf:Val→Option String
 | .non=>some "NoneType" | .bl _=>some "bool" | .int _=>some "int" | .str _=>some "str" | .tup _=>some "tuple" | .lst _=>some "list"
 | _=>none
theorem isiV_kit {t:Ty}{v:Val}{b:Bool}(h:isiV t v=some b):∃ T,tyOf v=some T∧kitB T (tyS t)=some b:=by
 unfold isiV at h
 split at h <;> first|(cases h;done)|skip
 all_goals (cases h;refine ⟨_,rfl,?_⟩;cases t <;> decide +kernel)
theorem RB.ty (hK:p.X.K=p.g.K){w:Wd}{H:Hp}{v:Val}{x:V}{T:String}(r:RB p.g w H v x)(h:tyOf v=some T):TyX p.X.K H x (.type T):=by
 cases r with
 | own h' _ _=>cases h;exact .base (.lst h')
 | of r=>
  cases r with
  | non=>cases h;exact .base .non
  | bl b=>cases h;exact .base (.bl b)
  | int b=>cases h;exact .base (.int b)
  | str b=>cases h;exact .base (.str b)
  | tup ha r=>
   cases h
   rw [hK]
   rcases ha with (ha|⟨o,ha⟩)|⟨o,its,n,e,c,_⟩
   ·exact .base (.tup ha)
   ·exact .fTuple ha
   ·exact .kTuple e c
  | lst j ha r=>cases h;exact .base (.lst ha)
  | fn _=>cases h
  | cell _=>cases h
  | scr _=>cases h
  | err _ _=>cases h
theorem SE_isi (hK:p.X.K=p.g.K){t:Ty}{q q2 pos:Pos}(hg:L2.Gl p.X "isinstance")(hm:p.X.mg "isinstance" = none)(hg2:L2.Gl p.X (tyN t))(hm2:p.X.mg (tyN t)=none)(ha:SB p a ma)
  (he:starEach [a,.Name (tyN t) q2] p.X.env=(false,eval a p.X.env)::starEach [.Name (tyN t) q2] p.X.env) :
  SE p (.Call (.Name "isinstance" q) [a,.Name (tyN t) q2] [] pos) (fun ρ κ=>(ma ρ κ).bind fun q=>R.ofO ((isiV t q.1).map fun v=>(.bl v,q.2))):=
 (pe_callB call_isi hg hm boot_isinstance (pa_cons ha (pa_cons (pe_bltn (v:=.ty (tyS t)) hg2 hm2 (ty_boot t) rfl (tyN_name t) (tyN_debug t)) pa_nil rfl) he) (by decide) (by decide) he (by rfl)).imp fun σ H Q h=>
  Qzn (f:=fun _ q=>R.ofO ((isiV t q.1).map fun v=>(Val.bl v,q.2))) h fun w ρ κ H1 a x re wf rx po=>by
   cases e:isiV t a with
   | none=>rw [e] at po;exact po.elim
   | some b=>
    rw [e] at po
    obtain ⟨T,h1,h2⟩:=isiV_kit e
    exact ⟨x,_,_,_,b,rfl,.ty _,rx.ty hK h1,kit_ty h2,po _ w H1 (Ext.refl w H1) wf (.bl b)⟩
end
end PL
end
section
namespace PL
open PySem PySem.Spec PyProof.Rows L2 LamX NdefX
def ItzM (K:PySem.W.Frag)(a b:Addr):L2.It where
 go:=fun n H=>∃ (l m:List V) (u v:V),(SqT K H a l∧l[n]? = some u)∧(SqL K H b m∧m[n]? = some v)
 yld:=fun n H r H'=>∃ p u v,(r=.ref p∧H p=none∧H'=upd H p (.tup [u,v]))∧(∀ l,SqT K H a l→l[n]? = some u)∧(∀ m,SqL K H b m→m[n]? = some v)
 stop:=fun n H=>∃ l m:List V,(SqT K H a l∧SqL K H b m)∧n≤l.length∧n≤m.length∧(n=l.length∨n=m.length)
def TnM (a b z ti to ia ib:Addr)(n:Nat)(h:Heap):Prop:=(IsZip h z ti to .none∧IsPair h ti (.ref ia) (.ref ib)∧∃ u v,IsPair h to u v)∧h.IsTupleIter ia a n∧h.IsListIter ib b n
theorem TnM.get {a b z ti to ia ib:Addr}{n:Nat}{h:Heap}(t:TnM a b z ti to ia ib n h):∀ c∈[z,ti,to,ia,ib],∃ o,h.get? c=some o∧∀ v,o.data ≠ .cell v:=by
 obtain ⟨⟨t1,t2,u,v,t3⟩,⟨oa,ga,_,da⟩,ob,gb,_,db⟩:=t
 refine fun c hc => ?_
 simp only [List.mem_cons,List.mem_nil_iff,or_false] at hc
 rcases hc with e|e|e|e|e <;> subst e
 ·exact ⟨_,t1,fun _ q=>by cases q⟩
 ·exact ⟨_,t2,fun _ q=>by cases q⟩
 ·exact ⟨_,t3,fun _ q=>by cases q⟩
 ·exact ⟨oa,ga,fun _ q=>by rw [da] at q;cases q⟩
 ·exact ⟨ob,gb,fun _ q=>by rw [db] at q;cases q⟩
theorem TnM.keep {a b z ti to ia ib:Addr}{n:Nat}{h h':Heap}(t:TnM a b z ti to ia ib n h)(k:∀ c∈[z,ti,to,ia,ib],∀ o,h.get? c=some o→h'.get? c=some o):TnM a b z ti to ia ib n h':=by
 obtain ⟨⟨t1,t2,u,v,t3⟩,t4,t5⟩:=t
 exact ⟨⟨k z (by simp) _ t1,k ti (by simp) _ t2,u,v,k to (by simp) _ t3⟩,t4.at fun o e=>k ia (by simp) o e,t5.at fun o e=>k ib (by simp) o e⟩
theorem turnM {P:Program}{w:World}{K:PySem.W.Frag}{es:List Expr}{kd:Nat}{tp:Pos}{a b z ti to ia ib:Addr}(S:ZipSep2 z ti to ia ib [ia,a] [ib,b])(na:a≠ia)(nb:b≠ib):Turn P w K (.Tuple es kd tp) (ItzM K a b) [z,ti,to,ia,ib] z (TnM a b z ti to ia ib) where
 mem:=List.mem_cons_self
 obj:=fun _ _ t=>t.get
 keep:=fun _ _ _ t k=>t.keep k
 self:=fun A n s Q E t q=>wpAny_pyIter_zip t.1.1 q
 item:=by
  intro X e1 e2 e3 hc n pins s σ H E I hf t g
  subst e1 e2 e3
  obtain ⟨⟨t1,t2,u0,v0,t3⟩,t4,t5⟩:=id t
  obtain ⟨l,m,u,v,⟨sl,gu⟩,sm,gv⟩:=g
  obtain ⟨us,ru,pu,_⟩:=I.tuple sl
  obtain ⟨vs,rv,pv,_⟩:=I.list sm
  obtain ⟨x,hx,rx⟩:=ru.get gu
  obtain ⟨y,hy,ry⟩:=rv.get gv
  have hx':us.toArray[n]? = some x:=by simpa using hx
  have hy':vs.toArray[n]? = some y:=by simpa using hy
  have lu:=(Array.getElem?_eq_some_iff.mp hx').1
  have lv:=(Array.getElem?_eq_some_iff.mp hy').1
  have hd:=I.ok.hd hc
  have zs:z<s.heap.objs.size:=Heap.lt_size t1
  refine wpAny_pyNext_zipD2_item S (Draws.tuple (A:=X.A.in1) hd ia a na us.toArray) (Draws.list (A:=X.A.in1) hd ib b nb vs.toArray) t1 t2 t3 ⟨t4,pu⟩ ⟨t5,pv.isList⟩ lu lv fun x' y' h1 tk px py q1 q2 q3 q4 q5 _ qk => ?_
  have ex:x'=x:=by rw [hx'] at px;exact (Option.some.inj px).symm
  have ey:y'=y:=by rw [hy'] at py;exact (Option.some.inj py).symm
  subst ex ey
  refine ⟨_,rfl,wpAny_letOwnedTupleGo_zip (s:={ s with heap:=h1,toks:=tk }) q1 fun h2 z2 sb => ?_⟩
  have on:∀ c o,c≠z→h1.get? c=some o→h2.get? c=some o:=fun c o nc e=>(sb.2 c nc).trans e
  have g2:=on _ _ (Nat.ne_of_gt zs) q5
  have ok:ObjOk X.prog X.w (upd H s.heap.objs.size (.tup [u,v])) h2 s.heap.objs.size (.tup [u,v]):=⟨by show 2≤sizeLine;decide,[x',y'],.cons rx (.cons ry .nil),_,g2,rfl,_,rfl⟩
  have I2:=I.turnedNew (t':=tk) (ch:=[z,ti,to,ia,ib]) (h':=h2) (fun c o nc e=>by
   simp only [List.mem_cons,List.mem_nil_iff,or_false,not_or] at nc
   exact on c o nc.1 (qk c o nc.1 nc.2.2.1 nc.2.2.2.1 nc.2.2.2.2 e)) hf (Nat.le_refl _) ok
  refine ⟨.ref s.heap.objs.size,_,I2,rfl,⟨_,u,v,⟨rfl,I.hok.fresh (Nat.le_refl _),rfl⟩,fun l' q=>by rw [I.tuple_inj q sl];exact gu,fun m' q=>by rw [I.list_inj q sm];exact gv⟩,⟨⟨z2,?_,x',y',?_⟩,?_,?_⟩,fun c hcm => ?_⟩
  ·exact on _ _ S.TIz (qk _ _ S.TIz S.TITO S.TIi1 S.TIi2 t2)
  ·exact on _ _ S.TOz q2
  ·exact q3.1.at fun o e=>on _ o S.zi1.symm e
  ·exact q4.1.at fun o e=>on _ o S.zi2.symm e
  ·obtain ⟨o,ho,_⟩:=t.get c hcm
   rw [upd_ne (Nat.ne_of_lt (Heap.lt_size ho))]
   exact (hf c hcm).1
 done:=by
  intro X e1 e2 e3 hc n pins s σ H E I hf t g
  subst e1 e2 e3
  obtain ⟨⟨t1,t2,u0,v0,t3⟩,t4,t5⟩:=t
  obtain ⟨l,m,⟨sl,sm⟩,n1,n2,ends⟩:=g
  obtain ⟨us,ru,pu,_⟩:=I.tuple sl
  obtain ⟨vs,rv,pv,_⟩:=I.list sm
  have lu:us.toArray.size=l.length:=by rw [List.size_toArray];exact ru.length.symm
  have lv:vs.toArray.size=m.length:=by rw [List.size_toArray];exact rv.length.symm
  have hd:=I.ok.hd hc
  refine wpAny_pyNext_zipD2_end S (Draws.tuple (A:=X.A.in1) hd ia a na us.toArray) (Draws.list (A:=X.A.in1) hd ib b nb vs.toArray) t1 t2 t3 ⟨t4,pu⟩ ⟨t5,pv.isList⟩ (by omega) (by omega) (by omega) fun h1 tk qk=>⟨rfl,?_⟩
  exact I.turnedL (t':=tk) (ch:=[z,ti,to,ia,ib]) (fun c o nc e=>by
   simp only [List.mem_cons,List.mem_nil_iff,or_false,not_or] at nc
   exact qk c o nc.1 nc.2.2.1 nc.2.2.2.1 nc.2.2.2.2 e) hf
def iZipB (K:PySem.W.Frag)(ta:TA):TI:=fun σ H R=>ta σ H fun vs H1=>∃ a b xs ys,vs=[.ref a,.ref b]∧((SqL K H1 a xs∧SqL K H1 b ys∧R (Itz K a b) H1)∨(SqT K H1 a xs∧SqT K H1 b ys∧R (RZ.ItzT K a b) H1)∨(SqT K H1 a xs∧SqL K H1 b ys∧R (ItzM K a b) H1))
theorem sepM {n a b:Nat}(ha:a<n)(hb:b<n):ZipSep2 (n+4) (n+2) (n+3) n (n+1) [n,a] [n+1,b]:=by
 constructor <;> (simp only [List.mem_cons,List.mem_nil_iff,or_false,not_or,ne_eq,true_or]) <;> (try constructor) <;> (intro e;have e:_=(_:Nat):=e;omega)
theorem pi_zipB {X:Cx}{x y:Expr}{ta:TA}{p pos tp:Pos}{es:List Expr}{kd:Nat}(hg:Gl X "zip")(hm:X.mg "zip" = none)(ha:PA X [x,y] ta)
  (hs:starEach [x,y] X.env=(false,eval x X.env)::starEach [y] X.env:=by rfl) (hq:(backTo pos (starEach [y] X.env)).any (·.1)=false:=by rfl):PI X (.Tuple es kd tp) (.Call (.Name "zip" p) [x,y] [] pos) (iZipB X.K ta):=by
 constructor
 intro pins s σ H R I h
 refine Call_ (ld_blt I hg hm PyProof.Rows.boot_zip (PyProof.Rows.callWith_type1 (thn (ha.run pos pins s σ H _ I h) fun us t ⟨vs,H1,J,rel,g⟩ => ?_) hs hq))
 obtain ⟨a,b,xs,ys,e,g⟩:=g
 subst e
 obtain ⟨u,us,rfl⟩:∃ u us',us=u::us':=by cases rel;exact ⟨_,_,rfl⟩
 obtain ⟨v,us,rfl⟩:∃ v us',us=v::us':=by cases rel with|cons _ r=>cases r;exact ⟨_,_,rfl⟩
 have e0:u=.ref a∧v=.ref b∧us=[]:=by
  cases rel with|cons r1 r=>
  cases r with|cons r2 r=>
  cases r
  cases r1
  cases r2
  exact ⟨rfl,rfl,rfl⟩
 obtain ⟨rfl,rfl,rfl⟩:=e0
 have fr:∀ c∈[t.heap.objs.size+4,t.heap.objs.size+2,t.heap.objs.size+3,t.heap.objs.size,t.heap.objs.size+1],FpOk X pins H1 c:=fun c hc=>by
  have le:t.heap.objs.size≤c:=by
   simp only [List.mem_cons,List.mem_nil_iff,or_false] at hc
   rcases hc with q|q|q|q|q <;> rw [q] <;> first|exact Nat.le_add_right _ _|exact Nat.le_refl _
  exact J.fpOk le (J.hok.fresh le)
 rcases g with ⟨sa,sb,g⟩|⟨sa,sb,g⟩|⟨sa,sb,g⟩
 ·obtain ⟨i1,_,k1,_⟩:=J.list sa
  obtain ⟨i2,_,k2,_⟩:=J.list sb
  have T:=turn_zip (P:=X.prog) (w:=X.w) (K:=X.K) (elts:=es) (kk:=kd) (tpos:=tp) (PySem.W.ktu_apart t.heap.objs.size a b k1.lt k2.lt)
  refine call_zip_2 k1.isList k2.isList fun h1 z1 z2 z3 z4 z5 _ kp=>wpAny_pyIter_zip z1 ?_
  exact ⟨_,_,_,_,H1,rfl,J.kept (t':=t.toks) kp,T,⟨z1,z2,⟨_,_,z3⟩,z4,z5⟩,fr,g⟩
 ·obtain ⟨i1,_,k1,_⟩:=J.tuple sa
  obtain ⟨i2,_,k2,_⟩:=J.tuple sb
  obtain ⟨_,l1,_⟩:=id k1
  obtain ⟨_,l2,_⟩:=id k2
  have T:=RZ.turn_zipT (P:=X.prog) (w:=X.w) (K:=X.K) (elts:=es) (kk:=kd) (tpos:=tp) (PySem.W.ktu_apart t.heap.objs.size a b (Heap.lt_size l1) (Heap.lt_size l2))
  refine RZ.call_zipT (xs:=i1.toArray) (ys:=i2.toArray) k1 k2 fun h1 z1 z2 z3 z4 z5 _ kp=>wpAny_pyIter_zip z1 ?_
  exact ⟨_,_,_,_,H1,rfl,J.kept (t':=t.toks) kp,T,⟨z1,z2,⟨_,_,z3⟩,z4,z5⟩,fr,g⟩
 ·obtain ⟨i1,_,k1,_⟩:=J.tuple sa
  obtain ⟨i2,_,k2,_⟩:=J.list sb
  obtain ⟨_,l1,_⟩:=id k1
  have la:a<t.heap.objs.size:=Heap.lt_size l1
  have lb:b<t.heap.objs.size:=k2.lt
  have T:=turnM (P:=X.prog) (w:=X.w) (K:=X.K) (es:=es) (kd:=kd) (tp:=tp) (sepM la lb) (Nat.ne_of_lt la) (fun e=>absurd (e ▸ lb) (Nat.not_lt.mpr (Nat.le_succ _)))
  refine zip_begins2 (begins_tuple a i1.toArray) (begins_list b i2.toArray) k1 k2.isList fun h1 z1 z2 z3 z4 z5 _ kp=>wpAny_pyIter_zip z1 ?_
  exact ⟨_,_,_,_,H1,rfl,J.kept (t':=t.toks) kp,T,⟨⟨z1,z2,_,_,z3⟩,⟨_,z4,rfl,rfl⟩,⟨_,z5,rfl,rfl⟩⟩,fr,g⟩
end PL
end
section
namespace PL
open PySem PySem.Spec PyProof.Rows L2 LamX NdefX
structure Wlk (g:Gx)(S:Wd→Hp→Prop)(J:L2.It)(l:List Val):Prop where
 go:∀ (i:Nat) (w:Wd) (κ:Ks) (H:Hp),i<l.length→S w H→WF g w κ H→J.go i H
 stop:∀ (w:Wd) (κ:Ks) (H:Hp),S w H→WF g w κ H→J.stop l.length H
 yld:∀ (i:Nat) (w:Wd) (κ:Ks) (H:Hp) (x:V) (H':Hp),i<l.length→S w H→WF g w κ H→J.yld i H x H'→∃ v,l[i]? = some v∧Ext w H w H'∧WF g w κ H'∧RV g w.I w.μ H' v x
theorem Wlk.mono {g:Gx}{S S':Wd→Hp→Prop}{J:L2.It}{l:List Val}(h:Wlk g S J l)(k:∀ w H,S' w H→S w H):Wlk g S' J l:=
 ⟨fun i w κ H hi s=>h.go i w κ H hi (k w H s),fun w κ H s=>h.stop w κ H (k w H s),fun i w κ H x H' hi s=>h.yld i w κ H x H' hi (k w H s)⟩
def SExt (w:Wd)(H:Hp):Wd→Hp→Prop:=fun w' H'=>Ext w H w' H'
def SKp (w:Wd)(H:Hp):Wd→Hp→Prop:=fun w' H'=>Keeps w.I w'.I w.μ w'.μ H H'
section
variable {g:Gx}{w w':Wd}{κ:Ks}{H H':Hp}
theorem Keeps.refl {I:Addr→Prop}{μ:List Addr}{H:Hp}:Keeps I I μ μ H H:=⟨fun _ z=>z,fun _ _ z=>z,fun _ _ _ z=>z,fun _ _ z=>z,fun _ _ _ z=>z⟩
theorem Keeps.trans {I I' I'':Addr→Prop}{μ μ' μ'':List Addr}{H H' H'':Hp}(a:Keeps I I' μ μ' H H')(b:Keeps I' I'' μ' μ'' H' H''):Keeps I I'' μ μ'' H H'':=
 ⟨fun x z=>b.j x (a.j x z),fun i x z=>b.m i x (a.m i x z),fun x o j z=>b.l x o (a.j x j) (a.l x o j z),fun x xs z=>b.t x xs (a.t x xs z),fun x o u z=>b.f x o u (a.f x o u z)⟩
theorem wlk_lst {S:Wd→Hp→Prop}{a:Addr}{l:List Val}{xs:List V}(st:∀ w κ H,S w H→WF g w κ H→H a=some (.lst xs)∧RVs g w.I w.μ H l xs)(hl:l.length=xs.length):Wlk g S (Itl g.K a) l where
 go:=fun i w κ H hi s wf=>by
  obtain ⟨h,r⟩:=st w κ H s wf
  exact ⟨xs,xs[i]'(by omega),SqL.of h,by simp⟩
 stop:=fun w κ H s wf=>by
  obtain ⟨h,r⟩:=st w κ H s wf
  exact ⟨xs,SqL.of h,by omega⟩
 yld:=fun i w κ H x H' hi s wf y=>by
  obtain ⟨e,y⟩:=y
  subst e
  obtain ⟨h,r⟩:=st w κ H' s wf
  obtain ⟨v,h1,h2⟩:=r.get' (y xs (SqL.of h))
  exact ⟨v,h1,Ext.refl w H',wf,h2⟩
theorem wlk_tup {S:Wd→Hp→Prop}{a:Addr}{l:List Val}{xs:List V}(st:∀ w κ H,S w H→WF g w κ H→SqT g.K H a xs∧RVs g w.I w.μ H l xs)(hl:l.length=xs.length):Wlk g S (Itt g.K a) l where
 go:=fun i w κ H hi s wf=>by
  obtain ⟨h,r⟩:=st w κ H s wf
  exact ⟨xs,xs[i]'(by omega),h,by simp⟩
 stop:=fun w κ H s wf=>by
  obtain ⟨h,r⟩:=st w κ H s wf
  exact ⟨xs,h,by omega⟩
 yld:=fun i w κ H x H' hi s wf y=>by
  obtain ⟨e,y⟩:=y
  subst e
  obtain ⟨h,r⟩:=st w κ H' s wf
  obtain ⟨v,h1,h2⟩:=r.get' (y xs h)
  exact ⟨v,h1,Ext.refl w H',wf,h2⟩
theorem getElem?_map_range {α:Type}(f:Nat→α){n i:Nat}(hi:i<n):((List.range n).map f)[i]? = some (f i):=by
 rw [List.getElem?_map,List.getElem?_range hi];rfl
theorem wlk_rng {S:Wd→Hp→Prop}(lo:Int)(n:Nat):Wlk g S (Itr lo n) ((List.range n).map fun i=>.int (lo+(i:Nat))) where
 go:=fun i w κ H hi s wf=>by
  show i<n
  simpa using hi
 stop:=fun w κ H s wf=>by
  show n≤_
  simp
 yld:=fun i w κ H x H' hi s wf y=>by
  obtain ⟨e,rfl⟩:=y
  subst e
  have hi:i<n:=by simpa using hi
  exact ⟨.int (lo+(i:Nat)),getElem?_map_range _ hi,Ext.refl w H',wf,.int _⟩
theorem new_pair (wf:WF g w κ H){u v:Val}{x y:V}(ru:RV g w.I w.μ H u x)(rv:RV g w.I w.μ H v y){T:Addr}(n:H T=none) :
  Ext w H w (upd H T (.tup [x,y]))∧WF g w κ (upd H T (.tup [x,y]))∧RV g w.I w.μ (upd H T (.tup [x,y])) (.tup [u,v]) (.ref T):=RV.newTup wf (.cons ru (.cons rv .nil)) n
theorem zipL_get {l m:List Val}{i:Nat}{u v:Val}(h1:l[i]? = some u)(h2:m[i]? = some v):(zipL l m)[i]? = some (.tup [u,v]):=by
 unfold zipL
 have h3:(l.zip m)[i]? = some (u,v):=List.getElem?_zip_eq_some.mpr ⟨h1,h2⟩
 rw [List.getElem?_map,h3];rfl
theorem zipL_length (l m:List Val):(zipL l m).length=min l.length m.length:=by
 unfold zipL
 rw [List.length_map,List.length_zip]
theorem wlk_zip {S:Wd→Hp→Prop}{a b:Addr}{l m:List Val}{xs ys:List V}(st:∀ w κ H,S w H→WF g w κ H→(H a=some (.lst xs)∧RVs g w.I w.μ H l xs)∧(H b=some (.lst ys)∧RVs g w.I w.μ H m ys))
  (hl:l.length=xs.length) (hm:m.length=ys.length):Wlk g S (Itz g.K a b) (zipL l m) where
 go:=fun i w κ H hi s wf=>by
  obtain ⟨⟨h,r⟩,h',r'⟩:=st w κ H s wf
  rw [zipL_length] at hi
  exact ⟨xs,ys,xs[i]'(by omega),ys[i]'(by omega),SqL.of h,SqL.of h',by simp,by simp⟩
 stop:=fun w κ H s wf=>by
  obtain ⟨⟨h,r⟩,h',r'⟩:=st w κ H s wf
  rw [zipL_length]
  exact ⟨xs,ys,SqL.of h,SqL.of h',by omega⟩
 yld:=fun i w κ H x H' hi s wf y=>by
  obtain ⟨T,x1,y1,rfl,n,rfl,hx,hy⟩:=y
  obtain ⟨⟨h,r⟩,h',r'⟩:=st w κ H s wf
  obtain ⟨v,h1,h2⟩:=r.get' (hx xs (SqL.of h))
  obtain ⟨u,h3,h4⟩:=r'.get' (hy ys (SqL.of h'))
  obtain ⟨e1,wf1,r1⟩:=new_pair wf h2 h4 n
  exact ⟨_,zipL_get h1 h3,e1,wf1,r1⟩
theorem wlk_zipT {S:Wd→Hp→Prop}{a b:Addr}{l m:List Val}{xs ys:List V}(st:∀ w κ H,S w H→WF g w κ H→(SqT g.K H a xs∧RVs g w.I w.μ H l xs)∧(SqT g.K H b ys∧RVs g w.I w.μ H m ys))
  (hl:l.length=xs.length) (hm:m.length=ys.length):Wlk g S (RZ.ItzT g.K a b) (zipL l m) where
 go:=fun i w κ H hi s wf=>by
  obtain ⟨⟨h,r⟩,h',r'⟩:=st w κ H s wf
  rw [zipL_length] at hi
  exact ⟨xs,ys,xs[i]'(by omega),ys[i]'(by omega),h,h',by simp,by simp⟩
 stop:=fun w κ H s wf=>by
  obtain ⟨⟨h,r⟩,h',r'⟩:=st w κ H s wf
  rw [zipL_length]
  exact ⟨xs,ys,h,h',by omega⟩
 yld:=fun i w κ H x H' hi s wf y=>by
  obtain ⟨T,x1,y1,rfl,n,rfl,hx,hy⟩:=y
  obtain ⟨⟨h,r⟩,h',r'⟩:=st w κ H s wf
  obtain ⟨v,h1,h2⟩:=r.get' (hx xs h)
  obtain ⟨u,h3,h4⟩:=r'.get' (hy ys h')
  obtain ⟨e1,wf1,r1⟩:=new_pair wf h2 h4 n
  exact ⟨_,zipL_get h1 h3,e1,wf1,r1⟩
theorem wlk_zipM {S:Wd→Hp→Prop}{a b:Addr}{l m:List Val}{xs ys:List V}(st:∀ w κ H,S w H→WF g w κ H→(SqT g.K H a xs∧RVs g w.I w.μ H l xs)∧(SqL g.K H b ys∧RVs g w.I w.μ H m ys))
  (hl:l.length=xs.length) (hm:m.length=ys.length):Wlk g S (ItzM g.K a b) (zipL l m) where
 go:=fun i w κ H hi s wf=>by
  obtain ⟨⟨h,r⟩,h',r'⟩:=st w κ H s wf
  rw [zipL_length] at hi
  exact ⟨xs,ys,xs[i]'(by omega),ys[i]'(by omega),⟨h,by simp⟩,h',by simp⟩
 stop:=fun w κ H s wf=>by
  obtain ⟨⟨h,r⟩,h',r'⟩:=st w κ H s wf
  rw [zipL_length]
  exact ⟨xs,ys,⟨h,h'⟩,by omega,by omega,by omega⟩
 yld:=fun i w κ H x H' hi s wf y=>by
  obtain ⟨T,x1,y1,⟨rfl,n,rfl⟩,hx,hy⟩:=y
  obtain ⟨⟨h,r⟩,h',r'⟩:=st w κ H s wf
  obtain ⟨v,h1,h2⟩:=r.get' (hx xs h)
  obtain ⟨u,h3,h4⟩:=r'.get' (hy ys h')
  obtain ⟨e1,wf1,r1⟩:=new_pair wf h2 h4 n
  exact ⟨_,zipL_get h1 h3,e1,wf1,r1⟩
theorem enumL_get {l:List Val}{i:Nat}{u:Val}(h1:l[i]? = some u):(enumL l)[i]? = some (.tup [.int (i:Nat),u]):=by
 have hi:i<l.length:=(List.getElem?_eq_some_iff.mp h1).1
 unfold enumL
 have h3:((List.range l.length).zip l)[i]? = some (i,u):=List.getElem?_zip_eq_some.mpr ⟨List.getElem?_range hi,h1⟩
 rw [List.getElem?_map,h3];rfl
theorem enumL_length (l:List Val):(enumL l).length=l.length:=by
 unfold enumL
 rw [List.length_map,List.length_zip,List.length_range];omega
theorem wlk_enum {S:Wd→Hp→Prop}{a:Addr}{l:List Val}{xs:List V}(st:∀ w κ H,S w H→WF g w κ H→H a=some (.lst xs)∧RVs g w.I w.μ H l xs)(hl:l.length=xs.length):Wlk g S (Ite g.K a) (enumL l) where
 go:=fun i w κ H hi s wf=>by
  obtain ⟨h,r⟩:=st w κ H s wf
  rw [enumL_length] at hi
  exact ⟨xs,xs[i]'(by omega),SqL.of h,by simp⟩
 stop:=fun w κ H s wf=>by
  obtain ⟨h,r⟩:=st w κ H s wf
  rw [enumL_length]
  exact ⟨xs,SqL.of h,by omega⟩
 yld:=fun i w κ H x H' hi s wf y=>by
  obtain ⟨T,x1,rfl,n,rfl,hx⟩:=y
  obtain ⟨h,r⟩:=st w κ H s wf
  obtain ⟨v,h1,h2⟩:=r.get' (hx xs (SqL.of h))
  obtain ⟨e1,wf1,r1⟩:=new_pair wf (.int (i:Nat)) h2 n
  exact ⟨_,enumL_get h1,e1,wf1,r1⟩
end
def iSeq (K:PySem.W.Frag)(tl:TE):TI:=fun σ H R=>tl σ H fun x H1=>∃ a,x=.ref a∧(((∃ xs,SqL K H1 a xs)∧R (Itl K a) H1)∨((∃ xs,SqT K H1 a xs)∧R (Itt K a) H1))
theorem pi_seq {X:Cx}{tg l:Expr}{tl:TE}(hl:PE X l tl):PI X tg l (iSeq X.K tl):=by
 refine ⟨fun pn st sg hh RR iv hw=>thn (hl.run pn st sg hh _ iv hw) fun vv s1 hq => ?_⟩
 obtain ⟨x,H1,I1,r1,a,e,cs⟩:=hq
 rw [e] at r1
 cases r1
 have nw:∀ b,b∈[s1.heap.objs.size]→FpOk X pn H1 b:=fun b hb=>by
  rw [List.mem_singleton.mp hb]
  exact I1.fpOk (Nat.le_refl _) I1.fresh
 rcases cs with ⟨⟨xs,hq⟩,q⟩|⟨⟨xs,hq⟩,q⟩
 ·obtain ⟨its,_,pl,_⟩:=I1.list hq
  exact wpAny_pyIter_list pl.isList ⟨_,_,_,_,H1,rfl,I1.kept (t':=s1.toks) fun _ _ z=>Heap.get?_push_of_some _ z,turn_list a _,⟨_,Heap.get?_push_size _ rfl,rfl,rfl⟩,nw,q⟩
 ·obtain ⟨its,_,pl,_⟩:=I1.tuple hq
  exact wpAny_pyIter_tuple (show s1.heap.IsTuple a its.toArray from pl) ⟨_,_,_,_,H1,rfl,I1.kept (t':=s1.toks) fun _ _ z=>Heap.get?_push_of_some _ z,turn_tuple a _,⟨_,Heap.get?_push_size _ rfl,rfl,rfl⟩,nw,q⟩
theorem _root_.L2.PI.imp {X:Cx}{tg e:Expr}{t t':TI}(h:PI X tg e t)(k:∀ σ H Q,t' σ H Q→t σ H Q):PI X tg e t':=⟨fun pins s σ H Q I q=>h.run pins s σ H Q I (k σ H Q q)⟩
abbrev rWx (g:Gx):Wd→Hp→List Val→L2.It→Prop:=fun w H l J=>Wlk g (SExt w H) J l
abbrev rWk (g:Gx):Wd→Hp→List Val→L2.It→Prop:=fun w H l J=>Wlk g (SKp w H) J l
abbrev SI (p:Pl)(tg e:Expr)(m:Rho→Ks→R (List Val × Ks)):Prop:=PI p.X tg e (tG p (rWx p.g) m)
abbrev SIk (p:Pl)(tg e:Expr)(m:Rho→Ks→R (List Val × Ks)):Prop:=PI p.X tg e (tG p (rWk p.g) m)
section
variable {p:Pl}{tg a b c:Expr}{pos:Pos}{ma mb mc:Rho→Ks→R (Val × Ks)}
theorem itemsV_some {v:Val}{l:List Val}(h:itemsV v=some l):v=.tup l∨v=.lst l:=by
 unfold itemsV at h
 split at h
 ·cases h;exact .inl rfl
 ·cases h;exact .inr rfl
 ·cases h
theorem SI_seq (hK:p.X.K=p.g.K)(ha:SB p a ma):SI p tg a (fun ρ κ=>(ma ρ κ).bind fun q=>R.ofO ((itemsV q.1).map fun l=>(l,q.2))):=
 (pi_seq ha).imp fun σ H Q h=>Qzn (f:=fun _ q=>R.ofO ((itemsV q.1).map fun l=>(l,q.2))) h fun w ρ κ H1 a x re wf rx po=>by
  obtain ⟨l,ev,k⟩:=Post.some (p:=p) po
  rcases itemsV_some ev with rfl|rfl
  ·obtain ⟨q,xs,rfl,hq,r⟩:=rx.tup
   refine ⟨q,rfl,.inr ⟨⟨xs,by rw [hK];exact hq⟩,k _ w H1 (Ext.refl w H1) wf ?_⟩⟩
   rw [hK]
   exact wlk_tup (fun w' κ' H' s wf'=>⟨PL.SqT.keeps (s.keepsI wf) hq,r.ext s wf⟩) r.length
  ·obtain ⟨q,xs,rfl,hq,n,r⟩:=rx.lst wf
   refine ⟨q,rfl,.inl ⟨⟨xs,SqL.of hq⟩,k _ w H1 (Ext.refl w H1) wf ?_⟩⟩
   rw [hK]
   exact wlk_lst (fun w' κ' H' s wf'=>⟨Ext.rd s n hq,r.ext s wf⟩) r.length
theorem SIk_seq (hK:p.X.K=p.g.K)(ha:SE p a ma):SIk p tg a (fun ρ κ=>(ma ρ κ).bind fun q=>R.ofO ((itemsV q.1).map fun l=>(l,q.2))):=
 (pi_seq ha).imp fun σ H Q h=>Qzn (f:=fun _ q=>R.ofO ((itemsV q.1).map fun l=>(l,q.2))) h fun w ρ κ H1 a x re wf rx po=>by
  obtain ⟨l,ev,k⟩:=Post.some (p:=p) po
  have rx:RV p.g w.I w.μ H1 a x:=rx
  rcases itemsV_some ev with rfl|rfl
  ·cases rx with
   | tup hq r=>
    refine ⟨_,rfl,.inr ⟨⟨_,by rw [hK];exact hq⟩,k _ w H1 (Ext.refl w H1) wf ?_⟩⟩
    rw [hK]
    exact wlk_tup (fun w' κ' H' s wf'=>⟨PL.SqT.keeps s hq,r.keeps s⟩) r.length
  ·cases rx with
   | lst j hq r=>
    refine ⟨_,rfl,.inl ⟨⟨_,SqL.of hq⟩,k _ w H1 (Ext.refl w H1) wf ?_⟩⟩
    rw [hK]
    exact wlk_lst (fun w' κ' H' s wf'=>⟨s.l _ _ j hq,r.keeps s⟩) r.length
variable {es:List Expr}{ms:Rho→Ks→R (List Val × Ks)}
theorem rngOk_bnd {i j:Int}(h:rngOk i j=true) : -(2^62)≤i∧i<2^62 ∧ -(2^62)≤j∧j<2^62:=by
 unfold rngOk at h
 simp only [Bool.and_eq_true,decide_eq_true_eq] at h
 omega
theorem RVs.i1 {g:Gx}{J:Addr→Prop}{μ:List Addr}{H:Hp}{i:Int}{xs:List V}(r:RVs g J μ H [.int i] xs):xs=[.int i]:=by
 cases r with|cons h t=>cases h;cases t;rfl
theorem SR1 {S:Wd→Hp→Wd→Hp→Prop}{q pos:Pos}(hg:L2.Gl p.X "range")(hm:p.X.mg "range" = none)(ha:SEs p [a] ms)(hs:starEach [a] p.X.env=[(false,eval a p.X.env)]) :
  PI p.X tg (.Call (.Name "range" q) [a] [] pos) (tG p (fun w H l J=>Wlk p.g (S w H) J l) (fun ρ κ=>(ms ρ κ).bind fun q=>R.ofO ((rngV1 q.1).map fun l=>(l,q.2)))):=
 (pi_range1 hg hm ha hs).imp fun σ H Q h=>Qzn (f:=fun _ q=>R.ofO ((rngV1 q.1).map fun l=>(l,q.2))) h fun w ρ κ H1 a x re wf rx po=>by
  obtain ⟨l,ev,k⟩:=Post.some (p:=p) po
  have ev:rngV1 a=some l:=ev
  unfold rngV1 at ev
  split at ev
  ·split at ev
   ·cases ev
    rename_i j hr
    have hb:=rngOk_bnd hr
    cases RVs.i1 rx
    have:=wlk_rng (g:=p.g) (S:=S w H1) 0 j.toNat
    refine ⟨j,rfl,hb.2.2.1,hb.2.2.2,k _ w H1 (Ext.refl w H1) wf ?_⟩
    unfold rngL
    rw [Int.sub_zero]
    exact this
   ·cases ev
  ·cases ev
theorem SI_zip (hK:p.X.K=p.g.K){elts:List Expr}{kk:Nat}{tpos q pos:Pos}(hg:L2.Gl p.X "zip")(hm:p.X.mg "zip" = none)(ha:SB p a ma)(hb:SB p b mb)
  (hs:starEach [a,b] p.X.env=(false,eval a p.X.env)::starEach [b] p.X.env) (hs2:starEach [b] p.X.env=(false,eval b p.X.env)::starEach [] p.X.env) :
  SI p (.Tuple elts kk tpos) (.Call (.Name "zip" q) [a,b] [] pos) (fun ρ κ=>(ma ρ κ).bind fun q=>(mb ρ q.2).bind fun r=>R.ofO ((zipV q.1 r.1).map fun l=>(l,r.2))):=
 (pi_zipB hg hm (pa_cons ha (pa_cons hb pa_nil hs2) hs) hs (by rw [hs2];rfl)).imp fun σ H Q h=>tG_bind2 (f:=fun _ a r=>R.ofO ((zipV a r.1).map fun l=>(l,r.2))) RB.ext h fun w ρ κ H2 a x b y re wf rx ry po=>by
  obtain ⟨ls,ev,k⟩:=Post.some (p:=p) po
  have ev:zipV a b=some ls:=ev
  unfold zipV at ev
  split at ev
  ·cases ev
   obtain ⟨q,xs,rfl,hq,n,r⟩:=rx.lst wf
   obtain ⟨q',ys,rfl,hq',n',r'⟩:=ry.lst wf
   refine ⟨q,q',xs,ys,rfl,.inl ⟨SqL.of hq,SqL.of hq',k _ w H2 (Ext.refl w H2) wf ?_⟩⟩
   rw [hK]
   exact wlk_zip (fun w' κ' H' s wf'=>⟨⟨Ext.rd s n hq,r.ext s wf⟩,Ext.rd s n' hq',r'.ext s wf⟩) r.length r'.length
  ·cases ev
   obtain ⟨q,xs,rfl,hq,r⟩:=rx.tup
   obtain ⟨q',ys,rfl,hq',r'⟩:=ry.tup
   refine ⟨q,q',xs,ys,rfl,.inr (.inl ⟨by rw [hK];exact hq,by rw [hK];exact hq',k _ w H2 (Ext.refl w H2) wf ?_⟩)⟩
   rw [hK]
   exact wlk_zipT (fun w' κ' H' s wf'=>⟨⟨PL.SqT.keeps (s.keepsI wf) hq,r.ext s wf⟩,PL.SqT.keeps (s.keepsI wf) hq',r'.ext s wf⟩) r.length r'.length
  ·cases ev
   obtain ⟨q,xs,rfl,hq,r⟩:=rx.tup
   obtain ⟨q',ys,rfl,hq',n',r'⟩:=ry.lst wf
   refine ⟨q,q',xs,ys,rfl,.inr (.inr ⟨by rw [hK];exact hq,SqL.of hq',k _ w H2 (Ext.refl w H2) wf ?_⟩)⟩
   rw [hK]
   exact wlk_zipM (fun w' κ' H' s wf'=>⟨⟨PL.SqT.keeps (s.keepsI wf) hq,r.ext s wf⟩,SqL.of (Ext.rd s n' hq'),r'.ext s wf⟩) r.length r'.length
  ·cases ev
end
end PL
end
section
namespace PL
open PySem PySem.Spec PyProof.Rows L2 LamX NdefX
section
variable {g:Gx}{X:Cx}{b:Bool}{w w':Wd}{κ κ':Ks}{H H':Hp}{ρ:Rho}{σ:L2.St}
theorem SlotOk.set_ne {i j:Nat}{x:V}(n:i≠j):∀ {sl:Slot},SlotOk g X b w H σ j sl→SlotOk g X b w H (σ.set i (some x)) j sl
 | .val _,⟨y,h1,h2⟩=>⟨y,by rw [List.getElem?_set_ne n];exact h1,h2⟩
 | .own _,⟨a,xs,h1,h2⟩=>⟨a,xs,by rw [List.getElem?_set_ne n];exact h1,h2⟩
 | .cls _,.inl z=>.inl z
 | .cls _,.inr ⟨a,xs,h1,h2⟩=>.inr ⟨a,xs,by rw [List.getElem?_set_ne n];exact h1,h2⟩
 | .ext _,⟨y,h1,h2⟩=>⟨y,by rw [List.getElem?_set_ne n];exact h1,h2⟩
 | .pin,.inl z=>.inl z
 | .pin,.inr ⟨q,h1,h2⟩=>.inr ⟨q,h1,by rw [List.getElem?_set_ne n];exact h2⟩
theorem Qqc {α:Type}{l:List α}{i j:Nat}{a b:α}(h:(l.set i a)[j]? = some b):(i=j∧i<l.length∧b=a)∨(i≠j∧l[j]? = some b):=by
 by_cases e:i=j
 ·subst e
  by_cases hi:i<l.length
  ·rw [List.getElem?_set_self hi] at h;cases h;exact .inl ⟨rfl,hi,rfl⟩
  ·rw [List.getElem?_eq_none (by rw [List.length_set];omega)] at h;cases h
 ·rw [List.getElem?_set_ne e] at h;exact .inr ⟨e,h⟩
theorem RE.set (r:RE g X b w H ρ σ){i:Nat}{x:V}{sl:Slot}(h:∀ σ':L2.St,σ'[i]? = some (some x)→SlotOk g X b w H σ' i sl)(no:∀ l,sl ≠ .own l):RE g X b w H (ρ.set i (some sl)) (σ.set i (some x)) where
 len:=by rw [List.length_set,List.length_set];exact r.len
 at_:=fun j s hj=>by
  rcases Qqc hj with ⟨e,hi,es⟩|⟨n,hj⟩
  ·subst e;cases es
   exact h _ (List.getElem?_set_self (by rw [← r.len];exact hi))
  ·exact (r.at_ j s hj).set_ne n
 apart:=fun j k l m a h1 h2 h3 h4=>by
  rcases Qqc h1 with ⟨e,hi,es⟩|⟨n,h1⟩
  ·cases es;exact absurd rfl (no l)
  ·rcases Qqc h2 with ⟨e,hi,es⟩|⟨n2,h2⟩
   ·cases es;exact absurd rfl (no m)
   ·rw [List.getElem?_set_ne n] at h3
    rw [List.getElem?_set_ne n2] at h4
    exact r.apart j k l m a h1 h2 h3 h4
theorem RE.setV (r:RE g X b w H ρ σ){i:Nat}{v:Val}{x:V}(h:RV g w.I w.μ H v x):RE g X b w H (ρ.set i (some (.val v))) (σ.set i (some x)):=
 r.set (fun σ' e=>⟨x,e,h⟩) fun _ z=>nomatch z
theorem RE.drop (r:RE g X b w H ρ σ)(i:Nat):RE g X b w H (ρ.set i none) (σ.set i none) where
 len:=by rw [List.length_set,List.length_set];exact r.len
 at_:=fun j s hj=>by
  rcases Qqc hj with ⟨e,hi,es⟩|⟨n,hj⟩
  ·cases es
  ·cases s with
   | val v=>obtain ⟨y,h1,h2⟩:=r.at_ j _ hj;exact ⟨y,by rw [List.getElem?_set_ne n];exact h1,h2⟩
   | own v=>obtain ⟨y,ys,h1,h2⟩:=r.at_ j _ hj;exact ⟨y,ys,by rw [List.getElem?_set_ne n];exact h1,h2⟩
   | cls v=>
    rcases r.at_ j _ hj with z|⟨y,ys,h1,h2⟩
    ·exact .inl z
    ·exact .inr ⟨y,ys,by rw [List.getElem?_set_ne n];exact h1,h2⟩
   | ext v=>obtain ⟨y,h1,h2⟩:=r.at_ j _ hj;exact ⟨y,by rw [List.getElem?_set_ne n];exact h1,h2⟩
   | pin=>
    rcases r.at_ j _ hj with z|⟨q,h1,h2⟩
    ·exact .inl z
    ·exact .inr ⟨q,h1,by rw [List.getElem?_set_ne n];exact h2⟩
 apart:=fun j k l m a h1 h2 h3 h4=>by
  rcases Qqc h1 with ⟨_,_,es⟩|⟨n,h1⟩
  ·cases es
  ·rcases Qqc h2 with ⟨_,_,es⟩|⟨n2,h2⟩
   ·cases es
   ·rw [List.getElem?_set_ne n] at h3
    rw [List.getElem?_set_ne n2] at h4
    exact r.apart j k l m a h1 h2 h3 h4
theorem RE.wipe (r:RE g X b w H ρ σ):∀ vs:List Nat,RE g X b w H (wipeR ρ vs) (L2.wipe σ vs)
 | []=>r
 | i::vs=>(RE.wipe r vs).drop i
end
mutual
def gT (K:PySem.W.Frag):Tg→TG
 | .nm i=>gName i
 | .tp l=>fun v σ H Q=>gTup K (nTgs l) (gTs K l) v σ H Q∨gLst K (nTgs l) (gTs K l) v σ H Q
def gTs (K:PySem.W.Frag):Tgs→TGs
 | .nil=>gNil
 | .cons t l=>gCons (gT K t) (gTs K l)
def nTgs:Tgs→Nat
 | .nil=>0
 | .cons _ l=>nTgs l+1
end
mutual
def slTg:Tg→List Nat
 | .nm i=>[i]
 | .tp l=>slTgs l
def slTgs:Tgs→List Nat
 | .nil=>[]
 | .cons t l=>slTg t++slTgs l
end
theorem wipe_set {σ:L2.St}{i:Nat}{x:Option V}:∀ {vs:List Nat},i∈vs→L2.wipe (σ.set i x) vs=L2.wipe σ vs
 | [],h=>nomatch h
 | j::vs,h=>by
  show (L2.wipe (σ.set i x) vs).set j none=(L2.wipe σ vs).set j none
  by_cases hi:i∈vs
  ·rw [wipe_set hi]
  ·have e:i=j:=by
    rcases List.mem_cons.mp h with e|e
    ·exact e
    ·exact absurd e hi
   subst e
   have go:∀ (vs:List Nat) (σ:L2.St),i ∉ vs→L2.wipe (σ.set i x) vs=(L2.wipe σ vs).set i x:=by
    intro vs
    induction vs with
    | nil=>intro σ _;rfl
    | cons k vs ih=>
     intro σ hn
     rw [List.mem_cons,not_or] at hn
     show (L2.wipe (σ.set i x) vs).set k none=((L2.wipe σ vs).set k none).set i x
     rw [ih σ hn.2,List.set_comm _ _ hn.1]
   rw [go vs σ hi,List.set_set]
theorem wipe_wipe (σ:L2.St):∀ {us vs:List Nat},(∀ i∈us,i∈vs)→L2.wipe (L2.wipe σ us) vs=L2.wipe σ vs
 | [],vs,_=>rfl
 | i::us,vs,h=>by
  show L2.wipe ((L2.wipe σ us).set i none) vs=_
  rw [wipe_set (h i List.mem_cons_self),wipe_wipe σ fun j hj=>h j (List.mem_cons_of_mem _ hj)]
section
variable {g:Gx}{X:Cx}{b:Bool}{w:Wd}{κ:Ks}{H:Hp}
theorem nTgs_len:∀ {l:Tgs} {vs:List Val} {ρ ρ':Rho},setTgs l vs ρ=some ρ'→vs.length=nTgs l
 | .nil,[],_,_,_=>rfl
 | .nil,_::_,_,_,h=>by simp [setTgs] at h
 | .cons _ _,[],_,_,h=>by simp [setTgs] at h
 | .cons t l,v::vs,ρ,ρ',h=>by
  unfold setTgs at h
  split at h
  ·rename_i ρ1 e
   rw [List.length_cons,nTgs_len h];rfl
  ·cases h
mutual
theorem gT_of (wf:WF g w κ H):∀ {t:Tg} {v:Val} {x:V} {ρ ρ':Rho} {σ:L2.St} {Q:L2.St→Hp→Prop},setTg t v ρ=some ρ'→RE g X b w H ρ σ→RV g w.I w.μ H v x →
  (∀ σ',RE g X b w H ρ' σ'→(∀ vs,(∀ i∈slTg t,i∈vs)→L2.wipe σ' vs=L2.wipe σ vs)→Q σ' H)→gT g.K t x σ H Q
 | .nm i,v,x,ρ,ρ',σ,Q,h,re,r,k=>by
  unfold setTg at h
  split at h
  ·cases h
   exact k _ (re.setV r) fun vs hv=>wipe_set (hv i (by unfold slTg;exact List.mem_singleton.mpr rfl))
  ·cases h
 | .tp l,v,x,ρ,ρ',σ,Q,h,re,r,k=>by
  unfold setTg at h
  split at h
  ·rename_i e;cases e
  ·rename_i e;cases e
   cases r with
   | tup hq r=>exact .inl ⟨_,_,rfl,hq,by rw [← r.length];exact nTgs_len h,gTs_of wf h re r fun σ' re' hw=>k σ' re' (fun vs hv=>hw vs fun i hi=>hv i (by unfold slTg;exact hi))⟩
  ·rename_i e;cases e
   cases r with
   | lst j hq r=>exact .inr ⟨_,_,rfl,SqL.of hq,by rw [← r.length];exact nTgs_len h,gTs_of wf h re r fun σ' re' hw=>k σ' re' (fun vs hv=>hw vs fun i hi=>hv i (by unfold slTg;exact hi))⟩
  ·cases h
theorem gTs_of (wf:WF g w κ H):∀ {t:Tgs} {v:List Val} {x:List V} {ρ ρ':Rho} {σ:L2.St} {Q:L2.St→Hp→Prop},setTgs t v ρ=some ρ'→RE g X b w H ρ σ→RVs g w.I w.μ H v x →
  (∀ σ',RE g X b w H ρ' σ'→(∀ vs,(∀ i∈slTgs t,i∈vs)→L2.wipe σ' vs=L2.wipe σ vs)→Q σ' H)→gTs g.K t x σ H Q
 | .nil,[],x,ρ,ρ',σ,Q,h,re,r,k=>by
  have h:some ρ=some ρ':=h
  cases h;cases r;exact ⟨rfl,k σ re fun _ _=>rfl⟩
 | .nil,_::_,x,ρ,ρ',σ,Q,h,re,r,k=>by simp [setTgs] at h
 | .cons t l,[],x,ρ,ρ',σ,Q,h,re,r,k=>by simp [setTgs] at h
 | .cons t l,v::vs,x,ρ,ρ',σ,Q,h,re,r,k=>by
  unfold setTgs at h
  split at h
  ·rename_i ρ1 e1
   cases r with
   | cons rv rt=>
    refine ⟨_,_,rfl,gT_of wf e1 re rv fun σ1 re1 hw1=>gTs_of wf h re1 rt fun σ2 re2 hw2=>k σ2 re2 fun vs hv => ?_⟩
    rw [hw2 vs fun i hi=>hv i (by unfold slTgs;exact List.mem_append_right _ hi),hw1 vs fun i hi=>hv i (by unfold slTgs;exact List.mem_append_left _ hi)]
  ·cases h
end
end
theorem compL_cons {v:Val}{vs:List Val}{f:Val→Ks→R (Option Val × Ks)}{κ:Ks}{out:List Val × Ks}(h:compL (v::vs) f κ=.ok out) :
  ∃ o κ1 rest,f v κ=.ok (o,κ1)∧compL vs f κ1=.ok (rest,out.2)∧out.1=o.elim rest (· :: rest):=by
 unfold compL at h
 cases e:f v κ with
 | ok q=>
  rw [e] at h
  cases e2:compL vs f q.2 with
  | ok q2=>
   have h:((compL vs f q.2).bind fun z=>R.ok (q.1.elim z.1 (· :: z.1),z.2))=.ok out:=h
   rw [e2] at h
   cases h
   exact ⟨q.1,q.2,q2.1,rfl,e2,rfl⟩
  | exc c p k=>
   have h:((compL vs f q.2).bind fun z=>R.ok (q.1.elim z.1 (· :: z.1),z.2))=.ok out:=h
   rw [e2] at h;cases h
  | bad=>
   have h:((compL vs f q.2).bind fun z=>R.ok (q.1.elim z.1 (· :: z.1),z.2))=.ok out:=h
   rw [e2] at h;cases h
 | exc c p k=>rw [e] at h;cases h
 | bad=>rw [e] at h;cases h
theorem compL_noexc {f:Val→Ks→R (Option Val × Ks)}(hf:∀ v κ c p k,f v κ ≠ .exc c p k):∀ (vs:List Val) (κ:Ks) c p k,compL vs f κ ≠ .exc c p k
 | [],_,_,_,_=>fun h=>nomatch h
 | v::vs,κ,c,p,k=>fun h=>by
  unfold compL at h
  cases e:f v κ with
  | ok q=>
   rw [e] at h
   have h:((compL vs f q.2).bind fun z=>R.ok (q.1.elim z.1 (· :: z.1),z.2))=.exc c p k:=h
   cases e2:compL vs f q.2 with
   | ok q2=>rw [e2] at h;cases h
   | exc c' p' k'=>exact compL_noexc hf vs q.2 c' p' k' e2
   | bad=>rw [e2] at h;cases h
  | exc c' p' k'=>exact hf v κ c' p' k' e
  | bad=>rw [e] at h;cases h
theorem noExc_ok {α:Type}{r:R α}{a:α}(h:noExc r=.ok a):r=.ok a:=by
 cases r <;> first|exact h|cases h
theorem noExc_no {α:Type}(r:R α)(c p k):noExc r ≠ .exc c p k:=by
 cases r <;> (intro h;cases h)
theorem Qx7 {α β:Type}{r:R α}{f:α→R β}{b:β}(h:r.bind f=.ok b):∃ a,r=.ok a∧f a=.ok b:=by
 cases r with
 | ok a=>exact ⟨a,rfl,h⟩
 | exc c p k=>cases h
 | bad=>cases h
theorem ofO_ok_inv {α:Type}{o:Option α}{a:α}(h:R.ofO o=.ok a):o=some a:=by
 cases o with
 | none=>cases h
 | some b=>cases h;rfl
section
variable {g:Gx}{w w':Wd}{κ:Ks}{H H':Hp}
theorem keeps_upd_own (wf:WF g w κ H){D:Addr}{xs:List V}(nI:¬ w.I D)(nM:D ∉ w.μ)(h:H D=some (.lst xs))(ys:List V):Keeps w.I w.I w.μ w.μ H (upd H D (.lst ys)):=by
 have ne:∀ a o,H a=some o→(∀ zs,o ≠ .lst zs)→upd H D (.lst ys) a=some o:=fun a o q n=>by
  rw [upd_ne (fun z=>by rw [z,h] at q;cases q;exact n xs rfl)];exact q
 exact ⟨fun _ z=>z,fun _ _ z=>z,fun a o j q=>by rw [upd_ne (fun z=>nI (by rw [← z];exact j))];exact q,fun a zs q=>ne a _ q (by intro _ z;cases z),fun a o u q=>ne a _ q (by intro _ z;cases z)⟩
theorem wf_upd_own (wf:WF g w κ H){D:Addr}{xs:List V}(nI:¬ w.I D)(nM:D ∉ w.μ)(h:H D=some (.lst xs))(ys:List V):WF g w κ (upd H D (.lst ys)) where
 len:=wf.len
 at_:=fun i a hi=>by
  obtain ⟨c,h1,h2⟩:=wf.at_ i a hi
  exact ⟨c,h1,h2.keeps (keeps_upd_own wf nI nM h ys) fun o _ q=>by rw [upd_ne (fun z=>nM (by rw [← z];exact List.mem_of_getElem? hi))];exact q⟩
 nd:=wf.nd
 dis:=wf.dis
 dom:=fun a z=>by
  obtain ⟨zs,q⟩:=wf.dom a z
  exact ⟨zs,by rw [upd_ne (fun z'=>nI (by rw [← z'];exact z))];exact q⟩
 tab:=fun q hq=>by
  obtain ⟨ps,h1,h2,h3⟩:=wf.tab q hq
  refine ⟨ps,by rw [upd_ne (fun z=>by rw [z,h] at h1;cases h1)];exact h1,h2,fun pos cv hc => ?_⟩
  obtain ⟨c,e1,e2⟩:=h3 pos cv hc
  exact ⟨c,e1,by rw [upd_ne (fun z=>by rw [z,h] at e2;cases e2)];exact e2⟩
theorem upd_D (e:Ext w H w' H'){D:Addr}(n:H D=none){o:HO}:Ext w H w' (upd H' D o) where
 I:=e.I
 new:=e.new
 mu:=e.mu
 fr:=fun a u q nm nt=>by rw [upd_ne (ne_of_none q n)];exact e.fr a u q nm nt
 dm:=fun a q=>by
  unfold upd at q
  split at q
  ·cases q
  ·exact e.dm a q
end
abbrev Pl.inB (p:Pl):Pl:={ p with W:=fun _ _ _ _=>False,b:=true }
abbrev blkX (X:Cx)(scope:Scope)(s:Shared)(H:Hp)(C:Addr)(cl:List (Str × Addr))(fp:List Addr):Cx:=X.blk s H scope (compEnvC scope cl C X.env) fp
abbrev Pl.blk (p:Pl)(scope:Scope)(s:Shared)(H:Hp)(C:Addr)(cl:List (Str × Addr))(fp:List Addr):Pl:={ p with X:=blkX p.X scope s H C cl fp,W:=fun _ _ _ _=>False,b:=true }
theorem tG_blk {p:Pl}{scope:Scope}{s:Shared}{H0:Hp}{C:Addr}{cl:List (Str × Addr)}{fp:List Addr}{α β:Type}{rel:Wd→Hp→α→β→Prop}{m:Rho→Ks→R (α × Ks)}{σ:L2.St}{H:Hp}{Q:β→Hp→Prop}
  (h:tG p.inB rel m σ H Q):tG (p.blk scope s H0 C cl fp) rel m σ H Q:=by
 obtain ⟨w,ρ,κ,re,wf,po⟩:=h
 exact ⟨w,ρ,κ,re.blk,wf,po⟩
def turnF (tg:Tg)(ρ:Rho)(own:List Nat)(mt:Rho→Ks→R (Bool × Ks))(me:Rho→Ks→R (Val × Ks))(v:Val)(κ:Ks):R (Option Val × Ks):=
 noExc ((R.ofO (setTg tg v (wipeR ρ own))).bind fun ρ2=>(mt ρ2 κ).bind fun b=>if b.1=true then (me ρ2 b.2).bind fun x=>.ok (some x.1,x.2) else .ok (none,b.2))
def rF (g:Gx)(H:Hp):Wd→Hp→Val→V→Prop:=fun w' H' v x=>∃ l a xs,v=.lst l∧x=.ref a∧H a=none∧H' a=some (.lst xs)∧RVs g w'.I w'.μ H' l xs∧¬ w'.I a∧a ∉ w'.μ
def tF (p:Pl)(m:Rho→Ks→R (Val × Ks)):TE:=fun σ H Q=>
 ∃ w ρ κ,RE p.g p.X p.b w H ρ σ∧WF p.g w κ H∧Post p.g p.clA (rF p.g H) w H (m ρ κ) Q (fun c d H'=>p.W c d σ H')
abbrev FE (p:Pl)(e:Expr)(m:Rho→Ks→R (Val × Ks)):Prop:=PE p.X e (tF p m)
theorem rF_fix {g:Gx}{w w':Wd}{κ:Ks}{H H':Hp}{v:Val}{x:V}(e:Ext w H w' H')(wf:WF g w' κ H')(r:rF g H w' H' v x):∃ w2,Ext w H w2 H'∧WF g w2 κ H'∧RV g w2.I w2.μ H' v x:=by
 obtain ⟨l,a,xs,rfl,rfl,n,h,r,nI,nM⟩:=r
 exact ⟨w'.fix a,e.fix n,wf.fix h nM,.lst (.inr rfl) h (r.keeps .fix)⟩
theorem SE.ofF {p:Pl}{e:Expr}{m:Rho→Ks→R (Val × Ks)}(h:FE p e m):SE p e m:=h.imp fun σ H Q ⟨w,ρ,κ,re,wf,po⟩=>by
 refine ⟨w,ρ,κ,re,wf,?_⟩
 generalize m ρ κ=z at po ⊢
 cases z with
 | ok q=>
  intro x w' H' e wf' r
  obtain ⟨w2,e2,wf2,r2⟩:=rF_fix e wf' r
  exact po x w2 H' e2 wf2 r2
 | exc c v k=>
  cases v with
  | non=>exact po
  | _=>exact po
 | bad=>exact po
section
variable {p:Pl}{elt tgE iter:Expr}{ifs:List Expr}{scope:Scope}{own:List Nat}{pos:Pos}{mi:Rho→Ks→R (List Val × Ks)}{mt:Rho→Ks→R (Bool × Ks)}{me:Rho→Ks→R (Val × Ks)}{tg:Tg}
theorem comp_read (hsl:∀ i∈slTg tg,i∈own){σ:L2.St}{H:Hp}{Q:VK}
  (h:tF p (fun ρ κ=>(mi ρ κ).bind fun q=>(compL q.1 (turnF tg ρ own mt me) q.2).bind fun r=>if r.1.length<LINE then .ok (.lst r.1,r.2) else .bad) σ H Q) :
  tLc (tG p (rWx p.g) mi) (gT p.g.K tg) (tG p.inB (fun _ _ a b=>a=b) mt) (tG p.inB (rV p.g) me) own σ H Q:=by
 obtain ⟨w0,ρ,κ0,re0,wf0,po⟩:=h
 refine ⟨w0,ρ,κ0,re0,wf0,Post.bind po fun w H1 l κ J wf e01 wl po => ?_⟩
 have re:=re0.ext e01 wf0
 intro D hD
 have po:Post p.g p.clA (rF p.g H) w H1 ((compL l (turnF tg ρ own mt me) κ).bind fun r=>if r.1.length<LINE then .ok (Val.lst r.1,r.2) else .bad) Q (fun c d H'=>p.W c d σ H'):=po
 cases e:compL l (turnF tg ρ own mt me) κ with
 | bad=>rw [e] at po;exact po.elim
 | exc c v k=>exact absurd e (compL_noexc (fun v κ c p k=>noExc_no _ c p k) l κ c v k)
 | ok out=>
  rw [e] at po
  have po:Post p.g p.clA (rF p.g H) w H1 (if out.1.length<LINE then .ok (Val.lst out.1,out.2) else .bad) Q (fun c d H'=>p.W c d σ H'):=po
  by_cases hl:out.1.length<LINE
  case neg=>rw [if_neg hl] at po;exact po.elim
  rw [if_pos hl] at po
  have nI:¬ w.I D:=fun z=>by
   obtain ⟨xs,q⟩:=wf.dom D z
   rw [hD] at q;cases q
  have nM:D ∉ w.μ:=fun z=>by
   obtain ⟨o,q⟩:=wf.mu_some z
   rw [hD] at q;cases q
  refine ⟨fun i m H=>m=l.length-i∧i≤l.length∧∃ w2 κ2 acc xs rest,Ext w H1 w2 H∧WF p.g w2 κ2 H∧¬ w2.I D∧D ∉ w2.μ∧H D=some (.lst xs)∧RVs p.g w2.I w2.μ H acc xs ∧
   compL (l.drop i) (turnF tg ρ own mt me) κ2=.ok (rest,out.2)∧out.1=acc++rest,
   ⟨l.length,by simp,Nat.zero_le _,w,κ,[],[],out.1,Ext.upd_new wf hD _,wf.upd_new hD _,nI,nM,upd_same,.nil,by rw [List.drop_zero];exact e,rfl⟩,?_⟩
  rintro i m H2 ⟨rfl,hil,w2,κ2,acc,xs,rest,e2,wf2,nI2,nM2,hDx,ra,ec,eo⟩
  by_cases hlt:i<l.length
  case neg=>
   have ei:i=l.length:=by omega
   subst ei
   refine .inl ⟨wl.stop w2 κ2 H2 e2 wf2,?_⟩
   rw [List.drop_length] at ec
   have ec:R.ok (([]:List Val),κ2)=R.ok (rest,out.2):=ec
   cases ec
   rw [List.append_nil] at eo
   exact po (.ref D) w2 H2 e2 wf2 ⟨_,D,xs,rfl,rfl,e01.dm D hD,hDx,by rw [eo];exact ra,nI2,nM2⟩
  case pos=>
   refine .inr ⟨wl.go i w2 κ2 H2 hlt e2 wf2,_,fun H' hN=>⟨l.length-(i+1),by omega,hN⟩,fun x H3 hy => ?_⟩
   obtain ⟨v,hv,e3,wf3,rv⟩:=wl.yld i w2 κ2 H2 x H3 hlt e2 wf2 hy
   have hd:l.drop i=v::l.drop (i+1):=by
    rw [List.drop_eq_getElem_cons hlt]
    rw [List.getElem?_eq_getElem hlt] at hv
    cases hv;rfl
   rw [hd] at ec
   obtain ⟨o,κ3,rest',ef,ec',eo'⟩:=compL_cons ec
   obtain ⟨ρ2,et,ef⟩:=Qx7 (noExc_ok ef)
   obtain ⟨b,eb,ef⟩:=Qx7 ef
   have et:=ofO_ok_inv et
   have e13:Ext w H1 w2 H3:=e2.trans e3
   have reW:RE p.g p.X true w2 H3 (wipeR ρ own) (L2.wipe σ own):=((re.ext e13 wf).wipe _).blk
   have nI3:¬ w2.I D:=nI2
   have D3:H3 D=some (.lst xs):=e3.fr D _ hDx nM2 (by intro _ z;cases z)
   refine gT_of wf3 et reW rv fun σ2 re2 hw => ?_
   have hw2:=hw own hsl
   refine ⟨by rw [hw2];exact wipe_wipe σ fun i hi=>hi,w2,ρ2,κ2,re2,wf3,?_⟩
   rw [eb]
   intro b' w4 H4 e4 wf4 hb
   subst hb
   have e14:Ext w H1 w4 H4:=e13.trans e4
   have dn:H3 D≠none:=by rw [D3];intro z;cases z
   have D4:H4 D=some (.lst xs):=e4.fr D _ D3 nM2 (by intro _ z;cases z)
   have nI4:¬ w4.I D:=fun z=>(e4.new D z).elim nI3 dn
   have nM4:D ∉ w4.μ:=e4.nomu dn nM2
   have ra4:=(ra.ext e3 wf2).ext e4 wf3
   obtain ⟨bb,κb⟩:=b
   cases bb with
   | false=>
    have ef:R.ok ((none:Option Val),κb)=R.ok (o,κ3):=ef
    cases ef
    rw [if_neg (show ¬ (false=true) from Bool.false_ne_true)]
    exact ⟨rfl,hlt,w4,_,acc,xs,rest,e14,wf4,nI4,nM4,D4,ra4,by have eo':rest=rest':=eo';rw [eo'];exact ec',eo⟩
   | true=>
    have ef:((me ρ2 κb).bind fun x=>R.ok (some x.1,x.2))=R.ok (o,κ3):=ef
    obtain ⟨y,ey,ef⟩:=Qx7 ef
    cases ef
    rw [if_pos rfl]
    refine ⟨w4,ρ2,κb,re2.ext e4 wf3,wf4,?_⟩
    rw [ey]
    intro z w5 H5 e5 wf5 rz
    have dn4:H4 D≠none:=by rw [D4];intro z;cases z
    have D5:H5 D=some (.lst xs):=e5.fr D _ D4 nM4 (by intro _ z;cases z)
    have nI5:¬ w5.I D:=fun z=>(e5.new D z).elim nI4 dn4
    have nM5:D ∉ w5.μ:=e5.nomu dn4 nM4
    have ra5:=ra4.ext e5 wf4
    have e15:Ext w H1 w5 H5:=e14.trans e5
    have hacc:(acc++[y.1]).length≤out.1.length:=by
     rw [eo,(show rest=y.1::rest' from eo')]
     simp only [List.length_append,List.length_cons,List.length_nil]
     omega
    refine ⟨xs,D5,by rw [← ra5.length,← Qx8];simp only [List.length_append,List.length_cons,List.length_nil] at hacc;omega,rfl,hlt,w5,y.2,acc++[y.1],xs++[z],rest',?_,?_,nI5,nM5,upd_same,?_,ec',?_⟩
    ·exact upd_D e15 hD
    ·exact wf_upd_own wf5 nI5 nM5 D5 _
    ·exact (ra5.append (.cons rz .nil)).keeps (keeps_upd_own wf5 nI5 nM5 D5 _)
    ·rw [eo,(show rest=y.1::rest' from eo')];simp
theorem FE_comp (hK:p.X.K=p.g.K)(hc:p.X.calm=true)(hN:p.X.N.Nodup)(hi:SI p tgE iter mi){ow:List (Str × Nat)}(how:ow.map (·.2)=own)(ok:BlkOk p.X.N p.X.env.scope scope ow)
  (hg:∀ (s:Shared) (H:Hp) (C:Addr) (cl:List (Str × Addr)) (fp:List Addr),PG (blkX p.X scope s H C cl fp) tgE (gT p.g.K tg))
  (ht:∀ (s:Shared) (H:Hp) (C:Addr) (cl:List (Str × Addr)) (fp:List Addr),PTs (blkX p.X scope s H C cl fp) ifs (tG (p.blk scope s H C cl fp) (fun _ _ a b=>a=b) mt))
  (he:∀ (s:Shared) (H:Hp) (C:Addr) (cl:List (Str × Addr)) (fp:List Addr),SE (p.blk scope s H C cl fp) elt me)
  (hs:∀ x,foldedSetIterable iter p.X.env x=pure x) (hsl:∀ i∈slTg tg,i∈own) :
  FE p (.ListComp elt [⟨tgE,iter,ifs,0⟩] scope pos) (fun ρ κ=>(mi ρ κ).bind fun q=>(compL q.1 (turnF tg ρ own mt me) q.2).bind fun r=>if r.1.length<LINE then .ok (.lst r.1,r.2) else .bad):=by
 subst how
 exact (pe_lc hc hN hi ok hg (fun s H C cl fp=>⟨fun pins s' σ H' Q I q=>(ht s H C cl fp).run pins s' σ H' Q I (tG_blk q)⟩) (fun s H C cl fp=>(he s H C cl fp).imp fun _ _ _ q=>tG_blk q) hs).imp fun σ H Q h=>comp_read hsl h
theorem setLc_read (hK:p.X.K=p.g.K)(hc:p.X.calm=true)(hN:p.X.N.Nodup){i:Nat}{y:Str}{py spos:Pos}(hy:p.X.N[i]? = some y)(hyl:p.X.env.scope.names.lookup y=some .local)
  (hsw:swapsWith (.ListComp elt [⟨tgE,iter,ifs,0⟩] scope pos) (some (.Name y py)) spos.line p.X.env=pure true) (hi:SI p tgE iter mi) {ow:List (Str × Nat)} (how:ow.map (·.2)=own) (ok:BlkOk p.X.N p.X.env.scope scope ow)
  (hg:∀ (s:Shared) (H:Hp) (C:Addr) (cl:List (Str × Addr)) (fp:List Addr),PG (blkX p.X scope s H C cl fp) tgE (gT p.g.K tg))
  (ht:∀ (s:Shared) (H:Hp) (C:Addr) (cl:List (Str × Addr)) (fp:List Addr),PTs (blkX p.X scope s H C cl fp) ifs (tG (p.blk scope s H C cl fp) (fun _ _ a b=>a=b) mt))
  (he:∀ (s:Shared) (H:Hp) (C:Addr) (cl:List (Str × Addr)) (fp:List Addr),SE (p.blk scope s H C cl fp) elt me)
  (hs:∀ x,foldedSetIterable iter p.X.env x=pure x) (hsl:∀ i∈slTg tg,i∈own) :
  PS p.X (.Assign [.Name y py] (.ListComp elt [⟨tgE,iter,ifs,0⟩] scope pos) spos) (tAsg (tF p (fun ρ κ=>(mi ρ κ).bind fun q=>(compL q.1 (turnF tg ρ own mt me) q.2).bind fun r=>if r.1.length<LINE then .ok (.lst r.1,r.2) else .bad)) (gName i)):=by
 subst how
 have ht':∀ (s:Shared) (H:Hp) (C:Addr) (cl:List (Str × Addr)) (fp:List Addr),PTs (blkX p.X scope s H C cl fp) ifs (tG p.inB (fun _ _ a b=>a=b) mt):=fun s H C cl fp=>⟨fun pins s' σ H' Q I q=>(ht s H C cl fp).run pins s' σ H' Q I (tG_blk q)⟩
 have he':∀ (s:Shared) (H:Hp) (C:Addr) (cl:List (Str × Addr)) (fp:List Addr),PE (blkX p.X scope s H C cl fp) elt (tG p.inB (rV p.g) me):=fun s H C cl fp=>(he s H C cl fp).imp fun _ _ _ q=>tG_blk q
 have h:=ps_setLc (i:=i) (y:=y) (py:=py) (spos:=spos) hc hN hy hyl hsw hi ok hg ht' he' hs
 exact ⟨fun pins s σ H D I q=>h.run pins s σ H D I (comp_read hsl q)⟩
variable {a b c:Expr}{es:List Expr}{ms:Rho→Ks→R (List Val × Ks)}{ma mb:Rho→Ks→R (Val × Ks)}
theorem rF_new {w:Wd}{κ:Ks}{H0 H:Hp}(e0:∀ a,H a=none→H0 a=none)(wf:WF p.g w κ H){l:List Val}{xs:List V}(r:RVs p.g w.I w.μ H l xs){a:Addr}(n:H a=none) :
  Ext w H w (upd H a (.lst xs))∧WF p.g w κ (upd H a (.lst xs))∧rF p.g H0 w (upd H a (.lst xs)) (.lst l) (.ref a):=by
 have e:=Ext.upd_new wf n (.lst xs)
 refine ⟨e,wf.upd_new n _,l,a,xs,rfl,rfl,e0 a n,upd_same,r.ext e wf,fun z => ?_,fun z => ?_⟩
 ·obtain ⟨ys,q⟩:=wf.dom a z
  rw [n] at q;cases q
 ·obtain ⟨o,q⟩:=wf.mu_some z
  rw [n] at q;cases q
theorem FE_lst (h:SEs p es ms):FE p (.List es pos) (fun ρ κ=>(ms ρ κ).bind fun q=>if q.1.length≤LINE then .ok (.lst q.1,q.2) else .bad):=
 (pe_lst h).imp fun σ H Q ⟨w,ρ,κ,re,wf,po⟩=>⟨w,ρ,κ,re,wf,Post.bind po fun w1 H1 l κ1 xs wf1 e1 rx po=>by
  have po:Post p.g p.clA (rF p.g H) w1 H1 (if l.length≤LINE then .ok (Val.lst l,κ1) else .bad) Q (fun c d H'=>p.W c d σ H'):=po
  by_cases hl:l.length≤LINE
  ·rw [if_pos hl] at po
   refine ⟨by rw [← rx.length,← Qx8];exact hl,fun q hq => ?_⟩
   obtain ⟨e2,wf2,r2⟩:=rF_new e1.dm wf1 rx hq
   exact po _ _ _ e2 wf2 r2
  ·rw [if_neg hl] at po;exact po.elim⟩
end
end PL
end
section
namespace PL
open PySem PySem.Spec PyProof.Rows L2 LamX NdefX
def Qx1 (cs:List Cap):List Addr:=cs.map (·.c)
def trk (H:Hp):List Cap→Hp
 | []=>H
 | q::cs=>upd (trk H cs) q.c (ObjX q.c q.o)
def Qzb (H:Hp)(cs:List Cap):Hp:=fun b=>if b∈Qx1 cs then none else H b
structure CapOk (H:Hp)(h:Heap)(q:Cap):Prop where
 free:H q.c=none
 get:h.get? q.c=some q.o
 dat:q.o.data=.cell (some q.u)
section
variable {H H':Hp}{h h':Heap}{cs:List Cap}
theorem Qx0 {b:Addr}:∀ {cs:List Cap},b ∉ Qx1 cs→trk H cs b=H b
 | [],_=>rfl
 | q::cs,n=>by
  have n:b ∉ q.c::Qx1 cs:=n
  rw [List.mem_cons,not_or] at n
  show upd (trk H cs) q.c (ObjX q.c q.o) b=H b
  rw [upd_ne n.1,Qx0 n.2]
theorem trk_in:∀ {cs:List Cap},(∀ q∈cs,CapOk H h q)→∀ q∈cs,trk H cs q.c=some (ObjX q.c q.o)
 | [],_,_,hq=>nomatch hq
 | q0::cs,ok,q,hq=>by
  show upd (trk H cs) q0.c (ObjX q0.c q0.o) q.c=_
  by_cases e:q.c=q0.c
  ·have e2:q.o=q0.o:=by
    have h1:=(ok q hq).get
    have h2:=(ok q0 List.mem_cons_self).get
    rw [e,h2] at h1
    exact (Option.some.inj h1).symm
   rw [e,e2,upd_same]
  ·rw [upd_ne e]
   rcases List.mem_cons.mp hq with z|z
   ·rw [z] at e;exact absurd rfl e
   ·exact trk_in (fun q hq=>ok q (List.mem_cons_of_mem _ hq)) q z
theorem Qzz {b:Addr}(hb:b∈Qx1 cs):∃ q∈cs,q.c=b:=by
 obtain ⟨q,hq,e⟩:=List.mem_map.mp hb
 exact ⟨q,hq,e⟩
theorem Qx5 (ok:∀ q∈cs,CapOk H h q){b:Addr}{o:HO}(e:H b=some o):b ∉ Qx1 cs∧trk H cs b=some o:=by
 have n:b ∉ Qx1 cs:=fun z=>by
  obtain ⟨q,hq,e2⟩:=Qzz z
  have:=(ok q hq).free
  rw [e2,e] at this;cases this
 exact ⟨n,by rw [Qx0 n];exact e⟩
theorem trk_none (ok:∀ q∈cs,CapOk H h q){b:Addr}(e:trk H cs b=none):H b=none∧b ∉ Qx1 cs:=by
 have n:b ∉ Qx1 cs:=fun z=>by
  obtain ⟨q,hq,e2⟩:=Qzz z
  have:=trk_in ok q hq
  rw [e2,e] at this;cases this
 rw [Qx0 n] at e
 exact ⟨e,n⟩
theorem trk_hok {P:Program}{w:World}(x:HOk P w H h)(ok:∀ q∈cs,CapOk H h q):HOk P w (trk H cs) h:=fun a o e=>by
 by_cases hb:a∈Qx1 cs
 ·obtain ⟨q,hq,e2⟩:=Qzz hb
  have e3:=trk_in ok q hq
  rw [e2,e] at e3;cases e3
  have g:=(ok q hq).get
  rw [e2] at g
  exact ⟨g,⟨_,g⟩,fun h1 h2 z st=>st _ z⟩
 ·rw [Qx0 hb] at e
  exact (x a o e).stay (fun b u _ q=>q) (fun c q=>(Qx5 ok q).2) fun c xs q=>(Qx5 ok q).2
theorem trk_ext {g:Gx}{w:Wd}{κ:Ks}(wf:WF g w κ H)(ok:∀ q∈cs,CapOk H h q):Ext w H w (trk H cs)∧WF g w κ (trk H cs):=by
 have e:Ext w H w (trk H cs):=⟨fun _ z=>z,fun _ z=>.inl z,⟨[],by simp⟩,fun a o q _ _=>(Qx5 ok q).2,fun a q=>(trk_none ok q).1⟩
 exact ⟨e,e.wf wf rfl (fun a z=>by
  obtain ⟨xs,q⟩:=wf.dom a z
  exact ⟨xs,(Qx5 ok q).2⟩) (wf.tab.ext fun b o q=>(Qx5 ok q).2) (fun a _ o _ q=>(Qx5 ok q).2) wf.dis⟩
def Still (H:Hp)(cs:List Cap):Prop:=∀ q∈cs,H q.c=some (ObjX q.c q.o)
theorem untrk_some {P:Program}{w:World}(x:HOk P w H h)(st:Still H cs){b:Addr}{o:HO}(e:H b=some o)(no:∀ q∈cs,b=q.c→o≠ObjX q.c q.o):Qzb H cs b=some o:=by
 unfold Qzb
 rw [if_neg fun z => ?_]
 ·exact e
 ·obtain ⟨q,hq,e2⟩:=Qzz z
  have:=st q hq
  rw [e2,e] at this
  exact no q hq e2.symm (by rw [e2];exact Option.some.inj this)
theorem untrk_in {b:Addr}{o:HO}(e:Qzb H cs b=some o):H b=some o∧b ∉ Qx1 cs:=by
 unfold Qzb at e
 split at e
 ·cases e
 ·exact ⟨e,by assumption⟩
theorem objX_ne {c:Addr}{o:Obj}{u:HO}(n:∀ φ,u ≠ .ext φ):u≠ObjX c o:=n _
theorem untrk_hok {P:Program}{w:World}(x:HOk P w H h)(st:Still H cs):HOk P w (Qzb H cs) h:=fun a o e=>by
 obtain ⟨e1,n⟩:=untrk_in e
 exact (x a o e1).stay (fun b u _ q=>q) (fun c q=>untrk_some x st q fun _ _ _=>objX_ne (by intro _ z;cases z)) fun c xs q=>untrk_some x st q fun _ _ _=>objX_ne (by intro _ z;cases z)
theorem untrk_none {b:Addr}(e:H b=none):Qzb H cs b=none:=by
 unfold Qzb
 split
 ·rfl
 ·exact e
theorem untrk_wf {g:Gx}{P:Program}{W:World}{w:Wd}{κ:Ks}(x:HOk P W H h)(wf:WF g w κ H)(st:Still H cs)(dc:∀ q∈cs,q.o.data=.cell (some q.u)) :
  WF g w κ (Qzb H cs)∧Keeps w.I w.I w.μ w.μ H (Qzb H cs):=by
 have ne:∀ {b o},H b=some o→(∀ φ,o ≠ .ext φ)→Qzb H cs b=some o:=fun e n=>untrk_some x st e fun _ _ _=>objX_ne n
 have k:Keeps w.I w.I w.μ w.μ H (Qzb H cs):=⟨fun _ z=>z,fun _ _ z=>z,fun a o j q=>by
  obtain ⟨xs,q2⟩:=wf.dom a j
  rw [q] at q2;cases q2
  exact ne q (by intro _ z;cases z),fun a xs q=>ne q (by intro _ z;cases z),fun a o u q=>ne q (by intro _ z;cases z)⟩
 refine ⟨⟨wf.len,fun i a hi => ?_,wf.nd,wf.dis,fun a z => ?_,fun q hq => ?_⟩,k⟩
 ·obtain ⟨c,h1,h2⟩:=wf.at_ i a hi
  exact ⟨c,h1,h2.keeps k fun o ho q=>ne q (by intro _ z;rw [z] at ho;cases ho)⟩
 ·obtain ⟨xs,q⟩:=wf.dom a z
  exact ⟨xs,ne q (by intro _ z;cases z)⟩
 ·obtain ⟨ps,h1,h2,h3⟩:=wf.tab q hq
  refine ⟨ps,ne h1 (by intro _ z;cases z),h2,fun pos cv hc => ?_⟩
  obtain ⟨c,e1,e2⟩:=h3 pos cv hc
  refine ⟨c,e1,untrk_some x st e2 fun q hq e => ?_⟩
  intro z
  have o1:=x c _ e2
  have o2:=x q.c _ (st q hq)
  obtain ⟨⟨oc,vs,t,g1,g2,_⟩,_⟩:=o1
  obtain ⟨g3,_⟩:=o2
  rw [← e,g1] at g3
  have g3:oc=q.o:=Option.some.inj g3
  rw [g3,dc q hq] at g2
  cases g2
theorem untrk_ext {g:Gx}{P:Program}{W:World}{w w':Wd}{κ:Ks}{H0:Hp}(ok:∀ q∈cs,CapOk H0 h q)(wf:WF g w κ H0)(x:HOk P W H' h')(e:Ext w (trk H0 cs) w' H')(st:Still H' cs):Ext w H0 w' (Qzb H' cs):=by
 have e0:=(trk_ext wf ok).1.trans e
 refine ⟨e0.I,e0.new,e0.mu,fun a o q nm nt => ?_,fun a q => ?_⟩
 ·have q2:=e0.fr a o q nm nt
  unfold Qzb
  rw [if_neg (Qx5 ok q).1]
  exact q2
 ·unfold Qzb at q
  split at q
  ·rename_i hb
   obtain ⟨c,hc,e2⟩:=Qzz hb
   rw [← e2];exact (ok c hc).free
  ·exact e0.dm a q
theorem still_of {g:Gx}{w w':Wd}{κ:Ks}{H0:Hp}(ok:∀ q∈cs,CapOk H0 h q)(wf:WF g w κ H0)(e:Ext w (trk H0 cs) w' H'):Still H' cs:=fun q hq=>
 e.exts (trk_ext wf ok).2 (trk_in ok q hq)
theorem untrk_un {fs:List Addr}{P:Program}{W:World}{H0:Hp}(ok:∀ q∈cs,CapOk H0 h q)(nf:∀ q∈cs,q.c ∉ fs)(x:HOk P W H' h')(st:Still H' cs)(u:Un fs [] (trk H0 cs) H' h h'):Un fs [] H0 (Qzb H' cs) h h' where
 keep:=fun b o hg hn hf hx=>by
  by_cases hb:b∈Qx1 cs
  ·obtain ⟨q,hq,e2⟩:=Qzz hb
   have g1:=(ok q hq).get
   rw [e2,hg] at g1;cases g1
   have g2:=(x q.c _ (st q hq)).1
   rw [e2] at g2
   exact g2
  ·exact u.keep b o hg (by rw [Qx0 hb];exact hn) hf hx
 slot:=fun b o hg hn hf hx=>by
  have hb:b ∉ Qx1 cs:=fun z=>by
   obtain ⟨q,hq,e2⟩:=Qzz z
   exact nf q hq (by rw [e2];exact hf)
  exact u.slot b o hg (by rw [Qx0 hb];exact hn) hf hx
 free:=fun b o hg hn hx=>by
  unfold Qzb
  split
  ·rfl
  ·rename_i hb
   exact u.free b o hg (by rw [Qx0 hb];exact hn) hx
 there:=u.there
 tups:=fun b xs q=>by
  have t:=Qx5 ok q
  unfold Qzb
  rw [if_neg t.1]
  exact u.tups b xs t.2
 frzs:=fun b o xs q=>by
  have t:=Qx5 ok q
  unfold Qzb
  rw [if_neg t.1]
  exact u.frzs b o xs t.2
 tbls:=fun b ps q=>by
  have t:=Qx5 ok q
  unfold Qzb
  rw [if_neg t.1]
  exact u.tbls b ps t.2
theorem untrk_ub {fs:List Addr}{P:Program}{W:World}{H0:Hp}{B:Heap}(ok:∀ q∈cs,CapOk H0 h q)(nf:∀ q∈cs,q.c ∉ fs)(x:HOk P W H' B)(st:Still H' cs)(u:UB fs (trk H0 cs) H' h B h'):UB fs H0 (Qzb H' cs) h B h' where
 keep:=fun b o hg hn hf=>by
  by_cases hb:b∈Qx1 cs
  ·obtain ⟨q,hq,e2⟩:=Qzz hb
   have g1:=(ok q hq).get
   rw [e2,hg] at g1;cases g1
   have g2:=(x q.c _ (st q hq)).1
   rw [e2] at g2
   exact g2
  ·exact u.keep b o hg (by rw [Qx0 hb];exact hn) hf
 slot:=u.slot
 free:=fun b o hg hn=>by
  unfold Qzb
  split
  ·rfl
  ·rename_i hb
   exact u.free b o hg (by rw [Qx0 hb];exact hn)
 there:=u.there
 tups:=fun b xs q=>by
  have t:=Qx5 ok q
  unfold Qzb
  rw [if_neg t.1]
  exact u.tups b xs t.2
 frzs:=fun b o xs q=>by
  have t:=Qx5 ok q
  unfold Qzb
  rw [if_neg t.1]
  exact u.frzs b o xs t.2
 tbls:=fun b ps q=>by
  have t:=Qx5 ok q
  unfold Qzb
  rw [if_neg t.1]
  exact u.tbls b ps t.2
end
theorem dok_untrk {P:Program}{W:World}{g:Gx}{H':Hp}{h':Heap}{cs:List Cap}{c:Nat}{d:Option Addr}(x:HOk P W H' h')(st:Still H' cs)(hd:DOk g c d H'):DOk g c d (Qzb H' cs):=
 dok_of (fun dx fs q=>untrk_some x st q fun _ _ _=>objX_ne (by intro _ z;cases z)) hd
end PL
end
section
namespace PL
open PySem PySem.Spec PyProof.Rows L2 LamX NdefX
inductive RAr (g:Gx)(w:Wd)(H:Hp):Ar→V→Prop where
 | v {u:Val} {x:V} (r:RV g w.I w.μ H u x):RAr g w H (.v u) x
 | x {y:Ex} {x:V} (r:RX g w H y x):RAr g w H (.x y) x
inductive RAs (g:Gx)(w:Wd)(H:Hp):List Ar→List V→Prop where
 | nil:RAs g w H [] []
 | cons {a:Ar} {x:V} {l:List Ar} {xs:List V} (h:RAr g w H a x) (t:RAs g w H l xs):RAs g w H (a::l) (x::xs)
inductive RO1 (g:Gx)(X:Cx)(ρ:Rho)(w:Wd)(H:Hp):Ar→V→Prop where
 | v {u:Val} {x:V} (r:RV g w.I w.μ H u x):RO1 g X ρ w H (.v u) x
 | x {y:Ex} {x:V} (r:RX g w H y x):RO1 g X ρ w H (.x y) x
 | many {lk:List (Nat × List Nat)} {l:List (Nat × List Val)} {a:Addr} {xs:List V} (hf:∀ x,X.fn x=true) (e:eclosOf ρ lk=some l) (j:w.I a) (h:H a=some (.lst xs)) (r:RLs g X H lk xs):RO1 g X ρ w H (.x (.many l)) (.ref a)
 | one {k:Nat} {js:List Nat} {caps:List Val} {x:V} (hf:∀ x,X.fn x=true) (e:capsOf ρ js=some caps) (r:RL1 g X H (k,js) x):RO1 g X ρ w H (.x (.one k caps)) x
inductive ROs (g:Gx)(X:Cx)(ρ:Rho)(w:Wd)(H:Hp):List Ar→List V→Prop where
 | nil:ROs g X ρ w H [] []
 | cons {a:Ar} {x:V} {l:List Ar} {xs:List V} (h:RO1 g X ρ w H a x) (t:ROs g X ρ w H l xs):ROs g X ρ w H (a::l) (x::xs)
section
variable {g:Gx}{X:Cx}{ρ:Rho}{b:Bool}{w w':Wd}{κ:Ks}{H H':Hp}{σ:L2.St}{pins:List (Addr × Obj)}{s:Shared}
theorem RO1.ext (e:Ext w H w' H')(wf:WF g w κ H):∀ {a:Ar} {x:V},RO1 g X ρ w H a x→RO1 g X ρ w' H' a x
 | _,_,.v r=>.v (r.ext e wf)
 | _,_,.x r=>.x (r.ext e wf)
 | _,_,.many hf e1 j h r=>.many hf e1 (e.I _ j) ((e.keepsI wf).l _ _ j h) (r.ext e wf)
 | _,_,.one hf e1 r=>.one hf e1 (r.ext e wf)
theorem ROs.ext (e:Ext w H w' H')(wf:WF g w κ H):∀ {a:List Ar} {x:List V},ROs g X ρ w H a x→ROs g X ρ w' H' a x
 | _,_,.nil=>.nil
 | _,_,.cons h t=>.cons (h.ext e wf) (t.ext e wf)
structure CapGood (X:Cx)(H:Hp)(s:Shared)(q:Cap):Prop where
 ok:CapOk H s.heap q
 at_:X.env.cells.lookup q.y=some q.c
 nf:q.c ∉ frs X.stack
 ge:X.s_0.heap.objs.size≤q.c
theorem caps_build (I:Inv X pins σ H s)(hf:∀ x,X.fn x=true)(re:RE g X b w H ρ σ):∀ {js:List Nat} {fr:List Str} {caps:List Val},js.map (fun j=>X.N[j]?)=fr.map some→(∀ y∈fr,X.env.scope.names.lookup y=some .cell∨X.env.scope.names.lookup y=some .free) →
  capsOf ρ js=some caps→∃ (cs:List Cap) (ws:List V),cs.map (·.y)=fr∧(∀ q∈cs,CapGood X H s q)∧Vals ws (cs.map (·.u))∧RVs g w.I w.μ H caps ws
 | [],[],caps,_,_,e=>by
  have e:some []=some caps:=e
  cases e
  exact ⟨[],[],rfl,fun q hq=>(nomatch hq),.nil,.nil⟩
 | [],_::_,_,h,_,_=>by cases h
 | _::_,[],_,h,_,_=>by cases h
 | j::js,y::fr,caps,h,kin,e=>by
  rw [List.map_cons,List.map_cons] at h
  injection h with h1 h2
  unfold capsOf at e
  split at e
  ·rename_i v vs e1 e2
   cases e
   obtain ⟨cs,ws,c1,c2,c3,c4⟩:=caps_build I hf re h2 (fun z hz=>kin z (List.mem_cons_of_mem _ hz)) e2
   obtain ⟨x,hx,rx⟩:=re.rdV e1
   obtain ⟨m,hn,hl⟩:=I.loc
   have ky:=kin y List.mem_cons_self
   obtain ⟨u,ru,lk⟩:=hl j y x h1 hx (ky.elim (fun z=>.inr (.inl z)) fun z=>.inr (.inr z))
   rcases lk with ⟨z,_⟩|⟨_,c,hc,o,ho,hd⟩
   ·have z:X.env.scope.names.lookup y=some .local:=z
    rcases ky with k|k <;> (rw [k] at z;cases z)
   ·have hge:=I.ok.cab y c (hf y) hc
    refine ⟨⟨y,c,o,u⟩::cs,x::ws,by rw [List.map_cons,c1],fun q hq => ?_,.cons ru c3,.cons rx c4⟩
    rcases List.mem_cons.mp hq with z|z
    ·subst z
     refine ⟨⟨I.freeC y c hc,ho,hd⟩,hc,fun z => ?_,hge⟩
     rcases List.mem_cons.mp (I.stkSub c z) with z|z
     ·exact I.cne y c hc z
     ·obtain ⟨_,o',ho',_⟩:=I.ok.funs.mem z
      exact absurd (Nat.lt_of_lt_of_le (Heap.lt_size ho') hge) (Nat.lt_irrefl _)
    ·exact c2 q z
  ·cases e
theorem rx_one (I:Inv X pins σ H s)(hf:∀ x,X.fn x=true)(re:RE g X b w H ρ σ)(wf:WF g w κ H){k:Nat}{js:List Nat}{caps:List Val}{x:V}(e:capsOf ρ js=some caps)(r:RL1 g X H (k,js) x) :
  ∃ cs:List Cap,(∀ q∈cs,CapGood X H s q)∧∀ cs':List Cap,(∀ q∈cs,q∈cs')→(∀ q∈cs',CapGood X H s q)→RX1 g w (trk H cs') k caps x:=by
 cases r with
 | @mk _ _ f c' L hL o oc cp only=>
  have cp:=cp I.ok
  obtain ⟨cs,ws,h1,h2,h3,h4⟩:=caps_build I hf re cp.at_ cp.kin e
  refine ⟨cs,h2,fun cs' sub ok => ?_⟩
  have ok':∀ q∈cs',CapOk H s.heap q:=fun q hq=>(ok q hq).ok
  obtain ⟨e1,wf1⟩:=trk_ext wf ok'
  have lk:∀ y c,(cloFrom X.env.cells L.scope.names []).lookup y=some c→X.env.cells.lookup y=some c:=cp.sub
  refine .mk hL (e1.exts wf o) (e1.exts wf oc) h1 (fun q hq=>⟨?_,trk_in ok' q (sub q hq),(h2 q hq).ok.dat⟩) (fun y c z => ?_) (fun y z c e1 e2=>I.ok.inj y z c (cp.sub y c e1) (cp.sub z c e2)) h3 (h4.ext e1 wf)
  ·exact cp.sup q.y (by rw [← h1];exact List.mem_map.mpr ⟨q,hq,rfl⟩) q.c (h2 q hq).at_
  ·-- every captured name is among fr
   exact only y c z
theorem rx_many (I:Inv X pins σ H s)(hf:∀ x,X.fn x=true)(re:RE g X b w H ρ σ)(wf:WF g w κ H):∀ {lk:List (Nat × List Nat)} {l:List (Nat × List Val)} {xs:List V},eclosOf ρ lk=some l→RLs g X H lk xs →
  ∃ cs:List Cap,(∀ q∈cs,CapGood X H s q)∧∀ cs':List Cap,(∀ q∈cs,q∈cs')→(∀ q∈cs',CapGood X H s q)→RXs g w (trk H cs') l xs
 | [],l,xs,e,r=>by
  have e:some []=some l:=e
  cases e;cases r
  exact ⟨[],fun q hq=>(nomatch hq),fun _ _ _=>.nil⟩
 | (k,js)::lk,l,xs,e,r=>by
  unfold eclosOf at e
  split at e
  ·rename_i v vs e1 e2
   cases e
   cases r with
   | cons r1 rt=>
    obtain ⟨c1,g1,k1⟩:=rx_one I hf re wf e1 r1
    obtain ⟨c2,g2,k2⟩:=rx_many I hf re wf e2 rt
    refine ⟨c1++c2,fun q hq=>(List.mem_append.mp hq).elim (g1 q) (g2 q),fun cs' sub ok=>.cons (k1 cs' (fun q hq=>sub q (List.mem_append_left _ hq)) ok) (k2 cs' (fun q hq=>sub q (List.mem_append_right _ hq)) ok)⟩
  ·cases e
theorem ra_all (I:Inv X pins σ H s)(re:RE g X b w H ρ σ)(wf:WF g w κ H):∀ {args:List Ar} {xs:List V},ROs g X ρ w H args xs →
  ∃ cs:List Cap,(∀ q∈cs,CapGood X H s q)∧∀ cs':List Cap,(∀ q∈cs,q∈cs')→(∀ q∈cs',CapGood X H s q)→RAs g w (trk H cs') args xs
 | _,_,.nil=>⟨[],fun q hq=>(nomatch hq),fun _ _ _=>.nil⟩
 | _,_,.cons h t=>by
  obtain ⟨c2,g2,k2⟩:=ra_all I re wf t
  cases h with
  | v r=>exact ⟨c2,g2,fun cs' sub ok=>.cons (.v (r.ext (trk_ext wf fun q hq=>(ok q hq).ok).1 wf)) (k2 cs' sub ok)⟩
  | x r=>exact ⟨c2,g2,fun cs' sub ok=>.cons (.x (r.ext (trk_ext wf fun q hq=>(ok q hq).ok).1 wf)) (k2 cs' sub ok)⟩
  | many hf e j hh r=>
   obtain ⟨c1,g1,k1⟩:=rx_many I hf re wf e r
   refine ⟨c1++c2,fun q hq=>(List.mem_append.mp hq).elim (g1 q) (g2 q),fun cs' sub ok=>.cons (.x (.many j ((Qx5 (fun q hq=>(ok q hq).ok) hh).2) (k1 cs' (fun q hq=>sub q (List.mem_append_left _ hq)) ok))) (k2 cs' (fun q hq=>sub q (List.mem_append_right _ hq)) ok)⟩
  | one hf e r=>
   obtain ⟨c1,g1,k1⟩:=rx_one I hf re wf e r
   refine ⟨c1++c2,fun q hq=>(List.mem_append.mp hq).elim (g1 q) (g2 q),fun cs' sub ok=>.cons (.x (.one (k1 cs' (fun q hq=>sub q (List.mem_append_left _ hq)) ok))) (k2 cs' (fun q hq=>sub q (List.mem_append_right _ hq)) ok)⟩
end
structure RoomP (k:Nat)(A:Around):Prop where
 hd:A.handled=none
 dp:A.depth+k+10<recursionLimit
 un:A.units+5*k+250<cLine
theorem RoomP.mono {j k:Nat}{A:Around}(r:RoomP k A)(h:j≤k):RoomP j A:=⟨r.hd,by have:=r.dp;omega,by have:=r.un;omega⟩
theorem RoomP.deeper {k:Nat}{A:Around}(r:RoomP (k+1) A)(env:Env):RoomP k (A.deeper env):=
 ⟨r.hd,by have:=r.dp;show A.depth+1+k+10<_;omega,by have:=r.un;show A.units+3+5*k+250<_;omega⟩
theorem RoomP.depth {k:Nat}{A:Around}(r:RoomP k A):A.depth<recursionLimit:=by have:=r.dp;omega
theorem RoomP.one {k:Nat}{A:Around}(r:RoomP k A):Room 1 A:=⟨r.hd,by have:=r.dp;omega,by have:=r.un;omega⟩
theorem roomP_of {k k0:Nat}{A:Around}(r:Room k0 A)(h1:k+10≤3*k0+5)(h2:5*k+250≤16*k0+200):RoomP k A:=⟨r.hd,by have:=r.dp;omega,by have:=r.un;omega⟩
def FnS (P:Program)(W:World)(g:Gx)(clA:Nat→Addr)(mg:Str→Option Value)(base:Heap)(d:Nat)(a:Addr)(sem:List Ar→Ks→R (Val × Ks)):Prop:=
  ∀ (A : Around) (outer : List Env) (s : Shared) (H : Hp) (us : List Value) (vs : List V) (Q : VK) (E : XK) (w : Wd) (args : List Ar) (κ : Ks), RoomP d A → Env0 P W g.K mg base A outer s H → Vals vs us → WF g w κ H → RAs g w H args vs → Post g clA (rV g) w H (sem args κ) Q E →
    codeAny (model P W) A (.call (.ref a) ⟨us,[]⟩) (CR (L2N.CX P W) outer P W H s Q E) s
def LmS (P:Program)(W:World)(g:Gx)(clA:Nat→Addr)(mg:Str→Option Value)(base:Heap)(d:Nat)(k:Nat)(sem:List Val→Ks→R (Val × Ks)):Prop:=
  ∀ (A : Around) (outer : List Env) (s : Shared) (H : Hp) (f : Addr) (Q : VK) (E : XK) (w : Wd) (caps : List Val) (κ : Ks), RoomP d A → Env0 P W g.K mg base A outer s H → WF g w κ H → RX1 g w H k caps (.ref f) → Post g clA (rV g) w H (sem caps κ) Q E →
    codeAny (model P W) A (.call (.ref f) ⟨[],[]⟩) (CR (L2N.CX P W) outer P W H s Q E) s
section
variable {p:Pl}
def tA (p:Pl)(m:Rho→Ks→R (List Ar × Ks)):TA:=fun σ H Q=>∃ w ρ κ,RE p.g p.X p.b w H ρ σ∧WF p.g w κ H∧Post p.g p.clA (ROs p.g p.X ρ) w H (m ρ κ) Q (fun c d H'=>p.W c d σ H')
theorem run_SC {d:Nat}{a:Addr}{sem:List Ar→Ks→R (Val × Ks)}(F:FnS p.X.prog p.X.w p.g p.clA p.X.mg p.X.base d a sem)(hK:p.X.K=p.g.K)(hr:RoomP d p.X.A)(tk:L2N.Takes p.X p.W)
  {pins:List (Addr × Obj)} {σ:L2.St} {H:Hp} {s:Shared} {us:List Value} {vs:List V} {Q:VK} {w:Wd} {ρ:Rho} {κ:Ks} {args:List Ar} (I:Inv p.X pins σ H s) (rv:Vals vs us) (re:RE p.g p.X p.b w H ρ σ) (wf:WF p.g w κ H) (ra:ROs p.g p.X ρ w H args vs)
  (po:Post p.g p.clA (rV p.g) w H (sem args κ) Q (fun c d H'=>p.W c d σ H')):codeAny (model p.X.prog p.X.w) p.X.A (.call (.ref a) ⟨us,[]⟩) (fun r s'=>match r with | .ok (.ret v)=>EP p.X pins σ Q v s' | .ok _=>False | .error e=>p.X.xe e s') s:=by
 obtain ⟨cs,gd,k⟩:=ra_all I re wf ra
 have ok:∀ q∈cs,CapOk H s.heap q:=fun q hq=>(gd q hq).ok
 have nf:∀ q∈cs,q.c ∉ frs p.X.stack:=fun q hq=>(gd q hq).nf
 have ra':=k cs (fun _ z=>z) gd
 obtain ⟨e1,wf1⟩:=trk_ext wf ok
 have e0:=I.env0
 rw [hK] at e0
 have e0':Env0 p.X.prog p.X.w p.g.K p.X.mg p.X.base p.X.A p.X.stack s (trk H cs):=by
  refine ⟨e0.frames,e0.mod,fun b o hb=>⟨(e0.bs b o hb).1,?_⟩,e0.bsz,e0.funs,fun b hb => ?_,trk_hok e0.hok ok,e0.bare⟩
  ·rw [Qx0 fun z => ?_]
   ·exact (e0.bs b o hb).2
   ·obtain ⟨q,hq,e2⟩:=Qzz z
    have hge:=(gd q hq).ge
    rw [e2] at hge
    exact absurd (Nat.lt_of_lt_of_le (Heap.lt_size hb) (Nat.le_trans I.ok.bsz hge)) (Nat.lt_irrefl _)
  ·rw [Qx0 fun z => ?_]
   ·exact e0.frf b hb
   ·obtain ⟨q,hq,e2⟩:=Qzz z
    exact nf q hq (by rw [e2];exact hb)
 have dc:∀ q∈cs,q.o.data=.cell (some q.u):=fun q hq=>(ok q hq).dat
 refine (codeAny_mono (F p.X.A p.X.stack s (trk H cs) us vs (fun v H'=>∃ w' κ' val,sem args κ=.ok (val,κ')∧Ext w (trk H cs) w' H'∧WF p.g w' κ' H'∧RV p.g w'.I w'.μ H' val v)
  (fun cls dd H'=>∃ w' κ' c,DOk p.g c dd H'∧sem args κ=.exc c .non κ'∧cls=.ref (p.clA c)∧Ext w (trk H cs) w' H'∧WF p.g w' κ' H') w args κ hr e0' rv wf1 ra' ?_) fun r s' hq => ?_)
 ·cases e:sem args κ with
  | ok q=>exact fun x w' H' e2 wf2 r2=>⟨w',q.2,q.1,rfl,e2,wf2,r2⟩
  | exc c v κ'=>
   rw [e] at po
   cases v with
   | non=>exact fun w' H' e2 wf2 dd hd=>⟨w',κ',c,hd,rfl,rfl,e2,wf2⟩
   | _=>exact po.elim
  | bad=>rw [e] at po;exact po.elim
 ·cases r with
  | error e=>
   obtain ⟨a',B,H',cls,dd,rfl,fl,hok,ub,na,os,ag,w',κ',c,hdd,es,rfl,e2,wf2⟩:=hq
   have st:=still_of ok wf e2
   have hok':=untrk_hok hok st
   rw [es] at po
   have:=po w' (Qzb H' cs) (untrk_ext ok wf hok e2 st) (untrk_wf hok wf2 st dc).1 dd (dok_untrk hok st hdd)
   exact tk _ _ (L2N.XE.of_call (E:=fun c d H'=>p.W c d σ H') I (fun _ _ _ z=>z) ⟨a',B,Qzb H' cs,_,dd,rfl,fl,hok',untrk_ub ok nf hok st ub,untrk_none na,os,ag,this⟩)
  | ok fl=>
   cases fl with
   | ret u=>
    obtain ⟨v,H',os,bare,un,hok,r,w',κ',val,es,e2,wf2,r2⟩:=hq
    have st:=still_of ok wf e2
    rw [es] at po
    have uw:=untrk_wf hok wf2 st dc
    exact I.after ⟨v,Qzb H' cs,os,bare,untrk_un ok nf hok st un,untrk_hok hok st,r,po v w' _ (untrk_ext ok wf hok e2 st) uw.1 (r2.keeps uw.2)⟩
   | next=>exact False.elim hq
   | brk=>exact False.elim hq
   | cont=>exact False.elim hq
theorem run_S {d:Nat}{a:Addr}{sem:List Ar→Ks→R (Val × Ks)}(F:FnS p.X.prog p.X.w p.g p.clA p.X.mg p.X.base d a sem)(hK:p.X.K=p.g.K)(hr:RoomP d p.X.A)(tk:L2N.Takes p.X p.W)
  {pins:List (Addr × Obj)} {σ:L2.St} {H:Hp} {s:Shared} {us:List Value} {vs:List V} {Q:VK} {w:Wd} {ρ:Rho} {κ:Ks} {args:List Ar} (I:Inv p.X pins σ H s) (rv:Vals vs us) (re:RE p.g p.X p.b w H ρ σ) (wf:WF p.g w κ H) (ra:ROs p.g p.X ρ w H args vs)
  (po:Post p.g p.clA (rV p.g) w H (sem args κ) Q (fun c d H'=>p.W c d σ H')):wpAny (model p.X.prog p.X.w) p.X.A (call (.ref a) us) (EP p.X pins σ Q) p.X.xe s:=wpAny_call (run_SC F hK hr tk I rv re wf ra po)
end
end PL
end
section
namespace PL
open PySem PySem.Spec PyProof.Rows L2 LamX NdefX
section
variable {p:Pl}
abbrev SA (p:Pl)(es:List Expr)(m:Rho→Ks→R (List Ar × Ks)):Prop:=PA p.X es (tA p m)
theorem SA_nil:SA p [] (fun _ κ=>.ok ([],κ)):=pa_nil.imp fun σ H Q ⟨w,ρ,κ,re,wf,po⟩=>po [] w H (Ext.refl w H) wf .nil
variable {e:Expr}{es:List Expr}{m:Rho→Ks→R (Val × Ks)}{n:Rho→Ks→R (List Ar × Ks)}{pos np:Pos}
theorem SA_val (he:SE p e m)(ht:SA p es n)(hs:starEach (e::es) p.X.env=(false,eval e p.X.env)::starEach es p.X.env) :
  SA p (e::es) (fun ρ κ=>(m ρ κ).bind fun q=>(n ρ q.2).bind fun r=>.ok (.v q.1::r.1,r.2)):=
 (pa_cons he ht hs).imp fun σ H Q ⟨w,ρ,κ,re,wf,po⟩=>⟨w,ρ,κ,re,wf,Post.bind po fun w1 H1 a κ1 x wf1 e1 ra po1=>
  ⟨w1,ρ,κ1,re.ext e1 wf,wf1,Post.bind po1 fun w2 H2 l κ2 xs wf2 e2 rl po2=>po2 (x::xs) w2 H2 (Ext.refl w2 H2) wf2 (.cons (.v (ra.ext e2 wf1)) rl)⟩⟩
def tX (p:Pl)(f:Rho→Option Ar):TE:=fun σ H Q=>∃ w ρ κ a,RE p.g p.X p.b w H ρ σ∧WF p.g w κ H∧f ρ=some a∧∀ x w' H',Ext w H w' H'→WF p.g w' κ H'→RO1 p.g p.X ρ w' H' a x→Q x H'
abbrev SX (p:Pl)(e:Expr)(f:Rho→Option Ar):Prop:=PE p.X e (tX p f)
theorem SA_x {f:Rho→Option Ar}(he:SX p e f)(ht:SA p es n)(hs:starEach (e::es) p.X.env=(false,eval e p.X.env)::starEach es p.X.env) :
  SA p (e::es) (fun ρ κ=>(R.ofO (f ρ)).bind fun a=>(n ρ κ).bind fun r=>.ok (a::r.1,r.2)):=
 (pa_cons he ht hs).imp fun σ H Q ⟨w,ρ,κ,re,wf,po⟩=>by
  have po:Post p.g p.clA (ROs p.g p.X ρ) w H ((R.ofO (f ρ)).bind fun a=>(n ρ κ).bind fun r=>.ok (a::r.1,r.2)) Q (fun c d H'=>p.W c d σ H'):=po
  cases ef:f ρ with
  | none=>rw [ef] at po;exact po.elim
  | some a=>
   rw [ef] at po
   refine ⟨w,ρ,κ,a,re,wf,ef,fun x w1 H1 e1 wf1 ra=>⟨w1,ρ,κ,re.ext e1 wf,wf1,?_⟩⟩
   have po:Post p.g p.clA (ROs p.g p.X ρ) w H ((n ρ κ).bind fun r=>.ok (a::r.1,r.2)) Q (fun c d H'=>p.W c d σ H'):=po
   have po1:Post p.g p.clA (ROs p.g p.X ρ) w1 H1 ((n ρ κ).bind fun r=>.ok (a::r.1,r.2)) Q (fun c d H'=>p.W c d σ H'):=by
    generalize (n ρ κ).bind (fun r=>R.ok (a::r.1,r.2))=z at po ⊢
    cases z with
    | ok q=>exact fun y w2 H2 e2=>po y w2 H2 (e1.trans e2)
    | exc c v κ'=>
     cases v with
     | non=>exact fun w2 H2 e2=>po w2 H2 (e1.trans e2)
     | _=>exact po
    | bad=>exact po
   exact Post.bind po1 fun w2 H2 l κ2 xs wf2 e2 rl po2=>po2 (x::xs) w2 H2 (Ext.refl w2 H2) wf2 (.cons (ra.ext e2 wf1) rl)
theorem SX_ext {i:Nat}{x:Str}(hN:p.X.N[i]? = some x)(hv:Vis p.X.env.scope x)(hd:(x == ("__debug__" : Str))=false)(hcd:(x == ("__classdict__" : Str))=false):SX p (.Name x pos) (fun ρ=>(rdX ρ i).map .x):=
 (pe_var hN hv hd hcd).imp fun σ H Q ⟨w,ρ,κ,a,re,wf,ef,k⟩=>by
  obtain ⟨y,h1,h2⟩:=Option.map_eq_some_iff.mp ef
  subst h2
  obtain ⟨z,hz,rz⟩:=re.rdX h1
  exact ⟨z,hz,k z w H (Ext.refl w H) wf (.x rz)⟩
theorem SE_call {d:Nat}{a:Addr}{x:Str}{sem:List Ar→Ks→R (Val × Ks)}(F:FnS p.X.prog p.X.w p.g p.clA p.X.mg p.X.base d a sem)(hK:p.X.K=p.g.K)(hr:RoomP d p.X.A)(tk:L2N.Takes p.X p.W)(hg:Gl p.X x)(hm:p.X.mg x=some (.ref a))(hk:PySem.W.keepIn p.X.K (.ref a)=true)
  (ha:SA p (e::es) n) (hdb:(x == ("__debug__" : Str))=false) (he:starEach (e::es) p.X.env=(false,eval e p.X.env)::starEach es p.X.env) (hpl:(backTo pos (starEach es p.X.env)).any (·.1)=false) :
  SE p (.Call (.Name x np) (e::es) [] pos) (fun ρ κ=>(n ρ κ).bind fun q=>sem q.1 q.2):=by
 refine ⟨fun pins s σ H Q I ⟨w,ρ,κ,re,wf,po⟩=>wpAny_Call_Name_kw (ld_glob I hg hm ?_ hdb)⟩
 refine PySem.W.callWith_K (h₀:=p.X.base) I.ok.mod.kin hk (thn (ha.run pos pins s σ H (fun vs H1=>∃ w1 κ1 args,RE p.g p.X p.b w1 H1 ρ σ∧WF p.g w1 κ1 H1∧ROs p.g p.X ρ w1 H1 args vs∧Post p.g p.clA (rV p.g) w1 H1 (sem args κ1) Q (fun c d H'=>p.W c d σ H')) I
  ⟨w,ρ,κ,re,wf,Post.bind po fun w1 H1 l κ1 xs wf1 e1 rl po1=>⟨w1,κ1,l,re.ext e1 wf,wf1,rl,po1⟩⟩) fun us s1 ⟨vs,H1,I1,r,w1,κ1,args,re1,wf1,rl,po1⟩=>⟨I1.kIn,?_⟩) he hpl
 exact run_S F hK hr tk I1 r re1 wf1 rl po1
theorem SE_call0 {d:Nat}{a:Addr}{x:Str}{sem:List Ar→Ks→R (Val × Ks)}(F:FnS p.X.prog p.X.w p.g p.clA p.X.mg p.X.base d a sem)(hK:p.X.K=p.g.K)(hr:RoomP d p.X.A)(tk:L2N.Takes p.X p.W)(hg:Gl p.X x)(hm:p.X.mg x=some (.ref a))(hk:PySem.W.keepIn p.X.K (.ref a)=true)
  (hdb:(x == ("__debug__" : Str))=false):SE p (.Call (.Name x np) [] [] pos) (fun ρ κ=>(R.ok ([],κ)).bind fun q=>sem q.1 q.2):=by
 refine ⟨fun pins s σ H Q I ⟨w,ρ,κ,re,wf,po⟩=>wpAny_Call_Name_kw (ld_glob I hg hm ?_ hdb)⟩
 exact PySem.W.callWith_K0 I.kIn hk (run_S (us:=[]) F hK hr tk I .nil re wf .nil po)
theorem SE_callv {d:Nat}{x:Str}{i:Nat}{sem:Nat→List Val→Ks→R (Val × Ks)}(F:∀ k,LmS p.X.prog p.X.w p.g p.clA p.X.mg p.X.base d k (sem k))(hK:p.X.K=p.g.K)(hr:RoomP d p.X.A)(tk:L2N.Takes p.X p.W)(hN:p.X.N[i]? = some x)(hv:Vis p.X.env.scope x)
  (hd:(x == ("__debug__" : Str))=false) (hcd:(x == ("__classdict__" : Str))=false) :
  SE p (.Call (.Name x np) [] [] pos) (fun ρ κ=>match rdX ρ i with
   | some (.one k caps)=>sem k caps κ
   | _=>.bad):=by
 refine ⟨fun pins s σ H Q I ⟨w,ρ,κ,re,wf,po⟩ => ?_⟩
 have po:Post p.g p.clA (rV p.g) w H (match rdX ρ i with
  | some (.one k caps)=>sem k caps κ
  | _=>.bad) Q (fun c d H'=>p.W c d σ H'):=po
 split at po
 ·rename_i k caps ex
  obtain ⟨z,hz,rz⟩:=re.rdX ex
  cases rz with
  | one rx=>
   have h0:=rx
   cases rx with
   | @mk f c' L cl ws cs hL o oc fr cc all inj vs r=>
    refine wpAny_Call_Name_kw (thn ((pe_var (pos:=np) hN hv hd hcd).run pins s σ H (fun v H1=>v=.ref f∧H1=H) I ⟨_,hz,rfl,rfl⟩) fun u s1 ⟨v,H1,I1,r1,ev,eH⟩ => ?_)
    subst ev
    subst eH
    obtain rfl:u=Value.ref f:=r1
    obtain ⟨pm,ctv,fo⟩:∃ pm ctv:Value,s1.heap.get? f=some (PySem.W.kla_obj "<lambda>" L.qual L.params L.body L.scope cl pm c' ctv):=(I1.hok f _ o).1
    refine PySem.W.callWith_F0 (first:=[]) ⟨_,_,_,_,fo⟩ ?_
    have e0:=I1.env0
    rw [hK] at e0
    refine wpAny_call (codeAny_mono (F k p.X.A p.X.stack s1 H1 f Q (fun c d H'=>p.W c d σ H') w caps κ hr e0 wf h0 po) fun r s' hq => ?_)
    cases r with
    | error e=>exact tk _ _ (L2N.XE.of_call (E:=fun c d H'=>p.W c d σ H') I1 (fun _ _ _ z=>z) hq)
    | ok fl=>
     cases fl with
     | ret u=>exact I1.after hq
     | next=>exact False.elim hq
     | brk=>exact False.elim hq
     | cont=>exact False.elim hq
 ·exact po.elim
end
section
variable {P:Program}{W:World}{H H':Hp}{h h' B:Heap}{fs:List Addr}{cs:List Cap}{g:Gx}{w w':Wd}{κ κ':Ks}
theorem re_ok (x:HOk P W H h)(st:Still H cs)(dc:∀ q∈cs,q.o.data=.cell (some q.u))(nf:∀ q∈cs,q.c ∉ fs)(u:Un fs [] (Qzb H cs) H' h h'):∀ q∈cs,CapOk H' h' q:=fun q hq=>by
 have g1:=(x q.c _ (st q hq)).1
 have n:Qzb H cs q.c=none:=by
  unfold Qzb
  rw [if_pos (show q.c∈Qx1 cs from List.mem_map.mpr ⟨q,hq,rfl⟩)]
 exact ⟨u.free q.c _ g1 n (by simp),u.keep q.c _ g1 n (nf q hq) (by simp),dc q hq⟩
theorem re_okB (x:HOk P W H h)(st:Still H cs)(dc:∀ q∈cs,q.o.data=.cell (some q.u))(nf:∀ q∈cs,q.c ∉ fs)(u:UB fs (Qzb H cs) H' h B h'):∀ q∈cs,CapOk H' B q:=fun q hq=>by
 have g1:=(x q.c _ (st q hq)).1
 have n:Qzb H cs q.c=none:=by
  unfold Qzb
  rw [if_pos (show q.c∈Qx1 cs from List.mem_map.mpr ⟨q,hq,rfl⟩)]
 exact ⟨u.free q.c _ g1 n,u.keep q.c _ g1 n (nf q hq),dc q hq⟩
theorem untrk_ne (x:HOk P W H h)(st:Still H cs){b:Addr}{o:HO}(e:H b=some o)(n:∀ φ,o ≠ .ext φ):Qzb H cs b=some o∧b ∉ Qx1 cs:=by
 have z:=untrk_some x st e fun _ _ _=>objX_ne n
 exact ⟨z,(untrk_in z).2⟩
theorem notcell (st:Still H cs){b:Addr}(e:H b=none):b ∉ Qx1 cs:=fun z=>by
 obtain ⟨q,hq,e2⟩:=Qzz z
 have:=st q hq
 rw [e2,e] at this
 cases this
theorem re_un (x:HOk P W H h)(st:Still H cs)(u:Un fs [] (Qzb H cs) H' h h'):Un fs [] H (trk H' cs) h h' where
 keep:=fun b o hg hn hf hx=>u.keep b o hg (untrk_none hn) hf hx
 slot:=fun b o hg hn hf hx=>u.slot b o hg (untrk_none hn) hf hx
 free:=fun b o hg hn hx=>by
  rw [Qx0 (notcell st hn)]
  exact u.free b o hg (untrk_none hn) hx
 there:=u.there
 tups:=fun b xs e=>by
  obtain ⟨z,n⟩:=untrk_ne x st e (by intro _ z;cases z)
  rw [Qx0 n];exact u.tups b xs z
 frzs:=fun b o xs e=>by
  obtain ⟨z,n⟩:=untrk_ne x st e (by intro _ z;cases z)
  rw [Qx0 n];exact u.frzs b o xs z
 tbls:=fun b ps e=>by
  obtain ⟨z,n⟩:=untrk_ne x st e (by intro _ z;cases z)
  rw [Qx0 n];exact u.tbls b ps z
theorem re_ub (x:HOk P W H h)(st:Still H cs)(u:UB fs (Qzb H cs) H' h B h'):UB fs H (trk H' cs) h B h' where
 keep:=fun b o hg hn hf=>u.keep b o hg (untrk_none hn) hf
 slot:=u.slot
 free:=fun b o hg hn=>by
  rw [Qx0 (notcell st hn)]
  exact u.free b o hg (untrk_none hn)
 there:=u.there
 tups:=fun b xs e=>by
  obtain ⟨z,n⟩:=untrk_ne x st e (by intro _ z;cases z)
  rw [Qx0 n];exact u.tups b xs z
 frzs:=fun b o xs e=>by
  obtain ⟨z,n⟩:=untrk_ne x st e (by intro _ z;cases z)
  rw [Qx0 n];exact u.frzs b o xs z
 tbls:=fun b ps e=>by
  obtain ⟨z,n⟩:=untrk_ne x st e (by intro _ z;cases z)
  rw [Qx0 n];exact u.tbls b ps z
theorem re_ext (st:Still H cs)(ok:∀ q∈cs,CapOk H' h' q)(wf':WF g w' κ' H')(e:Ext w (Qzb H cs) w' H'):Ext w H w' (trk H' cs):=by
 have out:∀ {b},H' b≠none→b ∉ Qx1 cs:=fun {b} n z=>by
  obtain ⟨q,hq,e2⟩:=Qzz z
  have:=(ok q hq).free
  rw [e2] at this
  exact n this
 have back:∀ {b},b ∉ Qx1 cs→Qzb H cs b=none→H b=none:=fun {b} n z=>by
  unfold Qzb at z
  rw [if_neg n] at z
  exact z
 refine ⟨e.I,fun a z=>(e.new a z).elim .inl fun n=>.inr (back (out ?_) n),?_,fun a o q nm nt => ?_,fun a q => ?_⟩
 ·obtain ⟨xs,r⟩:=wf'.dom a z
  rw [r];intro z;cases z
 ·obtain ⟨t,e1,e2⟩:=e.mu
  refine ⟨t,e1,fun a ha=>back (out ?_) (e2 a ha)⟩
  obtain ⟨o,r⟩:=wf'.mu_some (a:=a) (by rw [e1];exact List.mem_append_right _ ha)
  rw [r];intro z;cases z
 ·by_cases hc:a∈Qx1 cs
  ·obtain ⟨c,hcs,e2⟩:=Qzz hc
   have h1:=st c hcs
   have h2:=trk_in ok c hcs
   rw [e2,q] at h1
   rw [← e2] at *
   rw [h2,h1]
  ·refine (Qx5 ok (e.fr a o ?_ nm nt)).2
   unfold Qzb
   rw [if_neg hc]
   exact q
 ·obtain ⟨n,hc⟩:=trk_none ok q
  exact back hc (e.dm a n)
end
end PL
end
section
namespace PL
open PySem PySem.Spec PyProof.Rows L2 LamX NdefX
def lnf (L:LamI)(cl:List (Str × Addr))(c':Addr):NF:=⟨"<lambda>", L.qual,L.params,[],L.scope,cl,c'⟩
def lamPl (g:Gx)(clA:Nat→Addr)(P:Program)(W:World)(mg:Str→Option Value)(base:Heap)(L:LamI)(cl:List (Str × Addr))(c' f:Addr)(A:Around)(outer:List Env)(s:Shared)(H:Hp)(E:XK):Pl:=
 ⟨g,clA,ncx (L2N.CX P W) P W g.K mg base L.fr (lnf L cl c') f A outer s H E,fun c d _ H'=>E c d H',false⟩
theorem capsE (caps:List Val)(i:Nat):(caps.map fun v=>some (Slot.val v))[i]? = caps[i]?.map fun v=>some (Slot.val v):=List.getElem?_map ..
theorem lmS_of {P:Program}{W:World}{g:Gx}{clA:Nat→Addr}{mg:Str→Option Value}{base:Heap}{d k:Nat}{sem:List Val→Ks→R (Val × Ks)}{m:Rho→Ks→R (Val × Ks)}{L:LamI}(hL:g.lamI k=some L)(S:NScope L.fr [] L.fr L.scope)
  (hb:∀ (cl:List (Str × Addr)) (pm cv ctv:Value),bindArgs (PySem.W.kla_fn "<lambda>" L.qual L.params L.body L.scope cl pm cv ctv) ⟨[],[]⟩=pure [])
  (hbody:∀ cl c' f A outer s H E,RoomP d (A.deeper (envF (lnf L cl c') f s.heap.objs.size))→SE (lamPl g clA P W mg base L cl c' f A outer s H E) L.body m)
  (hs:∀ caps κ,sem caps κ=m (caps.map fun v=>some (.val v)) κ):LmS P W g clA mg base (d+1) k sem:=by
 intro A outer s H f Q E w caps κ hr e0 wf rx po
 cases rx with
 | @mk _ c' L2 cl ws cs hL2 o oc fr cc all inj vs r=>
  rw [hL] at hL2
  cases hL2
  have st:Still H cs:=fun q hq=>(cc q hq).2.1
  have dc:∀ q∈cs,q.o.data=.cell (some q.u):=fun q hq=>(cc q hq).2.2
  have hget:∀ q∈cs,s.heap.get? q.c=some q.o:=fun q hq=>(e0.hok q.c _ (st q hq)).1
  have nf:∀ q∈cs,q.c ∉ frs outer:=fun q hq z=>by
   have z1:=e0.frf _ z
   rw [st q hq] at z1;cases z1
  have unn:∀ q∈cs,Qzb H cs q.c=none:=fun q hq=>by
   unfold Qzb
   rw [if_pos (show q.c∈Qx1 cs from List.mem_map.mpr ⟨q,hq,rfl⟩)]
  obtain ⟨pm,ctv,fo⟩:∃ pm ctv:Value,s.heap.get? f=some (PySem.W.kla_obj "<lambda>" L.qual L.params L.body L.scope cl pm c' ctv):=(e0.hok f _ o).1
  have e1:Env0 P W g.K mg base A outer s (Qzb H cs):=⟨e0.frames,e0.mod,fun b ob hb=>⟨(e0.bs b ob hb).1,untrk_none (e0.bs b ob hb).2⟩,e0.bsz,e0.funs,fun b hb=>untrk_none (e0.frf b hb),untrk_hok e0.hok st,e0.bare⟩
  have C:CellsAt cl L.fr (ws.map some) s.heap (Qzb H cs):=by
   have hl:ws.length=L.fr.length:=by rw [vs.length,← fr,List.length_map,List.length_map]
   refine ⟨by rw [List.length_map];exact hl,fun y c e => ?_,inj,fun i y e => ?_⟩
   ·have hy:=all y c e
    rw [← fr] at hy
    obtain ⟨q,hq,ey⟩:=List.mem_map.mp hy
    have:=(cc q hq).1
    rw [ey,e] at this
    cases this
    exact ⟨unn q hq,some q.u,_,hget q hq,dc q hq⟩
   ·rw [← fr,List.getElem?_map] at e
    cases eq:cs[i]? with
    | none=>rw [eq] at e;cases e
    | some q=>
     rw [eq] at e
     cases e
     have hq:=List.mem_of_getElem? eq
     refine ⟨q.c,(cc q hq).1,fun v ev => ?_⟩
     rw [List.getElem?_map] at ev
     cases ew:ws[i]? with
     | none=>rw [ew] at ev;cases ev
     | some v'=>
      rw [ew] at ev
      cases ev
      obtain ⟨u,hu,rv⟩:=vs.get ew
      rw [List.getElem?_map,eq] at hu
      cases hu
      exact ⟨_,rv,_,hget q hq,dc q hq⟩
  have lim:s.heap.NoLimit:=e0.mod.nolimit.keeps fun b ob e=>(e0.bs b ob e).1
  refine PySem.W.kla_callFunE hr.depth fo rfl S.co S.gen rfl (codeO_at e0.hok oc) ?_
  rw [hb]
  refine wpAny_pure (wpAny_newFunctionEnv S.nocell (fun y hy=>absurd hy (by simp)) (fun h₁ hns hsb=>⟨lim.fresh _ hsb,?_⟩) S.kind)
  show codeAny _ _ (.expr L.body (envF (lnf L cl c') f s.heap.objs.size)) _ _
  have kp:∀ b ob,s.heap.get? b=some ob→h₁.get? b=some ob:=fun b ob e=>hsb.extBut b ob (Nat.ne_of_lt (Heap.lt_size e)) (Heap.get?_push_of_some _ e)
  obtain ⟨uw,uk⟩:=untrk_wf e0.hok wf st dc
  have un0:Post g clA (rV g) w (Qzb H cs) (m (caps.map fun v=>some (.val v)) κ)
    (fun v H'=>∃ w' κ' val,m (caps.map fun v=>some (.val v)) κ=.ok (val,κ')∧Ext w (Qzb H cs) w' H'∧WF g w' κ' H'∧RV g w'.I w'.μ H' val v)
    (fun cls dd H'=>∃ w' κ' c,m (caps.map fun v=>some (.val v)) κ=.exc c .non κ'∧cls=.ref (clA c)∧DOk g c dd H'∧Ext w (Qzb H cs) w' H'∧WF g w' κ' H'):=by
   rw [hs] at po
   generalize hm:m (caps.map fun v=>some (.val v)) κ=z at po ⊢
   cases z with
   | ok q=>exact fun x w' H' e2 wf2 r2=>⟨w',q.2,q.1,rfl,e2,wf2,r2⟩
   | exc c v κ'=>
    cases v with
    | non=>exact fun w' H' e2 wf2 d hd=>⟨w',κ',c,rfl,rfl,hd,e2,wf2⟩
    | _=>exact po.elim
   | bad=>exact po.elim
  have J:=inv_startN (CX:=L2N.CX P W) (N:=L.fr) (F:=lnf L cl c') (f:=f) (us:=[]) (vs:=[]) (tk:=s.toks+([]:List (Str × Value)).length)
   (E:=fun cls dd H'=>∃ w' κ' c,m (caps.map fun v=>some (.val v)) κ=.exc c .non κ'∧cls=.ref (clA c)∧DOk g c dd H'∧Ext w (Qzb H cs) w' H'∧WF g w' κ' H') S hr.hd e1 rfl .nil C hns kp
  have hlen:ws.length=L.fr.length:=by rw [vs.length,← fr,List.length_map,List.length_map]
  have sg:∀ i:Nat,(startF L.fr [] (ws.map some))[i]? = ws[i]?.map some:=fun i=>by
   show ([]++(ws.map some++List.replicate (L.fr.length-0-(ws.map some).length) none))[i]? = _
   rw [List.nil_append,List.length_map,hlen,Nat.sub_zero,Nat.sub_self,List.replicate_zero,List.append_nil,List.getElem?_map]
  have B:=(hbody cl c' f A outer s (Qzb H cs) (fun cls dd H'=>∃ w' κ' c,m (caps.map fun v=>some (.val v)) κ=.exc c .non κ'∧cls=.ref (clA c)∧DOk g c dd H'∧Ext w (Qzb H cs) w' H'∧WF g w' κ' H') (hr.deeper _)).run [] _ _ (Qzb H cs) _ J
   ⟨w,caps.map fun v=>some (.val v),κ,⟨?_,fun i sl e => ?_,fun i j l m' a e => ?_⟩,uw,un0⟩
  ·refine PySem.W.kla_codeExpr (wpAny_mono B (fun v s' hq => ?_) fun e s' hq=>wpAny_mono hq (fun _ s'' z => ?_) fun e' s'' z => ?_)
   ·obtain ⟨x,H',J',rv,w',κ',val,em,e2,wf2,r2⟩:=hq
    rw [hs,em] at po
    have ok:=re_ok e0.hok st dc nf J'.base
    obtain ⟨e3,wf3⟩:=trk_ext wf2 ok
    exact ⟨x,trk H' cs,J'.os,J'.bare,re_un e0.hok st J'.base,trk_hok J'.hok ok,rv,po x w' _ (re_ext st ok wf2 e2) wf3 (r2.ext e3 wf2)⟩
   ·obtain ⟨a,B,H',cls,dd,rfl,fl,hok,ub,na,os,ag,w',κ',c,em,rfl,hdd,e2,wf2⟩:=z
    rw [hs,em] at po
    have ok:=re_okB e0.hok st dc nf ub
    obtain ⟨e3,wf3⟩:=trk_ext wf2 ok
    refine ⟨a,B,trk H' cs,_,dd,rfl,fl,trk_hok hok ok,re_ub e0.hok st ub,?_,os,ag,po w' _ (re_ext st ok wf2 e2) wf3 dd (dok_ext e3 wf2 hdd)⟩
    rw [Qx0 fun z=>by
     obtain ⟨q,hq,e2⟩:=Qzz z
     have:=(ok q hq).get
     rw [e2,fl.2.1] at this
     cases this]
    exact na
   ·obtain ⟨a,B,H',cls,dd,rfl,fl,hok,ub,na,os,ag,w',κ',c,em,rfl,hdd,e2,wf2⟩:=z
    rw [hs,em] at po
    have ok:=re_okB e0.hok st dc nf ub
    obtain ⟨e3,wf3⟩:=trk_ext wf2 ok
    refine ⟨a,B,trk H' cs,_,dd,rfl,fl,trk_hok hok ok,re_ub e0.hok st ub,?_,os,ag,po w' _ (re_ext st ok wf2 e2) wf3 dd (dok_ext e3 wf2 hdd)⟩
    rw [Qx0 fun z=>by
     obtain ⟨q,hq,e2⟩:=Qzz z
     have:=(ok q hq).get
     rw [e2,fl.2.1] at this
     cases this]
    exact na
  ·show _=(startF L.fr [] (ws.map some)).length
   unfold startF
   simp [hlen,r.length]
  ·rw [capsE] at e
   cases ec:caps[i]? with
   | none=>rw [ec] at e;cases e
   | some v=>
    rw [ec] at e
    cases e
    obtain ⟨x,hx,rx⟩:=r.get ec
    refine ⟨x,?_,rx.keeps uk⟩
    show (startF L.fr [] (ws.map some))[i]? = _
    rw [sg,hx];rfl
  ·rw [capsE] at e
   cases ec:caps[i]? with
   | none=>rw [ec] at e;cases e
   | some v=>rw [ec] at e;cases e
section
variable {X:Cx}{pins:List (Addr × Obj)}{σ:L2.St}{H:Hp}{s:Shared}
theorem lam_known {L:LamI}{cl:List (Str × Addr)}{c':Addr}{h':Heap}{pm ctv:Value}{tk:Nat}{s0:Shared}(I:Inv X pins σ H { s0 with heap:=h' }) :
  Inv X pins σ (upd H h'.objs.size (LamO h'.objs.size L cl c')) { s0 with heap:=h'.push (PySem.W.kla_obj "<lambda>" L.qual L.params L.body L.scope cl pm c' ctv),toks:=tk }:=by
 refine I.laid (a:=h'.objs.size) (fun b u e=>Heap.get?_push_of_some _ e) (Nat.le_refl _) ?_
 have at_:(h'.push (PySem.W.kla_obj "<lambda>" L.qual L.params L.body L.scope cl pm c' ctv)).get? h'.objs.size=some (PySem.W.kla_obj "<lambda>" L.qual L.params L.body L.scope cl pm c' ctv):=Heap.get?_push_size _ rfl
 exact ⟨⟨pm,ctv,at_⟩,⟨_,at_⟩,fun h1 h2 ⟨pm1,ct1,z⟩ st=>⟨pm1,ct1,st _ z⟩⟩
theorem lam_mk {T:List NTab}{nm:Nat→Nat→Str}{c P:Addr}{L:LamI}{pos:Pos}{E Q:Value→Shared→Prop}(I:Inv X pins σ H s)(TB:TabB X.base X.mg c P)(hcode:X.env.code=.ref c)(hm:(P,nm)∈T)(hq:X.env.qual ++ "<lambda>" = L.qual)(hn:nm pos.line pos.col=L.qual)
  (hu:∀ t∈T,t.1=P→t.2=nm) (hT:TabsN T H) (hdef:defaultsOf L.params X.env=([],[])) (hfree:∀ y∈L.scope.names,y.2=.free→∃ c,X.env.cells.lookup y.1=some c)
  (fin:∀ (f c':Addr) (H1:Hp) (s':Shared),Inv X pins σ H1 s'→ExtN H H1→(∀ b,H1 b=none→H b=none)→TabsN T H1→H1 f=some (LamO f L (cloFrom X.env.cells L.scope.names []) c')→H1 c'=some (CodeO c' L.qual)→Q (.ref f) s') :
  wpAny (model X.prog X.w) X.A (eval (.Lambda L.params L.body L.scope pos) X.env) Q E s:=by
 obtain ⟨tb,tP,tok,tall⟩:=(show TabN H P nm from hT _ hm)
 refine PySem.W.kla_eval hdef ?_
 rw [hq]
 have hb:=TB.bm.keeps I.bk
 have hP:s.heap.get? P=some { cls:=.none,data:=.fields tb }:=I.hok P _ tP
 have glob:s.heap.Ns mainGlobals X.mg:=I.mod.glob.keeps I.bk
 have chd:=TB.code.keeps I.bk
 cases hc:codeAmong pos tb.toList with
 | some cv=>
  obtain ⟨c',ec,kc⟩:=tall pos cv hc
  subst ec
  rw [hn] at kc
  refine PySem.W.kla_makeFunctionHit (mg:=X.mg) (c:=c) (P:=P) (ps:=tb) (closure_ok hfree) I.ok.glob glob hcode chd hP tok hc hb fun ctv h' tk kp sz => ?_
  have I1:Inv X pins σ H { s with heap:=h',toks:=tk }:=I.kept kp
  have fr:=I1.hok.fresh (Nat.le_refl _)
  have I2:=lam_known (L:=L) (cl:=cloFrom X.env.cells L.scope.names []) (c':=c') (pm:=(X.mg "__name__").getD .none) (ctv:=ctv) (tk:=tk) (s0:={ s with toks:=tk }) I1
  have up:∀ {b o},H b=some o→upd H h'.objs.size (LamO h'.objs.size L (cloFrom X.env.cells L.scope.names []) c') b=some o:=fun {b o} e=>(upd_ne (ne_of_none e fr)).trans e
  exact fin h'.objs.size c' _ _ I2 (fun b o e _=>up e) (fun b e=>upd_none e) (hT.ext fun b o e=>up e) upd_same (up kc)
 | none=>
  refine PySem.W.kla_makeFunction (mg:=X.mg) (c:=c) (P:=P) (ps:=tb) (closure_ok hfree) I.ok.glob glob hcode chd hP tok hc TB.gP hb fun c' ctv h' tk kp ge lt rec_ tab' => ?_
  obtain ⟨c2,oc,vs,t,e2,co,cd,cq⟩:=rec_
  cases e2
  have nC:H c'=none:=I.hok.fresh ge
  have I1:=inv_table (t':=tk) (more := #[rawInt pos.line,rawInt pos.col,.ref c']) (h':=h') I tP (fun b o hb e=>kp b o hb e) tab' ge ⟨oc,vs,t,co,cd,cq⟩
  generalize hG:upd (upd H P (.tbl (tb ++ #[rawInt pos.line,rawInt pos.col,.ref c']))) c' (CodeO c' L.qual)=G at I1
  have gC:G c'=some (CodeO c' L.qual):=by rw [← hG];exact upd_same
  have gP:G P=some (.tbl (tb ++ #[rawInt pos.line,rawInt pos.col,.ref c'])):=by rw [← hG,upd_ne (ne_of_none tP nC),upd_same]
  have gE:∀ {b o},b≠P→H b=some o→G b=some o:=fun {b o} n e=>by rw [← hG,upd_ne (ne_of_none e nC),upd_ne n];exact e
  have eN:ExtN H G:=fun b o e nt=>gE (fun z=>nt tb (Option.some.inj (e.symm.trans (by rw [z];exact tP)))) e
  have eL:(tb ++ #[rawInt pos.line,rawInt pos.col,.ref c']).toList=tb.toList++[rawInt pos.line,rawInt pos.col,.ref c']:=by simp
  have T1:TabsN T G:=fun q hq=>by
   by_cases hb:q.1=P
   ·rw [hu q hq hb,hb]
    refine ⟨_,gP,by rw [eL];exact PySem.TriplesOk_snoc _ _ _ _ tok,fun p' cv e => ?_⟩
    rw [eL] at e
    rcases among_app2 _ tok e with z|⟨z,z1,z2⟩
    ·obtain ⟨c0,a1,a2⟩:=tall p' cv z
     exact ⟨c0,a1,eN _ _ a2 codeO_ne⟩
    ·exact ⟨c',z,by rw [← z1,← z2,hn];exact gC⟩
   ·obtain ⟨tb',a1,a2,a3⟩:=hT q hq
    refine ⟨tb',gE hb a1,a2,fun p' cv e => ?_⟩
    obtain ⟨c0,b1,b2⟩:=a3 p' cv e
    exact ⟨c0,b1,eN _ _ b2 codeO_ne⟩
  have fr:=I1.hok.fresh (Nat.le_refl _)
  have I2:=lam_known (L:=L) (cl:=cloFrom X.env.cells L.scope.names []) (c':=c') (pm:=(X.mg "__name__").getD .none) (ctv:=ctv) (tk:=tk) (s0:={ s with toks:=tk }) I1
  have up:∀ {b o},G b=some o→upd G h'.objs.size (LamO h'.objs.size L (cloFrom X.env.cells L.scope.names []) c') b=some o:=fun {b o} e=>(upd_ne (ne_of_none e fr)).trans e
  refine fin h'.objs.size c' _ _ I2 (fun b o e nt=>up (eN b o e nt)) (fun b e => ?_) (T1.ext fun b o e=>up e) upd_same (up gC)
  have z:=upd_none e
  rw [← hG] at z
  exact upd_none (upd_none z)
end
structure LamHere (p:Pl)(k:Nat)(js:List Nat)(e:Expr):Prop where
 run:∃ (L:LamI) (pos:Pos) (nm:Nat→Nat→Str) (c P:Addr),e=.Lambda L.params L.body L.scope pos∧p.g.lamI k=some L∧TabB p.X.base p.X.mg c P∧p.X.env.code=.ref c∧(P,nm)∈p.g.tabs∧p.X.env.qual ++ "<lambda>" = L.qual∧nm pos.line pos.col=L.qual ∧
  (∀ t∈p.g.tabs,t.1=P→t.2=nm)∧defaultsOf L.params p.X.env=([],[])∧(∀ y∈L.scope.names,y.2=.free→p.X.env.scope.names.lookup y.1=some .cell∨p.X.env.scope.names.lookup y.1=some .free) ∧
  (∀ y∈L.fr,(y,NameKind.free)∈L.scope.names)∧(∀ y∈L.scope.names,y.2=.free→y.1∈L.fr)∧js.map (fun j=>p.X.N[j]?)=L.fr.map some
section
variable {p:Pl}{e:Expr}{es:List Expr}
def tL (p:Pl)(l:List (Nat × List Nat)):TA:=fun σ H Q=>∃ w ρ κ,RE p.g p.X p.b w H ρ σ∧WF p.g w κ H∧∀ xs w' H',Ext w H w' H'→WF p.g w' κ H'→RLs p.g p.X H' l xs→Q xs H'
def tL1 (p:Pl)(k:Nat × List Nat):TE:=fun σ H Q=>∃ w ρ κ,RE p.g p.X p.b w H ρ σ∧WF p.g w κ H∧∀ x w' H',Ext w H w' H'→WF p.g w' κ H'→RL1 p.g p.X H' k x→Q x H'
theorem SL1_mk {k:Nat}{js:List Nat}(h:LamHere p k js e):PE p.X e (tL1 p (k,js)):=by
 obtain ⟨L,pos,nm,c,P,rfl,hL,TB,hcode,hm,hq,hn,hu,hdef,hfree,hfr,honly,hjs⟩:=h.run
 refine ⟨fun pins s σ H Q I ⟨w,ρ,κ,re,wf,po⟩ => ?_⟩
 have hf:∀ y∈L.scope.names,y.2=.free→∃ c,p.X.env.cells.lookup y.1=some c:=fun y hy e=>(hfree y hy e).elim (fun z=>I.ok.has _ (.inl z)) fun z=>I.ok.has _ (.inr z)
 refine lam_mk I TB hcode hm hq hn hu wf.tab hdef hf fun f c' H1 s' I1 eN nn T1 f1 c1 => ?_
 have e1:Ext w H w H1:=⟨fun _ z=>z,fun _ z=>.inl z,⟨[],by simp⟩,fun a o q _ nt=>eN a o q nt,nn⟩
 have wf1:WF p.g w κ H1:=e1.wf wf rfl (fun a z=>by
  obtain ⟨xs,q⟩:=wf.dom a z
  exact ⟨xs,eN _ _ q (by intro _ z;cases z)⟩) T1 (fun a _ o ho q=>eN _ _ q (by intro _ z;rw [z] at ho;cases ho)) wf.dis
 refine ⟨.ref f,H1,I1,rfl,po _ w H1 e1 wf1 (.mk hL f1 c1 (fun ok=>Caps.made ok hfree hfr hjs) fun y c z => ?_)⟩
 rcases cloFrom_mem (PySem.mem_of_lookup z) with hm|⟨h1,_⟩
 ·cases hm
 ·exact honly _ h1 rfl
theorem SL_nil:PA p.X [] (tL p []):=pa_nil.imp fun σ H Q ⟨w,ρ,κ,re,wf,po⟩=>po [] w H (Ext.refl w H) wf .nil
theorem SL_cons {q:Nat × List Nat}{l:List (Nat × List Nat)}(h:PE p.X e (tL1 p q))(t:PA p.X es (tL p l))(hs:starEach (e::es) p.X.env=(false,eval e p.X.env)::starEach es p.X.env):PA p.X (e::es) (tL p (q::l)):=
 (pa_cons h t hs).imp fun σ H Q ⟨w,ρ,κ,re,wf,po⟩=>⟨w,ρ,κ,re,wf,fun x w1 H1 e1 wf1 r1=>⟨w1,ρ,κ,re.ext e1 wf,wf1,fun xs w2 H2 e2 wf2 r2=>po (x::xs) w2 H2 (e1.trans e2) wf2 (.cons (r1.ext e2 wf1) r2)⟩⟩
def tC (p:Pl)(f:Rho→Option (List (Nat × List Nat))):TE:=fun σ H Q=>∃ w ρ κ l,RE p.g p.X p.b w H ρ σ∧WF p.g w κ H∧f ρ=some l∧∀ a xs w' H',Ext w H w' H'→WF p.g w' κ H'→w'.I a→H' a=some (.lst xs)→RLs p.g p.X H' l xs→Q (.ref a) H'
abbrev SC (p:Pl)(e:Expr)(f:Rho→Option (List (Nat × List Nat))):Prop:=PE p.X e (tC p f)
theorem rls_len {H:Hp}:∀ {l:List (Nat × List Nat)} {xs:List V},RLs p.g p.X H l xs→l.length=xs.length
 | _,_,.nil=>rfl
 | _,_,.cons _ t=>by simp [rls_len t]
variable {pos:Pos}
theorem SC_lams {l:List (Nat × List Nat)}(h:PA p.X es (tL p l))(hl:l.length≤LINE):SC p (.List es pos) (fun _=>some l):=
 (pe_lst h).imp fun σ H Q ⟨w,ρ,κ,l',re,wf,ef,po⟩=>by
  cases ef
  refine ⟨w,ρ,κ,re,wf,fun xs w1 H1 e1 wf1 r1=>⟨by rw [← rls_len r1,← Qx8];exact hl,fun q hq => ?_⟩⟩
  obtain ⟨e2,wf2⟩:=fix_new wf1 hq xs
  exact po q xs _ _ (e1.trans e2) wf2 (.inr rfl) upd_same (r1.ext e2 wf1)
theorem SC_var {i:Nat}{x:Str}(hb:p.b=false)(hN:p.X.N[i]? = some x)(hv:Vis p.X.env.scope x)(hd:(x == ("__debug__" : Str))=false)(hcd:(x == ("__classdict__" : Str))=false):SC p (.Name x pos) (fun ρ=>match ρ[i]? with
  | some (some (.cls l))=>some l
  | _=>none):=
 (pe_var hN hv hd hcd).imp fun σ H Q ⟨w,ρ,κ,l,re,wf,ef,po⟩=>by
  have ef:(match ρ[i]? with
   | some (some (.cls l))=>some l
   | _=>none)=some l:=ef
  split at ef
  ·cases ef
   rename_i er
   have:=re.at_ i _ er
   rcases this with z|⟨a,xs,h1,h2,h3,h4⟩
   ·rw [hb] at z;cases z
   ·exact ⟨_,h1,po a xs w H (Ext.refl w H) wf h2 h3 h4⟩
  ·cases ef
theorem SC_add {a b:Expr}{f f':Rho→Option (List (Nat × List Nat))}(ha:SC p a f)(hb:SC p b f'):SC p (.BinOp a .Add b pos) (fun ρ=>match f ρ,f' ρ with
  | some x,some y=>if x.length+y.length≤LINE then some (x++y) else none
  | _,_=>none):=
 (pe_op op_cat ha hb).imp fun σ H Q ⟨w,ρ,κ,l,re,wf,ef,po⟩=>by
  have ef:(match f ρ,f' ρ with
   | some x,some y=>if x.length+y.length≤LINE then some (x++y) else none
   | _,_=>none)=some l:=ef
  split at ef
  ·rename_i x y e1 e2
   split at ef
   ·rename_i hl
    cases ef
    refine ⟨w,ρ,κ,x,re,wf,e1,fun a xs w1 H1 ex1 wf1 i1 h1 r1=>⟨w1,ρ,κ,y,re.ext ex1 wf,wf1,e2,fun b ys w2 H2 ex2 wf2 i2 h2 r2 => ?_⟩⟩
    have h1':=(ex2.keepsI wf1).l _ _ i1 h1
    have r1':=r1.ext ex2 wf1
    refine ⟨a,b,xs,ys,rfl,rfl,h1',h2,by rw [← rls_len r1,← rls_len r2,← Qx8];exact hl,fun q hq => ?_⟩
    obtain ⟨e3,wf3⟩:=fix_new wf2 hq (xs++ys)
    exact po q (xs++ys) _ _ ((ex1.trans ex2).trans e3) wf3 (.inr rfl) upd_same ((RLs.append r1' r2).ext e3 wf2)
   ·cases ef
  ·cases ef
theorem SX_clos {f:Rho→Option (List (Nat × List Nat))}(hf:∀ x,p.X.fn x=true)(h:SC p e f):SX p e (fun ρ=>((f ρ).bind (eclosOf ρ)).map fun l=>.x (.many l)):=
 h.imp fun σ H Q ⟨w,ρ,κ,a,re,wf,ef,po⟩=>by
  obtain ⟨l,h1,h2⟩:=Option.map_eq_some_iff.mp ef
  subst h2
  obtain ⟨lk,h3,h4⟩:=Option.bind_eq_some_iff.mp h1
  exact ⟨w,ρ,κ,lk,re,wf,h3,fun q xs w' H' e1 wf1 i1 h5 r1=>po _ w' H' e1 wf1 (.many hf h4 i1 h5 r1)⟩
end
end PL
end
section
namespace PL
open PySem PySem.Spec PyProof.Rows L2 LamX NdefX
def relR (p:Pl)(fr:Bool)(w:Wd)(H:Hp)(v:Val)(x:V):Prop:=if fr=true then rF p.g p.X.H_0 w H v x else RV p.g w.I w.μ H v x
structure Cur (p:Pl)(w0 w:Wd)(ρ:Rho)(κ:Ks)(σ:L2.St)(H:Hp):Prop where
 re:RE p.g p.X p.b w H ρ σ
 wf:WF p.g w κ H
 e0:Ext w0 p.X.H_0 w H
def Qzt (p:Pl)(fr:Bool)(w0 w:Wd)(H:Hp)(D:Ends)(o:O):Prop:=match o with
 | .nx ρ' κ'=>∀ w' σ' H',Cur p w0 w' ρ' κ' σ' H'→Keeps w.I w'.I w.μ w'.μ H H'→D.nx σ' H'
 | .ret v κ'=>∀ x w' H',Ext w0 p.X.H_0 w' H'→WF p.g w' κ' H'→relR p fr w' H' v x→D.rt x H'
 | .exc c .non κ'=>∀ σ' w' H',Ext w0 p.X.H_0 w' H'→WF p.g w' κ' H'→∀ d,DOk p.g c d H'→p.W (.ref (p.clA c)) d σ' H'
 | .exc _ _ _=>False
 | .bad=>False
def tS (p:Pl)(fr:Bool)(m:Rho→Ks→O):TS:=fun D σ H=>∃ w0 w ρ κ,Cur p w0 w ρ κ σ H∧Qzt p fr w0 w H D (m ρ κ)
abbrev SS (p:Pl)(fr:Bool)(s:Stmt)(m:Rho→Ks→O):Prop:=PS p.X s (tS p fr m)
abbrev SSs (p:Pl)(fr:Bool)(s:List Stmt)(m:Rho→Ks→O):Prop:=PSs p.X s (tS p fr m)
theorem _root_.L2.PS.imp {X:Cx}{e:Stmt}{t t':TS}(h:PS X e t)(k:∀ D σ H,t' D σ H→t D σ H):PS X e t':=⟨fun pins s σ H Q I q=>h.run pins s σ H Q I (k Q σ H q)⟩
theorem _root_.L2.PSs.imp {X:Cx}{e:List Stmt}{t t':TS}(h:PSs X e t)(k:∀ D σ H,t' D σ H→t D σ H):PSs X e t':=⟨fun pins s σ H Q I q=>h.run pins s σ H Q I (k Q σ H q)⟩
section
variable {p:Pl}{fr:Bool}{w0 w w1:Wd}{ρ:Rho}{κ κ1:Ks}{σ:L2.St}{H H1:Hp}{D:Ends}
theorem Qzt.weak {o:O}(po:Qzt p fr w0 w H D o)(k:Keeps w.I w1.I w.μ w1.μ H H1):Qzt p fr w0 w1 H1 D o:=by
 cases o with
 | nx ρ' κ'=>exact fun w' σ' H' c k'=>po w' σ' H' c (k.trans k')
 | ret v κ'=>exact po
 | exc c v κ'=>
  cases v with
  | non=>exact po
  | _=>exact po
 | bad=>exact po
theorem Cur.step (c:Cur p w0 w ρ κ σ H)(e:Ext w H w1 H1)(wf1:WF p.g w1 κ1 H1):Cur p w0 w1 ρ κ1 σ H1:=⟨c.re.ext e c.wf,wf1,c.e0.trans e⟩
theorem Qzt.bind {α β:Type}{rel:Wd→Hp→α→β→Prop}{r:R (α × Ks)}{f:α × Ks→O}{k:β→Hp→Prop}(c:Cur p w0 w ρ κ σ H)(po:Qzt p fr w0 w H D (r.toO f))
  (hk:∀ w1 H1 a κ1 x,WF p.g w1 κ1 H1→Ext w H w1 H1→rel w1 H1 a x→Qzt p fr w0 w1 H1 D (f (a,κ1))→k x H1):Post p.g p.clA rel w H r k (fun cl d H'=>p.W cl d σ H'):=by
 cases r with
 | bad=>exact po
 | exc cl v κ'=>
  cases v with
  | non=>exact fun w' H' e wf=>po σ w' H' (c.e0.trans e) wf
  | _=>exact po
 | ok q=>exact fun x w1 H1 e wf1 r1=>hk w1 H1 q.1 q.2 x wf1 e r1 (Qzt.weak (o:=f q) po (e.keepsI c.wf))
variable {st:Stmt}{sts:List Stmt}{m n:Rho→Ks→O}{e:Expr}{me:Rho→Ks→R (Val × Ks)}{i:Nat}{x:Str}{pos pos':Pos}
theorem SSs_nil:SSs p fr [] (fun ρ κ=>.nx ρ κ):=pss_nil.imp fun D σ H ⟨w0,w,ρ,κ,c,po⟩=>po w σ H c .refl
theorem SSs_cons (h:SS p fr st m)(t:SSs p fr sts n):SSs p fr (st::sts) (fun ρ κ=>(m ρ κ).then n):=
 (pss_cons h t).imp fun D σ H ⟨w0,w,ρ,κ,c,po⟩=>by
  refine ⟨w0,w,ρ,κ,c,?_⟩
  have po:Qzt p fr w0 w H D ((m ρ κ).then n):=po
  generalize m ρ κ=z at po ⊢
  cases z with
  | nx ρ' κ'=>exact fun w' σ' H' c' k=>⟨w0,w',ρ',κ',c',po.weak k⟩
  | ret v κ'=>exact po
  | exc cl v κ'=>
   cases v with
   | non=>exact po
   | _=>exact po
  | bad=>exact po
theorem asg_val (i:Nat):∀ D σ H,tS p fr (fun ρ κ=>(me ρ κ).toO fun q=>.nx (ρ.set i (some (.val q.1))) q.2) D σ H→tAsg (tG p (rV p.g) me) (gName i) D σ H:=
 fun D σ H ⟨w0,w,ρ,κ,c,po⟩=>⟨w,ρ,κ,c.re,c.wf,Qzt.bind c po fun w1 H1 a κ1 x wf1 e1 ra po1=>po1 w1 _ H1 ⟨(c.step e1 wf1).re.setV ra,wf1,c.e0.trans e1⟩ .refl⟩
theorem asgF_val (i:Nat):∀ D σ H,tS p fr (fun ρ κ=>(me ρ κ).toO fun q=>.nx (ρ.set i (some (.val q.1))) q.2) D σ H→tAsg (tF p me) (gName i) D σ H:=
 fun D σ H ⟨w0,w,ρ,κ,c,po⟩=>⟨w,ρ,κ,c.re,c.wf,by
  have po:Qzt p fr w0 w H D ((me ρ κ).toO fun q=>.nx (ρ.set i (some (.val q.1))) q.2):=po
  generalize me ρ κ=z at po ⊢
  cases z with
  | ok q=>
   intro x w1 H1 e1 wf1 r1
   obtain ⟨w2,e2,wf2,r2⟩:=rF_fix e1 wf1 r1
   exact po w2 _ H1 ⟨(c.step e2 wf2).re.setV r2,wf2,c.e0.trans e2⟩ (e2.keepsI c.wf)
  | exc cl v κ'=>
   cases v with
   | non=>exact fun w' H' e wf=>po σ w' H' (c.e0.trans e) wf
   | _=>exact po
  | bad=>exact po⟩
theorem asgF_cel (i:Nat):∀ D σ H,tS p fr (fun ρ κ=>(me ρ κ).toO fun q=>match q.1 with
  | .lst l=>.nx (ρ.set i (some (.val (.cell q.2.length)))) (q.2++[.lst l])
  | _=>.bad) D σ H→tAsg (tF p me) (gName i) D σ H:=
 fun D σ H ⟨w0,w,ρ,κ,c,po⟩=>⟨w,ρ,κ,c.re,c.wf,by
  have po:Qzt p fr w0 w H D ((me ρ κ).toO fun q=>match q.1 with
   | .lst l=>.nx (ρ.set i (some (.val (.cell q.2.length)))) (q.2++[.lst l])
   | _=>.bad):=po
  generalize me ρ κ=z at po ⊢
  cases z with
  | ok q=>
   intro x w1 H1 e1 wf1 r1
   obtain ⟨v,κ1⟩:=q
   obtain ⟨l,a,xs,ev,rfl,n,ha,r,nI,nM⟩:=r1
   have ev:v=.lst l:=ev
   subst ev
   have po:Qzt p fr w0 w H D (.nx (ρ.set i (some (.val (.cell κ1.length)))) (κ1++[.lst l])):=po
   have e2:Ext w H ⟨w1.I,w1.μ++[a]⟩ H1:=by
    obtain ⟨t,et,ht⟩:=e1.mu
    refine ⟨e1.I,e1.new,⟨t++[a],by show w1.μ++[a]=_;rw [et,List.append_assoc],fun b hb => ?_⟩,e1.fr,e1.dm⟩
    rcases List.mem_append.mp hb with z|z
    ·exact ht b z
    ·rw [List.mem_singleton.mp z];exact n
   have kp:Keeps w1.I w1.I w1.μ (w1.μ++[a]) H1 H1:=⟨fun _ z=>z,fun j b z=>by rw [List.getElem?_append_left (List.getElem?_eq_some_iff.mp z).1];exact z,fun _ _ _ z=>z,fun _ _ z=>z,fun _ _ _ z=>z⟩
   have hlen:w1.μ.length=κ1.length:=wf1.len
   have wf2:WF p.g ⟨w1.I,w1.μ++[a]⟩ (κ1++[.lst l]) H1:=by
    refine ⟨by show (w1.μ++[a]).length=_;simp [hlen],fun j b hj => ?_,fun j j' b h1 h2 => ?_,fun b hb => ?_,wf1.dom,wf1.tab⟩
    ·have hj:(w1.μ++[a])[j]? = some b:=hj
     rw [List.getElem?_append] at hj
     split at hj
     ·rename_i hlt
      obtain ⟨c',h1,h2⟩:=wf1.at_ j b hj
      exact ⟨c',by rw [List.getElem?_append_left (by omega)];exact h1,h2.keeps kp fun _ _ z=>z⟩
     ·rename_i hge
      have ej:j-w1.μ.length=0:=by
       have:=(List.getElem?_eq_some_iff.mp hj).1
       simp at this
       omega
      rw [ej] at hj
      have hj:some a=some b:=hj
      cases hj
      refine ⟨.lst l,?_,.lst ha (r.keeps kp)⟩
      rw [List.getElem?_append_right (by omega),(by omega:j-κ1.length=0)]
      rfl
    ·have h1:(w1.μ++[a])[j]? = some b:=h1
     have h2:(w1.μ++[a])[j']? = some b:=h2
     rw [List.getElem?_append] at h1 h2
     have one:∀ k:Nat,[a][k]? = some b→k=0∧b=a:=fun k hk=>by
      have:=(List.getElem?_eq_some_iff.mp hk).1
      have:k=0:=by simp at this;omega
      subst this
      exact ⟨rfl,by simpa using hk.symm⟩
     split at h1
     ·split at h2
      ·exact wf1.nd j j' b h1 h2
      ·rw [(one _ h2).2] at h1
       exact absurd (List.mem_of_getElem? h1) nM
     ·split at h2
      ·rw [(one _ h1).2] at h2
       exact absurd (List.mem_of_getElem? h2) nM
      ·have:=(one _ h1).1
       have:=(one _ h2).1
       omega
    ·rcases List.mem_append.mp hb with z|z
     ·exact wf1.dis b z
     ·rw [List.mem_singleton.mp z];exact nI
   refine po ⟨w1.I,w1.μ++[a]⟩ _ H1 ⟨(c.step e2 wf2).re.setV (.cell ?_),wf2,c.e0.trans e2⟩ (e2.keepsI c.wf)
   show (w1.μ++[a])[κ1.length]? = some a
   rw [← hlen,List.getElem?_append_right (Nat.le_refl _),Nat.sub_self]
   rfl
  | exc cl v κ'=>
   cases v with
   | non=>exact fun w' H' e wf=>po σ w' H' (c.e0.trans e) wf
   | _=>exact po
  | bad=>exact po⟩
theorem asgF_own (hb:p.b=false)(i:Nat):∀ D σ H,tS p fr (fun ρ κ=>(me ρ κ).toO fun q=>match q.1 with
  | .lst l=>.nx (ρ.set i (some (.own l))) q.2
  | _=>.bad) D σ H→tAsg (tF p me) (gName i) D σ H:=
 fun D σ H ⟨w0,w,ρ,κ,c,po⟩=>⟨w,ρ,κ,c.re,c.wf,by
  have po:Qzt p fr w0 w H D ((me ρ κ).toO fun q=>match q.1 with
   | .lst l=>.nx (ρ.set i (some (.own l))) q.2
   | _=>.bad):=po
  generalize me ρ κ=z at po ⊢
  cases z with
  | ok q=>
   intro x w1 H1 e1 wf1 r1
   obtain ⟨v,κ1⟩:=q
   obtain ⟨l,a,xs,ev,rfl,n,ha,r,nI,nM⟩:=r1
   have ev:v=.lst l:=ev
   subst ev
   have po:Qzt p fr w0 w H D (.nx (ρ.set i (some (.own l))) κ1):=po
   have re:=(c.step e1 wf1).re
   refine po w1 _ H1 ⟨⟨by rw [List.length_set,List.length_set];exact re.len,fun j sl hj => ?_,fun j k l1 l2 b h1 h2 h3 h4 => ?_⟩,wf1,c.e0.trans e1⟩ (e1.keepsI c.wf)
   ·rcases Qqc hj with ⟨ej,hi,es⟩|⟨nj,hj⟩
    ·subst ej;cases es
     exact ⟨a,xs,List.getElem?_set_self (by rw [← re.len];exact hi),ha,r,nI,nM,.inr (c.e0.dm a n)⟩
    ·exact (re.at_ j sl hj).set_ne nj
   ·have other:∀ {j:Nat} {l1:List Val} {b:Addr},ρ[j]? = some (some (.own l1))→σ[j]? = some (some (.ref b))→b≠a:=fun {j l1 b} h1 h3 z=>by
     obtain ⟨b',ys,q1,q2,_⟩:=c.re.at_ j _ h1
     rw [h3] at q1
     cases q1
     rw [z,n] at q2
     cases q2
    rcases Qqc h1 with ⟨ej,hi,es⟩|⟨nj,h1⟩
    ·rcases Qqc h2 with ⟨ek,_,_⟩|⟨nk,h2⟩
     ·exact ej.symm.trans ek
     ·subst ej
      rw [List.getElem?_set_self (by rw [← re.len];exact hi)] at h3
      cases h3
      rw [List.getElem?_set_ne nk] at h4
      exact absurd rfl (other h2 h4)
    ·rw [List.getElem?_set_ne nj] at h3
     rcases Qqc h2 with ⟨ek,hi,es⟩|⟨nk,h2⟩
     ·subst ek
      rw [List.getElem?_set_self (by rw [← re.len];exact hi)] at h4
      cases h4
      exact absurd rfl (other h1 h3)
     ·rw [List.getElem?_set_ne nk] at h4
      exact re.apart j k l1 l2 b h1 h2 h3 h4
  | exc cl v κ'=>
   cases v with
   | non=>exact fun w' H' e wf=>po σ w' H' (c.e0.trans e) wf
   | _=>exact po
  | bad=>exact po⟩
theorem SS_setC {f:Rho→Option (List (Nat × List Nat))}(hN:p.X.N.Nodup)(hi:p.X.N[i]? = some x)(hx:Loc p.X.env.scope x)(he:SC p e f)(hs:swapsWith e (some (.Name x pos')) pos.line p.X.env=pure false)(hf:p.X.fn x=true∨p.X.env.scope.names.lookup x=some .local) :
  SS p fr (.Assign [.Name x pos'] e pos) (fun ρ κ=>match f ρ with
   | some l=>.nx (ρ.set i (some (.cls l))) κ
   | none=>.bad):=
 (ps_set hN hi hx he hs hf).imp fun D σ H ⟨w0,w,ρ,κ,c,po⟩=>by
  have po:Qzt p fr w0 w H D (match f ρ with
   | some l=>.nx (ρ.set i (some (.cls l))) κ
   | none=>.bad):=po
  cases ef:f ρ with
  | none=>rw [ef] at po;exact po.elim
  | some l=>
   rw [ef] at po
   exact ⟨w,ρ,κ,l,c.re,c.wf,ef,fun a xs w1 H1 e1 wf1 i1 h1 r1=>po w1 _ H1 ⟨(c.step e1 wf1).re.set (fun σ' hσ=>.inr ⟨a,xs,hσ,i1,h1,r1⟩) (fun _ z=>nomatch z),wf1,c.e0.trans e1⟩ (e1.keepsI c.wf)⟩
theorem SS_expr (he:SE p e me)(hs:swapsWith e none pos.line p.X.env=pure false):SS p fr (.Expr e pos) (fun ρ κ=>(me ρ κ).toO fun q=>.nx ρ q.2):=
 (ps_expr he hs).imp fun D σ H ⟨w0,w,ρ,κ,c,po⟩=>⟨w,ρ,κ,c.re,c.wf,Qzt.bind c po fun w1 H1 a κ1 x wf1 e1 ra po1=>po1 w1 σ H1 (c.step e1 wf1) .refl⟩
theorem SS_ret (he:SE p e me):SS p false (.Return (some e) pos) (fun ρ κ=>(me ρ κ).toO fun q=>.ret q.1 q.2):=
 (ps_ret he).imp fun D σ H ⟨w0,w,ρ,κ,c,po⟩=>⟨w,ρ,κ,c.re,c.wf,Qzt.bind c po fun w1 H1 a κ1 x wf1 e1 ra po1=>po1 x w1 H1 (c.e0.trans e1) wf1 ra⟩
theorem SS_retF (he:FE p e me):SS p true (.Return (some e) pos) (fun ρ κ=>(me ρ κ).toO fun q=>.ret q.1 q.2):=
 (ps_ret he).imp fun D σ H ⟨w0,w,ρ,κ,c,po⟩=>⟨w,ρ,κ,c.re,c.wf,Qzt.bind c po fun w1 H1 a κ1 x wf1 e1 ra po1=>po1 x w1 H1 (c.e0.trans e1) wf1 (by
  obtain ⟨l,b,xs,h1,h2,n,r⟩:=ra
  exact ⟨l,b,xs,h1,h2,c.e0.dm b n,r⟩)⟩
theorem SS_ite {c:Expr}{a b:List Stmt}{mt:Rho→Ks→R (Bool × Ks)}(hc:STt p c mt)(ha:SSs p fr a m)(hb:SSs p fr b n):SS p fr (.If c a b pos) (fun ρ κ=>(mt ρ κ).toO fun q=>if q.1=true then m ρ q.2 else n ρ q.2):=
 (ps_if hc ha hb).imp fun D σ H ⟨w0,w,ρ,κ,c,po⟩=>⟨w,ρ,κ,c.re,c.wf,Qzt.bind (rel:=fun _ _ a b=>a=b) c po fun w1 H1 a κ1 x wf1 e1 ra po1=>by
  subst ra
  cases a with
  | true=>rw [if_pos rfl];exact ⟨w0,w1,ρ,κ1,c.step e1 wf1,po1⟩
  | false=>rw [if_neg (by decide)];exact ⟨w0,w1,ρ,κ1,c.step e1 wf1,po1⟩⟩
theorem SS_loop {tgE iter:Expr}{b:List Stmt}{tg:Tg}{mi:Rho→Ks→R (List Val × Ks)}(hp:PassesOwn (model p.X.prog p.X.w) p.X.A p.X.env p.X.xe)(hc:p.X.calm=true)(hi:SIk p tgE iter mi)(hg:PG p.X tgE (gT p.g.K tg))(hb:SSs p fr b m)
  (hs:∀ x,foldedSetIterable iter p.X.env x=pure x):SS p fr (.For tgE iter b [] pos) (fun ρ κ=>(mi ρ κ).toO fun q=>loopL q.1 (fun v ρ' κ'=>match setTg tg v ρ' with
   | some ρ2=>m ρ2 κ'
   | none=>.bad) ρ q.2):=
 (ps_for hp hc hi hg hb hs).imp fun D σ H ⟨w0,w,ρ,κ,c0,po⟩=>⟨w,ρ,κ,c0.re,c0.wf,Qzt.bind c0 po fun w1 H1 l κ1 J wf1 e1 wl po1=>by
  have c1:=c0.step e1 wf1
  refine ⟨fun i k σ' H'=>k=l.length-i∧i≤l.length∧∃ w' ρ' κ',Cur p w0 w' ρ' κ' σ' H'∧Keeps w1.I w'.I w1.μ w'.μ H1 H'∧Qzt p fr w0 w' H' D (loopL (l.drop i) (fun v ρ' κ'=>match setTg tg v ρ' with
   | some ρ2=>m ρ2 κ'
   | none=>.bad) ρ' κ'),⟨l.length,by simp,Nat.zero_le _,w1,ρ,κ1,c1,.refl,po1⟩,?_⟩
  rintro i k σ2 H2 ⟨rfl,hil,w2,ρ2,κ2,c2,k2,po2⟩
  by_cases hlt:i<l.length
  case neg=>
   have ei:i=l.length:=by omega
   subst ei
   rw [List.drop_length] at po2
   exact .inl ⟨wl.stop w2 κ2 H2 k2 c2.wf,po2 w2 σ2 H2 c2 .refl⟩
  case pos=>
   refine .inr ⟨wl.go i w2 κ2 H2 hlt k2 c2.wf,_,fun σ' H' hN=>⟨l.length-(i+1),by omega,hN⟩,fun x H3 hy => ?_⟩
   obtain ⟨v,hv,e3,wf3,rv⟩:=wl.yld i w2 κ2 H2 x H3 hlt k2 c2.wf hy
   have hd:l.drop i=v::l.drop (i+1):=by
    rw [List.drop_eq_getElem_cons hlt]
    rw [List.getElem?_eq_getElem hlt] at hv
    cases hv;rfl
   rw [hd] at po2
   have c3:=c2.step e3 wf3
   have po3:Qzt p fr w0 w2 H3 D ((match setTg tg v ρ2 with
    | some ρ2=>m ρ2 κ2
    | none=>.bad).then fun ρ' κ'=>loopL (l.drop (i+1)) _ ρ' κ'):=Qzt.weak po2 (e3.keepsI c2.wf)
   cases et:setTg tg v ρ2 with
   | none=>rw [et] at po3;exact po3.elim
   | some ρ3=>
    rw [et] at po3
    refine gT_of wf3 et c3.re rv fun σ3 re3 _=>⟨w0,w2,ρ3,κ2,⟨re3,wf3,c3.e0⟩,?_⟩
    have k3:=k2.trans (e3.keepsI c2.wf)
    have po3:Qzt p fr w0 w2 H3 D ((m ρ3 κ2).then fun ρ' κ'=>loopL (l.drop (i+1)) _ ρ' κ'):=po3
    generalize m ρ3 κ2=z at po3 ⊢
    cases z with
    | nx ρ' κ'=>exact fun w' σ' H' c' k'=>⟨rfl,hlt,w',ρ',κ',c',k3.trans k',po3.weak k'⟩
    | ret v κ'=>exact po3
    | exc cl v κ'=>
     cases v with
     | non=>exact po3
     | _=>exact po3
    | bad=>exact po3⟩
end
end PL
end
section
namespace PL
open PySem PySem.Spec PyProof.Rows L2 LamX NdefX
section
variable {p:Pl}{fr:Bool}{tgE e a b c:Expr}{me:Rho→Ks→R (Val × Ks)}{ms:Rho→Ks→R (List Val × Ks)}{pos pos' pos2:Pos}{i j l:Nat}{x y z:Str}
theorem SS_set (hN:p.X.N.Nodup)(hi:p.X.N[i]? = some x)(hx:Loc p.X.env.scope x)(he:SE p e me)(hs:swapsWith e (some (.Name x pos')) pos.line p.X.env=pure false)(hf:p.X.fn x=true∨p.X.env.scope.names.lookup x=some .local) :
  SS p fr (.Assign [.Name x pos'] e pos) (fun ρ κ=>(me ρ κ).toO fun q=>.nx (ρ.set i (some (.val q.1))) q.2):=(ps_set hN hi hx he hs hf).imp (asg_val i)
theorem SS_asg {tg:Tg}(he:SE p e me)(hg:PG p.X tgE (gT p.g.K tg))(hs:swapsWithSole [tgE] e pos.line p.X.env=pure false)(hw:swappedStores [tgE] e p.X.env=pure none)(h1:(assignEach [tgE] p.X.env).map (·.2)=[assign tgE p.X.env]) :
  SS p fr (.Assign [tgE] e pos) (fun ρ κ=>(me ρ κ).toO fun q=>match setTg tg q.1 ρ with
   | some ρ'=>.nx ρ' q.2
   | none=>.bad):=
 (ps_asg he hg hs hw h1).imp fun D σ H ⟨w0,w,ρ,κ,c0,po⟩=>⟨w,ρ,κ,c0.re,c0.wf,Qzt.bind c0 po fun w1 H1 v κ1 x wf1 e1 rv po1=>by
  have po1:Qzt p fr w0 w1 H1 D (match setTg tg v ρ with
   | some ρ'=>.nx ρ' κ1
   | none=>.bad):=po1
  cases et:setTg tg v ρ with
  | none=>rw [et] at po1;exact po1.elim
  | some ρ'=>
   rw [et] at po1
   have c1:=c0.step e1 wf1
   exact gT_of wf1 et c1.re rv fun σ' re' _=>po1 w1 σ' H1 ⟨re',wf1,c1.e0⟩ .refl⟩
theorem par2 (i j:Nat):∀ D σ H,tS p fr (fun ρ κ=>(ms ρ κ).toO fun q=>match Qzc [(i,false),(j,false)] q.1 ρ with
  | some ρ'=>.nx ρ' q.2
  | none=>.bad) D σ H→tPar i j (tG p (rVs p.g) ms) D σ H:=
 fun D σ H ⟨w0,w,ρ,κ,c0,po⟩=>⟨w,ρ,κ,c0.re,c0.wf,Qzt.bind c0 po fun w1 H1 v κ1 x wf1 e1 rv po1=>by
  have c1:=c0.step e1 wf1
  cases rv with
  | nil=>exact po1.elim
  | cons r1 rt=>
   cases rt with
   | nil=>exact po1.elim
   | cons r2 rt=>
    cases rt with
    | nil=>exact ⟨_,_,rfl,po1 w1 _ H1 ⟨(c1.re.setV r1).setV r2,wf1,c1.e0⟩ .refl⟩
    | cons _ _=>exact po1.elim⟩
theorem par3 (i j l:Nat):∀ D σ H,tS p fr (fun ρ κ=>(ms ρ κ).toO fun q=>match Qzc [(i,false),(j,false),(l,false)] q.1 ρ with
  | some ρ'=>.nx ρ' q.2
  | none=>.bad) D σ H→tPar3 i j l (tG p (rVs p.g) ms) D σ H:=
 fun D σ H ⟨w0,w,ρ,κ,c0,po⟩=>⟨w,ρ,κ,c0.re,c0.wf,Qzt.bind c0 po fun w1 H1 v κ1 x wf1 e1 rv po1=>by
  have c1:=c0.step e1 wf1
  cases rv with
  | nil=>exact po1.elim
  | cons r1 rt=>
   cases rt with
   | nil=>exact po1.elim
   | cons r2 rt=>
    cases rt with
    | nil=>exact po1.elim
    | cons r3 rt=>
     cases rt with
     | nil=>exact ⟨_,_,_,rfl,po1 w1 _ H1 ⟨((c1.re.setV r1).setV r2).setV r3,wf1,c1.e0⟩ .refl⟩
     | cons _ _=>exact po1.elim⟩
theorem SS_par2 {px py pt:Pos}{kt k2:Nat}{pt2:Pos}(hc:p.X.calm=true)(hN:p.X.N.Nodup)(hi:p.X.N[i]? = some x)(hj:p.X.N[j]? = some y)(hij:i≠j)(hx:p.X.env.scope.names.lookup x=some .local)(hy:p.X.env.scope.names.lookup y=some .local)(ha:SEs p [a,b] ms)
  (hw:swappedStores [.Tuple [.Name x px,.Name y py] kt pt] (.Tuple [a,b] k2 pt2) p.X.env=pure (some [x,y])) (hs:swapsWithSole [.Tuple [.Name x px,.Name y py] kt pt] (.Tuple [a,b] k2 pt2) pos.line p.X.env=pure false) :
  SS p fr (.Assign [.Tuple [.Name x px,.Name y py] kt pt] (.Tuple [a,b] k2 pt2) pos) (fun ρ κ=>(ms ρ κ).toO fun q=>match Qzc [(i,false),(j,false)] q.1 ρ with
  | some ρ'=>.nx ρ' q.2
  | none=>.bad):=(ps_par hc hN hi hj hij hx hy ha hw hs).imp (par2 i j)
theorem SS_par3 {px py pz pt:Pos}{kt k2:Nat}{pt2:Pos}(hc:p.X.calm=true)(hN:p.X.N.Nodup)(hi:p.X.N[i]? = some x)(hj:p.X.N[j]? = some y)(hl:p.X.N[l]? = some z)(hij:i≠j)(hil:i≠l)(hjl:j≠l)(hx:p.X.env.scope.names.lookup x=some .local)(hy:p.X.env.scope.names.lookup y=some .local)(hz:p.X.env.scope.names.lookup z=some .local)(ha:SEs p [a,b,c] ms)
  (hw:swappedStores [.Tuple [.Name x px,.Name y py,.Name z pz] kt pt] (.Tuple [a,b,c] k2 pt2) p.X.env=pure (some [x,y,z])) (hs:swapsWithSole [.Tuple [.Name x px,.Name y py,.Name z pz] kt pt] (.Tuple [a,b,c] k2 pt2) pos.line p.X.env=pure false) :
  SS p fr (.Assign [.Tuple [.Name x px,.Name y py,.Name z pz] kt pt] (.Tuple [a,b,c] k2 pt2) pos) (fun ρ κ=>(ms ρ κ).toO fun q=>match Qzc [(i,false),(j,false),(l,false)] q.1 ρ with
  | some ρ'=>.nx ρ' q.2
  | none=>.bad):=(ps_par3 hc hN hi hj hl hij hil hjl hx hy hz ha hw hs).imp (par3 i j l)
theorem isC_lst {o:HO}(h:isC o=true):(∀ zs,o ≠ .tup zs)∧(∀ q u,o ≠ .frz q u)∧(∀ φ,o ≠ .ext φ)∧∀ ps,o ≠ .tbl ps:=
 ⟨(fun _ z=>by rw [z] at h;cases h),(fun _ _ z=>by rw [z] at h;cases h),(fun _ z=>by rw [z] at h;cases h),(fun _ z=>by rw [z] at h;cases h)⟩
theorem Keeps.updM {g:Gx}{w:Wd}{κ:Ks}{H:Hp}(wf:WF g w κ H){a:Addr}(nI:¬ w.I a){o:HO}(h:H a=some o)(ho:isC o=true)(o2:HO):Keeps w.I w.I w.μ w.μ H (upd H a o2):=by
 have ne:∀ {b u},H b=some u→(o≠u)→upd H a o2 b=some u:=fun {b u} q n=>by
  rw [upd_ne (fun z=>by rw [z,h] at q;exact n (Option.some.inj q))];exact q
 obtain ⟨h1,h2,h3,h4⟩:=isC_lst ho
 exact ⟨fun _ z=>z,fun _ _ z=>z,fun b u j q=>by rw [upd_ne (fun z=>nI (by rw [← z];exact j))];exact q,fun b zs q=>ne q (h1 zs),fun b q u e=>ne e (h2 q u)⟩
theorem RX1.updM {g:Gx}{w:Wd}{H:Hp}{a:Addr}{o o2:HO}(h:H a=some o)(ho:isC o=true)(kp:Keeps w.I w.I w.μ w.μ H (upd H a o2)){k:Nat}{caps:List Val}{x:V}(r:RX1 g w H k caps x):RX1 g w (upd H a o2) k caps x:=by
 have ne:∀ {b φ},H b=some (.ext φ)→upd H a o2 b=some (.ext φ):=fun {b φ} q=>by
  rw [upd_ne (fun z=>by rw [z,h] at q;exact (isC_lst ho).2.2.1 φ (Option.some.inj q))];exact q
 cases r with
 | mk h0 o oc fr cc all inj vs r=>exact .mk h0 (ne o) (ne oc) fr (fun q hq=>⟨(cc q hq).1,ne (cc q hq).2.1,(cc q hq).2.2⟩) all inj vs (r.keeps kp)
theorem RXs.updM {g:Gx}{w:Wd}{H:Hp}{a:Addr}{o o2:HO}(h:H a=some o)(ho:isC o=true)(kp:Keeps w.I w.I w.μ w.μ H (upd H a o2)):∀ {l:List (Nat × List Val)} {zs:List V},RXs g w H l zs→RXs g w (upd H a o2) l zs
 | _,_,.nil=>.nil
 | _,_,.cons r t=>.cons (r.updM h ho kp) (RXs.updM h ho kp t)
theorem RX.updM {g:Gx}{w:Wd}{H:Hp}{a:Addr}{o o2:HO}(h:H a=some o)(ho:isC o=true)(kp:Keeps w.I w.I w.μ w.μ H (upd H a o2)):∀ {v:Ex} {z:V},RX g w H v z→RX g w (upd H a o2) v z
 | _,_,.one r=>.one (r.updM h ho kp)
 | _,_,.many j q r=>.many j (kp.l _ _ j q) (RXs.updM h ho kp r)
theorem RL1.updM {g:Gx}{X:Cx}{H:Hp}{a:Addr}{o o2:HO}(h:H a=some o)(ho:isC o=true){k:Nat × List Nat}{x:V}(r:RL1 g X H k x):RL1 g X (upd H a o2) k x:=by
 have ne:∀ {b φ},H b=some (.ext φ)→upd H a o2 b=some (.ext φ):=fun {b φ} q=>by
  rw [upd_ne (fun z=>by rw [z,h] at q;exact (isC_lst ho).2.2.1 φ (Option.some.inj q))];exact q
 cases r with
 | mk h0 o oc c only=>exact .mk h0 (ne o) (ne oc) c only
theorem RLs.updM {g:Gx}{X:Cx}{H:Hp}{a:Addr}{o o2:HO}(h:H a=some o)(ho:isC o=true):∀ {l:List (Nat × List Nat)} {zs:List V},RLs g X H l zs→RLs g X (upd H a o2) l zs
 | _,_,.nil=>.nil
 | _,_,.cons r t=>.cons (r.updM h ho) (RLs.updM h ho t)
theorem SlotOk.updM {g:Gx}{X:Cx}{b:Bool}{w:Wd}{H:Hp}{σ:L2.St}{i:Nat}{a:Addr}{o o2:HO}(h:H a=some o)(ho:isC o=true)(kp:Keeps w.I w.I w.μ w.μ H (upd H a o2))(no:∀ c l,SlotOk g X b w H σ i (.own l)→σ[i]? = some (some (.ref c))→c≠a):∀ {sl:Slot},SlotOk g X b w H σ i sl→SlotOk g X b w (upd H a o2) σ i sl
 | .val _,⟨x,h1,h2⟩=>⟨x,h1,h2.keeps kp⟩
 | .own l,⟨c,zs,h1,h2,h3,h4,h5,h6⟩=>⟨c,zs,h1,by rw [upd_ne (no c l ⟨c,zs,h1,h2,h3,h4,h5,h6⟩ h1)];exact h2,h3.keeps kp,h4,h5,h6⟩
 | .cls _,.inl z=>.inl z
 | .cls _,.inr ⟨c,zs,h1,h2,h3,h4⟩=>.inr ⟨c,zs,h1,h2,kp.l _ _ h2 h3,RLs.updM h ho h4⟩
 | .ext _,⟨x,h1,h2⟩=>⟨x,h1,RX.updM h ho kp h2⟩
 | .pin,h=>h
theorem cell_updG {w0 w:Wd}{ρ:Rho}{κ:Ks}{σ:L2.St}{H:Hp}(c:Cur p w0 w ρ κ σ H){k:Nat}{a:Addr}{o o2:HO}{c1 c2:Cell}(hk:κ[k]? = some c1)(hm:w.μ[k]? = some a)(h:H a=some o)(ho:isC o=true)(r:Keeps w.I w.I w.μ w.μ H (upd H a o2)→CellOk p.g w.I w.μ (upd H a o2) a c2) :
  Cur p w0 w ρ (κ.set k c2) σ (upd H a o2)∧Keeps w.I w.I w.μ w.μ H (upd H a o2):=by
 have ha:=List.mem_of_getElem? hm
 have nI:¬ w.I a:=c.wf.dis a ha
 have kp:=Keeps.updM c.wf nI h ho o2
 refine ⟨⟨⟨c.re.len,fun i sl hi => ?_,c.re.apart⟩,⟨by rw [List.length_set];exact c.wf.len,fun i b hb => ?_,c.wf.nd,c.wf.dis,fun b z => ?_,fun q hq => ?_⟩,c.e0.I,c.e0.new,c.e0.mu,fun b o hb nb nt => ?_,fun b q => ?_⟩,kp⟩
 ·refine SlotOk.updM h ho kp (fun c' l' s1 s2 z => ?_) (c.re.at_ i sl hi)
  obtain ⟨c2,zs,q1,q2,q3,q4,q5,_⟩:=s1
  rw [s2] at q1
  cases q1
  rw [z] at q5
  exact q5 ha
 ·by_cases e:k=i
  ·subst e
   rw [hm] at hb
   cases hb
   have hlt:=(List.getElem?_eq_some_iff.mp hk).1
   exact ⟨c2,List.getElem?_set_self hlt,r kp⟩
  ·obtain ⟨c',h1,h2⟩:=c.wf.at_ i b hb
   refine ⟨c',by rw [List.getElem?_set_ne e];exact h1,h2.keeps kp fun u _ q => ?_⟩
   rw [upd_ne (fun z=>e ?_)]
   ·exact q
   ·rw [z] at hb
    exact c.wf.nd k i a hm hb
 ·obtain ⟨zs,q⟩:=c.wf.dom b z
  exact ⟨zs,kp.l _ _ z q⟩
 ·obtain ⟨ps,h1,h2,h3⟩:=c.wf.tab q hq
  refine ⟨ps,by rw [upd_ne (fun z=>by rw [z,h] at h1;exact (isC_lst ho).2.2.2 _ (Option.some.inj h1))];exact h1,h2,fun pos cv hc => ?_⟩
  obtain ⟨cc,e1,e2⟩:=h3 pos cv hc
  exact ⟨cc,e1,by rw [upd_ne (fun z=>by rw [z,h] at e2;exact (isC_lst ho).2.2.1 _ (Option.some.inj e2))];exact e2⟩
 ·have ne:b≠a:=fun z=>by
   obtain ⟨t,e1,e2⟩:=c.e0.mu
   rw [e1] at ha
   rcases List.mem_append.mp ha with q|q
   ·rw [z] at nb;exact nb q
   ·have:=e2 a q
    rw [← z,hb] at this;cases this
  rw [upd_ne ne]
  exact c.e0.fr b o hb nb nt
 ·unfold upd at q
  split at q
  ·cases q
  ·exact c.e0.dm b q
theorem cell_upd {w0 w:Wd}{ρ:Rho}{κ:Ks}{σ:L2.St}{H:Hp}(c:Cur p w0 w ρ κ σ H){k:Nat}{a:Addr}{l l2:List Val}{xs ys:List V}(hk:κ[k]? = some (.lst l))(hm:w.μ[k]? = some a)(h:H a=some (.lst xs))(r:RVs p.g w.I w.μ H l2 ys) :
  Cur p w0 w ρ (κ.set k (.lst l2)) σ (upd H a (.lst ys))∧Keeps w.I w.I w.μ w.μ H (upd H a (.lst ys)):=
 cell_updG c hk hm h rfl fun kp=>.lst upd_same (r.keeps kp)
theorem SS_cseti {o:Expr}{mo mi:Rho→Ks→R (Val × Ks)}(ho:SE p o mo)(hi:SE p a mi)(he:SE p e me)
  (ha:∀ v,assign (.Subscript o a pos) p.X.env v=(do
   let ov ← holding [v] (eval o p.X.env)
   let iv ← holding [v,ov] (eval a p.X.env)
   standAt pos
   holding [v,ov,iv] (setItem ov iv v)
   release [v,ov,iv] []))
  (hs:swapsWithSole [.Subscript o a pos] e pos2.line p.X.env=pure false) (hw:swappedStores [.Subscript o a pos] e p.X.env=pure none) (h1:(assignEach [.Subscript o a pos] p.X.env).map (·.2)=[assign (.Subscript o a pos) p.X.env]) :
  SS p fr (.Assign [.Subscript o a pos] e pos2) (fun ρ κ=>(me ρ κ).toO fun v=>(mo ρ v.2).toO fun b=>(mi ρ b.2).toO fun q=>match b.1,q.1 with
   | .cell k,.int n=>match q.2[k]? with
    | some (.lst l)=>match L2.ixN l.length n with
     | some j=>.nx ρ (q.2.set k (.lst (l.set j v.1)))
     | none=>.bad
    | _=>.bad
   | _,_=>.bad):=
 (ps_asg he (pg_sub ho hi set_list ha) hs hw h1).imp fun D σ H ⟨w0,w,ρ,κ,c0,po⟩=>⟨w,ρ,κ,c0.re,c0.wf,Qzt.bind c0 po fun w1 H1 v κ1 x wf1 e1 rv po1=>by
  have c1:=c0.step e1 wf1
  refine ⟨w1,ρ,κ1,c1.re,wf1,Qzt.bind c1 po1 fun w2 H2 b κ2 y wf2 e2 rb po2 => ?_⟩
  have c2:=c1.step e2 wf2
  refine ⟨w2,ρ,κ2,c2.re,wf2,Qzt.bind c2 po2 fun w3 H3 q κ3 z wf3 e3 rq po3 => ?_⟩
  have c3:=c2.step e3 wf3
  have rv3:=(rv.ext e2 wf1).ext e3 wf2
  have rb3:=rb.ext e3 wf2
  have rq:RV p.g w3.I w3.μ H3 q z:=rq
  clear po po1 po2
  cases b with
  | cell k=>
   cases q with
   | int n=>
    cases rb3 with
    | cell hm=>
     cases rq
     obtain ⟨cc,hk,h2⟩:=wf3.at_ _ _ hm
     have po3:Qzt p fr w0 w3 H3 D (match κ3[k]? with
      | some (.lst l)=>match L2.ixN l.length n with
       | some j=>.nx ρ (κ3.set k (.lst (l.set j v)))
       | none=>.bad
      | _=>.bad):=po3
     rw [hk] at po3
     cases h2 with
     | dct _ _ _=>exact po3.elim
     | obj _ _ _ _ _ _=>exact po3.elim
     | @lst l xs h2 h3=>
     have po3:Qzt p fr w0 w3 H3 D (match L2.ixN l.length n with
       | some j=>.nx ρ (κ3.set k (.lst (l.set j v)))
       | none=>.bad):=po3
     cases hj:L2.ixN l.length n with
     | none=>rw [hj] at po3;exact po3.elim
     | some j=>
      rw [hj] at po3
      refine ⟨_,xs,n,j,rfl,rfl,h2,by rw [← h3.length];exact hj,?_⟩
      obtain ⟨c4,k4⟩:=cell_upd c3 hk hm h2 (RVs.set j rv3 h3)
      exact po3 w3 σ _ c4 k4
   | _=>exact po3.elim
  | _=>exact po3.elim⟩
theorem SS_raise {x m:Str}{jj k:Nat}{pp p2:Pos}{bmB:List Value}{B newId initId:String}(hc:p.X.calm=true)(tk:L2N.Takes p.X p.W)(F:ExcBaseFacts B newId initId bmB)(q:PySem.W.excIn p.X.K (p.clA k) bmB newId=true)(gC:p.X.mg x=some (.ref (p.clA k)))(kC:PySem.W.keepIn p.X.K (.ref (p.clA k))=true)(r:Raises p.X (.ref (p.clA k)))(hg:Gl p.X x)
  (hdb:(x == ("__debug__" : Str))=false) (hk:k<1000):SS p fr (.Raise (some (.Call (.Name x pp) [.Constant (.str m) jj p2] [] pos)) none pos') (fun ρ κ=>.exc k .non κ):=
 (L2N.ps_raise hc tk (L2N.pmk_own F q gC kC r hg hdb)).imp fun D σ H ⟨w0,w,ρ,κ,c0,po⟩=>po σ w H c0.e0 c0.wf none (by unfold DOk;rw [if_pos hk])
end
def defPl (g:Gx)(clA:Nat→Addr)(P:Program)(W:World)(mg:Str→Option Value)(base:Heap)(N:List Str)(qual:Str)(scope:Scope)(f:Addr)(cd:Value)(A:Around)(outer:List Env)(s:Shared)(H:Hp)(E:XK):Pl:=
 ⟨g,clA,cxOf (L2N.CX P W) P W g.K mg base N qual scope f cd A outer s H E,fun c d _ H'=>E c d H',false⟩
theorem takes_def {g:Gx}{clA:Nat→Addr}{P:Program}{W:World}{mg:Str→Option Value}{base:Heap}{N:List Str}{qual:Str}{scope:Scope}{f:Addr}{cd:Value}{A:Around}{outer:List Env}{s:Shared}{H:Hp}{E:XK} :
  L2N.Takes (defPl g clA P W mg base N qual scope f cd A outer s H E).X (defPl g clA P W mg base N qual scope f cd A outer s H E).W:=L2N.takes_of rfl rfl rfl rfl
theorem owns_def {g:Gx}{clA:Nat→Addr}{P:Program}{W:World}{mg:Str→Option Value}{base:Heap}{N:List Str}{qual:Str}{scope:Scope}{f:Addr}{cd:Value}{A:Around}{outer:List Env}{s:Shared}{H:Hp}{E:XK} :
  PassesOwn (model (defPl g clA P W mg base N qual scope f cd A outer s H E).X.prog (defPl g clA P W mg base N qual scope f cd A outer s H E).X.w) (defPl g clA P W mg base N qual scope f cd A outer s H E).X.A (defPl g clA P W mg base N qual scope f cd A outer s H E).X.env (defPl g clA P W mg base N qual scope f cd A outer s H E).X.xe:=L2.passes_of rfl
theorem takes_lam {g:Gx}{clA:Nat→Addr}{P:Program}{W:World}{mg:Str→Option Value}{base:Heap}{L:LamI}{cl:List (Str × Addr)}{c' f:Addr}{A:Around}{outer:List Env}{s:Shared}{H:Hp}{E:XK} :
  L2N.Takes (lamPl g clA P W mg base L cl c' f A outer s H E).X (lamPl g clA P W mg base L cl c' f A outer s H E).W:=L2N.takes_of rfl rfl rfl rfl
def FnF (P:Program)(W:World)(g:Gx)(clA:Nat→Addr)(mg:Str→Option Value)(base:Heap)(d:Nat)(a:Addr)(sem:List Ar→Ks→R (Val × Ks)):Prop:=
  ∀ (A : Around) (outer : List Env) (s : Shared) (H : Hp) (us : List Value) (vs : List V) (Q : VK) (E : XK) (w : Wd) (args : List Ar) (κ : Ks), RoomP d A → Env0 P W g.K mg base A outer s H → Vals vs us → WF g w κ H → RAs g w H args vs → Post g clA (rF g H) w H (sem args κ) Q E →
    codeAny (model P W) A (.call (.ref a) ⟨us,[]⟩) (CR (L2N.CX P W) outer P W H s Q E) s
theorem RAr.slot {g:Gx}{w:Wd}{H:Hp}{X:Cx}{a:Ar}{x:V}(r:RAr g w H a x){σ:L2.St}{i:Nat}(h:σ[i]? = some (some x)):∃ sl,a.slot=some sl∧SlotOk g X false w H σ i sl∧∀ l,sl ≠ .own l:=by
 cases r with
 | v r=>exact ⟨_,rfl,⟨x,h,r⟩,fun _ z=>nomatch z⟩
 | x r=>exact ⟨_,rfl,⟨x,h,r⟩,fun _ z=>nomatch z⟩
theorem RAs.length {g:Gx}{w:Wd}{H:Hp}:∀ {l:List Ar} {xs:List V},RAs g w H l xs→l.length=xs.length
 | _,_,.nil=>rfl
 | _,_,.cons _ t=>by simp [RAs.length t]
theorem RAs.get {g:Gx}{w:Wd}{H:Hp}:∀ {l:List Ar} {xs:List V} {i:Nat} {a:Ar},RAs g w H l xs→l[i]? = some a→∃ x,xs[i]? = some x∧RAr g w H a x
 | _,_,_,_,.nil,e=>by simp at e
 | _,_,0,_,.cons r _,e=>by simp at e;subst e;exact ⟨_,rfl,r⟩
 | _,_,i+1,a,.cons _ t,e=>by
  obtain ⟨x,h1,h2⟩:=RAs.get (i:=i) (a:=a) t (by simpa using e)
  exact ⟨x,by simpa using h1,h2⟩
theorem re_start {g:Gx}{X:Cx}{w:Wd}{H:Hp}{N:List Str}{args:List Ar}{vs:List V}(r:RAs g w H args vs)(hl:args.length≤N.length):RE g X false w H (args.map Ar.slot++List.replicate (N.length-args.length) none) (L2.start N vs):=by
 have hlen:=r.length
 have key:∀ (i:Nat) (sl:Slot),(args.map Ar.slot++List.replicate (N.length-args.length) none)[i]? = some (some sl)→SlotOk g X false w H (L2.start N vs) i sl∧∀ l,sl ≠ .own l:=fun i sl h=>by
  rw [List.getElem?_append] at h
  split at h
  ·rename_i hi
   rw [List.length_map] at hi
   rw [List.getElem?_map] at h
   cases e:args[i]? with
   | none=>rw [e] at h;cases h
   | some a=>
    rw [e] at h
    have h:some a.slot=some (some sl):=h
    obtain ⟨x,hx,ra⟩:=r.get e
    obtain ⟨sl',h1,h2,h3⟩:=ra.slot (X:=X) (σ:=L2.start N vs) (i:=i) (by
     unfold L2.start
     rw [List.getElem?_append_left (by rw [List.length_map,← hlen];exact hi),List.getElem?_map,hx]
     rfl)
    rw [h1] at h
    cases h
    exact ⟨h2,h3⟩
  ·rw [List.getElem?_replicate] at h
   split at h <;> cases h
 refine ⟨?_,fun i sl h=>(key i sl h).1,fun i j l m a h1 _ _ _=>absurd rfl ((key i _ h1).2 l)⟩
 unfold L2.start
 simp [hlen]
section
variable {P:Program}{W:World}{g:Gx}{clA:Nat→Addr}{mg:Str→Option Value}{base:Heap}{d:Nat}{x qual:Str}{params:Arguments}{body:List Stmt}{scope:Scope}{kws:List (Str × V)}{f:Addr}{fd:FuncData}{N ps:List Str}{m:Rho→Ks→O}{sem:List Ar→Ks→R (Val × Ks)}
theorem binds_here (F:FunD g.K x qual params body scope [] kws f fd)(hb:∀ (kV doc pm:Value) (an:Option Addr) (cdv ct:Value) (us:List Value),us.length=ps.length→bindArgs (PySem.W.fnOf x qual params body scope .none kV doc pm an cdv ct) ⟨us,[]⟩=pure (ps.zip us))
  {A:Around} {outer:List Env} {s:Shared} {H:Hp} {us:List Value} {vs:List V} (e0:Env0 P W g.K mg base A outer s H) (rv:Vals vs us) (hl:vs.length=ps.length):BindsTo s fd ⟨us,[]⟩ (ps.zip us):=by
 have KX:g.K.In s.heap:=e0.mod.kin.keeps fun b o e=>(e0.bs b o e).1
 have hbt:=(F.bindsN hb) s us KX (by rw [List.append_nil,← rv.length];exact hl)
 rw [List.append_nil] at hbt
 exact hbt
theorem fn_any {fr:Bool}(F:FunD g.K x qual params body scope [] kws f fd)(S:FnScope N ps scope)
  (hbody:∀ cd A outer s H E,PySem.W.codeIn g.K cd qual=true→(∃ fd2 o,fd2.code=cd∧g.K.lookup f=some o∧o.data=.func fd2)→RoomP d (A.deeper (envOfC qual scope s.heap.objs.size f cd))→SSs (defPl g clA P W mg base N qual scope f cd A outer s H E) fr body m)
  (hs:∀ args κ,sem args κ=if args.length=ps.length then (m (args.map Ar.slot++List.replicate (N.length-args.length) none) κ).fin else .bad)
  {A:Around} {outer:List Env} {s:Shared} {H:Hp} {us:List Value} {vs:List V} {Q:VK} {E:XK} {w:Wd} {args:List Ar} {argv:Args} {κ:Ks} (hr:RoomP (d+1) A) (e0:Env0 P W g.K mg base A outer s H) (hbt:vs.length=ps.length→BindsTo s fd argv (ps.zip us)) (rv:Vals vs us) (wf:WF g w κ H) (ra:RAs g w H args vs)
  (po:Post g clA (fun w' H' v x=>if fr=true then rF g H w' H' v x else RV g w'.I w'.μ H' v x) w H (sem args κ) Q E) (hn:fr=true→∀ ρ κ',m (args.map Ar.slot++List.replicate (N.length-args.length) none) κ ≠ .nx ρ κ') :
  codeAny (model P W) A (.call (.ref f) argv) (CR (L2N.CX P W) outer P W H s Q E) s:=by
 obtain ⟨oc,od,dV,kV,doc,pm,an,cdv,ct,osl,rfl,lk,hcd,hD,hK⟩:=F.ex
 rw [hs] at po
 by_cases hl:args.length=ps.length
 case neg=>rw [if_neg hl] at po;exact po.elim
 rw [if_pos hl] at po
 have hlv:vs.length=ps.length:=by rw [← ra.length];exact hl
 have hN:args.length≤N.length:=by
  have q:=congrArg List.length S.pre
  rw [List.length_take] at q
  omega
 refine run_ofS (CX:=L2N.CX P W) (N:=N) (k:=0) lk hcd S hr.one e0 (hbt hlv) rv hlv fun _=>⟨_,hbody cdv A outer s H E hcd ⟨_,_,rfl,lk,rfl⟩ (hr.deeper _),w,w,_,κ,⟨re_start ra hN,wf,Ext.refl w H⟩,?_⟩
 generalize hm:m (args.map Ar.slot++List.replicate (N.length-args.length) none) κ=z at po hn ⊢
 cases z with
 | nx ρ' κ'=>
  intro w' σ' H' c _
  cases fr with
  | true=>exact absurd rfl (hn rfl ρ' κ')
  | false=>exact po .non w' H' c.e0 c.wf .non
 | ret v κ'=>
  intro x w' H' e1 wf1 r1
  exact po x w' H' e1 wf1 r1
 | exc c v κ'=>
  cases v with
  | non=>exact fun σ' w' H' e1 wf1=>po w' H' e1 wf1
  | _=>exact po.elim
 | bad=>exact po.elim
theorem Qzx (F:FunD g.K x qual params body scope [] kws f fd)(S:FnScope N ps scope)(hb:∀ (kV doc pm:Value) (an:Option Addr) (cdv ct:Value) (us:List Value),us.length=ps.length→bindArgs (PySem.W.fnOf x qual params body scope .none kV doc pm an cdv ct) ⟨us,[]⟩=pure (ps.zip us))
  (hbody:∀ cd A outer s H E,PySem.W.codeIn g.K cd qual=true→(∃ fd2 o,fd2.code=cd∧g.K.lookup f=some o∧o.data=.func fd2)→RoomP d (A.deeper (envOfC qual scope s.heap.objs.size f cd))→SSs (defPl g clA P W mg base N qual scope f cd A outer s H E) false body m)
  (hs:∀ args κ,sem args κ=if args.length=ps.length then (m (args.map Ar.slot++List.replicate (N.length-args.length) none) κ).fin else .bad):FnS P W g clA mg base (d+1) f sem:=
 fun A outer s H us vs Q E w args κ hr e0 rv wf ra po=>fn_any (fr:=false) F S hbody hs hr e0 (binds_here F hb e0 rv) rv wf ra po fun z=>nomatch z
theorem fnF_of (F:FunD g.K x qual params body scope [] kws f fd)(S:FnScope N ps scope)(hb:∀ (kV doc pm:Value) (an:Option Addr) (cdv ct:Value) (us:List Value),us.length=ps.length→bindArgs (PySem.W.fnOf x qual params body scope .none kV doc pm an cdv ct) ⟨us,[]⟩=pure (ps.zip us))
  (hbody:∀ cd A outer s H E,PySem.W.codeIn g.K cd qual=true→(∃ fd2 o,fd2.code=cd∧g.K.lookup f=some o∧o.data=.func fd2)→RoomP d (A.deeper (envOfC qual scope s.heap.objs.size f cd))→SSs (defPl g clA P W mg base N qual scope f cd A outer s H E) true body m)
  (hs:∀ args κ,sem args κ=if args.length=ps.length then (m (args.map Ar.slot++List.replicate (N.length-args.length) none) κ).fin else .bad) (hn:∀ ρ κ ρ' κ',m ρ κ ≠ .nx ρ' κ'):FnF P W g clA mg base (d+1) f sem:=
 fun A outer s H us vs Q E w args κ hr e0 rv wf ra po=>fn_any (fr:=true) F S hbody hs hr e0 (binds_here F hb e0 rv) rv wf ra po fun _ ρ κ'=>hn _ _ ρ κ'
end
theorem FnS.mono {P:Program}{W:World}{g:Gx}{clA:Nat→Addr}{mg:Str→Option Value}{base:Heap}{d d':Nat}{a:Addr}{sem:List Ar→Ks→R (Val × Ks)}(h:FnS P W g clA mg base d a sem)(hd:d≤d'):FnS P W g clA mg base d' a sem:=
 fun A outer s H us vs Q E w args κ hr=>h A outer s H us vs Q E w args κ (hr.mono hd)
def AllV:List Ar→Prop
 | []=>True
 | .v _::l=>AllV l
 | .x _::_=>False
theorem ros_v {g:Gx}{X:Cx}{ρ:Rho}{w:Wd}{H:Hp}:∀ {args:List Ar} {xs:List V},ROs g X ρ w H args xs→AllV args→RAs g w H args xs
 | _,_,.nil,_=>.nil
 | _,_,.cons (.v r) t,h=>.cons (.v r) (ros_v t h)
 | _,_,.cons (.x _) _,h=>h.elim
 | _,_,.cons (.many _ _ _ _ _) _,h=>h.elim
 | _,_,.cons (.one _ _ _) _,h=>h.elim
theorem FE_call {p:Pl}{d:Nat}{a:Addr}{x:Str}{e:Expr}{es:List Expr}{n:Rho→Ks→R (List Ar × Ks)}{np pos:Pos}{sem:List Ar→Ks→R (Val × Ks)}(F:FnF p.X.prog p.X.w p.g p.clA p.X.mg p.X.base d a sem)(hK:p.X.K=p.g.K)(hr:RoomP d p.X.A)(tk:L2N.Takes p.X p.W)(hg:Gl p.X x)(hm:p.X.mg x=some (.ref a))(hk:PySem.W.keepIn p.X.K (.ref a)=true)
  (ha:SA p (e::es) n) (hv:∀ ρ κ q,n ρ κ=.ok q→AllV q.1) (hdb:(x == ("__debug__" : Str))=false) (he:starEach (e::es) p.X.env=(false,eval e p.X.env)::starEach es p.X.env) (hpl:(backTo pos (starEach es p.X.env)).any (·.1)=false) :
  FE p (.Call (.Name x np) (e::es) [] pos) (fun ρ κ=>(n ρ κ).bind fun q=>sem q.1 q.2):=by
 refine ⟨fun pins s σ H Q I ⟨w,ρ,κ,re,wf,po⟩=>wpAny_Call_Name_kw (ld_glob I hg hm ?_ hdb)⟩
 refine PySem.W.callWith_K (h₀:=p.X.base) I.ok.mod.kin hk (thn (ha.run pos pins s σ H (fun vs H1=>∃ w1 κ1 args,Ext w H w1 H1∧WF p.g w1 κ1 H1∧RAs p.g w1 H1 args vs∧Post p.g p.clA (rF p.g H) w1 H1 (sem args κ1) Q (fun c d H'=>p.W c d σ H')) I
  ⟨w,ρ,κ,re,wf,?_⟩) fun us s1 ⟨vs,H1,I1,r,w1,κ1,args,ex,wf1,rl,po1⟩=>⟨I1.kIn,?_⟩) he hpl
 ·have po:Post p.g p.clA (rF p.g H) w H ((n ρ κ).bind fun q=>sem q.1 q.2) Q (fun c d H'=>p.W c d σ H'):=po
  have hv:=hv ρ κ
  generalize n ρ κ=z at po hv ⊢
  cases z with
  | ok q=>
   intro xs w1 H1 e1 wf1 rl
   refine ⟨w1,q.2,q.1,e1,wf1,ros_v rl (hv q rfl),?_⟩
   have po:Post p.g p.clA (rF p.g H) w H (sem q.1 q.2) Q (fun c d H'=>p.W c d σ H'):=po
   generalize sem q.1 q.2=z2 at po ⊢
   cases z2 with
   | ok q2=>exact fun y w2 H2 e2=>po y w2 H2 (e1.trans e2)
   | exc c v κ'=>
    cases v with
    | non=>exact fun w2 H2 e2=>po w2 H2 (e1.trans e2)
    | _=>exact po
   | bad=>exact po
  | exc c v κ'=>
   cases v with
   | non=>exact po
   | _=>exact po
  | bad=>exact po
 ·show wpAny _ _ (call (.ref a) us) _ _ _
  have e0:=I1.env0
  rw [hK] at e0
  have po2:Post p.g p.clA (rF p.g H1) w1 H1 (sem args κ1) Q (fun c d H'=>p.W c d σ H'):=by
   refine Post.weak (p:=p) po1 fun w' H' κ' v x _ r => ?_
   obtain ⟨l,b,xs,h1,h2,hn,r⟩:=r
   exact ⟨l,b,xs,h1,h2,ex.dm b hn,r⟩
  refine wpAny_call (codeAny_mono (F p.X.A p.X.stack s1 H1 us vs Q (fun c d H'=>p.W c d σ H') w1 args κ1 hr e0 r wf1 rl po2) fun r s' hq => ?_)
  cases r with
  | error e=>exact tk _ _ (L2N.XE.of_call (E:=fun c d H'=>p.W c d σ H') I1 (fun _ _ _ z=>z) hq)
  | ok fl=>
   cases fl with
   | ret u=>exact I1.after hq
   | next=>exact False.elim hq
   | brk=>exact False.elim hq
   | cont=>exact False.elim hq
end PL
end
section
namespace PL
open PySem PySem.Spec PyProof.Rows L2 LamX NdefX HotX F
section
variable {prog:Program}{w:World}{A:Around}{E:Value→Shared→Prop}{s:Shared}{hx:Addr}
theorem stop_hot {α:Type}{s:Shared}{Q:α→Shared→Prop}(hot:HotAt A hx s.heap)(k:∀ g r,(∀ b o,s.heap.get? b=some o→g.get? b=some o)→(∃ o,g.get? r=some o∧o.cls=.type "StopIteration")→E (.ref r) { s with heap:=g }) :
  wpAny (model prog w) A (newExc (.type "StopIteration") [] >>= fun e=>(raiseNew e:Sem α)) Q E s:=by
 obtain ⟨hh,o1,fs,g1,d1,c1⟩:=hot
 refine wpAny_bind ?_
 simp only [newExc,newTuple]
 refine wpAny_bind (wpAny_newObj_type ?_ (by size_fits))
 refine wpAny_bind (m:=firstArgMember _ _) (wpAny_of_eq (a:=Value.none) (by first|rfl|(simp only [firstArgMember];rfl)) ?_)
 refine wpAny_newObj_type ?_ (by size_fits)
 have g2:=Heap.get?_push_of_some ({ cls:=.type "tuple", data:=.seq ([]:List Value).toArray }:Obj) g1
 refine raiseNew_hot ⟨hh,o1,fs,Heap.get?_push_of_some _ g2,d1,c1⟩ (Nat.ne_of_lt (Heap.lt_size g2)) (Heap.get?_push_size _ rfl) rfl (by first|(simp;done)|(simp;omega)|(simp only [Array.size_append];simp;omega)) ?_
 refine k _ _ (fun b o e => ?_) ⟨_,Heap.get?_update_self _ (Heap.get?_push_size _ rfl) rfl,rfl⟩
 have e2:=Heap.get?_push_of_some ({ cls:=.type "tuple", data:=.seq ([]:List Value).toArray }:Obj) e
 rw [Heap.get?_update_other _ _ (Nat.ne_of_gt (Heap.lt_size e2))]
 exact Heap.get?_push_of_some _ e2
theorem hot_but {q:Addr}{g:Heap}(hot:HotAt A hx s.heap)(n:hx≠q)(k:Heap.SameBut q s.heap g):HotAt A hx g:=by
 obtain ⟨hh,o1,fs,g1,d1,c1⟩:=hot
 exact ⟨hh,o1,fs,k.extBut _ _ n g1,d1,c1⟩
theorem lend_hot {q l0:Addr}{n:Nat}{us:Array Value}{Q:Value→Shared→Prop}(hot:HotAt A hx s.heap)(ne:hx≠q)(st:s.heap.IsListIter q l0 n)(hl:s.heap.IsList l0 us)(none_:us[n]? = none)
  (k:∀ g r,Heap.ExtBut q s.heap g→(∃ o,g.get? r=some o∧o.cls=.type "StopIteration")→E (.ref r) { s with heap:=g }):wpAny (model prog w) A (Builtin.SmallTypes.nextOf (.ref q)) Q E s:=by
 obtain ⟨oq,gq,cq,dq⟩:=id st
 obtain ⟨ol,gl,_,nl,dl⟩:=hl
 unfold Builtin.SmallTypes.nextOf
 refine wpAny_bind (wpAny_callSpecial?_slot (name:=Str.ofString "__next__") st.typeIs slot_listiter_next (wpAny_call_entry slot_listiter_next st.typeIs entry_listiter_next ?_ (args_listiter_next _)))
 show wpAny _ _ (field (.ref q) 0 >>= _) _ _ s
 refine wpAny_bind (wpAny_field gq dq (x:=.ref l0) rfl ?_)
 show wpAny _ _ (if (Value.ref l0 == Value.none)=true then _ else _) _ _ s
 rw [if_neg (show ¬ ((Value.ref l0 == Value.none)=true) from Bool.false_ne_true)]
 show wpAny _ _ (field (.ref q) 1 >>= _) _ _ s
 refine wpAny_bind (wpAny_field gq dq (x:=.int n 0) rfl ?_)
 show wpAny _ _ (seqItems? (.ref l0) >>= _) _ _ s
 refine wpAny_bind (wpAny_seqItems gl dl ?_)
 simp only [Int.toNat_natCast,none_]
 refine wpAny_bind (wpAny_rule (wpAny_bind (wpAny_setField gq dq (by simp) ?_)))
 have hot2:HotAt A.in1 hx (s.heap.update q (Obj.mapFields (·.setIfInBounds 0 Value.none))):=by
  obtain ⟨hh,o1,fs,g1,d1,c1⟩:=hot
  exact ⟨hh,o1,fs,(Heap.get?_update_other _ _ (Ne.symm ne)).trans g1,d1,c1⟩
 exact stop_hot (s:={ s with heap:=s.heap.update q (Obj.mapFields (·.setIfInBounds 0 Value.none)) }) hot2 fun g r kp he=>k g r (fun b o hb e=>kp b o ((Heap.get?_update_other _ _ (Ne.symm hb)).trans e)) he
theorem tend_hot {q t0:Addr}{n:Nat}{us:Array Value}{Q:Option Value→Shared→Prop}(hot:HotAt A hx s.heap)(ne:hx≠q)(st:IsTupIter s.heap q t0 n)(ht:IsTup s.heap t0 us)(none_:us[n]? = none)
  (k:∀ g,Heap.ExtBut q s.heap g→Q none { s with heap:=g }):wpAny (model prog w) A (pyNext (.ref q)) Q E s:=by
 obtain ⟨oq,gq,cq,dq⟩:=id st
 obtain ⟨ol,gl,_,nl,dl⟩:=ht
 unfold pyNext
 refine wpAny_bind (wpAny_attempt (wpAny_callSpecial?_slot (name:=Str.ofString "__next__") st.typeIs slot_tupleiter_next (wpAny_call_entry slot_tupleiter_next st.typeIs entry_tupleiter_next ?_ (args_tupleiter_next _))))
 show wpAny _ _ (field (.ref q) 0 >>= _) _ _ s
 refine wpAny_bind (wpAny_field gq dq (x:=.ref t0) rfl ?_)
 show wpAny _ _ (if (Value.ref t0 == Value.none)=true then _ else _) _ _ s
 rw [if_neg (show ¬ ((Value.ref t0 == Value.none)=true) from Bool.false_ne_true)]
 show wpAny _ _ (field (.ref q) 1 >>= _) _ _ s
 refine wpAny_bind (wpAny_field gq dq (x:=.int n 0) rfl ?_)
 show wpAny _ _ (seqItems? (.ref t0) >>= _) _ _ s
 refine wpAny_bind (wpAny_seqItems gl dl ?_)
 simp only [Int.toNat_natCast,none_]
 refine wpAny_bind (wpAny_rule (wpAny_bind (wpAny_setField gq dq (by simp) ?_)))
 have hot2:HotAt A.in1 hx (s.heap.update q (Obj.mapFields (·.setIfInBounds 0 Value.none))):=by
  obtain ⟨hh,o1,fs,g1,d1,c1⟩:=hot
  exact ⟨hh,o1,fs,(Heap.get?_update_other _ _ (Ne.symm ne)).trans g1,d1,c1⟩
 refine stop_hot (s:={ s with heap:=s.heap.update q (Obj.mapFields (·.setIfInBounds 0 Value.none)) }) hot2 fun g r kp he => ?_
 refine wpAny_bind (wpAny_isInstance (T := "StopIteration") (b:=true) he isSubtype_stop ?_)
 exact wpAny_pure (k g fun b o hb e=>kp b o ((Heap.get?_update_other _ _ (Ne.symm hb)).trans e))
theorem unpack_hot {t0:Addr}{us:Array Value}{Q:List Value→Shared→Prop}(hot:HotAt A hx s.heap)(ht:IsTup s.heap t0 us)
  (k:∀ g,Heap.ExtBut s.heap.objs.size s.heap g→Q us.toList { s with heap:=g }):wpAny (model prog w) A (unpackItems (.ref t0) us.size none) Q E s:=by
 have below:t0≠s.heap.objs.size:=by
  obtain ⟨o,g,_⟩:=ht
  exact Nat.ne_of_lt (Heap.lt_size g)
 unfold unpackItems
 refine wpAny_bind ?_
 unfold notIterableAtAll
 refine wpAny_bind (wpAny_specialOf ht.typeIs PyProof.Rows.slot_tuple_iter.lookup (wpAny_pure ?_))
 simp only [Bool.false_eq_true,if_false]
 refine wpAny_bind (wpAny_holding (iter_tuple ht (wpAny_bind (wpAny_holding (draw_tuple below us.size 0 _ _ ⟨_,Heap.get?_push_size _ rfl,rfl,rfl⟩ (ht.push _) (by omega) fun g1 st1 kp1 => ?_)))))
 have whole:List.take us.size (List.drop 0 us.toList)=us.toList:=by rw [List.drop_zero,List.take_of_length_le (by simp)]
 rw [whole,if_neg (by simp)]
 have t1:IsTup g1 t0 us:=(ht.push _).extBut kp1.extBut below
 obtain ⟨hh,o1,fs,h1,d1,c1⟩:=hot
 have nx:hx≠s.heap.objs.size:=Nat.ne_of_lt (Heap.lt_size h1)
 refine wpAny_bind (wpAny_holding (tend_hot (hx:=hx) ⟨hh,o1,fs,kp1.extBut _ _ nx (Heap.get?_push_of_some _ h1),d1,c1⟩ nx st1 t1 (by simp) fun g2 kp2 => ?_))
 simp only [Option.isSome_none,Bool.false_eq_true,if_false]
 exact wpAny_pure (k g2 fun b o hb e=>kp2 b o hb (kp1.extBut b o hb (Heap.get?_push_of_some _ e)))
theorem zend_hot {z TI TO i1 i2 l1 l2:Addr}{k1 k2:Nat}{us vs:Array Value}{a b:Value}{Q:Option Value→Shared→Prop}(hot:HotAt A hx s.heap)(nz:hx≠z)(nO:hx≠TO)(n1:hx≠i1)(n2:hx≠i2)(D:ZipApart z TI TO i1 i2 l1 l2)
  (gz:IsZip s.heap z TI TO .none) (gI:IsPair s.heap TI (.ref i1) (.ref i2)) (gO:IsPair s.heap TO a b) (s1:s.heap.IsListIter i1 l1 k1) (s2:s.heap.IsListIter i2 l2 k2) (e1:s.heap.IsList l1 us) (e2:s.heap.IsList l2 vs)
  (fin:us[k1]? = none∨vs[k2]? = none) (k:∀ g,(∀ c o,c≠z→c≠TO→c≠i1→c≠i2→s.heap.get? c=some o→g.get? c=some o)→Q none { s with heap:=g }):wpAny (model prog w) A (pyNext (.ref z)) Q E s:=by
 have ty:s.TypeIs (.ref z) "zip" := ⟨_,gz,rfl⟩
 unfold pyNext
 refine wpAny_bind (wpAny_attempt (wpAny_callSpecial?_slot (name:=Str.ofString "__next__") ty F.slot_zip_next (wpAny_call_entry F.slot_zip_next ty F.entry_zip_next ?_ (F.args_zip_next_1 _))))
 have last:∀ g r,(∀ c o,c≠z→c≠TO→c≠i1→c≠i2→s.heap.get? c=some o→g.get? c=some o)→(∃ o,g.get? r=some o∧o.cls=.type "StopIteration") →
   wpAny (model prog w) A (do if (← isInstance (.ref r) (.type "StopIteration")) then pure none else throw (.ref r)) Q E { s with heap:=g }:=fun g r kp he=>
  wpAny_bind (wpAny_isInstance (T := "StopIteration") (b:=true) he isSubtype_stop (wpAny_pure (k g kp)))
 show wpAny _ _ (field (.ref z) 2 >>= _) _ _ s
 refine wpAny_bind (wpAny_field gz rfl (x:=.bool false) rfl ?_)
 show wpAny _ _ (field (.ref z) 3 >>= _) _ _ s
 refine wpAny_bind (wpAny_field gz rfl (x:=.ref TI) rfl (wpAny_bind (wpAny_seqItems gI rfl ?_)))
 show wpAny _ _ (Builtin.SmallTypes.ownedTupleIsFree (.ref z) >>= _) _ _ s
 refine wpAny_bind ?_
 unfold Builtin.SmallTypes.ownedTupleIsFree
 refine wpAny_bind (wpAny_field gz rfl (x:=.none) rfl (wpAny_pure ?_))
 simp only [if_true]
 refine wpAny_bind (wpAny_rule (wpAny_bind (wpAny_field gz rfl (x:=.ref TO) rfl (wpAny_bind (wpAny_setField_rec gz (by simp) fun g1 gz1 kp1 => ?_)))))
 replace gz1:IsZip g1 z TI TO .ellipsis:=gz1
 have hot1:HotAt A.in1 hx g1:=hot_but (A:=A.in1) hot nz kp1
 refine wpAny_bind ?_
 simp only [List.zipIdx_cons,List.zipIdx_nil,List.forIn_cons,List.forIn_nil]
 refine wpAny_bind (wpAny_bind (wpAny_onRaise ?_))
 show wpAny _ _ (Builtin.SmallTypes.nextOf (.ref i1) >>= _) _ _ _
 cases c1:us[k1]? with
 | none=>
  refine wpAny_bind (lend_hot (hx:=hx) hot1 n1 (s1.extBut kp1.extBut D.i1z) (e1.extBut kp1.extBut D.l1z) c1 fun g2 r kp2 he => ?_)
  obtain ⟨oe,ge,ce⟩:=he
  have gz2:IsZip g2 z TI TO .ellipsis:=kp2 _ _ D.i1z.symm gz1
  have nr:r≠z:=fun q=>by subst q;rw [gz2] at ge;cases ge;simp at ce
  exact wpAny_setField_rec gz2 (by simp) fun g3 _ kp3=>last g3 r (fun c o x1 _ x3 _ q=>kp3.extBut _ _ x1 (kp2 _ _ x3 (kp1.extBut _ _ x1 q))) ⟨oe,kp3.extBut _ _ nr ge,ce⟩
 | some x=>
  have c2:vs[k2]? = none:=by
   rcases fin with q|q
   ·rw [c1] at q;cases q
   ·exact q
  refine wpAny_bind (wpAny_nextOf_list_item (s1.extBut kp1.extBut D.i1z) (e1.extBut kp1.extBut D.l1z) c1 fun g2 _ kp2=>wpAny_pure ?_)
  have gO2:IsPair g2 TO a b:=kp2.extBut _ _ D.TOi1 (kp1.extBut _ _ D.TOz gO)
  refine wpAny_bind (wpAny_seqItems gO2 rfl (wpAny_bind (wpAny_updateSeq_pair gO2 fun g3 _ kp3=>wpAny_bind (wpAny_letGo (wpAny_pure ?_)))))
  have hot3:HotAt A.in1 hx g3:=hot_but (s:={ s with heap:=g2 }) (hot_but (s:={ s with heap:=g1 }) hot1 n1 kp2) nO kp3
  refine wpAny_bind (wpAny_bind (wpAny_onRaise ?_))
  show wpAny _ _ (Builtin.SmallTypes.nextOf (.ref i2) >>= _) _ _ _
  refine wpAny_bind (lend_hot (hx:=hx) hot3 n2 (((s2.extBut kp1.extBut D.i2z).extBut kp2.extBut D.i12.symm).extBut kp3.extBut D.TOi2.symm) (((e2.extBut kp1.extBut D.l2z).extBut kp2.extBut D.l2i1).extBut kp3.extBut D.l2TO) c2 fun g4 r kp4 he => ?_)
  obtain ⟨oe,ge,ce⟩:=he
  have gz4:IsZip g4 z TI TO .ellipsis:=kp4 _ _ D.i2z.symm (kp3.extBut _ _ D.TOz.symm (kp2.extBut _ _ D.i1z.symm gz1))
  have nr:r≠z:=fun q=>by subst q;rw [gz4] at ge;cases ge;simp at ce
  exact wpAny_setField_rec gz4 (by simp) fun g5 _ kp5=>last g5 r (fun c o x1 x2 x3 x4 q=>kp5.extBut _ _ x1 (kp4 _ _ x4 (kp3.extBut _ _ x2 (kp2.extBut _ _ x3 (kp1.extBut _ _ x1 q))))) ⟨oe,kp5.extBut _ _ nr ge,ce⟩
end
def HotX (X:Cx):Prop:=∃ hx,∀ (pins:List (Addr × Obj)) (σ:L2.St) (H:Hp) (s:Shared),Inv X pins σ H s→HotAt X.A hx s.heap
structure ZipSt (a b z TI TO i1 i2:Addr)(n:Nat)(h:Heap):Prop where
 z:IsZip h z TI TO .none
 i:IsPair h TI (.ref i1) (.ref i2)
 o:∃ x y,IsPair h TO x y
 l:h.IsListIter i1 a n
 r:h.IsListIter i2 b n
section
variable {X:Cx}{pins:List (Addr × Obj)}{σ:L2.St}{H:Hp}{s:Shared}{a b z TI TO i1 i2:Addr}{n:Nat}{E:Value→Shared→Prop}
theorem ZipSt.objs (st:ZipSt a b z TI TO i1 i2 n s.heap):∀ c∈[z,TI,TO,i1,i2],∃ o,s.heap.get? c=some o∧∀ v,o.data ≠ .cell v:=fun c hc=>by
 obtain ⟨gz,gI,⟨x,y,gO⟩,⟨o1,e1,_,d1⟩,o2,e2,_,d2⟩:=st
 have hc:c=z∨c=TI∨c=TO∨c=i1∨c=i2:=by simpa using hc
 rcases hc with q|q|q|q|q <;> subst q
 ·exact ⟨_,gz,fun v q=>nomatch q⟩
 ·exact ⟨_,gI,fun v q=>nomatch q⟩
 ·exact ⟨_,gO,fun v q=>nomatch q⟩
 ·exact ⟨o1,e1,fun v q=>by rw [d1] at q;cases q⟩
 ·exact ⟨o2,e2,fun v q=>by rw [d2] at q;cases q⟩
theorem ZipSt.keep {h h':Heap}(st:ZipSt a b z TI TO i1 i2 n h)(k:∀ c∈[z,TI,TO,i1,i2],∀ o,h.get? c=some o→h'.get? c=some o):ZipSt a b z TI TO i1 i2 n h':=by
 obtain ⟨gz,gI,⟨x,y,gO⟩,s1,s2⟩:=st
 exact ⟨k z (by simp) _ gz,k TI (by simp) _ gI,⟨x,y,k TO (by simp) _ gO⟩,s1.at fun o q=>k i1 (by simp) o q,s2.at fun o q=>k i2 (by simp) o q⟩
theorem zstep {elts:List Expr}{kk:Nat}{tpos:Pos}(D:ZipApart z TI TO i1 i2 a b)(I:Inv X pins σ H s)(hf:∀ c∈[z,TI,TO,i1,i2],FpOk X pins H c)(st:ZipSt a b z TI TO i1 i2 n s.heap){xs ys:List V}{x y:V}(qx:SqL X.K H a xs)(qy:SqL X.K H b ys)(gx:xs[n]? = some x)(gy:ys[n]? = some y) :
  wpAny (model X.prog X.w) X.A (pyNext (.ref z)) (fun r s1=>∃ u,r=some u∧wpAny (model X.prog X.w) X.A (letOwnedTupleGo (.Tuple elts kk tpos) (.ref z) u) (fun _ s2=>∃ T,H T=none∧u=.ref T∧Inv X pins σ (upd H T (.tup [x,y])) s2∧ZipSt a b z TI TO i1 i2 (n+1) s2.heap∧∀ c∈[z,TI,TO,i1,i2],upd H T (.tup [x,y]) c=none) E s1) E s:=by
 obtain ⟨gz,gI,⟨x0,y0,gO⟩,s1,s2⟩:=st
 obtain ⟨us,rv,p1,_⟩:=I.list qx
 obtain ⟨vs,rw',p2,_⟩:=I.list qy
 obtain ⟨u,hu,ru⟩:=rv.get gx
 obtain ⟨v,hv,rv2⟩:=rw'.get gy
 have low:∀ c∈[z,TI,TO,i1,i2],c<s.heap.objs.size:=fun c hc=>by
  obtain ⟨o,e,_⟩:=ZipSt.objs (s:=s) ⟨gz,gI,⟨x0,y0,gO⟩,s1,s2⟩ c hc
  exact Heap.lt_size e
 have zl:=low z (by simp)
 refine wpAny_pyNext_zip_item D gz gI gO s1 s2 p1.isList p2.isList (x:=u) (y:=v) (by simpa using hu) (by simpa using hv) fun g gz' gO' s1' s2' gT sz kp=>⟨_,rfl,?_⟩
 refine wpAny_letOwnedTupleGo_zip (s:={ s with heap:=g }) gz' fun g2 gz2 kp2 => ?_
 have gT2:g2.get? s.heap.objs.size=some { cls:=.type "tuple", data:=.seq #[u,v] }:=(kp2.2 _ (Nat.ne_of_gt zl)).trans gT
 have obj:ObjOk X.prog X.w (upd H s.heap.objs.size (.tup [x,y])) g2 s.heap.objs.size (.tup [x,y]):=⟨by show 2≤sizeLine;decide,[u,v],.cons ru (.cons rv2 .nil),⟨_,gT2,rfl,_,rfl⟩⟩
 have nn:∀ {c d:Addr},c ∉ [z,TI,TO,i1,i2]→d∈[z,TI,TO,i1,i2]→c≠d:=fun h1 h2 q=>h1 (by rw [q];exact h2)
 have I1:Inv X pins σ (upd H s.heap.objs.size (.tup [x,y])) { s with heap:=g2 }:=
  I.turnedNew (t':=s.toks) (ch:=[z,TI,TO,i1,i2]) (fun c o nc q=>(kp2.2 c (nn nc (by simp))).trans (kp c o (nn nc (by simp)) (nn nc (by simp)) (nn nc (by simp)) (nn nc (by simp)) q)) hf (Nat.le_refl _) obj
 refine ⟨s.heap.objs.size,I.hok.fresh (Nat.le_refl _),rfl,I1,⟨gz2,?_,⟨u,v,?_⟩,?_,?_⟩,fun c hc => ?_⟩
 ·exact (kp2.2 _ D.TIz).trans (kp _ _ D.TIz D.TITO D.TIi1 D.TIi2 gI)
 ·exact (kp2.2 _ D.TOz).trans gO'
 ·exact s1'.at fun o q=>(kp2.2 _ D.i1z).trans q
 ·exact s2'.at fun o q=>(kp2.2 _ D.i2z).trans q
 ·rw [upd_ne (Nat.ne_of_lt (low c hc))]
  exact (hf c hc).1
theorem zstop {hx:Addr}(D:ZipApart z TI TO i1 i2 a b)(I:Inv X pins σ H s)(hot:HotAt X.A hx s.heap)(nx:hx ∉ [z,TI,TO,i1,i2])(hf:∀ c∈[z,TI,TO,i1,i2],FpOk X pins H c)(st:ZipSt a b z TI TO i1 i2 n s.heap){xs ys:List V}(qx:SqL X.K H a xs)(qy:SqL X.K H b ys)(e:xs.length≤n∨ys.length≤n) :
  wpAny (model X.prog X.w) X.A (pyNext (.ref z)) (fun r s1=>r=none∧Inv X pins σ H s1) E s:=by
 obtain ⟨gz,gI,⟨x0,y0,gO⟩,s1,s2⟩:=st
 obtain ⟨us,rv,p1,_⟩:=I.list qx
 obtain ⟨vs,rw',p2,_⟩:=I.list qy
 have h1:=rv.length
 have h2:=rw'.length
 have fin:us.toArray[n]? = none∨vs.toArray[n]? = none:=by
  rcases e with q|q
  ·exact .inl (by simp;omega)
  ·exact .inr (by simp;omega)
 have nn:∀ {d:Addr},d∈[z,TI,TO,i1,i2]→hx≠d:=fun h q=>nx (by rw [q];exact h)
 have nc:∀ {c d:Addr},c ∉ [z,TI,TO,i1,i2]→d∈[z,TI,TO,i1,i2]→c≠d:=fun h1 h2 q=>h1 (by rw [q];exact h2)
 refine zend_hot hot (nn (by simp)) (nn (by simp)) (nn (by simp)) (nn (by simp)) D gz gI gO s1 s2 p1.isList p2.isList fin fun g kp=>⟨rfl,?_⟩
 exact I.turnedL (t':=s.toks) (ch:=[z,TI,TO,i1,i2]) (fun c o n q=>kp c o (nc n (by simp)) (nc n (by simp)) (nc n (by simp)) (nc n (by simp)) q) hf
end
theorem pg_pair {X:Cx}{i j:Nat}{x y:Str}{kk:Nat}{p1 p2 pos:Pos}(hot:HotX X)(hN:X.N.Nodup)(hi:X.N[i]? = some x)(hj:X.N[j]? = some y)(hx:Loc X.env.scope x)(hy:Loc X.env.scope y)(fx:X.fn x=true∨X.env.scope.names.lookup x=some .local)(fy:X.fn y=true∨X.env.scope.names.lookup y=some .local) :
  PG X (.Tuple [.Name x p1,.Name y p2] kk pos) (fun v σ H Q=>∃ a u w,v=.ref a∧SqT X.K H a [u,w]∧Q ((σ.set i (some u)).set j (some w)) H):=by
 have two:PGs X [.Name x p1,.Name y p2] (gCons (gName i) (gCons (gName j) gNil)):=pgs_cons (pg_name hN hi hx fx) (pgs_cons (pg_name hN hj hy fy) pgs_nil)
 obtain ⟨hx,hot⟩:=hot
 refine ⟨fun pins s σ H v u Q I r h => ?_⟩
 obtain ⟨a,c,d,rfl,hq,hQ⟩:=h
 cases r
 obtain ⟨its,rv,ht,hz⟩:=I.tuple hq
 have hl:its.toArray.size=2:=by rw [List.size_toArray,← rv.length];rfl
 rw [assign_Tuple]
 refine wpAny_bind (wpAny_standAt ?_)
 unfold unpack
 show wpAny _ _ (holding [.ref a] (unpackItems (.ref a) 2 none) >>= _) _ _ _
 rw [← hl]
 refine wpAny_bind (wpAny_holding (unpack_hot (hot _ _ _ _ I) ht fun g kp => ?_))
 have I1:Inv X pins σ H { s with heap:=g }:=I.kept (t':=s.toks) fun b o e=>kp b o (Nat.ne_of_lt (Heap.lt_size e)) e
 exact two.run pins _ σ H [c,d] _ Q I1 (by simpa using rv) ⟨c,[d],rfl,d,[],rfl,rfl,hQ⟩
section
variable {X:Cx}{elt one other:Expr}{tests:List Expr}{scope:Scope}{own:List (Str × Nat)}{elts:List Expr}{kk:Nat}{tpos pos zp cp:Pos}{ta:TA}{g:TG}{tt:TT}{te:TE}
def tZc (K:PySem.W.Frag)(ta:TA)(g:TG)(tt:TT)(te:TE)(vs:List Nat):TE:=fun σ H Q=>ta σ H fun zs H1=>∃ a b xs ys,zs=[.ref a,.ref b]∧SqL K H1 a xs∧SqL K H1 b ys∧xs.length=ys.length∧∀ D,H1 D=none →
  ∃ W : Nat → Hp → Prop, W 0 (upd H1 D (.lst [])) ∧ (∀ i H, W i H → SqL K H a xs ∧ SqL K H b ys) ∧ (∀ H, W xs.length H → Q (.ref D) H) ∧
    ∀ (i : Nat) (x y : V) (T : Addr) (H : Hp), W i H → xs[i]? = some x → ys[i]? = some y → H T = none → g (.ref T) (wipe σ vs) (upd H T (.tup [x, y])) fun σ2 H2 => wipe σ2 vs = wipe σ vs ∧ tt σ2 H2 fun c H3 =>
      if c=true then te σ2 H3 fun y H4=>∃ acc,H4 D=some (.lst acc)∧acc.length<sizeLine∧W (i+1) (upd H4 D (.lst (acc++[y]))) else W (i+1) H3
theorem pe_zc (hc:L2H.HotC X)(hN:X.N.Nodup)(hg:Gl X "zip")(hm:X.mg "zip" = none)(ha:PA X [one,other] ta)(hs1:starEach [one,other] X.env=(false,eval one X.env)::starEach [other] X.env)(hs2:(backTo cp (starEach [other] X.env)).any (·.1)=false)(ok:BlkOk X.N X.env.scope scope own)
  (hG:∀ (s:Shared) (H:Hp) (C:Addr) (cl:List (Str × Addr)) (fp:List Addr),HotX (blkX X scope s H C cl fp)→PG (blkX X scope s H C cl fp) (.Tuple elts kk tpos) g)
  (hT:∀ (s:Shared) (H:Hp) (C:Addr) (cl:List (Str × Addr)) (fp:List Addr),PTs (blkX X scope s H C cl fp) tests tt) (hE:∀ (s:Shared) (H:Hp) (C:Addr) (cl:List (Str × Addr)) (fp:List Addr),PE (blkX X scope s H C cl fp) elt te)
  (hF:∀ x,foldedSetIterable (.Call (.Name "zip" zp) [one,other] [] cp) X.env x=pure x):PE X (.ListComp elt [⟨.Tuple elts kk tpos,.Call (.Name "zip" zp) [one,other] [] cp,tests,0⟩] scope pos) (tZc X.K ta g tt te (own.map (·.2))):=by
 obtain ⟨pE,⟨hh,ctx,dctx,ectx⟩,pMem⟩:=hc
 refine ⟨fun pins s σ H Q I h => ?_⟩
 rw [eval_ListComp]
 have fr:∀ y∈scope.names,y.2=.free→∃ c,X.env.cells.lookup y.1=some c:=fun y hy e=>(ok.free y hy e).elim (fun k=>I.ok.has _ (.inl k)) fun k=>I.ok.has _ (.inr k)
 refine wpAny_comprehension_free (use:=none) rfl hF (closure_ok fr) ok.kind (fun y hy e=>by rw [ok.uniq y hy,e]) ?_
 refine Call_ (ld_blt I hg hm PyProof.Rows.boot_zip (PyProof.Rows.callWith_type1 (thn (ha.run cp pins s σ H _ I h) fun us s1 ⟨zs,H1,I1,r1,q1⟩ => ?_) hs1 hs2))
 obtain ⟨a,b,xs,ys,ez,qa,qb,hlen,q⟩:=q1
 subst ez
 cases r1 with
 | cons ra rest=>
  cases rest with
  | cons rb rest=>
   cases rest
   cases ra
   cases rb
   obtain ⟨us1,_,pl1,_⟩:=I1.list qa
   obtain ⟨us2,_,pl2,_⟩:=I1.list qb
   refine call_zip_2 pl1.isList pl2.isList fun g0 gz gI gO li1 li2 _ kp=>wpAny_pyIter_zip gz ?_
   have I2:Inv X pins σ H1 { s1 with heap:=g0 }:=I1.kept (t':=s1.toks) kp
   generalize hz:s1.heap.objs.size+4=z at *
   generalize hTI:s1.heap.objs.size+2=TI at *
   generalize hTO:s1.heap.objs.size+3=TO at *
   generalize hi1:s1.heap.objs.size=i1 at *
   generalize hi2:i1+1=i2 at *
   have AP:ZipApart z TI TO i1 i2 a b:=by
    have:=PySem.W.ktu_apart s1.heap.objs.size a b pl1.lt pl2.lt
    rw [hi1] at this
    rw [← hz,← hTI,← hTO,← hi2]
    exact this
   have fresh:∀ c∈[z,TI,TO,i1,i2],FpOk X pins H1 c:=fun c hc=>by
    have hc:c=z∨c=TI∨c=TO∨c=i1∨c=i2:=by simpa using hc
    have ge:s1.heap.objs.size≤c:=by omega
    exact I1.fpOk ge (I1.hok.fresh ge)
   have st0:ZipSt a b z TI TO i1 i2 0 g0:=⟨gz,gI,⟨_,_,gO⟩,li1,li2⟩
   generalize es2:({ s1 with heap:=g0 }:Shared)=s2 at I2 ⊢
   have st2:ZipSt a b z TI TO i1 i2 0 s2.heap:=by rw [← es2];exact st0
   refine wpAny_newObj_type (newEnv_comp ?_) (by show 0≤sizeLine;decide)
   generalize eD:s2.heap.objs.size=D
   have nD:H1 D=none:=I2.hok.fresh (Nat.le_of_eq eD)
   obtain ⟨W,w0,wq,wend,wgo⟩:=q D nD
   generalize es3:({ s2 with heap:=s2.heap.push { cls:=.type "list", data:=.seq ([]:List Value).toArray } }:Shared)=s3
   have up3:∀ c o,s2.heap.get? c=some o→s3.heap.get? c=some o:=fun c o e=>by rw [← es3];exact Heap.get?_push_of_some _ e
   have I3:Inv X pins σ (upd H1 D (.lst [])) s3:=by
    rw [← es3]
    refine I2.laid (t':=s2.toks) (fun c o e=>Heap.get?_push_of_some _ e) (Nat.le_of_eq eD) ⟨Nat.zero_le _,[],0,.nil,?_⟩
    rw [← eD]
    exact Heap.get?_push_size _ rfl
   have lowD:∀ c∈[z,TI,TO,i1,i2],c<D:=fun c hc=>by
    obtain ⟨o,e,_⟩:=ZipSt.objs (s:=s2) st2 c hc
    rw [← eD]
    exact Heap.lt_size e
   have sz3:s3.heap.objs.size=D+1:=by rw [← es3,← eD];exact Heap.size_push ..
   have f3:∀ c∈[z,TI,TO,i1,i2],FpOk X pins (upd H1 D (.lst [])) c∧c<s3.heap.objs.size:=fun c hc=>by
    have lt:=lowD c hc
    exact ⟨⟨by rw [upd_ne (Nat.ne_of_lt lt)];exact (fresh c hc).1,(fresh c hc).2⟩,by rw [sz3];omega⟩
   have st3:ZipSt a b z TI TO i1 i2 0 s3.heap:=st2.keep fun c _ o e=>up3 c o e
   have I4:=block_start I3 ok hN f3
   have pinAt:=I3.pin pE (List.mem_append_left _ pMem)
   have pOut:pE.1 ∉ [z,TI,TO,i1,i2]:=fun hm=>(f3 _ hm).1.2.2.2.2.2 pE (List.mem_append_left _ pMem) rfl
   have pFr:pE.1 ∉ frs X.stack:=fun hm=>(List.mem_cons.mp (I3.stkSub pE.1 hm)).elim pinAt.2.2.1 pinAt.2.2.2.1
   have hotB:∀ (cl:List (Str × Addr)) (pins':List (Addr × Obj)) (σ':L2.St) (H':Hp) (s':Shared),Inv (blkX X scope s3 (upd H1 D (.lst [])) s3.heap.objs.size cl [z,TI,TO,i1,i2]) pins' σ' H' s'→HotAt X.A pE.1 s'.heap:=fun cl pins' σ' H' s' I'=>
    ⟨hh,pE.2,ctx,I'.base.keep pE.1 pE.2 pinAt.1 pinAt.2.1 pFr pOut,dctx,ectx⟩
   have pg:=hG s3 (upd H1 D (.lst [])) s3.heap.objs.size (cellsFrom (s3.heap.objs.size+1) scope.names (cloFrom X.env.cells scope.names [])) [z,TI,TO,i1,i2] ⟨pE.1,hotB _⟩
   have pt:=hT s3 (upd H1 D (.lst [])) s3.heap.objs.size (cellsFrom (s3.heap.objs.size+1) scope.names (cloFrom X.env.cells scope.names [])) [z,TI,TO,i1,i2]
   have pe:=hE s3 (upd H1 D (.lst [])) s3.heap.objs.size (cellsFrom (s3.heap.objs.size+1) scope.names (cloFrom X.env.cells scope.names [])) [z,TI,TO,i1,i2]
   have hotC:=hotB (cellsFrom (s3.heap.objs.size+1) scope.names (cloFrom X.env.cells scope.names []))
   show codeAny _ _ (.compStart (.ListComp elt [⟨.Tuple elts kk tpos,.Call (.Name "zip" zp) [one,other] [] cp,tests,0⟩] scope pos) 0 (.ref z) (.ref D) (compEnvC scope (cellsFrom (s3.heap.objs.size+1) scope.names (cloFrom X.env.cells scope.names [])) s3.heap.objs.size X.env))
    (compPost (model X.prog X.w) X.A X.xe none (EP X pins σ Q) (.ref D) s3.heap.objs.size) { s3 with heap:=pushCells (s3.heap.push { cls:=.type "dict", data:=.dict #[] }) scope.names }
   generalize eC:cellsFrom (s3.heap.objs.size+1) scope.names (cloFrom X.env.cells scope.names [])=cl at I4 pg pt pe hotC ⊢
   have I4:Inv (blkX X scope s3 (upd H1 D (.lst [])) s3.heap.objs.size cl [z,TI,TO,i1,i2]) [] (wipe σ (own.map (·.2))) (upd H1 D (.lst [])) { s3 with heap:=pushCells (s3.heap.push { cls:=.type "dict", data:=.dict #[] }) scope.names }:=I4
   generalize eX:blkX X scope s3 (upd H1 D (.lst [])) s3.heap.objs.size cl [z,TI,TO,i1,i2]=XB at I4 pg pt pe hotC
   have eEx:XB.ex=[z,TI,TO,i1,i2]:=by rw [← eX]
   have ePn:XB.pn=[]:=by rw [← eX]
   generalize es4:({ s3 with heap:=pushCells (s3.heap.push { cls:=.type "dict", data:=.dict #[] }) scope.names }:Shared)=s4 at I4 ⊢
   have st4:ZipSt a b z TI TO i1 i2 0 s4.heap:=st3.keep fun c _ o e=>by rw [← es4];exact pushCells_keeps _ _ _ _ (Heap.get?_push_of_some _ e)
   have n4:∀ c∈[z,TI,TO,i1,i2],upd H1 D (.lst []) c=none:=fun c hc=>(f3 c hc).1.1
   have fB:∀ {σ':L2.St} {H':Hp} {s':Shared},Inv XB [] σ' H' s'→(∀ c∈[z,TI,TO,i1,i2],H' c=none)→∀ c∈[z,TI,TO,i1,i2],FpOk XB [] H' c:=fun {σ' H' s'} I' hn c hc=>
    ⟨hn c hc,(I'.ok.exf c (by rw [eEx];exact hc)).1,I'.ok.exfs c (by rw [eEx];exact hc),.inl (by rw [eEx];exact hc),fun y d e=>(I'.ok.exf c (by rw [eEx];exact hc)).2 y d e,fun p hp=>by rw [ePn] at hp;simp at hp⟩
   have eA:XB.A=X.A:=by rw [← eX]
   have eP:XB.prog=X.prog:=by rw [← eX]
   have eW:XB.w=X.w:=by rw [← eX]
   have eK:XB.K=X.K:=by rw [← eX]
   have loop:codeAny (model X.prog X.w) X.A (.compLoop (.ListComp elt [⟨.Tuple elts kk tpos,.Call (.Name "zip" zp) [one,other] [] cp,tests,0⟩] scope pos) 0 (.ref z) (.ref D) (compEnvC scope cl s3.heap.objs.size X.env))
     (compPost (model X.prog X.w) X.A X.xe none (EP X pins σ Q) (.ref D) s3.heap.objs.size) s4:=by
    refine compLoop_any (fun m s'=>∃ i H',m=xs.length-i∧i≤xs.length∧Inv XB [] (wipe σ (own.map (·.2))) H' s'∧ZipSt a b z TI TO i1 i2 i s'.heap∧(∀ c∈[z,TI,TO,i1,i2],H' c=none)∧W i H') ?_ xs.length ⟨0,_,by simp,Nat.zero_le _,I4,st4,n4,w0⟩
    rintro m s5 ⟨i,H5,rfl,hi,I5,st5,n5,w5⟩
    obtain ⟨qa5,qb5⟩:=wq i H5 w5
    have hot5:HotAt XB.A pE.1 s5.heap:=by rw [eA];exact hotC _ _ _ _ I5
    by_cases hlt:i<xs.length
    case neg=>
     have ei:i=xs.length:=by omega
     subst ei
     have td:=zstop (X:=XB) (E:=fun _ _=>False) AP I5 hot5 pOut (fB I5 n5) st5 (by rw [eK];exact qa5) (by rw [eK];exact qb5) (.inl (Nat.le_refl _))
     rw [eP,eW,eA] at td
     refine thnF td fun r s6 ⟨hr,I6⟩ => ?_
     subst hr
     subst eX
     have I7:Inv X pins σ H5 s6:=I3.call' (ch:=[z,TI,TO,i1,i2]) I6.os I6.base I6.hok I6.bare fun c hc=>⟨(f3 c hc).1.2.2.2.1,(f3 c hc).1.2.1,(f3 c hc).1.2.2.2.2.1,(f3 c hc).1.2.2.2.2.2⟩
     have nC:H5 s3.heap.objs.size=none:=I6.free
     obtain ⟨mm,hns,_⟩:=I6.loc
     refine ⟨mm,hns,fun g sb => ?_⟩
     obtain ⟨f0,f1,f2,f4,f5,f6⟩:=I3.fpOk (H':=H5) (Nat.le_refl _) nC
     exact ⟨.ref D,H5,I7.turned (t':=s6.toks) (fun c o hb e=>(sb.2 c hb).trans e) f0 f1 f4 f5 f6,rfl,wend H5 w5⟩
    case pos=>
     have gx:xs[i]? = some xs[i]:=List.getElem?_eq_getElem hlt
     have gy:ys[i]? = some (ys[i]'(by omega)):=List.getElem?_eq_getElem _
     have ti:=zstep (X:=XB) (E:=fun _ _=>False) (elts:=elts) (kk:=kk) (tpos:=tpos) AP I5 (fB I5 n5) st5 (by rw [eK];exact qa5) (by rw [eK];exact qb5) gx gy
     rw [eP,eW,eA] at ti
     refine thnF ti fun r s6 ⟨u,hr,h6⟩ => ?_
     subst hr
     refine thnF h6 fun _ s7 ⟨T,nT,eu,I7,st7,n7⟩ => ?_
     subst eu
     have I7':=I7.pinned (fB I7 n7) (ZipSt.objs st7)
     have run1:=pg.run _ s7 _ _ (.ref T) (.ref T) _ I7' rfl (wgo i _ _ T H5 w5 gx gy nT)
     have exe:XB.xe=fun _ _=>False:=by rw [← eX]
     have env:XB.env=compEnvC scope cl s3.heap.objs.size X.env:=by rw [← eX]
     rw [eP,eW,eA,exe,env] at run1
     refine thnF run1 fun _ s8 ⟨σ8,H8,I8,hw8,q8⟩ => ?_
     have run2:=pt.run _ s8 σ8 H8 _ I8 q8
     rw [eP,eW,eA,exe,env] at run2
     refine thnF run2 fun c s9 ⟨H9,I9,q9⟩ => ?_
     have next:∀ {s':Shared} {H':Hp},Inv XB ([]++pinsAt [z,TI,TO,i1,i2] s7.heap) σ8 H' s'→W (i+1) H' →
       ∃ m,m<xs.length-i∧∃ i H',m=xs.length-i∧i≤xs.length∧Inv XB [] (wipe σ (own.map (·.2))) H' s'∧ZipSt a b z TI TO i1 i2 i s'.heap∧(∀ c∈[z,TI,TO,i1,i2],H' c=none)∧W i H':=fun {s' H'} I' w'=>by
      have held:∀ c∈[z,TI,TO,i1,i2],∀ o,s7.heap.get? c=some o→s'.heap.get? c=some o∧H' c=none:=fun c hc o e=>
       let pp:=I'.pin (c,o) (List.mem_append_right _ (List.mem_append_right _ (mem_pinsAt hc e)))
       ⟨pp.1,pp.2.1⟩
      have hl:(wipe σ (own.map (·.2))).length=σ8.length:=by rw [← hw8,wipe_length]
      refine ⟨xs.length-(i+1),by omega,i+1,H',rfl,hlt,(I'.unpinned (pins:=[])).weak hl (fun j v e => ?_),st7.keep fun c hc o e=>(held c hc o e).1,fun c hc => ?_,w'⟩
      ·rw [← hw8] at e
       exact (wipe_some e).1
      ·obtain ⟨o,e,_⟩:=ZipSt.objs st7 c hc
       exact (held c hc o e).2
     cases c with
     | false=>
      simp only [Bool.false_eq_true,if_false] at q9 ⊢
      exact next I9 q9
     | true=>
      simp only [if_true] at q9 ⊢
      have run3:=pe.run _ s9 σ8 H9 _ I9 q9
      rw [eP,eW,eA,exe,env] at run3
      refine thnF run3 fun y s10 ⟨yv,H10,I10,r10,acc,gD,hz10,w10⟩ => ?_
      have run4:=app_ok (X:=XB) (E:=fun _ _=>False) I10 gD hz10 r10 (Q:=fun _ s'=>∃ m,m<xs.length-i∧∃ i H',m=xs.length-i∧i≤xs.length∧Inv XB [] (wipe σ (own.map (·.2))) H' s'∧ZipSt a b z TI TO i1 i2 i s'.heap∧(∀ c∈[z,TI,TO,i1,i2],H' c=none)∧W i H') fun s11 I11=>next I11 w10
      rw [eP,eW,eA] at run4
      exact thnF run4 fun _ _ z=>z
   exact codeAny_compStart_list loop (wpAny_pyIter_zip st4.z loop)
end
end PL
end
section
namespace PL
open PySem PySem.Spec PyProof.Rows L2 LamX NdefX HotX
theorem call_isP {X:Cx}{a D:Addr}{oe:Obj}(C:ExcC X.K D)(hp:(a,oe)∈X.pn)(hz:Zc (.ref D) none oe)(hf:∃ vs,oe.data=.fields vs):CallR X (.builtin "isinstance") (rIsE X.K D a):=by
 intro pins s σ H xs us Q I r ⟨c,cv,b,ex,hcv,e,q⟩
 subst ex
 cases r with
 | cons r1 rt=>
  cases rt with
  | cons r2 rt=>
   cases rt
   cases r1
   cases hcv _ r2
   have held:=(I.pin (a,oe) (List.mem_append_left _ hp)).1
   have at_:PySem.W.InstAt s.heap a oe D none:=by
    obtain ⟨oc,od,oda,osl⟩:=oe
    obtain ⟨vs,z3⟩:=hf
    obtain ⟨z1,z2⟩:=hz
    dsimp only at z1 z2 z3
    subst z1 z2 z3
    exact ⟨held,rfl,rfl,trivial⟩
   exact PySem.W.kia_one (PySem.W.handS_kitx_exc C.hg C.hk C.hs C.hd C.ha C.hn C.ht C.hm) I.kIn at_ e (fun z=>nomatch z) fun tk=>⟨.bl b,H,I.kept (t':=tk) fun _ _ z=>z,rfl,q⟩
section
variable {p:Pl}{a b:Expr}{ma mb:Rho→Ks→R (Val × Ks)}{ms:Rho→Ks→R (List Val × Ks)}{pos q q2 q3 apos:Pos}{i j:Nat}{x y:Str}
def isPin (ρ:Rho)(i:Nat):Bool:=match ρ[i]? with
 | some (some .pin)=>true
 | _=>false
theorem SE_isE (nb:p.b=false){z D:Addr}{oe:Obj}{c:Str}{cv:Value}{cV:V}{k:Bool}(C:ExcC p.X.K D)(hp:p.X.pn.head? = some (z,oe))(hz:Zc (.ref D) none oe)(hf:∃ vs,oe.data=.fields vs)(hg:Gl p.X "isinstance")(hm:p.X.mg "isinstance" = none)
  (hN:p.X.N[i]? = some x) (hv:Vis p.X.env.scope x) (hd:(x == ("__debug__" : Str))=false) (hcd:(x == ("__classdict__" : Str))=false) (hc:PE p.X (.Name c q2) (L2.tC cV)) (hu:∀ u,RelV cV u→u=cv) (hk:PySem.W.kitOne p.X.K (.ref D) cv=some k) :
  SE p (.Call (.Name "isinstance" q) [.Name x q3,.Name c q2] [] pos) (fun ρ κ=>if isPin ρ i=true then .ok (.bl k,κ) else .bad):=
 (pe_callB (call_isP C (List.mem_of_mem_head? (Option.mem_def.mpr hp)) hz hf) hg hm boot_isinstance (pa_cons (pe_var hN hv hd hcd) (pa_cons hc pa_nil rfl) rfl) (by decide) (by decide) rfl (by rfl)).imp fun σ H Q ⟨w,ρ,κ,re,wf,po⟩=>by
  have po:Post p.g p.clA (rV p.g) w H (if isPin ρ i=true then .ok (.bl k,κ) else .bad) Q (fun c d H'=>p.W c d σ H'):=po
  by_cases e:isPin ρ i=true
  case neg=>rw [if_neg e] at po;exact po.elim
  rw [if_pos e] at po
  have at_:σ[i]? = some (some (.ref z)):=by
   unfold isPin at e
   split at e
   ·rename_i er
    rcases re.at_ i _ er with z'|⟨q',h1,h2⟩
    ·rw [nb] at z';cases z'
    ·rw [hp] at h1;cases h1;exact h2
   ·cases e
  exact ⟨.ref z,at_,cV,cv,k,rfl,hu,hk,po _ w H (Ext.refl w H) wf (.bl k)⟩
theorem strs_rv {g:Gx}{I:Addr→Prop}{μ:List Addr}{H:Hp}:∀ l:List Str,RVs g I μ H (l.map .str) (l.map .str)
 | []=>.nil
 | x::l=>.cons (.str x) (strs_rv l)
theorem strsOf_rv {g:Gx}{I:Addr→Prop}{μ:List Addr}{H:Hp}:∀ {l:List Val} {ys:List Str} {xs:List V},strsOf l=some ys→RVs g I μ H l xs→xs=ys.map V.str
 | [],ys,xs,e,r=>by cases e;cases r;rfl
 | .str x::l,ys,xs,e,r=>by
  obtain ⟨zs,h1,h2⟩:=Option.map_eq_some_iff.mp (show (strsOf l).map (x :: ·)=some ys from e)
  subst h2
  cases r with
  | cons r1 rt=>
   cases r1
   rw [strsOf_rv h1 rt]
   rfl
 | .non::_,_,_,e,_=>by cases e
 | .bl _::_,_,_,e,_=>by cases e
 | .int _::_,_,_,e,_=>by cases e
 | .tup _::_,_,_,e,_=>by cases e
 | .lst _::_,_,_,e,_=>by cases e
 | .fn _::_,_,_,e,_=>by cases e
 | .cell _::_,_,_,e,_=>by cases e
 | .scr _::_,_,_,e,_=>by cases e
theorem SE_sm {r:V→List V→Hp→VK→Prop}{m:Sm}{name:Str}(run:∀ {ta tb:TE},PE p.X a ta→PE p.X b tb→PE p.X (.Call (.Attribute a name apos) [b] [] pos) (tM1 r ta tb))
  (hr:∀ {w:Wd} {κ:Ks} {H:Hp} {u:Str} {vb v:Val} {y:V} {Q:VK},WF p.g w κ H→RV p.g w.I w.μ H vb y→smV m u vb=some v→(∀ z w' H',Ext w H w' H'→WF p.g w' κ H'→RV p.g w'.I w'.μ H' v z→Q z H')→r (.str u) [y] H Q)
  (ha:SE p a ma) (hb:SE p b mb):SE p (.Call (.Attribute a name apos) [b] [] pos) (fun ρ κ=>(ma ρ κ).bind fun q=>(R.ofO (strV q.1)).bind fun u=>(mb ρ q.2).bind fun r=>R.ofO ((smV m u r.1).map fun v=>(v,r.2))):=
 (run ha hb).imp fun σ H Q ⟨w,ρ,κ,re,wf,po⟩=>⟨w,ρ,κ,re,wf,Post.bind po fun w1 H1 u κ1 x wf1 e1 rx po1=>by
  cases u with
  | str u=>
   cases rx
   refine ⟨⟨u,rfl⟩,w1,ρ,κ1,re.ext e1 wf,wf1,Post.bind po1 fun w2 H2 v κ2 y wf2 e2 ry po2 => ?_⟩
   obtain ⟨z,ez,k⟩:=Post.some (p:=p) po2
   exact hr wf2 ry ez k
  | _=>exact po1.elim⟩
theorem SE_split (ha:SE p a ma)(hb:SE p b mb)(hs:starEach [b] p.X.env=[(false,eval b p.X.env)])(hbase:attributeBase a "split" p.X.env (eval a p.X.env)=eval a p.X.env)(hline:(apos.endLine == pos.line)=true) :
  SE p (.Call (.Attribute a "split" apos) [b] [] pos) (fun ρ κ=>(ma ρ κ).bind fun q=>(R.ofO (strV q.1)).bind fun u=>(mb ρ q.2).bind fun r=>R.ofO ((smV .split u r.1).map fun v=>(v,r.2))):=
 SE_sm (m:=.split) (fun h1 h2=>pe_split h1 h2 hs hbase hline) (fun {w κ H u vb v y Q} wf ry e k=>by
  cases vb with
  | str z=>
   have e:(if (z.length == 0)=false∧u.length+2≤LINE then some (Val.lst ((Txt.split u z).map .str)) else none)=some v:=e
   split at e
   ·cases e
    cases ry
    rename_i hl
    refine ⟨u,_,rfl,rfl,hl.1,by rw [← Qx8];exact hl.2,fun q hq => ?_⟩
    obtain ⟨e3,wf3,r3⟩:=RV.newLst wf (strs_rv (Txt.split u z)) hq
    exact k _ _ _ e3 wf3 r3
   ·cases e
  | _=>cases e) ha hb
theorem SE_join (hK:p.X.K=p.g.K)(ha:SE p a ma)(hb:SE p b mb)(hs:starEach [b] p.X.env=[(false,eval b p.X.env)])(hbase:attributeBase a "join" p.X.env (eval a p.X.env)=eval a p.X.env)(hline:(apos.endLine == pos.line)=true) :
  SE p (.Call (.Attribute a "join" apos) [b] [] pos) (fun ρ κ=>(ma ρ κ).bind fun q=>(R.ofO (strV q.1)).bind fun u=>(mb ρ q.2).bind fun r=>R.ofO ((smV .join u r.1).map fun v=>(v,r.2))):=
 SE_sm (m:=.join) (fun h1 h2=>pe_join h1 h2 hs hbase hline) (fun {w κ H u vb v y Q} wf ry e k=>by
  cases vb with
  | lst l=>
   have e:(match strsOf l with
    | some ys=>if (ys.map (·.length)).sum+ys.length*u.length≤LINE then some (Val.str (Txt.join u ys)) else none
    | none=>none)=some v:=e
   cases hys:strsOf l with
   | none=>rw [hys] at e;cases e
   | some ys=>
    rw [hys] at e
    have e:(if (ys.map (·.length)).sum+ys.length*u.length≤LINE then some (Val.str (Txt.join u ys)) else none)=some v:=e
    by_cases hl:(ys.map (·.length)).sum+ys.length*u.length≤LINE
    ·rw [if_pos hl] at e
     cases e
     cases ry with
     | lst j h r=>
      cases strsOf_rv hys r
      exact ⟨u,_,ys,rfl,rfl,.inl (SqL.of h),hl,k _ w H (Ext.refl w H) wf (.str _)⟩
    ·rw [if_neg hl] at e
     cases e
  | _=>cases e) ha hb
theorem setTg_two {ρ ρ2:Rho}{u v:Val}(h:setTg (.tp (.cons (.nm i) (.cons (.nm j) .nil))) (.tup [u,v]) ρ=some ρ2):ρ2=(ρ.set i (some (.val u))).set j (some (.val v)):=by
 simp only [setTg,setTgs] at h
 split at h
 ·rename_i ρ' e
  split at e
  ·cases e
   split at h
   ·rename_i ρ'' e2
    split at e2
    ·cases e2;cases h;rfl
    ·cases e2
   ·cases h
  ·cases e
 ·cases h
def sameLen:List Val→Option (List Val)
 | [.lst l,.lst m]=>if l.length=m.length then some (zipL l m) else none
 | _=>none
theorem drop_at {α:Type}{l:List α}{n:Nat}{v:α}(h:l[n]? = some v):l.drop n=v::l.drop (n+1):=by
 obtain ⟨hlt,e⟩:=List.getElem?_eq_some_iff.mp h
 rw [List.drop_eq_getElem_cons hlt,e]
theorem SE_zc {elt one other:Expr}{tests:List Expr}{scope:Scope}{kk:Nat}{tpos zp cp px py:Pos}{mt:Rho→Ks→R (Bool × Ks)}{me:Rho→Ks→R (Val × Ks)}{own:List Nat}(hK:p.X.K=p.g.K)(hc:L2H.HotC p.X)(hN:p.X.N.Nodup)(hg:Gl p.X "zip")(hm:p.X.mg "zip" = none)
  (ha:SEs p [one,other] ms) (hs1:starEach [one,other] p.X.env=(false,eval one p.X.env)::starEach [other] p.X.env) (hs2:(backTo cp (starEach [other] p.X.env)).any (·.1)=false) {ow:List (Str × Nat)} (how:ow.map (·.2)=own) (ok:BlkOk p.X.N p.X.env.scope scope ow)
  (hi:p.X.N[i]? = some x) (hj:p.X.N[j]? = some y) (hi':i∈own) (hj':j∈own)
  (hlx:∀ (s:Shared) (H:Hp) (C:Addr) (cl:List (Str × Addr)) (fp:List Addr),Loc (blkX p.X scope s H C cl fp).env.scope x∧((blkX p.X scope s H C cl fp).fn x=true∨(blkX p.X scope s H C cl fp).env.scope.names.lookup x=some .local))
  (hly:∀ (s:Shared) (H:Hp) (C:Addr) (cl:List (Str × Addr)) (fp:List Addr),Loc (blkX p.X scope s H C cl fp).env.scope y∧((blkX p.X scope s H C cl fp).fn y=true∨(blkX p.X scope s H C cl fp).env.scope.names.lookup y=some .local))
  (ht:∀ (s:Shared) (H:Hp) (C:Addr) (cl:List (Str × Addr)) (fp:List Addr),PTs (blkX p.X scope s H C cl fp) tests (tG (p.blk scope s H C cl fp) (fun _ _ a b=>a=b) mt))
  (he:∀ (s:Shared) (H:Hp) (C:Addr) (cl:List (Str × Addr)) (fp:List Addr),SE (p.blk scope s H C cl fp) elt me)
  (hF:∀ z,foldedSetIterable (.Call (.Name "zip" zp) [one,other] [] cp) p.X.env z=pure z) :
  SE p (.ListComp elt [⟨.Tuple [.Name x px,.Name y py] kk tpos,.Call (.Name "zip" zp) [one,other] [] cp,tests,0⟩] scope pos)
   (fun ρ κ=>(ms ρ κ).bind fun q=>(R.ofO (sameLen q.1)).bind fun l=>(compL l (turnF (.tp (.cons (.nm i) (.cons (.nm j) .nil))) ρ own mt me) q.2).bind fun r=>if r.1.length<LINE then .ok (.lst r.1,r.2) else .bad):=by
 subst how
 refine (pe_zc (g:=fun v σ H Q=>∃ a u w,v=.ref a∧SqT p.X.K H a [u,w]∧Q ((σ.set i (some u)).set j (some w)) H) (te:=tG p.inB (rV p.g) me) (tt:=tG p.inB (fun _ _ a b=>a=b) mt) (ta:=tG p (rVs p.g) ms) hc hN hg hm ha hs1 hs2 ok (fun s H C cl fp hot=>pg_pair (i:=i) (j:=j) hot hN hi hj (hlx s H C cl fp).1 (hly s H C cl fp).1 (hlx s H C cl fp).2 (hly s H C cl fp).2)
  (fun s H C cl fp=>⟨fun pins s' σ H' Q I q=>(ht s H C cl fp).run pins s' σ H' Q I (tG_blk q)⟩) (fun s H C cl fp=>(he s H C cl fp).imp fun _ _ _ q=>tG_blk q) hF).imp fun σ H Q ⟨w0,ρ,κ0,re0,wf0,po⟩=>⟨w0,ρ,κ0,re0,wf0,Post.bind po fun w H1 q κ zs wf e01 rq po => ?_⟩
 have re:=re0.ext e01 wf0
 have po:Post p.g p.clA (rV p.g) w H1 ((R.ofO (sameLen q)).bind fun l=>(compL l (turnF (.tp (.cons (.nm i) (.cons (.nm j) .nil))) ρ (ow.map (·.2)) mt me) κ).bind fun r=>if r.1.length<LINE then .ok (Val.lst r.1,r.2) else .bad) Q (fun c d H'=>p.W c d σ H'):=po
 cases es:sameLen q with
 | none=>rw [es] at po;exact po.elim
 | some l0=>
  rw [es] at po
  unfold sameLen at es
  split at es
  case h_2=>cases es
  rename_i l m
  split at es
  case isFalse=>cases es
  rename_i hlen
  cases es
  cases rq with
  | cons r1 rq=>
   cases rq with
   | cons r2 rq=>
    cases rq
    cases r1 with
    | @lst a xs _ ja ha rl=>
     cases r2 with
     | @lst b ys _ jb hb rm=>
      refine ⟨a,b,xs,ys,rfl,.of ha,.of hb,by rw [← rl.length,← rm.length];exact hlen,fun D hD => ?_⟩
      have po:Post p.g p.clA (rV p.g) w H1 ((compL (zipL l m) (turnF (.tp (.cons (.nm i) (.cons (.nm j) .nil))) ρ (ow.map (·.2)) mt me) κ).bind fun r=>if r.1.length<LINE then .ok (Val.lst r.1,r.2) else .bad) Q (fun c d H'=>p.W c d σ H'):=po
      cases e:compL (zipL l m) (turnF (.tp (.cons (.nm i) (.cons (.nm j) .nil))) ρ (ow.map (·.2)) mt me) κ with
      | bad=>rw [e] at po;exact po.elim
      | exc c v k=>exact absurd e (compL_noexc (fun v κ c p k=>noExc_no _ c p k) _ κ c v k)
      | ok out=>
       rw [e] at po
       have po:Post p.g p.clA (rV p.g) w H1 (if out.1.length<LINE then .ok (Val.lst out.1,out.2) else .bad) Q (fun c d H'=>p.W c d σ H'):=po
       by_cases hl:out.1.length<LINE
       case neg=>rw [if_neg hl] at po;exact po.elim
       rw [if_pos hl] at po
       have nI:¬ w.I D:=fun z=>by
        obtain ⟨zs,q⟩:=wf.dom D z
        rw [hD] at q;cases q
       have nM:D ∉ w.μ:=fun z=>by
        obtain ⟨o,q⟩:=wf.mu_some z
        rw [hD] at q;cases q
       have zlen:(zipL l m).length=xs.length:=by unfold zipL;rw [List.length_map,List.length_zip,← hlen,Nat.min_self,rl.length]
       refine ⟨fun n H=>∃ w2 κ2 acc zs rest,Ext w H1 w2 H∧WF p.g w2 κ2 H∧¬ w2.I D∧D ∉ w2.μ∧H D=some (.lst zs)∧RVs p.g w2.I w2.μ H acc zs ∧
        compL ((zipL l m).drop n) (turnF (.tp (.cons (.nm i) (.cons (.nm j) .nil))) ρ (ow.map (·.2)) mt me) κ2=.ok (rest,out.2)∧out.1=acc++rest,
        ⟨w,κ,[],[],out.1,Ext.upd_new wf hD _,wf.upd_new hD _,nI,nM,upd_same,.nil,by rw [List.drop_zero];exact e,rfl⟩,?_,?_,?_⟩
       ·rintro n H2 ⟨w2,κ2,acc,zs,rest,e2,_⟩
        exact ⟨.of ((e2.keepsI wf).l _ _ ja ha),.of ((e2.keepsI wf).l _ _ jb hb)⟩
       ·rintro H2 ⟨w2,κ2,acc,zs,rest,e2,wf2,nI2,nM2,hDx,ra,ec,eo⟩
        rw [← zlen,List.drop_length] at ec
        have ec:R.ok (([]:List Val),κ2)=R.ok (rest,out.2):=ec
        cases ec
        rw [List.append_nil] at eo
        exact po (.ref D) (w2.fix D) H2 (e2.fix hD) (wf2.fix hDx nM2) (.lst (.inr rfl) hDx (by rw [eo];exact ra.keeps .fix))
       ·rintro n x1 y1 T H2 ⟨w2,κ2,acc,zs,rest,e2,wf2,nI2,nM2,hDx,ra,ec,eo⟩ gx gy nT
        obtain ⟨v1,g1,rv1⟩:=(rl.ext e2 wf).get' gx
        obtain ⟨v2,g2,rv2⟩:=(rm.ext e2 wf).get' gy
        have hv:(zipL l m)[n]? = some (.tup [v1,v2]):=by
         unfold zipL
         have hz:(l.zip m)[n]? = some (v1,v2):=List.getElem?_zip_eq_some.mpr ⟨g1,g2⟩
         rw [List.getElem?_map,hz]
         rfl
        have hlt:n<(zipL l m).length:=(List.getElem?_eq_some_iff.mp hv).1
        have hd:(zipL l m).drop n=.tup [v1,v2]::(zipL l m).drop (n+1):=drop_at hv
        rw [hd] at ec
        obtain ⟨o,κ3,rest',ef,ec',eo'⟩:=compL_cons ec
        obtain ⟨ρ2,et,ef⟩:=Qx7 (noExc_ok ef)
        obtain ⟨bb,eb,ef⟩:=Qx7 ef
        have et:=ofO_ok_inv et
        obtain ⟨e3,wf3,rt⟩:=RV.newTup wf2 (.cons rv1 (.cons rv2 .nil)) nT
        have e13:Ext w H1 w2 (upd H2 T (.tup [x1,y1])):=e2.trans e3
        have reW:RE p.g p.X true w2 (upd H2 T (.tup [x1,y1])) (wipeR ρ (ow.map (·.2))) (L2.wipe σ (ow.map (·.2))):=((re.ext e13 wf).wipe _).blk
        have D3:(upd H2 T (.tup [x1,y1])) D=some (.lst zs):=e3.fr D _ hDx nM2 (by intro _ z;cases z)
        refine ⟨T,x1,y1,rfl,.of upd_same,?_⟩
        have hw2:L2.wipe (((L2.wipe σ (ow.map (·.2))).set i (some x1)).set j (some y1)) (ow.map (·.2))=L2.wipe σ (ow.map (·.2)):=by
         rw [wipe_set hj',wipe_set hi',wipe_wipe σ fun i hi=>hi]
        have re2:RE p.g p.X true w2 (upd H2 T (.tup [x1,y1])) ρ2 (((L2.wipe σ (ow.map (·.2))).set i (some x1)).set j (some y1)):=by
         have s1:=(reW.setV (i:=i) (rv1.ext e3 wf2)).setV (i:=j) (rv2.ext e3 wf2)
         have hlen':(wipeR ρ (ow.map (·.2))).length=ρ.length:=by
          have:=reW.len
          rw [wipe_length,← re.len] at this
          exact this
         have:ρ2=((wipeR ρ (ow.map (·.2))).set i (some (.val v1))).set j (some (.val v2)):=by
          exact setTg_two et
         rw [this]
         exact s1
        refine ⟨hw2,w2,ρ2,κ2,re2,wf3,?_⟩
        rw [eb]
        intro b' w4 H4 e4 wf4 hb
        subst hb
        have e14:Ext w H1 w4 H4:=e13.trans e4
        have dn:(upd H2 T (.tup [x1,y1])) D≠none:=by rw [D3];intro z;cases z
        have D4:H4 D=some (.lst zs):=e4.fr D _ D3 nM2 (by intro _ z;cases z)
        have nI4:¬ w4.I D:=fun z=>(e4.new D z).elim nI2 dn
        have nM4:D ∉ w4.μ:=e4.nomu dn nM2
        have ra4:=(ra.ext e3 wf2).ext e4 wf3
        obtain ⟨cc,κb⟩:=bb
        cases cc with
        | false=>
         have ef:R.ok ((none:Option Val),κb)=R.ok (o,κ3):=ef
         cases ef
         rw [if_neg (show ¬ (false=true) from Bool.false_ne_true)]
         exact ⟨w4,_,acc,zs,rest,e14,wf4,nI4,nM4,D4,ra4,by have eo':rest=rest':=eo';rw [eo'];exact ec',eo⟩
        | true=>
         have ef:((me ρ2 κb).bind fun x=>R.ok (some x.1,x.2))=R.ok (o,κ3):=ef
         obtain ⟨y',ey,ef⟩:=Qx7 ef
         cases ef
         rw [if_pos rfl]
         refine ⟨w4,ρ2,κb,re2.ext e4 wf3,wf4,?_⟩
         rw [ey]
         intro z w5 H5 e5 wf5 rz
         have dn4:H4 D≠none:=by rw [D4];intro z;cases z
         have D5:H5 D=some (.lst zs):=e5.fr D _ D4 nM4 (by intro _ z;cases z)
         have nI5:¬ w5.I D:=fun z=>(e5.new D z).elim nI4 dn4
         have nM5:D ∉ w5.μ:=e5.nomu dn4 nM4
         have ra5:=ra4.ext e5 wf4
         have e15:Ext w H1 w5 H5:=e14.trans e5
         have hacc:(acc++[y'.1]).length≤out.1.length:=by
          rw [eo,(show rest=y'.1::rest' from eo')]
          simp only [List.length_append,List.length_cons,List.length_nil]
          omega
         refine ⟨zs,D5,by rw [← ra5.length,← Qx8];simp only [List.length_append,List.length_cons,List.length_nil] at hacc;omega,w5,y'.2,acc++[y'.1],zs++[z],rest',upd_D e15 hD,wf_upd_own wf5 nI5 nM5 D5 _,nI5,nM5,upd_same,?_,ec',?_⟩
         ·exact (ra5.append (.cons rz .nil)).keeps (keeps_upd_own wf5 nI5 nM5 D5 _)
         ·rw [eo,(show rest=y'.1::rest' from eo')];simp
end
end PL
end
section
namespace PL
open PySem PySem.Spec PyProof.Rows L2 LamX NdefX HotX
def KinS (P:Program)(W:World)(g:Gx)(mg:Str→Option Value)(base:Heap)(d:Nat)(a D:Addr)(S:Str):Prop:=
  ∀ (A : Around) (outer : List Env) (s : Shared) (H : Hp) (q : Addr × Obj) (Q : VK) (E : XK) (w : Wd) (κ : Ks), L2H.RoomH d A → L2H.Hot1 A q → L2H.PinOk outer H s q → Zc (.ref D) none q.2 → Env0 P W g.K mg base A outer s H → WF g w κ H →
    (∀ w' H',Ext w H w' H'→WF g w' κ H'→Q (.str S) H')→codeAny (model P W) A (.call (.ref a) ⟨[.ref q.1],[]⟩) (CR (L2N.CX P W) outer P W H s Q E) s
def kinPl (g:Gx)(clA:Nat→Addr)(P:Program)(W:World)(mg:Str→Option Value)(base:Heap)(N:List Str)(qual:Str)(scope:Scope)(f:Addr)(cd:Value)(A:Around)(outer:List Env)(s:Shared)(H:Hp)(E:XK)(q:Addr × Obj):Pl:=
 ⟨g,clA,L2H.cxH (L2N.CX P W) P W g.K mg base N qual scope f cd A outer s H E q,fun c d _ H'=>E c d H',false⟩
section
variable {P:Program}{W:World}{g:Gx}{clA:Nat→Addr}{mg:Str→Option Value}{base:Heap}{d:Nat}{x par qual:Str}{params:Arguments}{body:List Stmt}{scope:Scope}{kws:List (Str × V)}{f:Addr}{fd:FuncData}{N:List Str}{m:Rho→Ks→O}
theorem kin_of {D:Addr}{S:Str}(F:FunD g.K x qual params body scope [] kws f fd)(Sc:FnScope N [par] scope)(hb:∀ (kV doc pm:Value) (an:Option Addr) (cdv ct:Value) (us:List Value),us.length=[par].length→bindArgs (PySem.W.fnOf x qual params body scope .none kV doc pm an cdv ct) ⟨us,[]⟩=pure ([par].zip us))
  (hbody:∀ cd A outer s H E (q:Addr × Obj),L2H.Hot1 A q→Zc (.ref D) none q.2→(∃ vs,q.2.data=.fields vs)→SSs (kinPl g clA P W mg base N qual scope f cd A outer s H E q) false body m)
  (hm:∀ κ,m (some Slot.pin::List.replicate (N.length-1) none) κ=.ret (.str S) κ):KinS P W g mg base d f D S:=by
 intro A outer s H q Q E w κ hr hot pin hz e0 wf po
 have hB:=F.bindsN hb
 obtain ⟨oc,od,dV,kV,doc,pm,an,cdv,ct,osl,rfl,lk,hcd,hD,hK⟩:=F.ex
 have KX:g.K.In s.heap:=e0.mod.kin.keeps fun b o e=>(e0.bs b o e).1
 have lim:s.heap.NoLimit:=e0.mod.nolimit.keeps fun b o e=>(e0.bs b o e).1
 have hbt:=hB s [.ref q.1] KX rfl
 rw [List.append_nil] at hbt
 have kinds:∀ y∈[par].zip [Value.ref q.1],scope.names.lookup y.1=some .local∨(scope.names.lookup y.1=some .cell∧((cellsFrom (s.heap.objs.size+1) scope.names []).lookup y.1).isSome=true):=fun ⟨n,v⟩ hy=>
  (Sc.par n (List.of_mem_zip hy).1).elim .inl fun k=>.inr ⟨k,PySem.W.cellsFrom_some _ _ _ (.inl k)⟩
 refine codeAny_call_function hr.depth (KX _ _ lk) rfl Sc.co Sc.gen rfl (PySem.W.codeRec_of KX hcd) (hbt _ _ _ _ ?_)
 refine wpAny_newFunctionEnv_cells Sc.kind kinds fun env he s1 x1 => ?_
 subst he
 refine ⟨lim.keeps x1.toInCall.keep,codeAny_func ?_⟩
 have rv:Vals [V.ref q.1] [Value.ref q.1]:=.cons rfl .nil
 have I:=L2H.inv_startH (CX:=L2N.CX P W) (E:=E) (N:=N) Sc pin e0 rfl rv x1
 have hf:∃ vs,q.2.data=.fields vs:=by
  obtain ⟨_,vs,e,_⟩:=hot
  exact ⟨vs,e⟩
 have nl:N.length≠0:=fun z=>by
  have:=congrArg List.length Sc.pre
  rw [List.length_take] at this
  simp [z] at this
 have re:RE g (kinPl g clA P W mg base N qual scope f cdv A outer s H E q).X false w H (some Slot.pin::List.replicate (N.length-1) none) (L2.start N [V.ref q.1]):=by
  refine ⟨?_,fun i sl e => ?_,fun i j l l' a e => ?_⟩
  ·unfold L2.start
   simp
  ·cases i with
   | zero=>
    cases e
    exact .inr ⟨q,rfl,rfl⟩
   | succ i=>
    have e:(List.replicate (N.length-1) none)[i]? = some (some sl):=e
    rw [List.getElem?_replicate] at e
    split at e <;> cases e
  ·cases i with
   | zero=>cases e
   | succ i=>
    have e:(List.replicate (N.length-1) none)[i]? = some (some (Slot.own l)):=e
    rw [List.getElem?_replicate] at e
    split at e <;> cases e
 refine wpAny_mono ((hbody cdv A outer s H E q hot hz hf).run [] s1 _ H { nx:=fun _ H'=>Q .non H',rt:=Q } I ⟨w,w,_,κ,⟨re,wf,Ext.refl w H⟩,?_⟩) (fun fl s' hs => ?_) fun e s' hs=>hs
 ·rw [hm]
  intro y w' H' e1 wf1 r1
  have r1:RV g w'.I w'.μ H' (.str S) y:=r1
  cases r1
  exact po w' H' e1 wf1
 ·cases fl with
  | ret u=>
   obtain ⟨v,σ',H',J,r,hq⟩:=hs
   exact ⟨v,H',J.os,J.bare,J.base,J.hok,r,hq⟩
  | next=>
   obtain ⟨σ',H',J,hq⟩:=hs
   exact ⟨V.non,H',J.os,J.bare,J.base,J.hok,rfl,hq⟩
  | brk=>
   obtain ⟨_,_,_,hq⟩:=hs
   exact False.elim hq
  | cont=>
   obtain ⟨_,_,_,hq⟩:=hs
   exact False.elim hq
end
def tBody (p:Pl)(cl:Nat→List Val→Ks→R (Val × Ks))(i:Nat)(W:WX):TS:=fun D σ H=>∃ w0 w κ k caps x,σ[i]? = some (some x)∧RX1 p.g w H k caps x∧WF p.g w κ H∧Ext w0 p.X.H_0 w H∧match cl k caps κ with
 | .ok q=>∀ y w' H',Ext w0 p.X.H_0 w' H'→WF p.g w' q.2 H'→RV p.g w'.I w'.μ H' (.tup [q.1,.str ⟨#[]⟩]) y→D.rt y H'
 | .exc c .non κ'=>∀ σ' w' H',Ext w0 p.X.H_0 w' H'→WF p.g w' κ' H'→∀ d,DOk p.g c d H'→W (.ref (p.clA c)) d σ' H'
 | _=>False
def tSuite (p:Pl)(kin:Nat→Str)(j:Nat)(a:Addr)(cls:Value)(d:Option Addr):TS:=fun D σ H=>∃ w0 w κ c σ',cls=.ref (p.clA c)∧c<1000∧d=none∧σ=List.set σ' j (some (V.ref a))∧WF p.g w κ H∧Ext w0 p.X.H_0 w H ∧
 ∀ y w' H',Ext w0 p.X.H_0 w' H'→WF p.g w' κ H'→RV p.g w'.I w'.μ H' (.tup [.non,.str (kin c)]) y→D.rt y H'
theorem re_one {g:Gx}{X:Cx}{b:Bool}{w:Wd}{H:Hp}{σ:L2.St}{i:Nat}{sl:Slot}(no:∀ l,sl ≠ .own l)(h:SlotOk g X b w H σ i sl):RE g X b w H ((List.replicate σ.length none).set i (some sl)) σ:=by
 have key:∀ (j:Nat) (u:Slot),((List.replicate σ.length none).set i (some sl))[j]? = some (some u)→i=j∧u=sl:=fun j u e=>by
  rcases Qqc e with ⟨e1,_,e2⟩|⟨_,e⟩
  ·cases e2;exact ⟨e1,rfl⟩
  ·rw [List.getElem?_replicate] at e
   split at e <;> cases e
 refine ⟨by rw [List.length_set,List.length_replicate],fun j u e => ?_,fun j k l m a h1 _ _ _=>absurd (key j _ h1).2.symm (no l)⟩
 obtain ⟨rfl,rfl⟩:=key j u e
 exact h
theorem rdX_one {n i:Nat}{y:Ex}(h:i<n):rdX ((List.replicate n none).set i (some (.ext y))) i=some y:=by
 unfold rdX
 rw [List.getElem?_set_self (by rw [List.length_replicate];exact h)]
theorem SS_came {p:Pl}{d i j k1 k2 c1 c2:Nat}{x n xm kn z:Str}{ka cm:Addr}{p1 p2 p3 p4 p5 p6 p7 p8 p9 p10 p11 p12 p13 p14:Pos}{cl:Nat→List Val→Ks→R (Val × Ks)}{kin:Nat→Str}(F:∀ k,LmS p.X.prog p.X.w p.g p.clA p.X.mg p.X.base d k (cl k))
  (Kn:∀ c,c<1000→KinS p.X.prog p.X.w p.g p.X.mg p.X.base 1 ka (p.clA c) (kin c)) (hK:p.X.K=p.g.K) (hr:RoomP d p.X.A) (tk:L2N.Takes p.X p.W) (hs:p.X.stack=p.X.env::p.X.outer) (hf:p.X.env.frame=some p.X.env.locals) (hN:p.X.N.Nodup) (hj:p.X.N[j]? = some n)
  (hln:p.X.env.kindOf n=some .local) (hc:Names p.X xm (.ref cm)) (hex:∀ c,c<1000→PySem.W.exmOne p.X.K (.ref (p.clA c)) (.ref cm)=some true) (hi:p.X.N[i]? = some x) (hv:Vis p.X.env.scope x) (hd:(x == ("__debug__" : Str))=false) (hcd:(x == ("__classdict__" : Str))=false)
  (hnd:(n == ("__debug__" : Str))=false) (hncd:(n == ("__classdict__" : Str))=false) (hkg:Gl p.X kn) (hkm:p.X.mg kn=some (.ref ka)) (hkk:PySem.W.keepIn p.X.K (.ref ka)=true) (hkd:(kn == ("__debug__" : Str))=false) (hz:z=⟨#[]⟩) :
  SS p false (.Try [.Return (some (.Tuple [.Call (.Name x p1) [] [] p2,.Constant (.str z) c1 p3] k1 p4)) p5] [.ExceptHandler (some (.Name xm p6)) (some n) [.Return (some (.Tuple [.Constant .none c2 p7,.Call (.Name kn p8) [.Name n p9] [] p10] k2 p11)) p12] p13] [] [] p14) (cameO cl kin i):=by
 subst hz
 have bodyOk:∀ (W:WX) (pn:List (Addr × Obj)) (xe:Value→Shared→Prop),L2N.Takes (p.X.tr pn xe) W→PassesOwn (model p.X.prog p.X.w) p.X.A p.X.env xe→PSs (p.X.tr pn xe) [.Return (some (.Tuple [.Call (.Name x p1) [] [] p2,.Constant (.str ⟨#[]⟩) c1 p3] k1 p4)) p5] (tBody p cl i W):=fun W pn xe tk' _=>by
  have h:SE ⟨p.g,p.clA,p.X.tr pn xe,W,false⟩ (.Tuple [.Call (.Name x p1) [] [] p2,.Constant (.str ⟨#[]⟩) c1 p3] k1 p4) _:=
   SE_tup (Qzf (SE_callv (p:=⟨p.g,p.clA,p.X.tr pn xe,W,false⟩) F hK hr tk' hi hv hd hcd) (Qzf (SE_con (p:=⟨p.g,p.clA,p.X.tr pn xe,W,false⟩) (u:=.str ⟨#[]⟩) pe_str fun w H=>.str _) SEs_nil rfl) rfl)
  refine (SSs_cons (SS_ret (pos:=p5) h) SSs_nil).imp fun D σ H ⟨w0,w,κ,k,caps,xx,hx,rx,wf,e0,po⟩ => ?_
  have lt:i<σ.length:=(List.getElem?_eq_some_iff.mp hx).1
  refine ⟨w0,w,(List.replicate σ.length none).set i (some (.ext (.one k caps))),κ,⟨re_one (by intro l q;cases q) ⟨xx,hx,.one rx⟩,wf,e0⟩,?_⟩
  dsimp only
  rw [rdX_one lt]
  dsimp only
  revert po
  cases cl k caps κ with
  | ok q=>exact fun po=>po
  | exc c v κ'=>
   cases v with
   | non=>exact fun po=>po
   | _=>exact fun po=>po.elim
  | bad=>exact fun po=>po.elim
 have suiteOk:∀ (a:Addr) (oe:Obj) (cls:Value) (dd:Option Addr) (pn:List (Addr × Obj)),L2N.Zn cls dd oe→(∃ vs,oe.data=.fields vs) →
   PSs (p.X.suite a ((a,oe)::pn)) [.Return (some (.Tuple [.Constant .none c2 p7,.Call (.Name kn p8) [.Name n p9] [] p10] k2 p11)) p12] (tSuite p kin j a cls dd):=fun a oe cls dd pn hz hf=>by
  have call:∀ (c:Nat),cls=.ref (p.clA c)→c<1000→dd=none→PE (p.X.suite a ((a,oe)::pn)) (.Call (.Name kn p8) [.Name n p9] [] p10) (fun σ H Q=>σ[j]? = some (some (.ref a))∧∃ w κ,WF p.g w κ H∧∀ w' H',Ext w H w' H'→WF p.g w' κ H'→Q (.str (kin c)) H'):=fun c ec hc1 ed=>by
   subst ec
   subst ed
   refine ⟨fun pins s σ H Q I ⟨hσ,w,κ,wf,po⟩=>wpAny_Call_Name_kw (ld_glob I hkg hkm ?_ hkd)⟩
   refine PySem.W.callWith_K (h₀:=p.X.base) I.ok.mod.kin hkk (thn ((pa_cons (pe_var (X:=p.X.suite a ((a,oe)::pn)) (i:=j) hj (.inl hln) hnd hncd) pa_nil rfl).run p10 pins s σ H (fun vs H1=>vs=[.ref a]∧H1=H) I ⟨.ref a,hσ,rfl,rfl⟩) fun us s1 ⟨vs,H1,I1,r,ev,eH⟩=>⟨I1.kIn,?_⟩) rfl rfl
   subst ev
   subst eH
   cases r with
   | cons r1 rt=>
    cases rt
    cases r1
    show wpAny _ _ (call (.ref ka) [.ref a]) _ _ _
    have e0:=I1.env0
    have P1:=I1.pin (a,oe) (List.mem_append_left _ List.mem_cons_self)
    obtain ⟨vs,hv'⟩:=hf
    refine wpAny_call (codeAny_mono (Kn c hc1 (p.X.suite a ((a,oe)::pn)).A (p.X.suite a ((a,oe)::pn)).stack s1 H1 (a,oe) Q (fun _ _ _=>False) w κ (show L2H.RoomH 1 (p.X.A.mark (some (.ref a))) from ⟨by have:=hr.dp;show p.X.A.depth+3*1+5<_;omega,by have:=hr.un;show p.X.A.units+16*1+200<_;omega⟩) ⟨rfl,vs,hv',hz.2.2 vs hv'⟩
     ⟨P1.1,P1.2.1,fun hm=>(List.mem_cons.mp (I1.stkSub a hm)).elim P1.2.2.1 P1.2.2.2.1,P1.2.2.2.2⟩ ⟨hz.1,hz.2.1⟩ (by rw [← hK];exact e0) wf po) fun r s' hq => ?_)
    cases r with
    | error e=>
     obtain ⟨_,_,_,_,_,_,_,_,_,_,_,_,q⟩:=hq
     exact q.elim
    | ok fl=>
     cases fl with
     | ret u=>exact I1.after hq
     | next=>exact False.elim hq
     | brk=>exact False.elim hq
     | cont=>exact False.elim hq
  refine ⟨fun pins s σ H D I ⟨w0,w,κ,c,σ',ec,hc1,ed,es,wf,e0,po⟩ => ?_⟩
  have run:=(pss_one (ps_ret (pos:=p12) (pe_tup (pos:=p11) (x1:=k2) (pa_cons (pe_non (X:=p.X.suite a ((a,oe)::pn)) (j:=c2) (pos:=p7)) (pa_cons (call c ec hc1 ed) pa_nil rfl) rfl)))).run pins s σ H D I
  refine run ?_
  have lt:j<σ'.length:=by
   have:=I.len
   rw [es,List.length_set] at this
   rw [this]
   exact (List.getElem?_eq_some_iff.mp hj).1
  refine ⟨by rw [es];exact List.getElem?_set_self lt,w,κ,wf,fun w' H' e1 wf1=>⟨by show 2≤sizeLine;decide,fun q hq => ?_⟩⟩
  obtain ⟨e2,wf2,r2⟩:=RV.newTup wf1 (l:=[.non,.str (kin c)]) (xs:=[.non,.str (kin c)]) (.cons .non (.cons (.str _) .nil)) hq
  exact po _ w' _ ((e0.trans e1).trans e2) wf2 r2
 refine (L2N.ps_try_as (x:=xm) (n:=n) (i:=j) hs hf hN hj hln hc tk bodyOk suiteOk).imp fun D σ H ⟨w0,w,ρ,κ,c0,po⟩ => ?_
 unfold cameO at po
 split at po
 ·rename_i k caps er
  obtain ⟨xx,hx,rx⟩:=c0.re.rdX er
  cases rx with
  | one rx=>
   refine ⟨w0,w,κ,k,caps,xx,hx,rx,c0.wf,c0.e0,?_⟩
   revert po
   cases cl k caps κ with
   | ok q=>exact fun po=>po
   | exc c v κ'=>
    cases v with
    | non=>
     intro po
     have po:Qzt p false w0 w H D (if c<1000 then .ret (.tup [.non,.str (kin c)]) κ' else .bad):=po
     by_cases hc1:c<1000
     case neg=>rw [if_neg hc1] at po;exact po.elim
     rw [if_pos hc1] at po
     exact fun σ' w' H' e1 wf1 dd hd=>⟨true,hex c hc1,fun _ a _=>⟨w0,w',κ',c,σ',rfl,hc1,by unfold DOk at hd;rw [if_pos hc1] at hd;exact hd,rfl,wf1,e1,po⟩,fun z=>nomatch z⟩
    | _=>exact fun po=>po.elim
   | bad=>exact fun po=>po.elim
 ·exact po.elim
end PL
end
section
namespace PL
open PySem PySem.Spec PyProof.Rows L2 LamX NdefX
theorem pe_no {X:Cx}{e:Expr}:PE X e (fun _ _ _=>False):=⟨fun _ _ _ _ _ _ h=>h.elim⟩
theorem RXs.length {g:Gx}{w:Wd}{H:Hp}:∀ {l:List (Nat × List Val)} {xs:List V},RXs g w H l xs→l.length=xs.length
 | _,_,.nil=>rfl
 | _,_,.cons _ t=>by simp [RXs.length t]
theorem RXs.get' {g:Gx}{w:Wd}{H:Hp}:∀ {l:List (Nat × List Val)} {xs:List V} {i:Nat} {x:V},RXs g w H l xs→xs[i]? = some x→∃ v,l[i]? = some v∧RX1 g w H v.1 v.2 x
 | _,_,_,_,.nil,e=>by simp at e
 | _,_,0,_,.cons r _,e=>by simp at e;subst e;exact ⟨_,rfl,r⟩
 | _,_,i+1,x,.cons _ t,e=>by
  obtain ⟨v,h1,h2⟩:=RXs.get' (i:=i) (x:=x) t (by simpa using e)
  exact ⟨v,by simpa using h1,h2⟩
theorem filtL_noexc {f:Nat→List Val→Ks→R (Bool × Ks)}(hf:∀ k caps κ c p k',f k caps κ ≠ .exc c p k'):∀ (l:List (Nat × List Val)) (κ:Ks) c p k',filtL l f κ ≠ .exc c p k'
 | [],_,_,_,_=>fun h=>nomatch h
 | q::l,κ,c,p,k'=>fun h=>by
  unfold filtL at h
  cases e:f q.1 q.2 κ with
  | ok b=>
   rw [e] at h
   have h:(if b.1=true then R.bad else filtL l f b.2)=.exc c p k':=h
   split at h
   ·cases h
   ·exact filtL_noexc hf l b.2 c p k' h
  | exc c' v' k''=>exact hf _ _ _ _ _ _ e
  | bad=>rw [e] at h;cases h
section
variable {p:Pl}{elt cond:Expr}{x y:Str}{tgi src:Nat}{scope:Scope}{pos px py:Pos}{mt:Rho→Ks→R (Bool × Ks)}
theorem FE_filt (hK:p.X.K=p.g.K)(hc:p.X.calm=true)(hN:p.X.N.Nodup)(hs:p.X.N[src]? = some x)(hv:Vis p.X.env.scope x)(hd:(x == ("__debug__" : Str))=false)(hcd:(x == ("__classdict__" : Str))=false)
  {ow:List (Str × Nat)} (how:ow.map (·.2)=[tgi]) (ok:BlkOk p.X.N p.X.env.scope scope ow) (hg:∀ (s:Shared) (H:Hp) (C:Addr) (cl:List (Str × Addr)) (fp:List Addr),PG (blkX p.X scope s H C cl fp) (.Name y py) (gName tgi))
  (ht:∀ (s:Shared) (H:Hp) (C:Addr) (cl:List (Str × Addr)) (fp:List Addr),STt (p.blk scope s H C cl fp) cond mt) (hF:∀ z,foldedSetIterable (.Name x px) p.X.env z=pure z) :
  FE p (.ListComp elt [⟨.Name y py,.Name x px,[cond],0⟩] scope pos) (fun ρ κ=>match rdX ρ src with
   | some (.many l)=>(filtL l (fun k caps κ'=>noExc (mt (ρ.set tgi (some (.ext (.one k caps)))) κ')) κ).bind fun κ'=>.ok (.lst [],κ')
   | _=>.bad):=by
 refine (pe_lc (g:=gName tgi) (tt:=tG p.inB (fun _ _ a b=>a=b) mt) (te:=fun _ _ _=>False) hc hN (pi_seq (pe_var hs hv hd hcd)) ok hg (fun s H C cl fp=>⟨fun pins s' σ H' Q I q=>(pts_one (ht s H C cl fp)).run pins s' σ H' Q I (tG_blk q)⟩) (fun _ _ _ _ _=>pe_no) hF).imp fun σ H Q ⟨w,ρ,κ,re,wf,po⟩ => ?_
 rw [how]
 have po:Post p.g p.clA (rF p.g H) w H (match rdX ρ src with
  | some (.many l)=>(filtL l (fun k caps κ'=>noExc (mt (ρ.set tgi (some (.ext (.one k caps)))) κ')) κ).bind fun κ'=>.ok (.lst [],κ')
  | _=>.bad) Q (fun c d H'=>p.W c d σ H'):=po
 split at po
 case h_2=>exact po.elim
 rename_i l er
 obtain ⟨z,hz,rz⟩:=re.rdX er
 cases rz with
 | @many _ a xs j ha rl=>
  refine ⟨_,hz,a,rfl,.inl ⟨⟨xs,.of ha⟩,fun D hD => ?_⟩⟩
  have ne:=fun c v k=>filtL_noexc (f:=fun k caps κ'=>noExc (mt (ρ.set tgi (some (.ext (.one k caps)))) κ')) (fun _ _ _ _ _ _=>noExc_no _ _ _ _) l κ c v k
  cases e:filtL l (fun k caps κ'=>noExc (mt (ρ.set tgi (some (.ext (.one k caps)))) κ')) κ with
  | bad=>rw [e] at po;exact po.elim
  | exc c v k=>exact absurd e (ne c v k)
  | ok κo=>
   rw [e] at po
   have po:Post p.g p.clA (rF p.g H) w H (.ok (.lst [],κo)) Q (fun c d H'=>p.W c d σ H'):=po
   have nI:¬ w.I D:=fun z=>by
    obtain ⟨zs,q⟩:=wf.dom D z
    rw [hD] at q;cases q
   have nM:D ∉ w.μ:=fun z=>by
    obtain ⟨o,q⟩:=wf.mu_some z
    rw [hD] at q;cases q
   have hlen:=rl.length
   refine ⟨fun i m H'=>m=l.length-i∧i≤l.length∧∃ w2 κ2,Ext w H w2 H'∧WF p.g w2 κ2 H'∧¬ w2.I D∧D ∉ w2.μ∧H' D=some (.lst [])∧filtL (l.drop i) (fun k caps κ'=>noExc (mt (ρ.set tgi (some (.ext (.one k caps)))) κ')) κ2=.ok κo,
    ⟨l.length,by simp,Nat.zero_le _,w,κ,Ext.upd_new wf hD _,wf.upd_new hD _,nI,nM,upd_same,by rw [List.drop_zero];exact e⟩,?_⟩
   rintro i m H2 ⟨rfl,hil,w2,κ2,e2,wf2,nI2,nM2,hDx,ec⟩
   have ha2:=(e2.keepsI wf).l _ _ j ha
   by_cases hlt:i<l.length
   case neg=>
    have ei:i=l.length:=by omega
    subst ei
    refine .inl ⟨⟨xs,.of ha2,by omega⟩,?_⟩
    rw [List.drop_length] at ec
    have ec:R.ok κ2=R.ok κo:=ec
    cases ec
    exact po (.ref D) w2 H2 e2 wf2 ⟨[],D,[],rfl,rfl,hD,hDx,.nil,nI2,nM2⟩
   case pos=>
    have gx:xs[i]? = some (xs[i]'(by omega)):=List.getElem?_eq_getElem _
    refine .inr ⟨⟨xs,_,.of ha2,gx⟩,_,fun H' hN=>⟨l.length-(i+1),by omega,hN⟩,fun x' H3 ⟨eH,hy⟩ => ?_⟩
    subst eH
    have ex:=hy xs (.of ha2)
    obtain ⟨v,hv,rv⟩:=(rl.ext e2 wf).get' ex
    rw [drop_at hv] at ec
    unfold filtL at ec
    obtain ⟨bb,eb,ec⟩:=Qx7 ec
    have eb:=noExc_ok eb
    obtain ⟨bo,κb⟩:=bb
    have re2:RE p.g p.X true w2 H3 (ρ.set tgi (some (.ext (.one v.1 v.2)))) ((L2.wipe σ [tgi]).set tgi (some x')):=by
     have h1:=(((re.ext e2 wf).wipe [tgi]).blk (X':=p.X)).set (i:=tgi) (x:=x') (sl:=.ext (.one v.1 v.2)) (fun σ' hσ=>⟨x',hσ,.one rv⟩) (fun _ z=>nomatch z)
     have h2:(wipeR ρ [tgi]).set tgi (some (.ext (.one v.1 v.2)))=ρ.set tgi (some (.ext (.one v.1 v.2))):=List.set_set ..
     rw [h2] at h1
     exact h1
    refine ⟨?_,w2,_,κ2,re2,wf2,?_⟩
    ·rw [wipe_set (List.mem_singleton.mpr rfl),wipe_wipe σ fun i hi=>hi]
    rw [eb]
    intro b' w4 H4 e4 wf4 hb
    subst hb
    cases bo with
    | true=>rw [if_pos rfl] at ec;cases ec
    | false=>
     rw [if_neg Bool.false_ne_true] at ec ⊢
     have dn:H3 D≠none:=by rw [hDx];intro z;cases z
     exact ⟨rfl,hlt,w4,κb,e2.trans e4,wf4,fun z=>(e4.new D z).elim nI2 dn,e4.nomu dn nM2,e4.fr D _ hDx nM2 (by intro _ z;cases z),ec⟩
end
end PL
end
section
namespace PL
open PySem PySem.Spec PyProof.Rows L2 LamX NdefX
structure Cok (d:Nat)(p:Pl):Prop where
 hK:p.X.K=p.g.K
 hr:RoomP d p.X.A
 tk:L2N.Takes p.X p.W
 calm:p.X.calm=true
 nd:p.X.N.Nodup
theorem Cok.hu {d:Nat}{p:Pl}(C:Cok d p):p.X.A.units+64<cLine:=by
 have:=C.hr.un
 omega
theorem Cok.hu5 {d:Nat}{p:Pl}(C:Cok d p):p.X.A.units+65<cLine:=by
 have:=C.hr.un
 omega
theorem takes_no {X:Cx}{W:WX}(h:∀ c d σ H,¬ W c d σ H):L2N.Takes X W:=fun u s' x=>by
 obtain ⟨_,_,_,_,_,_,_,_,_,_,_,_,_,_,_,_,q⟩:=x
 exact absurd q (h _ _ _ _)
theorem Cok.blk {d:Nat}{p:Pl}(C:Cok d p)(scope:Scope)(s:Shared)(H:Hp)(X:Addr)(cl:List (Str × Addr))(fp:List Addr):Cok d (p.blk scope s H X cl fp):=
 ⟨C.hK,C.hr,takes_no fun _ _ _ _ z=>z,C.calm,C.nd⟩
theorem cok_def {g:Gx}{clA:Nat→Addr}{P:Program}{W:World}{mg:Str→Option Value}{base:Heap}{N:List Str}{qual:Str}{scope:Scope}{f:Addr}{cd:Value}{A:Around}{outer:List Env}{s:Shared}{H:Hp}{E:XK}{d:Nat}
  (hr:RoomP d (A.deeper (envOfC qual scope s.heap.objs.size f cd))) (nd:N.Nodup):Cok d (defPl g clA P W mg base N qual scope f cd A outer s H E):=⟨rfl,hr,takes_def,rfl,nd⟩
theorem cok_lam {g:Gx}{clA:Nat→Addr}{P:Program}{W:World}{mg:Str→Option Value}{base:Heap}{L:LamI}{cl:List (Str × Addr)}{c' f:Addr}{A:Around}{outer:List Env}{s:Shared}{H:Hp}{E:XK}{d:Nat}
  (hr:RoomP d (A.deeper (envF (lnf L cl c') f s.heap.objs.size))) (nd:L.fr.Nodup):Cok d (lamPl g clA P W mg base L cl c' f A outer s H E):=⟨rfl,hr,takes_lam,rfl,nd⟩
section
variable {c:CB}{d:Nat}{p:Pl}{pos np q q2:Pos}{i j:Nat}{x y z:Str}{a b e e1 e2 e3:Expr}{ea eb ee:E}{es:List Expr}{l:Es}
abbrev JE (p:Pl)(c:CB)(x:Expr)(e:E):Prop:=SE p x (evE c e)
abbrev JB (p:Pl)(c:CB)(x:Expr)(e:E):Prop:=SB p x (fun ρ κ=>bw e ρ κ (evE c e ρ κ))
abbrev JT (p:Pl)(c:CB)(x:Expr)(t:T):Prop:=STt p x (evT c t)
abbrev JW (p:Pl)(c:CB)(x:Expr)(t:T):Prop:=SW p x (evT c t)
abbrev JL (p:Pl)(c:CB)(x:List Expr)(t:Es):Prop:=SEs p x (evEs c t)
abbrev JLB (p:Pl)(c:CB)(x:List Expr)(t:Es):Prop:=SBs p x (evBs c t)
abbrev JA (p:Pl)(c:CB)(x:List Expr)(t:As):Prop:=SA p x (evA c t)
def okN (x:Str):Bool := !(x == ("__debug__" : Str)) && !(x == ("__classdict__" : Str)) && !decide (x = "__name__")
theorem okN1 (h:okN x=true):(x == ("__debug__" : Str))=false:=by
 unfold okN at h
 cases e:(x == ("__debug__" : Str)) with
 | false=>rfl
 | true=>rw [e] at h;cases h
theorem okN2 (h:okN x=true):(x == ("__classdict__" : Str))=false:=by
 unfold okN at h
 cases e:(x == ("__classdict__" : Str)) with
 | false=>rfl
 | true=>rw [e] at h;simp at h
structure Nm (p:Pl)(i:Nat)(x:Str):Prop where
 n:p.X.N[i]? = some x
 v:Vis p.X.env.scope x
 k:okN x=true
theorem rVar (h:Nm p i x):JE p c (.Name x pos) (.var i):=SE_var h.n h.v (okN1 h.k) (okN2 h.k)
theorem bOf (h:JE p c a ea)(hb:∀ ρ κ r,bw ea ρ κ r=r):JB p c a ea:=by
 have e:(fun ρ κ=>bw ea ρ κ (evE c ea ρ κ))=evE c ea:=funext fun ρ=>funext fun κ=>hb ρ κ _
 show SB p a _
 rw [e]
 exact SB.of h
theorem Qqg {n:Int}:JE p c (.Constant (.int n) j pos) (.con (.int n)):=SE_con pe_int fun w H=>.int n
theorem rBl {n:Bool}:JE p c (.Constant (.bool n) j pos) (.con (.bl n)):=SE_con pe_bl fun w H=>.bl n
theorem Qzr {n:Str}:JE p c (.Constant (.str n) j pos) (.con (.str n)):=SE_con pe_str fun w H=>.str n
theorem rNon:JE p c (.Constant .none j pos) (.con .non):=SE_con pe_non fun w H=>.non
theorem rGInt {n:Int}(hg:Gl p.X x)(hm:∃ t,p.X.mg x=some (.int n t))(hd:okN x=true):JE p c (.Name x pos) (.glob j (.int n)):=by
 obtain ⟨t,hm⟩:=hm
 exact SE_con (v:=.int n) (pe_glob hg hm ⟨t,rfl⟩ (okN1 hd)) fun w H=>.int n
theorem rGTup {A:Addr}{xs:List V}{l:List Val}(hg:Gl p.X x)(hm:p.X.mg x=some (.ref A))(hq:∀ H,SqT p.g.K H A xs)(hr:∀ (w:Wd) (H:Hp),RVs p.g w.I w.μ H l xs)(hd:okN x=true):JE p c (.Name x pos) (.glob j (.tup l)):=
 SE_con (v:=.ref A) (pe_glob hg hm rfl (okN1 hd)) fun w H=>.tup (hq H) (hr w H)
theorem rOp (C:Cok d p)(o:Op)(ha:JB p c a ea)(hb:JB p c b eb):JE p c (.BinOp a (pyOp o) b pos) (.op o ea eb):=by
 obtain ⟨r,h1,h2⟩:=opr C.hK o
 exact SE_bin h1 h2 ha hb
theorem rCm (C:Cok d p)(o:Cm)(ha:JB p c a ea)(hb:JB p c b eb)(hm:behindInMarks (pyCm o) b=false):JE p c (.Compare a [pyCm o] [b] pos) (.cm o ea eb):=by
 obtain ⟨r,h1,h2⟩:=cmr C.hK C.hu5 o
 exact SE_cm h1 h2 ha hb hm
theorem rChain (C:Cok d p)(o o':Cm){m:Expr}{em:E}(ha:JE p c a ea)(hm':JE p c m em)(hb:JE p c b eb)(hm:lastMarks [pyCm o,pyCm o'] [m,b]=false):JE p c (.Compare a [pyCm o,pyCm o'] [m,b] pos) (.chain o o' ea em eb):=by
 obtain ⟨r,h1,h2⟩:=cmr C.hK C.hu5 o
 obtain ⟨r',h3,h4⟩:=cmr C.hK C.hu5 o'
 exact SE_chain h1 h2 h3 h4 ha hm' hb hm
theorem rNeg (ha:JE p c a ea):JE p c (.UnaryOp .USub a pos) (.neg ea):=SE_neg ha
theorem rNot (ha:JE p c a ea):JE p c (.UnaryOp .Not a pos) (.not ea):=SE_not ha
theorem rOne {op:BoolOp}(ha:JE p c a ea):JE p c (.BoolOp op [a] pos) ea:=pe_one ha
theorem rAnd {rest:List Expr}(ha:JE p c a ea)(hb:JE p c (.BoolOp .And (b::rest) pos) eb):JE p c (.BoolOp .And (a::b::rest) pos) (.and ea eb):=SE_and ha hb
theorem rIte {t:T}(ht:JT p c e t)(ha:JE p c a ea)(hb:JE p c b eb):JE p c (.IfExp e a b pos) (.ite t ea eb):=SE_ite ht ha hb
theorem rTup {x1:Nat}(h:JL p c es l):JE p c (.Tuple es x1 pos) (.tup l):=SE_tup h
theorem rLst (h:JL p c es l):JE p c (.List es pos) (.lst l):=SE_lst h
theorem Qzv:JL p c [] .nil:=SEs_nil
theorem Qq0 (ha:JE p c a ea)(hs:JL p c es l)(hst:starEach (a::es) p.X.env=(false,eval a p.X.env)::starEach es p.X.env):JL p c (a::es) (.cons ea l):=Qzf ha hs hst
theorem Qzg:JLB p c [] .nil:=SBs_nil
theorem Qz6 (ha:JB p c a ea)(hs:JLB p c es l)(hst:starEach (a::es) p.X.env=(false,eval a p.X.env)::starEach es p.X.env):JLB p c (a::es) (.cons ea l):=SBs_cons ha hs hst
theorem rIx (C:Cok d p)(ha:JB p c a ea)(hb:JE p c b eb)(hs:PlainIx b):JE p c (.Subscript a b pos) (.ix ea eb):=SE_ix C.hK ha hb hs
abbrev JO (p:Pl)(c:CB)(x:Option Expr)(t:Oe):Prop:=SO p x (evO c t)
theorem oNo:JO p c none .no:=SO_no
theorem oYes (h:JE p c a ea):JO p c (some a) (.yes ea):=SO_yes h
theorem rSl (C:Cok d p){lo hi:Option Expr}{ol oh:Oe}(ha:JB p c a ea)(hl:JO p c lo ol)(hh:JO p c hi oh):JE p c (.Subscript a (.Slice lo hi none q) pos) (.sl ea ol oh):=SE_sl C.hK ha hl hh
theorem rBi (C:Cok d p)(b:Bi)(hg:Gl p.X (biN b))(hm:p.X.mg (biN b)=none)(hv:bootBuiltins (biN b)=some (biF b))(ha:JLB p c (a::es) l)(he:starEach (a::es) p.X.env=(false,eval a p.X.env)::starEach es p.X.env)(hpl:(backTo pos (starEach es p.X.env)).any (·.1)=false) :
  JE p c (.Call (.Name (biN b) q) (a::es) [] pos) (.bi b l):=by
 obtain ⟨r,h1,h2⟩:=bir C.hK C.calm b
 exact SE_callr (biF_form b) h1 h2 hg hm hv ha (biN_name b) (biN_debug b) he hpl
theorem rIsi (C:Cok d p)(t:Ty)(hg:Gl p.X "isinstance")(hm:p.X.mg "isinstance" = none)(hg2:Gl p.X (tyN t))(hm2:p.X.mg (tyN t)=none)(ha:JB p c a ea)(he:starEach [a,.Name (tyN t) q2] p.X.env=(false,eval a p.X.env)::starEach [.Name (tyN t) q2] p.X.env) :
  JE p c (.Call (.Name "isinstance" q) [a,.Name (tyN t) q2] [] pos) (.isi t ea):=SE_isi C.hK hg hm hg2 hm2 ha he
theorem Qx3:JA p c [] .nil:=SA_nil
theorem Qz9 {as:As}(ha:JE p c a ea)(ht:JA p c es as)(hs:starEach (a::es) p.X.env=(false,eval a p.X.env)::starEach es p.X.env):JA p c (a::es) (.cons ea as):=SA_val ha ht hs
theorem aExt {as:As}(h:Nm p i x)(ht:JA p c es as)(hs:starEach (.Name x pos::es) p.X.env=(false,eval (.Name x pos) p.X.env)::starEach es p.X.env):JA p c (.Name x pos::es) (.ext i as):=SA_x (SX_ext h.n h.v (okN1 h.k) (okN2 h.k)) ht hs
abbrev JC (p:Pl)(x:Expr)(t:Cl):Prop:=SC p x (fun ρ=>clsOf ρ t)
theorem aClos {as:As}{t:Cl}(hf:∀ x,p.X.fn x=true)(h:JC p a t)(ht:JA p c es as)(hs:starEach (a::es) p.X.env=(false,eval a p.X.env)::starEach es p.X.env):JA p c (a::es) (.clos t as):=SA_x (SX_clos hf h) ht hs
theorem cLams {ls:List (Nat × List Nat)}(h:PA p.X es (tL p ls))(hl:ls.length≤LINE):JC p (.List es pos) (.lams ls):=
 (SC_lams h hl).imp fun σ H Q ⟨w,ρ,κ,l,re,wf,ef,k⟩=>by
  have ef:(if ls.length≤LINE then some ls else none)=some l:=ef
  rw [if_pos hl] at ef
  exact ⟨w,ρ,κ,l,re,wf,ef,k⟩
theorem cVar (hb:p.b=false)(h:Nm p i x):JC p (.Name x pos) (.var i):=SC_var hb h.n h.v (okN1 h.k) (okN2 h.k)
theorem cAdd {s t:Cl}(ha:JC p a s)(hb:JC p b t):JC p (.BinOp a .Add b pos) (.add s t):=SC_add ha hb
variable {A':Addr}
theorem rCall (C:Cok d p){f:Nat}(F:FnS p.X.prog p.X.w p.g p.clA p.X.mg p.X.base d A' (c.cf f))(hg:Gl p.X x)(hm:p.X.mg x=some (.ref A')∧PySem.W.keepIn p.X.K (.ref A')=true){as:As}(ha:JA p c (a::es) as)(hd:okN x=true)
  (he:starEach (a::es) p.X.env=(false,eval a p.X.env)::starEach es p.X.env) (hpl:(backTo pos (starEach es p.X.env)).any (·.1)=false):JE p c (.Call (.Name x np) (a::es) [] pos) (.call f as):=SE_call F C.hK C.hr C.tk hg hm.1 hm.2 ha (okN1 hd) he hpl
theorem rCall0 (C:Cok d p){f:Nat}(F:FnS p.X.prog p.X.w p.g p.clA p.X.mg p.X.base d A' (c.cf f))(hg:Gl p.X x)(hm:p.X.mg x=some (.ref A')∧PySem.W.keepIn p.X.K (.ref A')=true)(hd:okN x=true):JE p c (.Call (.Name x np) [] [] pos) (.call f .nil):=SE_call0 F C.hK C.hr C.tk hg hm.1 hm.2 (okN1 hd)
theorem tVal (C:Cok d p)(ha:JE p c a ea)(he:∀ whole,isTrue a p.X.env whole=(do let v ← whole;standAt a.pos;holding [v] (truthy v))):JT p c a (.val ea):=ST_val C.hK ha he
theorem tCm (C:Cok d p)(o:Cm)(ha:JB p c a ea)(hb:JB p c b eb)(hm:behindInMarks (pyCm o) b=false):JT p c (.Compare a [pyCm o] [b] pos) (.cm o ea eb):=by
 obtain ⟨r,h1,h2⟩:=cmr C.hK C.hu5 o
 exact ST_cm h1 h2 ha hb hm
theorem tChain (C:Cok d p)(o o':Cm){m:Expr}{em:E}(ha:JE p c a ea)(hm':JE p c m em)(hb:JE p c b eb)(hm:lastMarks [pyCm o,pyCm o'] [m,b]=false):JT p c (.Compare a [pyCm o,pyCm o'] [m,b] pos) (.chain o o' ea em eb):=by
 obtain ⟨r,h1,h2⟩:=cmr C.hK C.hu5 o
 obtain ⟨r',h3,h4⟩:=cmr C.hK C.hu5 o'
 exact ST_chain h1 h2 h3 h4 ha hm' hb hm
variable {t u:T}
theorem tNot' (ha:JT p c a t):JT p c (.UnaryOp .Not a pos) (.not t):=ST_not ha
theorem wAnd1 (ha:JT p c a t):JW p c (.BoolOp .And [a] pos) t:=pw_and1 ha
theorem wOr1 (ha:JT p c a t):JW p c (.BoolOp .Or [a] pos) t:=pw_or1 ha
theorem wAnd {rest:List Expr}(ha:JT p c a t)(hb:JW p c (.BoolOp .And (b::rest) pos) u):JW p c (.BoolOp .And (a::b::rest) pos) (.and t u):=SW_and ha hb
theorem wOr {rest:List Expr}(ha:JT p c a t)(hb:JW p c (.BoolOp .Or (b::rest) pos) u):JW p c (.BoolOp .Or (a::b::rest) pos) (.or t u):=SW_or ha hb
theorem tW (h:JW p c a t):JT p c a t:=h.pt
abbrev JOt (p:Pl)(c:CB)(x:List Expr)(t:Ot):Prop:=PTs p.X x (tG p (fun _ _ a b=>a=b) (evOt c t))
theorem oNoT:JOt p c [] .no:=⟨fun pins s σ H Q I h=>pts_nil.run pins s σ H Q I (by
 obtain ⟨w,ρ,κ,re,wf,po⟩:=h
 exact po true w H (Ext.refl w H) wf rfl)⟩
theorem oYesT (h:JT p c a t):JOt p c [a] (.yes t):=pts_one h
abbrev JI (p:Pl)(c:CB)(tg x:Expr)(t:It):Prop:=SI p tg x (evI c t)
abbrev JIk (p:Pl)(c:CB)(tg x:Expr)(t:It):Prop:=SIk p tg x (evI c t)
variable {tgE:Expr}
theorem iSeq' (C:Cok d p)(ha:JB p c a ea):JI p c tgE a (.seq ea):=SI_seq C.hK ha
theorem ikSeq (C:Cok d p)(ha:JE p c a ea)(hb:∀ ρ κ r,bw ea ρ κ r=r):JIk p c tgE a (.seq ea):=(SIk_seq C.hK ha).imp fun σ H Q ⟨w,ρ,κ,re,wf,po⟩=>⟨w,ρ,κ,re,wf,by
 have po:Post p.g p.clA (rWk p.g) w H ((bw ea ρ κ (evE c ea ρ κ)).bind fun p=>R.ofO ((itemsV p.1).map fun l=>(l,p.2))) Q (fun c d H'=>p.W c d σ H'):=po
 rw [hb] at po
 exact po⟩
theorem iR1 (hg:Gl p.X "range")(hm:p.X.mg "range" = none)(h:JL p c [a] l)(hs:starEach [a] p.X.env=[(false,eval a p.X.env)]):JI p c tgE (.Call (.Name "range" q) [a] [] pos) (.rng1 l):=SR1 (S:=SExt) hg hm h hs
theorem ikR1 (hg:Gl p.X "range")(hm:p.X.mg "range" = none)(h:JL p c [a] l)(hs:starEach [a] p.X.env=[(false,eval a p.X.env)]):JIk p c tgE (.Call (.Name "range" q) [a] [] pos) (.rng1 l):=SR1 (S:=SKp) hg hm h hs
theorem iZip' (C:Cok d p){elts:List Expr}{kk:Nat}{tpos:Pos}(hg:Gl p.X "zip")(hm:p.X.mg "zip" = none)(ha:JB p c a ea)(hb:JB p c b eb)(hs:starEach [a,b] p.X.env=(false,eval a p.X.env)::starEach [b] p.X.env)(hs2:starEach [b] p.X.env=(false,eval b p.X.env)::starEach [] p.X.env) :
  JI p c (.Tuple elts kk tpos) (.Call (.Name "zip" q) [a,b] [] pos) (.zip ea eb):=SI_zip C.hK hg hm ha hb hs hs2
theorem gNm (hN:p.X.N.Nodup)(hi:p.X.N[i]? = some x)(hx:Loc p.X.env.scope x)(hf:p.X.fn x=true∨p.X.env.scope.names.lookup x=some .local):PG p.X (.Name x pos) (gT p.g.K (.nm i)):=pg_name hN hi hx hf
theorem gTp (C:Cok d p){ts:Tgs}{kk:Nat}(h:PGs p.X es (gTs p.g.K ts))(hn:(assignEach es p.X.env).length=nTgs ts)(hst:(assignEach es p.X.env).findIdx? (·.1)=none):PG p.X (.Tuple es kk pos) (gT p.g.K (.tp ts)):=
 ⟨fun pins s σ H v u Q I r hw=>by
  have h1:=pg_tup (pos:=pos) (k:=kk) C.calm h hn hst
  have h2:=pg_lst (pos:=pos) (k:=kk) C.calm h hn hst
  rw [C.hK] at h1 h2
  rcases hw with hw|hw
  ·exact h1.run pins s σ H v u Q I r hw
  ·exact h2.run pins s σ H v u Q I r hw⟩
theorem gsNil:PGs p.X [] (gTs p.g.K .nil):=pgs_nil
theorem Qx2 {t:Tg}{ts:Tgs}(h1:PG p.X e (gT p.g.K t))(h2:PGs p.X es (gTs p.g.K ts))(hs:(assignEach (e::es) p.X.env).map (·.2)=assign e p.X.env::(assignEach es p.X.env).map (·.2)):PGs p.X (e::es) (gTs p.g.K (.cons t ts)):=pgs_cons h1 h2 hs
abbrev JF (p:Pl)(c:CB)(x:Expr)(e:E):Prop:=FE p x (evE c e)
theorem fComp (C:Cok d p){elt iter:Expr}{ifs:List Expr}{scope:Scope}{own:List Nat}{tg:Tg}{ot:Ot}{it:It}{ee:E}(hi:JI p c tgE iter it){ow:List (Str × Nat)}(how:ow.map (·.2)=own)(ok:blkC p.X.N p.X.env.scope scope ow=true)
  (hg:∀ (s:Shared) (H:Hp) (C':Addr) (cl:List (Str × Addr)) (fp:List Addr),Cok d (p.blk scope s H C' cl fp)→PG (p.blk scope s H C' cl fp).X tgE (gT p.g.K tg)) (ht:∀ (s:Shared) (H:Hp) (C':Addr) (cl:List (Str × Addr)) (fp:List Addr),Cok d (p.blk scope s H C' cl fp)→JOt (p.blk scope s H C' cl fp) c ifs ot)
  (he:∀ (s:Shared) (H:Hp) (C':Addr) (cl:List (Str × Addr)) (fp:List Addr),Cok d (p.blk scope s H C' cl fp)→JE (p.blk scope s H C' cl fp) c elt ee) (hs:∀ x,foldedSetIterable iter p.X.env x=pure x) (hsl:∀ i∈slTg tg,i∈own) :
  JF p c (.ListComp elt [⟨tgE,iter,ifs,0⟩] scope pos) (.comp ee tg it ot own):=
 FE_comp C.hK C.calm C.nd hi how (blkOk_by ok) (fun s H C' cl fp=>hg s H C' cl fp (C.blk ..)) (fun s H C' cl fp=>ht s H C' cl fp (C.blk ..)) (fun s H C' cl fp=>he s H C' cl fp (C.blk ..)) hs hsl
theorem rF' (h:JF p c a ea):JE p c a ea:=SE.ofF h
theorem fLst (h:JL p c es l):JF p c (.List es pos) (.lst l):=FE_lst h
theorem fFilt (C:Cok d p){elt cond:Expr}{scope:Scope}{px py:Pos}{tgi src:Nat}{t:T}(h:Nm p src x){ow:List (Str × Nat)}(how:ow.map (·.2)=[tgi])(ok:blkC p.X.N p.X.env.scope scope ow=true)
  (hg:∀ (s:Shared) (H:Hp) (C':Addr) (cl:List (Str × Addr)) (fp:List Addr),Cok d (p.blk scope s H C' cl fp)→PG (p.blk scope s H C' cl fp).X (.Name y py) (gName tgi)) (ht:∀ (s:Shared) (H:Hp) (C':Addr) (cl:List (Str × Addr)) (fp:List Addr),Cok d (p.blk scope s H C' cl fp)→JT (p.blk scope s H C' cl fp) c cond t)
  (hF:∀ z,foldedSetIterable (.Name x px) p.X.env z=pure z):JF p c (.ListComp elt [⟨.Name y py,.Name x px,[cond],0⟩] scope pos) (.filt tgi src t):=
 FE_filt C.hK C.calm C.nd h.n h.v (okN1 h.k) (okN2 h.k) how (blkOk_by ok) (fun s H C' cl fp=>hg s H C' cl fp (C.blk ..)) (fun s H C' cl fp=>ht s H C' cl fp (C.blk ..)) hF
theorem fCall (C:Cok d p){f:Nat}(F:FnF p.X.prog p.X.w p.g p.clA p.X.mg p.X.base d A' (c.cf f))(hg:Gl p.X x)(hm:p.X.mg x=some (.ref A')∧PySem.W.keepIn p.X.K (.ref A')=true){as:As}(ha:JA p c (a::es) as)(hv:∀ ρ κ q,evA c as ρ κ=.ok q→AllV q.1)(hd:okN x=true)
  (he:starEach (a::es) p.X.env=(false,eval a p.X.env)::starEach es p.X.env) (hpl:(backTo pos (starEach es p.X.env)).any (·.1)=false):JF p c (.Call (.Name x np) (a::es) [] pos) (.call f as):=FE_call F C.hK C.hr C.tk hg hm.1 hm.2 ha hv (okN1 hd) he hpl
theorem rSplit {apos:Pos}(ha:JE p c a ea)(hb:JE p c b eb)(hs:starEach [b] p.X.env=[(false,eval b p.X.env)])(hbase:attributeBase a "split" p.X.env (eval a p.X.env)=eval a p.X.env)(hline:(apos.endLine == pos.line)=true):JE p c (.Call (.Attribute a "split" apos) [b] [] pos) (.sm .split ea eb):=SE_split ha hb hs hbase hline
theorem rJoin (hK:p.X.K=p.g.K){apos:Pos}(ha:JE p c a ea)(hb:JE p c b eb)(hs:starEach [b] p.X.env=[(false,eval b p.X.env)])(hbase:attributeBase a "join" p.X.env (eval a p.X.env)=eval a p.X.env)(hline:(apos.endLine == pos.line)=true):JE p c (.Call (.Attribute a "join" apos) [b] [] pos) (.sm .join ea eb):=SE_join hK ha hb hs hbase hline
variable {fr:Bool}{st:Stmt}{sts:List Stmt}{s1:S}{ss tt:Ss}{pos2 pos':Pos}
abbrev JS (p:Pl)(c:CB)(fr:Bool)(x:Stmt)(s:S):Prop:=SS p fr x (exS c s)
abbrev JSs (p:Pl)(c:CB)(fr:Bool)(x:List Stmt)(s:Ss):Prop:=SSs p fr x (exSs c s)
theorem Qzq:JSs p c fr [] .nil:=SSs_nil
theorem Qq1 (h:JS p c fr st s1)(t:JSs p c fr sts ss):JSs p c fr (st::sts) (.cons s1 ss):=SSs_cons h t
theorem zSet (C:Cok d p)(hi:p.X.N[i]? = some x)(hx:Loc p.X.env.scope x)(he:JE p c a ea)(hs:swapsWith a (some (.Name x pos')) pos.line p.X.env=pure false)(hf:p.X.fn x=true∨p.X.env.scope.names.lookup x=some .local):JS p c fr (.Assign [.Name x pos'] a pos) (.set i ea):=SS_set C.nd hi hx he hs hf
theorem zCel (C:Cok d p)(hi:p.X.N[i]? = some x)(hx:Loc p.X.env.scope x)(he:JF p c a ea)(hs:swapsWith a (some (.Name x pos')) pos.line p.X.env=pure false)(hf:p.X.fn x=true∨p.X.env.scope.names.lookup x=some .local):JS p c fr (.Assign [.Name x pos'] a pos) (.cel i ea):=(ps_set C.nd hi hx he hs hf).imp (asgF_cel i)
theorem zOwn (C:Cok d p)(hb:p.b=false)(hi:p.X.N[i]? = some x)(hx:Loc p.X.env.scope x)(he:JF p c a ea)(hs:swapsWith a (some (.Name x pos')) pos.line p.X.env=pure false)(hf:p.X.fn x=true∨p.X.env.scope.names.lookup x=some .local):JS p c fr (.Assign [.Name x pos'] a pos) (.own i ea):=(ps_set C.nd hi hx he hs hf).imp (asgF_own hb i)
theorem lcRead (C:Cok d p){elt iter:Expr}{ifs:List Expr}{scope:Scope}{own:List Nat}{tg:Tg}{ot:Ot}{it:It}{ee:E}{py spos:Pos}(hy:p.X.N[i]? = some y)(hyl:p.X.env.scope.names.lookup y=some .local)(hsw:swapsWith (.ListComp elt [⟨tgE,iter,ifs,0⟩] scope pos) (some (.Name y py)) spos.line p.X.env=pure true)(hi:JI p c tgE iter it)
  {ow:List (Str × Nat)} (how:ow.map (·.2)=own) (ok:blkC p.X.N p.X.env.scope scope ow=true) (hg:∀ (s:Shared) (H:Hp) (C':Addr) (cl:List (Str × Addr)) (fp:List Addr),Cok d (p.blk scope s H C' cl fp)→PG (p.blk scope s H C' cl fp).X tgE (gT p.g.K tg))
  (ht:∀ (s:Shared) (H:Hp) (C':Addr) (cl:List (Str × Addr)) (fp:List Addr),Cok d (p.blk scope s H C' cl fp)→JOt (p.blk scope s H C' cl fp) c ifs ot) (he:∀ (s:Shared) (H:Hp) (C':Addr) (cl:List (Str × Addr)) (fp:List Addr),Cok d (p.blk scope s H C' cl fp)→JE (p.blk scope s H C' cl fp) c elt ee)
  (hs:∀ x,foldedSetIterable iter p.X.env x=pure x) (hsl:∀ i∈slTg tg,i∈own):PS p.X (.Assign [.Name y py] (.ListComp elt [⟨tgE,iter,ifs,0⟩] scope pos) spos) (tAsg (tF p (evE c (.comp ee tg it ot own))) (gName i)):=
 setLc_read C.hK C.calm C.nd hy hyl hsw hi how (blkOk_by ok) (fun s H C' cl fp=>hg s H C' cl fp (C.blk ..)) (fun s H C' cl fp=>ht s H C' cl fp (C.blk ..)) (fun s H C' cl fp=>he s H C' cl fp (C.blk ..)) hs hsl
theorem zLcSet (h:PS p.X st (tAsg (tF p (evE c ea)) (gName i))):JS p c fr st (.set i ea):=h.imp (asgF_val i)
theorem zAsg {tg:Tg}(he:JE p c a ea)(hg:PG p.X tgE (gT p.g.K tg))(hs:swapsWithSole [tgE] a pos.line p.X.env=pure false)(hw:swappedStores [tgE] a p.X.env=pure none)(h1:(assignEach [tgE] p.X.env).map (·.2)=[assign tgE p.X.env]):JS p c fr (.Assign [tgE] a pos) (.asg tg ea):=SS_asg he hg hs hw h1
theorem zPar2 (C:Cok d p){px py pt:Pos}{kt k2:Nat}{pt2:Pos}(hi:p.X.N[i]? = some x)(hj:p.X.N[j]? = some y)(hij:i≠j)(hx:p.X.env.scope.names.lookup x=some .local)(hy:p.X.env.scope.names.lookup y=some .local)(ha:JL p c [a,b] l)
  (hw:swappedStores [.Tuple [.Name x px,.Name y py] kt pt] (.Tuple [a,b] k2 pt2) p.X.env=pure (some [x,y])) (hs:swapsWithSole [.Tuple [.Name x px,.Name y py] kt pt] (.Tuple [a,b] k2 pt2) pos.line p.X.env=pure false) :
  JS p c fr (.Assign [.Tuple [.Name x px,.Name y py] kt pt] (.Tuple [a,b] k2 pt2) pos) (.par [(i,false),(j,false)] l):=SS_par2 C.calm C.nd hi hj hij hx hy ha hw hs
theorem zPar3 (C:Cok d p){px py pz pt:Pos}{kt k2 k:Nat}{pt2:Pos}{b3:Expr}(hi:p.X.N[i]? = some x)(hj:p.X.N[j]? = some y)(hl:p.X.N[k]? = some z)(hij:i≠j)(hil:i≠k)(hjl:j≠k)(hx:p.X.env.scope.names.lookup x=some .local)(hy:p.X.env.scope.names.lookup y=some .local)(hz:p.X.env.scope.names.lookup z=some .local)(ha:JL p c [a,b,b3] l)
  (hw:swappedStores [.Tuple [.Name x px,.Name y py,.Name z pz] kt pt] (.Tuple [a,b,b3] k2 pt2) p.X.env=pure (some [x,y,z])) (hs:swapsWithSole [.Tuple [.Name x px,.Name y py,.Name z pz] kt pt] (.Tuple [a,b,b3] k2 pt2) pos.line p.X.env=pure false) :
  JS p c fr (.Assign [.Tuple [.Name x px,.Name y py,.Name z pz] kt pt] (.Tuple [a,b,b3] k2 pt2) pos) (.par [(i,false),(j,false),(k,false)] l):=SS_par3 C.calm C.nd hi hj hl hij hil hjl hx hy hz ha hw hs
theorem zSetC (C:Cok d p){t:Cl}(hi:p.X.N[i]? = some x)(hx:Loc p.X.env.scope x)(he:JC p a t)(hs:swapsWith a (some (.Name x pos')) pos.line p.X.env=pure false)(hf:p.X.fn x=true∨p.X.env.scope.names.lookup x=some .local):JS p c fr (.Assign [.Name x pos'] a pos) (.setC i t):=SS_setC C.nd hi hx he hs hf
theorem zExpr (he:JE p c a ea)(hs:swapsWith a none pos.line p.X.env=pure false):JS p c fr (.Expr a pos) (.expr ea):=SS_expr he hs
theorem zRet (he:JE p c a ea):JS p c false (.Return (some a) pos) (.ret ea):=SS_ret he
theorem zRetF (he:JF p c a ea):JS p c true (.Return (some a) pos) (.ret ea):=SS_retF he
theorem zIf {sa sb:List Stmt}{t:T}(hc:JT p c e t)(ha:JSs p c fr sa ss)(hb:JSs p c fr sb tt):JS p c fr (.If e sa sb pos) (.ite t ss tt):=SS_ite hc ha hb
theorem zFor (C:Cok d p){iter:Expr}{sa:List Stmt}{tg:Tg}{it:It}(hp:PassesOwn (model p.X.prog p.X.w) p.X.A p.X.env p.X.xe)(hi:JIk p c tgE iter it)(hg:PG p.X tgE (gT p.g.K tg))(hb:JSs p c fr sa ss)(hs:∀ x,foldedSetIterable iter p.X.env x=pure x):JS p c fr (.For tgE iter sa [] pos) (.loop tg it ss):=SS_loop hp C.calm hi hg hb hs
theorem zCseti {o:Expr}{eo:E}(ho:JE p c o eo)(hi:JE p c a ea)(he:JE p c b eb)(ha:∀ v,assign (.Subscript o a pos) p.X.env v=(do
   let ov ← holding [v] (eval o p.X.env)
   let iv ← holding [v,ov] (eval a p.X.env)
   standAt pos
   holding [v,ov,iv] (setItem ov iv v)
   release [v,ov,iv] []))
  (hs:swapsWithSole [.Subscript o a pos] b pos2.line p.X.env=pure false) (hw:swappedStores [.Subscript o a pos] b p.X.env=pure none) (h1:(assignEach [.Subscript o a pos] p.X.env).map (·.2)=[assign (.Subscript o a pos) p.X.env]):JS p c fr (.Assign [.Subscript o a pos] b pos2) (.cseti eo ea eb):=SS_cseti ho hi he ha hs hw h1
structure ExcG (K:PySem.W.Frag)(mg:Str→Option Value)(D:Addr)(x:Str):Prop where
 ex:PySem.W.excIn K D He.veBase "ValueError.__new__" = true
 mg:mg x=some (.ref D)
 kp:PySem.W.keepIn K (.ref D)=true
 sub:PySem.W.subIn K (.ref D) (.type "BaseException")=some true
 ty:PySem.W.typeIn K (.ref D)=some (.type "type")
theorem zRaise (C:Cok d p){k jj:Nat}{m:Str}{pp p2:Pos}(h:ExcG p.X.K p.X.mg (p.clA k) x)(hg:Gl p.X x)(hd:okN x=true)(hk:k<1000:=by decide):JS p c fr (.Raise (some (.Call (.Name x pp) [.Constant (.str m) jj p2] [] pos)) none pos') (.raise k):=
 SS_raise C.calm C.tk F.excBase_ValueError h.ex h.mg h.kp (raises_own h.sub h.ty) hg (okN1 hd) hk
structure TabF (p:Pl):Prop where
 ex:∃ (nm:Nat→Nat→Str) (cc P:Addr),TabB p.X.base p.X.mg cc P∧p.X.env.code=.ref cc∧(P,nm)∈p.g.tabs∧(∀ l k,nm l k=p.X.env.qual ++ "<lambda>")∧∀ t∈p.g.tabs,t.1=P→t.2=nm
def lamChk (sc scope:Scope)(N fr:List Str)(js:List Nat):Bool:=
 (scope.names.all fun y => !decide (y.2=.free)||decide (sc.names.lookup y.1=some .cell)||decide (sc.names.lookup y.1=some .free))&&(fr.all fun y=>decide ((y,NameKind.free)∈scope.names))&&(scope.names.all fun y => !decide (y.2=.free)||decide (y.1∈fr))&&decide (js.map (fun j=>N[j]?)=fr.map some)
theorem lamHere {k:Nat}{js:List Nat}{L:LamI}(T:TabF p)(he:e=.Lambda L.params L.body L.scope pos)(hl:p.g.lamI k=some L)(hq:p.X.env.qual ++ "<lambda>" = L.qual)(hdef:defaultsOf L.params p.X.env=([],[]))(h:lamChk p.X.env.scope L.scope p.X.N L.fr js=true):LamHere p k js e:=by
 obtain ⟨nm,cc,P,tb,hc,hm,hn,hu⟩:=T.ex
 unfold lamChk at h
 simp only [Bool.and_eq_true,Bool.or_eq_true,Bool.not_eq_true',decide_eq_true_eq,decide_eq_false_iff_not,List.all_eq_true] at h
 obtain ⟨⟨⟨h1,h2⟩,h3⟩,h4⟩:=h
 refine ⟨L,pos,nm,cc,P,he,hl,tb,hc,hm,hq,by rw [hn,hq],hu,hdef,fun y hy e => ?_,h2,fun y hy e => ?_,h4⟩
 ·rcases h1 y hy with (z|z)|z
  ·exact absurd e z
  ·exact .inl z
  ·exact .inr z
 ·rcases h3 y hy with z|z
  ·exact absurd e z
  ·exact z
def As.onlyV:As→Bool
 | .nil=>true
 | .cons _ l=>l.onlyV
 | _=>false
theorem onlyV_ok:∀ {as:As},as.onlyV=true→∀ ρ κ q,evA c as ρ κ=.ok q→AllV q.1
 | .nil,_,ρ,κ,q,e=>by
  have e:R.ok (([]:List Ar),κ)=.ok q:=e
  cases e;trivial
 | .cons x l,h,ρ,κ,q,e=>by
  have e:((evE c x ρ κ).bind fun p=>(evA c l ρ p.2).bind fun q=>.ok (.v p.1::q.1,q.2))=.ok q:=e
  obtain ⟨a,_,e⟩:=Qx7 e
  obtain ⟨b,eb,e⟩:=Qx7 e
  cases e
  exact onlyV_ok (as:=l) h ρ a.2 b eb
 | .ext _ _,h,_,_,_,_=>by cases h
 | .clos _ _,h,_,_,_,_=>by cases h
 | .clo1 _ _ _,h,_,_,_,_=>by cases h
end
theorem tabF_of {g:Gx}{clA:Nat→Addr}{P:Program}{W:World}{mg:Str→Option Value}{base:Heap}{N:List Str}{qual x:Str}{scope:Scope}{f:Addr}{cd:Value}{A:Around}{outer:List Env}{s:Shared}{H:Hp}{E:XK}{nm:Nat→Nat→Str}
  (hcd:PySem.W.codeIn g.K cd qual=true) (hex:∃ fd2 o,fd2.code=cd∧g.K.lookup f=some o∧o.data=.func fd2) (hf:f=He.ga g.K x) (hT:TabB base mg (He.cT g.K (x,none)).1 (He.cT g.K (x,none)).2) (hm:((He.cT g.K (x,none)).2,nm)∈g.tabs)
  (hn:∀ l k,nm l k=(qual ++ ".<locals>.") ++ "<lambda>") (hu:∀ t∈g.tabs,t.1=(He.cT g.K (x,none)).2→t.2=nm):TabF (defPl g clA P W mg base N qual scope f cd A outer s H E):=by
 obtain ⟨fd2,o,e1,e2,e3⟩:=hex
 obtain ⟨cc,ec⟩:=He.codeIn_ref hcd
 obtain ⟨oc,od,dt,osl⟩:=o
 have e3:dt=.func fd2:=e3
 subst e3
 have lk:g.K.lookup (He.fAd g.K (x,none))=some ⟨oc,od,.func fd2,osl⟩:=by
  show g.K.lookup (He.ga g.K x)=_
  rw [← hf];exact e2
 have hc:=He.codeOf_eq lk (e1.trans ec)
 have h1:(He.cT g.K (x,none)).1=cc:=hc
 refine ⟨nm,cc,(He.cT g.K (x,none)).2,by rw [← h1];exact hT,ec,hm,hn,hu⟩
def xItem:Expr→Nat→Expr
 | .List es _,i=>es.getD i default
 | .Tuple es _ _,i=>es.getD i default
 | _,_=>default
def xRight:Expr→Expr
 | .BinOp _ _ b _=>b
 | _=>default
def xOperand:Expr→Expr
 | .UnaryOp _ a _=>a
 | _=>default
def xArg:Expr→Nat→Expr
 | .Call _ es _ _,i=>es.getD i default
 | _,_=>default
def sAt (l:List Stmt)(i:Nat):Stmt:=l.getD i default
def sValue:Stmt→Expr
 | .Assign _ e _=>e
 | _=>default
def sForB:Stmt→List Stmt
 | .For _ _ b _ _=>b
 | _=>[]
def sTest:Stmt→Expr
 | .If e _ _ _=>e
 | _=>default
def lamOf (qual:Str)(fr:List Str):Expr→LamI
 | .Lambda p b s _=>⟨qual,p,b,s,fr⟩
 | _=>⟨qual,⟨[],[],none,[],[],none,[]⟩,default,⟨.function,[],false,false,[]⟩,fr⟩
end PL
end
section
namespace PL
open PySem
end PL
namespace PL
open PySem PySem.Spec PyProof.Rows L2 LamX NdefX
section
variable {g:Gx}{X:Cx}{b:Bool}{w w':Wd}{κ:Ks}{H H' Hs:Hp}{ρ:Rho}{σ:L2.St}{a:Addr}{o o2:HO}{c2:Cell}
end
section
variable {c:CB}{d:Nat}{p:Pl}{pos np q q2 pos2 pos':Pos}{i j:Nat}{x y z:Str}{a b e e1 e2 e3:Expr}{ea eb ee:E}{es:List Expr}{l:Es}{fr:Bool}
inductive JD (p:Pl)(c:CB):List Str→List (Option Expr)→List Expr→Es→Prop where
 | nil:JD p c [] [] [] .nil
 | cons {k:Str} {kk:Nat} {kp:Pos} {ks:List Str} {keys:List (Option Expr)} {a:Expr} {es:List Expr} {ea:E} {l:Es} (h:JE p c a ea) (t:JD p c ks keys es l):JD p c (k::ks) (some (.Constant (.str k) kk kp)::keys) (a::es) (.cons ea l)
def trsOf (p:Pl)(c:CB):List Str→Es→List (TE × TE)
 | k::ks,.cons ea l=>(L2.tC (V.str k),tG p (rV p.g) (evE c ea))::trsOf p c ks l
 | _,_=>[]
def kvOf (ks:List Str)(xs:List V):List (L2.Key × V):=(ks.zip xs).map fun q=>(Sum.inr q.1,q.2)
theorem JD.run {ks:List Str}{keys:List (Option Expr)}(h:JD p c ks keys es l):∀ {σ:L2.St} {H:Hp} {Q:List (V × V)→Hp→Prop} {w:Wd} {ρ:Rho} {κ:Ks},RE p.g p.X p.b w H ρ σ→WF p.g w κ H →
  Post p.g p.clA (rVs p.g) w H (evEs c l ρ κ) (fun xs H2=>Q ((kvOf ks xs).map fun kv=>(kV kv.1,kv.2)) H2) (fun cl dd H'=>p.W cl dd σ H')→tPairs (trsOf p c ks l) σ H Q:=by
 induction h with
 | nil=>intro σ H Q w ρ κ re wf po;exact po [] w H (Ext.refl w H) wf .nil
 | @cons k kk kp ks keys a es ea l h t ih=>
  intro σ H Q w ρ κ re wf po
  have po:Post p.g p.clA (rVs p.g) w H ((evE c ea ρ κ).bind fun q=>(evEs c l ρ q.2).bind fun r=>.ok (q.1::r.1,r.2)) (fun xs H2=>Q ((kvOf (k::ks) xs).map fun kv=>(kV kv.1,kv.2)) H2) (fun cl dd H'=>p.W cl dd σ H'):=po
  refine ⟨w,ρ,κ,re,wf,Post.bind po fun w1 H1 v κ1 y wf1 e1 rv po1 => ?_⟩
  refine ih (re.ext e1 wf) wf1 (Post.bind po1 fun w2 H2 vs κ2 ys wf2 e2 rvs po2 => ?_)
  exact po2 (y::ys) w2 H2 (Ext.refl w2 H2) wf2 (.cons (rv.ext e2 wf1) rvs)
theorem rFmt (ha:JE p c a ea):JE p c (.FormattedValue a (-1) none pos) (.fmt ea):=
 (pe_fmt ha).imp fun σ H Q h=>Qzn (f:=fun _ q=>R.ofO ((fmtV q.1).map fun v=>(v,q.2))) h fun w ρ κ H1 u x re wf rx po=>by
  obtain ⟨v,ev,k⟩:=Post.some (p:=p) po
  unfold fmtV at ev
  dsimp only at ev
  split at ev
  ·split at ev
   ·rename_i hl
    cases ev
    cases rx
    exact .inl ⟨_,rfl,by rw [← Qx8];exact hl,here wf k (.str _)⟩
   ·cases ev
  ·split at ev
   ·rename_i n hl
    cases ev
    cases rx
    refine .inr ⟨_,rfl,?_,here wf k (.str _)⟩
    by_cases h0:n.natAbs=0
    ·rw [h0];decide
    ·exact Nat.lt_of_lt_of_le ((Nat.log2_lt h0).mpr hl) (by decide)
   ·cases ev
  ·cases ev
inductive JJ (p:Pl)(c:CB):List Expr→Es→Prop where
 | nil:JJ p c [] .nil
 | cons {a:Expr} {es:List Expr} {ea:E} {l:Es} (h:JE p c a ea) (t:JJ p c es l):JJ p c (a::es) (.cons ea l)
def tesOf (p:Pl)(c:CB):Es→List TE
 | .cons ea l=>tG p (rV p.g) (evE c ea)::tesOf p c l
 | .nil=>[]
theorem JJ.pj (h:JJ p c es l):PJ p.X es (tesOf p c l):=by
 induction h with
 | nil=>exact .nil
 | cons h t ih=>exact .cons h ih
theorem JJ.run (h:JJ p c es l):∀ {σ:L2.St} {H:Hp} {Q:Str→Hp→Prop} {w:Wd} {ρ:Rho} {κ:Ks} (acc:Str),RE p.g p.X p.b w H ρ σ→WF p.g w κ H →
  Post p.g p.clA (fun _ _ (a:Str) b=>a=b) w H (evF c l acc ρ κ) Q (fun cl dd H'=>p.W cl dd σ H')→tJs (tesOf p c l) acc σ H Q:=by
 induction h with
 | nil=>intro σ H Q w ρ κ acc re wf po;exact po acc w H (Ext.refl w H) wf rfl
 | @cons a es ea l h t ih=>
  intro σ H Q w ρ κ acc re wf po
  have po:Post p.g p.clA (fun _ _ (a:Str) b=>a=b) w H ((evE c ea ρ κ).bind fun q=>(R.ofO (fjV acc q.1)).bind fun s=>evF c l s ρ q.2) Q (fun cl dd H'=>p.W cl dd σ H'):=po
  refine ⟨w,ρ,κ,re,wf,Post.bind po fun w1 H1 v κ1 y wf1 e1 rv po1 => ?_⟩
  have rv:RV p.g w1.I w1.μ H1 v y:=rv
  have po1:Post p.g p.clA (fun _ _ (a:Str) b=>a=b) w1 H1 ((R.ofO (fjV acc v)).bind fun s=>evF c l s ρ κ1) Q (fun cl dd H'=>p.W cl dd σ H'):=po1
  cases v with
  | str s=>
   cases rv
   have po1:Post p.g p.clA (fun _ _ (a:Str) b=>a=b) w1 H1 ((R.ofO (if acc.length+s.length≤LINE then some (acc++s) else none)).bind fun s=>evF c l s ρ κ1) Q (fun cl dd H'=>p.W cl dd σ H'):=po1
   by_cases hl:acc.length+s.length≤LINE
   ·rw [if_pos hl] at po1
    refine ⟨s,rfl,?_,ih (acc++s) (re.ext e1 wf) wf1 po1⟩
    have:(acc++s).length=acc.length+s.length:=PySem.Str.length_append acc s
    rw [this,← Qx8];exact hl
   ·rw [if_neg hl] at po1;exact po1.elim
  | _=>exact po1.elim
theorem rFstr {v1 v2:Expr}{rest:List Expr}(h:JJ p c (v1::v2::rest) l):JE p c (.JoinedStr (v1::v2::rest) pos) (.fstr l):=
 (pe_joined h.pj).imp fun σ H Q ⟨w,ρ,κ,re,wf,po⟩=>h.run Str.empty re wf (Post.bind (f:=fun q=>R.ok (Val.str q.1,q.2)) po fun w1 H1 a κ1 x wf1 e1 ra po1=>by
  have ra:a=x:=ra
  subst ra
  exact po1 _ w1 H1 (Ext.refl w1 H1) wf1 (.str _))
end
end PL
end
section
set_option maxHeartbeats 4000000
namespace PL
open PySem PySem.Spec PyProof.Rows L2 LamX NdefX
section
variable {p:Pl}{c:CB}{d:Nat}{fr:Bool}{a b e o:Expr}{ea eb ee eo:E}{pos pos' apos np q:Pos}{x f m:Str}{ns:List Str}{C:Addr}{k j i:Nat}
end
end PL
end
section
set_option maxHeartbeats 4000000
namespace PL
open PySem PySem.Spec PyProof.Rows L2 LamX NdefX
section
variable {p:Pl}{c:CB}{d:Nat}{fr:Bool}{a b e o:Expr}{ea eb ee eo:E}{pos pos' apos np q q2:Pos}{x f m:Str}{ns:List Str}{C:Addr}{k j i:Nat}
theorem RoomP.make {k:Nat}{A:Around}(r:RoomP (k+1) A)(C:Addr)(us:List Value)(kw:List (Str × Value)):RoomP k (A.under (.builtin "type.__call__" ⟨.ref C::us,kw⟩)):=
 ⟨r.hd,by have:=r.dp;rw [make_depth];omega,by have:=r.un;rw [make_units];omega⟩
end
end PL
end
section
set_option maxHeartbeats 4000000
namespace PL
open PySem PySem.Spec PyProof.Rows L2 LamX NdefX
structure WlkC (g:Gx)(S:Wd→Ks→Hp→Prop)(J:L2.It)(l:List Val):Prop where
 go:∀ (i:Nat) (w:Wd) (κ:Ks) (H:Hp),i<l.length→S w κ H→WF g w κ H→J.go i H
 stop:∀ (w:Wd) (κ:Ks) (H:Hp),S w κ H→WF g w κ H→J.stop l.length H
 yld:∀ (i:Nat) (w:Wd) (κ:Ks) (H:Hp) (x:V) (H':Hp),i<l.length→S w κ H→WF g w κ H→J.yld i H x H'→∃ v,l[i]? = some v∧Ext w H w H'∧WF g w κ H'∧RV g w.I w.μ H' v x
section
variable {g:Gx}{w w':Wd}{κ:Ks}{H H':Hp}
end
section
variable {p:Pl}{c:CB}{d:Nat}{tg a b:Expr}{ea eb:E}{pos q:Pos}
end
section
variable {p:Pl}{elt tgE iter:Expr}{ifs:List Expr}{scope:Scope}{own:List Nat}{pos:Pos}{mi:Rho→Ks→R ((List Val × List (Nat × List Val)) × Ks)}{mt:Rho→Ks→R (Bool × Ks)}{me:Rho→Ks→R (Val × Ks)}{tg:Tg}
end
section
variable {p:Pl}{c:CB}{d:Nat}{tgE:Expr}{pos:Pos}{x y:Str}{i:Nat}
end
end PL
end
section
namespace PL
open PySem PySem.Spec PyProof.Rows L2 LamX NdefX
section
variable {p:Pl}{fr:Bool}{w0 w:Wd}{ρ:Rho}{κ:Ks}{σ:L2.St}{H:Hp}
theorem SlotOk.updO {g:Gx}{X:Cx}{b:Bool}{w:Wd}{H:Hp}{σ:L2.St}{i:Nat}{a:Addr}{xs ys:List V}(h:H a=some (.lst xs))(kp:Keeps w.I w.I w.μ w.μ H (upd H a (.lst ys))):∀ {sl:Slot},(∀ l c,sl=.own l→σ[i]? = some (some (.ref c))→c≠a)→SlotOk g X b w H σ i sl→SlotOk g X b w (upd H a (.lst ys)) σ i sl
 | .val _,_,⟨x,h1,h2⟩=>⟨x,h1,h2.keeps kp⟩
 | .own l,no,⟨c,zs,h1,h2,h3,h4,h5,h6⟩=>⟨c,zs,h1,by rw [upd_ne (no l c rfl h1)];exact h2,h3.keeps kp,h4,h5,h6⟩
 | .cls _,_,.inl z=>.inl z
 | .cls _,_,.inr ⟨c,zs,h1,h2,h3,h4⟩=>.inr ⟨c,zs,h1,h2,kp.l _ _ h2 h3,RLs.updM h rfl h4⟩
 | .ext _,_,⟨x,h1,h2⟩=>⟨x,h1,RX.updM h rfl kp h2⟩
 | .pin,_,h=>h
theorem own_upd (hb:p.b=false)(c:Cur p w0 w ρ κ σ H){i:Nat}{l:List Val}(hi:ρ[i]? = some (some (.own l))) :
    ∃ a xs, σ[i]? = some (some (.ref a)) ∧ H a = some (.lst xs) ∧ RVs p.g w.I w.μ H l xs ∧ ∀ (l2 : List Val) (ys : List V), RVs p.g w.I w.μ H l2 ys →
      Cur p w0 w (ρ.set i (some (.own l2))) κ σ (upd H a (.lst ys))∧Keeps w.I w.I w.μ w.μ H (upd H a (.lst ys)):=by
  obtain ⟨a,xs,hs,ha,r,nI,nM,h0⟩:=c.re.at_ i _ hi
  have h0:p.X.H_0 a=none:=h0.elim (fun z=>by rw [hb] at z;cases z) id
  refine ⟨a,xs,hs,ha,r,fun l2 ys r2 => ?_⟩
  have kp:=Keeps.updM c.wf nI ha rfl (.lst ys)
  have hlt:=(List.getElem?_eq_some_iff.mp hi).1
  have own:∀ {j:Nat} {m:List Val},(ρ.set i (some (.own l2)))[j]? = some (some (.own m))→∃ m',ρ[j]? = some (some (.own m')):=fun {j m} hj=>by
    rcases Qqc hj with ⟨ej,_,es⟩|⟨nj,hj⟩
    · subst ej;exact ⟨l,hi⟩
    · exact ⟨m,hj⟩
  refine ⟨⟨⟨by rw [List.length_set];exact c.re.len,fun j sl hj => ?_,fun j k m1 m2 b h1 h2 h3 h4 => ?_⟩,⟨c.wf.len,fun j b hb' => ?_,c.wf.nd,c.wf.dis,fun b z => ?_,fun q hq => ?_⟩,c.e0.I,c.e0.new,c.e0.mu,fun b o hb' nb nt => ?_,fun b q => ?_⟩,kp⟩
  · rcases Qqc hj with ⟨ej,_,es⟩|⟨nj,hj⟩
    · subst ej;cases es
      exact ⟨a,ys,hs,upd_same,r2.keeps kp,nI,nM,.inr h0⟩
    · refine SlotOk.updO ha kp (fun m b e1 e2 z => ?_) (c.re.at_ j sl hj)
      subst e1
      subst z
      exact nj (c.re.apart i j l m b hi hj hs e2)
  · obtain ⟨m1',q1⟩:=own h1
    obtain ⟨m2',q2⟩:=own h2
    exact c.re.apart j k m1' m2' b q1 q2 h3 h4
  · obtain ⟨c',h1,h2⟩:=c.wf.at_ j b hb'
    refine ⟨c',h1,h2.keeps kp fun o _ q => ?_⟩
    rw [upd_ne (fun z=>nM (by rw [← z];exact List.mem_of_getElem? hb'))]
    exact q
  · obtain ⟨zs,q⟩:=c.wf.dom b z
    exact ⟨zs,kp.l _ _ z q⟩
  · obtain ⟨ps,h1,h2,h3⟩:=c.wf.tab q hq
    refine ⟨ps,by rw [upd_ne (fun z=>by rw [z,ha] at h1;cases h1)];exact h1,h2,fun pos cv hc => ?_⟩
    obtain ⟨cc,e1,e2⟩:=h3 pos cv hc
    exact ⟨cc,e1,by rw [upd_ne (fun z=>by rw [z,ha] at e2;cases e2)];exact e2⟩
  · rw [upd_ne (fun z=>by rw [z,h0] at hb';cases hb')]
    exact c.e0.fr b o hb' nb nt
  · unfold upd at q
    split at q
    · cases q
    · exact c.e0.dm b q
theorem rdO_own {i:Nat}{l:List Val}(h:rdO ρ i=some l):ρ[i]? = some (some (.own l)):=by
 unfold rdO at h
 split at h
 ·rename_i e;cases h;exact e
 ·cases h
end
section
variable {p:Pl}{fr:Bool}{e:Expr}{me:Rho→Ks→R (Val × Ks)}{i:Nat}{x:Str}{pos pos' np apos:Pos}
theorem SS_append (hb:p.b=false)(hn:p.X.N[i]? = some x)(hv:Vis p.X.env.scope x)(hd:(x == ("__debug__" : Str))=false)(hcd:(x == ("__classdict__" : Str))=false)(he:SE p e me)
  (hs:swapsWith (.Call (.Attribute (.Name x np) "append" apos) [e] [] pos) none pos'.line p.X.env=pure false) (hbase:attributeBase (.Name x np) "append" p.X.env (eval (.Name x np) p.X.env)=eval (.Name x np) p.X.env) (hline:(apos.endLine == pos.line)=true) (hst:starEach [e] p.X.env=[(false,eval e p.X.env)])
  (hfew:((backTo pos (starEach [e] p.X.env)).all (fun x => !x.1)&&(backToKw pos (keywordEach [] p.X.env)).all (fun x=>x.1.isSome)&&decide ([e].length+([]:List Keyword).length+(if ([]:List Keyword).isEmpty then 0 else 1)<30))=true) :
  SS p fr (.Expr (.Call (.Attribute (.Name x np) "append" apos) [e] [] pos) pos') (fun ρ κ=>match rdO ρ i with
   | some l=>(me ρ κ).toO fun q=>if l.length<LINE then .nx (ρ.set i (some (.own (l++[q.1])))) q.2 else .bad
   | none=>.bad):=by
 refine (ps_expr (pe_bm PySem.F.plainAttrs_list PySem.F.slot_list_append PySem.F.type_list_append mt_append (pe_var (i:=i) hn hv hd hcd) (pa_cons he pa_nil hst) hbase hfew hline hst rfl) hs).imp fun D σ H ⟨w0,w,ρ,κ,c0,po⟩ => ?_
 have po:Qzt p fr w0 w H D (match rdO ρ i with
   | some l=>(me ρ κ).toO fun q=>if l.length<LINE then .nx (ρ.set i (some (.own (l++[q.1])))) q.2 else .bad
   | none=>.bad):=po
 cases ho:rdO ρ i with
 | none=>
  rw [ho] at po
  exact po.elim
 | some l=>
  rw [ho] at po
  have ho:=rdO_own ho
  obtain ⟨a,xs,s1,s2,s3,_⟩:=own_upd hb c0 ho
  refine ⟨_,s1,.inl ⟨rfl,_,SqL.of s2⟩,w,ρ,κ,c0.re,c0.wf,Qzt.bind c0 po fun w1 H1 v κ1 y wf1 e1 rv po1 => ?_⟩
  have c1:=c0.step e1 wf1
  obtain ⟨a',xs',t1,t2,t3,t4⟩:=own_upd hb c1 ho
  rw [s1] at t1
  cases t1
  have po1:Qzt p fr w0 w1 H1 D (if l.length<LINE then .nx (ρ.set i (some (.own (l++[v])))) κ1 else .bad):=po1
  by_cases hl:l.length<LINE
  ·rw [if_pos hl] at po1
   obtain ⟨c2,k2⟩:=t4 (l++[v]) (xs'++[y]) (t3.append (.cons rv .nil))
   refine ⟨_,_,_,rfl,rfl,t2,?_,?_⟩
   ·rw [← t3.length];exact hl
   ·exact po1 w1 σ _ c2 k2
  ·rw [if_neg hl] at po1
   exact po1.elim
variable {a:Expr}{mi:Rho→Ks→R (Val × Ks)}{pos2:Pos}
theorem RX1.sameH {g:Gx}{w w':Wd}{H:Hp}(kp:Keeps w.I w'.I w.μ w'.μ H H){k:Nat}{caps:List Val}{x:V}(r:RX1 g w H k caps x):RX1 g w' H k caps x:=by
 cases r with
 | mk h0 o oc fr cc all inj vs r=>exact .mk h0 o oc fr cc all inj vs (r.keeps kp)
theorem RXs.sameH {g:Gx}{w w':Wd}{H:Hp}(kp:Keeps w.I w'.I w.μ w'.μ H H):∀ {l:List (Nat × List Val)} {zs:List V},RXs g w H l zs→RXs g w' H l zs
 | _,_,.nil=>.nil
 | _,_,.cons r t=>.cons (r.sameH kp) (RXs.sameH kp t)
theorem RX.sameH {g:Gx}{w w':Wd}{H:Hp}(kp:Keeps w.I w'.I w.μ w'.μ H H):∀ {v:Ex} {z:V},RX g w H v z→RX g w' H v z
 | _,_,.one r=>.one (r.sameH kp)
 | _,_,.many j q r=>.many (kp.j _ j) q (RXs.sameH kp r)
theorem own_dg {w0 w:Wd}{ρ:Rho}{κ:Ks}{σ:L2.St}{H:Hp}(hb:p.b=false)(c:Cur p w0 w ρ κ σ H){i:Nat}{l:List Val}(hi:ρ[i]? = some (some (.own l))):∃ w',Cur p w0 w' (ρ.set i (some (.val (.lst l)))) κ σ H∧Keeps w.I w'.I w.μ w'.μ H H:=by
 obtain ⟨a,xs,hs,ha,r,nI,nM,h0⟩:=c.re.at_ i _ hi
 have h0:p.X.H_0 a=none:=h0.elim (fun z=>by rw [hb] at z;cases z) id
 have wf2:=c.wf.fix ha nM
 have kp:Keeps w.I (w.fix a).I w.μ (w.fix a).μ H H:=Keeps.fix
 have hlt:=(List.getElem?_eq_some_iff.mp hi).1
 refine ⟨w.fix a,⟨⟨by rw [List.length_set];exact c.re.len,fun j sl hj => ?_,fun j k m1 m2 b h1 h2 h3 h4 => ?_⟩,wf2,⟨fun b z=>.inl (c.e0.I b z),fun b z => ?_,c.e0.mu,c.e0.fr,c.e0.dm⟩⟩,kp⟩
 ·rcases Qqc hj with ⟨ej,_,es⟩|⟨nj,hj⟩
  ·subst ej;cases es
   exact ⟨.ref a,hs,.lst (.inr rfl) ha (r.keeps kp)⟩
  ·have q:=c.re.at_ j sl hj
   cases sl with
   | val v=>obtain ⟨x,h1,h2⟩:=q;exact ⟨x,h1,h2.keeps kp⟩
   | own m=>
    obtain ⟨b,zs,h1,h2,h3,h4,h5,h6⟩:=q
    refine ⟨b,zs,h1,h2,h3.keeps kp,fun z => ?_,h5,h6⟩
    rcases z with z|z
    ·exact h4 z
    ·subst z
     exact nj (c.re.apart i j l m b hi hj hs h1)
   | cls m=>
    rcases q with z|⟨b,zs,h1,h2,h3,h4⟩
    ·exact .inl z
    ·exact .inr ⟨b,zs,h1,.inl h2,h3,h4⟩
   | ext y=>
    obtain ⟨x,h1,h2⟩:=q
    exact ⟨x,h1,h2.sameH kp⟩
   | pin=>exact q
 ·rcases Qqc h1 with ⟨_,_,es⟩|⟨nj,h1⟩
  ·cases es
  ·rcases Qqc h2 with ⟨_,_,es⟩|⟨nk,h2⟩
   ·cases es
   ·exact c.re.apart j k m1 m2 b h1 h2 h3 h4
 ·rcases z with z|z
  ·exact c.e0.new b z
  ·subst z
   exact .inr h0
theorem SSs_dg {sts:List Stmt}{n:Rho→Ks→O}(hb:p.b=false)(i:Nat)(t:SSs p fr sts n):SSs p fr sts (fun ρ κ=>match rdO ρ i with
  | some l=>n (ρ.set i (some (.val (.lst l)))) κ
  | none=>n ρ κ):=
 t.imp fun D σ H ⟨w0,w,ρ,κ,c0,po⟩=>by
  have po:Qzt p fr w0 w H D (match rdO ρ i with
   | some l=>n (ρ.set i (some (.val (.lst l)))) κ
   | none=>n ρ κ):=po
  cases ho:rdO ρ i with
  | none=>
   rw [ho] at po
   exact ⟨w0,w,ρ,κ,c0,po⟩
  | some l=>
   rw [ho] at po
   obtain ⟨w',c',k'⟩:=own_dg hb c0 (rdO_own ho)
   exact ⟨w0,w',_,κ,c',Qzt.weak po k'⟩
end
end PL
end
section
set_option maxHeartbeats 4000000
namespace PL
open PySem PySem.Spec PyProof.Rows L2 LamX NdefX
section
variable {p:Pl}{c:CB}{d:Nat}{fr:Bool}{e:Expr}{ee:E}{pos pos' apos np:Pos}{x:Str}{i:Nat}
end
end PL
end
section
set_option maxHeartbeats 4000000
namespace PL
open PySem PySem.Spec PyProof.Rows L2 LamX NdefX
def tupO (us:List Value):Obj:={ cls:=.type "tuple", data:=.seq us.toArray }
def FnSV (P:Program)(W:World)(g:Gx)(clA:Nat→Addr)(mg:Str→Option Value)(base:Heap)(d:Nat)(a:Addr)(sem:List Ar→Ks→R (Val × Ks)):Prop:=
  ∀ (A : Around) (outer : List Env) (s0 : Shared) (H : Hp) (u0 : Value) (us : List Value) (v0 v1 : V) (Q : VK) (E : XK) (w : Wd) (args : List Ar) (κ : Ks), RoomP d A → us.length ≤ 7 → g.K.In s0.heap → Env0 P W g.K mg base A outer { s0 with heap := s0.heap.push (tupO us) } H → L2.RelV v0 u0 → L2.RelV v1 (.ref s0.heap.objs.size) → WF g w κ H → RAs g w H args [v0, v1] → Post g clA (rV g) w H (sem args κ) Q E →
    codeAny (model P W) A (.call (.ref a) ⟨u0::us,[]⟩) (CR (L2N.CX P W) outer P W H { s0 with heap:=s0.heap.push (tupO us) } Q E) s0
section
variable {P:Program}{W:World}{g:Gx}{clA:Nat→Addr}{mg:Str→Option Value}{base:Heap}{d:Nat}{x qual y0 y1:Str}{params:Arguments}{body:List Stmt}{scope:Scope}{kws:List (Str × V)}{f:Addr}{fd:FuncData}{N:List Str}{m:Rho→Ks→O}{sem:List Ar→Ks→R (Val × Ks)}
theorem FnSV.bad {f:Addr}(h:∀ args κ,sem args κ=.bad):FnSV P W g clA mg base d f sem:=fun A outer s0 H u0 us v0 v1 Q E w args κ _ _ _ _ _ _ _ _ po=>by
 rw [h] at po
 exact po.elim
end
end PL
end
section
set_option maxHeartbeats 4000000
namespace PL
open PySem PySem.Spec PyProof.Rows L2 LamX NdefX
section
variable {p:Pl}{c:CB}{d:Nat}{a:Expr}{pos np:Pos}{x:Str}{ns:List Str}{C:Addr}{k:Nat}
end
end PL
end
section
namespace PL
open PySem PySem.Spec PyProof.Rows L2 LamX NdefX
open AutoSeq1 (wpAny_loadPart')
theorem meets_enumT (l:Addr)(o:Obj)(items:Array Value)(n:Nat)(hc:o.cls=.type "tuple")(hd:o.data=.seq items n) :
    Meets (Builtin.«enumerate.__new__» ⟨[.type "enumerate", .ref l],[]⟩) (fun _ R s=>s.heap.get? l=some o ∧
      R (.ok (.ret (.ref (s.heap.push { cls := .type "tuple_iterator", data := .fields #[.ref l, .int 0 0] }).objs.size)))
        { s with heap:=(s.heap.push { cls:=.type "tuple_iterator", data:=.fields #[.ref l,.int 0 0] }).push { cls:=.type "enumerate", data:=.fields #[.none,.bool false,.ref s.heap.objs.size,rawInt 0,.none,.none] } }):=
  .of_wp fun prog w A R s h=>by
    obtain ⟨hp,g,d,tk,os⟩:=s;obtain ⟨hl,h⟩:=h
    have hsub:=sub_enumerate
    have hL:Heap.IsTuple (Shared.heap ⟨hp,g,d,tk,os⟩) l items:=⟨o,hl,hc,n,hd⟩
    wp_walk using wpAny_loadPart' hl
    refine wpAny_stack_any fun st=>wpAny_pure ?_
    split
    · rename_i c _ _ _ _ _
      cases (c == Value.type "enumerate")
      · wp_walk using wpAny_loadPart' hl,wpAny_pyIter_tuple hL
        exact ⟨_,rfl,h⟩
      · wp_walk using wpAny_loadPart' hl,wpAny_pyIter_tuple hL
        exact ⟨_,rfl,h⟩
    · wp_walk using wpAny_loadPart' hl,wpAny_pyIter_tuple hL
      exact ⟨_,rfl,h⟩
theorem call_enumerate_tup {prog:Program}{w:World}{A:Around}{E:Value→Shared→Prop}{s:Shared}{l:Addr}{items:Array Value}{Q:Value→Shared→Prop}(hL:s.heap.IsTuple l items)
  (h:∀ h',IsEnum h' (s.heap.objs.size+1) s.heap.objs.size 0 .none→h'.IsTupleIter s.heap.objs.size l 0→h'.objs.size=s.heap.objs.size+2 →
   (∀ b o,s.heap.get? b=some o→h'.get? b=some o)→Q (.ref (s.heap.objs.size+1)) { s with heap:=h' }) :
  wpAny (model prog w) A (call (.type "enumerate") [.ref l]) Q E s:=by
 obtain ⟨o,hl,hc,n,hd⟩:=hL
 refine callType_new F.called_enumerate (by decide) (F.typeCall_enumerate_1 _) (F.newCall_enumerate_1 _) (fun obj=>F.args_object_init_2 obj _) F.entry_enumerate_new
  (meets_enumT l o items n hc hd) ⟨hl,?_⟩
 have hz:(s.heap.push { cls:=.type "tuple_iterator", data:=.fields #[.ref l,.int 0 0] }).objs.size=s.heap.objs.size+1:=Heap.size_push ..
 show _∧_
 rw [hz]
 have he:IsEnum ((s.heap.push { cls:=.type "tuple_iterator", data:=.fields #[.ref l,.int 0 0] }).push
   { cls:=.type "enumerate", data:=.fields #[.none,.bool false,.ref s.heap.objs.size,rawInt 0,.none,.none] }) (s.heap.objs.size+1) s.heap.objs.size 0 .none:=by
  have:=Heap.get?_push_size (s.heap.push { cls:=.type "tuple_iterator", data:=.fields #[.ref l,.int 0 0] })
   (o:={ cls:=.type "enumerate", data:=.fields #[.none,.bool false,.ref s.heap.objs.size,rawInt 0,.none,.none] }) rfl
  rw [hz] at this;exact this
 refine ⟨⟨_,he,rfl⟩,h _ he ⟨_,Heap.get?_push_of_some _ (Heap.get?_push_size _ rfl),rfl,rfl⟩ (by rw [Heap.size_push,hz]) fun b o x=>Heap.get?_push_of_some _ (Heap.get?_push_of_some _ x)⟩
def IteT (K:PySem.W.Frag)(a:Addr):L2.It:=
 ⟨fun i H=>∃ (xs:List V) (x:V),SqT K H a xs∧xs[i]? = some x,fun i H v H'=>∃ T x,v=.ref T∧H T=none∧H'=upd H T (.tup [.int (i:Nat),x])∧∀ xs,SqT K H a xs→xs[i]? = some x,fun i H=>∃ xs:List V,SqT K H a xs∧xs.length≤i⟩
theorem turn_enumT {P:Program}{w:World}{K:PySem.W.Frag}{elts:List Expr}{kk:Nat}{tpos:Pos}(a e it:Addr)(items:List Value) :
    Turn P w K (.Tuple elts kk tpos) (IteT K a) [e,it] e (fun i h=>(∃ old,IsEnum h e it ((i:Nat):Int) old)∧h.IsTupleIter it a i∧e≠it) where
  mem:=by simp
  obj:=fun i h st b hb=>by
    obtain ⟨⟨old,he⟩,⟨o,ho,hc,hd⟩,_⟩:=st
    have e':b=e∨b=it:=by simpa using hb
    rcases e' with z|z
    · rw [z];exact ⟨_,he,fun v q=>nomatch q⟩
    · rw [z];exact ⟨o,ho,fun v q=>by rw [hd] at q;cases q⟩
  keep:=fun i h h' st k=>let ⟨⟨old,he⟩,hi,hne⟩:=st;⟨⟨old,k e (by simp) _ he⟩,hi.at fun o q=>k it (by simp) o q,hne⟩
  item:=by
    intro X hP hw hK hc i pins s σ H E I hf st hg
    subst hP hw hK
    obtain ⟨⟨old,he⟩,hit,hne⟩:=st
    obtain ⟨xs,x,hq,hx⟩:=hg
    obtain ⟨its,rv,p,hz⟩:=I.tuple hq
    have p':s.heap.IsTuple a its.toArray:=p
    obtain ⟨u,hu,ru⟩:=rv.get hx
    have hel:e<s.heap.objs.size:=Heap.lt_size he
    have hil:it<s.heap.objs.size:=by obtain ⟨_,q,_⟩:=hit;exact Heap.lt_size q
    have nai:a≠it:=fun z=>by
      obtain ⟨o1,q1,q2,_⟩:=p'
      obtain ⟨o2,q3,q4,_⟩:=hit
      rw [z,q3] at q1
      cases q1
      rw [q4] at q2
      exact absurd q2 (by decide +kernel)
    have nea:e≠a:=fun z=>by
      obtain ⟨o1,q1,q2,_⟩:=p'
      have he':s.heap.get? e=_:=he
      rw [z,q1] at he'
      cases he'
      have q2:Value.type "enumerate" = Value.type "tuple" := q2
      exact absurd q2 (by decide +kernel)
    have hlt:i<its.toArray.size:=by
      have:=(List.getElem?_eq_some_iff.mp hu).1
      simpa using this
    have D:=Draws.tuple (prog:=X.prog) (w:=X.w) (A:=X.A.in1) (show X.A.in1.handled=none from I.ok.hd hc) it a nai its.toArray
    refine wpAny_pyNext_enum_itemD D he ⟨hit,p'⟩ hlt hne (by simp [hne,nea]) fun u2 h' tk hP ho st' hT hsz hk => ?_
    have eu:u2=u:=by
      have hP:its.toArray[i]? = some u2:=hP
      rw [List.getElem?_toArray,hu] at hP
      exact (Option.some.inj hP).symm
    subst eu
    refine ⟨_,rfl,wpAny_letOwnedTupleGo_enum (s:={ s with heap:=h',toks:=tk+1 }) ho fun h'' he' sb => ?_⟩
    have hT2:h''.get? s.heap.objs.size=some { cls:=.type "tuple", data:=.seq #[.int i tk,u2] }:=(sb.2 _ (Nat.ne_of_gt hel)).trans hT
    have new:ObjOk X.prog X.w (upd H s.heap.objs.size (.tup [.int (i:Nat),x])) h'' s.heap.objs.size (.tup [.int (i:Nat),x]):=
      ⟨by show 2≤sizeLine;decide,[.int i tk,u2],.cons ⟨_,rfl⟩ (.cons ru .nil),⟨_,hT2,rfl,_,rfl⟩⟩
    have I1:Inv X pins σ (upd H s.heap.objs.size (.tup [.int (i:Nat),x])) { s with heap:=h'',toks:=tk+1 }:=
      I.turnedNew (ch:=[e,it]) (fun b ob hb q=>(sb.2 b (fun z=>hb (by simp [z]))).trans (hk b ob (fun z=>hb (by simp [z])) (fun z=>hb (by simp [z])) q)) hf (Nat.le_refl _) new
    refine ⟨.ref s.heap.objs.size,_,I1,rfl,⟨_,x,rfl,I.hok.fresh (Nat.le_refl _),rfl,fun ys hy=>by rw [I.tuple_inj hy hq];exact hx⟩,⟨⟨u2,?_⟩,st'.1.at fun o q=>(sb.2 it (Ne.symm hne)).trans q,hne⟩,fun b hb => ?_⟩
    · have e1:((i+1:Nat):Int)=(i:Int)+1:=by omega
      rw [e1];exact he'
    · have hb':b<s.heap.objs.size:=by
        have e':b=e∨b=it:=by simpa using hb
        rcases e' with z|z
        · rw [z];exact hel
        · rw [z];exact hil
      rw [upd_ne (Nat.ne_of_lt hb')]
      exact (hf b hb).1
  done:=by
    intro X hP hw hK hc i pins s σ H E I hf st hg
    subst hP hw hK
    obtain ⟨⟨old,he⟩,hit,hne⟩:=st
    obtain ⟨xs,hq,hx⟩:=hg
    obtain ⟨its,rv,p,hz⟩:=I.tuple hq
    have p':s.heap.IsTuple a its.toArray:=p
    obtain ⟨f0,f1,f2,f3,f4,f5⟩:=hf it (by simp)
    have hl:=rv.length
    have D:Draws X.prog X.w X.A.in1 it [it,a] i (fun _ _=>True) (fun j h=>h.IsTupleIter it a i∧h.IsTuple a its.toArray∧j=i):=
      { live := fun _ _ st => let ⟨o, ho, _⟩ := st.1; ⟨o, ho⟩
        frame:=fun _ _ _ st hk=>⟨st.1.at fun o e=>hk it (by simp) o e,st.2.1.at fun o e=>hk a (by simp) o e,st.2.2⟩
        item:=fun j s Q E hj st hQ=>absurd hj (by rw [st.2.2];exact Nat.lt_irrefl _)
        done:=fun s Q E st hE=>wpAny_nextOf_tuple_end (A:=X.A.in1) (show X.A.in1.handled=none from I.ok.hd hc) st.1 st.2.1 (by simp;omega) hE }
    exact wpAny_pyNext_enum_endD D he ⟨hit,p',rfl⟩ fun h' eb=>⟨rfl,I.turned (t':=s.toks) (fun b o hb q=>eb b o hb q) f0 f1 f3 f4 f5⟩
  self:=fun A i s Q E st h=>let ⟨⟨_,he⟩,_⟩:=st;wpAny_pyIter_enum he h
def iEnumA (K:PySem.W.Frag)(ta:TA):TI:=fun σ H R=>ta σ H fun vs H1=>∃ a,vs=[.ref a]∧(((∃ xs,SqL K H1 a xs)∧R (Ite K a) H1)∨((∃ xs,SqT K H1 a xs)∧R (IteT K a) H1))
theorem pi_enumA {X:Cx}{e:Expr}{ta:TA}{p pos tpos:Pos}{elts:List Expr}{kk:Nat}(hg:Gl X "enumerate")(hm:X.mg "enumerate" = none)(ha:PA X [e] ta)(hs:starEach [e] X.env=[(false,eval e X.env)]) :
  PI X (.Tuple elts kk tpos) (.Call (.Name "enumerate" p) [e] [] pos) (iEnumA X.K ta):=by
 refine ⟨fun pins s σ H R I h => ?_⟩
 refine Call_ (ld_blt I hg hm boot_enumerate (PyProof.Rows.callWith_type1 (thn (ha.run pos pins s σ H _ I h) fun us s1 ⟨vs,H1,I1,r1,q1⟩ => ?_) hs rfl))
 obtain ⟨a,ex,q⟩:=q1
 subst ex
 cases r1 with
 | cons r rr=>
  cases rr
  cases r
  have fr:∀ b∈[s1.heap.objs.size+1,s1.heap.objs.size],FpOk X pins H1 b:=fun b hb=>by
   have e':b=s1.heap.objs.size+1∨b=s1.heap.objs.size:=by simpa using hb
   have hle:s1.heap.objs.size≤b:=by
    rcases e' with z|z
    ·rw [z];exact Nat.le_add_right _ _
    ·rw [z];exact Nat.le_refl _
   exact I1.fpOk hle (I1.hok.fresh hle)
  rcases q with ⟨⟨xs,hq⟩,q⟩|⟨⟨xs,hq⟩,q⟩
  ·obtain ⟨its,rv,p',hz⟩:=I1.list hq
   refine call_enumerate_list p'.isList fun h' he hit hsz hk=>wpAny_pyIter_enum he ?_
   have I2:Inv X pins σ H1 { s1 with heap:=h' }:=I1.kept (t':=s1.toks) hk
   exact ⟨s1.heap.objs.size+1,[s1.heap.objs.size+1,s1.heap.objs.size],_,_,H1,rfl,I2,turn_enum a (s1.heap.objs.size+1) s1.heap.objs.size,⟨⟨.none,he⟩,hit,Nat.succ_ne_self _⟩,fr,q⟩
  ·obtain ⟨its,rv,p',hz⟩:=I1.tuple hq
   refine call_enumerate_tup (show s1.heap.IsTuple a its.toArray from p') fun h' he hit hsz hk=>wpAny_pyIter_enum he ?_
   have I2:Inv X pins σ H1 { s1 with heap:=h' }:=I1.kept (t':=s1.toks) hk
   exact ⟨s1.heap.objs.size+1,[s1.heap.objs.size+1,s1.heap.objs.size],_,_,H1,rfl,I2,turn_enumT a (s1.heap.objs.size+1) s1.heap.objs.size [],⟨⟨.none,he⟩,hit,Nat.succ_ne_self _⟩,fr,q⟩
theorem wlk_enumT {g:Gx}{S:Wd→Hp→Prop}{a:Addr}{l:List Val}{xs:List V}(st:∀ w κ H,S w H→WF g w κ H→SqT g.K H a xs∧RVs g w.I w.μ H l xs)(hl:l.length=xs.length):Wlk g S (IteT g.K a) (enumL l) where
 go:=fun i w κ H hi s wf=>by
  obtain ⟨h,r⟩:=st w κ H s wf
  rw [enumL_length] at hi
  exact ⟨xs,xs[i]'(by omega),h,by simp⟩
 stop:=fun w κ H s wf=>by
  obtain ⟨h,r⟩:=st w κ H s wf
  rw [enumL_length]
  exact ⟨xs,h,by omega⟩
 yld:=fun i w κ H x H' hi s wf y=>by
  obtain ⟨T,x1,rfl,n,rfl,hx⟩:=y
  obtain ⟨h,r⟩:=st w κ H s wf
  obtain ⟨v,h1,h2⟩:=r.get' (hx xs h)
  obtain ⟨e1,wf1,r1⟩:=new_pair wf (.int (i:Nat)) h2 n
  exact ⟨_,enumL_get h1,e1,wf1,r1⟩
section
variable {p:Pl}{tg a b c:Expr}{q pos:Pos}{ma mb mc:Rho→Ks→R (Val × Ks)}{elts:List Expr}{kk:Nat}{tpos:Pos}
theorem SIk_enum (hK:p.X.K=p.g.K)(hg:L2.Gl p.X "enumerate")(hm:p.X.mg "enumerate" = none)(ha:SE p a ma)(hs:starEach [a] p.X.env=[(false,eval a p.X.env)]) :
  SIk p (.Tuple elts kk tpos) (.Call (.Name "enumerate" q) [a] [] pos) (fun ρ κ=>(ma ρ κ).bind fun q=>R.ofO ((itemsV q.1).map fun l=>(enumL l,q.2))):=
 (pi_enumA hg hm (pa_cons ha pa_nil hs) hs).imp fun σ H Q h=>Qzn (f:=fun _ q=>R.ofO ((itemsV q.1).map fun l=>(enumL l,q.2))) h fun w ρ κ H1 a x re wf rx po=>by
  have po:Post p.g p.clA (rWk p.g) w H1 (R.ofO ((itemsV a).map fun l=>(enumL l,κ))) Q (fun c d H'=>p.W c d σ H'):=po
  cases ei:itemsV a with
  | none=>rw [ei] at po;exact po.elim
  | some l=>
   rw [ei] at po
   have k:∀ x w' H',Ext w H1 w' H'→WF p.g w' κ H'→rWk p.g w' H' (enumL l) x→Q x H':=po
   have rx:RV p.g w.I w.μ H1 a x:=rx
   rcases itemsV_some ei with rfl|rfl
   ·cases rx with
    | tup hq r=>
     refine ⟨_,rfl,.inr ⟨⟨_,by rw [hK];exact hq⟩,k _ w H1 (Ext.refl w H1) wf ?_⟩⟩
     rw [hK]
     exact wlk_enumT (fun w' κ' H' s wf'=>⟨PL.SqT.keeps s hq,r.keeps s⟩) r.length
   ·cases rx with
    | lst j hq r=>
     refine ⟨_,rfl,.inl ⟨⟨_,SqL.of hq⟩,k _ w H1 (Ext.refl w H1) wf ?_⟩⟩
     rw [hK]
     exact wlk_enum (fun w' κ' H' s wf'=>⟨s.l _ _ j hq,r.keeps s⟩) r.length
end
end PL
end
section
namespace PL
open PySem PySem.Spec PyProof.Rows L2 LamX NdefX
section
variable {c:CB}{d:Nat}{p:Pl}{fr:Bool}{pos pos' pos2 np apos q:Pos}{i j:Nat}{x:Str}{a b:Expr}{ea eb:E}{ss:Ss}{sts:List Stmt}
theorem zAppend (hb:p.b=false)(h:Nm p i x)(he:JE p c a ea)(hs:swapsWith (.Call (.Attribute (.Name x np) "append" apos) [a] [] pos) none pos'.line p.X.env=pure false)(hbase:attributeBase (.Name x np) "append" p.X.env (eval (.Name x np) p.X.env)=eval (.Name x np) p.X.env)(hline:(apos.endLine == pos.line)=true)(hst:starEach [a] p.X.env=[(false,eval a p.X.env)])
  (hfew:((backTo pos (starEach [a] p.X.env)).all (fun x => !x.1)&&(backToKw pos (keywordEach [] p.X.env)).all (fun x=>x.1.isSome)&&decide ([a].length+([]:List Keyword).length+(if ([]:List Keyword).isEmpty then 0 else 1)<30))=true) :
  JS p c fr (.Expr (.Call (.Attribute (.Name x np) "append" apos) [a] [] pos) pos') (.append i ea):=SS_append hb h.n h.v (okN1 h.k) (okN2 h.k) he hs hbase hline hst hfew
theorem zDg (hb:p.b=false)(i:Nat)(t:JSs p c fr sts ss):JSs p c fr sts (.cons (.dg i) ss):=by
 have e:exSs c (.cons (.dg i) ss)=fun ρ κ=>match rdO ρ i with
  | some l=>exSs c ss (ρ.set i (some (.val (.lst l)))) κ
  | none=>exSs c ss ρ κ:=funext fun ρ=>funext fun κ=>by
   show (exS c (.dg i) ρ κ).then _=_
   show (match rdO ρ i with
    | some l=>O.nx (ρ.set i (some (.val (.lst l)))) κ
    | none=>.nx ρ κ).then _=_
   cases rdO ρ i <;> rfl
 show SSs p fr sts (exSs c (.cons (.dg i) ss))
 rw [e]
 exact SSs_dg hb i t
variable {elts:List Expr}{kk:Nat}{tpos:Pos}
theorem ikEnum (C:Cok d p)(hg:Gl p.X "enumerate")(hm:p.X.mg "enumerate" = none)(ha:JE p c a ea)(hb:∀ ρ κ r,bw ea ρ κ r=r)(hs:starEach [a] p.X.env=[(false,eval a p.X.env)]) :
  JIk p c (.Tuple elts kk tpos) (.Call (.Name "enumerate" q) [a] [] pos) (.enum ea):=(SIk_enum C.hK hg hm ha hs).imp fun σ H Q ⟨w,ρ,κ,re,wf,po⟩=>⟨w,ρ,κ,re,wf,by
 have po:Post p.g p.clA (rWk p.g) w H ((bw ea ρ κ (evE c ea ρ κ)).bind fun p=>R.ofO ((itemsV p.1).map fun l=>(enumL l,p.2))) Q (fun c d H'=>p.W c d σ H'):=po
 rw [hb] at po
 exact po⟩
end
end PL
end
section
namespace PL
open PySem PySem.Spec PyProof.Rows L2 LamX NdefX
theorem insD_mem (x y:Int):∀ l:List Int,y∈insD x l↔y=x∨y∈l
 | []=>by simp [insD]
 | z::l=>by
  unfold insD
  split
  ·simp
  ·split
   ·rename_i h;subst h;simp
   ·rw [List.mem_cons,insD_mem x y l,List.mem_cons]
    constructor
    ·rintro (h|h|h)
     ·exact .inr (.inl h)
     ·exact .inl h
     ·exact .inr (.inr h)
    ·rintro (h|h|h)
     ·exact .inr (.inl h)
     ·exact .inl h
     ·exact .inr (.inr h)
theorem insD_pw (x:Int):∀ l:List Int,l.Pairwise (· < ·)→(insD x l).Pairwise (· < ·)
 | [],_=>by simp [insD]
 | z::l,h=>by
  obtain ⟨h1,h2⟩:=List.pairwise_cons.mp h
  unfold insD
  split
  ·rename_i hx
   refine List.pairwise_cons.mpr ⟨fun y hy => ?_,h⟩
   rcases List.mem_cons.mp hy with e|e
   ·omega
   ·have:=h1 y e;omega
  ·split
   ·exact h
   ·rename_i a b
    refine List.pairwise_cons.mpr ⟨fun y hy => ?_,insD_pw x l h2⟩
    rcases (insD_mem x y l).mp hy with e|e
    ·omega
    ·exact h1 y e
theorem sdd_mem (y:Int):∀ l:List Int,y∈sdd l↔y∈l
 | []=>by simp [sdd]
 | z::l=>by
  show y∈insD z (sdd l)↔_
  rw [insD_mem,sdd_mem y l,List.mem_cons]
theorem sdd_pw:∀ l:List Int,(sdd l).Pairwise (· < ·)
 | []=>List.Pairwise.nil
 | z::l=>insD_pw z (sdd l) (sdd_pw l)
theorem pw_uniq:∀ {l m:List Int},l.Pairwise (· < ·)→m.Pairwise (· < ·)→(∀ y,y∈l↔y∈m)→l=m
 | [],[],_,_,_=>rfl
 | [],b::m,_,_,h=>absurd ((h b).mpr List.mem_cons_self) (by simp)
 | a::l,[],_,_,h=>absurd ((h a).mp List.mem_cons_self) (by simp)
 | a::l,b::m,h1,h2,h=>by
  obtain ⟨a1,a2⟩:=List.pairwise_cons.mp h1
  obtain ⟨b1,b2⟩:=List.pairwise_cons.mp h2
  have e:a=b:=by
   rcases List.mem_cons.mp ((h a).mp List.mem_cons_self) with e|e
   ·exact e
   ·rcases List.mem_cons.mp ((h b).mpr List.mem_cons_self) with e2|e2
    ·exact e2.symm
    ·have:=b1 a e
     have:=a1 b e2
     omega
  subst e
  rw [pw_uniq a2 b2 fun y => ?_]
  constructor
  ·intro hy
   rcases List.mem_cons.mp ((h y).mp (List.mem_cons_of_mem _ hy)) with e|e
   ·have:=a1 y hy;omega
   ·exact e
  ·intro hy
   rcases List.mem_cons.mp ((h y).mpr (List.mem_cons_of_mem _ hy)) with e|e
   ·have:=b1 y hy;omega
   ·exact e
abbrev set0 (w:World):Obj:={ cls:=.type "set", dict:=none,data:=.set #[] 0 (.fresh 0 0 (!w.params.followText "set-order")) }
section
variable {P:Program}{w:World}{A:Around}{E:Value→Shared→Prop}{s:Shared}
theorem call_set_lstI {l:Addr}{its:Array Value}(ns:List Int){Q:Value→Shared→Prop}(calm:A.handled=none)(hL:s.heap.IsList l its)(hi:IntsAre its.toList ns)(few:ns.length+1<scanBound)
  (h:∀ (h':Heap) (tk c:Nat),SetR w h' s.heap.objs.size (fun j=>decide (j∈ns)) c→c≤ns.length→(∀ b o,s.heap.get? b=some o→h'.get? b=some o)→Q (.ref s.heap.objs.size) { s with heap:=h',toks:=tk }) :
  wpAny (model P w) A (call (.type "set") [.ref l]) Q E s:=by
 have sz:its.size=ns.length:=(Array.length_toList (xs:=its)) ▸ IntsAre.length hi
 obtain ⟨c0,tl0,mro0⟩:=PySem.F.called_set.mro
 have made0:=PySem.F.called_set.made
 have sub0:=PySem.F.called_set.sub
 refine wpAny_call (codeAny_of_tree (show wpAny _ _ (callAny (.type "set") _) _ _ _ from wpAny_pure ⟨Code.quiet_builtin _ (by decide +kernel),codeAny_builtin PySem.F.entry_type_call ?_⟩))
 rw [Around.under_plain (weight_type_call_type "set" [.ref l] []) rfl]
 have nt:=PySem.F.called_set.notType
 have cc:=PySem.F.called_set.canCreate
 have tc:=PySem.F.typeCall_set_1 (.ref l)
 repeat (any_goals (first|assumption|wp_step))
 refine codeAny_mono (code_set_led1 (.ref l) (E:=E) (Q₁:=fun obj s1=>obj=.ref s.heap.objs.size∧s1={ s with heap:=s.heap.push (set0 w) }) ⟨rfl,rfl⟩) fun r s1 hr => ?_
 cases r with
 | error e=>exact hr
 | ok fl=>
  cases fl with
  | ret obj=>
   obtain ⟨rfl,rfl⟩:=hr
   have at0:(s.heap.push (set0 w)).get? s.heap.objs.size=some (set0 w):=Heap.get?_push_size _ rfl
   have ty0:Shared.TypeIs { s with heap:=s.heap.push (set0 w) } (.ref s.heap.objs.size) "set" := ⟨_,at0,rfl⟩
   have li:=PySem.F.called_set.init.lookup
   have bi:=PySem.F.called_set.init.bind (.ref s.heap.objs.size)
   repeat (any_goals (first|assumption|wp_step))
   refine codeAny_mono (codeAny_call_builtin (R:=wants (fun r s2=>r=.none∧∃ h' tk c,s2={ s with heap:=h',toks:=tk }∧SetR w h' s.heap.objs.size (fun j=>decide (j∈ns)) c∧c≤ns.length ∧
     (∀ b o,s.heap.get? b=some o→h'.get? b=some o)) E) PySem.F.called_set.init.plain PySem.F.entry_set_init (check_set_init_1 ty0 ?_)) fun r2 s2 hr2 => ?_
   ·obtain ⟨ol,hol,hcl,nl,hdl⟩:=hL
    obtain ⟨oc,od,odt,osl⟩:=ol
    simp only at hcl hdl
    subst hcl;subst hdl
    have hol2:(s.heap.push (set0 w)).get? l=some { cls:=.type "list", dict:=od,data:=.seq its nl,slots:=osl }:=Heap.get?_push_of_some _ hol
    have sls:=PySem.F.sub_list_set
    have slf:=PySem.F.sub_list_frozenset
    have hne:(Value.type "list" == Value.type "dict")=false:=by decide
    have isl:(s.heap.push (set0 w)).IsList l its:=⟨_,hol2,rfl,nl,rfl⟩
    unfold Builtin.«set.__init__» noKeywords Builtin.Frozenset.updateFrom
    generalize hPI:pyIter=PI
    wp_walk
    subst hPI
    refine wpAny_pyIter_list isl (wpAny_bind (wpAny_runValue ?_))
    have lS:l<s.heap.objs.size:=Heap.lt_size hol
    have zz:(s.heap.push (set0 w)).objs.size=s.heap.objs.size+1:=Heap.size_push ..
    have nI:l≠(s.heap.push (set0 w)).objs.size:=by rw [zz];exact Nat.ne_of_lt (Nat.lt_succ_of_lt lS)
    have nS:s.heap.objs.size ∉ [(s.heap.push (set0 w)).objs.size,l]:=by
     rw [zz]
     simp only [List.mem_cons,List.not_mem_nil,or_false,not_or]
     exact ⟨Nat.ne_of_lt (Nat.lt_succ_self _),Nat.ne_of_gt lS⟩
    have vals:∀ (i:Nat) (v:Value),its[i]? = some v→∃ k t,ns[i]? = some k∧v=.int k t:=fun i v hv=>by
     have hlt:i<ns.length:=by rw [← sz];exact (Array.getElem?_eq_some_iff.mp hv).1
     obtain ⟨t,e⟩:=IntsAre.int_at hi i v (by rw [Array.getElem?_toList];exact hv)
     exact ⟨ns[i],t,List.getElem?_eq_getElem hlt,by rw [e,List.getD_eq_getElem?_getD,List.getElem?_eq_getElem hlt] <;> rfl⟩
    refine set_update_ints ((Walks.list (by simp [calm]) _ l nI its).toS) s.heap.objs.size nS ns sz few vals (its.size-0) 0 _ (by omega) (Nat.zero_le _) ⟨⟨_,Heap.get?_push_size _ rfl,rfl,rfl⟩,isl.push _⟩ ?g0 ?g1
    case g0=>exact ⟨0,Nat.le_refl 0,setR_new_at (Heap.get?_push_of_some _ at0)⟩
    case g1=>
     intro s3 c3 mv lec hS3
     obtain ⟨h3,g3,d3,t3,o3⟩:=s3
     have e1:g3=s.gens:=mv.gens
     have e2:d3=s.drawn:=mv.drawn
     have e3:o3=s.os:=mv.os
     subst e1;subst e2;subst e3
     show wpAny _ _ _ _ _ _
     refine wpAny_pure (show wpAny _ _ (ret Value.none) _ _ _ from wpAny_pure ⟨rfl,h3,t3,c3,rfl,hS3,by omega,fun b o e => ?_⟩)
     have lb:b<s.heap.objs.size:=Heap.lt_size e
     exact mv.heap b o (by rw [zz];simp only [List.mem_cons,List.not_mem_nil,or_false,not_or];exact ⟨Nat.ne_of_lt lb,Nat.ne_of_lt (Nat.lt_succ_of_lt lb)⟩) (Heap.get?_push_of_some _ (Heap.get?_push_of_some _ e))
   ·cases r2 with
    | error e=>exact hr2
    | ok fl2=>
     cases fl2 with
     | ret r=>
      obtain ⟨rfl,h',tk,c,rfl,hS',hc',hk'⟩:=hr2
      repeat (any_goals (first|assumption|wp_step))
      exact h _ _ _ hS' hc' hk'
     | _=>exact hr2.elim
  | _=>exact hr.elim
end
def rSetL (K:PySem.W.Frag)(w:World):List V→Hp→VK→Prop:=fun xs H Q=>∃ (l:Addr) (ns:List Int),xs=[V.ref l]∧SqL K H l (ns.map V.int)∧ns.length<64 ∧
 ∀ a c,H a=none→c≤ns.length→Q (.ref a) (upd H a (SetO w a (fun j=>decide (j∈ns)) c))
theorem cr_setL {X:Cx}(hc:X.calm=true):CallR X (.type "set") (rSetL X.K X.w):=by
 intro pins s σ H xs us Q I r h
 obtain ⟨l,ns,rfl,hq,hl,q⟩:=h
 rw [Vals.ref1 r]
 obtain ⟨its,rv,pl,hz⟩:=I.list hq
 have hi:IntsAre its.toArray.toList ns:=ints_of_vals rv
 have hn:H s.heap.objs.size=none:=I.hok.fresh (Nat.le_refl _)
 refine call_set_lstI ns (I.ok.hd hc) pl.isList hi (by unfold scanBound;omega) fun h' tk c R1 hcn k => ?_
 exact ⟨.ref s.heap.objs.size,upd H s.heap.objs.size (SetO X.w s.heap.objs.size (fun j=>decide (j∈ns)) c),I.laid (t':=tk) k (Nat.le_refl _) (setO_new R1),rfl,q _ c hn hcn⟩
def rSetI (K:PySem.W.Frag)(w:World):List V→Hp→VK→Prop:=fun xs H Q=>∃ (l:Addr) (ns:List Int),xs=[V.ref l]∧SqT K H l (ns.map V.int)∧ns.length<64 ∧
 ∀ a c,H a=none→c≤ns.length→Q (.ref a) (upd H a (SetO w a (fun j=>decide (j∈ns)) c))
theorem cr_setI {X:Cx}(hc:X.calm=true):CallR X (.type "set") (rSetI X.K X.w):=by
 intro pins s σ H xs us Q I r h
 obtain ⟨l,ns,rfl,hq,hl,q⟩:=h
 rw [Vals.ref1 r]
 obtain ⟨its,rv,pt,hz⟩:=I.tuple hq
 have hi:IntsAre its.toArray.toList ns:=ints_of_vals rv
 have hn:H s.heap.objs.size=none:=I.hok.fresh (Nat.le_refl _)
 refine call_set_tupI ns (I.ok.hd hc) pt hi (by unfold scanBound;omega) fun h' tk c R1 hcn k => ?_
 exact ⟨.ref s.heap.objs.size,upd H s.heap.objs.size (SetO X.w s.heap.objs.size (fun j=>decide (j∈ns)) c),I.laid (t':=tk) k (Nat.le_refl _) (setO_new R1),rfl,q _ c hn hcn⟩
theorem ints_rel {g:Gx}{J:Addr→Prop}{μ:List Addr}{H:Hp}:∀ {l:List Val} {xs:List V} {bs:List Int},RVs g J μ H l xs→intsOf l=some bs→xs=bs.map V.int
 | _,_,_,.nil,e=>by cases e;rfl
 | _,_,_,.cons h t,e=>by
  unfold intsOf at e
  split at e
  ·rename_i h0;cases h0
  ·rename_i h0
   cases h0
   obtain ⟨bs',e1,e2⟩:=Option.map_eq_some_iff.mp e
   subst e2
   cases h
   rw [ints_rel t e1];rfl
  ·cases e
theorem rel_ints {g:Gx}{J:Addr→Prop}{μ:List Addr}{H:Hp}:∀ ns:List Int,RVs g J μ H (ns.map .int) (ns.map V.int)
 | []=>.nil
 | n::ns=>.cons (.int n) (rel_ints ns)
section
variable {p:Pl}{a:Expr}{pos pos2 q q2:Pos}{ma:Rho→Ks→R (Val × Ks)}
theorem boot_sorted:bootBuiltins "sorted" = some (.builtin "sorted"):=by decide +kernel
theorem SE_sset (hK:p.X.K=p.g.K)(hc:p.X.calm=true)(hg:L2.Gl p.X "sorted")(hm:p.X.mg "sorted" = none)(hg2:L2.Gl p.X "set")(hm2:p.X.mg "set" = none)(ha:SB p a ma)
  (he:starEach [a] p.X.env=(false,eval a p.X.env)::starEach [] p.X.env)
  (he2:starEach [.Call (.Name "set" q2) [a] [] pos2] p.X.env=(false,eval (.Call (.Name "set" q2) [a] [] pos2) p.X.env)::starEach [] p.X.env)
  (hpl:(backTo pos2 (starEach [] p.X.env)).any (·.1)=false) (hpl2:(backTo pos (starEach [] p.X.env)).any (·.1)=false) :
  SE p (.Call (.Name "sorted" q) [.Call (.Name "set" q2) [a] [] pos2] [] pos) (fun ρ κ=>(ma ρ κ).bind fun q=>R.ofO ((ssV q.1).map fun v=>(v,q.2))):=
 (pe_callB (cr_sortedSet hc) hg hm boot_sorted (pa_cons (pe_callTy (CallR.or (cr_setI hc) (cr_setL hc)) hg2 hm2 PyProof.Rows.boot_set (pa_cons ha pa_nil he) (by decide) (by decide) he hpl) pa_nil he2) (by decide) (by decide) he2 hpl2).imp fun σ H Q h=>
  Qzn (f:=fun _ q=>R.ofO ((ssV q.1).map fun v=>(v,q.2))) h fun w ρ κ H1 a x re wf rx po=>by
   obtain ⟨v,ev,k⟩:=Post.some (p:=p) po
   unfold ssV at ev
   dsimp only at ev
   cases a with
   | tup l=>
    dsimp only at ev
    cases hi:intsOf l with
    | none=>rw [hi] at ev;cases ev
    | some ns=>
     rw [hi] at ev
     dsimp only at ev
     split at ev
     ·rename_i hl
      cases ev
      obtain ⟨t,ys,rfl,hq,r⟩:=rx.tup
      cases ints_rel r hi
      refine .inl ⟨t,ns,rfl,by rw [hK];exact hq,by omega,fun b c hb hcn=>⟨b,_,c,rfl,upd_same,by omega,fun ns' p' pw mem len hp => ?_⟩⟩
      have e:ns'=sdd ns:=pw_uniq pw (sdd_pw ns) fun y=>by rw [mem y,sdd_mem,decide_eq_true_iff]
      subst e
      have wf1:=WF.upd_new wf hb (SetO p.X.w b (fun j=>decide (j∈ns)) c)
      have x1:=Ext.upd_new wf hb (SetO p.X.w b (fun j=>decide (j∈ns)) c)
      obtain ⟨x2,wf2,r2⟩:=RV.newLst wf1 (rel_ints (sdd ns)) hp
      exact k _ _ _ (x1.trans x2) wf2 r2
     ·cases ev
   | lst l=>
    dsimp only at ev
    cases hi:intsOf l with
    | none=>rw [hi] at ev;cases ev
    | some ns=>
     rw [hi] at ev
     dsimp only at ev
     split at ev
     ·rename_i hl
      cases ev
      obtain ⟨t,ys,rfl,hq,_,r⟩:=rx.lst wf
      cases ints_rel r hi
      refine .inr ⟨t,ns,rfl,SqL.of hq,by omega,fun b c hb hcn=>⟨b,_,c,rfl,upd_same,by omega,fun ns' p' pw mem len hp => ?_⟩⟩
      have e:ns'=sdd ns:=pw_uniq pw (sdd_pw ns) fun y=>by rw [mem y,sdd_mem,decide_eq_true_iff]
      subst e
      have wf1:=WF.upd_new wf hb (SetO p.X.w b (fun j=>decide (j∈ns)) c)
      have x1:=Ext.upd_new wf hb (SetO p.X.w b (fun j=>decide (j∈ns)) c)
      obtain ⟨x2,wf2,r2⟩:=RV.newLst wf1 (rel_ints (sdd ns)) hp
      exact k _ _ _ (x1.trans x2) wf2 r2
     ·cases ev
   | _=>cases ev
end
section
variable {c:CB}{p:Pl}{d:Nat}{a:Expr}{ea:E}{pos pos2 q q2:Pos}
theorem rSset (C:Cok d p)(hg:Gl p.X "sorted")(hm:p.X.mg "sorted" = none)(hg2:Gl p.X "set")(hm2:p.X.mg "set" = none)(ha:JB p c a ea)
  (he:starEach [a] p.X.env=(false,eval a p.X.env)::starEach [] p.X.env)
  (he2:starEach [.Call (.Name "set" q2) [a] [] pos2] p.X.env=(false,eval (.Call (.Name "set" q2) [a] [] pos2) p.X.env)::starEach [] p.X.env)
  (hpl:(backTo pos2 (starEach [] p.X.env)).any (·.1)=false) (hpl2:(backTo pos (starEach [] p.X.env)).any (·.1)=false) :
  JE p c (.Call (.Name "sorted" q) [.Call (.Name "set" q2) [a] [] pos2] [] pos) (.sset ea):=SE_sset C.hK C.calm hg hm hg2 hm2 ha he he2 hpl hpl2
end
end PL
end
section
namespace PL
open PySem PySem.Spec PyProof.Rows L2 LamX NdefX
open PySem.W (DatumOrd Datum)
end PL
namespace PL
open PySem PySem.Spec PyProof.Rows L2 LamX NdefX
open PySem.W (DatumOrd Datum)
end PL
namespace PL
open PySem PySem.Spec PyProof.Rows L2 LamX NdefX
open PySem.W (DatumOrd Datum EachIs)
end PL
namespace PL
open PySem PySem.Spec PyProof.Rows L2 LamX NdefX
section
variable {p:Pl}{a:Expr}{pos pos2 q q2:Pos}{ma:Rho→Ks→R (Val × Ks)}
end
section
variable {c:CB}{p:Pl}{d:Nat}{a:Expr}{ea:E}{pos pos2 q q2:Pos}
end
end PL
namespace PL
open PySem PySem.Spec PyProof.Rows L2 LamX NdefX
section
variable {p:Pl}{a:Expr}{pos pos2 q q2:Pos}{ma:Rho→Ks→R (Val × Ks)}
end
section
variable {c:CB}{p:Pl}{d:Nat}{a:Expr}{ea:E}{pos pos2 q q2:Pos}
end
end PL
end
section
set_option maxHeartbeats 4000000
namespace PL
open PySem PySem.Spec PyProof.Rows L2 LamX NdefX
section
variable {p:Pl}{a:Expr}{pos q:Pos}{ma:Rho→Ks→R (Val × Ks)}
end
section
variable {p:Pl}{c:CB}{d:Nat}{a o:Expr}{ea eo:E}{pos q np apos:Pos}{x m:Str}{ns:List Str}{C:Addr}{k i:Nat}
end
end PL
namespace PL
open PySem PySem.Spec PyProof.Rows L2 LamX NdefX
end PL
end
section
namespace PL
open PySem PySem.Spec PyProof.Rows L2 LamX NdefX
section
variable {P:Program}{W:World}{g:Gx}{clA:Nat→Addr}{mg:Str→Option Value}{base:Heap}{d d':Nat}{a:Addr}{sem:List Ar→Ks→R (Val × Ks)}
theorem FnS.bad (h:∀ args κ,sem args κ=.bad):FnS P W g clA mg base d a sem:=fun A outer s H us vs Q E w args κ _ _ _ _ _ po=>by
 rw [h] at po
 exact po.elim
theorem FnF.bad (h:∀ args κ,sem args κ=.bad):FnF P W g clA mg base d a sem:=fun A outer s H us vs Q E w args κ _ _ _ _ _ po=>by
 rw [h] at po
 exact po.elim
theorem LmS.bad {k:Nat}{sem:List Val→Ks→R (Val × Ks)}(h:∀ args κ,sem args κ=.bad):LmS P W g clA mg base d k sem:=fun A outer s H f Q E w caps κ _ _ _ _ po=>by
 rw [h] at po
 exact po.elim
theorem FnS.ofF (F:FnF P W g clA mg base d a sem):FnS P W g clA mg base d a sem:=fun A outer s H us vs Q E w args κ hr e0 rv wf ra po=>F A outer s H us vs Q E w args κ hr e0 rv wf ra (by
 generalize sem args κ=z at po ⊢
 cases z with
 | ok q=>
  intro x w' H' e wf' r
  obtain ⟨w2,e2,wf2,r2⟩:=rF_fix e wf' r
  exact po x w2 H' e2 wf2 r2
 | exc c v k=>
  cases v with
  | non=>exact po
  | _=>exact po
 | bad=>exact po)
theorem law_top {x qual par:Str}{params:Arguments}{body:List Stmt}{scope:Scope}{kws:List (Str × V)}{f:Addr}{fd:FuncData}{N:List Str}{m:Rho→Ks→O}(F:FunD g.K x qual params body scope [] kws f fd)(S:FnScope N [par] scope)
  (hbody:∀ cd A outer s H E,PySem.W.codeIn g.K cd qual=true→(∃ fd2 o,fd2.code=cd∧g.K.lookup f=some o∧o.data=.func fd2)→RoomP d (A.deeper (envOfC qual scope s.heap.objs.size f cd))→SSs (defPl g clA P W mg base N qual scope f cd A outer s H E) false body m)
  {k0:Nat} (hk1:d+1+10≤3*k0+5) (hk2:5*(d+1)+250≤16*k0+200)
  (hs:∀ args κ,sem args κ=if args.length=[par].length then (m (args.map Ar.slot++List.replicate (N.length-args.length) none) κ).fin else .bad) :
  FnOk P W g.K mg base (L2N.CX P W) k0 f fd [par] (fun vs H Q _=>∃ z ns κ',vs=[.ref z]∧SqL g.K H z (ns.map V.int)∧TabsN g.tabs H∧sem [.v (.scr ns)] []=.ok (.bl true,κ')∧∀ H',Q (.bl true) H'):=by
 refine ⟨fun vs H Q E h => ?_,fun A outer s H args us vs Q E hr e0 hb rv hsp => ?_⟩
 ·obtain ⟨z,ns,κ',rfl,_⟩:=h
  rfl
 ·obtain ⟨z,ns,κ',rfl,hq,ht,hsem,hQ⟩:=hsp
  obtain ⟨J,hJ,hsc⟩:∃ J:Addr→Prop,(∀ b,J b→∃ xs,H b=some (.lst xs))∧ScrAt g.K J H z ns:=by
   rcases hq with (h|⟨o,h⟩)|h
   ·exact ⟨fun b=>b=z,fun b e=>⟨ns.map V.int,by rw [show b=z from e];exact h⟩,.own rfl h⟩
   ·exact ⟨fun _=>False,fun _ e=>e.elim,.frz h⟩
   ·exact ⟨fun _=>False,fun _ e=>e.elim,.top fun H'=>.inr h⟩
  have wf:WF g ⟨J,[]⟩ [] H:=⟨rfl,fun i b e=>by simp at e,fun i j b e _=>by simp at e,fun b e=>by simp at e,hJ,ht⟩
  refine fn_any (fr:=false) (args:=[.v (.scr ns)]) (κ:=[]) F S hbody hs (roomP_of hr hk1 hk2) e0 (fun _=>hb) rv wf (.cons (.v (.scr hsc)) .nil) ?_ fun z=>nomatch z
  rw [hsem]
  intro y w' H' _ _ r
  have r:RV g w'.I w'.μ H' (.bl true) y:=r
  cases r
  exact hQ H'
end
theorem rawOp {p:Pl}{a b:Expr}{ma mb:Rho→Ks→R (Val × Ks)}{pos:Pos}(hK:p.X.K=p.g.K)(o:Op)(ha:SB p a ma)(hb:SB p b mb):SE p (.BinOp a (pyOp o) b pos) (fun ρ κ=>(ma ρ κ).bind fun q=>(mb ρ q.2).bind fun r=>R.ofO ((opV o q.1 r.1).map fun v=>(v,r.2))):=by
 obtain ⟨r,h1,h2⟩:=opr hK o
 exact SE_bin h1 h2 ha hb
theorem cb_kin (t:Tab)(d:Nat):(cb t d).kin=t.kin:=by cases d <;> rfl
def retEnd:Ss→Bool
 | .nil=>false
 | .cons s l=>(match s with | .ret _=>true | .retO _=>true|_=>false)||retEnd l
theorem toO_ret {c:CB}{e:E}{ρ ρ':Rho}{κ κ':Ks}:exS c (.ret e) ρ κ ≠ .nx ρ' κ':=by
 show (evE c e ρ κ).toO (fun p=>.ret p.1 p.2)≠_
 cases evE c e ρ κ <;> (intro h;cases h)
theorem retO_ret {c:CB}{i:Nat}{ρ ρ':Rho}{κ κ':Ks}:exS c (.retO i) ρ κ ≠ .nx ρ' κ':=by
 show (match rdO ρ i with
  | some l=>O.ret (.lst l) κ
  | none=>.bad)≠_
 cases rdO ρ i <;> (intro h;cases h)
theorem retEnd_ok {c:CB}:∀ {l:Ss},retEnd l=true→∀ ρ κ ρ' κ',exSs c l ρ κ ≠ .nx ρ' κ'
 | .nil,h,_,_,_,_=>by cases h
 | .cons s l,h,ρ,κ,ρ',κ'=>by
  show (exS c s ρ κ).then (fun ρ' κ'=>exSs c l ρ' κ')≠_
  cases e:exS c s ρ κ with
  | nx ρ1 κ1=>
   unfold retEnd at h
   rcases Bool.or_eq_true_iff.mp h with h|h
   ·split at h
    ·exact absurd e toO_ret
    ·exact absurd e retO_ret
    ·cases h
   ·exact retEnd_ok h ρ1 κ1 ρ' κ'
  | ret _ _=>intro z;cases z
  | exc _ _ _=>intro z;cases z
  | bad=>intro z;cases z
end PL
end
section
namespace PL
open PySem PySem.Spec PyProof.Rows L2 LamX NdefX
theorem getD_mem {α:Type}{l:List α}{i:Nat}{x:α}(h:i<l.length):l.getD i x∈l:=by
 rw [List.getD_eq_getElem?_getD,List.getElem?_eq_getElem h]
 exact List.getElem_mem h
theorem excC_of {K:PySem.W.Frag}{D:Addr}(h:excCB K D=true):ExcC K D:=by
 unfold excCB at h
 simp only [Bool.and_eq_true,decide_eq_true_eq] at h
 obtain ⟨h1,h2,h3,h4,h5,h6,h7,h8⟩:=h
 exact ⟨h1,h2,h3,h4,h5,h6,h7,h8⟩
theorem kinB_ok {excs kins:List Str}{K:PySem.W.Frag}(h:kinB excs kins K=true){x:Str}(hx:x∈excs):ExcC K (He.ga K x)∧PySem.W.kitOne K (.ref (He.ga K x)) (.type "ValueError")=some true∧PySem.W.exmOne K (.ref (He.ga K x)) (.ref (He.ga K "MarkError"))=some true ∧
  ∀ y∈kins,PySem.W.kitOne K (.ref (He.ga K x)) (.ref (He.ga K y))=some (decide (x=y)):=by
 have q:=List.all_eq_true.mp h x hx
 simp only [Bool.and_eq_true,decide_eq_true_eq] at q
 obtain ⟨h1,h2,h3,h4⟩:=q
 exact ⟨excC_of h1,h2,h3,fun y hy=>of_decide_eq_true (List.all_eq_true.mp h4 y hy)⟩
theorem no_exc {P:Program}{w:World}{H:Hp}{s:Shared}{e:Value}{s':Shared}(x:L2N.CX P w [] H s (fun _ _ _=>False) e s'):False:=by
 obtain ⟨_,_,_,_,_,_,_,_,_,_,_,_,q⟩:=x
 exact q
theorem map_pair {α β γ:Type}{x:Option α}{f:α→β}{g:α→γ}{a:β}{b:γ}(e1:x.map f=some a)(e2:x.map g=some b):x.map (fun s=>(f s,g s))=some (a,b):=by
 cases x with
 | none=>cases e1
 | some s=>cases e1;cases e2;rfl
theorem map_and {α:Type}{x:Option α}{f g:α→Bool}(e1:x.map f=some true)(e2:x.map g=some true):x.map (fun s=>f s&&g s)=some true:=by
 cases x with
 | none=>cases e1
 | some s=>
  have e1:f s=true:=by injection e1
  have e2:g s=true:=by injection e2
  show some (f s&&g s)=some true
  rw [e1,e2];rfl
theorem map_cst {α β γ:Type}{x:Option α}{f:α→β}{a:β}(e1:x.map f=some a)(c:γ):x.map (fun _=>c)=some c:=by
 cases x with
 | none=>cases e1
 | some s=>rfl
theorem map3 {α β γ δ:Type}{x:Option α}{f:α→β}{g:α→γ}{h:α→δ}{a:β}{b:γ}{c:δ}(e1:x.map f=some a)(e2:x.map g=some b)(e3:x.map h=some c):x.map (fun s=>(f s,g s,h s))=some (a,b,c):=by
 cases x with
 | none=>cases e1
 | some s=>
  cases e1;cases e2;cases e3
  rfl
end PL
end
section
namespace PL
open PySem PySem.Spec PyProof.Rows L2 LamX NdefX
end PL
end
section
set_option maxHeartbeats 300000
namespace PL
open PySem PySem.Spec PyProof.Rows L2 LamX NdefX
section
variable {p:Pl}{c:CB}{d:Nat}{a o e1 e2:Expr}{ea eo m1 m2:E}{pos:Pos}{ns:List Str}{C A':Addr}{k f0:Nat}
structure DOp (K:PySem.W.Frag)(C f:Addr)(op:Operator):Prop where
 sf:PySem.W.selfFirst K C=true
 at_:PySem.W.findIn K (.ref C) (PySem.dunder op.info.2)=some (some (.ref f))
 fn:PySem.W.isFn K (.ref f)=true
 rv:PySem.W.findIn K (.ref C) (dunderR op.info.2)=some none
 ty:∀ T∈["NoneType", "bool", "int", "str", "tuple", "list"],∃ l r,PySem.W.findIn K (.type T) (PySem.dunder op.info.2)=some l∧PySem.W.findIn K (.type T) (dunderR op.info.2)=some r∧PySem.W.subIn K (.type T) (.ref C)=some false
end
theorem RoomP.in1 {k:Nat}{A:Around}(r:RoomP (k+1) A):RoomP k A.in1:=⟨r.hd,by have:=r.dp;show A.depth+k+10<_;omega,by have:=r.un;show A.units+1+5*k+250<_;omega⟩
section
variable {p:Pl}{c:CB}{d:Nat}{a o e1 e2:Expr}{ea eo m1 m2:E}{pos:Pos}{ns:List Str}{C A':Addr}{k f0:Nat}
structure DGet (K:PySem.W.Frag)(C f:Addr):Prop where
 at_:PySem.W.findIn K (.ref C) "__getitem__" = some (some (.ref f))
 fi:PySem.W.fnIn K f=true
 fn:PySem.W.isFn K (.ref f)=true
structure DEq (K:PySem.W.Frag)(C f:Addr):Prop where
 at_:PySem.W.findIn K (.ref C) "__eq__" = some (some (.ref f))
 fn:PySem.W.isFn K (.ref f)=true
 nf:∀ T∈["NoneType", "bool", "int", "str", "tuple", "list"],PySem.W.notFirst K C (.type T)=true
 nC:PySem.W.notFirst K C (.ref C)=true
end
end PL
end
section
set_option maxHeartbeats 400000
namespace PL
open PySem PySem.Spec PyProof.Rows L2 LamX NdefX
section
variable {p:Pl}{c:CB}{d:Nat}{a o e1 e2 fe:Expr}{ea eo m1 m2:E}{pos q np:Pos}{ns:List Str}{C A':Addr}{k f0 i:Nat}{x:Str}{es:List Expr}
structure DIn (K:PySem.W.Frag)(C f:Addr)(n:Str):Prop where
 at_:PySem.W.findIn K (.ref C) n=some (some (.ref f))
 fn:PySem.W.isFn K (.ref f)=true
end
end PL
end
section
set_option maxHeartbeats 400000
namespace PL
open PySem PySem.Spec PyProof.Rows L2 LamX NdefX
section
variable {p:Pl}{c:CB}{d:Nat}{a o e e1 e2 fe:Expr}{ea eo ee m1 m2:E}{pos pos' q q2 np sp:Pos}{ns:List Str}{C A' pr:Addr}{k f0 i:Nat}{x f:Str}{es:List Expr}{fr:Bool}
structure DAug (K:PySem.W.Frag)(C f:Addr)(op:Operator):Prop where
 sf:PySem.W.selfFirst K C=true
 at_:PySem.W.findIn K (.ref C) (dunderI op.info.2)=some (some (.ref f))
 fn:PySem.W.isFn K (.ref f)=true
structure DIso (K:PySem.W.Frag)(C:Addr):Prop where
 ha:PySem.W.findIn K (.ref C) "__class__" = some (some (.builtin "object.__class__"))
 hn:PySem.W.specialIn K (.builtin "object.__class__") "__get__" = some (some (.builtin "getset_descriptor.__get__"))
 tk:PySem.W.takesIn K (.builtin "object.__class__")=some true
 hm:PySem.W.mroIn K C (.type "object")=some true
 ty:∀ T∈["NoneType", "bool", "int", "str", "tuple", "list"],PySem.W.kitOne K (.type T) (.ref C)=some false
 me:PySem.W.kitOne K (.ref C) (.ref C)=some true
end
end PL
end
section
set_option maxHeartbeats 400000
namespace PL
open PySem PySem.Spec PyProof.Rows L2 LamX NdefX
section
variable {p:Pl}{c:CB}{d:Nat}{a b o:Expr}{ea eo:E}{pos q np sp apos:Pos}{ns:List Str}{C A':Addr}{k f0 i:Nat}{x f m:Str}{es:List Expr}{l:Es}
end
end PL
end
section
set_option maxHeartbeats 4000000
namespace PLE
open PySem PySem.Spec PySem.Calls PyProof.Rows PySem.W
section
variable {pr:Program}{wd:World}{Ar:Around}{Ex:Value→Shared→Prop}{st:Shared}{F:Frag}{x D:Addr}{ob:Obj}{dc:Option Obj}
end
end PLE
namespace PL
open PySem PySem.Spec PyProof.Rows L2 LamX NdefX
section
variable {c:CB}{d:Nat}{p:Pl}{pos np q q2 pos2 pos':Pos}{i j:Nat}{x y z:Str}{a b e e1 e2 e3:Expr}{ea eb ee:E}{es:List Expr}{l:Es}{fr:Bool}
end
end PL
end
section
set_option maxHeartbeats 4000000
namespace PL
open PySem PySem.Spec PyProof.Rows L2 LamX NdefX
structure BaseC (K:PySem.W.Frag)(M:Addr):Prop where
 rd:PySem.W.readsIn K M (.type "type")=true
 ga:PySem.W.specialIn K (.ref M) "__getattribute__" = some (some (.builtin "type.__getattribute__"))
 at_:PySem.W.findCls K (.ref M) (.type "type") "__init__" = some (.val (.builtin "ValueError.__init__"))
section
variable {X:Cx}{e:Expr}{es:List Expr}{ta:TA}{p1 p2 pos:Pos}
theorem pe_binit {bn:Str}{M:Addr}{pl:Sem Bool}(B:BaseC X.K M)(hg:Gl X bn)(hm:X.mg bn=some (.ref M))(hdb:(bn == ("__debug__" : Str))=false)(ha:PA X (e::es) ta)
  (hc:eval (.Call (.Attribute (.Name bn p1) "__init__" p2) (e::es) [] pos) X.env=(do
   let ov ← eval (.Name bn p1) X.env
   standAt p2.atName
   let (f,first) ← holding [ov] (getMethod ov "__init__" pl)
   callWith pos f first (backTo pos (starEach (e::es) X.env)) (backToKw pos (keywordEach [] X.env))))
  (he:starEach (e::es) X.env=(false,eval e X.env)::starEach es X.env) (hpl:(backTo pos (starEach es X.env)).any (·.1)=false) :
  PE X (.Call (.Attribute (.Name bn p1) "__init__" p2) (e::es) [] pos) (tVeI X.K ta):=by
 refine ⟨fun pins s σ H Q I h=>PySem.W.methodCall_KW (ld_glob I hg hm ?_ hdb) hc⟩
 refine PySem.W.method_cls I.kIn B.ga (PySem.W.cls_value I.kIn B.rd B.at_ (by decide +kernel) ?_)
 show wpAny _ _ (callWith pos (Value.builtin "ValueError.__init__") [] (backTo pos (starEach (e::es) X.env)) []) _ _ { s with toks:=s.toks+1 }
 refine PyProof.Rows.callWith_method1 (thn (ha.run pos pins _ σ H _ (I.tok _) h) fun us s1 hh => ?_) he hpl
 obtain ⟨vs,H1,I1,r1,a,C,ws,ev,hl,T,ea,q⟩:=hh
 subst ev
 cases r1 with
 | @cons _ u0 _ ur ra rw'=>
  obtain rfl:u0=Value.ref a:=ra
  have hlen:ur.length≤sizeLine:=by
   have:=Paired.length rw'
   rw [sizeLine_eq]
   omega
  exact oinit_ok T I1 ea hlen fun s' J=>⟨.non,H1,J,rfl,q⟩
end
theorem RoomP.mk1 {k:Nat}{A:Around}(r:RoomP k A)(C:Addr)(us:List Value)(kw:List (Str × Value)):Room 1 (A.under (.builtin "type.__call__" ⟨.ref C::us,kw⟩)):=⟨r.hd,by have:=r.dp;rw [make_depth];omega,by have:=r.un;rw [make_units];omega⟩
def initBody (bn m f lim:Str)(ps:List Pos)(ns:List Nat):List Stmt:=
  [.Expr (.Call (.Attribute (.Name bn (ps.getD 0 default)) "__init__" (ps.getD 1 default)) [.Name "self" (ps.getD 2 default),.Constant (.str m) (ns.getD 0 0) (ps.getD 3 default)] [] (ps.getD 4 default)) (ps.getD 5 default),
   .Assign [.Attribute (.Name "self" (ps.getD 6 default)) f (ps.getD 7 default)] (.Name lim (ps.getD 8 default)) (ps.getD 9 default)]
structure InitOk (X:Cx)(bn m f lim:Str)(ps:List Pos)(ns:List Nat):Prop where
 hg:Gl X bn
 hdb:(bn == ("__debug__" : Str))=false
 l1:(lim == ("__debug__" : Str))=false
 l2:(lim == ("__classdict__" : Str))=false
 v0:Vis X.env.scope "self"
 v1:Vis X.env.scope lim
 n0:X.N[0]? = some ("self" : Str)
 n1:X.N[1]? = some lim
 call:∃ pl,eval (.Call (.Attribute (.Name bn (ps.getD 0 default)) "__init__" (ps.getD 1 default)) [.Name "self" (ps.getD 2 default),.Constant (.str m) (ns.getD 0 0) (ps.getD 3 default)] [] (ps.getD 4 default)) X.env=(do
   let ov ← eval (.Name bn (ps.getD 0 default)) X.env
   standAt (ps.getD 1 default).atName
   let (f,first) ← holding [ov] (getMethod ov "__init__" pl)
   callWith (ps.getD 4 default) f first (backTo (ps.getD 4 default) (starEach [.Name "self" (ps.getD 2 default),.Constant (.str m) (ns.getD 0 0) (ps.getD 3 default)] X.env)) (backToKw (ps.getD 4 default) (keywordEach [] X.env)))
 st:starEach [.Name "self" (ps.getD 2 default),.Constant (.str m) (ns.getD 0 0) (ps.getD 3 default)] X.env=(false,eval (.Name "self" (ps.getD 2 default)) X.env)::starEach [.Constant (.str m) (ns.getD 0 0) (ps.getD 3 default)] X.env
 st2:starEach [.Constant (.str m) (ns.getD 0 0) (ps.getD 3 default)] X.env=(false,eval (.Constant (.str m) (ns.getD 0 0) (ps.getD 3 default)) X.env)::starEach [] X.env
 pl:(backTo (ps.getD 4 default) (starEach [.Constant (.str m) (ns.getD 0 0) (ps.getD 3 default)] X.env)).any (·.1)=false
 sw1:swapsWith (.Call (.Attribute (.Name bn (ps.getD 0 default)) "__init__" (ps.getD 1 default)) [.Name "self" (ps.getD 2 default),.Constant (.str m) (ns.getD 0 0) (ps.getD 3 default)] [] (ps.getD 4 default)) none (ps.getD 5 default).line X.env=pure false
 sw2:swapsWith (.Name lim (ps.getD 8 default)) (some (.Attribute (.Name "self" (ps.getD 6 default)) f (ps.getD 7 default))) (ps.getD 9 default).line X.env=pure false
theorem init_body {X:Cx}{bn m f lim:Str}{ps:List Pos}{ns:List Nat}{M:Addr}(O:InitOk X bn m f lim ps ns)(hm:X.mg bn=some (.ref M))(B:BaseC X.K M):∃ t,PSs X (initBody bn m f lim ps ns) t ∧
  ∀ {D:Ends} {a C:Addr} {n:Int} {H:Hp} {rest:L2.St},OexC X.K C→PySem.W.findIn X.K (.ref C) f=some none→H a=some (exo a C none)→(∀ dx σ,H dx=none→dx≠a→D.nx σ (upd (upd H dx (exd dx [(f,.int n)])) a (exo a C (some dx))))→t D (some (.ref a)::some (.int n)::rest) H:=by
 obtain ⟨pl,hcall⟩:=O.call
 refine ⟨_,pss_cons (ps_expr (pe_binit B O.hg hm O.hdb (pa_cons (pe_var (i:=0) O.n0 O.v0 (by decide) (by decide)) (pa_cons pe_str pa_nil O.st2) O.st) hcall O.st O.pl) O.sw1) (pss_cons (ps_ost (pe_var (i:=0) O.n0 O.v0 (by decide) (by decide)) (pe_var (i:=1) O.n1 O.v1 O.l1 O.l2) O.sw2) pss_nil),?_⟩
 intro D a C n H rest T hno ha k
 refine ⟨.ref a,rfl,a,C,[.str m],rfl,(show 1≤1000 by decide),T,ha,?_⟩
 refine ⟨.int n,rfl,.ref a,rfl,a,C,rfl,T,hno,.inl ⟨ha,fun dx n1 n2=>k dx _ n1 n2⟩⟩
theorem init_run {P:Program}{W:World}{K:PySem.W.Frag}{mg:Str→Option Value}{base:Heap}{qual:Str}{params:Arguments}{scope:Scope}{fI M C:Addr}{fd:FuncData}{bn m f lim:Str}{ps:List Pos}{ns:List Nat}(F:FunD K "__init__" qual params (initBody bn m f lim ps ns) scope [] [] fI fd)
  (S:FnScope ["self", lim] ["self", lim] scope) (hb:∀ (kV doc pm:Value) (an:Option Addr) (cdv ct:Value) (us:List Value),us.length=2→bindArgs (PySem.W.fnOf "__init__" qual params (initBody bn m f lim ps ns) scope .none kV doc pm an cdv ct) ⟨us,[]⟩=pure ((["self", lim]:List Str).zip us))
  (hO:∀ CX cd A outer s H E,InitOk (cxOf CX P W K mg base ["self", lim] qual scope fI cd A outer s H E) bn m f lim ps ns) (hm:mg bn=some (.ref M)) (B:BaseC K M) (T:OexC K C) (hno:PySem.W.findIn K (.ref C) f=some none)
  {A:Around} {outer:List Env} {s:Shared} {H:Hp} {us:List Value} {a:Addr} {n:Int} {Q:VK} {E:XK} (hr:Room 1 A) (e0:Env0 P W K mg base A outer s H) (rv:Vals [.ref a,.int n] us) (ha:H a=some (exo a C none)) (k:∀ dx,H dx=none→dx≠a→Q .non (upd (upd H dx (exd dx [(f,.int n)])) a (exo a C (some dx)))) :
  codeAny (model P W) A (.call (.ref fI) ⟨us,[]⟩) (CR (L2N.CX P W) outer P W H s Q E) s:=by
 have hbt:=binds_here (g:=⟨K,fun _=>none,fun _=>none,[],fun _=>none,fun _=>none⟩) (ps:=["self", lim]) F hb e0 rv rfl
 obtain ⟨oc,od,dV,kV,doc,pm,an,cdv,ct,osl,rfl,lk,hcd,hD,hK⟩:=F.ex
 refine run_ofS (CX:=L2N.CX P W) (N:=["self", lim]) (k:=0) lk hcd S hr e0 hbt rv rfl fun _ => ?_
 obtain ⟨t,h1,h2⟩:=init_body (hO (L2N.CX P W) cdv A outer s H E) hm B
 exact ⟨t,h1,h2 T hno ha fun dx σ n1 n2=>k dx n1 n2⟩
section
variable {c:CB}{d:Nat}{p:Pl}{pos np q q2 pos2 pos':Pos}{x:Str}{e:Expr}{ee:E}
end
end PL
end
section
namespace PL
open PySem PySem.Spec PyProof.Rows L2 LamX NdefX
def posOf:List Stmt→List Pos
 | [.Expr (.Call (.Attribute (.Name _ a) _ b) [.Name _ c,.Constant _ _ d] [] e) f,.Assign [.Attribute (.Name _ g) _ h] (.Name _ i) j]=>[a,b,c,d,e,f,g,h,i,j]
 | _=>[]
def numOf:List Stmt→List Nat
 | [.Expr (.Call (.Attribute (.Name _ _) _ _) [.Name _ _,.Constant _ k _] [] _) _,.Assign _ _ _]=>[k]
 | _=>[]
structure OexF (K:PySem.W.Frag)(x f:Str):Prop where
 T:OexC K (He.ga K x)
 iC:PySem.W.findIn K (.ref (He.ga K x)) "__init__" = some (some (.ref (He.fAd K (x,some "__init__"))))
 tI:PySem.W.typeIn K (.ref (He.fAd K (x,some "__init__")))=some (.type "function")
 no:PySem.W.findIn K (.ref (He.ga K x)) f=some none
 xf:XfC K (He.ga K x)
theorem oexB_ok {K:PySem.W.Frag}{x f:Str}(h:oexB K x f=true):OexF K x f:=by
 unfold oexB at h
 obtain ⟨h0,h⟩:=Bool.and_eq_true_iff.mp h
 obtain ⟨h1,h⟩:=Bool.and_eq_true_iff.mp h
 obtain ⟨h2,h⟩:=Bool.and_eq_true_iff.mp h
 obtain ⟨h3,h⟩:=Bool.and_eq_true_iff.mp h
 obtain ⟨h4,h⟩:=Bool.and_eq_true_iff.mp h
 obtain ⟨h5,h⟩:=Bool.and_eq_true_iff.mp h
 obtain ⟨h6,h⟩:=Bool.and_eq_true_iff.mp h
 obtain ⟨h7,h8⟩:=Bool.and_eq_true_iff.mp h
 refine ⟨⟨?_,He.eqO_ok h1,of_decide_eq_true h2,of_decide_eq_true h3,h4⟩,He.eqO_ok h5,of_decide_eq_true h6,He.eqO_ok h7,xfB_ok h8⟩
 generalize He.ga K x=C at *
 split at h0
 case h_2=>cases h0
 case h_1 dd cd sl ho=>
  split at h0
  case h_2=>cases h0
  case h_1 C' bm k0 k1 k2 k3 n k5 hm hs=>
   simp only [Bool.and_eq_true,beq_iff_eq,Bool.not_eq_true'] at h0
   obtain ⟨rfl,rfl,e1,e2,e3⟩:=h0
   obtain ⟨nm,bs,mro,ns,qn,hd,sn,sub,ab,col,del⟩:=cd
   dsimp only at hm e1 e2
   subst hm e1 e2
   have es:sl = #[k0,k1,k2,k3,some (.builtin "ValueError.__new__"),k5]:=by
    obtain ⟨l⟩:=sl
    exact congrArg Array.mk hs
   subst es
   exact ⟨nm,qn,ns,bs,bm,sn,sub,ab,col,dd,k0,k1,k2,k3,k5,ho,e3⟩
theorem baseB_ok {K:PySem.W.Frag}{x:Str}(h:baseB K x=true):BaseC K (He.ga K x):=by
 unfold baseB at h
 obtain ⟨h1,h⟩:=Bool.and_eq_true_iff.mp h
 obtain ⟨h2,h⟩:=Bool.and_eq_true_iff.mp h
 refine ⟨h1,He.eqO_ok h2,?_⟩
 split at h
 case h_2=>cases h
 case h_1 n e=>rw [e,beq_iff_eq.mp h]
end PL
end
section
namespace PL
open PySem PySem.Spec PyProof.Rows L2 LamX NdefX
section
variable {c:CB}{d:Nat}{p:Pl}{pos np q q2 pos2 pos':Pos}{x:Str}{e a b:Expr}{ee ea eb:E}{fr:Bool}{k i:Nat}
theorem pmk_excD {C fI:Addr}{f:Str}{ta:TE}(hr:RoomP d p.X.A)(T:OexC p.X.K C)(iC:PySem.W.findIn p.X.K (.ref C) "__init__" = some (some (.ref fI)))(tI:PySem.W.typeIn p.X.K (.ref fI)=some (.type "function"))
  (R:∀ {A:Around} {outer:List Env} {s:Shared} {H:Hp} {us:List Value} {a:Addr} {n:Int} {Q:VK} {E:XK},Room 1 A→Env0 p.X.prog p.X.w p.X.K p.X.mg p.X.base A outer s H→Vals [.ref a,.int n] us→H a=some (exo a C none)→(∀ dx,H dx=none→dx≠a→Q .non (upd (upd H dx (exd dx [(f,.int n)])) a (exo a C (some dx)))) →
   codeAny (model p.X.prog p.X.w) A (.call (.ref fI) ⟨us,[]⟩) (CR (L2N.CX p.X.prog p.X.w) outer p.X.prog p.X.w H s Q E) s)
  (tk:L2N.Takes p.X (fun _ _ _ _=>False)) (hg:Gl p.X x) (hm:p.X.mg x=some (.ref C)) (he:PE p.X e ta) (hdb:(x == ("__debug__" : Str))=false) (hs:starEach [e] p.X.env=(false,eval e p.X.env)::starEach [] p.X.env) (hpl:(backTo pos (starEach [] p.X.env)).any (·.1)=false) :
  L2N.PMk p.X (.Call (.Name x np) [e] [] pos) (fun σ H Q=>ta σ H fun v H1=>∃ n,v=.int n∧∀ dx,H1 dx=none→Q (.ref C) (some dx) (upd H1 dx (.xd [(f,.int n)]))):=by
 intro pins s σ H Q I h
 refine wpAny_Call_Name_kw (ld_glob I hg hm ?_ hdb)
 obtain ⟨nm,qn,N,bs,bm,sn,sub,ab,col,dd,k0,k1,k2,k3,k5,hC,hbm⟩:=T.cls
 refine PySem.W.callWith_K (h₀:=p.X.base) I.ok.mod.kin T.kC ?_ hs hpl
 rw [hs]
 show wpAny _ _ (spliced ((false,eval e p.X.env)::backTo pos (starEach [] p.X.env))) _ _ s
 refine Calls.spliced_cons (thn (he.run pins s σ H _ I h) fun u s1 hh => ?_)
 obtain ⟨v,H1,I1,r1,n,ev,q⟩:=hh
 subst ev
 refine Calls.spliced_nil ⟨I1.kIn,?_⟩
 show wpAny _ _ (call (.ref C) [u]) _ _ s1
 obtain ⟨hp,g,dr,t0,os⟩:=s1
 have hsz:hp.objs.size≤hp.objs.size+1:=Nat.le_succ _
 have kk:∀ b o,hp.get? b=some o→((hp.push (PySem.W.kdv_tup [u])).push (PySem.HandSPX.excO C hp.objs.size)).get? b=some o:=fun b o z=>Heap.get?_push_of_some _ (Heap.get?_push_of_some _ z)
 have hget:((hp.push (PySem.W.kdv_tup [u])).push (PySem.HandSPX.excO C hp.objs.size)).get? (hp.objs.size+1)=some (PySem.HandSPX.excO C hp.objs.size):=by heap_get
 generalize ea0:hp.objs.size+1=a0 at *
 have hn:H1 a0=none:=I1.hok.fresh hsz
 have I2:Inv p.X pins σ (upd H1 a0 (exo a0 C none)) ⟨(hp.push (PySem.W.kdv_tup [u])).push (PySem.HandSPX.excO C hp.objs.size),g,dr,t0,os⟩:=I1.laid (t':=t0) kk hsz (exo_ok hget)
 have r2:Vals [V.ref a0,V.int n] [Value.ref a0,u]:=.cons rfl (.cons r1 .nil)
 have hR:=R (Q:=fun v H2=>v=.non∧∃ dx,upd H1 a0 (exo a0 C none) dx=none∧dx≠a0∧H2=upd (upd (upd H1 a0 (exo a0 C none)) dx (exd dx [(f,.int n)])) a0 (exo a0 C (some dx))) (E:=fun _ _ _=>False) (hr.mk1 C [u] []) (I2.env0.make C [u] []) r2 upd_same fun dx n1 n2=>⟨rfl,dx,n1,n2,rfl⟩
 refine wpAny_call (PySem.HandSPX.call_own F.excBase_ValueError (fun Y=>PySem.HandSPX.refsVE_contains Y bm hbm) (I1.kIn _ _ hC) (PySem.W.looks_findIn I1.kIn iC) (fun self=>PySem.W.bind_fn I1.kIn self tI) (by show 1≤sizeLine;rw [sizeLine_eq];omega)
  (codeAny_mono (by rw [ea0];exact hR) fun r s' hq => ?_))
 cases r with
 | error er=>exact tk _ _ (L2N.XE.of_call (E:=fun _ _ _=>False) I2 (fun _ _ _ z=>z) hq)
 | ok fl=>
  cases fl with
  | ret w=>
   obtain ⟨v,H2,os2,bare2,un,hok,rv,ev,d0,n1,n2,eH⟩:=hq
   subst ev
   obtain ⟨h2,g2,d2,t2,os'⟩:=s'
   have d1:H1 d0=none:=by rw [upd_ne n2] at n1;exact n1
   obtain ⟨t1,G,J,kG,ge,hoe,na⟩:=mk_end0 (d2:=d2) (t2:=t2) (fs:=[(f,.int n)]) I1 hsz kk un hok os2 bare2 (by rw [eH];exact upd_same) (by rw [eH,upd_ne n2,upd_same]) d1
   have eD:upd (del H2 a0) d0 (.xd [(f,.int n)])=upd H1 d0 (.xd [(f,.int n)]):=by
    funext b
    by_cases hb:b=d0
    ·rw [hb,upd_same,upd_same]
    ·rw [upd_ne hb,upd_ne hb]
     by_cases ha:b=a0
     ·rw [ha,del_same,hn]
     ·rw [del_ne ha,eH,upd_ne ha,upd_ne hb,upd_ne ha]
   rw [eD] at J na
   rw [ea0]
   exact ⟨rv,a0,_,_,⟨G,g2,d2,t2,os'⟩,_,.ref C,some d0,rfl,J,kG,ge,hoe,⟨rfl,rfl,fun vs e=>by cases e;rfl⟩,rfl,rfl,na,rfl,bare2,raises_own T.exC T.tyC,q d0 d1⟩
  | next=>exact False.elim hq
  | brk=>exact False.elim hq
  | cont=>exact False.elim hq
theorem zRaised (C0:Cok d p){C fI:Addr}{f:Str}(hc:p.g.errI k=some (C,f))(hcl:∀ n,n<1000→p.clA (1000*(k+1)+n)=C)(T:OexC p.X.K C)(iC:PySem.W.findIn p.X.K (.ref C) "__init__" = some (some (.ref fI)))(tI:PySem.W.typeIn p.X.K (.ref fI)=some (.type "function"))
  (RI:∀ {A:Around} {outer:List Env} {s:Shared} {H:Hp} {us:List Value} {a:Addr} {n:Int} {Q:VK} {E:XK},Room 1 A→Env0 p.X.prog p.X.w p.X.K p.X.mg p.X.base A outer s H→Vals [.ref a,.int n] us→H a=some (exo a C none)→(∀ dx,H dx=none→dx≠a→Q .non (upd (upd H dx (exd dx [(f,.int n)])) a (exo a C (some dx)))) →
   codeAny (model p.X.prog p.X.w) A (.call (.ref fI) ⟨us,[]⟩) (CR (L2N.CX p.X.prog p.X.w) outer p.X.prog p.X.w H s Q E) s)
  (hg:Gl p.X x) (hm:p.X.mg x=some (.ref C)) (he:JE p c e ee) (hd:okN x=true) (hs:starEach [e] p.X.env=(false,eval e p.X.env)::starEach [] p.X.env) (hpl:(backTo pos (starEach [] p.X.env)).any (·.1)=false):JS p c fr (.Raise (some (.Call (.Name x np) [e] [] pos)) none pos') (.raised k ee):=
 (L2N.ps_raise C0.calm C0.tk (pmk_excD C0.hr T iC tI RI (takes_no fun _ _ _ _ z=>z) hg hm he (okN1 hd) hs hpl)).imp fun D σ H ⟨w0,w,ρ,κ,c0,po⟩=>⟨w,ρ,κ,c0.re,c0.wf,Qzt.bind c0 po fun w1 H1 v κ1 y wf1 e1 rv po1=>by
  have rv:RV p.g w1.I w1.μ H1 v y:=rv
  cases rv with
  | int n=>
   have po1:Qzt p fr w0 w1 H1 D (if 0≤n∧n<1000 then .exc (1000*(k+1)+n.toNat) .non κ1 else .bad):=po1
   by_cases h:0≤n∧n<1000
   case neg=>rw [if_neg h] at po1;exact po1.elim
   rw [if_pos h] at po1
   refine ⟨n,rfl,fun dx hn => ?_⟩
   have z:=po1 σ w1 (upd H1 dx (.xd [(f,.int n)])) ((c0.e0.trans e1).trans (Ext.upd_new wf1 hn _)) (wf1.upd_new hn _) (some dx) ?_
   ·rw [hcl _ (by omega)] at z;exact z
   ·unfold DOk
    rw [if_neg (by omega)]
    refine ⟨dx,C,f,?_,rfl,?_⟩
    ·rw [show (1000*(k+1)+n.toNat)/1000-1=k by omega];exact hc
    ·rw [upd_same,show (((1000*(k+1)+n.toNat) % 1000:Nat):Int)=n by omega]
  | _=>exact po1.elim⟩
theorem Cok.tr (C:Cok d p){pn:List (Addr × Obj)}{xe:Value→Shared→Prop}{W:WX}(tk:L2N.Takes (p.X.tr pn xe) W)(b:Bool):Cok d ⟨p.g,p.clA,p.X.tr pn xe,W,b⟩:=⟨C.hK,C.hr,tk,C.calm,C.nd⟩
def rCnt (K:PySem.W.Frag):V→List V→Hp→VK→Prop:=fun x xs H Q=>∃ (t:Addr) (ys:List V) (y:V) (ds:List PyData) (d:PyData),x=.ref t∧xs=[y]∧SqL K H t ys∧DpAll K H ys ds∧Dp K H y d∧PyData.plainAll ds=true∧d.plain=true∧d.depth<60∧Q (.int (ds.countP fun z=>PyData.eqv z d:Nat)) H
theorem mt_cnt {X:Cx}(hu:X.A.units+64<cLine):MtR X "list.count" (rCnt X.K):=by
 intro pins s σ H x xs v us Q I rx rxs h
 obtain ⟨t,ys,y,ds,d,rfl,rfl,hs,h1,h2,h3,h4,h5,q⟩:=h
 cases rx
 cases rxs with
 | cons ru rt=>
  cases rt
  obtain ⟨its,rv,pl,hlen⟩:=I.list hs
  obtain ⟨as,rd⟩:=Dp.readsAll I _ _ _ h1 rv
  obtain ⟨bs,rd2⟩:=Dp.reads I _ _ _ h2 ru
  refine SeqAt.count_list_data (vs:=its.toArray) pl.isList (by simpa using rd) rd2 h3 h4 (by have:=Nat.min_le_right (PyData.depthAll ds) d.depth;omega) ⟨.int _,H,I.tok _,⟨_,rfl⟩,q⟩
theorem rLcnt {apos:Pos}(C0:Cok d p)(ho:JB p c a ea)(he:JE p c b eb)(hbase:attributeBase a "count" p.X.env (eval a p.X.env)=eval a p.X.env)(hline:(apos.endLine == pos.line)=true)(hst:starEach [b] p.X.env=[(false,eval b p.X.env)])
  (hfew:((backTo pos (starEach [b] p.X.env)).all (fun x => !x.1)&&(backToKw pos (keywordEach [] p.X.env)).all (fun x=>x.1.isSome)&&decide ([b].length+([]:List Keyword).length+(if ([]:List Keyword).isEmpty then 0 else 1)<30))=true) :
  JE p c (.Call (.Attribute a "count" apos) [b] [] pos) (.lcnt ea eb):=
 (pe_bm PySem.F.plainAttrs_list PySem.F.slot_list_count PySem.F.type_list_count (mt_cnt C0.hu) ho (pa_cons he pa_nil hst) hbase hfew hline hst rfl).imp fun σ H Q ⟨w,ρ,κ,re,wf,po⟩=>by
  have po:Post p.g p.clA (rV p.g) w H ((bw ea ρ κ (evE c ea ρ κ)).bind fun p=>if lstB p.1=true then (evE c eb ρ p.2).bind fun q=>R.ofO ((cntV p.1 q.1).map fun v=>(v,q.2)) else .bad) Q (fun c d H'=>p.W c d σ H'):=po
  refine ⟨w,ρ,κ,re,wf,Post.bind po fun w1 H1 v κ1 y wf1 e1 rv po1 => ?_⟩
  have po1:Post p.g p.clA (rV p.g) w1 H1 (if lstB v=true then (evE c eb ρ κ1).bind fun q=>R.ofO ((cntV v q.1).map fun u=>(u,q.2)) else .bad) Q (fun c d H'=>p.W c d σ H'):=po1
  have rv:RB p.g w1 H1 v y:=rv
  by_cases hl:lstB v=true
  case neg=>rw [if_neg hl] at po1;exact po1.elim
  rw [if_pos hl] at po1
  cases v with
  | lst l=>
   obtain ⟨t,xs,ey,hq,hn,rs⟩:=rv.lst wf1
   subst ey
   refine ⟨.inl ⟨rfl,xs,SqL.of hq⟩,w1,ρ,κ1,re.ext e1 wf,wf1,Post.bind po1 fun w2 H2 u κ2 z wf2 e2 ru po2 => ?_⟩
   have ru:RV p.g w2.I w2.μ H2 u z:=ru
   obtain ⟨n,en,kq⟩:=Post.some (p:=p) po2
   have en:(match toDatas l,Qzd u with
    | some ds,some d=>if PyData.plainAll ds=true∧d.plain=true∧d.depth<60 then some (Val.int (ds.countP fun y=>PyData.eqv y d)) else none
    | _,_=>none)=some n:=en
   split at en
   case h_2=>cases en
   case h_1 ds d hd1 hd2=>
    by_cases hp:PyData.plainAll ds=true∧d.plain=true∧d.depth<60
    ·rw [if_pos hp] at en
     cases en
     refine ⟨t,xs,z,ds,d,rfl,rfl,SqL.of (Ext.rd e2 hn hq),?_,?_,hp.1,hp.2.1,hp.2.2,kq _ w2 H2 (Ext.refl w2 H2) wf2 (.int _)⟩
     ·rw [C0.hK];exact RVs.dp (rs.ext e2 wf1) hd1
     ·rw [C0.hK];exact ru.dp hd2
    ·rw [if_neg hp] at en;cases en
  | _=>cases hl
end
end PL
end
section
namespace PL
open PySem PySem.Spec PyProof.Rows L2 LamX NdefX
section
variable {p:Pl}{a b:Expr}{pos apos:Pos}{ma mb:Rho→Ks→R (Val × Ks)}
theorem SE_part (ha:SE p a ma)(hb:SE p b mb)(hs:starEach [b] p.X.env=[(false,eval b p.X.env)])(hbase:attributeBase a "partition" p.X.env (eval a p.X.env)=eval a p.X.env)(hline:(apos.endLine == pos.line)=true) :
  SE p (.Call (.Attribute a "partition" apos) [b] [] pos) (fun ρ κ=>(ma ρ κ).bind fun q=>(R.ofO (strV q.1)).bind fun u=>(mb ρ q.2).bind fun r=>R.ofO ((smV .partition u r.1).map fun v=>(v,r.2))):=
 SE_sm (m:=.partition) (fun h1 h2=>pe_partition h1 h2 hs hbase hline) (fun {w κ H u vb v y Q} wf ry e k=>by
  cases vb with
  | str z=>
   have e:(if (z.length == 0)=false∧u.length≤LINE then some (Val.tup [.str (Txt.partition u z).1,.str (Txt.partition u z).2.1,.str (Txt.partition u z).2.2]) else none)=some v:=e
   split at e
   ·cases e
    cases ry
    rename_i hl
    refine ⟨u,_,rfl,rfl,hl.1,by rw [← Qx8];exact hl.2,fun q hq => ?_⟩
    obtain ⟨e3,wf3,r3⟩:=RV.newTup wf (l:=[.str (Txt.partition u z).1,.str (Txt.partition u z).2.1,.str (Txt.partition u z).2.2]) (.cons (.str _) (.cons (.str _) (.cons (.str _) .nil))) hq
    exact k _ _ _ e3 wf3 r3
   ·cases e
  | _=>cases e) ha hb
end
theorem lidx_get {l:List Val}{v n:Val}(h:lidxV (.lst l) v=some n):Qzh v=true∧l.all Qzh=true∧∃ (j:Nat) (u:Val),n=.int (j:Nat)∧l[j]? = some u∧eqF u v=true∧∀ m z,m<j→l[m]? = some z→eqF z v=false:=by
 have h:(if Qzh v&&l.all Qzh then (l.findIdx? fun y=>eqF y v).map fun j=>Val.int (j:Nat) else none)=some n:=h
 split at h
 ·rename_i hf
  obtain ⟨f1,f2⟩:=Bool.and_eq_true_iff.mp hf
  obtain ⟨j,hj,rfl⟩:=Option.map_eq_some_iff.mp h
  obtain ⟨hlt,he,hno⟩:=List.findIdx?_eq_some_iff_getElem.mp hj
  refine ⟨f1,f2,j,l[j],rfl,List.getElem?_eq_getElem hlt,he,fun m z hm hz => ?_⟩
  have hml:m<l.length:=by omega
  rw [List.getElem?_eq_getElem hml] at hz
  cases hz
  have:=hno m hm
  simpa using this
 ·cases h
theorem RE_none {g:Gx}{X:Cx}{b:Bool}{w:Wd}{H:Hp}{σ:L2.St}:RE g X b w H (List.replicate σ.length none) σ:=by
 have key:∀ (j:Nat) (u:Slot),(List.replicate σ.length (none:Option Slot))[j]? = some (some u)→False:=fun j u e=>by
  rw [List.getElem?_replicate] at e
  split at e <;> cases e
 exact ⟨by rw [List.length_replicate],fun j u e=>(key j u e).elim,fun j k l m a h1 _ _ _=>(key j _ h1).elim⟩
theorem flats_cons {v:Val}{l m:List Val}(h:flats (v::l)=some m):∃ t m',v=.tup t∧flats l=some m'∧m=t++m':=by
 cases v with
 | tup t=>
  have h:(flats l).map (t ++ ·)=some m:=h
  obtain ⟨m',h1,h2⟩:=Option.map_eq_some_iff.mp h
  exact ⟨t,m',rfl,h1,h2.symm⟩
 | _=>cases h
section
variable {p:Pl}{mi:Rho→Ks→R (List Val × Ks)}{own:List Nat}{r q:Nat}
theorem flat_read (hr:r∈own)(hq:q∈own){σ:L2.St}{H:Hp}{Q:VK}
  (h:tF p (fun ρ κ=>if r<ρ.length∧q<ρ.length∧r≠q then (mi ρ κ).bind fun z=>R.ofO ((flLV z.1).map fun v=>(v,z.2)) else .bad) σ H Q) :
  tLc2 (tG p (rWx p.g) mi) (gT p.g.K (.nm r)) (tG p.inB (fun _ _ a b=>a=b) fun _ κ=>.ok (true,κ)) (tG p.inB (rWk p.g) fun ρ κ=>(R.ofO ((rdV ρ r).map fun v=>(v,κ))).bind fun z=>R.ofO ((itemsV z.1).map fun l=>(l,z.2))) (gT p.g.K (.nm q)) (tG p.inB (fun _ _ a b=>a=b) fun _ κ=>.ok (true,κ)) (tG p.inB (rV p.g) fun ρ κ=>R.ofO ((rdV ρ q).map fun v=>(v,κ))) own [q] σ H Q:=by
 obtain ⟨w0,ρ,κ0,re0,wf0,po⟩:=h
 dsimp only at po
 by_cases hrq:r<ρ.length∧q<ρ.length∧r≠q
 case neg=>rw [if_neg hrq] at po;exact po.elim
 rw [if_pos hrq] at po
 obtain ⟨r0,q0,rq⟩:=hrq
 refine ⟨w0,ρ,κ0,re0,wf0,Post.bind po fun w H1 l κ J wf e01 wl po => ?_⟩
 have re:=re0.ext e01 wf0
 intro D hD
 have po:Post p.g p.clA (rF p.g H) w H1 (R.ofO ((flLV l).map fun v=>(v,κ))) Q (fun c d H'=>p.W c d σ H'):=po
 cases e:flats l with
 | none=>
  have e2:flLV l=none:=by unfold flLV;rw [e]
  rw [e2] at po;exact po.elim
 | some out=>
  by_cases hl:out.length<LINE
  case neg=>
   have e2:flLV l=none:=by unfold flLV;rw [e];exact if_neg hl
   rw [e2] at po;exact po.elim
  have e2:flLV l=some (.lst out):=by unfold flLV;rw [e];exact if_pos hl
  rw [e2] at po
  have po:Post p.g p.clA (rF p.g H) w H1 (.ok (Val.lst out,κ)) Q (fun c d H'=>p.W c d σ H'):=po
  have nI:¬ w.I D:=fun z=>by
   obtain ⟨xs,q⟩:=wf.dom D z
   rw [hD] at q;cases q
  have nM:D ∉ w.μ:=fun z=>by
   obtain ⟨o,q⟩:=wf.mu_some z
   rw [hD] at q;cases q
  refine ⟨fun i m H=>m=l.length-i∧i≤l.length∧∃ w2 acc xs rest,Ext w H1 w2 H∧WF p.g w2 κ H∧¬ w2.I D∧D ∉ w2.μ∧H D=some (.lst xs)∧RVs p.g w2.I w2.μ H acc xs∧flats (l.drop i)=some rest∧out=acc++rest,
   ⟨l.length,by simp,Nat.zero_le _,w,[],[],out,Ext.upd_new wf hD _,wf.upd_new hD _,nI,nM,upd_same,.nil,by rw [List.drop_zero];exact e,rfl⟩,?_⟩
  rintro i m H2 ⟨rfl,hil,w2,acc,xs,rest,e2,wf2,nI2,nM2,hDx,ra,ec,eo⟩
  by_cases hlt:i<l.length
  case neg=>
   have ei:i=l.length:=by omega
   subst ei
   refine .inl ⟨wl.stop w2 κ H2 e2 wf2,?_⟩
   rw [List.drop_length] at ec
   cases ec
   rw [List.append_nil] at eo
   exact po (.ref D) w2 H2 e2 wf2 ⟨_,D,xs,rfl,rfl,e01.dm D hD,hDx,by rw [eo];exact ra,nI2,nM2⟩
  case pos=>
   refine .inr ⟨wl.go i w2 κ H2 hlt e2 wf2,_,fun H' hN=>⟨l.length-(i+1),by omega,hN⟩,fun x H3 hy => ?_⟩
   obtain ⟨v,hv,e3,wf3,rv⟩:=wl.yld i w2 κ H2 x H3 hlt e2 wf2 hy
   have hd:l.drop i=v::l.drop (i+1):=by
    rw [List.drop_eq_getElem_cons hlt]
    rw [List.getElem?_eq_getElem hlt] at hv
    cases hv;rfl
   rw [hd] at ec
   obtain ⟨t,rest',rfl,ec',rfl⟩:=flats_cons ec
   have e13:Ext w H1 w2 H3:=e2.trans e3
   have reW:RE p.g p.X true w2 H3 (wipeR ρ own) (L2.wipe σ own):=((re.ext e13 wf).wipe _).blk
   have wlen:∀ vs:List Nat,(wipeR ρ vs).length=ρ.length:=fun vs=>by
    induction vs with
    | nil=>rfl
    | cons a vs ih=>show ((wipeR ρ vs).set a none).length=_;rw [List.length_set,ih]
   have D3:H3 D=some (.lst xs):=e3.fr D _ hDx nM2 (by intro _ z;cases z)
   have et:setTg (.nm r) (.tup t) (wipeR ρ own)=some ((wipeR ρ own).set r (some (.val (.tup t)))):=if_pos (by rw [wlen];exact r0)
   refine gT_of wf3 et reW rv fun σ2 re2 hw => ?_
   have hw2:=hw own (fun i hi=>by rw [List.mem_singleton.mp hi];exact hr)
   refine ⟨by rw [hw2];exact wipe_wipe σ fun i hi=>hi,w2,_,κ,re2,wf3,?_⟩
   intro b' w4 H4 e4 wf4 hb
   subst hb
   rw [if_pos rfl]
   have e14:Ext w H1 w4 H4:=e13.trans e4
   have dn:H3 D≠none:=by rw [D3];intro z;cases z
   have D4:H4 D=some (.lst xs):=e4.fr D _ D3 nM2 (by intro _ z;cases z)
   have nI4:¬ w4.I D:=fun z=>(e4.new D z).elim nI2 dn
   have nM4:D ∉ w4.μ:=e4.nomu dn nM2
   have ra4:=(ra.ext e3 wf2).ext e4 wf3
   have re4:=re2.ext e4 wf3
   have sl:q<σ2.length:=by rw [← re4.len,List.length_set,wlen];exact q0
   refine ⟨w4,_,κ,re4,wf4,?_⟩
   have rdr:rdV ((wipeR ρ own).set r (some (.val (.tup t)))) r=some (.tup t):=by
    unfold rdV
    rw [List.getElem?_set_self (by rw [wlen];exact r0)]
   show Post p.g p.clA (rWk p.g) w4 H4 ((R.ofO ((rdV ((wipeR ρ own).set r (some (.val (.tup t)))) r).map fun v=>(v,κ))).bind fun z=>R.ofO ((itemsV z.1).map fun l=>(l,z.2))) _ _
   rw [rdr]
   intro J1 w5 H5 e5 wf5 wl1
   have e15:Ext w H1 w5 H5:=e14.trans e5
   have dn4:H4 D≠none:=by rw [D4];intro z;cases z
   have D5:H5 D=some (.lst xs):=e5.fr D _ D4 nM4 (by intro _ z;cases z)
   have nI5:¬ w5.I D:=fun z=>(e5.new D z).elim nI4 dn4
   have nM5:D ∉ w5.μ:=e5.nomu dn4 nM4
   have ra5:=ra4.ext e5 wf4
   refine ⟨fun k m H=>m=t.length-k∧k≤t.length∧∃ w6 ys,Ext w H1 w6 H∧SKp w5 H5 w6 H∧WF p.g w6 κ H∧¬ w6.I D∧D ∉ w6.μ∧H D=some (.lst ys)∧RVs p.g w6.I w6.μ H (acc++t.take k) ys,
    ⟨t.length,by simp,Nat.zero_le _,w5,xs,e15,Keeps.refl,wf5,nI5,nM5,D5,by rw [List.take_zero,List.append_nil];exact ra5⟩,?_⟩
   rintro k m H6 ⟨rfl,hkl,w6,ys,e16,kp6,wf6,nI6,nM6,D6,ra6⟩
   by_cases hkt:k<t.length
   case neg=>
    have ek:k=t.length:=by omega
    subst ek
    rw [List.take_length] at ra6
    exact .inl ⟨wl1.stop w6 κ H6 kp6 wf6,rfl,hlt,w6,acc++t,ys,rest',e16,wf6,nI6,nM6,D6,ra6,ec',by rw [eo,List.append_assoc]⟩
   case pos=>
    refine .inr ⟨wl1.go k w6 κ H6 hkt kp6 wf6,_,fun H' hN=>⟨t.length-(k+1),by omega,hN⟩,fun z H7 hz => ?_⟩
    obtain ⟨u,hu,e7,wf7,ru⟩:=wl1.yld k w6 κ H6 z H7 hkt kp6 wf6 hz
    have wl2:(L2.wipe σ2 [q]).length=σ2.length:=by
     show (σ2.set q none).length=_
     rw [List.length_set]
    have et1:setTg (.nm q) u (List.replicate (L2.wipe σ2 [q]).length none)=some ((List.replicate (L2.wipe σ2 [q]).length none).set q (some (.val u))):=if_pos (by rw [List.length_replicate,wl2];exact sl)
    refine gT_of wf7 et1 (RE_none (X:=p.X) (b:=true)) ru fun σ3 re3 hw3 => ?_
    have hw4:=hw3 [q] (fun i hi=>hi)
    refine ⟨by rw [hw4];exact wipe_wipe σ2 fun i hi=>hi,w6,_,κ,re3,wf7,?_⟩
    intro b' w8 H8 e8 wf8 hb
    subst hb
    rw [if_pos rfl]
    refine ⟨w8,_,κ,re3.ext e8 wf7,wf8,?_⟩
    have rdq:rdV ((List.replicate (L2.wipe σ2 [q]).length (none:Option Slot)).set q (some (.val u))) q=some u:=by
     unfold rdV
     rw [List.getElem?_set_self (by rw [List.length_replicate,wl2];exact sl)]
    show Post p.g p.clA (rV p.g) w8 H8 (R.ofO ((rdV ((List.replicate (L2.wipe σ2 [q]).length (none:Option Slot)).set q (some (.val u))) q).map fun v=>(v,κ))) _ _
    rw [rdq]
    intro y w9 H9 e9 wf9 ry
    have e69:Ext w6 H6 w9 H9:=(e7.trans e8).trans e9
    have dn6:H6 D≠none:=by rw [D6];intro z;cases z
    have D9:H9 D=some (.lst ys):=e69.fr D _ D6 nM6 (by intro _ z;cases z)
    have nI9:¬ w9.I D:=fun z=>(e69.new D z).elim nI6 dn6
    have nM9:D ∉ w9.μ:=e69.nomu dn6 nM6
    have ra9:=ra6.ext e69 wf6
    have tk:t.take (k+1)=t.take k++[u]:=by
     rw [List.take_succ,hu];rfl
    have hacc:(acc++t.take k).length<out.length:=by
     have z:=congrArg List.length eo
     rw [List.length_append,List.length_append] at z
     rw [List.length_append,List.length_take]
     omega
    refine ⟨ys,D9,by rw [← ra9.length,← Qx8];omega,rfl,hkt,w9,ys++[y],upd_D (e16.trans e69) hD,(kp6.trans (e69.keepsI wf6)).trans (keeps_upd_own wf9 nI9 nM9 D9 _),wf_upd_own wf9 nI9 nM9 D9 _,nI9,nM9,upd_same,?_⟩
    rw [tk,← List.append_assoc]
    exact (ra9.append (.cons ry .nil)).keeps (keeps_upd_own wf9 nI9 nM9 D9 _)
end
end PL
end
section
namespace PL
open PySem PySem.Spec PyProof.Rows L2 LamX NdefX
section
variable {c:CB}{d:Nat}{p:Pl}{pos apos q q2 pos2 pos':Pos}{x:Str}{e a b:Expr}{ee ea eb:E}{fr:Bool}{k i:Nat}
def tCh3 (r r' r'':R2)(ta tb tc td:TE):TT:=fun σ H Q=>ta σ H fun x H1=>tb σ H1 fun y H2=>r x y H2 fun z H3=>∃ k,z=.bl k ∧
 (if k=true then tc σ H3 fun u H4=>r' y u H4 fun z' H5=>∃ k',z'=.bl k'∧(if k'=true then td σ H5 fun v H6=>r'' u v H6 fun z'' H7=>∃ k'',z''=.bl k''∧Q k'' H7 else Q false H5) else Q false H3)
theorem pt_ch3 {X:Cx}{a b c d:Expr}{ta tb tc td:TE}{op op' op'':CmpOp}{r r' r'':R2}(ho:OpR X (compareOp op) r)(ho':OpR X (compareOp op') r')(ho2:OpR X (compareOp op'') r'')(ha:PE X a ta)(hb:PE X b tb)(hc:PE X c tc)(hd:PE X d td)
  (hm:lastMarks [op,op',op''] [b,c,d]=false):PT X (.Compare a [op,op',op''] [b,c,d] pos) (tCh3 r r' r'' ta tb tc td):=by
 refine ⟨fun pins s σ H Q I h => ?_⟩
 refine isTrue_chain (thn (ha.run pins s σ H _ I h) fun v s1 ⟨x,H1,I1,r1,q1⟩=>test_link (thn (hb.run pins s1 σ H1 _ I1 q1) fun u s2 ⟨y,H2,I2,r2,q2⟩=>
  thn (ho pins s2 σ H2 x y v u _ I2 r1 r2 q2) fun d s3 ⟨z,H3,I3,r3,k,e,q3⟩ => ?_)) hm
 subst e
 cases r3
 refine wpAny_truthy_bool ?_
 cases k with
 | false=>exact ite_ff ⟨H3,I3,q3⟩
 | true=>
  refine ite_tt (test_link (thn (hc.run pins s3 σ H3 _ I3 q3) fun w' s4 ⟨z',H4,I4,r4,q4⟩=>thn (ho' pins s4 σ H4 y z' u w' _ I4 r2 r4 q4) fun d' s5 ⟨z2,H5,I5,r5,k2,e2,q5⟩ => ?_))
  subst e2
  cases r5
  refine wpAny_truthy_bool ?_
  cases k2 with
  | false=>exact ite_ff ⟨H5,I5,q5⟩
  | true=>
   refine ite_tt (test_last (thn (hd.run pins s5 σ H5 _ I5 q5) fun w2 s6 ⟨z3,H6,I6,r6,q6⟩=>thn (ho2 pins s6 σ H6 z' z3 w' w2 _ I6 r4 r6 q6) fun d2 s7 ⟨z4,H7,I7,r7,k3,e3,q7⟩ => ?_))
   subst e3
   cases r7
   exact wpAny_truthy_bool ⟨H7,I7,q7⟩
theorem tChain3 (C:Cok d p)(o o' o'':Cm){m n:Expr}{em en:E}(ha:JE p c a ea)(hm1:JE p c m em)(hn:JE p c n en)(hb:JE p c b eb)(hm:lastMarks [pyCm o,pyCm o',pyCm o''] [m,n,b]=false):JT p c (.Compare a [pyCm o,pyCm o',pyCm o''] [m,n,b] pos) (.chain3 o o' o'' ea em en eb):=by
 obtain ⟨r,h1,hr⟩:=cmr C.hK C.hu5 o
 obtain ⟨r',h3,hr'⟩:=cmr C.hK C.hu5 o'
 obtain ⟨r'',h5,hr''⟩:=cmr C.hK C.hu5 o''
 refine (pt_ch3 h1 h3 h5 ha hm1 hn hb hm).imp fun σ H Q ⟨w,ρ,κ,re,wf,po⟩ => ?_
 refine ⟨w,ρ,κ,re,wf,Post.bind po fun w1 H1 v κ1 x wf1 e1 rx po1=>⟨w1,ρ,κ1,re.ext e1 wf,wf1,Post.bind po1 fun w2 H2 l κ2 y wf2 e2 ry po2 => ?_⟩⟩
 have rx2:=rx.ext e2 wf1
 have re2:=(re.ext e1 wf).ext e2 wf1
 have po2:Post p.g p.clA (fun _ _ a b=>a=b) w2 H2 ((R.ofO (cmV o v l)).bind fun k=>if k=true then (evE c en ρ κ2).bind fun r=>(R.ofO (cmV o' l r.1)).bind fun k'=>if k'=true then (evE c eb ρ r.2).bind fun s=>R.ofO ((cmV o'' r.1 s.1).map fun v=>(v,s.2)) else .ok (false,r.2) else .ok (false,κ2)) Q (fun c d H'=>p.W c d σ H'):=po2
 cases e:cmV o v l with
 | none=>rw [e] at po2;exact po2.elim
 | some k=>
  rw [e] at po2
  refine hr wf2 (.of rx2) (.of ry) e ⟨k,rfl,?_⟩
  cases k with
  | false=>exact po2 _ w2 H2 (Ext.refl w2 H2) wf2 rfl
  | true=>
   rw [if_pos rfl]
   refine ⟨w2,ρ,κ2,re2,wf2,Post.bind po2 fun w3 H3 u κ3 z wf3 e3 rz po3 => ?_⟩
   have re3:=re2.ext e3 wf2
   have po3:Post p.g p.clA (fun _ _ a b=>a=b) w3 H3 ((R.ofO (cmV o' l u)).bind fun k'=>if k'=true then (evE c eb ρ κ3).bind fun s=>R.ofO ((cmV o'' u s.1).map fun v=>(v,s.2)) else .ok (false,κ3)) Q (fun c d H'=>p.W c d σ H'):=po3
   cases e':cmV o' l u with
   | none=>rw [e'] at po3;exact po3.elim
   | some k'=>
    rw [e'] at po3
    refine hr' wf3 (.of (ry.ext e3 wf2)) (.of rz) e' ⟨k',rfl,?_⟩
    cases k' with
    | false=>exact po3 _ w3 H3 (Ext.refl w3 H3) wf3 rfl
    | true=>
     rw [if_pos rfl]
     refine ⟨w3,ρ,κ3,re3,wf3,Post.bind po3 fun w4 H4 u2 κ4 z2 wf4 e4 rz2 po4 => ?_⟩
     have po4:Post p.g p.clA (fun _ _ a b=>a=b) w4 H4 (R.ofO ((cmV o'' u u2).map fun v=>(v,κ4))) Q (fun c d H'=>p.W c d σ H'):=po4
     cases e'':cmV o'' u u2 with
     | none=>rw [e''] at po4;exact po4.elim
     | some k''=>
      rw [e''] at po4
      exact hr'' wf4 (.of (rz.ext e4 wf3)) (.of rz2) e'' ⟨k'',rfl,po4 _ w4 H4 (Ext.refl w4 H4) wf4 rfl⟩
theorem rPart (ha:JE p c a ea)(hb:JE p c b eb)(hs:starEach [b] p.X.env=[(false,eval b p.X.env)])(hbase:attributeBase a "partition" p.X.env (eval a p.X.env)=eval a p.X.env)(hline:(apos.endLine == pos.line)=true):JE p c (.Call (.Attribute a "partition" apos) [b] [] pos) (.sm .partition ea eb):=SE_part ha hb hs hbase hline
theorem rLidx (C0:Cok d p)(ho:JB p c a ea)(he:JE p c b eb)(hbase:attributeBase a "index" p.X.env (eval a p.X.env)=eval a p.X.env)(hline:(apos.endLine == pos.line)=true)(hst:starEach [b] p.X.env=[(false,eval b p.X.env)])
  (hfew:((backTo pos (starEach [b] p.X.env)).all (fun x => !x.1)&&(backToKw pos (keywordEach [] p.X.env)).all (fun x=>x.1.isSome)&&decide ([b].length+([]:List Keyword).length+(if ([]:List Keyword).isEmpty then 0 else 1)<30))=true) :
  JE p c (.Call (.Attribute a "index" apos) [b] [] pos) (.lidx ea eb):=
 (pe_bm PySem.F.plainAttrs_list PySem.F.slot_list_index PySem.F.type_list_index mt_index ho (pa_cons he pa_nil hst) hbase hfew hline hst rfl).imp fun σ H Q ⟨w,ρ,κ,re,wf,po⟩=>by
  have po:Post p.g p.clA (rV p.g) w H ((bw ea ρ κ (evE c ea ρ κ)).bind fun p=>if lstB p.1=true then (evE c eb ρ p.2).bind fun q=>R.ofO ((lidxV p.1 q.1).map fun v=>(v,q.2)) else .bad) Q (fun c d H'=>p.W c d σ H'):=po
  refine ⟨w,ρ,κ,re,wf,Post.bind po fun w1 H1 v κ1 y wf1 e1 rv po1 => ?_⟩
  have po1:Post p.g p.clA (rV p.g) w1 H1 (if lstB v=true then (evE c eb ρ κ1).bind fun q=>R.ofO ((lidxV v q.1).map fun u=>(u,q.2)) else .bad) Q (fun c d H'=>p.W c d σ H'):=po1
  have rv:RB p.g w1 H1 v y:=rv
  by_cases hl:lstB v=true
  case neg=>rw [if_neg hl] at po1;exact po1.elim
  rw [if_pos hl] at po1
  cases v with
  | lst l=>
   obtain ⟨t,xs,ey,hq,hn,rs⟩:=rv.lst wf1
   subst ey
   refine ⟨.inl ⟨rfl,xs,SqL.of hq⟩,w1,ρ,κ1,re.ext e1 wf,wf1,Post.bind po1 fun w2 H2 u κ2 z wf2 e2 ru po2 => ?_⟩
   have ru:RV p.g w2.I w2.μ H2 u z:=ru
   obtain ⟨n,en,kq⟩:=Post.some (p:=p) po2
   obtain ⟨f1,f2,j,g,rfl,hg,hge,hno⟩:=lidx_get en
   have rs2:=rs.ext e2 wf1
   obtain ⟨zz,hz1,hz2⟩:=rs2.get hg
   refine ⟨t,xs,z,j,zz,rfl,rfl,SqL.of (Ext.rd e2 hn hq),ru.flat f1,rs2.flat f2,hz1,?_,fun m z' hm hz' => ?_,kq _ w2 H2 (Ext.refl w2 H2) wf2 (.int _)⟩
   ·rw [← hz2.eqF ru (List.all_eq_true.mp f2 g (List.mem_of_getElem? hg)) f1];exact hge
   ·obtain ⟨v',h1,h2⟩:=rs2.get' hz'
    rw [← h2.eqF ru (List.all_eq_true.mp f2 v' (List.mem_of_getElem? h1)) f1]
    exact hno m v' hm h1
  | _=>cases hl
theorem fFlat (C:Cok d p){iter:Expr}{scope:Scope}{own:List Nat}{r q:Nat}{y:Str}{px py px2 py2:Pos}(hi:JI p c (.Name x px) iter (.seq ea)){ow:List (Str × Nat)}(how:ow.map (·.2)=own)(ok:blkC p.X.N p.X.env.scope scope ow=true)
  (hg:∀ (s:Shared) (H:Hp) (C':Addr) (cl:List (Str × Addr)) (fp:List Addr),Cok d (p.blk scope s H C' cl fp)→PG (p.blk scope s H C' cl fp).X (.Name x px) (gT p.g.K (.nm r))) (hg1:∀ (s:Shared) (H:Hp) (C':Addr) (cl:List (Str × Addr)) (fp:List Addr),Cok d (p.blk scope s H C' cl fp)→PG (p.blk scope s H C' cl fp).X (.Name y py) (gT p.g.K (.nm q)))
  (hi1:∀ (s:Shared) (H:Hp) (C':Addr) (cl:List (Str × Addr)) (fp:List Addr),Cok d (p.blk scope s H C' cl fp)→JIk (p.blk scope s H C' cl fp) c (.Name y py) (.Name x px2) (.seq (.var r)))
  (he:∀ (s:Shared) (H:Hp) (C':Addr) (cl:List (Str × Addr)) (fp:List Addr),Cok d (p.blk scope s H C' cl fp)→JE (p.blk scope s H C' cl fp) c (.Name y py2) (.var q)) (hs:∀ z,foldedSetIterable iter p.X.env z=pure z) (hr:r∈own) (hq:q∈own) :
  JF p c (.ListComp (.Name y py2) [⟨.Name x px,iter,[],0⟩,⟨.Name y py,.Name x px2,[],0⟩] scope pos) (.flat r q ea):=by
 subst how
 exact (pe_lc2 C.calm C.nd hi (blkOk_by ok) (vs1:=[q]) (fun i hi=>by rw [List.mem_singleton.mp hi];exact hq) (fun s H C' cl fp=>hg s H C' cl fp (C.blk ..)) (fun s H C' cl fp=>⟨fun pins s' σ H' Q I z=>(oNoT (p:=p.blk scope s H C' cl fp) (c:=c)).run pins s' σ H' Q I (tG_blk z)⟩)
  (fun s H C' cl fp=>(hi1 s H C' cl fp (C.blk ..)).imp fun _ _ _ z=>tG_blk z) (fun s H C' cl fp=>hg1 s H C' cl fp (C.blk ..)) (fun s H C' cl fp=>⟨fun pins s' σ H' Q I z=>(oNoT (p:=p.blk scope s H C' cl fp) (c:=c)).run pins s' σ H' Q I (tG_blk z)⟩)
  (fun s H C' cl fp=>(he s H C' cl fp (C.blk ..)).imp fun _ _ _ z=>tG_blk z) hs).imp fun σ H Q h=>flat_read hr hq h
def tRr (p:Pl)(c:CB)(ee:E)(W:WX):TS:=fun D σ H=>∃ w ρ κ,RE p.g p.X p.b w H ρ σ∧WF p.g w κ H∧Post p.g p.clA (rV p.g) w H (evE c ee ρ κ) (fun y H'=>D.rt y H') (fun cl d H'=>W cl d σ H')
def tRq (f:Str)(j:Nat)(a:Addr)(cls:Value)(d:Option Addr)(C:Addr):TS:=fun D σ H=>∃ dx n,cls=.ref C∧d=some dx∧H dx=some (.xd [(f,.int n)])∧σ[j]? = some (some (.ref a))∧D.rt (.int n) H
theorem zTryr (C0:Cok d p){j:Nat}{n xm f:Str}{C:Addr}{p5 p6 p9 p10 p12 p13 p14:Pos}(hc:p.g.errI k=some (C,f))(hcl:∀ n,n<1000→p.clA (1000*(k+1)+n)=C)(hs:p.X.stack=p.X.env::p.X.outer)(hf:p.X.env.frame=some p.X.env.locals)(hj:p.X.N[j]? = some n)(hln:p.X.env.kindOf n=some .local)(hnm:Names p.X xm (.ref C))(hex:PySem.W.exmOne p.X.K (.ref C) (.ref C)=some true)
  (hnd:(n == ("__debug__" : Str))=false) (hncd:(n == ("__classdict__" : Str))=false) (T:XfC p.X.K C) (hno:PySem.W.findIn p.X.K (.ref C) f=some none)
  (he:∀ (W:WX) (pn:List (Addr × Obj)) (xe:Value→Shared→Prop),L2N.Takes (p.X.tr pn xe) W→JE ⟨p.g,p.clA,p.X.tr pn xe,W,true⟩ c e ee)
  (hab:attributeBase (.Name n p9) f p.X.env (eval (.Name n p9) p.X.env)=eval (.Name n p9) p.X.env) :
  JS p c false (.Try [.Return (some e) p5] [.ExceptHandler (some (.Name xm p6)) (some n) [.Return (some (.Attribute (.Name n p9) f p10)) p12] p13] [] [] p14) (.tryr ee k):=by
 have bodyOk:∀ (W:WX) (pn:List (Addr × Obj)) (xe:Value→Shared→Prop),L2N.Takes (p.X.tr pn xe) W→PassesOwn (model p.X.prog p.X.w) p.X.A p.X.env xe→PSs (p.X.tr pn xe) [.Return (some e) p5] (tRr p c ee W):=fun W pn xe tk' _=>
  (pss_one (ps_ret (pos:=p5) (he W pn xe tk'))).imp fun D σ H ⟨w,ρ,κ,re,wf,po⟩=>⟨w,ρ,κ,re.blk,wf,po⟩
 have suiteOk:∀ (a:Addr) (oe:Obj) (cls:Value) (dd:Option Addr) (pn:List (Addr × Obj)),L2N.Zn cls dd oe→(∃ vs,oe.data=.fields vs) →
   PSs (p.X.suite a ((a,oe)::pn)) [.Return (some (.Attribute (.Name n p9) f p10)) p12] (tRq f j a cls dd C):=fun a oe cls dd pn hz hfl=>
  (pss_one (ps_ret (pos:=p12) (pe_xf (X:=p.X.suite a ((a,oe)::pn)) T hno hz.zc hfl (pe_var (X:=p.X.suite a ((a,oe)::pn)) (i:=j) hj (.inl hln) hnd hncd) hab))).imp fun D σ H ⟨dx,m,ec,ed,hd,hj',nx⟩=>⟨.ref a,hj',rfl,ec,dx,_,.int m,ed,hd,by simp,nx⟩
 refine ⟨fun pins s σ H D I ⟨w0,w,ρ,κ,c0,po⟩=>(L2N.ps_try_as (x:=xm) (n:=n) (i:=j) hs hf C0.nd hj hln hnm C0.tk bodyOk suiteOk).run pins s σ H D I ?_⟩
 refine ⟨w,ρ,κ,c0.re,c0.wf,?_⟩
 have po:Qzt p false w0 w H D (match evE c ee ρ κ with
  | .ok p=>.ret p.1 p.2
  | .exc c' .non κ'=>if c'/1000=k+1 then .ret (.int (c' % 1000:Nat)) κ' else .bad
  | _=>.bad):=po
 generalize evE c ee ρ κ=z at po ⊢
 cases z with
 | bad=>exact po
 | ok q=>exact fun y w' H' e1 wf1 r=>po y w' H' (c0.e0.trans e1) wf1 r
 | exc c' v κ'=>
  cases v with
  | non=>
   have po:Qzt p false w0 w H D (if c'/1000=k+1 then .ret (.int (c' % 1000:Nat)) κ' else .bad):=po
   by_cases hk:c'/1000=k+1
   case neg=>rw [if_neg hk] at po;exact po.elim
   rw [if_pos hk] at po
   intro w' H' e1 wf1 dd hdd
   unfold DOk at hdd
   rw [if_neg (by omega)] at hdd
   obtain ⟨dx,C',f',h1,h2,h3⟩:=hdd
   rw [show c'/1000-1=k by omega,hc] at h1
   cases h1
   have ecl:p.clA c'=C:=by
    have:=hcl (c' % 1000) (by omega)
    rw [show 1000*(k+1)+c' % 1000=c' by omega] at this
    exact this
   have lt:j<σ.length:=by
    rw [I.len]
    exact (List.getElem?_eq_some_iff.mp hj).1
   exact ⟨true,by rw [ecl];exact hex,fun _ a _=>⟨dx,((c' % 1000:Nat):Int),by rw [ecl],h2,h3,List.getElem?_set_self lt,po (.int _) w' H' (c0.e0.trans e1) wf1 (.int _)⟩,fun z=>nomatch z⟩
  | _=>exact po
end
end PL
end
section
namespace PL
open PySem PySem.Spec PyProof.Rows L2 LamX NdefX
theorem adjust_rev (n:Nat):Builtin.Slice.sliceAdjust none none (-1) (n:Int)=((n:Int)-1,-1):=by
 unfold Builtin.Slice.sliceAdjust
 rfl
theorem places_rev (n:Nat):Builtin.Slice.slicePlaces ((n:Int)-1) (-1) (-1)=n:=by
 unfold Builtin.Slice.slicePlaces
 have h1:¬ ((-1:Int) > 0):=by omega
 simp only [h1,if_false,Int.neg_neg,Int.ediv_one]
 split <;> omega
theorem filterMap_same {α β:Type}{f g:α→Option β}:∀ {l:List α},(∀ m∈l,f m=g m)→l.filterMap f=l.filterMap g
 | [],_=>rfl
 | a::l,h=>by
  rw [List.filterMap_cons,List.filterMap_cons,h a List.mem_cons_self,filterMap_same fun m hm=>h m (List.mem_cons_of_mem _ hm)]
theorem pick_rev (xs:Array Value):((List.range xs.size).filterMap fun (m:Nat)=>xs[((xs.size:Int)-1+(m:Int)*(-1)).toNat]?).toArray=xs.toList.reverse.toArray:=by
 have e:∀ m∈List.range xs.size,xs[((xs.size:Int)-1+(m:Int)*(-1)).toNat]? = xs[xs.size-1-m]? := fun m hm=>by
  have hm:=List.mem_range.mp hm
  have:((xs.size:Int)-1+(m:Int)*(-1)).toNat=xs.size-1-m:=by omega
  rw [this]
 congr 1
 have e2:(List.range xs.size).filterMap (fun (m:Nat)=>xs[((xs.size:Int)-1+(m:Int)*(-1)).toNat]?)=(List.range xs.size).filterMap fun m=>xs[xs.size-1-m]? := by
  exact filterMap_same e
 rw [e2]
 have e3:(List.range xs.size).filterMap (fun m=>xs[xs.size-1-m]?)=((List.range xs.size).map fun m=>xs.size-1-m).filterMap (xs[·]?):=by
  rw [List.filterMap_map];rfl
 rw [e3,PySem.W.krv_range,List.filterMap_reverse,PySem.W.krv_all]
section
variable {prog:Program}{w:World}{A:Around}{E:Value→Shared→Prop}{s:Shared}
theorem sliceApplied_rev {sl:Addr}{vl vu vk:Value}{n:Nat}{Q:Int × Int × Nat→Shared→Prop}(hs:s.heap.IsSliceOf sl vl vu vk)(pl:IsPart vl none)(pu:IsPart vu none)(pk:IsPart vk (some (-1)))
  (h:Q ((n:Int)-1,-1,n) s):wpAny (model prog w) A (Builtin.Slice.sliceApplied (.ref sl) (pure (n:Int))) Q E s:=by
 obtain ⟨os,hos,hcs,hds⟩:=id hs
 unfold Builtin.Slice.sliceApplied Builtin.Slice.sliceFields
 refine wpAny_bind (wpAny_bind (wpAny_field hos hds (x:=vl) rfl (wpAny_bind (wpAny_field hos hds (x:=vu) rfl (wpAny_bind (wpAny_field hos hds (x:=vk) rfl (wpAny_pure ?_)))))))
 refine wpAny_bind (HT.slicePart_ pk ?_)
 show wpAny _ _ (if ((-1:Int) == 0)=true then _ else _) _ _ s
 rw [if_neg (by decide)]
 refine wpAny_bind (HT.slicePart_ pl (wpAny_bind (HT.slicePart_ pu (wpAny_bind (wpAny_pure ?_)))))
 show wpAny _ _ (match Builtin.Slice.sliceAdjust none none (-1) (n:Int) with|(lo,hi)=>pure (lo,(-1:Int),Builtin.Slice.slicePlaces lo hi (-1))) _ _ s
 rw [adjust_rev n]
 show wpAny _ _ (pure ((n:Int)-1,(-1:Int),Builtin.Slice.slicePlaces ((n:Int)-1) (-1) (-1))) _ _ s
 rw [places_rev]
 exact wpAny_pure h
theorem getItem_tuple_rev {t sl:Addr}{items:Array Value}{vl vu vk:Value}{Q:Value→Shared→Prop}(ht:IsTup s.heap t items)(hs:s.heap.IsSliceOf sl vl vu vk)(pl:IsPart vl none)(pu:IsPart vu none)(pk:IsPart vk (some (-1)))
  (h:Q (.ref s.heap.objs.size) { s with heap:=s.heap.push { cls:=.type "tuple", data:=.seq items.toList.reverse.toArray } })
  (hsz:items.size≤sizeLine):wpAny (model prog w) A (getItem (.ref t) (.ref sl)) Q E s:=by
 have htake:sizeOk (.seq items.toList.reverse.toArray):=by
  show items.toList.reverse.toArray.size≤sizeLine
  rw [List.size_toArray,List.length_reverse,Array.length_toList]
  exact hsz
 obtain ⟨os,hos,hcs,hds⟩:=id hs
 have hTs:s.TypeIs (.ref sl) "slice" := ⟨os,hos,hcs⟩
 unfold getItem
 try with_reducible refine wpAny_holding ?_
 first|refine wpAny_bind (wpAny_pure ?_)|skip
 refine wpAny_bind (wpAny_sequenceKey ht.typeIs (by decide) ?_)
 refine wpAny_bind (wpAny_callSpecial?_slot (name:=Str.ofString "__getitem__") ht.typeIs PyProof.Rows.slot_tuple_getitem
  (wpAny_call_entry PyProof.Rows.slot_tuple_getitem ht.typeIs entry_tuple_getitem ?_ (args_tuple_getitem _ _)))
 show wpAny _ _ (Builtin.Tuple.tupleItemsOf (.ref t) >>= _) _ _ s
 refine wpAny_bind (tupleItemsOf_ ht ?_)
 refine wpAny_bind (wpAny_typeOf hTs ?_)
 rw [if_pos (by decide)]
 refine wpAny_bind (sliceApplied_rev hs pl pu pk ?_)
 have hno:¬ ((((items.size:Int)-1) == 0&&(-1:Int) == 1&&items.size == items.size)=true):=by
  intro q
  rw [Bool.and_eq_true,Bool.and_eq_true] at q
  exact absurd q.1.2 (by decide)
 show wpAny _ _ (if (((items.size:Int)-1) == 0&&(-1:Int) == 1&&items.size == items.size)=true then _ else _) _ _ s
 rw [if_neg hno,pick_rev]
 first
  | exact wpAny_bind (m:=Builtin.Tuple.tupleExact _) (wpAny_newObj_type (wpAny_pure ⟨_,rfl,wpAny_pure h⟩) htake)
  | exact wpAny_bind (m:=Builtin.Tuple.tupleExact _) (wpAny_newObj_type (wpAny_bind (wpAny_pure (wpAny_pure ⟨_,rfl,wpAny_pure h⟩))) htake)
  | exact wpAny_bind (wpAny_bind (m:=Builtin.Tuple.tupleExact _) (wpAny_newObj_type (wpAny_pure (wpAny_pure ⟨_,rfl,wpAny_pure h⟩)) htake))
  | exact wpAny_bind (wpAny_bind (m:=Builtin.Tuple.tupleExact _) (wpAny_newObj_type (wpAny_pure ⟨_,rfl,wpAny_pure h⟩) htake))
end
section
variable {X:Cx}{e:Expr}{te:TE}{k:Nat}{p1 p2 p3 pos:Pos}
def tRevA (K:PySem.W.Frag)(te:TE):TE:=fun σ H Q=>te σ H fun x H1=>∃ a xs,x=.ref a∧((SqL K H1 a xs∧∀ p,H1 p=none→Q (.ref p) (upd H1 p (.lst xs.reverse)))∨(SqT K H1 a xs∧∀ p,H1 p=none→Q (.ref p) (upd H1 p (.tup xs.reverse))))
theorem pe_revA (he:PE X e te):PE X (.Subscript e (.Slice none none (some (.UnaryOp .USub (.Constant (.int 1) k p1) p2)) p3) pos) (tRevA X.K te):=by
 refine ⟨fun pins s σ H Q I h => ?_⟩
 refine Subscript_ (thn (he.run pins s σ H _ I h) fun v s1 ⟨x,H1,I1,r1,q1⟩ => ?_)
 obtain ⟨a,xs,ex,q⟩:=q1
 subst ex
 cases r1
 have hst:PO X (some (.UnaryOp .USub (.Constant (.int 1) k p1) p2)) (tPart (tUn (rU fun i=>V.int (-i)) (L2.tC (V.int 1)))):=po_some (pe_un un_neg pe_int)
 refine wpAny_Slice (thn (po_none.run pins s1 σ H1 (fun o H2=>o=none∧H2=H1) I1 ⟨rfl,rfl⟩) fun vl s2 ⟨l,H2,I2,pl,el,e2⟩ => ?_)
 subst el e2
 refine thn (po_none.run pins s2 σ H2 (fun o H3=>o=none∧H3=H2) I2 ⟨rfl,rfl⟩) fun vu s3 ⟨u,H3,I3,pu,eu,e3⟩ => ?_
 subst eu e3
 refine thn (hst.run pins s3 σ H3 (fun o H4=>o=some (-1)∧H4=H3) I3 ⟨1,rfl,-1,rfl,rfl,rfl⟩) fun vs s4 ⟨o,H4,I4,ps,eo,e4⟩ => ?_
 subst eo e4
 have I5:Inv X pins σ H4 { s4 with heap:=s4.heap.push { cls:=.type "slice", data:=.fields #[vl,vu,vs] } }:=I4.kept (t':=s4.toks) fun b ob q=>Heap.get?_push_of_some _ q
 show wpAny (model X.prog X.w) X.A (subscriptTail e (.Slice none none (some (.UnaryOp .USub (.Constant (.int 1) k p1) p2)) p3) (.ref a) (.ref s4.heap.objs.size)) (EP X pins σ Q) X.xe { s4 with heap:=s4.heap.push { cls:=.type "slice", data:=.fields #[vl,vu,vs] } }
 rcases q with ⟨hx,q⟩|⟨hx,q⟩
 ·obtain ⟨its,r,ht,hz⟩:=I5.list hx
  have hlen:=r.length
  refine tail_any (ops:=[.ref a,.ref s4.heap.objs.size]) ht.isList.typeIs (PySem.slot_list_getitem.lookup) ?_ (by with_unfolding_all rfl)
  refine wpAny_getItem_list_slice ht.isList (Heap.IsSliceOf.new _ vl vu vs) pl pu ps (by decide) ?_ (by rw [List.size_toArray];omega)
  rw [PySem.W.krv_pick]
  refine ⟨.ref _,_,I5.laid (t':=s4.toks) (o:=.lst xs.reverse) (fun b ob q=>Heap.get?_push_of_some _ q) (Nat.le_refl _) ?_,rfl,q _ (I5.hok.fresh (Nat.le_refl _))⟩
  exact ⟨by rw [List.length_reverse];exact hz,_,0,r.reverse,Heap.get?_push_size _ rfl⟩
 ·obtain ⟨its,r,ht,hz⟩:=I5.tuple hx
  have hlen:=r.length
  refine tail_any (ops:=[.ref a,.ref s4.heap.objs.size]) ht.typeIs (PyProof.Rows.slot_tuple_getitem.lookup) ?_ (by with_unfolding_all rfl)
  refine getItem_tuple_rev ht (Heap.IsSliceOf.new _ vl vu vs) pl pu ps ?_ (by rw [List.size_toArray];omega)
  refine ⟨.ref _,_,I5.laid (t':=s4.toks) (o:=.tup xs.reverse) (fun b ob q=>Heap.get?_push_of_some _ q) (Nat.le_refl _) ?_,rfl,q _ (I5.hok.fresh (Nat.le_refl _))⟩
  exact ⟨by rw [List.length_reverse];exact hz,_,r.reverse,IsTup.new _ _⟩
end
section
variable {c:CB}{d:Nat}{p:Pl}{a:Expr}{ea:E}{k:Nat}{p1 p2 p3 pos:Pos}{ma:Rho→Ks→R (Val × Ks)}
theorem SE_rev (hK:p.X.K=p.g.K)(ha:SB p a ma):SE p (.Subscript a (.Slice none none (some (.UnaryOp .USub (.Constant (.int 1) k p1) p2)) p3) pos) (fun ρ κ=>(ma ρ κ).bind fun q=>R.ofO ((rvV q.1).map fun v=>(v,q.2))):=
 (pe_revA ha).imp fun σ H Q h=>Qzn (f:=fun _ q=>R.ofO ((rvV q.1).map fun v=>(v,q.2))) h fun w ρ κ H1 a x re wf rx po=>by
  obtain ⟨l,ev,k⟩:=Post.some (p:=p) po
  have ev:rvV a=some l:=ev
  unfold rvV at ev
  split at ev
  ·cases ev
   obtain ⟨q,xs,rfl,hq,n,r⟩:=rx.lst wf
   refine ⟨q,xs,rfl,.inl ⟨SqL.of hq,fun b hb => ?_⟩⟩
   obtain ⟨e4,wf4,r4⟩:=RV.newLst wf r.reverse hb
   exact k _ _ _ e4 wf4 r4
  ·cases ev
   obtain ⟨q,xs,rfl,hq,r⟩:=rx.tup
   refine ⟨q,xs,rfl,.inr ⟨by rw [hK];exact hq,fun b hb => ?_⟩⟩
   obtain ⟨e4,wf4,r4⟩:=RV.newTup wf r.reverse hb
   exact k _ _ _ e4 wf4 r4
  ·cases ev
theorem rRev (C:Cok d p)(ha:JB p c a ea):JE p c (.Subscript a (.Slice none none (some (.UnaryOp .USub (.Constant (.int 1) k p1) p2)) p3) pos) (.rev ea):=SE_rev C.hK ha
end
end PL
end
section
namespace PL
open PySem PySem.Calls PyProof.Rows PyProof.V PySem.Spec PySem.W
structure ZStep (h:Heap)(z TI TO i1 i2 l1 l2 S:Addr)(k:Nat):Prop where
 ti:IsPair h TI (.ref i1) (.ref i2)
 a:h.IsListIter i1 l1 k
 b:h.IsListIter i2 l2 k
 zp:(IsZip h z TI TO .none∧∃ a b,IsPair h TO a b)∨∃ T f oT,IsZipHeld h z TI TO T f∧h.get? T=some oT∧T≠z∧T≠i1∧T≠i2∧T≠S
structure ZG (xs ys:Array Value)(lo:Addr)(h:Heap)(as:List Addr):Prop where
 rise:as.Pairwise (· < ·)
 above:∀ a∈as,lo≤a
 pairs:∀ (j:Nat) (a:Addr),as[j]? = some a→∃ x y,xs[j]? = some x∧ys[j]? = some y∧IsPair h a x y
theorem ZG.there {xs ys:Array Value}{lo:Addr}{h:Heap}{as:List Addr}(g:ZG xs ys lo h as){a:Addr}(ha:a∈as):a<h.objs.size:=by
 obtain ⟨j,hj⟩:=List.mem_iff_getElem?.mp ha
 obtain ⟨_,_,_,_,e⟩:=g.pairs j a hj
 exact Heap.lt_size e
section
variable {prog:Program}{w:World}{A:Around}{E:Value→Shared→Prop}{s:Shared}{z TI TO i1 i2 l1 l2 S:Addr}{xs ys:Array Value}
end
end PL
end
section
namespace PL
open PySem PySem.Spec PyProof.Rows L2 LamX NdefX
inductive ZTo:Hp→List (V × V)→List V→Hp→Prop
 | nil (H:Hp):ZTo H [] [] H
 | cons {H H2:Hp} {p:Addr} {u v:V} {zs:List (V × V)} {rs:List V}:H p=none→ZTo (upd H p (.tup [u,v])) zs rs H2→ZTo H ((u,v)::zs) (.ref p::rs) H2
section
variable {g:Gx}{w:Wd}{κ:Ks}
end
section
variable {p:Pl}{a b:Expr}{pos pos2 q q2:Pos}{ma mb:Rho→Ks→R (Val × Ks)}
end
section
variable {c:CB}{p:Pl}{d:Nat}{a b:Expr}{ea eb:E}{pos pos2 q q2:Pos}
end
end PL
end
section
namespace PL
open PySem PySem.Spec PyProof.Rows L2 LamX NdefX
inductive RMx (g:Gx)(H0:Hp)(w:Wd)(H:Hp):List Bool→List Val→List V→Prop where
 | nil:RMx g H0 w H [] [] []
 | val {fs:List Bool} {v:Val} {l:List Val} {x:V} {xs:List V} (r:RV g w.I w.μ H v x) (t:RMx g H0 w H fs l xs):RMx g H0 w H (false::fs) (v::l) (x::xs)
 | own {fs:List Bool} {v:Val} {l:List Val} {x:V} {xs:List V} (r:rF g H0 w H v x) (t:RMx g H0 w H fs l xs) (ne:∀ i:Nat,fs[i]? = some true→xs[i]? ≠ some x):RMx g H0 w H (true::fs) (v::l) (x::xs)
section
variable {p:Pl}{fr:Bool}{a b c e:Expr}{es:List Expr}{fs:List Bool}{ma me:Rho→Ks→R (Val × Ks)}{ms:Rho→Ks→R (List Val × Ks)}
theorem RMx.apart {g:Gx}{H1:Hp}{w2:Wd}{H2:Hp}{a:Addr}{o:HO}(h:H1 a=some o){fs:List Bool}{l:List Val}{xs:List V}(r:RMx g H1 w2 H2 fs l xs):∀ i:Nat,fs[i]? = some true→xs[i]? ≠ some (.ref a):=by
 induction r with
 | nil=>intro i hi;simp at hi
 | val r t ih=>
  intro i hi
  cases i with
  | zero=>simp at hi
  | succ i=>simpa using ih i (by simpa using hi)
 | own r t ne ih=>
  intro i hi
  cases i with
  | zero=>
   intro z
   obtain ⟨l,a',xs,e,ex,n,_⟩:=r
   subst ex
   simp at z
   rw [z,h] at n
   cases n
  | succ i=>simpa using ih i (by simpa using hi)
theorem RMx.new {g:Gx}{H0:Hp}{w:Wd}{H:Hp}{fs:List Bool}{l:List Val}{xs:List V}(r:RMx g H0 w H fs l xs):∀ (i:Nat) (x:V),fs[i]? = some true→xs[i]? = some x→∃ a,x=.ref a∧H0 a=none:=by
 induction r with
 | nil=>intro i x hi;simp at hi
 | val r t ih=>
  intro i x hi
  cases i with
  | zero=>simp at hi
  | succ i=>simpa using ih i x (by simpa using hi)
 | own r t ne ih=>
  intro i x hi hx
  cases i with
  | zero=>
   obtain ⟨l',a,ys,ev,ex,n,_⟩:=r
   exact ⟨a,by simpa [ex] using hx.symm,n⟩
  | succ i=>exact ih i x (by simpa using hi) (by simpa using hx)
theorem RMx.len {g:Gx}{H0:Hp}{w:Wd}{H:Hp}{fs:List Bool}{l:List Val}{xs:List V}(r:RMx g H0 w H fs l xs):xs.length=fs.length:=by
 induction r <;> simp [*]
variable {i j l:Nat}{x y z:Str}{pos:Pos}{b1 b2 b3:Bool}
variable {cb:CB}{d k:Nat}{ea:E}{t:Es}
end
end PL
end
section
namespace PL
open PySem PySem.Spec PyProof.Rows L2 LamX NdefX
section
variable {c:CB}{d:Nat}{p:Pl}{pos np:Pos}{i:Nat}{x:Str}{a:Expr}{ea:E}{es:List Expr}
theorem v0 (h1:p.X.N[i]? = some x:=by exact rfl)(h2:Vis p.X.env.scope x:=by exact .inl rfl)(h3:okN x=true:=by exact rfl):JE p c (.Name x pos) (.var i):=rVar ⟨h1,h2,h3⟩
theorem bo (h:JE p c a ea)(hb:∀ ρ κ r,bw ea ρ κ r=r:=by exact fun _ _ _=>rfl):JB p c a ea:=bOf h hb
theorem b0 (h1:p.X.N[i]? = some x:=by exact rfl)(h2:Vis p.X.env.scope x:=by exact .inl rfl)(h3:okN x=true:=by exact rfl):JB p c (.Name x pos) (.var i):=bOf (rVar ⟨h1,h2,h3⟩) fun _ _ _=>rfl
theorem kc {A':Addr}(C:Cok d p){f:Nat}(F:FnS p.X.prog p.X.w p.g p.clA p.X.mg p.X.base d A' (c.cf f))(hm:p.X.mg x=some (.ref A')∧PySem.W.keepIn p.X.K (.ref A')=true){as:As}(ha:JA p c (a::es) as)(hg:Gl p.X x:=by rfl)(hd:okN x=true:=by rfl)
  (he:starEach (a::es) p.X.env=(false,eval a p.X.env)::starEach es p.X.env:=by rfl) (hpl:(backTo pos (starEach es p.X.env)).any (·.1)=false:=by rfl):JE p c (.Call (.Name x np) (a::es) [] pos) (.call f as):=rCall C F hg hm ha hd he hpl
end
end PL
end
section
namespace K10
open PySem PL
def N_is_whole:List Str:=["value", "low", "high"]
def N_is_right_picture:List Str:=["value", "mark", "one", "other"]
def N_is_right_sum:List Str:=["picture", "value", "part"]
def N_is_right_claim:List Str:=["picture", "value"]
def N_are_right_facts:List Str:=["picture", "value", "claim"]
def N_need_picture:List Str:=["value"]
def N_need_facts:List Str:=["picture", "value"]
def N_picture_line:List Str:=["picture", "mark"]
def N_sum_words:List Str:=["some", "often", "first", "last"]
def N_claim_line:List Str:=["claim"]
def N_whole_in:List Str:=["word", "found", "number"]
def N_read_sum:List Str:=["words", "found", "word", "often", "star", "rest", "first", "dash", "last", "row", "part"]
def N_read_claim:List Str:=["line", "words", "at", "found"]
def N_read_picture:List Str:=["line", "found", "word"]
def N_road_text:List Str:=["picture", "facts", "claim"]
def N_read_road:List Str:=["value", "lines", "picture", "facts", "at", "line", "claim"]
def N__law_spring:List Str:=["_law_script", "_law_k", "_law_cell"]
def N__law_pick:List Str:=["_law_spring_here", "_law_many", "_law_found", "_law_far"]
def N__law_chosen:List Str:=["_law_spring_here", "_law_some"]
def N__law_shot:List Str:=["_law_spring_here", "_law_most", "_law_found", "_law_turn"]
def N__law_lengths:List Str:=["_law_spring_here", "_law_picture", "_law_most", "_law_found", "_law_turn", "_law_first", "_law_last"]
def N__law_saying:List Str:=["_law_spring_here", "_law_picture", "_law_word"]
def N__law_sayings:List Str:=["_law_spring_here", "_law_picture", "_law_most", "_law_turn"]
def N__law_kin:List Str:=["_law_e", "_law_some", "_law_labels", "_law_label", "_law_good"]
def N__law_came:List Str:=["_law_call", "_law_e"]
def N__law_all_say:List Str:=["_law_calls", "_law_word", "_law_call"]
def N__law_twins:List Str:=["_law_one", "_law_other", "_law_a", "_law_b"]
def N__law_kind:List Str:=["_law_value"]
def N__law_words:List Str:=["_law_some", "_law_found", "_law_often", "_law_first", "_law_last"]
def N__law_line:List Str:=["_law_claim"]
def N__law_text:List Str:=["_law_picture", "_law_facts", "_law_first", "_law_mark", "_law_claim"]
def N__law_number:List Str:=["_law_word", "_law_found", "_law_number_here"]
def N__law_marks:List Str:=["_law_line_here", "_law_words_here", "_law_marks_here", "_law_word"]
def N__law_part:List Str:=["_law_word", "_law_often", "_law_first", "_law_last", "_law_at"]
def N__law_claimed:List Str:=["_law_line_here", "_law_words_here", "_law_at", "_law_one", "_law_other", "_law_word"]
def N__law_due:List Str:=["_law_text_here", "_law_lines", "_law_facts", "_law_picture", "_law_at", "_law_line_here", "_law_claim", "_law_beyond", "_law_part_here"]
def N__law_read:List Str:=["_law_text_here", "_law_e"]
def N__law_bent:List Str:=["_law_spring_here", "_law_text_here", "_law_at", "_law_way", "_law_lines", "_law_here", "_law_words_here", "_law_place", "_law_word", "_law_rest", "_law_line_here"]
def N__law_written:List Str:=["_law_one", "_law_near", "_law_far", "_law_due_here", "_law_line_here", "_law_some", "_law_text_here"]
def N_law:List Str:=["_law_script", "_law_k", "_law_spring_here", "_law_picture", "_law_facts", "_law_text_here", "_law_turn", "_law_bent_here", "_law_odd", "_law_calls"]
end K10
end
section
namespace K10
open PySem PySem.Spec PyProof.Rows L2 LamX NdefX PL
def fnN (i:Nat):Str:=fnNames.getD i "law"
def freeN (i:Nat):Str:=freeNames.getD i "len"
def excN (i:Nat):Str:=excNames.getD i "InvalidPicture"
def lam0:LamI:=lamOf ("law.<locals>.<lambda>" : Str) ["_law_text_here"] (xItem (xArg (xOperand (sTest (sAt (sForB (sAt (defBody (top 61)) 0)) 9))) 0) 0)
def lam1:LamI:=lamOf ("law.<locals>.<lambda>" : Str) ["_law_picture", "_law_facts"] (xItem (xRight (xArg (xOperand (sTest (sAt (sForB (sAt (defBody (top 61)) 0)) 8))) 0)) 0)
def lam2:LamI:=lamOf ("law.<locals>.<lambda>" : Str) ["_law_picture"] (xItem (sValue (sAt (sForB (sAt (defBody (top 61)) 0)) 7)) 0)
def lamTab:Nat→Option LamI
 | 0=>some lam0
 | 1=>some lam1
 | 2=>some lam2
 | _=>none
def errNames:List (Str × Str):=[("InvalidText", "line")]
def errN (i:Nat):Str:=(errNames.getD i ("MarkError", "")).1
def FA (K:PySem.W.Frag)(i:Nat):Addr:=He.ga K (fnN i)
def kcNames:List Str:=["InvalidPicture", "InvalidFacts", "InvalidText"]
def kcN (i:Nat):Str:=kcNames.getD i "InvalidPicture"
def clA (K:PySem.W.Frag)(c:Nat):Addr:=He.ga K (kcN (cidx c))
theorem cidx_of {i:Nat}(hi:i<2):cidx i=i:=by unfold cidx;rw [if_pos (by omega),if_pos hi]
theorem cidx_lt {c:Nat}(hc:c<1000):cidx c<2:=by unfold cidx;rw [if_pos hc];split <;> omega
theorem cl_exc:∀ i<2,kcN i=excN i:=by decide +kernel
theorem clA_of {K:PySem.W.Frag}{i:Nat}(hi:i<2):clA K i=He.ga K (excN i):=by unfold clA;rw [cidx_of hi,cl_exc i hi]
theorem hcl_InvalidText {K:PySem.W.Frag}:∀ n,n<1000→clA K (1000*(0+1)+n)=He.ga K "InvalidText" := fun n hn=>by unfold clA cidx;rw [if_neg (by omega)];rfl
def gx (K:PySem.W.Frag):Gx:=⟨K,fun i=>some (FA K i),lamTab,[((He.cT K ("law", none)).2,fun _ _=>("law.<locals>.<lambda>" : Str))],fun _=>none,fun i=>(errNames[i]?).map fun x=>(He.ga K x.1,x.2)⟩
def kinN (i:Nat):Str:=kinNames.getD i "ValueError"
def isB (i j:Nat):Bool:=decide (excN i=kinN j)
abbrev fDf (K:PySem.W.Frag)(n:Str)(i j:Nat):Prop:=∃ fd,FunD K n n (defArgs (top i)) (defBody (top i)) (defScope (top i)) [] [] (FA K j) fd
structure Hd (K:PySem.W.Frag)(mg:Str→Option Value)(base:Heap):Prop where
 fn:∀ i,i<40→mg (fnN i)=some (.ref (FA K i))∧PySem.W.keepIn K (.ref (FA K i))=true
 baseC:BaseC K (He.ga K "MarkError")
 eox_InvalidText:OexF K "InvalidText" "line"
 exq_InvalidText:PySem.W.exmOne K (.ref (He.ga K "InvalidText")) (.ref (He.ga K "InvalidText"))=some true
 eg_InvalidText:mg "InvalidText" = some (.ref (He.ga K "InvalidText"))
 d_init_InvalidText:∃ fd,FunD K "__init__" "InvalidText.__init__" (defArgs (clsD (top 15) 0)) (defBody (clsD (top 15) 0)) (defScope (clsD (top 15) 0)) [] [] (He.fAd K ("InvalidText", some "__init__")) fd
 free:∀ i,i<16→mg (freeN i)=none
 exc:∀ i,i<2→ExcG K mg (clA K i) (excN i)
 int_MOST_FACTS:∃ t,mg "MOST_FACTS" = some (.int (4) t)
 tup_WORDS:mg "WORDS" = some (.ref (He.ga K "WORDS"))∧∀ H,SqT K H (He.ga K "WORDS") [.str "less", .str "upto", .str "same"]
 tup_WIDE:mg "WIDE" = some (.ref (He.ga K "WIDE"))∧∀ H,SqT K H (He.ga K "WIDE") [.int (0),.int (1),.int (2),.int (3),.int (4)]
 d_is_whole:fDf K "is_whole" 19 0
 d_is_right_picture:fDf K "is_right_picture" 20 1
 d_is_right_sum:fDf K "is_right_sum" 21 2
 d_is_right_claim:fDf K "is_right_claim" 22 3
 d_are_right_facts:fDf K "are_right_facts" 23 4
 d_need_picture:fDf K "need_picture" 24 5
 d_need_facts:fDf K "need_facts" 25 6
 d_picture_line:fDf K "picture_line" 28 7
 d_sum_words:fDf K "sum_words" 29 8
 d_claim_line:fDf K "claim_line" 30 9
 d_whole_in:fDf K "whole_in" 31 10
 d_read_sum:fDf K "read_sum" 32 11
 d_read_claim:fDf K "read_claim" 33 12
 d_read_picture:fDf K "read_picture" 34 13
 d_road_text:fDf K "road_text" 35 14
 d_read_road:fDf K "read_road" 36 15
 d__law_spring:fDf K "_law_spring" 38 16
 d__law_pick:fDf K "_law_pick" 39 17
 d__law_chosen:fDf K "_law_chosen" 40 18
 d__law_shot:fDf K "_law_shot" 41 19
 d__law_lengths:fDf K "_law_lengths" 42 20
 d__law_saying:fDf K "_law_saying" 43 21
 d__law_sayings:fDf K "_law_sayings" 44 22
 d__law_kin:fDf K "_law_kin" 45 23
 d__law_came:fDf K "_law_came" 46 24
 d__law_all_say:fDf K "_law_all_say" 47 25
 d__law_twins:fDf K "_law_twins" 48 26
 d__law_kind:fDf K "_law_kind" 49 27
 d__law_words:fDf K "_law_words" 50 28
 d__law_line:fDf K "_law_line" 51 29
 d__law_text:fDf K "_law_text" 52 30
 d__law_number:fDf K "_law_number" 53 31
 d__law_marks:fDf K "_law_marks" 54 32
 d__law_part:fDf K "_law_part" 55 33
 d__law_claimed:fDf K "_law_claimed" 56 34
 d__law_due:fDf K "_law_due" 57 35
 d__law_read:fDf K "_law_read" 58 36
 d__law_bent:fDf K "_law_bent" 59 37
 d__law_written:fDf K "_law_written" 60 38
 d_law:fDf K "law" 61 39
 kcls:∀ i,i<2→ExcC K (He.ga K (kcN i))
 kmg:∀ j,j<14→mg (kinN j)=some (.ref (He.ga K (kinN j)))
 kit:∀ i,i<2→∀ j,j<14→PySem.W.kitOne K (.ref (He.ga K (kcN i))) (.ref (He.ga K (kinN j)))=some (isB i j)
 kitv:∀ i,i<2→PySem.W.kitOne K (.ref (He.ga K (kcN i))) (.type "ValueError")=some true
 exm:∀ i,i<2→PySem.W.exmOne K (.ref (He.ga K (kcN i))) (.ref (He.ga K "MarkError"))=some true
 mkE:mg "MarkError" = some (.ref (He.ga K "MarkError"))
 vfree:mg "ValueError" = none
 tab_law:TabB base mg (He.cT K ("law", none)).1 (He.cT K ("law", none)).2
theorem init_InvalidText {P:Program}{W:World}{K:PySem.W.Frag}{mg:Str→Option Value}{base:Heap}(h:Hd K mg base):∀ {A:Around} {outer:List Env} {s:Shared} {H:Hp} {us:List Value} {a:Addr} {n:Int} {Q:VK} {E:XK},Room 1 A→Env0 P W K mg base A outer s H→Vals [.ref a,.int n] us→H a=some (exo a (He.ga K "InvalidText") none)→(∀ dx,H dx=none→dx≠a→Q .non (upd (upd H dx (exd dx [("line", .int n)])) a (exo a (He.ga K "InvalidText") (some dx)))) →
  codeAny (model P W) A (.call (.ref (He.fAd K ("InvalidText", some "__init__"))) ⟨us,[]⟩) (CR (L2N.CX P W) outer P W H s Q E) s:=by
 obtain ⟨fd,D⟩:=h.d_init_InvalidText
 exact fun {A outer s H us a n Q E}=>init_run (ps:=posOf (defBody (clsD (top 15) 0))) (ns:=numOf (defBody (clsD (top 15) 0))) (bn := "MarkError") (m := "not a text") (f := "line") (lim := "line") (M:=He.ga K "MarkError") (C:=He.ga K "InvalidText") D ⟨rfl,rfl,rfl,by decide +kernel,rfl,by decide +kernel,by decide +kernel⟩ (fun _ _ _ _ _ _ us hl=>match us,hl with|[_,_],_=>rfl) (fun CX cd A outer s H E=>⟨by rfl,by rfl,by rfl,by rfl,.inl rfl,.inl rfl,rfl,rfl,⟨_,rfl⟩,rfl,rfl,by rfl,rfl,rfl⟩) h.mkE h.baseC h.eox_InvalidText.T h.eox_InvalidText.no
abbrev BT (P:Program)(W:World)(K:PySem.W.Frag)(mg:Str→Option Value)(base:Heap)(d:Nat)(c:CB)(nm:Str)(t a:Nat)(N:List Str)(ir:Ss):Prop:=∀ (cd:Value) (A:Around) (outer:List Env) (s:Shared) (H:Hp) (E:XK),PySem.W.codeIn (gx K).K cd nm=true→(∃ fd2 o,fd2.code=cd∧(gx K).K.lookup (FA K a)=some o∧o.data=.func fd2) →
  RoomP d (A.deeper (envOfC nm (defScope (top t)) s.heap.objs.size (FA K a) cd))→JSs (defPl (gx K) (clA K) P W mg base N nm (defScope (top t)) (FA K a) cd A outer s H E) c false (defBody (top t)) ir
theorem ck (P:Program)(W:World)(K:PySem.W.Frag)(mg:Str→Option Value)(base:Heap)(N:List Str){qual:Str}{scope:Scope}{f:Addr}{cd:Value}{A:Around}(outer:List Env){s:Shared}(H:Hp)(E:XK){d:Nat}(hr:RoomP d (A.deeper (envOfC qual scope s.heap.objs.size f cd)))(nd:N.Nodup):Cok d (defPl (gx K) (clA K) P W mg base N qual scope f cd A outer s H E):=cok_def hr nd
section
variable {P:Program}{W:World}{K:PySem.W.Frag}{mg:Str→Option Value}{base:Heap}{d:Nat}{c:CB}(h:Hd K mg base)(G:∀ i,FnS P W (gx K) (clA K) mg base d (FA K i) (c.cf i))(LM:∀ k,LmS P W (gx K) (clA K) mg base d k (c.cl k))(FF:FnF P W (gx K) (clA K) mg base d (FA K 16) (c.cf 16))
include h G LM FF
theorem b_is_whole:BT P W K mg base d c "is_whole" 19 0 N_is_whole ir_is_whole:=by
 intro cd A outer s H E hcd hex hr
 have C:=ck P W K mg base N_is_whole outer H E hr (by decide)
 exact (Qq1 (zRet (rAnd (rIsi C .int (by rfl) (h.free 0 (by decide)) (by rfl) (h.free 2 (by decide)) b0 rfl) (rAnd (rNot (rIsi C .bool (by rfl) (h.free 0 (by decide)) (by rfl) (h.free 1 (by decide)) b0 rfl)) (rOne (rChain C .le .le v0 v0 v0 rfl)))))
 Qzq)
theorem b_is_right_picture:BT P W K mg base d c "is_right_picture" 20 1 N_is_right_picture ir_is_right_picture:=by
 intro cd A outer s H E hcd hex hr
 have C:=ck P W K mg base N_is_right_picture outer H E hr (by decide)
 exact (Qq1 (zIf (tW (wOr (tNot' (tVal C (rIsi C .tuple (by rfl) (h.free 0 (by decide)) (by rfl) (h.free 6 (by decide)) b0 rfl) (fun _=>rfl))) (wOr1 (tNot' (tChain C .le .le Qqg (rBi C .len (by rfl) (h.free 5 (by decide)) (by rfl) (Qz6 b0 Qzg rfl) rfl rfl) Qqg rfl))))) (Qq1 (zRet rBl)
 Qzq) Qzq)
 (Qq1 (zIf (tW (wOr (tNot' (tVal C (rBi C .all (by rfl) (h.free 4 (by decide)) (by rfl) (Qz6 (bo (rF' (fComp C (iSeq' C b0) (ow:=[("mark", 1)]) rfl (by kernel_rfl) (fun _ _ _ _ _ Cb=>(gNm Cb.nd rfl (.inl rfl) (.inr rfl))) (fun _ _ _ _ _ Cb=>oNoT) (fun _ _ _ _ _ Cb=>(kc Cb (G 0) (h.fn 0 (by decide)) (Qz9 v0 (Qz9 Qqg (Qz9 Qqg Qx3 rfl) rfl) rfl))) (fun _=>rfl) (by decide)))) Qzg rfl) rfl rfl) (fun _=>rfl))) (wOr1 (tCm C .ne (bo (rIx C b0 Qqg (fun _ _=>rfl))) (bo Qqg) rfl)))) (Qq1 (zRet rBl)
 Qzq) Qzq)
 (Qq1 (zRet (rBi C .all (by rfl) (h.free 4 (by decide)) (by rfl) (Qz6 (bo (rF' (fComp C (iZip' C (by rfl) (h.free 3 (by decide)) b0 (bo (rSl C b0 (oYes Qqg) oNo)) rfl rfl) (ow:=[("one", 2),("other", 3)]) rfl (by kernel_rfl) (fun _ _ _ _ _ Cb=>(gTp Cb (Qx2 (gNm Cb.nd rfl (.inl rfl) (.inr rfl)) (Qx2 (gNm Cb.nd rfl (.inl rfl) (.inr rfl)) gsNil rfl) rfl) rfl rfl)) (fun _ _ _ _ _ Cb=>oNoT) (fun _ _ _ _ _ Cb=>(rCm Cb .lt b0 b0 rfl)) (fun _=>rfl) (by decide)))) Qzg rfl) rfl rfl))
 Qzq)))
theorem b_is_right_sum:BT P W K mg base d c "is_right_sum" 21 2 N_is_right_sum ir_is_right_sum:=by
 intro cd A outer s H E hcd hex hr
 have C:=ck P W K mg base N_is_right_sum outer H E hr (by decide)
 exact (Qq1 (zIf (tW (wOr (tNot' (tVal C (rIsi C .tuple (by rfl) (h.free 0 (by decide)) (by rfl) (h.free 6 (by decide)) b0 rfl) (fun _=>rfl))) (wOr1 (tNot' (tChain C .le .le Qqg (rBi C .len (by rfl) (h.free 5 (by decide)) (by rfl) (Qz6 b0 Qzg rfl) rfl rfl) Qqg rfl))))) (Qq1 (zRet rBl)
 Qzq) Qzq)
 (Qq1 (zFor C owns_def (ikSeq C v0 (fun _ _ _=>rfl)) (gNm C.nd rfl (.inl rfl) (.inl rfl)) (Qq1 (zIf (tW (wOr (tNot' (tVal C (rIsi C .tuple (by rfl) (h.free 0 (by decide)) (by rfl) (h.free 6 (by decide)) b0 rfl) (fun _=>rfl))) (wOr (tCm C .ne (bo (rBi C .len (by rfl) (h.free 5 (by decide)) (by rfl) (Qz6 b0 Qzg rfl) rfl rfl)) (bo Qqg) rfl) (wOr1 (tNot' (tVal C (kc C (G 0) (h.fn 0 (by decide)) (Qz9 (rIx C b0 Qqg (fun _ _=>rfl)) (Qz9 Qqg (Qz9 Qqg Qx3 rfl) rfl) rfl)) (fun _=>rfl))))))) (Qq1 (zRet rBl)
 Qzq) Qzq)
 (Qq1 (zIf (tW (wOr (tNot' (tVal C (kc C (G 0) (h.fn 0 (by decide)) (Qz9 (rIx C b0 Qqg (fun _ _=>rfl)) (Qz9 Qqg (Qz9 (rOp C .sub (bo (rBi C .len (by rfl) (h.free 5 (by decide)) (by rfl) (Qz6 b0 Qzg rfl) rfl rfl)) (bo Qqg)) Qx3 rfl) rfl) rfl)) (fun _=>rfl))) (wOr1 (tNot' (tVal C (kc C (G 0) (h.fn 0 (by decide)) (Qz9 (rIx C b0 Qqg (fun _ _=>rfl)) (Qz9 (rOp C .add (bo (rIx C b0 Qqg (fun _ _=>rfl))) (bo Qqg)) (Qz9 (rOp C .sub (bo (rBi C .len (by rfl) (h.free 5 (by decide)) (by rfl) (Qz6 b0 Qzg rfl) rfl rfl)) (bo Qqg)) Qx3 rfl) rfl) rfl)) (fun _=>rfl)))))) (Qq1 (zRet rBl)
 Qzq) Qzq)
 Qzq)) (fun _=>rfl))
 (Qq1 (zRet rBl)
 Qzq)))
theorem b_is_right_claim:BT P W K mg base d c "is_right_claim" 22 3 N_is_right_claim ir_is_right_claim:=by
 intro cd A outer s H E hcd hex hr
 have C:=ck P W K mg base N_is_right_claim outer H E hr (by decide)
 exact (Qq1 (zIf (tW (wOr (tNot' (tVal C (rIsi C .tuple (by rfl) (h.free 0 (by decide)) (by rfl) (h.free 6 (by decide)) b0 rfl) (fun _=>rfl))) (wOr (tCm C .ne (bo (rBi C .len (by rfl) (h.free 5 (by decide)) (by rfl) (Qz6 b0 Qzg rfl) rfl rfl)) (bo Qqg) rfl) (wOr (tNot' (tVal C (rIsi C .str (by rfl) (h.free 0 (by decide)) (by rfl) (h.free 7 (by decide)) (bo (rIx C b0 Qqg (fun _ _=>rfl))) rfl) (fun _=>rfl))) (wOr1 (tCm C .notin (bo (rIx C b0 Qqg (fun _ _=>rfl))) (bo (rGTup (j:=0) (by rfl) h.tup_WORDS.1 h.tup_WORDS.2 (fun _ _=>(.cons (.str _) (.cons (.str _) (.cons (.str _) .nil)))) rfl)) rfl)))))) (Qq1 (zRet rBl)
 Qzq) Qzq)
 (Qq1 (zRet (rAnd (kc C (G 2) (h.fn 2 (by decide)) (Qz9 v0 (Qz9 (rIx C b0 Qqg (fun _ _=>rfl)) Qx3 rfl) rfl)) (rOne (kc C (G 2) (h.fn 2 (by decide)) (Qz9 v0 (Qz9 (rIx C b0 Qqg (fun _ _=>rfl)) Qx3 rfl) rfl)))))
 Qzq))
theorem b_are_right_facts:BT P W K mg base d c "are_right_facts" 23 4 N_are_right_facts ir_are_right_facts:=by
 intro cd A outer s H E hcd hex hr
 have C:=ck P W K mg base N_are_right_facts outer H E hr (by decide)
 exact (Qq1 (zIf (tW (wOr (tNot' (tVal C (rIsi C .tuple (by rfl) (h.free 0 (by decide)) (by rfl) (h.free 6 (by decide)) b0 rfl) (fun _=>rfl))) (wOr1 (tCm C .gt (bo (rBi C .len (by rfl) (h.free 5 (by decide)) (by rfl) (Qz6 b0 Qzg rfl) rfl rfl)) (bo (rGInt (j:=0) (by rfl) (h.int_MOST_FACTS) rfl)) rfl)))) (Qq1 (zRet rBl)
 Qzq) Qzq)
 (Qq1 (zRet (rBi C .all (by rfl) (h.free 4 (by decide)) (by rfl) (Qz6 (bo (rF' (fComp C (iSeq' C b0) (ow:=[("claim", 2)]) rfl (by kernel_rfl) (fun _ _ _ _ _ Cb=>(gNm Cb.nd rfl (.inl rfl) (.inr rfl))) (fun _ _ _ _ _ Cb=>oNoT) (fun _ _ _ _ _ Cb=>(kc Cb (G 3) (h.fn 3 (by decide)) (Qz9 (rVar ⟨rfl,(.inr (.inl rfl)),rfl⟩) (Qz9 v0 Qx3 rfl) rfl))) (fun _=>rfl) (by decide)))) Qzg rfl) rfl rfl))
 Qzq))
theorem b_need_picture:BT P W K mg base d c "need_picture" 24 5 N_need_picture ir_need_picture:=by
 intro cd A outer s H E hcd hex hr
 have C:=ck P W K mg base N_need_picture outer H E hr (by decide)
 exact (Qq1 (zIf (tNot' (tVal C (kc C (G 1) (h.fn 1 (by decide)) (Qz9 v0 Qx3 rfl)) (fun _=>rfl))) (Qq1 (zRaise C (h.exc 0 (by decide)) (by rfl) (by rfl))
 Qzq) Qzq)
 Qzq)
theorem b_need_facts:BT P W K mg base d c "need_facts" 25 6 N_need_facts ir_need_facts:=by
 intro cd A outer s H E hcd hex hr
 have C:=ck P W K mg base N_need_facts outer H E hr (by decide)
 exact (Qq1 (zIf (tNot' (tVal C (kc C (G 4) (h.fn 4 (by decide)) (Qz9 v0 (Qz9 v0 Qx3 rfl) rfl)) (fun _=>rfl))) (Qq1 (zRaise C (h.exc 1 (by decide)) (by rfl) (by rfl))
 Qzq) Qzq)
 Qzq)
theorem b_picture_line:BT P W K mg base d c "picture_line" 28 7 N_picture_line ir_picture_line:=by
 intro cd A outer s H E hcd hex hr
 have C:=ck P W K mg base N_picture_line outer H E hr (by decide)
 exact (Qq1 (zRet (rJoin C.hK Qzr (rOp C .add (bo (rLst (Qq0 Qzr Qzv rfl))) (bo (rF' (fComp C (iSeq' C b0) (ow:=[("mark", 1)]) rfl (by kernel_rfl) (fun _ _ _ _ _ Cb=>(gNm Cb.nd rfl (.inl rfl) (.inr rfl))) (fun _ _ _ _ _ Cb=>oNoT) (fun _ _ _ _ _ Cb=>(rBi Cb .str (by rfl) (h.free 7 (by decide)) (by rfl) (Qz6 b0 Qzg rfl) rfl rfl)) (fun _=>rfl) (by decide))))) rfl rfl rfl))
 Qzq)
theorem b_sum_words:BT P W K mg base d c "sum_words" 29 8 N_sum_words ir_sum_words:=by
 intro cd A outer s H E hcd hex hr
 have C:=ck P W K mg base N_sum_words outer H E hr (by decide)
 exact (Qq1 (zRet (rF' (fComp C (iSeq' C b0) (ow:=[("often", 1),("first", 2),("last", 3)]) rfl (by kernel_rfl) (fun _ _ _ _ _ Cb=>(gTp Cb (Qx2 (gNm Cb.nd rfl (.inl rfl) (.inr rfl)) (Qx2 (gNm Cb.nd rfl (.inl rfl) (.inr rfl)) (Qx2 (gNm Cb.nd rfl (.inl rfl) (.inr rfl)) gsNil rfl) rfl) rfl) rfl rfl)) (fun _ _ _ _ _ Cb=>oNoT) (fun _ _ _ _ _ Cb=>(rFstr (.cons (rFmt v0) (.cons Qzr (.cons (rFmt v0) (.cons Qzr (.cons (rFmt v0) .nil))))))) (fun _=>rfl) (by decide))))
 Qzq)
theorem b_claim_line:BT P W K mg base d c "claim_line" 30 9 N_claim_line ir_claim_line:=by
 intro cd A outer s H E hcd hex hr
 have C:=ck P W K mg base N_claim_line outer H E hr (by decide)
 exact (Qq1 (zRet (rJoin C.hK Qzr (rOp C .add (bo (rOp C .add (bo (rOp C .add (bo (rLst (Qq0 (rIx C b0 Qqg (fun _ _=>rfl)) Qzv rfl))) (bo (kc C (G 8) (h.fn 8 (by decide)) (Qz9 (rIx C b0 Qqg (fun _ _=>rfl)) Qx3 rfl))))) (bo (rLst (Qq0 Qzr Qzv rfl))))) (bo (kc C (G 8) (h.fn 8 (by decide)) (Qz9 (rIx C b0 Qqg (fun _ _=>rfl)) Qx3 rfl)))) rfl rfl rfl))
 Qzq)
theorem b_whole_in:BT P W K mg base d c "whole_in" 31 10 N_whole_in ir_whole_in:=by
 intro cd A outer s H E hcd hex hr
 have C:=ck P W K mg base N_whole_in outer H E hr (by decide)
 exact (Qq1 (zLcSet (lcRead C rfl rfl rfl (iR1 (by rfl) (h.free 8 (by decide)) (Qq0 Qqg Qzv rfl) rfl) (ow:=[("number", 2)]) rfl (by kernel_rfl) (fun _ _ _ _ _ Cb=>(gNm Cb.nd rfl (.inl rfl) (.inr rfl))) (fun _ _ _ _ _ Cb=>oYesT (tCm Cb .eq (bo (rBi Cb .str (by rfl) (h.free 7 (by decide)) (by rfl) (Qz6 b0 Qzg rfl) rfl rfl)) (bo (rVar ⟨rfl,(.inr (.inl rfl)),rfl⟩)) rfl)) (fun _ _ _ _ _ Cb=>v0) (fun _=>rfl) (by decide)))
 (Qq1 (zRet (rIte (tCm C .ne b0 (bo (rLst Qzv)) rfl) (rIx C b0 Qqg (fun _ _=>rfl)) rNon))
 Qzq))
theorem b_read_sum:BT P W K mg base d c "read_sum" 32 11 N_read_sum ir_read_sum:=by
 intro cd A outer s H E hcd hex hr
 have C:=ck P W K mg base N_read_sum outer H E hr (by decide)
 exact (Qq1 (zOwn C rfl rfl (.inl rfl) (fLst Qzv) rfl (.inl rfl))
 (Qq1 (zFor C owns_def (ikSeq C v0 (fun _ _ _=>rfl)) (gNm C.nd rfl (.inl rfl) (.inl rfl)) (Qq1 (zAsg (rPart v0 Qzr rfl rfl rfl) (gTp C (Qx2 (gNm C.nd rfl (.inl rfl) (.inl rfl)) (Qx2 (gNm C.nd rfl (.inl rfl) (.inl rfl)) (Qx2 (gNm C.nd rfl (.inl rfl) (.inl rfl)) gsNil rfl) rfl) rfl) rfl rfl) rfl rfl rfl)
 (Qq1 (zAsg (rPart v0 Qzr rfl rfl rfl) (gTp C (Qx2 (gNm C.nd rfl (.inl rfl) (.inl rfl)) (Qx2 (gNm C.nd rfl (.inl rfl) (.inl rfl)) (Qx2 (gNm C.nd rfl (.inl rfl) (.inl rfl)) gsNil rfl) rfl) rfl) rfl rfl) rfl rfl rfl)
 (Qq1 (zAppend rfl ⟨rfl,(.inl rfl),rfl⟩ (rTup (Qq0 (kc C (G 10) (h.fn 10 (by decide)) (Qz9 v0 Qx3 rfl)) (Qq0 (kc C (G 10) (h.fn 10 (by decide)) (Qz9 v0 Qx3 rfl)) (Qq0 (kc C (G 10) (h.fn 10 (by decide)) (Qz9 v0 Qx3 rfl)) Qzv rfl) rfl) rfl)) rfl rfl rfl rfl rfl)
 Qzq))) (fun _=>rfl))
 (zDg rfl 1 (Qq1 (zRet (rIte (tCm C .inD (bo rNon) (bo (rF' (fFlat C (r:=9) (q:=10) (iSeq' C b0) (ow:=[("row", 9),("part", 10)]) rfl (by kernel_rfl) (fun _ _ _ _ _ Cb=>(gNm Cb.nd rfl (.inl rfl) (.inr rfl))) (fun _ _ _ _ _ Cb=>(gNm Cb.nd rfl (.inl rfl) (.inr rfl))) (fun _ _ _ _ _ Cb=>ikSeq Cb v0 (fun _ _ _=>rfl)) (fun _ _ _ _ _ Cb=>v0) (fun _=>rfl) (by decide) (by decide)))) rfl) rNon (rBi C .tuple (by rfl) (h.free 6 (by decide)) (by rfl) (Qz6 b0 Qzg rfl) rfl rfl)))
 Qzq))))
theorem b_read_claim:BT P W K mg base d c "read_claim" 33 12 N_read_claim ir_read_claim:=by
 intro cd A outer s H E hcd hex hr
 have C:=ck P W K mg base N_read_claim outer H E hr (by decide)
 exact (Qq1 (zSet C rfl (.inl rfl) (rSplit v0 Qzr rfl rfl rfl) rfl (.inl rfl))
 (Qq1 (zIf (tW (wOr (tCm C .notin (bo (rIx C b0 Qqg (fun _ _=>rfl))) (bo (rGTup (j:=0) (by rfl) h.tup_WORDS.1 h.tup_WORDS.2 (fun _ _=>(.cons (.str _) (.cons (.str _) (.cons (.str _) .nil)))) rfl)) rfl) (wOr1 (tCm C .notin (bo Qzr) b0 rfl)))) (Qq1 (zRet rNon)
 Qzq) Qzq)
 (Qq1 (zSet C rfl (.inl rfl) (rLidx C b0 Qzr rfl rfl rfl rfl) rfl (.inl rfl))
 (Qq1 (zSet C rfl (.inl rfl) (rTup (Qq0 (rIx C b0 Qqg (fun _ _=>rfl)) (Qq0 (kc C (G 11) (h.fn 11 (by decide)) (Qz9 (rSl C b0 (oYes Qqg) (oYes v0)) Qx3 rfl)) (Qq0 (kc C (G 11) (h.fn 11 (by decide)) (Qz9 (rSl C b0 (oYes (rOp C .add b0 (bo Qqg))) oNo) Qx3 rfl)) Qzv rfl) rfl) rfl)) rfl (.inl rfl))
 (Qq1 (zRet (rIte (tW (wAnd (tVal C (kc C (G 3) (h.fn 3 (by decide)) (Qz9 (rGTup (j:=0) (by rfl) h.tup_WIDE.1 h.tup_WIDE.2 (fun _ _=>(.cons (.int _) (.cons (.int _) (.cons (.int _) (.cons (.int _) (.cons (.int _) .nil)))))) rfl) (Qz9 v0 Qx3 rfl) rfl)) (fun _=>rfl)) (wAnd1 (tCm C .eq (bo (kc C (G 9) (h.fn 9 (by decide)) (Qz9 v0 Qx3 rfl))) b0 rfl)))) v0 rNon))
 Qzq)))))
theorem b_read_picture:BT P W K mg base d c "read_picture" 34 13 N_read_picture ir_read_picture:=by
 intro cd A outer s H E hcd hex hr
 have C:=ck P W K mg base N_read_picture outer H E hr (by decide)
 exact (Qq1 (zSet C rfl (.inl rfl) (rBi C .tuple (by rfl) (h.free 6 (by decide)) (by rfl) (Qz6 (bo (rF' (fComp C (iSeq' C (bo (rSl C (bo (rSplit v0 Qzr rfl rfl rfl)) (oYes Qqg) oNo))) (ow:=[("word", 2)]) rfl (by kernel_rfl) (fun _ _ _ _ _ Cb=>(gNm Cb.nd rfl (.inl rfl) (.inr rfl))) (fun _ _ _ _ _ Cb=>oNoT) (fun _ _ _ _ _ Cb=>(kc Cb (G 10) (h.fn 10 (by decide)) (Qz9 v0 Qx3 rfl))) (fun _=>rfl) (by decide)))) Qzg rfl) rfl rfl) rfl (.inl rfl))
 (Qq1 (zRet (rIte (tW (wAnd (tVal C (kc C (G 1) (h.fn 1 (by decide)) (Qz9 v0 Qx3 rfl)) (fun _=>rfl)) (wAnd1 (tCm C .eq (bo (kc C (G 7) (h.fn 7 (by decide)) (Qz9 v0 Qx3 rfl))) b0 rfl)))) v0 rNon))
 Qzq))
theorem b_road_text:BT P W K mg base d c "road_text" 35 14 N_road_text ir_road_text:=by
 intro cd A outer s H E hcd hex hr
 have C:=ck P W K mg base N_road_text outer H E hr (by decide)
 exact (Qq1 (zExpr (kc C (G 5) (h.fn 5 (by decide)) (Qz9 v0 Qx3 rfl)) rfl)
 (Qq1 (zExpr (kc C (G 6) (h.fn 6 (by decide)) (Qz9 v0 (Qz9 v0 Qx3 rfl) rfl)) rfl)
 (Qq1 (zRet (rJoin C.hK Qzr (rOp C .add (bo (rLst (Qq0 (kc C (G 7) (h.fn 7 (by decide)) (Qz9 v0 Qx3 rfl)) Qzv rfl))) (bo (rF' (fComp C (iSeq' C b0) (ow:=[("claim", 2)]) rfl (by kernel_rfl) (fun _ _ _ _ _ Cb=>(gNm Cb.nd rfl (.inl rfl) (.inr rfl))) (fun _ _ _ _ _ Cb=>oNoT) (fun _ _ _ _ _ Cb=>(kc Cb (G 9) (h.fn 9 (by decide)) (Qz9 v0 Qx3 rfl))) (fun _=>rfl) (by decide))))) rfl rfl rfl))
 Qzq)))
theorem b_read_road:BT P W K mg base d c "read_road" 36 15 N_read_road ir_read_road:=by
 intro cd A outer s H E hcd hex hr
 have C:=ck P W K mg base N_read_road outer H E hr (by decide)
 exact (Qq1 (zIf (tNot' (tVal C (rIsi C .str (by rfl) (h.free 0 (by decide)) (by rfl) (h.free 7 (by decide)) b0 rfl) (fun _=>rfl))) (Qq1 (zRaised C (k:=0) (C:=He.ga K "InvalidText") (f := "line") rfl hcl_InvalidText h.eox_InvalidText.T h.eox_InvalidText.iC h.eox_InvalidText.tI (init_InvalidText h) (by rfl) h.eg_InvalidText Qqg (by rfl) rfl (by rfl))
 Qzq) Qzq)
 (Qq1 (zSet C rfl (.inl rfl) (rSplit v0 Qzr rfl rfl rfl) rfl (.inl rfl))
 (Qq1 (zSet C rfl (.inl rfl) (kc C (G 13) (h.fn 13 (by decide)) (Qz9 (rIx C b0 Qqg (fun _ _=>rfl)) Qx3 rfl)) rfl (.inl rfl))
 (Qq1 (zIf (tCm C .is_ b0 (bo rNon) rfl) (Qq1 (zRaised C (k:=0) (C:=He.ga K "InvalidText") (f := "line") rfl hcl_InvalidText h.eox_InvalidText.T h.eox_InvalidText.iC h.eox_InvalidText.tI (init_InvalidText h) (by rfl) h.eg_InvalidText Qqg (by rfl) rfl (by rfl))
 Qzq) Qzq)
 (Qq1 (zSet C rfl (.inl rfl) (rTup Qzv) rfl (.inl rfl))
 (Qq1 (zFor C owns_def (ikEnum C (by rfl) (h.free 9 (by decide)) (rSl C b0 (oYes Qqg) oNo) (fun _ _ _=>rfl) rfl) (gTp C (Qx2 (gNm C.nd rfl (.inl rfl) (.inl rfl)) (Qx2 (gNm C.nd rfl (.inl rfl) (.inl rfl)) gsNil rfl) rfl) rfl rfl) (Qq1 (zSet C rfl (.inl rfl) (kc C (G 12) (h.fn 12 (by decide)) (Qz9 v0 Qx3 rfl)) rfl (.inl rfl))
 (Qq1 (zIf (tCm C .is_ b0 (bo rNon) rfl) (Qq1 (zRaised C (k:=0) (C:=He.ga K "InvalidText") (f := "line") rfl hcl_InvalidText h.eox_InvalidText.T h.eox_InvalidText.iC h.eox_InvalidText.tI (init_InvalidText h) (by rfl) h.eg_InvalidText (rOp C .add b0 (bo Qqg)) (by rfl) rfl (by rfl))
 Qzq) Qzq)
 (Qq1 (zSet C rfl (.inl rfl) (rOp C .add b0 (bo (rTup (Qq0 v0 Qzv rfl)))) rfl (.inl rfl))
 Qzq))) (fun _=>rfl))
 (Qq1 (zIf (tNot' (tVal C (kc C (G 4) (h.fn 4 (by decide)) (Qz9 v0 (Qz9 v0 Qx3 rfl) rfl)) (fun _=>rfl))) (Qq1 (zRaised C (k:=0) (C:=He.ga K "InvalidText") (f := "line") rfl hcl_InvalidText h.eox_InvalidText.T h.eox_InvalidText.iC h.eox_InvalidText.tI (init_InvalidText h) (by rfl) h.eg_InvalidText (rOp C .add (bo (rBi C .len (by rfl) (h.free 5 (by decide)) (by rfl) (Qz6 b0 Qzg rfl) rfl rfl)) (bo Qqg)) (by rfl) rfl (by rfl))
 Qzq) Qzq)
 (Qq1 (zRet (rTup (Qq0 v0 (Qq0 v0 Qzv rfl) rfl)))
 Qzq))))))))
theorem b__law_spring (cd:Value)(A:Around)(outer:List Env)(s:Shared)(H:Hp)(E:XK)(hcd:PySem.W.codeIn (gx K).K cd "_law_spring" = true)(hex:∃ fd2 o,fd2.code=cd∧(gx K).K.lookup (FA K 16)=some o∧o.data=.func fd2)
  (hr:RoomP d (A.deeper (envOfC "_law_spring" (defScope (top 38)) s.heap.objs.size (FA K 16) cd))):JSs (defPl (gx K) (clA K) P W mg base N__law_spring "_law_spring" (defScope (top 38)) (FA K 16) cd A outer s H E) c true (defBody (top 38)) ir__law_spring:=by
 have C:=cok_def (g:=gx K) (clA:=clA K) (P:=P) (W:=W) (mg:=mg) (base:=base) (N:=N__law_spring) (E:=E) (outer:=outer) (H:=H) hr (by decide)
 exact (Qq1 (zSet C rfl (.inl rfl) (rIte (tCm C .lt b0 (bo (rBi C .len (by rfl) (h.free 5 (by decide)) (by rfl) (Qz6 b0 Qzg rfl) rfl rfl)) rfl) (rBi C .abs (by rfl) (h.free 10 (by decide)) (by rfl) (Qz6 (bo (rBi C .int (by rfl) (h.free 2 (by decide)) (by rfl) (Qz6 (bo (rIx C b0 v0 (fun _ _=>rfl))) Qzg rfl) rfl rfl)) Qzg rfl) rfl rfl) (rOp C .add (bo (rOp C .mul (bo Qqg) b0)) (bo Qqg))) rfl (.inl rfl))
 (Qq1 (zRetF (fLst (Qq0 (rIte (tCm C .gt b0 (bo (rOp C .pow (bo Qqg) (bo Qqg))) rfl) v0 Qqg) (Qq0 (rOp C .add (bo (rOp C .mod (bo (rBi C .int (by rfl) (h.free 2 (by decide)) (by rfl) (Qz6 (bo (rOp C .add (bo (rOp C .add (bo (rOp C .mul b0 (bo Qqg))) (bo (rOp C .mul (bo Qqg) b0)))) (bo Qqg))) Qzg rfl) rfl rfl)) (bo Qqg))) (bo Qqg)) Qzv rfl) rfl)))
 Qzq))
theorem b__law_pick:BT P W K mg base d c "_law_pick" 39 17 N__law_pick ir__law_pick:=by
 intro cd A outer s H E hcd hex hr
 have C:=ck P W K mg base N__law_pick outer H E hr (by decide)
 exact (Qq1 (zIf (tCm C .gt (bo (rIx C b0 Qqg (fun _ _=>rfl))) (bo Qqg) rfl) (Qq1 (zSet C rfl (.inl rfl) (rOp C .mod (bo (rBi C .int (by rfl) (h.free 2 (by decide)) (by rfl) (Qz6 (bo (rIx C b0 Qqg (fun _ _=>rfl))) Qzg rfl) rfl rfl)) b0) rfl (.inl rfl))
 (Qq1 (zCseti v0 Qqg (rOp C .fdiv (bo (rIx C b0 Qqg (fun _ _=>rfl))) b0) (fun _=>rfl) rfl rfl rfl)
 (Qq1 (zRet v0)
 Qzq))) Qzq)
 (Qq1 (zCseti v0 Qqg (rOp C .mod (bo (rBi C .int (by rfl) (h.free 2 (by decide)) (by rfl) (Qz6 (bo (rOp C .add (bo (rOp C .mul (bo (rIx C b0 Qqg (fun _ _=>rfl))) (bo Qqg))) (bo Qqg))) Qzg rfl) rfl rfl)) (bo Qqg)) (fun _=>rfl) rfl rfl rfl)
 (Qq1 (zSet C rfl (.inl rfl) (rOp C .mod (bo (rBi C .int (by rfl) (h.free 2 (by decide)) (by rfl) (Qz6 (bo (rOp C .mul (bo (rIx C b0 Qqg (fun _ _=>rfl))) (bo (rOp C .add (bo (rOp C .fdiv (bo (rIx C b0 Qqg (fun _ _=>rfl))) (bo Qqg))) (bo Qqg))))) Qzg rfl) rfl rfl)) (bo Qqg)) rfl (.inl rfl))
 (Qq1 (zRet (rOp C .mod (bo (rBi C .int (by rfl) (h.free 2 (by decide)) (by rfl) (Qz6 (bo (rOp C .fdiv b0 (bo Qqg))) Qzg rfl) rfl rfl)) b0))
 Qzq))))
theorem b__law_chosen:BT P W K mg base d c "_law_chosen" 40 18 N__law_chosen ir__law_chosen:=by
 intro cd A outer s H E hcd hex hr
 have C:=ck P W K mg base N__law_chosen outer H E hr (by decide)
 exact (Qq1 (zRet (rIx C b0 (kc C (G 17) (h.fn 17 (by decide)) (Qz9 v0 (Qz9 (rBi C .len (by rfl) (h.free 5 (by decide)) (by rfl) (Qz6 b0 Qzg rfl) rfl rfl) Qx3 rfl) rfl)) (fun _ _=>rfl)))
 Qzq)
theorem b__law_shot:BT P W K mg base d c "_law_shot" 41 19 N__law_shot ir__law_shot:=by
 intro cd A outer s H E hcd hex hr
 have C:=ck P W K mg base N__law_shot outer H E hr (by decide)
 exact (Qq1 (zSet C rfl (.inl rfl) (rTup (Qq0 Qqg Qzv rfl)) rfl (.inl rfl))
 (Qq1 (zFor C owns_def (ikR1 (by rfl) (h.free 8 (by decide)) (Qq0 (rOp C .add (bo Qqg) (bo (kc C (G 17) (h.fn 17 (by decide)) (Qz9 v0 (Qz9 (rOp C .sub b0 (bo Qqg)) Qx3 rfl) rfl)))) Qzv rfl) rfl) (gNm C.nd rfl (.inl rfl) (.inl rfl)) (Qq1 (zSet C rfl (.inl rfl) (rOp C .add b0 (bo (rTup (Qq0 (rOp C .add (bo (rOp C .add (bo (rIx C b0 (rNeg Qqg) (fun _ _=>rfl))) (bo Qqg))) (bo (kc C (G 17) (h.fn 17 (by decide)) (Qz9 v0 (Qz9 (kc C (G 18) (h.fn 18 (by decide)) (Qz9 v0 (Qz9 (rLst (Qq0 Qqg (Qq0 Qqg (Qq0 Qqg Qzv rfl) rfl) rfl)) Qx3 rfl) rfl)) Qx3 rfl) rfl)))) Qzv rfl)))) rfl (.inl rfl))
 Qzq) (fun _=>rfl))
 (Qq1 (zRet v0)
 Qzq)))
theorem b__law_lengths:BT P W K mg base d c "_law_lengths" 42 20 N__law_lengths ir__law_lengths:=by
 intro cd A outer s H E hcd hex hr
 have C:=ck P W K mg base N__law_lengths outer H E hr (by decide)
 exact (Qq1 (zSet C rfl (.inl rfl) (rTup Qzv) rfl (.inl rfl))
 (Qq1 (zFor C owns_def (ikR1 (by rfl) (h.free 8 (by decide)) (Qq0 (rOp C .add (bo Qqg) (bo (kc C (G 17) (h.fn 17 (by decide)) (Qz9 v0 (Qz9 v0 Qx3 rfl) rfl)))) Qzv rfl) rfl) (gNm C.nd rfl (.inl rfl) (.inl rfl)) (Qq1 (zSet C rfl (.inl rfl) (kc C (G 17) (h.fn 17 (by decide)) (Qz9 v0 (Qz9 (rOp C .sub (bo (rBi C .len (by rfl) (h.free 5 (by decide)) (by rfl) (Qz6 b0 Qzg rfl) rfl rfl)) (bo Qqg)) Qx3 rfl) rfl)) rfl (.inl rfl))
 (Qq1 (zSet C rfl (.inl rfl) (rOp C .add (bo (rOp C .add b0 (bo Qqg))) (bo (kc C (G 17) (h.fn 17 (by decide)) (Qz9 v0 (Qz9 (rOp C .sub (bo (rOp C .sub (bo (rBi C .len (by rfl) (h.free 5 (by decide)) (by rfl) (Qz6 b0 Qzg rfl) rfl rfl)) (bo Qqg))) b0) Qx3 rfl) rfl)))) rfl (.inl rfl))
 (Qq1 (zSet C rfl (.inl rfl) (rOp C .add b0 (bo (rTup (Qq0 (rTup (Qq0 (rOp C .add (bo Qqg) (bo (kc C (G 17) (h.fn 17 (by decide)) (Qz9 v0 (Qz9 (kc C (G 18) (h.fn 18 (by decide)) (Qz9 v0 (Qz9 (rLst (Qq0 Qqg (Qq0 Qqg (Qq0 Qqg Qzv rfl) rfl) rfl)) Qx3 rfl) rfl)) Qx3 rfl) rfl)))) (Qq0 v0 (Qq0 v0 Qzv rfl) rfl) rfl)) Qzv rfl)))) rfl (.inl rfl))
 Qzq))) (fun _=>rfl))
 (Qq1 (zRet v0)
 Qzq)))
theorem b__law_saying:BT P W K mg base d c "_law_saying" 43 21 N__law_saying ir__law_saying:=by
 intro cd A outer s H E hcd hex hr
 have C:=ck P W K mg base N__law_saying outer H E hr (by decide)
 exact (Qq1 (zSet C rfl (.inl rfl) (kc C (G 18) (h.fn 18 (by decide)) (Qz9 v0 (Qz9 (rLst (Qq0 Qzr (Qq0 Qzr (Qq0 Qzr (Qq0 Qzr Qzv rfl) rfl) rfl) rfl)) Qx3 rfl) rfl)) rfl (.inl rfl))
 (Qq1 (zRet (rTup (Qq0 v0 (Qq0 (kc C (G 20) (h.fn 20 (by decide)) (Qz9 v0 (Qz9 v0 (Qz9 Qqg Qx3 rfl) rfl) rfl)) (Qq0 (kc C (G 20) (h.fn 20 (by decide)) (Qz9 v0 (Qz9 v0 (Qz9 Qqg Qx3 rfl) rfl) rfl)) Qzv rfl) rfl) rfl)))
 Qzq))
theorem b__law_sayings:BT P W K mg base d c "_law_sayings" 44 22 N__law_sayings ir__law_sayings:=by
 intro cd A outer s H E hcd hex hr
 have C:=ck P W K mg base N__law_sayings outer H E hr (by decide)
 exact (Qq1 (zRet (rBi C .tuple (by rfl) (h.free 6 (by decide)) (by rfl) (Qz6 (bo (rF' (fComp C (iR1 (by rfl) (h.free 8 (by decide)) (Qq0 (kc C (G 17) (h.fn 17 (by decide)) (Qz9 (rVar ⟨rfl,(.inr (.inl rfl)),rfl⟩) (Qz9 (rOp C .add b0 (bo Qqg)) Qx3 rfl) rfl)) Qzv rfl) rfl) (ow:=[("_law_turn", 3)]) rfl (by kernel_rfl) (fun _ _ _ _ _ Cb=>(gNm Cb.nd rfl (.inl rfl) (.inr rfl))) (fun _ _ _ _ _ Cb=>oNoT) (fun _ _ _ _ _ Cb=>(kc Cb (G 21) (h.fn 21 (by decide)) (Qz9 (rVar ⟨rfl,(.inr (.inl rfl)),rfl⟩) (Qz9 (rVar ⟨rfl,(.inr (.inl rfl)),rfl⟩) Qx3 rfl) rfl))) (fun _=>rfl) (by decide)))) Qzg rfl) rfl rfl))
 Qzq)
theorem b__law_all_say:BT P W K mg base d c "_law_all_say" 47 25 N__law_all_say ir__law_all_say:=by
 intro cd A outer s H E hcd hex hr
 have C:=ck P W K mg base N__law_all_say outer H E hr (by decide)
 exact (Qq1 (zRet (rCm C .eq (bo (rF' (fFilt C (src:=0) ⟨rfl,(.inl rfl),rfl⟩ (ow:=[("_law_call", 2)]) rfl (by kernel_rfl) (fun _ _ _ _ _ Cb=>pg_name Cb.nd rfl (.inl rfl) (.inr rfl)) (fun _ _ _ _ _ Cb=>(tCm Cb .ne (bo (kc Cb (G 24) (h.fn 24 (by decide)) (aExt ⟨rfl,(.inl rfl),rfl⟩ Qx3 rfl))) (bo (rTup (Qq0 rNon (Qq0 (rOp Cb .add (bo (rVar ⟨rfl,(.inr (.inl rfl)),rfl⟩)) (bo Qzr)) Qzv rfl) rfl))) rfl)) (fun _=>rfl)))) (bo (rLst Qzv)) rfl))
 Qzq)
theorem b__law_twins:BT P W K mg base d c "_law_twins" 48 26 N__law_twins ir__law_twins:=by
 intro cd A outer s H E hcd hex hr
 have C:=ck P W K mg base N__law_twins outer H E hr (by decide)
 exact (Qq1 (zIf (tCm C .ne (bo (kc C (G 27) (h.fn 27 (by decide)) (Qz9 v0 Qx3 rfl))) (bo (kc C (G 27) (h.fn 27 (by decide)) (Qz9 v0 Qx3 rfl))) rfl) (Qq1 (zRet rBl)
 Qzq) Qzq)
 (Qq1 (zIf (tCm C .in_ (bo (kc C (G 27) (h.fn 27 (by decide)) (Qz9 v0 Qx3 rfl))) (bo (rLst (Qq0 Qqg (Qq0 Qqg Qzv rfl) rfl))) rfl) (Qq1 (zRet (rAnd (rCm C .eq (bo (rBi C .len (by rfl) (h.free 5 (by decide)) (by rfl) (Qz6 b0 Qzg rfl) rfl rfl)) (bo (rBi C .len (by rfl) (h.free 5 (by decide)) (by rfl) (Qz6 b0 Qzg rfl) rfl rfl)) rfl) (rOne (rCm C .eq (bo (rF' (fComp C (iZip' C (by rfl) (h.free 3 (by decide)) b0 b0 rfl rfl) (ow:=[("_law_a", 2),("_law_b", 3)]) rfl (by kernel_rfl) (fun _ _ _ _ _ Cb=>(gTp Cb (Qx2 (gNm Cb.nd rfl (.inl rfl) (.inr rfl)) (Qx2 (gNm Cb.nd rfl (.inl rfl) (.inr rfl)) gsNil rfl) rfl) rfl rfl)) (fun _ _ _ _ _ Cb=>oYesT (tNot' (tVal Cb (kc Cb (G 26) (h.fn 26 (by decide)) (Qz9 v0 (Qz9 v0 Qx3 rfl) rfl)) (fun _=>rfl)))) (fun _ _ _ _ _ Cb=>Qqg) (fun _=>rfl) (by decide)))) (bo (rLst Qzv)) rfl))))
 Qzq) Qzq)
 (Qq1 (zRet (rCm C .eq b0 b0 rfl))
 Qzq)))
theorem b__law_kind:BT P W K mg base d c "_law_kind" 49 27 N__law_kind ir__law_kind:=by
 intro cd A outer s H E hcd hex hr
 have C:=ck P W K mg base N__law_kind outer H E hr (by decide)
 exact (Qq1 (zIf (tVal C (rIsi C .bool (by rfl) (h.free 0 (by decide)) (by rfl) (h.free 1 (by decide)) b0 rfl) (fun _=>rfl)) (Qq1 (zRet Qqg)
 Qzq) Qzq)
 (Qq1 (zIf (tVal C (rIsi C .int (by rfl) (h.free 0 (by decide)) (by rfl) (h.free 2 (by decide)) b0 rfl) (fun _=>rfl)) (Qq1 (zRet Qqg)
 Qzq) Qzq)
 (Qq1 (zIf (tVal C (rIsi C .list (by rfl) (h.free 0 (by decide)) (by rfl) (h.free 11 (by decide)) b0 rfl) (fun _=>rfl)) (Qq1 (zRet Qqg)
 Qzq) Qzq)
 (Qq1 (zIf (tVal C (rIsi C .tuple (by rfl) (h.free 0 (by decide)) (by rfl) (h.free 6 (by decide)) b0 rfl) (fun _=>rfl)) (Qq1 (zRet Qqg)
 Qzq) Qzq)
 (Qq1 (zRet (rIte (tVal C (rIsi C .str (by rfl) (h.free 0 (by decide)) (by rfl) (h.free 7 (by decide)) b0 rfl) (fun _=>rfl)) Qqg Qqg))
 Qzq)))))
theorem b__law_words:BT P W K mg base d c "_law_words" 50 28 N__law_words ir__law_words:=by
 intro cd A outer s H E hcd hex hr
 have C:=ck P W K mg base N__law_words outer H E hr (by decide)
 exact (Qq1 (zOwn C rfl rfl (.inl rfl) (fLst Qzv) rfl (.inl rfl))
 (Qq1 (zFor C owns_def (ikSeq C v0 (fun _ _ _=>rfl)) (gTp C (Qx2 (gNm C.nd rfl (.inl rfl) (.inl rfl)) (Qx2 (gNm C.nd rfl (.inl rfl) (.inl rfl)) (Qx2 (gNm C.nd rfl (.inl rfl) (.inl rfl)) gsNil rfl) rfl) rfl) rfl rfl) (Qq1 (zAppend rfl ⟨rfl,(.inl rfl),rfl⟩ (rOp C .add (bo (rOp C .add (bo (rOp C .add (bo (rOp C .add (bo (rBi C .str (by rfl) (h.free 7 (by decide)) (by rfl) (Qz6 b0 Qzg rfl) rfl rfl)) (bo Qzr))) (bo (rBi C .str (by rfl) (h.free 7 (by decide)) (by rfl) (Qz6 b0 Qzg rfl) rfl rfl)))) (bo Qzr))) (bo (rBi C .str (by rfl) (h.free 7 (by decide)) (by rfl) (Qz6 b0 Qzg rfl) rfl rfl))) rfl rfl rfl rfl rfl)
 Qzq) (fun _=>rfl))
 (zDg rfl 1 (Qq1 (zRet v0)
 Qzq))))
theorem b__law_line:BT P W K mg base d c "_law_line" 51 29 N__law_line ir__law_line:=by
 intro cd A outer s H E hcd hex hr
 have C:=ck P W K mg base N__law_line outer H E hr (by decide)
 exact (Qq1 (zRet (rJoin C.hK Qzr (rOp C .add (bo (rOp C .add (bo (rOp C .add (bo (rLst (Qq0 (rIx C b0 Qqg (fun _ _=>rfl)) Qzv rfl))) (bo (kc C (G 28) (h.fn 28 (by decide)) (Qz9 (rIx C b0 Qqg (fun _ _=>rfl)) Qx3 rfl))))) (bo (rLst (Qq0 Qzr Qzv rfl))))) (bo (kc C (G 28) (h.fn 28 (by decide)) (Qz9 (rIx C b0 Qqg (fun _ _=>rfl)) Qx3 rfl)))) rfl rfl rfl))
 Qzq)
theorem b__law_text:BT P W K mg base d c "_law_text" 52 30 N__law_text ir__law_text:=by
 intro cd A outer s H E hcd hex hr
 have C:=ck P W K mg base N__law_text outer H E hr (by decide)
 exact (Qq1 (zSet C rfl (.inl rfl) (rJoin C.hK Qzr (rOp C .add (bo (rLst (Qq0 Qzr Qzv rfl))) (bo (rF' (fComp C (iSeq' C b0) (ow:=[("_law_mark", 3)]) rfl (by kernel_rfl) (fun _ _ _ _ _ Cb=>(gNm Cb.nd rfl (.inl rfl) (.inr rfl))) (fun _ _ _ _ _ Cb=>oNoT) (fun _ _ _ _ _ Cb=>(rBi Cb .str (by rfl) (h.free 7 (by decide)) (by rfl) (Qz6 b0 Qzg rfl) rfl rfl)) (fun _=>rfl) (by decide))))) rfl rfl rfl) rfl (.inl rfl))
 (Qq1 (zRet (rJoin C.hK Qzr (rOp C .add (bo (rLst (Qq0 v0 Qzv rfl))) (bo (rF' (fComp C (iSeq' C b0) (ow:=[("_law_claim", 4)]) rfl (by kernel_rfl) (fun _ _ _ _ _ Cb=>(gNm Cb.nd rfl (.inl rfl) (.inr rfl))) (fun _ _ _ _ _ Cb=>oNoT) (fun _ _ _ _ _ Cb=>(kc Cb (G 29) (h.fn 29 (by decide)) (Qz9 v0 Qx3 rfl))) (fun _=>rfl) (by decide))))) rfl rfl rfl))
 Qzq))
theorem b__law_number:BT P W K mg base d c "_law_number" 53 31 N__law_number ir__law_number:=by
 intro cd A outer s H E hcd hex hr
 have C:=ck P W K mg base N__law_number outer H E hr (by decide)
 exact (Qq1 (zLcSet (lcRead C rfl rfl rfl (iR1 (by rfl) (h.free 8 (by decide)) (Qq0 Qqg Qzv rfl) rfl) (ow:=[("_law_number_here", 2)]) rfl (by kernel_rfl) (fun _ _ _ _ _ Cb=>(gNm Cb.nd rfl (.inl rfl) (.inr rfl))) (fun _ _ _ _ _ Cb=>oYesT (tCm Cb .eq (bo (rBi Cb .str (by rfl) (h.free 7 (by decide)) (by rfl) (Qz6 b0 Qzg rfl) rfl rfl)) (bo (rVar ⟨rfl,(.inr (.inl rfl)),rfl⟩)) rfl)) (fun _ _ _ _ _ Cb=>v0) (fun _=>rfl) (by decide)))
 (Qq1 (zRet (rIte (tCm C .ne b0 (bo (rLst Qzv)) rfl) (rIx C b0 Qqg (fun _ _=>rfl)) (rNeg Qqg)))
 Qzq))
theorem b__law_marks:BT P W K mg base d c "_law_marks" 54 32 N__law_marks ir__law_marks:=by
 intro cd A outer s H E hcd hex hr
 have C:=ck P W K mg base N__law_marks outer H E hr (by decide)
 exact (Qq1 (zSet C rfl (.inl rfl) (rSplit v0 Qzr rfl rfl rfl) rfl (.inl rfl))
 (Qq1 (zLcSet (lcRead C rfl rfl rfl (iSeq' C (bo (rSl C b0 (oYes Qqg) oNo))) (ow:=[("_law_word", 3)]) rfl (by kernel_rfl) (fun _ _ _ _ _ Cb=>(gNm Cb.nd rfl (.inl rfl) (.inr rfl))) (fun _ _ _ _ _ Cb=>oNoT) (fun _ _ _ _ _ Cb=>(kc Cb (G 31) (h.fn 31 (by decide)) (Qz9 v0 Qx3 rfl))) (fun _=>rfl) (by decide)))
 (Qq1 (zIf (tW (wOr (tCm C .ne (bo (rIx C b0 Qqg (fun _ _=>rfl))) (bo Qzr) rfl) (wOr (tNot' (tChain C .le .le Qqg (rBi C .len (by rfl) (h.free 5 (by decide)) (by rfl) (Qz6 b0 Qzg rfl) rfl rfl) Qqg rfl)) (wOr1 (tCm C .ne (bo (rIx C b0 Qqg (fun _ _=>rfl))) (bo Qqg) rfl))))) (Qq1 (zRet rNon)
 Qzq) Qzq)
 (Qq1 (zRet (rIte (tW (wAnd (tCm C .notin (bo (rNeg Qqg)) b0 rfl) (wAnd1 (tCm C .eq (bo (rSset C (by rfl) (h.free 12 (by decide)) (by rfl) (h.free 13 (by decide)) b0 rfl rfl rfl rfl)) b0 rfl)))) (rBi C .tuple (by rfl) (h.free 6 (by decide)) (by rfl) (Qz6 b0 Qzg rfl) rfl rfl) rNon))
 Qzq))))
theorem b__law_part:BT P W K mg base d c "_law_part" 55 33 N__law_part ir__law_part:=by
 intro cd A outer s H E hcd hex hr
 have C:=ck P W K mg base N__law_part outer H E hr (by decide)
 exact (Qq1 (zIf (tW (wOr (tCm C .ne (bo (rBi C .len (by rfl) (h.free 5 (by decide)) (by rfl) (Qz6 (bo (rVar ⟨rfl,(.inr (.inl rfl)),rfl⟩)) Qzg rfl) rfl rfl)) (bo Qqg) rfl) (wOr (tCm C .ne (bo (rIx C (bo (rVar ⟨rfl,(.inr (.inl rfl)),rfl⟩)) Qqg (fun _ _=>rfl))) (bo Qzr) rfl) (wOr1 (tCm C .ne (bo (rIx C (bo (rVar ⟨rfl,(.inr (.inl rfl)),rfl⟩)) Qqg (fun _ _=>rfl))) (bo Qzr) rfl))))) (Qq1 (zRet rNon)
 Qzq) Qzq)
 (Qq1 (zAsg (rF' (fComp C (iSeq' C (bo (rLst (Qq0 Qqg (Qq0 Qqg (Qq0 Qqg Qzv rfl) rfl) rfl)))) (ow:=[("_law_at", 4)]) rfl (by kernel_rfl) (fun _ _ _ _ _ Cb=>(gNm Cb.nd rfl (.inl rfl) (.inr rfl))) (fun _ _ _ _ _ Cb=>oNoT) (fun _ _ _ _ _ Cb=>(kc Cb (G 31) (h.fn 31 (by decide)) (Qz9 (rIx Cb (bo (rVar ⟨rfl,(.inr (.inl rfl)),rfl⟩)) v0 (fun _ _=>rfl)) Qx3 rfl))) (fun _=>rfl) (by decide))) (gTp C (Qx2 (gNm C.nd rfl (.inl rfl) (.inl rfl)) (Qx2 (gNm C.nd rfl (.inl rfl) (.inl rfl)) (Qx2 (gNm C.nd rfl (.inl rfl) (.inl rfl)) gsNil rfl) rfl) rfl) rfl rfl) rfl rfl rfl)
 (Qq1 (zRet (rIte (tW (wAnd (tCm C .gt b0 (bo Qqg) rfl) (wAnd1 (tChain3 C .le .lt .lt Qqg v0 v0 Qqg rfl)))) (rTup (Qq0 v0 (Qq0 v0 (Qq0 v0 Qzv rfl) rfl) rfl)) rNon))
 Qzq)))
theorem b__law_claimed:BT P W K mg base d c "_law_claimed" 56 34 N__law_claimed ir__law_claimed:=by
 intro cd A outer s H E hcd hex hr
 have C:=ck P W K mg base N__law_claimed outer H E hr (by decide)
 exact (Qq1 (zSet C rfl (.inl rfl) (rSplit v0 Qzr rfl rfl rfl) rfl (.inl rfl))
 (Qq1 (zIf (tW (wOr (tCm C .notin (bo (rIx C b0 Qqg (fun _ _=>rfl))) (bo (rLst (Qq0 Qzr (Qq0 Qzr (Qq0 Qzr Qzv rfl) rfl) rfl))) rfl) (wOr1 (tCm C .ne (bo (rLcnt C b0 Qzr rfl rfl rfl rfl)) (bo Qqg) rfl)))) (Qq1 (zRet rNon)
 Qzq) Qzq)
 (Qq1 (zSet C rfl (.inl rfl) (rLidx C b0 Qzr rfl rfl rfl rfl) rfl (.inl rfl))
 (Qq1 (zPar2 (i:=3) (j:=4) C rfl rfl (by decide) rfl rfl (Qq0 (rF' (fComp C (iSeq' C (bo (rSl C b0 (oYes Qqg) (oYes v0)))) (ow:=[("_law_word", 5)]) rfl (by kernel_rfl) (fun _ _ _ _ _ Cb=>(gNm Cb.nd rfl (.inl rfl) (.inr rfl))) (fun _ _ _ _ _ Cb=>oNoT) (fun _ _ _ _ _ Cb=>(kc Cb (G 33) (h.fn 33 (by decide)) (Qz9 v0 Qx3 rfl))) (fun _=>rfl) (by decide))) (Qq0 (rF' (fComp C (iSeq' C (bo (rSl C b0 (oYes (rOp C .add b0 (bo Qqg))) oNo))) (ow:=[("_law_word", 5)]) rfl (by kernel_rfl) (fun _ _ _ _ _ Cb=>(gNm Cb.nd rfl (.inl rfl) (.inr rfl))) (fun _ _ _ _ _ Cb=>oNoT) (fun _ _ _ _ _ Cb=>(kc Cb (G 33) (h.fn 33 (by decide)) (Qz9 v0 Qx3 rfl))) (fun _=>rfl) (by decide))) Qzv rfl) rfl) rfl rfl)
 (Qq1 (zIf (tW (wOr (tNot' (tChain C .le .le Qqg (rBi C .len (by rfl) (h.free 5 (by decide)) (by rfl) (Qz6 b0 Qzg rfl) rfl rfl) Qqg rfl)) (wOr (tNot' (tChain C .le .le Qqg (rBi C .len (by rfl) (h.free 5 (by decide)) (by rfl) (Qz6 b0 Qzg rfl) rfl rfl) Qqg rfl)) (wOr1 (tCm C .inD (bo rNon) (bo (rOp C .add b0 b0)) rfl))))) (Qq1 (zRet rNon)
 Qzq) Qzq)
 (Qq1 (zRet (rTup (Qq0 (rIx C b0 Qqg (fun _ _=>rfl)) (Qq0 (rBi C .tuple (by rfl) (h.free 6 (by decide)) (by rfl) (Qz6 b0 Qzg rfl) rfl rfl) (Qq0 (rBi C .tuple (by rfl) (h.free 6 (by decide)) (by rfl) (Qz6 b0 Qzg rfl) rfl rfl) Qzv rfl) rfl) rfl)))
 Qzq))))))
theorem b__law_due:BT P W K mg base d c "_law_due" 57 35 N__law_due ir__law_due:=by
 intro cd A outer s H E hcd hex hr
 have C:=ck P W K mg base N__law_due outer H E hr (by decide)
 exact (Qq1 (zIf (tNot' (tVal C (rIsi C .str (by rfl) (h.free 0 (by decide)) (by rfl) (h.free 7 (by decide)) b0 rfl) (fun _=>rfl))) (Qq1 (zRet Qqg)
 Qzq) Qzq)
 (Qq1 (zPar2 (i:=1) (j:=2) C rfl rfl (by decide) rfl rfl (Qq0 (rSplit v0 Qzr rfl rfl rfl) (Qq0 (rTup Qzv) Qzv rfl) rfl) rfl rfl)
 (Qq1 (zSet C rfl (.inr rfl) (kc C (G 32) (h.fn 32 (by decide)) (Qz9 (rIx C b0 Qqg (fun _ _=>rfl)) Qx3 rfl)) rfl (.inl rfl))
 (Qq1 (zIf (tCm C .is_ (bo (rVar ⟨rfl,(.inr (.inl rfl)),rfl⟩)) (bo rNon) rfl) (Qq1 (zRet Qqg)
 Qzq) Qzq)
 (Qq1 (zFor C owns_def (ikEnum C (by rfl) (h.free 9 (by decide)) (rSl C b0 (oYes Qqg) oNo) (fun _ _ _=>rfl) rfl) (gTp C (Qx2 (gNm C.nd rfl (.inl rfl) (.inl rfl)) (Qx2 (gNm C.nd rfl (.inl rfl) (.inl rfl)) gsNil rfl) rfl) rfl rfl) (Qq1 (zSet C rfl (.inl rfl) (kc C (G 34) (h.fn 34 (by decide)) (Qz9 v0 Qx3 rfl)) rfl (.inl rfl))
 (Qq1 (zIf (tCm C .is_ b0 (bo rNon) rfl) (Qq1 (zRet (rOp C .add b0 (bo Qqg)))
 Qzq) Qzq)
 (Qq1 (zSet C rfl (.inl rfl) (rOp C .add b0 (bo (rTup (Qq0 v0 Qzv rfl)))) rfl (.inl rfl))
 Qzq))) (fun _=>rfl))
 (Qq1 (zSet C rfl (.inl rfl) (rLst Qzv) rfl (.inl rfl))
 (Qq1 (zFor C owns_def (ikSeq C v0 (fun _ _ _=>rfl)) (gNm C.nd rfl (.inl rfl) (.inl rfl)) (Qq1 (zSet C rfl (.inl rfl) (rOp C .add b0 (bo (rF' (fComp C (iSeq' C (bo (rOp C .add (bo (rIx C b0 Qqg (fun _ _=>rfl))) (bo (rIx C b0 Qqg (fun _ _=>rfl)))))) (ow:=[("_law_part_here", 8)]) rfl (by kernel_rfl) (fun _ _ _ _ _ Cb=>(gNm Cb.nd rfl (.inl rfl) (.inr rfl))) (fun _ _ _ _ _ Cb=>oYesT (tCm Cb .ge (bo (rIx Cb b0 Qqg (fun _ _=>rfl))) (bo (rBi Cb .len (by rfl) (h.free 5 (by decide)) (by rfl) (Qz6 (bo (rVar ⟨rfl,(.inr (.inl rfl)),rfl⟩)) Qzg rfl) rfl rfl)) rfl)) (fun _ _ _ _ _ Cb=>Qqg) (fun _=>rfl) (by decide))))) rfl (.inl rfl))
 Qzq) (fun _=>rfl))
 (Qq1 (zRet (rIte (tW (wAnd (tCm C .lt (bo (rBi C .len (by rfl) (h.free 5 (by decide)) (by rfl) (Qz6 b0 Qzg rfl) rfl rfl)) (bo Qqg) rfl) (wAnd1 (tCm C .eq b0 (bo (rLst Qzv)) rfl)))) (rTup (Qq0 (rVar ⟨rfl,(.inr (.inl rfl)),rfl⟩) (Qq0 v0 Qzv rfl) rfl)) (rOp C .add (bo (rBi C .len (by rfl) (h.free 5 (by decide)) (by rfl) (Qz6 b0 Qzg rfl) rfl rfl)) (bo Qqg))))
 Qzq))))))))
theorem b__law_read:BT P W K mg base d c "_law_read" 58 36 N__law_read ir__law_read:=by
 intro cd A outer s H E hcd hex hr
 have C:=ck P W K mg base N__law_read outer H E hr (by decide)
 exact (Qq1 (zTryr C (k:=0) (j:=1) (C:=He.ga K "InvalidText") rfl hcl_InvalidText rfl rfl rfl rfl ⟨by rfl,by rfl,.inl h.eg_InvalidText⟩ h.exq_InvalidText (by rfl) (by rfl) h.eox_InvalidText.xf h.eox_InvalidText.no (fun W pn xe tk=>have C2:=C.tr tk true;(kc C2 (G 15) (h.fn 15 (by decide)) (Qz9 v0 Qx3 rfl))) rfl)
 Qzq)
theorem b__law_bent:BT P W K mg base d c "_law_bent" 59 37 N__law_bent ir__law_bent:=by
 intro cd A outer s H E hcd hex hr
 have C:=ck P W K mg base N__law_bent outer H E hr (by decide)
 exact (Qq1 (zPar3 (i:=2) (j:=3) (k:=4) C rfl rfl rfl (by decide) (by decide) (by decide) rfl rfl rfl (Qq0 (kc C (G 17) (h.fn 17 (by decide)) (Qz9 v0 (Qz9 (rOp C .add (bo (rBi C .len (by rfl) (h.free 5 (by decide)) (by rfl) (Qz6 b0 Qzg rfl) rfl rfl)) (bo Qqg)) Qx3 rfl) rfl)) (Qq0 (kc C (G 17) (h.fn 17 (by decide)) (Qz9 v0 (Qz9 Qqg Qx3 rfl) rfl)) (Qq0 (rSplit v0 Qzr rfl rfl rfl) Qzv rfl) rfl) rfl) rfl rfl)
 (Qq1 (zSet C rfl (.inl rfl) (kc C (G 17) (h.fn 17 (by decide)) (Qz9 v0 (Qz9 (rBi C .len (by rfl) (h.free 5 (by decide)) (by rfl) (Qz6 b0 Qzg rfl) rfl rfl) Qx3 rfl) rfl)) rfl (.inl rfl))
 (Qq1 (zIf (tCm C .eq b0 (bo Qqg) rfl) (Qq1 (zRet (rOp C .add (bo (rOp C .add (bo (rSl C b0 oNo (oYes v0))) (bo (kc C (G 18) (h.fn 18 (by decide)) (Qz9 v0 (Qz9 (rLst (Qq0 Qzr (Qq0 Qzr (Qq0 Qzr (Qq0 Qzr (Qq0 Qzr (Qq0 Qzr (Qq0 Qzr (Qq0 Qzr Qzv rfl) rfl) rfl) rfl) rfl) rfl) rfl) rfl)) Qx3 rfl) rfl))))) (bo (rSl C b0 (oYes v0) oNo))))
 Qzq) Qzq)
 (Qq1 (zIf (tCm C .eq b0 (bo Qqg) rfl) (Qq1 (zRet (rOp C .add (bo (rSl C b0 oNo (oYes v0))) (bo (rSl C b0 (oYes (rOp C .add b0 (bo Qqg))) oNo))))
 Qzq) Qzq)
 (Qq1 (zIf (tCm C .eq b0 (bo Qqg) rfl) (Qq1 (zRet (rJoin C.hK Qzr (rOp C .add (bo (rSl C b0 oNo (oYes v0))) (bo (rSl C b0 (oYes (rOp C .add b0 (bo Qqg))) oNo))) rfl rfl rfl))
 Qzq) Qzq)
 (Qq1 (zIf (tCm C .eq b0 (bo Qqg) rfl) (Qq1 (zRet (rJoin C.hK Qzr (rOp C .add (bo (rSl C b0 oNo (oYes (rOp C .add b0 (bo Qqg))))) (bo (rSl C b0 (oYes v0) oNo))) rfl rfl rfl))
 Qzq) Qzq)
 (Qq1 (zIf (tCm C .eq b0 (bo Qqg) rfl) (Qq1 (zRet (rJoin C.hK Qzr (rRev C b0) rfl rfl rfl))
 Qzq) Qzq)
 (Qq1 (zSet C rfl (.inl rfl) (rSplit (rIx C b0 v0 (fun _ _=>rfl)) Qzr rfl rfl rfl) rfl (.inl rfl))
 (Qq1 (zSet C rfl (.inl rfl) (kc C (G 17) (h.fn 17 (by decide)) (Qz9 v0 (Qz9 (rBi C .len (by rfl) (h.free 5 (by decide)) (by rfl) (Qz6 b0 Qzg rfl) rfl rfl) Qx3 rfl) rfl)) rfl (.inl rfl))
 (Qq1 (zSet C rfl (.inl rfl) (kc C (G 18) (h.fn 18 (by decide)) (Qz9 v0 (Qz9 (rLst (Qq0 Qzr (Qq0 Qzr (Qq0 Qzr (Qq0 Qzr (Qq0 Qzr (Qq0 Qzr (Qq0 Qzr (Qq0 Qzr (Qq0 Qzr (Qq0 Qzr (Qq0 Qzr (Qq0 Qzr (Qq0 Qzr Qzv rfl) rfl) rfl) rfl) rfl) rfl) rfl) rfl) rfl) rfl) rfl) rfl) rfl)) Qx3 rfl) rfl)) rfl (.inl rfl))
 (Qq1 (zSet C rfl (.inl rfl) (rSl C b0 (oYes (rOp C .add b0 (bo (rBi C .int (by rfl) (h.free 2 (by decide)) (by rfl) (Qz6 (bo (rCm C .gt b0 (bo Qqg) rfl)) Qzg rfl) rfl rfl)))) oNo) rfl (.inl rfl))
 (Qq1 (zSet C rfl (.inl rfl) (rJoin C.hK Qzr (rOp C .add (bo (rOp C .add (bo (rSl C b0 oNo (oYes v0))) (bo (rLst (Qq0 v0 Qzv rfl))))) b0) rfl rfl rfl) rfl (.inl rfl))
 (Qq1 (zRet (rJoin C.hK Qzr (rOp C .add (bo (rOp C .add (bo (rSl C b0 oNo (oYes v0))) (bo (rLst (Qq0 v0 Qzv rfl))))) (bo (rSl C b0 (oYes (rOp C .add b0 (bo Qqg))) oNo))) rfl rfl rfl))
 Qzq)))))))))))))
theorem b__law_written:BT P W K mg base d c "_law_written" 60 38 N__law_written ir__law_written:=by
 intro cd A outer s H E hcd hex hr
 have C:=ck P W K mg base N__law_written outer H E hr (by decide)
 exact (Qq1 (zAsg (rTup (Qq0 (rTup (Qq0 Qqg (Qq0 Qqg (Qq0 Qqg Qzv rfl) rfl) rfl)) (Qq0 (rTup (Qq0 (rTup (Qq0 Qqg (Qq0 Qqg (Qq0 Qqg Qzv rfl) rfl) rfl)) Qzv rfl)) (Qq0 (rTup (Qq0 (rTup (Qq0 Qqg (Qq0 Qqg (Qq0 Qqg Qzv rfl) rfl) rfl)) Qzv rfl)) Qzv rfl) rfl) rfl)) (gTp C (Qx2 (gNm C.nd rfl (.inl rfl) (.inl rfl)) (Qx2 (gNm C.nd rfl (.inl rfl) (.inl rfl)) (Qx2 (gNm C.nd rfl (.inl rfl) (.inl rfl)) gsNil rfl) rfl) rfl) rfl rfl) rfl rfl rfl)
 (Qq1 (zIf (tW (wOr (tCm C .ne (bo (kc C (G 14) (h.fn 14 (by decide)) (Qz9 v0 (Qz9 (rTup (Qq0 (rTup (Qq0 Qzr (Qq0 v0 (Qq0 v0 Qzv rfl) rfl) rfl)) Qzv rfl)) Qx3 rfl) rfl))) (bo Qzr) rfl) (wOr1 (tCm C .ne (bo (kc C (G 14) (h.fn 14 (by decide)) (Qz9 v0 (Qz9 (rTup Qzv) Qx3 rfl) rfl))) (bo Qzr) rfl)))) (Qq1 (zRet rBl)
 Qzq) Qzq)
 (Qq1 (zSet C rfl (.inl rfl) (rTup (Qq0 (rTup (Qq0 Qqg (Qq0 Qqg (Qq0 Qqg Qzv rfl) rfl) rfl)) (Qq0 (rTup (Qq0 (rTup (Qq0 Qzr (Qq0 (rTup (Qq0 (rTup (Qq0 Qqg (Qq0 Qqg (Qq0 Qqg Qzv rfl) rfl) rfl)) (Qq0 (rTup (Qq0 Qqg (Qq0 Qqg (Qq0 Qqg Qzv rfl) rfl) rfl)) Qzv rfl) rfl)) (Qq0 (rTup (Qq0 (rTup (Qq0 Qqg (Qq0 Qqg (Qq0 Qqg Qzv rfl) rfl) rfl)) Qzv rfl)) Qzv rfl) rfl) rfl)) Qzv rfl)) Qzv rfl) rfl)) rfl (.inl rfl))
 (Qq1 (zIf (tW (wOr (tCm C .ne (bo (kc C (G 15) (h.fn 15 (by decide)) (Qz9 Qzr Qx3 rfl))) b0 rfl) (wOr1 (tCm C .ne (bo (kc C (G 15) (h.fn 15 (by decide)) (Qz9 Qzr Qx3 rfl))) (bo (rTup (Qq0 (rTup (Qq0 Qqg (Qq0 Qqg (Qq0 Qqg Qzv rfl) rfl) rfl)) (Qq0 (rTup Qzv) Qzv rfl) rfl))) rfl)))) (Qq1 (zRet rBl)
 Qzq) Qzq)
 (Qq1 (zSet C rfl (.inl rfl) Qzr rfl (.inl rfl))
 (Qq1 (zSet C rfl (.inl rfl) (rLst (Qq0 (rTup (Qq0 Qzr (Qq0 Qqg Qzv rfl) rfl)) (Qq0 (rTup (Qq0 rNon (Qq0 Qqg Qzv rfl) rfl)) (Qq0 (rTup (Qq0 Qzr (Qq0 Qqg Qzv rfl) rfl)) (Qq0 (rTup (Qq0 Qzr (Qq0 Qqg Qzv rfl) rfl)) (Qq0 (rTup (Qq0 Qzr (Qq0 Qqg Qzv rfl) rfl)) (Qq0 (rTup (Qq0 Qzr (Qq0 Qqg Qzv rfl) rfl)) Qzv rfl) rfl) rfl) rfl) rfl) rfl)) rfl (.inl rfl))
 (Qq1 (zSet C rfl (.inl rfl) (rOp C .add b0 (bo (rLst (Qq0 (rTup (Qq0 (rOp C .add (bo Qzr) (bo (rOp C .mul b0 (bo Qqg)))) (Qq0 Qqg Qzv rfl) rfl)) (Qq0 (rTup (Qq0 Qzr (Qq0 Qqg Qzv rfl) rfl)) (Qq0 (rTup (Qq0 Qzr (Qq0 Qqg Qzv rfl) rfl)) Qzv rfl) rfl) rfl)))) rfl (.inl rfl))
 (Qq1 (zSet C rfl (.inl rfl) (rOp C .add b0 (bo (rLst (Qq0 (rTup (Qq0 (rOp C .add (bo (rOp C .add (bo Qzr) b0)) (bo Qzr)) (Qq0 Qqg Qzv rfl) rfl)) (Qq0 (rTup (Qq0 Qzr (Qq0 Qqg Qzv rfl) rfl)) Qzv rfl) rfl)))) rfl (.inl rfl))
 (Qq1 (zSet C rfl (.inl rfl) (rOp C .add b0 (bo (rLst (Qq0 (rTup (Qq0 Qzr (Qq0 Qqg Qzv rfl) rfl)) (Qq0 (rTup (Qq0 Qzr (Qq0 Qqg Qzv rfl) rfl)) (Qq0 (rTup (Qq0 Qzr (Qq0 Qqg Qzv rfl) rfl)) Qzv rfl) rfl) rfl)))) rfl (.inl rfl))
 (Qq1 (zSet C rfl (.inl rfl) (rOp C .add b0 (bo (rLst (Qq0 (rTup (Qq0 Qzr (Qq0 Qqg Qzv rfl) rfl)) (Qq0 (rTup (Qq0 Qzr (Qq0 Qqg Qzv rfl) rfl)) Qzv rfl) rfl)))) rfl (.inl rfl))
 (Qq1 (zSet C rfl (.inl rfl) (rOp C .add b0 (bo (rLst (Qq0 (rTup (Qq0 (rOp C .add (bo (rOp C .add (bo Qzr) b0)) (bo Qzr)) (Qq0 Qqg Qzv rfl) rfl)) (Qq0 (rTup (Qq0 Qzr (Qq0 Qqg Qzv rfl) rfl)) (Qq0 (rTup (Qq0 Qzr (Qq0 Qqg Qzv rfl) rfl)) Qzv rfl) rfl) rfl)))) rfl (.inl rfl))
 (Qq1 (zRet (rCm C .eq (bo (rF' (fComp C (iSeq' C b0) (ow:=[("_law_text_here", 6),("_law_due_here", 3)]) rfl (by kernel_rfl) (fun _ _ _ _ _ Cb=>(gTp Cb (Qx2 (gNm Cb.nd rfl (.inl rfl) (.inr rfl)) (Qx2 (gNm Cb.nd rfl (.inl rfl) (.inr rfl)) gsNil rfl) rfl) rfl rfl)) (fun _ _ _ _ _ Cb=>oYesT (tCm Cb .ne (bo (kc Cb (G 36) (h.fn 36 (by decide)) (Qz9 v0 Qx3 rfl))) b0 rfl)) (fun _ _ _ _ _ Cb=>v0) (fun _=>rfl) (by decide)))) (bo (rLst Qzv)) rfl))
 Qzq))))))))))))
theorem b_law:BT P W K mg base d c "law" 61 39 N_law ir_law:=by
 intro cd A outer s H E hcd hex hr
 have C:=ck P W K mg base N_law outer H E hr (by decide)
 have TF:=tabF_of (g:=gx K) (clA:=clA K) (P:=P) (W:=W) (mg:=mg) (base:=base) (N:=N_law) (scope:=defScope (top 61)) (A:=A) (outer:=outer) (s:=s) (H:=H) (E:=E) (x := "law") (nm:=fun _ _ => "law.<locals>.<lambda>") hcd hex rfl h.tab_law (List.mem_of_getElem? (i:=0) rfl) (fun _ _=>rfl) (by intro t ht _;cases List.mem_singleton.mp ht;rfl)
 exact (Qq1 (zFor C owns_def (ikR1 (by rfl) (h.free 8 (by decide)) (Qq0 (rBi C .max2 (by rfl) (h.free 15 (by decide)) (by rfl) (Qz6 (bo Qqg) (Qz6 (bo (rBi C .min2 (by rfl) (h.free 14 (by decide)) (by rfl) (Qz6 (bo Qqg) (Qz6 (bo (rBi C .len (by rfl) (h.free 5 (by decide)) (by rfl) (Qz6 b0 Qzg rfl) rfl rfl)) Qzg rfl) rfl) rfl rfl)) Qzg rfl) rfl) rfl rfl) Qzv rfl) rfl) (gNm C.nd rfl (.inl rfl) (.inl rfl)) (Qq1 (zCel C rfl (.inl rfl) (fCall C FF (by rfl) (h.fn 16 (by decide)) (Qz9 v0 (Qz9 v0 Qx3 rfl) rfl) (onlyV_ok rfl) (by rfl) (by rfl) (by rfl)) rfl (.inl rfl))
 (Qq1 (zSet C rfl (.inr rfl) (kc C (G 19) (h.fn 19 (by decide)) (Qz9 v0 (Qz9 Qqg Qx3 rfl) rfl)) rfl (.inl rfl))
 (Qq1 (zSet C rfl (.inr rfl) (kc C (G 22) (h.fn 22 (by decide)) (Qz9 v0 (Qz9 (rVar ⟨rfl,(.inr (.inl rfl)),rfl⟩) (Qz9 Qqg Qx3 rfl) rfl) rfl)) rfl (.inl rfl))
 (Qq1 (zSet C rfl (.inr rfl) (kc C (G 30) (h.fn 30 (by decide)) (Qz9 (rVar ⟨rfl,(.inr (.inl rfl)),rfl⟩) (Qz9 (rVar ⟨rfl,(.inr (.inl rfl)),rfl⟩) Qx3 rfl) rfl)) rfl (.inl rfl))
 (Qq1 (zIf (tW (wOr (tCm C .ne (bo (kc C (G 14) (h.fn 14 (by decide)) (Qz9 (rVar ⟨rfl,(.inr (.inl rfl)),rfl⟩) (Qz9 (rVar ⟨rfl,(.inr (.inl rfl)),rfl⟩) Qx3 rfl) rfl))) (bo (rVar ⟨rfl,(.inr (.inl rfl)),rfl⟩)) rfl) (wOr1 (tNot' (tVal C (kc C (G 26) (h.fn 26 (by decide)) (Qz9 (kc C (G 15) (h.fn 15 (by decide)) (Qz9 (rVar ⟨rfl,(.inr (.inl rfl)),rfl⟩) Qx3 rfl)) (Qz9 (rTup (Qq0 (rVar ⟨rfl,(.inr (.inl rfl)),rfl⟩) (Qq0 (rVar ⟨rfl,(.inr (.inl rfl)),rfl⟩) Qzv rfl) rfl)) Qx3 rfl) rfl)) (fun _=>rfl)))))) (Qq1 (zRet rBl)
 Qzq) Qzq)
 (Qq1 (zFor C owns_def (ikR1 (by rfl) (h.free 8 (by decide)) (Qq0 Qqg Qzv rfl) rfl) (gNm C.nd rfl (.inl rfl) (.inl rfl)) (Qq1 (zSet C rfl (.inl rfl) (kc C (G 37) (h.fn 37 (by decide)) (Qz9 v0 (Qz9 (rVar ⟨rfl,(.inr (.inl rfl)),rfl⟩) Qx3 rfl) rfl)) rfl (.inl rfl))
 (Qq1 (zSet C rfl (.inl rfl) (rIte (tCm C .eq (bo (rOp C .mod b0 (bo Qqg))) (bo Qqg) rfl) (kc C (G 37) (h.fn 37 (by decide)) (Qz9 v0 (Qz9 v0 Qx3 rfl) rfl)) v0) rfl (.inl rfl))
 (Qq1 (zIf (tNot' (tVal C (kc C (G 26) (h.fn 26 (by decide)) (Qz9 (kc C (G 36) (h.fn 36 (by decide)) (Qz9 v0 Qx3 rfl)) (Qz9 (kc C (G 35) (h.fn 35 (by decide)) (Qz9 v0 Qx3 rfl)) Qx3 rfl) rfl)) (fun _=>rfl))) (Qq1 (zRet rBl)
 Qzq) Qzq)
 Qzq))) (fun _=>rfl))
 (Qq1 (zFor C owns_def (ikSeq C (rLst (Qq0 rNon (Qq0 Qqg (Qq0 (rTup (Qq0 (rVar ⟨rfl,(.inr (.inl rfl)),rfl⟩) Qzv rfl)) (Qq0 (rLst (Qq0 (rVar ⟨rfl,(.inr (.inl rfl)),rfl⟩) Qzv rfl)) Qzv rfl) rfl) rfl) rfl)) (fun _ _ _=>rfl)) (gNm C.nd rfl (.inl rfl) (.inl rfl)) (Qq1 (zIf (tCm C .ne (bo (kc C (G 36) (h.fn 36 (by decide)) (Qz9 v0 Qx3 rfl))) (bo Qqg) rfl) (Qq1 (zRet rBl)
 Qzq) Qzq)
 Qzq) (fun _=>rfl))
 (Qq1 (zSetC C rfl (.inl rfl) (cLams (SL_cons (SL1_mk (lamHere (L:=lam2) TF rfl rfl rfl rfl (by kernel_rfl))) SL_nil rfl) (by decide)) rfl (.inl rfl))
 (Qq1 (zIf (tNot' (tVal C (kc C (G 25) (h.fn 25 (by decide)) (aClos (fun _=>rfl) (cAdd (cVar rfl ⟨rfl,(.inl rfl),rfl⟩) (cLams (SL_cons (SL1_mk (lamHere (L:=lam1) TF rfl rfl rfl rfl (by kernel_rfl))) SL_nil rfl) (by decide))) (Qz9 Qzr Qx3 rfl) rfl)) (fun _=>rfl))) (Qq1 (zRet rBl)
 Qzq) Qzq)
 (Qq1 (zIf (tNot' (tVal C (kc C (G 25) (h.fn 25 (by decide)) (aClos (fun _=>rfl) (cLams (SL_cons (SL1_mk (lamHere (L:=lam0) TF rfl rfl rfl rfl (by kernel_rfl))) SL_nil rfl) (by decide)) (Qz9 Qzr Qx3 rfl) rfl)) (fun _=>rfl))) (Qq1 (zRet rBl)
 Qzq) Qzq)
 Qzq)))))))))) (fun _=>rfl))
 (Qq1 (zRet (rCall0 C (G 38) (by rfl) (h.fn 38 (by decide)) (by rfl)))
 Qzq))
theorem bl_0 (cl:List (Str × Addr))(c' f:Addr)(A:Around)(outer:List Env)(s:Shared)(H:Hp)(E:XK)(hr:RoomP d (A.deeper (envF (lnf lam0 cl c') f s.heap.objs.size))):JE (lamPl (gx K) (clA K) P W mg base lam0 cl c' f A outer s H E) c lam0.body irl0:=by
 have C:=cok_lam (g:=gx K) (clA:=clA K) (P:=P) (W:=W) (mg:=mg) (base:=base) (E:=E) (outer:=outer) (H:=H) hr (by decide)
 exact (kc C (G 14) (h.fn 14 (by decide)) (Qz9 (rVar ⟨rfl,(.inr (.inr rfl)),rfl⟩) (Qz9 rNon Qx3 rfl) rfl))
theorem bl_1 (cl:List (Str × Addr))(c' f:Addr)(A:Around)(outer:List Env)(s:Shared)(H:Hp)(E:XK)(hr:RoomP d (A.deeper (envF (lnf lam1 cl c') f s.heap.objs.size))):JE (lamPl (gx K) (clA K) P W mg base lam1 cl c' f A outer s H E) c lam1.body irl1:=by
 have C:=cok_lam (g:=gx K) (clA:=clA K) (P:=P) (W:=W) (mg:=mg) (base:=base) (E:=E) (outer:=outer) (H:=H) hr (by decide)
 exact (kc C (G 14) (h.fn 14 (by decide)) (Qz9 (rVar ⟨rfl,(.inr (.inr rfl)),rfl⟩) (Qz9 (rOp C .add (bo (rVar ⟨rfl,(.inr (.inr rfl)),rfl⟩)) (bo (rTup (Qq0 rNon Qzv rfl)))) Qx3 rfl) rfl))
theorem bl_2 (cl:List (Str × Addr))(c' f:Addr)(A:Around)(outer:List Env)(s:Shared)(H:Hp)(E:XK)(hr:RoomP d (A.deeper (envF (lnf lam2 cl c') f s.heap.objs.size))):JE (lamPl (gx K) (clA K) P W mg base lam2 cl c' f A outer s H E) c lam2.body irl2:=by
 have C:=cok_lam (g:=gx K) (clA:=clA K) (P:=P) (W:=W) (mg:=mg) (base:=base) (E:=E) (outer:=outer) (H:=H) hr (by decide)
 exact (kc C (G 14) (h.fn 14 (by decide)) (Qz9 (rVar ⟨rfl,(.inr (.inr rfl)),rfl⟩) (Qz9 rNon Qx3 rfl) rfl))
end
end K10
end
section
namespace K10
open PySem PySem.Spec PyProof.Rows L2 LamX NdefX PL
section
variable {P:Program}{W:World}{K:PySem.W.Frag}{mg:Str→Option Value}{base:Heap}(h:Hd K mg base)
include h
theorem kin_g (d k:Nat)(hk:k<2):KinS P W (gx K) mg base d (FA K 23) (He.ga K (kcN k)) (kcS k):=by
 obtain ⟨fd,D⟩:=h.d__law_kin
 have nd:N__law_kin.Nodup:=by decide
 exact kin_of (g:=gx K) (clA:=clA K) (N:=N__law_kin) D ⟨rfl,rfl,rfl,by decide +kernel,rfl,by decide +kernel,by decide +kernel⟩ (fun _ _ _ _ _ _ us hl=>match us,hl with|[_],_=>rfl) (fun cd A outer s H E q hot hz hf=>
  have hot2:L2H.HotC (kinPl (gx K) (clA K) P W mg base N__law_kin "_law_kin" (defScope (top 45)) (FA K 23) cd A outer s H E q).X:=⟨q,hot,List.mem_cons_self⟩
  (SSs_cons (SS_set (i:=1) nd rfl (.inl rfl) (SE_lst (Qzf (SE_isE (i:=0) rfl (h.kcls k hk) rfl hz hf (by rfl) (h.free 0 (by decide)) rfl (.inl rfl) rfl rfl (pe_glob (v:=.ref (He.ga K (kinN 0))) (by rfl) (h.kmg 0 (by decide)) rfl rfl) (fun u r=>r) (h.kit k hk 0 (by decide))) (Qzf (SE_isE (i:=0) rfl (h.kcls k hk) rfl hz hf (by rfl) (h.free 0 (by decide)) rfl (.inl rfl) rfl rfl (pe_glob (v:=.ref (He.ga K (kinN 1))) (by rfl) (h.kmg 1 (by decide)) rfl rfl) (fun u r=>r) (h.kit k hk 1 (by decide))) (Qzf (SE_isE (i:=0) rfl (h.kcls k hk) rfl hz hf (by rfl) (h.free 0 (by decide)) rfl (.inl rfl) rfl rfl (pe_glob (v:=.ref (He.ga K (kinN 2))) (by rfl) (h.kmg 2 (by decide)) rfl rfl) (fun u r=>r) (h.kit k hk 2 (by decide))) SEs_nil rfl) rfl) rfl)) rfl (.inl rfl))
  (SSs_cons (SS_set (i:=1) nd rfl (.inl rfl) (rawOp rfl .add (SB.of (SE_var (i:=1) rfl (.inl rfl) rfl rfl)) (SB.of (SE_lst (Qzf (SE_isE (i:=0) rfl (h.kcls k hk) rfl hz hf (by rfl) (h.free 0 (by decide)) rfl (.inl rfl) rfl rfl (pe_glob (v:=.ref (He.ga K (kinN 3))) (by rfl) (h.kmg 3 (by decide)) rfl rfl) (fun u r=>r) (h.kit k hk 3 (by decide))) (Qzf (SE_isE (i:=0) rfl (h.kcls k hk) rfl hz hf (by rfl) (h.free 0 (by decide)) rfl (.inl rfl) rfl rfl (pe_glob (v:=.ref (He.ga K (kinN 4))) (by rfl) (h.kmg 4 (by decide)) rfl rfl) (fun u r=>r) (h.kit k hk 4 (by decide))) (Qzf (SE_isE (i:=0) rfl (h.kcls k hk) rfl hz hf (by rfl) (h.free 0 (by decide)) rfl (.inl rfl) rfl rfl (pe_glob (v:=.ref (He.ga K (kinN 5))) (by rfl) (h.kmg 5 (by decide)) rfl rfl) (fun u r=>r) (h.kit k hk 5 (by decide))) SEs_nil rfl) rfl) rfl)))) rfl (.inl rfl))
  (SSs_cons (SS_set (i:=1) nd rfl (.inl rfl) (rawOp rfl .add (SB.of (SE_var (i:=1) rfl (.inl rfl) rfl rfl)) (SB.of (SE_lst (Qzf (SE_isE (i:=0) rfl (h.kcls k hk) rfl hz hf (by rfl) (h.free 0 (by decide)) rfl (.inl rfl) rfl rfl (pe_glob (v:=.ref (He.ga K (kinN 6))) (by rfl) (h.kmg 6 (by decide)) rfl rfl) (fun u r=>r) (h.kit k hk 6 (by decide))) (Qzf (SE_isE (i:=0) rfl (h.kcls k hk) rfl hz hf (by rfl) (h.free 0 (by decide)) rfl (.inl rfl) rfl rfl (pe_glob (v:=.ref (He.ga K (kinN 7))) (by rfl) (h.kmg 7 (by decide)) rfl rfl) (fun u r=>r) (h.kit k hk 7 (by decide))) (Qzf (SE_isE (i:=0) rfl (h.kcls k hk) rfl hz hf (by rfl) (h.free 0 (by decide)) rfl (.inl rfl) rfl rfl (pe_glob (v:=.ref (He.ga K (kinN 8))) (by rfl) (h.kmg 8 (by decide)) rfl rfl) (fun u r=>r) (h.kit k hk 8 (by decide))) SEs_nil rfl) rfl) rfl)))) rfl (.inl rfl))
  (SSs_cons (SS_set (i:=1) nd rfl (.inl rfl) (rawOp rfl .add (SB.of (SE_var (i:=1) rfl (.inl rfl) rfl rfl)) (SB.of (SE_lst (Qzf (SE_isE (i:=0) rfl (h.kcls k hk) rfl hz hf (by rfl) (h.free 0 (by decide)) rfl (.inl rfl) rfl rfl (pe_glob (v:=.ref (He.ga K (kinN 9))) (by rfl) (h.kmg 9 (by decide)) rfl rfl) (fun u r=>r) (h.kit k hk 9 (by decide))) (Qzf (SE_isE (i:=0) rfl (h.kcls k hk) rfl hz hf (by rfl) (h.free 0 (by decide)) rfl (.inl rfl) rfl rfl (pe_glob (v:=.ref (He.ga K (kinN 10))) (by rfl) (h.kmg 10 (by decide)) rfl rfl) (fun u r=>r) (h.kit k hk 10 (by decide))) (Qzf (SE_isE (i:=0) rfl (h.kcls k hk) rfl hz hf (by rfl) (h.free 0 (by decide)) rfl (.inl rfl) rfl rfl (pe_glob (v:=.ref (He.ga K (kinN 11))) (by rfl) (h.kmg 11 (by decide)) rfl rfl) (fun u r=>r) (h.kit k hk 11 (by decide))) SEs_nil rfl) rfl) rfl)))) rfl (.inl rfl))
  (SSs_cons (SS_set (i:=1) nd rfl (.inl rfl) (rawOp rfl .add (SB.of (SE_var (i:=1) rfl (.inl rfl) rfl rfl)) (SB.of (SE_lst (Qzf (SE_isE (i:=0) rfl (h.kcls k hk) rfl hz hf (by rfl) (h.free 0 (by decide)) rfl (.inl rfl) rfl rfl (pe_glob (v:=.ref (He.ga K (kinN 12))) (by rfl) (h.kmg 12 (by decide)) rfl rfl) (fun u r=>r) (h.kit k hk 12 (by decide))) (Qzf (SE_isE (i:=0) rfl (h.kcls k hk) rfl hz hf (by rfl) (h.free 0 (by decide)) rfl (.inl rfl) rfl rfl (pe_glob (v:=.ref (He.ga K (kinN 13))) (by rfl) (h.kmg 13 (by decide)) rfl rfl) (fun u r=>r) (h.kit k hk 13 (by decide))) (Qzf (SE_isE (i:=0) rfl (h.kcls k hk) rfl hz hf (by rfl) (h.free 0 (by decide)) rfl (.inl rfl) rfl rfl (pe_bltn (v:=.ty "ValueError") (u:=.type "ValueError") (by rfl) h.vfree (by decide +kernel) rfl (by decide) rfl) (fun u r=>r) (h.kitv k hk)) SEs_nil rfl) rfl) rfl)))) rfl (.inl rfl))
  (SSs_cons (SS_set (i:=2) nd rfl (.inl rfl) (SE_con (u:=.str "picture lean sum claim facts mark number index impossible unlike notone undo many text value") pe_str fun _ _=>.str _) rfl (.inl rfl))
  (SSs_cons (SS_ret (SE_join rfl (SE_con (u:=.str " ") pe_str fun _ _=>.str _) (SE_zc (i:=3) (j:=4) (own:=[3,4]) rfl hot2 nd (by rfl) (h.free 3 (by decide)) (Qzf (SE_split (SE_var (i:=2) rfl (.inl rfl) rfl rfl) (SE_con (u:=.str " ") pe_str fun _ _=>.str _) rfl rfl rfl) (Qzf (SE_var (i:=1) rfl (.inl rfl) rfl rfl) SEs_nil rfl) rfl) rfl rfl (ow:=[("_law_label", 3),("_law_good", 4)]) rfl (blkOk_by (by kernel_rfl)) rfl rfl (by decide) (by decide) (fun _ _ _ _ _=>⟨.inl rfl,.inr rfl⟩) (fun _ _ _ _ _=>⟨.inl rfl,.inr rfl⟩) (fun s1 H1 C1 l1 f1=>pts_one (ST_val (p:=Pl.blk (kinPl (gx K) (clA K) P W mg base N__law_kin "_law_kin" (defScope (top 45)) (FA K 23) cd A outer s H E q) _ s1 H1 C1 l1 f1) rfl (SE_var (i:=4) rfl (.inl rfl) rfl rfl) (fun _=>rfl))) (fun s1 H1 C1 l1 f1=>SE_var (p:=Pl.blk (kinPl (gx K) (clA K) P W mg base N__law_kin "_law_kin" (defScope (top 45)) (FA K 23) cd A outer s H E q) _ s1 H1 C1 l1 f1) (i:=3) rfl (.inl rfl) rfl rfl) (fun _=>rfl)) rfl rfl rfl))
  SSs_nil)))))))) (fun κ=>by
  match k,hk with
  | 0,_=>kernel_rfl
  | 1,_=>kernel_rfl)
theorem kin_all (d:Nat):∀ c,c<1000→KinS P W (gx K) mg base d (FA K 23) (clA K c) (kinS c):=fun c hc=>kin_g h d (cidx c) (cidx_lt hc)
theorem exm_all:∀ c,c<1000→PySem.W.exmOne K (.ref (clA K c)) (.ref (He.ga K "MarkError"))=some true:=fun c hc=>h.exm (cidx c) (cidx_lt hc)
end
section
variable {P:Program}{W:World}{K:PySem.W.Frag}{mg:Str→Option Value}{base:Heap}(h:Hd K mg base)
include h
theorem all_d:∀ d,(∀ i,FnS P W (gx K) (clA K) mg base d (FA K i) ((cb tab d).cf i))∧(∀ k,LmS P W (gx K) (clA K) mg base d k ((cb tab d).cl k))∧FnF P W (gx K) (clA K) mg base d (FA K 16) ((cb tab d).cf 16)
 | 0=>⟨fun _=>.bad fun _ _=>rfl,fun _=>.bad fun _ _=>rfl,.bad fun _ _=>rfl⟩
 | d+1=>by
  obtain ⟨G,LM,FF⟩:=all_d d
  have f0:FnS P W (gx K) (clA K) mg base (d+1) (FA K 0) ((cb tab (d+1)).cf 0):=by
   obtain ⟨fd,D⟩:=h.d_is_whole
   exact Qzx (g:=gx K) (clA:=clA K) (N:=N_is_whole) (ps:=["value", "low", "high"]) (m:=exSs (cb tab d) ir_is_whole) D ⟨rfl,rfl,rfl,by decide +kernel,rfl,by decide +kernel,by decide +kernel⟩ (fun _ _ _ _ _ _ us hl=>match us,hl with|[_,_,_],_=>rfl) (b_is_whole h G LM FF) (fun _ _=>rfl)
  have f1:FnS P W (gx K) (clA K) mg base (d+1) (FA K 1) ((cb tab (d+1)).cf 1):=by
   obtain ⟨fd,D⟩:=h.d_is_right_picture
   exact Qzx (g:=gx K) (clA:=clA K) (N:=N_is_right_picture) (ps:=["value"]) (m:=exSs (cb tab d) ir_is_right_picture) D ⟨rfl,rfl,rfl,by decide +kernel,rfl,by decide +kernel,by decide +kernel⟩ (fun _ _ _ _ _ _ us hl=>match us,hl with|[_],_=>rfl) (b_is_right_picture h G LM FF) (fun _ _=>rfl)
  have f2:FnS P W (gx K) (clA K) mg base (d+1) (FA K 2) ((cb tab (d+1)).cf 2):=by
   obtain ⟨fd,D⟩:=h.d_is_right_sum
   exact Qzx (g:=gx K) (clA:=clA K) (N:=N_is_right_sum) (ps:=["picture", "value"]) (m:=exSs (cb tab d) ir_is_right_sum) D ⟨rfl,rfl,rfl,by decide +kernel,rfl,by decide +kernel,by decide +kernel⟩ (fun _ _ _ _ _ _ us hl=>match us,hl with|[_,_],_=>rfl) (b_is_right_sum h G LM FF) (fun _ _=>rfl)
  have f3:FnS P W (gx K) (clA K) mg base (d+1) (FA K 3) ((cb tab (d+1)).cf 3):=by
   obtain ⟨fd,D⟩:=h.d_is_right_claim
   exact Qzx (g:=gx K) (clA:=clA K) (N:=N_is_right_claim) (ps:=["picture", "value"]) (m:=exSs (cb tab d) ir_is_right_claim) D ⟨rfl,rfl,rfl,by decide +kernel,rfl,by decide +kernel,by decide +kernel⟩ (fun _ _ _ _ _ _ us hl=>match us,hl with|[_,_],_=>rfl) (b_is_right_claim h G LM FF) (fun _ _=>rfl)
  have f4:FnS P W (gx K) (clA K) mg base (d+1) (FA K 4) ((cb tab (d+1)).cf 4):=by
   obtain ⟨fd,D⟩:=h.d_are_right_facts
   exact Qzx (g:=gx K) (clA:=clA K) (N:=N_are_right_facts) (ps:=["picture", "value"]) (m:=exSs (cb tab d) ir_are_right_facts) D ⟨rfl,rfl,rfl,by decide +kernel,rfl,by decide +kernel,by decide +kernel⟩ (fun _ _ _ _ _ _ us hl=>match us,hl with|[_,_],_=>rfl) (b_are_right_facts h G LM FF) (fun _ _=>rfl)
  have f5:FnS P W (gx K) (clA K) mg base (d+1) (FA K 5) ((cb tab (d+1)).cf 5):=by
   obtain ⟨fd,D⟩:=h.d_need_picture
   exact Qzx (g:=gx K) (clA:=clA K) (N:=N_need_picture) (ps:=["value"]) (m:=exSs (cb tab d) ir_need_picture) D ⟨rfl,rfl,rfl,by decide +kernel,rfl,by decide +kernel,by decide +kernel⟩ (fun _ _ _ _ _ _ us hl=>match us,hl with|[_],_=>rfl) (b_need_picture h G LM FF) (fun _ _=>rfl)
  have f6:FnS P W (gx K) (clA K) mg base (d+1) (FA K 6) ((cb tab (d+1)).cf 6):=by
   obtain ⟨fd,D⟩:=h.d_need_facts
   exact Qzx (g:=gx K) (clA:=clA K) (N:=N_need_facts) (ps:=["picture", "value"]) (m:=exSs (cb tab d) ir_need_facts) D ⟨rfl,rfl,rfl,by decide +kernel,rfl,by decide +kernel,by decide +kernel⟩ (fun _ _ _ _ _ _ us hl=>match us,hl with|[_,_],_=>rfl) (b_need_facts h G LM FF) (fun _ _=>rfl)
  have f7:FnS P W (gx K) (clA K) mg base (d+1) (FA K 7) ((cb tab (d+1)).cf 7):=by
   obtain ⟨fd,D⟩:=h.d_picture_line
   exact Qzx (g:=gx K) (clA:=clA K) (N:=N_picture_line) (ps:=["picture"]) (m:=exSs (cb tab d) ir_picture_line) D ⟨rfl,rfl,rfl,by decide +kernel,rfl,by decide +kernel,by decide +kernel⟩ (fun _ _ _ _ _ _ us hl=>match us,hl with|[_],_=>rfl) (b_picture_line h G LM FF) (fun _ _=>rfl)
  have f8:FnS P W (gx K) (clA K) mg base (d+1) (FA K 8) ((cb tab (d+1)).cf 8):=by
   obtain ⟨fd,D⟩:=h.d_sum_words
   exact Qzx (g:=gx K) (clA:=clA K) (N:=N_sum_words) (ps:=["some"]) (m:=exSs (cb tab d) ir_sum_words) D ⟨rfl,rfl,rfl,by decide +kernel,rfl,by decide +kernel,by decide +kernel⟩ (fun _ _ _ _ _ _ us hl=>match us,hl with|[_],_=>rfl) (b_sum_words h G LM FF) (fun _ _=>rfl)
  have f9:FnS P W (gx K) (clA K) mg base (d+1) (FA K 9) ((cb tab (d+1)).cf 9):=by
   obtain ⟨fd,D⟩:=h.d_claim_line
   exact Qzx (g:=gx K) (clA:=clA K) (N:=N_claim_line) (ps:=["claim"]) (m:=exSs (cb tab d) ir_claim_line) D ⟨rfl,rfl,rfl,by decide +kernel,rfl,by decide +kernel,by decide +kernel⟩ (fun _ _ _ _ _ _ us hl=>match us,hl with|[_],_=>rfl) (b_claim_line h G LM FF) (fun _ _=>rfl)
  have f10:FnS P W (gx K) (clA K) mg base (d+1) (FA K 10) ((cb tab (d+1)).cf 10):=by
   obtain ⟨fd,D⟩:=h.d_whole_in
   exact Qzx (g:=gx K) (clA:=clA K) (N:=N_whole_in) (ps:=["word"]) (m:=exSs (cb tab d) ir_whole_in) D ⟨rfl,rfl,rfl,by decide +kernel,rfl,by decide +kernel,by decide +kernel⟩ (fun _ _ _ _ _ _ us hl=>match us,hl with|[_],_=>rfl) (b_whole_in h G LM FF) (fun _ _=>rfl)
  have f11:FnS P W (gx K) (clA K) mg base (d+1) (FA K 11) ((cb tab (d+1)).cf 11):=by
   obtain ⟨fd,D⟩:=h.d_read_sum
   exact Qzx (g:=gx K) (clA:=clA K) (N:=N_read_sum) (ps:=["words"]) (m:=exSs (cb tab d) ir_read_sum) D ⟨rfl,rfl,rfl,by decide +kernel,rfl,by decide +kernel,by decide +kernel⟩ (fun _ _ _ _ _ _ us hl=>match us,hl with|[_],_=>rfl) (b_read_sum h G LM FF) (fun _ _=>rfl)
  have f12:FnS P W (gx K) (clA K) mg base (d+1) (FA K 12) ((cb tab (d+1)).cf 12):=by
   obtain ⟨fd,D⟩:=h.d_read_claim
   exact Qzx (g:=gx K) (clA:=clA K) (N:=N_read_claim) (ps:=["line"]) (m:=exSs (cb tab d) ir_read_claim) D ⟨rfl,rfl,rfl,by decide +kernel,rfl,by decide +kernel,by decide +kernel⟩ (fun _ _ _ _ _ _ us hl=>match us,hl with|[_],_=>rfl) (b_read_claim h G LM FF) (fun _ _=>rfl)
  have f13:FnS P W (gx K) (clA K) mg base (d+1) (FA K 13) ((cb tab (d+1)).cf 13):=by
   obtain ⟨fd,D⟩:=h.d_read_picture
   exact Qzx (g:=gx K) (clA:=clA K) (N:=N_read_picture) (ps:=["line"]) (m:=exSs (cb tab d) ir_read_picture) D ⟨rfl,rfl,rfl,by decide +kernel,rfl,by decide +kernel,by decide +kernel⟩ (fun _ _ _ _ _ _ us hl=>match us,hl with|[_],_=>rfl) (b_read_picture h G LM FF) (fun _ _=>rfl)
  have f14:FnS P W (gx K) (clA K) mg base (d+1) (FA K 14) ((cb tab (d+1)).cf 14):=by
   obtain ⟨fd,D⟩:=h.d_road_text
   exact Qzx (g:=gx K) (clA:=clA K) (N:=N_road_text) (ps:=["picture", "facts"]) (m:=exSs (cb tab d) ir_road_text) D ⟨rfl,rfl,rfl,by decide +kernel,rfl,by decide +kernel,by decide +kernel⟩ (fun _ _ _ _ _ _ us hl=>match us,hl with|[_,_],_=>rfl) (b_road_text h G LM FF) (fun _ _=>rfl)
  have f15:FnS P W (gx K) (clA K) mg base (d+1) (FA K 15) ((cb tab (d+1)).cf 15):=by
   obtain ⟨fd,D⟩:=h.d_read_road
   exact Qzx (g:=gx K) (clA:=clA K) (N:=N_read_road) (ps:=["value"]) (m:=exSs (cb tab d) ir_read_road) D ⟨rfl,rfl,rfl,by decide +kernel,rfl,by decide +kernel,by decide +kernel⟩ (fun _ _ _ _ _ _ us hl=>match us,hl with|[_],_=>rfl) (b_read_road h G LM FF) (fun _ _=>rfl)
  have f16:FnF P W (gx K) (clA K) mg base (d+1) (FA K 16) ((cb tab (d+1)).cf 16):=by
   obtain ⟨fd,D⟩:=h.d__law_spring
   exact fnF_of (g:=gx K) (clA:=clA K) (N:=N__law_spring) (ps:=["_law_script", "_law_k"]) (m:=exSs (cb tab d) ir__law_spring) D ⟨rfl,rfl,rfl,by decide +kernel,rfl,by decide +kernel,by decide +kernel⟩ (fun _ _ _ _ _ _ us hl=>match us,hl with|[_,_],_=>rfl) (b__law_spring h G LM FF) (fun _ _=>rfl) (retEnd_ok rfl)
  have f17:FnS P W (gx K) (clA K) mg base (d+1) (FA K 17) ((cb tab (d+1)).cf 17):=by
   obtain ⟨fd,D⟩:=h.d__law_pick
   exact Qzx (g:=gx K) (clA:=clA K) (N:=N__law_pick) (ps:=["_law_spring_here", "_law_many"]) (m:=exSs (cb tab d) ir__law_pick) D ⟨rfl,rfl,rfl,by decide +kernel,rfl,by decide +kernel,by decide +kernel⟩ (fun _ _ _ _ _ _ us hl=>match us,hl with|[_,_],_=>rfl) (b__law_pick h G LM FF) (fun _ _=>rfl)
  have f18:FnS P W (gx K) (clA K) mg base (d+1) (FA K 18) ((cb tab (d+1)).cf 18):=by
   obtain ⟨fd,D⟩:=h.d__law_chosen
   exact Qzx (g:=gx K) (clA:=clA K) (N:=N__law_chosen) (ps:=["_law_spring_here", "_law_some"]) (m:=exSs (cb tab d) ir__law_chosen) D ⟨rfl,rfl,rfl,by decide +kernel,rfl,by decide +kernel,by decide +kernel⟩ (fun _ _ _ _ _ _ us hl=>match us,hl with|[_,_],_=>rfl) (b__law_chosen h G LM FF) (fun _ _=>rfl)
  have f19:FnS P W (gx K) (clA K) mg base (d+1) (FA K 19) ((cb tab (d+1)).cf 19):=by
   obtain ⟨fd,D⟩:=h.d__law_shot
   exact Qzx (g:=gx K) (clA:=clA K) (N:=N__law_shot) (ps:=["_law_spring_here", "_law_most"]) (m:=exSs (cb tab d) ir__law_shot) D ⟨rfl,rfl,rfl,by decide +kernel,rfl,by decide +kernel,by decide +kernel⟩ (fun _ _ _ _ _ _ us hl=>match us,hl with|[_,_],_=>rfl) (b__law_shot h G LM FF) (fun _ _=>rfl)
  have f20:FnS P W (gx K) (clA K) mg base (d+1) (FA K 20) ((cb tab (d+1)).cf 20):=by
   obtain ⟨fd,D⟩:=h.d__law_lengths
   exact Qzx (g:=gx K) (clA:=clA K) (N:=N__law_lengths) (ps:=["_law_spring_here", "_law_picture", "_law_most"]) (m:=exSs (cb tab d) ir__law_lengths) D ⟨rfl,rfl,rfl,by decide +kernel,rfl,by decide +kernel,by decide +kernel⟩ (fun _ _ _ _ _ _ us hl=>match us,hl with|[_,_,_],_=>rfl) (b__law_lengths h G LM FF) (fun _ _=>rfl)
  have f21:FnS P W (gx K) (clA K) mg base (d+1) (FA K 21) ((cb tab (d+1)).cf 21):=by
   obtain ⟨fd,D⟩:=h.d__law_saying
   exact Qzx (g:=gx K) (clA:=clA K) (N:=N__law_saying) (ps:=["_law_spring_here", "_law_picture"]) (m:=exSs (cb tab d) ir__law_saying) D ⟨rfl,rfl,rfl,by decide +kernel,rfl,by decide +kernel,by decide +kernel⟩ (fun _ _ _ _ _ _ us hl=>match us,hl with|[_,_],_=>rfl) (b__law_saying h G LM FF) (fun _ _=>rfl)
  have f22:FnS P W (gx K) (clA K) mg base (d+1) (FA K 22) ((cb tab (d+1)).cf 22):=by
   obtain ⟨fd,D⟩:=h.d__law_sayings
   exact Qzx (g:=gx K) (clA:=clA K) (N:=N__law_sayings) (ps:=["_law_spring_here", "_law_picture", "_law_most"]) (m:=exSs (cb tab d) ir__law_sayings) D ⟨rfl,rfl,rfl,by decide +kernel,rfl,by decide +kernel,by decide +kernel⟩ (fun _ _ _ _ _ _ us hl=>match us,hl with|[_,_,_],_=>rfl) (b__law_sayings h G LM FF) (fun _ _=>rfl)
  have f24:FnS P W (gx K) (clA K) mg base (d+1) (FA K 24) ((cb tab (d+1)).cf 24):=by
   obtain ⟨fd,D⟩:=h.d__law_came
   refine Qzx (g:=gx K) (clA:=clA K) (N:=N__law_came) (ps:=["_law_call"]) (m:=exSs (cb tab d) ir__law_came) D ⟨rfl,rfl,rfl,by decide +kernel,rfl,by decide +kernel,by decide +kernel⟩ (fun _ _ _ _ _ _ us hl=>match us,hl with|[_],_=>rfl) (fun cd A outer s H E hcd hex hr => ?_) (fun _ _=>rfl)
   exact SSs_cons (SS_came (i:=0) (j:=1) LM (by rw [show (cb tab d).kin=kinS from cb_kin tab d];exact kin_all h 1) rfl hr takes_def rfl rfl (show N__law_came.Nodup by decide) rfl rfl ⟨by rfl,by rfl,.inl h.mkE⟩ (exm_all h) rfl (.inl rfl) (by rfl) (by rfl) (by rfl) (by rfl) (by rfl) (h.fn 23 (by decide)).1 (h.fn 23 (by decide)).2 (by rfl) rfl) SSs_nil
  have f25:FnS P W (gx K) (clA K) mg base (d+1) (FA K 25) ((cb tab (d+1)).cf 25):=by
   obtain ⟨fd,D⟩:=h.d__law_all_say
   exact Qzx (g:=gx K) (clA:=clA K) (N:=N__law_all_say) (ps:=["_law_calls", "_law_word"]) (m:=exSs (cb tab d) ir__law_all_say) D ⟨rfl,rfl,rfl,by decide +kernel,rfl,by decide +kernel,by decide +kernel⟩ (fun _ _ _ _ _ _ us hl=>match us,hl with|[_,_],_=>rfl) (b__law_all_say h G LM FF) (fun _ _=>rfl)
  have f26:FnS P W (gx K) (clA K) mg base (d+1) (FA K 26) ((cb tab (d+1)).cf 26):=by
   obtain ⟨fd,D⟩:=h.d__law_twins
   exact Qzx (g:=gx K) (clA:=clA K) (N:=N__law_twins) (ps:=["_law_one", "_law_other"]) (m:=exSs (cb tab d) ir__law_twins) D ⟨rfl,rfl,rfl,by decide +kernel,rfl,by decide +kernel,by decide +kernel⟩ (fun _ _ _ _ _ _ us hl=>match us,hl with|[_,_],_=>rfl) (b__law_twins h G LM FF) (fun _ _=>rfl)
  have f27:FnS P W (gx K) (clA K) mg base (d+1) (FA K 27) ((cb tab (d+1)).cf 27):=by
   obtain ⟨fd,D⟩:=h.d__law_kind
   exact Qzx (g:=gx K) (clA:=clA K) (N:=N__law_kind) (ps:=["_law_value"]) (m:=exSs (cb tab d) ir__law_kind) D ⟨rfl,rfl,rfl,by decide +kernel,rfl,by decide +kernel,by decide +kernel⟩ (fun _ _ _ _ _ _ us hl=>match us,hl with|[_],_=>rfl) (b__law_kind h G LM FF) (fun _ _=>rfl)
  have f28:FnS P W (gx K) (clA K) mg base (d+1) (FA K 28) ((cb tab (d+1)).cf 28):=by
   obtain ⟨fd,D⟩:=h.d__law_words
   exact Qzx (g:=gx K) (clA:=clA K) (N:=N__law_words) (ps:=["_law_some"]) (m:=exSs (cb tab d) ir__law_words) D ⟨rfl,rfl,rfl,by decide +kernel,rfl,by decide +kernel,by decide +kernel⟩ (fun _ _ _ _ _ _ us hl=>match us,hl with|[_],_=>rfl) (b__law_words h G LM FF) (fun _ _=>rfl)
  have f29:FnS P W (gx K) (clA K) mg base (d+1) (FA K 29) ((cb tab (d+1)).cf 29):=by
   obtain ⟨fd,D⟩:=h.d__law_line
   exact Qzx (g:=gx K) (clA:=clA K) (N:=N__law_line) (ps:=["_law_claim"]) (m:=exSs (cb tab d) ir__law_line) D ⟨rfl,rfl,rfl,by decide +kernel,rfl,by decide +kernel,by decide +kernel⟩ (fun _ _ _ _ _ _ us hl=>match us,hl with|[_],_=>rfl) (b__law_line h G LM FF) (fun _ _=>rfl)
  have f30:FnS P W (gx K) (clA K) mg base (d+1) (FA K 30) ((cb tab (d+1)).cf 30):=by
   obtain ⟨fd,D⟩:=h.d__law_text
   exact Qzx (g:=gx K) (clA:=clA K) (N:=N__law_text) (ps:=["_law_picture", "_law_facts"]) (m:=exSs (cb tab d) ir__law_text) D ⟨rfl,rfl,rfl,by decide +kernel,rfl,by decide +kernel,by decide +kernel⟩ (fun _ _ _ _ _ _ us hl=>match us,hl with|[_,_],_=>rfl) (b__law_text h G LM FF) (fun _ _=>rfl)
  have f31:FnS P W (gx K) (clA K) mg base (d+1) (FA K 31) ((cb tab (d+1)).cf 31):=by
   obtain ⟨fd,D⟩:=h.d__law_number
   exact Qzx (g:=gx K) (clA:=clA K) (N:=N__law_number) (ps:=["_law_word"]) (m:=exSs (cb tab d) ir__law_number) D ⟨rfl,rfl,rfl,by decide +kernel,rfl,by decide +kernel,by decide +kernel⟩ (fun _ _ _ _ _ _ us hl=>match us,hl with|[_],_=>rfl) (b__law_number h G LM FF) (fun _ _=>rfl)
  have f32:FnS P W (gx K) (clA K) mg base (d+1) (FA K 32) ((cb tab (d+1)).cf 32):=by
   obtain ⟨fd,D⟩:=h.d__law_marks
   exact Qzx (g:=gx K) (clA:=clA K) (N:=N__law_marks) (ps:=["_law_line_here"]) (m:=exSs (cb tab d) ir__law_marks) D ⟨rfl,rfl,rfl,by decide +kernel,rfl,by decide +kernel,by decide +kernel⟩ (fun _ _ _ _ _ _ us hl=>match us,hl with|[_],_=>rfl) (b__law_marks h G LM FF) (fun _ _=>rfl)
  have f33:FnS P W (gx K) (clA K) mg base (d+1) (FA K 33) ((cb tab (d+1)).cf 33):=by
   obtain ⟨fd,D⟩:=h.d__law_part
   exact Qzx (g:=gx K) (clA:=clA K) (N:=N__law_part) (ps:=["_law_word"]) (m:=exSs (cb tab d) ir__law_part) D ⟨rfl,rfl,rfl,by decide +kernel,rfl,by decide +kernel,by decide +kernel⟩ (fun _ _ _ _ _ _ us hl=>match us,hl with|[_],_=>rfl) (b__law_part h G LM FF) (fun _ _=>rfl)
  have f34:FnS P W (gx K) (clA K) mg base (d+1) (FA K 34) ((cb tab (d+1)).cf 34):=by
   obtain ⟨fd,D⟩:=h.d__law_claimed
   exact Qzx (g:=gx K) (clA:=clA K) (N:=N__law_claimed) (ps:=["_law_line_here"]) (m:=exSs (cb tab d) ir__law_claimed) D ⟨rfl,rfl,rfl,by decide +kernel,rfl,by decide +kernel,by decide +kernel⟩ (fun _ _ _ _ _ _ us hl=>match us,hl with|[_],_=>rfl) (b__law_claimed h G LM FF) (fun _ _=>rfl)
  have f35:FnS P W (gx K) (clA K) mg base (d+1) (FA K 35) ((cb tab (d+1)).cf 35):=by
   obtain ⟨fd,D⟩:=h.d__law_due
   exact Qzx (g:=gx K) (clA:=clA K) (N:=N__law_due) (ps:=["_law_text_here"]) (m:=exSs (cb tab d) ir__law_due) D ⟨rfl,rfl,rfl,by decide +kernel,rfl,by decide +kernel,by decide +kernel⟩ (fun _ _ _ _ _ _ us hl=>match us,hl with|[_],_=>rfl) (b__law_due h G LM FF) (fun _ _=>rfl)
  have f36:FnS P W (gx K) (clA K) mg base (d+1) (FA K 36) ((cb tab (d+1)).cf 36):=by
   obtain ⟨fd,D⟩:=h.d__law_read
   exact Qzx (g:=gx K) (clA:=clA K) (N:=N__law_read) (ps:=["_law_text_here"]) (m:=exSs (cb tab d) ir__law_read) D ⟨rfl,rfl,rfl,by decide +kernel,rfl,by decide +kernel,by decide +kernel⟩ (fun _ _ _ _ _ _ us hl=>match us,hl with|[_],_=>rfl) (b__law_read h G LM FF) (fun _ _=>rfl)
  have f37:FnS P W (gx K) (clA K) mg base (d+1) (FA K 37) ((cb tab (d+1)).cf 37):=by
   obtain ⟨fd,D⟩:=h.d__law_bent
   exact Qzx (g:=gx K) (clA:=clA K) (N:=N__law_bent) (ps:=["_law_spring_here", "_law_text_here"]) (m:=exSs (cb tab d) ir__law_bent) D ⟨rfl,rfl,rfl,by decide +kernel,rfl,by decide +kernel,by decide +kernel⟩ (fun _ _ _ _ _ _ us hl=>match us,hl with|[_,_],_=>rfl) (b__law_bent h G LM FF) (fun _ _=>rfl)
  have f38:FnS P W (gx K) (clA K) mg base (d+1) (FA K 38) ((cb tab (d+1)).cf 38):=by
   obtain ⟨fd,D⟩:=h.d__law_written
   exact Qzx (g:=gx K) (clA:=clA K) (N:=N__law_written) (ps:=[]) (m:=exSs (cb tab d) ir__law_written) D ⟨rfl,rfl,rfl,by decide +kernel,rfl,by decide +kernel,by decide +kernel⟩ (fun _ _ _ _ _ _ us hl=>match us,hl with|[],_=>rfl) (b__law_written h G LM FF) (fun _ _=>rfl)
  have f39:FnS P W (gx K) (clA K) mg base (d+1) (FA K 39) ((cb tab (d+1)).cf 39):=by
   obtain ⟨fd,D⟩:=h.d_law
   exact Qzx (g:=gx K) (clA:=clA K) (N:=N_law) (ps:=["_law_script"]) (m:=exSs (cb tab d) ir_law) D ⟨rfl,rfl,rfl,by decide +kernel,rfl,by decide +kernel,by decide +kernel⟩ (fun _ _ _ _ _ _ us hl=>match us,hl with|[_],_=>rfl) (b_law h G LM FF) (fun _ _=>rfl)
  have l0:LmS P W (gx K) (clA K) mg base (d+1) 0 ((cb tab (d+1)).cl 0):=lmS_of (g:=gx K) (clA:=clA K) (L:=lam0) (m:=evE (cb tab d) irl0) rfl (nscope_by (by kernel_rfl)) (fun _ _ _ _=>rfl) (fun cl c' f A outer s H E hr=>bl_0 h G LM FF cl c' f A outer s H E hr) (fun _ _=>rfl)
  have l1:LmS P W (gx K) (clA K) mg base (d+1) 1 ((cb tab (d+1)).cl 1):=lmS_of (g:=gx K) (clA:=clA K) (L:=lam1) (m:=evE (cb tab d) irl1) rfl (nscope_by (by kernel_rfl)) (fun _ _ _ _=>rfl) (fun cl c' f A outer s H E hr=>bl_1 h G LM FF cl c' f A outer s H E hr) (fun _ _=>rfl)
  have l2:LmS P W (gx K) (clA K) mg base (d+1) 2 ((cb tab (d+1)).cl 2):=lmS_of (g:=gx K) (clA:=clA K) (L:=lam2) (m:=evE (cb tab d) irl2) rfl (nscope_by (by kernel_rfl)) (fun _ _ _ _=>rfl) (fun cl c' f A outer s H E hr=>bl_2 h G LM FF cl c' f A outer s H E hr) (fun _ _=>rfl)
  refine ⟨fun i => ?_,fun k => ?_,f16⟩
  ·match i with
   | 0=>exact f0
   | 1=>exact f1
   | 2=>exact f2
   | 3=>exact f3
   | 4=>exact f4
   | 5=>exact f5
   | 6=>exact f6
   | 7=>exact f7
   | 8=>exact f8
   | 9=>exact f9
   | 10=>exact f10
   | 11=>exact f11
   | 12=>exact f12
   | 13=>exact f13
   | 14=>exact f14
   | 15=>exact f15
   | 16=>exact .ofF f16
   | 17=>exact f17
   | 18=>exact f18
   | 19=>exact f19
   | 20=>exact f20
   | 21=>exact f21
   | 22=>exact f22
   | 23=>exact .bad fun _ _=>rfl
   | 24=>exact f24
   | 25=>exact f25
   | 26=>exact f26
   | 27=>exact f27
   | 28=>exact f28
   | 29=>exact f29
   | 30=>exact f30
   | 31=>exact f31
   | 32=>exact f32
   | 33=>exact f33
   | 34=>exact f34
   | 35=>exact f35
   | 36=>exact f36
   | 37=>exact f37
   | 38=>exact f38
   | 39=>exact f39
   | _+40=>exact .bad fun _ _=>rfl
  ·match k with
   | 0=>exact l0
   | 1=>exact l1
   | 2=>exact l2
   | _+3=>exact .bad fun _ _=>rfl
end
end K10
end
section
set_option maxHeartbeats 2000000
namespace PL
open PySem PySem.Spec PyProof.Rows L2
section
variable (AS:(Addr→Option Obj)→List Addr)(fa:List He.Fa)(fn:List He.DefD)(ts:List He.Tab)(tf:List He.Defn)(ex:PySem.W.Frag→Bool)
end
end PL
end
section
namespace K10
open PySem PySem.Spec PyProof.Rows L2 LamX NdefX PL
section
variable {K:PySem.W.Frag}{mg:Str→Option Value}{base h0:Heap}{W:World}
theorem head_facts (X:K.In base)(G:base.Ns mainGlobals mg)(c:He.SaysX fa fn [] tf ex W h0 K)(hT:∀ p∈tf.map (He.cT K),TabB base mg p.1 p.2):Hd K mg base:=by
 have F:∀ {f:He.Fa},f∈fa→f.ok K=true:=fun h=>c.t.d.facts h
 have D:∀ {d:He.DefD},d∈fn→∃ fd,FunD K d.name d.qual d.params d.body d.scope (d.dvs K) (d.kws K) (He.fAd K d.at_) fd:=fun h=>c.t.d.defs h
 have hex:ex K=true:=c.more
 unfold ex at hex
 obtain ⟨hx0,hex⟩:=He.ba hex
 obtain ⟨hx1,hex⟩:=He.ba hex
 obtain ⟨hx2,hex⟩:=He.ba hex
 obtain ⟨hx3,hex⟩:=He.ba hex
 obtain ⟨hx4,hex⟩:=He.ba hex
 have in1:∀ {x},x∈fnNames→He.Fa.glo x∈fa:=fun h=>List.mem_append_left _ (List.mem_map.mpr ⟨_,h,rfl⟩)
 have in2:∀ {x},x∈fnNames→He.Fa.keep x∈fa:=fun h=>List.mem_append_right _ (List.mem_append_left _ (List.mem_map.mpr ⟨_,h,rfl⟩))
 have in3:∀ {x},x∈freeNames→He.Fa.free x∈fa:=fun h=>List.mem_append_right _ (List.mem_append_right _ (List.mem_append_left _ (List.mem_map.mpr ⟨_,h,rfl⟩)))
 have in4:∀ {x},x∈excNames→He.Fa.exc x∈fa:=fun h=>List.mem_append_right _ (List.mem_append_right _ (List.mem_append_right _ (List.mem_append_left _ (List.mem_map.mpr ⟨_,h,rfl⟩))))
 have in5:∀ {x},x∈excNames→He.Fa.glo x∈fa:=fun h=>List.mem_append_right _ (List.mem_append_right _ (List.mem_append_right _ (List.mem_append_right _ (List.mem_append_left _ (List.mem_map.mpr ⟨_,h,rfl⟩)))))
 have in6:∀ {x},x∈kinNames.dropLast→He.Fa.glo x∈fa:=fun h=>List.mem_append_right _ (List.mem_append_right _ (List.mem_append_right _ (List.mem_append_right _ (List.mem_append_right _ (List.mem_append_left _ (List.mem_map.mpr ⟨_,h,rfl⟩))))))
 have in7:∀ {f},f∈miscF→f∈fa:=fun h=>List.mem_append_right _ (List.mem_append_right _ (List.mem_append_right _ (List.mem_append_right _ (List.mem_append_right _ (List.mem_append_right _ h)))))
 have lf:fnNames.length=40:=by rfl
 have lr:freeNames.length=16:=by rfl
 have le:excNames.length=2:=by rfl
 have lk:kinNames.dropLast.length=14:=by rfl
 have ix:∀ {α:Type} {l:List α} {i:Nat} {x:α} (n:Nat),l.length=n→i<n→l.getD i x∈l:=fun n e h=>getD_mem (by rw [e];exact h)
 have kj:∀ j,j<14→kinN j∈kinNames.dropLast:=by decide +kernel
 exact {
  fn:=fun i hi=>⟨He.glo_ok X G (F (in1 (ix _ lf hi))),He.keep_ok (F (in2 (ix _ lf hi)))⟩
  free:=fun i hi=>He.free_ok X G (F (in3 (ix _ lr hi)))
  exc:=fun i hi=>by
   obtain ⟨h1,h2,h3,h4⟩:=He.exc_ok (F (in4 (ix _ le hi)))
   rw [clA_of hi]
   exact ⟨h1,He.glo_ok X G (F (in5 (ix _ le hi))),h2,h3,h4⟩
  int_MOST_FACTS:=He.int_ok X G (F (in7 (List.mem_of_getElem? (i:=0) rfl)))
  tup_WORDS:=⟨He.glo_ok X G (F (in7 (List.mem_of_getElem? (i:=1) rfl))),fun H=>He.tupB_ok hx1 H⟩
  tup_WIDE:=⟨He.glo_ok X G (F (in7 (List.mem_of_getElem? (i:=2) rfl))),fun H=>He.tupB_ok hx2 H⟩
  baseC:=baseB_ok hx3
  eox_InvalidText:=oexB_ok hx4
  exq_InvalidText:=of_decide_eq_true hex
  eg_InvalidText:=He.glo_ok X G (F (in7 (List.mem_of_getElem? (i:=5) rfl)))
  d_init_InvalidText:=D (d:=⟨("InvalidText", some "__init__"), "__init__", "InvalidText.__init__", defArgs (clsD (top 15) 0),defBody (clsD (top 15) 0),defScope (clsD (top 15) 0),[],[]⟩) (List.mem_of_getElem? (i:=40) rfl)
  d_is_whole:=D (d:=dDf "is_whole" 19) (List.mem_of_getElem? (i:=0) rfl)
  d_is_right_picture:=D (d:=dDf "is_right_picture" 20) (List.mem_of_getElem? (i:=1) rfl)
  d_is_right_sum:=D (d:=dDf "is_right_sum" 21) (List.mem_of_getElem? (i:=2) rfl)
  d_is_right_claim:=D (d:=dDf "is_right_claim" 22) (List.mem_of_getElem? (i:=3) rfl)
  d_are_right_facts:=D (d:=dDf "are_right_facts" 23) (List.mem_of_getElem? (i:=4) rfl)
  d_need_picture:=D (d:=dDf "need_picture" 24) (List.mem_of_getElem? (i:=5) rfl)
  d_need_facts:=D (d:=dDf "need_facts" 25) (List.mem_of_getElem? (i:=6) rfl)
  d_picture_line:=D (d:=dDf "picture_line" 28) (List.mem_of_getElem? (i:=7) rfl)
  d_sum_words:=D (d:=dDf "sum_words" 29) (List.mem_of_getElem? (i:=8) rfl)
  d_claim_line:=D (d:=dDf "claim_line" 30) (List.mem_of_getElem? (i:=9) rfl)
  d_whole_in:=D (d:=dDf "whole_in" 31) (List.mem_of_getElem? (i:=10) rfl)
  d_read_sum:=D (d:=dDf "read_sum" 32) (List.mem_of_getElem? (i:=11) rfl)
  d_read_claim:=D (d:=dDf "read_claim" 33) (List.mem_of_getElem? (i:=12) rfl)
  d_read_picture:=D (d:=dDf "read_picture" 34) (List.mem_of_getElem? (i:=13) rfl)
  d_road_text:=D (d:=dDf "road_text" 35) (List.mem_of_getElem? (i:=14) rfl)
  d_read_road:=D (d:=dDf "read_road" 36) (List.mem_of_getElem? (i:=15) rfl)
  d__law_spring:=D (d:=dDf "_law_spring" 38) (List.mem_of_getElem? (i:=16) rfl)
  d__law_pick:=D (d:=dDf "_law_pick" 39) (List.mem_of_getElem? (i:=17) rfl)
  d__law_chosen:=D (d:=dDf "_law_chosen" 40) (List.mem_of_getElem? (i:=18) rfl)
  d__law_shot:=D (d:=dDf "_law_shot" 41) (List.mem_of_getElem? (i:=19) rfl)
  d__law_lengths:=D (d:=dDf "_law_lengths" 42) (List.mem_of_getElem? (i:=20) rfl)
  d__law_saying:=D (d:=dDf "_law_saying" 43) (List.mem_of_getElem? (i:=21) rfl)
  d__law_sayings:=D (d:=dDf "_law_sayings" 44) (List.mem_of_getElem? (i:=22) rfl)
  d__law_kin:=D (d:=dDf "_law_kin" 45) (List.mem_of_getElem? (i:=23) rfl)
  d__law_came:=D (d:=dDf "_law_came" 46) (List.mem_of_getElem? (i:=24) rfl)
  d__law_all_say:=D (d:=dDf "_law_all_say" 47) (List.mem_of_getElem? (i:=25) rfl)
  d__law_twins:=D (d:=dDf "_law_twins" 48) (List.mem_of_getElem? (i:=26) rfl)
  d__law_kind:=D (d:=dDf "_law_kind" 49) (List.mem_of_getElem? (i:=27) rfl)
  d__law_words:=D (d:=dDf "_law_words" 50) (List.mem_of_getElem? (i:=28) rfl)
  d__law_line:=D (d:=dDf "_law_line" 51) (List.mem_of_getElem? (i:=29) rfl)
  d__law_text:=D (d:=dDf "_law_text" 52) (List.mem_of_getElem? (i:=30) rfl)
  d__law_number:=D (d:=dDf "_law_number" 53) (List.mem_of_getElem? (i:=31) rfl)
  d__law_marks:=D (d:=dDf "_law_marks" 54) (List.mem_of_getElem? (i:=32) rfl)
  d__law_part:=D (d:=dDf "_law_part" 55) (List.mem_of_getElem? (i:=33) rfl)
  d__law_claimed:=D (d:=dDf "_law_claimed" 56) (List.mem_of_getElem? (i:=34) rfl)
  d__law_due:=D (d:=dDf "_law_due" 57) (List.mem_of_getElem? (i:=35) rfl)
  d__law_read:=D (d:=dDf "_law_read" 58) (List.mem_of_getElem? (i:=36) rfl)
  d__law_bent:=D (d:=dDf "_law_bent" 59) (List.mem_of_getElem? (i:=37) rfl)
  d__law_written:=D (d:=dDf "_law_written" 60) (List.mem_of_getElem? (i:=38) rfl)
  d_law:=D (d:=dDf "law" 61) (List.mem_of_getElem? (i:=39) rfl)
  kcls:=fun i hi=>by rw [cl_exc i hi];exact (kinB_ok hx0 (ix _ le hi)).1
  kmg:=fun j hj=>He.glo_ok X G (F (in6 (kj j hj)))
  kit:=fun i hi j hj=>by rw [cl_exc i hi];exact (kinB_ok hx0 (ix _ le hi)).2.2.2 _ (kj j hj)
  kitv:=fun i hi=>by rw [cl_exc i hi];exact (kinB_ok hx0 (ix _ le hi)).2.1
  exm:=fun i hi=>by rw [cl_exc i hi];exact (kinB_ok hx0 (ix _ le hi)).2.2.1
  mkE:=He.glo_ok X G (F (in7 (List.mem_of_getElem? (i:=3) rfl)))
  vfree:=He.free_ok X G (F (in7 (List.mem_of_getElem? (i:=4) rfl)))
  tab_law:=hT _ (List.mem_map.mpr ⟨("law", none),(List.mem_of_getElem? (i:=0) rfl),rfl⟩) }
end
section
open PySem.W PySem.Calls
theorem run_d1 (w:World)(os:OsState):(HandSHeadRun.endF (HandSHeadRun.stepQ (HandSHeadRun.denQ HandSHeadRun.tabQ) Rr.prog w) 20000 Rr.prog w os).map (fun s=>(fa.all fun f=>f.ok (He.frT (HandSHeadRun.getT s) (asM 4 (HandSHeadRun.getT s))))&&fn.all fun d=>d.ok (He.frT (HandSHeadRun.getT s) (asM 4 (HandSHeadRun.getT s))))=some true:=map_and (run_d0 w os) (run_d4 w os)
theorem run_d (w:World)(os:OsState):(HandSHeadRun.endF (HandSHeadRun.stepQ (HandSHeadRun.denQ HandSHeadRun.tabQ) Rr.prog w) 20000 Rr.prog w os).map (fun s=>ob s)=some (hk.val w):=map_pair (map_pair (map_pair (run_d1 w os) (run_d2 w os)) (map_cst (run_d1 w os) [])) (run_d3 w os)
end
theorem run (w:World):HandSHeadRun.RunEq Rr (PySem.W.view Rr.prog [61]) hk ob 20000 loose w:=fun os=>map3 (run_b w os) (run_c w os) (run_d w os)
end K10
end
section
open PySem PySem.W PySem.Calls PyProof.Rows
end
section
namespace PL
open PySem
theorem op_add (a b:Int):opV .add (.int a) (.int b)=some (.int (a+b)):=rfl
theorem op_sub (a b:Int):opV .sub (.int a) (.int b)=some (.int (a-b)):=rfl
theorem Qqk (a b:Int):cmV .lt (.int a) (.int b)=some (decide (a<b)):=rfl
theorem Qqm (a b:Int):cmV .le (.int a) (.int b)=some (decide (a≤b)):=rfl
theorem Qqn (a b:Int):cmV .gt (.int a) (.int b)=some (decide (b<a)):=rfl
theorem Qqp (a b:Int):cmV .ge (.int a) (.int b)=some (decide (b≤a)):=rfl
theorem eqD_int (a b:Int):eqD (.int a) (.int b)=some (decide (a=b)):=by
 show (if SeqAt.shaped (.int a)&&SeqAt.shaped (.int b) then some (PyData.eqv (.int a) (.int b)) else none)=_
 have h:∀ z:Int,SeqAt.shaped (.int z)=true:=fun _=>rfl
 rw [h,h]
 show some (PyData.eqv (.int a) (.int b))=_
 by_cases e:a=b
 ·subst e;simp [PyData.eqv]
 ·simp [PyData.eqv,e]
theorem Qqj (a b:Int):cmV .eq (.int a) (.int b)=some (decide (a=b)):=eqD_int a b
theorem Qqz (a b:Int):cmV .ne (.int a) (.int b)=some (!decide (a=b)):=by
 show (eqD (.int a) (.int b)).map (!·)=_
 rw [eqD_int];rfl
theorem Qqh (b:Bool):truV (.bl b)=some b:=rfl
theorem op_mod {a b:Int}(h:0<b):opV .mod (.int a) (.int b)=some (.int (a % b)):=by
 show (if decide (0<b) then some (Val.int (a % b)) else none)=_
 rw [decide_eq_true h];rfl
theorem op_fdiv {a b:Int}(h:0<b)(h2:b.natAbs<2^9000):opV .fdiv (.int a) (.int b)=some (.int (a/b)):=by
 show (if divOk b then some (Val.int (a/b)) else if divNeg b then some (Val.int (a.fdiv b)) else if divWide a b then some (Val.int (a/b)) else none)=_
 unfold divOk
 rw [decide_eq_true h,decide_eq_true h2];rfl
theorem op_mul {a b:Int}(h:mulOk a b=true):opV .mul (.int a) (.int b)=some (.int (a*b)):=by
 show (if mulOk a b then some (Val.int (a*b)) else none)=_
 rw [h];rfl
theorem Qqb (i:Int):biV .abs [.int i]=some (.int (if i<0 then -i else i)):=rfl
theorem Qq9 (i:Int):biV .int [.int i]=some (.int i):=rfl
theorem Qqq (b:Bool):biV .int [.bl b]=some (.int (if b then 1 else 0)):=rfl
theorem Qq6 (l:List Val):biV .len [.tup l]=some (.int l.length):=rfl
theorem Qq8 (l:List Val):biV .len [.lst l]=some (.int l.length):=rfl
theorem Qq7 (l:List Int):biV .len [.scr l]=some (.int l.length):=rfl
theorem Qqv (i j:Int):biV .max2 [.int i,.int j]=some (.int (if j > i then j else i)):=rfl
theorem Qqw (i j:Int):biV .min2 [.int i,.int j]=some (.int (if j<i then j else i)):=rfl
theorem Qq2 (l:List Val):biV .tuple [.tup l]=some (.tup l):=rfl
theorem Qq3 (l:List Val):biV .tuple [.lst l]=some (.tup l):=rfl
theorem Qq4 (l:List Val):biV .list [.tup l]=some (.lst l):=rfl
theorem Qq5 (l:List Val):biV .list [.lst l]=some (.lst l):=rfl
theorem Qqr (t:Ty)(l:List Val):isiV t (.tup l)=some (decide (t=.tuple)):=by cases t <;> rfl
theorem Qz0 (t:Ty)(l:List Val):isiV t (.lst l)=some (decide (t=.list)):=by cases t <;> rfl
theorem Qz1 (t:Ty)(l:Int):isiV t (.int l)=some (decide (t=.int)):=by cases t <;> rfl
theorem Qz2 (t:Ty)(l:Bool):isiV t (.bl l)=some (decide (t=.int)||decide (t=.bool)):=by cases t <;> rfl
theorem Qqt (t:Ty):isiV t .non=some false:=by cases t <;> rfl
theorem Qqs (t:Ty)(l:Str):isiV t (.str l)=some (decide (t=.str)):=by cases t <;> rfl
end PL
namespace K10
open PySem PL
theorem Qqf (d i:Nat)(args:List Ar)(κ:Ks)(D:DefI)(h:defs i=some D)(hl:args.length=D.np):(cb tab (d+1)).cf i args κ=(exSs (cb tab d) D.body (args.map Ar.slot++List.replicate (D.n-args.length) none) κ).fin:=by
 show (match defs i with
  | some D=>if args.length=D.np then (exSs (cb tab d) D.body (args.map Ar.slot++List.replicate (D.n-args.length) none) κ).fin else .bad
  | none=>.bad)=_
 rw [h]
 simp [hl]
theorem s_whole (d:Nat)(n lo hi:Int)(κ:Ks):(cb tab (d+1)).cf 0 [.v (.int n),.v (.int lo),.v (.int hi)] κ=.ok (.bl (decide (lo≤n)&&decide (n≤hi)),κ):=by
 rw [Qqf _ _ _ _ _ rfl rfl]
 simp only [ir_is_whole,exSs,exS,evE,evT,evEs,evA,evBs,evO,evOt,evI,bw,rdV,rdB,R.bind_ok,R.bind_exc,R.bind_bad,R.ofO_some,R.ofO_none,R.toO_ok,R.toO_exc,R.toO_bad,O.then_nx,O.then_ret,O.then_exc,O.then_bad,O.fin_nx,O.fin_ret,O.fin_exc,O.fin_bad,Option.map_some,Option.map_none,List.map_cons,List.map_nil,Ar.slot,List.cons_append,List.nil_append,List.length_cons,List.length_nil,List.getElem?_cons_zero,List.getElem?_cons_succ,List.set_cons_zero,List.set_cons_succ,Qzc,biV,isiV,blV,ntV,ngV,Qzk,op_add,op_sub,Qqk,Qqm,Qqn,Qqp,Qqj,Qqz,Qqh]
 cases h:decide (lo≤n) <;> simp [h]
end K10
end
section
namespace PL
open PySem
theorem compL_map {f:Val→Ks→R (Option Val × Ks)}{g:Val→Val}{κ:Ks}:∀ {l:List Val},(∀ v∈l,f v κ=.ok (some (g v),κ))→compL l f κ=.ok (l.map g,κ)
 | [],_=>rfl
 | v::l,h=>by
  unfold compL
  rw [h v List.mem_cons_self,R.bind_ok,compL_map fun u hu=>h u (List.mem_cons_of_mem _ hu)]
  rfl
theorem ev_comp {c:CB}{ee:E}{tg:Tg}{it:It}{own:List Nat}{ρ:Rho}{κ:Ks}{l:List Val}{g:Val→Val}(hi:evI c it ρ κ=.ok (l,κ))(hl:l.length<LINE)(h:∀ v∈l,∃ ρ2,setTg tg v (wipeR ρ own)=some ρ2∧evE c ee ρ2 κ=.ok (g v,κ)) :
  evE c (.comp ee tg it .no own) ρ κ=.ok (.lst (l.map g),κ):=by
 show (evI c it ρ κ).bind _=_
 rw [hi,R.bind_ok]
 dsimp only
 rw [compL_map (g:=g) fun v hv => ?_]
 ·simp only [R.bind_ok,List.length_map]
  rw [if_pos hl]
 ·obtain ⟨ρ2,h1,h2⟩:=h v hv
  rw [h1,R.ofO_some,R.bind_ok]
  show noExc ((R.ok (true,κ)).bind fun b=>if b.1=true then (evE c ee ρ2 b.2).bind fun x=>R.ok (some x.1,x.2) else R.ok (none,b.2))=_
  rw [R.bind_ok]
  simp only [if_true]
  rw [h2]
  rfl
theorem all_bls:∀ (l:List Bool),blsOf (l.map .bl)=some l
 | []=>rfl
 | b::l=>by
  show (blsOf (l.map .bl)).map (b :: ·)=_
  rw [all_bls l];rfl
theorem bi_all (l:List Bool):biV .all [.lst (l.map .bl)]=some (.bl (l.all id)):=by
 show (blsOf (l.map .bl)).map (fun bs=>Val.bl (bs.all id))=_
 rw [all_bls];rfl
theorem loopL_inv {f:Val→Rho→Ks→O}{I:Nat→Rho→Ks→Prop}{l:List Val}:∀ {n:Nat} {ρ:Rho} {κ:Ks},n≤l.length→I n ρ κ→(∀ i v ρ κ,l[i]? = some v→I i ρ κ→∃ ρ' κ',f v ρ κ=.nx ρ' κ'∧I (i+1) ρ' κ')→∃ ρ' κ',loopL (l.drop n) f ρ κ=.nx ρ' κ'∧I l.length ρ' κ':=by
 intro n
 generalize hm:l.length-n=m
 induction m generalizing n with
 | zero=>
  intro ρ κ hn h0 _
  have:n=l.length:=by omega
  subst this
  rw [List.drop_length]
  exact ⟨ρ,κ,rfl,h0⟩
 | succ m ih=>
  intro ρ κ hn h0 st
  have hlt:n<l.length:=by omega
  obtain ⟨ρ1,κ1,e1,h1⟩:=st n _ ρ κ (List.getElem?_eq_getElem hlt) h0
  obtain ⟨ρ2,κ2,e2,h2⟩:=ih (n:=n+1) (by omega) (by omega) h1 st
  refine ⟨ρ2,κ2,?_,h2⟩
  rw [List.drop_eq_getElem_cons hlt]
  show (f _ ρ κ).then _=_
  rw [e1]
  exact e2
theorem loop_inv {c:CB}{tg:Tg}{it:It}{b:Ss}{ρ:Rho}{κ κ1:Ks}{l:List Val}(I:Nat→Rho→Ks→Prop)(hi:evI c it ρ κ=.ok (l,κ1))(h0:I 0 ρ κ1)(st:∀ i v ρ κ,l[i]? = some v→I i ρ κ→∃ ρ1 ρ' κ',setTg tg v ρ=some ρ1∧exSs c b ρ1 κ=.nx ρ' κ'∧I (i+1) ρ' κ') :
  ∃ ρ' κ',exS c (.loop tg it b) ρ κ=.nx ρ' κ'∧I l.length ρ' κ':=by
 have:=loopL_inv (f:=fun v ρ' κ'=>match setTg tg v ρ' with
  | some ρ2=>exSs c b ρ2 κ'
  | none=>.bad) (I:=I) (l:=l) (n:=0) (Nat.zero_le _) h0 (fun i v ρ κ hv hI=>by
   obtain ⟨ρ1,ρ',κ',h1,h2,h3⟩:=st i v ρ κ hv hI
   exact ⟨ρ',κ',by rw [h1];exact h2,h3⟩)
 obtain ⟨ρ',κ',e,h⟩:=this
 refine ⟨ρ',κ',?_,h⟩
 show (evI c it ρ κ).toO _=_
 rw [hi]
 exact e
end PL
end
section
namespace PL
open PySem
theorem mulOk1 {a b:Int}(h:a.natAbs<2^64):mulOk a b=true:=by
 unfold mulOk
 rw [decide_eq_true h];rfl
theorem mulOk2 {a b:Int}(h:b.natAbs<2^64):mulOk a b=true:=by
 unfold mulOk
 rw [decide_eq_true h,Bool.or_true];rfl
theorem ix_lst {κ:Ks}{l:List Val}{i:Int}{v:Val}(h:L2.atI l i=some v):ixV κ (.lst l) (.int i)=some v:=h
end PL
namespace K10
open PySem PL
end K10
end
section
namespace PL
open PySem
end PL
namespace K10
open PySem PL
end K10
end
section
namespace PL
open PySem
structure LeanOk (a b:Int):Prop where
 a0:0≤a
 a1:a≤1000000000
 b0:1≤b
 b1:b≤1000000000
theorem LeanOk.pos {a b m:Int}(h:LeanOk a b)(hm:0≤m):0<b+m*a:=by
 have:=Int.mul_nonneg hm h.a0
 have:=h.b0
 omega
theorem LeanOk.le {a b m:Int}(h:LeanOk a b)(hm:0≤m)(hm2:m≤60):b+m*a≤61000000000:=by
 have h1:m*a≤60*1000000000:=Int.mul_le_mul hm2 h.a1 h.a0 (by omega)
 have:=h.b1
 omega
theorem LeanOk.top {a b m:Int}(h:LeanOk a b)(hm:0≤m)(hm2:m≤60):0≤m*b∧m*b≤60000000000:=by
 have h1:m*b≤60*1000000000:=Int.mul_le_mul hm2 h.b1 (by have:=h.b0;omega) (by omega)
 have h2:=Int.mul_nonneg hm (show 0≤b by have:=h.b0;omega)
 omega
abbrev Part:=Int × Nat × Nat
def Part.v (x:Part):Val:=.tup [.int x.1,.int x.2.1,.int x.2.2]
def MarksOk (q:List Int):Prop:=∀ m∈q,0≤m∧m≤60
def PartOk (q:List Int)(x:Part):Prop:=1≤x.1∧x.1≤9∧x.2.1<q.length∧x.2.2<q.length
theorem MarksOk.at_ {q:List Int}(h:MarksOk q){i:Nat}(hi:i<q.length):0≤q.getD i 0∧q.getD i 0≤60:=by
 rw [List.getD_eq_getElem?_getD,List.getElem?_eq_getElem hi]
 exact h _ (List.getElem_mem hi)
end PL
end
section
namespace PL
open PySem
theorem atI_nat {α:Type}{l:List α}{n:Nat}(h:n<l.length):L2.atI l (n:Int)=l[n]? := by
 unfold L2.atI L2.ixN
 have h1:¬ ((n:Int)<0):=by omega
 simp [h1,h]
end PL
namespace K10
open PySem PL
end K10
end
section
namespace PL
open PySem
end PL
namespace K10
open PySem PL
def parV (l:List Part):Val:=.tup (l.map Part.v)
def picV (q:List Int):Val:=.tup (q.map .int)
end K10
end
section
namespace K10
open PySem PL
end K10
end
section
namespace K10
open PySem PL
end K10
end
section
namespace K10
open PySem PL
end K10
end
section
namespace PL
open PySem
def WordOk (w:Str):Prop:=w = "less" ∨ w = "upto" ∨ w = "same"
structure Clm where
 w:Str
 l:List Part
 r:List Part
end PL
namespace K10
open PySem PL
def Clm.v (c:Clm):Val:=.tup [.str c.w,parV c.l,parV c.r]
end K10
end
section
namespace PL
open PySem
def Spr (κ:Ks)(i:Nat):Prop:=∃ a b:Int,κ[i]? = some (.lst [.int a,.int b])∧0≤a∧0≤b∧b≤2147483587
theorem ix_cell {κ:Ks}{i:Nat}{l:List Val}{n:Int}(h:κ[i]? = some (.lst l)):ixV κ (.cell i) (.int n)=L2.atI l n:=by
 show (match κ[i]? with|some (.lst l)=>L2.atI l n|_=>none)=_
 rw [h]
theorem spr_set {κ:Ks}{i:Nat}{l:List Val}(h:κ[i]? = some (.lst l)){a b:Int}(ha:0≤a)(hb:0≤b)(hb2:b≤2147483587):Spr (κ.set i (.lst [.int a,.int b])) i:=by
 refine ⟨a,b,?_,ha,hb,hb2⟩
 have:=(List.getElem?_eq_some_iff.mp h).1
 rw [List.getElem?_set_self this]
theorem ixN2_0:L2.ixN (0+1+1) 0=some 0:=rfl
theorem ixN2_1:L2.ixN (0+1+1) 1=some 1:=rfl
end PL
namespace K10
open PySem PL
theorem s_pick (d:Nat){κ:Ks}{i:Nat}(hS:Spr κ i){m:Int}(h1:1≤m)(h2:m≤2^200):∃ r κ',(cb tab (d+1)).cf 17 [.v (.cell i),.v (.int m)] κ=.ok (.int r,κ')∧0≤r∧r<m∧Spr κ' i∧κ'.length=κ.length:=by
 obtain ⟨a,b,hk,ha,hb,hb2⟩:=hS
 rw [Qqf _ _ _ _ _ rfl rfl]
 have i0:ixV κ (.cell i) (.int 0)=some (.int a):=by rw [ix_cell hk];rfl
 have i1:ixV κ (.cell i) (.int 1)=some (.int b):=by rw [ix_cell hk];rfl
 have mm:∀ z:Int,opV .mod (.int z) (.int m)=some (.int (z % m)):=fun z=>op_mod (by omega)
 have fm:∀ z:Int,opV .fdiv (.int z) (.int m)=some (.int (z/m)):=fun z=>op_fdiv (by omega) (Nat.lt_of_le_of_lt (show m.natAbs≤2^200 by omega) (Nat.pow_lt_pow_right (by decide) (by decide)))
 have lt:=(List.getElem?_eq_some_iff.mp hk).1
 by_cases h0:0<a
 ·refine ⟨a % m,κ.set i (.lst [.int (a/m),.int b]),?_,Int.emod_nonneg _ (by omega),Int.emod_lt_of_pos _ (by omega),spr_set hk (Int.ediv_nonneg ha (by omega)) hb hb2,List.length_set ..⟩
  simp only [ir__law_pick,List.replicate,Nat.reduceSub,exSs,exS,evE,evT,evEs,evA,evBs,evO,evOt,evI,bw,rdV,rdB,R.bind_ok,R.bind_exc,R.bind_bad,R.ofO_some,R.ofO_none,R.toO_ok,R.toO_exc,R.toO_bad,O.then_nx,O.then_ret,O.then_exc,O.then_bad,O.fin_nx,O.fin_ret,O.fin_exc,O.fin_bad,Option.map_some,Option.map_none,List.map_cons,List.map_nil,Ar.slot,List.cons_append,List.nil_append,List.length_cons,List.length_nil,List.getElem?_cons_zero,List.getElem?_cons_succ,List.set_cons_zero,List.set_cons_succ,Qzc,Qqb,Qq9,Qqq,Qq6,Qq8,Qq7,Qqv,Qqw,Qq2,Qq3,Qq4,Qq5,Qqr,Qz0,Qz1,Qz2,Qqt,Qqs,reduceCtorEq,decide_true,decide_false,Bool.or_true,Bool.or_false,Bool.true_or,Bool.false_or,blV,ntV,ngV,Qzk,op_add,op_sub,Qqk,Qqm,Qqn,Qqp,Qqj,Qqz,Qqh,i0,h0,decide_true,if_true,mm,fm,hk,ixN2_0]
 ·have a0:a=0:=by omega
  have f7:∀ z:Int,opV .fdiv (.int z) (.int 7)=some (.int (z/7)):=fun z=>op_fdiv (by decide) (Nat.lt_of_lt_of_le (show 7<2^3 by decide) (Nat.pow_le_pow_right (by decide) (by decide)))
  have f64:∀ z:Int,opV .fdiv (.int z) (.int 64)=some (.int (z/64)):=fun z=>op_fdiv (by decide) (Nat.lt_of_lt_of_le (show 64<2^8 by decide) (Nat.pow_le_pow_right (by decide) (by decide)))
  have m1:opV .mul (.int b) (.int 44021)=some (.int (b*44021)):=op_mul (mulOk2 (by decide))
  have n1:∀ z:Int,opV .mod (.int z) (.int 2147483587)=some (.int (z % 2147483587)):=fun z=>op_mod (by decide)
  have n2:∀ z:Int,opV .mod (.int z) (.int 2147483563)=some (.int (z % 2147483563)):=fun z=>op_mod (by decide)
  have c0:0≤(b*44021+97) % 2147483587:=Int.emod_nonneg _ (by decide)
  have c1:(b*44021+97) % 2147483587<2147483587:=Int.emod_lt_of_pos _ (by decide)
  generalize hc:(b*44021+97) % 2147483587=c at *
  have m2:∀ z:Int,opV .mul (.int c) (.int z)=some (.int (c*z)):=fun z=>op_mul (mulOk1 (by omega))
  have hk2:(κ.set i (.lst [.int a,.int c]))[i]? = some (.lst [.int a,.int c]):=by rw [List.getElem?_set_self lt]
  have j1:ixV (κ.set i (.lst [.int a,.int c])) (.cell i) (.int 1)=some (.int c):=by rw [ix_cell hk2];rfl
  refine ⟨(c*(c/7+3)) % 2147483563/64 % m,κ.set i (.lst [.int a,.int c]),?_,Int.emod_nonneg _ (by omega),Int.emod_lt_of_pos _ (by omega),spr_set hk ha c0 (by omega),List.length_set ..⟩
  simp only [ir__law_pick,List.replicate,Nat.reduceSub,exSs,exS,evE,evT,evEs,evA,evBs,evO,evOt,evI,bw,rdV,rdB,R.bind_ok,R.bind_exc,R.bind_bad,R.ofO_some,R.ofO_none,R.toO_ok,R.toO_exc,R.toO_bad,O.then_nx,O.then_ret,O.then_exc,O.then_bad,O.fin_nx,O.fin_ret,O.fin_exc,O.fin_bad,Option.map_some,Option.map_none,List.map_cons,List.map_nil,Ar.slot,List.cons_append,List.nil_append,List.length_cons,List.length_nil,List.getElem?_cons_zero,List.getElem?_cons_succ,List.set_cons_zero,List.set_cons_succ,Qzc,Qqb,Qq9,Qqq,Qq6,Qq8,Qq7,Qqv,Qqw,Qq2,Qq3,Qq4,Qq5,Qqr,Qz0,Qz1,Qz2,Qqt,Qqs,reduceCtorEq,decide_true,decide_false,Bool.or_true,Bool.or_false,Bool.true_or,Bool.false_or,blV,ntV,ngV,Qzk,op_add,op_sub,Qqk,Qqm,Qqn,Qqp,Qqj,Qqz,Qqh,i0,i1,h0,decide_false,if_false,m1,n1,hc,hk,ixN2_1,j1,f7,m2,n2,f64,mm,Bool.false_eq_true]
theorem s_chosen (d:Nat){κ:Ks}{i:Nat}(hS:Spr κ i){l:List Val}(h1:1≤l.length)(h2:l.length≤1000):∃ v κ',(cb tab (d+2)).cf 18 [.v (.cell i),.v (.lst l)] κ=.ok (v,κ')∧v∈l∧Spr κ' i∧κ'.length=κ.length:=by
 obtain ⟨r,κ',e,r0,r1,hS',hl⟩:=s_pick d hS (m:=(l.length:Int)) (by omega) (by omega)
 have hr:r.toNat<l.length:=by omega
 have er:r=(r.toNat:Int):=by omega
 have ix:ixV κ' (.lst l) (.int r)=some l[r.toNat]:=by
  have:=ix_lst (κ:=κ') (l:=l) (i:=(r.toNat:Int)) (by rw [atI_nat hr];exact List.getElem?_eq_getElem hr)
  rwa [← er] at this
 refine ⟨l[r.toNat],κ',?_,List.getElem_mem hr,hS',hl⟩
 rw [Qqf _ _ _ _ _ rfl rfl]
 simp only [ir__law_chosen,List.replicate,Nat.reduceSub,List.append_nil,exSs,exS,evE,evT,evEs,evA,evBs,evO,evOt,evI,bw,rdV,rdB,R.bind_ok,R.bind_exc,R.bind_bad,R.ofO_some,R.ofO_none,R.toO_ok,R.toO_exc,R.toO_bad,O.then_nx,O.then_ret,O.then_exc,O.then_bad,O.fin_nx,O.fin_ret,O.fin_exc,O.fin_bad,Option.map_some,Option.map_none,List.map_cons,List.map_nil,Ar.slot,List.cons_append,List.nil_append,List.length_cons,List.length_nil,List.getElem?_cons_zero,List.getElem?_cons_succ,List.set_cons_zero,List.set_cons_succ,Qzc,Qqb,Qq9,Qqq,Qq6,Qq8,Qq7,Qqv,Qqw,Qq2,Qq3,Qq4,Qq5,Qqr,Qz0,Qz1,Qz2,Qqt,Qqs,reduceCtorEq,decide_true,decide_false,Bool.or_true,Bool.or_false,Bool.true_or,Bool.false_or,blV,ntV,ngV,Qzk,op_add,op_sub,Qqk,Qqm,Qqn,Qqp,Qqj,Qqz,Qqh,evBs,e,ix]
theorem s_spring (d:Nat){κ:Ks}{ns:List Int}{k:Nat}:∃ a b:Int,(cb tab (d+1)).cf 16 [.v (.scr ns),.v (.int k)] κ=.ok (.lst [.int a,.int b],κ)∧0≤a∧0≤b∧b≤2147483587:=by
 rw [Qqf _ _ _ _ _ rfl rfl]
 have ab:∀ z:Int,(if z<0 then -z else z)=(z.natAbs:Int):=fun z=>by split <;> omega
 have m1:∀ z:Int,opV .mul (.int z) (.int 48611)=some (.int (z*48611)):=fun z=>op_mul (mulOk2 (by decide))
 have m2:∀ z:Int,opV .mul (.int 7907) (.int z)=some (.int (7907*z)):=fun z=>op_mul (mulOk1 (by decide))
 have m3:∀ z:Int,opV .mul (.int 6007) (.int z)=some (.int (6007*z)):=fun z=>op_mul (mulOk1 (by decide))
 have n1:∀ z:Int,opV .mod (.int z) (.int 2147483587)=some (.int (z % 2147483587)):=fun z=>op_mod (by decide)
 have pw:opV .pow (.int 10) (.int 15)=some (.int 1000000000000000):=rfl
 have two:(0+1+1≤LINE)=True:=eq_true (by decide)
 have lenE:biV .len [.scr ns]=some (.int ns.length):=rfl
 have key:∀ z:Int,0≤z→∃ a b:Int,exSs (cb tab d) (.cons (.ret (.lst (.cons (.ite (.cm .gt (.var 2) (.op .pow (.con (.int (10))) (.con (.int (15))))) (.var 2) (.con (.int (0)))) (.cons (.op .add (.op .mod (.bi .int (.cons (.op .add (.op .add (.op .mul (.var 2) (.con (.int (48611)))) (.op .mul (.con (.int (7907))) (.var 1))) (.con (.int (13)))) .nil)) (.con (.int (2147483587)))) (.con (.int (1)))) .nil)))) .nil) [some (.val (.scr ns)),some (.val (.int k)),some (.val (.int z))] κ=.ret (.lst [.int a,.int b]) κ∧0≤a∧0≤b∧b≤2147483587:=by
  intro z hz
  have c0:0≤(z*48611+7907*(k:Int)+13) % 2147483587:=Int.emod_nonneg _ (by decide)
  have c1:(z*48611+7907*(k:Int)+13) % 2147483587<2147483587:=Int.emod_lt_of_pos _ (by decide)
  refine ⟨if decide (1000000000000000<z)=true then z else 0,(z*48611+7907*(k:Int)+13) % 2147483587+1,?_,by split <;> omega,by omega,by omega⟩
  by_cases hc:1000000000000000<z
  ·simp only [exSs,exS,evE,evT,evEs,evA,evBs,evO,evOt,evI,bw,rdV,rdB,R.bind_ok,R.bind_exc,R.bind_bad,R.ofO_some,R.ofO_none,R.toO_ok,R.toO_exc,R.toO_bad,O.then_nx,O.then_ret,O.then_exc,O.then_bad,O.fin_nx,O.fin_ret,O.fin_exc,O.fin_bad,Option.map_some,Option.map_none,List.map_cons,List.map_nil,Ar.slot,List.cons_append,List.nil_append,List.length_cons,List.length_nil,List.getElem?_cons_zero,List.getElem?_cons_succ,List.set_cons_zero,List.set_cons_succ,Qzc,Qqb,Qq9,Qqq,Qq6,Qq8,Qq7,Qqv,Qqw,Qq2,Qq3,Qq4,Qq5,Qqr,Qz0,Qz1,Qz2,Qqt,Qqs,reduceCtorEq,decide_true,decide_false,Bool.or_true,Bool.or_false,Bool.true_or,Bool.false_or,blV,ntV,ngV,Qzk,op_add,op_sub,Qqk,Qqm,Qqn,Qqp,Qqj,Qqz,Qqh,evBs,m1,m2,n1,pw,two,hc,decide_true,if_true]
  ·simp only [exSs,exS,evE,evT,evEs,evA,evBs,evO,evOt,evI,bw,rdV,rdB,R.bind_ok,R.bind_exc,R.bind_bad,R.ofO_some,R.ofO_none,R.toO_ok,R.toO_exc,R.toO_bad,O.then_nx,O.then_ret,O.then_exc,O.then_bad,O.fin_nx,O.fin_ret,O.fin_exc,O.fin_bad,Option.map_some,Option.map_none,List.map_cons,List.map_nil,Ar.slot,List.cons_append,List.nil_append,List.length_cons,List.length_nil,List.getElem?_cons_zero,List.getElem?_cons_succ,List.set_cons_zero,List.set_cons_succ,Qzc,Qqb,Qq9,Qqq,Qq6,Qq8,Qq7,Qqv,Qqw,Qq2,Qq3,Qq4,Qq5,Qqr,Qz0,Qz1,Qz2,Qqt,Qqs,reduceCtorEq,decide_true,decide_false,Bool.or_true,Bool.or_false,Bool.true_or,Bool.false_or,blV,ntV,ngV,Qzk,op_add,op_sub,Qqk,Qqm,Qqn,Qqp,Qqj,Qqz,Qqh,evBs,m1,m2,n1,pw,two,hc,decide_false,if_false,if_true,Bool.false_eq_true]
 by_cases hk:(k:Int)<(ns.length:Int)
 ·have hk':k<ns.length:=by omega
  have ix:ixV κ (.scr ns) (.int (k:Int))=some (.int ns[k]):=by
   show (L2.atI ns (k:Int)).map Val.int=_
   rw [atI_nat hk',List.getElem?_eq_getElem hk'];rfl
  obtain ⟨a,b,e,r⟩:=key ((ns[k].natAbs:Nat):Int) (by omega)
  refine ⟨a,b,?_,r⟩
  have e1:exS (cb tab d) (.set 2 (.ite (.cm .lt (.var 1) (.bi .len (.cons (.var 0) .nil))) (.bi .abs (.cons (.bi .int (.cons (.ix (.var 0) (.var 1)) .nil)) .nil)) (.op .add (.op .mul (.con (.int (6007))) (.var 1)) (.con (.int (29)))))) [some (.val (.scr ns)),some (.val (.int k)),none] κ=.nx [some (.val (.scr ns)),some (.val (.int k)),some (.val (.int ((ns[k].natAbs:Nat):Int)))] κ:=by
   simp only [exSs,exS,evE,evT,evEs,evA,evBs,evO,evOt,evI,bw,rdV,rdB,R.bind_ok,R.bind_exc,R.bind_bad,R.ofO_some,R.ofO_none,R.toO_ok,R.toO_exc,R.toO_bad,O.then_nx,O.then_ret,O.then_exc,O.then_bad,O.fin_nx,O.fin_ret,O.fin_exc,O.fin_bad,Option.map_some,Option.map_none,List.map_cons,List.map_nil,Ar.slot,List.cons_append,List.nil_append,List.length_cons,List.length_nil,List.getElem?_cons_zero,List.getElem?_cons_succ,List.set_cons_zero,List.set_cons_succ,Qzc,Qqb,Qq9,Qqq,Qq6,Qq8,Qq7,Qqv,Qqw,Qq2,Qq3,Qq4,Qq5,Qqr,Qz0,Qz1,Qz2,Qqt,Qqs,reduceCtorEq,decide_true,decide_false,Bool.or_true,Bool.or_false,Bool.true_or,Bool.false_or,blV,ntV,ngV,Qzk,op_add,op_sub,Qqk,Qqm,Qqn,Qqp,Qqj,Qqz,Qqh,evBs,hk,decide_true,if_true,ix,ab]
  show ((exS (cb tab d) _ [some (.val (.scr ns)),some (.val (.int k)),none] κ).then _).fin=_
  refine (congrArg (fun o=>(O.then o _).fin) e1).trans ?_
  exact congrArg O.fin e
 ·obtain ⟨a,b,e,r⟩:=key (6007*(k:Int)+29) (by omega)
  refine ⟨a,b,?_,r⟩
  have e1:exS (cb tab d) (.set 2 (.ite (.cm .lt (.var 1) (.bi .len (.cons (.var 0) .nil))) (.bi .abs (.cons (.bi .int (.cons (.ix (.var 0) (.var 1)) .nil)) .nil)) (.op .add (.op .mul (.con (.int (6007))) (.var 1)) (.con (.int (29)))))) [some (.val (.scr ns)),some (.val (.int k)),none] κ=.nx [some (.val (.scr ns)),some (.val (.int k)),some (.val (.int (6007*(k:Int)+29)))] κ:=by
   simp only [exSs,exS,evE,evT,evEs,evA,evBs,evO,evOt,evI,bw,rdV,rdB,R.bind_ok,R.bind_exc,R.bind_bad,R.ofO_some,R.ofO_none,R.toO_ok,R.toO_exc,R.toO_bad,O.then_nx,O.then_ret,O.then_exc,O.then_bad,O.fin_nx,O.fin_ret,O.fin_exc,O.fin_bad,Option.map_some,Option.map_none,List.map_cons,List.map_nil,Ar.slot,List.cons_append,List.nil_append,List.length_cons,List.length_nil,List.getElem?_cons_zero,List.getElem?_cons_succ,List.set_cons_zero,List.set_cons_succ,Qzc,Qqb,Qq9,Qqq,Qq6,Qq8,Qq7,Qqv,Qqw,Qq2,Qq3,Qq4,Qq5,Qqr,Qz0,Qz1,Qz2,Qqt,Qqs,reduceCtorEq,decide_true,decide_false,Bool.or_true,Bool.or_false,Bool.true_or,Bool.false_or,blV,ntV,ngV,Qzk,op_add,op_sub,Qqk,Qqm,Qqn,Qqp,Qqj,Qqz,Qqh,evBs,hk,decide_false,if_false,m3,Bool.false_eq_true]
  show ((exS (cb tab d) _ [some (.val (.scr ns)),some (.val (.int k)),none] κ).then _).fin=_
  refine (congrArg (fun o=>(O.then o _).fin) e1).trans ?_
  exact congrArg O.fin e
end K10
end
section
namespace PL
open PySem
structure PicOk (q:List Int):Prop where
 l3:3≤q.length
 l5:q.length≤5
 head:q[0]? = some 0
 asc:q.Pairwise (· < ·)
 marks:MarksOk q
theorem op_tup {x y:List Val}(h:x.length+y.length≤1000):opV .add (.tup x) (.tup y)=some (.tup (x++y)):=by
 show (if x.length+y.length≤LINE then some (Val.tup (x++y)) else none)=_
 rw [if_pos (Nat.le_trans h (by decide))]
theorem op_lst {x y:List Val}(h:x.length+y.length≤1000):opV .add (.lst x) (.lst y)=some (.lst (x++y)):=by
 show (if x.length+y.length≤LINE then some (Val.lst (x++y)) else none)=_
 rw [if_pos (Nat.le_trans h (by decide))]
theorem rng1_ok {r:Int}(h0:0≤r)(h1:r≤1000):rngV1 [.int r]=some (rngL 0 r):=by
 show (if rngOk 0 r then some (rngL 0 r) else none)=_
 unfold rngOk
 rw [decide_eq_true (show (-1000000:Int)≤0 by decide),decide_eq_true (show (0:Int)≤1000000 by decide),decide_eq_true (show (-1000000:Int)≤r by omega),decide_eq_true (show r≤1000000 by omega)]
 rfl
theorem rngL_len (r:Int):(rngL 0 r).length=r.toNat:=by
 unfold rngL;simp
theorem rngL_at {r:Int}{n:Nat}{v:Val}(h:(rngL 0 r)[n]? = some v):v=.int (n:Int)∧n<r.toNat:=by
 unfold rngL at h
 rw [List.getElem?_map] at h
 have hn:n<r.toNat:=by
  by_cases hn:n<r.toNat
  ·exact hn
  ·rw [List.getElem?_eq_none (by simp;omega)] at h;cases h
 rw [List.getElem?_range (by simpa using hn)] at h
 simp at h
 exact ⟨h.symm,hn⟩
theorem le1:(0+1≤LINE)=True:=eq_true (by decide)
theorem le2:(0+1+1≤LINE)=True:=eq_true (by decide)
theorem le3:(0+1+1+1≤LINE)=True:=eq_true (by decide)
theorem le4:(0+1+1+1+1≤LINE)=True:=eq_true (by decide)
def Dr14 (q:List Int):Prop:=∀ j,j+1<q.length→q.getD (j+1) 0≤q.getD j 0+14
theorem getD_app_l {q r:List Int}{j:Nat}(h:j<q.length):(q++r).getD j 0=q.getD j 0:=by
 rw [List.getD_eq_getElem?_getD,List.getElem?_append_left h,← List.getD_eq_getElem?_getD]
theorem getD_snoc (q:List Int)(x:Int):(q++[x]).getD q.length 0=x:=by
 rw [List.getD_eq_getElem?_getD,List.getElem?_append_right (Nat.le_refl _),Nat.sub_self];rfl
end PL
namespace K10
open PySem PL
theorem s_shot (d:Nat){κ:Ks}{i:Nat}(hS:Spr κ i):∃ q κ',(cb tab (d+3)).cf 19 [.v (.cell i),.v (.int 5)] κ=.ok (picV q,κ')∧PicOk q∧Spr κ' i∧κ'.length=κ.length∧Dr14 q:=by
 rw [Qqf _ _ _ _ _ rfl rfl]
 obtain ⟨r,κ1,e1,r0,r1,hS1,hl1⟩:=s_pick (d+1) hS (m:=3) (by decide) (by decide)
 have hi:evI (cb tab (d+2)) (.rng1 (.cons (.op .add (.con (.int (2))) (.call 17 (.cons (.var 0) (.cons (.op .sub (.var 1) (.con (.int (2)))) .nil)))) .nil)) [some (.val (.cell i)),some (.val (.int 5)),some (.val (picV ([]++[0]))),none] κ=.ok (rngL 0 (2+r),κ1):=by
  simp only [exSs,exS,evE,evT,evEs,evA,evBs,evO,evOt,evI,bw,rdV,rdB,R.bind_ok,R.bind_exc,R.bind_bad,R.ofO_some,R.ofO_none,R.toO_ok,R.toO_exc,R.toO_bad,O.then_nx,O.then_ret,O.then_exc,O.then_bad,O.fin_nx,O.fin_ret,O.fin_exc,O.fin_bad,Option.map_some,Option.map_none,List.map_cons,List.map_nil,Ar.slot,List.cons_append,List.nil_append,List.length_cons,List.length_nil,List.getElem?_cons_zero,List.getElem?_cons_succ,List.set_cons_zero,List.set_cons_succ,Qzc,Qqb,Qq9,Qqq,Qq6,Qq8,Qq7,Qqv,Qqw,Qq2,Qq3,Qq4,Qq5,Qqr,Qz0,Qz1,Qz2,Qqt,Qqs,reduceCtorEq,decide_true,decide_false,Bool.or_true,Bool.or_false,Bool.true_or,Bool.false_or,blV,ntV,ngV,Qzk,op_add,op_sub,Qqk,Qqm,Qqn,Qqp,Qqj,Qqz,Qqh,show (5:Int)-2=3 from rfl,e1]
  rw [rng1_ok (by omega) (by omega)]
  rfl
 obtain ⟨ρ',κ',e,hS',hl',q0,x,e3,er,hlen,hh,hp,hb,hd⟩:=loop_inv (c:=cb tab (d+2)) (tg:=.nm 3)
  (b:=.cons (.set 2 (.op .add (.var 2) (.tup (.cons (.op .add (.op .add (.ix (.var 2) (.neg (.con (.int (1))))) (.con (.int (1)))) (.call 17 (.cons (.var 0) (.cons (.call 18 (.cons (.var 0) (.cons (.lst (.cons (.con (.int (2))) (.cons (.con (.int (4))) (.cons (.con (.int (14))) .nil)))) .nil))) .nil)))) .nil)))) .nil)
  (fun n ρ k=>Spr k i∧k.length=κ.length∧∃ q0 x e3,ρ=[some (.val (.cell i)),some (.val (.int 5)),some (.val (picV (q0++[x]))),e3]∧q0.length=n∧(q0++[x])[0]? = some 0∧(q0++[x]).Pairwise (· < ·)∧(∀ m∈q0++[x],0≤m∧m≤14*(n:Int))∧Dr14 (q0++[x]))
  hi ⟨hS1,hl1,[],0,none,rfl,rfl,rfl,by simp,by simp,fun j hj=>by simp at hj⟩ (fun n v ρ k hv ⟨hSk,hlk,q0,x,e3,er,hlen,hh,hp,hb,hd⟩=>by
   obtain ⟨ev,hn⟩:=rngL_at hv
   subst ev
   subst er
   obtain ⟨c,k2,ec,hc,hS2,hl2⟩:=s_chosen d hSk (l:=[.int 2,.int 4,.int 14]) (by decide) (by decide)
   have hcb:∃ z:Int,c=.int z∧1≤z∧z≤14:=by
    simp only [List.mem_cons,List.mem_nil_iff,or_false] at hc
    rcases hc with h|h|h <;> subst h
    ·exact ⟨2,rfl,by decide,by decide⟩
    ·exact ⟨4,rfl,by decide,by decide⟩
    ·exact ⟨14,rfl,by decide,by decide⟩
   obtain ⟨z,ez,z1,z14⟩:=hcb
   subst ez
   obtain ⟨p,k3,ep,p0,p1,hS3,hl3⟩:=s_pick (d+1) hS2 (m:=z) z1 (by omega)
   have ix:∀ k:Ks,ixV k (picV (q0++[x])) (.int (-1))=some (.int x):=fun k=>by
    show L2.atI ((q0++[x]).map Val.int) (-1)=_
    rw [List.map_append]
    exact L2.atI_last _ _
   have ad:opV .add (picV (q0++[x])) (.tup [.int (x+1+p)])=some (picV ((q0++[x])++[x+1+p])):=by
    show opV .add (.tup _) _=_
    rw [op_tup (by simp;omega)]
    simp [picV]
   have hx:=hb x (by simp)
   refine ⟨[some (.val (.cell i)),some (.val (.int 5)),some (.val (picV (q0++[x]))),some (.val (.int (n:Int)))],[some (.val (.cell i)),some (.val (.int 5)),some (.val (picV ((q0++[x])++[x+1+p]))),some (.val (.int (n:Int)))],k3,rfl,?_,hS3,by omega,q0++[x],x+1+p,_,rfl,by simp;omega,?_,?_,?_,?_⟩
   ·simp only [exSs,exS,evE,evT,evEs,evA,evBs,evO,evOt,evI,bw,rdV,rdB,R.bind_ok,R.bind_exc,R.bind_bad,R.ofO_some,R.ofO_none,R.toO_ok,R.toO_exc,R.toO_bad,O.then_nx,O.then_ret,O.then_exc,O.then_bad,O.fin_nx,O.fin_ret,O.fin_exc,O.fin_bad,Option.map_some,Option.map_none,List.map_cons,List.map_nil,Ar.slot,List.cons_append,List.nil_append,List.length_cons,List.length_nil,List.getElem?_cons_zero,List.getElem?_cons_succ,List.set_cons_zero,List.set_cons_succ,Qzc,Qqb,Qq9,Qqq,Qq6,Qq8,Qq7,Qqv,Qqw,Qq2,Qq3,Qq4,Qq5,Qqr,Qz0,Qz1,Qz2,Qqt,Qqs,reduceCtorEq,decide_true,decide_false,Bool.or_true,Bool.or_false,Bool.true_or,Bool.false_or,blV,ntV,ngV,Qzk,op_add,op_sub,Qqk,Qqm,Qqn,Qqp,Qqj,Qqz,Qqh,le1,le3,if_true,ix,ec,ep,ad]
   ·rw [List.getElem?_append_left (by simp)];exact hh
   ·rw [List.pairwise_append]
    refine ⟨hp,by simp,fun a ha b hb' => ?_⟩
    simp only [List.mem_singleton] at hb'
    subst hb'
    have:a≤x:=by
     rcases List.mem_append.mp ha with h|h
     ·have:=(List.pairwise_append.mp hp).2.2 a h x (by simp);omega
     ·simp only [List.mem_singleton] at h;omega
    omega
   ·intro m hm
    rcases List.mem_append.mp hm with h|h
    ·have:=hb m h;omega
    ·simp only [List.mem_singleton] at h
     subst h
     constructor <;> omega
   ·intro j hj
    have ln:(q0++[x]++[x+1+p]).length=(q0++[x]).length+1:=by simp
    rw [ln] at hj
    by_cases hj2:j+1<(q0++[x]).length
    ·rw [getD_app_l hj2,getD_app_l (show j<(q0++[x]).length by omega)]
     exact hd j hj2
    ·have e1:j+1=(q0++[x]).length:=by omega
     have e2:j=q0.length:=by simp at e1;omega
     rw [e1,getD_snoc,getD_app_l (show j<(q0++[x]).length by omega),e2,getD_snoc]
     omega)
 rw [rngL_len] at hlen hb
 have hn:((2+r).toNat:Int)=2+r:=by omega
 refine ⟨q0++[x],κ',?_,⟨by simp;omega,by simp;omega,hh,hp,fun m hm=>by have:=hb m hm;omega⟩,hS',hl',hd⟩
 have e0:exS (cb tab (d+2)) (.set 2 (.tup (.cons (.con (.int (0))) .nil))) [some (.val (.cell i)),some (.val (.int 5)),none,none] κ=.nx [some (.val (.cell i)),some (.val (.int 5)),some (.val (picV ([]++[0]))),none] κ:=by
  simp only [exSs,exS,evE,evT,evEs,evA,evBs,evO,evOt,evI,bw,rdV,rdB,R.bind_ok,R.bind_exc,R.bind_bad,R.ofO_some,R.ofO_none,R.toO_ok,R.toO_exc,R.toO_bad,O.then_nx,O.then_ret,O.then_exc,O.then_bad,O.fin_nx,O.fin_ret,O.fin_exc,O.fin_bad,Option.map_some,Option.map_none,List.map_cons,List.map_nil,Ar.slot,List.cons_append,List.nil_append,List.length_cons,List.length_nil,List.getElem?_cons_zero,List.getElem?_cons_succ,List.set_cons_zero,List.set_cons_succ,Qzc,Qqb,Qq9,Qqq,Qq6,Qq8,Qq7,Qqv,Qqw,Qq2,Qq3,Qq4,Qq5,Qqr,Qz0,Qz1,Qz2,Qqt,Qqs,reduceCtorEq,decide_true,decide_false,Bool.or_true,Bool.or_false,Bool.true_or,Bool.false_or,blV,ntV,ngV,Qzk,op_add,op_sub,Qqk,Qqm,Qqn,Qqp,Qqj,Qqz,Qqh,le1,if_true]
  rfl
 show ((exS (cb tab (d+2)) (.set 2 _) [some (.val (.cell i)),some (.val (.int 5)),none,none] κ).then fun ρ κ=>(exS (cb tab (d+2)) (.loop _ _ _) ρ κ).then _).fin=_
 rw [e0,O.then_nx]
 refine (congrArg (fun o=>(O.then o _).fin) e).trans ?_
 rw [er]
 simp only [exSs,exS,evE,evT,evEs,evA,evBs,evO,evOt,evI,bw,rdV,rdB,R.bind_ok,R.bind_exc,R.bind_bad,R.ofO_some,R.ofO_none,R.toO_ok,R.toO_exc,R.toO_bad,O.then_nx,O.then_ret,O.then_exc,O.then_bad,O.fin_nx,O.fin_ret,O.fin_exc,O.fin_bad,Option.map_some,Option.map_none,List.map_cons,List.map_nil,Ar.slot,List.cons_append,List.nil_append,List.length_cons,List.length_nil,List.getElem?_cons_zero,List.getElem?_cons_succ,List.set_cons_zero,List.set_cons_succ,Qzc,Qqb,Qq9,Qqq,Qq6,Qq8,Qq7,Qqv,Qqw,Qq2,Qq3,Qq4,Qq5,Qqr,Qz0,Qz1,Qz2,Qqt,Qqs,reduceCtorEq,decide_true,decide_false,Bool.or_true,Bool.or_false,Bool.true_or,Bool.false_or,blV,ntV,ngV,Qzk,op_add,op_sub,Qqk,Qqm,Qqn,Qqp,Qqj,Qqz,Qqh]
end K10
end
section
namespace PL
open PySem
def PartS (q:List Int)(x:Part):Prop:=1≤x.1∧x.1≤9∧x.2.1<x.2.2∧x.2.2<q.length
theorem PartS.ok {q:List Int}{x:Part}(h:PartS q x):PartOk q x:=⟨h.1,h.2.1,by have:=h.2.2;omega,h.2.2.2⟩
structure SumOk (q:List Int)(l:List Part):Prop where
 l1:1≤l.length
 l3:l.length≤3
 parts:∀ x∈l,PartS q x
structure ClaimOk (q:List Int)(c:Clm):Prop where
 w:WordOk c.w
 l:SumOk q c.l
 r:SumOk q c.r
structure ClmS (q:List Int)(c:Clm):Prop where
 ok:ClaimOk q c
 l2:c.l.length≤2
 r2:c.r.length≤2
theorem noExcOk {α:Type}(a:α):noExc (.ok a)=.ok a:=rfl
end PL
namespace K10
open PySem PL
theorem len_pic (q:List Int):biV .len [picV q]=some (.int q.length):=by
 show some (Val.int (q.map Val.int).length)=_
 rw [List.length_map]
theorem s_lengths (d:Nat){κ:Ks}{i:Nat}(hS:Spr κ i){q:List Int}(hq:PicOk q){m:Int}(m1:1≤m)(m3:m≤3):∃ l κ',(cb tab (d+3)).cf 20 [.v (.cell i),.v (picV q),.v (.int m)] κ=.ok (parV l,κ')∧SumOk q l∧(l.length:Int)≤m∧Spr κ' i∧κ'.length=κ.length:=by
 rw [Qqf _ _ _ _ _ rfl rfl]
 have hq3:=hq.l3
 have hq5:=hq.l5
 obtain ⟨r,κ1,e1,r0,r1,hS1,hl1⟩:=s_pick (d+1) hS (m:=m) m1 (by omega)
 have hi:evI (cb tab (d+2)) (.rng1 (.cons (.op .add (.con (.int (1))) (.call 17 (.cons (.var 0) (.cons (.var 2) .nil)))) .nil)) [some (.val (.cell i)),some (.val (picV q)),some (.val (.int m)),some (.val (parV [])),none,none,none] κ=.ok (rngL 0 (1+r),κ1):=by
  simp only [exSs,exS,evE,evT,evEs,evA,evBs,evO,evOt,evI,bw,rdV,rdB,R.bind_ok,R.bind_exc,R.bind_bad,R.ofO_some,R.ofO_none,R.toO_ok,R.toO_exc,R.toO_bad,O.then_nx,O.then_ret,O.then_exc,O.then_bad,O.fin_nx,O.fin_ret,O.fin_exc,O.fin_bad,Option.map_some,Option.map_none,List.map_cons,List.map_nil,Ar.slot,List.cons_append,List.nil_append,List.length_cons,List.length_nil,List.getElem?_cons_zero,List.getElem?_cons_succ,List.set_cons_zero,List.set_cons_succ,Qzc,Qqb,Qq9,Qqq,Qq6,Qq8,Qq7,Qqv,Qqw,Qq2,Qq3,Qq4,Qq5,Qqr,Qz0,Qz1,Qz2,Qqt,Qqs,reduceCtorEq,decide_true,decide_false,Bool.or_true,Bool.or_false,Bool.true_or,Bool.false_or,blV,ntV,ngV,Qzk,op_add,op_sub,Qqk,Qqm,Qqn,Qqp,Qqj,Qqz,Qqh,e1]
  rw [rng1_ok (by omega) (by omega)]
  rfl
 obtain ⟨ρ',κ',e,hS',hl',l,e4,e5,e6,er,hlen,hb⟩:=loop_inv (c:=cb tab (d+2)) (tg:=.nm 4)
  (b:=.cons (.set 5 (.call 17 (.cons (.var 0) (.cons (.op .sub (.bi .len (.cons (.var 1) .nil)) (.con (.int (1)))) .nil))))
 (.cons (.set 6 (.op .add (.op .add (.var 5) (.con (.int (1)))) (.call 17 (.cons (.var 0) (.cons (.op .sub (.op .sub (.bi .len (.cons (.var 1) .nil)) (.con (.int (1)))) (.var 5)) .nil)))))
 (.cons (.set 3 (.op .add (.var 3) (.tup (.cons (.tup (.cons (.op .add (.con (.int (1))) (.call 17 (.cons (.var 0) (.cons (.call 18 (.cons (.var 0) (.cons (.lst (.cons (.con (.int (1))) (.cons (.con (.int (3))) (.cons (.con (.int (9))) .nil)))) .nil))) .nil)))) (.cons (.var 5) (.cons (.var 6) .nil)))) .nil)))) .nil)))
  (fun n ρ k=>Spr k i∧k.length=κ.length∧∃ l e4 e5 e6,ρ=[some (.val (.cell i)),some (.val (picV q)),some (.val (.int m)),some (.val (parV l)),e4,e5,e6]∧l.length=n∧∀ x∈l,PartS q x)
  hi ⟨hS1,hl1,[],none,none,none,rfl,rfl,by simp⟩ (fun n v ρ k hv ⟨hSk,hlk,l,e4,e5,e6,er,hlen,hb⟩=>by
   obtain ⟨ev,hn⟩:=rngL_at hv
   subst ev
   subst er
   obtain ⟨f,k2,ef,f0,f1,hS2,hl2⟩:=s_pick (d+1) hSk (m:=(q.length:Int)-1) (by omega) (by omega)
   obtain ⟨g,k3,eg,g0,g1,hS3,hl3⟩:=s_pick (d+1) hS2 (m:=(q.length:Int)-1-f) (by omega) (by omega)
   obtain ⟨c,k4,ec,hc,hS4,hl4⟩:=s_chosen d hS3 (l:=[.int 1,.int 3,.int 9]) (by decide) (by decide)
   have hcb:∃ z:Int,c=.int z∧1≤z∧z≤9:=by
    simp only [List.mem_cons,List.mem_nil_iff,or_false] at hc
    rcases hc with h|h|h <;> subst h
    ·exact ⟨1,rfl,by decide,by decide⟩
    ·exact ⟨3,rfl,by decide,by decide⟩
    ·exact ⟨9,rfl,by decide,by decide⟩
   obtain ⟨z,ez,z1,z9⟩:=hcb
   subst ez
   obtain ⟨p,k5,ep,p0,p1,hS5,hl5⟩:=s_pick (d+1) hS4 (m:=z) z1 (by omega)
   have ad:opV .add (parV l) (.tup [.tup [.int (1+p),.int f,.int (f+1+g)]])=some (parV (l++[(1+p,f.toNat,(f+1+g).toNat)])):=by
    show opV .add (.tup _) _=_
    rw [op_tup (by simp;omega)]
    have t1:((f.toNat:Nat):Int)=f:=by omega
    have t2:(((f+1+g).toNat:Nat):Int)=f+1+g:=by omega
    simp [parV,Part.v,t1]
    omega
   refine ⟨[some (.val (.cell i)),some (.val (picV q)),some (.val (.int m)),some (.val (parV l)),some (.val (.int (n:Int))),e5,e6],[some (.val (.cell i)),some (.val (picV q)),some (.val (.int m)),some (.val (parV (l++[(1+p,f.toNat,(f+1+g).toNat)]))),some (.val (.int (n:Int))),some (.val (.int f)),some (.val (.int (f+1+g)))],k5,rfl,?_,hS5,by omega,l++[(1+p,f.toNat,(f+1+g).toNat)],_,_,_,rfl,by simp;omega,?_⟩
   ·simp only [exSs,exS,evE,evT,evEs,evA,evBs,evO,evOt,evI,bw,rdV,rdB,R.bind_ok,R.bind_exc,R.bind_bad,R.ofO_some,R.ofO_none,R.toO_ok,R.toO_exc,R.toO_bad,O.then_nx,O.then_ret,O.then_exc,O.then_bad,O.fin_nx,O.fin_ret,O.fin_exc,O.fin_bad,Option.map_some,Option.map_none,List.map_cons,List.map_nil,Ar.slot,List.cons_append,List.nil_append,List.length_cons,List.length_nil,List.getElem?_cons_zero,List.getElem?_cons_succ,List.set_cons_zero,List.set_cons_succ,Qzc,Qqb,Qq9,Qqq,Qq6,Qq8,Qq7,Qqv,Qqw,Qq2,Qq3,Qq4,Qq5,Qqr,Qz0,Qz1,Qz2,Qqt,Qqs,reduceCtorEq,decide_true,decide_false,Bool.or_true,Bool.or_false,Bool.true_or,Bool.false_or,blV,ntV,ngV,Qzk,op_add,op_sub,Qqk,Qqm,Qqn,Qqp,Qqj,Qqz,Qqh,evBs,len_pic,le1,le3,if_true,ef,eg,ec,ep,ad]
   ·intro x hx
    rcases List.mem_append.mp hx with h|h
    ·exact hb x h
    ·simp only [List.mem_singleton] at h
     subst h
     refine ⟨?_,?_,?_,?_⟩ <;> dsimp only <;> omega)
 rw [rngL_len] at hlen
 refine ⟨l,κ',?_,⟨by omega,by omega,hb⟩,by omega,hS',hl'⟩
 show ((exS (cb tab (d+2)) (.set 3 (.tup .nil)) [some (.val (.cell i)),some (.val (picV q)),some (.val (.int m)),none,none,none,none] κ).then fun ρ κ=>(exS (cb tab (d+2)) (.loop _ _ _) ρ κ).then _).fin=_
 have e0:exS (cb tab (d+2)) (.set 3 (.tup .nil)) [some (.val (.cell i)),some (.val (picV q)),some (.val (.int m)),none,none,none,none] κ=.nx [some (.val (.cell i)),some (.val (picV q)),some (.val (.int m)),some (.val (parV [])),none,none,none] κ:=rfl
 rw [e0,O.then_nx]
 refine (congrArg (fun o=>(O.then o _).fin) e).trans ?_
 rw [er]
 simp only [exSs,exS,evE,evT,evEs,evA,evBs,evO,evOt,evI,bw,rdV,rdB,R.bind_ok,R.bind_exc,R.bind_bad,R.ofO_some,R.ofO_none,R.toO_ok,R.toO_exc,R.toO_bad,O.then_nx,O.then_ret,O.then_exc,O.then_bad,O.fin_nx,O.fin_ret,O.fin_exc,O.fin_bad,Option.map_some,Option.map_none,List.map_cons,List.map_nil,Ar.slot,List.cons_append,List.nil_append,List.length_cons,List.length_nil,List.getElem?_cons_zero,List.getElem?_cons_succ,List.set_cons_zero,List.set_cons_succ,Qzc,Qqb,Qq9,Qqq,Qq6,Qq8,Qq7,Qqv,Qqw,Qq2,Qq3,Qq4,Qq5,Qqr,Qz0,Qz1,Qz2,Qqt,Qqs,reduceCtorEq,decide_true,decide_false,Bool.or_true,Bool.or_false,Bool.true_or,Bool.false_or,blV,ntV,ngV,Qzk,op_add,op_sub,Qqk,Qqm,Qqn,Qqp,Qqj,Qqz,Qqh]
theorem s_saying (d:Nat){κ:Ks}{i:Nat}(hS:Spr κ i){q:List Int}(hq:PicOk q):∃ c κ',(cb tab (d+4)).cf 21 [.v (.cell i),.v (picV q)] κ=.ok (Clm.v c,κ')∧ClmS q c∧Spr κ' i∧κ'.length=κ.length:=by
 rw [Qqf _ _ _ _ _ rfl rfl]
 obtain ⟨w,k1,e1,hw,hS1,hl1⟩:=s_chosen (d+1) hS (l:=[.str "less", .str "less", .str "upto", .str "same"]) (by decide) (by decide)
 have hwb:∃ z:Str,w=.str z∧WordOk z:=by
  simp only [List.mem_cons,List.mem_nil_iff,or_false] at hw
  rcases hw with h|h|h|h <;> subst h
  ·exact ⟨_,rfl,.inl rfl⟩
  ·exact ⟨_,rfl,.inl rfl⟩
  ·exact ⟨_,rfl,.inr (.inl rfl)⟩
  ·exact ⟨_,rfl,.inr (.inr rfl)⟩
 obtain ⟨z,ez,hz⟩:=hwb
 subst ez
 obtain ⟨l,k2,e2,hl,h2l,hS2,hl2⟩:=s_lengths d hS1 hq (m:=2) (by decide) (by decide)
 obtain ⟨r,k3,e3,hr,h2r,hS3,hl3⟩:=s_lengths d hS2 hq (m:=2) (by decide) (by decide)
 refine ⟨⟨z,l,r⟩,k3,?_,⟨⟨hz,hl,hr⟩,by show l.length≤2;omega,by show r.length≤2;omega⟩,hS3,by omega⟩
 simp only [ir__law_saying,List.replicate,Nat.reduceSub,exSs,exS,evE,evT,evEs,evA,evBs,evO,evOt,evI,bw,rdV,rdB,R.bind_ok,R.bind_exc,R.bind_bad,R.ofO_some,R.ofO_none,R.toO_ok,R.toO_exc,R.toO_bad,O.then_nx,O.then_ret,O.then_exc,O.then_bad,O.fin_nx,O.fin_ret,O.fin_exc,O.fin_bad,Option.map_some,Option.map_none,List.map_cons,List.map_nil,Ar.slot,List.cons_append,List.nil_append,List.length_cons,List.length_nil,List.getElem?_cons_zero,List.getElem?_cons_succ,List.set_cons_zero,List.set_cons_succ,Qzc,Qqb,Qq9,Qqq,Qq6,Qq8,Qq7,Qqv,Qqw,Qq2,Qq3,Qq4,Qq5,Qqr,Qz0,Qz1,Qz2,Qqt,Qqs,reduceCtorEq,decide_true,decide_false,Bool.or_true,Bool.or_false,Bool.true_or,Bool.false_or,blV,ntV,ngV,Qzk,op_add,op_sub,Qqk,Qqm,Qqn,Qqp,Qqj,Qqz,Qqh,le3,le4,if_true,e1,e2,e3]
 rfl
theorem comp_draw {c:CB}{ee:E}{tg:Tg}{own:List Nat}{ρ:Rho}{i n:Nat}{P:Clm→Prop}(h:∀ v κ,Spr κ i→κ.length=n→∃ ρ2 x κ',setTg tg v (wipeR ρ own)=some ρ2∧evE c ee ρ2 κ=.ok (Clm.v x,κ')∧P x∧Spr κ' i∧κ'.length=n) :
    ∀ (l : List Val) (κ : Ks), Spr κ i → κ.length = n → ∃ (xs : List Clm) (κ' : Ks), compL l (fun v κ' => noExc ((R.ofO (setTg tg v (wipeR ρ own))).bind fun ρ2 => (evOt c .no ρ2 κ').bind fun b =>
      if b.1=true then (evE c ee ρ2 b.2).bind fun x=>.ok (some x.1,x.2) else .ok (none,b.2))) κ=.ok (xs.map Clm.v,κ')∧xs.length=l.length∧(∀ x∈xs,P x)∧Spr κ' i∧κ'.length=n
  | [],κ,hS,hn=>⟨[],κ,rfl,rfl,by simp,hS,hn⟩
  | v::l,κ,hS,hn=>by
    obtain ⟨ρ2,x,κ1,h1,h2,h3,h4,h5⟩:=h v κ hS hn
    obtain ⟨xs,κ',e,hl,hP,hS',hn'⟩:=comp_draw h l κ1 h4 h5
    refine ⟨x::xs,κ',?_,by simp [hl],?_,hS',hn'⟩
    · show ((noExc ((R.ofO (setTg tg v (wipeR ρ own))).bind _)).bind _)=_
      rw [h1,R.ofO_some,R.bind_ok]
      show (noExc ((R.ok (true,κ)).bind _)).bind _=_
      rw [R.bind_ok]
      simp only [if_true,h2,R.bind_ok,noExcOk]
      rw [e]
      rfl
    · intro y hy
      rcases List.mem_cons.mp hy with h|h
      · subst h;exact h3
      · exact hP y h
def Qqx (l:List Clm):Val:=.tup (l.map Clm.v)
theorem s_sayings (d:Nat){κ:Ks}{i:Nat}(hS:Spr κ i){q:List Int}(hq:PicOk q){m:Int}(m0:0≤m)(m9:m≤9):∃ l κ',(cb tab (d+5)).cf 22 [.v (.cell i),.v (picV q),.v (.int m)] κ=.ok (Qqx l,κ')∧(l.length:Int)≤m∧(∀ c∈l,ClmS q c)∧Spr κ' i∧κ'.length=κ.length:=by
 rw [Qqf _ _ _ _ _ rfl rfl]
 obtain ⟨r,κ1,e1,r0,r1,hS1,hl1⟩:=s_pick (d+3) hS (m:=m+1) (by omega) (by omega)
 obtain ⟨xs,κ',e,hl,hP,hS',hn'⟩:=comp_draw (c:=cb tab (d+4)) (ee:=.call 21 (.cons (.var 0) (.cons (.var 1) .nil))) (tg:=.nm 3) (own:=[3]) (ρ:=[some (.val (.cell i)),some (.val (picV q)),some (.val (.int m)),none]) (i:=i) (n:=κ.length) (P:=ClmS q) (fun v k hSk hk=>by
  obtain ⟨x,k',ex,hx,hSx,hkx⟩:=s_saying d hSk hq
  refine ⟨[some (.val (.cell i)),some (.val (picV q)),some (.val (.int m)),some (.val v)],x,k',rfl,?_,hx,hSx,by omega⟩
  simp only [exSs,exS,evE,evT,evEs,evA,evBs,evO,evOt,evI,bw,rdV,rdB,R.bind_ok,R.bind_exc,R.bind_bad,R.ofO_some,R.ofO_none,R.toO_ok,R.toO_exc,R.toO_bad,O.then_nx,O.then_ret,O.then_exc,O.then_bad,O.fin_nx,O.fin_ret,O.fin_exc,O.fin_bad,Option.map_some,Option.map_none,List.map_cons,List.map_nil,Ar.slot,List.cons_append,List.nil_append,List.length_cons,List.length_nil,List.getElem?_cons_zero,List.getElem?_cons_succ,List.set_cons_zero,List.set_cons_succ,Qzc,Qqb,Qq9,Qqq,Qq6,Qq8,Qq7,Qqv,Qqw,Qq2,Qq3,Qq4,Qq5,Qqr,Qz0,Qz1,Qz2,Qqt,Qqs,reduceCtorEq,decide_true,decide_false,Bool.or_true,Bool.or_false,Bool.true_or,Bool.false_or,blV,ntV,ngV,Qzk,op_add,op_sub,Qqk,Qqm,Qqn,Qqp,Qqj,Qqz,Qqh,ex]) (rngL 0 r) κ1 hS1 hl1
 refine ⟨xs,κ',?_,by rw [rngL_len] at hl;omega,hP,hS',hn'⟩
 have hlen:xs.length<LINE:=by
  rw [rngL_len] at hl
  have:xs.length≤9:=by omega
  exact Nat.lt_of_le_of_lt this (by decide)
 have ec:evE (cb tab (d+4)) (.comp (.call 21 (.cons (.var 0) (.cons (.var 1) .nil))) (.nm 3) (.rng1 (.cons (.call 17 (.cons (.var 0) (.cons (.op .add (.var 2) (.con (.int (1)))) .nil))) .nil)) .no [3]) [some (.val (.cell i)),some (.val (picV q)),some (.val (.int m)),none] κ=.ok (.lst (xs.map Clm.v),κ'):=by
  show (evI (cb tab (d+4)) (.rng1 (.cons (.call 17 (.cons (.var 0) (.cons (.op .add (.var 2) (.con (.int (1)))) .nil))) .nil)) [some (.val (.cell i)),some (.val (picV q)),some (.val (.int m)),none] κ).bind _=_
  have hi:evI (cb tab (d+4)) (.rng1 (.cons (.call 17 (.cons (.var 0) (.cons (.op .add (.var 2) (.con (.int (1)))) .nil))) .nil)) [some (.val (.cell i)),some (.val (picV q)),some (.val (.int m)),none] κ=.ok (rngL 0 r,κ1):=by
   simp only [exSs,exS,evE,evT,evEs,evA,evBs,evO,evOt,evI,bw,rdV,rdB,R.bind_ok,R.bind_exc,R.bind_bad,R.ofO_some,R.ofO_none,R.toO_ok,R.toO_exc,R.toO_bad,O.then_nx,O.then_ret,O.then_exc,O.then_bad,O.fin_nx,O.fin_ret,O.fin_exc,O.fin_bad,Option.map_some,Option.map_none,List.map_cons,List.map_nil,Ar.slot,List.cons_append,List.nil_append,List.length_cons,List.length_nil,List.getElem?_cons_zero,List.getElem?_cons_succ,List.set_cons_zero,List.set_cons_succ,Qzc,Qqb,Qq9,Qqq,Qq6,Qq8,Qq7,Qqv,Qqw,Qq2,Qq3,Qq4,Qq5,Qqr,Qz0,Qz1,Qz2,Qqt,Qqs,reduceCtorEq,decide_true,decide_false,Bool.or_true,Bool.or_false,Bool.true_or,Bool.false_or,blV,ntV,ngV,Qzk,op_add,op_sub,Qqk,Qqm,Qqn,Qqp,Qqj,Qqz,Qqh,e1]
   rw [rng1_ok r0 (by omega)]
   rfl
  rw [hi,R.bind_ok]
  dsimp only
  rw [e,R.bind_ok]
  simp only [List.length_map,hlen,if_true]
 show ((exS (cb tab (d+4)) (.ret (.bi .tuple (.cons (.comp _ _ _ _ _) .nil))) [some (.val (.cell i)),some (.val (picV q)),some (.val (.int m)),none] κ).then _).fin=_
 have e2:exS (cb tab (d+4)) (.ret (.bi .tuple (.cons (.comp (.call 21 (.cons (.var 0) (.cons (.var 1) .nil))) (.nm 3) (.rng1 (.cons (.call 17 (.cons (.var 0) (.cons (.op .add (.var 2) (.con (.int (1)))) .nil))) .nil)) .no [3]) .nil))) [some (.val (.cell i)),some (.val (picV q)),some (.val (.int m)),none] κ=.ret (Qqx xs) κ':=by
  simp only [exS,evE,evBs,bw] at ec ⊢
  rw [ec]
  rfl
 rw [e2]
 rfl
end K10
end
section
namespace PL
open PySem
theorem ix_t0 {κ:Ks}(a:Val)(l:List Val):ixV κ (.tup (a::l)) (.int 0)=some a:=by
 show L2.atI (a::l) 0=_
 rw [show (0:Int)=((0:Nat):Int) from rfl,atI_nat (by simp)]
 rfl
theorem ix_t1 {κ:Ks}(a b:Val)(l:List Val):ixV κ (.tup (a::b::l)) (.int 1)=some b:=by
 show L2.atI (a::b::l) 1=_
 rw [show (1:Int)=((1:Nat):Int) from rfl,atI_nat (by simp)]
 rfl
theorem ix_t2 {κ:Ks}(a b c:Val)(l:List Val):ixV κ (.tup (a::b::c::l)) (.int 2)=some c:=by
 show L2.atI (a::b::c::l) 2=_
 rw [show (2:Int)=((2:Nat):Int) from rfl,atI_nat (by simp)]
 rfl
theorem PicOk.shape {q:List Int}(h:PicOk q):(∃ a b,q=[0,a,b])∨(∃ a b c,q=[0,a,b,c])∨(∃ a b c e,q=[0,a,b,c,e]):=by
 obtain ⟨h3,h5,h0,_,_⟩:=h
 match q,h3,h5,h0 with
 | [x,a,b],_,_,h0=>cases h0;exact .inl ⟨a,b,rfl⟩
 | [x,a,b,c],_,_,h0=>cases h0;exact .inr (.inl ⟨a,b,c,rfl⟩)
 | [x,a,b,c,e],_,_,h0=>cases h0;exact .inr (.inr ⟨a,b,c,e,rfl⟩)
 | [],h3,_,_=>exact absurd h3 (by decide)
 | [_],h3,_,_=>exact absurd h3 (by simp)
 | [_,_],h3,_,_=>exact absurd h3 (by simp)
 | _::_::_::_::_::_::_,_,h5,_=>exact absurd h5 (by simp)
theorem map_true {α:Type}(l:List α)(f:α→Val)(h:∀ v∈l,f v=.bl true):∃ bs:List Bool,l.map f=bs.map .bl∧bs.all id=true:=by
 refine ⟨l.map fun _=>true,?_,by simp⟩
 rw [List.map_map]
 exact List.map_congr_left h
end PL
namespace K10
open PySem PL
theorem s_right_picture (d:Nat){q:List Int}(κ:Ks)(h:PicOk q):(cb tab (d+2)).cf 1 [.v (picV q)] κ=.ok (.bl true,κ):=by
 rw [Qqf _ _ _ _ _ rfl rfl]
 have wh:∀ m:Int,0≤m∧m≤60→(cb tab (d+1)).cf 0 [.v (.int m),.v (.int 0),.v (.int 60)] κ=.ok (.bl true,κ):=fun m hm=>by
  rw [s_whole,decide_eq_true hm.1,decide_eq_true hm.2];rfl
 have c1:∀ e1 e2 e3,∃ bs:List Bool,evE (cb tab (d+1)) (.comp (.call 0 (.cons (.var 1) (.cons (.con (.int (0))) (.cons (.con (.int (60))) .nil)))) (.nm 1) (.seq (.var 0)) .no [1]) [some (.val (picV q)),e1,e2,e3] κ=.ok (.lst (bs.map .bl),κ)∧bs.all id=true:=fun e1 e2 e3=>by
  obtain ⟨bs,eb,hb⟩:=map_true (q.map Val.int) (fun _=>.bl true) (fun _ _=>rfl)
  refine ⟨bs,?_,hb⟩
  rw [← eb]
  refine ev_comp (l:=q.map Val.int) rfl (by rw [List.length_map];exact Nat.lt_of_le_of_lt h.l5 (by decide)) fun v hv => ?_
  obtain ⟨m,hm,e⟩:=List.mem_map.mp hv
  subst e
  refine ⟨[some (.val (picV q)),some (.val (.int m)),e2,e3],rfl,?_⟩
  simp only [exSs,exS,evE,evT,evEs,evA,evBs,evO,evOt,evI,bw,rdV,rdB,R.bind_ok,R.bind_exc,R.bind_bad,R.ofO_some,R.ofO_none,R.toO_ok,R.toO_exc,R.toO_bad,O.then_nx,O.then_ret,O.then_exc,O.then_bad,O.fin_nx,O.fin_ret,O.fin_exc,O.fin_bad,Option.map_some,Option.map_none,List.map_cons,List.map_nil,Ar.slot,List.cons_append,List.nil_append,List.length_cons,List.length_nil,List.getElem?_cons_zero,List.getElem?_cons_succ,List.set_cons_zero,List.set_cons_succ,Qzc,Qqb,Qq9,Qqq,Qq6,Qq8,Qq7,Qqv,Qqw,Qq2,Qq3,Qq4,Qq5,Qqr,Qz0,Qz1,Qz2,Qqt,Qqs,reduceCtorEq,decide_true,decide_false,Bool.or_true,Bool.or_false,Bool.true_or,Bool.false_or,blV,ntV,ngV,Qzk,op_add,op_sub,Qqk,Qqm,Qqn,Qqp,Qqj,Qqz,Qqh,wh m (h.marks m hm)]
 have c2:∀ e1 e2 e3,∃ bs:List Bool,evE (cb tab (d+1)) (.comp (.cm .lt (.var 2) (.var 3)) (.tp (.cons (.nm 2) (.cons (.nm 3) .nil))) (.zip (.var 0) (.sl (.var 0) (.yes (.con (.int (1)))) .no)) .no [2,3]) [some (.val (picV q)),e1,e2,e3] κ=.ok (.lst (bs.map .bl),κ)∧bs.all id=true:=fun e1 e2 e3=>by
  have hz:∃ l,zipV (picV q) (.tup (cutL (q.map .int) (some 1) none))=some l∧l.length<LINE∧∀ v∈l,∃ x y:Int,v=.tup [.int x,.int y]∧x<y:=by
   have asc:=h.asc
   rcases h.shape with ⟨a,b,e⟩|⟨a,b,c,e⟩|⟨a,b,c,f,e⟩ <;> subst e <;> simp only [List.pairwise_cons,List.mem_cons,List.mem_nil_iff,or_false,forall_eq_or_imp,forall_eq] at asc
   ·exact ⟨[.tup [.int 0,.int a],.tup [.int a,.int b]],rfl,(show 2<LINE by decide),by
     simp only [List.mem_cons,List.mem_nil_iff,or_false,forall_eq_or_imp,forall_eq]
     exact ⟨⟨_,_,rfl,by omega⟩,⟨_,_,rfl,by omega⟩⟩⟩
   ·exact ⟨[.tup [.int 0,.int a],.tup [.int a,.int b],.tup [.int b,.int c]],rfl,(show 3<LINE by decide),by
     simp only [List.mem_cons,List.mem_nil_iff,or_false,forall_eq_or_imp,forall_eq]
     exact ⟨⟨_,_,rfl,by omega⟩,⟨_,_,rfl,by omega⟩,⟨_,_,rfl,by omega⟩⟩⟩
   ·exact ⟨[.tup [.int 0,.int a],.tup [.int a,.int b],.tup [.int b,.int c],.tup [.int c,.int f]],rfl,(show 4<LINE by decide),by
     simp only [List.mem_cons,List.mem_nil_iff,or_false,forall_eq_or_imp,forall_eq]
     exact ⟨⟨_,_,rfl,by omega⟩,⟨_,_,rfl,by omega⟩,⟨_,_,rfl,by omega⟩,⟨_,_,rfl,by omega⟩⟩⟩
  obtain ⟨l,e,hl,hv⟩:=hz
  obtain ⟨bs,eb,hb⟩:=map_true l (fun _=>.bl true) (fun _ _=>rfl)
  refine ⟨bs,?_,hb⟩
  rw [← eb]
  refine ev_comp (l:=l) ?_ hl fun v hm => ?_
  ·have sl:slV (picV q) (some 1) none=some (.tup (cutL (q.map .int) (some 1) none)):=rfl
   simp only [exSs,exS,evE,evT,evEs,evA,evBs,evO,evOt,evI,bw,rdV,rdB,R.bind_ok,R.bind_exc,R.bind_bad,R.ofO_some,R.ofO_none,R.toO_ok,R.toO_exc,R.toO_bad,O.then_nx,O.then_ret,O.then_exc,O.then_bad,O.fin_nx,O.fin_ret,O.fin_exc,O.fin_bad,Option.map_some,Option.map_none,List.map_cons,List.map_nil,Ar.slot,List.cons_append,List.nil_append,List.length_cons,List.length_nil,List.getElem?_cons_zero,List.getElem?_cons_succ,List.set_cons_zero,List.set_cons_succ,Qzc,Qqb,Qq9,Qqq,Qq6,Qq8,Qq7,Qqv,Qqw,Qq2,Qq3,Qq4,Qq5,Qqr,Qz0,Qz1,Qz2,Qqt,Qqs,reduceCtorEq,decide_true,decide_false,Bool.or_true,Bool.or_false,Bool.true_or,Bool.false_or,blV,ntV,ngV,Qzk,op_add,op_sub,Qqk,Qqm,Qqn,Qqp,Qqj,Qqz,Qqh,sl,e]
  ·obtain ⟨x,y,e,hxy⟩:=hv v hm
   subst e
   refine ⟨[some (.val (picV q)),e1,some (.val (.int x)),some (.val (.int y))],rfl,?_⟩
   simp only [exSs,exS,evE,evT,evEs,evA,evBs,evO,evOt,evI,bw,rdV,rdB,R.bind_ok,R.bind_exc,R.bind_bad,R.ofO_some,R.ofO_none,R.toO_ok,R.toO_exc,R.toO_bad,O.then_nx,O.then_ret,O.then_exc,O.then_bad,O.fin_nx,O.fin_ret,O.fin_exc,O.fin_bad,Option.map_some,Option.map_none,List.map_cons,List.map_nil,Ar.slot,List.cons_append,List.nil_append,List.length_cons,List.length_nil,List.getElem?_cons_zero,List.getElem?_cons_succ,List.set_cons_zero,List.set_cons_succ,Qzc,Qqb,Qq9,Qqq,Qq6,Qq8,Qq7,Qqv,Qqw,Qq2,Qq3,Qq4,Qq5,Qqr,Qz0,Qz1,Qz2,Qqt,Qqs,reduceCtorEq,decide_true,decide_false,Bool.or_true,Bool.or_false,Bool.true_or,Bool.false_or,blV,ntV,ngV,Qzk,op_add,op_sub,Qqk,Qqm,Qqn,Qqp,Qqj,Qqz,Qqh,hxy,decide_true]
 obtain ⟨b1,f1,g1⟩:=c1 none none none
 obtain ⟨b2,f2,g2⟩:=c2 none none none
 have len3:decide ((3:Int)≤(q.length:Int))=true:=decide_eq_true (by have:=h.l3;omega)
 have len5:decide ((q.length:Int)≤5)=true:=decide_eq_true (by have:=h.l5;omega)
 have tt:isiV .tuple (picV q)=some true:=rfl
 have ix:ixV κ (picV q) (.int 0)=some (.int 0):=by
  show L2.atI (q.map Val.int) ((0:Nat):Int)=_
  rw [atI_nat (by rw [List.length_map];have:=h.l3;omega),List.getElem?_map,h.head]
  rfl
 have p1:exS (cb tab (d+1)) (.ite (.or (.not (.val (.isi .tuple (.var 0)))) (.not (.chain .le .le (.con (.int (3))) (.bi .len (.cons (.var 0) .nil)) (.con (.int (5)))))) (.cons (.ret (.con (.bl false))) .nil) .nil) [some (.val (picV q)),none,none,none] κ=.nx [some (.val (picV q)),none,none,none] κ:=by
  simp only [exSs,exS,evE,evT,evEs,evA,evBs,evO,evOt,evI,bw,rdV,rdB,R.bind_ok,R.bind_exc,R.bind_bad,R.ofO_some,R.ofO_none,R.toO_ok,R.toO_exc,R.toO_bad,O.then_nx,O.then_ret,O.then_exc,O.then_bad,O.fin_nx,O.fin_ret,O.fin_exc,O.fin_bad,Option.map_some,Option.map_none,List.map_cons,List.map_nil,Ar.slot,List.cons_append,List.nil_append,List.length_cons,List.length_nil,List.getElem?_cons_zero,List.getElem?_cons_succ,List.set_cons_zero,List.set_cons_succ,Qzc,Qqb,Qq9,Qqq,Qq6,Qq8,Qq7,Qqv,Qqw,Qq2,Qq3,Qq4,Qq5,Qqr,Qz0,Qz1,Qz2,Qqt,Qqs,reduceCtorEq,decide_true,decide_false,Bool.or_true,Bool.or_false,Bool.true_or,Bool.false_or,blV,ntV,ngV,Qzk,op_add,op_sub,Qqk,Qqm,Qqn,Qqp,Qqj,Qqz,Qqh,evBs,len_pic,tt,len3,len5,Bool.not_true,if_true,if_false,Bool.false_eq_true]
 have p2:exS (cb tab (d+1)) (.ite (.or (.not (.val (.bi .all (.cons (.comp (.call 0 (.cons (.var 1) (.cons (.con (.int (0))) (.cons (.con (.int (60))) .nil)))) (.nm 1) (.seq (.var 0)) .no [1]) .nil)))) (.cm .ne (.ix (.var 0) (.con (.int (0)))) (.con (.int (0))))) (.cons (.ret (.con (.bl false))) .nil) .nil) [some (.val (picV q)),none,none,none] κ=.nx [some (.val (picV q)),none,none,none] κ:=by
  show ((evT _ _ _ _).toO _)=_
  have:evT (cb tab (d+1)) (.or (.not (.val (.bi .all (.cons (.comp (.call 0 (.cons (.var 1) (.cons (.con (.int (0))) (.cons (.con (.int (60))) .nil)))) (.nm 1) (.seq (.var 0)) .no [1]) .nil)))) (.cm .ne (.ix (.var 0) (.con (.int (0)))) (.con (.int (0))))) [some (.val (picV q)),none,none,none] κ=.ok (false,κ):=by
   show ((evT _ _ _ _).bind _)=_
   have a1:evT (cb tab (d+1)) (.not (.val (.bi .all (.cons (.comp (.call 0 (.cons (.var 1) (.cons (.con (.int (0))) (.cons (.con (.int (60))) .nil)))) (.nm 1) (.seq (.var 0)) .no [1]) .nil)))) [some (.val (picV q)),none,none,none] κ=.ok (false,κ):=by
    show (((((evE _ _ _ _).bind fun p=>(R.ok ([],p.2)).bind fun q=>R.ok (p.1::q.1,q.2)).bind _).bind _).bind _)=_
    rw [f1]
    simp only [R.bind_ok,bi_all,g1,R.ofO_some,Option.map_some,Qqh,Bool.not_true]
   rw [a1]
   simp only [exSs,exS,evE,evT,evEs,evA,evBs,evO,evOt,evI,bw,rdV,rdB,R.bind_ok,R.bind_exc,R.bind_bad,R.ofO_some,R.ofO_none,R.toO_ok,R.toO_exc,R.toO_bad,O.then_nx,O.then_ret,O.then_exc,O.then_bad,O.fin_nx,O.fin_ret,O.fin_exc,O.fin_bad,Option.map_some,Option.map_none,List.map_cons,List.map_nil,Ar.slot,List.cons_append,List.nil_append,List.length_cons,List.length_nil,List.getElem?_cons_zero,List.getElem?_cons_succ,List.set_cons_zero,List.set_cons_succ,Qzc,Qqb,Qq9,Qqq,Qq6,Qq8,Qq7,Qqv,Qqw,Qq2,Qq3,Qq4,Qq5,Qqr,Qz0,Qz1,Qz2,Qqt,Qqs,reduceCtorEq,decide_true,decide_false,Bool.or_true,Bool.or_false,Bool.true_or,Bool.false_or,blV,ntV,ngV,Qzk,op_add,op_sub,Qqk,Qqm,Qqn,Qqp,Qqj,Qqz,Qqh,ix,if_false,Bool.false_eq_true,decide_true,Bool.not_true]
  rw [this]
  simp only [exSs,exS,evE,evT,evEs,evA,evBs,evO,evOt,evI,bw,rdV,rdB,R.bind_ok,R.bind_exc,R.bind_bad,R.ofO_some,R.ofO_none,R.toO_ok,R.toO_exc,R.toO_bad,O.then_nx,O.then_ret,O.then_exc,O.then_bad,O.fin_nx,O.fin_ret,O.fin_exc,O.fin_bad,Option.map_some,Option.map_none,List.map_cons,List.map_nil,Ar.slot,List.cons_append,List.nil_append,List.length_cons,List.length_nil,List.getElem?_cons_zero,List.getElem?_cons_succ,List.set_cons_zero,List.set_cons_succ,Qzc,Qqb,Qq9,Qqq,Qq6,Qq8,Qq7,Qqv,Qqw,Qq2,Qq3,Qq4,Qq5,Qqr,Qz0,Qz1,Qz2,Qqt,Qqs,reduceCtorEq,decide_true,decide_false,Bool.or_true,Bool.or_false,Bool.true_or,Bool.false_or,blV,ntV,ngV,Qzk,op_add,op_sub,Qqk,Qqm,Qqn,Qqp,Qqj,Qqz,Qqh,if_false,Bool.false_eq_true]
 have p3:exS (cb tab (d+1)) (.ret (.bi .all (.cons (.comp (.cm .lt (.var 2) (.var 3)) (.tp (.cons (.nm 2) (.cons (.nm 3) .nil))) (.zip (.var 0) (.sl (.var 0) (.yes (.con (.int (1)))) .no)) .no [2,3]) .nil))) [some (.val (picV q)),none,none,none] κ=.ret (.bl true) κ:=by
  show ((((evE _ _ _ _).bind fun p=>(R.ok ([],p.2)).bind fun q=>R.ok (p.1::q.1,q.2)).bind _).toO _)=_
  rw [f2]
  simp only [R.bind_ok,bi_all,g2,R.ofO_some,Option.map_some,R.toO_ok]
 show ((exS (cb tab (d+1)) _ [some (.val (picV q)),none,none,none] κ).then fun ρ κ=>(exS (cb tab (d+1)) _ ρ κ).then fun ρ κ=>(exS (cb tab (d+1)) _ ρ κ).then _).fin=_
 rw [p1,O.then_nx,p2,O.then_nx,p3]
 rfl
theorem s_need_picture (d:Nat){q:List Int}(κ:Ks)(h:PicOk q):(cb tab (d+3)).cf 5 [.v (picV q)] κ=.ok (.non,κ):=by
 rw [Qqf _ _ _ _ _ rfl rfl]
 simp only [ir_need_picture,List.replicate,Nat.reduceSub,List.append_nil,exSs,exS,evE,evT,evEs,evA,evBs,evO,evOt,evI,bw,rdV,rdB,R.bind_ok,R.bind_exc,R.bind_bad,R.ofO_some,R.ofO_none,R.toO_ok,R.toO_exc,R.toO_bad,O.then_nx,O.then_ret,O.then_exc,O.then_bad,O.fin_nx,O.fin_ret,O.fin_exc,O.fin_bad,Option.map_some,Option.map_none,List.map_cons,List.map_nil,Ar.slot,List.cons_append,List.nil_append,List.length_cons,List.length_nil,List.getElem?_cons_zero,List.getElem?_cons_succ,List.set_cons_zero,List.set_cons_succ,Qzc,Qqb,Qq9,Qqq,Qq6,Qq8,Qq7,Qqv,Qqw,Qq2,Qq3,Qq4,Qq5,Qqr,Qz0,Qz1,Qz2,Qqt,Qqs,reduceCtorEq,decide_true,decide_false,Bool.or_true,Bool.or_false,Bool.true_or,Bool.false_or,blV,ntV,ngV,Qzk,op_add,op_sub,Qqk,Qqm,Qqn,Qqp,Qqj,Qqz,Qqh,s_right_picture d κ h,Bool.not_true,if_false,Bool.false_eq_true]
end K10
end
section
namespace PL
open PySem
end PL
namespace K10
open PySem PL
theorem len_par (l:List Part):biV .len [parV l]=some (.int l.length):=by
 show some (Val.int (l.map Part.v).length)=_
 rw [List.length_map]
theorem len_facts (l:List Clm):biV .len [Qqx l]=some (.int l.length):=by
 show some (Val.int (l.map Clm.v).length)=_
 rw [List.length_map]
theorem s_right_sum (d:Nat){q:List Int}{l:List Part}(κ:Ks)(h:SumOk q l):(cb tab (d+2)).cf 2 [.v (picV q),.v (parV l)] κ=.ok (.bl true,κ):=by
 rw [Qqf _ _ _ _ _ rfl rfl]
 have len1:decide ((1:Int)≤(l.length:Int))=true:=decide_eq_true (by have:=h.l1;omega)
 have len3:decide ((l.length:Int)≤3)=true:=decide_eq_true (by have:=h.l3;omega)
 have tt:isiV .tuple (parV l)=some true:=rfl
 obtain ⟨ρ',κ',e,es,e2,er⟩:=loop_inv (c:=cb tab (d+1)) (tg:=.nm 2) (it:=.seq (.var 1)) (l:=l.map Part.v)
  (b:=.cons (.ite (.or (.not (.val (.isi .tuple (.var 2)))) (.or (.cm .ne (.bi .len (.cons (.var 2) .nil)) (.con (.int (3)))) (.not (.val (.call 0 (.cons (.ix (.var 2) (.con (.int (0)))) (.cons (.con (.int (1))) (.cons (.con (.int (9))) .nil)))))))) (.cons (.ret (.con (.bl false)))
 .nil) .nil)
 (.cons (.ite (.or (.not (.val (.call 0 (.cons (.ix (.var 2) (.con (.int (1)))) (.cons (.con (.int (0))) (.cons (.op .sub (.bi .len (.cons (.var 0) .nil)) (.con (.int (2)))) .nil)))))) (.not (.val (.call 0 (.cons (.ix (.var 2) (.con (.int (2)))) (.cons (.op .add (.ix (.var 2) (.con (.int (1)))) (.con (.int (1)))) (.cons (.op .sub (.bi .len (.cons (.var 0) .nil)) (.con (.int (1)))) .nil))))))) (.cons (.ret (.con (.bl false)))
 .nil) .nil) .nil))
  (ρ:=[some (.val (picV q)),some (.val (parV l)),none]) (κ:=κ) (κ1:=κ)
  (fun n ρ k=>k=κ∧∃ e2,ρ=[some (.val (picV q)),some (.val (parV l)),e2])
  rfl ⟨rfl,none,rfl⟩ (fun n v ρ k hv ⟨ek,e2,er⟩=>by
   subst ek
   subst er
   rw [List.getElem?_map] at hv
   cases gx:l[n]? with
   | none=>rw [gx] at hv;cases hv
   | some x=>
    rw [gx] at hv
    cases hv
    obtain ⟨o0,o1,o2,o3⟩:=h.parts x (List.mem_of_getElem? gx)
    refine ⟨[some (.val (picV q)),some (.val (parV l)),some (.val (Part.v x))],[some (.val (picV q)),some (.val (parV l)),some (.val (Part.v x))],_,rfl,?_,rfl,_,rfl⟩
    have w1:=s_whole d x.1 1 9 k
    have w2:=s_whole d (x.2.1:Int) 0 ((q.length:Int)-2) k
    have w3:=s_whole d (x.2.2:Int) ((x.2.1:Int)+1) ((q.length:Int)-1) k
    rw [decide_eq_true (by omega),decide_eq_true (by omega)] at w1 w2 w3
    have t1:((0+1+1+1:Nat):Int)=3:=rfl
    simp only [exSs,exS,evE,evT,evEs,evA,evBs,evO,evOt,evI,bw,rdV,rdB,R.bind_ok,R.bind_exc,R.bind_bad,R.ofO_some,R.ofO_none,R.toO_ok,R.toO_exc,R.toO_bad,O.then_nx,O.then_ret,O.then_exc,O.then_bad,O.fin_nx,O.fin_ret,O.fin_exc,O.fin_bad,Option.map_some,Option.map_none,List.map_cons,List.map_nil,Ar.slot,List.cons_append,List.nil_append,List.length_cons,List.length_nil,List.getElem?_cons_zero,List.getElem?_cons_succ,List.set_cons_zero,List.set_cons_succ,Qzc,Qqb,Qq9,Qqq,Qq6,Qq8,Qq7,Qqv,Qqw,Qq2,Qq3,Qq4,Qq5,Qqr,Qz0,Qz1,Qz2,Qqt,Qqs,reduceCtorEq,decide_true,decide_false,Bool.or_true,Bool.or_false,Bool.true_or,Bool.false_or,blV,ntV,ngV,Qzk,op_add,op_sub,Qqk,Qqm,Qqn,Qqp,Qqj,Qqz,Qqh,evBs,Part.v,len_pic,ix_t0,ix_t1,ix_t2,w1,w2,w3,t1,Bool.and_self,Bool.not_true,if_true,if_false,Bool.false_eq_true])
 subst es
 have p1:exS (cb tab (d+1)) (.ite (.or (.not (.val (.isi .tuple (.var 1)))) (.not (.chain .le .le (.con (.int (1))) (.bi .len (.cons (.var 1) .nil)) (.con (.int (3)))))) (.cons (.ret (.con (.bl false))) .nil) .nil) [some (.val (picV q)),some (.val (parV l)),none] κ'=.nx [some (.val (picV q)),some (.val (parV l)),none] κ':=by
  simp only [exSs,exS,evE,evT,evEs,evA,evBs,evO,evOt,evI,bw,rdV,rdB,R.bind_ok,R.bind_exc,R.bind_bad,R.ofO_some,R.ofO_none,R.toO_ok,R.toO_exc,R.toO_bad,O.then_nx,O.then_ret,O.then_exc,O.then_bad,O.fin_nx,O.fin_ret,O.fin_exc,O.fin_bad,Option.map_some,Option.map_none,List.map_cons,List.map_nil,Ar.slot,List.cons_append,List.nil_append,List.length_cons,List.length_nil,List.getElem?_cons_zero,List.getElem?_cons_succ,List.set_cons_zero,List.set_cons_succ,Qzc,Qqb,Qq9,Qqq,Qq6,Qq8,Qq7,Qqv,Qqw,Qq2,Qq3,Qq4,Qq5,Qqr,Qz0,Qz1,Qz2,Qqt,Qqs,reduceCtorEq,decide_true,decide_false,Bool.or_true,Bool.or_false,Bool.true_or,Bool.false_or,blV,ntV,ngV,Qzk,op_add,op_sub,Qqk,Qqm,Qqn,Qqp,Qqj,Qqz,Qqh,evBs,len_par,tt,len1,len3,Bool.not_true,if_true,if_false,Bool.false_eq_true]
 show ((exS (cb tab (d+1)) _ [some (.val (picV q)),some (.val (parV l)),none] κ').then fun ρ κ=>(exS (cb tab (d+1)) (.loop _ _ _) ρ κ).then _).fin=_
 rw [p1,O.then_nx]
 refine (congrArg (fun o=>(O.then o _).fin) e).trans ?_
 rw [er]
 rfl
theorem s_right_claim (d:Nat){q:List Int}{c:Clm}(κ:Ks)(h:ClaimOk q c):(cb tab (d+3)).cf 3 [.v (picV q),.v (Clm.v c)] κ=.ok (.bl true,κ):=by
 rw [Qqf _ _ _ _ _ rfl rfl]
 have a1:=s_right_sum d κ h.l
 have a2:=s_right_sum d κ h.r
 have wd:∀ s:Str,WordOk s→cmV .notin (.str s) (.tup [.str "less", .str "upto", .str "same"])=some false:=by rintro s (rfl|rfl|rfl) <;> decide +kernel
 have t1:((0+1+1+1:Nat):Int)=3:=rfl
 simp only [ir_is_right_claim,List.replicate,Nat.reduceSub,List.append_nil,exSs,exS,evE,evT,evEs,evA,evBs,evO,evOt,evI,bw,rdV,rdB,R.bind_ok,R.bind_exc,R.bind_bad,R.ofO_some,R.ofO_none,R.toO_ok,R.toO_exc,R.toO_bad,O.then_nx,O.then_ret,O.then_exc,O.then_bad,O.fin_nx,O.fin_ret,O.fin_exc,O.fin_bad,Option.map_some,Option.map_none,List.map_cons,List.map_nil,Ar.slot,List.cons_append,List.nil_append,List.length_cons,List.length_nil,List.getElem?_cons_zero,List.getElem?_cons_succ,List.set_cons_zero,List.set_cons_succ,Qzc,Qqb,Qq9,Qqq,Qq6,Qq8,Qq7,Qqv,Qqw,Qq2,Qq3,Qq4,Qq5,Qqr,Qz0,Qz1,Qz2,Qqt,Qqs,reduceCtorEq,decide_true,decide_false,Bool.or_true,Bool.or_false,Bool.true_or,Bool.false_or,blV,ntV,ngV,Qzk,op_add,op_sub,Qqk,Qqm,Qqn,Qqp,Qqj,Qqz,Qqh,evBs,Clm.v,ix_t0,ix_t1,ix_t2,t1,wd _ h.w,a1,a2,Bool.not_true,if_true,if_false,Bool.false_eq_true]
theorem s_right_facts (d:Nat){q:List Int}{l:List Clm}(κ:Ks)(hl:l.length≤4)(h:∀ c∈l,ClaimOk q c):(cb tab (d+4)).cf 4 [.v (picV q),.v (Qqx l)] κ=.ok (.bl true,κ):=by
 rw [Qqf _ _ _ _ _ rfl rfl]
 have tt:isiV .tuple (Qqx l)=some true:=rfl
 have c1:evE (cb tab (d+3)) (.comp (.call 3 (.cons (.var 0) (.cons (.var 2) .nil))) (.nm 2) (.seq (.var 1)) .no [2]) [some (.val (picV q)),some (.val (Qqx l)),none] κ=.ok (.lst ((l.map fun _=>true).map .bl),κ):=by
  rw [List.map_map,← show (l.map Clm.v).map (fun _=>Val.bl true)=l.map (Val.bl ∘ fun _=>true) by rw [List.map_map];rfl]
  refine ev_comp (l:=l.map Clm.v) rfl (by rw [List.length_map];exact Nat.lt_of_le_of_lt hl (by decide)) fun v hv => ?_
  obtain ⟨c,hc,e⟩:=List.mem_map.mp hv
  subst e
  refine ⟨[some (.val (picV q)),some (.val (Qqx l)),some (.val (Clm.v c))],rfl,?_⟩
  simp only [exSs,exS,evE,evT,evEs,evA,evBs,evO,evOt,evI,bw,rdV,rdB,R.bind_ok,R.bind_exc,R.bind_bad,R.ofO_some,R.ofO_none,R.toO_ok,R.toO_exc,R.toO_bad,O.then_nx,O.then_ret,O.then_exc,O.then_bad,O.fin_nx,O.fin_ret,O.fin_exc,O.fin_bad,Option.map_some,Option.map_none,List.map_cons,List.map_nil,Ar.slot,List.cons_append,List.nil_append,List.length_cons,List.length_nil,List.getElem?_cons_zero,List.getElem?_cons_succ,List.set_cons_zero,List.set_cons_succ,Qzc,Qqb,Qq9,Qqq,Qq6,Qq8,Qq7,Qqv,Qqw,Qq2,Qq3,Qq4,Qq5,Qqr,Qz0,Qz1,Qz2,Qqt,Qqs,reduceCtorEq,decide_true,decide_false,Bool.or_true,Bool.or_false,Bool.true_or,Bool.false_or,blV,ntV,ngV,Qzk,op_add,op_sub,Qqk,Qqm,Qqn,Qqp,Qqj,Qqz,Qqh,s_right_claim d κ (h c hc)]
 have ha:((l.map fun _=>true).all id)=true:=by simp
 have gt:decide ((4:Int)<(l.length:Int))=false:=decide_eq_false (by omega)
 have p1:exS (cb tab (d+3)) (.ite (.or (.not (.val (.isi .tuple (.var 1)))) (.cm .gt (.bi .len (.cons (.var 1) .nil)) (.glob 0 (.int 4)))) (.cons (.ret (.con (.bl false))) .nil) .nil) [some (.val (picV q)),some (.val (Qqx l)),none] κ=.nx [some (.val (picV q)),some (.val (Qqx l)),none] κ:=by
  simp only [exSs,exS,evE,evT,evEs,evA,evBs,evO,evOt,evI,bw,rdV,rdB,R.bind_ok,R.bind_exc,R.bind_bad,R.ofO_some,R.ofO_none,R.toO_ok,R.toO_exc,R.toO_bad,O.then_nx,O.then_ret,O.then_exc,O.then_bad,O.fin_nx,O.fin_ret,O.fin_exc,O.fin_bad,Option.map_some,Option.map_none,List.map_cons,List.map_nil,Ar.slot,List.cons_append,List.nil_append,List.length_cons,List.length_nil,List.getElem?_cons_zero,List.getElem?_cons_succ,List.set_cons_zero,List.set_cons_succ,Qzc,Qqb,Qq9,Qqq,Qq6,Qq8,Qq7,Qqv,Qqw,Qq2,Qq3,Qq4,Qq5,Qqr,Qz0,Qz1,Qz2,Qqt,Qqs,reduceCtorEq,decide_true,decide_false,Bool.or_true,Bool.or_false,Bool.true_or,Bool.false_or,blV,ntV,ngV,Qzk,op_add,op_sub,Qqk,Qqm,Qqn,Qqp,Qqj,Qqz,Qqh,evBs,len_facts,tt,gt,Bool.not_true,if_true,if_false,Bool.false_eq_true]
 have p3:exS (cb tab (d+3)) (.ret (.bi .all (.cons (.comp (.call 3 (.cons (.var 0) (.cons (.var 2) .nil))) (.nm 2) (.seq (.var 1)) .no [2]) .nil))) [some (.val (picV q)),some (.val (Qqx l)),none] κ=.ret (.bl true) κ:=by
  show ((((evE _ _ _ _).bind fun p=>(R.ok ([],p.2)).bind fun q=>R.ok (p.1::q.1,q.2)).bind _).toO _)=_
  rw [c1]
  simp only [R.bind_ok,bi_all,ha,R.ofO_some,Option.map_some,R.toO_ok]
 show ((exS (cb tab (d+3)) _ [some (.val (picV q)),some (.val (Qqx l)),none] κ).then fun ρ κ=>(exS (cb tab (d+3)) _ ρ κ).then _).fin=_
 rw [p1,O.then_nx,p3]
 rfl
theorem s_need_facts (d:Nat){q:List Int}{l:List Clm}(κ:Ks)(hl:l.length≤4)(h:∀ c∈l,ClaimOk q c):(cb tab (d+5)).cf 6 [.v (picV q),.v (Qqx l)] κ=.ok (.non,κ):=by
 rw [Qqf _ _ _ _ _ rfl rfl]
 simp only [ir_need_facts,List.replicate,Nat.reduceSub,List.append_nil,exSs,exS,evE,evT,evEs,evA,evBs,evO,evOt,evI,bw,rdV,rdB,R.bind_ok,R.bind_exc,R.bind_bad,R.ofO_some,R.ofO_none,R.toO_ok,R.toO_exc,R.toO_bad,O.then_nx,O.then_ret,O.then_exc,O.then_bad,O.fin_nx,O.fin_ret,O.fin_exc,O.fin_bad,Option.map_some,Option.map_none,List.map_cons,List.map_nil,Ar.slot,List.cons_append,List.nil_append,List.length_cons,List.length_nil,List.getElem?_cons_zero,List.getElem?_cons_succ,List.set_cons_zero,List.set_cons_succ,Qzc,Qqb,Qq9,Qqq,Qq6,Qq8,Qq7,Qqv,Qqw,Qq2,Qq3,Qq4,Qq5,Qqr,Qz0,Qz1,Qz2,Qqt,Qqs,reduceCtorEq,decide_true,decide_false,Bool.or_true,Bool.or_false,Bool.true_or,Bool.false_or,blV,ntV,ngV,Qzk,op_add,op_sub,Qqk,Qqm,Qqn,Qqp,Qqj,Qqz,Qqh,s_right_facts d κ hl h,Bool.not_true,if_false,Bool.false_eq_true]
end K10
end
section
namespace PL
open PySem
theorem compL_none {f:Val→Ks→R (Option Val × Ks)}{κ:Ks}:∀ {l:List Val},(∀ v∈l,f v κ=.ok (none,κ))→compL l f κ=.ok ([],κ)
 | [],_=>rfl
 | v::l,h=>by
  unfold compL
  rw [h v List.mem_cons_self,R.bind_ok,compL_none fun u hu=>h u (List.mem_cons_of_mem _ hu)]
  rfl
theorem ev_comp_none {c:CB}{ee:E}{t:T}{tg:Tg}{it:It}{own:List Nat}{ρ:Rho}{κ:Ks}{l:List Val}(hi:evI c it ρ κ=.ok (l,κ))(h:∀ v∈l,∃ ρ2,setTg tg v (wipeR ρ own)=some ρ2∧evT c t ρ2 κ=.ok (false,κ)) :
  evE c (.comp ee tg it (.yes t) own) ρ κ=.ok (.lst [],κ):=by
 show (evI c it ρ κ).bind _=_
 rw [hi,R.bind_ok]
 dsimp only
 rw [compL_none fun v hv => ?_]
 ·simp only [R.bind_ok]
  rw [if_pos (show ([]:List Val).length<LINE by decide)]
 ·obtain ⟨ρ2,h1,h2⟩:=h v hv
  rw [h1,R.ofO_some,R.bind_ok]
  show noExc ((evT c t ρ2 κ).bind fun b=>if b.1=true then (evE c ee ρ2 b.2).bind fun x=>R.ok (some x.1,x.2) else R.ok (none,b.2))=_
  rw [h2,R.bind_ok]
  rfl
theorem zipL_mem {l:List Val}{v:Val}(h:v∈zipL l l):∃ x∈l,v=.tup [x,x]:=by
 unfold zipL at h
 obtain ⟨p,hp,e⟩:=List.mem_map.mp h
 subst e
 have:p.1=p.2∧p.1∈l:=by
  clear h
  induction l with
  | nil=>cases hp
  | cons a l ih=>
   rw [List.zip_cons_cons,List.mem_cons] at hp
   rcases hp with h|h
   ·subst h;exact ⟨rfl,by simp⟩
   ·have:=ih h;exact ⟨this.1,List.mem_cons_of_mem _ this.2⟩
 exact ⟨p.1,this.2,by rw [← this.1]⟩
theorem in23 (n:Int):cmV .in_ (.int n) (.lst [.int 2,.int 3])=some (decide (n=2)||decide (n=3)):=by
 show some (((2:Int) == n)||(((3:Int) == n)||false))=_
 have h:∀ k:Int,(k == n)=decide (n=k):=fun k=>by
  rw [Bool.eq_iff_iff,beq_iff_eq,decide_eq_true_iff]
  exact ⟨Eq.symm,Eq.symm⟩
 rw [Bool.or_false,h,h]
theorem le0:(0≤LINE)=True:=eq_true (by decide)
theorem eqd_nil:cmV .eq (.lst []) (.lst [])=some true:=by decide +kernel
theorem cm_eqb (a:Bool):cmV .eq (.bl a) (.bl a)=some true:=by cases a <;> decide +kernel
end PL
namespace K10
open PySem PL
theorem s_kind (d:Nat)(v:Val)(κ:Ks)(n:Int)(h:(match v with | .bl _=>0 | .int _=>1 | .lst _=>2 | .tup _=>3 | .str _=>4 | .non=>5|_=>6)=n)(h6:n<6):(cb tab (d+1)).cf 27 [.v v] κ=.ok (.int n,κ):=by
 rw [Qqf _ _ _ _ _ rfl rfl]
 subst h
 cases v <;> first|(exact absurd (show (6:Int)<6 from h6) (by decide))|simp only [ir__law_kind,List.replicate,Nat.reduceSub,List.append_nil,exSs,exS,evE,evT,evEs,evA,evBs,evO,evOt,evI,bw,rdV,rdB,R.bind_ok,R.bind_exc,R.bind_bad,R.ofO_some,R.ofO_none,R.toO_ok,R.toO_exc,R.toO_bad,O.then_nx,O.then_ret,O.then_exc,O.then_bad,O.fin_nx,O.fin_ret,O.fin_exc,O.fin_bad,Option.map_some,Option.map_none,List.map_cons,List.map_nil,Ar.slot,List.cons_append,List.nil_append,List.length_cons,List.length_nil,List.getElem?_cons_zero,List.getElem?_cons_succ,List.set_cons_zero,List.set_cons_succ,Qzc,Qqb,Qq9,Qqq,Qq6,Qq8,Qq7,Qqv,Qqw,Qq2,Qq3,Qq4,Qq5,Qqr,Qz0,Qz1,Qz2,Qqt,Qqs,reduceCtorEq,decide_true,decide_false,Bool.or_true,Bool.or_false,Bool.true_or,Bool.false_or,blV,ntV,ngV,Qzk,op_add,op_sub,Qqk,Qqm,Qqn,Qqp,Qqj,Qqz,Qqh,if_true,if_false,Bool.false_eq_true]
def Twin (d:Nat)(v:Val):Prop:=∀ κ,(cb tab d).cf 26 [.v v,.v v] κ=.ok (.bl true,κ)
theorem tw_comp (d:Nat){l:List Val}(h:∀ v∈l,Twin (d+1) v)(s:Val)(hs:zipV s s=some (zipL l l))(κ:Ks):evE (cb tab (d+1)) (.comp (.con (.int (1))) (.tp (.cons (.nm 2) (.cons (.nm 3) .nil))) (.zip (.var 0) (.var 1)) (.yes (.not (.val (.call 26 (.cons (.var 2) (.cons (.var 3) .nil)))))) [2,3]) [some (.val s),some (.val s),none,none] κ=.ok (.lst [],κ):=by
 refine ev_comp_none (l:=zipL l l) ?_ fun v hv => ?_
 ·simp only [exSs,exS,evE,evT,evEs,evA,evBs,evO,evOt,evI,bw,rdV,rdB,R.bind_ok,R.bind_exc,R.bind_bad,R.ofO_some,R.ofO_none,R.toO_ok,R.toO_exc,R.toO_bad,O.then_nx,O.then_ret,O.then_exc,O.then_bad,O.fin_nx,O.fin_ret,O.fin_exc,O.fin_bad,Option.map_some,Option.map_none,List.map_cons,List.map_nil,Ar.slot,List.cons_append,List.nil_append,List.length_cons,List.length_nil,List.getElem?_cons_zero,List.getElem?_cons_succ,List.set_cons_zero,List.set_cons_succ,Qzc,Qqb,Qq9,Qqq,Qq6,Qq8,Qq7,Qqv,Qqw,Qq2,Qq3,Qq4,Qq5,Qqr,Qz0,Qz1,Qz2,Qqt,Qqs,reduceCtorEq,decide_true,decide_false,Bool.or_true,Bool.or_false,Bool.true_or,Bool.false_or,blV,ntV,ngV,Qzk,op_add,op_sub,Qqk,Qqm,Qqn,Qqp,Qqj,Qqz,Qqh,hs]
 ·obtain ⟨x,hx,e⟩:=zipL_mem hv
  subst e
  refine ⟨[some (.val s),some (.val s),some (.val x),some (.val x)],rfl,?_⟩
  simp only [exSs,exS,evE,evT,evEs,evA,evBs,evO,evOt,evI,bw,rdV,rdB,R.bind_ok,R.bind_exc,R.bind_bad,R.ofO_some,R.ofO_none,R.toO_ok,R.toO_exc,R.toO_bad,O.then_nx,O.then_ret,O.then_exc,O.then_bad,O.fin_nx,O.fin_ret,O.fin_exc,O.fin_bad,Option.map_some,Option.map_none,List.map_cons,List.map_nil,Ar.slot,List.cons_append,List.nil_append,List.length_cons,List.length_nil,List.getElem?_cons_zero,List.getElem?_cons_succ,List.set_cons_zero,List.set_cons_succ,Qzc,Qqb,Qq9,Qqq,Qq6,Qq8,Qq7,Qqv,Qqw,Qq2,Qq3,Qq4,Qq5,Qqr,Qz0,Qz1,Qz2,Qqt,Qqs,reduceCtorEq,decide_true,decide_false,Bool.or_true,Bool.or_false,Bool.true_or,Bool.false_or,blV,ntV,ngV,Qzk,op_add,op_sub,Qqk,Qqm,Qqn,Qqp,Qqj,Qqz,Qqh,h x hx κ,Bool.not_true]
theorem tw_tup (d:Nat){l:List Val}(h:∀ v∈l,Twin (d+1) v):Twin (d+2) (.tup l):=fun κ=>by
 rw [Qqf _ _ _ _ _ rfl rfl]
 have k:=s_kind d (.tup l) κ 3 rfl (by decide)
 have c:=tw_comp d h (.tup l) rfl κ
 simp only [ir__law_twins,List.replicate,Nat.reduceSub]
 rw [show [Ar.v (.tup l),Ar.v (.tup l)].length=2 from rfl]
 generalize he:(E.comp (.con (.int (1))) (.tp (.cons (.nm 2) (.cons (.nm 3) .nil))) (.zip (.var 0) (.var 1)) (.yes (.not (.val (.call 26 (.cons (.var 2) (.cons (.var 3) .nil)))))) [2,3])=ee at c ⊢
 simp only [Nat.reduceSub,List.replicate,exSs,exS,evT,exSs,exS,evE,evT,evEs,evA,evBs,evO,evOt,evI,bw,rdV,rdB,R.bind_ok,R.bind_exc,R.bind_bad,R.ofO_some,R.ofO_none,R.toO_ok,R.toO_exc,R.toO_bad,O.then_nx,O.then_ret,O.then_exc,O.then_bad,O.fin_nx,O.fin_ret,O.fin_exc,O.fin_bad,Option.map_some,Option.map_none,List.map_cons,List.map_nil,Ar.slot,List.cons_append,List.nil_append,List.length_cons,List.length_nil,List.getElem?_cons_zero,List.getElem?_cons_succ,List.set_cons_zero,List.set_cons_succ,Qzc,Qqb,Qq9,Qqq,Qq6,Qq8,Qq7,Qqv,Qqw,Qq2,Qq3,Qq4,Qq5,Qqr,Qz0,Qz1,Qz2,Qqt,Qqs,reduceCtorEq,decide_true,decide_false,Bool.or_true,Bool.or_false,Bool.true_or,Bool.false_or,blV,ntV,ngV,Qzk,op_add,op_sub,Qqk,Qqm,Qqn,Qqp,Qqj,Qqz,Qqh,k,in23,le2,if_true,if_false,Bool.false_eq_true,Bool.not_true,show decide ((3:Int)=2)=false from rfl,show decide ((3:Int)=3)=true from rfl]
 have hb:∀ r,bw ee [some (.val (.tup l)),some (.val (.tup l)),none,none] κ r=r:=fun r=>by subst he;rfl
 rw [show evE (cb tab (d+1)) ee [some (Slot.val (Val.tup l)),some (Slot.val (Val.tup l)),none,none] κ=R.ok (Val.lst [],κ) from c]
 subst he
 simp only [exSs,exS,evE,evT,evEs,evA,evBs,evO,evOt,evI,bw,rdV,rdB,R.bind_ok,R.bind_exc,R.bind_bad,R.ofO_some,R.ofO_none,R.toO_ok,R.toO_exc,R.toO_bad,O.then_nx,O.then_ret,O.then_exc,O.then_bad,O.fin_nx,O.fin_ret,O.fin_exc,O.fin_bad,Option.map_some,Option.map_none,List.map_cons,List.map_nil,Ar.slot,List.cons_append,List.nil_append,List.length_cons,List.length_nil,List.getElem?_cons_zero,List.getElem?_cons_succ,List.set_cons_zero,List.set_cons_succ,Qzc,Qqb,Qq9,Qqq,Qq6,Qq8,Qq7,Qqv,Qqw,Qq2,Qq3,Qq4,Qq5,Qqr,Qz0,Qz1,Qz2,Qqt,Qqs,reduceCtorEq,decide_true,decide_false,Bool.or_true,Bool.or_false,Bool.true_or,Bool.false_or,blV,ntV,ngV,Qzk,op_add,op_sub,Qqk,Qqm,Qqn,Qqp,Qqj,Qqz,Qqh,le0,if_true,eqd_nil]
theorem tw_lst (d:Nat){l:List Val}(h:∀ v∈l,Twin (d+1) v):Twin (d+2) (.lst l):=fun κ=>by
 rw [Qqf _ _ _ _ _ rfl rfl]
 have k:=s_kind d (.lst l) κ 2 rfl (by decide)
 have c:=tw_comp d h (.lst l) rfl κ
 simp only [ir__law_twins,List.replicate,Nat.reduceSub]
 rw [show [Ar.v (.lst l),Ar.v (.lst l)].length=2 from rfl]
 generalize he:(E.comp (.con (.int (1))) (.tp (.cons (.nm 2) (.cons (.nm 3) .nil))) (.zip (.var 0) (.var 1)) (.yes (.not (.val (.call 26 (.cons (.var 2) (.cons (.var 3) .nil)))))) [2,3])=ee at c ⊢
 simp only [Nat.reduceSub,List.replicate,exSs,exS,evT,exSs,exS,evE,evT,evEs,evA,evBs,evO,evOt,evI,bw,rdV,rdB,R.bind_ok,R.bind_exc,R.bind_bad,R.ofO_some,R.ofO_none,R.toO_ok,R.toO_exc,R.toO_bad,O.then_nx,O.then_ret,O.then_exc,O.then_bad,O.fin_nx,O.fin_ret,O.fin_exc,O.fin_bad,Option.map_some,Option.map_none,List.map_cons,List.map_nil,Ar.slot,List.cons_append,List.nil_append,List.length_cons,List.length_nil,List.getElem?_cons_zero,List.getElem?_cons_succ,List.set_cons_zero,List.set_cons_succ,Qzc,Qqb,Qq9,Qqq,Qq6,Qq8,Qq7,Qqv,Qqw,Qq2,Qq3,Qq4,Qq5,Qqr,Qz0,Qz1,Qz2,Qqt,Qqs,reduceCtorEq,decide_true,decide_false,Bool.or_true,Bool.or_false,Bool.true_or,Bool.false_or,blV,ntV,ngV,Qzk,op_add,op_sub,Qqk,Qqm,Qqn,Qqp,Qqj,Qqz,Qqh,k,in23,le2,if_true,if_false,Bool.false_eq_true,Bool.not_true,show decide ((2:Int)=2)=true from rfl,show decide ((2:Int)=3)=false from rfl]
 rw [show evE (cb tab (d+1)) ee [some (Slot.val (Val.lst l)),some (Slot.val (Val.lst l)),none,none] κ=R.ok (Val.lst [],κ) from c]
 subst he
 simp only [exSs,exS,evE,evT,evEs,evA,evBs,evO,evOt,evI,bw,rdV,rdB,R.bind_ok,R.bind_exc,R.bind_bad,R.ofO_some,R.ofO_none,R.toO_ok,R.toO_exc,R.toO_bad,O.then_nx,O.then_ret,O.then_exc,O.then_bad,O.fin_nx,O.fin_ret,O.fin_exc,O.fin_bad,Option.map_some,Option.map_none,List.map_cons,List.map_nil,Ar.slot,List.cons_append,List.nil_append,List.length_cons,List.length_nil,List.getElem?_cons_zero,List.getElem?_cons_succ,List.set_cons_zero,List.set_cons_succ,Qzc,Qqb,Qq9,Qqq,Qq6,Qq8,Qq7,Qqv,Qqw,Qq2,Qq3,Qq4,Qq5,Qqr,Qz0,Qz1,Qz2,Qqt,Qqs,reduceCtorEq,decide_true,decide_false,Bool.or_true,Bool.or_false,Bool.true_or,Bool.false_or,blV,ntV,ngV,Qzk,op_add,op_sub,Qqk,Qqm,Qqn,Qqp,Qqj,Qqz,Qqh,le0,if_true,eqd_nil]
end K10
end
section
namespace PL
open PySem
theorem Qz3 {c:CB}{s:S}{l:Ss}{ρ ρ':Rho}{κ κ':Ks}(h:exS c s ρ κ=.nx ρ' κ'):exSs c (.cons s l) ρ κ=exSs c l ρ' κ':=by
 show (exS c s ρ κ).then _=_
 rw [h]
 rfl
theorem Qz5 {c:CB}{s:S}{l:Ss}{ρ:Rho}{v:Val}{κ κ':Ks}(h:exS c s ρ κ=.ret v κ'):exSs c (.cons s l) ρ κ=.ret v κ':=by
 show (exS c s ρ κ).then _=_
 rw [h]
 rfl
theorem ss_exc {c:CB}{s:S}{l:Ss}{ρ:Rho}{e:Nat}{v:Val}{κ κ':Ks}(h:exS c s ρ κ=.exc e v κ'):exSs c (.cons s l) ρ κ=.exc e v κ':=by
 show (exS c s ρ κ).then _=_
 rw [h]
 rfl
theorem ev_allc {c:CB}{e:E}{ρ:Rho}{κ κ':Ks}{l:List Bool}(h:evE c e ρ κ=.ok (.lst (l.map .bl),κ'))(hb:∀ r,bw e ρ κ r=r):evE c (.bi .all (.cons e .nil)) ρ κ=.ok (.bl (l.all id),κ'):=by
 show (((bw e ρ κ (evE c e ρ κ)).bind fun p=>(R.ok ([],p.2)).bind fun q=>R.ok (p.1::q.1,q.2)).bind _)=_
 rw [hb,h]
 simp only [R.bind_ok,bi_all,R.ofO_some,Option.map_some]
theorem Qz8 {c:CB}{e:E}{ρ:Rho}{κ κ':Ks}{v:Val}(h:evE c e ρ κ=.ok (v,κ')):exS c (.ret e) ρ κ=.ret v κ':=by
 show (evE c e ρ κ).toO _=_
 rw [h]
 rfl
end PL
namespace K10
open PySem PL
end K10
namespace PL
open PySem
theorem ev_callE {c:CB}{f:Nat}{es:As}{ρ:Rho}{κ κ1:Ks}{vs:List Ar}(h:evA c es ρ κ=.ok (vs,κ1)):evE c (.call f es) ρ κ=c.cf f vs κ1:=by
 show (evA c es ρ κ).bind _=_
 rw [h]
 rfl
theorem ite_no {c:CB}{t:T}{a b:Ss}{ρ:Rho}{κ κ1:Ks}(h:evT c t ρ κ=.ok (false,κ1)):exS c (.ite t a b) ρ κ=exSs c b ρ κ1:=by
 show (evT c t ρ κ).toO _=_
 rw [h]
 rfl
theorem Qzs {c:CB}{t:T}{a b:Ss}{ρ:Rho}{κ κ1:Ks}(h:evT c t ρ κ=.ok (true,κ1)):exS c (.ite t a b) ρ κ=exSs c a ρ κ1:=by
 show (evT c t ρ κ).toO _=_
 rw [h]
 rfl
theorem not_val {c:CB}{e:E}{b:Bool}{ρ:Rho}{κ κ1:Ks}(h:evE c e ρ κ=.ok (.bl b,κ1)):evT c (.not (.val e)) ρ κ=.ok (!b,κ1):=by
 show (((evE c e ρ κ).bind _).bind _)=_
 rw [h]
 rfl
end PL
namespace K10
open PySem PL
end K10
end
section
namespace PL
open PySem
theorem op_str {x y:Str}(h:decide (x.length+y.length≤LINE)=true):opV .add (.str x) (.str y)=some (.str (x++y)):=by
 show (if x.length+y.length≤LINE then some (Val.str (x++y)) else none)=_
 rw [if_pos (of_decide_eq_true h)]
theorem filtL_ok {f:Nat→List Val→Ks→R (Bool × Ks)}{κ:Ks}:∀ {l:List (Nat × List Val)},(∀ p∈l,f p.1 p.2 κ=.ok (false,κ))→filtL l f κ=.ok κ
 | [],_=>rfl
 | p::l,h=>by
  show ((f p.1 p.2 κ).bind _)=_
  rw [h p List.mem_cons_self,R.bind_ok]
  exact filtL_ok fun q hq=>h q (List.mem_cons_of_mem _ hq)
end PL
namespace K10
open PySem PL
def Bad (d:Nat)(c:Nat)(p:Nat × List Val):Prop:=∀ κ,(cb tab d).cl p.1 p.2 κ=.exc c .non κ
theorem s_all_say (d:Nat){L:List (Nat × List Val)}{w w2:Str}{c:Nat}(κ:Ks)(h:∀ p∈L,Bad d c p)(hw:opV .add (.str w) (.str " value")=some (.str w2))(hk:cmV .ne (.tup [.non,.str (kinS c)]) (.tup [.non,.str w2])=some false)(hc1:c<1000:=by decide) :
  (cb tab (d+2)).cf 25 [.x (.many L),.v (.str w)] κ=.ok (.bl true,κ):=by
 rw [Qqf _ _ _ _ _ rfl rfl]
 have f1:filtL L (fun k caps κ'=>noExc (evT (cb tab (d+1)) (.cm .ne (.call 24 (.ext 2 .nil)) (.tup (.cons (.con (.non)) (.cons (.op .add (.var 1) (.con (.str " value"))) .nil)))) ([some (.ext (.many L)),some (.val (.str w)),(none:Option PL.Slot)].set 2 (some (.ext (.one k caps)))) κ')) κ=.ok κ:=by
  refine filtL_ok fun p hp => ?_
  have hb:=h p hp κ
  have hc:(cb tab (d+1)).cf 24 [.x (.one p.1 p.2)] κ=.ok (.tup [.non,.str (kinS c)],κ):=by
   rw [Qqf _ _ _ _ _ rfl rfl]
   show ((cameO (cb tab d).cl (cb tab d).kin 0 [some (.ext (.one p.1 p.2)),none] κ).then _).fin=_
   have:cameO (cb tab d).cl (cb tab d).kin 0 [some (.ext (.one p.1 p.2)),none] κ=.ret (.tup [.non,.str (kinS c)]) κ:=by
    show (match (cb tab d).cl p.1 p.2 κ with
     | .ok p=>O.ret (.tup [p.1,.str ⟨#[]⟩]) p.2
     | .exc c .non κ'=>if c<1000 then .ret (.tup [.non,.str ((cb tab d).kin c)]) κ' else .bad
     | _=>.bad)=_
    rw [hb]
    show (if c<1000 then _ else _)=_
    rw [if_pos hc1]
    cases d <;> rfl
   rw [this]
   rfl
  have he:evT (cb tab (d+1)) (.cm .ne (.call 24 (.ext 2 .nil)) (.tup (.cons (.con (.non)) (.cons (.op .add (.var 1) (.con (.str " value"))) .nil)))) ([some (.ext (.many L)),some (.val (.str w)),(none:Option PL.Slot)].set 2 (some (.ext (.one p.1 p.2)))) κ=.ok (false,κ):=by
   have rx:rdX [some (.ext (.many L)),some (.val (.str w)),some (.ext (.one p.1 p.2))] 2=some (.one p.1 p.2):=rfl
   simp only [exSs,exS,evE,evT,evEs,evA,evBs,evO,evOt,evI,bw,rdV,rdB,R.bind_ok,R.bind_exc,R.bind_bad,R.ofO_some,R.ofO_none,R.toO_ok,R.toO_exc,R.toO_bad,O.then_nx,O.then_ret,O.then_exc,O.then_bad,O.fin_nx,O.fin_ret,O.fin_exc,O.fin_bad,Option.map_some,Option.map_none,List.map_cons,List.map_nil,Ar.slot,List.cons_append,List.nil_append,List.length_cons,List.length_nil,List.getElem?_cons_zero,List.getElem?_cons_succ,List.set_cons_zero,List.set_cons_succ,Qzc,Qqb,Qq9,Qqq,Qq6,Qq8,Qq7,Qqv,Qqw,Qq2,Qq3,Qq4,Qq5,Qqr,Qz0,Qz1,Qz2,Qqt,Qqs,reduceCtorEq,decide_true,decide_false,Bool.or_true,Bool.or_false,Bool.true_or,Bool.false_or,blV,ntV,ngV,Qzk,op_add,op_sub,Qqk,Qqm,Qqn,Qqp,Qqj,Qqz,Qqh,rx,hc,hw,le2,if_true,hk]
  rw [he]
  rfl
 have f2:evE (cb tab (d+1)) (.filt 2 0 (.cm .ne (.call 24 (.ext 2 .nil)) (.tup (.cons (.con (.non)) (.cons (.op .add (.var 1) (.con (.str " value"))) .nil))))) [some (.ext (.many L)),some (.val (.str w)),none] κ=.ok (.lst [],κ):=by
  show ((filtL L _ κ).bind _)=_
  exact (congrArg (fun r=>R.bind r _) f1).trans rfl
 show ((exS (cb tab (d+1)) (.ret (.cm .eq (.filt _ _ _) (.lst .nil))) [some (.ext (.many L)),some (.val (.str w)),none] κ).then _).fin=_
 have f3:exS (cb tab (d+1)) (.ret (.cm .eq (.filt 2 0 (.cm .ne (.call 24 (.ext 2 .nil)) (.tup (.cons (.con (.non)) (.cons (.op .add (.var 1) (.con (.str " value"))) .nil))))) (.lst .nil))) [some (.ext (.many L)),some (.val (.str w)),none] κ=.ret (.bl true) κ:=by
  refine Qz8 ?_
  show ((evE _ _ _ _).bind _)=_
  rw [f2]
  simp only [exSs,exS,evE,evT,evEs,evA,evBs,evO,evOt,evI,bw,rdV,rdB,R.bind_ok,R.bind_exc,R.bind_bad,R.ofO_some,R.ofO_none,R.toO_ok,R.toO_exc,R.toO_bad,O.then_nx,O.then_ret,O.then_exc,O.then_bad,O.fin_nx,O.fin_ret,O.fin_exc,O.fin_bad,Option.map_some,Option.map_none,List.map_cons,List.map_nil,Ar.slot,List.cons_append,List.nil_append,List.length_cons,List.length_nil,List.getElem?_cons_zero,List.getElem?_cons_succ,List.set_cons_zero,List.set_cons_succ,Qzc,Qqb,Qq9,Qqq,Qq6,Qq8,Qq7,Qqv,Qqw,Qq2,Qq3,Qq4,Qq5,Qqr,Qz0,Qz1,Qz2,Qqt,Qqs,reduceCtorEq,decide_true,decide_false,Bool.or_true,Bool.or_false,Bool.true_or,Bool.false_or,blV,ntV,ngV,Qzk,op_add,op_sub,Qqk,Qqm,Qqn,Qqp,Qqj,Qqz,Qqh,le0,if_true,eqd_nil]
 rw [f3]
 rfl
end K10
namespace PL
open PySem
theorem cls_lams {ρ:Rho}{l:List (Nat × List Nat)}(h:l.length≤1000):clsOf ρ (.lams l)=some l:=by
 show (if l.length≤LINE then some l else none)=_
 rw [if_pos (Nat.le_trans h (by decide))]
theorem cls_var {ρ:Rho}{i:Nat}{l:List (Nat × List Nat)}(h:ρ[i]? = some (some (.cls l))):clsOf ρ (.var i)=some l:=by
 unfold clsOf
 rw [h]
theorem cls_add {ρ:Rho}{a b:Cl}{x y:List (Nat × List Nat)}(h1:clsOf ρ a=some x)(h2:clsOf ρ b=some y)(h:x.length+y.length≤1000):clsOf ρ (.add a b)=some (x++y):=by
 unfold clsOf
 rw [h1,h2]
 show (if x.length+y.length≤LINE then some (x++y) else none)=_
 rw [if_pos (Nat.le_trans h (by decide))]
theorem setC_nx {c:CB}{ρ:Rho}{κ:Ks}{d:Cl}{i:Nat}{l:List (Nat × List Nat)}(h:clsOf ρ d=some l):exS c (.setC i d) ρ κ=.nx (ρ.set i (some (.cls l))) κ:=by
 show (match clsOf ρ d with
  | some l=>O.nx (ρ.set i (some (.cls l))) κ
  | none=>.bad)=_
 rw [h]
theorem ev_clos {c:CB}{ρ:Rho}{κ:Ks}{d:Cl}{w:Str}{l:List (Nat × List Nat)}{L:List (Nat × List Val)}(h:clsOf ρ d=some l)(h2:eclosOf ρ l=some L):evA c (.clos d (.cons (.con (.str w)) .nil)) ρ κ=.ok ([.x (.many L),.v (.str w)],κ):=by
 show ((R.ofO (((clsOf ρ d).bind (eclosOf ρ)).map fun l=>Ar.x (.many l))).bind _)=_
 rw [h]
 show ((R.ofO (((eclosOf ρ l)).map fun l=>Ar.x (.many l))).bind _)=_
 rw [h2]
 rfl
end PL
namespace K10
open PySem PL
theorem cl_succ (d k:Nat)(e:E)(h:lamE k=some e)(caps:List Val)(κ:Ks):(cb tab (d+1)).cl k caps κ=evE (cb tab d) e (caps.map fun v=>some (.val v)) κ:=by
 show (match lamE k with
   | some e=>evE (cb tab d) e (caps.map fun v=>some (.val v)) κ
   | none=>.bad)=_
 rw [h]
theorem say_facts:opV .add (.str "facts") (.str " value")=some (.str "facts value"):=op_str (by decide +kernel)
theorem say_picture:opV .add (.str "picture") (.str " value")=some (.str "picture value"):=op_str (by decide +kernel)
theorem all_no {c:CB}{t:Cl}{w:Str}{ρ:Rho}{κ:Ks}{L:List (Nat × List Val)}{x:Ss}(ha:evA c (.clos t (.cons (.con (.str w)) .nil)) ρ κ=.ok ([.x (.many L),.v (.str w)],κ))(hc:c.cf 25 [.x (.many L),.v (.str w)] κ=.ok (.bl true,κ)):exS c (.ite (.not (.val (.call 25 (.clos t (.cons (.con (.str w)) .nil))))) x .nil) ρ κ=.nx ρ κ:=by
 have:=not_val ((ev_callE ha).trans hc)
 rw [ite_no this]
 rfl
end K10
end
section
namespace PL
open PySem
def topD:Val→Bool
 | .fn _=>false | .cell _=>false | .scr _=>false | .err _ _=>false
 | _=>true
def Qzw (v:Val)(lo hi:Int):Bool:=match v with
 | .int n=>decide (lo≤n)&&decide (n≤hi)
 | _=>false
end PL
namespace K10
open PySem PL
theorem s_wholeV (d:Nat){v:Val}(h:topD v=true)(lo hi:Int)(κ:Ks):(cb tab (d+1)).cf 0 [.v v,.v (.int lo),.v (.int hi)] κ=.ok (.bl (Qzw v lo hi),κ):=by
 cases v with
 | int n=>exact s_whole d n lo hi κ
 | non=>rfl
 | bl b=>rfl
 | str x=>rfl
 | tup l=>rfl
 | lst l=>rfl
 | fn i=>cases h
 | cell i=>cases h
 | scr i=>cases h
 | err _ _=>cases h
end K10
end
section
namespace K10
open PySem PL
end K10
end
section
namespace K10
open PySem PL
end K10
end
section
namespace PL
open PySem
mutual
def eqT:Val→Val→Bool
 | .non,.non=>true
 | .bl a,.bl b=>a == b
 | .bl a,.int j=>(if a then 1 else 0) == j
 | .int i,.bl b=>i == (if b then 1 else 0)
 | .int i,.int j=>i == j
 | .str x,.str y=>x == y
 | .lst x,.lst y=>eqTs x y
 | .tup x,.tup y=>eqTs x y
 | _,_=>false
def eqTs:List Val→List Val→Bool
 | [],[]=>true
 | x::xs,y::ys=>eqT x y&&eqTs xs ys
 | _,_=>false
end
mutual
def datB:Nat→Val→Bool
 | _,.non=>true
 | _,.bl _=>true
 | _,.int _=>true
 | _,.str x=>PyData.strOk x
 | n+1,.tup l=>datBs n l
 | n+1,.lst l=>datBs n l
 | _,_=>false
def datBs:Nat→List Val→Bool
 | _,[]=>true
 | n,v::l=>datB n v&&datBs n l
end
mutual
theorem dat_to:∀ (v:Val) (n:Nat),datB n v=true→∃ d,Qzd v=some d∧d.canLay0=true∧d.depth≤n
 | .non,_,_=>⟨_,rfl,rfl,Nat.zero_le _⟩
 | .bl _,_,_=>⟨_,rfl,rfl,Nat.zero_le _⟩
 | .int _,_,_=>⟨_,rfl,rfl,Nat.zero_le _⟩
 | .str x,n,h=>⟨_,rfl,by cases n <;> exact h,Nat.zero_le _⟩
 | .tup l,n+1,h=>by
  obtain ⟨ds,e,c,b⟩:=dats_to l n h
  refine ⟨.tuple ds,?_,c,?_⟩
  ·show (toDatas l).map PyData.tuple=_
   rw [e];rfl
  ·show PyData.depthAll ds+1≤n+1
   omega
 | .lst l,n+1,h=>by
  obtain ⟨ds,e,c,b⟩:=dats_to l n h
  refine ⟨.list ds,?_,c,?_⟩
  ·show (toDatas l).map PyData.list=_
   rw [e];rfl
  ·show PyData.depthAll ds+1≤n+1
   omega
 | .tup _,0,h=>by cases h
 | .lst _,0,h=>by cases h
 | .fn _,n,h=>by cases n <;> cases h
 | .cell _,n,h=>by cases n <;> cases h
 | .scr _,n,h=>by cases n <;> cases h
 | .err _ _,n,h=>by cases n <;> cases h
theorem dats_to:∀ (l:List Val) (n:Nat),datBs n l=true→∃ ds,toDatas l=some ds∧PyData.canLayAll0 ds=true∧PyData.depthAll ds≤n
 | [],n,_=>⟨[],rfl,rfl,Nat.zero_le _⟩
 | v::l,n,h=>by
  have h:(datB n v&&datBs n l)=true:=by cases n <;> exact h
  obtain ⟨h1,h2⟩:=Bool.and_eq_true_iff.mp h
  obtain ⟨d,e,c,b⟩:=dat_to v n h1
  obtain ⟨ds,e2,c2,b2⟩:=dats_to l n h2
  refine ⟨d::ds,?_,?_,?_⟩
  ·show (match Qzd v,toDatas l with
    | some d,some ds=>some (d::ds)
    | _,_=>none)=_
   rw [e,e2]
  ·show (d.canLay0&&PyData.canLayAll0 ds)=true
   rw [c,c2];rfl
  ·show max d.depth (PyData.depthAll ds)≤n
   omega
end
mutual
theorem eqv_T:∀ (v w:Val) (d e:PyData),Qzd v=some d→Qzd w=some e→PyData.eqv d e=eqT v w
 | .non,w,d,e,h,h2=>by cases w <;> first|(cases h;cases h2;rfl)|(cases h;simp only [Qzd,Option.map_eq_some_iff] at h2;obtain ⟨ys,ey,rfl⟩:=h2;rfl)|cases h2
 | .bl _,w,d,e,h,h2=>by cases w <;> first|(cases h;cases h2;rfl)|(cases h;simp only [Qzd,Option.map_eq_some_iff] at h2;obtain ⟨ys,ey,rfl⟩:=h2;rfl)|cases h2
 | .int _,w,d,e,h,h2=>by cases w <;> first|(cases h;cases h2;rfl)|(cases h;simp only [Qzd,Option.map_eq_some_iff] at h2;obtain ⟨ys,ey,rfl⟩:=h2;rfl)|cases h2
 | .str _,w,d,e,h,h2=>by cases w <;> first|(cases h;cases h2;rfl)|(cases h;simp only [Qzd,Option.map_eq_some_iff] at h2;obtain ⟨ys,ey,rfl⟩:=h2;rfl)|cases h2
 | .tup x,w,d,e,h,h2=>by
  simp only [Qzd,Option.map_eq_some_iff] at h
  obtain ⟨xs,ex,rfl⟩:=h
  cases w with
  | tup y=>
   simp only [Qzd,Option.map_eq_some_iff] at h2
   obtain ⟨ys,ey,rfl⟩:=h2
   exact eqvs_T x y xs ys ex ey
  | lst y=>
   simp only [Qzd,Option.map_eq_some_iff] at h2
   obtain ⟨ys,ey,rfl⟩:=h2
   rfl
  | fn _=>cases h2
  | cell _=>cases h2
  | scr _=>cases h2
  | err _ _=>cases h2
  | _=>cases h2;rfl
 | .lst x,w,d,e,h,h2=>by
  simp only [Qzd,Option.map_eq_some_iff] at h
  obtain ⟨xs,ex,rfl⟩:=h
  cases w with
  | lst y=>
   simp only [Qzd,Option.map_eq_some_iff] at h2
   obtain ⟨ys,ey,rfl⟩:=h2
   exact eqvs_T x y xs ys ex ey
  | tup y=>
   simp only [Qzd,Option.map_eq_some_iff] at h2
   obtain ⟨ys,ey,rfl⟩:=h2
   rfl
  | fn _=>cases h2
  | cell _=>cases h2
  | scr _=>cases h2
  | err _ _=>cases h2
  | _=>cases h2;rfl
 | .fn _,w,d,e,h,h2=>by cases h
 | .cell _,w,d,e,h,h2=>by cases h
 | .scr _,w,d,e,h,h2=>by cases h
 | .err _ _,w,d,e,h,h2=>by cases h
theorem eqvs_T:∀ (v w:List Val) (d e:List PyData),toDatas v=some d→toDatas w=some e→PyData.eqvAll d e=eqTs v w
 | [],[],d,e,h,h2=>by cases h;cases h2;rfl
 | [],y::ys,d,e,h,h2=>by
  cases h
  simp only [toDatas] at h2
  cases hy:Qzd y with
  | none=>rw [hy] at h2;cases h2
  | some a=>
   cases hys:toDatas ys with
   | none=>rw [hy,hys] at h2;cases h2
   | some as=>
    rw [hy,hys] at h2
    cases h2
    rfl
 | x::xs,[],d,e,h,h2=>by
  cases h2
  simp only [toDatas] at h
  cases hy:Qzd x with
  | none=>rw [hy] at h;cases h
  | some a=>
   cases hys:toDatas xs with
   | none=>rw [hy,hys] at h;cases h
   | some as=>
    rw [hy,hys] at h
    cases h
    rfl
 | x::xs,y::ys,d,e,h,h2=>by
  simp only [toDatas] at h h2
  cases hx:Qzd x with
  | none=>rw [hx] at h;cases h
  | some a=>
   cases hxs:toDatas xs with
   | none=>rw [hx,hxs] at h;cases h
   | some as=>
    rw [hx,hxs] at h
    cases h
    cases hy:Qzd y with
    | none=>rw [hy] at h2;cases h2
    | some b=>
     cases hys:toDatas ys with
     | none=>rw [hy,hys] at h2;cases h2
     | some bs=>
      rw [hy,hys] at h2
      cases h2
      show (PyData.eqv a b&&PyData.eqvAll as bs)=(eqT x y&&eqTs xs ys)
      rw [eqv_T x y a b hx hy,eqvs_T xs ys as bs hxs hys]
end
theorem eqD_T {v w:Val}(h1:datB 64 v=true)(h2:datB 64 w=true):eqD v w=some (eqT v w):=by
 obtain ⟨d,e1,c1,b1⟩:=dat_to v 64 h1
 obtain ⟨e,e2,c2,b2⟩:=dat_to w 64 h2
 have s:∀ {x:PyData},x.canLay0=true→x.depth≤64→SeqAt.shaped x=true:=fun {x} c b=>by
  show (x.canLay0&&decide (x.depth≤64))=true
  rw [c,decide_eq_true b];rfl
 unfold eqD
 rw [e1,e2]
 show (if SeqAt.shaped d&&SeqAt.shaped e then some (PyData.eqv d e) else none)=_
 rw [s c1 b1,s c2 b2,eqv_T v w d e e1 e2]
 rfl
theorem cm_eqT {v w:Val}(h1:datB 64 v=true)(h2:datB 64 w=true):cmV .eq v w=some (eqT v w):=eqD_T h1 h2
theorem cm_neT {v w:Val}(h1:datB 64 v=true)(h2:datB 64 w=true):cmV .ne v w=some (!eqT v w):=by
 show (eqD v w).map (!·)=_
 rw [eqD_T h1 h2];rfl
mutual
def noB:Val→Bool
 | .non=>true
 | .int _=>true
 | .str _=>true
 | .tup l=>noBs l
 | .lst l=>noBs l
 | _=>false
def noBs:List Val→Bool
 | []=>true
 | v::l=>noB v&&noBs l
end
mutual
theorem eqT_iff:∀ (v w:Val),noB v=true→noB w=true→(eqT v w=true↔v=w)
 | .non,w,_,h2=>by cases w <;> first|(cases h2;done)|simp [eqT]
 | .int a,w,_,h2=>by cases w <;> first|(cases h2;done)|simp [eqT]
 | .str a,w,_,h2=>by cases w <;> first|(cases h2;done)|simp [eqT]
 | .tup a,w,h1,h2=>by
  cases w with
  | tup b=>
   have:=eqTs_iff a b h1 h2
   show eqTs a b=true↔_
   rw [this]
   exact ⟨fun h=>by rw [h],fun h=>by cases h;rfl⟩
  | bl _=>cases h2
  | fn _=>cases h2
  | cell _=>cases h2
  | scr _=>cases h2
  | err _ _=>cases h2
  | _=>simp [eqT]
 | .lst a,w,h1,h2=>by
  cases w with
  | lst b=>
   have:=eqTs_iff a b h1 h2
   show eqTs a b=true↔_
   rw [this]
   exact ⟨fun h=>by rw [h],fun h=>by cases h;rfl⟩
  | bl _=>cases h2
  | fn _=>cases h2
  | cell _=>cases h2
  | scr _=>cases h2
  | err _ _=>cases h2
  | _=>simp [eqT]
 | .bl _,w,h,_=>by cases h
 | .fn _,w,h,_=>by cases h
 | .cell _,w,h,_=>by cases h
 | .scr _,w,h,_=>by cases h
 | .err _ _,w,h,_=>by cases h
theorem eqTs_iff:∀ (v w:List Val),noBs v=true→noBs w=true→(eqTs v w=true↔v=w)
 | [],[],_,_=>by simp [eqTs]
 | [],_::_,_,_=>by simp [eqTs]
 | _::_,[],_,_=>by simp [eqTs]
 | x::xs,y::ys,h1,h2=>by
  obtain ⟨a1,a2⟩:=Bool.and_eq_true_iff.mp h1
  obtain ⟨b1,b2⟩:=Bool.and_eq_true_iff.mp h2
  show (eqT x y&&eqTs xs ys)=true↔_
  rw [Bool.and_eq_true_iff,eqT_iff x y a1 b1,eqTs_iff xs ys a2 b2,List.cons.injEq]
end
theorem Qx6 {n:Nat}:∀ {l:List Val},(∀ v∈l,datB n v=true)→datBs n l=true
 | [],_=>by cases n <;> rfl
 | v::l,h=>by
  have e:datBs n (v::l)=(datB n v&&datBs n l):=by cases n <;> rfl
  rw [e,h v List.mem_cons_self,Qx6 fun u hu=>h u (List.mem_cons_of_mem _ hu)]
  rfl
theorem noBs_of:∀ {l:List Val},(∀ v∈l,noB v=true)→noBs l=true
 | [],_=>rfl
 | v::l,h=>by
  show (noB v&&noBs l)=true
  rw [h v List.mem_cons_self,noBs_of fun u hu=>h u (List.mem_cons_of_mem _ hu)]
  rfl
end PL
end
section
namespace PL
open PySem
theorem sl_from {l:List Val}{i:Nat}(h:i≤l.length):slV (.tup l) (some (i:Int)) none=some (.tup (l.drop i)):=by
 show some (Val.tup (cutL l (some (i:Int)) none))=_
 unfold cutL
 rw [HT.sIx_nat,HT.sIx_none,Nat.min_eq_left h,List.take_of_length_le (by rw [List.length_drop];omega)]
theorem sl_froml {l:List Val}{i:Nat}(h:i≤l.length):slV (.lst l) (some (i:Int)) none=some (.lst (l.drop i)):=by
 show some (Val.lst (cutL l (some (i:Int)) none))=_
 unfold cutL
 rw [HT.sIx_nat,HT.sIx_none,Nat.min_eq_left h,List.take_of_length_le (by rw [List.length_drop];omega)]
theorem sl_tol {l:List Val}{i:Nat}(h:i≤l.length):slV (.lst l) none (some (i:Int))=some (.lst (l.take i)):=by
 show some (Val.lst (cutL l none (some (i:Int))))=_
 unfold cutL
 rw [HT.sIx_nat,HT.sIx_none,Nat.min_eq_left h]
 rfl
theorem loopL_all {f:Val→Rho→Ks→O}{I:Rho→Prop}{P:Val→Bool}{w:Val}{κ:Ks}:∀ {l:List Val},(∀ v∈l,∀ ρ,I ρ→(P v=true→∃ ρ',f v ρ κ=.nx ρ' κ∧I ρ')∧(P v=false→f v ρ κ=.ret w κ))→∀ ρ,I ρ→(l.all P=true→∃ ρ',loopL l f ρ κ=.nx ρ' κ∧I ρ')∧(l.all P=false→loopL l f ρ κ=.ret w κ)
 | [],_,ρ,hI=>⟨fun _=>⟨ρ,rfl,hI⟩,fun h=>(by cases h)⟩
 | v::l,h,ρ,hI=>by
  obtain ⟨h1,h2⟩:=h v List.mem_cons_self ρ hI
  rw [List.all_cons]
  show (_→∃ ρ',(f v ρ κ).then _=_∧_)∧(_→(f v ρ κ).then _=_)
  cases hp:P v with
  | false=>
   refine ⟨fun h=>(by cases h),fun _ => ?_⟩
   rw [h2 hp]
   rfl
  | true=>
   obtain ⟨ρ1,e1,hI1⟩:=h1 hp
   rw [e1,Bool.true_and]
   exact loopL_all (fun u hu=>h u (List.mem_cons_of_mem _ hu)) ρ1 hI1
theorem loop_of {c:CB}{tg:Tg}{it:It}{b:Ss}{ρ:Rho}{κ κ1:Ks}{l:List Val}{o:O}(hi:evI c it ρ κ=.ok (l,κ1))(h:loopL l (fun v ρ' κ'=>match setTg tg v ρ' with
  | some ρ2=>exSs c b ρ2 κ'
  | none=>.bad) ρ κ1=o):exS c (.loop tg it b) ρ κ=o:=by
 show (evI c it ρ κ).toO _=_
 rw [hi]
 exact h
theorem loop_all {c:CB}{tg:Tg}{it:It}{b:Ss}{ρ:Rho}{κ:Ks}{l:List Val}{I:Rho→Prop}{P:Val→Bool}{w:Val}(hi:evI c it ρ κ=.ok (l,κ))(h0:I ρ)
  (h:∀ v∈l,∀ ρ,I ρ→∃ ρ1,setTg tg v ρ=some ρ1∧(P v=true→∃ ρ',exSs c b ρ1 κ=.nx ρ' κ∧I ρ')∧(P v=false→exSs c b ρ1 κ=.ret w κ)) :
  (l.all P=true→∃ ρ',exS c (.loop tg it b) ρ κ=.nx ρ' κ∧I ρ')∧(l.all P=false→exS c (.loop tg it b) ρ κ=.ret w κ):=by
 have key:=loopL_all (f:=fun v ρ' κ'=>match setTg tg v ρ' with
  | some ρ2=>exSs c b ρ2 κ'
  | none=>.bad) (I:=I) (P:=P) (w:=w) (κ:=κ) (l:=l) (fun v hv ρ hI=>by
   obtain ⟨ρ1,e1,h1,h2⟩:=h v hv ρ hI
   rw [e1]
   exact ⟨h1,h2⟩) ρ h0
 constructor
 ·intro ha
  obtain ⟨ρ',e,hI⟩:=key.1 ha
  exact ⟨ρ',loop_of hi e,hI⟩
 ·intro ha
  exact loop_of hi (key.2 ha)
theorem compL_filt {f:Val→Ks→R (Option Val × Ks)}{g:Val→Val}{P:Val→Bool}{κ:Ks}:∀ {l:List Val},(∀ v∈l,f v κ=.ok (if P v=true then some (g v) else none,κ))→compL l f κ=.ok ((l.filter P).map g,κ)
 | [],_=>rfl
 | v::l,h=>by
  unfold compL
  rw [h v List.mem_cons_self,R.bind_ok,compL_filt fun u hu=>h u (List.mem_cons_of_mem _ hu)]
  rw [List.filter_cons]
  cases hp:P v with
  | true=>simp
  | false=>simp
theorem ev_compP {c:CB}{ee:E}{t:T}{tg:Tg}{it:It}{own:List Nat}{ρ:Rho}{κ:Ks}{l:List Val}{g:Val→Val}{P:Val→Bool}(hi:evI c it ρ κ=.ok (l,κ))(hl:l.length<LINE)
  (h:∀ v∈l,∃ ρ2,setTg tg v (wipeR ρ own)=some ρ2∧evT c t ρ2 κ=.ok (P v,κ)∧(P v=true→evE c ee ρ2 κ=.ok (g v,κ))) :
  evE c (.comp ee tg it (.yes t) own) ρ κ=.ok (.lst ((l.filter P).map g),κ):=by
 show (evI c it ρ κ).bind _=_
 rw [hi,R.bind_ok]
 dsimp only
 rw [compL_filt (g:=g) (P:=P) fun v hv => ?_]
 ·simp only [R.bind_ok,List.length_map]
  rw [if_pos (Nat.lt_of_le_of_lt (List.length_filter_le _ _) hl)]
 ·obtain ⟨ρ2,h1,h2,h3⟩:=h v hv
  rw [h1,R.ofO_some,R.bind_ok]
  show noExc ((evT c t ρ2 κ).bind fun b=>if b.1=true then (evE c ee ρ2 b.2).bind fun x=>R.ok (some x.1,x.2) else R.ok (none,b.2))=_
  rw [h2,R.bind_ok]
  cases hp:P v with
  | true=>
   simp only [if_true]
   rw [h3 hp]
   rfl
  | false=>rfl
theorem cm_eq_nil {L:List Val}(h:datBs 63 L=true):cmV .eq (.lst L) (.lst [])=some L.isEmpty:=by
 rw [cm_eqT (v:=.lst L) (w:=.lst []) h rfl]
 cases L <;> rfl
theorem cm_ne_nil {L:List Val}(h:datBs 63 L=true):cmV .ne (.lst L) (.lst [])=some (!L.isEmpty):=by
 rw [cm_neT (v:=.lst L) (w:=.lst []) h rfl]
 cases L <;> rfl
theorem datBs_mem {n:Nat}:∀ {l:List Val},datBs n l=true→∀ v∈l,datB n v=true
 | [],_,v,h=>by cases h
 | u::l,h,v,hv=>by
  have e:datBs n (u::l)=(datB n u&&datBs n l):=by cases n <;> rfl
  rw [e] at h
  obtain ⟨h1,h2⟩:=Bool.and_eq_true_iff.mp h
  rcases List.mem_cons.mp hv with q|q
  ·subst q;exact h1
  ·exact datBs_mem h2 v q
theorem datB_topD {n:Nat}{v:Val}(h:datB n v=true):topD v=true:=by
 cases v <;> first|rfl|(cases n <;> cases h)
mutual
theorem datB_mono:∀ {n m:Nat} (v:Val),n≤m→datB n v=true→datB m v=true
 | n,m,.non,_,_=>by cases m <;> rfl
 | n,m,.bl _,_,_=>by cases m <;> rfl
 | n,m,.int _,_,_=>by cases m <;> rfl
 | n,m,.str x,_,h=>by
  have:PyData.strOk x=true:=by cases n <;> exact h
  cases m <;> exact this
 | 0,m,.tup l,_,h=>by cases h
 | 0,m,.lst l,_,h=>by cases h
 | n+1,0,.tup l,hn,_=>absurd hn (by omega)
 | n+1,0,.lst l,hn,_=>absurd hn (by omega)
 | n+1,m+1,.tup l,hn,h=>datBs_mono l (show n≤m by omega) h
 | n+1,m+1,.lst l,hn,h=>datBs_mono l (show n≤m by omega) h
 | n,m,.fn _,_,h=>by cases n <;> cases h
 | n,m,.cell _,_,h=>by cases n <;> cases h
 | n,m,.scr _,_,h=>by cases n <;> cases h
 | n,m,.err _ _,_,h=>by cases n <;> cases h
theorem datBs_mono:∀ {n m:Nat} (l:List Val),n≤m→datBs n l=true→datBs m l=true
 | n,m,[],_,_=>by cases m <;> rfl
 | n,m,v::l,hn,h=>by
  have e1:datBs n (v::l)=(datB n v&&datBs n l):=by cases n <;> rfl
  have e2:datBs m (v::l)=(datB m v&&datBs m l):=by cases m <;> rfl
  rw [e1] at h
  obtain ⟨h1,h2⟩:=Bool.and_eq_true_iff.mp h
  rw [e2,datB_mono v hn h1,datBs_mono l hn h2]
  rfl
end
end PL
namespace K10
open PySem PL
theorem bad_of {k:Nat}{e:E}{caps:List Val}{c:Nat}{d:Nat}(h:lamE k=some e)(h2:∀ κ,evE (cb tab d) e (caps.map fun v=>some (.val v)) κ=.exc c .non κ):Bad (d+1) c (k,caps):=fun κ=>(cl_succ d k e h caps κ).trans (h2 κ)
end K10
end
section
namespace PL
open PySem
def partB (n:Int):Val→Bool
 | .tup [x,y,z]=>Qzw x 1 9&&(match y with
  | .int b=>Qzw y 0 (n-2)&&Qzw z (b+1) (n-1)
  | _=>false)
 | _=>false
def sumB (n:Int):Val→Bool
 | .tup l=>(decide ((1:Int)≤l.length)&&decide ((l.length:Int)≤3))&&l.all (partB n)
 | _=>false
def wordsL:List Val:=[.str "less", .str "upto", .str "same"]
def wordVB:Val→Bool
 | .str w=>wordsL.any fun y=>eqF y (.str w)
 | _=>false
def Qx9 (n:Int):Val→Bool
 | .tup [w,u,v]=>wordVB w&&(sumB n u&&sumB n v)
 | _=>false
def factsB (n:Int):Val→Bool
 | .tup l=>decide ((l.length:Int)≤4)&&l.all (Qx9 n)
 | _=>false
def picB:Val→Bool
 | .tup l=>(decide ((3:Int)≤l.length)&&decide ((l.length:Int)≤5))&&(l.all (Qzw · 0 60)&&(match intsOf l with
  | some ns=>decide (ns[0]? = some 0)&&decide (sdd ns=ns)
  | none=>false))
 | _=>false
theorem whole_int {v:Val}{lo hi:Int}(h:Qzw v lo hi=true):∃ n,v=.int n∧lo≤n∧n≤hi:=by
 cases v with
 | int n=>
  obtain ⟨h1,h2⟩:=Bool.and_eq_true_iff.mp h
  exact ⟨n,rfl,of_decide_eq_true h1,of_decide_eq_true h2⟩
 | _=>cases h
theorem wholes_ints {lo hi:Int}:∀ {l:List Val},l.all (Qzw · lo hi)=true→∃ ns:List Int,l=ns.map .int∧intsOf l=some ns∧∀ n∈ns,lo≤n∧n≤hi
 | [],_=>⟨[],rfl,rfl,by simp⟩
 | v::l,h=>by
  rw [List.all_cons] at h
  obtain ⟨h1,h2⟩:=Bool.and_eq_true_iff.mp h
  obtain ⟨n,rfl,b⟩:=whole_int h1
  obtain ⟨ns,rfl,e,c⟩:=wholes_ints h2
  refine ⟨n::ns,rfl,?_,fun m hm => ?_⟩
  ·show (intsOf (ns.map .int)).map (n :: ·)=_
   rw [e];rfl
  ·rcases List.mem_cons.mp hm with q|q
   ·subst q;exact b
   ·exact c m q
theorem part_len {n:Int}{m:List Val}(h:m.length≠3):partB n (.tup m)=false:=by
 match m,h with
 | [],_=>rfl
 | [_],_=>rfl
 | [_,_],_=>rfl
 | [_,_,_],h=>exact absurd rfl h
 | _::_::_::_::_,_=>rfl
theorem claim_len {n:Int}{m:List Val}(h:m.length≠3):Qx9 n (.tup m)=false:=by
 match m,h with
 | [],_=>rfl
 | [_],_=>rfl
 | [_,_],_=>rfl
 | [_,_,_],h=>exact absurd rfl h
 | _::_::_::_::_,_=>rfl
theorem len3 {m:List Val}(h:m.length=3):∃ x y z,m=[x,y,z]:=by
 match m,h with
 | [x,y,z],_=>exact ⟨x,y,z,rfl⟩
theorem dat_tup {n:Nat}{l:List Val}(h:datB n (.tup l)=true):∃ m,n=m+1∧datBs m l=true:=by
 cases n with
 | zero=>cases h
 | succ m=>exact ⟨m,rfl,h⟩
theorem dat_mem {n:Nat}{l:List Val}(h:datB n (.tup l)=true):∀ v∈l,datB n v=true:=by
 obtain ⟨m,rfl,h⟩:=dat_tup h
 exact fun v hv=>datB_mono v (Nat.le_succ m) (datBs_mem h v hv)
theorem notin_v {a:Val}{l:List Val}(h:Qzh a=true)(h2:l.all Qzh=true):cmV .notin a (.tup l)=some (!l.any fun y=>eqF y a):=by
 show (if Qzh a&&l.all Qzh then some (!l.any fun y=>eqF y a) else none)=_
 rw [h,h2];rfl
theorem notin_l {a:Val}{l:List Val}(h:Qzh a=true)(h2:l.all Qzh=true):cmV .notin a (.lst l)=some (!l.any fun y=>eqF y a):=by
 show (if Qzh a&&l.all Qzh then some (!l.any fun y=>eqF y a) else none)=_
 rw [h,h2];rfl
end PL
namespace K10
open PySem PL
abbrev suB:Ss:=(.cons (.ite (.or (.not (.val (.isi .tuple (.var 2)))) (.or (.cm .ne (.bi .len (.cons (.var 2) .nil)) (.con (.int (3)))) (.not (.val (.call 0 (.cons (.ix (.var 2) (.con (.int (0)))) (.cons (.con (.int (1))) (.cons (.con (.int (9))) .nil)))))))) (.cons (.ret (.con (.bl false)))
 .nil) .nil)
 (.cons (.ite (.or (.not (.val (.call 0 (.cons (.ix (.var 2) (.con (.int (1)))) (.cons (.con (.int (0))) (.cons (.op .sub (.bi .len (.cons (.var 0) .nil)) (.con (.int (2)))) .nil)))))) (.not (.val (.call 0 (.cons (.ix (.var 2) (.con (.int (2)))) (.cons (.op .add (.ix (.var 2) (.con (.int (1)))) (.con (.int (1)))) (.cons (.op .sub (.bi .len (.cons (.var 0) .nil)) (.con (.int (1)))) .nil))))))) (.cons (.ret (.con (.bl false)))
 .nil) .nil)
 .nil))
theorem su_step (d:Nat){q:List Int}{v u:Val}{n:Nat}(κ:Ks)(hu:datB n u=true):(partB q.length u=true→exSs (cb tab (d+1)) suB [some (.val (picV q)),some (.val v),some (.val u)] κ=.nx [some (.val (picV q)),some (.val v),some (.val u)] κ)∧(partB q.length u=false→exSs (cb tab (d+1)) suB [some (.val (picV q)),some (.val v),some (.val u)] κ=.ret (.bl false) κ):=by
 have w:=fun v (h:topD v=true) lo hi=>s_wholeV d h lo hi κ
 have nt:∀ b,isiV .tuple u=some b→b=false→exSs (cb tab (d+1)) suB [some (.val (picV q)),some (.val v),some (.val u)] κ=.ret (.bl false) κ:=fun b hb e=>by
  subst e
  simp only [suB,exSs,exS,evT,evE,bw,rdV,hb,exSs,exS,evE,evT,evEs,evA,evBs,evO,evOt,evI,bw,rdV,rdB,R.bind_ok,R.bind_exc,R.bind_bad,R.ofO_some,R.ofO_none,R.toO_ok,R.toO_exc,R.toO_bad,O.then_nx,O.then_ret,O.then_exc,O.then_bad,O.fin_nx,O.fin_ret,O.fin_exc,O.fin_bad,Option.map_some,Option.map_none,List.map_cons,List.map_nil,Ar.slot,List.cons_append,List.nil_append,List.length_cons,List.length_nil,List.getElem?_cons_zero,List.getElem?_cons_succ,List.set_cons_zero,List.set_cons_succ,Qzc,Qqb,Qq9,Qqq,Qq6,Qq8,Qq7,Qqv,Qqw,Qq2,Qq3,Qq4,Qq5,Qqr,Qz0,Qz1,Qz2,Qqt,Qqs,reduceCtorEq,decide_true,decide_false,Bool.or_true,Bool.or_false,Bool.true_or,Bool.false_or,blV,ntV,ngV,Qzk,op_add,op_sub,Qqk,Qqm,Qqn,Qqp,Qqj,Qqz,Qqh,Bool.not_false,if_true]
 cases u with
 | tup m=>
  by_cases hm:m.length=3
  ·obtain ⟨x,y,z,rfl⟩:=len3 hm
   have hx:=datB_topD (dat_mem hu x (by simp))
   have hy:=datB_topD (dat_mem hu y (by simp))
   have hz:=datB_topD (dat_mem hu z (by simp))
   have lm:((0+1+1+1:Nat):Int)=3:=rfl
   cases c1:Qzw x 1 9 with
   | false=>
    have pf:partB q.length (.tup [x,y,z])=false:=by
     show (Qzw x 1 9&&_)=false
     rw [c1];rfl
    refine ⟨fun h=>(by rw [pf] at h;cases h),fun _ => ?_⟩
    simp only [suB,exSs,exS,evE,evT,evEs,evA,evBs,evO,evOt,evI,bw,rdV,rdB,R.bind_ok,R.bind_exc,R.bind_bad,R.ofO_some,R.ofO_none,R.toO_ok,R.toO_exc,R.toO_bad,O.then_nx,O.then_ret,O.then_exc,O.then_bad,O.fin_nx,O.fin_ret,O.fin_exc,O.fin_bad,Option.map_some,Option.map_none,List.map_cons,List.map_nil,Ar.slot,List.cons_append,List.nil_append,List.length_cons,List.length_nil,List.getElem?_cons_zero,List.getElem?_cons_succ,List.set_cons_zero,List.set_cons_succ,Qzc,Qqb,Qq9,Qqq,Qq6,Qq8,Qq7,Qqv,Qqw,Qq2,Qq3,Qq4,Qq5,Qqr,Qz0,Qz1,Qz2,Qqt,Qqs,reduceCtorEq,decide_true,decide_false,Bool.or_true,Bool.or_false,Bool.true_or,Bool.false_or,blV,ntV,ngV,Qzk,op_add,op_sub,Qqk,Qqm,Qqn,Qqp,Qqj,Qqz,Qqh,evBs,lm,Bool.not_true,Bool.not_false,decide_true,if_true,if_false,Bool.false_eq_true,ix_t0,w x hx,c1]
   | true=>
    cases c2:Qzw y 0 ((q.length:Int)-2) with
    | false=>
     have pf:partB q.length (.tup [x,y,z])=false:=by
      cases y with
      | int b=>
       show (Qzw x 1 9&&(Qzw (.int b) 0 ((q.length:Int)-2)&&_))=false
       rw [c1,c2];rfl
      | _=>
       show (Qzw x 1 9&&false)=false
       rw [Bool.and_false]
     refine ⟨fun h=>(by rw [pf] at h;cases h),fun _ => ?_⟩
     simp only [suB,exSs,exS,evE,evT,evEs,evA,evBs,evO,evOt,evI,bw,rdV,rdB,R.bind_ok,R.bind_exc,R.bind_bad,R.ofO_some,R.ofO_none,R.toO_ok,R.toO_exc,R.toO_bad,O.then_nx,O.then_ret,O.then_exc,O.then_bad,O.fin_nx,O.fin_ret,O.fin_exc,O.fin_bad,Option.map_some,Option.map_none,List.map_cons,List.map_nil,Ar.slot,List.cons_append,List.nil_append,List.length_cons,List.length_nil,List.getElem?_cons_zero,List.getElem?_cons_succ,List.set_cons_zero,List.set_cons_succ,Qzc,Qqb,Qq9,Qqq,Qq6,Qq8,Qq7,Qqv,Qqw,Qq2,Qq3,Qq4,Qq5,Qqr,Qz0,Qz1,Qz2,Qqt,Qqs,reduceCtorEq,decide_true,decide_false,Bool.or_true,Bool.or_false,Bool.true_or,Bool.false_or,blV,ntV,ngV,Qzk,op_add,op_sub,Qqk,Qqm,Qqn,Qqp,Qqj,Qqz,Qqh,evBs,len_pic,lm,Bool.not_true,Bool.not_false,decide_true,if_true,if_false,Bool.false_eq_true,ix_t0,ix_t1,w x hx,c1,w y hy,c2]
    | true=>
     obtain ⟨b,rfl,b1,b2⟩:=whole_int c2
     have pf:partB q.length (.tup [x,.int b,z])=Qzw z (b+1) ((q.length:Int)-1):=by
      show (Qzw x 1 9&&(Qzw (.int b) 0 ((q.length:Int)-2)&&Qzw z (b+1) ((q.length:Int)-1)))=_
      rw [c1,c2];rfl
     rw [pf]
     cases c3:Qzw z (b+1) ((q.length:Int)-1) with
     | false=>
      refine ⟨fun h=>(by cases h),fun _ => ?_⟩
      simp only [suB,exSs,exS,evE,evT,evEs,evA,evBs,evO,evOt,evI,bw,rdV,rdB,R.bind_ok,R.bind_exc,R.bind_bad,R.ofO_some,R.ofO_none,R.toO_ok,R.toO_exc,R.toO_bad,O.then_nx,O.then_ret,O.then_exc,O.then_bad,O.fin_nx,O.fin_ret,O.fin_exc,O.fin_bad,Option.map_some,Option.map_none,List.map_cons,List.map_nil,Ar.slot,List.cons_append,List.nil_append,List.length_cons,List.length_nil,List.getElem?_cons_zero,List.getElem?_cons_succ,List.set_cons_zero,List.set_cons_succ,Qzc,Qqb,Qq9,Qqq,Qq6,Qq8,Qq7,Qqv,Qqw,Qq2,Qq3,Qq4,Qq5,Qqr,Qz0,Qz1,Qz2,Qqt,Qqs,reduceCtorEq,decide_true,decide_false,Bool.or_true,Bool.or_false,Bool.true_or,Bool.false_or,blV,ntV,ngV,Qzk,op_add,op_sub,Qqk,Qqm,Qqn,Qqp,Qqj,Qqz,Qqh,evBs,len_pic,lm,Bool.not_true,Bool.not_false,decide_true,if_true,if_false,Bool.false_eq_true,ix_t0,ix_t1,ix_t2,w x hx,c1,w (.int b) rfl,c2,w z hz,c3]
     | true=>
      refine ⟨fun _ => ?_,fun h=>(by cases h)⟩
      simp only [suB,exSs,exS,evE,evT,evEs,evA,evBs,evO,evOt,evI,bw,rdV,rdB,R.bind_ok,R.bind_exc,R.bind_bad,R.ofO_some,R.ofO_none,R.toO_ok,R.toO_exc,R.toO_bad,O.then_nx,O.then_ret,O.then_exc,O.then_bad,O.fin_nx,O.fin_ret,O.fin_exc,O.fin_bad,Option.map_some,Option.map_none,List.map_cons,List.map_nil,Ar.slot,List.cons_append,List.nil_append,List.length_cons,List.length_nil,List.getElem?_cons_zero,List.getElem?_cons_succ,List.set_cons_zero,List.set_cons_succ,Qzc,Qqb,Qq9,Qqq,Qq6,Qq8,Qq7,Qqv,Qqw,Qq2,Qq3,Qq4,Qq5,Qqr,Qz0,Qz1,Qz2,Qqt,Qqs,reduceCtorEq,decide_true,decide_false,Bool.or_true,Bool.or_false,Bool.true_or,Bool.false_or,blV,ntV,ngV,Qzk,op_add,op_sub,Qqk,Qqm,Qqn,Qqp,Qqj,Qqz,Qqh,evBs,len_pic,lm,Bool.not_true,Bool.not_false,decide_true,if_true,if_false,Bool.false_eq_true,ix_t0,ix_t1,ix_t2,w x hx,c1,w (.int b) rfl,c2,w z hz,c3]
  ·refine ⟨fun h=>(by rw [part_len hm] at h;cases h),fun _ => ?_⟩
   have lm:((m.length:Int)=3)=False:=eq_false (by omega)
   simp only [suB,exSs,exS,evE,evT,evEs,evA,evBs,evO,evOt,evI,bw,rdV,rdB,R.bind_ok,R.bind_exc,R.bind_bad,R.ofO_some,R.ofO_none,R.toO_ok,R.toO_exc,R.toO_bad,O.then_nx,O.then_ret,O.then_exc,O.then_bad,O.fin_nx,O.fin_ret,O.fin_exc,O.fin_bad,Option.map_some,Option.map_none,List.map_cons,List.map_nil,Ar.slot,List.cons_append,List.nil_append,List.length_cons,List.length_nil,List.getElem?_cons_zero,List.getElem?_cons_succ,List.set_cons_zero,List.set_cons_succ,Qzc,Qqb,Qq9,Qqq,Qq6,Qq8,Qq7,Qqv,Qqw,Qq2,Qq3,Qq4,Qq5,Qqr,Qz0,Qz1,Qz2,Qqt,Qqs,reduceCtorEq,decide_true,decide_false,Bool.or_true,Bool.or_false,Bool.true_or,Bool.false_or,blV,ntV,ngV,Qzk,op_add,op_sub,Qqk,Qqm,Qqn,Qqp,Qqj,Qqz,Qqh,evBs,lm,Bool.not_true,Bool.not_false,decide_true,decide_false,if_true,if_false,Bool.false_eq_true]
 | non=>exact ⟨fun h=>(by cases h),fun _=>nt _ rfl rfl⟩
 | bl _=>exact ⟨fun h=>(by cases h),fun _=>nt _ rfl rfl⟩
 | int _=>exact ⟨fun h=>(by cases h),fun _=>nt _ rfl rfl⟩
 | str _=>exact ⟨fun h=>(by cases h),fun _=>nt _ rfl rfl⟩
 | lst _=>exact ⟨fun h=>(by cases h),fun _=>nt _ rfl rfl⟩
 | fn _=>cases n <;> cases hu
 | cell _=>cases n <;> cases hu
 | scr _=>cases n <;> cases hu
 | err _ _=>cases n <;> cases hu
theorem b_sum (d:Nat){q:List Int}{v:Val}{n:Nat}(κ:Ks)(hv:datB n v=true):(cb tab (d+2)).cf 2 [.v (picV q),.v v] κ=.ok (.bl (sumB q.length v),κ):=by
  rw [Qqf _ _ _ _ _ rfl rfl]
  cases v with
  | tup l=>
    cases c1:(decide ((1:Int)≤l.length)&&decide ((l.length:Int)≤3)) with
    | false=>
      have sf:sumB q.length (.tup l)=false:=by
        show ((decide ((1:Int)≤l.length)&&decide ((l.length:Int)≤3))&&_)=false
        rw [c1];rfl
      rw [sf]
      by_cases h1:(1:Int)≤l.length
      · have h2:¬ ((l.length:Int)≤3):=fun h=>by
          rw [decide_eq_true h1,decide_eq_true h] at c1
          cases c1
        simp only [ir_is_right_sum,List.replicate,Nat.reduceSub,exSs,exS,evE,evT,evEs,evA,evBs,evO,evOt,evI,bw,rdV,rdB,R.bind_ok,R.bind_exc,R.bind_bad,R.ofO_some,R.ofO_none,R.toO_ok,R.toO_exc,R.toO_bad,O.then_nx,O.then_ret,O.then_exc,O.then_bad,O.fin_nx,O.fin_ret,O.fin_exc,O.fin_bad,Option.map_some,Option.map_none,List.map_cons,List.map_nil,Ar.slot,List.cons_append,List.nil_append,List.length_cons,List.length_nil,List.getElem?_cons_zero,List.getElem?_cons_succ,List.set_cons_zero,List.set_cons_succ,Qzc,Qqb,Qq9,Qqq,Qq6,Qq8,Qq7,Qqv,Qqw,Qq2,Qq3,Qq4,Qq5,Qqr,Qz0,Qz1,Qz2,Qqt,Qqs,reduceCtorEq,decide_true,decide_false,Bool.or_true,Bool.or_false,Bool.true_or,Bool.false_or,blV,ntV,ngV,Qzk,op_add,op_sub,Qqk,Qqm,Qqn,Qqp,Qqj,Qqz,Qqh,evBs,h1,h2,Bool.not_true,Bool.not_false,decide_true,decide_false,if_true,if_false,Bool.false_eq_true]
      · simp only [ir_is_right_sum,List.replicate,Nat.reduceSub,exSs,exS,evE,evT,evEs,evA,evBs,evO,evOt,evI,bw,rdV,rdB,R.bind_ok,R.bind_exc,R.bind_bad,R.ofO_some,R.ofO_none,R.toO_ok,R.toO_exc,R.toO_bad,O.then_nx,O.then_ret,O.then_exc,O.then_bad,O.fin_nx,O.fin_ret,O.fin_exc,O.fin_bad,Option.map_some,Option.map_none,List.map_cons,List.map_nil,Ar.slot,List.cons_append,List.nil_append,List.length_cons,List.length_nil,List.getElem?_cons_zero,List.getElem?_cons_succ,List.set_cons_zero,List.set_cons_succ,Qzc,Qqb,Qq9,Qqq,Qq6,Qq8,Qq7,Qqv,Qqw,Qq2,Qq3,Qq4,Qq5,Qqr,Qz0,Qz1,Qz2,Qqt,Qqs,reduceCtorEq,decide_true,decide_false,Bool.or_true,Bool.or_false,Bool.true_or,Bool.false_or,blV,ntV,ngV,Qzk,op_add,op_sub,Qqk,Qqm,Qqn,Qqp,Qqj,Qqz,Qqh,evBs,h1,Bool.not_true,Bool.not_false,decide_true,decide_false,if_true,if_false,Bool.false_eq_true]
    | true=>
      obtain ⟨h1,h2⟩:=Bool.and_eq_true_iff.mp c1
      have h1:=of_decide_eq_true h1
      have h2:=of_decide_eq_true h2
      have sf:sumB q.length (.tup l)=l.all (partB q.length):=by
        show ((decide ((1:Int)≤l.length)&&decide ((l.length:Int)≤3))&&_)=_
        rw [c1];rfl
      rw [sf]
      have p1:exS (cb tab (d+1)) (.ite (.or (.not (.val (.isi .tuple (.var 1)))) (.not (.chain .le .le (.con (.int (1))) (.bi .len (.cons (.var 1) .nil)) (.con (.int (3)))))) (.cons (.ret (.con (.bl false)))
  .nil) .nil) [some (.val (picV q)), some (.val (.tup l)), none] κ = .nx [some (.val (picV q)), some (.val (.tup l)), none] κ := by
        simp only [exSs,exS,evE,evT,evEs,evA,evBs,evO,evOt,evI,bw,rdV,rdB,R.bind_ok,R.bind_exc,R.bind_bad,R.ofO_some,R.ofO_none,R.toO_ok,R.toO_exc,R.toO_bad,O.then_nx,O.then_ret,O.then_exc,O.then_bad,O.fin_nx,O.fin_ret,O.fin_exc,O.fin_bad,Option.map_some,Option.map_none,List.map_cons,List.map_nil,Ar.slot,List.cons_append,List.nil_append,List.length_cons,List.length_nil,List.getElem?_cons_zero,List.getElem?_cons_succ,List.set_cons_zero,List.set_cons_succ,Qzc,Qqb,Qq9,Qqq,Qq6,Qq8,Qq7,Qqv,Qqw,Qq2,Qq3,Qq4,Qq5,Qqr,Qz0,Qz1,Qz2,Qqt,Qqs,reduceCtorEq,decide_true,decide_false,Bool.or_true,Bool.or_false,Bool.true_or,Bool.false_or,blV,ntV,ngV,Qzk,op_add,op_sub,Qqk,Qqm,Qqn,Qqp,Qqj,Qqz,Qqh,evBs,h1,h2,Bool.not_true,Bool.not_false,decide_true,decide_false,if_true,if_false,Bool.false_eq_true]
      have key:=loop_all (c:=cb tab (d+1)) (tg:=.nm 2) (it:=.seq (.var 1)) (b:=suB) (ρ:=[some (.val (picV q)),some (.val (.tup l)),none]) (κ:=κ) (l:=l) (I:=fun ρ=>∃ e,ρ=[some (.val (picV q)),some (.val (.tup l)),e]) (P:=partB q.length) (w:=.bl false) rfl ⟨none,rfl⟩ (fun u hu ρ ⟨e,er⟩=>by
        subst er
        obtain ⟨g1,g2⟩:=su_step d (q:=q) (v:=.tup l) κ (dat_mem hv u hu)
        exact ⟨_,rfl,fun h=>⟨_,g1 h,_,rfl⟩,g2⟩)
      have hd:∀ o,exS (cb tab (d+1)) (.loop (.nm 2) (.seq (.var 1)) suB) [some (.val (picV q)),some (.val (.tup l)),none] κ=o→exSs (cb tab (d+1)) ir_is_right_sum [some (.val (picV q)),some (.val (.tup l)),none] κ=o.then fun ρ κ=>exSs (cb tab (d+1)) (.cons (.ret (.con (.bl true))) .nil) ρ κ:=fun o ho=>by
        unfold ir_is_right_sum
        rw [Qz3 p1,← ho]
        rfl
      cases ha:l.all (partB q.length) with
      | true=>
        obtain ⟨ρ',e,x,er⟩:=key.1 ha
        subst er
        exact congrArg O.fin ((hd _ e).trans rfl)
      | false=>exact congrArg O.fin ((hd _ (key.2 ha)).trans rfl)
  | non=>simp only [ir_is_right_sum,List.replicate,Nat.reduceSub,exSs,exS,evE,evT,evEs,evA,evBs,evO,evOt,evI,bw,rdV,rdB,R.bind_ok,R.bind_exc,R.bind_bad,R.ofO_some,R.ofO_none,R.toO_ok,R.toO_exc,R.toO_bad,O.then_nx,O.then_ret,O.then_exc,O.then_bad,O.fin_nx,O.fin_ret,O.fin_exc,O.fin_bad,Option.map_some,Option.map_none,List.map_cons,List.map_nil,Ar.slot,List.cons_append,List.nil_append,List.length_cons,List.length_nil,List.getElem?_cons_zero,List.getElem?_cons_succ,List.set_cons_zero,List.set_cons_succ,Qzc,Qqb,Qq9,Qqq,Qq6,Qq8,Qq7,Qqv,Qqw,Qq2,Qq3,Qq4,Qq5,Qqr,Qz0,Qz1,Qz2,Qqt,Qqs,reduceCtorEq,decide_true,decide_false,Bool.or_true,Bool.or_false,Bool.true_or,Bool.false_or,blV,ntV,ngV,Qzk,op_add,op_sub,Qqk,Qqm,Qqn,Qqp,Qqj,Qqz,Qqh,evBs,Bool.not_false,if_true,sumB]
  | bl _=>simp only [ir_is_right_sum,List.replicate,Nat.reduceSub,exSs,exS,evE,evT,evEs,evA,evBs,evO,evOt,evI,bw,rdV,rdB,R.bind_ok,R.bind_exc,R.bind_bad,R.ofO_some,R.ofO_none,R.toO_ok,R.toO_exc,R.toO_bad,O.then_nx,O.then_ret,O.then_exc,O.then_bad,O.fin_nx,O.fin_ret,O.fin_exc,O.fin_bad,Option.map_some,Option.map_none,List.map_cons,List.map_nil,Ar.slot,List.cons_append,List.nil_append,List.length_cons,List.length_nil,List.getElem?_cons_zero,List.getElem?_cons_succ,List.set_cons_zero,List.set_cons_succ,Qzc,Qqb,Qq9,Qqq,Qq6,Qq8,Qq7,Qqv,Qqw,Qq2,Qq3,Qq4,Qq5,Qqr,Qz0,Qz1,Qz2,Qqt,Qqs,reduceCtorEq,decide_true,decide_false,Bool.or_true,Bool.or_false,Bool.true_or,Bool.false_or,blV,ntV,ngV,Qzk,op_add,op_sub,Qqk,Qqm,Qqn,Qqp,Qqj,Qqz,Qqh,evBs,Bool.not_false,if_true,sumB]
  | int _=>simp only [ir_is_right_sum,List.replicate,Nat.reduceSub,exSs,exS,evE,evT,evEs,evA,evBs,evO,evOt,evI,bw,rdV,rdB,R.bind_ok,R.bind_exc,R.bind_bad,R.ofO_some,R.ofO_none,R.toO_ok,R.toO_exc,R.toO_bad,O.then_nx,O.then_ret,O.then_exc,O.then_bad,O.fin_nx,O.fin_ret,O.fin_exc,O.fin_bad,Option.map_some,Option.map_none,List.map_cons,List.map_nil,Ar.slot,List.cons_append,List.nil_append,List.length_cons,List.length_nil,List.getElem?_cons_zero,List.getElem?_cons_succ,List.set_cons_zero,List.set_cons_succ,Qzc,Qqb,Qq9,Qqq,Qq6,Qq8,Qq7,Qqv,Qqw,Qq2,Qq3,Qq4,Qq5,Qqr,Qz0,Qz1,Qz2,Qqt,Qqs,reduceCtorEq,decide_true,decide_false,Bool.or_true,Bool.or_false,Bool.true_or,Bool.false_or,blV,ntV,ngV,Qzk,op_add,op_sub,Qqk,Qqm,Qqn,Qqp,Qqj,Qqz,Qqh,evBs,Bool.not_false,if_true,sumB]
  | str _=>simp only [ir_is_right_sum,List.replicate,Nat.reduceSub,exSs,exS,evE,evT,evEs,evA,evBs,evO,evOt,evI,bw,rdV,rdB,R.bind_ok,R.bind_exc,R.bind_bad,R.ofO_some,R.ofO_none,R.toO_ok,R.toO_exc,R.toO_bad,O.then_nx,O.then_ret,O.then_exc,O.then_bad,O.fin_nx,O.fin_ret,O.fin_exc,O.fin_bad,Option.map_some,Option.map_none,List.map_cons,List.map_nil,Ar.slot,List.cons_append,List.nil_append,List.length_cons,List.length_nil,List.getElem?_cons_zero,List.getElem?_cons_succ,List.set_cons_zero,List.set_cons_succ,Qzc,Qqb,Qq9,Qqq,Qq6,Qq8,Qq7,Qqv,Qqw,Qq2,Qq3,Qq4,Qq5,Qqr,Qz0,Qz1,Qz2,Qqt,Qqs,reduceCtorEq,decide_true,decide_false,Bool.or_true,Bool.or_false,Bool.true_or,Bool.false_or,blV,ntV,ngV,Qzk,op_add,op_sub,Qqk,Qqm,Qqn,Qqp,Qqj,Qqz,Qqh,evBs,Bool.not_false,if_true,sumB]
  | lst _=>simp only [ir_is_right_sum,List.replicate,Nat.reduceSub,exSs,exS,evE,evT,evEs,evA,evBs,evO,evOt,evI,bw,rdV,rdB,R.bind_ok,R.bind_exc,R.bind_bad,R.ofO_some,R.ofO_none,R.toO_ok,R.toO_exc,R.toO_bad,O.then_nx,O.then_ret,O.then_exc,O.then_bad,O.fin_nx,O.fin_ret,O.fin_exc,O.fin_bad,Option.map_some,Option.map_none,List.map_cons,List.map_nil,Ar.slot,List.cons_append,List.nil_append,List.length_cons,List.length_nil,List.getElem?_cons_zero,List.getElem?_cons_succ,List.set_cons_zero,List.set_cons_succ,Qzc,Qqb,Qq9,Qqq,Qq6,Qq8,Qq7,Qqv,Qqw,Qq2,Qq3,Qq4,Qq5,Qqr,Qz0,Qz1,Qz2,Qqt,Qqs,reduceCtorEq,decide_true,decide_false,Bool.or_true,Bool.or_false,Bool.true_or,Bool.false_or,blV,ntV,ngV,Qzk,op_add,op_sub,Qqk,Qqm,Qqn,Qqp,Qqj,Qqz,Qqh,evBs,Bool.not_false,if_true,sumB]
  | fn _=>cases n <;> cases hv
  | cell _=>cases n <;> cases hv
  | scr _=>cases n <;> cases hv
  | err _ _=>cases n <;> cases hv
theorem b_claim (d:Nat){q:List Int}{v:Val}{n:Nat}(κ:Ks)(hv:datB n v=true):(cb tab (d+3)).cf 3 [.v (picV q),.v v] κ=.ok (.bl (Qx9 q.length v),κ):=by
 rw [Qqf _ _ _ _ _ rfl rfl]
 cases v with
 | tup m=>
  by_cases hm:m.length=3
  ·obtain ⟨x,y,z,rfl⟩:=len3 hm
   have lm:((0+1+1+1:Nat):Int)=3:=rfl
   have s1:=b_sum d (q:=q) κ (dat_mem hv y (by simp))
   have s2:=b_sum d (q:=q) κ (dat_mem hv z (by simp))
   cases x with
   | str w=>
    have ni:cmV .notin (.str w) (.tup [.str "less", .str "upto", .str "same"])=some (!wordVB (.str w)):=notin_v rfl rfl
    have cf:Qx9 q.length (.tup [.str w,y,z])=(wordVB (.str w)&&(sumB q.length y&&sumB q.length z)):=rfl
    rw [cf]
    cases hw:wordVB (.str w) with
    | false=>
     rw [hw] at ni
     simp only [ir_is_right_claim,List.replicate,Nat.reduceSub,List.append_nil,exSs,exS,evE,evT,evEs,evA,evBs,evO,evOt,evI,bw,rdV,rdB,R.bind_ok,R.bind_exc,R.bind_bad,R.ofO_some,R.ofO_none,R.toO_ok,R.toO_exc,R.toO_bad,O.then_nx,O.then_ret,O.then_exc,O.then_bad,O.fin_nx,O.fin_ret,O.fin_exc,O.fin_bad,Option.map_some,Option.map_none,List.map_cons,List.map_nil,Ar.slot,List.cons_append,List.nil_append,List.length_cons,List.length_nil,List.getElem?_cons_zero,List.getElem?_cons_succ,List.set_cons_zero,List.set_cons_succ,Qzc,Qqb,Qq9,Qqq,Qq6,Qq8,Qq7,Qqv,Qqw,Qq2,Qq3,Qq4,Qq5,Qqr,Qz0,Qz1,Qz2,Qqt,Qqs,reduceCtorEq,decide_true,decide_false,Bool.or_true,Bool.or_false,Bool.true_or,Bool.false_or,blV,ntV,ngV,Qzk,op_add,op_sub,Qqk,Qqm,Qqn,Qqp,Qqj,Qqz,Qqh,evBs,lm,ix_t0,ni,Bool.not_true,Bool.not_false,decide_true,if_true,if_false,Bool.false_eq_true,Bool.false_and]
    | true=>
     rw [hw] at ni
     cases h1:sumB q.length y with
     | false=>
      rw [h1] at s1
      simp only [ir_is_right_claim,List.replicate,Nat.reduceSub,List.append_nil,exSs,exS,evE,evT,evEs,evA,evBs,evO,evOt,evI,bw,rdV,rdB,R.bind_ok,R.bind_exc,R.bind_bad,R.ofO_some,R.ofO_none,R.toO_ok,R.toO_exc,R.toO_bad,O.then_nx,O.then_ret,O.then_exc,O.then_bad,O.fin_nx,O.fin_ret,O.fin_exc,O.fin_bad,Option.map_some,Option.map_none,List.map_cons,List.map_nil,Ar.slot,List.cons_append,List.nil_append,List.length_cons,List.length_nil,List.getElem?_cons_zero,List.getElem?_cons_succ,List.set_cons_zero,List.set_cons_succ,Qzc,Qqb,Qq9,Qqq,Qq6,Qq8,Qq7,Qqv,Qqw,Qq2,Qq3,Qq4,Qq5,Qqr,Qz0,Qz1,Qz2,Qqt,Qqs,reduceCtorEq,decide_true,decide_false,Bool.or_true,Bool.or_false,Bool.true_or,Bool.false_or,blV,ntV,ngV,Qzk,op_add,op_sub,Qqk,Qqm,Qqn,Qqp,Qqj,Qqz,Qqh,evBs,lm,ix_t0,ix_t1,ni,s1,Bool.not_true,Bool.not_false,decide_true,if_true,if_false,Bool.false_eq_true,Bool.false_and,Bool.true_and]
     | true=>
      rw [h1] at s1
      simp only [ir_is_right_claim,List.replicate,Nat.reduceSub,List.append_nil,exSs,exS,evE,evT,evEs,evA,evBs,evO,evOt,evI,bw,rdV,rdB,R.bind_ok,R.bind_exc,R.bind_bad,R.ofO_some,R.ofO_none,R.toO_ok,R.toO_exc,R.toO_bad,O.then_nx,O.then_ret,O.then_exc,O.then_bad,O.fin_nx,O.fin_ret,O.fin_exc,O.fin_bad,Option.map_some,Option.map_none,List.map_cons,List.map_nil,Ar.slot,List.cons_append,List.nil_append,List.length_cons,List.length_nil,List.getElem?_cons_zero,List.getElem?_cons_succ,List.set_cons_zero,List.set_cons_succ,Qzc,Qqb,Qq9,Qqq,Qq6,Qq8,Qq7,Qqv,Qqw,Qq2,Qq3,Qq4,Qq5,Qqr,Qz0,Qz1,Qz2,Qqt,Qqs,reduceCtorEq,decide_true,decide_false,Bool.or_true,Bool.or_false,Bool.true_or,Bool.false_or,blV,ntV,ngV,Qzk,op_add,op_sub,Qqk,Qqm,Qqn,Qqp,Qqj,Qqz,Qqh,evBs,lm,ix_t0,ix_t1,ix_t2,ni,s1,s2,Bool.not_true,Bool.not_false,decide_true,if_true,if_false,Bool.false_eq_true,Bool.false_and,Bool.true_and]
   | non=>simp only [ir_is_right_claim,List.replicate,Nat.reduceSub,List.append_nil,exSs,exS,evE,evT,evEs,evA,evBs,evO,evOt,evI,bw,rdV,rdB,R.bind_ok,R.bind_exc,R.bind_bad,R.ofO_some,R.ofO_none,R.toO_ok,R.toO_exc,R.toO_bad,O.then_nx,O.then_ret,O.then_exc,O.then_bad,O.fin_nx,O.fin_ret,O.fin_exc,O.fin_bad,Option.map_some,Option.map_none,List.map_cons,List.map_nil,Ar.slot,List.cons_append,List.nil_append,List.length_cons,List.length_nil,List.getElem?_cons_zero,List.getElem?_cons_succ,List.set_cons_zero,List.set_cons_succ,Qzc,Qqb,Qq9,Qqq,Qq6,Qq8,Qq7,Qqv,Qqw,Qq2,Qq3,Qq4,Qq5,Qqr,Qz0,Qz1,Qz2,Qqt,Qqs,reduceCtorEq,decide_true,decide_false,Bool.or_true,Bool.or_false,Bool.true_or,Bool.false_or,blV,ntV,ngV,Qzk,op_add,op_sub,Qqk,Qqm,Qqn,Qqp,Qqj,Qqz,Qqh,evBs,lm,ix_t0,Bool.not_true,Bool.not_false,decide_true,if_true,if_false,Bool.false_eq_true,Qx9,wordVB,Bool.false_and]
   | bl _=>simp only [ir_is_right_claim,List.replicate,Nat.reduceSub,List.append_nil,exSs,exS,evE,evT,evEs,evA,evBs,evO,evOt,evI,bw,rdV,rdB,R.bind_ok,R.bind_exc,R.bind_bad,R.ofO_some,R.ofO_none,R.toO_ok,R.toO_exc,R.toO_bad,O.then_nx,O.then_ret,O.then_exc,O.then_bad,O.fin_nx,O.fin_ret,O.fin_exc,O.fin_bad,Option.map_some,Option.map_none,List.map_cons,List.map_nil,Ar.slot,List.cons_append,List.nil_append,List.length_cons,List.length_nil,List.getElem?_cons_zero,List.getElem?_cons_succ,List.set_cons_zero,List.set_cons_succ,Qzc,Qqb,Qq9,Qqq,Qq6,Qq8,Qq7,Qqv,Qqw,Qq2,Qq3,Qq4,Qq5,Qqr,Qz0,Qz1,Qz2,Qqt,Qqs,reduceCtorEq,decide_true,decide_false,Bool.or_true,Bool.or_false,Bool.true_or,Bool.false_or,blV,ntV,ngV,Qzk,op_add,op_sub,Qqk,Qqm,Qqn,Qqp,Qqj,Qqz,Qqh,evBs,lm,ix_t0,Bool.not_true,Bool.not_false,decide_true,if_true,if_false,Bool.false_eq_true,Qx9,wordVB,Bool.false_and]
   | int _=>simp only [ir_is_right_claim,List.replicate,Nat.reduceSub,List.append_nil,exSs,exS,evE,evT,evEs,evA,evBs,evO,evOt,evI,bw,rdV,rdB,R.bind_ok,R.bind_exc,R.bind_bad,R.ofO_some,R.ofO_none,R.toO_ok,R.toO_exc,R.toO_bad,O.then_nx,O.then_ret,O.then_exc,O.then_bad,O.fin_nx,O.fin_ret,O.fin_exc,O.fin_bad,Option.map_some,Option.map_none,List.map_cons,List.map_nil,Ar.slot,List.cons_append,List.nil_append,List.length_cons,List.length_nil,List.getElem?_cons_zero,List.getElem?_cons_succ,List.set_cons_zero,List.set_cons_succ,Qzc,Qqb,Qq9,Qqq,Qq6,Qq8,Qq7,Qqv,Qqw,Qq2,Qq3,Qq4,Qq5,Qqr,Qz0,Qz1,Qz2,Qqt,Qqs,reduceCtorEq,decide_true,decide_false,Bool.or_true,Bool.or_false,Bool.true_or,Bool.false_or,blV,ntV,ngV,Qzk,op_add,op_sub,Qqk,Qqm,Qqn,Qqp,Qqj,Qqz,Qqh,evBs,lm,ix_t0,Bool.not_true,Bool.not_false,decide_true,if_true,if_false,Bool.false_eq_true,Qx9,wordVB,Bool.false_and]
   | tup _=>simp only [ir_is_right_claim,List.replicate,Nat.reduceSub,List.append_nil,exSs,exS,evE,evT,evEs,evA,evBs,evO,evOt,evI,bw,rdV,rdB,R.bind_ok,R.bind_exc,R.bind_bad,R.ofO_some,R.ofO_none,R.toO_ok,R.toO_exc,R.toO_bad,O.then_nx,O.then_ret,O.then_exc,O.then_bad,O.fin_nx,O.fin_ret,O.fin_exc,O.fin_bad,Option.map_some,Option.map_none,List.map_cons,List.map_nil,Ar.slot,List.cons_append,List.nil_append,List.length_cons,List.length_nil,List.getElem?_cons_zero,List.getElem?_cons_succ,List.set_cons_zero,List.set_cons_succ,Qzc,Qqb,Qq9,Qqq,Qq6,Qq8,Qq7,Qqv,Qqw,Qq2,Qq3,Qq4,Qq5,Qqr,Qz0,Qz1,Qz2,Qqt,Qqs,reduceCtorEq,decide_true,decide_false,Bool.or_true,Bool.or_false,Bool.true_or,Bool.false_or,blV,ntV,ngV,Qzk,op_add,op_sub,Qqk,Qqm,Qqn,Qqp,Qqj,Qqz,Qqh,evBs,lm,ix_t0,Bool.not_true,Bool.not_false,decide_true,if_true,if_false,Bool.false_eq_true,Qx9,wordVB,Bool.false_and]
   | lst _=>simp only [ir_is_right_claim,List.replicate,Nat.reduceSub,List.append_nil,exSs,exS,evE,evT,evEs,evA,evBs,evO,evOt,evI,bw,rdV,rdB,R.bind_ok,R.bind_exc,R.bind_bad,R.ofO_some,R.ofO_none,R.toO_ok,R.toO_exc,R.toO_bad,O.then_nx,O.then_ret,O.then_exc,O.then_bad,O.fin_nx,O.fin_ret,O.fin_exc,O.fin_bad,Option.map_some,Option.map_none,List.map_cons,List.map_nil,Ar.slot,List.cons_append,List.nil_append,List.length_cons,List.length_nil,List.getElem?_cons_zero,List.getElem?_cons_succ,List.set_cons_zero,List.set_cons_succ,Qzc,Qqb,Qq9,Qqq,Qq6,Qq8,Qq7,Qqv,Qqw,Qq2,Qq3,Qq4,Qq5,Qqr,Qz0,Qz1,Qz2,Qqt,Qqs,reduceCtorEq,decide_true,decide_false,Bool.or_true,Bool.or_false,Bool.true_or,Bool.false_or,blV,ntV,ngV,Qzk,op_add,op_sub,Qqk,Qqm,Qqn,Qqp,Qqj,Qqz,Qqh,evBs,lm,ix_t0,Bool.not_true,Bool.not_false,decide_true,if_true,if_false,Bool.false_eq_true,Qx9,wordVB,Bool.false_and]
   | fn _=>
    have h:=dat_mem hv _ List.mem_cons_self
    cases n <;> cases h
   | cell _=>
    have h:=dat_mem hv _ List.mem_cons_self
    cases n <;> cases h
   | scr _=>
    have h:=dat_mem hv _ List.mem_cons_self
    cases n <;> cases h
   | err _ _=>
    have h:=dat_mem hv _ List.mem_cons_self
    cases n <;> cases h
  ·rw [claim_len hm]
   have lm:((m.length:Int)=3)=False:=eq_false (by omega)
   simp only [ir_is_right_claim,List.replicate,Nat.reduceSub,List.append_nil,exSs,exS,evE,evT,evEs,evA,evBs,evO,evOt,evI,bw,rdV,rdB,R.bind_ok,R.bind_exc,R.bind_bad,R.ofO_some,R.ofO_none,R.toO_ok,R.toO_exc,R.toO_bad,O.then_nx,O.then_ret,O.then_exc,O.then_bad,O.fin_nx,O.fin_ret,O.fin_exc,O.fin_bad,Option.map_some,Option.map_none,List.map_cons,List.map_nil,Ar.slot,List.cons_append,List.nil_append,List.length_cons,List.length_nil,List.getElem?_cons_zero,List.getElem?_cons_succ,List.set_cons_zero,List.set_cons_succ,Qzc,Qqb,Qq9,Qqq,Qq6,Qq8,Qq7,Qqv,Qqw,Qq2,Qq3,Qq4,Qq5,Qqr,Qz0,Qz1,Qz2,Qqt,Qqs,reduceCtorEq,decide_true,decide_false,Bool.or_true,Bool.or_false,Bool.true_or,Bool.false_or,blV,ntV,ngV,Qzk,op_add,op_sub,Qqk,Qqm,Qqn,Qqp,Qqj,Qqz,Qqh,evBs,lm,Bool.not_true,Bool.not_false,decide_true,decide_false,if_true,if_false,Bool.false_eq_true]
 | non=>simp only [ir_is_right_claim,List.replicate,Nat.reduceSub,List.append_nil,exSs,exS,evE,evT,evEs,evA,evBs,evO,evOt,evI,bw,rdV,rdB,R.bind_ok,R.bind_exc,R.bind_bad,R.ofO_some,R.ofO_none,R.toO_ok,R.toO_exc,R.toO_bad,O.then_nx,O.then_ret,O.then_exc,O.then_bad,O.fin_nx,O.fin_ret,O.fin_exc,O.fin_bad,Option.map_some,Option.map_none,List.map_cons,List.map_nil,Ar.slot,List.cons_append,List.nil_append,List.length_cons,List.length_nil,List.getElem?_cons_zero,List.getElem?_cons_succ,List.set_cons_zero,List.set_cons_succ,Qzc,Qqb,Qq9,Qqq,Qq6,Qq8,Qq7,Qqv,Qqw,Qq2,Qq3,Qq4,Qq5,Qqr,Qz0,Qz1,Qz2,Qqt,Qqs,reduceCtorEq,decide_true,decide_false,Bool.or_true,Bool.or_false,Bool.true_or,Bool.false_or,blV,ntV,ngV,Qzk,op_add,op_sub,Qqk,Qqm,Qqn,Qqp,Qqj,Qqz,Qqh,evBs,Bool.not_false,if_true,Qx9]
 | bl _=>simp only [ir_is_right_claim,List.replicate,Nat.reduceSub,List.append_nil,exSs,exS,evE,evT,evEs,evA,evBs,evO,evOt,evI,bw,rdV,rdB,R.bind_ok,R.bind_exc,R.bind_bad,R.ofO_some,R.ofO_none,R.toO_ok,R.toO_exc,R.toO_bad,O.then_nx,O.then_ret,O.then_exc,O.then_bad,O.fin_nx,O.fin_ret,O.fin_exc,O.fin_bad,Option.map_some,Option.map_none,List.map_cons,List.map_nil,Ar.slot,List.cons_append,List.nil_append,List.length_cons,List.length_nil,List.getElem?_cons_zero,List.getElem?_cons_succ,List.set_cons_zero,List.set_cons_succ,Qzc,Qqb,Qq9,Qqq,Qq6,Qq8,Qq7,Qqv,Qqw,Qq2,Qq3,Qq4,Qq5,Qqr,Qz0,Qz1,Qz2,Qqt,Qqs,reduceCtorEq,decide_true,decide_false,Bool.or_true,Bool.or_false,Bool.true_or,Bool.false_or,blV,ntV,ngV,Qzk,op_add,op_sub,Qqk,Qqm,Qqn,Qqp,Qqj,Qqz,Qqh,evBs,Bool.not_false,if_true,Qx9]
 | int _=>simp only [ir_is_right_claim,List.replicate,Nat.reduceSub,List.append_nil,exSs,exS,evE,evT,evEs,evA,evBs,evO,evOt,evI,bw,rdV,rdB,R.bind_ok,R.bind_exc,R.bind_bad,R.ofO_some,R.ofO_none,R.toO_ok,R.toO_exc,R.toO_bad,O.then_nx,O.then_ret,O.then_exc,O.then_bad,O.fin_nx,O.fin_ret,O.fin_exc,O.fin_bad,Option.map_some,Option.map_none,List.map_cons,List.map_nil,Ar.slot,List.cons_append,List.nil_append,List.length_cons,List.length_nil,List.getElem?_cons_zero,List.getElem?_cons_succ,List.set_cons_zero,List.set_cons_succ,Qzc,Qqb,Qq9,Qqq,Qq6,Qq8,Qq7,Qqv,Qqw,Qq2,Qq3,Qq4,Qq5,Qqr,Qz0,Qz1,Qz2,Qqt,Qqs,reduceCtorEq,decide_true,decide_false,Bool.or_true,Bool.or_false,Bool.true_or,Bool.false_or,blV,ntV,ngV,Qzk,op_add,op_sub,Qqk,Qqm,Qqn,Qqp,Qqj,Qqz,Qqh,evBs,Bool.not_false,if_true,Qx9]
 | str _=>simp only [ir_is_right_claim,List.replicate,Nat.reduceSub,List.append_nil,exSs,exS,evE,evT,evEs,evA,evBs,evO,evOt,evI,bw,rdV,rdB,R.bind_ok,R.bind_exc,R.bind_bad,R.ofO_some,R.ofO_none,R.toO_ok,R.toO_exc,R.toO_bad,O.then_nx,O.then_ret,O.then_exc,O.then_bad,O.fin_nx,O.fin_ret,O.fin_exc,O.fin_bad,Option.map_some,Option.map_none,List.map_cons,List.map_nil,Ar.slot,List.cons_append,List.nil_append,List.length_cons,List.length_nil,List.getElem?_cons_zero,List.getElem?_cons_succ,List.set_cons_zero,List.set_cons_succ,Qzc,Qqb,Qq9,Qqq,Qq6,Qq8,Qq7,Qqv,Qqw,Qq2,Qq3,Qq4,Qq5,Qqr,Qz0,Qz1,Qz2,Qqt,Qqs,reduceCtorEq,decide_true,decide_false,Bool.or_true,Bool.or_false,Bool.true_or,Bool.false_or,blV,ntV,ngV,Qzk,op_add,op_sub,Qqk,Qqm,Qqn,Qqp,Qqj,Qqz,Qqh,evBs,Bool.not_false,if_true,Qx9]
 | lst _=>simp only [ir_is_right_claim,List.replicate,Nat.reduceSub,List.append_nil,exSs,exS,evE,evT,evEs,evA,evBs,evO,evOt,evI,bw,rdV,rdB,R.bind_ok,R.bind_exc,R.bind_bad,R.ofO_some,R.ofO_none,R.toO_ok,R.toO_exc,R.toO_bad,O.then_nx,O.then_ret,O.then_exc,O.then_bad,O.fin_nx,O.fin_ret,O.fin_exc,O.fin_bad,Option.map_some,Option.map_none,List.map_cons,List.map_nil,Ar.slot,List.cons_append,List.nil_append,List.length_cons,List.length_nil,List.getElem?_cons_zero,List.getElem?_cons_succ,List.set_cons_zero,List.set_cons_succ,Qzc,Qqb,Qq9,Qqq,Qq6,Qq8,Qq7,Qqv,Qqw,Qq2,Qq3,Qq4,Qq5,Qqr,Qz0,Qz1,Qz2,Qqt,Qqs,reduceCtorEq,decide_true,decide_false,Bool.or_true,Bool.or_false,Bool.true_or,Bool.false_or,blV,ntV,ngV,Qzk,op_add,op_sub,Qqk,Qqm,Qqn,Qqp,Qqj,Qqz,Qqh,evBs,Bool.not_false,if_true,Qx9]
 | fn _=>cases n <;> cases hv
 | cell _=>cases n <;> cases hv
 | scr _=>cases n <;> cases hv
 | err _ _=>cases n <;> cases hv
end K10
end
section
namespace PL
open PySem
theorem adj_sdd:∀ ns:List Int,(sdd ns=ns)↔ns.Pairwise (· < ·):=fun ns=>⟨fun h=>by rw [← h];exact sdd_pw ns,fun h=>pw_uniq (sdd_pw ns) h fun y=>sdd_mem y ns⟩
def adjVB:List Int→Bool
 | a::b::l=>decide (a<b)&&adjVB (b::l)
 | _=>true
theorem adj_pw:∀ ns:List Int,adjVB ns=true↔ns.Pairwise (· < ·)
 | []=>by simp [adjVB]
 | [a]=>by simp [adjVB]
 | a::b::l=>by
  show (decide (a<b)&&adjVB (b::l))=true↔_
  rw [Bool.and_eq_true,decide_eq_true_iff,adj_pw (b::l)]
  constructor
  ·rintro ⟨h1,h2⟩
   refine List.pairwise_cons.mpr ⟨fun y hy => ?_,h2⟩
   rcases List.mem_cons.mp hy with e|e
   ·subst e;exact h1
   ·have:=(List.pairwise_cons.mp h2).1 y e
    omega
  ·intro h
   obtain ⟨h1,h2⟩:=List.pairwise_cons.mp h
   exact ⟨h1 b List.mem_cons_self,h2⟩
theorem adj_sddB (ns:List Int):adjVB ns=decide (sdd ns=ns):=by
 rw [Bool.eq_iff_iff,adj_pw,decide_eq_true_iff,adj_sdd]
theorem zip_adj (g:Val→Val)(hg:∀ a b:Int,g (.tup [.int a,.int b])=.bl (decide (a<b))):∀ ns:List Int,∃ bs:List Bool,(zipL (ns.map .int) ((ns.map Val.int).drop 1)).map g=bs.map .bl∧bs.all id=adjVB ns
 | []=>⟨[],rfl,rfl⟩
 | [a]=>⟨[],rfl,rfl⟩
 | a::b::l=>by
  obtain ⟨bs,e,ha⟩:=zip_adj g hg (b::l)
  refine ⟨decide (a<b)::bs,?_,?_⟩
  ·show (zipL (.int a :: .int b::l.map .int) (.int b::l.map .int)).map g=_
   have z:zipL (.int a :: .int b::l.map .int) (.int b::l.map .int)=.tup [.int a,.int b]::zipL (.int b::l.map .int) (l.map .int):=rfl
   rw [z,List.map_cons,hg]
   have e:(zipL (.int b::l.map .int) (l.map .int)).map g=bs.map .bl:=e
   rw [e]
   rfl
  ·show (decide (a<b)&&bs.all id)=(decide (a<b)&&adjVB (b::l))
   rw [ha]
def ltV (v:Val):Val:=match v with
 | .tup [.int a,.int b]=>.bl (decide (a<b))
 | _=>.non
theorem zip_pairs:∀ (ns:List Int) (v:Val),v∈zipL (ns.map .int) ((ns.map Val.int).drop 1)→∃ a b:Int,v=.tup [.int a,.int b]:=fun ns v hv=>by
 unfold zipL at hv
 obtain ⟨p,hp,e⟩:=List.mem_map.mp hv
 obtain ⟨h1,h2⟩:=List.of_mem_zip hp
 obtain ⟨a,_,ea⟩:=List.mem_map.mp h1
 obtain ⟨b,_,eb⟩:=List.mem_map.mp (List.mem_of_mem_drop h2)
 exact ⟨a,b,by rw [← e,← ea,← eb]⟩
end PL
namespace K10
open PySem PL
theorem b_facts (d:Nat){q:List Int}{v:Val}{n:Nat}(κ:Ks)(hv:datB n v=true):(cb tab (d+4)).cf 4 [.v (picV q),.v v] κ=.ok (.bl (factsB q.length v),κ):=by
  rw [Qqf _ _ _ _ _ rfl rfl]
  cases v with
  | tup l=>
    by_cases h4:(4:Int)<l.length
    · have ff:factsB q.length (.tup l)=false:=by
        show (decide ((l.length:Int)≤4)&&_)=false
        rw [decide_eq_false (by omega)];rfl
      rw [ff]
      simp only [ir_are_right_facts,List.replicate,Nat.reduceSub,exSs,exS,evE,evT,evEs,evA,evBs,evO,evOt,evI,bw,rdV,rdB,R.bind_ok,R.bind_exc,R.bind_bad,R.ofO_some,R.ofO_none,R.toO_ok,R.toO_exc,R.toO_bad,O.then_nx,O.then_ret,O.then_exc,O.then_bad,O.fin_nx,O.fin_ret,O.fin_exc,O.fin_bad,Option.map_some,Option.map_none,List.map_cons,List.map_nil,Ar.slot,List.cons_append,List.nil_append,List.length_cons,List.length_nil,List.getElem?_cons_zero,List.getElem?_cons_succ,List.set_cons_zero,List.set_cons_succ,Qzc,Qqb,Qq9,Qqq,Qq6,Qq8,Qq7,Qqv,Qqw,Qq2,Qq3,Qq4,Qq5,Qqr,Qz0,Qz1,Qz2,Qqt,Qqs,reduceCtorEq,decide_true,decide_false,Bool.or_true,Bool.or_false,Bool.true_or,Bool.false_or,blV,ntV,ngV,Qzk,op_add,op_sub,Qqk,Qqm,Qqn,Qqp,Qqj,Qqz,Qqh,evBs,h4,Bool.not_true,decide_true,if_true,if_false,Bool.false_eq_true]
    · have ff:factsB q.length (.tup l)=l.all (Qx9 q.length):=by
        show (decide ((l.length:Int)≤4)&&_)=_
        rw [decide_eq_true (by omega)];rfl
      rw [ff]
      have p1:exS (cb tab (d+3)) (.ite (.or (.not (.val (.isi .tuple (.var 1)))) (.cm .gt (.bi .len (.cons (.var 1) .nil)) (.glob 0 (.int 4)))) (.cons (.ret (.con (.bl false)))
  .nil) .nil) [some (.val (picV q)), some (.val (.tup l)), none] κ = .nx [some (.val (picV q)), some (.val (.tup l)), none] κ := by
        simp only [exSs,exS,evE,evT,evEs,evA,evBs,evO,evOt,evI,bw,rdV,rdB,R.bind_ok,R.bind_exc,R.bind_bad,R.ofO_some,R.ofO_none,R.toO_ok,R.toO_exc,R.toO_bad,O.then_nx,O.then_ret,O.then_exc,O.then_bad,O.fin_nx,O.fin_ret,O.fin_exc,O.fin_bad,Option.map_some,Option.map_none,List.map_cons,List.map_nil,Ar.slot,List.cons_append,List.nil_append,List.length_cons,List.length_nil,List.getElem?_cons_zero,List.getElem?_cons_succ,List.set_cons_zero,List.set_cons_succ,Qzc,Qqb,Qq9,Qqq,Qq6,Qq8,Qq7,Qqv,Qqw,Qq2,Qq3,Qq4,Qq5,Qqr,Qz0,Qz1,Qz2,Qqt,Qqs,reduceCtorEq,decide_true,decide_false,Bool.or_true,Bool.or_false,Bool.true_or,Bool.false_or,blV,ntV,ngV,Qzk,op_add,op_sub,Qqk,Qqm,Qqn,Qqp,Qqj,Qqz,Qqh,evBs,h4,Bool.not_true,decide_true,decide_false,if_true,if_false,Bool.false_eq_true]
      have c1:evE (cb tab (d+3)) (.comp (.call 3 (.cons (.var 0) (.cons (.var 2) .nil))) (.nm 2) (.seq (.var 1)) .no [2]) [some (.val (picV q)),some (.val (.tup l)),none] κ=.ok (.lst ((l.map (Qx9 q.length)).map .bl),κ):=by
        rw [List.map_map]
        refine ev_comp (l:=l) (g:=fun u=>.bl (Qx9 q.length u)) rfl (Nat.lt_of_le_of_lt (show l.length≤4 by omega) (by decide)) fun u hu=>⟨[some (.val (picV q)),some (.val (.tup l)),some (.val u)],rfl,?_⟩
        simp only [exSs,exS,evE,evT,evEs,evA,evBs,evO,evOt,evI,bw,rdV,rdB,R.bind_ok,R.bind_exc,R.bind_bad,R.ofO_some,R.ofO_none,R.toO_ok,R.toO_exc,R.toO_bad,O.then_nx,O.then_ret,O.then_exc,O.then_bad,O.fin_nx,O.fin_ret,O.fin_exc,O.fin_bad,Option.map_some,Option.map_none,List.map_cons,List.map_nil,Ar.slot,List.cons_append,List.nil_append,List.length_cons,List.length_nil,List.getElem?_cons_zero,List.getElem?_cons_succ,List.set_cons_zero,List.set_cons_succ,Qzc,Qqb,Qq9,Qqq,Qq6,Qq8,Qq7,Qqv,Qqw,Qq2,Qq3,Qq4,Qq5,Qqr,Qz0,Qz1,Qz2,Qqt,Qqs,reduceCtorEq,decide_true,decide_false,Bool.or_true,Bool.or_false,Bool.true_or,Bool.false_or,blV,ntV,ngV,Qzk,op_add,op_sub,Qqk,Qqm,Qqn,Qqp,Qqj,Qqz,Qqh,b_claim d κ (dat_mem hv u hu)]
      have p2:exS (cb tab (d+3)) (.ret (.bi .all (.cons (.comp (.call 3 (.cons (.var 0) (.cons (.var 2) .nil))) (.nm 2) (.seq (.var 1)) .no [2]) .nil))) [some (.val (picV q)),some (.val (.tup l)),none] κ=.ret (.bl (l.all (Qx9 q.length))) κ:=by
        refine Qz8 ?_
        rw [ev_allc c1 (fun _=>rfl),List.all_map]
        rfl
      show (exSs (cb tab (d+3)) ir_are_right_facts [some (.val (picV q)),some (.val (.tup l)),none] κ).fin=_
      unfold ir_are_right_facts
      rw [Qz3 p1,Qz5 p2]
      rfl
  | non=>simp only [ir_are_right_facts,List.replicate,Nat.reduceSub,exSs,exS,evE,evT,evEs,evA,evBs,evO,evOt,evI,bw,rdV,rdB,R.bind_ok,R.bind_exc,R.bind_bad,R.ofO_some,R.ofO_none,R.toO_ok,R.toO_exc,R.toO_bad,O.then_nx,O.then_ret,O.then_exc,O.then_bad,O.fin_nx,O.fin_ret,O.fin_exc,O.fin_bad,Option.map_some,Option.map_none,List.map_cons,List.map_nil,Ar.slot,List.cons_append,List.nil_append,List.length_cons,List.length_nil,List.getElem?_cons_zero,List.getElem?_cons_succ,List.set_cons_zero,List.set_cons_succ,Qzc,Qqb,Qq9,Qqq,Qq6,Qq8,Qq7,Qqv,Qqw,Qq2,Qq3,Qq4,Qq5,Qqr,Qz0,Qz1,Qz2,Qqt,Qqs,reduceCtorEq,decide_true,decide_false,Bool.or_true,Bool.or_false,Bool.true_or,Bool.false_or,blV,ntV,ngV,Qzk,op_add,op_sub,Qqk,Qqm,Qqn,Qqp,Qqj,Qqz,Qqh,evBs,Bool.not_false,if_true,factsB]
  | bl _=>simp only [ir_are_right_facts,List.replicate,Nat.reduceSub,exSs,exS,evE,evT,evEs,evA,evBs,evO,evOt,evI,bw,rdV,rdB,R.bind_ok,R.bind_exc,R.bind_bad,R.ofO_some,R.ofO_none,R.toO_ok,R.toO_exc,R.toO_bad,O.then_nx,O.then_ret,O.then_exc,O.then_bad,O.fin_nx,O.fin_ret,O.fin_exc,O.fin_bad,Option.map_some,Option.map_none,List.map_cons,List.map_nil,Ar.slot,List.cons_append,List.nil_append,List.length_cons,List.length_nil,List.getElem?_cons_zero,List.getElem?_cons_succ,List.set_cons_zero,List.set_cons_succ,Qzc,Qqb,Qq9,Qqq,Qq6,Qq8,Qq7,Qqv,Qqw,Qq2,Qq3,Qq4,Qq5,Qqr,Qz0,Qz1,Qz2,Qqt,Qqs,reduceCtorEq,decide_true,decide_false,Bool.or_true,Bool.or_false,Bool.true_or,Bool.false_or,blV,ntV,ngV,Qzk,op_add,op_sub,Qqk,Qqm,Qqn,Qqp,Qqj,Qqz,Qqh,evBs,Bool.not_false,if_true,factsB]
  | int _=>simp only [ir_are_right_facts,List.replicate,Nat.reduceSub,exSs,exS,evE,evT,evEs,evA,evBs,evO,evOt,evI,bw,rdV,rdB,R.bind_ok,R.bind_exc,R.bind_bad,R.ofO_some,R.ofO_none,R.toO_ok,R.toO_exc,R.toO_bad,O.then_nx,O.then_ret,O.then_exc,O.then_bad,O.fin_nx,O.fin_ret,O.fin_exc,O.fin_bad,Option.map_some,Option.map_none,List.map_cons,List.map_nil,Ar.slot,List.cons_append,List.nil_append,List.length_cons,List.length_nil,List.getElem?_cons_zero,List.getElem?_cons_succ,List.set_cons_zero,List.set_cons_succ,Qzc,Qqb,Qq9,Qqq,Qq6,Qq8,Qq7,Qqv,Qqw,Qq2,Qq3,Qq4,Qq5,Qqr,Qz0,Qz1,Qz2,Qqt,Qqs,reduceCtorEq,decide_true,decide_false,Bool.or_true,Bool.or_false,Bool.true_or,Bool.false_or,blV,ntV,ngV,Qzk,op_add,op_sub,Qqk,Qqm,Qqn,Qqp,Qqj,Qqz,Qqh,evBs,Bool.not_false,if_true,factsB]
  | str _=>simp only [ir_are_right_facts,List.replicate,Nat.reduceSub,exSs,exS,evE,evT,evEs,evA,evBs,evO,evOt,evI,bw,rdV,rdB,R.bind_ok,R.bind_exc,R.bind_bad,R.ofO_some,R.ofO_none,R.toO_ok,R.toO_exc,R.toO_bad,O.then_nx,O.then_ret,O.then_exc,O.then_bad,O.fin_nx,O.fin_ret,O.fin_exc,O.fin_bad,Option.map_some,Option.map_none,List.map_cons,List.map_nil,Ar.slot,List.cons_append,List.nil_append,List.length_cons,List.length_nil,List.getElem?_cons_zero,List.getElem?_cons_succ,List.set_cons_zero,List.set_cons_succ,Qzc,Qqb,Qq9,Qqq,Qq6,Qq8,Qq7,Qqv,Qqw,Qq2,Qq3,Qq4,Qq5,Qqr,Qz0,Qz1,Qz2,Qqt,Qqs,reduceCtorEq,decide_true,decide_false,Bool.or_true,Bool.or_false,Bool.true_or,Bool.false_or,blV,ntV,ngV,Qzk,op_add,op_sub,Qqk,Qqm,Qqn,Qqp,Qqj,Qqz,Qqh,evBs,Bool.not_false,if_true,factsB]
  | lst _=>simp only [ir_are_right_facts,List.replicate,Nat.reduceSub,exSs,exS,evE,evT,evEs,evA,evBs,evO,evOt,evI,bw,rdV,rdB,R.bind_ok,R.bind_exc,R.bind_bad,R.ofO_some,R.ofO_none,R.toO_ok,R.toO_exc,R.toO_bad,O.then_nx,O.then_ret,O.then_exc,O.then_bad,O.fin_nx,O.fin_ret,O.fin_exc,O.fin_bad,Option.map_some,Option.map_none,List.map_cons,List.map_nil,Ar.slot,List.cons_append,List.nil_append,List.length_cons,List.length_nil,List.getElem?_cons_zero,List.getElem?_cons_succ,List.set_cons_zero,List.set_cons_succ,Qzc,Qqb,Qq9,Qqq,Qq6,Qq8,Qq7,Qqv,Qqw,Qq2,Qq3,Qq4,Qq5,Qqr,Qz0,Qz1,Qz2,Qqt,Qqs,reduceCtorEq,decide_true,decide_false,Bool.or_true,Bool.or_false,Bool.true_or,Bool.false_or,blV,ntV,ngV,Qzk,op_add,op_sub,Qqk,Qqm,Qqn,Qqp,Qqj,Qqz,Qqh,evBs,Bool.not_false,if_true,factsB]
  | fn _=>cases n <;> cases hv
  | cell _=>cases n <;> cases hv
  | scr _=>cases n <;> cases hv
  | err _ _=>cases n <;> cases hv
theorem b_pic (d:Nat){v:Val}{n:Nat}(κ:Ks)(hv:datB n v=true):(cb tab (d+2)).cf 1 [.v v] κ=.ok (.bl (picB v),κ):=by
  rw [Qqf _ _ _ _ _ rfl rfl]
  have w:=fun v (h:topD v=true) lo hi=>s_wholeV d h lo hi κ
  cases v with
  | tup l=>
    by_cases h3:(3:Int)≤l.length
    · by_cases h5:(l.length:Int)≤5
      · have pf:picB (.tup l)=(l.all (Qzw · 0 60)&&(match intsOf l with
            | some ns=>decide (ns[0]? = some 0)&&decide (sdd ns=ns)
            | none=>false)):=by
          show ((decide ((3:Int)≤l.length)&&decide ((l.length:Int)≤5))&&_)=_
          rw [decide_eq_true h3,decide_eq_true h5];rfl
        have hl:l.length<LINE:=Nat.lt_of_le_of_lt (show l.length≤5 by omega) (by decide)
        have p1:exS (cb tab (d+1)) (.ite (.or (.not (.val (.isi .tuple (.var 0)))) (.not (.chain .le .le (.con (.int (3))) (.bi .len (.cons (.var 0) .nil)) (.con (.int (5)))))) (.cons (.ret (.con (.bl false)))
  .nil) .nil) [some (.val (.tup l)), none, none, none] κ = .nx [some (.val (.tup l)), none, none, none] κ := by
          simp only [exSs,exS,evE,evT,evEs,evA,evBs,evO,evOt,evI,bw,rdV,rdB,R.bind_ok,R.bind_exc,R.bind_bad,R.ofO_some,R.ofO_none,R.toO_ok,R.toO_exc,R.toO_bad,O.then_nx,O.then_ret,O.then_exc,O.then_bad,O.fin_nx,O.fin_ret,O.fin_exc,O.fin_bad,Option.map_some,Option.map_none,List.map_cons,List.map_nil,Ar.slot,List.cons_append,List.nil_append,List.length_cons,List.length_nil,List.getElem?_cons_zero,List.getElem?_cons_succ,List.set_cons_zero,List.set_cons_succ,Qzc,Qqb,Qq9,Qqq,Qq6,Qq8,Qq7,Qqv,Qqw,Qq2,Qq3,Qq4,Qq5,Qqr,Qz0,Qz1,Qz2,Qqt,Qqs,reduceCtorEq,decide_true,decide_false,Bool.or_true,Bool.or_false,Bool.true_or,Bool.false_or,blV,ntV,ngV,Qzk,op_add,op_sub,Qqk,Qqm,Qqn,Qqp,Qqj,Qqz,Qqh,evBs,h3,h5,Bool.not_true,decide_true,if_true,if_false,Bool.false_eq_true]
        have c1:evE (cb tab (d+1)) (.comp (.call 0 (.cons (.var 1) (.cons (.con (.int (0))) (.cons (.con (.int (60))) .nil)))) (.nm 1) (.seq (.var 0)) .no [1]) [some (.val (.tup l)),none,none,none] κ=.ok (.lst ((l.map (Qzw · 0 60)).map .bl),κ):=by
          rw [List.map_map]
          refine ev_comp (l:=l) (g:=fun u=>.bl (Qzw u 0 60)) rfl hl fun u hu=>⟨[some (.val (.tup l)),some (.val u),none,none],rfl,?_⟩
          simp only [exSs,exS,evE,evT,evEs,evA,evBs,evO,evOt,evI,bw,rdV,rdB,R.bind_ok,R.bind_exc,R.bind_bad,R.ofO_some,R.ofO_none,R.toO_ok,R.toO_exc,R.toO_bad,O.then_nx,O.then_ret,O.then_exc,O.then_bad,O.fin_nx,O.fin_ret,O.fin_exc,O.fin_bad,Option.map_some,Option.map_none,List.map_cons,List.map_nil,Ar.slot,List.cons_append,List.nil_append,List.length_cons,List.length_nil,List.getElem?_cons_zero,List.getElem?_cons_succ,List.set_cons_zero,List.set_cons_succ,Qzc,Qqb,Qq9,Qqq,Qq6,Qq8,Qq7,Qqv,Qqw,Qq2,Qq3,Qq4,Qq5,Qqr,Qz0,Qz1,Qz2,Qqt,Qqs,reduceCtorEq,decide_true,decide_false,Bool.or_true,Bool.or_false,Bool.true_or,Bool.false_or,blV,ntV,ngV,Qzk,op_add,op_sub,Qqk,Qqm,Qqn,Qqp,Qqj,Qqz,Qqh,w u (datB_topD (dat_mem hv u hu))]
        have a1:=not_val (ev_allc c1 fun _=>rfl)
        have ea:((l.map (Qzw · 0 60)).all id)=l.all (Qzw · 0 60):=by rw [List.all_map];rfl
        rw [ea] at a1
        rw [pf]
        show (exSs (cb tab (d+1)) ir_is_right_picture [some (.val (.tup l)),none,none,none] κ).fin=_
        cases hw:l.all (Qzw · 0 60) with
        | false=>
          rw [hw] at a1
          have t:evT (cb tab (d+1)) (.or (.not (.val (.bi .all (.cons (.comp (.call 0 (.cons (.var 1) (.cons (.con (.int (0))) (.cons (.con (.int (60))) .nil)))) (.nm 1) (.seq (.var 0)) .no [1]) .nil)))) (.cm .ne (.ix (.var 0) (.con (.int (0)))) (.con (.int (0))))) [some (.val (.tup l)),none,none,none] κ=.ok (true,κ):=by
            rw [evT,a1]
            rfl
          unfold ir_is_right_picture
          rw [Qz3 p1]
          have p2:=(Qzs (a:=.cons (.ret (.con (.bl false))) .nil) (b:=.nil) t)
          refine (congrArg O.fin (Qz5 (v:=.bl false) (κ':=κ) (p2.trans rfl))).trans rfl
        | true=>
          rw [hw] at a1
          obtain ⟨ns,rfl,hi,hb⟩:=wholes_ints hw
          rw [hi]
          rw [List.length_map] at h3 h5
          obtain ⟨m,ms,rfl⟩:∃ m ms,ns=m::ms:=by
            cases ns with
            | nil=>simp at h3
            | cons m ms=>exact ⟨m,ms,rfl⟩
          have i0:ixV κ (.tup ((m::ms).map .int)) (.int 0)=some (.int m):=ix_t0 (κ:=κ) _ _
          have e0:decide ((m::ms)[0]? = some 0)=decide (m=0):=by simp
          show _=R.ok (Val.bl (true&&(decide ((m::ms)[0]? = some 0)&&decide (sdd (m::ms)=m::ms))),κ)
          rw [e0,Bool.true_and]
          by_cases hm:m=0
          · have t:evT (cb tab (d+1)) (.or (.not (.val (.bi .all (.cons (.comp (.call 0 (.cons (.var 1) (.cons (.con (.int (0))) (.cons (.con (.int (60))) .nil)))) (.nm 1) (.seq (.var 0)) .no [1]) .nil)))) (.cm .ne (.ix (.var 0) (.con (.int (0)))) (.con (.int (0))))) [some (.val (.tup ((m::ms).map .int))),none,none,none] κ=.ok (false,κ):=by
              rw [evT,a1]
              have t2:evT (cb tab (d+1)) (.cm .ne (.ix (.var 0) (.con (.int (0)))) (.con (.int (0)))) [some (.val (.tup ((m::ms).map .int))),none,none,none] κ=.ok (!decide (m=0),κ):=by
                generalize (m::ms).map Val.int=L at *
                simp only [exSs,exS,evE,evT,evEs,evA,evBs,evO,evOt,evI,bw,rdV,rdB,R.bind_ok,R.bind_exc,R.bind_bad,R.ofO_some,R.ofO_none,R.toO_ok,R.toO_exc,R.toO_bad,O.then_nx,O.then_ret,O.then_exc,O.then_bad,O.fin_nx,O.fin_ret,O.fin_exc,O.fin_bad,Option.map_some,Option.map_none,List.map_cons,List.map_nil,Ar.slot,List.cons_append,List.nil_append,List.length_cons,List.length_nil,List.getElem?_cons_zero,List.getElem?_cons_succ,List.set_cons_zero,List.set_cons_succ,Qzc,Qqb,Qq9,Qqq,Qq6,Qq8,Qq7,Qqv,Qqw,Qq2,Qq3,Qq4,Qq5,Qqr,Qz0,Qz1,Qz2,Qqt,Qqs,reduceCtorEq,decide_true,decide_false,Bool.or_true,Bool.or_false,Bool.true_or,Bool.false_or,blV,ntV,ngV,Qzk,op_add,op_sub,Qqk,Qqm,Qqn,Qqp,Qqj,Qqz,Qqh,i0]
              show R.bind (R.ok (!true,κ)) _=_
              rw [decide_eq_true hm] at t2
              simp only [R.bind_ok,Bool.not_true,Bool.false_eq_true,if_false,t2]
            have p2:=(ite_no (a:=.cons (.ret (.con (.bl false))) .nil) (b:=.nil) t)
            have sl:slV (.tup ((m::ms).map .int)) (some 1) none=some (.tup (((m::ms).map Val.int).drop 1)):=sl_from (i:=1) (by simp)
            obtain ⟨bs,eb,hbs⟩:=zip_adj ltV (fun _ _=>rfl) (m::ms)
            have c2:evE (cb tab (d+1)) (.comp (.cm .lt (.var 2) (.var 3)) (.tp (.cons (.nm 2) (.cons (.nm 3) .nil))) (.zip (.var 0) (.sl (.var 0) (.yes (.con (.int (1)))) .no)) .no [2,3]) [some (.val (.tup ((m::ms).map .int))),none,none,none] κ=.ok (.lst (bs.map .bl),κ):=by
              rw [← eb]
              refine ev_comp (l:=zipL ((m::ms).map .int) (((m::ms).map Val.int).drop 1)) ?_ ?_ fun u hu => ?_
              · have z:∀ A:List Val,zipV (.tup A) (.tup (A.drop 1))=some (zipL A (A.drop 1)):=fun _=>rfl
                have z:=z ((m::ms).map Val.int)
                generalize (m::ms).map Val.int=L at *
                simp only [exSs,exS,evE,evT,evEs,evA,evBs,evO,evOt,evI,bw,rdV,rdB,R.bind_ok,R.bind_exc,R.bind_bad,R.ofO_some,R.ofO_none,R.toO_ok,R.toO_exc,R.toO_bad,O.then_nx,O.then_ret,O.then_exc,O.then_bad,O.fin_nx,O.fin_ret,O.fin_exc,O.fin_bad,Option.map_some,Option.map_none,List.map_cons,List.map_nil,Ar.slot,List.cons_append,List.nil_append,List.length_cons,List.length_nil,List.getElem?_cons_zero,List.getElem?_cons_succ,List.set_cons_zero,List.set_cons_succ,Qzc,Qqb,Qq9,Qqq,Qq6,Qq8,Qq7,Qqv,Qqw,Qq2,Qq3,Qq4,Qq5,Qqr,Qz0,Qz1,Qz2,Qqt,Qqs,reduceCtorEq,decide_true,decide_false,Bool.or_true,Bool.or_false,Bool.true_or,Bool.false_or,blV,ntV,ngV,Qzk,op_add,op_sub,Qqk,Qqm,Qqn,Qqp,Qqj,Qqz,Qqh,sl,z]
              · unfold zipL
                rw [List.length_map,List.length_zip]
                exact Nat.lt_of_le_of_lt (Nat.min_le_left _ _) hl
              · obtain ⟨x,y,rfl⟩:=zip_pairs _ u hu
                refine ⟨[some (.val (.tup ((m::ms).map .int))),none,some (.val (.int x)),some (.val (.int y))],rfl,?_⟩
                simp only [exSs,exS,evE,evT,evEs,evA,evBs,evO,evOt,evI,bw,rdV,rdB,R.bind_ok,R.bind_exc,R.bind_bad,R.ofO_some,R.ofO_none,R.toO_ok,R.toO_exc,R.toO_bad,O.then_nx,O.then_ret,O.then_exc,O.then_bad,O.fin_nx,O.fin_ret,O.fin_exc,O.fin_bad,Option.map_some,Option.map_none,List.map_cons,List.map_nil,Ar.slot,List.cons_append,List.nil_append,List.length_cons,List.length_nil,List.getElem?_cons_zero,List.getElem?_cons_succ,List.set_cons_zero,List.set_cons_succ,Qzc,Qqb,Qq9,Qqq,Qq6,Qq8,Qq7,Qqv,Qqw,Qq2,Qq3,Qq4,Qq5,Qqr,Qz0,Qz1,Qz2,Qqt,Qqs,reduceCtorEq,decide_true,decide_false,Bool.or_true,Bool.or_false,Bool.true_or,Bool.false_or,blV,ntV,ngV,Qzk,op_add,op_sub,Qqk,Qqm,Qqn,Qqp,Qqj,Qqz,Qqh]
                rfl
            have p3:exS (cb tab (d+1)) (.ret (.bi .all (.cons (.comp (.cm .lt (.var 2) (.var 3)) (.tp (.cons (.nm 2) (.cons (.nm 3) .nil))) (.zip (.var 0) (.sl (.var 0) (.yes (.con (.int (1)))) .no)) .no [2,3]) .nil))) [some (.val (.tup ((m::ms).map .int))),none,none,none] κ=.ret (.bl (adjVB (m::ms))) κ:=by
              refine Qz8 ?_
              rw [ev_allc c2 (fun _=>rfl),hbs]
            unfold ir_is_right_picture
            rw [Qz3 p1,Qz3 (p2.trans rfl),Qz5 p3,adj_sddB,decide_eq_true hm,Bool.true_and]
            rfl
          · have t:evT (cb tab (d+1)) (.or (.not (.val (.bi .all (.cons (.comp (.call 0 (.cons (.var 1) (.cons (.con (.int (0))) (.cons (.con (.int (60))) .nil)))) (.nm 1) (.seq (.var 0)) .no [1]) .nil)))) (.cm .ne (.ix (.var 0) (.con (.int (0)))) (.con (.int (0))))) [some (.val (.tup ((m::ms).map .int))),none,none,none] κ=.ok (true,κ):=by
              rw [evT,a1]
              have t2:evT (cb tab (d+1)) (.cm .ne (.ix (.var 0) (.con (.int (0)))) (.con (.int (0)))) [some (.val (.tup ((m::ms).map .int))),none,none,none] κ=.ok (!decide (m=0),κ):=by
                generalize (m::ms).map Val.int=L at *
                simp only [exSs,exS,evE,evT,evEs,evA,evBs,evO,evOt,evI,bw,rdV,rdB,R.bind_ok,R.bind_exc,R.bind_bad,R.ofO_some,R.ofO_none,R.toO_ok,R.toO_exc,R.toO_bad,O.then_nx,O.then_ret,O.then_exc,O.then_bad,O.fin_nx,O.fin_ret,O.fin_exc,O.fin_bad,Option.map_some,Option.map_none,List.map_cons,List.map_nil,Ar.slot,List.cons_append,List.nil_append,List.length_cons,List.length_nil,List.getElem?_cons_zero,List.getElem?_cons_succ,List.set_cons_zero,List.set_cons_succ,Qzc,Qqb,Qq9,Qqq,Qq6,Qq8,Qq7,Qqv,Qqw,Qq2,Qq3,Qq4,Qq5,Qqr,Qz0,Qz1,Qz2,Qqt,Qqs,reduceCtorEq,decide_true,decide_false,Bool.or_true,Bool.or_false,Bool.true_or,Bool.false_or,blV,ntV,ngV,Qzk,op_add,op_sub,Qqk,Qqm,Qqn,Qqp,Qqj,Qqz,Qqh,i0]
              show R.bind (R.ok (!true,κ)) _=_
              rw [decide_eq_false hm] at t2
              simp only [R.bind_ok,Bool.not_true,Bool.false_eq_true,if_false,t2,Bool.not_false]
            have p2:=(Qzs (a:=.cons (.ret (.con (.bl false))) .nil) (b:=.nil) t)
            unfold ir_is_right_picture
            rw [Qz3 p1,decide_eq_false hm,Bool.false_and]
            exact (congrArg O.fin (Qz5 (v:=.bl false) (κ':=κ) (p2.trans rfl))).trans rfl
      · have pf:picB (.tup l)=false:=by
          show ((decide ((3:Int)≤l.length)&&decide ((l.length:Int)≤5))&&_)=_
          rw [decide_eq_false h5,Bool.and_false];rfl
        rw [pf]
        simp only [ir_is_right_picture,List.replicate,Nat.reduceSub,exSs,exS,evE,evT,evEs,evA,evBs,evO,evOt,evI,bw,rdV,rdB,R.bind_ok,R.bind_exc,R.bind_bad,R.ofO_some,R.ofO_none,R.toO_ok,R.toO_exc,R.toO_bad,O.then_nx,O.then_ret,O.then_exc,O.then_bad,O.fin_nx,O.fin_ret,O.fin_exc,O.fin_bad,Option.map_some,Option.map_none,List.map_cons,List.map_nil,Ar.slot,List.cons_append,List.nil_append,List.length_cons,List.length_nil,List.getElem?_cons_zero,List.getElem?_cons_succ,List.set_cons_zero,List.set_cons_succ,Qzc,Qqb,Qq9,Qqq,Qq6,Qq8,Qq7,Qqv,Qqw,Qq2,Qq3,Qq4,Qq5,Qqr,Qz0,Qz1,Qz2,Qqt,Qqs,reduceCtorEq,decide_true,decide_false,Bool.or_true,Bool.or_false,Bool.true_or,Bool.false_or,blV,ntV,ngV,Qzk,op_add,op_sub,Qqk,Qqm,Qqn,Qqp,Qqj,Qqz,Qqh,evBs,h3,h5,Bool.not_true,Bool.not_false,decide_true,decide_false,if_true,if_false,Bool.false_eq_true]
    · have pf:picB (.tup l)=false:=by
        show ((decide ((3:Int)≤l.length)&&decide ((l.length:Int)≤5))&&_)=_
        rw [decide_eq_false h3];rfl
      rw [pf]
      simp only [ir_is_right_picture,List.replicate,Nat.reduceSub,exSs,exS,evE,evT,evEs,evA,evBs,evO,evOt,evI,bw,rdV,rdB,R.bind_ok,R.bind_exc,R.bind_bad,R.ofO_some,R.ofO_none,R.toO_ok,R.toO_exc,R.toO_bad,O.then_nx,O.then_ret,O.then_exc,O.then_bad,O.fin_nx,O.fin_ret,O.fin_exc,O.fin_bad,Option.map_some,Option.map_none,List.map_cons,List.map_nil,Ar.slot,List.cons_append,List.nil_append,List.length_cons,List.length_nil,List.getElem?_cons_zero,List.getElem?_cons_succ,List.set_cons_zero,List.set_cons_succ,Qzc,Qqb,Qq9,Qqq,Qq6,Qq8,Qq7,Qqv,Qqw,Qq2,Qq3,Qq4,Qq5,Qqr,Qz0,Qz1,Qz2,Qqt,Qqs,reduceCtorEq,decide_true,decide_false,Bool.or_true,Bool.or_false,Bool.true_or,Bool.false_or,blV,ntV,ngV,Qzk,op_add,op_sub,Qqk,Qqm,Qqn,Qqp,Qqj,Qqz,Qqh,evBs,h3,Bool.not_true,Bool.not_false,decide_true,decide_false,if_true,if_false,Bool.false_eq_true]
  | non=>simp only [ir_is_right_picture,List.replicate,Nat.reduceSub,exSs,exS,evE,evT,evEs,evA,evBs,evO,evOt,evI,bw,rdV,rdB,R.bind_ok,R.bind_exc,R.bind_bad,R.ofO_some,R.ofO_none,R.toO_ok,R.toO_exc,R.toO_bad,O.then_nx,O.then_ret,O.then_exc,O.then_bad,O.fin_nx,O.fin_ret,O.fin_exc,O.fin_bad,Option.map_some,Option.map_none,List.map_cons,List.map_nil,Ar.slot,List.cons_append,List.nil_append,List.length_cons,List.length_nil,List.getElem?_cons_zero,List.getElem?_cons_succ,List.set_cons_zero,List.set_cons_succ,Qzc,Qqb,Qq9,Qqq,Qq6,Qq8,Qq7,Qqv,Qqw,Qq2,Qq3,Qq4,Qq5,Qqr,Qz0,Qz1,Qz2,Qqt,Qqs,reduceCtorEq,decide_true,decide_false,Bool.or_true,Bool.or_false,Bool.true_or,Bool.false_or,blV,ntV,ngV,Qzk,op_add,op_sub,Qqk,Qqm,Qqn,Qqp,Qqj,Qqz,Qqh,evBs,Bool.not_false,if_true,picB]
  | bl _=>simp only [ir_is_right_picture,List.replicate,Nat.reduceSub,exSs,exS,evE,evT,evEs,evA,evBs,evO,evOt,evI,bw,rdV,rdB,R.bind_ok,R.bind_exc,R.bind_bad,R.ofO_some,R.ofO_none,R.toO_ok,R.toO_exc,R.toO_bad,O.then_nx,O.then_ret,O.then_exc,O.then_bad,O.fin_nx,O.fin_ret,O.fin_exc,O.fin_bad,Option.map_some,Option.map_none,List.map_cons,List.map_nil,Ar.slot,List.cons_append,List.nil_append,List.length_cons,List.length_nil,List.getElem?_cons_zero,List.getElem?_cons_succ,List.set_cons_zero,List.set_cons_succ,Qzc,Qqb,Qq9,Qqq,Qq6,Qq8,Qq7,Qqv,Qqw,Qq2,Qq3,Qq4,Qq5,Qqr,Qz0,Qz1,Qz2,Qqt,Qqs,reduceCtorEq,decide_true,decide_false,Bool.or_true,Bool.or_false,Bool.true_or,Bool.false_or,blV,ntV,ngV,Qzk,op_add,op_sub,Qqk,Qqm,Qqn,Qqp,Qqj,Qqz,Qqh,evBs,Bool.not_false,if_true,picB]
  | int _=>simp only [ir_is_right_picture,List.replicate,Nat.reduceSub,exSs,exS,evE,evT,evEs,evA,evBs,evO,evOt,evI,bw,rdV,rdB,R.bind_ok,R.bind_exc,R.bind_bad,R.ofO_some,R.ofO_none,R.toO_ok,R.toO_exc,R.toO_bad,O.then_nx,O.then_ret,O.then_exc,O.then_bad,O.fin_nx,O.fin_ret,O.fin_exc,O.fin_bad,Option.map_some,Option.map_none,List.map_cons,List.map_nil,Ar.slot,List.cons_append,List.nil_append,List.length_cons,List.length_nil,List.getElem?_cons_zero,List.getElem?_cons_succ,List.set_cons_zero,List.set_cons_succ,Qzc,Qqb,Qq9,Qqq,Qq6,Qq8,Qq7,Qqv,Qqw,Qq2,Qq3,Qq4,Qq5,Qqr,Qz0,Qz1,Qz2,Qqt,Qqs,reduceCtorEq,decide_true,decide_false,Bool.or_true,Bool.or_false,Bool.true_or,Bool.false_or,blV,ntV,ngV,Qzk,op_add,op_sub,Qqk,Qqm,Qqn,Qqp,Qqj,Qqz,Qqh,evBs,Bool.not_false,if_true,picB]
  | str _=>simp only [ir_is_right_picture,List.replicate,Nat.reduceSub,exSs,exS,evE,evT,evEs,evA,evBs,evO,evOt,evI,bw,rdV,rdB,R.bind_ok,R.bind_exc,R.bind_bad,R.ofO_some,R.ofO_none,R.toO_ok,R.toO_exc,R.toO_bad,O.then_nx,O.then_ret,O.then_exc,O.then_bad,O.fin_nx,O.fin_ret,O.fin_exc,O.fin_bad,Option.map_some,Option.map_none,List.map_cons,List.map_nil,Ar.slot,List.cons_append,List.nil_append,List.length_cons,List.length_nil,List.getElem?_cons_zero,List.getElem?_cons_succ,List.set_cons_zero,List.set_cons_succ,Qzc,Qqb,Qq9,Qqq,Qq6,Qq8,Qq7,Qqv,Qqw,Qq2,Qq3,Qq4,Qq5,Qqr,Qz0,Qz1,Qz2,Qqt,Qqs,reduceCtorEq,decide_true,decide_false,Bool.or_true,Bool.or_false,Bool.true_or,Bool.false_or,blV,ntV,ngV,Qzk,op_add,op_sub,Qqk,Qqm,Qqn,Qqp,Qqj,Qqz,Qqh,evBs,Bool.not_false,if_true,picB]
  | lst _=>simp only [ir_is_right_picture,List.replicate,Nat.reduceSub,exSs,exS,evE,evT,evEs,evA,evBs,evO,evOt,evI,bw,rdV,rdB,R.bind_ok,R.bind_exc,R.bind_bad,R.ofO_some,R.ofO_none,R.toO_ok,R.toO_exc,R.toO_bad,O.then_nx,O.then_ret,O.then_exc,O.then_bad,O.fin_nx,O.fin_ret,O.fin_exc,O.fin_bad,Option.map_some,Option.map_none,List.map_cons,List.map_nil,Ar.slot,List.cons_append,List.nil_append,List.length_cons,List.length_nil,List.getElem?_cons_zero,List.getElem?_cons_succ,List.set_cons_zero,List.set_cons_succ,Qzc,Qqb,Qq9,Qqq,Qq6,Qq8,Qq7,Qqv,Qqw,Qq2,Qq3,Qq4,Qq5,Qqr,Qz0,Qz1,Qz2,Qqt,Qqs,reduceCtorEq,decide_true,decide_false,Bool.or_true,Bool.or_false,Bool.true_or,Bool.false_or,blV,ntV,ngV,Qzk,op_add,op_sub,Qqk,Qqm,Qqn,Qqp,Qqj,Qqz,Qqh,evBs,Bool.not_false,if_true,picB]
  | fn _=>cases n <;> cases hv
  | cell _=>cases n <;> cases hv
  | scr _=>cases n <;> cases hv
  | err _ _=>cases n <;> cases hv
end K10
end
section
set_option maxHeartbeats 400000
namespace PL
open PySem
def Ge (κ κ':Ks):Prop:=∃ t,κ'=κ++t
theorem Ge.refl (κ:Ks):Ge κ κ:=⟨[],(List.append_nil κ).symm⟩
theorem Ge.trans {a b c:Ks}(h:Ge a b)(k:Ge b c):Ge a c:=by
 obtain ⟨t,rfl⟩:=h
 obtain ⟨u,rfl⟩:=k
 exact ⟨t++u,List.append_assoc _ _ _⟩
theorem Ge.at {κ κ':Ks}{i:Nat}{x:Cell}(g:Ge κ κ')(h:κ[i]? = some x):κ'[i]? = some x:=by
 obtain ⟨t,rfl⟩:=g
 rw [List.getElem?_append_left (List.getElem?_eq_some_iff.mp h).1]
 exact h
theorem at_snoc {κ:Ks}{x:Cell}:(κ++[x])[κ.length]? = some x:=by
 rw [List.getElem?_append_right (Nat.le_refl _),Nat.sub_self];rfl
section
variable {c:CB}{cm:Nat→List Ar→Ks→R (Val × Ks)}{k f j i:Nat}{o a e:E}{es:Es}{ρ:Rho}{κ κ1:Ks}{l vs:List Val}{v u:Val}
end
end PL
namespace K10
open PySem PL
abbrev picO (q:List Int):Cell:=.obj 0 [picV q]
theorem dat_ints {n:Nat}(q:List Int):datBs n (q.map .int)=true:=Qx6 fun v hv=>by
 obtain ⟨z,_,rfl⟩:=List.mem_map.mp hv
 cases n <;> rfl
theorem dat_pic (n:Nat)(q:List Int):datB (n+1) (picV q)=true:=dat_ints q
theorem ints_of:∀ ns:List Int,intsOf (ns.map .int)=some ns
 | []=>rfl
 | n::ns=>by
  show (intsOf (ns.map .int)).map (n :: ·)=_
  rw [ints_of ns];rfl
theorem picB_ok {q:List Int}(h:PicOk q):picB (picV q)=true:=by
 show ((decide ((3:Int)≤(q.map Val.int).length)&&decide (((q.map Val.int).length:Int)≤5))&&((q.map Val.int).all (Qzw · 0 60)&&(match intsOf (q.map Val.int) with
  | some ns=>decide (ns[0]? = some 0)&&decide (sdd ns=ns)
  | none=>false)))=true
 have h3:=h.l3
 have h5:=h.l5
 rw [ints_of,List.length_map,decide_eq_true (show (3:Int)≤(q.length:Int) by omega),decide_eq_true (show (q.length:Int)≤5 by omega)]
 dsimp only
 rw [decide_eq_true h.head,decide_eq_true ((adj_sdd q).mpr h.asc)]
 have al:(q.map Val.int).all (Qzw · 0 60)=true:=List.all_eq_true.mpr fun v hv=>by
  obtain ⟨z,hz,rfl⟩:=List.mem_map.mp hv
  have:=h.marks z hz
  show (decide ((0:Int)≤z)&&decide (z≤60))=true
  rw [decide_eq_true this.1,decide_eq_true this.2];rfl
 rw [al];rfl
theorem ok_picB {q:List Int}(h:picB (picV q)=true):PicOk q:=by
 have h:((decide ((3:Int)≤(q.map Val.int).length)&&decide (((q.map Val.int).length:Int)≤5))&&((q.map Val.int).all (Qzw · 0 60)&&(match intsOf (q.map Val.int) with
  | some ns=>decide (ns[0]? = some 0)&&decide (sdd ns=ns)
  | none=>false)))=true:=h
 rw [ints_of,List.length_map] at h
 obtain ⟨h1,h2⟩:=Bool.and_eq_true_iff.mp h
 obtain ⟨h3,h5⟩:=Bool.and_eq_true_iff.mp h1
 obtain ⟨ha,hb⟩:=Bool.and_eq_true_iff.mp h2
 obtain ⟨hz,hs⟩:=Bool.and_eq_true_iff.mp hb
 have h3:=of_decide_eq_true h3
 have h5:=of_decide_eq_true h5
 refine ⟨by omega,by omega,of_decide_eq_true hz,(adj_sdd q).mp (of_decide_eq_true hs),fun m hm => ?_⟩
 have:=List.all_eq_true.mp ha (.int m) (List.mem_map.mpr ⟨m,hm,rfl⟩)
 obtain ⟨a,b⟩:=Bool.and_eq_true_iff.mp this
 exact ⟨of_decide_eq_true a,of_decide_eq_true b⟩
theorem b_need_pic (d:Nat){v:Val}{n:Nat}(κ:Ks)(hv:datB n v=true):(cb tab (d+3)).cf 5 [.v v] κ=if picB v=true then .ok (.non,κ) else .exc (0) .non κ:=by
 rw [Qqf _ _ _ _ _ rfl rfl]
 have b:=b_pic d κ hv
 cases h:picB v with
 | true=>
  rw [h] at b
  simp only [ir_need_picture,List.replicate,Nat.reduceSub,List.append_nil,exSs,exS,evE,evT,evEs,evA,evBs,evO,evOt,evI,bw,rdV,rdB,R.bind_ok,R.bind_exc,R.bind_bad,R.ofO_some,R.ofO_none,R.toO_ok,R.toO_exc,R.toO_bad,O.then_nx,O.then_ret,O.then_exc,O.then_bad,O.fin_nx,O.fin_ret,O.fin_exc,O.fin_bad,Option.map_some,Option.map_none,List.map_cons,List.map_nil,Ar.slot,List.cons_append,List.nil_append,List.length_cons,List.length_nil,List.getElem?_cons_zero,List.getElem?_cons_succ,List.set_cons_zero,List.set_cons_succ,Qzc,Qqb,Qq9,Qqq,Qq6,Qq8,Qq7,Qqv,Qqw,Qq2,Qq3,Qq4,Qq5,Qqr,Qz0,Qz1,Qz2,Qqt,Qqs,reduceCtorEq,decide_true,decide_false,Bool.or_true,Bool.or_false,Bool.true_or,Bool.false_or,blV,ntV,ngV,Qzk,op_add,op_sub,Qqk,Qqm,Qqn,Qqp,Qqj,Qqz,Qqh,b,Bool.not_true,Bool.false_eq_true,if_false,if_true]
 | false=>
  rw [h] at b
  simp only [ir_need_picture,List.replicate,Nat.reduceSub,List.append_nil,exSs,exS,evE,evT,evEs,evA,evBs,evO,evOt,evI,bw,rdV,rdB,R.bind_ok,R.bind_exc,R.bind_bad,R.ofO_some,R.ofO_none,R.toO_ok,R.toO_exc,R.toO_bad,O.then_nx,O.then_ret,O.then_exc,O.then_bad,O.fin_nx,O.fin_ret,O.fin_exc,O.fin_bad,Option.map_some,Option.map_none,List.map_cons,List.map_nil,Ar.slot,List.cons_append,List.nil_append,List.length_cons,List.length_nil,List.getElem?_cons_zero,List.getElem?_cons_succ,List.set_cons_zero,List.set_cons_succ,Qzc,Qqb,Qq9,Qqq,Qq6,Qq8,Qq7,Qqv,Qqw,Qq2,Qq3,Qq4,Qq5,Qqr,Qz0,Qz1,Qz2,Qqt,Qqs,reduceCtorEq,decide_true,decide_false,Bool.or_true,Bool.or_false,Bool.true_or,Bool.false_or,blV,ntV,ngV,Qzk,op_add,op_sub,Qqk,Qqm,Qqn,Qqp,Qqj,Qqz,Qqh,b,Bool.not_false,Bool.false_eq_true,if_false,if_true]
theorem ev_callP {c:CB}{f:Nat}{es:As}{ρ:Rho}{κ κ1:Ks}{vs:List Ar}(h:evA c es ρ κ=.ok (vs,κ1)):evE c (.call f es) ρ κ=c.cf f vs κ1:=by
 show (evA c es ρ κ).bind _=_
 rw [h];rfl
theorem Qqd {c:CB}{f:Nat}{es:As}{ρ:Rho}{κ κ1:Ks}{vs:List Ar}{r:R (Val × Ks)}(h:evA c es ρ κ=.ok (vs,κ1))(h2:c.cf f vs κ1=r):evE c (.call f es) ρ κ=r:=(ev_callP h).trans h2
theorem eva_nil {c:CB}{ρ:Rho}{κ:Ks}:evA c .nil ρ κ=.ok ([],κ):=rfl
theorem Qzj {c:CB}{e:E}{es:As}{ρ:Rho}{κ κ1 κ2:Ks}{v:Val}{vs:List Ar}(h:evE c e ρ κ=.ok (v,κ1))(h2:evA c es ρ κ1=.ok (vs,κ2)):evA c (.cons e es) ρ κ=.ok (.v v::vs,κ2):=by
 show (R.bind (evE c e ρ κ) fun p=>R.bind (evA c es ρ p.2) _)=_
 rw [h,R.bind_ok]
 dsimp only
 rw [h2];rfl
theorem expr_nx {c:CB}{e:E}{ρ:Rho}{κ κ':Ks}{v:Val}(h:evE c e ρ κ=.ok (v,κ')):exS c (.expr e) ρ κ=.nx ρ κ':=by
 show (evE c e ρ κ).toO _=_
 rw [h];rfl
theorem expr_exc {c:CB}{e:E}{ρ:Rho}{κ κ':Ks}{cl:Nat}(h:evE c e ρ κ=.exc cl .non κ'):exS c (.expr e) ρ κ=.exc cl .non κ':=by
 show (evE c e ρ κ).toO _=_
 rw [h];rfl
theorem ss_exc {c:CB}{s:S}{l:Ss}{ρ:Rho}{κ κ':Ks}{cl:Nat}(h:exS c s ρ κ=.exc cl .non κ'):exSs c (.cons s l) ρ κ=.exc cl .non κ':=by
 show (exS c s ρ κ).then _=_
 rw [h];rfl
section
variable {κ:Ks}{j:Nat}{q:List Int}(h:κ[j]? = some (picO q))
include h
end
end K10
end
section
set_option maxHeartbeats 400000
namespace PL
open PySem
section
variable {c:CB}{a b e:E}{ρ:Rho}{κ κ1 κ2:Ks}{u w z v:Val}{i:Nat}
theorem ev_op {o:Op}(ha:bw a ρ κ (evE c a ρ κ)=.ok (u,κ1))(hb:bw b ρ κ1 (evE c b ρ κ1)=.ok (w,κ2))(ho:opV o u w=some z):evE c (.op o a b) ρ κ=.ok (z,κ2):=by
 show (bw a ρ κ (evE c a ρ κ)).bind _=_
 rw [ha,R.bind_ok]
 show (bw b ρ κ1 (evE c b ρ κ1)).bind _=_
 rw [hb,R.bind_ok]
 show R.ofO ((opV o u w).map fun v=>(v,κ2))=_
 rw [ho];rfl
theorem t_cm {o:Cm}{r:Bool}(ha:bw a ρ κ (evE c a ρ κ)=.ok (u,κ1))(hb:bw b ρ κ1 (evE c b ρ κ1)=.ok (w,κ2))(ho:cmV o u w=some r):evT c (.cm o a b) ρ κ=.ok (r,κ2):=by
 show (bw a ρ κ (evE c a ρ κ)).bind _=_
 rw [ha,R.bind_ok]
 show (bw b ρ κ1 (evE c b ρ κ1)).bind _=_
 rw [hb,R.bind_ok]
 show R.ofO ((cmV o u w).map fun v=>(v,κ2))=_
 rw [ho];rfl
theorem t_val {r:Bool}(ha:evE c a ρ κ=.ok (.bl r,κ1)):evT c (.val a) ρ κ=.ok (r,κ1):=by
 show (evE c a ρ κ).bind _=_
 rw [ha];rfl
theorem t_not {t:T}{r:Bool}(ha:evT c t ρ κ=.ok (r,κ1)):evT c (.not t) ρ κ=.ok (!r,κ1):=by
 show (evT c t ρ κ).bind _=_
 rw [ha];rfl
theorem t_or_t {s t:T}(ha:evT c s ρ κ=.ok (true,κ1)):evT c (.or s t) ρ κ=.ok (true,κ1):=by
 show (evT c s ρ κ).bind _=_
 rw [ha];rfl
theorem t_or_f {s t:T}{r:R (Bool × Ks)}(ha:evT c s ρ κ=.ok (false,κ1))(hb:evT c t ρ κ1=r):evT c (.or s t) ρ κ=r:=by
 show (evT c s ρ κ).bind _=_
 rw [ha,R.bind_ok]
 exact hb
theorem t_and_t {s t:T}{r:R (Bool × Ks)}(ha:evT c s ρ κ=.ok (true,κ1))(hb:evT c t ρ κ1=r):evT c (.and s t) ρ κ=r:=by
 show (evT c s ρ κ).bind _=_
 rw [ha,R.bind_ok]
 exact hb
theorem t_and_f {s t:T}(ha:evT c s ρ κ=.ok (false,κ1)):evT c (.and s t) ρ κ=.ok (false,κ1):=by
 show (evT c s ρ κ).bind _=_
 rw [ha];rfl
theorem ev_bi1 {o:Bi}(ha:bw a ρ κ (evE c a ρ κ)=.ok (u,κ1))(ho:biV o [u]=some z):evE c (.bi o (.cons a .nil)) ρ κ=.ok (z,κ1):=by
 show R.bind (R.bind (bw a ρ κ (evE c a ρ κ)) _) _=_
 rw [ha,R.bind_ok]
 show R.ofO ((biV o [u]).map fun v=>(v,κ1))=_
 rw [ho];rfl
theorem ev_slE {lo hi:Oe}{x y:Option Int}(ha:bw a ρ κ (evE c a ρ κ)=.ok (u,κ1))(hl:evO c lo ρ κ1=.ok (x,κ1))(hh:evO c hi ρ κ1=.ok (y,κ1))(hs:slV u x y=some z):evE c (.sl a lo hi) ρ κ=.ok (z,κ1):=by
 show R.bind (bw a ρ κ (evE c a ρ κ)) _=_
 rw [ha,R.bind_ok]
 show R.bind (evO c lo ρ κ1) _=_
 rw [hl,R.bind_ok]
 show R.bind (evO c hi ρ κ1) _=_
 rw [hh,R.bind_ok]
 show R.ofO ((slV u x y).map fun v=>(v,κ1))=_
 rw [hs];rfl
theorem ev_oY {n:Int}(ha:evE c a ρ κ=.ok (.int n,κ1)):evO c (.yes a) ρ κ=.ok (some n,κ1):=by
 show R.bind (evE c a ρ κ) _=_
 rw [ha];rfl
theorem ev_ixE (ha:bw a ρ κ (evE c a ρ κ)=.ok (u,κ1))(hb:evE c b ρ κ1=.ok (w,κ2))(ho:ixV κ2 u w=some z):evE c (.ix a b) ρ κ=.ok (z,κ2):=by
 show (bw a ρ κ (evE c a ρ κ)).bind _=_
 rw [ha,R.bind_ok]
 show (evE c b ρ κ1).bind _=_
 rw [hb,R.bind_ok]
 show R.ofO ((ixV κ2 u w).map fun v=>(v,κ2))=_
 rw [ho];rfl
theorem Qzp (h:evE c e ρ κ=.ok (v,κ1)):exS c (.set i e) ρ κ=.nx (ρ.set i (some (.val v))) κ1:=by
 show (evE c e ρ κ).toO _=_
 rw [h];rfl
theorem it_seq {l:List Val}(h:bw e ρ κ (evE c e ρ κ)=.ok (v,κ1))(hi:itemsV v=some l):evI c (.seq e) ρ κ=.ok (l,κ1):=by
 show (bw e ρ κ (evE c e ρ κ)).bind _=_
 rw [h,R.bind_ok]
 show R.ofO ((itemsV v).map fun l=>(l,κ1))=_
 rw [hi];rfl
end
end PL
namespace K10
open PySem PL
section
variable {κ:Ks}{j:Nat}{q:List Int}(h:κ[j]? = some (picO q))
include h
end
end K10
end
section
set_option maxHeartbeats 800000
namespace PL
open PySem
theorem compL_mapM {α:Type}{f:Val→Ks→R (Option Val × Ks)}{a:α→Val}{h:α→Val}{P:α→Bool}{κ:Ks}:∀ {l:List α},(∀ v∈l,f (a v) κ=.ok (if P v=true then some (h v) else none,κ))→compL (l.map a) f κ=.ok ((l.filter P).map h,κ)
 | [],_=>rfl
 | v::l,k=>by
  show compL (a v::l.map a) f κ=_
  unfold compL
  rw [k v List.mem_cons_self,R.bind_ok,compL_mapM fun u hu=>k u (List.mem_cons_of_mem _ hu),List.filter_cons]
  cases hp:P v with
  | true=>simp
  | false=>simp
theorem ev_compPM {α:Type}{c:CB}{ee:E}{t:T}{tg:Tg}{it:It}{own:List Nat}{ρ:Rho}{κ:Ks}{l:List α}{a h:α→Val}{P:α→Bool}(hi:evI c it ρ κ=.ok (l.map a,κ))(hl:l.length<LINE)
  (k:∀ v∈l,∃ ρ2,setTg tg (a v) (wipeR ρ own)=some ρ2∧evT c t ρ2 κ=.ok (P v,κ)∧(P v=true→evE c ee ρ2 κ=.ok (h v,κ))) :
  evE c (.comp ee tg it (.yes t) own) ρ κ=.ok (.lst ((l.filter P).map h),κ):=by
 show (evI c it ρ κ).bind _=_
 rw [hi,R.bind_ok]
 dsimp only
 rw [compL_mapM (h:=h) (P:=P) fun v hv => ?_]
 ·simp only [R.bind_ok,List.length_map]
  rw [if_pos (Nat.lt_of_le_of_lt (List.length_filter_le _ _) hl)]
 ·obtain ⟨ρ2,h1,h2,h3⟩:=k v hv
  rw [h1,R.ofO_some,R.bind_ok]
  show noExc ((evT c t ρ2 κ).bind fun b=>if b.1=true then (evE c ee ρ2 b.2).bind fun x=>R.ok (some x.1,x.2) else R.ok (none,b.2))=_
  rw [h2,R.bind_ok]
  cases hp:P v with
  | true=>
   simp only [if_true]
   rw [h3 hp]
   rfl
  | false=>rfl
theorem ev_compM {α:Type}{c:CB}{ee:E}{tg:Tg}{it:It}{own:List Nat}{ρ:Rho}{κ:Ks}{l:List α}{a h:α→Val}(hi:evI c it ρ κ=.ok (l.map a,κ))(hl:l.length<LINE)
  (k:∀ v∈l,∃ ρ2,setTg tg (a v) (wipeR ρ own)=some ρ2∧evE c ee ρ2 κ=.ok (h v,κ)) :
  evE c (.comp ee tg it .no own) ρ κ=.ok (.lst (l.map h),κ):=by
 show (evI c it ρ κ).bind _=_
 rw [hi,R.bind_ok]
 dsimp only
 have e:=compL_mapM (f:=fun v κ'=>noExc ((R.ofO (setTg tg v (wipeR ρ own))).bind fun ρ2=>(evOt c .no ρ2 κ').bind fun b=>if b.1=true then (evE c ee ρ2 b.2).bind fun x=>R.ok (some x.1,x.2) else R.ok (none,b.2))) (a:=a) (h:=h) (P:=fun _=>true) (κ:=κ) (l:=l) fun v hv=>by
  obtain ⟨ρ2,h1,h2⟩:=k v hv
  rw [h1,R.ofO_some,R.bind_ok]
  show noExc ((R.ok (true,κ)).bind fun b=>if b.1=true then (evE c ee ρ2 b.2).bind fun x=>R.ok (some x.1,x.2) else R.ok (none,b.2))=_
  rw [R.bind_ok]
  simp only [if_true]
  rw [h2]
  rfl
 rw [e,List.filter_eq_self.mpr (fun _ _=>rfl)]
 simp only [R.bind_ok,List.length_map]
 rw [if_pos hl]
end PL
end
section
set_option maxHeartbeats 400000
namespace PL
open PySem
def mkS (m:Int):PySem.Str:=toString m
theorem bi_mk {m:Int}(h0:0≤m)(h1:m≤60):biV .str [.int m]=some (.str (mkS m)):=by
 show (if m.natAbs<2^64 then some (Val.str (toString m)) else none)=_
 rw [if_pos (by omega)];rfl
theorem mk_len:∀ n:Fin 61,(mkS (n.val:Int)).length≤2:=by decide +kernel
theorem fin61 {m:Int}(h0:0≤m)(h1:m≤60):∃ n:Fin 61,m=(n.val:Int):=⟨⟨m.toNat,by omega⟩,by show m=((m.toNat:Nat):Int);omega⟩
theorem mk_len' {m:Int}(h0:0≤m)(h1:m≤60):(mkS m).length≤2:=by
 obtain ⟨n,rfl⟩:=fin61 h0 h1
 exact mk_len n
theorem mk_free:∀ n:Fin 61,(TL.tl (mkS (n.val:Int))).all (fun c=>decide (c≠32)&&decide (c<128))=true:=by decide +kernel
theorem tjoin_le (sep:PySem.Str)(ts:List PySem.Str):(Txt.join sep ts).length≤(ts.map (·.length)).sum+ts.length*sep.length:=by
 rw [show Txt.join sep ts=PySem.Str.join sep ts from StrLaws.glued_eq_join _ _]
 exact StrLaws.join_length_le sep ts
theorem strs_of (ts:List PySem.Str):strsOf (ts.map Val.str)=some ts:=by
 induction ts with
 | nil=>rfl
 | cons t ts ih=>
  show (strsOf (ts.map Val.str)).map (t :: ·)=_
  rw [ih];rfl
theorem sm_join {a:PySem.Str}{ts:List PySem.Str}(h:(ts.map (·.length)).sum+ts.length*a.length≤LINE):smV .join a (.lst (ts.map Val.str))=some (.str (Txt.join a ts)):=by
 show (match strsOf (ts.map Val.str) with
  | some ys=>if (ys.map (fun (y:PySem.Str)=>y.length)).sum+ys.length*a.length≤LINE then some (Val.str (Txt.join a ys)) else none
  | none=>none)=_
 rw [strs_of]
 exact if_pos h
theorem sum_le2 {n:Nat}:∀ {l:List PySem.Str},(∀ x∈l,x.length≤n)→(l.map (·.length)).sum≤l.length*n
 | [],_=>by simp
 | x::l,h=>by
  have:=sum_le2 fun y hy=>h y (List.mem_cons_of_mem _ hy)
  have:=h x List.mem_cons_self
  simp only [List.map_cons,List.sum_cons,List.length_cons,Nat.succ_mul]
  omega
theorem Qzm {c:CB}{a b:E}{ρ:Rho}{κ κ1 κ2:Ks}{x y v:Val}{o:Op}(ha:evE c a ρ κ=.ok (x,κ1))(hb:evE c b ρ κ1=.ok (y,κ2))(na:∀ r,bw a ρ κ r=r)(nb:∀ r,bw b ρ κ1 r=r)(ho:opV o x y=some v):evE c (.op o a b) ρ κ=.ok (v,κ2):=by
 show R.bind (bw a ρ κ (evE c a ρ κ)) _=_
 rw [na,ha]
 show R.bind (bw b ρ κ1 (evE c b ρ κ1)) _=_
 rw [nb,hb]
 show R.ofO ((opV o x y).map fun v=>(v,κ2))=_
 rw [ho];rfl
theorem ev_joinL {c:CB}{a:PySem.Str}{b:E}{ρ:Rho}{κ κ1:Ks}{y v:Val}(hb:evE c b ρ κ=.ok (y,κ1))(ho:smV .join a y=some v):evE c (.sm .join (.con (.str a)) b) ρ κ=.ok (v,κ1):=by
 show R.bind (evE c b ρ κ) _=_
 rw [hb]
 show R.ofO ((smV .join a y).map fun v=>(v,κ1))=_
 rw [ho];rfl
theorem ev_splitL {c:CB}{a:E}{b x:PySem.Str}{ρ:Rho}{κ κ1:Ks}{v:Val}(hb:evE c a ρ κ=.ok (.str x,κ1))(ho:smV .split x (.str b)=some v):evE c (.sm .split a (.con (.str b))) ρ κ=.ok (v,κ1):=by
 show R.bind (evE c a ρ κ) _=_
 rw [hb]
 show R.ofO ((smV .split x (.str b)).map fun v=>(v,κ1))=_
 rw [ho];rfl
theorem sm_split {a b:PySem.Str}(h:(b.length == 0)=false)(h2:a.length+2≤LINE):smV .split a (.str b)=some (.lst ((Txt.split a b).map .str)):=by
 show (if (b.length == 0)=false∧a.length+2≤LINE then some (Val.lst ((Txt.split a b).map .str)) else none)=_
 exact if_pos ⟨h,h2⟩
theorem ev_ite_t {c:CB}{t:T}{a b:E}{ρ:Rho}{κ κ1:Ks}{r:R (Val × Ks)}(h:evT c t ρ κ=.ok (true,κ1))(h2:evE c a ρ κ1=r):evE c (.ite t a b) ρ κ=r:=by
 show (evT c t ρ κ).bind _=_
 rw [h]
 exact h2
theorem ev_ite_f {c:CB}{t:T}{a b:E}{ρ:Rho}{κ κ1:Ks}{r:R (Val × Ks)}(h:evT c t ρ κ=.ok (false,κ1))(h2:evE c b ρ κ1=r):evE c (.ite t a b) ρ κ=r:=by
 show (evT c t ρ κ).bind _=_
 rw [h]
 exact h2
def Qz4 (q:List Int):PySem.Str:=Txt.join " " ("marks" :: q.map mkS)
theorem line_fit {q:List Int}(hq:MarksOk q)(h5:q.length≤5):((("marks" : PySem.Str)::q.map mkS).map (·.length)).sum+(("marks" : PySem.Str)::q.map mkS).length*(" " : PySem.Str).length≤100:=by
 have s:=sum_le2 (n:=2) (l:=q.map mkS) fun x hx=>by
  obtain ⟨m,hm,rfl⟩:=List.mem_map.mp hx
  exact mk_len' (hq m hm).1 (hq m hm).2
 rw [List.length_map] at s
 have a:(("marks" : PySem.Str)).length=5:=by decide +kernel
 have b:((" " : PySem.Str)).length=1:=by decide +kernel
 rw [List.map_cons,List.sum_cons,List.length_cons,List.length_map,a,b]
 omega
theorem line_split {q:List Int}(hq:MarksOk q):Txt.split (Qz4 q) " " = ("marks" : PySem.Str)::q.map mkS:=by
 have ey:TL.tl (" " : PySem.Str)=32::[]:=by decide +kernel
 refine TL.split_join ey (by decide +kernel) (by simp) fun p hp => ?_
 rcases List.mem_cons.mp hp with e|hp
 ·subst e;decide +kernel
 ·obtain ⟨m,hm,rfl⟩:=List.mem_map.mp hp
  obtain ⟨n,rfl⟩:=fin61 (hq m hm).1 (hq m hm).2
  intro h
  have:=List.all_eq_true.mp (mk_free n) 32 h
  revert this
  decide
theorem joinL_all {P:Nat→Bool}{S:List Nat}(hS:S.all P=true):∀ {l:List (List Nat)},(∀ x∈l,x.all P=true)→(TL.joinL S l).all P=true
 | [],_=>rfl
 | [x],h=>h x List.mem_cons_self
 | x::y::r,h=>by
  show (x++(S++TL.joinL S (y::r))).all P=true
  rw [List.all_append,List.all_append,h x List.mem_cons_self,hS,joinL_all hS fun z hz=>h z (List.mem_cons_of_mem _ hz)]
  rfl
theorem line_ok {q:List Int}(hq:MarksOk q):PyData.strOk (Qz4 q)=true:=by
 have a:(TL.tl (Qz4 q)).all (fun c=>decide (c<128))=true:=by
  unfold Qz4
  rw [TL.join_eq,TL.tl_join]
  refine joinL_all (by decide +kernel) fun x hx => ?_
  obtain ⟨p,hp,rfl⟩:=List.mem_map.mp hx
  rcases List.mem_cons.mp hp with e|hp
  ·subst e;decide +kernel
  ·obtain ⟨m,hm,rfl⟩:=List.mem_map.mp hp
   obtain ⟨n,rfl⟩:=fin61 (hq m hm).1 (hq m hm).2
   exact List.all_eq_true.mpr fun c hc=>(Bool.and_eq_true_iff.mp (List.all_eq_true.mp (mk_free n) c hc)).2
 show (Qz4 q).cps.all (· < 0x110000)=true
 rw [← Array.all_toList]
 exact List.all_eq_true.mpr fun c hc=>decide_eq_true (Nat.lt_trans (of_decide_eq_true (List.all_eq_true.mp a c hc)) (by decide))
theorem str_eqs {x:PySem.Str}(h:PyData.strOk x=true):cmV .eq (.str x) (.str x)=some true:=by
 rw [cm_eqT (v:=.str x) (w:=.str x) h h]
 congr 1
 exact (eqT_iff (.str x) (.str x) rfl rfl).mpr rfl
theorem str_nes {x:PySem.Str}(h:PyData.strOk x=true):cmV .ne (.str x) (.str x)=some false:=by
 rw [cm_neT (v:=.str x) (w:=.str x) h h,(eqT_iff (.str x) (.str x) rfl rfl).mpr rfl]
 rfl
end PL
namespace K10
open PySem PL
theorem s_pline (d:Nat){q:List Int}(hm:MarksOk q)(h5:q.length≤5)(κ:Ks):(cb tab (d+1)).cf 7 [.v (picV q)] κ=.ok (.str (Qz4 q),κ):=by
 rw [Qqf _ _ _ _ _ rfl rfl]
 have c1:=ev_comp (c:=cb tab d) (ee:=.bi .str (.cons (.var 1) .nil)) (tg:=.nm 1) (it:=.seq (.var 0)) (own:=[1]) (ρ:=[some (.val (picV q)),none]) (κ:=κ) (l:=q.map .int) (g:=fun v=>match v with | .int m=>.str (mkS m)|v=>v) rfl (by rw [List.length_map];exact Nat.lt_of_le_of_lt h5 (by decide)) fun v hv=>by
  obtain ⟨m,hm',rfl⟩:=List.mem_map.mp hv
  refine ⟨[some (.val (picV q)),some (.val (.int m))],rfl,?_⟩
  exact ev_bi1 rfl (bi_mk (hm m hm').1 (hm m hm').2)
 have e1:(q.map Val.int).map (fun v=>match v with | .int m=>Val.str (mkS m)|v=>v)=(q.map mkS).map Val.str:=by
  rw [List.map_map,List.map_map];rfl
 rw [e1] at c1
 have ad:opV .add (.lst [.str "marks"]) (.lst ((q.map mkS).map Val.str))=some (.lst ((("marks" : PySem.Str)::q.map mkS).map Val.str)):=op_lst (by simp;omega)
 have jn:=sm_join (a := " ") (ts:=("marks" : PySem.Str)::q.map mkS) (Nat.le_trans (line_fit hm h5) (by decide))
 have e2:evE (cb tab d) (.lst (.cons (.con (.str "marks")) .nil)) [some (.val (picV q)),none] κ=.ok (.lst [.str "marks"],κ):=rfl
 exact congrArg (fun o=>(O.then o _).fin) (Qz8 (ev_joinL (Qzm e2 c1 (fun _=>rfl) (fun _=>rfl) ad) jn))
end K10
end
section
set_option maxHeartbeats 800000
namespace PL
open PySem
theorem dats_count:∀ (l:List Val) (ds:List PyData) (v:Val) (d:PyData),toDatas l=some ds→Qzd v=some d→ds.countP (fun y=>PyData.eqv y d)=l.countP fun y=>eqT y v
 | [],ds,v,d,h,_=>by cases h;rfl
 | x::l,ds,v,d,h,hv=>by
  unfold toDatas at h
  split at h
  ·rename_i e es h1 h2
   cases h
   rw [List.countP_cons,List.countP_cons,dats_count l es v d h2 hv,eqv_T x v e d h1 hv]
  ·cases h
theorem cnt_ok {l:List Val}{v:Val}(hl:datBs 9 l=true)(hv:datB 9 v=true):cntV (.lst l) v=some (.int (l.countP fun y=>eqT y v)):=by
 obtain ⟨ds,h1,h2,_⟩:=dats_to l 9 hl
 obtain ⟨d,h3,h4,h5⟩:=dat_to v 9 hv
 show (match toDatas l,Qzd v with
  | some ds,some d=>if PyData.plainAll ds=true∧d.plain=true∧d.depth<60 then some (Val.int (ds.countP fun y=>PyData.eqv y d)) else none
  | _,_=>none)=_
 rw [h1,h3]
 dsimp only
 rw [if_pos ⟨PyData.plainAll_of_canLay0 _ h2,PyData.plain_of_canLay0 _ h4,by omega⟩,dats_count l ds v d h1 h3]
theorem ones_dat11 {α:Type}{n:Nat}(l:List α):datBs n (l.map fun _=>Val.int 1)=true:=Qx6 fun v hv=>by
 obtain ⟨m,_,rfl⟩:=List.mem_map.mp hv
 cases n <;> rfl
theorem isE_map11 {α β:Type}(l:List α)(f:α→β):(l.map f).isEmpty=l.isEmpty:=by cases l <;> rfl
theorem evs_nil {c:CB}{ρ:Rho}{κ:Ks}:evEs c .nil ρ κ=.ok ([],κ):=rfl
theorem Qz7 {c:CB}{e:E}{es:Es}{ρ:Rho}{κ κ1 κ2:Ks}{v:Val}{vs:List Val}(h:evE c e ρ κ=.ok (v,κ1))(h2:evEs c es ρ κ1=.ok (vs,κ2)):evEs c (.cons e es) ρ κ=.ok (v::vs,κ2):=by
 show R.bind (evE c e ρ κ) _=_
 rw [h,R.bind_ok]
 show R.bind (evEs c es ρ κ1) _=_
 rw [h2]
 rfl
theorem asg_nx {c:CB}{tg:Tg}{e:E}{ρ ρ':Rho}{κ κ1:Ks}{v:Val}(h:evE c e ρ κ=.ok (v,κ1))(h2:setTg tg v ρ=some ρ'):exS c (.asg tg e) ρ κ=.nx ρ' κ1:=by
 show (evE c e ρ κ).toO _=_
 rw [h,R.toO_ok]
 dsimp only
 rw [h2]
theorem evs_tup {c:CB}{es:Es}{ρ:Rho}{κ κ1:Ks}{vs:List Val}(h:evEs c es ρ κ=.ok (vs,κ1))(hl:vs.length≤1000):evE c (.tup es) ρ κ=.ok (.tup vs,κ1):=by
 show R.bind (evEs c es ρ κ) _=_
 rw [h,R.bind_ok]
 exact if_pos (Nat.le_trans hl (by decide))
theorem evs_lst {c:CB}{es:Es}{ρ:Rho}{κ κ1:Ks}{vs:List Val}(h:evEs c es ρ κ=.ok (vs,κ1))(hl:vs.length≤1000):evE c (.lst es) ρ κ=.ok (.lst vs,κ1):=by
 show R.bind (evEs c es ρ κ) _=_
 rw [h,R.bind_ok]
 exact if_pos (Nat.le_trans hl (by decide))
theorem app_ok {c:CB}{i:Nat}{e:E}{ρ:Rho}{κ:Ks}{l:List Val}{v:Val}(ho:rdO ρ i=some l)(he:evE c e ρ κ=.ok (v,κ))(hl:l.length<LINE):exS c (.append i e) ρ κ=.nx (ρ.set i (some (.own (l++[v])))) κ:=by
 simp only [exS,ho,he,R.toO_ok,hl,if_true]
end PL
namespace K10
open PySem PL
theorem tw_leaf (d:Nat){v:Val}{n:Nat}(h:datB n v=true)(hl:∀ l,v ≠ .tup l)(hl2:∀ l,v ≠ .lst l):Twin (d+2) v:=fun κ=>by
 rw [Qqf _ _ _ _ _ rfl rfl]
 have key:∀ k:Int,k≠2→k≠3→(cb tab (d+1)).cf 27 [.v v] κ=.ok (.int k,κ)→cmV .eq v v=some true→(exSs (cb tab (d+1)) ir__law_twins [some (.val v),some (.val v),none,none] κ).fin=.ok (.bl true,κ):=fun k n2 n3 hk he=>by
  simp only [ir__law_twins,exSs,exS,evE,evT,evEs,evA,evBs,evO,evOt,evI,bw,rdV,rdB,R.bind_ok,R.bind_exc,R.bind_bad,R.ofO_some,R.ofO_none,R.toO_ok,R.toO_exc,R.toO_bad,O.then_nx,O.then_ret,O.then_exc,O.then_bad,O.fin_nx,O.fin_ret,O.fin_exc,O.fin_bad,Option.map_some,Option.map_none,List.map_cons,List.map_nil,Ar.slot,List.cons_append,List.nil_append,List.length_cons,List.length_nil,List.getElem?_cons_zero,List.getElem?_cons_succ,List.set_cons_zero,List.set_cons_succ,Qzc,Qqb,Qq9,Qqq,Qq6,Qq8,Qq7,Qqv,Qqw,Qq2,Qq3,Qq4,Qq5,Qqr,Qz0,Qz1,Qz2,Qqt,Qqs,reduceCtorEq,decide_true,decide_false,Bool.or_true,Bool.or_false,Bool.true_or,Bool.false_or,blV,ntV,ngV,Qzk,op_add,op_sub,Qqk,Qqm,Qqn,Qqp,Qqj,Qqz,Qqh,hk,in23,le2,if_true,if_false,Bool.false_eq_true,Bool.not_true,decide_eq_false n2,decide_eq_false n3,he]
 cases v with
 | non=>exact key 5 (by decide) (by decide) (s_kind d _ κ 5 rfl (by decide)) (by decide +kernel)
 | bl b=>exact key 0 (by decide) (by decide) (s_kind d _ κ 0 rfl (by decide)) (cm_eqb b)
 | int z=>exact key 1 (by decide) (by decide) (s_kind d _ κ 1 rfl (by decide)) (by rw [Qqj];simp)
 | str x=>exact key 4 (by decide) (by decide) (s_kind d _ κ 4 rfl (by decide)) (str_eqs (by cases n <;> exact h))
 | tup l=>exact absurd rfl (hl l)
 | lst l=>exact absurd rfl (hl2 l)
 | fn _=>cases n <;> cases h
 | cell _=>cases n <;> cases h
 | scr _=>cases n <;> cases h
 | err _ _=>cases n <;> cases h
theorem tw_dat:∀ (n:Nat) (d:Nat) (v:Val),datB n v=true→Twin (d+n+2) v:=fun n=>by
 induction n with
 | zero=>intro d v h;exact tw_leaf d h (fun l e=>by subst e;cases h) (fun l e=>by subst e;cases h)
 | succ n ih=>
  intro d v h
  by_cases h1:∃ l,v=.tup l
  ·obtain ⟨l,rfl⟩:=h1
   exact tw_tup (d+n+1) fun u hu=>ih d u (datBs_mem h u hu)
  by_cases h2:∃ l,v=.lst l
  ·obtain ⟨l,rfl⟩:=h2
   exact tw_lst (d+n+1) fun u hu=>ih d u (datBs_mem h u hu)
  exact tw_leaf (d+n+1) h (fun l e=>h1 ⟨l,e⟩) (fun l e=>h2 ⟨l,e⟩)
end K10
end
section
set_option maxHeartbeats 800000
namespace PL
open PySem
theorem pre1 (s c:Nat)(r:List Nat):TL.pre [s] (c::r)=decide (c=s):=by
 by_cases h:c=s
 ·subst h
  rw [decide_eq_true rfl]
  exact TL.pre_self [c] r
 ·rw [decide_eq_false h]
  exact TL.pre_of_head [] r h
theorem spl1_cons (s c:Nat)(acc r:List Nat):TL.spl [s] 0 acc (c::r)=if c=s then acc::TL.spl [s] 0 [] r else TL.spl [s] 0 (acc++[c]) r:=by
 by_cases h:c=s
 ·rw [if_pos h,TL.spl_hit (by rw [pre1,decide_eq_true h])]
  rfl
 ·rw [if_neg h,TL.spl_miss (by rw [pre1,decide_eq_false h])]
theorem spl1_ne (s:Nat):∀ (L acc:List Nat),TL.spl [s] 0 acc L≠[]
 | [],acc=>by rw [TL.spl_nil];simp
 | c::r,acc=>by
  rw [spl1_cons]
  split
  ·simp
  ·exact spl1_ne s r _
theorem joinL_cons {S p:List Nat}{l:List (List Nat)}(h:l≠[]):TL.joinL S (p::l)=p++(S++TL.joinL S l):=by
 cases l with
 | nil=>exact absurd rfl h
 | cons q r=>rfl
theorem spl1_join (s:Nat):∀ (L acc:List Nat),TL.joinL [s] (TL.spl [s] 0 acc L)=acc++L
 | [],acc=>by rw [TL.spl_nil,List.append_nil];rfl
 | c::r,acc=>by
  rw [spl1_cons]
  split
  ·rename_i h
   subst h
   rw [joinL_cons (spl1_ne _ _ _),spl1_join c r []]
   rfl
  ·rw [spl1_join s r (acc++[c]),List.append_assoc]
   rfl
theorem spl1_free (s:Nat):∀ (L acc:List Nat),s ∉ acc→∀ p∈TL.spl [s] 0 acc L,s ∉ p
 | [],acc,h,p,hp=>by rw [TL.spl_nil] at hp;rw [List.mem_singleton.mp hp];exact h
 | c::r,acc,h,p,hp=>by
  rw [spl1_cons] at hp
  split at hp
  ·rcases List.mem_cons.mp hp with e|hp
   ·rw [e];exact h
   ·exact spl1_free s r [] (by simp) p hp
  ·rename_i hc
   exact spl1_free s r (acc++[c]) (by
    intro hm
    rcases List.mem_append.mp hm with hm|hm
    ·exact h hm
    ·exact hc (List.mem_singleton.mp hm).symm) p hp
theorem spl1_len (s:Nat):∀ (L acc:List Nat),(TL.spl [s] 0 acc L).length≤L.length+1
 | [],acc=>by rw [TL.spl_nil];simp
 | c::r,acc=>by
  rw [spl1_cons]
  split
  ·have:=spl1_len s r []
   simp only [List.length_cons];omega
  ·have:=spl1_len s r (acc++[c])
   simp only [List.length_cons];omega
theorem spl1_sub (s:Nat):∀ (L acc:List Nat),∀ p∈TL.spl [s] 0 acc L,p.length≤acc.length+L.length∧∀ c∈p,c∈acc∨c∈L
 | [],acc,p,hp=>by
  rw [TL.spl_nil] at hp;rw [List.mem_singleton.mp hp]
  exact ⟨by simp,fun c h=>.inl h⟩
 | c::r,acc,p,hp=>by
  rw [spl1_cons] at hp
  split at hp
  ·rcases List.mem_cons.mp hp with e|hp
   ·rw [e]
    exact ⟨by simp,fun c h=>.inl h⟩
   ·obtain ⟨h1,h2⟩:=spl1_sub s r [] p hp
    refine ⟨by simp at h1 ⊢;omega,fun d hd => ?_⟩
    rcases h2 d hd with h|h
    ·cases h
    ·exact .inr (List.mem_cons_of_mem _ h)
  ·obtain ⟨h1,h2⟩:=spl1_sub s r (acc++[c]) p hp
   refine ⟨by simp at h1 ⊢;omega,fun d hd => ?_⟩
   rcases h2 d hd with h|h
   ·rcases List.mem_append.mp h with h|h
    ·exact .inl h
    ·rw [List.mem_singleton.mp h];exact .inr List.mem_cons_self
   ·exact .inr (List.mem_cons_of_mem _ h)
structure Plain (n:Nat)(x:PySem.Str):Prop where
 len:x.length≤n
 low:∀ c∈TL.tl x,c<128
theorem Plain.ok {n:Nat}{x:PySem.Str}(h:Plain n x):PyData.strOk x=true:=by
 show x.cps.all (· < 0x110000)=true
 rw [← Array.all_toList]
 exact List.all_eq_true.mpr fun c hc=>decide_eq_true (Nat.lt_trans (h.low c hc) (by decide))
theorem Plain.mono {n m:Nat}{x:PySem.Str}(h:Plain n x)(k:n≤m):Plain m x:=⟨Nat.le_trans h.len k,h.low⟩
structure SpOk (y:PySem.Str)(x:PySem.Str)(l:List PySem.Str):Prop where
 join:Txt.join y l=x
 ne:l≠[]
 free:∀ p∈l,∀ s,TL.tl y=[s]→s ∉ TL.tl p
 len:l.length≤x.length+1
 sub:∀ p∈l,p.length≤x.length∧∀ c∈TL.tl p,c∈TL.tl x
theorem split_ok {x y:PySem.Str}{s:Nat}(ey:TL.tl y=[s])(hs:s<256):SpOk y x (Txt.split x y):=by
 have hk:y.cps.all (· < 256)=true:=by
  rw [← Array.all_toList]
  show (TL.tl y).all _=true
  rw [ey]
  simp [hs]
 have e:=TL.split_spl x y (by rw [ey];simp) (TL.kind_ok hk)
 rw [ey] at e
 have mem:∀ p∈Txt.split x y,TL.tl p∈TL.spl [s] 0 [] (TL.tl x):=fun p hp=>by rw [← e];exact List.mem_map.mpr ⟨p,hp,rfl⟩
 refine ⟨?_,fun h => ?_,fun p hp s' es => ?_,?_,fun p hp => ?_⟩
 ·refine TL.ext_tl ?_
  rw [TL.join_eq,TL.tl_join,e,ey,spl1_join,List.nil_append]
 ·rw [h] at e
  exact spl1_ne s _ _ e.symm
 ·rw [ey] at es
  cases es
  exact spl1_free s _ [] (by simp) _ (mem p hp)
 ·have:=spl1_len s (TL.tl x) []
  rw [← e,List.length_map,← TL.len_tl] at this
  exact this
 ·obtain ⟨h1,h2⟩:=spl1_sub s _ [] _ (mem p hp)
  refine ⟨by rw [TL.len_tl p,TL.len_tl x];simpa using h1,fun c hc => ?_⟩
  rcases h2 c hc with h|h
  ·cases h
  ·exact h
theorem SpOk.plain {n:Nat}{x y:PySem.Str}{l:List PySem.Str}(h:SpOk y x l)(p:Plain n x):∀ w∈l,Plain n w:=fun w hw=>⟨Nat.le_trans (h.sub w hw).1 p.len,fun c hc=>p.low c ((h.sub w hw).2 c hc)⟩
theorem tl_sp:TL.tl (" " : PySem.Str)=[32]:=by decide +kernel
theorem tl_nl:TL.tl ("\n" : PySem.Str)=[10]:=by decide +kernel
theorem tl_st:TL.tl ("*" : PySem.Str)=[42]:=by decide +kernel
theorem tl_da:TL.tl ("-" : PySem.Str)=[45]:=by decide +kernel
theorem sm_splitP {n:Nat}{a b:PySem.Str}{s:Nat}(ey:TL.tl b=[s])(p:Plain n a)(hn:n≤100000):smV .split a (.str b)=some (.lst ((Txt.split a b).map .str)):=by
 refine sm_split ?_ (Nat.le_trans (Nat.add_le_add_right p.len 2) (Nat.le_trans (Nat.add_le_add_right hn 2) (by decide)))
 rw [TL.len_tl,ey]
 rfl
theorem par1 (s:Nat):∀ (L acc:List Nat),(TL.par [s] acc L=none∧s ∉ L)∨∃ a b,TL.par [s] acc L=some (a,b)∧acc++L=a++s::b∧(s ∉ acc→s ∉ a)
 | [],acc=>.inl ⟨rfl,by simp⟩
 | c::r,acc=>by
  by_cases h:c=s
  ·subst h
   exact .inr ⟨acc,r,TL.par_hit (by rw [pre1,decide_eq_true rfl]),rfl,fun h=>h⟩
  ·rw [TL.par_miss (by rw [pre1,decide_eq_false h])]
   rcases par1 s r (acc++[c]) with ⟨h1,h2⟩|⟨a,b,h1,h2,h3⟩
   ·exact .inl ⟨h1,by simp only [List.mem_cons,not_or];exact ⟨fun e=>h e.symm,h2⟩⟩
   ·refine .inr ⟨a,b,h1,by rw [← h2];simp,fun hs=>h3 ?_⟩
    intro hm
    rcases List.mem_append.mp hm with hm|hm
    ·exact hs hm
    ·exact h (List.mem_singleton.mp hm).symm
theorem part_plain {n:Nat}{x y:PySem.Str}{s:Nat}(ey:TL.tl y=[s])(p:Plain n x):Plain n (Txt.partition x y).1∧Plain n (Txt.partition x y).2.2:=by
 have e:=TL.partition_par x y (by rw [ey];simp)
 rw [ey] at e
 rcases par1 s (TL.tl x) [] with ⟨h1,_⟩|⟨a,b,h1,h2,_⟩
 ·rw [h1] at e
  rw [e]
  exact ⟨p,⟨by show 0≤n;omega,fun c hc=>by cases hc⟩⟩
 ·rw [h1] at e
  rw [e]
  have len:a.length+b.length+1=x.length:=by
   have z:=congrArg List.length h2
   rw [List.nil_append,List.length_append,List.length_cons] at z
   rw [TL.len_tl x]
   omega
  have mem:∀ c,c∈a∨c∈b→c<128:=fun c hc=>p.low c (by
   have:c∈[]++TL.tl x:=by
    rw [h2]
    rcases hc with h|h
    ·exact List.mem_append_left _ h
    ·exact List.mem_append_right _ (List.mem_cons_of_mem _ h)
   simpa using this)
  refine ⟨⟨?_,fun c hc=>mem c (.inl hc)⟩,⟨?_,fun c hc=>mem c (.inr hc)⟩⟩
  ·have:=p.len;rw [TL.len_tl];show a.length≤n;omega
  ·have:=p.len;rw [TL.len_tl];show b.length≤n;omega
theorem sm_partP {n:Nat}{a b:PySem.Str}{s:Nat}(ey:TL.tl b=[s])(p:Plain n a)(hn:n≤100000):smV .partition a (.str b)=some (.tup [.str (Txt.partition a b).1,.str (Txt.partition a b).2.1,.str (Txt.partition a b).2.2]):=by
 show (if (b.length == 0)=false∧a.length≤LINE then some (Val.tup [.str (Txt.partition a b).1,.str (Txt.partition a b).2.1,.str (Txt.partition a b).2.2]) else none)=_
 refine if_pos ⟨?_,Nat.le_trans p.len (Nat.le_trans hn (by decide))⟩
 rw [TL.len_tl,ey]
 rfl
def nums (w:PySem.Str):List Int:=((List.range 61).map fun i=>((i:Nat):Int)).filter fun n=>decide (mkS n=w)
def numO (w:PySem.Str):Option Int:=(nums w).head?
theorem numO_mk':∀ n:Fin 61,numO (mkS (n.val:Int))=some (n.val:Int):=by decide +kernel
theorem numO_mk {m:Int}(h0:0≤m)(h1:m≤60):numO (mkS m)=some m:=by
 obtain ⟨n,rfl⟩:=fin61 h0 h1
 exact numO_mk' n
theorem numO_some {w:PySem.Str}{m:Int}(h:numO w=some m):0≤m∧m≤60∧mkS m=w:=by
 have hm:m∈nums w:=by
  unfold numO at h
  cases e:nums w with
  | nil=>rw [e] at h;cases h
  | cons a l=>rw [e] at h;cases h;exact List.mem_cons_self
 obtain ⟨h1,h2⟩:=List.mem_filter.mp hm
 obtain ⟨i,hi,rfl⟩:=List.mem_map.mp h1
 have:=List.mem_range.mp hi
 exact ⟨by omega,by omega,of_decide_eq_true h2⟩
theorem str_eqd {x y:PySem.Str}(hx:PyData.strOk x=true)(hy:PyData.strOk y=true):cmV .eq (.str x) (.str y)=some (decide (x=y)):=by
 rw [cm_eqT (v:=.str x) (w:=.str y) hx hy]
 exact congrArg some (by rw [Bool.eq_iff_iff,eqT_iff (.str x) (.str y) rfl rfl,decide_eq_true_iff,Val.str.injEq])
theorem str_ned {x y:PySem.Str}(hx:PyData.strOk x=true)(hy:PyData.strOk y=true):cmV .ne (.str x) (.str y)=some (!decide (x=y)):=by
 show (eqD (.str x) (.str y)).map (!·)=_
 rw [show eqD (.str x) (.str y)=some (decide (x=y)) from str_eqd hx hy];rfl
theorem mk_plain {m:Int}(h0:0≤m)(h1:m≤60):Plain 2 (mkS m):=by
 obtain ⟨n,rfl⟩:=fin61 h0 h1
 refine ⟨mk_len n,fun c hc => ?_⟩
 exact of_decide_eq_true (Bool.and_eq_true_iff.mp (List.all_eq_true.mp (mk_free n) c hc)).2
def isNumB (w:PySem.Str):Val→Bool
 | .int k=>decide (mkS k=w)
 | _=>false
theorem nums_rng (w:PySem.Str):(rngL 0 61).filter (isNumB w)=(nums w).map .int:=by
 have e:rngL 0 61=((List.range 61).map fun i=>((i:Nat):Int)).map .int:=by
  unfold rngL
  rw [List.map_map]
  show (List.range 61).map _=_
  congr 1
  funext i
  show Val.int (0+(i:Nat))=Val.int (i:Nat)
  rw [Int.zero_add]
 rw [e,List.filter_map]
 rfl
theorem inD_T {l:List Val}{v:Val}(hl:datBs 60 l=true)(hv:datB 60 v=true):cmV .inD v (.lst l)=some (l.any fun z=>eqT z v):=by
 obtain ⟨ds,h1,h2,h3⟩:=dats_to l 60 hl
 obtain ⟨d,h4,h5,h6⟩:=dat_to v 60 hv
 show (match Qzd v,toDatas l with
  | some d,some ds=>if SeqAt.shaped d&&SeqAt.shaped (.list ds) then some (ds.any fun z=>PyData.eqv z d) else none
  | _,_=>none)=_
 rw [h4,h1]
 dsimp only
 have s1:SeqAt.shaped d=true:=by
  show (d.canLay0&&decide (d.depth≤64))=true
  rw [h5,decide_eq_true (by omega)];rfl
 have s2:SeqAt.shaped (.list ds)=true:=by
  show ((PyData.list ds).canLay0&&decide ((PyData.list ds).depth≤64))=true
  have c:(PyData.list ds).canLay0=true:=h2
  have e:(PyData.list ds).depth≤61:=by
   show _+1≤61 <;> first|omega|exact Nat.succ_le_succ h3
  rw [c,decide_eq_true (by omega)];rfl
 rw [s1,s2]
 have key:∀ (l:List Val) (ds:List PyData),toDatas l=some ds→ds.any (fun y=>PyData.eqv y d)=l.any fun y=>eqT y v:=fun l=>by
  induction l with
  | nil=>intro ds h;cases h;rfl
  | cons x l ih=>
   intro ds h
   unfold toDatas at h
   split at h
   ·rename_i e es h1 h2
    cases h
    rw [List.any_cons,List.any_cons,ih es h2,eqv_T x v e d h1 h4]
   ·cases h
 show some _=_
 rw [key l ds h1]
end PL
end
section
set_option maxHeartbeats 800000
namespace PL
open PySem
def nvO (w:PySem.Str):Val:=match numO w with|some m=>.int m|none=>.non
def nlO (w:PySem.Str):Int:=(numO w).getD (-1)
def wA (w:PySem.Str):PySem.Str:=(Txt.partition w "*").1
def wR (w:PySem.Str):PySem.Str:=(Txt.partition w "*").2.2
def wB (w:PySem.Str):PySem.Str:=(Txt.partition (wR w) "-").1
def wC (w:PySem.Str):PySem.Str:=(Txt.partition (wR w) "-").2.2
def triV (w:PySem.Str):Val:=.tup [nvO (wA w),nvO (wB w),nvO (wC w)]
def triL (ws:List PySem.Str):List Val:=(ws.map fun w=>[nvO (wA w),nvO (wB w),nvO (wC w)]).flatten
def sumV (ws:List PySem.Str):Val:=if ((triL ws).any fun z=>eqT z .non)=true then .non else .tup (ws.map triV)
theorem flats_tri:∀ ws:List PySem.Str,flats (ws.map triV)=some (triL ws)
 | []=>rfl
 | w::ws=>by
  show (flats (ws.map triV)).map _=_
  rw [flats_tri ws]
  rfl
theorem triL_len (ws:List PySem.Str):(triL ws).length=3*ws.length:=by
 induction ws with
 | nil=>rfl
 | cons w ws ih=>
  show (_++triL ws).length=_
  rw [List.length_append,ih]
  simp only [List.length_cons,List.length_nil]
  omega
theorem nvO_dat (n:Nat)(w:PySem.Str):datB n (nvO w)=true:=by
 unfold nvO
 split <;> cases n <;> rfl
theorem triL_dat (ws:List PySem.Str):datBs 60 (triL ws)=true:=Qx6 fun v hv=>by
 obtain ⟨l,hl,hv⟩:=List.mem_flatten.mp hv
 obtain ⟨w,_,rfl⟩:=List.mem_map.mp hl
 simp only [List.mem_cons,List.mem_nil_iff,or_false] at hv
 rcases hv with e|e|e <;> subst e <;> exact nvO_dat _ _
theorem sumV_dat (ws:List PySem.Str):datB 50 (sumV ws)=true:=by
 unfold sumV
 split
 ·rfl
 ·refine Qx6 fun v hv => ?_
  obtain ⟨w,_,rfl⟩:=List.mem_map.mp hv
  show (datB 48 _&&(datB 48 _&&(datB 48 _&&true)))=true
  rw [nvO_dat,nvO_dat,nvO_dat];rfl
theorem fmt_mk {m:Int}(h0:0≤m)(h1:m≤60):fmtV (.int m)=some (.str (mkS m)):=by
 show (if m.natAbs<2^64 then some (Val.str (toString m)) else none)=_
 rw [if_pos (by omega)];rfl
def wordP (x:Part):PySem.Str:=mkS x.1 ++ "*" ++ mkS (x.2.1:Int) ++ "-" ++ mkS (x.2.2:Int)
def Part60 (x:Part):Prop:=0≤x.1∧x.1≤60∧x.2.1≤60∧x.2.2≤60
theorem len_app (x y:PySem.Str):(x++y).length=x.length+y.length:=PySem.Str.length_append x y
theorem Qx4 {n m:Nat}{x y:PySem.Str}(hx:Plain n x)(hy:Plain m y):Plain (n+m) (x++y):=⟨by rw [len_app];have:=hx.len;have:=hy.len;omega,fun c hc=>by
 rw [TL.tl_append] at hc
 rcases List.mem_append.mp hc with h|h
 ·exact hx.low c h
 ·exact hy.low c h⟩
theorem plain_st:Plain 1 ("*" : PySem.Str):=⟨by decide +kernel,by rw [tl_st];decide⟩
theorem plain_da:Plain 1 ("-" : PySem.Str):=⟨by decide +kernel,by rw [tl_da];decide⟩
theorem wordP_plain {x:Part}(h:Part60 x):Plain 8 (wordP x):=Qx4 (Qx4 (Qx4 (Qx4 (mk_plain h.1 h.2.1) plain_st) (mk_plain (by omega) (by have:=h.2.2.1;omega))) plain_da) (mk_plain (by omega) (by have:=h.2.2.2;omega))
theorem mk_no:∀ n:Fin 61,42 ∉ TL.tl (mkS (n.val:Int))∧45 ∉ TL.tl (mkS (n.val:Int))∧32 ∉ TL.tl (mkS (n.val:Int))∧10 ∉ TL.tl (mkS (n.val:Int)):=by decide +kernel
theorem mk_no' {m:Int}(h0:0≤m)(h1:m≤60):42 ∉ TL.tl (mkS m)∧45 ∉ TL.tl (mkS m)∧32 ∉ TL.tl (mkS m)∧10 ∉ TL.tl (mkS m):=by
 obtain ⟨n,rfl⟩:=fin61 h0 h1
 exact mk_no n
theorem str_assoc (a b c:PySem.Str):a++b++c=a++(b++c):=TL.ext_tl (by rw [TL.tl_append,TL.tl_append,TL.tl_append,TL.tl_append,List.append_assoc])
theorem str_emp (a:PySem.Str):Str.empty++a=a:=TL.ext_tl (by rw [TL.tl_append];rfl)
theorem word_parts {x:Part}(h:Part60 x):wA (wordP x)=mkS x.1∧wB (wordP x)=mkS (x.2.1:Int)∧wC (wordP x)=mkS (x.2.2:Int):=by
 have m1:=mk_no' h.1 h.2.1
 have m2:=mk_no' (m:=(x.2.1:Int)) (by omega) (by have:=h.2.2.1;omega)
 have e:wordP x=mkS x.1 ++ "*" ++ (mkS (x.2.1:Int) ++ "-" ++ mkS (x.2.2:Int)):=by
  unfold wordP
  rw [str_assoc,str_assoc,← str_assoc (mkS (x.2.1:Int))]
 have p1:Txt.partition (wordP x) "*" = (mkS x.1,("*" : PySem.Str),mkS (x.2.1:Int) ++ "-" ++ mkS (x.2.2:Int)):=by
  rw [e]
  exact TL.partition_app (s:=42) (S:=[]) tl_st m1.1
 have p2:Txt.partition (mkS (x.2.1:Int) ++ "-" ++ mkS (x.2.2:Int)) "-" = (mkS (x.2.1:Int),("-" : PySem.Str),mkS (x.2.2:Int)):=TL.partition_app (s:=45) (S:=[]) tl_da m2.2.1
 have r:wR (wordP x)=mkS (x.2.1:Int) ++ "-" ++ mkS (x.2.2:Int):=by unfold wR;rw [p1]
 refine ⟨by unfold wA;rw [p1],?_,?_⟩
 ·unfold wB;rw [r,p2]
 ·unfold wC;rw [r,p2]
theorem triV_word {x:Part}(h:Part60 x):triV (wordP x)=Part.v x:=by
 obtain ⟨h1,h2,h3⟩:=word_parts h
 unfold triV nvO
 rw [h1,h2,h3,numO_mk h.1 h.2.1,numO_mk (m:=(x.2.1:Int)) (by omega) (by have:=h.2.2.1;omega),numO_mk (m:=(x.2.2:Int)) (by omega) (by have:=h.2.2.2;omega)]
 rfl
end PL
namespace K10
open PySem PL
theorem sumV_words {l:List Part}(h:∀ x∈l,Part60 x):sumV (l.map wordP)=parV l:=by
 have e:(l.map wordP).map triV=l.map Part.v:=by
  rw [List.map_map]
  exact List.map_congr_left fun x hx=>triV_word (h x hx)
 unfold sumV
 have n:((triL (l.map wordP)).any fun z=>eqT z .non)=false:=by
  rw [List.any_eq_false]
  intro z hz
  obtain ⟨t,ht,hz⟩:=List.mem_flatten.mp hz
  obtain ⟨w,hw,rfl⟩:=List.mem_map.mp ht
  obtain ⟨x,hx,rfl⟩:=List.mem_map.mp hw
  obtain ⟨h1,h2,h3⟩:=word_parts (h x hx)
  have hh:=h x hx
  simp only [List.mem_cons,List.mem_nil_iff,or_false] at hz
  unfold nvO at hz
  rw [h1,h2,h3,numO_mk hh.1 hh.2.1,numO_mk (m:=(x.2.1:Int)) (by omega) (by have:=hh.2.2.1;omega),numO_mk (m:=(x.2.2:Int)) (by omega) (by have:=hh.2.2.2;omega)] at hz
  rcases hz with e|e|e <;> subst e <;> exact Bool.false_ne_true
 rw [n,if_neg Bool.false_ne_true,e]
 rfl
theorem s_win (d:Nat){w:PySem.Str}(hw:PyData.strOk w=true)(κ:Ks):(cb tab (d+1)).cf 10 [.v (.str w)] κ=.ok (nvO w,κ):=by
 rw [Qqf _ _ _ _ _ rfl rfl]
 have c1:=ev_compP (c:=cb tab d) (ee:=.var 2) (t:=.cm .eq (.bi .str (.cons (.var 2) .nil)) (.var 0)) (tg:=.nm 2) (it:=.rng1 (.cons (.con (.int (61))) .nil)) (own:=[2]) (ρ:=[some (.val (.str w)),none,none]) (κ:=κ) (l:=rngL 0 61) (g:=fun v=>v) (P:=isNumB w) rfl (by decide) fun v hv=>by
  obtain ⟨i,hi⟩:=List.mem_iff_getElem?.mp hv
  obtain ⟨ev,hi2⟩:=rngL_at hi
  subst ev
  have hi:i<61:=hi2
  refine ⟨[some (.val (.str w)),none,some (.val (.int (i:Int)))],rfl,?_,fun _=>rfl⟩
  exact t_cm (u:=.str (mkS (i:Int))) (ev_bi1 rfl (bi_mk (by omega) (by omega))) rfl (str_eqd (mk_plain (by omega) (by omega)).ok hw)
 rw [List.map_id',nums_rng] at c1
 have nd:datBs 63 ((nums w).map .int)=true:=Qx6 fun v hv=>by
  obtain ⟨z,_,rfl⟩:=List.mem_map.mp hv;rfl
 have fin:exSs (cb tab d) ir_whole_in [some (.val (.str w)),none,none] κ=.ret (nvO w) κ:=by
  unfold ir_whole_in
  have p1:exS (cb tab d) (.set 1 (.comp (.var 2) (.nm 2) (.rng1 (.cons (.con (.int (61))) .nil)) (.yes (.cm .eq (.bi .str (.cons (.var 2) .nil)) (.var 0))) [2])) [some (.val (.str w)),none,none] κ=.nx [some (.val (.str w)),some (.val (.lst ((nums w).map .int))),none] κ:=Qzp c1
  rw [Qz3 p1]
  have t1:evT (cb tab d) (.cm .ne (.var 1) (.lst .nil)) [some (.val (.str w)),some (.val (.lst ((nums w).map .int))),none] κ=.ok (!((nums w).map Val.int).isEmpty,κ):=t_cm (w:=.lst []) rfl rfl (cm_ne_nil nd)
  refine Qz5 (Qz8 ?_)
  unfold nvO numO
  cases e:nums w with
  | nil=>
   rw [e] at t1
   exact ev_ite_f t1 rfl
  | cons m ms=>
   rw [e] at t1
   exact ev_ite_t t1 (ev_ixE (u:=.lst ((m::ms).map .int)) (w:=.int 0) rfl rfl (ix_lst (by show L2.atI (Val.int m::ms.map Val.int) ((0:Nat):Int)=_;rw [atI_nat (by simp)];rfl)))
 exact congrArg O.fin fin
theorem s_number (d:Nat){w:PySem.Str}(hw:PyData.strOk w=true)(κ:Ks):(cb tab (d+1)).cf 31 [.v (.str w)] κ=.ok (.int (nlO w),κ):=by
 rw [Qqf _ _ _ _ _ rfl rfl]
 have c1:=ev_compP (c:=cb tab d) (ee:=.var 2) (t:=.cm .eq (.bi .str (.cons (.var 2) .nil)) (.var 0)) (tg:=.nm 2) (it:=.rng1 (.cons (.con (.int (61))) .nil)) (own:=[2]) (ρ:=[some (.val (.str w)),none,none]) (κ:=κ) (l:=rngL 0 61) (g:=fun v=>v) (P:=isNumB w) rfl (by decide) fun v hv=>by
  obtain ⟨i,hi⟩:=List.mem_iff_getElem?.mp hv
  obtain ⟨ev,hi2⟩:=rngL_at hi
  subst ev
  have hi:i<61:=hi2
  refine ⟨[some (.val (.str w)),none,some (.val (.int (i:Int)))],rfl,?_,fun _=>rfl⟩
  exact t_cm (u:=.str (mkS (i:Int))) (ev_bi1 rfl (bi_mk (by omega) (by omega))) rfl (str_eqd (mk_plain (by omega) (by omega)).ok hw)
 rw [List.map_id',nums_rng] at c1
 have nd:datBs 63 ((nums w).map .int)=true:=Qx6 fun v hv=>by
  obtain ⟨z,_,rfl⟩:=List.mem_map.mp hv;rfl
 have fin:exSs (cb tab d) ir__law_number [some (.val (.str w)),none,none] κ=.ret (.int (nlO w)) κ:=by
  unfold ir__law_number
  have p1:exS (cb tab d) (.set 1 (.comp (.var 2) (.nm 2) (.rng1 (.cons (.con (.int (61))) .nil)) (.yes (.cm .eq (.bi .str (.cons (.var 2) .nil)) (.var 0))) [2])) [some (.val (.str w)),none,none] κ=.nx [some (.val (.str w)),some (.val (.lst ((nums w).map .int))),none] κ:=Qzp c1
  rw [Qz3 p1]
  have t1:evT (cb tab d) (.cm .ne (.var 1) (.lst .nil)) [some (.val (.str w)),some (.val (.lst ((nums w).map .int))),none] κ=.ok (!((nums w).map Val.int).isEmpty,κ):=t_cm (w:=.lst []) rfl rfl (cm_ne_nil nd)
  refine Qz5 (Qz8 ?_)
  unfold nlO numO
  cases e:nums w with
  | nil=>
   rw [e] at t1
   exact ev_ite_f t1 rfl
  | cons m ms=>
   rw [e] at t1
   exact ev_ite_t t1 (ev_ixE (u:=.lst ((m::ms).map .int)) (w:=.int 0) rfl rfl (ix_lst (by show L2.atI (Val.int m::ms.map Val.int) ((0:Nat):Int)=_;rw [atI_nat (by simp)];rfl)))
 exact congrArg O.fin fin
abbrev rsR (ws:List PySem.Str)(e1 e2 e3 e4 e5 e6 e7 e8:Option PL.Slot):Rho:=[some (.val (.lst (ws.map .str))),e1,e2,e3,e4,e5,e6,e7,e8,none,none]
theorem s_read_sum (d:Nat){ws:List PySem.Str}{n:Nat}(hn:n≤100000)(hl:ws.length≤100000)(hw:∀ w∈ws,Plain n w)(κ:Ks):(cb tab (d+2)).cf 11 [.v (.lst (ws.map .str))] κ=.ok (sumV ws,κ):=by
 rw [Qqf _ _ _ _ _ rfl rfl]
 obtain ⟨ρ',κ',eL,rfl,e2,e3,e4,e5,e6,e7,e8,rfl⟩:=loop_inv (c:=cb tab (d+1)) (tg:=.nm 2) (it:=.seq (.var 0)) (b:=.cons (.asg (.tp (.cons (.nm 3) (.cons (.nm 4) (.cons (.nm 5) .nil)))) (.sm .partition (.var 2) (.con (.str "*"))))
 (.cons (.asg (.tp (.cons (.nm 6) (.cons (.nm 7) (.cons (.nm 8) .nil)))) (.sm .partition (.var 5) (.con (.str "-"))))
 (.cons (.append 1 (.tup (.cons (.call 10 (.cons (.var 3) .nil)) (.cons (.call 10 (.cons (.var 6) .nil)) (.cons (.call 10 (.cons (.var 8) .nil)) .nil)))))
 .nil))) (ρ:=rsR ws (some (.own [])) none none none none none none none) (κ:=κ) (κ1:=κ) (l:=ws.map .str)
  (fun m ρ k=>κ=k∧∃ e2 e3 e4 e5 e6 e7 e8,ρ=rsR ws (some (.own ((ws.take m).map triV))) e2 e3 e4 e5 e6 e7 e8) rfl ⟨rfl,none,none,none,none,none,none,none,rfl⟩ (fun m v ρ k hv ⟨ek,e2,e3,e4,e5,e6,e7,e8,er⟩=>by
   subst ek
   subst er
   rw [List.getElem?_map] at hv
   cases hz:ws[m]? with
   | none=>rw [hz] at hv;cases hv
   | some w=>
    rw [hz] at hv
    cases hv
    have pw:=hw w (List.mem_of_getElem? hz)
    have tk:ws.take (m+1)=ws.take m++[w]:=by rw [List.take_succ,hz];rfl
    have pp:=part_plain tl_st pw
    have pq:=part_plain tl_da pp.2
    have s1:smV .partition w (.str "*")=some (.tup [.str (wA w),.str (Txt.partition w "*").2.1,.str (wR w)]):=sm_partP tl_st pw hn
    have s2:smV .partition (wR w) (.str "-")=some (.tup [.str (wB w),.str (Txt.partition (wR w) "-").2.1,.str (wC w)]):=sm_partP tl_da pp.2 hn
    have w1:=s_win d (κ:=κ) pp.1.ok
    have w2:=s_win d (κ:=κ) pq.1.ok
    have w3:=s_win d (κ:=κ) pq.2.ok
    have x1:evE (cb tab (d+1)) (.sm .partition (.var 2) (.con (.str "*"))) (rsR ws (some (.own ((ws.take m).map triV))) (some (.val (.str w))) e3 e4 e5 e6 e7 e8) κ=.ok (.tup [.str (wA w),.str (Txt.partition w "*").2.1,.str (wR w)],κ):=by
     show R.ofO ((smV .partition w (.str "*")).map fun v=>(v,κ))=_
     rw [s1];rfl
    have x2:evE (cb tab (d+1)) (.sm .partition (.var 5) (.con (.str "-"))) (rsR ws (some (.own ((ws.take m).map triV))) (some (.val (.str w))) (some (.val (.str (wA w)))) (some (.val (.str (Txt.partition w "*").2.1))) (some (.val (.str (wR w)))) e6 e7 e8) κ=.ok (.tup [.str (wB w),.str (Txt.partition (wR w) "-").2.1,.str (wC w)],κ):=by
     show R.ofO ((smV .partition (wR w) (.str "-")).map fun v=>(v,κ))=_
     rw [s2];rfl
    refine ⟨rsR ws (some (.own ((ws.take m).map triV))) (some (.val (.str w))) e3 e4 e5 e6 e7 e8,_,κ,rfl,?_,rfl,some (.val (.str w)),some (.val (.str (wA w))),some (.val (.str (Txt.partition w "*").2.1)),some (.val (.str (wR w))),some (.val (.str (wB w))),some (.val (.str (Txt.partition (wR w) "-").2.1)),some (.val (.str (wC w))),rfl⟩
    have q1:=asg_nx (tg:=.tp (.cons (.nm 3) (.cons (.nm 4) (.cons (.nm 5) .nil)))) (ρ':=rsR ws (some (.own ((ws.take m).map triV))) (some (.val (.str w))) (some (.val (.str (wA w)))) (some (.val (.str (Txt.partition w "*").2.1))) (some (.val (.str (wR w)))) e6 e7 e8) x1 rfl
    have q2:=asg_nx (tg:=.tp (.cons (.nm 6) (.cons (.nm 7) (.cons (.nm 8) .nil)))) (ρ':=rsR ws (some (.own ((ws.take m).map triV))) (some (.val (.str w))) (some (.val (.str (wA w)))) (some (.val (.str (Txt.partition w "*").2.1))) (some (.val (.str (wR w)))) (some (.val (.str (wB w)))) (some (.val (.str (Txt.partition (wR w) "-").2.1))) (some (.val (.str (wC w))))) x2 rfl
    have ap:evE (cb tab (d+1)) (.tup (.cons (.call 10 (.cons (.var 3) .nil)) (.cons (.call 10 (.cons (.var 6) .nil)) (.cons (.call 10 (.cons (.var 8) .nil)) .nil)))) (rsR ws (some (.own ((ws.take m).map triV))) (some (.val (.str w))) (some (.val (.str (wA w)))) (some (.val (.str (Txt.partition w "*").2.1))) (some (.val (.str (wR w)))) (some (.val (.str (wB w)))) (some (.val (.str (Txt.partition (wR w) "-").2.1))) (some (.val (.str (wC w))))) κ=.ok (triV w,κ):=
     evs_tup (Qz7 (Qqd rfl w1) (Qz7 (Qqd rfl w2) (Qz7 (Qqd rfl w3) evs_nil))) (show 3≤1000 by decide)
    rw [Qz3 q1,Qz3 q2,Qz3 (app_ok rfl ap (by rw [List.length_map,List.length_take];exact Nat.lt_of_le_of_lt (show min m ws.length≤100000 by omega) (by decide))),tk,List.map_append]
    rfl)
 rw [List.length_map,List.take_length] at eL
 have fin:exSs (cb tab (d+1)) ir_read_sum (rsR ws none none none none none none none none) κ=.ret (sumV ws) κ:=by
  unfold ir_read_sum
  have p0:exS (cb tab (d+1)) (.own 1 (.lst .nil)) (rsR ws none none none none none none none none) κ=.nx (rsR ws (some (.own [])) none none none none none none none) κ:=rfl
  have dg:exS (cb tab (d+1)) (.dg 1) (rsR ws (some (.own (ws.map triV))) e2 e3 e4 e5 e6 e7 e8) κ=.nx (rsR ws (some (.val (.lst (ws.map triV)))) e2 e3 e4 e5 e6 e7 e8) κ:=rfl
  rw [Qz3 p0,Qz3 eL,Qz3 dg]
  have fl:evE (cb tab (d+1)) (.flat 9 10 (.var 1)) (rsR ws (some (.val (.lst (ws.map triV)))) e2 e3 e4 e5 e6 e7 e8) κ=.ok (.lst (triL ws),κ):=by
   show R.ofO ((flLV (ws.map triV)).map fun v=>(v,κ))=_
   unfold flLV
   rw [flats_tri]
   dsimp only
   rw [if_pos (by rw [triL_len];exact Nat.lt_of_le_of_lt (show 3*ws.length≤300000 by omega) (by decide))]
   rfl
  have t1:evT (cb tab (d+1)) (.cm .inD (.con (.non)) (.flat 9 10 (.var 1))) (rsR ws (some (.val (.lst (ws.map triV)))) e2 e3 e4 e5 e6 e7 e8) κ=.ok ((triL ws).any fun z=>eqT z .non,κ):=t_cm (u:=.non) rfl fl (inD_T (triL_dat ws) rfl)
  refine Qz5 (Qz8 ?_)
  unfold sumV
  cases ha:((triL ws).any fun z=>eqT z .non) with
  | true=>
   rw [ha] at t1
   rw [if_pos rfl]
   exact ev_ite_t t1 rfl
  | false=>
   rw [ha] at t1
   rw [if_neg Bool.false_ne_true]
   exact ev_ite_f t1 (ev_bi1 (u:=.lst (ws.map triV)) rfl rfl)
 exact congrArg O.fin fin
end K10
end
section
set_option maxHeartbeats 800000
namespace PL
open PySem
theorem op_strP {n m:Nat}{x y:PySem.Str}(hx:Plain n x)(hy:Plain m y)(h:n+m≤100000):opV .add (.str x) (.str y)=some (.str (x++y)):=by
 refine op_str (decide_eq_true ?_)
 have:=hx.len
 have:=hy.len
 exact Nat.le_trans (show _≤100000 by omega) (by decide)
theorem evF_cons {c:CB}{e:E}{es:Es}{acc y:PySem.Str}{ρ:Rho}{κ:Ks}(h:evE c e ρ κ=.ok (.str y,κ))(hl:acc.length+y.length≤1000):evF c (.cons e es) acc ρ κ=evF c es (acc++y) ρ κ:=by
 show (evE c e ρ κ).bind _=_
 rw [h,R.bind_ok]
 show (R.ofO (if acc.length+y.length≤LINE then some (acc++y) else none)).bind _=_
 rw [if_pos (Nat.le_trans hl (by decide))]
 rfl
theorem ev_fmtM {c:CB}{e:E}{m:Int}{ρ:Rho}{κ:Ks}(h:evE c e ρ κ=.ok (.int m,κ))(h0:0≤m)(h1:m≤60):evE c (.fmt e) ρ κ=.ok (.str (mkS m),κ):=by
 show (evE c e ρ κ).bind _=_
 rw [h,R.bind_ok]
 show R.ofO ((fmtV (.int m)).map fun v=>(v,κ))=_
 rw [fmt_mk h0 h1]
 rfl
theorem sl_mid {l:List Val}{i j:Nat}(h1:i≤j)(h2:j≤l.length):slV (.lst l) (some (i:Int)) (some (j:Int))=some (.lst ((l.take j).drop i)):=by
 show some (Val.lst ((l.drop (HT.sIx l.length 0 (some (i:Int)))).take (HT.sIx l.length l.length (some (j:Int))-HT.sIx l.length 0 (some (i:Int)))))=_
 have e1:HT.sIx l.length 0 (some (i:Int))=i:=by
  show (if (i:Int)<0 then ((i:Int)+l.length).toNat else min (i:Int).toNat l.length)=i
  rw [if_neg (by omega),Int.toNat_natCast];omega
 have e2:HT.sIx l.length l.length (some (j:Int))=j:=by
  show (if (j:Int)<0 then ((j:Int)+l.length).toNat else min (j:Int).toNat l.length)=j
  rw [if_neg (by omega),Int.toNat_natCast];omega
 rw [e1,e2,List.drop_take]
def wordsC (c:Clm):List PySem.Str:=([c.w]++c.l.map wordP)++[("by" : PySem.Str)]++c.r.map wordP
def lineC (c:Clm):PySem.Str:=Txt.join " " (wordsC c)
abbrev W5:List Int:=[0,1,2,3,4]
theorem PartS.p60 {q:List Int}(hq:q.length≤5){x:Part}(h:PartS q x):Part60 x:=by
 obtain ⟨h1,h2,h3,h4⟩:=h
 exact ⟨by omega,by omega,by omega,by omega⟩
theorem word_plain {w:PySem.Str}(h:WordOk w):Plain 4 w∧32 ∉ TL.tl w∧10 ∉ TL.tl w∧w ≠ "by" := by
 rcases h with e|e|e <;> subst e <;> exact ⟨⟨by decide +kernel,by decide +kernel⟩,by decide +kernel,by decide +kernel,by decide +kernel⟩
theorem by_plain:Plain 2 ("by" : PySem.Str)∧32 ∉ TL.tl ("by" : PySem.Str)∧10 ∉ TL.tl ("by" : PySem.Str)∧42 ∉ TL.tl ("by" : PySem.Str):=⟨⟨by decide +kernel,by decide +kernel⟩,by decide +kernel,by decide +kernel,by decide +kernel⟩
theorem wordP_tl (x:Part):TL.tl (wordP x)=TL.tl (mkS x.1)++(42::(TL.tl (mkS (x.2.1:Int))++(45::TL.tl (mkS (x.2.2:Int))))):=by
 unfold wordP
 rw [TL.tl_append,TL.tl_append,TL.tl_append,TL.tl_append,tl_st,tl_da]
 simp
theorem wordP_no {x:Part}(h:Part60 x):32 ∉ TL.tl (wordP x)∧10 ∉ TL.tl (wordP x)∧wordP x ≠ "by" := by
 have m1:=mk_no' h.1 h.2.1
 have m2:=mk_no' (m:=(x.2.1:Int)) (by omega) (by have:=h.2.2.1;omega)
 have m3:=mk_no' (m:=(x.2.2:Int)) (by omega) (by have:=h.2.2.2;omega)
 refine ⟨?_,?_,fun e => ?_⟩
 ·rw [wordP_tl]
  intro hm
  rcases List.mem_append.mp hm with hm|hm
  ·exact m1.2.2.1 hm
  ·rcases List.mem_cons.mp hm with hm|hm
   ·cases hm
   ·rcases List.mem_append.mp hm with hm|hm
    ·exact m2.2.2.1 hm
    ·rcases List.mem_cons.mp hm with hm|hm
     ·cases hm
     ·exact m3.2.2.1 hm
 ·rw [wordP_tl]
  intro hm
  rcases List.mem_append.mp hm with hm|hm
  ·exact m1.2.2.2 hm
  ·rcases List.mem_cons.mp hm with hm|hm
   ·cases hm
   ·rcases List.mem_append.mp hm with hm|hm
    ·exact m2.2.2.2 hm
    ·rcases List.mem_cons.mp hm with hm|hm
     ·cases hm
     ·exact m3.2.2.2 hm
 ·have:42∈TL.tl (wordP x):=by rw [wordP_tl];simp
  rw [e] at this
  exact by_plain.2.2.2 this
end PL
namespace K10
open PySem PL
theorem ClaimOk.p60 {q:List Int}(hq:q.length≤5){c:Clm}(h:ClaimOk q c):(∀ x∈c.l,Part60 x)∧∀ x∈c.r,Part60 x:=⟨fun x hx=>(h.l.parts x hx).p60 hq,fun x hx=>(h.r.parts x hx).p60 hq⟩
theorem words_split {c:Clm}(hw:WordOk c.w)(hl:∀ x∈c.l,Part60 x)(hr:∀ x∈c.r,Part60 x):Txt.split (lineC c) " " = wordsC c:=by
 refine TL.split_join (s:=32) (S:=[]) tl_sp (by decide +kernel) (by unfold wordsC;simp) fun p hp => ?_
 unfold wordsC at hp
 simp only [List.mem_append,List.mem_singleton,List.mem_map] at hp
 rcases hp with ((e|⟨x,hx,e⟩)|e)|⟨x,hx,e⟩
 ·subst e;exact (word_plain hw).2.1
 ·subst e;exact (wordP_no (hl x hx)).1
 ·subst e;exact by_plain.2.1
 ·subst e;exact (wordP_no (hr x hx)).1
theorem s_sum_words (d:Nat){l:List Part}(h:∀ x∈l,Part60 x)(hl:l.length≤1000)(κ:Ks):(cb tab (d+1)).cf 8 [.v (parV l)] κ=.ok (.lst ((l.map wordP).map .str),κ):=by
 rw [Qqf _ _ _ _ _ rfl rfl]
 have c1:=ev_compM (c:=cb tab d) (ee:=.fstr (.cons (.fmt (.var 1)) (.cons (.con (.str "*")) (.cons (.fmt (.var 2)) (.cons (.con (.str "-")) (.cons (.fmt (.var 3)) .nil)))))) (tg:=.tp (.cons (.nm 1) (.cons (.nm 2) (.cons (.nm 3) .nil)))) (it:=.seq (.var 0)) (own:=[1,2,3]) (ρ:=[some (.val (parV l)),none,none,none]) (κ:=κ) (l:=l) (a:=Part.v) (h:=fun x=>Val.str (wordP x)) rfl (Nat.lt_of_le_of_lt hl (by decide)) fun x hx=>by
  have p:=h x hx
  refine ⟨[some (.val (parV l)),some (.val (.int x.1)),some (.val (.int x.2.1)),some (.val (.int x.2.2))],rfl,?_⟩
  have l1:=(mk_plain p.1 p.2.1).len
  have l2:=(mk_plain (m:=(x.2.1:Int)) (by omega) (by have:=p.2.2.1;omega)).len
  have l3:=(mk_plain (m:=(x.2.2:Int)) (by omega) (by have:=p.2.2.2;omega)).len
  have ls:=plain_st.len
  have ld:=plain_da.len
  have g:evF (cb tab d) (.cons (.fmt (.var 1)) (.cons (.con (.str "*")) (.cons (.fmt (.var 2)) (.cons (.con (.str "-")) (.cons (.fmt (.var 3)) .nil))))) Str.empty [some (.val (parV l)),some (.val (.int x.1)),some (.val (.int x.2.1)),some (.val (.int x.2.2))] κ=.ok (wordP x,κ):=by
   rw [evF_cons (ev_fmtM (m:=x.1) rfl p.1 p.2.1) (by show 0+_≤1000;omega),str_emp]
   rw [evF_cons (y := "*") rfl (by omega)]
   rw [evF_cons (ev_fmtM (m:=(x.2.1:Int)) rfl (by omega) (by have:=p.2.2.1;omega)) (by rw [len_app];omega)]
   rw [evF_cons (y := "-") rfl (by rw [len_app,len_app];omega)]
   rw [evF_cons (ev_fmtM (m:=(x.2.2:Int)) rfl (by omega) (by have:=p.2.2.2;omega)) (by rw [len_app,len_app,len_app];omega)]
   rfl
  show (evF (cb tab d) _ Str.empty _ κ).bind _=_
  rw [g]
  rfl
 have e:l.map (fun x=>Val.str (wordP x))=(l.map wordP).map .str:=by rw [List.map_map];rfl
 rw [e] at c1
 exact congrArg O.fin (Qz5 (Qz8 c1))
theorem line_fit2 {c:Clm}(hw:WordOk c.w)(hl:∀ x∈c.l,Part60 x)(hr:∀ x∈c.r,Part60 x)(l3:c.l.length≤3)(r3:c.r.length≤3):((wordsC c).map (·.length)).sum+(wordsC c).length*(" " : PySem.Str).length≤100:=by
 have s:=sum_le2 (n:=8) (l:=wordsC c) fun x hx=>by
  unfold wordsC at hx
  simp only [List.mem_append,List.mem_singleton,List.mem_map] at hx
  rcases hx with ((e|⟨y,hy,e⟩)|e)|⟨y,hy,e⟩
  ·subst e;exact Nat.le_trans (word_plain hw).1.len (by decide)
  ·subst e;exact (wordP_plain (hl y hy)).len
  ·subst e;exact Nat.le_trans by_plain.1.len (by decide)
  ·subst e;exact (wordP_plain (hr y hy)).len
 have n:(wordsC c).length≤8:=by unfold wordsC;simp;omega
 have b:((" " : PySem.Str)).length=1:=by decide +kernel
 rw [b]
 have:(wordsC c).length*8≤8*8:=Nat.mul_le_mul_right 8 n
 omega
theorem s_claim_line (d:Nat){c:Clm}(hw:WordOk c.w)(hl:∀ x∈c.l,Part60 x)(hr:∀ x∈c.r,Part60 x)(l3:c.l.length≤3)(r3:c.r.length≤3)(κ:Ks):(cb tab (d+2)).cf 9 [.v (Clm.v c)] κ=.ok (.str (lineC c),κ):=by
 rw [Qqf _ _ _ _ _ rfl rfl]
 have s1:=s_sum_words d hl (by omega) κ
 have s2:=s_sum_words d hr (by omega) κ
 have i0:∀ κ:Ks,ixV κ (Clm.v c) (.int 0)=some (.str c.w):=fun κ=>ix_t0 _ _
 have i1:∀ κ:Ks,ixV κ (Clm.v c) (.int 1)=some (parV c.l):=fun κ=>ix_t1 _ _ _
 have i2:∀ κ:Ks,ixV κ (Clm.v c) (.int 2)=some (parV c.r):=fun κ=>ix_t2 _ _ _ _
 have x0:evE (cb tab (d+1)) (.ix (.var 0) (.con (.int (0)))) [some (.val (Clm.v c))] κ=.ok (.str c.w,κ):=ev_ixE (u:=Clm.v c) (w:=.int 0) rfl rfl (i0 κ)
 have x1:evE (cb tab (d+1)) (.ix (.var 0) (.con (.int (1)))) [some (.val (Clm.v c))] κ=.ok (parV c.l,κ):=ev_ixE (u:=Clm.v c) (w:=.int 1) rfl rfl (i1 κ)
 have x2:evE (cb tab (d+1)) (.ix (.var 0) (.con (.int (2)))) [some (.val (Clm.v c))] κ=.ok (parV c.r,κ):=ev_ixE (u:=Clm.v c) (w:=.int 2) rfl rfl (i2 κ)
 have a1:evE (cb tab (d+1)) (.lst (.cons (.ix (.var 0) (.con (.int (0)))) .nil)) [some (.val (Clm.v c))] κ=.ok (.lst [.str c.w],κ):=evs_lst (Qz7 x0 evs_nil) (show 1≤1000 by decide)
 have a2:evE (cb tab (d+1)) (.call 8 (.cons (.ix (.var 0) (.con (.int (1)))) .nil)) [some (.val (Clm.v c))] κ=.ok (.lst ((c.l.map wordP).map .str),κ):=Qqd (Qzj x1 eva_nil) s1
 have a4:evE (cb tab (d+1)) (.call 8 (.cons (.ix (.var 0) (.con (.int (2)))) .nil)) [some (.val (Clm.v c))] κ=.ok (.lst ((c.r.map wordP).map .str),κ):=Qqd (Qzj x2 eva_nil) s2
 have a3:evE (cb tab (d+1)) (.lst (.cons (.con (.str "by")) .nil)) [some (.val (Clm.v c))] κ=.ok (.lst [.str "by"],κ):=rfl
 have b1:=Qzm a1 a2 (fun _=>rfl) (fun _=>rfl) (op_lst (by simp;omega))
 have b2:=Qzm b1 a3 (fun _=>rfl) (fun _=>rfl) (op_lst (by simp;omega))
 have b3:=Qzm b2 a4 (fun _=>rfl) (fun _=>rfl) (op_lst (by simp;omega))
 have e:(([Val.str c.w]++(c.l.map wordP).map .str)++[.str "by"])++(c.r.map wordP).map .str=(wordsC c).map .str:=by
  unfold wordsC
  rw [List.map_append,List.map_append,List.map_append]
  rfl
 rw [e] at b3
 exact congrArg O.fin (Qz5 (Qz8 (ev_joinL b3 (sm_join (Nat.le_trans (line_fit2 hw hl hr l3 r3) (by decide))))))
theorem claimB_iff (v:Val):Qx9 5 v=true↔∃ c,v=Clm.v c∧ClaimOk W5 c:=by
 have sumI:∀ v,sumB 5 v=true→∃ l,v=parV l∧SumOk W5 l:=fun v h=>by
  cases v with
  | tup m=>
   have h:((decide ((1:Int)≤m.length)&&decide ((m.length:Int)≤3))&&m.all (partB 5))=true:=h
   obtain ⟨h12,h3⟩:=Bool.and_eq_true_iff.mp h
   obtain ⟨h1,h2⟩:=Bool.and_eq_true_iff.mp h12
   have h1:=of_decide_eq_true h1
   have h2:=of_decide_eq_true h2
   have key:∀ m:List Val,m.all (partB 5)=true→∃ l:List Part,m=l.map Part.v∧∀ x∈l,PartS W5 x:=fun m=>by
    induction m with
    | nil=>exact fun _=>⟨[],rfl,fun x h=>by cases h⟩
    | cons u m ih=>
     intro hm
     rw [List.all_cons,Bool.and_eq_true_iff] at hm
     obtain ⟨l,rfl,hl⟩:=ih hm.2
     have hu:=hm.1
     have hu3:∃ x y z,u=.tup [x,y,z]:=by
      cases u with
      | tup t=>
       by_cases ht:t.length=3
       ·obtain ⟨x,y,z,rfl⟩:=len3 ht
        exact ⟨x,y,z,rfl⟩
       ·rw [part_len ht] at hu;cases hu
      | _=>cases hu
     obtain ⟨x,y,z,rfl⟩:=hu3
     cases y with
     | int b=>
      have hu:(Qzw x 1 9&&(Qzw (.int b) 0 (5-2)&&Qzw z (b+1) (5-1)))=true:=hu
      obtain ⟨u1,u2⟩:=Bool.and_eq_true_iff.mp hu
      obtain ⟨u2,u3⟩:=Bool.and_eq_true_iff.mp u2
      obtain ⟨a,rfl,a0,a1⟩:=whole_int u1
      obtain ⟨b',eb,b0,b1⟩:=whole_int u2
      cases eb
      obtain ⟨e,rfl,e0,e1⟩:=whole_int u3
      refine ⟨(a,b.toNat,e.toNat)::l,?_,fun x hx => ?_⟩
      ·rw [List.map_cons]
       congr 1
       show Val.tup [.int a,.int b,.int e]=.tup [.int a,.int (b.toNat:Int),.int (e.toNat:Int)]
       rw [Int.toNat_of_nonneg b0,Int.toNat_of_nonneg (by omega)]
      ·rcases List.mem_cons.mp hx with e|hx
       ·subst e
        exact ⟨a0,a1,show b.toNat<e.toNat by omega,show e.toNat<5 by omega⟩
       ·exact hl x hx
     | _=>
      have hu:(Qzw x 1 9&&false)=true:=hu
      rw [Bool.and_false] at hu
      cases hu
   obtain ⟨l,rfl,hl⟩:=key m h3
   rw [List.length_map] at h1 h2
   exact ⟨l,rfl,⟨by omega,by omega,hl⟩⟩
  | _=>cases h
 have sumJ:∀ l,SumOk W5 l→sumB 5 (parV l)=true:=fun l h=>by
  have:=h.l1
  have:=h.l3
  show ((decide ((1:Int)≤(l.map Part.v).length)&&decide (((l.map Part.v).length:Int)≤3))&&(l.map Part.v).all (partB 5))=true
  rw [List.length_map,decide_eq_true (show (1:Int)≤(l.length:Int) by omega),decide_eq_true (show (l.length:Int)≤3 by omega),Bool.true_and]
  refine List.all_eq_true.mpr fun v hv => ?_
  obtain ⟨x,hx,rfl⟩:=List.mem_map.mp hv
  obtain ⟨h1,h2,h3,h4⟩:=h.parts x hx
  have h4:x.2.2<5:=h4
  show (Qzw (.int x.1) 1 9&&(Qzw (.int x.2.1) 0 (5-2)&&Qzw (.int x.2.2) ((x.2.1:Int)+1) (5-1)))=true
  show ((decide (1≤x.1)&&decide (x.1≤9))&&((decide ((0:Int)≤x.2.1)&&decide ((x.2.1:Int)≤5-2))&&(decide ((x.2.1:Int)+1≤x.2.2)&&decide ((x.2.2:Int)≤5-1))))=true
  rw [decide_eq_true h1,decide_eq_true h2,decide_eq_true (show (0:Int)≤x.2.1 by omega),decide_eq_true (show (x.2.1:Int)≤5-2 by omega),decide_eq_true (show (x.2.1:Int)+1≤x.2.2 by omega),decide_eq_true (show (x.2.2:Int)≤5-1 by omega)]
  rfl
 constructor
 ·intro h
  have h3:∃ w x y,v=.tup [w,x,y]:=by
   cases v with
   | tup t=>
    by_cases ht:t.length=3
    ·obtain ⟨x,y,z,rfl⟩:=len3 ht
     exact ⟨x,y,z,rfl⟩
    ·rw [claim_len ht] at h;cases h
   | _=>cases h
  obtain ⟨w,x,y,rfl⟩:=h3
  have h:(wordVB w&&(sumB 5 x&&sumB 5 y))=true:=h
  obtain ⟨h1,h2⟩:=Bool.and_eq_true_iff.mp h
  obtain ⟨h2,h3⟩:=Bool.and_eq_true_iff.mp h2
  obtain ⟨l,rfl,hl⟩:=sumI x h2
  obtain ⟨r,rfl,hr⟩:=sumI y h3
  cases w with
  | str s=>
   have h1:((("less" : PySem.Str) == s)||((("upto" : PySem.Str) == s)||((("same" : PySem.Str) == s)||false)))=true:=h1
   have hw:WordOk s:=by
    simp only [Bool.or_eq_true,beq_iff_eq,Bool.false_eq_true,or_false] at h1
    rcases h1 with e|e|e
    ·exact .inl e.symm
    ·exact .inr (.inl e.symm)
    ·exact .inr (.inr e.symm)
   exact ⟨⟨s,l,r⟩,rfl,⟨hw,hl,hr⟩⟩
  | _=>cases h1
 ·rintro ⟨c,rfl,h⟩
  show (wordVB (.str c.w)&&(sumB 5 (parV c.l)&&sumB 5 (parV c.r)))=true
  rw [sumJ c.l h.l,sumJ c.r h.r]
  have:wordVB (.str c.w)=true:=by
   rcases h.w with e|e|e <;> rw [e] <;> decide +kernel
  rw [this]
  rfl
end K10
end
section
set_option maxHeartbeats 800000
namespace PL
open PySem
theorem split_uniq {α:Type}{x:α}:∀ {A A' B B':List α},x ∉ A→x ∉ A'→A++x::B=A'++x::B'→A=A'∧B=B'
 | [],[],_,_,_,_,e=>by cases e;exact ⟨rfl,rfl⟩
 | [],a::A',_,_,_,h,e=>by
  cases e
  exact absurd List.mem_cons_self h
 | a::A,[],_,_,h,_,e=>by
  cases e
  exact absurd List.mem_cons_self h
 | a::A,b::A',_,_,h,h',e=>by
  rw [List.cons_append,List.cons_append,List.cons.injEq] at e
  obtain ⟨i,j⟩:=split_uniq (fun m=>h (List.mem_cons_of_mem _ m)) (fun m=>h' (List.mem_cons_of_mem _ m)) e.2
  exact ⟨by rw [e.1,i],j⟩
theorem drop_app1 {α:Type}{x:α}{B:List α}:∀ A:List α,(A++x::B).drop (A.length+1)=B
 | []=>rfl
 | _::A=>drop_app1 A
theorem mem_split {α:Type}{x:α}:∀ {l:List α},x∈l→∃ A B,l=A++x::B∧x ∉ A:=fun {l}=>by
 induction l with
 | nil=>exact fun h=>by cases h
 | cons a l ih=>
  intro h
  by_cases e:x=a
  ·subst e
   exact ⟨[],l,rfl,by simp⟩
  ·rcases List.mem_cons.mp h with e'|h
   ·exact absurd e' e
   ·obtain ⟨A,B,rfl,hA⟩:=ih h
    exact ⟨a::A,B,rfl,by simp only [List.mem_cons,not_or];exact ⟨e,hA⟩⟩
theorem at_app {x:PySem.Str}:∀ {A B:List PySem.Str},x ∉ A→(A++x::B).findIdx? (fun y=>y == x)=some A.length:=fun {A B}=>by
 induction A with
 | nil=>
  intro _
  show (x::B).findIdx? _=_
  rw [List.findIdx?_cons,beq_self_eq_true]
  rfl
 | cons a A ih=>
  intro h
  simp only [List.mem_cons,not_or] at h
  show (a::(A++x::B)).findIdx? _=_
  rw [List.findIdx?_cons,ih h.2,show (a == x)=false from beq_false_of_ne (fun e=>h.1 e.symm)]
  rfl
theorem all_flatS (l:List PySem.Str):(l.map Val.str).all Qzh=true:=List.all_eq_true.mpr fun v hv=>by
 obtain ⟨w,_,rfl⟩:=List.mem_map.mp hv;rfl
theorem lidx_app {x:PySem.Str}{A B:List PySem.Str}(h:x ∉ A):lidxV (.lst ((A++x::B).map .str)) (.str x)=some (.int A.length):=by
 show (if Qzh (.str x)&&((A++x::B).map Val.str).all Qzh then (((A++x::B).map Val.str).findIdx? fun y=>eqF y (.str x)).map fun j=>Val.int (j:Nat) else none)=_
 rw [all_flatS]
 show (((A++x::B).map Val.str).findIdx? fun y=>eqF y (.str x)).map _=_
 rw [List.findIdx?_map]
 show ((A++x::B).findIdx? fun y=>y == x).map _=_
 rw [at_app h]
 rfl
theorem any_str (x:PySem.Str)(l:List PySem.Str):((l.map Val.str).any fun y=>eqF y (.str x))=decide (x∈l):=by
 rw [List.any_map]
 show (l.any fun y=>y == x)=_
 rw [Bool.eq_iff_iff,List.any_eq_true,decide_eq_true_iff]
 exact ⟨fun ⟨y,hy,e⟩=>by rw [← beq_iff_eq.mp e];exact hy,fun h=>⟨x,h,beq_self_eq_true x⟩⟩
theorem wordVB_iff (w:PySem.Str):wordVB (.str w)=true↔WordOk w:=by
 constructor
 ·intro h1
  have h1:((("less" : PySem.Str) == w)||((("upto" : PySem.Str) == w)||((("same" : PySem.Str) == w)||false)))=true:=h1
  simp only [Bool.or_eq_true,beq_iff_eq,Bool.false_eq_true,or_false] at h1
  rcases h1 with e|e|e
  ·exact .inl e.symm
  ·exact .inr (.inl e.symm)
  ·exact .inr (.inr e.symm)
 ·intro h
  rcases h with e|e|e <;> rw [e] <;> decide +kernel
theorem part_inj {x y:Part}(h:Part.v x=Part.v y):x=y:=by
 obtain ⟨a,b,c⟩:=x
 obtain ⟨a',b',c'⟩:=y
 have h:Val.tup [.int a,.int (b:Nat),.int (c:Nat)]=.tup [.int a',.int (b':Nat),.int (c':Nat)]:=h
 simp only [Val.tup.injEq,List.cons.injEq,Val.int.injEq,and_true] at h
 obtain ⟨h1,h2,h3⟩:=h
 rw [h1,show b=b' by omega,show c=c' by omega]
theorem word_inj {x y:Part}(hx:Part60 x)(hy:Part60 y)(h:wordP x=wordP y):x=y:=part_inj (by rw [← triV_word hx,← triV_word hy,h])
theorem words_inj:∀ {l m:List Part},(∀ x∈l,Part60 x)→(∀ x∈m,Part60 x)→l.map wordP=m.map wordP→l=m
 | [],[],_,_,_=>rfl
 | [],_::_,_,_,h=>by cases h
 | _::_,[],_,_,h=>by cases h
 | x::l,y::m,hl,hm,h=>by
  rw [List.map_cons,List.map_cons,List.cons.injEq] at h
  rw [word_inj (hl x List.mem_cons_self) (hm y List.mem_cons_self) h.1,words_inj (fun z hz=>hl z (List.mem_cons_of_mem _ hz)) (fun z hz=>hm z (List.mem_cons_of_mem _ hz)) h.2]
theorem by_no {l:List Part}(h:∀ x∈l,Part60 x):("by" : PySem.Str) ∉ l.map wordP:=fun hm=>by
 obtain ⟨x,hx,e⟩:=List.mem_map.mp hm
 exact (wordP_no (h x hx)).2.2 e
theorem wordsC_eq (c:Clm):wordsC c=(c.w::c.l.map wordP)++("by" : PySem.Str)::c.r.map wordP:=by
 unfold wordsC
 simp
end PL
namespace K10
open PySem PL
theorem ClaimOk.head_no {c:Clm}(h:ClaimOk W5 c):("by" : PySem.Str) ∉ c.w::c.l.map wordP:=fun hm=>by
 rcases List.mem_cons.mp hm with e|hm
 ·exact (word_plain h.w).2.2.2 e.symm
 ·exact by_no (ClaimOk.p60 (q:=W5) (by decide) h).1 hm
theorem ClaimOk.split {c:Clm}(h:ClaimOk W5 c):Txt.split (lineC c) " " = (c.w::c.l.map wordP)++("by" : PySem.Str)::c.r.map wordP:=by
 have p:=ClaimOk.p60 (q:=W5) (by decide) h
 rw [words_split h.w p.1 p.2,wordsC_eq]
theorem line_inj {c e:Clm}(h:ClaimOk W5 c)(k:ClaimOk W5 e)(hl:lineC c=lineC e):c=e:=by
 have z:Txt.split (lineC c) " " = Txt.split (lineC e) " " := by rw [hl]
 rw [(ClaimOk.split h),(ClaimOk.split k)] at z
 obtain ⟨z1,z2⟩:=split_uniq (ClaimOk.head_no h) (ClaimOk.head_no k) z
 have p:=ClaimOk.p60 (q:=W5) (by decide) h
 have q:=ClaimOk.p60 (q:=W5) (by decide) k
 rw [List.cons.injEq] at z1
 have l1:=words_inj p.1 q.1 z1.2
 have l2:=words_inj p.2 q.2 z2
 obtain ⟨w,l,r⟩:=c
 obtain ⟨w',l',r'⟩:=e
 have a:w=w':=z1.1
 have b:l=l':=l1
 have d:r=r':=l2
 rw [a,b,d]
theorem joinL_low {s:Nat}(hs:s<128):∀ {l:List (List Nat)},(∀ x∈l,∀ c∈x,c<128)→∀ c∈TL.joinL [s] l,c<128:=fun {l} h=>by
 have:=joinL_all (P:=fun c=>decide (c<128)) (S:=[s]) (by simp [hs]) (l:=l) (fun x hx=>List.all_eq_true.mpr fun c hc=>decide_eq_true (h x hx c hc))
 exact fun c hc=>of_decide_eq_true (List.all_eq_true.mp this c hc)
theorem join_low {y:PySem.Str}{s:Nat}(ey:TL.tl y=[s])(hs:s<128){l:List PySem.Str}(h:∀ x∈l,∀ c∈TL.tl x,c<128):∀ c∈TL.tl (Txt.join y l),c<128:=by
 rw [TL.join_eq,TL.tl_join,ey]
 exact joinL_low hs fun x hx=>by
  obtain ⟨w,hw,rfl⟩:=List.mem_map.mp hx
  exact h w hw
theorem lineC_plain {c:Clm}(ok:ClaimOk W5 c):Plain 100 (lineC c):=by
 have p:=ClaimOk.p60 (q:=W5) (by decide) ok
 refine ⟨Nat.le_trans (tjoin_le _ _) (line_fit2 ok.w p.1 p.2 ok.l.l3 ok.r.l3),join_low tl_sp (by decide) fun x hx => ?_⟩
 unfold wordsC at hx
 simp only [List.mem_append,List.mem_singleton,List.mem_map] at hx
 rcases hx with ((e|⟨y,hy,e⟩)|e)|⟨y,hy,e⟩
 ·subst e;exact (word_plain ok.w).1.low
 ·subst e;exact (wordP_plain (p.1 y hy)).low
 ·subst e;exact by_plain.1.low
 ·subst e;exact (wordP_plain (p.2 y hy)).low
theorem lineC_ok {c:Clm}(ok:ClaimOk W5 c):PyData.strOk (lineC c)=true:=(lineC_plain ok).ok
noncomputable def specC (line:PySem.Str):Val:=open Classical in if h:∃ c,ClaimOk W5 c∧lineC c=line then Clm.v (Classical.choose h) else .non
theorem specC_of {c:Clm}(h:ClaimOk W5 c):specC (lineC c)=Clm.v c:=by
 have k:∃ e,ClaimOk W5 e∧lineC e=lineC c:=⟨c,h,rfl⟩
 unfold specC
 rw [dif_pos k]
 have z:=Classical.choose_spec k
 rw [line_inj z.1 h z.2]
theorem specC_no {line:PySem.Str}(h:¬∃ c,ClaimOk W5 c∧lineC c=line):specC line=.non:=by
 unfold specC
 rw [dif_neg h]
theorem s_read_claim (d:Nat){line:PySem.Str}{n:Nat}(hn:n≤900)(hp:Plain n line)(κ:Ks):(cb tab (d+4)).cf 12 [.v (.str line)] κ=.ok (specC line,κ):=by
 rw [Qqf _ _ _ _ _ rfl rfl]
 have sp:=split_ok (x:=line) tl_sp (by decide)
 have sm:=sm_splitP tl_sp hp (Nat.le_trans hn (by decide))
 have pw:=sp.plain hp
 have lw:=sp.len
 have ln:=hp.len
 have fin:exSs (cb tab (d+3)) ir_read_claim [some (.val (.str line)),none,none,none] κ=.ret (specC line) κ:=by
  unfold ir_read_claim
  have e0:evE (cb tab (d+3)) (.sm .split (.var 0) (.con (.str " "))) [some (.val (.str line)),none,none,none] κ=.ok (.lst ((Txt.split line " ").map .str),κ):=ev_splitL rfl sm
  rw [Qz3 (Qzp e0)]
  have no:(¬∃ c,ClaimOk W5 c∧lineC c=line)∨∃ w A B,WordOk w∧Txt.split line " " = (w::A)++("by" : PySem.Str)::B∧("by" : PySem.Str) ∉ w::A:=by
   by_cases h:∃ c,ClaimOk W5 c∧lineC c=line
   ·obtain ⟨c,h,rfl⟩:=h
    exact .inr ⟨c.w,_,_,h.w,(ClaimOk.split h),(ClaimOk.head_no h)⟩
   ·exact .inl h
  cases ews:Txt.split line " " with
  | nil=>exact absurd ews sp.ne
  | cons w ws=>
   rw [ews] at pw lw no
   have x0:evE (cb tab (d+3)) (.ix (.var 1) (.con (.int (0)))) [some (.val (.str line)),some (.val (.lst ((w::ws).map .str))),none,none] κ=.ok (.str w,κ):=ev_ixE (u:=.lst ((w::ws).map .str)) (w:=.int 0) rfl rfl (ix_lst (by show L2.atI (Val.str w::ws.map Val.str) ((0:Nat):Int)=_;rw [atI_nat (by simp)];rfl))
   have t1:evT (cb tab (d+3)) (.cm .notin (.ix (.var 1) (.con (.int (0)))) (.glob 0 (.tup [.str "less", .str "upto", .str "same"]))) [some (.val (.str line)),some (.val (.lst ((w::ws).map .str))),none,none] κ=.ok (!wordVB (.str w),κ):=t_cm x0 rfl (notin_v rfl rfl)
   have t2:evT (cb tab (d+3)) (.cm .notin (.con (.str "by")) (.var 1)) [some (.val (.str line)),some (.val (.lst ((w::ws).map .str))),none,none] κ=.ok (!decide (("by" : PySem.Str)∈w::ws),κ):=t_cm (u:=.str "by") (w:=.lst ((w::ws).map .str)) rfl rfl (by rw [notin_l rfl (all_flatS _),any_str])
   show exSs (cb tab (d+3)) _ [some (.val (.str line)),some (.val (.lst ((w::ws).map .str))),none,none] κ=_
   by_cases hw:WordOk w
   ·rw [(wordVB_iff w).mpr hw] at t1
    by_cases hb:("by" : PySem.Str)∈w::ws
    ·rw [decide_eq_true hb] at t2
     rw [Qz3 ((ite_no (t_or_f t1 t2)).trans rfl)]
     have hb':("by" : PySem.Str)∈ws:=by
      rcases List.mem_cons.mp hb with e|h
      ·exact absurd e.symm (word_plain hw).2.2.2
      ·exact h
     obtain ⟨A,B,rfl,hA⟩:=mem_split hb'
     have hA':("by" : PySem.Str) ∉ w::A:=fun hm=>by
      rcases List.mem_cons.mp hm with e|h
      ·exact (word_plain hw).2.2.2 e.symm
      ·exact hA h
     have lAB:2+(A.length+B.length)≤901:=by
      simp only [List.length_cons,List.length_append] at lw
      omega
     have li:=lidx_app (B:=B) hA'
     have x2:evE (cb tab (d+3)) (.lidx (.var 1) (.con (.str "by"))) [some (.val (.str line)),some (.val (.lst ((w::(A++("by" : PySem.Str)::B)).map .str))),none,none] κ=.ok (.int ((w::A).length:Nat),κ):=by
      show R.ofO ((lidxV (.lst ((w::(A++("by" : PySem.Str)::B)).map .str)) (.str "by")).map fun v=>(v,κ))=_
      rw [show w::(A++("by" : PySem.Str)::B)=(w::A)++("by" : PySem.Str)::B from rfl,li]
      rfl
     rw [Qz3 (Qzp x2)]
     show exSs (cb tab (d+3)) _ [some (.val (.str line)),some (.val (.lst ((w::(A++("by" : PySem.Str)::B)).map .str))),some (.val (.int ((w::A).length:Nat))),none] κ=_
     have x0:evE (cb tab (d+3)) (.ix (.var 1) (.con (.int (0)))) [some (.val (.str line)),some (.val (.lst ((w::(A++("by" : PySem.Str)::B)).map .str))),some (.val (.int ((w::A).length:Nat))),none] κ=.ok (.str w,κ):=ev_ixE (u:=.lst ((w::(A++("by" : PySem.Str)::B)).map .str)) (w:=.int 0) rfl rfl (ix_lst (by show L2.atI (Val.str w::(A++("by" : PySem.Str)::B).map Val.str) ((0:Nat):Int)=_;rw [atI_nat (by simp)];rfl))
     have x3:evE (cb tab (d+3)) (.sl (.var 1) (.yes (.con (.int (1)))) (.yes (.var 2))) [some (.val (.str line)),some (.val (.lst ((w::(A++("by" : PySem.Str)::B)).map .str))),some (.val (.int ((w::A).length:Nat))),none] κ=.ok (.lst (A.map .str),κ):=ev_slE (u:=.lst ((w::(A++("by" : PySem.Str)::B)).map .str)) rfl (ev_oY (n:=((1:Nat):Int)) rfl) (ev_oY rfl) (by
      rw [sl_mid (by simp) (by simp)]
      simp)
     have x4:evE (cb tab (d+3)) (.sl (.var 1) (.yes (.op .add (.var 2) (.con (.int (1))))) .no) [some (.val (.str line)),some (.val (.lst ((w::(A++("by" : PySem.Str)::B)).map .str))),some (.val (.int ((w::A).length:Nat))),none] κ=.ok (.lst (B.map .str),κ):=ev_slE (u:=.lst ((w::(A++("by" : PySem.Str)::B)).map .str)) rfl (ev_oY (n:=(((w::A).length+1:Nat):Int)) rfl) rfl (by
      rw [sl_froml (by simp)]
      rw [List.map_cons,List.map_append,List.map_cons,List.length_cons,List.drop_succ_cons]
      rw [show A.length+1=(A.map Val.str).length+1 by rw [List.length_map],drop_app1])
     have r1:=s_read_sum (d+1) (ws:=A) (n:=n) (Nat.le_trans hn (by decide)) (Nat.le_trans (show A.length≤901 by omega) (by decide)) (fun v hv=>pw v (by simp [hv])) κ
     have r2:=s_read_sum (d+1) (ws:=B) (n:=n) (Nat.le_trans hn (by decide)) (Nat.le_trans (show B.length≤901 by omega) (by decide)) (fun v hv=>pw v (by simp [hv])) κ
     have x5:evE (cb tab (d+3)) (.tup (.cons (.ix (.var 1) (.con (.int (0)))) (.cons (.call 11 (.cons (.sl (.var 1) (.yes (.con (.int (1)))) (.yes (.var 2))) .nil)) (.cons (.call 11 (.cons (.sl (.var 1) (.yes (.op .add (.var 2) (.con (.int (1))))) .no) .nil)) .nil)))) [some (.val (.str line)),some (.val (.lst ((w::(A++("by" : PySem.Str)::B)).map .str))),some (.val (.int ((w::A).length:Nat))),none] κ=.ok (.tup [.str w,sumV A,sumV B],κ):=
      evs_tup (Qz7 x0 (Qz7 (Qqd (Qzj x3 eva_nil) r1) (Qz7 (Qqd (Qzj x4 eva_nil) r2) evs_nil))) (show 3≤1000 by decide)
     rw [Qz3 (Qzp x5)]
     have dF:datB 51 (.tup [.str w,sumV A,sumV B])=true:=by
      show (PyData.strOk w&&(datB 50 (sumV A)&&(datB 50 (sumV B)&&true)))=true
      rw [(pw w (by simp)).ok,sumV_dat,sumV_dat]
      rfl
     have bc:(cb tab (d+3)).cf 3 [.v (.tup [.int 0,.int 1,.int 2,.int 3,.int 4]),.v (.tup [.str w,sumV A,sumV B])] κ=.ok (.bl (Qx9 5 (.tup [.str w,sumV A,sumV B])),κ):=b_claim d (q:=W5) κ dF
     have t3:evT (cb tab (d+3)) (.val (.call 3 (.cons (.glob 0 (.tup [.int (0),.int (1),.int (2),.int (3),.int (4)])) (.cons (.var 3) .nil)))) [some (.val (.str line)),some (.val (.lst ((w::(A++("by" : PySem.Str)::B)).map .str))),some (.val (.int ((w::A).length:Nat))),some (.val (.tup [.str w,sumV A,sumV B]))] κ=.ok (Qx9 5 (.tup [.str w,sumV A,sumV B]),κ):=t_val (Qqd rfl bc)
     have found:∀ c,ClaimOk W5 c→lineC c=line→Val.tup [.str w,sumV A,sumV B]=Clm.v c:=fun c hc el=>by
      have z:=(ClaimOk.split hc)
      rw [el,ews] at z
      obtain ⟨z1,z2⟩:=split_uniq (A:=w::A) hA' (ClaimOk.head_no hc) z
      rw [List.cons.injEq] at z1
      have p:=ClaimOk.p60 (q:=W5) (by decide) hc
      rw [z1.1,z1.2,z2,sumV_words p.1,sumV_words p.2]
      rfl
     refine Qz5 (Qz8 ?_)
     by_cases hc:Qx9 5 (.tup [.str w,sumV A,sumV B])=true
     ·rw [hc] at t3
      obtain ⟨c,ev,ok⟩:=(claimB_iff _).mp hc
      have p:=ClaimOk.p60 (q:=W5) (by decide) ok
      have cl:=s_claim_line (d+1) ok.w p.1 p.2 ok.l.l3 ok.r.l3 κ
      rw [← ev] at cl
      have t4:evT (cb tab (d+3)) (.cm .eq (.call 9 (.cons (.var 3) .nil)) (.var 0)) [some (.val (.str line)),some (.val (.lst ((w::(A++("by" : PySem.Str)::B)).map .str))),some (.val (.int ((w::A).length:Nat))),some (.val (.tup [.str w,sumV A,sumV B]))] κ=.ok (decide (lineC c=line),κ):=t_cm (u:=.str (lineC c)) (w:=.str line) (Qqd rfl cl) rfl (str_eqd (lineC_ok ok) hp.ok)
      by_cases el:lineC c=line
      ·rw [decide_eq_true el] at t4
       refine ev_ite_t (t_and_t t3 t4) ?_
       rw [← el,specC_of ok,← ev]
       rfl
      ·rw [decide_eq_false el] at t4
       refine ev_ite_f (t_and_t t3 t4) ?_
       rw [specC_no]
       ·rfl
       ·rintro ⟨e,he,ee⟩
        have f:=found e he ee
        have p':=ClaimOk.p60 (q:=W5) (by decide) he
        have cl':=s_claim_line (d+1) he.w p'.1 p'.2 he.l.l3 he.r.l3 κ
        rw [← f,cl] at cl'
        have:lineC c=lineC e:=by
         have:=(R.ok.inj cl')
         have:=(Prod.mk.inj this).1
         exact Val.str.inj this
        exact el (this.trans ee)
     ·rw [Bool.eq_false_iff.mpr hc] at t3
      refine ev_ite_f (t_and_f t3) ?_
      rw [specC_no]
      ·rfl
      ·rintro ⟨e,he,ee⟩
       exact hc ((claimB_iff _).mpr ⟨e,found e he ee,he⟩)
    ·rw [decide_eq_false hb] at t2
     rw [Qz5 ((Qzs (t_or_f t1 t2)).trans (Qz5 (Qz8 rfl)))]
     rcases no with no|⟨w',A,B,_,e,_⟩
     ·rw [specC_no no]
     ·exact absurd (by rw [e];simp) hb
   ·rw [Bool.eq_false_iff.mpr fun h=>hw ((wordVB_iff w).mp h)] at t1
    rw [Qz5 ((Qzs (t_or_t t1)).trans (Qz5 (Qz8 rfl)))]
    rcases no with no|⟨w',A,B,h,e,_⟩
    ·rw [specC_no no]
    ·rw [List.cons_append,List.cons.injEq] at e
     exact absurd (by rw [e.1];exact h) hw
 exact congrArg O.fin fin
end K10
end
section
set_option maxHeartbeats 800000
namespace PL
open PySem
def s1 (c:Nat):PySem.Str:=⟨#[c]⟩
theorem tl_s1 (c:Nat):TL.tl (s1 c)=[c]:=rfl
theorem s1_inj {c d:Nat}(h:s1 c=s1 d):c=d:=by
 have:TL.tl (s1 c)=TL.tl (s1 d):=by rw [h]
 rw [tl_s1,tl_s1] at this
 exact (List.cons.inj this).1
theorem s1_st:("*" : PySem.Str)=s1 42:=TL.ext_tl tl_st
theorem s1_da:("-" : PySem.Str)=s1 45:=TL.ext_tl tl_da
theorem s1_plain {c:Nat}(h:c<128):Plain 1 (s1 c):=⟨Nat.le_refl _,fun d hd=>by
 rw [tl_s1] at hd
 rw [List.mem_singleton.mp hd];exact h⟩
theorem ix_str {κ:Ks}{w:PySem.Str}{n i:Nat}{c:Nat}(hw:Plain n w)(hn:n≤900)(h:(TL.tl w)[i]? = some c):ixV κ (.str w) (.int (i:Nat))=some (.str (s1 c)):=by
 show (if w.length≤LINE then (L2.atI w.cps.toList (i:Nat)).map fun c=>Val.str ⟨#[c]⟩ else none)=_
 rw [if_pos (Nat.le_trans hw.len (Nat.le_trans hn (by decide)))]
 have hi:i<(TL.tl w).length:=(List.getElem?_eq_some_iff.mp h).1
 rw [show w.cps.toList=TL.tl w from rfl,atI_nat hi,h]
 rfl
theorem mk_one:∀ n:Fin 61,(n.val<10→∃ c,c<128∧mkS (n.val:Int)=s1 c)∧(10≤n.val→(mkS (n.val:Int)).length=2):=by
 have h1:∀ n:Fin 61,n.val<10→mkS (n.val:Int)=s1 (48+n.val):=by decide +kernel
 have h2:∀ n:Fin 61,10≤n.val→(mkS (n.val:Int)).length=2:=by decide +kernel
 exact fun n=>⟨fun h=>⟨_,by omega,h1 n h⟩,h2 n⟩
theorem mk_one' {m:Int}(h0:0≤m)(h1:m≤9):∃ c,c<128∧mkS m=s1 c:=by
 obtain ⟨n,rfl⟩:=fin61 h0 (by omega:m≤60)
 exact (mk_one n).1 (by omega)
theorem mk_small {m:Int}{c:Nat}(h0:0≤m)(h1:m≤60)(h:mkS m=s1 c):m≤9:=by
 obtain ⟨n,rfl⟩:=fin61 h0 h1
 by_cases k:n.val<10
 ·omega
 ·have:=(mk_one n).2 (by omega)
  rw [h] at this
  cases this
theorem nlO_some {w:PySem.Str}(h:0≤nlO w):nlO w≤60∧mkS (nlO w)=w∧numO w=some (nlO w):=by
 unfold nlO at h ⊢
 cases e:numO w with
 | none=>rw [e] at h;exact absurd h (by decide)
 | some m=>
  have:=numO_some e
  exact ⟨this.2.1,this.2.2,rfl⟩
theorem nlO_mk {m:Int}(h0:0≤m)(h1:m≤60):nlO (mkS m)=m:=by
 unfold nlO
 rw [numO_mk h0 h1];rfl
end PL
namespace K10
open PySem PL
noncomputable def partV (w:PySem.Str):Val:=open Classical in if ∃ x,PartS W5 x∧wordP x=w then triV w else .non
theorem partV_of {x:Part}(h:PartS W5 x):partV (wordP x)=Part.v x:=by
 unfold partV
 rw [if_pos ⟨x,h,rfl⟩,triV_word (h.p60 (by decide))]
theorem partV_no {w:PySem.Str}(h:¬∃ x,PartS W5 x∧wordP x=w):partV w=.non:=by
 unfold partV
 rw [if_neg h]
theorem partV_dat {m:Nat}(w:PySem.Str):datB (m+1) (partV w)=true:=by
 by_cases h:∃ x,PartS W5 x∧wordP x=w
 ·obtain ⟨x,hx,rfl⟩:=h
  rw [partV_of hx]
  cases m <;> rfl
 ·rw [partV_no h];rfl
theorem word_signs {x:Part}(h:PartS W5 x):∃ a b e,TL.tl (wordP x)=[a,42,b,45,e]∧mkS x.1=s1 a∧mkS (x.2.1:Int)=s1 b∧mkS (x.2.2:Int)=s1 e:=by
 obtain ⟨h1,h2,h3,h4⟩:=h
 have h4:x.2.2<5:=h4
 obtain ⟨a,_,ea⟩:=mk_one' (m:=x.1) (by omega) h2
 obtain ⟨b,_,eb⟩:=mk_one' (m:=(x.2.1:Int)) (by omega) (by omega)
 obtain ⟨e,_,ee⟩:=mk_one' (m:=(x.2.2:Int)) (by omega) (by omega)
 exact ⟨a,b,e,by rw [wordP_tl,ea,eb,ee];rfl,ea,eb,ee⟩
theorem s_lpart (d:Nat){w:PySem.Str}{n:Nat}(hn:n≤900)(hw:Plain n w)(κ:Ks):(cb tab (d+2)).cf 33 [.v (.str w)] κ=.ok (partV w,κ):=by
 rw [Qqf _ _ _ _ _ rfl rfl]
 have fin:exSs (cb tab (d+1)) ir__law_part [some (.val (.str w)),none,none,none,none] κ=.ret (partV w) κ:=by
  unfold ir__law_part
  have x1:evE (cb tab (d+1)) (.bi .len (.cons (.var 0) .nil)) [some (.val (.str w)),none,none,none,none] κ=.ok (.int w.length,κ):=ev_bi1 (u:=.str w) rfl (by
   show (if w.length≤LINE then some (Val.int w.length) else none)=_
   rw [if_pos (Nat.le_trans hw.len (Nat.le_trans hn (by decide)))])
  have t1:evT (cb tab (d+1)) (.cm .ne (.bi .len (.cons (.var 0) .nil)) (.con (.int (5)))) [some (.val (.str w)),none,none,none,none] κ=.ok (!decide ((w.length:Int)=5),κ):=t_cm (u:=.int w.length) (w:=.int 5) x1 rfl (Qqz _ _)
  by_cases h5:w.length=5
  ·rw [decide_eq_true (show (w.length:Int)=5 by omega)] at t1
   have l5:(TL.tl w).length=5:=by rw [← TL.len_tl];exact h5
   obtain ⟨c0,c1,c2,c3,c4,eL⟩:∃ c0 c1 c2 c3 c4,TL.tl w=[c0,c1,c2,c3,c4]:=by
    match hL:TL.tl w,l5 with
    | [c0,c1,c2,c3,c4],_=>exact ⟨c0,c1,c2,c3,c4,rfl⟩
   have low:=hw.low
   rw [eL] at low
   have k0:=low c0 (by simp)
   have k1:=low c1 (by simp)
   have k2:=low c2 (by simp)
   have k3:=low c3 (by simp)
   have k4:=low c4 (by simp)
   have y1:evE (cb tab (d+1)) (.ix (.var 0) (.con (.int (1)))) [some (.val (.str w)),none,none,none,none] κ=.ok (.str (s1 c1),κ):=ev_ixE (u:=.str w) (w:=.int 1) rfl rfl (ix_str (i:=1) hw hn (by rw [eL];rfl))
   have y3:evE (cb tab (d+1)) (.ix (.var 0) (.con (.int (3)))) [some (.val (.str w)),none,none,none,none] κ=.ok (.str (s1 c3),κ):=ev_ixE (u:=.str w) (w:=.int 3) rfl rfl (ix_str (i:=3) hw hn (by rw [eL];rfl))
   have t2:evT (cb tab (d+1)) (.cm .ne (.ix (.var 0) (.con (.int (1)))) (.con (.str "*"))) [some (.val (.str w)),none,none,none,none] κ=.ok (!decide (s1 c1=("*" : PySem.Str)),κ):=t_cm (u:=.str (s1 c1)) (w:=.str "*") y1 rfl (str_ned (s1_plain k1).ok plain_st.ok)
   have t3:evT (cb tab (d+1)) (.cm .ne (.ix (.var 0) (.con (.int (3)))) (.con (.str "-"))) [some (.val (.str w)),none,none,none,none] κ=.ok (!decide (s1 c3=("-" : PySem.Str)),κ):=t_cm (u:=.str (s1 c3)) (w:=.str "-") y3 rfl (str_ned (s1_plain k3).ok plain_da.ok)
   by_cases e1:s1 c1=("*" : PySem.Str)
   ·rw [decide_eq_true e1] at t2
    by_cases e3:s1 c3=("-" : PySem.Str)
    ·rw [decide_eq_true e3] at t3
     rw [Qz3 ((ite_no (t_or_f t1 (t_or_f t2 t3))).trans rfl)]
     rw [s1_st] at e1
     rw [s1_da] at e3
     have e1:=s1_inj e1
     have e3:=s1_inj e3
     subst e1
     subst e3
     have cc:evE (cb tab (d+1)) (.comp (.call 31 (.cons (.ix (.var 0) (.var 4)) .nil)) (.nm 4) (.seq (.lst (.cons (.con (.int (0))) (.cons (.con (.int (2))) (.cons (.con (.int (4))) .nil))))) .no [4]) [some (.val (.str w)),none,none,none,none] κ=.ok (.lst (([(0,c0),(2,c2),(4,c4)]:List (Nat × Nat)).map fun p=>Val.int (nlO (s1 p.2))),κ):=
      ev_compM (l:=([(0,c0),(2,c2),(4,c4)]:List (Nat × Nat))) (a:=fun p=>.int (p.1:Nat)) rfl (show 3<LINE by decide) fun p hp=>by
       refine ⟨[some (.val (.str w)),none,none,none,some (.val (.int (p.1:Nat)))],rfl,?_⟩
       have ip:(TL.tl w)[p.1]? = some p.2∧p.2<128:=by
        rw [eL]
        simp only [List.mem_cons,List.mem_nil_iff,or_false] at hp
        rcases hp with e|e|e <;> subst e
        ·exact ⟨rfl,k0⟩
        ·exact ⟨rfl,k2⟩
        ·exact ⟨rfl,k4⟩
       have z:evE (cb tab (d+1)) (.ix (.var 0) (.var 4)) [some (.val (.str w)),none,none,none,some (.val (.int (p.1:Nat)))] κ=.ok (.str (s1 p.2),κ):=ev_ixE (u:=.str w) (w:=.int (p.1:Nat)) rfl rfl (ix_str hw hn ip.1)
       exact Qqd (Qzj z eva_nil) (s_number d (s1_plain ip.2).ok κ)
     have as:=asg_nx (tg:=.tp (.cons (.nm 1) (.cons (.nm 2) (.cons (.nm 3) .nil)))) (ρ':=[some (.val (.str w)),some (.val (.int (nlO (s1 c0)))),some (.val (.int (nlO (s1 c2)))),some (.val (.int (nlO (s1 c4)))),none]) cc rfl
     rw [Qz3 as]
     have u1:evT (cb tab (d+1)) (.cm .gt (.var 1) (.con (.int (0)))) [some (.val (.str w)),some (.val (.int (nlO (s1 c0)))),some (.val (.int (nlO (s1 c2)))),some (.val (.int (nlO (s1 c4)))),none] κ=.ok (decide (nlO (s1 c0) > 0),κ):=rfl
     have u2:evT (cb tab (d+1)) (.chain3 .le .lt .lt (.con (.int (0))) (.var 2) (.var 3) (.con (.int (5)))) [some (.val (.str w)),some (.val (.int (nlO (s1 c0)))),some (.val (.int (nlO (s1 c2)))),some (.val (.int (nlO (s1 c4)))),none] κ=.ok (decide (0≤nlO (s1 c2)∧nlO (s1 c2)<nlO (s1 c4)∧nlO (s1 c4)<5),κ):=by
      show (if decide (0≤nlO (s1 c2))=true then ((R.ofO (cmV .lt (.int (nlO (s1 c2))) (.int (nlO (s1 c4))))).bind fun k'=>if k'=true then R.ofO ((cmV .lt (.int (nlO (s1 c4))) (.int 5)).map fun v=>(v,κ)) else .ok (false,κ)) else .ok (false,κ))=_
      by_cases a1:0≤nlO (s1 c2)
      ·rw [if_pos (decide_eq_true a1)]
       show (if decide (nlO (s1 c2)<nlO (s1 c4))=true then R.ok (decide (nlO (s1 c4)<5),κ) else .ok (false,κ))=_
       by_cases a2:nlO (s1 c2)<nlO (s1 c4)
       ·rw [if_pos (decide_eq_true a2)]
        by_cases a3:nlO (s1 c4)<5
        ·rw [decide_eq_true a3,decide_eq_true ⟨a1,a2,a3⟩]
        ·rw [decide_eq_false a3,decide_eq_false (fun h=>a3 h.2.2)]
       ·rw [if_neg (by rw [decide_eq_false a2];exact Bool.false_ne_true),decide_eq_false (fun h=>a2 h.2.1)]
      ·rw [if_neg (by rw [decide_eq_false a1];exact Bool.false_ne_true),decide_eq_false (fun h=>a1 h.1)]
     refine Qz5 (Qz8 ?_)
     by_cases g:nlO (s1 c0) > 0∧0≤nlO (s1 c2)∧nlO (s1 c2)<nlO (s1 c4)∧nlO (s1 c4)<5
     ·obtain ⟨g1,g2⟩:=g
      rw [decide_eq_true g1] at u1
      rw [decide_eq_true g2] at u2
      have m0:=nlO_some (w:=s1 c0) (by omega)
      have m2:=nlO_some (w:=s1 c2) (by omega)
      have m4:=nlO_some (w:=s1 c4) (by omega)
      have b0:=mk_small (by omega) m0.1 m0.2.1
      have f2:(((nlO (s1 c2)).toNat:Nat):Int)=nlO (s1 c2):=Int.toNat_of_nonneg (by omega)
      have f4:(((nlO (s1 c4)).toNat:Nat):Int)=nlO (s1 c4):=Int.toNat_of_nonneg (by omega)
      have hx:PartS W5 (nlO (s1 c0),(nlO (s1 c2)).toNat,(nlO (s1 c4)).toNat):=⟨show 1≤nlO (s1 c0) by omega,b0,show (nlO (s1 c2)).toNat<(nlO (s1 c4)).toNat by omega,show (nlO (s1 c4)).toNat<5 by omega⟩
      have ew:wordP (nlO (s1 c0),(nlO (s1 c2)).toNat,(nlO (s1 c4)).toNat)=w:=TL.ext_tl (by
       rw [wordP_tl]
       dsimp only
       rw [f2,f4,m0.2.1,m2.2.1,m4.2.1,eL]
       rfl)
      refine ev_ite_t (t_and_t u1 u2) ?_
      rw [← ew,partV_of hx]
      show evE (cb tab (d+1)) _ _ κ=.ok (.tup [.int (nlO (s1 c0)),.int ((nlO (s1 c2)).toNat:Nat),.int ((nlO (s1 c4)).toNat:Nat)],κ)
      rw [f2,f4]
      rfl
     ·have u:evT (cb tab (d+1)) (.and (.cm .gt (.var 1) (.con (.int (0)))) (.chain3 .le .lt .lt (.con (.int (0))) (.var 2) (.var 3) (.con (.int (5))))) [some (.val (.str w)),some (.val (.int (nlO (s1 c0)))),some (.val (.int (nlO (s1 c2)))),some (.val (.int (nlO (s1 c4)))),none] κ=.ok (false,κ):=by
       by_cases g1:nlO (s1 c0) > 0
       ·rw [decide_eq_true g1] at u1
        rw [decide_eq_false (fun h=>g ⟨g1,h⟩)] at u2
        exact t_and_t u1 u2
       ·rw [decide_eq_false g1] at u1
        exact t_and_f u1
      refine ev_ite_f u ?_
      rw [partV_no]
      ·rfl
      ·rintro ⟨x,hx,ex⟩
       obtain ⟨a,b,e,et,ea,eb,ee⟩:=word_signs hx
       rw [ex,eL] at et
       simp only [List.cons.injEq,and_true] at et
       obtain ⟨z0,_,z2,_,z4⟩:=et
       obtain ⟨h1,h2,h3,h4⟩:=hx
       have h4:x.2.2<5:=h4
       apply g
       rw [z0,z2,z4,← ea,← eb,← ee,nlO_mk (by omega) (by omega),nlO_mk (by omega) (by omega),nlO_mk (by omega) (by omega)]
       omega
    ·rw [decide_eq_false e3] at t3
     rw [Qz5 ((Qzs (t_or_f t1 (t_or_f t2 t3))).trans (Qz5 (Qz8 rfl)))]
     rw [partV_no]
     rintro ⟨x,hx,ex⟩
     obtain ⟨a,b,e,et,_⟩:=word_signs hx
     rw [ex,eL] at et
     simp only [List.cons.injEq,and_true] at et
     exact e3 (by rw [s1_da,et.2.2.2.1])
   ·rw [decide_eq_false e1] at t2
    rw [Qz5 ((Qzs (t_or_f t1 (t_or_t t2))).trans (Qz5 (Qz8 rfl)))]
    rw [partV_no]
    rintro ⟨x,hx,ex⟩
    obtain ⟨a,b,e,et,_⟩:=word_signs hx
    rw [ex,eL] at et
    simp only [List.cons.injEq,and_true] at et
    exact e1 (by rw [s1_st,et.2.1])
  ·rw [decide_eq_false (show ¬(w.length:Int)=5 by omega)] at t1
   rw [Qz5 ((Qzs (t_or_t t1)).trans (Qz5 (Qz8 rfl)))]
   rw [partV_no]
   rintro ⟨x,hx,ex⟩
   obtain ⟨a,b,e,et,_⟩:=word_signs hx
   rw [ex] at et
   exact h5 (by rw [TL.len_tl,et];rfl)
 exact congrArg O.fin fin
theorem parts_of:∀ {A:List PySem.Str},((A.map partV).any fun z=>eqT z .non)=false→∃ l:List Part,A=l.map wordP∧(∀ x∈l,PartS W5 x):=fun {A}=>by
 induction A with
 | nil=>exact fun _=>⟨[],rfl,fun x h=>by cases h⟩
 | cons w A ih=>
  intro h
  rw [List.map_cons,List.any_cons,Bool.or_eq_false_iff] at h
  obtain ⟨l,rfl,hl⟩:=ih h.2
  by_cases k:∃ x,PartS W5 x∧wordP x=w
  ·obtain ⟨x,hx,rfl⟩:=k
   exact ⟨x::l,rfl,fun y hy=>by
    rcases List.mem_cons.mp hy with e|hy
    ·rw [e];exact hx
    ·exact hl y hy⟩
  ·rw [partV_no k] at h
   exact absurd h.1 (by decide)
theorem parts_no {l:List Part}(h:∀ x∈l,PartS W5 x):(l.map wordP).map partV=l.map Part.v:=by
 rw [List.map_map]
 exact List.map_congr_left fun x hx=>partV_of (h x hx)
theorem any_parts {l:List Part}:((l.map Part.v).any fun z=>eqT z .non)=false:=by
 rw [List.any_eq_false]
 intro z hz
 obtain ⟨x,_,rfl⟩:=List.mem_map.mp hz
 exact Bool.false_ne_true
end K10
end
section
set_option maxHeartbeats 800000
namespace PL
open PySem
theorem par_nx {c:CB}{l:List (Nat × Bool)}{es:Es}{ρ ρ':Rho}{κ κ1:Ks}{vs:List Val}(h:evEs c es ρ κ=.ok (vs,κ1))(h2:Qzc l vs ρ=some ρ'):exS c (.par l es) ρ κ=.nx ρ' κ1:=by
 show (evEs c es ρ κ).toO _=_
 rw [h]
 show (match Qzc l vs ρ with
  | some r=>O.nx r κ1
  | none=>.bad)=_
 rw [h2]
theorem t_chain2 {c:CB}{a b e:E}{ρ:Rho}{κ:Ks}{x y z:Int}(ha:evE c a ρ κ=.ok (.int x,κ))(hb:evE c b ρ κ=.ok (.int y,κ))(he:evE c e ρ κ=.ok (.int z,κ)):evT c (.chain .le .le a b e) ρ κ=.ok (decide (x≤y∧y≤z),κ):=by
 show (evE c a ρ κ).bind _=_
 rw [ha,R.bind_ok]
 show (evE c b ρ κ).bind _=_
 rw [hb,R.bind_ok]
 show (if decide (x≤y)=true then (evE c e ρ κ).bind fun r=>R.ofO ((cmV .le (.int y) r.1).map fun v=>(v,r.2)) else .ok (false,κ))=_
 by_cases h:x≤y
 ·rw [if_pos (decide_eq_true h),he,R.bind_ok]
  show R.ok (decide (y≤z),κ)=_
  rw [decide_eq_decide.mpr (⟨fun k=>⟨h,k⟩,fun k=>k.2⟩:y≤z↔x≤y∧y≤z)]
 ·rw [if_neg (by rw [decide_eq_false h];exact Bool.false_ne_true),decide_eq_false (fun k=>h k.1)]
end PL
namespace K10
open PySem PL
abbrev lwR (l:List Part)(e1 e2 e3 e4:Option PL.Slot):Rho:=[some (.val (parV l)),e1,e2,e3,e4]
theorem s_lwords (d:Nat){l:List Part}(h:∀ x∈l,Part60 x)(hl:l.length≤100)(κ:Ks):(cb tab (d+1)).cf 28 [.v (parV l)] κ=.ok (.lst ((l.map wordP).map .str),κ):=by
 rw [Qqf _ _ _ _ _ rfl rfl]
 obtain ⟨ρ',κ',eL,rfl,e2,e3,e4,rfl⟩:=loop_inv (c:=cb tab d) (tg:=.tp (.cons (.nm 2) (.cons (.nm 3) (.cons (.nm 4) .nil)))) (it:=.seq (.var 0)) (b:=.cons (.append 1 (.op .add (.op .add (.op .add (.op .add (.bi .str (.cons (.var 2) .nil)) (.con (.str "*"))) (.bi .str (.cons (.var 3) .nil))) (.con (.str "-"))) (.bi .str (.cons (.var 4) .nil))))
 .nil) (ρ:=lwR l (some (.own [])) none none none) (κ:=κ) (κ1:=κ) (l:=l.map Part.v)
  (fun m ρ k=>κ=k∧∃ e2 e3 e4,ρ=lwR l (some (.own (((l.take m).map wordP).map .str))) e2 e3 e4) rfl ⟨rfl,none,none,none,rfl⟩ (fun m v ρ k hv ⟨ek,e2,e3,e4,er⟩=>by
   subst ek
   subst er
   rw [List.getElem?_map] at hv
   cases hz:l[m]? with
   | none=>rw [hz] at hv;cases hv
   | some x=>
    rw [hz] at hv
    cases hv
    have p:=h x (List.mem_of_getElem? hz)
    have tk:l.take (m+1)=l.take m++[x]:=by rw [List.take_succ,hz];rfl
    have q1:=mk_plain p.1 p.2.1
    have q2:=mk_plain (m:=(x.2.1:Int)) (by omega) (by have:=p.2.2.1;omega)
    have q3:=mk_plain (m:=(x.2.2:Int)) (by omega) (by have:=p.2.2.2;omega)
    refine ⟨lwR l (some (.own (((l.take m).map wordP).map .str))) (some (.val (.int x.1))) (some (.val (.int x.2.1))) (some (.val (.int x.2.2))),_,κ,rfl,?_,rfl,some (.val (.int x.1)),some (.val (.int x.2.1)),some (.val (.int x.2.2)),rfl⟩
    have y1:evE (cb tab d) (.bi .str (.cons (.var 2) .nil)) (lwR l (some (.own (((l.take m).map wordP).map .str))) (some (.val (.int x.1))) (some (.val (.int x.2.1))) (some (.val (.int x.2.2)))) κ=.ok (.str (mkS x.1),κ):=ev_bi1 (u:=.int x.1) rfl (bi_mk p.1 p.2.1)
    have y2:evE (cb tab d) (.bi .str (.cons (.var 3) .nil)) (lwR l (some (.own (((l.take m).map wordP).map .str))) (some (.val (.int x.1))) (some (.val (.int x.2.1))) (some (.val (.int x.2.2)))) κ=.ok (.str (mkS (x.2.1:Int)),κ):=ev_bi1 (u:=.int (x.2.1:Int)) rfl (bi_mk (by omega) (by have:=p.2.2.1;omega))
    have y3:evE (cb tab d) (.bi .str (.cons (.var 4) .nil)) (lwR l (some (.own (((l.take m).map wordP).map .str))) (some (.val (.int x.1))) (some (.val (.int x.2.1))) (some (.val (.int x.2.2)))) κ=.ok (.str (mkS (x.2.2:Int)),κ):=ev_bi1 (u:=.int (x.2.2:Int)) rfl (bi_mk (by omega) (by have:=p.2.2.2;omega))
    have z1:=Qzm y1 (b:=.con (.str "*")) rfl (fun _=>rfl) (fun _=>rfl) (op_strP q1 plain_st (by decide))
    have z2:=Qzm z1 y2 (fun _=>rfl) (fun _=>rfl) (op_strP (Qx4 q1 plain_st) q2 (by decide))
    have z3:=Qzm z2 (b:=.con (.str "-")) rfl (fun _=>rfl) (fun _=>rfl) (op_strP (Qx4 (Qx4 q1 plain_st) q2) plain_da (by decide))
    have z4:=Qzm z3 y3 (fun _=>rfl) (fun _=>rfl) (op_strP (Qx4 (Qx4 (Qx4 q1 plain_st) q2) plain_da) q3 (by decide))
    have z4:evE (cb tab d) (.op .add (.op .add (.op .add (.op .add (.bi .str (.cons (.var 2) .nil)) (.con (.str "*"))) (.bi .str (.cons (.var 3) .nil))) (.con (.str "-"))) (.bi .str (.cons (.var 4) .nil))) (lwR l (some (.own (((l.take m).map wordP).map .str))) (some (.val (.int x.1))) (some (.val (.int x.2.1))) (some (.val (.int x.2.2)))) κ=.ok (.str (wordP x),κ):=z4
    rw [Qz3 (app_ok rfl z4 (by rw [List.length_map,List.length_map,List.length_take];exact Nat.lt_of_le_of_lt (show min m l.length≤100 by omega) (by decide))),tk,List.map_append,List.map_append]
    rfl)
 rw [List.length_map,List.take_length] at eL
 have fin:exSs (cb tab d) ir__law_words (lwR l none none none none) κ=.ret (.lst ((l.map wordP).map .str)) κ:=by
  unfold ir__law_words
  have p0:exS (cb tab d) (.own 1 (.lst .nil)) (lwR l none none none none) κ=.nx (lwR l (some (.own [])) none none none) κ:=rfl
  have dg:exS (cb tab d) (.dg 1) (lwR l (some (.own ((l.map wordP).map .str))) e2 e3 e4) κ=.nx (lwR l (some (.val (.lst ((l.map wordP).map .str)))) e2 e3 e4) κ:=rfl
  rw [Qz3 p0,Qz3 eL,Qz3 dg]
  exact Qz5 (Qz8 rfl)
 exact congrArg O.fin fin
theorem s_lline (d:Nat){c:Clm}(hw:WordOk c.w)(hl:∀ x∈c.l,Part60 x)(hr:∀ x∈c.r,Part60 x)(l3:c.l.length≤3)(r3:c.r.length≤3)(κ:Ks):(cb tab (d+2)).cf 29 [.v (Clm.v c)] κ=.ok (.str (lineC c),κ):=by
 rw [Qqf _ _ _ _ _ rfl rfl]
 have s1:=s_lwords d hl (by omega) κ
 have s2:=s_lwords d hr (by omega) κ
 have i0:∀ κ:Ks,ixV κ (Clm.v c) (.int 0)=some (.str c.w):=fun κ=>ix_t0 _ _
 have i1:∀ κ:Ks,ixV κ (Clm.v c) (.int 1)=some (parV c.l):=fun κ=>ix_t1 _ _ _
 have i2:∀ κ:Ks,ixV κ (Clm.v c) (.int 2)=some (parV c.r):=fun κ=>ix_t2 _ _ _ _
 have x0:evE (cb tab (d+1)) (.ix (.var 0) (.con (.int (0)))) [some (.val (Clm.v c))] κ=.ok (.str c.w,κ):=ev_ixE (u:=Clm.v c) (w:=.int 0) rfl rfl (i0 κ)
 have x1:evE (cb tab (d+1)) (.ix (.var 0) (.con (.int (1)))) [some (.val (Clm.v c))] κ=.ok (parV c.l,κ):=ev_ixE (u:=Clm.v c) (w:=.int 1) rfl rfl (i1 κ)
 have x2:evE (cb tab (d+1)) (.ix (.var 0) (.con (.int (2)))) [some (.val (Clm.v c))] κ=.ok (parV c.r,κ):=ev_ixE (u:=Clm.v c) (w:=.int 2) rfl rfl (i2 κ)
 have a1:evE (cb tab (d+1)) (.lst (.cons (.ix (.var 0) (.con (.int (0)))) .nil)) [some (.val (Clm.v c))] κ=.ok (.lst [.str c.w],κ):=evs_lst (Qz7 x0 evs_nil) (show 1≤1000 by decide)
 have a2:evE (cb tab (d+1)) (.call 28 (.cons (.ix (.var 0) (.con (.int (1)))) .nil)) [some (.val (Clm.v c))] κ=.ok (.lst ((c.l.map wordP).map .str),κ):=Qqd (Qzj x1 eva_nil) s1
 have a4:evE (cb tab (d+1)) (.call 28 (.cons (.ix (.var 0) (.con (.int (2)))) .nil)) [some (.val (Clm.v c))] κ=.ok (.lst ((c.r.map wordP).map .str),κ):=Qqd (Qzj x2 eva_nil) s2
 have a3:evE (cb tab (d+1)) (.lst (.cons (.con (.str "by")) .nil)) [some (.val (Clm.v c))] κ=.ok (.lst [.str "by"],κ):=rfl
 have b1:=Qzm a1 a2 (fun _=>rfl) (fun _=>rfl) (op_lst (by simp;omega))
 have b2:=Qzm b1 a3 (fun _=>rfl) (fun _=>rfl) (op_lst (by simp;omega))
 have b3:=Qzm b2 a4 (fun _=>rfl) (fun _=>rfl) (op_lst (by simp;omega))
 have e:(([Val.str c.w]++(c.l.map wordP).map .str)++[.str "by"])++(c.r.map wordP).map .str=(wordsC c).map .str:=by
  unfold wordsC
  rw [List.map_append,List.map_append,List.map_append]
  rfl
 rw [e] at b3
 exact congrArg O.fin (Qz5 (Qz8 (ev_joinL b3 (sm_join (Nat.le_trans (line_fit2 hw hl hr l3 r3) (by decide))))))
theorem cnt_words {A B:List PySem.Str}:((A++("by" : PySem.Str)::B).map Val.str).countP (fun y=>eqT y (.str "by"))=(A.count ("by" : PySem.Str)+(B.count ("by" : PySem.Str)+1)):=by
 rw [List.countP_map]
 show (A++("by" : PySem.Str)::B).countP (fun y=>y == ("by" : PySem.Str))=_
 rw [List.countP_append,List.countP_cons,beq_self_eq_true,if_pos rfl]
 rfl
abbrev lcR (line:PySem.Str)(e1 e2 e3 e4:Option PL.Slot):Rho:=[some (.val (.str line)),e1,e2,e3,e4,none]
theorem s_lclaim (d:Nat){line:PySem.Str}{n:Nat}(hn:n≤900)(hp:Plain n line)(κ:Ks):(cb tab (d+3)).cf 34 [.v (.str line)] κ=.ok (specC line,κ):=by
 rw [Qqf _ _ _ _ _ rfl rfl]
 have sp:=split_ok (x:=line) tl_sp (by decide)
 have sm:=sm_splitP tl_sp hp (Nat.le_trans hn (by decide))
 have pw:=sp.plain hp
 have lw:=sp.len
 have ln:=hp.len
 have sj:=sp.join
 have fin:exSs (cb tab (d+2)) ir__law_claimed (lcR line none none none none) κ=.ret (specC line) κ:=by
  unfold ir__law_claimed
  have e0:evE (cb tab (d+2)) (.sm .split (.var 0) (.con (.str " "))) (lcR line none none none none) κ=.ok (.lst ((Txt.split line " ").map .str),κ):=ev_splitL rfl sm
  rw [Qz3 (Qzp e0)]
  have no:(¬∃ c,ClaimOk W5 c∧lineC c=line)∨∃ c,ClaimOk W5 c∧Txt.split line " " = (c.w::c.l.map wordP)++("by" : PySem.Str)::c.r.map wordP:=by
   by_cases h:∃ c,ClaimOk W5 c∧lineC c=line
   ·obtain ⟨c,h,rfl⟩:=h
    exact .inr ⟨c,h,ClaimOk.split h⟩
   ·exact .inl h
  cases ews:Txt.split line " " with
  | nil=>exact absurd ews sp.ne
  | cons w ws=>
   rw [ews] at pw lw no sj
   have pw':=pw
   have x0:evE (cb tab (d+2)) (.ix (.var 1) (.con (.int (0)))) (lcR line (some (.val (.lst ((w::ws).map .str)))) none none none) κ=.ok (.str w,κ):=ev_ixE (u:=.lst ((w::ws).map .str)) (w:=.int 0) rfl rfl (ix_lst (by show L2.atI (Val.str w::ws.map Val.str) ((0:Nat):Int)=_;rw [atI_nat (by simp)];rfl))
   have t1:evT (cb tab (d+2)) (.cm .notin (.ix (.var 1) (.con (.int (0)))) (.lst (.cons (.con (.str "less")) (.cons (.con (.str "upto")) (.cons (.con (.str "same")) .nil))))) (lcR line (some (.val (.lst ((w::ws).map .str)))) none none none) κ=.ok (!wordVB (.str w),κ):=t_cm (w:=.lst [.str "less", .str "upto", .str "same"]) x0 rfl (notin_l rfl rfl)
   have dws:datBs 9 ((w::ws).map Val.str)=true:=Qx6 fun v hv=>by
    obtain ⟨z,hz,rfl⟩:=List.mem_map.mp hv
    exact (pw' z hz).ok
   have x1:evE (cb tab (d+2)) (.lcnt (.var 1) (.con (.str "by"))) (lcR line (some (.val (.lst ((w::ws).map .str)))) none none none) κ=.ok (.int (((w::ws).map Val.str).countP fun y=>eqT y (.str "by")),κ):=by
    show R.ofO ((cntV (.lst ((w::ws).map .str)) (.str "by")).map fun v=>(v,κ))=_
    rw [cnt_ok dws (show datB 9 (.str "by")=true by decide +kernel)]
    rfl
   have t2:evT (cb tab (d+2)) (.cm .ne (.lcnt (.var 1) (.con (.str "by"))) (.con (.int (1)))) (lcR line (some (.val (.lst ((w::ws).map .str)))) none none none) κ=.ok (!decide ((((w::ws).map Val.str).countP (fun y=>eqT y (.str "by")):Int)=1),κ):=t_cm (w:=.int 1) x1 rfl (Qqz _ _)
   show exSs (cb tab (d+2)) _ (lcR line (some (.val (.lst ((w::ws).map .str)))) none none none) κ=_
   by_cases hw:WordOk w
   ·rw [(wordVB_iff w).mpr hw] at t1
    by_cases hc:(((w::ws).map Val.str).countP (fun y=>eqT y (.str "by")):Int)=1
    ·rw [decide_eq_true hc] at t2
     rw [Qz3 ((ite_no (t_or_f t1 t2)).trans rfl)]
     have hb':("by" : PySem.Str)∈ws:=by
      have:0<((w::ws).map Val.str).countP (fun y=>eqT y (.str "by")):=by omega
      obtain ⟨v,hv,hq⟩:=List.countP_pos_iff.mp this
      obtain ⟨z,hz,rfl⟩:=List.mem_map.mp hv
      have hq:(z == ("by" : PySem.Str))=true:=hq
      rw [beq_iff_eq.mp hq] at hz
      rcases List.mem_cons.mp hz with e|h
      ·exact absurd e.symm (word_plain hw).2.2.2
      ·exact h
     obtain ⟨A,B,rfl,hA⟩:=mem_split hb'
     have hA':("by" : PySem.Str) ∉ w::A:=fun hm=>by
      rcases List.mem_cons.mp hm with e|h
      ·exact (word_plain hw).2.2.2 e.symm
      ·exact hA h
     have lAB:2+(A.length+B.length)≤901:=by
      simp only [List.length_cons,List.length_append] at lw
      omega
     have li:=lidx_app (B:=B) hA'
     have x2:evE (cb tab (d+2)) (.lidx (.var 1) (.con (.str "by"))) (lcR line (some (.val (.lst ((w::(A++("by" : PySem.Str)::B)).map .str)))) none none none) κ=.ok (.int ((w::A).length:Nat),κ):=by
      show R.ofO ((lidxV (.lst ((w::(A++("by" : PySem.Str)::B)).map .str)) (.str "by")).map fun v=>(v,κ))=_
      rw [show w::(A++("by" : PySem.Str)::B)=(w::A)++("by" : PySem.Str)::B from rfl,li]
      rfl
     rw [Qz3 (Qzp x2)]
     show exSs (cb tab (d+2)) _ (lcR line (some (.val (.lst ((w::(A++("by" : PySem.Str)::B)).map .str)))) (some (.val (.int ((w::A).length:Nat)))) none none) κ=_
     have x3:evE (cb tab (d+2)) (.sl (.var 1) (.yes (.con (.int (1)))) (.yes (.var 2))) (lcR line (some (.val (.lst ((w::(A++("by" : PySem.Str)::B)).map .str)))) (some (.val (.int ((w::A).length:Nat)))) none none) κ=.ok (.lst (A.map .str),κ):=ev_slE (u:=.lst ((w::(A++("by" : PySem.Str)::B)).map .str)) rfl (ev_oY (n:=((1:Nat):Int)) rfl) (ev_oY rfl) (by
      rw [sl_mid (by simp) (by simp)]
      simp)
     have x4:evE (cb tab (d+2)) (.sl (.var 1) (.yes (.op .add (.var 2) (.con (.int (1))))) .no) (lcR line (some (.val (.lst ((w::(A++("by" : PySem.Str)::B)).map .str)))) (some (.val (.int ((w::A).length:Nat)))) none none) κ=.ok (.lst (B.map .str),κ):=ev_slE (u:=.lst ((w::(A++("by" : PySem.Str)::B)).map .str)) rfl (ev_oY (n:=(((w::A).length+1:Nat):Int)) rfl) rfl (by
      rw [sl_froml (by simp)]
      rw [List.map_cons,List.map_append,List.map_cons,List.length_cons,List.drop_succ_cons]
      rw [show A.length+1=(A.map Val.str).length+1 by rw [List.length_map],drop_app1])
     have comp:∀ {e:E} {L:List PySem.Str},evE (cb tab (d+2)) e (lcR line (some (.val (.lst ((w::(A++("by" : PySem.Str)::B)).map .str)))) (some (.val (.int ((w::A).length:Nat)))) none none) κ=.ok (.lst (L.map .str),κ)→(∀ r,bw e (lcR line (some (.val (.lst ((w::(A++("by" : PySem.Str)::B)).map .str)))) (some (.val (.int ((w::A).length:Nat)))) none none) κ r=r)→L.length≤901→(∀ z∈L,Plain n z)→evE (cb tab (d+2)) (.comp (.call 33 (.cons (.var 5) .nil)) (.nm 5) (.seq e) .no [5]) (lcR line (some (.val (.lst ((w::(A++("by" : PySem.Str)::B)).map .str)))) (some (.val (.int ((w::A).length:Nat)))) none none) κ=.ok (.lst (L.map partV),κ):=fun {e L} h hb hL hz=>
      ev_compM (a:=Val.str) (h:=partV) (it_seq ((hb _).trans h) rfl) (Nat.lt_of_le_of_lt hL (by decide)) fun z zL=>
       ⟨[some (.val (.str line)),some (.val (.lst ((w::(A++("by" : PySem.Str)::B)).map .str))),some (.val (.int ((w::A).length:Nat))),none,none,some (.val (.str z))],rfl,Qqd rfl (s_lpart d hn (hz z zL) κ)⟩
     have c1:=comp x3 (fun _=>rfl) (by omega) (fun v hv=>pw v (by simp [hv]))
     have c2:=comp x4 (fun _=>rfl) (by omega) (fun v hv=>pw v (by simp [hv]))
     rw [Qz3 (par_nx (ρ':=lcR line (some (.val (.lst ((w::(A++("by" : PySem.Str)::B)).map .str)))) (some (.val (.int ((w::A).length:Nat)))) (some (.val (.lst (A.map partV)))) (some (.val (.lst (B.map partV))))) (Qz7 c1 (Qz7 c2 evs_nil)) rfl)]
     have rr:∀ {e:E} {z:Val},evE (cb tab (d+2)) e (lcR line (some (.val (.lst ((w::(A++("by" : PySem.Str)::B)).map .str)))) (some (.val (.int ((w::A).length:Nat)))) (some (.val (.lst (A.map partV)))) (some (.val (.lst (B.map partV))))) κ=.ok (z,κ)→evE (cb tab (d+2)) e (lcR line (some (.val (.lst ((w::(A++("by" : PySem.Str)::B)).map .str)))) (some (.val (.int ((w::A).length:Nat)))) (some (.val (.lst (A.map partV)))) (some (.val (.lst (B.map partV))))) κ=.ok (z,κ):=fun h=>h
     have u1:=t_chain2 (e:=.con (.int 3)) (z:=3) (x:=1) (a:=.con (.int 1)) rfl (rr (z:=.int (A.map partV).length) (ev_bi1 (o:=.len) (a:=.var 3) (u:=.lst (A.map partV)) rfl rfl)) rfl
     have u2:=t_chain2 (e:=.con (.int 3)) (z:=3) (x:=1) (a:=.con (.int 1)) rfl (rr (z:=.int (B.map partV).length) (ev_bi1 (o:=.len) (a:=.var 4) (u:=.lst (B.map partV)) rfl rfl)) rfl
     have o1:opV .add (.lst (A.map partV)) (.lst (B.map partV))=some (.lst (A.map partV++B.map partV)):=op_lst (by rw [List.length_map,List.length_map];omega)
     have v3:=rr (ev_op (o:=.add) (a:=.var 3) (b:=.var 4) (u:=.lst (A.map partV)) (w:=.lst (B.map partV)) rfl rfl o1)
     have dA:datBs 60 (A.map partV++B.map partV)=true:=Qx6 fun v hv=>by
      rcases List.mem_append.mp hv with h|h
      ·obtain ⟨z,_,rfl⟩:=List.mem_map.mp h;exact partV_dat z
      ·obtain ⟨z,_,rfl⟩:=List.mem_map.mp h;exact partV_dat z
     have u3:evT (cb tab (d+2)) (.cm .inD (.con (.non)) (.op .add (.var 3) (.var 4))) (lcR line (some (.val (.lst ((w::(A++("by" : PySem.Str)::B)).map .str)))) (some (.val (.int ((w::A).length:Nat)))) (some (.val (.lst (A.map partV)))) (some (.val (.lst (B.map partV))))) κ=.ok ((A.map partV++B.map partV).any fun z=>eqT z .non,κ):=t_cm (u:=.non) rfl v3 (inD_T dA rfl)
     have found:∀ c,ClaimOk W5 c→(w::A)++("by" : PySem.Str)::B=(c.w::c.l.map wordP)++("by" : PySem.Str)::c.r.map wordP→w=c.w∧A=c.l.map wordP∧B=c.r.map wordP:=fun c hc z=>by
      obtain ⟨z1,z2⟩:=split_uniq (A:=w::A) hA' (ClaimOk.head_no hc) z
      rw [List.cons.injEq] at z1
      exact ⟨z1.1,z1.2,z2⟩
     rw [List.length_map] at u1 u2
     by_cases g:(1≤(A.length:Int)∧(A.length:Int)≤3)∧(1≤(B.length:Int)∧(B.length:Int)≤3)∧((A.map partV++B.map partV).any fun z=>eqT z .non)=false
     ·obtain ⟨g1,g2,g3⟩:=g
      rw [decide_eq_true g1] at u1
      rw [decide_eq_true g2] at u2
      rw [g3] at u3
      rw [Qz3 ((ite_no (t_or_f (t_not u1) (t_or_f (t_not u2) u3))).trans rfl)]
      rw [List.any_append,Bool.or_eq_false_iff] at g3
      obtain ⟨l,rfl,hl⟩:=parts_of g3.1
      obtain ⟨r,rfl,hr⟩:=parts_of g3.2
      rw [List.length_map] at g1 g2
      have ok:ClaimOk W5 ⟨w,l,r⟩:=⟨hw,⟨show 1≤l.length by omega,show l.length≤3 by omega,hl⟩,⟨show 1≤r.length by omega,show r.length≤3 by omega,hr⟩⟩
      have el:lineC ⟨w,l,r⟩=line:=by
       unfold lineC
       rw [wordsC_eq]
       exact sj
      rw [← el,specC_of ok]
      have y0:=rr (ev_ixE (a:=.var 1) (b:=.con (.int 0)) (u:=.lst ((w::(l.map wordP++("by" : PySem.Str)::r.map wordP)).map .str)) (w:=.int 0) rfl rfl (ix_lst (by show L2.atI (Val.str w::(l.map wordP++("by" : PySem.Str)::r.map wordP).map Val.str) ((0:Nat):Int)=_;rw [atI_nat (by simp)];rfl)))
      refine Qz5 (Qz8 ?_)
      have y3:=rr (ev_bi1 (o:=.tuple) (a:=.var 3) (u:=.lst ((l.map wordP).map partV)) (z:=.tup ((l.map wordP).map partV)) rfl rfl)
      have y4:=rr (ev_bi1 (o:=.tuple) (a:=.var 4) (u:=.lst ((r.map wordP).map partV)) (z:=.tup ((r.map wordP).map partV)) rfl rfl)
      have y:=evs_tup (Qz7 y0 (Qz7 y3 (Qz7 y4 evs_nil))) (show 3≤1000 by decide)
      rw [parts_no hl,parts_no hr] at y
      rw [el]
      rw [parts_no hl,parts_no hr]
      exact y
     ·have u:evT (cb tab (d+2)) (.or (.not (.chain .le .le (.con (.int (1))) (.bi .len (.cons (.var 3) .nil)) (.con (.int (3))))) (.or (.not (.chain .le .le (.con (.int (1))) (.bi .len (.cons (.var 4) .nil)) (.con (.int (3))))) (.cm .inD (.con (.non)) (.op .add (.var 3) (.var 4))))) (lcR line (some (.val (.lst ((w::(A++("by" : PySem.Str)::B)).map .str)))) (some (.val (.int ((w::A).length:Nat)))) (some (.val (.lst (A.map partV)))) (some (.val (.lst (B.map partV))))) κ=.ok (true,κ):=by
       by_cases g1:1≤(A.length:Int)∧(A.length:Int)≤3
       ·rw [decide_eq_true g1] at u1
        refine t_or_f (t_not u1) ?_
        by_cases g2:1≤(B.length:Int)∧(B.length:Int)≤3
        ·rw [decide_eq_true g2] at u2
         have g3:((A.map partV++B.map partV).any fun z=>eqT z .non)=true:=by
          cases h:((A.map partV++B.map partV).any fun z=>eqT z .non) with
          | true=>rfl
          | false=>exact absurd ⟨g1,g2,h⟩ g
         rw [g3] at u3
         exact t_or_f (t_not u2) u3
        ·rw [decide_eq_false g2] at u2
         exact t_or_t (t_not u2)
       ·rw [decide_eq_false g1] at u1
        exact t_or_t (t_not u1)
      rw [Qz5 ((Qzs u).trans (Qz5 (Qz8 rfl)))]
      rcases no with no|⟨c,hk,e⟩
      ·rw [specC_no no]
      ·exfalso
       obtain ⟨_,rfl,rfl⟩:=found c hk e
       apply g
       rw [parts_no hk.l.parts,parts_no hk.r.parts,List.any_append,any_parts,any_parts,List.length_map,List.length_map]
       have:=hk.l.l1
       have:=hk.l.l3
       have:=hk.r.l1
       have:=hk.r.l3
       exact ⟨by omega,by omega,rfl⟩
    ·rw [decide_eq_false hc] at t2
     rw [Qz5 ((Qzs (t_or_f t1 t2)).trans (Qz5 (Qz8 rfl)))]
     rcases no with no|⟨c,h,e⟩
     ·rw [specC_no no]
     ·exfalso
      apply hc
      rw [e,cnt_words]
      have p:=ClaimOk.p60 (q:=W5) (by decide) h
      rw [List.count_eq_zero.mpr (ClaimOk.head_no h),List.count_eq_zero.mpr (by_no p.2)]
      rfl
   ·rw [Bool.eq_false_iff.mpr fun h=>hw ((wordVB_iff w).mp h)] at t1
    rw [Qz5 ((Qzs (t_or_t t1)).trans (Qz5 (Qz8 rfl)))]
    rcases no with no|⟨c,h,e⟩
    ·rw [specC_no no]
    ·rw [List.cons_append,List.cons.injEq] at e
     exact absurd (by rw [e.1];exact h.w) hw
 exact congrArg O.fin fin
end K10
end
section
set_option maxHeartbeats 800000
namespace PL
open PySem
theorem dats_int (n:Nat)(ns:List Int):datBs n (ns.map .int)=true:=Qx6 fun v hv=>by
 obtain ⟨z,_,rfl⟩:=List.mem_map.mp hv
 cases n <;> rfl
theorem noBs_int (ns:List Int):noBs (ns.map .int)=true:=noBs_of fun v hv=>by
 obtain ⟨z,_,rfl⟩:=List.mem_map.mp hv;rfl
theorem ints_inj {a b:List Int}:a.map Val.int=b.map Val.int↔a=b:=⟨fun h=>by
 have z:=congrArg intsOf h
 rw [K10.ints_of,K10.ints_of] at z
 exact Option.some.inj z,fun h=>by rw [h]⟩
theorem eq_ints (a b:List Int):cmV .eq (.lst (a.map .int)) (.lst (b.map .int))=some (decide (a=b)):=by
 rw [cm_eqT (v:=.lst (a.map .int)) (w:=.lst (b.map .int)) (show datBs 63 _=true from dats_int _ _) (show datBs 63 _=true from dats_int _ _)]
 refine congrArg some ?_
 rw [Bool.eq_iff_iff,eqT_iff (.lst (a.map .int)) (.lst (b.map .int)) (show noBs _=true from noBs_int a) (show noBs _=true from noBs_int b),decide_eq_true_iff,Val.lst.injEq,ints_inj]
theorem ss_lst {ns:List Int}(h:ns.length≤60):ssV (.lst (ns.map .int))=some (.lst ((sdd ns).map .int)):=by
 show (match intsOf (ns.map .int) with
  | some ns=>if ns.length≤60 then some (Val.lst ((sdd ns).map .int)) else none
  | none=>none)=_
 rw [K10.ints_of]
 exact if_pos h
theorem any_int (z:Int)(ns:List Int):((ns.map Val.int).any fun y=>eqF y (.int z))=decide (z∈ns):=by
 rw [List.any_map]
 show (ns.any fun y=>y == z)=_
 rw [Bool.eq_iff_iff,List.any_eq_true,decide_eq_true_iff]
 exact ⟨fun ⟨y,hy,e⟩=>by rw [← beq_iff_eq.mp e];exact hy,fun h=>⟨z,h,beq_self_eq_true z⟩⟩
theorem all_flatI (l:List Int):(l.map Val.int).all Qzh=true:=List.all_eq_true.mpr fun v hv=>by
 obtain ⟨w,_,rfl⟩:=List.mem_map.mp hv;rfl
theorem nlO_ne {w:PySem.Str}(h:nlO w ≠ -1):0≤nlO w:=by
 unfold nlO at h ⊢
 cases e:numO w with
 | none=>rw [e] at h;exact absurd rfl h
 | some m=>exact (numO_some e).1
theorem marks_plain:Plain 5 ("marks" : PySem.Str):=⟨by decide +kernel,by decide +kernel⟩
theorem map_mk {ws:List PySem.Str}(h:∀ w∈ws,nlO w ≠ -1):(ws.map nlO).map mkS=ws:=by
 rw [List.map_map]
 have:∀ w∈ws,(mkS ∘ nlO) w=id w:=fun w hw=>(nlO_some (nlO_ne (h w hw))).2.1
 rw [List.map_congr_left this,List.map_id]
theorem map_nl {q:List Int}(h:MarksOk q):(q.map mkS).map nlO=q:=by
 rw [List.map_map]
 have:∀ m∈q,(nlO ∘ mkS) m=id m:=fun m hm=>nlO_mk (h m hm).1 (h m hm).2
 rw [List.map_congr_left this,List.map_id]
theorem map_nv {q:List Int}(h:MarksOk q):(q.map mkS).map nvO=q.map .int:=by
 rw [List.map_map]
 exact List.map_congr_left fun m hm=>by
  show nvO (mkS m)=_
  unfold nvO
  rw [numO_mk (h m hm).1 (h m hm).2]
end PL
namespace K10
open PySem PL
noncomputable def specP (line:PySem.Str):Val:=open Classical in if h:∃ q,PicOk q∧Qz4 q=line then picV (Classical.choose h) else .non
theorem pline_inj {q r:List Int}(hq:PicOk q)(hr:PicOk r)(h:Qz4 q=Qz4 r):q=r:=by
 have z:Txt.split (Qz4 q) " " = Txt.split (Qz4 r) " " := by rw [h]
 rw [line_split hq.marks,line_split hr.marks,List.cons.injEq] at z
 have y:=congrArg (List.map nlO) z.2
 rw [map_nl hq.marks,map_nl hr.marks] at y
 exact y
theorem specP_of {q:List Int}(h:PicOk q):specP (Qz4 q)=picV q:=by
 have k:∃ r,PicOk r∧Qz4 r=Qz4 q:=⟨q,h,rfl⟩
 unfold specP
 rw [dif_pos k]
 have z:=Classical.choose_spec k
 rw [pline_inj z.1 h z.2]
theorem specP_no {line:PySem.Str}(h:¬∃ q,PicOk q∧Qz4 q=line):specP line=.non:=by
 unfold specP
 rw [dif_neg h]
theorem s_read_pic (d:Nat){line:PySem.Str}{n:Nat}(hn:n≤900)(hp:Plain n line)(κ:Ks):(cb tab (d+3)).cf 13 [.v (.str line)] κ=.ok (specP line,κ):=by
 rw [Qqf _ _ _ _ _ rfl rfl]
 have sp:=split_ok (x:=line) tl_sp (by decide)
 have sm:=sm_splitP tl_sp hp (Nat.le_trans hn (by decide))
 have pw:=sp.plain hp
 have lw:=sp.len
 have ln:=hp.len
 have no:(¬∃ q,PicOk q∧Qz4 q=line)∨∃ q,PicOk q∧Qz4 q=line∧Txt.split line " " = ("marks" : PySem.Str)::q.map mkS:=by
  by_cases h:∃ q,PicOk q∧Qz4 q=line
  ·obtain ⟨q,h,rfl⟩:=h
   exact .inr ⟨q,h,rfl,line_split h.marks⟩
  ·exact .inl h
 cases ews:Txt.split line " " with
 | nil=>exact absurd ews sp.ne
 | cons w ws=>
  rw [ews] at pw lw no sm
  have e0:evE (cb tab (d+2)) (.sl (.sm .split (.var 0) (.con (.str " "))) (.yes (.con (.int (1)))) .no) [some (.val (.str line)),none,none] κ=.ok (.lst (ws.map .str),κ):=
   ev_slE (ev_splitL rfl sm) (ev_oY rfl) rfl (by
    have:=sl_froml (l:=(w::ws).map Val.str) (i:=1) (by simp)
    exact this)
  have lws:ws.length≤901:=by simp only [List.length_cons] at lw;omega
  have c1:=ev_compM (c:=cb tab (d+2)) (ee:=.call 10 (.cons (.var 2) .nil)) (tg:=.nm 2) (it:=.seq (.sl (.sm .split (.var 0) (.con (.str " "))) (.yes (.con (.int (1)))) .no)) (own:=[2]) (ρ:=[some (.val (.str line)),none,none]) (κ:=κ) (l:=ws) (a:=Val.str) (h:=nvO) (it_seq e0 rfl) (Nat.lt_of_le_of_lt lws (by decide)) fun m hm=>
   ⟨[some (.val (.str line)),none,some (.val (.str m))],rfl,Qqd rfl (s_win (d+1) (pw m (List.mem_cons_of_mem _ hm)).ok κ)⟩
  have c2:evE (cb tab (d+2)) (.bi .tuple (.cons (.comp (.call 10 (.cons (.var 2) .nil)) (.nm 2) (.seq (.sl (.sm .split (.var 0) (.con (.str " "))) (.yes (.con (.int (1)))) .no)) .no [2]) .nil)) [some (.val (.str line)),none,none] κ=.ok (.tup (ws.map nvO),κ):=ev_bi1 c1 rfl
  have dv:datB 20 (.tup (ws.map nvO))=true:=Qx6 fun v hv=>by
   obtain ⟨z,_,rfl⟩:=List.mem_map.mp hv
   exact nvO_dat _ _
  have r1:=b_pic d (v:=.tup (ws.map nvO)) κ dv
  have fin:exSs (cb tab (d+2)) ir_read_picture [some (.val (.str line)),none,none] κ=.ret (specP line) κ:=by
   unfold ir_read_picture
   rw [Qz3 (Qzp c2)]
   refine Qz5 (Qz8 ?_)
   have t1:evT (cb tab (d+2)) (.val (.call 1 (.cons (.var 1) .nil))) [some (.val (.str line)),some (.val (.tup (ws.map nvO))),none] κ=.ok (picB (.tup (ws.map nvO)),κ):=t_val (Qqd rfl r1)
   have found:∀ q,PicOk q→Qz4 q=line→Val.tup (ws.map nvO)=picV q:=fun q hq e=>by
    have z:=line_split hq.marks
    rw [e,ews,List.cons.injEq] at z
    rw [z.2,map_nv hq.marks]
    rfl
   by_cases hc:picB (.tup (ws.map nvO))=true
   ·rw [hc] at t1
    have hc':((decide ((3:Int)≤(ws.map nvO).length)&&decide (((ws.map nvO).length:Int)≤5))&&((ws.map nvO).all (Qzw · 0 60)&&(match intsOf (ws.map nvO) with
  | some ns=>decide (ns[0]? = some 0)&&decide (sdd ns=ns)
  | none=>false)))=true:=hc
    obtain ⟨q,eq,_⟩:=wholes_ints (Bool.and_eq_true_iff.mp (Bool.and_eq_true_iff.mp hc').2).1
    have eq:Val.tup (ws.map nvO)=picV q:=by rw [eq];rfl
    rw [eq] at hc t1 ⊢
    have ok:=ok_picB hc
    have p1:=s_pline (d+1) ok.marks ok.l5 κ
    have t2:evT (cb tab (d+2)) (.cm .eq (.call 7 (.cons (.var 1) .nil)) (.var 0)) [some (.val (.str line)),some (.val (picV q)),none] κ=.ok (decide (Qz4 q=line),κ):=t_cm (u:=.str (Qz4 q)) (w:=.str line) (Qqd rfl p1) rfl (str_eqd (line_ok ok.marks) hp.ok)
    by_cases el:Qz4 q=line
    ·rw [decide_eq_true el] at t2
     refine ev_ite_t (t_and_t t1 t2) ?_
     rw [← el,specP_of ok]
     rfl
    ·rw [decide_eq_false el] at t2
     refine ev_ite_f (t_and_t t1 t2) ?_
     rw [specP_no]
     ·rfl
     ·rintro ⟨r,hr,er⟩
      have f:=found r hr er
      rw [eq] at f
      have f:=Val.tup.inj f
      rw [ints_inj.mp f] at el
      exact el er
   ·rw [Bool.eq_false_iff.mpr hc] at t1
    refine ev_ite_f (t_and_f t1) ?_
    rw [specP_no]
    ·rfl
    ·rintro ⟨r,hr,er⟩
     rw [found r hr er] at hc
     exact hc (picB_ok hr)
  exact congrArg O.fin fin
abbrev lmR (line:PySem.Str)(e1 e2:Option PL.Slot):Rho:=[some (.val (.str line)),e1,e2,none]
theorem s_lmarks (d:Nat){line:PySem.Str}{n:Nat}(hn:n≤900)(hp:Plain n line)(κ:Ks):(cb tab (d+2)).cf 32 [.v (.str line)] κ=.ok (specP line,κ):=by
 rw [Qqf _ _ _ _ _ rfl rfl]
 have sp:=split_ok (x:=line) tl_sp (by decide)
 have sm:=sm_splitP tl_sp hp (Nat.le_trans hn (by decide))
 have pw:=sp.plain hp
 have lw:=sp.len
 have ln:=hp.len
 have sj:=sp.join
 have no:(¬∃ q,PicOk q∧Qz4 q=line)∨∃ q,PicOk q∧Txt.split line " " = ("marks" : PySem.Str)::q.map mkS:=by
  by_cases h:∃ q,PicOk q∧Qz4 q=line
  ·obtain ⟨q,h,rfl⟩:=h
   exact .inr ⟨q,h,line_split h.marks⟩
  ·exact .inl h
 cases ews:Txt.split line " " with
 | nil=>exact absurd ews sp.ne
 | cons w ws=>
  rw [ews] at pw lw no sm sj
  have lws:ws.length≤901:=by simp only [List.length_cons] at lw;omega
  have e0:evE (cb tab (d+1)) (.sm .split (.var 0) (.con (.str " "))) (lmR line none none) κ=.ok (.lst ((w::ws).map .str),κ):=ev_splitL rfl sm
  have e1:evE (cb tab (d+1)) (.sl (.var 1) (.yes (.con (.int (1)))) .no) (lmR line (some (.val (.lst ((w::ws).map .str)))) none) κ=.ok (.lst (ws.map .str),κ):=
   ev_slE (u:=.lst ((w::ws).map .str)) rfl (ev_oY rfl) rfl (by
    have:=sl_froml (l:=(w::ws).map Val.str) (i:=1) (by simp)
    exact this)
  have c1:=ev_compM (c:=cb tab (d+1)) (ee:=.call 31 (.cons (.var 3) .nil)) (tg:=.nm 3) (it:=.seq (.sl (.var 1) (.yes (.con (.int (1)))) .no)) (own:=[3]) (ρ:=lmR line (some (.val (.lst ((w::ws).map .str)))) none) (κ:=κ) (l:=ws) (a:=Val.str) (h:=fun x=>Val.int (nlO x)) (it_seq e1 rfl) (Nat.lt_of_le_of_lt lws (by decide)) fun m hm=>
   ⟨[some (.val (.str line)),some (.val (.lst ((w::ws).map .str))),none,some (.val (.str m))],rfl,Qqd rfl (s_number d (pw m (List.mem_cons_of_mem _ hm)).ok κ)⟩
  have em:(ws.map fun x=>Val.int (nlO x))=(ws.map nlO).map .int:=by rw [List.map_map];rfl
  rw [em] at c1
  have fin:exSs (cb tab (d+1)) ir__law_marks (lmR line none none) κ=.ret (specP line) κ:=by
   unfold ir__law_marks
   refine (Qz3 (Qzp e0)).trans ((Qz3 (Qzp c1)).trans ?_)
   have found:∀ q,PicOk q→w::ws=("marks" : PySem.Str)::q.map mkS→w = "marks" ∧ ws.map nlO=q:=fun q hq e=>by
    rw [List.cons.injEq] at e
    refine ⟨e.1,?_⟩
    rw [e.2,map_nl hq.marks]
   generalize eN:ws.map nlO=N at *
   have lN:N.length=ws.length:=by rw [← eN,List.length_map]
   show exSs (cb tab (d+1)) _ (lmR line (some (.val (.lst ((w::ws).map .str)))) (some (.val (.lst (N.map .int))))) κ=_
   have x0:evE (cb tab (d+1)) (.ix (.var 1) (.con (.int (0)))) (lmR line (some (.val (.lst ((w::ws).map .str)))) (some (.val (.lst (N.map .int))))) κ=.ok (.str w,κ):=ev_ixE (u:=.lst ((w::ws).map .str)) (w:=.int 0) rfl rfl (ix_lst (by show L2.atI (Val.str w::ws.map Val.str) ((0:Nat):Int)=_;rw [atI_nat (by simp)];rfl))
   have t1:evT (cb tab (d+1)) (.cm .ne (.ix (.var 1) (.con (.int (0)))) (.con (.str "marks"))) (lmR line (some (.val (.lst ((w::ws).map .str)))) (some (.val (.lst (N.map .int))))) κ=.ok (!decide (w = "marks"),κ):=t_cm (w:=.str "marks") x0 rfl (str_ned (pw w List.mem_cons_self).ok marks_plain.ok)
   have xl:evE (cb tab (d+1)) (.bi .len (.cons (.var 2) .nil)) (lmR line (some (.val (.lst ((w::ws).map .str)))) (some (.val (.lst (N.map .int))))) κ=.ok (.int (N.map Val.int).length,κ):=ev_bi1 (o:=.len) (a:=.var 2) (u:=.lst (N.map .int)) rfl rfl
   have t2:=t_chain2 (e:=.con (.int 5)) (z:=5) (x:=3) (a:=.con (.int 3)) rfl xl rfl
   rw [List.length_map] at t2
   have bad:∀ t:T,evT (cb tab (d+1)) t (lmR line (some (.val (.lst ((w::ws).map .str)))) (some (.val (.lst (N.map .int))))) κ=.ok (true,κ)→(¬∃ q,PicOk q∧Qz4 q=line)→∀ l:Ss,exSs (cb tab (d+1)) (.cons (.ite t (.cons (.ret (.con (.non))) .nil) .nil) l) (lmR line (some (.val (.lst ((w::ws).map .str)))) (some (.val (.lst (N.map .int))))) κ=.ret (specP line) κ:=fun t ht h l=>by
    rw [Qz5 ((Qzs ht).trans (Qz5 (Qz8 rfl))),specP_no h]
   by_cases hw:w = "marks"
   ·rw [decide_eq_true hw] at t1
    by_cases h35:3≤(N.length:Int)∧(N.length:Int)≤5
    ·rw [decide_eq_true h35] at t2
     obtain ⟨m,ms,rfl⟩:∃ m ms,N=m::ms:=by
      cases N with
      | nil=>simp at h35
      | cons m ms=>exact ⟨m,ms,rfl⟩
     have x3:evE (cb tab (d+1)) (.ix (.var 2) (.con (.int (0)))) (lmR line (some (.val (.lst ((w::ws).map .str)))) (some (.val (.lst ((m::ms).map .int))))) κ=.ok (.int m,κ):=ev_ixE (u:=.lst ((m::ms).map .int)) (w:=.int 0) rfl rfl (ix_lst (by show L2.atI (Val.int m::ms.map Val.int) ((0:Nat):Int)=_;rw [atI_nat (by simp)];rfl))
     have t3:evT (cb tab (d+1)) (.cm .ne (.ix (.var 2) (.con (.int (0)))) (.con (.int (0)))) (lmR line (some (.val (.lst ((w::ws).map .str)))) (some (.val (.lst ((m::ms).map .int))))) κ=.ok (!decide (m=0),κ):=t_cm (w:=.int 0) x3 rfl (Qqz _ _)
     by_cases hm:m=0
     ·rw [decide_eq_true hm] at t3
      rw [Qz3 ((ite_no (t_or_f t1 (t_or_f (t_not t2) t3))).trans rfl)]
      have t4:evT (cb tab (d+1)) (.cm .notin (.neg (.con (.int (1)))) (.var 2)) (lmR line (some (.val (.lst ((w::ws).map .str)))) (some (.val (.lst ((m::ms).map .int))))) κ=.ok (!decide ((-1:Int)∈m::ms),κ):=t_cm (u:=.int (-1)) (w:=.lst ((m::ms).map .int)) rfl rfl (by rw [notin_l rfl (all_flatI _),any_int])
      have x5:evE (cb tab (d+1)) (.sset (.var 2)) (lmR line (some (.val (.lst ((w::ws).map .str)))) (some (.val (.lst ((m::ms).map .int))))) κ=.ok (.lst ((sdd (m::ms)).map .int),κ):=by
       show R.ofO ((ssV (.lst ((m::ms).map .int))).map fun v=>(v,κ))=_
       rw [ss_lst (by omega)]
       rfl
      have t5:evT (cb tab (d+1)) (.cm .eq (.sset (.var 2)) (.var 2)) (lmR line (some (.val (.lst ((w::ws).map .str)))) (some (.val (.lst ((m::ms).map .int))))) κ=.ok (decide (sdd (m::ms)=m::ms),κ):=t_cm (w:=.lst ((m::ms).map .int)) x5 rfl (eq_ints _ _)
      refine Qz5 (Qz8 ?_)
      by_cases g:(-1:Int) ∉ m::ms∧sdd (m::ms)=m::ms
      ·rw [decide_eq_false g.1] at t4
       rw [decide_eq_true g.2] at t5
       refine ev_ite_t (t_and_t t4 t5) ?_
       have nn:∀ v∈ws,nlO v ≠ -1:=fun v hv e=>g.1 (by rw [← eN,← e];exact List.mem_map.mpr ⟨v,hv,rfl⟩)
       have ok:PicOk (m::ms):=⟨by omega,by omega,by rw [hm];rfl,(adj_sdd _).mp g.2,fun z hz=>by
        rw [← eN] at hz
        obtain ⟨v,hv,rfl⟩:=List.mem_map.mp hz
        have:=nlO_ne (nn v hv)
        exact ⟨this,(nlO_some this).1⟩⟩
       have el:Qz4 (m::ms)=line:=by
        unfold Qz4
        rw [← eN,map_mk nn,← hw]
        exact sj
       rw [← el,specP_of ok]
       exact ev_bi1 (u:=.lst ((m::ms).map .int)) rfl rfl
      ·have u:evT (cb tab (d+1)) (.and (.cm .notin (.neg (.con (.int (1)))) (.var 2)) (.cm .eq (.sset (.var 2)) (.var 2))) (lmR line (some (.val (.lst ((w::ws).map .str)))) (some (.val (.lst ((m::ms).map .int))))) κ=.ok (false,κ):=by
        by_cases g1:(-1:Int)∈m::ms
        ·rw [decide_eq_true g1] at t4
         exact t_and_f t4
        ·rw [decide_eq_false g1] at t4
         rw [decide_eq_false (fun h=>g ⟨g1,h⟩)] at t5
         exact t_and_t t4 t5
       refine ev_ite_f u ?_
       rcases no with no|⟨q,hq,e⟩
       ·rw [specP_no no];rfl
       ·exfalso
        obtain ⟨_,rfl⟩:=found q hq e
        exact g ⟨fun h=>by have:=(hq.marks _ h).1;omega,(adj_sdd _).mpr hq.asc⟩
     ·rw [decide_eq_false hm] at t3
      rcases no with no|⟨q,hq,e⟩
      ·exact bad _ (t_or_f t1 (t_or_f (t_not t2) t3)) no _
      ·exfalso
       obtain ⟨_,rfl⟩:=found q hq e
       have:=hq.head
       exact hm (by simpa using this)
    ·rw [decide_eq_false h35] at t2
     rcases no with no|⟨q,hq,e⟩
     ·exact bad _ (t_or_f t1 (t_or_t (t_not t2))) no _
     ·exfalso
      obtain ⟨_,rfl⟩:=found q hq e
      have:=hq.l3
      have:=hq.l5
      exact h35 ⟨by omega,by omega⟩
   ·rw [decide_eq_false hw] at t1
    rcases no with no|⟨q,hq,e⟩
    ·exact bad _ (t_or_t t1) no _
    ·exact absurd (found q hq e).1 hw
  exact congrArg O.fin fin
end K10
end
section
set_option maxHeartbeats 800000
namespace PL
open PySem
theorem enum_at (l:List Val)(i:Nat):(enumL l)[i]? = (l[i]?).map fun x=>.tup [.int (i:Nat),x]:=by
 unfold enumL
 rw [List.getElem?_map]
 cases h:l[i]? with
 | none=>
  have hl:=List.getElem?_eq_none_iff.mp h
  rw [List.getElem?_eq_none_iff.mpr (by rw [List.length_zip,List.length_range,Nat.min_self];exact hl)]
  rfl
 | some x=>
  have hl:=(List.getElem?_eq_some_iff.mp h).1
  rw [List.getElem?_zip_eq_some (z:=(i,x)) |>.mpr ⟨List.getElem?_range hl,h⟩]
  rfl
theorem it_enum {c:CB}{e:E}{ρ:Rho}{κ κ1:Ks}{v:Val}{l:List Val}(h:bw e ρ κ (evE c e ρ κ)=.ok (v,κ1))(hi:itemsV v=some l):evI c (.enum e) ρ κ=.ok (enumL l,κ1):=by
 show (bw e ρ κ (evE c e ρ κ)).bind _=_
 rw [h,R.bind_ok]
 show R.ofO ((itemsV v).map _)=_
 rw [hi]
 rfl
theorem enum_len (l:List Val):(enumL l).length=l.length:=by
 unfold enumL
 rw [List.length_map,List.length_zip,List.length_range,Nat.min_self]
theorem loopL_stop {f:Val→Rho→Ks→O}{o:O}(ho:∀ g,o.then g=o):∀ {j:Nat} {l:List Val} {I:Nat→Rho→Ks→Prop} {ρ:Rho} {κ:Ks},j<l.length→I 0 ρ κ→(∀ i v ρ κ,i<j→l[i]? = some v→I i ρ κ→∃ ρ' κ',f v ρ κ=.nx ρ' κ'∧I (i+1) ρ' κ')→(∀ v ρ κ,l[j]? = some v→I j ρ κ→f v ρ κ=o)→loopL l f ρ κ=o:=fun {j}=>by
 induction j with
 | zero=>
  intro l I ρ κ hj h0 _ hv
  cases l with
  | nil=>cases hj
  | cons v l=>
   show (f v ρ κ).then _=o
   rw [hv v ρ κ rfl h0,ho]
 | succ j ih=>
  intro l I ρ κ hj h0 st hv
  cases l with
  | nil=>cases hj
  | cons v l=>
   obtain ⟨ρ',κ',e,h⟩:=st 0 v ρ κ (Nat.zero_lt_succ _) rfl h0
   show (f v ρ κ).then _=o
   rw [e]
   show loopL l f ρ' κ'=o
   exact ih (I:=fun i=>I (i+1)) (Nat.lt_of_succ_lt_succ hj) h (fun i u ρ κ hi hu hI=>st (i+1) u ρ κ (Nat.succ_lt_succ hi) hu hI) (fun u ρ κ hu hI=>hv u ρ κ hu hI)
end PL
namespace K10
open PySem PL
theorem par_dat (l:List Part):datB 50 (parV l)=true:=Qx6 fun v hv=>by
 obtain ⟨x,_,e⟩:=List.mem_map.mp hv
 rw [← e];rfl
theorem clm_dat {c:Clm}(h:WordOk c.w):datB 52 (Clm.v c)=true:=by
 show (PyData.strOk c.w&&(datB 51 (parV c.l)&&(datB 51 (parV c.r)&&true)))=true
 have w:PyData.strOk c.w=true:=by rcases h with e|e|e <;> rw [e] <;> decide +kernel
 rw [w,datB_mono (n:=50) _ (by decide) (par_dat c.l),datB_mono (n:=50) _ (by decide) (par_dat c.r)]
 rfl
theorem spec_cases (x:PySem.Str):specC x=.non∨∃ c,ClaimOk W5 c∧lineC c=x:=by
 by_cases h:∃ c,ClaimOk W5 c∧lineC c=x
 ·exact .inr h
 ·exact .inl (specC_no h)
theorem lines_cases:∀ ls:List PySem.Str,(∃ cs:List Clm,ls=cs.map lineC∧∀ c∈cs,ClaimOk W5 c)∨∃ (cs:List Clm) (bad:PySem.Str) (rest:List PySem.Str),ls=cs.map lineC++bad::rest∧(∀ c∈cs,ClaimOk W5 c)∧specC bad=.non
 | []=>.inl ⟨[],rfl,fun c h=>by cases h⟩
 | x::ls=>by
  rcases spec_cases x with h|⟨c,hc,rfl⟩
  ·exact .inr ⟨[],x,ls,rfl,(fun c h=>by cases h),h⟩
  ·rcases lines_cases ls with ⟨cs,rfl,hs⟩|⟨cs,bad,rest,rfl,hs,hb⟩
   ·exact .inl ⟨c::cs,rfl,fun e he=>by
     rcases List.mem_cons.mp he with h|h
     ·rw [h];exact hc
     ·exact hs e h⟩
   ·exact .inr ⟨c::cs,bad,rest,rfl,fun e he=>by
     rcases List.mem_cons.mp he with h|h
     ·rw [h];exact hc
     ·exact hs e h,hb⟩
abbrev rrB:Ss:=(.cons (.set 6 (.call 12 (.cons (.var 5) .nil)))
 (.cons (.ite (.cm .is_ (.var 6) (.con (.non))) (.cons (.raised 0 (.op .add (.var 4) (.con (.int (2)))))
 .nil) .nil)
 (.cons (.set 3 (.op .add (.var 3) (.tup (.cons (.var 6) .nil))))
 .nil)))
abbrev rrR (t:PySem.Str)(e1 e2 e3 e4 e5 e6:Option PL.Slot):Rho:=[some (.val (.str t)),e1,e2,e3,e4,e5,e6]
theorem rr_step (d:Nat){t:PySem.Str}{e1 e2 e6:Option PL.Slot}{F:List Val}{c:Clm}{i:Nat}(ok:ClaimOk W5 c)(hF:F.length≤950)(κ:Ks):exSs (cb tab (d+4)) rrB (rrR t e1 e2 (some (.val (.tup F))) (some (.val (.int (i:Nat)))) (some (.val (.str (lineC c)))) e6) κ=.nx (rrR t e1 e2 (some (.val (.tup (F++[Clm.v c])))) (some (.val (.int (i:Nat)))) (some (.val (.str (lineC c)))) (some (.val (Clm.v c)))) κ:=by
 have r:=s_read_claim d (n:=100) (by decide) (lineC_plain ok) κ
 rw [specC_of ok] at r
 have x:evE (cb tab (d+4)) (.call 12 (.cons (.var 5) .nil)) (rrR t e1 e2 (some (.val (.tup F))) (some (.val (.int (i:Nat)))) (some (.val (.str (lineC c)))) e6) κ=.ok (Clm.v c,κ):=Qqd rfl r
 refine (Qz3 (Qzp x)).trans ?_
 have t1:evT (cb tab (d+4)) (.cm .is_ (.var 6) (.con (.non))) (rrR t e1 e2 (some (.val (.tup F))) (some (.val (.int (i:Nat)))) (some (.val (.str (lineC c)))) (some (.val (Clm.v c)))) κ=.ok (false,κ):=rfl
 refine (Qz3 ((ite_no t1).trans rfl)).trans ?_
 have y:evE (cb tab (d+4)) (.op .add (.var 3) (.tup (.cons (.var 6) .nil))) (rrR t e1 e2 (some (.val (.tup F))) (some (.val (.int (i:Nat)))) (some (.val (.str (lineC c)))) (some (.val (Clm.v c)))) κ=.ok (.tup (F++[Clm.v c]),κ):=ev_op (o:=.add) (u:=.tup F) (w:=.tup [Clm.v c]) rfl rfl (op_tup (by show F.length+1≤1000;omega))
 exact (Qz3 (Qzp y)).trans rfl
theorem rr_bad (d:Nat){t bad:PySem.Str}{n:Nat}{e1 e2 e3 e6:Option PL.Slot}{i:Nat}(hb:specC bad=.non)(hn:n≤900)(hp:Plain n bad)(hi:i+2<1000)(κ:Ks):exSs (cb tab (d+4)) rrB (rrR t e1 e2 e3 (some (.val (.int (i:Nat)))) (some (.val (.str bad))) e6) κ=.exc (1000+(i+2)) .non κ:=by
 have r:=s_read_claim d hn hp κ
 rw [hb] at r
 have x:evE (cb tab (d+4)) (.call 12 (.cons (.var 5) .nil)) (rrR t e1 e2 e3 (some (.val (.int (i:Nat)))) (some (.val (.str bad))) e6) κ=.ok (.non,κ):=Qqd rfl r
 refine (Qz3 (Qzp x)).trans ?_
 have t1:evT (cb tab (d+4)) (.cm .is_ (.var 6) (.con (.non))) (rrR t e1 e2 e3 (some (.val (.int (i:Nat)))) (some (.val (.str bad))) (some (.val .non))) κ=.ok (true,κ):=rfl
 have z:exS (cb tab (d+4)) (.raised 0 (.op .add (.var 4) (.con (.int (2))))) (rrR t e1 e2 e3 (some (.val (.int (i:Nat)))) (some (.val (.str bad))) (some (.val .non))) κ=.exc (1000+(i+2)) .non κ:=by
  show (if 0≤((i:Int)+2)∧((i:Int)+2)<1000 then O.exc (1000*(0+1)+((i:Int)+2).toNat) .non κ else .bad)=_
  rw [if_pos (by omega)]
  have:((i:Int)+2).toNat=i+2:=by omega
  rw [this]
 exact ss_exc ((Qzs t1).trans (ss_exc z))
def roadV (q:List Int)(cs:List Clm):Val:=.tup [picV q,Qqx cs]
theorem raise_at {c:CB}{e:E}{ρ:Rho}{κ:Ks}{n:Nat}(h:evE c e ρ κ=.ok (.int (n:Nat),κ))(hn:n<1000):exS c (.raised 0 e) ρ κ=.exc (1000+n) .non κ:=by
 show (evE c e ρ κ).toO _=_
 rw [h]
 show (if 0≤(n:Int)∧(n:Int)<1000 then O.exc (1000*(0+1)+(n:Int).toNat) .non κ else .bad)=_
 rw [if_pos (by omega)]
 rfl
section
variable (d:Nat){t:PySem.Str}{n:Nat}(hn:n≤900)(hp:Plain n t)(κ:Ks)
include hn hp
theorem rr_pre {l0:PySem.Str}{ls:List PySem.Str}(hs:Txt.split t "\n" = l0::ls):ls.length≤900∧(∀ z∈l0::ls,Plain n z)∧exS (cb tab (d+4)) (.ite (.not (.val (.isi .str (.var 0)))) (.cons (.raised 0 (.con (.int (0))))
 .nil) .nil) (rrR t none none none none none none) κ=.nx (rrR t none none none none none none) κ∧exS (cb tab (d+4)) (.set 1 (.sm .split (.var 0) (.con (.str "\n")))) (rrR t none none none none none none) κ=.nx (rrR t (some (.val (.lst ((l0::ls).map .str)))) none none none none none) κ∧exS (cb tab (d+4)) (.set 2 (.call 13 (.cons (.ix (.var 1) (.con (.int (0)))) .nil))) (rrR t (some (.val (.lst ((l0::ls).map .str)))) none none none none none) κ=.nx (rrR t (some (.val (.lst ((l0::ls).map .str)))) (some (.val (specP l0))) none none none none) κ:=by
 have sp:=split_ok (x:=t) tl_nl (by decide)
 have sm:=sm_splitP tl_nl hp (Nat.le_trans hn (by decide))
 have pw:=sp.plain hp
 have lw:=sp.len
 have ln:=hp.len
 rw [hs] at sm pw lw
 refine ⟨by simp only [List.length_cons] at lw;omega,pw,(ite_no rfl).trans rfl,Qzp (ev_splitL rfl sm),?_⟩
 have x0:evE (cb tab (d+4)) (.ix (.var 1) (.con (.int (0)))) (rrR t (some (.val (.lst ((l0::ls).map .str)))) none none none none none) κ=.ok (.str l0,κ):=ev_ixE (u:=.lst ((l0::ls).map .str)) (w:=.int 0) rfl rfl (ix_lst (by show L2.atI (Val.str l0::ls.map Val.str) ((0:Nat):Int)=_;rw [atI_nat (by simp)];rfl))
 exact Qzp (Qqd (Qzj x0 eva_nil) (s_read_pic (d+1) hn (pw l0 List.mem_cons_self) κ))
theorem rr_A {l0:PySem.Str}{ls:List PySem.Str}(hs:Txt.split t "\n" = l0::ls)(h0:specP l0=.non):(cb tab (d+5)).cf 15 [.v (.str t)] κ=.exc 1001 .non κ:=by
 rw [Qqf _ _ _ _ _ rfl rfl]
 obtain ⟨_,_,p1,p2,p3⟩:=rr_pre d hn hp κ hs
 rw [h0] at p3
 have fin:exSs (cb tab (d+4)) ir_read_road (rrR t none none none none none none) κ=.exc 1001 .non κ:=by
  unfold ir_read_road
  rw [Qz3 p1,Qz3 p2,Qz3 p3]
  exact ss_exc ((Qzs rfl).trans (ss_exc (raise_at (n:=1) rfl (by decide))))
 exact congrArg O.fin fin
theorem rr_pre2 {q:List Int}{ls:List PySem.Str}(hq:PicOk q)(hs:Txt.split t "\n" = Qz4 q::ls){o:O}(h:exSs (cb tab (d+4)) (.cons (.loop (.tp (.cons (.nm 4) (.cons (.nm 5) .nil))) (.enum (.sl (.var 1) (.yes (.con (.int (1)))) .no)) rrB) (.cons (.ite (.not (.val (.call 4 (.cons (.var 2) (.cons (.var 3) .nil))))) (.cons (.raised 0 (.op .add (.bi .len (.cons (.var 1) .nil)) (.con (.int (1)))))
 .nil) .nil)
 (.cons (.ret (.tup (.cons (.var 2) (.cons (.var 3) .nil))))
 .nil))) (rrR t (some (.val (.lst ((Qz4 q::ls).map .str)))) (some (.val (picV q))) (some (.val (.tup []))) none none none) κ=o):exSs (cb tab (d+4)) ir_read_road (rrR t none none none none none none) κ=o:=by
 obtain ⟨_,_,p1,p2,p3⟩:=rr_pre d hn hp κ hs
 rw [specP_of hq] at p3
 unfold ir_read_road
 rw [Qz3 p1,Qz3 p2,Qz3 p3]
 have t1:evT (cb tab (d+4)) (.cm .is_ (.var 2) (.con (.non))) (rrR t (some (.val (.lst ((Qz4 q::ls).map .str)))) (some (.val (picV q))) none none none none) κ=.ok (false,κ):=rfl
 refine (Qz3 ((ite_no t1).trans rfl)).trans ?_
 have s3:exS (cb tab (d+4)) (.set 3 (.tup .nil)) (rrR t (some (.val (.lst ((Qz4 q::ls).map .str)))) (some (.val (picV q))) none none none none) κ=.nx (rrR t (some (.val (.lst ((Qz4 q::ls).map .str)))) (some (.val (picV q))) (some (.val (.tup []))) none none none) κ:=rfl
 rw [Qz3 s3]
 exact h
omit hn hp in
theorem rr_it {l0:PySem.Str}{ls:List PySem.Str}{e2 e3 e4 e5 e6:Option PL.Slot}(D:Nat):evI (cb tab D) (.enum (.sl (.var 1) (.yes (.con (.int (1)))) .no)) (rrR t (some (.val (.lst ((l0::ls).map .str)))) e2 e3 e4 e5 e6) κ=.ok (enumL (ls.map .str),κ):=by
 have x:evE (cb tab D) (.sl (.var 1) (.yes (.con (.int (1)))) .no) (rrR t (some (.val (.lst ((l0::ls).map .str)))) e2 e3 e4 e5 e6) κ=.ok (.lst (ls.map .str),κ):=ev_slE (u:=.lst ((l0::ls).map .str)) rfl (ev_oY rfl) rfl (by
  have:=sl_froml (l:=(l0::ls).map Val.str) (i:=1) (by simp)
  exact this)
 exact it_enum x rfl
theorem rr_B1 {q:List Int}{cs:List Clm}{bad:PySem.Str}{rest:List PySem.Str}(hq:PicOk q)(hs:Txt.split t "\n" = Qz4 q::(cs.map lineC++bad::rest))(hc:∀ c∈cs,ClaimOk W5 c)(hb:specC bad=.non):(cb tab (d+5)).cf 15 [.v (.str t)] κ=.exc (1000+(cs.length+2)) .non κ:=by
 rw [Qqf _ _ _ _ _ rfl rfl]
 obtain ⟨lls,pw,_⟩:=rr_pre d hn hp κ hs
 have lcs:cs.length+1≤900:=by simp only [List.length_append,List.length_cons,List.length_map] at lls;omega
 suffices fin:exSs (cb tab (d+4)) ir_read_road (rrR t none none none none none none) κ=.exc (1000+(cs.length+2)) .non κ from congrArg O.fin fin
 refine rr_pre2 d hn hp κ hq hs (ss_exc (loop_of (rr_it κ (d+4)) ?_))
 refine loopL_stop (fun g=>rfl) (j:=cs.length) (I:=fun i ρ k=>κ=k∧∃ e4 e5 e6,ρ=rrR t (some (.val (.lst ((Qz4 q::(cs.map lineC++bad::rest)).map .str)))) (some (.val (picV q))) (some (.val (.tup ((cs.take i).map Clm.v)))) e4 e5 e6) (by rw [enum_len,List.length_map,List.length_append,List.length_map,List.length_cons];omega) ⟨rfl,none,none,none,rfl⟩ ?_ ?_
 ·rintro i v ρ k hi hv ⟨rfl,e4,e5,e6,rfl⟩
  have hci:cs[i]? = some cs[i]:=List.getElem?_eq_getElem hi
  rw [enum_at,List.getElem?_map,List.getElem?_append_left (by rw [List.length_map];exact hi),List.getElem?_map,hci] at hv
  cases hv
  have tk:cs.take (i+1)=cs.take i++[cs[i]]:=by rw [List.take_succ,hci];rfl
  refine ⟨_,κ,rr_step d (hc _ (List.getElem_mem hi)) (by rw [List.length_map,List.length_take];omega) κ,rfl,some (.val (.int (i:Nat))),some (.val (.str (lineC cs[i]))),some (.val (Clm.v cs[i])),?_⟩
  ·rw [tk,List.map_append]
   rfl
 ·rintro v ρ k hv ⟨rfl,e4,e5,e6,rfl⟩
  rw [enum_at,List.getElem?_map,List.getElem?_append_right (by rw [List.length_map];exact Nat.le_refl _),List.length_map,Nat.sub_self] at hv
  cases hv
  exact rr_bad d hb hn (pw bad (by simp)) (by omega) κ
theorem rr_B2 {q:List Int}{cs:List Clm}(hq:PicOk q)(hs:Txt.split t "\n" = Qz4 q::cs.map lineC)(hc:∀ c∈cs,ClaimOk W5 c):(cb tab (d+5)).cf 15 [.v (.str t)] κ=if factsB q.length (Qqx cs)=true then .ok (roadV q cs,κ) else .exc (1000+(cs.length+2)) .non κ:=by
 rw [Qqf _ _ _ _ _ rfl rfl]
 obtain ⟨lls,pw,_⟩:=rr_pre d hn hp κ hs
 have lcs:cs.length≤900:=by simp only [List.length_map] at lls;omega
 obtain ⟨ρ',κ',eL,rfl,e4,e5,e6,rfl⟩:=loop_inv (c:=cb tab (d+4)) (tg:=.tp (.cons (.nm 4) (.cons (.nm 5) .nil))) (it:=.enum (.sl (.var 1) (.yes (.con (.int (1)))) .no)) (b:=rrB) (ρ:=rrR t (some (.val (.lst ((Qz4 q::cs.map lineC).map .str)))) (some (.val (picV q))) (some (.val (.tup []))) none none none) (κ:=κ) (κ1:=κ) (l:=enumL ((cs.map lineC).map .str))
  (fun i ρ k=>κ=k∧∃ e4 e5 e6,ρ=rrR t (some (.val (.lst ((Qz4 q::cs.map lineC).map .str)))) (some (.val (picV q))) (some (.val (.tup ((cs.take i).map Clm.v)))) e4 e5 e6) (rr_it κ (d+4)) ⟨rfl,none,none,none,rfl⟩ (by
   rintro i v ρ k hv ⟨rfl,e4,e5,e6,rfl⟩
   rw [enum_at,List.getElem?_map,List.getElem?_map] at hv
   cases hci:cs[i]? with
   | none=>rw [hci] at hv;cases hv
   | some c=>
    rw [hci] at hv
    cases hv
    have tk:cs.take (i+1)=cs.take i++[c]:=by rw [List.take_succ,hci];rfl
    refine ⟨_,_,κ,rfl,rr_step d (hc _ (List.mem_of_getElem? hci)) (by rw [List.length_map,List.length_take];omega) κ,rfl,some (.val (.int (i:Nat))),some (.val (.str (lineC c))),some (.val (Clm.v c)),?_⟩
    ·rw [tk,List.map_append]
     rfl)
 rw [enum_len,List.length_map,List.length_map,List.take_length] at eL
 have dF:datB 60 (Qqx cs)=true:=Qx6 fun v hv=>by
  obtain ⟨c,hcs,rfl⟩:=List.mem_map.mp hv
  exact datB_mono (n:=52) _ (by decide) (clm_dat (hc c hcs).w)
 have bf:=b_facts d (q:=q) κ dF
 have t1:evT (cb tab (d+4)) (.val (.call 4 (.cons (.var 2) (.cons (.var 3) .nil)))) (rrR t (some (.val (.lst ((Qz4 q::cs.map lineC).map .str)))) (some (.val (picV q))) (some (.val (Qqx cs))) e4 e5 e6) κ=.ok (factsB q.length (Qqx cs),κ):=t_val (Qqd rfl bf)
 have fin:exSs (cb tab (d+4)) ir_read_road (rrR t none none none none none none) κ=if factsB q.length (Qqx cs)=true then .ret (roadV q cs) κ else .exc (1000+(cs.length+2)) .non κ:=by
  refine rr_pre2 d hn hp κ hq hs ((Qz3 eL).trans ?_)
  show exSs (cb tab (d+4)) _ (rrR t (some (.val (.lst ((Qz4 q::cs.map lineC).map .str)))) (some (.val (picV q))) (some (.val (Qqx cs))) e4 e5 e6) κ=_
  cases hf:factsB q.length (Qqx cs) with
  | true=>
   rw [hf] at t1
   rw [if_pos rfl]
   refine (Qz3 ((ite_no (t_not t1)).trans rfl)).trans ?_
   exact Qz5 (Qz8 (evs_tup (Qz7 rfl (Qz7 rfl evs_nil)) (show 2≤1000 by decide)))
  | false=>
   rw [hf] at t1
   rw [if_neg Bool.false_ne_true]
   have x:evE (cb tab (d+4)) (.op .add (.bi .len (.cons (.var 1) .nil)) (.con (.int (1)))) (rrR t (some (.val (.lst ((Qz4 q::cs.map lineC).map .str)))) (some (.val (picV q))) (some (.val (Qqx cs))) e4 e5 e6) κ=.ok (.int ((cs.length+2:Nat):Int),κ):=by
    have l:evE (cb tab (d+4)) (.bi .len (.cons (.var 1) .nil)) (rrR t (some (.val (.lst ((Qz4 q::cs.map lineC).map .str)))) (some (.val (picV q))) (some (.val (Qqx cs))) e4 e5 e6) κ=.ok (.int (((Qz4 q::cs.map lineC).map Val.str).length:Nat),κ):=ev_bi1 (o:=.len) (a:=.var 1) (u:=.lst ((Qz4 q::cs.map lineC).map .str)) rfl rfl
    refine Qzm l rfl (fun _=>rfl) (fun _=>rfl) ?_
    show some (Val.int (_+1))=_
    rw [List.length_map,List.length_cons,List.length_map]
    exact congrArg (fun z=>some (Val.int z)) (by omega)
   exact ss_exc ((Qzs (t_not t1)).trans (ss_exc (raise_at x (by omega))))
 have z:=congrArg O.fin fin
 refine z.trans ?_
 split <;> rfl
end
end K10
end
section
set_option maxHeartbeats 800000
namespace PL
open PySem
theorem op_lstL {x y:List Val}(h:x.length+y.length≤100000):opV .add (.lst x) (.lst y)=some (.lst (x++y)):=by
 show (if x.length+y.length≤LINE then some (Val.lst (x++y)) else none)=_
 rw [if_pos (Nat.le_trans h (by decide))]
def beyL (n:Nat)(c:Clm):List Part:=(c.l++c.r).filter fun x=>decide ((x.2.2:Int) ≥ (n:Nat))
def beyV (n:Nat)(cs:List Clm):List Val:=(cs.flatMap (beyL n)).map fun _=>.int 1
end PL
namespace K10
open PySem PL
theorem partB_iff {n:Nat}{x:Part}(h:PartS W5 x):partB n (Part.v x)=true↔x.2.2<n:=by
 obtain ⟨h1,h2,h3,h4⟩:=h
 have h4:x.2.2<5:=h4
 show ((decide (1≤x.1)&&decide (x.1≤9))&&((decide ((0:Int)≤x.2.1)&&decide ((x.2.1:Int)≤n-2))&&(decide ((x.2.1:Int)+1≤x.2.2)&&decide ((x.2.2:Int)≤n-1))))=true↔_
 simp only [Bool.and_eq_true,decide_eq_true_iff]
 omega
theorem sumB_iff {n:Nat}{l:List Part}(h:SumOk W5 l):sumB n (parV l)=true↔∀ x∈l,x.2.2<n:=by
 have:=h.l1
 have:=h.l3
 show ((decide ((1:Int)≤(l.map Part.v).length)&&decide (((l.map Part.v).length:Int)≤3))&&(l.map Part.v).all (partB n))=true↔_
 rw [List.length_map,decide_eq_true (show (1:Int)≤(l.length:Int) by omega),decide_eq_true (show (l.length:Int)≤3 by omega),Bool.true_and,Bool.true_and,List.all_map,List.all_eq_true]
 exact ⟨fun k x hx=>(partB_iff (h.parts x hx)).mp (k x hx),fun k x hx=>(partB_iff (h.parts x hx)).mpr (k x hx)⟩
theorem claimB_iffN {n:Nat}{c:Clm}(h:ClaimOk W5 c):Qx9 n (Clm.v c)=true↔beyL n c=[]:=by
 show (wordVB (.str c.w)&&(sumB n (parV c.l)&&sumB n (parV c.r)))=true↔_
 rw [(wordVB_iff c.w).mpr h.w,Bool.true_and,Bool.and_eq_true,sumB_iff h.l,sumB_iff h.r]
 unfold beyL
 rw [List.filter_eq_nil_iff]
 simp only [List.mem_append,decide_eq_true_iff]
 constructor
 ·rintro ⟨a,b⟩ x (hx|hx)
  ·have:=a x hx;omega
  ·have:=b x hx;omega
 ·intro k
  exact ⟨fun x hx=>by have:=k x (.inl hx);omega,fun x hx=>by have:=k x (.inr hx);omega⟩
theorem factsB_iff {n:Nat}{cs:List Clm}(h:∀ c∈cs,ClaimOk W5 c):factsB n (Qqx cs)=(decide ((cs.length:Int)<5)&&(beyV n cs).isEmpty):=by
 show (decide (((cs.map Clm.v).length:Int)≤4)&&(cs.map Clm.v).all (Qx9 n))=_
 rw [List.length_map]
 have e1:decide ((cs.length:Int)≤4)=decide ((cs.length:Int)<5):=decide_eq_decide.mpr (by omega)
 rw [e1]
 congr 1
 unfold beyV
 rw [isE_map11]
 rw [Bool.eq_iff_iff,List.all_map,List.all_eq_true,List.isEmpty_iff,List.flatMap_eq_nil_iff]
 exact ⟨fun k c hc=>(claimB_iffN (h c hc)).mp (k c hc),fun k c hc=>(claimB_iffN (h c hc)).mpr (k c hc)⟩
theorem factsB_of {q:List Int}{cs:List Clm}(h4:cs.length≤4)(h5:q.length≤5)(h:∀ c∈cs,ClaimOk q c):factsB q.length (Qqx cs)=true:=by
 have up:∀ c∈cs,ClaimOk W5 c:=fun c hc=>by
  obtain ⟨hw,hl,hr⟩:=h c hc
  have lift:∀ {l},SumOk q l→SumOk W5 l:=fun {l} k=>⟨k.l1,k.l3,fun x hx=>by
   obtain ⟨a,b,c,d⟩:=k.parts x hx
   exact ⟨a,b,c,Nat.lt_of_lt_of_le d h5⟩⟩
  exact ⟨hw,lift hl,lift hr⟩
 rw [factsB_iff up,decide_eq_true (by omega),Bool.true_and,List.isEmpty_iff]
 unfold beyV
 rw [List.map_eq_nil_iff,List.flatMap_eq_nil_iff]
 intro c hc
 obtain ⟨hw,hl,hr⟩:=h c hc
 unfold beyL
 rw [List.filter_eq_nil_iff]
 intro x hx
 have:x.2.2<q.length:=by
  rcases List.mem_append.mp hx with hx|hx
  ·exact (hl.parts x hx).2.2.2
  ·exact (hr.parts x hx).2.2.2
 simp only [decide_eq_true_iff]
 omega
abbrev duB:Ss:=(.cons (.set 6 (.call 34 (.cons (.var 5) .nil)))
 (.cons (.ite (.cm .is_ (.var 6) (.con (.non))) (.cons (.ret (.op .add (.var 4) (.con (.int (2)))))
 .nil) .nil)
 (.cons (.set 2 (.op .add (.var 2) (.tup (.cons (.var 6) .nil))))
 .nil)))
abbrev duR (t:PySem.Str)(e1 e2 e3 e4 e5 e6 e7:Option PL.Slot):Rho:=[some (.val (.str t)),e1,e2,e3,e4,e5,e6,e7,none]
theorem du_step (d:Nat){t:PySem.Str}{e1 e3 e6:Option PL.Slot}{F:List Val}{c:Clm}{i:Nat}(ok:ClaimOk W5 c)(hF:F.length≤950)(κ:Ks):exSs (cb tab (d+3)) duB (duR t e1 (some (.val (.tup F))) e3 (some (.val (.int (i:Nat)))) (some (.val (.str (lineC c)))) e6 none) κ=.nx (duR t e1 (some (.val (.tup (F++[Clm.v c])))) e3 (some (.val (.int (i:Nat)))) (some (.val (.str (lineC c)))) (some (.val (Clm.v c))) none) κ:=by
 have r:=s_lclaim d (n:=100) (by decide) (lineC_plain ok) κ
 rw [specC_of ok] at r
 have x:evE (cb tab (d+3)) (.call 34 (.cons (.var 5) .nil)) (duR t e1 (some (.val (.tup F))) e3 (some (.val (.int (i:Nat)))) (some (.val (.str (lineC c)))) e6 none) κ=.ok (Clm.v c,κ):=Qqd rfl r
 refine (Qz3 (Qzp x)).trans ?_
 have t1:evT (cb tab (d+3)) (.cm .is_ (.var 6) (.con (.non))) (duR t e1 (some (.val (.tup F))) e3 (some (.val (.int (i:Nat)))) (some (.val (.str (lineC c)))) (some (.val (Clm.v c))) none) κ=.ok (false,κ):=rfl
 refine (Qz3 ((ite_no t1).trans rfl)).trans ?_
 have y:evE (cb tab (d+3)) (.op .add (.var 2) (.tup (.cons (.var 6) .nil))) (duR t e1 (some (.val (.tup F))) e3 (some (.val (.int (i:Nat)))) (some (.val (.str (lineC c)))) (some (.val (Clm.v c))) none) κ=.ok (.tup (F++[Clm.v c]),κ):=ev_op (o:=.add) (u:=.tup F) (w:=.tup [Clm.v c]) rfl rfl (op_tup (by show F.length+1≤1000;omega))
 exact (Qz3 (Qzp y)).trans rfl
theorem du_bad (d:Nat){t bad:PySem.Str}{n:Nat}{e1 e2 e3 e6:Option PL.Slot}{i:Nat}(hb:specC bad=.non)(hn:n≤900)(hp:Plain n bad)(κ:Ks):exSs (cb tab (d+3)) duB (duR t e1 e2 e3 (some (.val (.int (i:Nat)))) (some (.val (.str bad))) e6 none) κ=.ret (.int ((i+2:Nat):Int)) κ:=by
 have r:=s_lclaim d hn hp κ
 rw [hb] at r
 have x:evE (cb tab (d+3)) (.call 34 (.cons (.var 5) .nil)) (duR t e1 e2 e3 (some (.val (.int (i:Nat)))) (some (.val (.str bad))) e6 none) κ=.ok (.non,κ):=Qqd rfl r
 refine (Qz3 (Qzp x)).trans ?_
 have t1:evT (cb tab (d+3)) (.cm .is_ (.var 6) (.con (.non))) (duR t e1 e2 e3 (some (.val (.int (i:Nat)))) (some (.val (.str bad))) (some (.val .non)) none) κ=.ok (true,κ):=rfl
 exact Qz5 ((Qzs t1).trans (Qz5 (Qz8 rfl)))
section
variable (d:Nat){t:PySem.Str}{n:Nat}(hn:n≤900)(hp:Plain n t)(κ:Ks)
include hn hp
theorem du_pre {l0:PySem.Str}{ls:List PySem.Str}(hs:Txt.split t "\n" = l0::ls):ls.length≤900∧(∀ z∈l0::ls,Plain n z)∧exS (cb tab (d+3)) (.ite (.not (.val (.isi .str (.var 0)))) (.cons (.ret (.con (.int (0))))
 .nil) .nil) (duR t none none none none none none none) κ=.nx (duR t none none none none none none none) κ∧exS (cb tab (d+3)) (.par [(1,false),(2,false)] (.cons (.sm .split (.var 0) (.con (.str "\n"))) (.cons (.tup .nil) .nil))) (duR t none none none none none none none) κ=.nx (duR t (some (.val (.lst ((l0::ls).map .str)))) (some (.val (.tup []))) none none none none none) κ∧exS (cb tab (d+3)) (.set 3 (.call 32 (.cons (.ix (.var 1) (.con (.int (0)))) .nil))) (duR t (some (.val (.lst ((l0::ls).map .str)))) (some (.val (.tup []))) none none none none none) κ=.nx (duR t (some (.val (.lst ((l0::ls).map .str)))) (some (.val (.tup []))) (some (.val (specP l0))) none none none none) κ:=by
 have sp:=split_ok (x:=t) tl_nl (by decide)
 have sm:=sm_splitP tl_nl hp (Nat.le_trans hn (by decide))
 have pw:=sp.plain hp
 have lw:=sp.len
 have ln:=hp.len
 rw [hs] at sm pw lw
 refine ⟨by simp only [List.length_cons] at lw;omega,pw,(ite_no rfl).trans rfl,par_nx (Qz7 (ev_splitL rfl sm) (Qz7 rfl evs_nil)) rfl,?_⟩
 have x0:evE (cb tab (d+3)) (.ix (.var 1) (.con (.int (0)))) (duR t (some (.val (.lst ((l0::ls).map .str)))) (some (.val (.tup []))) none none none none none) κ=.ok (.str l0,κ):=ev_ixE (u:=.lst ((l0::ls).map .str)) (w:=.int 0) rfl rfl (ix_lst (by show L2.atI (Val.str l0::ls.map Val.str) ((0:Nat):Int)=_;rw [atI_nat (by simp)];rfl))
 exact Qzp (Qqd (Qzj x0 eva_nil) (s_lmarks (d+1) hn (pw l0 List.mem_cons_self) κ))
theorem du_A {l0:PySem.Str}{ls:List PySem.Str}(hs:Txt.split t "\n" = l0::ls)(h0:specP l0=.non):(cb tab (d+4)).cf 35 [.v (.str t)] κ=.ok (.int 1,κ):=by
 rw [Qqf _ _ _ _ _ rfl rfl]
 obtain ⟨_,_,p1,p2,p3⟩:=du_pre d hn hp κ hs
 rw [h0] at p3
 have fin:exSs (cb tab (d+3)) ir__law_due (duR t none none none none none none none) κ=.ret (.int 1) κ:=by
  unfold ir__law_due
  rw [Qz3 p1,Qz3 p2,Qz3 p3]
  exact Qz5 ((Qzs rfl).trans (Qz5 (Qz8 rfl)))
 exact congrArg O.fin fin
abbrev duT:Ss:=(.cons (.set 7 (.lst .nil))
 (.cons (.loop (.nm 6) (.seq (.var 2)) (.cons (.set 7 (.op .add (.var 7) (.comp (.con (.int (1))) (.nm 8) (.seq (.op .add (.ix (.var 6) (.con (.int (1)))) (.ix (.var 6) (.con (.int (2)))))) (.yes (.cm .ge (.ix (.var 8) (.con (.int (2)))) (.bi .len (.cons (.var 3) .nil)))) [8])))
 .nil))
 (.cons (.ret (.ite (.and (.cm .lt (.bi .len (.cons (.var 2) .nil)) (.con (.int (5)))) (.cm .eq (.var 7) (.lst .nil))) (.tup (.cons (.var 3) (.cons (.var 2) .nil))) (.op .add (.bi .len (.cons (.var 1) .nil)) (.con (.int (1))))))
 .nil)))
theorem du_pre2 {q:List Int}{ls:List PySem.Str}(hq:PicOk q)(hs:Txt.split t "\n" = Qz4 q::ls){o:O}(h:exSs (cb tab (d+3)) (.cons (.loop (.tp (.cons (.nm 4) (.cons (.nm 5) .nil))) (.enum (.sl (.var 1) (.yes (.con (.int (1)))) .no)) duB) duT) (duR t (some (.val (.lst ((Qz4 q::ls).map .str)))) (some (.val (.tup []))) (some (.val (picV q))) none none none none) κ=o):exSs (cb tab (d+3)) ir__law_due (duR t none none none none none none none) κ=o:=by
 obtain ⟨_,_,p1,p2,p3⟩:=du_pre d hn hp κ hs
 rw [specP_of hq] at p3
 unfold ir__law_due
 rw [Qz3 p1,Qz3 p2,Qz3 p3]
 have t1:evT (cb tab (d+3)) (.cm .is_ (.var 3) (.con (.non))) (duR t (some (.val (.lst ((Qz4 q::ls).map .str)))) (some (.val (.tup []))) (some (.val (picV q))) none none none none) κ=.ok (false,κ):=rfl
 exact (Qz3 ((ite_no t1).trans rfl)).trans h
omit hn hp in
theorem du_it {l0:PySem.Str}{ls:List PySem.Str}{e2 e3 e4 e5 e6 e7:Option PL.Slot}(D:Nat):evI (cb tab D) (.enum (.sl (.var 1) (.yes (.con (.int (1)))) .no)) (duR t (some (.val (.lst ((l0::ls).map .str)))) e2 e3 e4 e5 e6 e7) κ=.ok (enumL (ls.map .str),κ):=by
 have x:evE (cb tab D) (.sl (.var 1) (.yes (.con (.int (1)))) .no) (duR t (some (.val (.lst ((l0::ls).map .str)))) e2 e3 e4 e5 e6 e7) κ=.ok (.lst (ls.map .str),κ):=ev_slE (u:=.lst ((l0::ls).map .str)) rfl (ev_oY rfl) rfl (by
  have:=sl_froml (l:=(l0::ls).map Val.str) (i:=1) (by simp)
  exact this)
 exact it_enum x rfl
theorem du_B1 {q:List Int}{cs:List Clm}{bad:PySem.Str}{rest:List PySem.Str}(hq:PicOk q)(hs:Txt.split t "\n" = Qz4 q::(cs.map lineC++bad::rest))(hc:∀ c∈cs,ClaimOk W5 c)(hb:specC bad=.non):(cb tab (d+4)).cf 35 [.v (.str t)] κ=.ok (.int ((cs.length+2:Nat):Int),κ):=by
 rw [Qqf _ _ _ _ _ rfl rfl]
 obtain ⟨lls,pw,_⟩:=du_pre d hn hp κ hs
 have lcs:cs.length+1≤900:=by simp only [List.length_append,List.length_cons,List.length_map] at lls;omega
 suffices fin:exSs (cb tab (d+3)) ir__law_due (duR t none none none none none none none) κ=.ret (.int ((cs.length+2:Nat):Int)) κ from congrArg O.fin fin
 refine du_pre2 d hn hp κ hq hs (Qz5 (loop_of (du_it κ (d+3)) ?_))
 refine loopL_stop (fun g=>rfl) (j:=cs.length) (I:=fun i ρ k=>κ=k∧∃ e4 e5 e6,ρ=duR t (some (.val (.lst ((Qz4 q::(cs.map lineC++bad::rest)).map .str)))) (some (.val (.tup ((cs.take i).map Clm.v)))) (some (.val (picV q))) e4 e5 e6 none) (by rw [enum_len,List.length_map,List.length_append,List.length_map,List.length_cons];omega) ⟨rfl,none,none,none,rfl⟩ ?_ ?_
 ·rintro i v ρ k hi hv ⟨rfl,e4,e5,e6,rfl⟩
  have hci:cs[i]? = some cs[i]:=List.getElem?_eq_getElem hi
  rw [enum_at,List.getElem?_map,List.getElem?_append_left (by rw [List.length_map];exact hi),List.getElem?_map,hci] at hv
  cases hv
  have tk:cs.take (i+1)=cs.take i++[cs[i]]:=by rw [List.take_succ,hci];rfl
  refine ⟨_,κ,du_step d (hc _ (List.getElem_mem hi)) (by rw [List.length_map,List.length_take];omega) κ,rfl,some (.val (.int (i:Nat))),some (.val (.str (lineC cs[i]))),some (.val (Clm.v cs[i])),?_⟩
  ·rw [tk,List.map_append]
   rfl
 ·rintro v ρ k hv ⟨rfl,e4,e5,e6,rfl⟩
  rw [enum_at,List.getElem?_map,List.getElem?_append_right (by rw [List.length_map];exact Nat.le_refl _),List.length_map,Nat.sub_self] at hv
  cases hv
  exact du_bad d hb hn (pw bad (by simp)) κ
theorem du_B2 {q:List Int}{cs:List Clm}(hq:PicOk q)(hs:Txt.split t "\n" = Qz4 q::cs.map lineC)(hc:∀ c∈cs,ClaimOk W5 c):(cb tab (d+4)).cf 35 [.v (.str t)] κ=.ok (if factsB q.length (Qqx cs)=true then roadV q cs else .int ((cs.length+2:Nat):Int),κ):=by
 rw [Qqf _ _ _ _ _ rfl rfl]
 obtain ⟨lls,pw,_⟩:=du_pre d hn hp κ hs
 have lcs:cs.length≤900:=by simp only [List.length_map] at lls;omega
 obtain ⟨ρ',κ',eL,rfl,e4,e5,e6,rfl⟩:=loop_inv (c:=cb tab (d+3)) (tg:=.tp (.cons (.nm 4) (.cons (.nm 5) .nil))) (it:=.enum (.sl (.var 1) (.yes (.con (.int (1)))) .no)) (b:=duB) (ρ:=duR t (some (.val (.lst ((Qz4 q::cs.map lineC).map .str)))) (some (.val (.tup []))) (some (.val (picV q))) none none none none) (κ:=κ) (κ1:=κ) (l:=enumL ((cs.map lineC).map .str))
  (fun i ρ k=>κ=k∧∃ e4 e5 e6,ρ=duR t (some (.val (.lst ((Qz4 q::cs.map lineC).map .str)))) (some (.val (.tup ((cs.take i).map Clm.v)))) (some (.val (picV q))) e4 e5 e6 none) (du_it κ (d+3)) ⟨rfl,none,none,none,rfl⟩ (by
   rintro i v ρ k hv ⟨rfl,e4,e5,e6,rfl⟩
   rw [enum_at,List.getElem?_map,List.getElem?_map] at hv
   cases hci:cs[i]? with
   | none=>rw [hci] at hv;cases hv
   | some c=>
    rw [hci] at hv
    cases hv
    have tk:cs.take (i+1)=cs.take i++[c]:=by rw [List.take_succ,hci];rfl
    refine ⟨_,_,κ,rfl,du_step d (hc _ (List.mem_of_getElem? hci)) (by rw [List.length_map,List.length_take];omega) κ,rfl,some (.val (.int (i:Nat))),some (.val (.str (lineC c))),some (.val (Clm.v c)),?_⟩
    ·rw [tk,List.map_append]
     rfl)
 rw [enum_len,List.length_map,List.length_map,List.take_length] at eL
 have h5:=hq.l5
 obtain ⟨ρ',κ',eM,rfl,f6,rfl⟩:=loop_inv (c:=cb tab (d+3)) (tg:=.nm 6) (it:=.seq (.var 2)) (b:=(.cons (.set 7 (.op .add (.var 7) (.comp (.con (.int (1))) (.nm 8) (.seq (.op .add (.ix (.var 6) (.con (.int (1)))) (.ix (.var 6) (.con (.int (2)))))) (.yes (.cm .ge (.ix (.var 8) (.con (.int (2)))) (.bi .len (.cons (.var 3) .nil)))) [8])))
 .nil)) (ρ:=duR t (some (.val (.lst ((Qz4 q::cs.map lineC).map .str)))) (some (.val (Qqx cs))) (some (.val (picV q))) e4 e5 e6 (some (.val (.lst [])))) (κ:=κ) (κ1:=κ) (l:=cs.map Clm.v)
  (fun i ρ k=>κ=k∧∃ f6,ρ=duR t (some (.val (.lst ((Qz4 q::cs.map lineC).map .str)))) (some (.val (Qqx cs))) (some (.val (picV q))) e4 e5 f6 (some (.val (.lst (beyV q.length (cs.take i)))))) (it_seq rfl rfl) ⟨rfl,e6,rfl⟩ (by
   rintro i v ρ k hv ⟨rfl,f6,rfl⟩
   rw [List.getElem?_map] at hv
   cases hci:cs[i]? with
   | none=>rw [hci] at hv;cases hv
   | some c=>
    rw [hci] at hv
    cases hv
    have hi:i<cs.length:=(List.getElem?_eq_some_iff.mp hci).1
    have ok:=hc c (List.mem_of_getElem? hci)
    have tk:cs.take (i+1)=cs.take i++[c]:=by rw [List.take_succ,hci];rfl
    have l1:=ok.l.l3
    have l2:=ok.r.l3
    refine ⟨duR t (some (.val (.lst ((Qz4 q::cs.map lineC).map .str)))) (some (.val (Qqx cs))) (some (.val (picV q))) e4 e5 (some (.val (Clm.v c))) (some (.val (.lst (beyV q.length (cs.take i))))),_,κ,rfl,?_,rfl,some (.val (Clm.v c)),rfl⟩
    have y1:evE (cb tab (d+3)) (.ix (.var 6) (.con (.int (1)))) (duR t (some (.val (.lst ((Qz4 q::cs.map lineC).map .str)))) (some (.val (Qqx cs))) (some (.val (picV q))) e4 e5 (some (.val (Clm.v c))) (some (.val (.lst (beyV q.length (cs.take i)))))) κ=.ok (parV c.l,κ):=ev_ixE (u:=Clm.v c) (w:=.int 1) rfl rfl (ix_t1 _ _ _)
    have y2:evE (cb tab (d+3)) (.ix (.var 6) (.con (.int (2)))) (duR t (some (.val (.lst ((Qz4 q::cs.map lineC).map .str)))) (some (.val (Qqx cs))) (some (.val (picV q))) e4 e5 (some (.val (Clm.v c))) (some (.val (.lst (beyV q.length (cs.take i)))))) κ=.ok (parV c.r,κ):=ev_ixE (u:=Clm.v c) (w:=.int 2) rfl rfl (ix_t2 _ _ _ _)
    have y3:evE (cb tab (d+3)) (.op .add (.ix (.var 6) (.con (.int (1)))) (.ix (.var 6) (.con (.int (2))))) (duR t (some (.val (.lst ((Qz4 q::cs.map lineC).map .str)))) (some (.val (Qqx cs))) (some (.val (picV q))) e4 e5 (some (.val (Clm.v c))) (some (.val (.lst (beyV q.length (cs.take i)))))) κ=.ok (.tup ((c.l++c.r).map Part.v),κ):=Qzm y1 y2 (fun _=>rfl) (fun _=>rfl) (by
     rw [List.map_append]
     exact op_tup (by rw [List.length_map,List.length_map];omega))
    have yi:evI (cb tab (d+3)) (.seq (.op .add (.ix (.var 6) (.con (.int (1)))) (.ix (.var 6) (.con (.int (2)))))) (duR t (some (.val (.lst ((Qz4 q::cs.map lineC).map .str)))) (some (.val (Qqx cs))) (some (.val (picV q))) e4 e5 (some (.val (Clm.v c))) (some (.val (.lst (beyV q.length (cs.take i)))))) κ=.ok ((c.l++c.r).map Part.v,κ):=it_seq y3 rfl
    have cc:=ev_compPM (c:=cb tab (d+3)) (ee:=.con (.int 1)) (t:=.cm .ge (.ix (.var 8) (.con (.int (2)))) (.bi .len (.cons (.var 3) .nil))) (tg:=.nm 8) (own:=[8]) (l:=c.l++c.r) (a:=Part.v) (h:=fun _=>.int 1) (P:=fun x=>decide ((x.2.2:Int) ≥ (q.length:Nat))) yi (by rw [List.length_append];exact Nat.lt_of_le_of_lt (show c.l.length+c.r.length≤6 by omega) (by decide)) fun x hx=>by
     refine ⟨[some (.val (.str t)),some (.val (.lst ((Qz4 q::cs.map lineC).map .str))),some (.val (Qqx cs)),some (.val (picV q)),e4,e5,some (.val (Clm.v c)),some (.val (.lst (beyV q.length (cs.take i)))),some (.val (Part.v x))],rfl,?_,fun _=>rfl⟩
     have z1:evE (cb tab (d+3)) (.ix (.var 8) (.con (.int (2)))) [some (.val (.str t)),some (.val (.lst ((Qz4 q::cs.map lineC).map .str))),some (.val (Qqx cs)),some (.val (picV q)),e4,e5,some (.val (Clm.v c)),some (.val (.lst (beyV q.length (cs.take i)))),some (.val (Part.v x))] κ=.ok (.int (x.2.2:Nat),κ):=ev_ixE (u:=Part.v x) (w:=.int 2) rfl rfl (ix_t2 _ _ _ _)
     have z2:evE (cb tab (d+3)) (.bi .len (.cons (.var 3) .nil)) [some (.val (.str t)),some (.val (.lst ((Qz4 q::cs.map lineC).map .str))),some (.val (Qqx cs)),some (.val (picV q)),e4,e5,some (.val (Clm.v c)),some (.val (.lst (beyV q.length (cs.take i)))),some (.val (Part.v x))] κ=.ok (.int q.length,κ):=ev_bi1 (o:=.len) (a:=.var 3) (u:=picV q) rfl (len_pic q)
     exact t_cm z1 z2 rfl
    have y4:evE (cb tab (d+3)) (.op .add (.var 7) (.comp (.con (.int (1))) (.nm 8) (.seq (.op .add (.ix (.var 6) (.con (.int (1)))) (.ix (.var 6) (.con (.int (2)))))) (.yes (.cm .ge (.ix (.var 8) (.con (.int (2)))) (.bi .len (.cons (.var 3) .nil)))) [8])) (duR t (some (.val (.lst ((Qz4 q::cs.map lineC).map .str)))) (some (.val (Qqx cs))) (some (.val (picV q))) e4 e5 (some (.val (Clm.v c))) (some (.val (.lst (beyV q.length (cs.take i)))))) κ=.ok (.lst (beyV q.length (cs.take i)++(beyL q.length c).map fun _=>Val.int 1),κ):=Qzm (a:=.var 7) rfl cc (fun _=>rfl) (fun _=>rfl) (op_lstL (by
     have b1:∀ L:List Clm,(∀ c∈L,ClaimOk W5 c)→(beyV q.length L).length≤6*L.length:=fun L=>by
      unfold beyV
      rw [List.length_map]
      induction L with
      | nil=>exact fun _=>Nat.le_refl _
      | cons e L ih=>
       intro hL
       rw [List.flatMap_cons,List.length_append,List.length_cons]
       have:=ih fun c hc=>hL c (List.mem_cons_of_mem _ hc)
       have k:=hL e List.mem_cons_self
       have k1:=k.l.l3
       have k2:=k.r.l3
       have f:(beyL q.length e).length≤e.l.length+e.r.length:=by
        unfold beyL
        exact Nat.le_trans (List.length_filter_le _ _) (by rw [List.length_append];exact Nat.le_refl _)
       omega
     have g1:=b1 (cs.take i) fun c hcc=>hc c (List.mem_of_mem_take hcc)
     rw [List.length_take] at g1
     have g2:=List.length_filter_le (fun x:Part=>decide ((x.2.2:Int) ≥ (q.length:Nat))) (c.l++c.r)
     rw [List.length_append] at g2
     rw [List.length_map]
     omega))
    rw [Qz3 (Qzp y4),tk]
    have e:beyV q.length (cs.take i++[c])=beyV q.length (cs.take i)++(beyL q.length c).map fun _=>Val.int 1:=by
     unfold beyV
     rw [List.flatMap_append,List.map_append,List.flatMap_cons,List.flatMap_nil,List.append_nil]
    rw [e]
    rfl)
 rw [List.length_map,List.take_length] at eM
 suffices fin:exSs (cb tab (d+3)) ir__law_due (duR t none none none none none none none) κ=.ret (if factsB q.length (Qqx cs)=true then roadV q cs else .int ((cs.length+2:Nat):Int)) κ from congrArg O.fin fin
 refine du_pre2 d hn hp κ hq hs ((Qz3 eL).trans ?_)
 have s7:exS (cb tab (d+3)) (.set 7 (.lst .nil)) (duR t (some (.val (.lst ((Qz4 q::cs.map lineC).map .str)))) (some (.val (Qqx cs))) (some (.val (picV q))) e4 e5 e6 none) κ=.nx (duR t (some (.val (.lst ((Qz4 q::cs.map lineC).map .str)))) (some (.val (Qqx cs))) (some (.val (picV q))) e4 e5 e6 (some (.val (.lst [])))) κ:=rfl
 refine (Qz3 s7).trans ((Qz3 eM).trans ?_)
 have t1:evT (cb tab (d+3)) (.cm .lt (.bi .len (.cons (.var 2) .nil)) (.con (.int (5)))) (duR t (some (.val (.lst ((Qz4 q::cs.map lineC).map .str)))) (some (.val (Qqx cs))) (some (.val (picV q))) e4 e5 f6 (some (.val (.lst (beyV q.length cs))))) κ=.ok (decide ((cs.length:Int)<5),κ):=by
  have l:evE (cb tab (d+3)) (.bi .len (.cons (.var 2) .nil)) (duR t (some (.val (.lst ((Qz4 q::cs.map lineC).map .str)))) (some (.val (Qqx cs))) (some (.val (picV q))) e4 e5 f6 (some (.val (.lst (beyV q.length cs))))) κ=.ok (.int cs.length,κ):=ev_bi1 (o:=.len) (a:=.var 2) (u:=Qqx cs) rfl (by
   show some (Val.int (cs.map Clm.v).length)=_
   rw [List.length_map])
  exact t_cm (w:=.int 5) l rfl rfl
 have t2:evT (cb tab (d+3)) (.cm .eq (.var 7) (.lst .nil)) (duR t (some (.val (.lst ((Qz4 q::cs.map lineC).map .str)))) (some (.val (Qqx cs))) (some (.val (picV q))) e4 e5 f6 (some (.val (.lst (beyV q.length cs))))) κ=.ok ((beyV q.length cs).isEmpty,κ):=t_cm (u:=.lst (beyV q.length cs)) (w:=.lst []) rfl rfl (cm_eq_nil (ones_dat11 _))
 have tt:evT (cb tab (d+3)) (.and (.cm .lt (.bi .len (.cons (.var 2) .nil)) (.con (.int (5)))) (.cm .eq (.var 7) (.lst .nil))) (duR t (some (.val (.lst ((Qz4 q::cs.map lineC).map .str)))) (some (.val (Qqx cs))) (some (.val (picV q))) e4 e5 f6 (some (.val (.lst (beyV q.length cs))))) κ=.ok (factsB q.length (Qqx cs),κ):=by
  rw [factsB_iff hc]
  cases h:decide ((cs.length:Int)<5) with
  | false=>rw [h] at t1;exact t_and_f t1
  | true=>rw [h] at t1;exact t_and_t t1 t2
 refine Qz5 (Qz8 ?_)
 cases hf:factsB q.length (Qqx cs) with
 | true=>
  rw [hf] at tt
  rw [if_pos rfl]
  exact ev_ite_t tt (evs_tup (Qz7 rfl (Qz7 rfl evs_nil)) (show 2≤1000 by decide))
 | false=>
  rw [hf] at tt
  rw [if_neg Bool.false_ne_true]
  refine ev_ite_f tt ?_
  have l:evE (cb tab (d+3)) (.bi .len (.cons (.var 1) .nil)) (duR t (some (.val (.lst ((Qz4 q::cs.map lineC).map .str)))) (some (.val (Qqx cs))) (some (.val (picV q))) e4 e5 f6 (some (.val (.lst (beyV q.length cs))))) κ=.ok (.int (((Qz4 q::cs.map lineC).map Val.str).length:Nat),κ):=ev_bi1 (o:=.len) (a:=.var 1) (u:=.lst ((Qz4 q::cs.map lineC).map .str)) rfl rfl
  refine Qzm l rfl (fun _=>rfl) (fun _=>rfl) ?_
  show some (Val.int (_+1))=_
  rw [List.length_map,List.length_cons,List.length_map]
  exact congrArg (fun z=>some (Val.int z)) (by omega)
end
end K10
end
section
set_option maxHeartbeats 800000
namespace PL
open PySem
theorem tryr_ok {c:CB}{e:E}{k:Nat}{ρ:Rho}{κ κ1:Ks}{v:Val}(h:evE c e ρ κ=.ok (v,κ1)):exS c (.tryr e k) ρ κ=.ret v κ1:=by
 show (match evE c e ρ κ with
  | .ok p=>O.ret p.1 p.2
  | .exc c' .non κ'=>if c'/1000=k+1 then .ret (.int (c' % 1000:Nat)) κ' else .bad
  | _=>.bad)=_
 rw [h]
theorem tryr_exc {c:CB}{e:E}{m:Nat}{ρ:Rho}{κ κ1:Ks}(hm:m<1000)(h:evE c e ρ κ=.exc (1000+m) .non κ1):exS c (.tryr e 0) ρ κ=.ret (.int (m:Nat)) κ1:=by
 show (match evE c e ρ κ with
  | .ok p=>O.ret p.1 p.2
  | .exc c' .non κ'=>if c'/1000=0+1 then .ret (.int (c' % 1000:Nat)) κ' else .bad
  | _=>.bad)=_
 rw [h]
 dsimp only
 rw [if_pos (by omega),show (1000+m) % 1000=m by omega]
end PL
namespace K10
open PySem PL
theorem read_ok (d:Nat){u v:Val}{κ:Ks}(h:(cb tab (d+5)).cf 15 [.v u] κ=.ok (v,κ)):(cb tab (d+6)).cf 36 [.v u] κ=.ok (v,κ):=by
 rw [Qqf _ _ _ _ _ rfl rfl]
 have fin:exSs (cb tab (d+5)) ir__law_read [some (.val u),none] κ=.ret v κ:=Qz5 (tryr_ok (Qqd rfl h))
 exact congrArg O.fin fin
theorem read_exc (d:Nat){u:Val}{m:Nat}{κ:Ks}(hm:m<1000)(h:(cb tab (d+5)).cf 15 [.v u] κ=.exc (1000+m) .non κ):(cb tab (d+6)).cf 36 [.v u] κ=.ok (.int (m:Nat),κ):=by
 rw [Qqf _ _ _ _ _ rfl rfl]
 have fin:exSs (cb tab (d+5)) ir__law_read [some (.val u),none] κ=.ret (.int (m:Nat)) κ:=Qz5 (tryr_exc hm (Qqd rfl h))
 exact congrArg O.fin fin
theorem odd_road (d:Nat){u:Val}(h:isiV .str u=some false)(κ:Ks):(cb tab (d+6)).cf 36 [.v u] κ=.ok (.int (0:Nat),κ):=by
 refine read_exc d (by decide) ?_
 rw [Qqf _ _ _ _ _ rfl rfl]
 have t:evT (cb tab (d+4)) (.val (.isi .str (.var 0))) [some (.val u),none,none,none,none,none,none] κ=.ok (false,κ):=by
  refine t_val ?_
  show R.ofO ((isiV .str u).map fun v=>(Val.bl v,κ))=_
  rw [h]
  rfl
 have fin:exSs (cb tab (d+4)) ir_read_road [some (.val u),none,none,none,none,none,none] κ=.exc (1000+0) .non κ:=by
  unfold ir_read_road
  exact ss_exc ((Qzs (t_not t)).trans (ss_exc (raise_at (n:=0) rfl (by decide))))
 exact congrArg O.fin fin
theorem facts_dat {cs:List Clm}(h:∀ c∈cs,WordOk c.w):datB 60 (Qqx cs)=true:=Qx6 fun v hv=>by
 obtain ⟨c,hc,e⟩:=List.mem_map.mp hv
 rw [← e]
 exact datB_mono (n:=52) _ (by decide) (clm_dat (h c hc))
theorem road_dat {q:List Int}{cs:List Clm}(h:∀ c∈cs,WordOk c.w):datB 61 (roadV q cs)=true:=by
 show (datB 60 (picV q)&&(datB 60 (Qqx cs)&&true))=true
 rw [dat_pic 59 q,facts_dat h]
 rfl
theorem specP_cases (x:PySem.Str):specP x=.non∨∃ q,PicOk q∧Qz4 q=x:=by
 by_cases h:∃ q,PicOk q∧Qz4 q=x
 ·exact .inr h
 ·exact .inl (specP_no h)
theorem agree (d:Nat){t:PySem.Str}{n:Nat}(hn:n≤900)(hp:Plain n t)(κ:Ks):∃ v,datB 61 v=true∧(cb tab (d+6)).cf 36 [.v (.str t)] κ=.ok (v,κ)∧(cb tab (d+6)).cf 35 [.v (.str t)] κ=.ok (v,κ):=by
 have sp:=split_ok (x:=t) tl_nl (by decide)
 have lw:=sp.len
 have ln:=hp.len
 cases hs:Txt.split t "\n" with
 | nil=>exact absurd hs sp.ne
 | cons l0 ls=>
  rw [hs] at lw
  simp only [List.length_cons] at lw
  rcases specP_cases l0 with h0|⟨q,hq,rfl⟩
  ·exact ⟨.int (1:Nat),rfl,read_exc d (by decide) (rr_A d hn hp κ hs h0),du_A (d+2) hn hp κ hs h0⟩
  ·rcases lines_cases ls with ⟨cs,rfl,hc⟩|⟨cs,bad,rest,rfl,hc,hb⟩
   ·have r:=rr_B2 d hn hp κ hq hs hc
    have u:=du_B2 (d+2) hn hp κ hq hs hc
    rw [List.length_map] at lw
    cases hf:factsB q.length (Qqx cs) with
    | true=>
     rw [hf,if_pos rfl] at r u
     exact ⟨roadV q cs,road_dat fun c h=>(hc c h).w,read_ok d r,u⟩
    | false=>
     rw [hf,if_neg Bool.false_ne_true] at r u
     exact ⟨.int ((cs.length+2:Nat):Int),rfl,read_exc d (by omega) r,u⟩
   ·rw [List.length_append,List.length_map,List.length_cons] at lw
    exact ⟨.int ((cs.length+2:Nat):Int),rfl,read_exc d (by omega) (rr_B1 d hn hp κ hq hs hc hb),du_B1 (d+2) hn hp κ hq hs hc hb⟩
def textS (q:List Int)(cs:List Clm):PySem.Str:=Txt.join "\n" (Qz4 q::cs.map lineC)
theorem ClaimOk.up {q:List Int}{c:Clm}(h5:q.length≤5)(h:ClaimOk q c):ClaimOk W5 c:=by
 obtain ⟨hw,hl,hr⟩:=h
 have lift:∀ {l},SumOk q l→SumOk W5 l:=fun {l} k=>⟨k.l1,k.l3,fun x hx=>by
  obtain ⟨a,b,c,d⟩:=k.parts x hx
  exact ⟨a,b,c,Nat.lt_of_lt_of_le d h5⟩⟩
 exact ⟨hw,lift hl,lift hr⟩
theorem lineS_low {q:List Int}(hq:MarksOk q):∀ c∈TL.tl (Qz4 q),c<128:=join_low tl_sp (by decide) fun x hx=>by
 rcases List.mem_cons.mp hx with e|hx
 ·subst e;exact marks_plain.low
 ·obtain ⟨m,hm,rfl⟩:=List.mem_map.mp hx
  exact (mk_plain (hq m hm).1 (hq m hm).2).low
theorem joinL_free {s s':Nat}(h:s≠s'):∀ {l:List (List Nat)},(∀ x∈l,s ∉ x)→s ∉ TL.joinL [s'] l:=fun {l} hl hm=>by
 have:=joinL_all (P:=fun c=>decide (c≠s)) (S:=[s']) (by simp;exact fun e=>h e.symm) (l:=l) (fun x hx=>List.all_eq_true.mpr fun c hc=>decide_eq_true (fun e=>hl x hx (e ▸ hc)))
 exact of_decide_eq_true (List.all_eq_true.mp this s hm) rfl
theorem join_free {y:PySem.Str}{s s':Nat}(ey:TL.tl y=[s'])(hs:s≠s'){l:List PySem.Str}(h:∀ x∈l,s ∉ TL.tl x):s ∉ TL.tl (Txt.join y l):=by
 rw [TL.join_eq,TL.tl_join,ey]
 exact joinL_free hs fun x hx=>by
  obtain ⟨w,hw,rfl⟩:=List.mem_map.mp hx
  exact h w hw
theorem lineS_nl {q:List Int}(hq:MarksOk q):10 ∉ TL.tl (Qz4 q):=join_free tl_sp (by decide) fun x hx=>by
 rcases List.mem_cons.mp hx with e|hx
 ·subst e;decide +kernel
 ·obtain ⟨m,hm,rfl⟩:=List.mem_map.mp hx
  exact (mk_no' (hq m hm).1 (hq m hm).2).2.2.2
theorem lineC_nl {c:Clm}(h:ClaimOk W5 c):10 ∉ TL.tl (lineC c):=join_free tl_sp (by decide) fun x hx=>by
 have p:=ClaimOk.p60 (q:=W5) (by decide) h
 unfold wordsC at hx
 simp only [List.mem_append,List.mem_singleton,List.mem_map] at hx
 rcases hx with ((e|⟨y,hy,e⟩)|e)|⟨y,hy,e⟩
 ·subst e;exact (word_plain h.w).2.2.1
 ·subst e;exact (wordP_no (p.1 y hy)).2.1
 ·subst e;exact by_plain.2.2.1
 ·subst e;exact (wordP_no (p.2 y hy)).2.1
theorem text_split {q:List Int}{cs:List Clm}(hq:PicOk q)(hc:∀ c∈cs,ClaimOk W5 c):Txt.split (textS q cs) "\n" = Qz4 q::cs.map lineC:=by
 refine TL.split_join (s:=10) (S:=[]) tl_nl (by decide +kernel) (by simp) fun p hp => ?_
 rcases List.mem_cons.mp hp with e|hp
 ·subst e;exact lineS_nl hq.marks
 ·obtain ⟨c,hcs,rfl⟩:=List.mem_map.mp hp
  exact lineC_nl (hc c hcs)
end K10
end
section
set_option maxHeartbeats 800000
namespace K10
open PySem PL
theorem bx_need_facts (d:Nat){q:List Int}{v:Val}{n:Nat}(κ:Ks)(hv:datB n v=true):(cb tab (d+5)).cf 6 [.v (picV q),.v v] κ=if factsB q.length v=true then .ok (.non,κ) else .exc (1) .non κ:=by
 rw [Qqf _ _ _ _ _ rfl rfl]
 have b:=b_facts d (q:=q) κ hv
 cases h:factsB q.length v with
 | true=>
  rw [h] at b
  simp only [ir_need_facts,List.replicate,Nat.reduceSub,List.append_nil,exSs,exS,evE,evT,evEs,evA,evBs,evO,evOt,evI,bw,rdV,rdB,R.bind_ok,R.bind_exc,R.bind_bad,R.ofO_some,R.ofO_none,R.toO_ok,R.toO_exc,R.toO_bad,O.then_nx,O.then_ret,O.then_exc,O.then_bad,O.fin_nx,O.fin_ret,O.fin_exc,O.fin_bad,Option.map_some,Option.map_none,List.map_cons,List.map_nil,Ar.slot,List.cons_append,List.nil_append,List.length_cons,List.length_nil,List.getElem?_cons_zero,List.getElem?_cons_succ,List.set_cons_zero,List.set_cons_succ,Qzc,Qqb,Qq9,Qqq,Qq6,Qq8,Qq7,Qqv,Qqw,Qq2,Qq3,Qq4,Qq5,Qqr,Qz0,Qz1,Qz2,Qqt,Qqs,reduceCtorEq,decide_true,decide_false,Bool.or_true,Bool.or_false,Bool.true_or,Bool.false_or,blV,ntV,ngV,Qzk,op_add,op_sub,Qqk,Qqm,Qqn,Qqp,Qqj,Qqz,Qqh,b,Bool.not_true,Bool.false_eq_true,if_false,if_true]
 | false=>
  rw [h] at b
  simp only [ir_need_facts,List.replicate,Nat.reduceSub,List.append_nil,exSs,exS,evE,evT,evEs,evA,evBs,evO,evOt,evI,bw,rdV,rdB,R.bind_ok,R.bind_exc,R.bind_bad,R.ofO_some,R.ofO_none,R.toO_ok,R.toO_exc,R.toO_bad,O.then_nx,O.then_ret,O.then_exc,O.then_bad,O.fin_nx,O.fin_ret,O.fin_exc,O.fin_bad,Option.map_some,Option.map_none,List.map_cons,List.map_nil,Ar.slot,List.cons_append,List.nil_append,List.length_cons,List.length_nil,List.getElem?_cons_zero,List.getElem?_cons_succ,List.set_cons_zero,List.set_cons_succ,Qzc,Qqb,Qq9,Qqq,Qq6,Qq8,Qq7,Qqv,Qqw,Qq2,Qq3,Qq4,Qq5,Qqr,Qz0,Qz1,Qz2,Qqt,Qqs,reduceCtorEq,decide_true,decide_false,Bool.or_true,Bool.or_false,Bool.true_or,Bool.false_or,blV,ntV,ngV,Qzk,op_add,op_sub,Qqk,Qqm,Qqn,Qqp,Qqj,Qqz,Qqh,b,Bool.not_false,Bool.false_eq_true,if_false,if_true]
theorem lineS_20 {q:List Int}(hq:MarksOk q)(h5:q.length≤5):(Qz4 q).length≤21:=by
 have t:=tjoin_le " " (("marks" : PySem.Str)::q.map mkS)
 have b:((" " : PySem.Str)).length=1:=by decide +kernel
 have m:((("marks" : PySem.Str))).length=5:=by decide +kernel
 have s:=sum_le2 (n:=2) (l:=q.map mkS) fun x hx=>by
  obtain ⟨z,hz,rfl⟩:=List.mem_map.mp hx
  exact mk_len' (hq z hz).1 (hq z hz).2
 rw [List.map_cons,List.sum_cons,List.length_cons,b,m] at t
 rw [List.length_map] at s t
 show (Txt.join " " (("marks" : PySem.Str)::q.map mkS)).length≤21
 omega
theorem word_5 {x:Part}(h:PartS W5 x):(wordP x).length≤5:=by
 obtain ⟨a,b,e,et,_⟩:=word_signs h
 rw [TL.len_tl,et]
 exact Nat.le_refl _
theorem lineC_32 {q:List Int}{c:Clm}(h5:q.length≤5)(h:ClmS q c):(lineC c).length≤32:=by
 have up:=ClaimOk.up h5 h.ok
 have t:=tjoin_le " " (wordsC c)
 have b:((" " : PySem.Str)).length=1:=by decide +kernel
 have m:((("by" : PySem.Str))).length=2:=by decide +kernel
 have w:=(word_plain up.w).1.len
 have s1:=sum_le2 (n:=5) (l:=c.l.map wordP) fun x hx=>by
  obtain ⟨z,hz,rfl⟩:=List.mem_map.mp hx
  exact word_5 (up.l.parts z hz)
 have s2:=sum_le2 (n:=5) (l:=c.r.map wordP) fun x hx=>by
  obtain ⟨z,hz,rfl⟩:=List.mem_map.mp hx
  exact word_5 (up.r.parts z hz)
 have l2:=h.l2
 have r2:=h.r2
 rw [wordsC_eq,b] at t
 simp only [List.cons_append,List.map_cons,List.map_append,List.sum_cons,List.sum_append,List.length_cons,List.length_append,m] at t
 simp only [List.length_map] at s1 s2 t
 unfold lineC
 rw [wordsC_eq]
 simp only [List.cons_append]
 simp only [List.map_map] at t s1 s2
 omega
theorem text_fit {q:List Int}{cs:List Clm}(hq:PicOk q)(h4:cs.length≤4)(hc:∀ c∈cs,ClmS q c):((Qz4 q::cs.map lineC).map (·.length)).sum+(Qz4 q::cs.map lineC).length*(("\n" : PySem.Str)).length≤160:=by
 have b:(("\n" : PySem.Str)).length=1:=by decide +kernel
 have l:=lineS_20 hq.marks hq.l5
 have s:=sum_le2 (n:=32) (l:=cs.map lineC) fun x hx=>by
  obtain ⟨z,hz,rfl⟩:=List.mem_map.mp hx
  exact lineC_32 hq.l5 (hc z hz)
 rw [List.map_cons,List.sum_cons,List.length_cons,b]
 rw [List.length_map] at s ⊢
 omega
theorem text_plain {q:List Int}{cs:List Clm}(hq:PicOk q)(h4:cs.length≤4)(hc:∀ c∈cs,ClmS q c):Plain 160 (textS q cs):=by
 refine ⟨Nat.le_trans (tjoin_le _ _) (text_fit hq h4 hc),join_low tl_nl (by decide) fun x hx => ?_⟩
 rcases List.mem_cons.mp hx with e|hx
 ·subst e;exact lineS_low hq.marks
 ·obtain ⟨c,hcs,rfl⟩:=List.mem_map.mp hx
  exact (lineC_plain (ClaimOk.up hq.l5 (hc c hcs).ok)).low
section
variable (d:Nat){q:List Int}{cs:List Clm}(hq:PicOk q)(h4:cs.length≤4)(hc:∀ c∈cs,ClmS q c)(κ:Ks)
include hq h4 hc
theorem s_ltext:(cb tab (d+3)).cf 30 [.v (picV q),.v (Qqx cs)] κ=.ok (.str (textS q cs),κ):=by
 rw [Qqf _ _ _ _ _ rfl rfl]
 have c1:=ev_compM (c:=cb tab (d+2)) (ee:=.bi .str (.cons (.var 3) .nil)) (tg:=.nm 3) (it:=.seq (.var 0)) (own:=[3]) (ρ:=[some (.val (picV q)),some (.val (Qqx cs)),none,none,none]) (κ:=κ) (l:=q) (a:=Val.int) (h:=fun m=>Val.str (mkS m)) rfl (Nat.lt_of_le_of_lt hq.l5 (by decide)) fun m hm=>
  ⟨[some (.val (picV q)),some (.val (Qqx cs)),none,some (.val (.int m)),none],rfl,ev_bi1 (u:=.int m) rfl (bi_mk (hq.marks m hm).1 (hq.marks m hm).2)⟩
 have e1:(q.map fun m=>Val.str (mkS m))=(q.map mkS).map .str:=by rw [List.map_map];rfl
 rw [e1] at c1
 have h5:=hq.l5
 have a1:evE (cb tab (d+2)) (.lst (.cons (.con (.str "marks")) .nil)) [some (.val (picV q)),some (.val (Qqx cs)),none,none,none] κ=.ok (.lst [.str "marks"],κ):=rfl
 have b1:=Qzm a1 c1 (fun _=>rfl) (fun _=>rfl) (op_lst (by simp;omega))
 have j1:=ev_joinL (a := " ") (v:=.str (Qz4 q)) b1 (sm_join (ts:=("marks" : PySem.Str)::q.map mkS) (Nat.le_trans (line_fit hq.marks h5) (by decide)))
 have c2:=ev_compM (c:=cb tab (d+2)) (ee:=.call 29 (.cons (.var 4) .nil)) (tg:=.nm 4) (it:=.seq (.var 1)) (own:=[4]) (ρ:=[some (.val (picV q)),some (.val (Qqx cs)),some (.val (.str (Qz4 q))),none,none]) (κ:=κ) (l:=cs) (a:=Clm.v) (h:=fun c=>Val.str (lineC c)) rfl (Nat.lt_of_le_of_lt h4 (by decide)) fun c hcs=>by
  have up:=ClaimOk.up h5 (hc c hcs).ok
  have p:=ClaimOk.p60 (q:=W5) (by decide) up
  exact ⟨[some (.val (picV q)),some (.val (Qqx cs)),some (.val (.str (Qz4 q))),none,some (.val (Clm.v c))],rfl,Qqd rfl (s_lline d up.w p.1 p.2 up.l.l3 up.r.l3 κ)⟩
 have e2:(cs.map fun c=>Val.str (lineC c))=(cs.map lineC).map .str:=by rw [List.map_map];rfl
 rw [e2] at c2
 have a2:evE (cb tab (d+2)) (.lst (.cons (.var 2) .nil)) [some (.val (picV q)),some (.val (Qqx cs)),some (.val (.str (Qz4 q))),none,none] κ=.ok (.lst [.str (Qz4 q)],κ):=rfl
 have b2:=Qzm a2 c2 (fun _=>rfl) (fun _=>rfl) (op_lst (by simp;omega))
 have j2:=ev_joinL (a := "\n") (v:=.str (textS q cs)) b2 (sm_join (ts:=Qz4 q::cs.map lineC) (Nat.le_trans (text_fit hq h4 hc) (by decide)))
 have fin:exSs (cb tab (d+2)) ir__law_text [some (.val (picV q)),some (.val (Qqx cs)),none,none,none] κ=.ret (.str (textS q cs)) κ:=by
  unfold ir__law_text
  exact (Qz3 (Qzp j1)).trans (Qz5 (Qz8 j2))
 exact congrArg O.fin fin
theorem s_rtext:(cb tab (d+6)).cf 14 [.v (picV q),.v (Qqx cs)] κ=.ok (.str (textS q cs),κ):=by
 rw [Qqf _ _ _ _ _ rfl rfl]
 have h5:=hq.l5
 have n1:exS (cb tab (d+5)) (.expr (.call 5 (.cons (.var 0) .nil))) [some (.val (picV q)),some (.val (Qqx cs)),none] κ=.nx [some (.val (picV q)),some (.val (Qqx cs)),none] κ:=expr_nx (Qqd rfl (s_need_picture (d+2) κ hq))
 have n2:exS (cb tab (d+5)) (.expr (.call 6 (.cons (.var 0) (.cons (.var 1) .nil)))) [some (.val (picV q)),some (.val (Qqx cs)),none] κ=.nx [some (.val (picV q)),some (.val (Qqx cs)),none] κ:=expr_nx (Qqd rfl (s_need_facts d κ h4 fun c h=>(hc c h).ok))
 have p1:=s_pline (d+4) hq.marks h5 κ
 have a1:evE (cb tab (d+5)) (.lst (.cons (.call 7 (.cons (.var 0) .nil)) .nil)) [some (.val (picV q)),some (.val (Qqx cs)),none] κ=.ok (.lst [.str (Qz4 q)],κ):=evs_lst (Qz7 (Qqd rfl p1) evs_nil) (show 1≤1000 by decide)
 have c2:=ev_compM (c:=cb tab (d+5)) (ee:=.call 9 (.cons (.var 2) .nil)) (tg:=.nm 2) (it:=.seq (.var 1)) (own:=[2]) (ρ:=[some (.val (picV q)),some (.val (Qqx cs)),none]) (κ:=κ) (l:=cs) (a:=Clm.v) (h:=fun c=>Val.str (lineC c)) rfl (Nat.lt_of_le_of_lt h4 (by decide)) fun c hcs=>by
  have up:=ClaimOk.up h5 (hc c hcs).ok
  have p:=ClaimOk.p60 (q:=W5) (by decide) up
  exact ⟨[some (.val (picV q)),some (.val (Qqx cs)),some (.val (Clm.v c))],rfl,Qqd rfl (s_claim_line (d+3) up.w p.1 p.2 up.l.l3 up.r.l3 κ)⟩
 have e2:(cs.map fun c=>Val.str (lineC c))=(cs.map lineC).map .str:=by rw [List.map_map];rfl
 rw [e2] at c2
 have b2:=Qzm a1 c2 (fun _=>rfl) (fun _=>rfl) (op_lst (by simp;omega))
 have j2:=ev_joinL (a := "\n") (v:=.str (textS q cs)) b2 (sm_join (ts:=Qz4 q::cs.map lineC) (Nat.le_trans (text_fit hq h4 hc) (by decide)))
 have fin:exSs (cb tab (d+5)) ir_road_text [some (.val (picV q)),some (.val (Qqx cs)),none] κ=.ret (.str (textS q cs)) κ:=by
  unfold ir_road_text
  rw [Qz3 n1,Qz3 n2]
  exact Qz5 (Qz8 j2)
 exact congrArg O.fin fin
theorem s_rback:(cb tab (d+5)).cf 15 [.v (.str (textS q cs))] κ=.ok (roadV q cs,κ):=by
 have up:∀ c∈cs,ClaimOk W5 c:=fun c h=>ClaimOk.up hq.l5 (hc c h).ok
 have r:=rr_B2 d (n:=160) (by decide) (text_plain hq h4 hc) κ hq (text_split hq up) up
 rw [factsB_of h4 hq.l5 fun c h=>(hc c h).ok,if_pos rfl] at r
 exact r
end
theorem x_rtextF (d:Nat){q:List Int}{v:Val}{n:Nat}(hq:PicOk q)(hv:datB n v=true)(hf:factsB q.length v=false)(κ:Ks):(cb tab (d+6)).cf 14 [.v (picV q),.v v] κ=.exc (1) .non κ:=by
 rw [Qqf _ _ _ _ _ rfl rfl]
 have n1:exS (cb tab (d+5)) (.expr (.call 5 (.cons (.var 0) .nil))) [some (.val (picV q)),some (.val v),none] κ=.nx [some (.val (picV q)),some (.val v),none] κ:=expr_nx (Qqd rfl (s_need_picture (d+2) κ hq))
 have b:=bx_need_facts d (q:=q) κ hv
 rw [hf,if_neg Bool.false_ne_true] at b
 have n2:exS (cb tab (d+5)) (.expr (.call 6 (.cons (.var 0) (.cons (.var 1) .nil)))) [some (.val (picV q)),some (.val v),none] κ=.exc (1) .non κ:=expr_exc (Qqd rfl b)
 have fin:exSs (cb tab (d+5)) ir_road_text [some (.val (picV q)),some (.val v),none] κ=.exc (1) .non κ:=by
  unfold ir_road_text
  rw [Qz3 n1]
  exact ss_exc n2
 exact congrArg O.fin fin
theorem x_rtextP (d:Nat){u v:Val}{n:Nat}(hu:datB n u=true)(hp:picB u=false)(κ:Ks):(cb tab (d+6)).cf 14 [.v u,.v v] κ=.exc (0) .non κ:=by
 rw [Qqf _ _ _ _ _ rfl rfl]
 have b:=b_need_pic (d+2) κ hu
 rw [hp,if_neg Bool.false_ne_true] at b
 have n1:exS (cb tab (d+5)) (.expr (.call 5 (.cons (.var 0) .nil))) [some (.val u),some (.val v),none] κ=.exc (0) .non κ:=expr_exc (Qqd rfl b)
 have fin:exSs (cb tab (d+5)) ir_road_text [some (.val u),some (.val v),none] κ=.exc (0) .non κ:=by
  unfold ir_road_text
  exact ss_exc n1
 exact congrArg O.fin fin
end K10
end
section
set_option maxHeartbeats 800000
namespace PL
open PySem
theorem cut_plain {n:Nat}{z:PySem.Str}(h:Plain n z)(lo hi:Option Int):Plain n (L2.cutS z lo hi):=⟨Nat.le_trans (L2.cutS_length z lo hi) h.len,fun c hc=>by
 have:c∈(z.cps.toList.drop (HT.sIx z.length 0 lo)).take (HT.sIx z.length z.length hi-HT.sIx z.length 0 lo):=hc
 exact h.low c (List.mem_of_mem_drop (List.mem_of_mem_take this))⟩
theorem sl_str {n:Nat}{z:PySem.Str}(h:Plain n z)(hn:n≤900)(lo hi:Option Int):slV (.str z) lo hi=some (.str (L2.cutS z lo hi)):=by
 show (if z.length≤LINE then some (Val.str (L2.cutS z lo hi)) else none)=_
 rw [if_pos (Nat.le_trans h.len (Nat.le_trans hn (by decide)))]
theorem len_str {n:Nat}{z:PySem.Str}(h:Plain n z)(hn:n≤900):biV .len [.str z]=some (.int z.length):=by
 show (if z.length≤LINE then some (Val.int z.length) else none)=_
 rw [if_pos (Nat.le_trans h.len (Nat.le_trans hn (by decide)))]
def wt (l:List PySem.Str):Nat:=(l.map (·.length)).sum+l.length
theorem wt_app (a b:List PySem.Str):wt (a++b)=wt a+wt b:=by
 unfold wt
 rw [List.map_append,List.sum_append,List.length_append]
 omega
theorem wt_cons (x:PySem.Str)(l:List PySem.Str):wt (x::l)=x.length+1+wt l:=by
 unfold wt
 rw [List.map_cons,List.sum_cons,List.length_cons]
 omega
theorem wt_td (l:List PySem.Str)(i:Nat):wt (l.take i)+wt (l.drop i)=wt l:=by
 rw [← wt_app,List.take_append_drop]
theorem wt_take (l:List PySem.Str)(i:Nat):wt (l.take i)≤wt l:=by have:=wt_td l i;omega
theorem wt_drop (l:List PySem.Str)(i:Nat):wt (l.drop i)≤wt l:=by have:=wt_td l i;omega
theorem wt_drop1 {l:List PySem.Str}{i:Nat}(h:i<l.length):wt (l.take i)+(l[i].length+1)+wt (l.drop (i+1))=wt l:=by
 have:=wt_td l i
 rw [List.drop_eq_getElem_cons h,wt_cons] at this
 omega
theorem wt_drop_le (l:List PySem.Str)(i j:Nat)(h:i≤j):wt (l.take i)+wt (l.drop j)≤wt l:=by
 have a:=wt_td l i
 have b:=wt_drop (l.drop i) (j-i)
 rw [List.drop_drop,show i+(j-i)=j by omega] at b
 omega
theorem wt_rev (l:List PySem.Str):wt l.reverse=wt l:=by
 unfold wt
 rw [List.map_reverse,List.sum_reverse,List.length_reverse]
theorem joinL_len (s:Nat):∀ l:List (List Nat),l≠[]→(TL.joinL [s] l).length+1=(l.map (·.length)).sum+l.length
 | [],h=>absurd rfl h
 | [x],_=>by
  show x.length+1=(x.length+0)+1
  rw [Nat.add_zero]
 | x::y::l,_=>by
  rw [joinL_cons (List.cons_ne_nil y l),List.length_append,List.length_append]
  have:=joinL_len s (y::l) (List.cons_ne_nil y l)
  rw [List.map_cons,List.sum_cons,List.length_cons]
  simp only [List.length_cons,List.length_nil] at this ⊢
  omega
theorem SpOk.wt {x y:PySem.Str}{l:List PySem.Str}{s:Nat}(ey:TL.tl y=[s])(h:SpOk y x l):wt l=x.length+1:=by
 have j:=h.join
 have t:TL.tl (Txt.join y l)=TL.joinL [s] (l.map TL.tl):=by rw [TL.join_eq,TL.tl_join,ey]
 rw [j] at t
 have k:=joinL_len s (l.map TL.tl) (by simp [h.ne])
 rw [← t,← TL.len_tl,List.length_map,List.map_map] at k
 have e:l.map (fun z=>z.length)=l.map (List.length ∘ TL.tl):=List.map_congr_left fun z _=>by
  show z.length=(TL.tl z).length
  rw [TL.len_tl]
 unfold PL.wt
 rw [e]
 exact k.symm
theorem join_plain {y:PySem.Str}{s m k:Nat}(ey:TL.tl y=[s])(hs:s<128){l:List PySem.Str}(hw:wt l≤m)(h:∀ x∈l,Plain k x):Plain m (Txt.join y l):=by
 refine ⟨?_,K10.join_low ey hs fun x hx=>(h x hx).low⟩
 have t:=tjoin_le y l
 have b:y.length=1:=by rw [TL.len_tl,ey];rfl
 rw [b,Nat.mul_one] at t
 exact Nat.le_trans t hw
theorem sm_joinP {y:PySem.Str}{s m:Nat}(ey:TL.tl y=[s]){l:List PySem.Str}(hw:wt l≤m)(hm:m≤100000):smV .join y (.lst (l.map Val.str))=some (.str (Txt.join y l)):=by
 refine sm_join ?_
 have b:y.length=1:=by rw [TL.len_tl,ey];rfl
 rw [b,Nat.mul_one]
 exact Nat.le_trans hw (Nat.le_trans hm (by decide))
def plainB (n:Nat)(w:PySem.Str):Bool:=decide (w.length≤n)&&(TL.tl w).all fun c=>decide (c<128)
theorem plainB_ok {n:Nat}{w:PySem.Str}(h:plainB n w=true):Plain n w:=by
 obtain ⟨a,b⟩:=Bool.and_eq_true_iff.mp h
 exact ⟨of_decide_eq_true a,fun c hc=>of_decide_eq_true (List.all_eq_true.mp b c hc)⟩
def bentA:List PySem.Str:=[" ", "1", "0", "*", "-", "\n", "by", "\nless 1*0-1 by 1*1-2"]
def bentB:List PySem.Str:=["1*0-1", "2*1-4", "0*0-1", "3*2-1", "by", "less", "same", "4", "59", "61", "Marks", "", "01"]
theorem bentA_plain:∀ w∈bentA,Plain 20 w:=fun w hw=>plainB_ok (by
 have:bentA.all (plainB 20)=true:=by decide +kernel
 exact List.all_eq_true.mp this w hw)
theorem bentB_plain:∀ w∈bentB,Plain 5 w:=fun w hw=>plainB_ok (by
 have:bentB.all (plainB 5)=true:=by decide +kernel
 exact List.all_eq_true.mp this w hw)
theorem ix_at {κ:Ks}{l:List PySem.Str}{i:Nat}(h:i<l.length):ixV κ (.lst (l.map .str)) (.int (i:Nat))=some (.str l[i]):=ix_lst (by
 rw [atI_nat (by rw [List.length_map];exact h),List.getElem?_map,List.getElem?_eq_getElem h];rfl)
theorem sl_frS {l:List PySem.Str}{i:Nat}(h:i≤l.length):slV (.lst (l.map .str)) (some (i:Int)) none=some (.lst ((l.drop i).map .str)):=by
 rw [sl_froml (by rw [List.length_map];exact h),List.map_drop]
theorem sl_toS {l:List PySem.Str}{i:Nat}(h:i≤l.length):slV (.lst (l.map .str)) none (some (i:Int))=some (.lst ((l.take i).map .str)):=by
 rw [sl_tol (by rw [List.length_map];exact h),List.map_take]
theorem op_lstS {x y:List PySem.Str}(h:x.length+y.length≤100000):opV .add (.lst (x.map .str)) (.lst (y.map .str))=some (.lst ((x++y).map .str)):=by
 rw [op_lstL (by rw [List.length_map,List.length_map];exact h),List.map_append]
end PL
namespace K10
open PySem PL
theorem ex_step {c:CB}{s:S}{l:Ss}{ρ ρ':Rho}{κ κ1:Ks}(h:exS c s ρ κ=.nx ρ' κ1){P:PySem.Str→Ks→Prop}(k:∃ u κ',exSs c l ρ' κ1=.ret (.str u) κ'∧P u κ'):∃ u κ',exSs c (.cons s l) ρ κ=.ret (.str u) κ'∧P u κ':=by
 obtain ⟨u,κ',e,p⟩:=k
 exact ⟨u,κ',(Qz3 h).trans e,p⟩
abbrev btR (i:Nat)(t:PySem.Str)(e2 e3 e4 e5 e6 e7 e8 e9 e10:Option PL.Slot):Rho:=[some (.val (.cell i)),some (.val (.str t)),e2,e3,e4,e5,e6,e7,e8,e9,e10]
theorem s_bent (d:Nat){κ:Ks}{i:Nat}(hS:Spr κ i){t:PySem.Str}{n:Nat}(hn:n≤400)(hp:Plain n t):∃ u κ',(cb tab (d+3)).cf 37 [.v (.cell i),.v (.str t)] κ=.ok (.str u,κ')∧Plain (2*n+30) u∧Spr κ' i∧κ'.length=κ.length:=by
 rw [Qqf _ _ _ _ _ rfl rfl]
 have sp:=split_ok (x:=t) tl_nl (by decide)
 have sm:=sm_splitP tl_nl hp (Nat.le_trans hn (by decide))
 have pw:=sp.plain hp
 have lw:=sp.len
 have ln:=hp.len
 have hn9:n≤900:=by omega
 have wL:=SpOk.wt tl_nl sp
 have neL:=sp.ne
 generalize hLs:Txt.split t "\n" = L at *
 have posL:1≤L.length:=by
  cases L with
  | nil=>exact absurd rfl neL
  | cons _ _=>simp
 obtain ⟨r,κ1,q1,r0,r1,S1,l1⟩:=s_pick (d+1) hS (m:=(t.length:Int)+1) (by omega) (Int.le_trans (show (t.length:Int)+1≤1000 by omega) (by decide))
 obtain ⟨w,κ2,q2,w0,w1,S2,l2⟩:=s_pick (d+1) S1 (m:=7) (by decide) (by decide)
 obtain ⟨h,κ3,q3,h0,h1,S3,l3⟩:=s_pick (d+1) S2 (m:=(L.length:Int)) (by omega) (Int.le_trans (show (L.length:Int)≤1000 by omega) (by decide))
 obtain ⟨h,rfl⟩:∃ k:Nat,h=(k:Int):=⟨h.toNat,by omega⟩
 have hh:h<L.length:=by omega
 have lL:L.length≤401:=by omega
 have y1:evE (cb tab (d+2)) (.op .add (.bi .len (.cons (.var 1) .nil)) (.con (.int (1)))) (btR i t none none none none none none none none none) κ=.ok (.int ((t.length:Int)+1),κ):=Qzm (x:=.int t.length) (y:=.int 1) (ev_bi1 (a:=.var 1) (u:=.str t) rfl (len_str hp hn9)) rfl (fun _=>rfl) (fun _=>rfl) rfl
 have x1:evE (cb tab (d+2)) (.call 17 (.cons (.var 0) (.cons (.op .add (.bi .len (.cons (.var 1) .nil)) (.con (.int (1)))) .nil))) (btR i t none none none none none none none none none) κ=.ok (.int r,κ1):=Qqd (Qzj rfl (Qzj y1 eva_nil)) q1
 have x2:evE (cb tab (d+2)) (.call 17 (.cons (.var 0) (.cons (.con (.int (7))) .nil))) (btR i t none none none none none none none none none) κ1=.ok (.int w,κ2):=Qqd rfl q2
 have x3:evE (cb tab (d+2)) (.sm .split (.var 1) (.con (.str "\n"))) (btR i t none none none none none none none none none) κ2=.ok (.lst (L.map .str),κ2):=ev_splitL rfl sm
 have p1:exS (cb tab (d+2)) (.par [(2,false),(3,false),(4,false)] (.cons (.call 17 (.cons (.var 0) (.cons (.op .add (.bi .len (.cons (.var 1) .nil)) (.con (.int (1)))) .nil))) (.cons (.call 17 (.cons (.var 0) (.cons (.con (.int (7))) .nil))) (.cons (.sm .split (.var 1) (.con (.str "\n"))) .nil)))) (btR i t none none none none none none none none none) κ=.nx (btR i t (some (.val (.int r))) (some (.val (.int w))) (some (.val (.lst (L.map .str)))) none none none none none none) κ2:=par_nx (Qz7 x1 (Qz7 x2 (Qz7 x3 evs_nil))) rfl
 have y4:evE (cb tab (d+2)) (.bi .len (.cons (.var 4) .nil)) (btR i t (some (.val (.int r))) (some (.val (.int w))) (some (.val (.lst (L.map .str)))) none none none none none none) κ2=.ok (.int L.length,κ2):=ev_bi1 (a:=.var 4) (u:=.lst (L.map .str)) rfl (by
  show some (Val.int (L.map Val.str).length)=_
  rw [List.length_map])
 have x4:evE (cb tab (d+2)) (.call 17 (.cons (.var 0) (.cons (.bi .len (.cons (.var 4) .nil)) .nil))) (btR i t (some (.val (.int r))) (some (.val (.int w))) (some (.val (.lst (L.map .str)))) none none none none none none) κ2=.ok (.int (h:Nat),κ3):=Qqd (Qzj rfl (Qzj y4 eva_nil)) q3
 have p2:exS (cb tab (d+2)) (.set 5 (.call 17 (.cons (.var 0) (.cons (.bi .len (.cons (.var 4) .nil)) .nil)))) (btR i t (some (.val (.int r))) (some (.val (.int w))) (some (.val (.lst (L.map .str)))) none none none none none none) κ2=.nx (btR i t (some (.val (.int r))) (some (.val (.int w))) (some (.val (.lst (L.map .str)))) (some (.val (.int (h:Nat)))) none none none none none) κ3:=Qzp x4
 suffices fin:∃ u κ',exSs (cb tab (d+2)) ir__law_bent (btR i t none none none none none none none none none) κ=.ret (.str u) κ'∧Plain (2*n+30) u∧Spr κ' i∧κ'.length=κ.length by
  obtain ⟨u,κ',e,g⟩:=fin
  exact ⟨u,κ',congrArg O.fin e,g⟩
 unfold ir__law_bent
 rw [Qz3 p1,Qz3 p2]
 generalize hρ:btR i t (some (.val (.int r))) (some (.val (.int w))) (some (.val (.lst (L.map .str)))) (some (.val (.int (h:Nat)))) none none none none none=ρ
 have v1:evE (cb tab (d+2)) (.var 1) ρ κ3=.ok (.str t,κ3):=by subst hρ;rfl
 have v1':∀ κ,evE (cb tab (d+2)) (.var 1) ρ κ=.ok (.str t,κ):=fun κ=>by subst hρ;rfl
 have v2:∀ κ,evE (cb tab (d+2)) (.var 2) ρ κ=.ok (.int r,κ):=fun κ=>by subst hρ;rfl
 have v3:evE (cb tab (d+2)) (.var 3) ρ κ3=.ok (.int w,κ3):=by subst hρ;rfl
 have v4:evE (cb tab (d+2)) (.var 4) ρ κ3=.ok (.lst (L.map .str),κ3):=by subst hρ;rfl
 have v5:evE (cb tab (d+2)) (.var 5) ρ κ3=.ok (.int (h:Nat),κ3):=by subst hρ;rfl
 have tw:∀ z:Int,evT (cb tab (d+2)) (.cm .eq (.var 3) (.con (.int z))) ρ κ3=.ok (decide (w=z),κ3):=fun z=>t_cm (a:=.var 3) (b:=.con (.int z)) (u:=.int w) (w:=.int z) v3 rfl (by
  show eqD (.int w) (.int z)=_
  exact eqD_int w z)
 have lo1:evE (cb tab (d+2)) (.op .add (.var 5) (.con (.int (1)))) ρ κ3=.ok (.int ((h+1:Nat):Int),κ3):=Qzm v5 rfl (fun _=>rfl) (fun _=>rfl) rfl
 have toH:evE (cb tab (d+2)) (.sl (.var 4) .no (.yes (.var 5))) ρ κ3=.ok (.lst ((L.take h).map .str),κ3):=ev_slE (a:=.var 4) (u:=.lst (L.map .str)) v4 rfl (ev_oY v5) (sl_toS (by omega))
 have toH1:evE (cb tab (d+2)) (.sl (.var 4) .no (.yes (.op .add (.var 5) (.con (.int (1)))))) ρ κ3=.ok (.lst ((L.take (h+1)).map .str),κ3):=ev_slE (a:=.var 4) (u:=.lst (L.map .str)) v4 rfl (ev_oY lo1) (sl_toS (by omega))
 have frH:evE (cb tab (d+2)) (.sl (.var 4) (.yes (.var 5)) .no) ρ κ3=.ok (.lst ((L.drop h).map .str),κ3):=ev_slE (a:=.var 4) (u:=.lst (L.map .str)) v4 (ev_oY v5) rfl (sl_frS (by omega))
 have frH1:evE (cb tab (d+2)) (.sl (.var 4) (.yes (.op .add (.var 5) (.con (.int (1))))) .no) ρ κ3=.ok (.lst ((L.drop (h+1)).map .str),κ3):=ev_slE (a:=.var 4) (u:=.lst (L.map .str)) v4 (ev_oY lo1) rfl (sl_frS (by omega))
 by_cases c0:w=0
 ·have t0:=tw 0
  rw [decide_eq_true c0] at t0
  obtain ⟨v,κ4,q4,hv,S4,l4⟩:=s_chosen d S3 (l:=bentA.map .str) (by decide) (by decide)
  obtain ⟨x,hx,rfl⟩:=List.mem_map.mp hv
  have px:=bentA_plain x hx
  have a1:evE (cb tab (d+2)) (.sl (.var 1) .no (.yes (.var 2))) ρ κ3=.ok (.str (L2.cutS t none (some r)),κ3):=ev_slE (a:=.var 1) (u:=.str t) v1 rfl (ev_oY (v2 κ3)) (sl_str hp hn9 _ _)
  have a2:evE (cb tab (d+2)) (.call 18 (.cons (.var 0) (.cons (.lst (.cons (.con (.str " ")) (.cons (.con (.str "1")) (.cons (.con (.str "0")) (.cons (.con (.str "*")) (.cons (.con (.str "-")) (.cons (.con (.str "\n")) (.cons (.con (.str "by")) (.cons (.con (.str "\nless 1*0-1 by 1*1-2")) .nil))))))))) .nil))) ρ κ3=.ok (.str x,κ4):=Qqd (by subst hρ;rfl) q4
  have a3:=Qzm a1 a2 (fun _=>rfl) (fun _=>rfl) (op_strP (cut_plain hp _ _) px (by omega))
  have a4:evE (cb tab (d+2)) (.sl (.var 1) (.yes (.var 2)) .no) ρ κ4=.ok (.str (L2.cutS t (some r) none),κ4):=ev_slE (a:=.var 1) (u:=.str t) (v1' κ4) (ev_oY (v2 κ4)) rfl (sl_str hp hn9 _ _)
  have p5:=Qx4 (cut_plain hp none (some r)) px
  have a5:=Qzm a3 a4 (fun _=>rfl) (fun _=>rfl) (op_strP p5 (cut_plain hp _ _) (by omega))
  exact ⟨_,κ4,Qz5 ((Qzs t0).trans (Qz5 (Qz8 a5))),(Qx4 p5 (cut_plain hp _ _)).mono (by omega),S4,by omega⟩
 ·have t0:=tw 0
  rw [decide_eq_false c0] at t0
  refine ex_step (P:=fun u κ'=>Plain (2*n+30) u∧Spr κ' i∧κ'.length=κ.length) ((ite_no t0).trans rfl) ?_
  by_cases c1:w=1
  ·have t1:=tw 1
   rw [decide_eq_true c1] at t1
   have a1:evE (cb tab (d+2)) (.sl (.var 1) .no (.yes (.var 2))) ρ κ3=.ok (.str (L2.cutS t none (some r)),κ3):=ev_slE (a:=.var 1) (u:=.str t) v1 rfl (ev_oY (v2 κ3)) (sl_str hp hn9 _ _)
   have o1:evE (cb tab (d+2)) (.op .add (.var 2) (.con (.int (1)))) ρ κ3=.ok (.int (r+1),κ3):=Qzm (v2 κ3) rfl (fun _=>rfl) (fun _=>rfl) rfl
   have a2:evE (cb tab (d+2)) (.sl (.var 1) (.yes (.op .add (.var 2) (.con (.int (1))))) .no) ρ κ3=.ok (.str (L2.cutS t (some (r+1)) none),κ3):=ev_slE (a:=.var 1) (u:=.str t) v1 (ev_oY o1) rfl (sl_str hp hn9 _ _)
   have a3:=Qzm a1 a2 (fun _=>rfl) (fun _=>rfl) (op_strP (cut_plain hp _ _) (cut_plain hp _ _) (by omega))
   exact ⟨_,κ3,Qz5 ((Qzs t1).trans (Qz5 (Qz8 a3))),(Qx4 (cut_plain hp _ _) (cut_plain hp _ _)).mono (by omega),S3,by omega⟩
  ·have t1:=tw 1
   rw [decide_eq_false c1] at t1
   refine ex_step (P:=fun u κ'=>Plain (2*n+30) u∧Spr κ' i∧κ'.length=κ.length) ((ite_no t1).trans rfl) ?_
   have pt:∀ j,∀ x∈L.take j,Plain n x:=fun j x hx=>pw x (List.mem_of_mem_take hx)
   have pd:∀ j,∀ x∈L.drop j,Plain n x:=fun j x hx=>pw x (List.mem_of_mem_drop hx)
   have both:∀ a b,∀ x∈L.take a++L.drop b,Plain n x:=fun a b x hx=>by
    rcases List.mem_append.mp hx with hx|hx
    ·exact pt a x hx
    ·exact pd b x hx
   by_cases c2:w=2
   ·have t2:=tw 2
    rw [decide_eq_true c2] at t2
    have g:wt (L.take h++L.drop (h+1))≤2*n+30:=by
     rw [wt_app]
     have:=wt_take L h
     have:=wt_drop L (h+1)
     omega
    have a3:=Qzm toH frH1 (fun _=>rfl) (fun _=>rfl) (op_lstS (by rw [List.length_take,List.length_drop];omega))
    have a4:=ev_joinL a3 (sm_joinP tl_nl g (by omega))
    exact ⟨_,κ3,Qz5 ((Qzs t2).trans (Qz5 (Qz8 a4))),join_plain tl_nl (by decide) g (both _ _),S3,by omega⟩
   ·have t2:=tw 2
    rw [decide_eq_false c2] at t2
    refine ex_step (P:=fun u κ'=>Plain (2*n+30) u∧Spr κ' i∧κ'.length=κ.length) ((ite_no t2).trans rfl) ?_
    by_cases c3:w=3
    ·have t3:=tw 3
     rw [decide_eq_true c3] at t3
     have g:wt (L.take (h+1)++L.drop h)≤2*n+30:=by
      rw [wt_app]
      have:=wt_take L (h+1)
      have:=wt_drop L h
      omega
     have a3:=Qzm toH1 frH (fun _=>rfl) (fun _=>rfl) (op_lstS (by rw [List.length_take,List.length_drop];omega))
     have a4:=ev_joinL a3 (sm_joinP tl_nl g (by omega))
     exact ⟨_,κ3,Qz5 ((Qzs t3).trans (Qz5 (Qz8 a4))),join_plain tl_nl (by decide) g (both _ _),S3,by omega⟩
    ·have t3:=tw 3
     rw [decide_eq_false c3] at t3
     refine ex_step (P:=fun u κ'=>Plain (2*n+30) u∧Spr κ' i∧κ'.length=κ.length) ((ite_no t3).trans rfl) ?_
     by_cases c4:w=4
     ·have t4:=tw 4
      rw [decide_eq_true c4] at t4
      have g:wt L.reverse≤2*n+30:=by rw [wt_rev];omega
      have a3:evE (cb tab (d+2)) (.rev (.var 4)) ρ κ3=.ok (.lst (L.reverse.map .str),κ3):=by
       show (bw _ _ _ (evE (cb tab (d+2)) (.var 4) ρ κ3)).bind _=_
       rw [v4]
       show R.ok (Val.lst (L.map Val.str).reverse,κ3)=_
       rw [List.map_reverse]
      have a4:=ev_joinL a3 (sm_joinP tl_nl g (by omega))
      exact ⟨_,κ3,Qz5 ((Qzs t4).trans (Qz5 (Qz8 a4))),join_plain tl_nl (by decide) g (fun x hx=>pw x (List.mem_reverse.mp hx)),S3,by omega⟩
     ·have t4:=tw 4
      rw [decide_eq_false c4] at t4
      refine ex_step (P:=fun u κ'=>Plain (2*n+30) u∧Spr κ' i∧κ'.length=κ.length) ((ite_no t4).trans rfl) ?_
      have pl:=pw L[h] (List.getElem_mem hh)
      have spW:=split_ok (x:=L[h]) tl_sp (by decide)
      have smW:=sm_splitP tl_sp pl (Nat.le_trans hn (by decide))
      have ppW:=spW.plain pl
      have wW:=SpOk.wt tl_sp spW
      have neW:=spW.ne
      have lW:=spW.len
      have plL:=pl.len
      generalize Txt.split L[h] " " = M at *
      have posM:1≤M.length:=by
       cases M with
       | nil=>exact absurd rfl neW
       | cons _ _=>simp
      obtain ⟨g,κ4,q4,g0,g1,S4,l4⟩:=s_pick (d+1) S3 (m:=(M.length:Int)) (by omega) (Int.le_trans (show (M.length:Int)≤1000 by omega) (by decide))
      obtain ⟨g,rfl⟩:∃ k:Nat,g=(k:Int):=⟨g.toNat,by omega⟩
      obtain ⟨v,κ5,q5,hv,S5,l5⟩:=s_chosen d S4 (l:=bentB.map .str) (by decide) (by decide)
      obtain ⟨x,hx,rfl⟩:=List.mem_map.mp hv
      have px:=bentB_plain x hx
      have hgM:g<M.length:=by omega
      obtain ⟨b,hb,hb1⟩:∃ b:Nat,Val.int (b:Nat)=.int (if decide (w > 5)=true then 1 else 0)∧b≤1:=by
       by_cases w5:w > 5
       ·exact ⟨1,by rw [decide_eq_true w5];rfl,Nat.le_refl _⟩
       ·exact ⟨0,by rw [decide_eq_false w5];rfl,by decide⟩
      subst hρ
      have ixh:evE (cb tab (d+2)) (.ix (.var 4) (.var 5)) (btR i t (some (.val (.int r))) (some (.val (.int w))) (some (.val (.lst (L.map .str)))) (some (.val (.int (h:Nat)))) none none none none none) κ3=.ok (.str L[h],κ3):=ev_ixE (u:=.lst (L.map .str)) (w:=.int (h:Nat)) rfl rfl (ix_at hh)
      have e6:evE (cb tab (d+2)) (.sm .split (.ix (.var 4) (.var 5)) (.con (.str " "))) (btR i t (some (.val (.int r))) (some (.val (.int w))) (some (.val (.lst (L.map .str)))) (some (.val (.int (h:Nat)))) none none none none none) κ3=.ok (.lst (M.map .str),κ3):=ev_splitL ixh smW
      have ly:evE (cb tab (d+2)) (.bi .len (.cons (.var 6) .nil)) (btR i t (some (.val (.int r))) (some (.val (.int w))) (some (.val (.lst (L.map .str)))) (some (.val (.int (h:Nat)))) (some (.val (.lst (M.map .str)))) none none none none) κ3=.ok (.int M.length,κ3):=ev_bi1 (a:=.var 6) (u:=.lst (M.map .str)) rfl (by
       show some (Val.int (M.map Val.str).length)=_
       rw [List.length_map])
      have e7:evE (cb tab (d+2)) (.call 17 (.cons (.var 0) (.cons (.bi .len (.cons (.var 6) .nil)) .nil))) (btR i t (some (.val (.int r))) (some (.val (.int w))) (some (.val (.lst (L.map .str)))) (some (.val (.int (h:Nat)))) (some (.val (.lst (M.map .str)))) none none none none) κ3=.ok (.int (g:Nat),κ4):=Qqd (Qzj rfl (Qzj ly eva_nil)) q4
      have e8:evE (cb tab (d+2)) (.call 18 (.cons (.var 0) (.cons (.lst (.cons (.con (.str "1*0-1")) (.cons (.con (.str "2*1-4")) (.cons (.con (.str "0*0-1")) (.cons (.con (.str "3*2-1")) (.cons (.con (.str "by")) (.cons (.con (.str "less")) (.cons (.con (.str "same")) (.cons (.con (.str "4")) (.cons (.con (.str "59")) (.cons (.con (.str "61")) (.cons (.con (.str "Marks")) (.cons (.con (.str "")) (.cons (.con (.str "01")) .nil)))))))))))))) .nil))) (btR i t (some (.val (.int r))) (some (.val (.int w))) (some (.val (.lst (L.map .str)))) (some (.val (.int (h:Nat)))) (some (.val (.lst (M.map .str)))) (some (.val (.int (g:Nat)))) none none none) κ4=.ok (.str x,κ5):=Qqd rfl q5
      have bl:evE (cb tab (d+2)) (.bi .int (.cons (.cm .gt (.var 3) (.con (.int (5)))) .nil)) (btR i t (some (.val (.int r))) (some (.val (.int w))) (some (.val (.lst (L.map .str)))) (some (.val (.int (h:Nat)))) (some (.val (.lst (M.map .str)))) (some (.val (.int (g:Nat)))) (some (.val (.str x))) none none) κ5=.ok (.int (b:Nat),κ5):=by
       rw [hb]
       rfl
      have op:evE (cb tab (d+2)) (.op .add (.var 7) (.bi .int (.cons (.cm .gt (.var 3) (.con (.int (5)))) .nil))) (btR i t (some (.val (.int r))) (some (.val (.int w))) (some (.val (.lst (L.map .str)))) (some (.val (.int (h:Nat)))) (some (.val (.lst (M.map .str)))) (some (.val (.int (g:Nat)))) (some (.val (.str x))) none none) κ5=.ok (.int ((g+b:Nat):Int),κ5):=Qzm (x:=.int (g:Nat)) rfl bl (fun _=>rfl) (fun _=>rfl) rfl
      have e9:evE (cb tab (d+2)) (.sl (.var 6) (.yes (.op .add (.var 7) (.bi .int (.cons (.cm .gt (.var 3) (.con (.int (5)))) .nil)))) .no) (btR i t (some (.val (.int r))) (some (.val (.int w))) (some (.val (.lst (L.map .str)))) (some (.val (.int (h:Nat)))) (some (.val (.lst (M.map .str)))) (some (.val (.int (g:Nat)))) (some (.val (.str x))) none none) κ5=.ok (.lst ((M.drop (g+b)).map .str),κ5):=ev_slE (u:=.lst (M.map .str)) rfl (ev_oY op) rfl (sl_frS (by omega))
      have fa:evE (cb tab (d+2)) (.sl (.var 6) .no (.yes (.var 7))) (btR i t (some (.val (.int r))) (some (.val (.int w))) (some (.val (.lst (L.map .str)))) (some (.val (.int (h:Nat)))) (some (.val (.lst (M.map .str)))) (some (.val (.int (g:Nat)))) (some (.val (.str x))) (some (.val (.lst ((M.drop (g+b)).map .str)))) none) κ5=.ok (.lst ((M.take g).map .str),κ5):=ev_slE (u:=.lst (M.map .str)) rfl rfl (ev_oY rfl) (sl_toS (by omega))
      have fb:=Qzm fa (b:=.lst (.cons (.var 8) .nil)) (y:=.lst (([x]:List PySem.Str).map .str)) rfl (fun _=>rfl) (fun _=>rfl) (op_lstS (by rw [List.length_take];show min g M.length+1≤100000;omega))
      have fc:=Qzm fb (b:=.var 9) (y:=.lst ((M.drop (g+b)).map .str)) rfl (fun _=>rfl) (fun _=>rfl) (op_lstS (by rw [List.length_append,List.length_take,List.length_drop];show min g M.length+1+(M.length-(g+b))≤100000;omega))
      have wM:wt (M.take g++[x]++M.drop (g+b))≤L[h].length+7:=by
       rw [wt_app,wt_app,wt_cons]
       have:=wt_drop_le M g (g+b) (by omega)
       have:=px.len
       show _+(_+1+0)+_≤_
       omega
      have e10:=ev_joinL (a := " ") fc (sm_joinP tl_sp wM (by omega))
      have pN:Plain (L[h].length+7) (Txt.join " " (M.take g++[x]++M.drop (g+b))):=join_plain (k:=n+5) tl_sp (by decide) wM fun z hz=>by
       rcases List.mem_append.mp hz with hz|hz
       ·rcases List.mem_append.mp hz with hz|hz
        ·exact (ppW z (List.mem_of_mem_take hz)).mono (by omega)
        ·rw [List.mem_singleton.mp hz];exact px.mono (by omega)
       ·exact (ppW z (List.mem_of_mem_drop hz)).mono (by omega)
      generalize Txt.join " " (M.take g++[x]++M.drop (g+b))=N at *
      have ka:evE (cb tab (d+2)) (.sl (.var 4) .no (.yes (.var 5))) (btR i t (some (.val (.int r))) (some (.val (.int w))) (some (.val (.lst (L.map .str)))) (some (.val (.int (h:Nat)))) (some (.val (.lst (M.map .str)))) (some (.val (.int (g:Nat)))) (some (.val (.str x))) (some (.val (.lst ((M.drop (g+b)).map .str)))) (some (.val (.str N)))) κ5=.ok (.lst ((L.take h).map .str),κ5):=ev_slE (u:=.lst (L.map .str)) rfl rfl (ev_oY rfl) (sl_toS (by omega))
      have kb:=Qzm ka (b:=.lst (.cons (.var 10) .nil)) (y:=.lst (([N]:List PySem.Str).map .str)) rfl (fun _=>rfl) (fun _=>rfl) (op_lstS (by rw [List.length_take];show min h L.length+1≤100000;omega))
      have kc:evE (cb tab (d+2)) (.sl (.var 4) (.yes (.op .add (.var 5) (.con (.int (1))))) .no) (btR i t (some (.val (.int r))) (some (.val (.int w))) (some (.val (.lst (L.map .str)))) (some (.val (.int (h:Nat)))) (some (.val (.lst (M.map .str)))) (some (.val (.int (g:Nat)))) (some (.val (.str x))) (some (.val (.lst ((M.drop (g+b)).map .str)))) (some (.val (.str N)))) κ5=.ok (.lst ((L.drop (h+1)).map .str),κ5):=ev_slE (u:=.lst (L.map .str)) rfl (ev_oY (n:=((h+1:Nat):Int)) rfl) rfl (sl_frS (by omega))
      have kd:=Qzm kb kc (fun _=>rfl) (fun _=>rfl) (op_lstS (by rw [List.length_append,List.length_take,List.length_drop];show min h L.length+1+(L.length-(h+1))≤100000;omega))
      have wN:wt (L.take h++[N]++L.drop (h+1))≤2*n+30:=by
       rw [wt_app,wt_app,wt_cons]
       have:=wt_drop1 hh
       have:=pN.len
       show _+(_+1+0)+_≤_
       omega
      have ke:=ev_joinL (a := "\n") kd (sm_joinP tl_nl wN (by omega))
      refine ⟨_,κ5,?_,join_plain (k:=n+7) tl_nl (by decide) wN fun z hz => ?_,S5,by omega⟩
      ·refine (Qz3 (Qzp e6)).trans ((Qz3 (Qzp e7)).trans ((Qz3 (Qzp e8)).trans ((Qz3 (Qzp e9)).trans ((Qz3 (Qzp e10)).trans (Qz5 (Qz8 ke))))))
      ·rcases List.mem_append.mp hz with hz|hz
       ·rcases List.mem_append.mp hz with hz|hz
        ·exact (pt _ z hz).mono (by omega)
        ·rw [List.mem_singleton.mp hz];exact pN.mono (by omega)
       ·exact (pd _ z hz).mono (by omega)
end K10
end
section
namespace K10
open PySem PL
end K10
end
section
set_option maxHeartbeats 800000
namespace PL
open PySem
theorem cel_nx {c:CB}{i:Nat}{e:E}{ρ:Rho}{κ κ1:Ks}{l:List Val}(h:evE c e ρ κ=.ok (.lst l,κ1)):exS c (.cel i e) ρ κ=.nx (ρ.set i (some (.val (.cell κ1.length)))) (κ1++[.lst l]):=by
 show (evE c e ρ κ).toO _=_
 rw [h]
 rfl
end PL
namespace K10
open PySem PL
abbrev lkR (ns:List Int)(e1 e2 e3 e4 e5 e6 e7 e8 e9:Option PL.Slot):Rho:=[some (.val (.scr ns)),e1,e2,e3,e4,e5,e6,e7,e8,e9]
abbrev lkI:Ss:=(.cons (.set 7 (.call 37 (.cons (.var 2) (.cons (.var 5) .nil))))
 (.cons (.set 7 (.ite (.cm .eq (.op .mod (.var 6) (.con (.int (3)))) (.con (.int (0)))) (.call 37 (.cons (.var 2) (.cons (.var 7) .nil))) (.var 7)))
 (.cons (.ite (.not (.val (.call 26 (.cons (.call 36 (.cons (.var 7) .nil)) (.cons (.call 35 (.cons (.var 7) .nil)) .nil))))) (.cons (.ret (.con (.bl false)))
 .nil) .nil)
 .nil)))
abbrev lkO:Ss:=(.cons (.ite (.cm .ne (.call 36 (.cons (.var 8) .nil)) (.con (.int (0)))) (.cons (.ret (.con (.bl false)))
 .nil) .nil)
 .nil)
abbrev lkB:Ss:=(.cons (.cel 2 (.call 16 (.cons (.var 0) (.cons (.var 1) .nil))))
 (.cons (.set 3 (.call 19 (.cons (.var 2) (.cons (.con (.int (5))) .nil))))
 (.cons (.set 4 (.call 22 (.cons (.var 2) (.cons (.var 3) (.cons (.con (.int (4))) .nil)))))
 (.cons (.set 5 (.call 30 (.cons (.var 3) (.cons (.var 4) .nil))))
 (.cons (.ite (.or (.cm .ne (.call 14 (.cons (.var 3) (.cons (.var 4) .nil))) (.var 5)) (.not (.val (.call 26 (.cons (.call 15 (.cons (.var 5) .nil)) (.cons (.tup (.cons (.var 3) (.cons (.var 4) .nil))) .nil)))))) (.cons (.ret (.con (.bl false)))
 .nil) .nil)
 (.cons (.loop (.nm 6) (.rng1 (.cons (.con (.int (14))) .nil)) lkI)
 (.cons (.loop (.nm 8) (.seq (.lst (.cons (.con (.non)) (.cons (.con (.int (5))) (.cons (.tup (.cons (.var 5) .nil)) (.cons (.lst (.cons (.var 5) .nil)) .nil)))))) lkO)
 (.cons (.setC 9 (.lams [(2,[3])]))
 (.cons (.ite (.not (.val (.call 25 (.clos (.add (.var 9) (.lams [(1,[3,4])])) (.cons (.con (.str "facts")) .nil))))) (.cons (.ret (.con (.bl false)))
 .nil) .nil)
 (.cons (.ite (.not (.val (.call 25 (.clos (.lams [(0,[5])]) (.cons (.con (.str "picture")) .nil))))) (.cons (.ret (.con (.bl false)))
 .nil) .nil)
 .nil))))))))))
theorem twin684 {v:Val}(h:datB 61 v=true)(κ:Ks):(cb tab 684).cf 26 [.v v,.v v] κ=.ok (.bl true,κ):=tw_dat 61 621 v h κ
theorem lk_inner {ns:List Int}{i:Nat}{q:List Int}{cs:List Clm}{t:PySem.Str}{e1 e6 e7 e8 e9:Option PL.Slot}(hp:Plain 160 t){κ:Ks}(hS:Spr κ i):∃ f6 f7 κ',exS (cb tab 684) (.loop (.nm 6) (.rng1 (.cons (.con (.int (14))) .nil)) lkI) (lkR ns e1 (some (.val (.cell i))) (some (.val (picV q))) (some (.val (Qqx cs))) (some (.val (.str t))) e6 e7 e8 e9) κ=.nx (lkR ns e1 (some (.val (.cell i))) (some (.val (picV q))) (some (.val (Qqx cs))) (some (.val (.str t))) f6 f7 e8 e9) κ'∧Spr κ' i:=by
 have it:evI (cb tab 684) (.rng1 (.cons (.con (.int (14))) .nil)) (lkR ns e1 (some (.val (.cell i))) (some (.val (picV q))) (some (.val (Qqx cs))) (some (.val (.str t))) e6 e7 e8 e9) κ=.ok (rngL 0 14,κ):=by
  simp only [exSs,exS,evE,evT,evEs,evA,evBs,evO,evOt,evI,bw,rdV,rdB,R.bind_ok,R.bind_exc,R.bind_bad,R.ofO_some,R.ofO_none,R.toO_ok,R.toO_exc,R.toO_bad,O.then_nx,O.then_ret,O.then_exc,O.then_bad,O.fin_nx,O.fin_ret,O.fin_exc,O.fin_bad,Option.map_some,Option.map_none,List.map_cons,List.map_nil,Ar.slot,List.cons_append,List.nil_append,List.length_cons,List.length_nil,List.getElem?_cons_zero,List.getElem?_cons_succ,List.set_cons_zero,List.set_cons_succ,Qzc,Qqb,Qq9,Qqq,Qq6,Qq8,Qq7,Qqv,Qqw,Qq2,Qq3,Qq4,Qq5,Qqr,Qz0,Qz1,Qz2,Qqt,Qqs,reduceCtorEq,decide_true,decide_false,Bool.or_true,Bool.or_false,Bool.true_or,Bool.false_or,blV,ntV,ngV,Qzk,op_add,op_sub,Qqk,Qqm,Qqn,Qqp,Qqj,Qqz,Qqh,evBs]
  rw [rng1_ok (by decide) (by decide)]
  rfl
 obtain ⟨ρ',κ',eL,hS',f6,f7,rfl⟩:=loop_inv (c:=cb tab 684) (tg:=.nm 6) (b:=lkI) (fun _ ρ k=>Spr k i∧∃ f6 f7,ρ=lkR ns e1 (some (.val (.cell i))) (some (.val (picV q))) (some (.val (Qqx cs))) (some (.val (.str t))) f6 f7 e8 e9) it ⟨hS,e6,e7,rfl⟩ (by
  rintro m v ρ k hv ⟨hS,f6,f7,rfl⟩
  obtain ⟨rfl,hm⟩:=rngL_at hv
  obtain ⟨u,k1,b1,p1,S1,_⟩:=s_bent 681 hS (n:=160) (by decide) hp
  have x1:evE (cb tab 684) (.call 37 (.cons (.var 2) (.cons (.var 5) .nil))) (lkR ns e1 (some (.val (.cell i))) (some (.val (picV q))) (some (.val (Qqx cs))) (some (.val (.str t))) (some (.val (.int (m:Int)))) f7 e8 e9) k=.ok (.str u,k1):=Qqd rfl b1
  have tm:evT (cb tab 684) (.cm .eq (.op .mod (.var 6) (.con (.int (3)))) (.con (.int (0)))) (lkR ns e1 (some (.val (.cell i))) (some (.val (picV q))) (some (.val (Qqx cs))) (some (.val (.str t))) (some (.val (.int (m:Int)))) (some (.val (.str u))) e8 e9) k1=.ok (decide ((m:Int) % 3=0),k1):=by
   have o:evE (cb tab 684) (.op .mod (.var 6) (.con (.int (3)))) (lkR ns e1 (some (.val (.cell i))) (some (.val (picV q))) (some (.val (Qqx cs))) (some (.val (.str t))) (some (.val (.int (m:Int)))) (some (.val (.str u))) e8 e9) k1=.ok (.int ((m:Int) % 3),k1):=Qzm (a:=.var 6) (b:=.con (.int 3)) (x:=.int (m:Int)) (y:=.int 3) rfl rfl (fun _=>rfl) (fun _=>rfl) (op_mod (by decide))
   exact t_cm (w:=.int 0) o rfl (eqD_int _ _)
  have two:∃ w k2,evE (cb tab 684) (.ite (.cm .eq (.op .mod (.var 6) (.con (.int (3)))) (.con (.int (0)))) (.call 37 (.cons (.var 2) (.cons (.var 7) .nil))) (.var 7)) (lkR ns e1 (some (.val (.cell i))) (some (.val (picV q))) (some (.val (Qqx cs))) (some (.val (.str t))) (some (.val (.int (m:Int)))) (some (.val (.str u))) e8 e9) k1=.ok (.str w,k2)∧Plain 730 w∧Spr k2 i:=by
   by_cases h:(m:Int) % 3=0
   ·rw [decide_eq_true h] at tm
    obtain ⟨w,k2,b2,p2,S2,_⟩:=s_bent 681 S1 (n:=350) (by decide) p1
    exact ⟨w,k2,ev_ite_t tm (Qqd rfl b2),p2,S2⟩
   ·rw [decide_eq_false h] at tm
    exact ⟨u,k1,ev_ite_f tm rfl,p1.mono (by decide),S1⟩
  obtain ⟨w,k2,x2,p2,S2⟩:=two
  obtain ⟨v,dv,r1,r2⟩:=agree 678 (n:=730) (by decide) p2 k2
  have r1:(cb tab 684).cf 36 [.v (.str w)] k2=.ok (v,k2):=r1
  have r2:(cb tab 684).cf 35 [.v (.str w)] k2=.ok (v,k2):=r2
  have t3:evT (cb tab 684) (.not (.val (.call 26 (.cons (.call 36 (.cons (.var 7) .nil)) (.cons (.call 35 (.cons (.var 7) .nil)) .nil))))) (lkR ns e1 (some (.val (.cell i))) (some (.val (picV q))) (some (.val (Qqx cs))) (some (.val (.str t))) (some (.val (.int (m:Int)))) (some (.val (.str w))) e8 e9) k2=.ok (!true,k2):=t_not (t_val (Qqd (Qzj (Qqd rfl r1) (Qzj (Qqd rfl r2) eva_nil)) (twin684 dv k2)))
  refine ⟨lkR ns e1 (some (.val (.cell i))) (some (.val (picV q))) (some (.val (Qqx cs))) (some (.val (.str t))) (some (.val (.int (m:Int)))) f7 e8 e9,lkR ns e1 (some (.val (.cell i))) (some (.val (picV q))) (some (.val (Qqx cs))) (some (.val (.str t))) (some (.val (.int (m:Int)))) (some (.val (.str w))) e8 e9,k2,rfl,?_,S2,some (.val (.int (m:Int))),some (.val (.str w)),rfl⟩
  exact (Qz3 (Qzp x1)).trans ((Qz3 (Qzp x2)).trans ((Qz3 ((ite_no t3).trans rfl)).trans rfl)))
 exact ⟨f6,f7,κ',eL,hS'⟩
theorem lk_odd {ns:List Int}{t:PySem.Str}{e1 e2 e3 e4 e6 e7 e8 e9:Option PL.Slot}(κ:Ks):∃ f8,exS (cb tab 684) (.loop (.nm 8) (.seq (.lst (.cons (.con (.non)) (.cons (.con (.int (5))) (.cons (.tup (.cons (.var 5) .nil)) (.cons (.lst (.cons (.var 5) .nil)) .nil)))))) lkO) (lkR ns e1 e2 e3 e4 (some (.val (.str t))) e6 e7 e8 e9) κ=.nx (lkR ns e1 e2 e3 e4 (some (.val (.str t))) e6 e7 f8 e9) κ:=by
 have it:evI (cb tab 684) (.seq (.lst (.cons (.con (.non)) (.cons (.con (.int (5))) (.cons (.tup (.cons (.var 5) .nil)) (.cons (.lst (.cons (.var 5) .nil)) .nil)))))) (lkR ns e1 e2 e3 e4 (some (.val (.str t))) e6 e7 e8 e9) κ=.ok ([.non,.int 5,.tup [.str t],.lst [.str t]],κ):=by
  have x1:evE (cb tab 684) (.tup (.cons (.var 5) .nil)) (lkR ns e1 e2 e3 e4 (some (.val (.str t))) e6 e7 e8 e9) κ=.ok (.tup [.str t],κ):=evs_tup (Qz7 rfl evs_nil) (show 1≤1000 by decide)
  have x2:evE (cb tab 684) (.lst (.cons (.var 5) .nil)) (lkR ns e1 e2 e3 e4 (some (.val (.str t))) e6 e7 e8 e9) κ=.ok (.lst [.str t],κ):=evs_lst (Qz7 rfl evs_nil) (show 1≤1000 by decide)
  have x:evE (cb tab 684) (.lst (.cons (.con (.non)) (.cons (.con (.int (5))) (.cons (.tup (.cons (.var 5) .nil)) (.cons (.lst (.cons (.var 5) .nil)) .nil))))) (lkR ns e1 e2 e3 e4 (some (.val (.str t))) e6 e7 e8 e9) κ=.ok (.lst [.non,.int 5,.tup [.str t],.lst [.str t]],κ):=evs_lst (Qz7 rfl (Qz7 rfl (Qz7 x1 (Qz7 x2 evs_nil)))) (show 4≤1000 by decide)
  exact it_seq x rfl
 obtain ⟨ρ',κ',eL,rfl,f8,rfl⟩:=loop_inv (c:=cb tab 684) (tg:=.nm 8) (b:=lkO) (fun _ ρ k=>κ=k∧∃ f8,ρ=lkR ns e1 e2 e3 e4 (some (.val (.str t))) e6 e7 f8 e9) it ⟨rfl,e8,rfl⟩ (by
  rintro m v ρ k hv ⟨rfl,f8,rfl⟩
  have hv':v∈[Val.non,.int 5,.tup [.str t],.lst [.str t]]:=List.mem_of_getElem? hv
  have hi:isiV .str v=some false:=by
   simp only [List.mem_cons,List.mem_nil_iff,or_false] at hv'
   rcases hv' with e|e|e|e <;> subst e <;> rfl
  have r:(cb tab 684).cf 36 [.v v] κ=.ok (.int 0,κ):=odd_road 678 hi κ
  have t1:evT (cb tab 684) (.cm .ne (.call 36 (.cons (.var 8) .nil)) (.con (.int (0)))) (lkR ns e1 e2 e3 e4 (some (.val (.str t))) e6 e7 (some (.val v)) e9) κ=.ok (!decide ((0:Int)=0),κ):=t_cm (u:=.int 0) (w:=.int 0) (Qqd rfl r) rfl (Qqz _ _)
  rw [decide_eq_true rfl] at t1
  exact ⟨lkR ns e1 e2 e3 e4 (some (.val (.str t))) e6 e7 (some (.val v)) e9,lkR ns e1 e2 e3 e4 (some (.val (.str t))) e6 e7 (some (.val v)) e9,κ,rfl,(Qz3 ((ite_no t1).trans rfl)).trans rfl,rfl,some (.val v),rfl⟩)
 exact ⟨f8,eL⟩
theorem lk_turn {ns:List Int}{e2 e3 e4 e5 e6 e7 e8 e9:Option PL.Slot}(n:Nat)(κ:Ks):∃ f2 f3 f4 f5 f6 f7 f8 f9 κ',exSs (cb tab 684) lkB (lkR ns (some (.val (.int (n:Int)))) e2 e3 e4 e5 e6 e7 e8 e9) κ=.nx (lkR ns (some (.val (.int (n:Int)))) f2 f3 f4 f5 f6 f7 f8 f9) κ':=by
 obtain ⟨a,b,ea,a0,b0,b1⟩:=s_spring 683 (κ:=κ) (ns:=ns) (k:=n)
 have x1:evE (cb tab 684) (.call 16 (.cons (.var 0) (.cons (.var 1) .nil))) (lkR ns (some (.val (.int (n:Int)))) e2 e3 e4 e5 e6 e7 e8 e9) κ=.ok (.lst [.int a,.int b],κ):=Qqd rfl ea
 have p1:=cel_nx (i:=2) x1
 have S1:Spr (κ++[.lst [.int a,.int b]]) κ.length:=⟨a,b,at_snoc,a0,b0,b1⟩
 generalize κ++[.lst [.int a,.int b]]=κ1 at *
 generalize κ.length=i at *
 have p1:exS (cb tab 684) (.cel 2 (.call 16 (.cons (.var 0) (.cons (.var 1) .nil)))) (lkR ns (some (.val (.int (n:Int)))) e2 e3 e4 e5 e6 e7 e8 e9) κ=.nx (lkR ns (some (.val (.int (n:Int)))) (some (.val (.cell i))) e3 e4 e5 e6 e7 e8 e9) κ1:=p1
 obtain ⟨q,κ2,eq,hq,S2,_,_⟩:=s_shot 681 S1
 have p2:exS (cb tab 684) (.set 3 (.call 19 (.cons (.var 2) (.cons (.con (.int (5))) .nil)))) (lkR ns (some (.val (.int (n:Int)))) (some (.val (.cell i))) e3 e4 e5 e6 e7 e8 e9) κ1=.nx (lkR ns (some (.val (.int (n:Int)))) (some (.val (.cell i))) (some (.val (picV q))) e4 e5 e6 e7 e8 e9) κ2:=Qzp (Qqd rfl eq)
 obtain ⟨cs,κ3,ec,l4,hc,S3,_⟩:=s_sayings 679 S2 hq (m:=4) (by decide) (by decide)
 have h4:cs.length≤4:=by omega
 have p3:exS (cb tab 684) (.set 4 (.call 22 (.cons (.var 2) (.cons (.var 3) (.cons (.con (.int (4))) .nil))))) (lkR ns (some (.val (.int (n:Int)))) (some (.val (.cell i))) (some (.val (picV q))) e4 e5 e6 e7 e8 e9) κ2=.nx (lkR ns (some (.val (.int (n:Int)))) (some (.val (.cell i))) (some (.val (picV q))) (some (.val (Qqx cs))) e5 e6 e7 e8 e9) κ3:=Qzp (Qqd rfl ec)
 have p4:exS (cb tab 684) (.set 5 (.call 30 (.cons (.var 3) (.cons (.var 4) .nil)))) (lkR ns (some (.val (.int (n:Int)))) (some (.val (.cell i))) (some (.val (picV q))) (some (.val (Qqx cs))) e5 e6 e7 e8 e9) κ3=.nx (lkR ns (some (.val (.int (n:Int)))) (some (.val (.cell i))) (some (.val (picV q))) (some (.val (Qqx cs))) (some (.val (.str (textS q cs)))) e6 e7 e8 e9) κ3:=Qzp (Qqd rfl (s_ltext 681 hq h4 hc κ3))
 have pt:=text_plain hq h4 hc
 have rt:(cb tab 684).cf 14 [.v (picV q),.v (Qqx cs)] κ3=.ok (.str (textS q cs),κ3):=s_rtext 678 hq h4 hc κ3
 have rb:(cb tab 684).cf 15 [.v (.str (textS q cs))] κ3=.ok (roadV q cs,κ3):=s_rback 679 hq h4 hc κ3
 generalize textS q cs=t at *
 have t5a:evT (cb tab 684) (.cm .ne (.call 14 (.cons (.var 3) (.cons (.var 4) .nil))) (.var 5)) (lkR ns (some (.val (.int (n:Int)))) (some (.val (.cell i))) (some (.val (picV q))) (some (.val (Qqx cs))) (some (.val (.str t))) e6 e7 e8 e9) κ3=.ok (false,κ3):=t_cm (u:=.str t) (w:=.str t) (Qqd rfl rt) rfl (str_nes pt.ok)
 have tp:evE (cb tab 684) (.tup (.cons (.var 3) (.cons (.var 4) .nil))) (lkR ns (some (.val (.int (n:Int)))) (some (.val (.cell i))) (some (.val (picV q))) (some (.val (Qqx cs))) (some (.val (.str t))) e6 e7 e8 e9) κ3=.ok (roadV q cs,κ3):=evs_tup (Qz7 rfl (Qz7 rfl evs_nil)) (show 2≤1000 by decide)
 have t5b:evT (cb tab 684) (.not (.val (.call 26 (.cons (.call 15 (.cons (.var 5) .nil)) (.cons (.tup (.cons (.var 3) (.cons (.var 4) .nil))) .nil))))) (lkR ns (some (.val (.int (n:Int)))) (some (.val (.cell i))) (some (.val (picV q))) (some (.val (Qqx cs))) (some (.val (.str t))) e6 e7 e8 e9) κ3=.ok (!true,κ3):=t_not (t_val (Qqd (Qzj (Qqd rfl rb) (Qzj tp eva_nil)) (twin684 (road_dat fun c h=>(hc c h).ok.w) κ3)))
 have t5:=t_or_f t5a t5b
 obtain ⟨f6,f7,κ4,p6,S4⟩:=lk_inner (ns:=ns) (i:=i) (q:=q) (cs:=cs) (t:=t) (e1:=some (.val (.int (n:Int)))) (e6:=e6) (e7:=e7) (e8:=e8) (e9:=e9) pt S3
 obtain ⟨f8,p7⟩:=lk_odd (ns:=ns) (t:=t) (e1:=some (.val (.int (n:Int)))) (e2:=some (.val (.cell i))) (e3:=some (.val (picV q))) (e4:=some (.val (Qqx cs))) (e6:=f6) (e7:=f7) (e8:=e8) (e9:=e9) κ4
 have p8:exS (cb tab 684) (.setC 9 (.lams [(2,[3])])) (lkR ns (some (.val (.int (n:Int)))) (some (.val (.cell i))) (some (.val (picV q))) (some (.val (Qqx cs))) (some (.val (.str t))) f6 f7 f8 e9) κ4=.nx (lkR ns (some (.val (.int (n:Int)))) (some (.val (.cell i))) (some (.val (picV q))) (some (.val (Qqx cs))) (some (.val (.str t))) f6 f7 f8 (some (.cls [(2,[3])]))) κ4:=setC_nx (cls_lams (by decide))
 have up:∀ c∈cs,ClaimOk W5 c:=fun c h=>ClaimOk.up hq.l5 (hc c h).ok
 have B2:Bad 682 (1) (2,[picV q]):=bad_of (d:=681) (e:=irl2) rfl fun k=>Qqd rfl (x_rtextF 675 (n:=3) hq (v:=.non) rfl rfl k)
 have B1:Bad 682 (1) (1,[picV q,Qqx cs]):=bad_of (d:=681) (e:=irl1) rfl fun k=>by
  have o:evE (cb tab 681) (.op .add (.var 1) (.tup (.cons (.con (.non)) .nil))) [some (.val (picV q)),some (.val (Qqx cs))] k=.ok (.tup (cs.map Clm.v++[Val.non]),k):=Qzm (a:=.var 1) (x:=Qqx cs) (y:=.tup [.non]) rfl rfl (fun _=>rfl) (fun _=>rfl) (op_tup (by rw [List.length_map];show cs.length+1≤1000;omega))
  refine Qqd (Qzj rfl (Qzj o eva_nil)) (x_rtextF 675 (n:=60) hq ?_ ?_ k)
  ·refine Qx6 fun v hv => ?_
   rcases List.mem_append.mp hv with hv|hv
   ·obtain ⟨c,hcs,rfl⟩:=List.mem_map.mp hv
    exact datB_mono (n:=52) _ (by decide) (clm_dat (hc c hcs).ok.w)
   ·rw [List.mem_singleton.mp hv];rfl
  ·show (decide (((cs.map Clm.v++[Val.non]).length:Int)≤4)&&(cs.map Clm.v++[Val.non]).all (Qx9 q.length))=false
   rw [List.all_append]
   show (_&&(_&&(false&&true)))=false
   rw [Bool.false_and,Bool.and_false,Bool.and_false]
 have B0:Bad 682 (0) (0,[.str t]):=bad_of (d:=681) (e:=irl0) rfl fun k=>Qqd rfl (x_rtextP 675 (n:=3) (v:=.non) (u:=.str t) pt.ok rfl k)
 have A1:(cb tab 684).cf 25 [.x (.many [(2,[picV q]),(1,[picV q,Qqx cs])]),.v (.str "facts")] κ4=.ok (.bl true,κ4):=s_all_say 682 (w2 := "facts value") (c:=1) κ4 (fun p hp=>by
  rcases List.mem_cons.mp hp with e|hp
  ·subst e;exact B2
  ·rw [List.mem_singleton.mp hp];exact B1) say_facts (by decide +kernel)
 have A2:(cb tab 684).cf 25 [.x (.many [(0,[.str t])]),.v (.str "picture")] κ4=.ok (.bl true,κ4):=s_all_say 682 (w2 := "picture value") (c:=0) κ4 (fun p hp=>by
  rw [List.mem_singleton.mp hp];exact B0) say_picture (by decide +kernel)
 have p9:exS (cb tab 684) (.ite (.not (.val (.call 25 (.clos (.add (.var 9) (.lams [(1,[3,4])])) (.cons (.con (.str "facts")) .nil))))) (.cons (.ret (.con (.bl false)))
 .nil) .nil) (lkR ns (some (.val (.int (n:Int)))) (some (.val (.cell i))) (some (.val (picV q))) (some (.val (Qqx cs))) (some (.val (.str t))) f6 f7 f8 (some (.cls [(2,[3])]))) κ4=.nx (lkR ns (some (.val (.int (n:Int)))) (some (.val (.cell i))) (some (.val (picV q))) (some (.val (Qqx cs))) (some (.val (.str t))) f6 f7 f8 (some (.cls [(2,[3])]))) κ4:=all_no (ev_clos (cls_add (x:=[(2,[3])]) (y:=[(1,[3,4])]) (cls_var rfl) (cls_lams (by decide)) (by decide)) rfl) A1
 have p10:exS (cb tab 684) (.ite (.not (.val (.call 25 (.clos (.lams [(0,[5])]) (.cons (.con (.str "picture")) .nil))))) (.cons (.ret (.con (.bl false)))
 .nil) .nil) (lkR ns (some (.val (.int (n:Int)))) (some (.val (.cell i))) (some (.val (picV q))) (some (.val (Qqx cs))) (some (.val (.str t))) f6 f7 f8 (some (.cls [(2,[3])]))) κ4=.nx (lkR ns (some (.val (.int (n:Int)))) (some (.val (.cell i))) (some (.val (picV q))) (some (.val (Qqx cs))) (some (.val (.str t))) f6 f7 f8 (some (.cls [(2,[3])]))) κ4:=all_no (ev_clos (cls_lams (by decide)) rfl) A2
 refine ⟨some (.val (.cell i)),some (.val (picV q)),some (.val (Qqx cs)),some (.val (.str t)),f6,f7,f8,some (.cls [(2,[3])]),κ4,?_⟩
 unfold lkB
 rw [Qz3 p1,Qz3 p2,Qz3 p3,Qz3 p4,Qz3 ((ite_no t5).trans rfl),Qz3 p6,Qz3 p7,Qz3 p8,Qz3 p9,Qz3 p10]
 rfl
theorem law_g (ns:List Int):∃ κ1,exSs (cb tab 684) ir_law (lkR ns none none none none none none none none none) []=.ret (.bl true) κ1:=by
 have i1:evI (cb tab 684) (.rng1 (.cons (.bi .max2 (.cons (.con (.int (5))) (.cons (.bi .min2 (.cons (.con (.int (12))) (.cons (.bi .len (.cons (.var 0) .nil)) .nil))) .nil))) .nil)) (lkR ns none none none none none none none none none) []=.ok (rngL 0 (if (if (ns.length:Int)<12 then (ns.length:Int) else 12) > 5 then (if (ns.length:Int)<12 then (ns.length:Int) else 12) else 5),[]):=by
  simp only [exSs,exS,evE,evT,evEs,evA,evBs,evO,evOt,evI,bw,rdV,rdB,R.bind_ok,R.bind_exc,R.bind_bad,R.ofO_some,R.ofO_none,R.toO_ok,R.toO_exc,R.toO_bad,O.then_nx,O.then_ret,O.then_exc,O.then_bad,O.fin_nx,O.fin_ret,O.fin_exc,O.fin_bad,Option.map_some,Option.map_none,List.map_cons,List.map_nil,Ar.slot,List.cons_append,List.nil_append,List.length_cons,List.length_nil,List.getElem?_cons_zero,List.getElem?_cons_succ,List.set_cons_zero,List.set_cons_succ,Qzc,Qqb,Qq9,Qqq,Qq6,Qq8,Qq7,Qqv,Qqw,Qq2,Qq3,Qq4,Qq5,Qqr,Qz0,Qz1,Qz2,Qqt,Qqs,reduceCtorEq,decide_true,decide_false,Bool.or_true,Bool.or_false,Bool.true_or,Bool.false_or,blV,ntV,ngV,Qzk,op_add,op_sub,Qqk,Qqm,Qqn,Qqp,Qqj,Qqz,Qqh,evBs]
  rw [rng1_ok (by split <;> (try split at *) <;> omega) (by split <;> (try split at *) <;> omega)]
  rfl
 obtain ⟨ρ1,κ1,eL,f1,f2,f3,f4,f5,f6,f7,f8,f9,er⟩:=loop_inv (c:=cb tab 684) (tg:=.nm 1) (b:=lkB) (fun _ ρ _=>∃ e1 e2 e3 e4 e5 e6 e7 e8 e9,ρ=lkR ns e1 e2 e3 e4 e5 e6 e7 e8 e9) i1 ⟨none,none,none,none,none,none,none,none,none,rfl⟩ (fun n v ρ k hv ⟨e1,e2,e3,e4,e5,e6,e7,e8,e9,er⟩=>by
  obtain ⟨ev,hn⟩:=rngL_at hv
  subst ev
  subst er
  obtain ⟨f2,f3,f4,f5,f6,f7,f8,f9,k',e⟩:=lk_turn (ns:=ns) (e2:=e2) (e3:=e3) (e4:=e4) (e5:=e5) (e6:=e6) (e7:=e7) (e8:=e8) (e9:=e9) n k
  exact ⟨_,_,_,rfl,e,_,_,_,_,_,_,_,_,_,rfl⟩)
 refine ⟨κ1,?_⟩
 subst er
 unfold ir_law
 rw [Qz3 eL]
 exact Qz5 (Qz8 (Qqd rfl (s_written 670 κ1)))
theorem pure_law (ns:List Int)(hl:ns.length≤63)(hb:∀ z∈ns,Builtin.Int.intBits z≤1048576):∃ κ',(cb tab 685).cf 39 [.v (.scr ns)] []=.ok (.bl true,κ'):=by
 obtain ⟨κ1,e⟩:=law_g ns
 exact ⟨κ1,(Qqf 684 _ _ _ _ rfl rfl).trans (congrArg O.fin e)⟩
end K10
end
section
namespace K10
open PySem PySem.Spec PyProof.Rows L2 LamX NdefX PL
theorem at_ {w:World}{K:PySem.W.Frag}{mg:Str→Option Value}{fa0:Addr}{h:Heap}(KX:K.In h)(c:He.SaysX fa fn [] tf ex w h K)(G:h.Ns mainGlobals mg)(hmg:mg ("law" : Str)=some (.ref fa0)) :
  LawAtS PySem.Challenge.rw_leanmarks_k10_pictures_written_and_read w K (L2N.CX (PySem.Challenge.rw_leanmarks_k10_pictures_written_and_read).prog w) 230 63 "_law_script" mg fa0 h:=by
 obtain ⟨fd,D⟩:=c.t.d.defs (d:=⟨("law", none), "law", "law", defArgs (top 61),defBody (top 61),defScope (top 61),[],[]⟩) (List.mem_of_getElem? (i:=39) rfl)
 have ef:=hmg.symm.trans (He.glo_ok KX G (c.t.d.facts (f:=.glo "law") (List.mem_append_left _ (List.mem_map.mpr ⟨"law", List.mem_of_getElem? (i:=39) rfl,rfl⟩))))
 cases ef
 refine ⟨fd,tf.map (He.cT K),(fun vs H Q _=>∃ z ns κ',vs=[.ref z]∧SqL K H z (ns.map V.int)∧TabsN (gx K).tabs H∧(cb tab 685).cf 39 [.v (.scr ns)] []=.ok (.bl true,κ')∧∀ H',Q (.bl true) H'),fun p hp => ?_,fun p hp => ?_,fun p hp => ?_,fun s u=>(FunD.bindsA (ps:=["_law_script"]) D (fun _ _ _ _ _ _ us hl=>match us,hl with|[_],_=>rfl)) s [u] rfl,fun H a ns hlen hbits hH hS => ?_,fun base KXb Gb hT => ?_⟩
 ·obtain ⟨q,hq,rfl⟩:=List.mem_map.mp hp
  exact c.empty q hq
 ·obtain ⟨q,hq,rfl⟩:=List.mem_map.mp hp
  exact c.out q hq
 ·obtain ⟨q,hq,rfl⟩:=List.mem_map.mp hp
  exact PySem.W.codeHd_of_K KX (c.hd q hq)
 case refine_5=>
  have h2:=head_facts KXb Gb c hT
  obtain ⟨G2,LM,FF⟩:=all_d (P:=(PySem.Challenge.rw_leanmarks_k10_pictures_written_and_read).prog) (W:=w) h2 684
  exact law_top (g:=gx K) (clA:=clA K) (N:=N_law) (sem:=(cb tab 685).cf 39) (m:=exSs (cb tab 684) ir_law) D ⟨rfl,rfl,rfl,by decide +kernel,rfl,by decide +kernel,by decide +kernel⟩ (fun cd A outer s H E hcd hex hr=>b_law h2 G2 LM FF cd A outer s H E hcd hex hr) (by decide) (by decide) (fun _ _=>rfl)
 case refine_4=>
  obtain ⟨κ',e⟩:=pure_law ns hlen hbits
  refine ⟨a,ns,κ',rfl,hS,?_,e,fun _=>rfl⟩
  exact fun t ht=>by
   have hall:∀ t∈(gx K).tabs,∃ q∈tf,t.1=(He.cT K q).2:=by
    intro t ht
    simp only [gx,List.mem_cons,List.mem_nil_iff,or_false] at ht
    subst ht;exact ⟨_,List.mem_of_getElem? (i:=0) rfl,rfl⟩
   obtain ⟨q,hq,e⟩:=hall t ht
   exact TabN.nil (by rw [e];exact hH _ (List.mem_map.mpr ⟨q,hq,rfl⟩))
end K10
open PySem PySem.W PySem.Calls PyProof.Rows
theorem PySem.Challenge.cw_leanmarks_k10_pictures_written_and_read_holds : PySem.Challenge.rw_leanmarks_k10_pictures_written_and_read.Holds := by
 refine K10.top0 K10.run ?_
 refine LamX.walk_ofTsE (l:=PySem.Challenge.rw_leanmarks_k10_pictures_written_and_read) (n:=63) (k:=230) (x := "_law_script") (CX:=fun w=>L2N.CX (PySem.Challenge.rw_leanmarks_k10_pictures_written_and_read).prog w) rfl (by decide) (by kernel_rfl) ⟨rfl,by decide,by decide⟩ ?F (fun _ _ _ _ _ z=>PL.no_exc z)
 intro w mg fa h Y G hmg0
 obtain ⟨K,KX,c⟩:=Y
 have hmg:mg ("law" : PySem.Str)=some (.ref fa):=by
  have e:(HandSHeadRun.topDef (OpenLaw.row PySem.Challenge.rw_leanmarks_k10_pictures_written_and_read).prog 61).name=("law" : PySem.Str):=by kernel_rfl
  rw [← e]
  exact hmg0
 exact ⟨K,KX,K10.at_ KX c G hmg⟩
end
