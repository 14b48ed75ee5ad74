/- Part. -/
import Derived.Test.YtignbinlipkmfaaGreatDoorDictK
import Derived.KernelRfl
import GoSem.Step
import Derived.Below
import Derived.Laws.IdiomCopy
import Derived.Laws.Cells
import Derived.Laws.Entries
import Derived.IntWalk
import Derived.Laws.Append
set_option linter.all false
abbrev aF:=@Option.some.injEq
abbrev aS:=@List.mem_of_getElem?
abbrev aY:=@decide_eq_false
abbrev bC:=@List.getElem?_eq_some_iff
abbrev bK:=@List.mem_singleton
abbrev bM:=@List.take_length
abbrev bP:=@Nat.zero_le
abbrev bQ:=@Nat.le_refl
abbrev bX:=@List.getElem?_eq_getElem
abbrev bT:=@List.mem_cons
abbrev bZ:=@List.length_map
abbrev dx:=@Prod.mk.injEq
abbrev dF:=@Go.Sem.run_bind
abbrev dN:=@List.getElem?_map
abbrev dH:=@Go.Result.andThen_ok
abbrev dI:=@Bool.and_eq_true
abbrev dU:=@List.nil_append
abbrev dY:=@List.mem_append
abbrev eB:=@decide_eq_true
abbrev eF:=@List.mem_map
abbrev fq:=@Nat.zero_add
abbrev fD:=@Go.Sem.run_pure
abbrev fG:=@List.map_append
abbrev fK:=@List.cons_append
abbrev fO:=@List.mem_cons_of_mem
abbrev fQ:=@Int.toNat_natCast
abbrev fT:=@List.mem_cons_self
abbrev gz:=@List.append_assoc
abbrev iq:=@List.getElem?_eq_none
abbrev gT:=@of_decide_eq_true
abbrev ik:=@List.length_append
abbrev iD:=@Decidable.not_not
abbrev iO:=@Int.eq_ofNat_of_zero_le
abbrev iQ:=@List.map_cons
abbrev iY:=@List.length_take
abbrev iT:=@List.nodup_append
abbrev jd:=@List.append_nil
abbrev jB:=@Option.bind_some
abbrev jL:=@List.all_eq_true
abbrev jM:=@List.getElem?_of_mem
abbrev jW:=@List.ext_getElem?
abbrev jX:=@List.length_eq_zero_iff
abbrev lg:=@Option.map_some
abbrev lm:=@Option.map_eq_some_iff
abbrev lq:=@List.mem_append_left
abbrev lu:=@decide_eq_true_iff
abbrev lQ:=@Nat.le_of_ble_eq_true
abbrev mY:=@Nat.lt_of_lt_of_le
abbrev nH:=@List.mem_range
abbrev nI:=@List.getElem?_set
abbrev oh:=@List.length_cons
abbrev ol:=@of_decide_eq_false
abbrev oM:=@Nat.add_assoc
abbrev oN:=@List.take_add_one
abbrev pG:=@List.getElem?_append_left
abbrev pI:=@List.mem_append_right
abbrev pJ:=@decide_eq_decide
abbrev ql:=@Nat.le_trans
abbrev rq:=@List.getElem?_append_right
abbrev qm:=@List.length_range
abbrev qY:=@Nat.eq_of_beq_eq_true
abbrev sK:=@List.getElem?_drop
abbrev qZ:=@Bool.or_eq_true
abbrev ru:=@List.getElem?_range
abbrev ry:=@List.length_set
abbrev sI:=@List.getElem?_cons_succ
abbrev sJ:=@Nat.lt_or_ge
abbrev sM:=@Nat.add_mul
abbrev sN:=@List.map_singleton
abbrev um:=@Bool.eq_iff_iff
abbrev uo:=@Nat.blt_eq
abbrev uq:=@Array.getD_eq_getD_getElem?
abbrev uu:=@Nat.mul_one
abbrev uw:=@List.mem_filter
abbrev uy:=@List.map_map
abbrev uz:=@List.pairwise_cons
abbrev vC:=@Array.getElem?_eq_none
abbrev vD:=@List.foldl_cons
abbrev vF:=@List.getElem?_take
abbrev vH:=@List.length_drop
abbrev vI:=@List.length_singleton
abbrev vJ:=@Int.tdiv_eq_ediv_of_nonneg
abbrev vK:=@List.mk_mem_zipIdx_iff_getElem?
abbrev vM:=@List.take_of_length_le
abbrev wU:=@List.getElem_mem
abbrev wV:=@Nat.ble_eq
abbrev wW:=@Bool.false_eq_true
abbrev wX:=@Option.getD_some
abbrev wY:=@List.map_congr_left
abbrev xX:=@List.take_append_drop
abbrev wZ:=@List.mem_iff_getElem?
abbrev w9:=@List.nodup_nil
abbrev xW:=@Nat.lt_succ_self
abbrev xY:=@List.nodup_cons
abbrev xZ:=@Nat.sub_self
abbrev x8:=@List.drop_eq_getElem_cons
abbrev x9:=@Nat.not_lt_zero
abbrev zu:=@decide_eq_true_eq
abbrev zw:=@Array.mem_append
abbrev zx:=@and_true
abbrev zy:=@Nat.one_mul
abbrev zz:=@List.pairwise_map
abbrev zA:=@List.mergeSort_perm
abbrev AP:=@Nat.le_succ
abbrev AQ:=@Nat.add_zero
abbrev AU:=@Array.getElem?_toList
abbrev AV:=@List.getElem?_cons_zero
abbrev AX:=@Bool.not_eq_true'
abbrev AY:=@List.drop_zero
abbrev AZ:=@List.pairwise_iff_getElem
abbrev CE:=@List.all_cons
abbrev CF:=@List.length_pos_iff
abbrev CG:=@List.cons.injEq
abbrev CJ:=@List.getD_eq_getElem?_getD
abbrev CK:=@List.dropLast_concat_getLast
abbrev CL:=@Int.toNat_of_nonneg
abbrev Ez:=@Nat.ne_of_beq_eq_false
abbrev EA:=@Array.getElem?_push
abbrev EB:=@List.filter_cons
abbrev EC:=@List.length_nil
abbrev ED:=@Nat.sub_zero
abbrev EE:=@List.foldl_append
abbrev EF:=@Nat.min_eq_left
abbrev EG:=@Int.tmod_eq_emod_of_nonneg
abbrev Hr:=@Nat.ble_eq_true_of_le
abbrev Ht:=@Array.getElem?_setIfInBounds_ne
abbrev Hu:=@List.not_mem_nil
abbrev Hw:=@List.mem_filterMap
abbrev Hy:=@List.contains_iff_mem
abbrev Hz:=@List.replicate_succ
abbrev HV:=@List.getElem?_replicate
abbrev HY:=@Nat.zero_mul
abbrev HZ:=@Nat.lt_of_le_of_lt
abbrev H6:=@List.filter_append
abbrev H7:=@List.range_succ
abbrev H8:=@Nat.pow_lt_pow_right
abbrev H9:=@List.take_sublist
abbrev Ia:=@List.length_reverse
abbrev Mk:=@Bool.true_and
abbrev Ml:=@Array.toList_map
abbrev Mm:=@Nat.eq_zero_or_pos
abbrev Mo:=@List.getElem?_toArray
abbrev Mq:=@Bool.and_self
abbrev Mr:=@Nat.lt_succ_of_lt
abbrev Ms:=@Nat.add_sub_cancel_left
abbrev Mt:=@Nat.shiftLeft_eq
abbrev Mv:=@Nat.or_lt_two_pow
abbrev Mw:=@List.mem_map_of_mem
abbrev Mx:=@List.flatMap_cons
abbrev RH:=@List.set_append_right
abbrev MB:=@Bool.false_and
abbrev MC:=@List.length_filter_le
abbrev ME:=@Int.ediv_nonneg
abbrev MF:=@List.pairwise_append
abbrev MG:=@List.any_eq_true
abbrev MH:=@Nat.shiftRight_le
abbrev Rq:=@List.mem_of_mem_take
abbrev Rs:=@Go.World.keptBut_setCells
abbrev Rt:=@Go.World.cell?_setCells_in
abbrev Ru:=@Go.World.cell?_setCells_out
abbrev Rv:=@Array.foldl_toList
abbrev Rw:=@Option.isSome_iff_exists
abbrev Rx:=@List.extract_eq_take_drop
abbrev Ry:=@Array.length_toList
abbrev Rz:=@Array.getElem?_eq_some_iff
abbrev RA:=@List.flatten_cons
abbrev RB:=@List.getElem?_zip_eq_some
abbrev RD:=@Nat.shiftRight_eq_div_pow
abbrev RG:=@List.mem_of_find?_eq_some
abbrev RI:=@List.length_erase_of_mem
abbrev RJ:=@List.zipIdx_append
abbrev RN:=@List.pairwise_mergeSort
abbrev RO:=@Int.emod_add_mul_ediv
abbrev RP:=@Nat.lt_trichotomy
abbrev aaR:=@Array.eq_empty_of_size_eq_zero
abbrev aaS:=@Array.getElem?_setIfInBounds
abbrev aaT:=@List.getElem?_eq_none_iff
abbrev aaU:=@Array.getElem?_eq_getElem
abbrev aaV:=@List.findIdx?_eq_some_iff_getElem
abbrev aaW:=@List.findIdx?_eq_none_iff
abbrev ae.{u}(α:Type u):Type u:=List α
abbrev ah:=Go.Value
abbrev qr:=List (Nat×Go.Value)
abbrev ak.{u}(α:Type u):Type u:=Option α
abbrev ay:=Go.Operand
abbrev aC:=Go.TypeId
abbrev iI:=Go.FuncId
namespace Go.Ideal
inductive T(α:Type):Type where
 |leaf
 |node (v:Option α) (l r:T α)
noncomputable def T.get{α:Type}(t:T α):Nat->ak α:=
 T.rec (motive:=λ_=>Nat->ak α) (λ_=>none)
  (λv _ _ gl gr n=>Nat.rec (motive:=λ_=>ak α) v
    (λm _=>Bool.rec (motive:=λ_=>ak α) (gr (Nat.div m 2)) (gl (Nat.div m 2)) (Nat.beq (Nat.mod m 2) 0)) n) t
noncomputable def T.one{α:Type}(f:Nat):Nat->ak α->T α:=
 Nat.rec (motive:=λ_=>Nat->ak α->T α) (λ_ _=>.leaf)
  (λ_ ih n x=>Nat.rec (motive:=λ_=>T α) (.node x .leaf .leaf)
    (λm _=>Bool.rec (motive:=λ_=>T α) (.node none .leaf (ih (Nat.div m 2) x)) (.node none (ih (Nat.div m 2) x) .leaf) (Nat.beq (Nat.mod m 2) 0)) n) f
noncomputable def T.set{α:Type}(t:T α):Nat->ak α->T α:=
 T.rec (motive:=λ_=>Nat->ak α->T α) (λn x=>T.one (n+1) n x)
  (λv l r sl sr n x=>Nat.rec (motive:=λ_=>T α) (.node x l r)
    (λm _=>Bool.rec (motive:=λ_=>T α) (.node v l (sr (Nat.div m 2) x)) (.node v (sl (Nat.div m 2) x) r) (Nat.beq (Nat.mod m 2) 0)) n) t
noncomputable def lS{α β:Type}(f:α->β)(l:ae α):ae β:=
 List.rec (motive:=λ_=>ae β) [] (λx _ ih=>f x::ih) l
noncomputable def kE{α:Type}(l:ae α):Nat->ak α:=
 List.rec (motive:=λ_=>Nat->ak α) (λ_=>none) (λx _ ih n=>Nat.rec (motive:=λ_=>ak α) (some x) (λm _=>ih m) n) l
noncomputable def kF{α:Type}(l:ae α):Nat->ae α:=
 List.rec (motive:=λ_=>Nat->ae α) (λ_=>[]) (λx l ih n=>Nat.rec (motive:=λ_=>ae α) (x::l) (λm _=>ih m) n) l
noncomputable def jN{α:Type}(l:ae α):Nat->ak (ae α):=
 List.rec (motive:=λ_=>Nat->ak (ae α)) (λn=>Nat.rec (motive:=λ_=>ak (ae α)) (some []) (λ_ _=>none) n)
  (λx _ ih n=>Nat.rec (motive:=λ_=>ak (ae α)) (some []) (λm _=>Option.rec (motive:=λ_=>ak (ae α)) none (λr=>some (x::r)) (ih m)) n) l
noncomputable def kG{α:Type}(l:ae α):Nat->ae α->ak (ae α):=
 List.rec (motive:=λ_=>Nat->ae α->ak (ae α))
  (λo xs=>Nat.rec (motive:=λ_=>ak (ae α)) (List.rec (motive:=λ_=>ak (ae α)) (some []) (λ_ _ _=>none) xs) (λ_ _=>none) o)
  (λc l ih o xs=>Nat.rec (motive:=λ_=>ak (ae α))
    (List.rec (motive:=λ_=>ak (ae α)) (some (c::l)) (λx xs _=>Option.rec (motive:=λ_=>ak (ae α)) none (λr=>some (x::r)) (ih 0 xs)) xs)
    (λo _=>Option.rec (motive:=λ_=>ak (ae α)) none (λr=>some (c::r)) (ih o xs)) o) l
noncomputable def zB{α:Type}(p:α->Bool)(l:ae α):Bool:=
 List.rec (motive:=λ_=>Bool) true (λx _ ih=>Bool.rec (motive:=λ_=>Bool) false ih (p x)) l
noncomputable def je{α:Type}(l:ae α):Nat:=
 List.rec (motive:=λ_=>Nat) 0 (λ_ _ ih=>Nat.succ ih) l
noncomputable def lC{α:Type}(l r:ae α):ae α:=
 List.rec (motive:=λ_=>ae α) r (λx _ ih=>x::ih) l
noncomputable def zeros(z:ae ah)(n:Nat):ae ah:=
 Nat.rec (motive:=λ_=>ae ah) [] (λ_ ih=>lC z ih) n
abbrev dR:ah:=.tuple #[]
abbrev uA:ah:=.chan (some 0)
def cellV:ah->Bool
 | .agg _| .tuple _| .chan _=>false
 |_=>true
mutual
def cz:ah->Bool
 | .bool _| .int _ _| .float _ _| .complex _ _ _| .string _| .nilFunc| .nilIface=>true
 | .pointer a=>a.isNone
 | .slice a n c=>a.isNone&&n==0&&c==0
 | .map r=>r.isNone
 | .chan _=>false
 | .func _ _ _=>false
 | .iface _ v=>cz v&&cellV v
 | .agg ⟨cs⟩=>gu cs
 | .tuple _=>false
def gu:ae ah->Bool
 |[]=>true
 |v::l=>cz v&&cellV v&&gu l
end
def dZ{α:Type}(P:Program):Sem α->ak α
 | .pure a=>some a
 | .program k=>dZ P (k P)
 | .mark _ k=>dZ P k
 |_=>none
def lT(P:Program)(s:Sem ah):ak ah:=
 match dZ P s with
 |some v=>cond (cz v) (some v) none
 |none=>none
def cellsOf(v:ah):ak (ae ah):=
 match v with
 | .agg ⟨cs⟩=>some cs
 | .tuple _| .chan _=>none
 |v=>some [v]
inductive Out where
 |normal
 |exit (id:Nat)
 |ret
 |panic (chain:List PanicEntry)
inductive aH where
 |mv (x:Operand)
 |om (x:Operand)
 |pick (c a b:Operand)
 |new (cs:List Value) (t:TypeId)
 |box (x:Operand) (t:TypeId)
 |build (zero:List Value) (parts:List (Nat×Nat×Operand))
 |yc (t:TypeId) (len:Nat) (zero:List Value) (parts:List (Nat×Nat×Operand))
 |iE (a:Operand)
 |rz (n:Nat) (a:Operand)
 |store (n:Nat) (a x:Operand)
 |l9 (x:Operand)
 |bin (op:BinOp) (t:TypeId) (x y:Operand)
 |un (op:UnOp) (x:Operand)
 |conv (s d:TypeId) (x:Operand)
 |RQ (e:TypeId) (x:Operand)
 |Ib (x:Operand)
 |iface (t:TypeId) (x:Operand)
 |CO (fn:Fn) (first captured:List Operand)
 |xe
 |A7 (e:TypeId) (size bytes:Nat) (zero:List Value) (l c:Operand)
 |RU (t:TypeId) (x:Operand) (lo hi mx:Option Operand)
 |MI (n size:Nat) (x:Operand) (lo hi mx:Option Operand)
 |RV (size:Nat) (x:Operand) (lo hi mx:Option Operand)
 |gD (off:Nat) (x:Operand)
 |field (t:TypeId) (off n:Nat) (agg:Bool) (x:Operand)
 |MJ (n size:Nat) (x i:Operand)
 |oq (size:Nat) (x i:Operand)
 |RX (x i:Operand)
 |RY (n size:Nat) (agg:Bool) (x i:Operand)
 |lookup (kt:TypeId) (zero:Value) (m k:Operand) (ok:Bool)
 |Ic (kt:TypeId) (m k v:Operand)
 |RZ (kt:TypeId) (zero:Value) (m k:Operand)
 |R3 (m s v:Operand)
 |MK (x:Operand)
 |rangeMap (x:Operand)
 |R4 (x:Operand)
 |yf (x:Operand)
 |entry (x:Operand)
 |Ie (t:TypeId) (zero:Value) (ok:Bool) (x:Operand)
 |extract (x:Operand) (i:Nat)
 |append (e:TypeId) (size bytes:Nat) (s x:Operand)
 |Ig (e:TypeId) (size bytes:Nat) (zero:List Value) (s x:Operand)
 |copy (size:Nat) (d x:Operand)
 |clear (zero:List Value) (x:Operand)
 |R5 (x:Operand)
 |Ih (n:Nat)
 |yj (x:Operand)
 |Ii (x:Operand)
 |R6 (x:Operand)
 |A8 (max:Bool) (args:List Operand)
 |call (f:Operand) (args:List Operand)
 |invoke (x:Operand) (name:String) (args:List Operand)
 |recover
 |panic (x:Operand)
 |dcall (f:Operand) (args:List Operand)
structure iU where
 dst:Option Tmp
 /-- the operation runs where this temporary holds this Bool -/
 guard:Option (Tmp×Bool)
 op:aH
structure bY where
 s:iU
 re:List iU
inductive dA where
 |skip
 /-- 'ds': where the region's operations put what they yield -/
 |ops (ds:List Tmp) (l:List bY)
 |seq (a b:dA)
 |cond (c:Operand) (a b:dA)
 |block (id:Nat) (a:dA)
 |loop (a:dA)
 |rangeFunc (f:Operand) (params:List Tmp) (assign body:dA)
 |scope (a:dA)
 |exit (id:Nat)
 |ret
 |fail
structure qo where
 state:LoopState
 pending:Option Out
 tmps:T Value
 n:Nat
 params:List Tmp
 assign:dA
 body:dA
 defers:Nat
inductive bO where
 |cells (cs:List Value)
 /-- cells that are read alone -/
 |jO (cs:List Value)
 |map (es:List MapEntry) (clock:Nat)
 |A9 (s:ByteArray) (pos:Nat)
 |mapIter (m:Option Nat) (since:Nat) (seen:List Nat) (stepped:Nat)
 |loop (l:qo)
 |jE (open_:Bool)
structure IH where
 t:T bO
 next:Nat
 low:Nat
noncomputable def IH.get(h:IH)(i:Nat):ak bO:=h.t.get i
noncomputable def IH.set(h:IH)(i:Nat)(o:bO):IH:={h with t:=h.t.set i (some o),low:=cond (Nat.ble h.low i) h.low i}
noncomputable def IH.kill(h:IH)(i:Nat):IH:={h with t:=h.t.set i none,low:=cond (Nat.ble h.low i) h.low i}
noncomputable def IH.new(h:IH)(o:bO):IH:={h with t:=h.t.set h.next (some o),next:=Nat.succ h.next}
structure bi where
 n:Nat
 tmps:T Value
 defers:List Deferred
 pm:Option FrameMode
 ro:Option Nat
noncomputable def dJ(t:T ah)(i:Nat):ah:=Option.rec (motive:=λ_=>ah) dR (λv=>v) (t.get i)
noncomputable def bi.eval(a:bi)(x:ay):ah:=
 match x with
 | .tmp t=>dJ a.tmps t
 | .const v=>v
 | .global g=>.pointer (some ⟨g,0,none⟩)
 | .func f=>.func (.func f) #[] #[]
noncomputable def bi.set(a:bi)(d:Nat)(v:ah):bi:=cond (Nat.blt d a.n) {a with tmps:=a.tmps.set d (some v)} a
noncomputable def bi.put(a:bi)(d:ak Tmp)(v:ah):bi:=
 match d with
 |some d=>a.set d v
 |none=>a
noncomputable def bi.wants(a:bi)(g:ak (Tmp×Bool)):ak Bool:=
 match g with
 |none=>some true
 |some (t,want)=>match dJ a.tmps t with
  | .bool b=>some (cond want b (!b))
  | .chan _=>some false
  |_=>none
noncomputable def IH.oO(h:IH)(i o n:Nat):ak (ae ah):=
 match h.get i with
 |some (.cells cs)=>jN (kF cs o) n
 |_=>none
noncomputable def IH.jh(h:IH)(i o n:Nat):ak (ae ah):=
 match h.get i with
 |some (.cells cs)=>jN (kF cs o) n
 |some (.jO cs)=>jN (kF cs o) n
 |_=>none
noncomputable def IH.pK(h:IH)(i o:Nat):ak ah:=
 match h.get i with
 |some (.cells cs)=>kE cs o
 |some (.jO cs)=>kE cs o
 |_=>none
noncomputable def IH.storeAt(h:IH)(i o:Nat)(vs:ae ah):ak IH:=
 match h.get i with
 |some (.cells cs)=>match kG cs o vs with
  |some cs=>some (h.set i (.cells cs))
  |none=>none
 |_=>none
def Ba(i o:Nat):ak Addr:=some ⟨i,o,some 0⟩
def small:Nat:=1073741824
def upTo(m:Nat)(v:ah):ak Nat:=
 match v with
 | .int _ (.ofNat i)=>cond (Nat.ble i m) (some i) none
 |_=>none
def bounds?(len cap:Nat)(lo hi mx:ak ah):ak (Nat×Nat×Nat):=
 match (match mx with|some v=>upTo cap v|none=>some cap)with
 |none=>none
 |some m=>match (match hi,mx with|some v,_=>upTo m v|none,none=>some len|none,some _=>none)with
  |none=>none
  |some h=>match (match lo with|some v=>upTo h v|none=>some 0)with
   |none=>none
   |some l=>some (l,h,m)
noncomputable def nJ(size n:Nat)(x:ah)(h:IH):ak (ae ah):=
 match x with
 | .slice (some ⟨i,o,_⟩) _ _=>h.jh i o (Nat.mul n size)
 | .slice none _ _=>match n with
   |0=>some []
   |_=>none
 | .string s=>cond (Nat.beq size 1) (match jN s.data.toList n with
   |some l=>some (lS (λb=>.int .u8 b.toNat) l)
   |none=>none) none
 |_=>none
noncomputable def zC(size n:Nat)(x:ah)(h:IH):ak (ae ah):=
 match n with
 |0=>match x with
  | .slice _ _ _=>some []
  |x=>nJ size 0 x h
 |Nat.succ k=>nJ size (Nat.succ k) x h
def pM:ah->ak Nat
 | .slice _ n _=>some n
 | .string s=>some s.size
 |_=>none
noncomputable def ym(size bytes:Nat)(s:ah)(n:Nat)(xs:ae ah)(h:IH):ak (ah×IH):=
 match s with
 | .slice base len cap=>
   let need:=Nat.add len n
   cond (Nat.ble (Nat.mul need bytes) small&&Nat.ble (Nat.mul need size) small&&Nat.ble need small)
    (cond (Nat.ble need cap)
      (match base with
      |some ⟨i,o,f⟩=>match h.storeAt i (Nat.add o (Nat.mul len size)) xs with
       |some h=>some (.slice (some ⟨i,o,f⟩) need cap,h)
       |none=>none
      |none=>match n with
       |0=>some (.slice none need cap,h)
       |_=>none)
      (match nJ size len s h with
      |none=>none
      |some old=>match base with
       |some ⟨i,_,some (k+1)⟩=>cond (Nat.beq (Nat.succ k) size) (some (.slice (some ⟨h.next,0,some size⟩) need need,(h.kill i).new (.cells (lC old xs)))) none
       |_=>some (.slice (some ⟨h.next,0,some size⟩) need need,h.new (.cells (lC old xs))))) none
 |_=>none
noncomputable def R7(size:Nat)(d x:ah)(h:IH):ak (ah×IH):=
 match d,pM x with
 | .slice base pO _,some m=>
   let n:=cond (Nat.ble m pO) m pO
   match nJ size n x h with
   |none=>none
   |some cs=>match base with
    |some ⟨i,o,_⟩=>match h.storeAt i o cs with
     |some h=>some (goInt n,h)
     |none=>none
    |none=>match n with
     |0=>some (goInt 0,h)
     |_=>none
 |_,_=>none
def uB(P:Program)(kt:aC)(k:ah)(es:ae MapEntry):ak (ak (Nat×ah)):=
 dZ P (Instr.findKey kt k es)
def sO(P:Program)(kt:aC)(k:ah):Bool:=
 cz k&&match dZ P (Instr.checkKey true 10000 kt k),dZ P (Instr.checkKey false 10000 kt k)with
  |some _,some _=>true
  |_,_=>false
noncomputable def entriesOf(m:ah)(h:IH):ak (ae MapEntry):=
 match m with
 | .map none=>some []
 | .map (some i)=>match h.get i with
   |some (.map es _)=>some es
   |_=>none
 |_=>none
noncomputable def Bb(P:Program)(kt:aC)(zero m k:ah)(ok:Bool)(h:IH):ak ah:=
 match entriesOf m h with
 |none=>none
 |some es=>cond (sO P kt k) (match uB P kt k es with
  |none=>none
  |some (some (_,v))=>some (cond ok (.tuple #[v,.bool true]) v)
  |some none=>some (cond ok (.tuple #[zero,.bool false]) zero)) none
noncomputable def setAt{α:Type}(f:α->α)(l:ae α):Nat->ae α:=
 List.rec (motive:=λ_=>Nat->ae α) (λ_=>[]) (λx l ih n=>Nat.rec (motive:=λ_=>ae α) (f x::l) (λm _=>x::ih m) n) l
noncomputable def EH(P:Program)(kt:aC)(m k v:ah)(h:IH):ak IH:=
 match m with
 | .map (some i)=>match h.get i with
   |some (.map es clock)=>cond (sO P kt k) (match uB P kt k es with
    |none=>none
    |some (some (j,_))=>match kE es j with
     |some e=>cond (Instr.sameBits 10000 e.key k) (some (h.set i (.map (setAt (λe=>{e with key:=k,val:=v}) es j) clock))) none
     |none=>none
    |some none=>some (h.set i (.map (lC es [{key:=k,val:=v,born:=clock}]) (Nat.succ clock)))) none
   |_=>none
 |_=>none
noncomputable def aaX(P:Program)(kt:aC)(zero m k:ah)(h:IH):ak (ah×IH):=
 match m with
 | .map (some i)=>match h.get i with
   |some (.map es clock)=>cond (sO P kt k) (match uB P kt k es with
    |none=>none
    |some (some (j,v))=>match kE es j with
     |some e=>cond (Instr.sameBits 10000 e.key k) (some (.tuple #[v,goInt e.born],h.set i (.map (setAt (λe=>{e with key:=k}) es j) clock))) none
     |none=>none
    |some none=>some (.tuple #[zero,goInt clock],h.set i (.map (lC es [{key:=k,val:=zero,born:=clock}]) (Nat.succ clock)))) none
   |_=>none
 |_=>none
noncomputable def aaY(m s v:ah)(h:IH):ak IH:=
 match m,s with
 | .map (some i),.int _ n=>match h.get i with
   |some (.map es clock)=>match es.findIdx? (λe=>(e.born:Int)==n)with
    |some j=>some (h.set i (.map (setAt (λe=>{e with val:=v}) es j) clock))
    |none=>none
   |_=>none
 |_,_=>none
def uC(P:Program)(t:aC)(x y:ah):ak Bool:=
 match P.underlying t,x,y with
 |some (.pointer _),.pointer (some _),.pointer none=>some false
 |some (.pointer _),.pointer none,.pointer (some _)=>some false
 |some (.slice _),.slice (some _) _ _,.slice none _ _=>some false
 |some (.slice _),.slice none _ _,.slice (some _) _ _=>some false
 |some (.slice _),.slice none _ _,.slice none _ _=>some true
 |some (.map _ _),.map (some _),.map none=>some false
 |some (.map _ _),.map none,.map (some _)=>some false
 |some (.func _ _ _),.func _ _ _,.nilFunc=>some false
 |some (.func _ _ _),.nilFunc,.func _ _ _=>some false
 |some (.interface _),.iface _ _,.nilIface=>some false
 |some (.interface _),.nilIface,.iface _ _=>some false
 |_,_,_=>none
def ML:Nat:=9223372036854775807
def EI(k:IntKind)(n:Int):Int:=
 match k,n with
 | .i64,.ofNat m=>cond (Nat.ble m ML) (.ofNat m) (IntKind.i64.wrap (.ofNat m))
 | .i64,.negSucc m=>cond (Nat.ble m 1000000) (.negSucc m) (IntKind.i64.wrap (.negSucc m))
 |k,n=>k.wrap n
def R8(a b:Int):Int:=
 match a,b with
 | .ofNat x,.ofNat y=>.ofNat (Nat.add x y)
 |a,b=>a+b
def MM(a b:Int):Int:=
 match a,b with
 | .ofNat x,.ofNat y=>cond (Nat.ble y x) (.ofNat (Nat.sub x y)) (.negSucc (Nat.pred (Nat.sub y x)))
 |a,b=>a - b
def leZ(a b:Int):Bool:=
 match a,b with
 | .ofNat x,.ofNat y=>Nat.ble x y
 | .negSucc _,.ofNat _=>true
 | .ofNat _,.negSucc _=>false
 | .negSucc x,.negSucc y=>Nat.ble y x
def CP(a b:Int):Bool:=
 match a,b with
 | .ofNat x,.ofNat y=>Nat.beq x y
 | .negSucc x,.negSucc y=>Nat.beq x y
 |_,_=>false
def vN(j k:IntKind):Bool:=
 match j,k with
 | .i64,.i64=>true
 |j,k=>j==k
def qp(op:BinOp)(k:IntKind)(a b:Int):ak ah:=
 match op with
 | .add=>some (.int k (EI k (R8 a b)))
 | .sub=>some (.int k (EI k (MM a b)))
 | .eql=>some (.bool (CP a b))
 | .neq=>some (.bool (!CP a b))
 | .lss=>some (.bool (!leZ b a))
 | .leq=>some (.bool (leZ a b))
 | .gtr=>some (.bool (!leZ a b))
 | .geq=>some (.bool (leZ b a))
 |_=>none
def mZ(P:Program)(op:BinOp)(t:aC)(x y:ay)(a b:ah):ak ah:=
 match (match a,b with
  | .int j m,.int k n=>cond (vN j k) (qp op j m n) none
  |_,_=>none)with
 |some v=>some v
 |none=>cond (cz a&&cz b) (lT P (do eqGuard op t x y a b;binOp op t a b))
  (match op with
  | .eql=>(match uC P t a b with|some b=>some (.bool b)|none=>none)
  | .neq=>(match uC P t a b with|some b=>some (.bool !b)|none=>none)
  |_=>none)
noncomputable def Ij(l:ae ah):ak (ae UInt8):=
 List.rec (motive:=λ_=>ak (ae UInt8)) (some []) (λv _ ih=>match v,ih with
  | .int .u8 k,some r=>some (UInt8.ofNat k.toNat::r)
  |_,_=>none) l
noncomputable def sP(ρ:ay->ah)(zero:ae ah)(parts:ae (Nat×Nat×ay)):ak (ae ah):=
 List.rec (motive:=λ_=>ae ah->ak (ae ah)) (λcs=>some cs)
  (λp _ ih cs=>match p with
    |(off,size,x)=>match cellsOf (ρ x)with
     |none=>none
     |some vs=>cond (Nat.beq (je vs) size) (match kG cs off vs with
      |some cs=>ih cs
      |none=>none) none) parts zero
noncomputable def jP(ρ:ay->ah)(x:ak ay):ak ah:=
 match x with
 |some x=>some (ρ x)
 |none=>none
noncomputable def aH.alloc(c:aH)(ρ:ay->ah):ak ((Nat->ah)×bO):=
 match c with
 | .new cs _=>some (λi=>.pointer (some ⟨i,0,none⟩),.cells cs)
 | .box x _=>match cellsOf (ρ x)with
   |some cs=>some (λi=>.pointer (some ⟨i,0,none⟩),.cells cs)
   |none=>none
 | .yc _ len zero parts=>match sP ρ zero parts with
   |some cs=>some (λi=>.slice (Ba i 0) len len,.cells cs)
   |none=>none
 | .xe=>some (λi=>.map (some i),.map [] 0)
 | .A7 _ size bytes zero l c=>match ρ l,ρ c with
   | .int .i64 (.ofNat l),.int .i64 (.ofNat c)=>cond (Nat.ble l c&&Nat.ble (Nat.mul c bytes) small&&Nat.ble (Nat.mul c size) small&&Nat.ble c small)
      (some (λi=>.slice (Ba i 0) l c,.cells (zeros zero c))) none
   |_,_=>none
 |_=>none
noncomputable def sQ(x:ak ((Nat->ah)×bO))(h:IH):ak (ah×IH):=
 match x with
 |some (f,o)=>some (f h.next,h.new o)
 |none=>none
noncomputable def aH.run(P:Program)(c:aH)(ρ:ay->ah)(h:IH):ak (ah×IH):=
 match c with
 | .mv x=>some (ρ x,h)
 | .om x=>some (ρ x,h)
 | .pick c a b=>match ρ c with
   | .bool t=>some (cond t (ρ a) (ρ b),h)
   |_=>none
 | .new cs t=>sQ ((aH.new cs t).alloc ρ) h
 | .box x t=>sQ ((aH.box x t).alloc ρ) h
 | .build zero parts=>match sP ρ zero parts with
   |some cs=>some (.agg ⟨cs⟩,h)
   |none=>none
 | .yc t len zero parts=>sQ ((aH.yc t len zero parts).alloc ρ) h
 | .iE a=>match ρ a with
   | .pointer (some ⟨i,o,none⟩)=>match h.pK i o with
     |some v=>some (v,h)
     |none=>none
   |_=>none
 | .rz n a=>match ρ a with
   | .pointer (some ⟨i,o,none⟩)=>match h.jh i o n with
     |some cs=>some (.agg ⟨cs⟩,h)
     |none=>none
   |_=>none
 | .store n a x=>match ρ a,cellsOf (ρ x)with
   | .pointer (some ⟨i,o,none⟩),some vs=>cond (Nat.beq (je vs) n) (match h.storeAt i o vs with
     |some h=>some (dR,h)
     |none=>none) none
   |_,_=>none
 | .l9 x=>match ρ x with
   | .pointer (some a)=>some (.pointer (some a),h)
   | .iface t v=>some (.iface t v,h)
   | .func (.func f) first captured=>some (.func (.func f) first captured,h)
   | .func (.methodOf t n) first captured=>some (.func (.methodOf t n) first captured,h)
   | .func (.yield l) first captured=>some (.func (.yield l) first captured,h)
   |_=>none
 | .bin op t x y=>match mZ P op t x y (ρ x) (ρ y)with
   |some v=>some (v,h)
   |none=>none
 | .un op x=>cond (cz (ρ x)) (match lT P (Op.unary op (ρ x))with
   |some v=>some (v,h)
   |none=>none) none
 | .conv s d x=>cond (cz (ρ x)) (match lT P (convert s d (ρ x))with
   |some v=>some (v,h)
   |none=>none) none
 | .RQ _ x=>match ρ x with
   | .string b=>some (.slice (some ⟨h.next,0,some 1⟩) b.data.toList.length b.data.toList.length,h.new (.cells (lS (λc=>.int .u8 c.toNat) b.data.toList)))
   |_=>none
 | .Ib x=>match ρ x with
   | .slice none _ _=>some (.string .empty,h)
   | .slice (some ⟨i,o,_⟩) n _=>match h.jh i o n with
     |some cs=>match Ij cs with
      |some bs=>some (.string ⟨⟨bs⟩⟩,h)
      |none=>none
     |none=>none
   |_=>none
 | .iface t x=>some (.iface t (ρ x),h)
 | .CO fn first captured=>some (.func fn ⟨lS ρ first⟩ ⟨lS ρ captured⟩,h)
 | .xe=>sQ (aH.xe.alloc ρ) h
 | .A7 e size bytes zero l c=>sQ ((aH.A7 e size bytes zero l c).alloc ρ) h
 | .RU t x lo hi mx=>match ρ x with
   | .string s=>match bounds? s.size s.size (jP ρ lo) (jP ρ hi) (jP ρ mx)with
     |some _=>match lT P (Instr.slice t (.string s) (jP ρ lo) (jP ρ hi) (jP ρ mx))with
      |some v=>some (v,h)
      |none=>none
     |none=>none
   |_=>none
 | .MI n size x lo hi mx=>match ρ x with
   | .pointer (some ⟨i,o,none⟩)=>match bounds? n n (jP ρ lo) (jP ρ hi) (jP ρ mx)with
     |some (l,hh,m)=>some (.slice (Ba i (Nat.add o (Nat.mul l size))) (Nat.sub hh l) (Nat.sub m l),h)
     |none=>none
   |_=>none
 | .RV size x lo hi mx=>match ρ x with
   | .slice a len cap=>match bounds? len cap (jP ρ lo) (jP ρ hi) (jP ρ mx)with
     |some (l,hh,m)=>match a with
      |none=>some (.slice none (Nat.sub hh l) (Nat.sub m l),h)
      |some ⟨i,o,some 0⟩=>some (.slice (Ba i (Nat.add o (Nat.mul l size))) (Nat.sub hh l) (Nat.sub m l),h)
      |some ⟨i,o,some (k+1)⟩=>cond (Nat.beq (Nat.succ k) size) (some (.slice (some ⟨i,Nat.add o (Nat.mul l size),match mx with|some _=>some 0|none=>some (Nat.succ k)⟩) (Nat.sub hh l) (Nat.sub m l),h)) none
      |some ⟨_,_,none⟩=>none
     |none=>none
   |_=>none
 | .gD off x=>match ρ x with
   | .pointer (some ⟨i,o,none⟩)=>some (.pointer (some ⟨i,Nat.add o off,none⟩),h)
   |_=>none
 | .field _ off n agg x=>match ρ x with
   | .agg ⟨cs⟩=>match agg with
     |true=>match jN (kF cs off) n with
      |some l=>some (.agg ⟨l⟩,h)
      |none=>none
     |false=>match kE cs off with
      |some v=>some (v,h)
      |none=>none
   |_=>none
 | .MJ n size x ix=>match ρ x,ρ ix with
   | .pointer (some ⟨b,o,none⟩),.int _ (.ofNat i)=>cond (Nat.blt i n) (some (.pointer (some ⟨b,Nat.add o (Nat.mul i size),none⟩),h)) none
   |_,_=>none
 | .oq size x ix=>match ρ x,ρ ix with
   | .slice (some ⟨b,o,_⟩) n _,.int _ (.ofNat i)=>cond (Nat.blt i n) (some (.pointer (some ⟨b,Nat.add o (Nat.mul i size),none⟩),h)) none
   |_,_=>none
 | .RX x ix=>match ρ x,ρ ix with
   | .string s,.int _ (.ofNat i)=>match kE s.data.toList i with
     |some b=>some (.int .u8 b.toNat,h)
     |none=>none
   |_,_=>none
 | .RY n size agg x ix=>match ρ x,ρ ix with
   | .agg ⟨cs⟩,.int _ (.ofNat i)=>cond (Nat.blt i n) (match agg with
     |true=>match jN (kF cs (Nat.mul i size)) size with
      |some l=>some (.agg ⟨l⟩,h)
      |none=>none
     |false=>match kE cs (Nat.mul i size)with
      |some v=>some (v,h)
      |none=>none) none
   |_,_=>none
 | .lookup kt zero m k ok=>match Bb P kt zero (ρ m) (ρ k) ok h with
   |some v=>some (v,h)
   |none=>none
 | .Ic kt m k v=>match EH P kt (ρ m) (ρ k) (ρ v) h with
   |some h=>some (dR,h)
   |none=>none
 | .RZ kt zero m k=>aaX P kt zero (ρ m) (ρ k) h
 | .R3 m s v=>match aaY (ρ m) (ρ s) (ρ v) h with
   |some h=>some (dR,h)
   |none=>none
 | .MK x=>match ρ x with
   | .string s=>some (.pointer (some ⟨h.next,0,none⟩),h.new (.A9 s 0))
   |_=>none
 | .rangeMap x=>match ρ x with
   | .map none=>some (.pointer (some ⟨h.next,0,none⟩),h.new (.mapIter none 0 [] 0))
   | .map (some m)=>match h.get m with
     |some (.map _ clock)=>some (.pointer (some ⟨h.next,0,none⟩),h.new (.mapIter (some m) clock [] clock))
     |_=>none
   |_=>none
 | .R4 it=>match ρ it with
   | .pointer (some ⟨r,0,none⟩)=>match h.get r with
     |some (.A9 s pos)=>cond (Nat.blt pos s.size)
       (some (.tuple #[.bool true,goInt pos,.int .i32 (Utf8.decode s pos).1],h.set r (.A9 s (Nat.add pos (Utf8.decode s pos).2))))
       (some (.tuple #[.bool false],h))
     |_=>none
   |_=>none
 | .entry it=>match ρ it with
   | .pointer (some ⟨r,0,none⟩)=>match h.get r with
     |some (.mapIter (some m) _ seen stepped)=>match h.get m with
      |some (.map es clock)=>match seen.getLast? with
       |some stamp=>cond (Nat.beq clock stepped) (match es.find? (λe=>Nat.beq e.born stamp)with
        |some e=>some (.tuple #[e.key,e.val],h)
        |none=>none) none
       |none=>none
      |_=>none
     |_=>none
   |_=>none
 | .Ie t zero ok x=>match ρ x with
   | .nilIface=>cond ok (some (.tuple #[zero,.bool false],h)) none
   | .iface u v=>cond (Nat.beq u t) (some (cond ok (.tuple #[v,.bool true]) v,h)) (cond ok (some (.tuple #[zero,.bool false],h)) none)
   |_=>none
 | .extract x i=>match ρ x with
   | .tuple ⟨vs⟩=>match kE vs i with
     |some v=>some (v,h)
     |none=>none
   |_=>none
 | .append _ size bytes s x=>match pM (ρ x)with
   |some n=>match zC size n (ρ x) h with
    |some xs=>ym size bytes (ρ s) n xs h
    |none=>none
   |none=>none
 | .Ig _ size bytes zero s x=>match ρ s,ρ x with
   | .slice none 0 0,.int .i64 (.ofNat (n+1))=>cond (Nat.ble (Nat.mul (n+1) bytes) small&&Nat.ble (Nat.mul (n+1) size) small&&Nat.ble (n+1) small) (some (.slice (some ⟨h.next,0,some size⟩) (n+1) (n+1),h.new (.cells (zeros zero (n+1))))) none
   |_,_=>none
 | .copy size d x=>R7 size (ρ d) (ρ x) h
 | .clear zero x=>match ρ x with
   | .slice (some ⟨i,o,some _⟩) (n+1) _=>match h.storeAt i o (zeros zero (n+1))with
     |some h'=>some (.tuple #[],h')
     |none=>none
   | .slice _ 0 _=>some (.tuple #[],h)
   |_=>none
 | .R5 x=>match ρ x with
   | .string s=>some (goInt s.size,h)
   |_=>none
 | .Ih n=>some (goInt n,h)
 | .yj x=>match ρ x with
   | .slice _ n _=>some (goInt n,h)
   |_=>none
 | .Ii x=>match entriesOf (ρ x) h with
   |some es=>some (goInt (je es),h)
   |none=>none
 | .R6 x=>match ρ x with
   | .slice none _ c=>some (goInt c,h)
   | .slice (some ⟨_,_,some 0⟩) _ c=>some (goInt c,h)
   |_=>none
 | .A8 max args=>match lS ρ args with
   |[.int j a,.int k b]=>cond (vN j k) (some (.int j (cond max (cond (leZ b a) a b) (cond (leZ a b) a b)),h)) none
   |args=>cond (gu args) (match lT P (cond max (Builtin.max_ #[] 0 ⟨args⟩) (Builtin.min_ #[] 0 ⟨args⟩))with
    |some v=>some (v,h)
    |none=>none) none
 | .yf _| .call _ _| .invoke _ _ _| .recover| .panic _| .dcall _ _=>none
end Go.Ideal
namespace Go.Ideal
noncomputable section
def jY(P:Program)(t:aC):ak Nat:=(P.info? t).map (·.size)
def zeroOf(P:Program)(t:aC):ak ah:=
 match (P.info? t).bind (·.zero)with
 |some z=>if cz z then some z else none
 |none=>none
def kH(P:Program)(t:aC):Bool:=
 match P.underlying t with
 |some (.struct _)|some (.array _ _)=>true
 |_=>false
def xk(P:Program)(t:aC):ak (ae ah):=
 match zeroOf P t,jY P t with
 |some z,some n=>if z.cells.toList.length=n/\gu z.cells.toList then some z.cells.toList else none
 |_,_=>none
def ou(P:Program)(t:aC):ak Nat:=
 match jY P t with
 |some 0=>none
 |s=>s
def zD(P:Program)(fs:Array Field):ae (Nat×ay)->ak (ae (Nat×Nat×ay))
 |[]=>some []
 |(i,x)::l=>match fs[i]?,zD P fs l with
  |some f,some r=>match jY P f.type with
   |some s=>some ((f.offset,s,x)::r)
   |none=>none
  |_,_=>none
def placesOf(P:Program)(fs:Array Field)(parts:ae (Nat×ay)):ak (ae (Nat×Nat×ay)):=
 if fs.toList.all (λf=>(jY P f.type).isSome)then zD P fs parts else none
def Ik:Fn->Bool
 | .yield _=>false
 | .via .. =>false
 |_=>true
def cop(P:Program)(o:Oper):ak aH:=
 match o.op with
 | .move x=>some (.mv x)
 | .assign x=>some (.om x)
 | .pick c a b=>some (.pick c a b)
 | .alloc e=>match xk P e with
   |some cs=>some (.new cs e)
   |none=>none
 | .box e x=>some (.box x e)
 | .build t parts=>match P.underlying t,xk P t with
   |some (.struct fs),some z=>match placesOf P fs parts.toList with
    |some ps=>some (.build z ps)
    |none=>none
   |some (.array _ e),some z=>match ou P e with
    |some s=>some (.build z (parts.toList.map λ(i,x)=>(i*s,s,x)))
    |none=>none
   |_,_=>none
 | .buildSlice t len parts=>match P.underlying t with
   |some (.slice e)=>match ou P e,xk P e with
    |some s,some z=>if len*s<=2^24 then some (.yc e len (zeros z len) (parts.toList.map λ(i,x)=>(i*s,s,x)))else none
    |_,_=>none
   |_=>none
 | .load t a=>if kH P t then(jY P t).map λn=>.rz n a else match P.underlying t with
   |some _=>some (.iE a)
   |none=>none
 | .store t a x=>(jY P t).map λn=>.store n a x
 | .nilCheck x=>some (.l9 x)
 | .binOp op t x y _=>some (.bin op t x y)
 | .unOp op _ x=>some (.un op x)
 | .convert s d x=>match P.underlying s,P.underlying d with
   |some .string,some (.slice _)=>none
   |some (.slice e),some .string=>match P.underlying e with
    |some (.int .u8)=>some (.Ib x)
    |_=>none
   |some (.slice _),some (.slice _)=>none
   |some _,some _=>some (.conv s d x)
   |_,_=>none
 | .makeInterface t x=>match P.underlying t with
   |some (.interface _)=>none
   |some _=>some (.iface t x)
   |none=>none
 | .makeFunc fn first captured=>if Ik fn then some (.CO fn first.toList captured.toList)else none
 | .makeMap _ none=>some .xe
 | .makeSlice t l c=>match P.underlying t with
   |some (.slice e)=>match ou P e,xk P e with
    |some s,some z=>some (.A7 e s ((P.info? e).map (·.bytes)).get! z l c)
    |_,_=>none
   |_=>none
 | .slice t x lo hi mx=>match P.underlying t with
   |some .string=>some (.RU t x lo hi mx)
   |some (.array n e)=>(ou P e).map λs=>.MI n s x lo hi mx
   |some (.slice e)=>(ou P e).map λs=>.RV s x lo hi mx
   |_=>none
 | .fieldAddr s x f=>match P.underlying s with
   |some (.struct fs)=>match fs[f]? with
    |some f=>(ou P f.type).map λ_=>.gD f.offset x
    |none=>none
   |_=>none
 | .field t x f=>match P.underlying t with
   |some (.struct fs)=>match fs[f]? with
    |some f=>match jY P f.type,P.underlying f.type with
     |some n,some _=>some (.field f.type f.offset n (kH P f.type) x)
     |_,_=>none
    |none=>none
   |_=>none
 | .indexAddr t x i=>match P.underlying t with
   |some (.array n e)=>(ou P e).map λs=>.MJ n s x i
   |some (.slice e)=>(ou P e).map λs=>.oq s x i
   |_=>none
 | .index t x i=>match P.underlying t with
   |some (.array n e)=>match ou P e,P.underlying e with
    |some s,some _=>some (.RY n s (kH P e) x i)
    |_,_=>none
   |some .string=>some (.RX x i)
   |_=>none
 | .lookup t m k ok=>match P.underlying t with
   |some (.map kt et)=>(zeroOf P et).map λz=>.lookup kt z m k ok
   |_=>none
 | .mapUpdate t m k v| .insert t m k v=>match P.underlying t with
   |some (.map kt _)=>some (.Ic kt m k v)
   |_=>none
 | .range t x=>match P.underlying t with
   |some .string=>some (.MK x)
   |some (.map _ _)=>some (.rangeMap x)
   |_=>none
 | .next it false=>some (.yf it)
 | .entry it=>some (.entry it)
 | .typeAssert x _ t ok=>match P.underlying t with
   |some (.interface _)=>none
   |some _=>(zeroOf P t).map λz=>.Ie t z ok x
   |none=>none
 | .extract t i=>some (.extract t i)
 | .panic x=>some (.panic x)
 | .defer {callee:=.value f,args,.. }=>some (.dcall f args.toList)
 | .call {callee:=.value f,args,.. }=>some (.call f args.toList)
 | .call {callee:=.invoke x name,args,.. }=>some (.invoke x name args.toList)
 | .call {callee:=.builtin b,args,argTypes}=>match b,args.toList with
   | .recover,_=>some .recover
   | .panic,[x]=>some (.panic x)
   | .append,[s,x]=>match argTypes[0]?,argTypes[1]? with
     |some st,some xt=>match P.underlying st,P.underlying xt with
      |some (.slice e),some xd=>match ou P e,(P.info? e).map (·.bytes),xk P e with
       |some s',some (b+1),some z=>match xd with
        | .int _=>some (.Ig e s' (b+1) z s x)
        |_=>some (.append e s' (b+1) s x)
       |_,_,_=>none
      |_,_=>none
     |_,_=>none
   | .clear,[x]=>match argTypes[0]? with
     |some t=>match P.underlying t with
      |some (.slice e)=>match xk P e with
       |some (z::zs)=>some (.clear (z::zs) x)
       |_=>none
      |_=>none
     |none=>none
   | .copy,[d,x]=>match argTypes[0]? with
     |some dt=>match P.underlying dt with
      |some (.slice e)=>(ou P e).map λs=>.copy s d x
      |_=>none
     |none=>none
   | .len,[x]=>match argTypes[0]? with
     |some t=>match P.underlying t with
      |some .string=>some (.R5 x)
      |some (.array n _)=>some (.Ih n)
      |some (.pointer p)=>match P.underlying p with
       |some (.array n _)=>some (.Ih n)
       |_=>none
      |some (.slice _)=>some (.yj x)
      |some (.map _ _)=>some (.Ii x)
      |_=>none
     |none=>none
   | .cap,[x]=>match argTypes[0]? with
     |some t=>match P.underlying t with
      |some (.slice _)=>some (.R6 x)
      |_=>none
     |none=>none
   | .min,args=>some (.A8 false args)
   | .max,args=>some (.A8 true args)
   |_,_=>none
 |_=>none
def Bc(P:Program):ay->Bool
 | .const (.tuple ⟨[]⟩)=>true
 | .const v=>cz v
 | .global g=>Nat.blt g P.globals.size
 |_=>true
def EJ(P:Program)(ops:Array Oper)(o:Oper):ak iU:=
 if o.op.operands.toList.all (Bc P)then match cop P o with
 |none=>none
 |some c=>match o.guard with
  |none=>some ⟨o.dst,none,c⟩
  |some (j,want)=>match (ops[j]?).bind (·.dst)with
   |some t=>some ⟨o.dst,some (t,want),c⟩
   |none=>none
 else none
def heavy:aH->Bool
 | .om .. | .store .. | .Ic .. | .RZ .. | .R3 .. | .MK .. | .rangeMap .. | .R4 .. | .yf .. | .append .. | .Ig .. | .copy .. | .clear .. | .RQ ..
 | .call .. | .invoke .. | .recover| .panic .. | .dcall .. =>true
 |_=>false
def CQ:aH->Bool
 | .iE .. | .rz .. | .lookup .. | .entry .. | .Ib .. | .Ii .. =>true
 |_=>false
def Bd(ops:Array Oper)(done:ae Nat)(i:Nat):Bool:=
 !done.contains i&&match ops[i]? with
  |some o=>o.after.toList.all λe=>!Region.binds .any e||done.contains e.on
  |none=>false
def looks(ops:Array Oper)(o:Oper):ae Tmp:=
 (o.op.operands.toList.filterMap λ| .tmp t=>some t|_=>none)++
 (match o.guard with
  |some (g,_)=>((ops[g]?).bind (·.dst)).toList
  |none=>[])
def MN(ops:Array Oper)(hv:Nat->Bool):Nat->ae Nat->ae Nat
 |0,done=>done.reverse
 |f+1,done=>
  match (List.range ops.size).find? λi=>!hv i&&Bd ops done i with
  |some i=>MN ops hv f (i::done)
  |none=>match (List.range ops.size).find? λi=>Bd ops done i with
   |some i=>MN ops hv f (i::done)
   |none=>done.reverse
def R9(ops:Array Oper)(bU:Nat->Nat->Bool)(hv:Nat->Bool)(done:ae Nat)(i:Nat):Bool:=
 match ops[i]? with
 |none=>false
 |some o=>
  Bd ops done i&&
  (!hv i||(done.all λj=>!hv j||bU i j)&&(List.range ops.size).all λj=>hv j||!Bd ops done j)&&
  (match o.dst with
  |none=>true
  |some d=>(hv i||!(looks ops o).contains d)&&done.all λj=>match ops[j]? with
   |some p=>if(looks ops p).contains d||p.dst==some d then hv i&&bU i j else true
   |none=>false)&&
  done.all λj=>match ops[j]? with
   |some p=>match p.dst with
    |some d=>if(looks ops o).contains d then bU i j else true
    |none=>true
   |none=>false
def EK(ops:Array Oper)(bU:Nat->Nat->Bool)(hv:Nat->Bool):ae Nat->ae Nat->Bool
 |[],done=>(List.range ops.size).all λi=>done.contains i
 |i::l,done=>R9 ops bU hv done i&&EK ops bU hv l (i::done)
def EL(bU:Nat->Nat->Bool)(cs:Nat->ak iU):ae Nat->ae Nat->ak (ae bY)
 |[],_=>some []
 |i::l,done=>match cs i,EL bU cs l (i::done)with
  |some s,some r=>some (⟨s,if heavy s.op then done.filterMap λj=>match cs j with
    |some t=>if CQ t.op&&!bU i j then some t else none
    |none=>none else[]⟩::r)
  |_,_=>none
def rA(ops:Array Oper):Nat->Nat->Bool:=
 let b:=Region.before ops
 λi j=>(b.getD i 0).testBit j
def kT(P:Program)(ops:Array Oper)(i:Nat):ak iU:=(ops[i]?).bind (EJ P ops)
def zF(P:Program)(ops:Array Oper)(i:Nat):Bool:=
 match kT P ops i with
 |some s=>heavy s.op
 |none=>true
def Sa(P:Program)(ops:Array Oper):ak (ae bY):=
 let l:=MN ops (zF P ops) ops.size []
 if EK ops (rA ops) (zF P ops) l []then EL (rA ops) (kT P ops) l []else none
def dstsOf(ops:Array Oper):ae Tmp:=ops.toList.filterMap (·.dst)
def Il(P:Program)(ops:Array Oper)(draw:Bool):dA:=
 match (if draw then Sa P ops else ops.toList.mapM λo=>(EJ P ops o).map λs=>⟨s,[]⟩)with
 |some l=>.ops (dstsOf ops) l
 |none=>.fail
def compile(P:Program):Code->dA
 | .skip| .label _=>.skip
 | .region _ ops draw=>Il P ops draw
 | .seq a b=>.seq (compile P a) (compile P b)
 | .cond c a b=>.cond c (compile P a) (compile P b)
 | .block id a=>.block id (compile P a)
 | .loop a=>.loop (compile P a)
 | .rangeFunc f params assign body=>if Bc P f then .rangeFunc f params.toList (compile P assign) (compile P body)else .fail
 | .exit id=>.exit id
 | .scope a=>.scope (compile P a)
 | .ret=>.ret
 | .goto _| .refuse _=>.fail
inductive rC where
 |tmp (t:Tmp)
 |cell1 (a:Tmp)
 |rD (n:Nat) (a:Tmp)
def EM(P:Program):ResultVar->ak rC
 | .tmp t=>some (.tmp t)
 | .cell a t=>if kH P t then(jY P t).map λn=>.rD n a else match P.underlying t with
   |some _=>some (.cell1 a)
   |none=>none
structure iF where
 ntmps:Nat
 results:List rC
 body:dA
def vO(P:Program)(fn:Func):ak iF:=
 match fn.body,fn.results.toList.mapM (EM P)with
 |some c,some rs=>if fn.name= "runtime.NumGoroutine" then none else some ⟨fn.ntmps,rs,compile P c⟩
 |_,_=>none
inductive ji where
 |ok (v:Value)
 |fU (chain:List PanicEntry)
structure bA where
 fn:Fn
 args:List Value
 captured:List Value
 pm:Option FrameMode
def yo(l:ae ah):Nat->T ah->T ah:=
 List.rec (motive:=λ_=>Nat->T ah->T ah) (λ_ t=>t) (λv _ ih i t=>ih (Nat.succ i) (t.set i (some v))) l
def rE(a b:Nat):Nat:=cond (Nat.ble a b) b a
def Be(n:Nat)(args:ae ah)(pm:ak FrameMode):bi:=
 {n:=rE n (je args),tmps:=yo args 0 .leaf,defers:=[],pm,ro:=none}
def uD(tmps:T ah)(h:IH)(r:rC):ak ah:=
 match r with
 | .tmp t=>some (dJ tmps t)
 | .cell1 a=>match dJ tmps a with
   | .pointer (some ⟨i,o,none⟩)=>match h.get i with
     |some (.cells cs)=>kE cs o
     |_=>none
   |_=>none
 | .rD n a=>match dJ tmps a with
   | .pointer (some ⟨i,o,none⟩)=>match h.oO i o n with
     |some cs=>some (.agg ⟨cs⟩)
     |none=>none
   |_=>none
def yu(tmps:T ah)(h:IH)(l:ae rC):ak (ae ah):=
 List.rec (motive:=λ_=>ak (ae ah)) (some []) (λr _ ih=>match uD tmps h r,ih with
  |some v,some vs=>some (v::vs)
  |_,_=>none) l
def rF(rs:ae rC)(tmps:T ah)(h:IH):ak ah:=
 match yu tmps h rs with
 |some [v]=>some v
 |some vs=>some (.tuple ⟨vs⟩)
 |none=>none
def zG:FrameMode->FrameMode
 | .panicking (e::older)=>cond e.recovered (match older.dropWhile (!·.goexit)with
    |[]=>.returning
    |rest=>.panicking rest) (.panicking (e::older))
 |m=>m
def CR(u:FrameMode)(chain:ae PanicEntry):FrameMode:=
 match u with
 | .panicking old=>.panicking (chain++old)
 |_=>.panicking chain
def ko(pm:FrameMode):ah×FrameMode:=
 match pm with
 | .panicking (e::older)=>cond (e.recovered||e.goexit) (.nilIface,pm) (e.v,.panicking ({e with recovered:=true}::older))
 |_=>(.nilIface,pm)
def CS(P:Program)(t:aC)(v:ah)(name:String):ak (iI×ah):=
 match P.info? t with
 |none=>none
 |some info=>match info.methods.find? (·.name==name)with
  |none=>none
  |some m=>if m.path.size≠0 then none else match m.func with
   |some (f,ptr)=>match P.underlying t,ptr with
    |some (.pointer _),true=>some (f,v)
    |some (.pointer _),false=>none
    |some _,false=>some (f,v)
    |_,_=>none
   |none=>none
def target(P:Program)(q:bA):ak (iI×ae ah):=
 match q.fn with
 | .func f=>some (f,lC q.args q.captured)
 | .method name=>match q.args with
   | .iface t v::args=>match CS P t v name with
     |some (f,r)=>some (f,r::args)
     |none=>none
   |_=>none
 | .methodOf t name=>match q.args with
   |x::args=>match P.underlying t with
    |some (.interface _)=>match x with
     | .iface t v=>match CS P t v name with
       |some (f,r)=>some (f,r::args)
       |none=>none
     |_=>none
    |some _=>match CS P t x name with
     |some (f,r)=>some (f,r::args)
     |none=>none
    |none=>none
   |[]=>none
 |_=>none
def yx(c:aH)(ρ:ay->ah):ak bA:=
 match c with
 | .call f args=>match ρ f with
   | .func fn ⟨first⟩ ⟨captured⟩=>some ⟨fn,lC first (lS ρ args),captured,none⟩
   |_=>none
 | .invoke x name args=>some ⟨.method name,ρ x::lS ρ args,[],none⟩
 |_=>none
def forget(ds:ae Tmp)(a:bi):bi:=
 List.rec (motive:=λ_=>bi->bi) (λa=>a) (λd _ ih a=>ih (a.set d dR)) ds a
def Bf(it:ah)(h:IH):ak (ae (ah×IH)):=
 match it with
 | .pointer (some ⟨r,0,none⟩)=>match h.get r with
   |some (.mapIter none _ _ _)=>some [(.tuple #[.bool false],h)]
   |some (.mapIter (some m) since seen last)=>match h.get m with
    |some (.map es clock)=>
     cond (!seen.isEmpty&&!es.isEmpty&&es.all (λe=>Nat.ble last e.born)) none
      (let left:=es.filter λe=>!seen.contains e.born
      let old:=left.filter λe=>Nat.blt e.born since
      let new:=left.filter λe=>Nat.ble since e.born
      some ((if old.isEmpty then[(.tuple #[.bool false],h)]else[])++
       (old++new).map λe=>(.tuple #[.bool true,e.key,e.val],h.set r (.mapIter (some m) since (seen++[e.born]) clock))))
    |_=>none
   |_=>none
 |_=>none
def inBlock(id:Nat)(o:Out):Out:=
 match o with
 | .exit j=>cond (Nat.beq j id) .normal (.exit j)
 |o=>o
def vP(o:Out):ak FrameMode:=
 match o with
 | .normal| .ret=>some .returning
 | .panic ch=>some (.panicking ch)
 | .exit _=>none
def vQ(n:Nat)(ps:ae Tmp)(args:ae ah)(t:T ah):T ah:=
 List.rec (motive:=λ_=>ae ah->T ah->T ah) (λ_ t=>t)
  (λp _ ih args t=>match args with
    |v::args=>ih args (cond (Nat.blt p n) (t.set p (some v)) t)
    |[]=>t) ps args t
mutual
def oP(m:Nat):ah->Bool
 | .pointer (some a)=>Nat.blt a.block m
 | .slice (some a) _ _=>Nat.blt a.block m
 | .map (some i)=>Nat.blt i m
 | .func fn ⟨f⟩ ⟨c⟩=>(match fn with
   | .yield _=>false
   |_=>true)&&sS m f&&sS m c
 | .iface _ v=>oP m v
 | .agg ⟨l⟩=>sS m l
 | .tuple ⟨l⟩=>sS m l
 |_=>true
def sS(m:Nat):ae ah->Bool
 |[]=>true
 |v::l=>oP m v&&sS m l
end
def EN(m:Nat):bO->Bool
 | .cells cs=>sS m cs
 | .map es _=>es.all λe=>oP m e.val
 |_=>false
abbrev KO:=Out->bi->IH->Prop
abbrev KR:=ji->ak FrameMode->IH->Prop
end
end Go.Ideal
namespace Go.Ideal
noncomputable section
def CU{α:Type}(f:Nat):ae α->T α:=
 Nat.rec (motive:=λ_=>ae α->T α) (λ_=>.leaf)
  (λ_ ih l=>List.rec (motive:=λ_=>T α) .leaf (λx l _=>.node (some x)
    (ih (List.rec (motive:=λ_=>Bool->ae α) (λ_=>[]) (λy _ r b=>Bool.rec (motive:=λ_=>ae α) (r true) (y::r false) b) l true))
    (ih (List.rec (motive:=λ_=>Bool->ae α) (λ_=>[]) (λy _ r b=>Bool.rec (motive:=λ_=>ae α) (r true) (y::r false) b) l false))) l) f
def nK(f:Nat):ah->ah->Bool:=
 Nat.rec (motive:=λ_=>ah->ah->Bool) (λ_ _=>false)
  (λ_ ih v u=>match v,u with
    | .bool a,.bool b=>a==b
    | .int .i64 a,.int .i64 b=>CP a b
    | .int j a,.int k b=>j==k&&a==b
    | .string a,.string b=>a.data.toList==b.data.toList
    | .pointer none,.pointer none=>true
    | .pointer (some ⟨i,o,none⟩),.pointer (some ⟨j,p,none⟩)=>Nat.beq i j&&Nat.beq o p
    | .slice none n c,.slice none m d=>Nat.beq n m&&Nat.beq c d
    | .slice (some ⟨i,o,some f⟩) n c,.slice (some ⟨j,p,some g⟩) m d=>Nat.beq i j&&Nat.beq o p&&Nat.beq f g&&Nat.beq n m&&Nat.beq c d
    | .map none,.map none=>true
    | .map (some i),.map (some j)=>Nat.beq i j
    | .nilIface,.nilIface=>true
    | .nilFunc,.nilFunc=>true
    | .iface t v,.iface s u=>Nat.beq t s&&ih v u
    | .agg ⟨a⟩,.agg ⟨b⟩=>List.rec (motive:=λ_=>ae ah->Bool) (λb=>match b with|[]=>true|_=>false) (λx _ r b=>match b with|y::b=>cond (ih x y) (r b) false|[]=>false) a b
    | .tuple ⟨a⟩,.tuple ⟨b⟩=>List.rec (motive:=λ_=>ae ah->Bool) (λb=>match b with|[]=>true|_=>false) (λx _ r b=>match b with|y::b=>cond (ih x y) (r b) false|[]=>false) a b
    | .func f ⟨a⟩ ⟨c⟩,.func g ⟨b⟩ ⟨d⟩=>f==g&&
       List.rec (motive:=λ_=>ae ah->Bool) (λb=>match b with|[]=>true|_=>false) (λx _ r b=>match b with|y::b=>cond (ih x y) (r b) false|[]=>false) a b&&
       List.rec (motive:=λ_=>ae ah->Bool) (λb=>match b with|[]=>true|_=>false) (λx _ r b=>match b with|y::b=>cond (ih x y) (r b) false|[]=>false) c d
    |_,_=>false) f
abbrev BO:=Out->bi->IH->Bool
abbrev BR:=ji->ak FrameMode->IH->Bool
structure Ev where
 code:dA->bi->IH->BO->Bool
 call:bA->IH->BR->Bool
structure Env where
 P:Program
 F:Nat->Option iF
 cut:Nat->Option (bA->IH->Option (List Value×Nat×Nat))
 /-- calls that are known: what they return, and the heap behind them -/
 memo:Nat->Option (bA->IH->Option (Value×IH))
def EO(P:Program)(re:ae iU)(a:bi)(h:IH):Bool:=
 List.rec (motive:=λ_=>Bool) true (λr _ ih=>cond (match a.wants r.guard with
  |some false=>true
  |_=>match r.op.run P a.eval h with
   |some (u,_)=>match r.dst with
    |some d=>nK 50 (dJ a.tmps d) u
    |none=>true
   |none=>false) ih false) re
def MO(P:Program)(s:bY)(a:bi)(h:IH)(next:bi->IH->Bool):Bool:=
 match s.s.op.run P a.eval h with
 |some (v,h)=>match s.re with
  |[]=>next (a.put s.s.dst v) h
  |re=>cond (EO P re (a.put s.s.dst v) h) (next (a.put s.s.dst v) h) false
 |none=>false
def Im(P:Program)(E:Ev)(ds:ae Tmp)(s:bY)(a:bi)(h:IH)(next:bi->IH->Bool)(k:BO):Bool:=
 match yx s.s.op a.eval with
 |some q=>E.call q h λr _ h=>match r with
  | .ok v=>cond (EO P s.re (a.put s.s.dst v) h) (next (a.put s.s.dst v) h) false
  | .fU ch=>k (.panic ch) (forget ds a) h
 |none=>false
def EP(s:bY)(b:Bool):Bool:=match s.re with
 |[]=>b
 |_=>false
def Io(P:Program)(E:Ev)(ds:ae Tmp)(s:bY)(a:bi)(h:IH)(next:bi->IH->Bool)(k:BO):Bool:=
 match s.s.op with
 | .call _ _=>Im P E ds s a h next k
 | .invoke _ _ _=>Im P E ds s a h next k
 | .recover=>EP s (match a.ro with
   |some _=>false
   |none=>match a.pm with
    |none=>next (a.put s.s.dst .nilIface) h
    |some m=>next ({a with pm:=some (ko m).2}.put s.s.dst (ko m).1) h)
 | .panic x=>match a.eval x with
   | .iface t v=>k (.panic [{v:=.iface t v,recovered:=false}]) (forget ds a) h
   |_=>false
 | .dcall f args=>EP s (match a.ro with
   |some _=>false
   |none=>match a.eval f with
    | .func fn ⟨first⟩ ⟨captured⟩=>next ({a with defers:={target:=.fn fn ⟨captured⟩,args:=⟨lC first (lS a.eval args)⟩}::a.defers}.put s.s.dst dR) h
    |_=>false)
 | .yf x=>EP s (match Bf (a.eval x) h with
   |some alts=>zB (λvh=>next (a.put s.s.dst vh.1) vh.2) alts
   |none=>false)
 |_=>MO P s a h next
def EQ(P:Program)(E:Ev)(ds:ae Tmp)(l:ae bY):bi->IH->BO->Bool:=
 List.rec (motive:=λ_=>bi->IH->BO->Bool) (λa h k=>k .normal a h)
  (λs _ ih a h k=>match a.wants s.s.guard with
    |some true=>Io P E ds s a h (λa h=>ih a h k) k
    |some false=>ih (a.put s.s.dst uA) h k
    |none=>false) l
def Bg(E:Ev)(cf:iF)(ts:T ah)(ds:ae Deferred):FrameMode->IH->(ji->IH->Bool)->Bool:=
 List.rec (motive:=λ_=>FrameMode->IH->(ji->IH->Bool)->Bool)
  (λm h k=>match m with
    | .returning=>match rF cf.results ts h with
      |some v=>k (.ok v) h
      |none=>false
    | .panicking ch=>k (.fU ch) h
    | .run=>false)
  (λd _ ih m h k=>match m with
    | .run=>false
    |m=>match d with
     |{target:=.collected r,.. }=>match h.get r with
      |some (.jE true)=>ih m (h.set r (.jE false)) k
      |_=>false
     |{target:=.fn fn ⟨captured⟩,args:=⟨args⟩}=>E.call ⟨fn,args,captured,some m⟩ h λr pm h=>match pm with
      |none=>false
      |some m'=>match r with
       | .ok _=>ih (zG m') h k
       | .fU ch=>ih (CR m' ch) h k
     |_=>false) ds
def Bh(V:Env)(E:Ev)(f:iI)(args:ae ah)(pm:ak FrameMode)(h:IH)(k:BR):Bool:=
 match V.F f with
 |none=>false
 |some cf=>E.code cf.body (Be cf.ntmps args pm) h λo a h=>match vP o with
  |none=>false
  |some m=>Bg E cf a.tmps a.defers m h λr h=>k r a.pm h
def Sb(l:Nat)(o:Out)(a:bi)(h:IH)(k:BR):Bool:=
 match a.defers with
 |[]=>match h.get l with
  |some (.loop r)=>match o with
   | .normal=>k (.ok (.bool true)) none (h.set l (.loop {r with state:=.ready,pending:=none}))
   | .panic ch=>k (.fU ch) none h
   | .exit id=>k (.ok (.bool false)) none (h.set l (.loop {r with state:=.done,pending:=some (.exit id)}))
   | .ret=>k (.ok (.bool false)) none (h.set l (.loop {r with state:=.done,pending:=some .ret}))
  |_=>false
 |_=>false
def MP(E:Ev)(l:Nat)(args:ae ah)(h:IH)(k:BR):Bool:=
 match h.get l with
 |some (.loop r)=>cond (Nat.beq (je args) (je r.params))
  (E.code r.assign {n:=r.n,tmps:=vQ r.n r.params args r.tmps,defers:=[],pm:=none,ro:=some l} h λo a h=>match o with
    | .normal=>match h.get l with
      |some (.loop r1)=>match r1.state with
       | .ready=>E.code r.body a (h.set l (.loop {r1 with state:=.busy})) λo a h=>Sb l o a h k
       |_=>false
      |_=>false
    |_=>false) false
 |_=>false
def Sc(cs:ae ah)(n f:Nat)(h0:IH)(r:ji)(pm:ak FrameMode)(h:IH):Bool:=
 match pm with
 |some _=>false
 |none=>match r with
  | .ok (.slice (some ⟨i,o,some f'⟩) n' c)=>cond (Nat.beq n n'&&Nat.beq f f'&&(!Nat.beq f 0||Nat.beq c n)&&Nat.ble h0.next i&&Nat.beq h.low h0.next) (match h.oO i o (je cs)with
    |some l=>List.rec (motive:=λ_=>ae ah->Bool) (λb=>match b with|[]=>true|_=>false) (λx _ r b=>match b with|y::b=>cond (nK 5 x y) (r b) false|[]=>false) l cs
    |none=>false) false
  |_=>false
def MQ(V:Env)(f:Nat)(q:bA)(h:IH)(k:BR)(other:Bool):Bool:=
 match V.memo f with
 |none=>other
 |some g=>match q.pm with
  |some _=>other
  |none=>match g q h with
   |some (v,h')=>k (.ok v) none h'
   |none=>other
def MS(V:Env)(E:Ev)(q:bA)(h:IH)(k:BR):Bool:=
 match q.fn with
 | .yield l=>match q.pm with
   |none=>MP E l q.args h k
   |some _=>false
 |_=>match target V.P q with
  |none=>false
  |some (f',args)=>MQ V f' q h k (match V.cut f' with
   |none=>Bh V E f' args q.pm h k
   |some g=>match q.pm with
    |some _=>false
    |none=>match g q h with
     |none=>Bh V E f' args q.pm h k
     |some ([],_,_)=>Bh V E f' args q.pm h k
     |some (cs,n,f)=>cond (gu cs&&(Nat.beq f 0||Nat.beq (je cs) (Nat.mul n f)))
       (cond (Bh V E f' args none {h with low:=h.next} (Sc cs n f h))
         (k (.ok (.slice (some ⟨h.next,0,some f⟩) n n)) none (h.new (.cells cs))) false) false)
def Ip(V:Env)(E:Ev)(c:dA)(a:bi)(h:IH)(k:BO):Bool:=
 match c with
 | .skip=>k .normal a h
 | .ops ds l=>EQ V.P E ds l a h k
 | .seq x y=>E.code x a h λo a h=>match o with
   | .normal=>E.code y a h k
   |o=>k o a h
 | .cond c x y=>match a.eval c with
   | .bool true=>E.code x a h k
   | .bool false=>E.code y a h k
   |_=>false
 | .block id c=>E.code c a h λo a h=>k (inBlock id o) a h
 | .loop c=>E.code c a h λo a h=>match o with
   | .normal=>E.code (.loop c) a h k
   |o=>k o a h
 | .scope c=>E.code c a h k
 | .exit id=>k (.exit id) a h
 | .ret=>k .ret a h
 | .rangeFunc f ps assign body=>match a.eval f with
   | .func fn ⟨first⟩ ⟨captured⟩=>
     let go (a1:bi) (r:Nat) (h1:IH):Bool:=
      E.call ⟨fn,lC first [.func (.yield h1.next) #[] #[]],captured,none⟩
       (h1.new (.loop {state:=.ready,pending:=none,tmps:=a.tmps,n:=a.n,params:=ps,assign,body,defers:=r})) λres _ h2=>match res with
       | .ok _=>match h2.get h1.next with
         |some (.loop lp)=>match lp.state with
          | .busy=>false
          |_=>k (lp.pending.getD .normal) a1 (h2.set h1.next (.loop {lp with state:=.exhausted}))
         |_=>false
       | .fU ch=>k (.panic ch) a1 h2
     match a.ro with
     |none=>go {a with defers:={target:=.collected h.next,args:= #[]}::a.defers} h.next (h.new (.jE true))
     |some l0=>match h.get l0 with
      |some (.loop r0)=>go a r0.defers h
      |_=>false
   |_=>false
 | .fail=>false
def nL(V:Env)(n:Nat):Ev:=
 Nat.rec (motive:=λ_=>Ev) ⟨λ_ _ _ _=>false,λ_ _ _=>false⟩ (λ_ E=>⟨Ip V E,MS V E⟩) n
def mg(P:Program)(cut:Nat->ak (bA->IH->ak (ae ah×Nat×Nat)))(memo:Nat->ak (bA->IH->ak (ah×IH))):Env:=
 {P,F:=λf=>match (CU 100000 P.funcs.toList).get f with
   |some fn=>vO P fn
   |none=>none,cut,memo}
def rG:Nat->ak (bA->IH->ak (ae ah×Nat×Nat)):=λ_=>none
def rH:Nat->ak (bA->IH->ak (ah×IH)):=λ_=>none
noncomputable abbrev lD(P:Program)(n:iI):ak iF:=(mg P rG rH).F n
noncomputable def oQ(P:Program)(n:iI):iF:=(lD P n).getD ⟨0,[],.skip⟩
def vR{P:Program}(n:iI)(h:(lD P n).isSome=true:=by kernel_rfl):(mg P rG rH).F n=some (oQ P n):=by
 unfold oQ;revert h;show(lD P n).isSome=true->lD P n=some ((lD P n).getD ⟨0,[],.skip⟩);cases lD P n with
 |none=>intro h;cases h
 |some c=>intro _;rfl
end
end Go.Ideal
namespace Go.Ideal
section
variable {α:Type}
def T.ER(n:Nat):(T.leaf:T α).get n=none:=rfl
def T.CV(v:ak α)(l r:T α):(T.node v l r).get 0=v:=rfl
def T.xm(v:ak α)(l r:T α)(m:Nat):(T.node v l r).get (m+1)=if m%2=0 then l.get (m/2)else r.get (m/2):=by
 show Bool.rec (motive:=λ_=>ak α) (r.get (m/2)) (l.get (m/2)) (Nat.beq (m%2) 0)=_;exact kx
def T.aaZ(f:Nat)(x:ak α):T.one (f+1) 0 x=.node x .leaf .leaf:=rfl
def T.aa0(f m:Nat)(x:ak α):T.one (f+1) (m+1) x=if m%2=0 then .node none (T.one f (m/2) x) .leaf else .node none .leaf (T.one f (m/2) x):=by
 show Bool.rec (motive:=λ_=>T α) (.node none .leaf (T.one f (m/2) x)) (.node none (T.one f (m/2) x) .leaf) (Nat.beq (m%2) 0)=_;exact kx
def T.aa1(n:Nat)(x:ak α):(T.leaf:T α).set n x=T.one (n+1) n x:=rfl
def T.aa2(v:ak α)(l r:T α)(x:ak α):(T.node v l r).set 0 x=.node x l r:=rfl
def T.aa3(v:ak α)(l r:T α)(m:Nat)(x:ak α):(T.node v l r).set (m+1) x=if m%2=0 then .node v (l.set (m/2) x) r else .node v l (r.set (m/2) x):=by
 show Bool.rec (motive:=λ_=>T α) (.node v l (r.set (m/2) x)) (.node v (l.set (m/2) x) r) (Nat.beq (m%2) 0)=_;exact kx
def T.aa4(x:ak α):∀(f n m:Nat),n<f->(T.one f n x).get m=if m=n then x else none:=by
 intro f;induction f with
 |zero=>intro n m h;omega
 |succ f ih=>
  intro n m h;cases n with
  |zero=>
   rw[T.aaZ];cases m with
   |zero=>simp[T.CV]
   |succ m=>rw[T.xm];simp[T.ER]
  |succ n=>
   rw[T.aa0];by_cases hp:n%2=0
   .rw[if_pos hp];cases m with
    |zero=>simp[T.CV]
    |succ m=>
     rw[T.xm];by_cases hq:m%2=0
     .rw[if_pos hq,ih _ _ tr];exact eR
     .rw[if_neg hq,T.ER,if_neg tr]
   .rw[if_neg hp];cases m with
    |zero=>simp[T.CV]
    |succ m=>
     rw[T.xm];by_cases hq:m%2=0
     .rw[if_pos hq,T.ER,if_neg tr]
     .rw[if_neg hq,ih _ _ tr];exact eR
def T.nM(x:ak α):∀(t:T α) (n m:Nat),(t.set n x).get m=if m=n then x else t.get m:=by
 intro t;induction t with
 |leaf=>intro n m;rw[T.aa1,T.aa4 _ _ _ _ (xW n),T.ER]
 |node v l r hl hr=>
  intro n m;cases n with
  |zero=>
   rw[T.aa2];cases m with
   |zero=>simp[T.CV]
   |succ m=>rw[T.xm,T.xm];simp
  |succ n=>
   rw[T.aa3];by_cases hp:n%2=0
   .rw[if_pos hp];cases m with
    |zero=>simp[T.CV]
    |succ m=>
     rw[T.xm,T.xm];by_cases hq:m%2=0
     .rw[if_pos hq,if_pos hq,hl];exact eR
     .rw[if_neg hq,if_neg hq,if_neg tr]
   .rw[if_neg hp];cases m with
    |zero=>simp[T.CV]
    |succ m=>
     rw[T.xm,T.xm];by_cases hq:m%2=0
     .rw[if_pos hq,if_pos hq,if_neg tr]
     .rw[if_neg hq,if_neg hq,hr];exact eR
end
def IH.nM(h:IH)(i j:Nat)(o:bO):(h.set i o).get j=if j=i then some o else h.get j:=T.nM _ _ _ _
def IH.vT(h:IH)(i j:Nat):(h.kill i).get j=if j=i then none else h.get j:=T.nM _ _ _ _
def IH.jF(h:IH)(j:Nat)(o:bO):(h.new o).get j=if j=h.next then some o else h.get j:=T.nM _ _ _ _
def IH.MU(h:IH)(o:bO):(h.new o).next=h.next+1:=rfl
def IH.MV(h:IH)(o:bO):(h.new o).low=h.low:=rfl
def IH.Iq(h:IH)(i:Nat)(o:bO):(h.set i o).low=min h.low i:=by
 exact gf
def IH.Bi(h:IH)(i:Nat):(h.kill i).low=min h.low i:=by
 exact gf
def CW(t:T ah)(i j:Nat)(v:ah):dJ (t.set i (some v)) j=if j=i then v else dJ t j:=by
 unfold dJ;rw[T.nM];split<;>rfl
section
variable {α β:Type}
def vU(f:α->β)(l:ae α):lS f l=l.map f:=by
 induction l with
 |nil=>rfl
 |cons x l ih=>show f x::lS f l=_;rw[ih];rfl
def rJ(l:ae α)(n:Nat):kE l n=l[n]?:=by
 induction l generalizing n with
 |nil=>rfl
 |cons x l ih=>cases n with
  |zero=>rfl
  |succ n=>show kE l n=_;rw[ih];simp
def qw(l:ae α)(n:Nat):kF l n=l.drop n:=by
 induction l generalizing n with
 |nil=>cases n<;>rfl
 |cons x l ih=>cases n with
  |zero=>rfl
  |succ n=>show kF l n=_;rw[ih];simp
def yz(l:ae α):je l=l.length:=by
 induction l with
 |nil=>rfl
 |cons x l ih=>show je l+1=_;rw[ih];rfl
def jQ(l r:ae α):lC l r=l++r:=by
 induction l with
 |nil=>rfl
 |cons x l ih=>show x::lC l r=_;rw[ih];rfl
def qD(l:ae α)(n:Nat):jN l n=if n<=l.length then some (l.take n)else none:=by
 induction l generalizing n with
 |nil=>cases n<;>rfl
 |cons x l ih=>cases n with
  |zero=>rfl
  |succ n=>
   show Option.rec (motive:=λ_=>ak (ae α)) none (λr=>some (x::r)) (jN l n)=_;rw[ih];by_cases h:n<=l.length
   .rw[if_pos h,if_pos tE];rfl
   .rw[if_neg h,if_neg tE]
def CY(p:α->Bool)(l:ae α):zB p l=l.all p:=by
 induction l with
 |nil=>rfl
 |cons x l ih=>
  show Bool.rec (motive:=λ_=>Bool) false (zB p l) (p x)=_;rw[ih];cases h:p x<;>simp[h]
def Sd(o:Nat)(xs:ae α):kG [] o xs=if xs=[]/\o=0 then some []else none:=by cases xs<;>cases o<;>rfl
def Sg(c:α)(l:ae α):kG (c::l) 0 []=some (c::l):=rfl
def MW(c:α)(l:ae α)(x:α)(xs:ae α):kG (c::l) 0 (x::xs)=(kG l 0 xs).map (x::·):=by
 show Option.rec (motive:=λ_=>ak (ae α)) none (λr=>some (x::r)) (kG l 0 xs)=_;cases kG l 0 xs<;>rfl
def MX(c:α)(l:ae α)(o:Nat)(xs:ae α):kG (c::l) (o+1) xs=(kG l o xs).map (c::·):=by
 show Option.rec (motive:=λ_=>ak (ae α)) none (λr=>some (c::r)) (kG l o xs)=_;cases kG l o xs<;>rfl
def Ir{l:ae α}:∀{o:Nat} {xs r:ae α},kG l o xs=some r->
 o+xs.length<=l.length/\r.length=l.length/\∀j:Nat,r[j]? =if o<=j/\j<o+xs.length then xs[j - o]? else l[j]?:=by
 induction l with
 |nil=>
  intro o xs r h;rw[Sd]at h;split at h
  .rename_i he;obtain⟨rfl,rfl⟩:=he;cases h;refine⟨tt,rfl,λj=>?_⟩;rw[if_neg tt]
  .cases h
 |cons c l ih=>
  intro o xs r h;cases o with
  |zero=>
   cases xs with
   |nil=>rw[Sg]at h;cases h;refine⟨tt,rfl,λj=>?_⟩;rw[if_neg tt]
   |cons x xs=>
    rw[MW]at h;cases hr:kG l 0 xs with
    |none=>rw[hr]at h;cases h
    |some r'=>
     rw[hr]at h;cases h;obtain⟨h1,h2,h3⟩:=ih hr;refine⟨by simp at h1⊢;omega,by simp[h2],λj=>?_⟩
     .cases j with
      |zero=>simp
      |succ j=>have:=h3 j;simp at this⊢;rw[this]
  |succ o=>
   rw[MX]at h;cases hr:kG l o xs with
   |none=>rw[hr]at h;cases h
   |some r'=>
    rw[hr]at h;cases h;obtain⟨h1,h2,h3⟩:=ih hr;refine⟨by simp;omega,by simp[h2],λj=>?_⟩
    .cases j with
     |zero=>simp
     |succ j=>
      have:=h3 j;simp only[sI];rw[this];by_cases hc:o<=j/\j<o+xs.length
      .rw[if_pos hc,if_pos tr];congr 1;omega
      .rw[if_neg hc,if_neg tr]
def Si(f:α->α)(l:ae α)(n:Nat):setAt f l n=l.modify n f:=by
 induction l generalizing n with
 |nil=>cases n<;>rfl
 |cons x l ih=>cases n with
  |zero=>rfl
  |succ n=>show x::setAt f l n=_;rw[ih];simp
end
def zeros_length(z:ae ah)(n:Nat):(zeros z n).length=n*z.length:=by
 induction n with
 |zero=>simp;rfl
 |succ n ih=>show(lC z (zeros z n)).length=_;rw[jQ,ik,ih,Nat.succ_mul,Nat.add_comm]
structure jf where
 b:Nat
 off:Nat
 len:Nat
 top:Nat
 sz:Nat
abbrev aI:=Nat->ak jf
inductive FR(β:aI):Fn->Fn->Prop
 |func (f:FuncId):FR β (.func f) (.func f)
 |method (n:String):FR β (.method n) (.method n)
 |methodOf (t:TypeId) (n:String):FR β (.methodOf t n) (.methodOf t n)
 |yield {l:Nat} {g:jf} (h:β l=some g):FR β (.yield l) (.yield g.b)
mutual
inductive VR(β:aI):Value->Value->Prop
 |dR (v:Value):VR β (.tuple #[]) v
 |skip:VR β (.chan (some 0)) (.tuple #[])
 |bool (b:Bool):VR β (.bool b) (.bool b)
 |int (k:IntKind) (n:Int):VR β (.int k n) (.int k n)
 |float (k:FloatKind) (n:Nat):VR β (.float k n) (.float k n)
 |complex (k:FloatKind) (n m:Nat):VR β (.complex k n m) (.complex k n m)
 |string (s:ByteArray):VR β (.string s) (.string s)
 |nilFunc:VR β .nilFunc .nilFunc
 |nilIface:VR β .nilIface .nilIface
 |zH:VR β (.pointer none) (.pointer none)
 |ptr {i o:Nat} {g:jf} (h:β i=some g):VR β (.pointer (some ⟨i,o,none⟩)) (.pointer (some ⟨g.b,g.off+o,none⟩))
 |sl0 (n c:Nat):VR β (.slice none n c) (.slice none n c)
 |aA {i o n c:Nat} {g:jf} {a:Addr} (h:β i=some g) (hb:a.block=g.b) (hn:n<=c) (ha:c=0\/(a.off=g.off+o/\a.spot=none)):
   VR β (.slice (some ⟨i,o,some 0⟩) n c) (.slice (some a) n c)
 |pQ {i o n c c':Nat} {g:jf} {a:Addr} (h:β i=some g) (hb:a.block=g.b) (hs:a.spot=none) (hn:n<=c) (hz:0<g.sz)
   (hl:o+c*g.sz=g.len) (ht:g.off+o+c'*g.sz=g.top) (hc:c<=c') (ha:c'=0\/a.off=g.off+o):
   VR β (.slice (some ⟨i,o,some g.sz⟩) n c) (.slice (some a) n c')
 |yA:VR β (.map none) (.map none)
 |map {i:Nat} {g:jf} (h:β i=some g):VR β (.map (some i)) (.map (some g.b))
 |func {fn fn':Fn} {f f' c c':List Value} (h:FR β fn fn') (hf:aZ β f f') (hc:aZ β c c'):VR β (.func fn ⟨f⟩ ⟨c⟩) (.func fn' ⟨f'⟩ ⟨c'⟩)
 |iface (t:TypeId) {v v':Value} (h:VR β v v'):VR β (.iface t v) (.iface t v')
 |agg {l l':List Value} (hc:l.all cellV=true) (h:aZ β l l'):VR β (.agg ⟨l⟩) (.agg ⟨l'⟩)
 |tuple {l l':List Value} (h:aZ β l l'):VR β (.tuple ⟨l⟩) (.tuple ⟨l'⟩)
inductive aZ(β:aI):List Value->List Value->Prop
 |nil:aZ β [] []
 |cons {v v':Value} {l l':List Value} (h:VR β v v') (hl:aZ β l l'):aZ β (v::l) (v'::l')
end
def aI.le(β β':aI):Prop:=∀i g,β i=some g->β' i=some g
def FR.mono{β β':aI}(h:β.le β'){f f':Fn}(hf:FR β f f'):FR β' f f':=by
 cases hf with
 |func f=>exact .func f
 |method n=>exact .method n
 |methodOf t n=>exact .methodOf t n
 |yield hl=>exact .yield (h _ _ hl)
mutual
def VR.mono{β β':aI}(h:β.le β'):∀{v v':ah},VR β v v'->VR β' v v'
 |_,_,.dR v=>.dR v
 |_,_,.skip=>.skip
 |_,_,.bool b=>.bool b
 |_,_,.int k n=>.int k n
 |_,_,.float k n=>.float k n
 |_,_,.complex k n m=>.complex k n m
 |_,_,.string s=>.string s
 |_,_,.nilFunc=>.nilFunc
 |_,_,.nilIface=>.nilIface
 |_,_,.zH=>.zH
 |_,_,.ptr hi=>.ptr (h _ _ hi)
 |_,_,.sl0 n c=>.sl0 n c
 |_,_,.aA hi hb hn ha=>.aA (h _ _ hi) hb hn ha
 |_,_,.pQ hi hb hs hn hz hl ht hc ha=>.pQ (h _ _ hi) hb hs hn hz hl ht hc ha
 |_,_,.yA=>.yA
 |_,_,.map hi=>.map (h _ _ hi)
 |_,_,.func hf h1 h2=>.func (hf.mono h) (aZ.mono h h1) (aZ.mono h h2)
 |_,_,.iface t hv=>.iface t (VR.mono h hv)
 |_,_,.agg hc hl=>.agg hc (aZ.mono h hl)
 |_,_,.tuple hl=>.tuple (aZ.mono h hl)
def aZ.mono{β β':aI}(h:β.le β'):∀{v v':ae ah},aZ β v v'->aZ β' v v'
 |_,_,.nil=>.nil
 |_,_,.cons hv hl=>.cons (VR.mono h hv) (aZ.mono h hl)
end
def aZ.length{β:aI}{l l':ae ah}(h:aZ β l l'):l'.length=l.length:=by
 induction l generalizing l' with
 |nil=>cases h;rfl
 |cons v l ih=>cases h with|cons hv hl=>simp[ih hl]
def aZ.get{β:aI}{l l':ae ah}(h:aZ β l l'){i:Nat}{v:ah}(hi:l[i]? =some v):∃v',l'[i]? =some v'/\VR β v v':=by
 induction l generalizing l' i with
 |nil=>simp at hi
 |cons x l ih=>
  cases h with
  |cons hv hl=>
   cases i with
   |zero=>simp at hi;subst hi;exact⟨_,tt,hv⟩
   |succ i=>simp at hi;obtain⟨v',h1,h2⟩:=ih hl hi;exact⟨v',by simpa using h1,h2⟩
def aZ.aa5{β:aI}{l l':ae ah}(hlen:l'.length=l.length)(h:∀(i:Nat) (v:ah),l[i]? =some v->∃v',l'[i]? =some v'/\VR β v v'):aZ β l l':=by
 induction l generalizing l' with
 |nil=>cases l' with|nil=>exact .nil|cons x l'=>simp at hlen
 |cons x l ih=>
  cases l' with
  |nil=>simp at hlen
  |cons y l'=>
   refine .cons ?_ (ih (by simpa using hlen) λi v hi=>?_)
   .obtain⟨v',h1,h2⟩:=h 0 x tt;simp at h1;subst h1;exact h2
   .obtain⟨v',h1,h2⟩:=h (i+1) v (by simpa using hi);exact⟨v',by simpa using h1,h2⟩
def aZ.append{β:aI}{l l' r r':ae ah}(h:aZ β l l')(k:aZ β r r'):aZ β (l++r) (l'++r'):=by
 induction l generalizing l' with
 |nil=>cases h;exact k
 |cons x l ih=>cases h with|cons hv hl=>exact .cons hv (ih hl)
def aZ.take{β:aI}{l l':ae ah}(h:aZ β l l')(n:Nat):aZ β (l.take n) (l'.take n):=by
 induction l generalizing l' n with
 |nil=>cases h;simp;exact .nil
 |cons x l ih=>cases h with|cons hv hl=>cases n with
  |zero=>exact .nil
  |succ n=>exact .cons hv (ih hl n)
def aZ.drop{β:aI}{l l':ae ah}(h:aZ β l l')(n:Nat):aZ β (l.drop n) (l'.drop n):=by
 induction l generalizing l' n with
 |nil=>cases h;simp;exact .nil
 |cons x l ih=>cases h with|cons hv hl=>cases n with
  |zero=>exact .cons hv hl
  |succ n=>exact ih hl n
def aZ.map{β:aI}{γ:Type}{f f':γ->ah}(l:ae γ)(h:∀x∈l,VR β (f x) (f' x)):aZ β (l.map f) (l.map f'):=by
 exact lR
mutual
def VR.free{β:aI}:∀{v:ah},cz v=true->VR β v v
 | .bool b,_=>.bool b
 | .int k n,_=>.int k n
 | .float k n,_=>.float k n
 | .complex k n m,_=>.complex k n m
 | .string s,_=>.string s
 | .nilFunc,_=>.nilFunc
 | .nilIface,_=>.nilIface
 | .pointer none,_=>.zH
 | .pointer (some a),h=>by simp[cz]at h
 | .slice none n c,_=>.sl0 n c
 | .slice (some a) n c,h=>by simp[cz]at h
 | .map none,_=>.yA
 | .map (some r),h=>by simp[cz]at h
 | .chan r,h=>by simp[cz]at h
 | .func _ _ _,h=>by simp[cz]at h
 | .iface t v,h=>.iface t (VR.free (by simp[cz]at h;exact h.1))
 | .agg ⟨l⟩,h=>.agg (vV AG) (aZ.free AG)
 | .tuple _,h=>by simp[cz]at h
def aZ.free{β:aI}:∀{l:ae ah},gu l=true->aZ β l l
 |[],_=>.nil
 |v::l,h=>.cons (VR.free (by simp[gu]at h;exact h.1.1)) (aZ.free (by simp[gu]at h;exact h.2))
def vV:∀{l:ae ah},gu l=true->l.all cellV=true
 |[],_=>rfl
 |v::l,h=>by simp[gu]at h;simp only[CE,h.1.2,Mk];exact vV h.2
end
mutual
def VR.pR{β:aI}:∀{v v':ah},VR β v v'->cz v=true->v'=v
 |_,_,.bool b,_=>rfl
 |_,_,.int k n,_=>rfl
 |_,_,.float k n,_=>rfl
 |_,_,.complex k n m,_=>rfl
 |_,_,.string s,_=>rfl
 |_,_,.nilFunc,_=>rfl
 |_,_,.nilIface,_=>rfl
 |_,_,.zH,_=>rfl
 |_,_,.sl0 n c,_=>rfl
 |_,_,.yA,_=>rfl
 |_,_,.iface t hv,h=>by rw[VR.pR hv (by simp[cz]at h;exact h.1)]
 |_,_,.agg hc hl,h=>by rw[aZ.pR hl AG]
 |_,_,.dR v,h=>by simp[cz]at h
 |_,_,.skip,h=>by simp[cz]at h
 |_,_,.ptr _,h=>by simp[cz]at h
 |_,_,.aA _ _ _ _,h=>by simp[cz]at h
 |_,_,.pQ _ _ _ _ _ _ _ _ _,h=>by simp[cz]at h
 |_,_,.map _,h=>by simp[cz]at h
 |_,_,.func _ _ _,h=>by simp[cz]at h
 |_,_,.tuple _,h=>by simp[cz]at h
def aZ.pR{β:aI}:∀{l l':ae ah},aZ β l l'->gu l=true->l'=l
 |_,_,.nil,_=>rfl
 |_,_,.cons hv hl,h=>by
  simp[gu]at h;rw[VR.pR hv h.1.1,aZ.pR hl h.2]
end
def zI{α:Type}{P:Program}{s:Sem α}{x:α}(h:dZ P s=some x)(w:World):s.run P w=.ok x w:=by
 induction s with
 |pure a=>simp[dZ]at h;subst h;rfl
 |program k ih=>simp only[dZ]at h;simp only[Sem.run];exact ih _ h
 |mark m k ih=>simp only[dZ]at h;simp only[Sem.run];exact ih h
 |_=>simp[dZ]at h
def VR.cells{β:aI}{v v':ah}{cs:ae ah}(h:VR β v v')(hc:cellsOf v=some cs):cs.all cellV=true/\∃cs',v'.cells=⟨cs'⟩/\aZ β cs cs':=by
 cases h<;>simp only[cellsOf,aF,reduceCtorEq]at hc<;>try subst hc
 case agg hc' hl=>exact⟨hc',_,rfl,hl⟩
 all_goals exact⟨rfl,_,rfl,.cons (by constructor<;>assumption) .nil⟩
def VR.cellV{β:aI}{v v':ah}(h:VR β v v')(hc:cellV v=true):(∀cs,v'≠.agg cs)/\(∀cs,v'≠.tuple cs):=by
 cases h<;>simp_all [Ideal.cellV]
inductive gK(β:aI):List MapEntry->List MapEntry->Prop
 |nil:gK β [] []
 |cons {e e':MapEntry} {l l':List MapEntry} (hk:e'.key=e.key) (hf:cz e.key=true) (hb:e'.born=e.born) (hv:VR β e.val e'.val) (hl:gK β l l'):gK β (e::l) (e'::l')
def Sj:Out->ak Code
 | .normal=>none
 | .exit id=>some (.exit id)
 | .ret=>some .ret
 | .panic _=>none
structure LR(P:Program)(β:aI)(r:qo)(r':Loop):Prop where
 state:r'.state=r.state
 pending:r'.pending=r.pending.bind Sj
 ES:∀ch,r.pending≠some (.panic ch)
 size:r'.tmps.size=r.n
 tmps:∀i,VR β (dJ r.tmps i) (r'.tmps.getD i undef)
 out:∀i,r.n<=i->dJ r.tmps i=dR
 params:r'.params.toList=r.params
 assign:compile P r'.assign=r.assign
 body:compile P r'.body=r.body
 defers:∃g,β r.defers=some g/\r'.defers=g.b
 CZ:∃f,P.funcs[r'.fn]? =some f
def OR(P:Program)(β:aI)(g:jf)(w:World):bO->Prop
 | .cells cs=>(∃c t fz,w.heap[g.b]? =some (.cells c t fz))/\cs.length=g.len/\g.off+g.len<=g.top/\
    (∀j,j<g.top->(w.cell? ⟨g.b,j,none⟩).isSome=true/\w.frozen? ⟨g.b,j,none⟩=false)/\
    cs.all cellV=true/\∀(j:Nat) v,cs[j]? =some v->∃v',w.cell? ⟨g.b,g.off+j,none⟩=some v'/\VR β v v'
 | .jO cs=>(∃c t fz,w.heap[g.b]? =some (.cells c t fz)/\(g.top=0\/c.size=g.top))/\g.sz=0/\cs.all cellV=true/\∀(j:Nat) v,cs[j]? =some v->∃v',w.cell? ⟨g.b,g.off+j,none⟩=some v'/\VR β v v'
 | .map es clock=>∃es',w.heap[g.b]? =some (.map es' clock)/\gK β es es'.toList
 | .A9 s pos=>w.heap[g.b]? =some (.stringIter s pos)/\g.off=0
 | .mapIter m since seen stepped=>∃m' seen',w.heap[g.b]? =some (.mapIter m' since seen' stepped)/\seen'.toList=seen/\VR β (.map m) (.map m')/\g.off=0
 | .loop r=>∃r',w.heap[g.b]? =some (.loop r')/\LR P β r r'
 | .jE b=>w.heap[g.b]? =some (.deferred (if b then some []else none))
structure WR(P:Program)(β:aI)(h:IH)(w:World):Prop where
 dom:∀i g,β i=some g->i<h.next
 live:∀i o,h.get i=some o->i<h.next
 obj:∀i g o,β i=some g->h.get i=some o->OR P β g w o
 inj:∀i j g k,β i=some g->β j=some k->h.get i≠none->h.get j≠none->((∀cs,h.get i≠some (.jO cs))\/∀cs,h.get j≠some (.jO cs))->g.b=k.b->i=j
structure Eff(β:aI)(h:IH)(w:World)(β':aI)(h':IH)(w':World):Prop where
 agree:∀i,i<h.next->β' i=β i
 next:h.next<=h'.next
 alive:∀i,i<h.next->h'.get i≠none->h.get i≠none
 hid:∀i,i<h.next->β i=none->h'.get i=h.get i
 low:h'.low<=h.low
 kept:∀i,i<h'.low->i<h.next->h'.get i=h.get i
 os:w'.os=w.os
 tape:w'.tape=w.tape
 output:w'.output=w.output
 size:w.heap.size<=w'.heap.size
 keep:∀b,b<w.heap.size->(∀i g,β i=some g->h.get i≠none->g.b≠b)->w'.heap[b]? =w.heap[b]?
 fresh:∀i g,β' i=some g->h.next<=i->w.heap.size<=g.b\/∃j k,β j=some k/\h.get j≠none/\k.b=g.b
 uE:∀i g,i<h'.low->i<h.next->β i=some g->h.get i≠none->g.b<w.heap.size->w'.heap[g.b]? =w.heap[g.b]?
 drawn:w.drawn<=w'.drawn
def Eff.refl(β:aI)(h:IH)(w:World)(hd:∀i g,β i=some g->i<h.next):Eff β h w β h w:=
 ⟨λ_ _=>rfl,bQ _,λ_ _ h=>h,λ_ _ _=>rfl,bQ _,λ_ _ _=>rfl,rfl,rfl,rfl,bQ _,λ_ _ _=>rfl,
  λi g hg hi=>absurd (hd i g hg) tr,λ_ _ _ _ _ _ _=>rfl,bQ _⟩
def Eff.le{β β':aI}{h h':IH}{w w':World}(e:Eff β h w β' h' w')(hd:∀i g,β i=some g->i<h.next):β.le β':=
 λi g hg=>(e.agree i (hd i g hg)).trans hg
def Eff.trans{β β1 β2:aI}{h h1 h2:IH}{w w1 w2:World}(e:Eff β h w β1 h1 w1)(f:Eff β1 h1 w1 β2 h2 w2):Eff β h w β2 h2 w2 where
 agree i hi:=(f.agree i (mY hi e.next)).trans (e.agree i hi)
 uE i g hl hi hg hn hb:=(f.uE i g hl (mY hi e.next) ((e.agree i hi).trans hg) (by rw[e.kept i (mY hl f.low) hi];exact hn) (mY hb e.size)).trans
  (e.uE i g (mY hl f.low) hi hg hn hb)
 next:=ql e.next f.next
 drawn:=ql e.drawn f.drawn
 alive i hi hn:=e.alive i hi (f.alive i (mY hi e.next) hn)
 hid i hi hb:=(f.hid i (mY hi e.next) ((e.agree i hi).trans hb)).trans (e.hid i hi hb)
 low:=ql f.low e.low
 kept i hl hi:=(f.kept i hl (mY hi e.next)).trans (e.kept i (mY hl f.low) hi)
 os:=f.os.trans e.os
 tape:=f.tape.trans e.tape
 output:=f.output.trans e.output
 size:=ql e.size f.size
 keep b hb hno:=by
  refine(f.keep b (mY hb e.size) λi g hg hn he=>?_).trans (e.keep b hb hno);by_cases hi:i<h.next
  .exact hno i g (by rw[<- e.agree i hi];exact hg) (e.alive i hi hn) he
  .rcases e.fresh i g hg (tr)with hf|⟨j,k,hk,hj,hkb⟩
   .omega
   .exact hno j k hk hj (hkb.trans he)
 fresh i g hg hi:=by
  by_cases hi1:i<h1.next
  .exact e.fresh i g (by rw[<- f.agree i hi1];exact hg) hi
  .rcases f.fresh i g hg (tr)with hf|⟨j,k,hk,hj,hkb⟩
   .exact .inl (ql e.size hf)
   .by_cases hjn:j<h.next
    .exact .inr ⟨j,k,by rw[<- e.agree j hjn];exact hk,e.alive j hjn hj,hkb⟩
    .rcases e.fresh j k hk (tr)with hf'|⟨j',k',hk',hj',hkb'⟩
     .exact .inl (hkb▸hf')
     .exact .inr ⟨j',k',hk',hj',hkb'.trans hkb⟩
end Go.Ideal
namespace Go.Ideal
variable {P:Program}
variable{β β':aI}
def gK.mono(h:β.le β'){l l':ae MapEntry}(he:gK β l l'):gK β' l l':=by
 induction he with
 |nil=>exact .nil
 |cons hk hf hb hv _ ih=>exact .cons hk hf hb (hv.mono h) ih
def LR.mono(h:β.le β'){r:qo}{r':Loop}(k:LR P β r r'):LR P β' r r':=
 ⟨k.state,k.pending,k.ES,k.size,λi=>(k.tmps i).mono h,k.out,k.params,k.assign,k.body,let⟨g,h1,h2⟩:=k.defers;⟨g,h _ _ h1,h2⟩,k.CZ⟩
def OR.mono(h:β.le β'){g:jf}{w:World}{o:bO}(k:OR P β g w o):OR P β' g w o:=by
 cases o with
 |cells cs=>
  obtain⟨h1,h2,h3,h5,h6,h7⟩:=k;exact⟨h1,h2,h3,h5,h6,λj v hj=>let⟨v',a,b⟩:=h7 j v hj;⟨v',a,b.mono h⟩⟩
 |jO cs=>obtain⟨h1,h2,h6,h7⟩:=k;exact⟨h1,h2,h6,λj v hj=>let⟨v',a,b⟩:=h7 j v hj;⟨v',a,b.mono h⟩⟩
 |map es clock=>obtain⟨es',h1,h2⟩:=k;exact⟨es',h1,h2.mono h⟩
 |A9 s pos=>exact k
 |mapIter m since seen stepped=>obtain⟨m',seen',h1,h2,h3,h4⟩:=k;exact⟨m',seen',h1,h2,h3.mono h,h4⟩
 |loop r=>obtain⟨r',h1,h2⟩:=k;exact⟨r',h1,h2.mono h⟩
 |jE b=>exact k
variable{g:jf}{w:World}{o:bO}
def OR.congr{w':World}(hw:w'.heap[g.b]? =w.heap[g.b]?)(k:OR P β g w o):OR P β g w' o:=by
 have hc:∀j,w'.cell? ⟨g.b,j,none⟩=w.cell? ⟨g.b,j,none⟩:=λj=>World.cell?_of_block hw;have hf:∀j,w'.frozen? ⟨g.b,j,none⟩=w.frozen? ⟨g.b,j,none⟩:=λj=>World.frozen?_of_block hw;cases o<;>simp only[OR,hw,hc,hf]at *<;>exact k
def OR.lt(k:OR P β g w o):g.b<w.heap.size:=by
 have:w.heap[g.b]?≠none:=by
  cases o with
  |cells cs=>obtain⟨⟨c,t,fz,h1⟩,_⟩:=k;rw[h1];simp
  |jO cs=>obtain⟨⟨c,t,fz,h1,_⟩,_⟩:=k;rw[h1];simp
  |map es clock=>obtain⟨es',h1,_⟩:=k;rw[h1];simp
  |A9 s pos=>have h1:=k.1;rw[h1];simp
  |mapIter m since seen stepped=>obtain⟨m',seen',h1,_⟩:=k;rw[h1];simp
  |loop r=>obtain⟨r',h1,_⟩:=k;rw[h1];simp
  |jE b=>have h1:w.heap[g.b]? =_:=k;rw[h1];simp
 rcases sJ g.b w.heap.size with h|h
 .exact h
 .exact absurd (vC h) this
def aI.add(β:aI)(i:Nat)(g:jf):aI:=λj=>if j=i then some g else β j
def aI.ng(β:aI)(i:Nat)(g:jf):β.add i g i=some g:=by simp[aI.add]
def aI.mh(β:aI){i j:Nat}(g:jf)(h:j≠i):β.add i g j=β j:=by simp[aI.add,h]
def aI.yB{i:Nat}(g:jf)(h:β i=none):β.le (β.add i g):=λj k hj=>by
 by_cases e:j=i
 .subst e;rw[h]at hj;cases hj
 .rw[aI.mh _ _ e];exact hj
section
variable {β:aI} {h:IH} {w:World}
def WR.zJ(hW:WR P β h w):β h.next=none:=by
 cases hb:β h.next with
 |none=>rfl
 |some g=>exact absurd (hW.dom _ _ hb) (Nat.lt_irrefl _)
variable{w':World}
def WR.sU(hW:WR P β h w)(hh:w'.heap=w.heap):WR P β h w':=
 ⟨hW.dom,hW.live,λi g o h1 h2=>(hW.obj i g o h1 h2).congr (by rw[hh]),hW.inj⟩
def Eff.sU(hd:∀i g,β i=some g->i<h.next)(h1:w'.heap=w.heap)(h2:w'.os=w.os)(h3:w'.tape=w.tape)(h4:w'.output=w.output)(h5:w.drawn<=w'.drawn:=by first|exact bQ _|exact AP _|fail):Eff β h w β h w':=
 ⟨λ_ _=>rfl,bQ _,λ_ _ h=>h,λ_ _ _=>rfl,bQ _,λ_ _ _=>rfl,h2,h3,h4,by rw[h1];exact bQ _,λ_ _ _=>by rw[h1],
  λi g hg hi=>absurd (hd i g hg) tr,λ_ _ _ _ _ _ _=>by rw[h1],h5⟩
def WR.alloc(hW:WR P β h w)(o:bO)(o':Obj)(g:jf)(hg:g.b=w.heap.size){w1:World}(hw1:w1={w with heap:=w.heap.push o'})
 (ho:OR P (β.add h.next g) g w1 o):WR P (β.add h.next g) (h.new o) w1/\Eff β h w (β.add h.next g) (h.new o) w1:=by
 have hle:β.le (β.add h.next g):=aI.yB g hW.zJ;have hheap:∀b,b<w.heap.size->w1.heap[b]? =w.heap[b]?:=λb hb=>by
  subst hw1;simp only[EA];rw[if_neg tr]
 refine⟨⟨?_,?_,?_,?_⟩,⟨?_,?_,?_,?_,?_,?_,?_,?_,?_,?_,?_,?_,λ_ _ _ _ _ _ hb=>hheap _ hb,by subst hw1;exact bQ _⟩⟩
 .intro i k hk;rw[IH.MU];by_cases e:i=h.next
  .omega
  .rw[aI.mh _ _ e]at hk;have:=hW.dom _ _ hk;omega
 .intro i x hx;rw[IH.MU];rw[IH.jF]at hx;split at hx
  .omega
  .have:=hW.live _ _ hx;omega
 .intro i k x hk hx;rw[IH.jF]at hx;by_cases e:i=h.next
  .subst e;rw[aI.ng]at hk;exact oS
  .rw[aI.mh _ _ e]at hk;rw[if_neg e]at hx;have:=hW.obj _ _ _ hk hx;exact(this.mono hle).congr (hheap _ this.lt)
 .intro i j k l hk hl hi hj hr he;rw[IH.jF]at hi hj;by_cases ei:i=h.next
  .by_cases ej:j=h.next
   .omega
   .rw[aI.mh _ _ ej]at hl;rw[if_neg ej]at hj;subst ei;rw[aI.ng]at hk;cases hk;cases hx:h.get j with
    |none=>exact absurd hx hj
    |some x=>have:=(hW.obj _ _ _ hl hx).lt;omega
  .rw[aI.mh _ _ ei]at hk;rw[if_neg ei]at hi;by_cases ej:j=h.next
   .subst ej;rw[aI.ng]at hl;cases hl;cases hx:h.get i with
    |none=>exact absurd hx hi
    |some x=>have:=(hW.obj _ _ _ hk hx).lt;omega
   .rw[aI.mh _ _ ej]at hl;rw[if_neg ej]at hj;exact hW.inj _ _ _ _ hk hl hi hj (hr.imp (λq cs e=>q cs (by rw[IH.jF,if_neg ei];exact e)) (λq cs e=>q cs (by rw[IH.jF,if_neg ej];exact e))) he
 .intro i hi;exact aI.mh _ _ tr
 .rw[IH.MU];omega
 .intro i hi hn;rw[IH.jF,if_neg tr]at hn;exact hn
 .intro i hi _;rw[IH.jF,if_neg tr]
 .exact bQ _
 .intro i _ hi;rw[IH.jF,if_neg tr]
 .subst hw1;rfl
 .subst hw1;rfl
 .subst hw1;rfl
 .subst hw1;simp
 .intro b hb _;exact hheap b hb
 .intro i k hk hi;by_cases e:i=h.next
  .subst e;rw[aI.ng]at hk;cases hk;exact .inl tr
  .rw[aI.mh _ _ e]at hk;exact mu
def WR.write(hW:WR P β h w){i:Nat}{g:jf}(hi:β i=some g){o0:bO}(h0:h.get i=some o0)(o:bO){w1:World}
 (hsz:w1.heap.size=w.heap.size) (hheap:∀b,b≠g.b->w1.heap[b]? =w.heap[b]?) (hos:w1.os=w.os) (Bj:w1.tape=w.tape) (hout:w1.output=w.output) (hdr:w.drawn<=w1.drawn)
 (ho:OR P β g w1 o) (hnr:∀cs,o0≠.jO cs:=by intro cs e;cases e):WR P β (h.set i o) w1/\Eff β h w β (h.set i o) w1:=by
 have hni:∀cs,h.get i≠some (.jO cs):=λcs e=>hnr cs (by rw[h0]at e;exact Option.some.inj e);refine⟨⟨?_,?_,?_,?_⟩,⟨?_,?_,?_,?_,?_,?_,hos,Bj,hout,?_,?_,?_,?_,hdr⟩⟩
 .exact hW.dom
 .intro j x hx;rw[IH.nM]at hx;split at hx
  .subst_vars;exact hW.live _ _ h0
  .exact hW.live _ _ hx
 .intro j k x hk hx;rw[IH.nM]at hx;by_cases e:j=i
  .subst e;rw[hi]at hk;exact oS
  .rw[if_neg e]at hx;refine(hW.obj _ _ _ hk hx).congr (hheap _ λhe=>e ?_);exact hW.inj _ _ _ _ hk hi (by rw[hx];simp) (by rw[h0];simp) (.inr hni) he
 .intro j l k m hk hm hj hl hr he;have pass:∀x,(∀cs,(h.set i o).get x≠some (.jO cs))->∀cs,h.get x≠some (.jO cs):=λx q cs e=>by
   by_cases ex:x=i
   .subst ex;exact hni cs e
   .exact q cs (by rw[IH.nM,if_neg ex];exact e)
  refine hW.inj _ _ _ _ hk hm ?_ ?_ (hr.imp (pass _) (pass _)) he
  .rw[IH.nM]at hj;split at hj
   .subst_vars;rw[h0];simp
   .exact hj
  .rw[IH.nM]at hl;split at hl
   .subst_vars;rw[h0];simp
   .exact hl
 .intro _ _;rfl
 .exact bQ _
 .intro j hj hn;rw[IH.nM]at hn;split at hn
  .subst_vars;rw[h0];simp
  .exact hn
 .intro j hj hb;rw[IH.nM,if_neg];exact qu
 .rw[IH.Iq];omega
 .intro j hl hj;rw[IH.Iq]at hl;rw[IH.nM,if_neg tr]
 .omega
 .intro b hb hno;refine hheap b λe=>hno i g hi (by rw[h0];simp) e.symm
 .intro j k hk hj;exact mu
 .intro j k hl hj hk hn hb;rw[IH.Iq]at hl;refine hheap _ λhe=>?_;have:=hW.inj _ _ _ _ hk hi hn (by rw[h0];simp) (.inr hni) he;omega
def WR.drop(hW:WR P β h w){i:Nat}{g:jf}(hi:β i=some g):WR P β (h.kill i) w/\Eff β h w β (h.kill i) w:=by
 refine⟨⟨hW.dom,?_,?_,?_⟩,⟨?_,?_,?_,?_,?_,?_,rfl,rfl,rfl,bQ _,λ_ _ _=>rfl,?_,λ_ _ _ _ _ _ _=>rfl,bQ _⟩⟩
 .intro j x hx;rw[IH.vT]at hx;split at hx
  .cases hx
  .exact hW.live _ _ hx
 .intro j k x hk hx;rw[IH.vT]at hx;split at hx
  .cases hx
  .exact hW.obj _ _ _ hk hx
 .intro j l k m hk hm hj hl hr he;have pass:∀x,(h.kill i).get x≠none->(∀cs,(h.kill i).get x≠some (.jO cs))->∀cs,h.get x≠some (.jO cs):=λx hx q cs e=>by
   rw[IH.vT]at hx;by_cases ex:x=i
   .rw[if_pos ex]at hx;exact hx rfl
   .exact q cs (by rw[IH.vT,if_neg ex];exact e)
  have hr:=hr.imp (pass _ hj) (pass _ hl);rw[IH.vT]at hj hl;exact jt
 .intro _ _;rfl
 .exact bQ _
 .intro j hj hn;rw[IH.vT]at hn;split at hn
  .exact absurd rfl hn
  .exact hn
 .intro j hj hb;rw[IH.vT,if_neg];exact qu
 .rw[IH.Bi];omega
 .intro j hl hj;rw[IH.Bi]at hl;rw[IH.vT,if_neg tr]
 .intro j k hk hj;exact mu
def WR.aa6(hW:WR P β h w){i:Nat}{g:jf}(hi:β i=some g)(hlive:h.get i≠none)(hni:∀cs,h.get i≠some (.jO cs))(o:bO)(g1:jf)(hg1:g1.b=g.b){w1:World}
 (hsz:w1.heap.size=w.heap.size) (hheap:∀b,b≠g.b->w1.heap[b]? =w.heap[b]?) (hos:w1.os=w.os) (Bj:w1.tape=w.tape) (hout:w1.output=w.output) (hdr:w.drawn<=w1.drawn)
 (ho:OR P (β.add h.next g1) g1 w1 o):WR P (β.add h.next g1) ((h.kill i).new o) w1/\Eff β h w (β.add h.next g1) ((h.kill i).new o) w1:=by
 have hle:β.le (β.add h.next g1):=aI.yB g1 hW.zJ;have hin:i<h.next:=hW.dom _ _ hi
 have hget:∀j,((h.kill i).new o).get j=if j=h.next then some o else if j=i then none else h.get j:=λj=>by
  rw[IH.jF,IH.vT];rfl
 refine⟨⟨?_,?_,?_,?_⟩,⟨?_,?_,?_,?_,?_,?_,hos,Bj,hout,?_,?_,?_,?_,hdr⟩⟩
 .intro j k hk;show j<h.next+1
  by_cases e:j=h.next
  .omega
  .rw[aI.mh _ _ e]at hk;have:=hW.dom _ _ hk;omega
 .intro j x hx;show j<h.next+1
  rw[hget]at hx;split at hx
  .omega
  .split at hx
   .cases hx
   .have:=hW.live _ _ hx;omega
 .intro j k x hk hx;rw[hget]at hx;by_cases e:j=h.next
  .subst e;rw[aI.ng]at hk;exact oS
  .rw[aI.mh _ _ e]at hk;rw[if_neg e]at hx;split at hx
   .cases hx
   .rename_i hji;refine((hW.obj _ _ _ hk hx).mono hle).congr (hheap _ λhe=>hji ?_);exact hW.inj _ _ _ _ hk hi (by rw[hx];simp) hlive (.inr hni) he
 .have key:∀j k,β j=some k->((h.kill i).new o).get j≠none->j≠h.next->k.b≠g.b:=λj k hk hj hjn he=>by
   rw[hget,if_neg hjn]at hj;split at hj
   .exact hj rfl
   .rename_i hji;exact hji (hW.inj _ _ _ _ hk hi hj hlive (.inr hni) he)
  intro j l k m hk hm hj hl hr he;have pass:∀x,x≠h.next->((h.kill i).new o).get x≠none->(∀cs,((h.kill i).new o).get x≠some (.jO cs))->∀cs,h.get x≠some (.jO cs):=λx lU hx q cs e=>by
   rw[hget,if_neg lU]at hx;by_cases ex:x=i
   .rw[if_pos ex]at hx;exact hx rfl
   .exact q cs (by rw[hget,if_neg lU,if_neg ex];exact e)
  by_cases ej:j=h.next
  .by_cases el:l=h.next
   .omega
   .subst ej;rw[aI.ng]at hk;cases hk;rw[aI.mh _ _ el]at hm;exact absurd (he.symm.trans hg1) (key l m hm hl el)
  .rw[aI.mh _ _ ej]at hk;by_cases el:l=h.next
   .subst el;rw[aI.ng]at hm;cases hm;exact absurd (he.trans hg1) (key j k hk hj ej)
   .rw[aI.mh _ _ el]at hm;have hr:=hr.imp (pass _ ej hj) (pass _ el hl);rw[hget,if_neg ej]at hj;rw[hget,if_neg el]at hl;exact jt
 .intro j hj;exact aI.mh _ _ tr
 .show h.next<=h.next+1;omega
 .intro j hj hn;rw[hget,if_neg tr]at hn;split at hn
  .exact absurd rfl hn
  .exact hn
 .intro j hj hb;rw[hget,if_neg tr,if_neg];exact qu
 .show(h.kill i).low<=h.low;rw[IH.Bi];omega
 .intro j hl hj;have hl':j<(h.kill i).low:=hl;rw[IH.Bi]at hl';rw[hget,if_neg tr,if_neg tr]
 .omega
 .intro b hb hno;exact hheap b λe=>hno i g hi hlive e.symm
 .intro j k hk hj;by_cases e:j=h.next
  .subst e;rw[aI.ng]at hk;cases hk;exact .inr ⟨i,g,hi,hlive,hg1.symm⟩
  .rw[aI.mh _ _ e]at hk;exact mu
 .intro j k hl hj hk hn hb;rw[IH.MV,IH.Bi]at hl;refine hheap _ λhe=>?_;have:=hW.inj _ _ _ _ hk hi hn hlive (.inr hni) he;omega
end
end Go.Ideal
namespace Go.Ideal
variable {P:Program} {β:aI} {h:IH} {w:World}
def addr_add(b o j:Nat):(⟨b,o,none⟩:Addr).add j=⟨b,o+j,none⟩:=by unfold Addr.add;split<;>simp_all
variable{t:aC}{d:TypeDesc}
def fV(h:P.underlying t=some d)(w:World):(underlying t).run P w=.ok d w:=by
 simp[underlying,h]
variable{n:Nat}
def nN(h:jY P t=some n)(w:World):(sizeOf t).run P w=.ok n w:=by
 unfold jY at h;cases hi:P.info? t with
 |none=>simp[hi]at h
 |some i=>simp[hi]at h;simp[sizeOf,typeInfo,hi,h]
def ET{i:TypeInfo}(h:P.info? t=some i)(w:World):(typeInfo t).run P w=.ok i w:=by
 simp[typeInfo,h]
variable{z:ah}
def C8(h:zeroOf P t=some z):∃i,P.info? t=some i/\i.zero=some z/\cz z=true:=by
 unfold zeroOf at h;cases hi:P.info? t with
 |none=>simp[hi]at h
 |some i=>
  simp only[hi,jB]at h;cases hz:i.zero with
  |none=>simp[hz]at h
  |some z'=>
   simp only[hz]at h;split at h
   .cases h;exact⟨i,rfl,hz,by assumption⟩
   .cases h
def C9(h:zeroOf P t=some z)(w:World):(zeroValue t).run P w=.ok z w:=by
 obtain⟨i,h1,h2,_⟩:=C8 h;simp[zeroValue,typeInfo,h1,h2]
def Da(h:P.underlying t=some d)(w:World):(isAgg t).run P w=.ok (kH P t) w:=by
 simp only[isAgg,dF,fV h,dH,kH,h];cases d<;>rfl
def Sk(h:kH P t=true):∃d,P.underlying t=some d:=by
 unfold kH at h;cases hu:P.underlying t with
 |none=>simp[hu]at h
 |some d=>exact⟨d,rfl⟩
def Iu(hW:WR P β h w){i:Nat}{g:jf}(hi:β i=some g){cs:ae ah}(hg:h.get i=some (.cells cs)\/h.get i=some (.jO cs)){o n:Nat}{l:ae ah}
 (hl:jN (kF cs o) n=some l):
 l.length=n/\l.all cellV=true/\∃l',aZ β l l'/\∀(j:Nat) v,l'[j]? =some v->w.cell? ⟨g.b,g.off+o+j,none⟩=some v:=by
 obtain⟨h6,h7⟩:cs.all cellV=true/\∀(j:Nat) v,cs[j]? =some v->∃v',w.cell? ⟨g.b,g.off+j,none⟩=some v'/\VR β v v':=by
  rcases hg with hg|hg
  .obtain⟨_,_,_,_,h6,h7⟩:=hW.obj i g _ hi hg;exact⟨h6,h7⟩
  .obtain⟨_,_,h6,h7⟩:=hW.obj i g _ hi hg;exact⟨h6,h7⟩
 rw[qD,qw]at hl;split at hl
 .rename_i hn;cases hl;refine⟨by simp at hn⊢;omega,?_,?_⟩
  .rw[jL]at h6⊢;exact λx hx=>h6 x (List.mem_of_mem_drop (Rq hx))
  .have key:∀k:Nat,k<=n->∃l',aZ β ((cs.drop o).take k) l'/\∀(j:Nat) v,l'[j]? =some v->w.cell? ⟨g.b,g.off+o+j,none⟩=some v:=by
    intro k;induction k with
    |zero=>intro _;exact⟨[],by simpa using aZ.nil,λj v hj=>by simp at hj⟩
    |succ k ih=>
     intro hk;obtain⟨l',h1,h2'⟩:=ih tr;have hlt:k<(cs.drop o).length:=tr
     obtain⟨v',hv1,hv2⟩:=h7 (o+k) ((cs.drop o)[k]) (by rw[<- sK];exact bX hlt);refine⟨l'++[v'],?_,λj v hj=>?_⟩
     .rw[List.take_succ_eq_append_getElem hlt];exact h1.append (.cons hv2 .nil)
     .have hlen:=h1.length;simp at hlen hlt;by_cases hjl:j<l'.length
      .rw[pG hjl]at hj;exact h2' j v hj
      .have hjk:j=l'.length:=by
        rcases sJ j (l'++[v']).length with hh|hh
        .simp at hh;omega
        .rw[iq hh]at hj;cases hj
       subst hjk;simp at hj;subst hj;rw[show g.off+o+l'.length=g.off+(o+k)by omega];exact hv1
   exact key n (bQ _)
 .cases hl
variable{o:Nat}{l:ae ah}
def MZ{b:Nat}(hn:l.length=n)(hc:∀(j:Nat) v,l[j]? =some v->w.cell? ⟨b,o+j,none⟩=some v):
 (loadCells ⟨b,o,none⟩ n).run P w=.ok l.toArray w:=by
 subst hn;exact run_loadCells_list w _ l λj v hj=>by rw[addr_add];exact hc j v hj
variable{i:Nat}
def Sl{h:IH}(hl:h.oO i o n=some l):∃cs,h.get i=some (.cells cs)/\jN (kF cs o) n=some l:=by
 unfold IH.oO at hl;split at hl
 .exact⟨_,by assumption,hl⟩
 .cases hl
def Db{h:IH}(hl:h.jh i o n=some l):∃cs,(h.get i=some (.cells cs)\/h.get i=some (.jO cs))/\jN (kF cs o) n=some l:=by
 unfold IH.jh at hl;exact mz
def Sm{h:IH}{v:ah}(hl:h.pK i o=some v):∃cs,(h.get i=some (.cells cs)\/h.get i=some (.jO cs))/\kE cs o=some v:=by
 unfold IH.pK at hl;exact mz
variable{h2:IH}
def aa7{h:IH}(hs:∀i o,h.get i=some o->h2.get i=some o){i o:Nat}{v:ah}(hl:h.pK i o=some v):h2.pK i o=some v:=by
 obtain⟨cs,hg|hg,h1⟩:=Sm hl
 .simp only[IH.pK,hs _ _ hg,h1]
 .simp only[IH.pK,hs _ _ hg,h1]
def Sn{h:IH}(hs:∀i o,h.get i=some o->h2.get i=some o){i o n:Nat}{l:ae ah}(hl:h.jh i o n=some l):h2.jh i o n=some l:=by
 obtain⟨cs,hg|hg,h1⟩:=Db hl
 .simp only[IH.jh,hs _ _ hg,h1]
 .simp only[IH.jh,hs _ _ hg,h1]
def M0(b:Nat):∀(vs:ae ah) (o:Nat) (w:World),(w.setCells b o vs).drawn=w.drawn
 |[],_,_=>rfl
 |v::vs,o,w=>by
  show((w.setCell ⟨b,o,none⟩ v).setCells b (o+1) vs).drawn=_;rw[M0 b vs];rfl
def Iw(hW:WR P β h w){i:Nat}{g:jf}(hi:β i=some g){o:Nat}{vs vs':ae ah}{h':IH}(hs:h.storeAt i o vs=some h')(hv:aZ β vs vs')(hall:vs.all cellV=true):
 (∀k,k=0->(storeCells ⟨g.b,g.off+o,none⟩ vs' k).run P w=.ok () (w.setCells g.b (g.off+o) vs'))/\WR P β h' (w.setCells g.b (g.off+o) vs')/\Eff β h w β h' (w.setCells g.b (g.off+o) vs'):=by
 unfold IH.storeAt at hs;split at hs
 .rename_i cs hg;split at hs
  .rename_i cs2 hl;cases hs;obtain⟨h1,h2,h3,h5,h6,h7⟩:=hW.obj i g _ hi hg;obtain⟨l1,l2,l3⟩:=Ir hl;have hlen:vs'.length=vs.length:=hv.length;have hin:∀j,j<vs'.length->g.off+o+j<g.top:=λj hj=>by omega
   have hone:∀v∈vs',v.oneCell'=true:=λv hv'=>by
    obtain⟨j,hj⟩:=jM hv';have hjl:j<vs.length:=by
     rcases sJ j vs'.length with hh|hh
     .omega
     .rw[iq hh]at hj;cases hj
    obtain⟨v2,hv2,hr⟩:=hv.get (bX hjl);rw[hv2]at hj;cases hj;have hc:=(jL.1 hall) _ (wU hjl);exact nt
   have hrun:∀k,k=0->(storeCells ⟨g.b,g.off+o,none⟩ vs' k).run P w=.ok () (w.setCells g.b (g.off+o) vs'):=λk hk=>by
    subst hk;have:=run_storeCells_cells (P:=P) g.b (g.off+o) vs' 0 w (λj hj=>(h5 _ (hin j hj)).1) (λj hj=>(h5 _ (hin j hj)).2) hone;simpa using this
   have hsz:(w.setCells g.b (g.off+o) vs').heap.size=w.heap.size:=by
    have Bl:∀(vs:ae ah) (o:Nat) (w:World),(w.setCells g.b o vs).heap.size=w.heap.size:=by
     intro vs;induction vs with
     |nil=>intro o w;rfl
     |cons v vs ih=>intro o w;show((w.setCell ⟨g.b,o,none⟩ v).setCells g.b (o+1) vs).heap.size=_;rw[ih];simp
    exact Bl _ _ _
   have hother:∀b,b≠g.b->(w.setCells g.b (g.off+o) vs').heap[b]? =w.heap[b]?:=by
    have Bl:∀(vs:ae ah) (o:Nat) (w:World) (b:Nat),b≠g.b->(w.setCells g.b o vs).heap[b]? =w.heap[b]?:=by
     intro vs;induction vs with
     |nil=>intro o w b _;rfl
     |cons v vs ih=>intro o w b hb;show((w.setCell ⟨g.b,o,none⟩ v).setCells g.b (o+1) vs).heap[b]? =_;rw[ih _ _ _ hb,Go.RowKit.Below.heap_setCell _ _ _ _ hb]
    exact Bl _ _ _
   have hsame:∃c t fz,(w.setCells g.b (g.off+o) vs').heap[g.b]? =some (.cells c t fz):=by
    have Bl:∀(vs:ae ah) (o:Nat) (w:World),(∃c t fz,w.heap[g.b]? =some (.cells c t fz))->∃c t fz,(w.setCells g.b o vs).heap[g.b]? =some (.cells c t fz):=by
     intro vs;induction vs with
     |nil=>intro o w hh;exact hh
     |cons v vs ih=>
      intro o w ⟨c,t,fz,hh⟩;refine ih _ _ ⟨c.setIfInBounds o v,t,fz,?_⟩;simp[World.setCell,Array.getElem?_modify,hh]
    exact Bl _ _ _ h1
   have Bj:(w.setCells g.b (g.off+o) vs').tape=w.tape:=by
    have Bl:∀(vs:ae ah) (o:Nat) (w:World),(w.setCells g.b o vs).tape=w.tape:=by
     intro vs;induction vs with
     |nil=>intro o w;rfl
     |cons v vs ih=>intro o w;show((w.setCell ⟨g.b,o,none⟩ v).setCells g.b (o+1) vs).tape=_;rw[ih];rfl
    exact Bl _ _ _
   have hos:=(Rs g.b (may:=λ_=>True) vs' (g.off+o) w (λ_ _=>trivial)).1;have hout:=(Rs g.b (may:=λ_=>True) vs' (g.off+o) w (λ_ _=>trivial)).2.1;have hdr:w.drawn<=(w.setCells g.b (g.off+o) vs').drawn:=by rw[M0];exact bQ _
   refine⟨hrun,?_⟩;refine hW.write hi hg (.cells cs2) hsz hother hos Bj hout hdr ⟨hsame,tr,h3,?_,?_,?_⟩
   .intro j hj;refine⟨?_,by rw[World.frozen?_setCells];exact(h5 j hj).2⟩;by_cases hr:g.off+o<=j/\j<g.off+o+vs'.length
    .have:=Rt g.b vs' (g.off+o) w (λk hk=>(h5 _ (hin k hk)).1) (j - (g.off+o)) tr;rw[show g.off+o+(j - (g.off+o))=j by omega]at this;rw[this];simp
    .rw[Ru g.b vs' (g.off+o) w ⟨g.b,j,none⟩ (λ_ _=>by simp;omega)];exact(h5 j hj).1
   .rw[jL]at h6 hall⊢;intro x hx;obtain⟨j,hj⟩:=jM hx;rw[l3]at hj;split at hj
    .exact hall x (aS hj)
    .exact h6 x (aS hj)
   .intro j v hj;rw[l3]at hj;split at hj
    .rename_i hr;obtain⟨v',hv1,hv2⟩:=hv.get hj;refine⟨v',?_,hv2⟩;have hlt:j - o<vs'.length:=by omega
     have:=Rt g.b vs' (g.off+o) w (λk hk=>(h5 _ (hin k hk)).1) (j - o) hlt;rw[show g.off+o+(j - o)=g.off+j by omega]at this;rw[this];rw[bX hlt]at hv1;exact hv1
    .rename_i hr;obtain⟨v',hv1,hv2⟩:=h7 j v hj;refine⟨v',?_,hv2⟩;rw[Ru g.b vs' (g.off+o) w ⟨g.b,g.off+j,none⟩ (λ_ _=>by simp;omega)];exact hv1
  .cases hs
 .cases hs
def Good(P:Program)(β:aI)(h:IH)(w:World)(s:Sem Next)(v:ah)(h':IH):Prop:=
 ∃r w' β' v',s.run P w=.ok r w'/\(r=.value v'\/(r=.skip/\v'=undef))/\VR β' v v'/\WR P β' h' w'/\Eff β h w β' h' w'
def Good.same(hW:WR P β h w){s:Sem Next}{v v':ah}(hr:s.run P w=.ok (.value v') w)(hv:VR β v v'):Good P β h w s v h:=
 ⟨_,w,β,v',hr,.inl rfl,hv,hW,Eff.refl _ _ _ hW.dom⟩
def vW(P:Program)(β:aI)(w:World)(s:Sem Next)(f:Nat->ah)(o:bO):Prop:=
 ∃v' o' g,s.run P w=.ok (.value v') {w with heap:=w.heap.push o'}/\g.b=w.heap.size/\
  ∀(i:Nat) (β':aI),β.le β'->β' i=some g->VR β' (f i) v'/\OR P β' g {w with heap:=w.heap.push o'} o
def vW.good(hW:WR P β h w){s:Sem Next}{f:Nat->ah}{o:bO}(hm:vW P β w s f o):Good P β h w s (f h.next) (h.new o):=by
 obtain⟨v',o',g,h1,h2,h3⟩:=hm;have hle:=aI.yB (β:=β) g hW.zJ;obtain⟨a,b⟩:=hW.alloc o o' g h2 rfl (h3 h.next _ hle (aI.ng _ _ _)).2;exact⟨_,_,_,v',h1,.inl rfl,(h3 h.next _ hle (aI.ng _ _ _)).1,a,b⟩
def OR.Iy{β:aI}{w:World}{cs cs':ae ah}(t:aC)(h:aZ β cs cs')(hc:cs.all cellV=true)(rest:ae ah)(sz:Nat):
 OR P β ⟨w.heap.size,0,cs.length,cs.length+rest.length,sz⟩ {w with heap:=w.heap.push (.cells ⟨cs'++rest⟩ t)} (.cells cs):=by
 have hb:({w with heap:=w.heap.push (.cells ⟨cs'++rest⟩ t)}:World).heap[w.heap.size]? =some (.cells ⟨cs'++rest⟩ t):=tt
 refine⟨⟨_,_,_,hb⟩,rfl,tt,λj hj=>⟨?_,?_⟩,hc,λj v hj=>?_⟩
 .simp only[World.cell?,hb];simp;have:=h.length;simp at hj;omega
 .simp[World.frozen?]
 .obtain⟨v',h1,h2⟩:=h.get hj;refine⟨v',?_,h2⟩;simp only[World.cell?,hb];simp;rw[pG]
  .exact h1
  .rcases sJ j cs'.length with hh|hh
   .exact hh
   .rw[iq hh]at h1;cases h1
end Go.Ideal
namespace Go.Ideal
variable {P:Program} {β:aI} {h:IH} {w:World}
variable{v:ah}
def VR.Iz{b:Bool}(h:VR β (.bool b) v):v=.bool b:=by cases h;rfl
def VR.nO{k:IntKind}{n:Int}(h:VR β (.int k n) v):v=.int k n:=by cases h;rfl
def VR.zK{s:ByteArray}(h:VR β (.string s) v):v=.string s:=by cases h;rfl
variable{i o:Nat}
def VR.vX(h:VR β (.pointer (some ⟨i,o,none⟩)) v):∃g,β i=some g/\v=.pointer (some ⟨g.b,g.off+o,none⟩):=by
 cases h with|ptr hi=>exact⟨_,hi,rfl⟩
def VR.Dc(h:VR β (.map (some i)) v):∃g,β i=some g/\v=.map (some g.b):=by
 cases h with|map hi=>exact⟨_,hi,rfl⟩
def VR.Bn{t:aC}{u:ah}(h:VR β (.iface t u) v):∃u',VR β u u'/\v=.iface t u':=by
 cases h with|iface t hi=>exact⟨_,hi,rfl⟩
def VR.M3{l:ae ah}(h:VR β (.agg ⟨l⟩) v):∃l',aZ β l l'/\l.all Ideal.cellV=true/\v=.agg ⟨l'⟩:=by
 cases h with|agg hc hl=>exact⟨_,hl,hc,rfl⟩
def VR.Bo{fn:Fn}{f c:ae ah}(h:VR β (.func fn ⟨f⟩ ⟨c⟩) v):∃fn' f' c',FR β fn fn'/\aZ β f f'/\aZ β c c'/\v=.func fn' ⟨f'⟩ ⟨c'⟩:=by
 cases h with|func h1 h2 h3=>exact⟨_,_,_,h1,h2,h3,rfl⟩
def VR.ow{f:ak Nat}{n c:Nat}(h:VR β (.slice (some ⟨i,o,f⟩) n c) v):
 ∃g a c',β i=some g/\v=.slice (some a) n c'/\a.block=g.b/\True/\n<=c/\c<=c'/\(c'=0\/(a.off=g.off+o/\a.spot=none))/\
  ((f=some 0/\c'=c)\/(f=some g.sz/\0<g.sz/\o+c*g.sz=g.len/\(g.off+o+c'*g.sz=g.top/\a.spot=none))):=by
 cases h with
 |aA hi hb hn ha=>exact⟨_,_,_,hi,rfl,hb,trivial,hn,bQ _,ha,.inl ⟨rfl,rfl⟩⟩
 |pQ hi hb hs hn hz hl ht hc ha=>exact⟨_,_,_,hi,rfl,hb,trivial,hn,hc,ha.imp id (λe=>⟨e,hs⟩),.inr ⟨rfl,hz,hl,ht,hs⟩⟩
def aZ.of_map{γ:Type}{f f':γ->ah}{l:ae γ}(h:∀x∈l,VR β (f x) (f' x)):aZ β (lS f l) (l.map f'):=by
 rw[vU];exact aZ.map l h
def aa8(ρ:ay->ah)(zero:ae ah):sP ρ zero []=some zero:=rfl
def M4(ρ:ay->ah)(zero:ae ah)(off size:Nat)(x:ay)(ps:ae (Nat×Nat×ay)):
 sP ρ zero ((off,size,x)::ps)=match cellsOf (ρ x)with
  |none=>none
  |some vs=>if je vs=size then(match kG zero off vs with
   |some cs=>sP ρ cs ps
   |none=>none)else none:=by
 show(match cellsOf (ρ x)with
  |none=>none
  |some vs=>cond (Nat.beq (je vs) size) (match kG zero off vs with
   |some cs=>sP ρ cs ps
   |none=>none) none)=_
 cases cellsOf (ρ x)with
 |none=>rfl
 |some vs=>
  show cond (Nat.beq (je vs) size) _ none=if je vs=size then _ else none
  cases hb:Nat.beq (je vs) size with
  |true=>rw[if_pos (qY hb)];rfl
  |false=>rw[if_neg (Ez hb)];rfl
def foldl_set(off:Nat):∀(l:ae ah) (k:Nat) (A:Array ah),
 ((l.zipIdx k).foldl (λcs (x:ah×Nat)=>cs.setIfInBounds (off+x.2) x.1) A).size=A.size/\
 ∀j,((l.zipIdx k).foldl (λcs (x:ah×Nat)=>cs.setIfInBounds (off+x.2) x.1) A)[j]? =if off+k<=j/\j<off+k+l.length/\j<A.size then l[j - (off+k)]? else A[j]?:=by
 intro l;induction l with
 |nil=>intro k A;refine⟨rfl,λj=>?_⟩;rw[if_neg tG];rfl
 |cons x l ih=>
  intro k A;simp only[List.zipIdx_cons,vD];obtain⟨h1,h2⟩:=ih (k+1) (A.setIfInBounds (off+k) x);refine⟨by rw[h1];simp,λj=>?_⟩;rw[h2];simp only[Array.size_setIfInBounds,oh];by_cases hc:off+(k+1)<=j/\j<off+(k+1)+l.length/\j<A.size
  .rw[if_pos hc,if_pos tr];rw[show j - (off+k)=(j - (off+(k+1)))+1 by omega,sI]
  .rw[if_neg hc];by_cases hj:j=off+k
   .subst hj;by_cases hs:off+k<A.size
    .rw[if_pos tr];simp[hs]
    .rw[if_neg tr,vC tG,vC tr]
   .rw[if_neg tr];rw[Ht tr]
inductive F2{γ δ:Type}(R:γ->δ->Prop):List γ->List δ->Prop
 |nil:F2 R [] []
 |cons {a:γ} {b:δ} {l:List γ} {r:List δ} (h:R a b) (hl:F2 R l r):F2 R (a::l) (b::r)
def M5{place:Nat->ak (Nat×Nat)}{ρ ρ':ay->ah}:∀(parts:ae (Nat×ay)) (pc:ae (Nat×Nat×ay)) (zs zs' cs:ae ah),
 F2 (λ(p:Nat×ay) (q:Nat×Nat×ay)=>q.2.2=p.2/\place p.1=some (q.1,q.2.1)) parts pc->aZ β zs zs'->zs.all Ideal.cellV=true->
 sP ρ zs pc=some cs->(∀p∈parts,VR β (ρ p.2) (ρ' p.2))->∃cs',Instr.fill place ⟨zs'⟩ (parts.map λp=>(p.1,ρ' p.2))=some ⟨cs'⟩/\aZ β cs cs'/\cs.all Ideal.cellV=true/\cs.length=zs.length:=by
 intro parts;induction parts with
 |nil=>
  intro pc zs zs' cs hf hz hc hr _;cases hf;rw[aa8]at hr;cases hr;exact⟨zs',rfl,hz,hc,rfl⟩
 |cons p parts ih=>
  intro pc zs zs' cs hf hz hc hr hρ;obtain⟨i,x⟩:=p;cases hf with
  | @cons _ q _ pc hq hf=>
    obtain⟨off,size,y⟩:=q;obtain⟨hy,hpl⟩:=hq;simp only at hy hpl;subst hy;rw[M4]at hr;split at hr
    .cases hr
    .rename_i vs hvs;split at hr
     .rename_i hsz;split at hr
      .rename_i cs1 hl;obtain⟨Sq,vs',hv1,hv2⟩:=(hρ (i,y) tt).cells hvs;obtain⟨l1,l2,l3⟩:=Ir hl;rw[yz]at hsz;have hlen:=hv2.length;have hzl:=hz.length;have IA:=foldl_set off vs' 0 ⟨zs'⟩;have hA:∃EU,((vs'.zipIdx 0).foldl (λcs (x:ah×Nat)=>cs.setIfInBounds (off+x.2) x.1) (⟨zs'⟩:Array ah))=⟨EU⟩/\aZ β cs1 EU:=by
        refine⟨_,rfl,aZ.aa5 ?_ ?_⟩
        .have:=IA.1;simp only[Array.size]at this;rw[this,hzl,l2]
        .intro j v hj;have hg:=IA.2 j;simp only[AQ]at hg;rw[l3]at hj;have hjl:j<zs'.length:=by
          rw[hzl,<- l2];rcases sJ j cs1.length with hh|hh
          .exact hh
          .have:=l3 j;rw[iq hh]at this;rw[<- this]at hj;cases hj
         split at hj
         .rename_i hr2;obtain⟨v',h1,h2⟩:=hv2.get hj;refine⟨v',?_,h2⟩;rw[<- AU]at hg;rw[hg,if_pos tG];exact h1
         .rename_i hr2;obtain⟨v',h1,h2⟩:=hz.get hj;refine⟨v',?_,h2⟩;rw[<- AU]at hg;rw[hg,if_neg tG];simpa using h1
       obtain⟨EU,hA1,hA2⟩:=hA;have hc1:cs1.all Ideal.cellV=true:=by
        rw[jL]at hc Sq⊢;intro z M6;obtain⟨j,hj⟩:=jM M6;rw[l3]at hj;split at hj
        .exact Sq z (aS hj)
        .exact hc z (aS hj)
       obtain⟨cs',r1,r2,r3,r4⟩:=ih pc cs1 EU cs hf hA2 hc1 hr λp hp=>hρ p (by simp[hp]);refine⟨cs',?_,r2,r3,tr⟩;simp only[iQ,Instr.fill,hpl];rw[if_neg (by simp only[hv1,Array.size,qZ,zu,not_or];omega)];have hz0:(ρ' y).cells.zipIdx=(⟨vs'.zipIdx 0⟩:Array (ah×Nat)):=by rw[hv1];simp
       rw[hz0];have hfl:Array.foldl (λcs (x:ah×Nat)=>match x with|(c,j)=>cs.setIfInBounds (off+j) c) (⟨zs'⟩:Array ah) (⟨vs'.zipIdx 0⟩:Array (ah×Nat))=⟨EU⟩:=by
        rw[<- hA1,<- Rv]
       rw[hfl];exact r1
      .cases hr
     .cases hr
end Go.Ideal
namespace Go.Ideal
variable {P:Program} {β:aI} {h:IH} {w:World}
variable{w':World}
def yC{s:Sem ah}{v:ah}{w:World}(h:s.run P w=.ok v w'):(do pure (.value (<- s)):Sem Next).run P w=.ok (.value v) w':=ud
def Sr{s:Sem Unit}{w:World}(h:s.run P w=.ok () w'):(do s;pure .skip:Sem Next).run P w=.ok .skip w':=ud
variable{t:aC}{cs cs':ae ah}{s:Sem Next}
def Su(hcs:aZ β cs cs')(hc:cs.all cellV=true)
 (hr:s.run P w=.ok (.value (.pointer (some ⟨w.heap.size,0,none⟩))) {w with heap:=w.heap.push (.cells ⟨cs'⟩ t)}):
 vW P β w s (λi=>.pointer (some ⟨i,0,none⟩)) (.cells cs):=by
 refine⟨_,_,⟨w.heap.size,0,cs.length,cs.length+0,0⟩,hr,rfl,λi β' hle hi=>⟨?_,?_⟩⟩
 .have:=VR.ptr (β:=β') (o:=0) hi;exact this
 .exact pZ
variable{n:Nat}
def Sv{c:Nat}(hn:n<=c)(hcs:aZ β cs cs')(hc:cs.all cellV=true)
 (hr:s.run P w=.ok (.value (.slice (some ⟨w.heap.size,0,none⟩) n c)) {w with heap:=w.heap.push (.cells ⟨cs'⟩ t)}):
 vW P β w s (λi=>.slice (Ba i 0) n c) (.cells cs):=by
 refine⟨_,_,⟨w.heap.size,0,cs.length,cs.length+0,0⟩,hr,rfl,λi β' hle hi=>⟨?_,?_⟩⟩
 .exact VR.aA hi rfl hn (.inr ⟨rfl,rfl⟩)
 .exact pZ
def zM(h:xk P t=some cs):
 ∃z i,P.info? t=some i/\i.zero=some z/\z.cells=⟨cs⟩/\gu cs=true/\jY P t=some cs.length:=by
 unfold xk at h;split at h
 .rename_i z n hz hn;split at h
  .rename_i hh;cases h;obtain⟨i,h1,h2,h3⟩:=C8 hz;exact⟨z,i,h1,h2,rfl,hh.2,by rw[hh.1];exact hn⟩
  .cases h
 .cases h
def Sw(f:Nat->ah):Array.map f (Array.range 0)= #[]:=aaR tt
variable{type e:aC}{dst:ak Tmp}{pos:String}{after:Array Edge}{guard:ak (Nat×Bool)}{c:aH}{ρ ρ':ay->ah}{f:Nat->ah}{ob:bO}
def aa9
 (hc:cop P ⟨dst,.alloc e,type,pos,after,guard⟩=some c) (ha:c.alloc ρ=some (f,ob)):vW P β w (execOp ρ' ⟨dst,.alloc e,type,pos,after,guard⟩) f ob:=by
 simp only[cop]at hc;split at hc
 .rename_i cs hz;cases hc;simp only[aH.alloc]at ha;cases ha;obtain⟨z,i,h1,h2,h3,h4,_⟩:=zM hz;refine Su (t:=e) (aZ.free h4) (vV h4) ?_;simp[execOp,Instr.alloc,zeroValue,typeInfo,h1,h2,newVar,newRow,h3]
 .cases hc
def aba{x:ay}
 (hc:cop P ⟨dst,.box e x,type,pos,after,guard⟩=some c) (ha:c.alloc ρ=some (f,ob)) (hx:VR β (ρ x) (ρ' x)):vW P β w (execOp ρ' ⟨dst,.box e x,type,pos,after,guard⟩) f ob:=by
 simp only[cop,aF]at hc;subst hc;simp only[aH.alloc]at ha;split at ha
 .rename_i cs hcs;cases ha;obtain⟨h1,cs',h2,h3⟩:=hx.cells hcs;refine Su (t:=e) h3 h1 ?_;simp[execOp,Instr.box,newVar,newRow,h2]
 .cases ha
def abb{r:ak ay}
 (hc:cop P ⟨dst,.makeMap t r,type,pos,after,guard⟩=some c) (ha:c.alloc ρ=some (f,ob)):vW P β w (execOp ρ' ⟨dst,.makeMap t r,type,pos,after,guard⟩) f ob:=by
 cases r with
 |some r=>simp[cop]at hc
 |none=>
  simp only[cop,aF]at hc;subst hc;simp only[aH.alloc]at ha;cases ha;refine⟨.map (some w.heap.size),.map #[] 0,⟨w.heap.size,0,0,0,0⟩,?_,rfl,λi β' hle hi=>⟨?_,?_⟩⟩
  .simp[execOp,Instr.makeMap]
  .have:=VR.map (β:=β') hi;exact this
  .exact⟨#[],tt,.nil⟩
def abd(z:ae ah)(n:Nat)(hz:z≠[]):∀j,(zeros z n)[j]? =if j<n*z.length then z[j%z.length]? else none:=by
 induction n with
 |zero=>intro j;show([]:ae ah)[j]? =_;simp
 |succ n ih=>
  intro j;have hpos:0<z.length:=CF.2 hz;show(lC z (zeros z n))[j]? =_;rw[jQ];by_cases hj:j<z.length
  .rw[pG hj,if_pos (by rw[Nat.succ_mul];omega),Nat.mod_eq_of_lt hj]
  .rw[rq tr,ih];have:(j - z.length)%z.length=j%z.length:=by
    rw[<- Nat.mod_eq_sub_mod tr]
   rw[this];by_cases hl:j<(n+1)*z.length
   .rw[if_pos hl,if_pos A6]
   .rw[if_neg hl,if_neg A6]
def zN{z:ae ah}(hz:gu z=true)(n:Nat):gu (zeros z n)=true:=by
 have happ:∀(a b:ae ah),gu a=true->gu b=true->gu (a++b)=true:=by
  intro a b ha hb;induction a with
  |nil=>exact hb
  |cons x a ih=>simp[gu]at ha⊢;exact⟨ha.1,ih ha.2⟩
 induction n with
 |zero=>rfl
 |succ n ih=>show gu (lC z (zeros z n))=true;rw[jQ];exact happ _ _ hz ih
def IB(z:ae ah)(n:Nat)(hz:z≠[]):(Array.range (n*z.length)).map (λj=>(⟨z⟩:Array ah)[j%(⟨z⟩:Array ah).size]!)=⟨zeros z n⟩:=by
 have hpos:0<z.length:=CF.2 hz;apply Array.ext';apply jW;intro j;show _=(zeros z n)[j]?;rw[abd z n hz];simp only[Ml,Array.toList_range,dN];by_cases hj:j<n*z.length
 .rw[if_pos hj,ru hj];have hm:j%z.length<z.length:=Nat.mod_lt _ hpos;simp[hm]
 .rw[if_neg hj,iq tG];rfl
def uF(h:ou P t=some n):jY P t=some n/\0<n:=by
 unfold ou at h;split at h
 .cases h
 .rename_i h2;refine⟨h,?_⟩;rcases Mm n with h0|h0
  .subst h0;exact absurd h h2
  .exact h0
def abe{l k:ay}
 (hc:cop P ⟨dst,.makeSlice t l k,type,pos,after,guard⟩=some c) (ha:c.alloc ρ=some (f,ob)) (hl:VR β (ρ l) (ρ' l)) (hk:VR β (ρ k) (ρ' k)):
 vW P β w (execOp ρ' ⟨dst,.makeSlice t l k,type,pos,after,guard⟩) f ob:=by
 simp only[cop]at hc;split at hc
 .rename_i e hu;split at hc
  .rename_i s z hs hz;cases hc;simp only[aH.alloc]at ha;obtain⟨zv,i,h1,h2,h3,h4,h5⟩:=zM hz;obtain⟨hs1,hs2⟩:=uF hs;rw[h5]at hs1;have hzl:z.length=s:=by simpa using hs1
   split at ha
   .rename_i ln cn hln hcn;rw[hln]at hl;rw[hcn]at hk;have hl':=hl.nO;have hk':=hk.nO;simp only[h1,lg,Option.get!_some]at ha;cases hcond:(ln.ble cn&&(cn.mul i.bytes).ble small&&(cn.mul s).ble small&&cn.ble small)with
    |false=>rw[hcond]at ha;cases ha
    |true=>
     rw[hcond]at ha;simp only[cond_true,aF,dx]at ha;obtain⟨rfl,rfl⟩:=ha;simp only[dI]at hcond;obtain⟨⟨⟨c1,c2⟩,c3⟩,c4⟩:=hcond;have c1:=lQ c1;have c2:=lQ c2;have c4:=lQ c4;unfold small at c2 c4;have hwl:IntKind.i64.wrap (Int.ofNat ln)=ln:=by
      exact IntWalk.i64_in _ tG
     have hwc:IntKind.i64.wrap (Int.ofNat cn)=cn:=by
      exact IntWalk.i64_in _ tG
     refine Sv (t:=e) c1 (aZ.free (zN h4 cn)) (vV (zN h4 cn)) ?_;have EW:z≠[]:=λe=>by subst e;simp at hzl;omega
     have hbig:¬((i.bytes:Int)*(cn:Int)>281474976710656):=by
      rw[<- Int.natCast_mul,Nat.mul_comm];have c2':cn*i.bytes<=1073741824:=c2;omega
     have hsz:((cn:Int)).toNat=cn:=tt
     have hsz2:((ln:Int)).toNat=ln:=tt
     have hzs:(⟨z⟩:Array ah).size=s:=hzl;simp only[execOp,Instr.makeSlice,dF,fV hu,dH,hl',hk',asInt,asIntOf,fD,ET h1,hwl,hwc,Int.reducePow];rw[if_neg (by simp only[qZ,zu,not_or];omega)];simp only[hsz,hsz2,dF,run_askRoom,dH,nN h5,hzl];by_cases h0:cn*s=0
     .rw[if_pos h0];have abf:cn=0:=by
       exact r6
      subst abf;have hz0:zeros z 0=[]:=rfl;simp[newRow,hz0,Sw]
     .rw[if_neg h0];have hzz:zeroOf P e=some zv:=by
       exact iv
      have hrow:=IB z cn EW;rw[hzl]at hrow;simp only[dF,C9 hzz,dH,h3,fD,newRow,run_newObj,hrow]
   .cases ha
  .cases hc
 .cases hc
def F2.of_map{γ δ:Type}{R:γ->δ->Prop}(f:γ->δ)(l:ae γ)(h:∀x∈l,R x (f x)):F2 R l (l.map f):=by
 exact lR
section
variable {dst:ak Tmp} {type:aC} {pos:String} {after:Array Edge} {guard:ak (Nat×Bool)} {c:aH} {ρ ρ':ay->ah} {f:Nat->ah} {ob:bO} {v:ah} {h':IH}
variable{t:aC}{parts:Array (Nat×ay)}
def abg{len:Nat}
 (hc:cop P ⟨dst,.buildSlice t len parts,type,pos,after,guard⟩=some c) (ha:c.alloc ρ=some (f,ob)) (hρ:∀p∈parts.toList,VR β (ρ p.2) (ρ' p.2)):
 vW P β w (execOp ρ' ⟨dst,.buildSlice t len parts,type,pos,after,guard⟩) f ob:=by
 simp only[cop]at hc;split at hc
 .rename_i e hu;split at hc
  .rename_i s z hs hz;split at hc
   .rename_i hle;cases hc;simp only[aH.alloc]at ha;split at ha
    .rename_i cs hcs;cases ha;obtain⟨zv,i,h1,h2,h3,h4,h5⟩:=zM hz;obtain⟨hs1,hs2⟩:=uF hs;rw[h5]at hs1;have hzl:z.length=s:=by simpa using hs1
     have EW:z≠[]:=λe=>by subst e;simp at hzl;omega
     obtain⟨cs',r1,r2,r3,_⟩:=M5 (β:=β) (place:=λi=>some (i*s,s)) (ρ:=ρ) (ρ':=ρ') parts.toList _ (zeros z len) (zeros z len) cs
      (F2.of_map (λp=>(p.1*s,s,p.2)) _ λp _=>⟨rfl,rfl⟩) (aZ.free (zN h4 len)) (vV (zN h4 len)) hcs hρ
     refine Sv (t:=e) (bQ _) r2 r3 ?_;have hzz:zeroOf P e=some zv:=by
      exact iv
     have hrow:=IB z len EW;rw[hzl]at hrow;have hpl:(parts.map λ(x:Nat×ay)=>match x with|(i,x)=>(i,ρ' x)).toList=parts.toList.map λp=>(p.1,ρ' p.2):=tt
     simp only[execOp,Instr.buildSlice,dF,fV hu,dH,nN h5,hzl,hpl];rw[if_neg tr];simp only[dF,dH,fD];by_cases h0:len*s=0
     .have hl0:len=0:=by
       exact r6
      subst hl0;rw[if_pos h0];have hz0:(Array.map (λx=>(#[]:Array ah)[x%(#[]:Array ah).size]!) (Array.range (0*s)))=⟨zeros z 0⟩:=by rw[h0];exact Sw _
      simp only[dF,fD,dH,hz0,r1,newRow,run_newObj]
     .rw[if_neg h0];simp only[dF,C9 hzz,dH,h3,fD,hrow,r1,newRow,run_newObj]
    .cases ha
   .cases hc
  .cases hc
 .cases hc
variable{x:ay}
def abh(hc:cop P ⟨dst,.move x,type,pos,after,guard⟩=some c)(hr:c.run P ρ h=some (v,h'))(hx:VR β (ρ x) (ρ' x))(hW:WR P β h w):
 Good P β h w (execOp ρ' ⟨dst,.move x,type,pos,after,guard⟩) v h':=by
 simp only[cop,aF]at hc;subst hc;simp only[aH.run,aF,dx]at hr;obtain⟨rfl,rfl⟩:=hr;exact Good.same hW (v':=ρ' x) (by simp[execOp]) hx
def abj(hc:cop P ⟨dst,.assign x,type,pos,after,guard⟩=some c)(hr:c.run P ρ h=some (v,h'))(hx:VR β (ρ x) (ρ' x))(hW:WR P β h w):
 Good P β h w (execOp ρ' ⟨dst,.assign x,type,pos,after,guard⟩) v h':=by
 simp only[cop,aF]at hc;subst hc;simp only[aH.run,aF,dx]at hr;obtain⟨rfl,rfl⟩:=hr;exact Good.same hW (v':=ρ' x) (by simp[execOp]) hx
variable{y:ay}
def abk{z:ay}(hc:cop P ⟨dst,.pick x y z,type,pos,after,guard⟩=some c)(hr:c.run P ρ h=some (v,h'))(hx:VR β (ρ x) (ρ' x))(hy:VR β (ρ y) (ρ' y))(hz:VR β (ρ z) (ρ' z))(hW:WR P β h w):
 Good P β h w (execOp ρ' ⟨dst,.pick x y z,type,pos,after,guard⟩) v h':=by
 simp only[cop,aF]at hc;subst hc;simp only[aH.run]at hr;split at hr
 .rename_i t ht;rw[ht]at hx;have hx':=hx.Iz;simp only[aF,dx]at hr;obtain⟨rfl,rfl⟩:=hr;cases t
  .exact Good.same hW (v':=ρ' z) (by simp[execOp,hx',asBool]) hz
  .exact Good.same hW (v':=ρ' y) (by simp[execOp,hx',asBool]) hy
 .cases hr
variable{fs:Array Field}
def run_places(hall:fs.toList.all (λf=>(jY P f.type).isSome)=true)(w:World):
 ∃pl:Array (Nat×Nat),(fs.mapM λf=>do pure (f.offset,<- sizeOf f.type):Sem (Array (Nat×Nat))).run P w=.ok pl w/\∀(i:Nat) fd,fs[i]? =some fd->∃s,jY P fd.type=some s/\pl[i]? =some (fd.offset,s):=by
 obtain⟨l⟩:=fs;have key:∀l:ae Field,l.all (λf=>(jY P f.type).isSome)=true->
  ∃pl:ae (Nat×Nat),(l.mapM λf=>do pure (f.offset,<- sizeOf f.type):Sem (ae (Nat×Nat))).run P w=.ok pl w/\∀(i:Nat) fd,l[i]? =some fd->∃s,jY P fd.type=some s/\pl[i]? =some (fd.offset,s):=by
  intro l;induction l with
  |nil=>intro _;exact⟨[],tt,λi fd hi=>by simp at hi⟩
  |cons x l ih=>
   intro hl;simp only[CE,dI]at hl;obtain⟨pl,h1,h2⟩:=ih hl.2;obtain⟨s,hs⟩:=Rw.1 hl.1;refine⟨(x.offset,s)::pl,?_,λi fd hi=>?_⟩
   .simp only[List.mapM_cons,dF,nN hs,dH,fD,h1]
   .cases i with
    |zero=>simp at hi;subst hi;exact⟨s,hs,tt⟩
    |succ i=>simp at hi;obtain⟨s',a,b⟩:=h2 i fd hi;exact⟨s',a,by simpa using b⟩
 obtain⟨pl,h1,h2⟩:=key l hall;refine⟨⟨pl⟩,?_,λi fd hi=>?_⟩
 .rw[List.mapM_toArray,Sem.run_map,h1];rfl
 .obtain⟨s,a,b⟩:=h2 i fd (by simpa using hi);exact⟨s,a,by simpa using b⟩
def abl{pl:Array (Nat×Nat)}(hpl:∀(i:Nat) fd,fs[i]? =some fd->∃s,jY P fd.type=some s/\pl[i]? =some (fd.offset,s)):
 ∀(parts:ae (Nat×ay)) (ps:ae (Nat×Nat×ay)),zD P fs parts=some ps->F2 (λ(p:Nat×ay) (q:Nat×Nat×ay)=>q.2.2=p.2/\pl[p.1]? =some (q.1,q.2.1)) parts ps:=by
 intro parts;induction parts with
 |nil=>intro ps h;simp[zD]at h;subst h;exact .nil
 |cons p parts ih=>
  intro ps h;obtain⟨i,x⟩:=p;simp only[zD]at h;split at h
  .rename_i fd r EX hr;split at h
   .rename_i s hs;cases h;refine .cons ⟨rfl,?_⟩ (ih r hr);obtain⟨s',a,b⟩:=hpl i fd EX;rw[hs]at a;cases a;exact b
   .cases h
  .cases h
def abm(hc:cop P ⟨dst,.build t parts,type,pos,after,guard⟩=some c)(hr:c.run P ρ h=some (v,h'))(hρ:∀p∈parts.toList,VR β (ρ p.2) (ρ' p.2))(hW:WR P β h w):
 Good P β h w (execOp ρ' ⟨dst,.build t parts,type,pos,after,guard⟩) v h':=by
 have hpl:(parts.map λ(x:Nat×ay)=>match x with|(i,x)=>(i,ρ' x)).toList=parts.toList.map λp=>(p.1,ρ' p.2):=tt
 simp only[cop]at hc;split at hc
 .rename_i fs z hu hz;split at hc
  .rename_i ps hps;cases hc;simp only[aH.run]at hr;split at hr
   .rename_i cs hcs;simp only[aF,dx]at hr;obtain⟨rfl,rfl⟩:=hr;obtain⟨zv,i,h1,h2,h3,h4,h5⟩:=zM hz;unfold placesOf at hps;split at hps
    .rename_i hall;obtain⟨pl,q1,q2⟩:=run_places (P:=P) hall w;obtain⟨cs',r1,r2,r3,_⟩:=M5 (β:=β) (place:=λi=>pl[i]?) (ρ:=ρ) (ρ':=ρ') parts.toList ps z z cs (abl q2 _ _ hps) (aZ.free h4) (vV h4) hcs hρ;refine Good.same hW (v':=.agg ⟨cs'⟩) ?_ (.agg r3 r2);simp only[execOp,Instr.build,dF,zeroValue,ET h1,h2,dH,fD,h3,fV hu,q1,hpl,r1]
    .cases hps
   .cases hr
  .cases hc
 .rename_i n e z hu hz;split at hc
  .rename_i s hs;cases hc;simp only[aH.run]at hr;split at hr
   .rename_i cs hcs;simp only[aF,dx]at hr;obtain⟨rfl,rfl⟩:=hr;obtain⟨zv,i,h1,h2,h3,h4,h5⟩:=zM hz;obtain⟨hs1,hs2⟩:=uF hs;obtain⟨cs',r1,r2,r3,_⟩:=M5 (β:=β) (place:=λi=>some (i*s,s)) (ρ:=ρ) (ρ':=ρ') parts.toList _ z z cs (F2.of_map (λp=>(p.1*s,s,p.2)) _ λp _=>⟨rfl,rfl⟩) (aZ.free h4) (vV h4) hcs hρ;refine Good.same hW (v':=.agg ⟨cs'⟩) ?_ (.agg r3 r2);simp only[execOp,Instr.build,dF,zeroValue,ET h1,h2,dH,fD,h3,fV hu,nN hs1,hpl,r1]
   .cases hr
  .cases hc
 .cases hc
def abn(hc:cop P ⟨dst,.load t x,type,pos,after,guard⟩=some c)(hr:c.run P ρ h=some (v,h'))(hx:VR β (ρ x) (ρ' x))(hW:WR P β h w):
 Good P β h w (execOp ρ' ⟨dst,.load t x,type,pos,after,guard⟩) v h':=by
 simp only[cop]at hc;split at hc
 .rename_i hagg;cases hs:jY P t with
  |none=>simp[hs]at hc
  |some n=>
   simp only[hs,lg,aF]at hc;subst hc;simp only[aH.run]at hr;split at hr
   .rename_i i o ha;rw[ha]at hx;obtain⟨g,hg,hx'⟩:=hx.vX;split at hr
    .rename_i cs hcs;simp only[aF,dx]at hr;obtain⟨rfl,rfl⟩:=hr;obtain⟨blk,hb,hl⟩:=Db hcs;obtain⟨l1,l2,l',l3,l4⟩:=Iu hW hg hb hl;obtain⟨d,hd⟩:=Sk hagg;refine Good.same hW (v':=.agg ⟨l'⟩) ?_ (.agg l2 l3);have:=MZ (P:=P) (n:=n) (by rw[l3.length,l1]) l4;simp[execOp,Instr.loadAt,Instr.sureAddr,hx',loadVar,Da hd,hagg,nN hs,this]
    .cases hr
   .cases hr
 .rename_i hagg;split at hc
  .rename_i d hd;cases hc;simp only[aH.run]at hr;split at hr
   .rename_i i o ha;rw[ha]at hx;obtain⟨g,hg,hx'⟩:=hx.vX;split at hr
    .rename_i u hu0;simp only[aF,dx]at hr;obtain⟨rfl,rfl⟩:=hr;obtain⟨cs,hcs,hu⟩:=Sm hu0;have h7:∀(j:Nat) v,cs[j]? =some v->∃v',w.cell? ⟨g.b,g.off+j,none⟩=some v'/\VR β v v':=by
      rcases hcs with hcs|hcs
      .obtain⟨_,_,_,_,_,h7⟩:=hW.obj i g _ hg hcs;exact h7
      .obtain⟨_,_,_,h7⟩:=hW.obj i g _ hg hcs;exact h7
     rw[rJ]at hu;obtain⟨v',a,b⟩:=h7 _ _ hu;refine Good.same hW (v':=v') ?_ b;have M7:kH P t=false:=by simpa using hagg
     simp[execOp,Instr.loadAt,Instr.sureAddr,hx',loadVar,Da hd,M7,a]
    .cases hr
   .cases hr
  .cases hc
def abo(hc:cop P ⟨dst,.store t x y,type,pos,after,guard⟩=some c)(hr:c.run P ρ h=some (v,h'))(hx:VR β (ρ x) (ρ' x))(hy:VR β (ρ y) (ρ' y))(hW:WR P β h w):
 Good P β h w (execOp ρ' ⟨dst,.store t x y,type,pos,after,guard⟩) v h':=by
 simp only[cop]at hc;cases hs:jY P t with
 |none=>simp[hs]at hc
 |some n=>
  simp only[hs,lg,aF]at hc;subst hc;simp only[aH.run]at hr;split at hr
  .rename_i i o vs ha hv;rw[ha]at hx;obtain⟨g,hg,hx'⟩:=hx.vX;cases hb:Nat.beq (je vs) n with
   |false=>rw[hb]at hr;cases hr
   |true=>
    rw[hb]at hr;simp only[cond_true]at hr;split at hr
    .rename_i h1 hst;simp only[aF,dx]at hr;obtain⟨rfl,rfl⟩:=hr;obtain⟨c1,vs',c2,c3⟩:=hy.cells hv;obtain⟨m1,m2,m3⟩:=Iw hW hg hst c3 c1;refine⟨.skip,_,β,undef,?_,.inr ⟨rfl,rfl⟩,.dR _,m2,m3⟩;have hlen:vs'.length=n:=by rw[c3.length,<- yz];exact qY hb
     have hsz:((ρ' y).cells.size≠n)=False:=by simp[c2,hlen]
     simp[execOp,Instr.storeAt,Instr.sureAddr,hx',storeVar,nN hs,hsz,c2,m1 0 rfl,hlen]
    .cases hr
  .cases hr
end
end Go.Ideal
namespace Go.Ideal
variable {P:Program} {β:aI} {h:IH} {w:World}
section
variable {dst:ak Tmp} {type:aC} {pos:String} {after:Array Edge} {guard:ak (Nat×Bool)} {c:aH} {ρ ρ':ay->ah} {v:ah} {h':IH}
variable{x:ay}
def abp(hc:cop P ⟨dst,.nilCheck x,type,pos,after,guard⟩=some c)(hr:c.run P ρ h=some (v,h'))(hx:VR β (ρ x) (ρ' x))(hW:WR P β h w):
 Good P β h w (execOp ρ' ⟨dst,.nilCheck x,type,pos,after,guard⟩) v h':=by
 simp only[cop,aF]at hc;subst hc;simp only[aH.run]at hr;split at hr<;>simp only[aF,dx,reduceCtorEq]at hr
 .rename_i a ha;obtain⟨rfl,rfl⟩:=hr;rw[ha]at hx;refine Good.same hW (v':=ρ' x) ?_ hx;have:∃a',ρ' x=.pointer (some a'):=by
   generalize ρ' x=u at hx;cases hx with|ptr hi=>exact⟨_,rfl⟩
  obtain⟨a',e⟩:=this;simp[execOp,e]
 .rename_i t u ha;obtain⟨rfl,rfl⟩:=hr;rw[ha]at hx;refine Good.same hW (v':=ρ' x) ?_ hx;obtain⟨u',_,e⟩:=hx.Bn;simp[execOp,e]
 .rename_i f first captured ha
  exact c9
 .rename_i t n first captured ha
  exact c9
 .rename_i l first captured ha
  exact c9
def uG(a b:Int):leZ a b=decide (a<=b):=by
 cases a<;>cases b<;>simp only[leZ]
 .rename_i x y;rw[um];simp[wV]
 .rename_i x y;simp;omega
 .rename_i x y;simp;omega
 .rename_i x y;rw[um];simp[wV];omega
def EY(a b:Int):CP a b=(a==b):=by
 cases a<;>cases b<;>simp only[CP]
 .rename_i x y;rw[um];simp[Nat.beq_eq];omega
 .rfl
 .rfl
 .rename_i x y;rw[um];simp[Nat.beq_eq]
def M8(a b:Int):R8 a b=a+b:=by cases a<;>cases b<;>rfl
def Sy(a b:Int):MM a b=a - b:=by
 cases a<;>cases b<;>simp only[MM]
 rename_i x y;cases hb:Nat.ble y x with
 |true=>
  have:=lQ hb;show Int.ofNat (x - y)=_;simp;omega
 |false=>
  have:¬y<=x:=λhh=>by rw[Hr hh]at hb;cases hb
  show Int.negSucc ((y - x).pred)=_;simp[Int.negSucc_eq,Nat.pred_eq_sub_one];omega
def IC(k:IntKind)(n:Int):EI k n=k.wrap n:=by
 have hmax:ML=9223372036854775807:=rfl;have key:∀n:Int, -9223372036854775808<=n/\n<=9223372036854775807->n=IntKind.i64.wrap n:=λn hn=>(IntWalk.i64_in n hn).symm;unfold EI;split
 .rename_i m;cases hb:Nat.ble m ML with
  |true=>have:=lQ hb;exact(cond_true _ _).trans (key _ (by rw[Int.ofNat_eq_natCast];omega))
  |false=>exact cond_false _ _
 .rename_i m;cases hb:Nat.ble m 1000000 with
  |true=>
   have h1:=lQ hb;have h2:(-1000001:Int)<=Int.negSucc m:=by rw[Int.negSucc_eq];omega
   have h3:Int.negSucc m<=0:=by rw[Int.negSucc_eq];omega
   exact(cond_true _ _).trans (key _ ⟨Int.le_trans tA h2,Int.le_trans h3 tA⟩)
  |false=>exact cond_false _ _
 .rfl
variable{k:IntKind}
def Sz{j:IntKind}(h:vN j k=true):j=k:=by
 cases j<;>cases k<;>first|rfl|(simp[vN]at h)
variable{t:aC}{op:BinOp}
def abq{a b:Int}{v:ah}(h:qp op k a b=some v)(w:World):(binOp op t (.int k a) (.int k b)).run P w=.ok v w:=by
 unfold qp at h;split at h<;>simp only[aF,reduceCtorEq]at h<;>subst h
 .simp[binOp,Op.intArith,IC,M8]
 .simp[binOp,Op.intArith,IC,Sy]
 .simp[binOp,Op.intCmp,EY]
 .simp[binOp,Op.intCmp,EY];rfl
 .exact mS
 .exact mS
 .exact mS
 .exact mS
def M9(op:BinOp)(t:aC)(x y:ay)(a b:ah)(w:World)(h1:∀u,a≠.agg u)(h2:¬(a=.nilIface/\b=.nilIface)):(eqGuard op t x y a b).run P w=.ok () w:=by
 cases op<;>first
  |rfl
  |(cases a<;>first
   |rfl
   |exact absurd rfl (h1 _)
   |(cases b<;>first
    |rfl
    |exact absurd ⟨rfl,rfl⟩ h2))
def abr(d:Nat){t:aC}{a b a' b':ah}{r:Bool}(h:uC P t a b=some r)(ha:VR β a a')(hb:VR β b b')(w:World):
 (Op.equalIn (d+1) t a' b').run P w=.ok r w/\(∀u,a'≠.agg u)/\¬(a'=.nilIface/\b'=.nilIface)/\(∀k n,a'≠.int k n)/\(∀s,a'≠.string s)/\(∀k n,a'≠.float k n)/\(∀k n m,a'≠.complex k n m):=by
 cases hu:P.underlying t with
 |none=>unfold uC at h;simp[hu]at h
 |some ty=>
  unfold uC at h;rw[hu]at h;split at h<;>simp only[aF,reduceCtorEq]at h<;>subst h
  all_goals
   have he:=‹some ty=some _›;obtain rfl:=Option.some.inj he;cases ha<;>cases hb<;>refine⟨?_,tt,tt,tt,tt,tt,tt⟩<;>(unfold Op.equalIn;simp only[dF,fV hu,dH];rfl)
def SA{a b a' b':ah}{r:Bool}(h:uC P t a b=some r)(ha:VR β a a')(hb:VR β b b')(w:World):
 (Op.equal t a' b').run P w=.ok r w/\(∀u,a'≠.agg u)/\¬(a'=.nilIface/\b'=.nilIface)/\(∀k n,a'≠.int k n)/\(∀s,a'≠.string s)/\(∀k n,a'≠.float k n)/\(∀k n m,a'≠.complex k n m):=
 abr 9999 h ha hb w
def EZ{s:Sem ah}{v:ah}(h:lT P s=some v):dZ P s=some v/\cz v=true:=by
 unfold lT at h;split at h
 .rename_i u hu;cases hf:cz u with
  |true=>rw[hf]at h;simp only[cond_true,aF]at h;subst h;exact⟨hu,hf⟩
  |false=>rw[hf]at h;cases h
 .cases h
variable{y:ay}
def abt{yt:aC}(hc:cop P ⟨dst,.binOp op t x y yt,type,pos,after,guard⟩=some c)(hr:c.run P ρ h=some (v,h'))(hx:VR β (ρ x) (ρ' x))(hy:VR β (ρ y) (ρ' y))(hW:WR P β h w):
 Good P β h w (execOp ρ' ⟨dst,.binOp op t x y yt,type,pos,after,guard⟩) v h':=by
 simp only[cop,aF]at hc;subst hc;simp only[aH.run]at hr;split at hr
 .rename_i u hu;simp only[aF,dx]at hr;obtain⟨rfl,rfl⟩:=hr;unfold mZ at hu;split at hu
  .
   rename_i v1 hv1;simp only[aF]at hu;subst hu;split at hv1
   .rename_i j m k n hm hn;cases hk:vN j k with
    |false=>rw[hk]at hv1;cases hv1
    |true=>
     rw[hk]at hv1;simp only[cond_true]at hv1;have:=Sz hk;subst this;rw[hm]at hx;rw[hn]at hy;have hx':=hx.nO;have hy':=hy.nO;have hfree:cz v1=true:=by
      unfold qp at hv1;split at hv1<;>simp only[aF,reduceCtorEq]at hv1<;>subst hv1<;>rfl
     refine Good.same hW (v':=v1) ?_ (VR.free hfree);simp only[execOp,hx',hy',dF,M9 op t x y (.int j m) (.int j n) w tt tt,dH,abq hv1,fD]
   .cases hv1
  .cases hf:cz (ρ x)&&cz (ρ y)with
   |true=>
    rw[hf]at hu;simp only[cond_true]at hu;simp only[dI]at hf;have hx':=hx.pR hf.1;have hy':=hy.pR hf.2;obtain⟨hu1,hu2⟩:=EZ hu;have hrun:=zI hu1 w;refine Good.same hW (v':=u) ?_ (VR.free hu2);simp only[execOp,hx',hy'];simp only[dF]at hrun⊢;rw[hrun];rfl
   |false=>
    rw[hf]at hu;simp only[cond_false]at hu;have SB:∀(a b:ah),(∀k n,a≠.int k n)->(∀s,a≠.string s)->(∀k n,a≠.float k n)->(∀k n m,a≠.complex k n m)->
     binOp .eql t a b=(do pure (.bool (<- Op.equal t a b)))/\binOp .neq t a b=(do pure (.bool (!(<- Op.equal t a b)))):=by
     intro a b h1 h2 h3 h4;constructor<;>unfold binOp<;>cases a<;>first|rfl|exact absurd rfl (h1 _ _)|exact absurd rfl (h2 _)|exact absurd rfl (h3 _ _)|exact absurd rfl (h4 _ _ _)
    split at hu
    .split at hu
     .rename_i r hr2;simp only[aF]at hu;subst hu;obtain⟨e1,e2,e3,e4,e5,e6,e7⟩:=SA hr2 hx hy w;refine Good.same hW (v':=.bool r) ?_ (.bool r);simp only[execOp,dF,M9 _ t x y _ _ w e2 e3,dH,(SB _ _ e4 e5 e6 e7).1,e1,fD]
     .cases hu
    .split at hu
     .rename_i r hr2;simp only[aF]at hu;subst hu;obtain⟨e1,e2,e3,e4,e5,e6,e7⟩:=SA hr2 hx hy w;refine Good.same hW (v':=.bool !r) ?_ (.bool _);simp only[execOp,dF,M9 _ t x y _ _ w e2 e3,dH,(SB _ _ e4 e5 e6 e7).2,e1,fD]
     .cases hu
    .cases hu
 .cases hr
def abu{op:UnOp}(hc:cop P ⟨dst,.unOp op t x,type,pos,after,guard⟩=some c)(hr:c.run P ρ h=some (v,h'))(hx:VR β (ρ x) (ρ' x))(hW:WR P β h w):
 Good P β h w (execOp ρ' ⟨dst,.unOp op t x,type,pos,after,guard⟩) v h':=by
 simp only[cop,aF]at hc;subst hc;simp only[aH.run]at hr;cases hf:cz (ρ x)with
 |false=>rw[hf]at hr;cases hr
 |true=>
  exact dr
def abv(hc:cop P ⟨dst,.makeInterface t x,type,pos,after,guard⟩=some c)(hr:c.run P ρ h=some (v,h'))(hx:VR β (ρ x) (ρ' x))(hW:WR P β h w):
 Good P β h w (execOp ρ' ⟨dst,.makeInterface t x,type,pos,after,guard⟩) v h':=by
 simp only[cop]at hc;split at hc
 .cases hc
 .rename_i d hni hu;cases hc;simp only[aH.run,aF,dx]at hr;obtain⟨rfl,rfl⟩:=hr;refine Good.same hW (v':=.iface t (ρ' x)) ?_ (.iface t hx);simp only[execOp,Instr.makeInterface,dF,fV hu,dH];cases d<;>first|rfl|exact absurd rfl (hni _)
 .cases hc
variable{fn:Fn}
def FR.refl(h:Ik fn=true):FR β fn fn:=by
 cases fn with
 |func f=>exact .func f
 |method n=>exact .method n
 |methodOf t n=>exact .methodOf t n
 |via=>simp[Ik]at h
 |yield l=>simp[Ik]at h
def abw{first captured:Array ay}(hc:cop P ⟨dst,.makeFunc fn first captured,type,pos,after,guard⟩=some c)(hr:c.run P ρ h=some (v,h'))
 (hf:∀x∈first.toList,VR β (ρ x) (ρ' x)) (hk:∀x∈captured.toList,VR β (ρ x) (ρ' x)) (hW:WR P β h w):
 Good P β h w (execOp ρ' ⟨dst,.makeFunc fn first captured,type,pos,after,guard⟩) v h':=by
 simp only[cop]at hc;split at hc
 .rename_i hfn;cases hc;simp only[aH.run,aF,dx]at hr;obtain⟨rfl,rfl⟩:=hr;refine Good.same hW (v':=.func fn (first.map ρ') (captured.map ρ')) (by simp[execOp,Instr.makeFunc]) ?_;have e1:first.map ρ'=⟨first.toList.map ρ'⟩:=by apply Array.ext';rw[Ml]
  have e2:captured.map ρ'=⟨captured.toList.map ρ'⟩:=by apply Array.ext';rw[Ml]
  rw[e1,e2];exact .func (FR.refl hfn) (aZ.of_map hf) (aZ.of_map hk)
 .cases hc
variable{n:Nat}
def abx{a:Addr}{f:Field}(hs:jY P f.type=some n)(hn:0<n)(w:World):(fieldPlace a f).run P w=.ok (a.add f.offset) w:=by
 simp only[fieldPlace,dF,nN hs,dH];rw[if_neg tr];rfl
variable{f:Nat}
def aby{s:aC}(hc:cop P ⟨dst,.fieldAddr s x f,type,pos,after,guard⟩=some c)(hr:c.run P ρ h=some (v,h'))(hx:VR β (ρ x) (ρ' x))(hW:WR P β h w):
 Good P β h w (execOp ρ' ⟨dst,.fieldAddr s x f,type,pos,after,guard⟩) v h':=by
 simp only[cop]at hc;split at hc
 .rename_i fs hu;split at hc
  .rename_i fd EX;cases hs:ou P fd.type with
   |none=>simp[hs]at hc
   |some n=>
    simp only[hs,lg,aF]at hc;subst hc;obtain⟨hs1,hs2⟩:=uF hs;simp only[aH.run]at hr;split at hr
    .rename_i i o ha;rw[ha]at hx;obtain⟨g,hg,hx'⟩:=hx.vX;simp only[aF,dx]at hr;obtain⟨rfl,rfl⟩:=hr;refine Good.same hW (v':=.pointer (some ⟨g.b,g.off+(o+fd.offset),none⟩)) ?_ (.ptr hg);simp only[execOp,Instr.fieldAt,dF,fV hu,dH,EX,hx',Instr.sureAddr,fD,abx hs1 hs2,addr_add,oM]
    .cases hr
  .cases hc
 .cases hc
def SC{cs cs':ae ah}{off:Nat}{d:TypeDesc}(hd:P.underlying t=some d)(hs:jY P t=some n)(hv:aZ β cs cs')(hall:cs.all cellV=true){v:ah}
 (hr:(match kH P t with
   |true=>match jN (kF cs off) n with
    |some l=>some (.agg ⟨l⟩:ah)
    |none=>none
   |false=>kE cs off)=some v) (w:World):∃v',(part t ⟨cs'⟩ off).run P w=.ok v' w/\VR β v v':=by
 cases hagg:kH P t with
 |true=>
  rw[hagg]at hr;simp only at hr;rw[qD,qw]at hr;split at hr
  .rename_i l hl;split at hl
   .rename_i hn;cases hl;simp only[aF]at hr;subst hr;refine⟨.agg ⟨(cs'.drop off).take n⟩,?_,.agg ?_ ((hv.drop off).take n)⟩
    .simp only[part,dF,Da hd,hagg,dH,if_true,nN hs,fD];congr 2;apply Array.ext';simp[Array.toList_extract,Rx]
    .rw[jL]at hall⊢;exact λx hx=>hall x (List.mem_of_mem_drop (Rq hx))
   .cases hl
  .cases hr
 |false=>
  rw[hagg]at hr;simp only at hr;rw[rJ]at hr;obtain⟨v',h1,h2⟩:=hv.get hr;refine⟨v',?_,h2⟩;simp only[part,dF,Da hd,hagg,dH,wW,if_false];have:(⟨cs'⟩:Array ah)[off]? =some v':=ur
  simp[this]
def abz(hc:cop P ⟨dst,.field t x f,type,pos,after,guard⟩=some c)(hr:c.run P ρ h=some (v,h'))(hx:VR β (ρ x) (ρ' x))(hW:WR P β h w):
 Good P β h w (execOp ρ' ⟨dst,.field t x f,type,pos,after,guard⟩) v h':=by
 simp only[cop]at hc;split at hc
 .rename_i fs hu;split at hc
  .rename_i fd EX;split at hc
   .rename_i n d hs hd;cases hc;simp only[aH.run]at hr;split at hr
    .rename_i cs ha;rw[ha]at hx;obtain⟨cs',h1,h2,hx'⟩:=hx.M3;have hr':h'=h/\(match kH P fd.type with
      |true=>match jN (kF cs fd.offset) n with
       |some l=>some (.agg ⟨l⟩:ah)
       |none=>none
      |false=>kE cs fd.offset)=some v:=by
      cases hagg:kH P fd.type with
      |true=>
       exact th
      |false=>
       exact th
     obtain⟨rfl,hr2⟩:=hr';obtain⟨v',p1,p2⟩:=SC hd hs h1 h2 hr2 w;refine Good.same hW (v':=v') ?_ p2;simp only[execOp,Instr.field,dF,fV hu,dH,EX,hx',asAgg,fD,p1]
    .cases hr
   .cases hc
  .cases hc
 .cases hc
def abA(hc:cop P ⟨dst,.indexAddr t x y,type,pos,after,guard⟩=some c)(hr:c.run P ρ h=some (v,h'))(hx:VR β (ρ x) (ρ' x))(hy:VR β (ρ y) (ρ' y))(hW:WR P β h w):
 Good P β h w (execOp ρ' ⟨dst,.indexAddr t x y,type,pos,after,guard⟩) v h':=by
 simp only[cop]at hc;split at hc
 .rename_i n e hu;cases hs:ou P e with
  |none=>simp[hs]at hc
  |some s=>
   simp only[hs,lg,aF]at hc;subst hc;obtain⟨hs1,hs2⟩:=uF hs;simp only[aH.run]at hr;split at hr
   .rename_i b o k i ha hi;rw[ha]at hx;rw[hi]at hy;obtain⟨g,hg,hx'⟩:=hx.vX;have hy':=hy.nO;cases hb:Nat.blt i n with
    |false=>rw[hb]at hr;cases hr
    |true=>
     rw[hb]at hr;simp only[cond_true,aF,dx]at hr;obtain⟨rfl,rfl⟩:=hr;have hlt:i<n:=us
     refine Good.same hW (v':=.pointer (some ⟨g.b,g.off+Nat.add o (Nat.mul i s),none⟩)) ?_ (.ptr hg);simp only[execOp,Instr.indexAt,dF,hy',asIntOf,fD,dH,fV hu,hx',Instr.sureAddr];exact qn
   .cases hr
 .rename_i e hu;cases hs:ou P e with
  |none=>simp[hs]at hc
  |some s=>
   simp only[hs,lg,aF]at hc;subst hc;obtain⟨hs1,hs2⟩:=uF hs;simp only[aH.run]at hr;split at hr
   .rename_i b o f n k' k i ha hi;rw[ha]at hx;rw[hi]at hy;obtain⟨g,a,c',hg,hx',ha1,ha2,hn,hcc,hoff,_⟩:=hx.ow;have hy':=hy.nO;cases hb:Nat.blt i n with
    |false=>rw[hb]at hr;cases hr
    |true=>
     rw[hb]at hr;simp only[cond_true,aF,dx]at hr;obtain⟨rfl,rfl⟩:=hr;have hlt:i<n:=us
     have hae:a=⟨g.b,g.off+o,none⟩:=by
      rcases hoff with h0|⟨h0,ha2⟩
      .omega
      .obtain⟨ab,ao,as⟩:=a;simp at ha1 ha2 h0;subst ha1 ha2 h0;rfl
     refine Good.same hW (v':=.pointer (some ⟨g.b,g.off+Nat.add o (Nat.mul i s),none⟩)) ?_ (.ptr hg);simp only[execOp,Instr.indexAt,dF,hy',asIntOf,fD,dH,fV hu,hx',hae];exact qn
   .cases hr
 .cases hc
def abB{i:Nat}(hc:cop P ⟨dst,.extract x i,type,pos,after,guard⟩=some c)(hr:c.run P ρ h=some (v,h'))(hx:VR β (ρ x) (ρ' x))(hW:WR P β h w):
 Good P β h w (execOp ρ' ⟨dst,.extract x i,type,pos,after,guard⟩) v h':=by
 simp only[cop,aF]at hc;subst hc;simp only[aH.run]at hr;split at hr
 .rename_i vs ha;split at hr
  .rename_i u hu;simp only[aF,dx]at hr;obtain⟨rfl,rfl⟩:=hr;rw[ha]at hx;rw[rJ]at hu;generalize hy:ρ' x=y at hx;cases hx with
   |dR=>simp at hu
   |tuple hl=>
    obtain⟨v',h1,h2⟩:=hl.get hu;refine Good.same hW (v':=v') ?_ h2;rename_i l';have:(⟨l'⟩:Array ah)[i]? =some v':=ur
    simp[execOp,Instr.extract,hy,this]
  .cases hr
 .cases hr
end
end Go.Ideal
namespace Go.Ideal
variable {P:Program} {β:aI} {h:IH} {w:World}
variable{m i:Nat}{v:ah}
def Bp(h:upTo m v=some i):∃k,v=.int k i/\i<=m:=by
 unfold upTo at h;split at h
 .rename_i k n;cases hb:Nat.ble n m with
  |true=>rw[hb]at h;simp only[cond_true,aF]at h;subst h;exact⟨k,rfl,lQ hb⟩
  |false=>rw[hb]at h;cases h
 .cases h
def yD{y:Nat}{code:BoundsCode}(h:upTo m v=some i)(hm:m<=y)(w:World):(Instr.sliceBound v y code).run P w=.ok i w:=by
 obtain⟨k,rfl,hle⟩:=Bp h;simp only[Instr.sliceBound,asIntOf,dF,fD,dH];rw[if_pos ⟨tr,tr⟩];simp
variable{len cap l hh:Nat}{lo hi mx:ak ah}
def E5(h:bounds? len cap lo hi mx=some (l,hh,m)):
 (∀v,mx=some v->upTo cap v=some m)/\(mx=none->m=cap)/\(∀v,hi=some v->upTo m v=some hh)/\(hi=none->mx=none/\hh=len)/\
 (∀v,lo=some v->upTo hh v=some l)/\(lo=none->l=0):=by
 unfold bounds? at h;split at h
 .cases h
 .rename_i m' hm;split at h
  .cases h
  .rename_i h1 hhi;split at h
   .cases h
   .rename_i l1 hlo;simp only[aF,dx]at h;obtain⟨rfl,rfl,rfl⟩:=h;refine⟨?_,?_,?_,?_,?_,?_⟩
    .rintro v rfl;exact hm
    .rintro rfl;simp at hm;exact hm.symm
    .rintro v rfl;exact hhi
    .rintro rfl;cases mx with
     |some v=>simp at hhi
     |none=>simp at hhi;exact⟨rfl,hhi.symm⟩
    .rintro v rfl;exact hlo
    .rintro rfl;simp at hlo;exact hlo.symm
def Na(h:bounds? len cap lo hi mx=some (l,hh,m))(hlc:len<=cap):l<=hh/\hh<=m/\m<=cap:=by
 obtain⟨h1,h2,h3,h4,h5,h6⟩:=E5 h;refine⟨?_,?_,?_⟩
 .cases lo with
  |some v=>obtain⟨_,_,hle⟩:=Bp (h5 v rfl);exact hle
  |none=>rw[h6 rfl];exact bP _
 .cases hi with
  |some v=>obtain⟨_,_,hle⟩:=Bp (h3 v rfl);exact hle
  |none=>obtain⟨q1,q2⟩:=h4 rfl;rw[q2,h2 q1];exact hlc
 .cases mx with
  |some v=>obtain⟨_,_,hle⟩:=Bp (h1 v rfl);exact hle
  |none=>rw[h2 rfl];exact bQ _
def IE{E8:Bool}{cap':Nat}(h:bounds? len cap lo hi mx=some (l,hh,m))(hc:cap<=cap')(w:World):
 (Instr.sliceBounds E8 len cap' lo hi mx).run P w=.ok (l,hh,if mx.isSome then m else cap') w:=by
 obtain⟨h1,h2,h3,h4,h5,h6⟩:=E5 h;unfold Instr.sliceBounds;cases mx with
 |some v=>
  have h1:=h1 v rfl;cases hi with
  |none=>exact absurd (h4 rfl).1 tt
  |some u=>
   have h3:=h3 u rfl;cases lo with
   |none=>have h6:=h6 rfl;subst h6;simp[yD h1 hc,yD h3 (bQ _)]
   |some x=>have h5:=h5 x rfl;simp[yD h1 hc,yD h3 (bQ _),yD h5 (bQ _)]
 |none=>
  have h2:=h2 rfl;subst h2;cases hi with
  |none=>
   obtain⟨_,rfl⟩:=h4 rfl;cases lo with
   |none=>have h6:=h6 rfl;subst h6;simp
   |some x=>have h5:=h5 x rfl;simp[yD h5 (bQ _)]
  |some u=>
   have h3:=h3 u rfl;cases lo with
   |none=>have h6:=h6 rfl;subst h6;simp[yD h3 hc]
   |some x=>have h5:=h5 x rfl;simp[yD h3 hc,yD h5 (bQ _)]
def Nc(h:bounds? len cap lo hi mx=some (l,hh,m)):(if mx.isSome then m else cap)=m:=by
 obtain⟨_,h2,_⟩:=E5 h;cases mx with
 |some v=>rfl
 |none=>rw[h2 rfl];rfl
def Nf{lo hi mx:ak ay}{ρ ρ':ay->ah}{r:Nat×Nat×Nat}(h:bounds? len cap (jP ρ lo) (jP ρ hi) (jP ρ mx)=some r)
 (hl:∀x,lo=some x->VR β (ρ x) (ρ' x)) (hh:∀x,hi=some x->VR β (ρ x) (ρ' x)) (hm:∀x,mx=some x->VR β (ρ x) (ρ' x)):
 lo.map ρ'=jP ρ lo/\hi.map ρ'=jP ρ hi/\mx.map ρ'=jP ρ mx:=by
 obtain⟨l,hi2,m⟩:=r;obtain⟨h1,_,h3,_,h5,_⟩:=E5 h;refine⟨?_,?_,?_⟩
 .cases lo with
  |none=>rfl
  |some x=>
   obtain⟨k,hk,_⟩:=Bp (h5 _ rfl);have:=hl x rfl;exact rK
 .cases hi with
  |none=>rfl
  |some x=>
   obtain⟨k,hk,_⟩:=Bp (h3 _ rfl);have:=hh x rfl;exact rK
 .cases mx with
  |none=>rfl
  |some x=>
   obtain⟨k,hk,_⟩:=Bp (h1 _ rfl);have:=hm x rfl;exact rK
section
variable {dst:ak Tmp} {type:aC} {pos:String} {after:Array Edge} {guard:ak (Nat×Bool)} {c:aH} {ρ ρ':ay->ah} {v:ah} {h':IH}
def abC{t:aC}{x:ay}{lo hi mx:ak ay}(hc:cop P ⟨dst,.slice t x lo hi mx,type,pos,after,guard⟩=some c)(hr:c.run P ρ h=some (v,h'))(hx:VR β (ρ x) (ρ' x))
 (hl:∀x,lo=some x->VR β (ρ x) (ρ' x)) (hh:∀x,hi=some x->VR β (ρ x) (ρ' x)) (hm:∀x,mx=some x->VR β (ρ x) (ρ' x)) (hW:WR P β h w):
 Good P β h w (execOp ρ' ⟨dst,.slice t x lo hi mx,type,pos,after,guard⟩) v h':=by
 simp only[cop]at hc;split at hc
 .
  rename_i hu;cases hc;simp only[aH.run]at hr;split at hr
  .rename_i s hs;split at hr
   .rename_i b hb;split at hr
    .rename_i u hu2;simp only[aF,dx]at hr;obtain⟨rfl,rfl⟩:=hr;obtain⟨h1,h2⟩:=EZ hu2;rw[hs]at hx;have hx':=hx.zK;obtain⟨e1,e2,e3⟩:=Nf hb hl hh hm;refine Good.same hW (v':=u) ?_ (VR.free h2);simp only[execOp,Instr.sliceAt,dF,fV hu,dH,hx',e1,e2,e3,zI h1 w,fD]
    .cases hr
   .cases hr
  .cases hr
 .
  rename_i n e hu;cases hs:ou P e with
  |none=>simp[hs]at hc
  |some s=>
   simp only[hs,lg,aF]at hc;subst hc;obtain⟨hs1,hs2⟩:=uF hs;simp only[aH.run]at hr;split at hr
   .rename_i i o ha;split at hr
    .rename_i l h1 m hb;simp only[aF,dx]at hr;obtain⟨rfl,rfl⟩:=hr;rw[ha]at hx;obtain⟨g,hg,hx'⟩:=hx.vX;obtain⟨e1,e2,e3⟩:=Nf hb hl hh hm;have b1:=IE (P:=P) (E8:=false) hb (bQ _) w;rw[Nc hb]at b1;have hlen:=Na hb (bQ _);refine Good.same hW (v':=.slice (some (if m=l then(⟨g.b,g.off+o,none⟩:Addr)else(⟨g.b,g.off+o,none⟩:Addr).add (l*s))) (h1 - l) (m - l)) ?_ ?_
     .simp only[execOp,Instr.sliceAt,dF,fV hu,dH,hx',Instr.sureAddr,fD,e1,e2,e3,b1,nN hs1]
     .refine .aA hg ?_ yb ?_
      .split<;>simp[addr_add]
      .by_cases hml:m=l
       .left;show m - l=0;omega
       .right;rw[if_neg hml,addr_add];simp[oM]
    .cases hr
   .cases hr
 .
  rename_i e hu;cases hs:ou P e with
  |none=>simp[hs]at hc
  |some s=>
   simp only[hs,lg,aF]at hc;subst hc;obtain⟨hs1,hs2⟩:=uF hs;simp only[aH.run]at hr;split at hr
   .rename_i a len cap ha;split at hr
    .rename_i l h1 m hb;rw[ha]at hx;obtain⟨e1,e2,e3⟩:=Nf hb hl hh hm;split at hr
     .
      simp only[aF,dx]at hr;obtain⟨rfl,rfl⟩:=hr;have hx':ρ' x=.slice none len cap:=by generalize ρ' x=y at hx;cases hx;rfl
      have b1:=IE (P:=P) (E8:=true) hb (bQ _) w;rw[Nc hb]at b1;refine Good.same hW (v':=.slice none (h1 - l) (m - l)) ?_ (.sl0 _ _);exact nv
     .
      rename_i i o;simp only[aF,dx]at hr;obtain⟨rfl,rfl⟩:=hr;obtain⟨g,a',c',hg,hx',ha1,ha2,hn,hcc,hoff,hkind⟩:=hx.ow;have hc':c'=cap:=by
       rcases hkind with hk|hk
       .exact hk.2
       .have:=hk.1;simp at this;omega
      subst hc';have b1:=IE (P:=P) (E8:=true) hb (bQ _) w;rw[Nc hb]at b1;have hlen:=Na hb hn;obtain⟨ab,ao,as⟩:=a';simp only at ha1 hoff;subst ha1;refine Good.same hW (v':=.slice (some (if m=l then(⟨g.b,ao,as⟩:Addr)else(⟨g.b,ao,as⟩:Addr).add (l*s))) (h1 - l) (m - l)) ?_ ?_
      .exact nv
      .refine .aA hg ?_ yb ?_
       .split
        .rfl
        .simp only[Addr.add];split<;>rfl
       .by_cases hml:m=l
        .left;show m - l=0;omega
        .right;rw[if_neg hml];rcases hoff with h0|⟨h0,hs0⟩
         .omega
         .subst h0 hs0;rw[addr_add];simp[oM]
     .
      rename_i i o k;cases hbk:Nat.beq (Nat.succ k) s with
      |false=>rw[hbk]at hr;cases hr
      |true=>
       rw[hbk]at hr;have hks:k+1=s:=qY hbk;simp only[cond_true,aF,dx]at hr;obtain⟨rfl,rfl⟩:=hr;obtain⟨g,a',c',hg,hx',ha1,ha2,hn,hcc,hoff,hkind⟩:=hx.ow;obtain⟨hsz,hpos,hl1,hl2,ha2⟩:g.sz=s/\0<g.sz/\o+cap*g.sz=g.len/\g.off+o+c'*g.sz=g.top/\a'.spot=none:=by
        rcases hkind with hk|hk
        .have:=hk.1;simp at this
        .have:=hk.1;simp at this;exact⟨tr,hk.2.1,hk.2.2.1,hk.2.2.2⟩
       have b1:=IE (P:=P) (E8:=true) hb hcc w;have hlen:=Na hb hn;have Ng:c'=0\/a'.off=g.off+o:=hoff.imp id (·.1);clear hoff;obtain⟨ab,ao,as⟩:=a';simp only at ha1 ha2 Ng;subst ha1 ha2;have hrun:∀m',(Instr.sliceBounds true len c' (jP ρ lo) (jP ρ hi) (jP ρ mx)).run P w=.ok (l,h1,m') w->
        (execOp ρ' ⟨dst,.slice t x lo hi mx,type,pos,after,guard⟩).run P w=.ok (.value (.slice (some (if m'=l then(⟨g.b,ao,none⟩:Addr)else(⟨g.b,ao,none⟩:Addr).add (l*s))) (h1 - l) (m' - l))) w:=by
        intro m' hm';simp only[execOp,Instr.sliceAt,Instr.slice,dF,fV hu,dH,hx',e1,e2,e3,hm',nN hs1,fD];split<;>rfl
       cases hmx:mx with
       |some xx=>
        subst hmx;have hmm:(if(jP ρ (some xx)).isSome then m else c')=m:=rfl;rw[hmm]at b1;refine Good.same hW (hrun m b1) ?_;refine .aA hg ?_ yb ?_
        .split<;>simp[addr_add]
        .by_cases hml:m=l
         .left;show m - l=0;omega
         .right;rw[if_neg hml,addr_add];rcases Ng with h0|h0
          .omega
          .have h0':ao=g.off+o:=h0;refine⟨?_,rfl⟩;show ao+l*s=g.off+(o+l*s)
           omega
       |none=>
        subst hmx;have hmm:(if(jP ρ (none:ak ay)).isSome then m else c')=c':=rfl;rw[hmm]at b1;have abD:m=cap:=by
         obtain⟨_,q1,_⟩:=E5 hb;exact q1 rfl
        subst abD;refine Good.same hW (hrun c' b1) ?_;have abE:(some (Nat.succ k):ak Nat)=some g.sz:=by rw[hsz,<- hks]
        simp only[abE];have hlc:l*s+(m - l)*s=m*s:=by rw[<- sM];congr 1;omega
        have aow:l*s+(c' - l)*s=c'*s:=by rw[<- sM];congr 1;omega
        refine .pQ hg ?_ ?_ yb hpos ?_ ?_ (by show m - l<=c' - l;omega) ?_
        .split<;>simp[addr_add]
        .split<;>simp[addr_add]
        .show o+l*s+(m - l)*g.sz=g.len;rw[hsz]at hl1⊢;omega
        .show g.off+(o+l*s)+(c' - l)*g.sz=g.top;rw[hsz]at hl2⊢;omega
        .by_cases hml:c'=l
         .left;omega
         .right;rw[if_neg hml,addr_add];rcases Ng with h0|h0
          .omega
          .subst h0;simp[oM]
     .cases hr
    .cases hr
   .cases hr
 .cases hc
end
end Go.Ideal
namespace Go.Ideal
variable {P:Program} {β:aI} {h:IH} {w:World}
def iW{α γ:Type}(s:Sem α)(f:α->Sem γ):dZ P (s>>=f)=(dZ P s).bind λa=>dZ P (f a):=by
 show dZ P (Sem.bind s f)=_;induction s with
 |pure a=>rfl
 |program k ih=>exact ih _
 |mark m k ih=>exact ih
 |_=>rfl
variable{kt:aC}{k:ah}
def Nh(h:sO P kt k=true)(b:Bool)(w:World):(Instr.checkKey b 10000 kt k).run P w=.ok () w:=by
 unfold sO at h;simp only[dI]at h;obtain⟨_,h⟩:=h;split at h
 .rename_i x y hx hy;cases b
  .exact zI hy w
  .exact zI hx w
 .cases h
def Ni(h:sO P kt k=true):cz k=true:=by
 unfold sO at h;simp only[dI]at h;exact h.1
inductive E9(β:aI):Option (Nat×Value)->Option (Nat×Value)->Prop
 |none:E9 β none none
 |some (i:Nat) {v v':Value} (h:VR β v v'):E9 β (some (i,v)) (some (i,v'))
variable{es es':ae MapEntry}
def abF{kd:TypeDesc}(he:gK β es es'):∀(i:Nat),
 (∀r,Instr.findNow kd k es i=some r->∃r',Instr.findNow kd k es' i=some r'/\E9 β r r')/\(Instr.findNow kd k es i=none->Instr.findNow kd k es' i=none):=by
 induction he with
 |nil=>intro i;exact⟨λr hr=>by simp only[Instr.findNow,aF]at hr;subst hr;exact⟨_,rfl,.none⟩,λhr=>by simp[Instr.findNow]at hr⟩
 | @cons e e' l l' hk hf hb hv hl ih=>
   intro i;simp only[Instr.findNow,hk];cases hs:Instr.sameNow kd k e.key with
   |none=>exact⟨λr hr=>(by cases hr),λ_=>rfl⟩
   |some b=>cases b with
    |true=>exact⟨λr hr=>by simp only[aF]at hr;subst hr;exact⟨_,rfl,.some i hv⟩,λhr=>by simp at hr⟩
    |false=>exact ih (i+1)
def abG(he:gK β es es')(w:World):∀(i:Nat) r,
 dZ P (Instr.findAsking kt k es i)=some r->∃r',(Instr.findAsking kt k es' i).run P w=.ok r' w/\E9 β r r':=by
 induction he with
 |nil=>intro i r hr;simp only[Instr.findAsking]at hr;change some none=some r at hr;simp only[aF]at hr;subst hr;exact⟨none,rfl,.none⟩
 | @cons e e' l l' hk hf hb hv hl ih=>
   intro i r hr;simp only[Instr.findAsking,iW]at hr;cases hq:dZ P (Op.equal kt k e.key)with
   |none=>rw[hq]at hr;cases hr
   |some b=>
    rw[hq]at hr;simp only[Instr.findAsking,hk,dF,zI hq w,dH];cases b with
    |true=>
     change some (some (i,e.val))=some r at hr
     simp only[aF]at hr;subst hr;exact⟨_,rfl,.some i hv⟩
    |false=>exact ih (i+1) r hr
def SE(he:gK β es es')(w:World){r:ak (Nat×ah)}(hr:uB P kt k es=some r):
 ∃r',(Instr.findKey kt k es').run P w=.ok r' w/\E9 β r r':=by
 unfold uB Instr.findKey at hr;rw[iW]at hr;cases hu:P.underlying kt with
 |none=>
  have:dZ P (underlying kt)=none:=by simp[underlying,program,dZ,hu,bind,Sem.bind,stuck]
  rw[this]at hr;cases hr
 |some d=>
  have:dZ P (underlying kt)=some d:=by simp[underlying,program,dZ,hu,bind,Sem.bind];rfl
  rw[this]at hr;simp only[jB]at hr;obtain⟨n1,n2⟩:=abF (β:=β) (kd:=d) (k:=k) he 0;simp only[Instr.findKey,dF,fV hu,dH];split at hr
  .rename_i r1 hr1;change some r1=some r at hr
   simp only[aF]at hr;subst hr;obtain⟨r',h1,h2⟩:=n1 _ hr1;rw[h1];exact⟨r',rfl,h2⟩
  .rename_i hr1;rw[n2 hr1];exact abG he w 0 r hr
def SF{m m':ah}(hW:WR P β h w)(hm:VR β m m')(he:entriesOf m h=some es):
 (m=.map none/\m'=.map none/\es=[])\/∃i g es' clock clock',m=.map (some i)/\h.get i=some (.map es clock)/\β i=some g/\m'=.map (some g.b)/\w.heap[g.b]? =some (.map es' clock')/\clock'=clock/\gK β es es'.toList:=by
 unfold entriesOf at he;split at he
 .simp only[aF]at he;subst he;left;cases hm;exact⟨rfl,rfl,rfl⟩
 .rename_i i;split at he
  .rename_i es1 clock hg;simp only[aF]at he;subst he;obtain⟨g,hb,rfl⟩:=hm.Dc;obtain⟨es',h1,h2⟩:=hW.obj i g _ hb hg;exact .inr ⟨i,g,es',clock,clock,rfl,hg,hb,rfl,h1,rfl,h2⟩
  .cases he
 .cases he
def gK.length{l l':ae MapEntry}(he:gK β l l'):l'.length=l.length:=by
 induction he with
 |nil=>rfl
 |cons _ _ _ _ _ ih=>simp[ih]
variable{b:Nat}{o:Obj}
def yE(h:w.heap[b]? =some o)(hn:∀c t f,o≠.cells c t f):(getObj b).run P w=.ok o w:=by
 simp only[getObj,Sem.run,h]
def Nj{o0:Obj}(h:w.heap[b]? =some o0)(hn:∀c t f,o0≠.cells c t f):(setObj b o).run P w=.ok () {w with heap:=w.heap.setIfInBounds b o}:=by
 simp only[setObj,Sem.run,h]
def Fa(ok:Bool)(z:ah):ak (Nat×ah)->ah
 |some (_,v)=>if ok then .tuple #[v,.bool true]else v
 |none=>if ok then .tuple #[z,.bool false]else z
def abH{t et:aC}(hu:P.underlying t=some (.map kt et)){m k:ah}{es:Array MapEntry}(hm:(m=.map none/\es= #[])\/∃b clock,m=.map (some b)/\w.heap[b]? =some (.map es clock))
 (hck:(Instr.checkKey es.isEmpty 10000 kt k).run P w=.ok () w) {r:ak (Nat×ah)} (hf:(Instr.findKey kt k es.toList).run P w=.ok r w) {z:ah} (hz:zeroOf P et=some z) {ok:Bool}:
 (Instr.lookup t m k ok).run P w=.ok (Fa ok z r) w:=by
 rcases hm with⟨rfl,rfl⟩|⟨b,clock,rfl,hb⟩
 .simp only[Instr.lookup,dF,fV hu,dH,fD,hck,hf];exact s9
 .simp only[Instr.lookup,dF,fV hu,dH,fD,yE hb tt,hck,hf];exact s9
section
variable {dst:ak Tmp} {type:aC} {pos:String} {after:Array Edge} {guard:ak (Nat×Bool)} {c:aH} {ρ ρ':ay->ah} {v:ah} {h':IH}
def abI{t:aC}{m k:ay}{ok:Bool}(hc:cop P ⟨dst,.lookup t m k ok,type,pos,after,guard⟩=some c)(hr:c.run P ρ h=some (v,h'))(hm:VR β (ρ m) (ρ' m))(hk:VR β (ρ k) (ρ' k))(hW:WR P β h w):
 Good P β h w (execOp ρ' ⟨dst,.lookup t m k ok,type,pos,after,guard⟩) v h':=by
 simp only[cop]at hc;split at hc
 .rename_i kt et hu;cases hz:zeroOf P et with
  |none=>simp[hz]at hc
  |some z=>
   simp only[hz,lg,aF]at hc;subst hc;obtain⟨_,_,_,Fb⟩:=C8 hz;simp only[aH.run]at hr;split at hr
   .rename_i u hl;simp only[aF,dx]at hr;obtain⟨rfl,rfl⟩:=hr;unfold Bb at hl;split at hl
    .cases hl
    .rename_i es hes;cases hck:sO P kt (ρ k)with
     |false=>rw[hck]at hl;cases hl
     |true=>
      rw[hck]at hl;simp only[cond_true]at hl;have hk':=hk.pR (Ni hck);cases hf:uB P kt (ρ k) es with
      |none=>rw[hf]at hl;cases hl
      |some r=>
       rw[hf]at hl;obtain⟨es',he1,he2⟩:∃es':Array MapEntry,((ρ' m=.map none/\es'= #[])\/∃b clock,ρ' m=.map (some b)/\w.heap[b]? =some (.map es' clock))/\gK β es es'.toList:=by
        rcases SF hW hm hes with⟨_,h2,h3⟩|⟨i,g,es',clock,clock',_,_,_,h4,h5,_,h6⟩
        .subst h3;exact⟨#[],.inl ⟨h2,rfl⟩,.nil⟩
        .exact⟨es',.inr ⟨_,_,h4,h5⟩,h6⟩
       obtain⟨r',f1,f2⟩:=SE he2 w hf;have hrun:=abH (ok:=ok) hu he1 (Nh hck _ w) f1 hz;rw[<- hk']at hrun;cases f2 with
       |none=>
        simp only[aF]at hl;refine Good.same hW (yC hrun) ?_;subst hl;cases ok
        .exact VR.free Fb
        .exact .tuple (.cons (VR.free Fb) (.cons (.bool _) .nil))
       |some i hv=>
        simp only[aF]at hl;refine Good.same hW (yC hrun) ?_;subst hl;cases ok
        .exact hv
        .exact .tuple (.cons hv (.cons (.bool _) .nil))
   .cases hr
 .cases hc
end
end Go.Ideal
namespace Go.Ideal
variable {P:Program} {β:aI} {h:IH} {w:World}
variable{l l':ae MapEntry}
def gK.get(he:gK β l l'){i:Nat}{e:MapEntry}(hi:l[i]? =some e):∃e',l'[i]? =some e'/\e'.key=e.key/\cz e.key=true/\e'.born=e.born/\VR β e.val e'.val:=by
 induction he generalizing i with
 |nil=>simp at hi
 |cons hk hf hb hv hl ih=>
  cases i with
  |zero=>simp at hi;subst hi;exact⟨_,tt,hk,hf,hb,hv⟩
  |succ i=>simp at hi;obtain⟨e',h1,h2⟩:=ih hi;exact⟨e',by simpa using h1,h2⟩
def gK.modify(he:gK β l l'){f f':MapEntry->MapEntry}(i:Nat)
 (hff:∀e e',e'.key=e.key->cz e.key=true->e'.born=e.born->VR β e.val e'.val->(f' e').key=(f e).key/\cz (f e).key=true/\(f' e').born=(f e).born/\VR β (f e).val (f' e').val):
 gK β (l.modify i f) (l'.modify i f'):=by
 induction he generalizing i with
 |nil=>cases i<;>exact .nil
 |cons hk hf hb hv hl ih=>
  cases i with
  |zero=>obtain⟨a,b,c,d⟩:=hff _ _ hk hf hb hv;exact .cons a b c d hl
  |succ i=>exact .cons hk hf hb hv (ih i)
def gK.push(he:gK β l l'){e e':MapEntry}(h1:e'.key=e.key)(h2:cz e.key=true)(h3:e'.born=e.born)(h4:VR β e.val e'.val):gK β (l++[e]) (l'++[e']):=by
 induction he with
 |nil=>exact .cons h1 h2 h3 h4 .nil
 |cons hk hf hb hv hl ih=>exact .cons hk hf hb hv ih
def Fe{b:Nat}{o:Obj}(hb:b<w.heap.size):let w1:World:={w with heap:=w.heap.setIfInBounds b o}
 w1.heap.size=w.heap.size/\(∀x,x≠b->w1.heap[x]? =w.heap[x]?)/\w1.heap[b]? =some o:=by
 refine⟨tt,λx hx=>?_,?_⟩
 .show(w.heap.setIfInBounds b o)[x]? =_;rw[Ht tr]
 .show(w.heap.setIfInBounds b o)[b]? =_;simp[hb]
section
variable {dst:ak Tmp} {type:aC} {pos:String} {after:Array Edge} {guard:ak (Nat×Bool)} {c:aH} {ρ ρ':ay->ah} {v:ah} {h':IH}
variable{t kt et:aC}
def SG(hu:P.underlying t=some (.map kt et)){b clock:Nat}{es:Array MapEntry}{k x:ah}(hb:w.heap[b]? =some (.map es clock))
 (hck:(Instr.checkKey false 10000 kt k).run P w=.ok () w) {r:ak (Nat×ah)} (hf:(Instr.findKey kt k es.toList).run P w=.ok r w)
 (hs:∀i v,r=some (i,v)->∃e,es[i]? =some e/\Instr.sameBits 10000 e.key k=true):
 (Instr.mapUpdate t (.map (some b)) k x).run P w=.ok () {w with heap:=w.heap.setIfInBounds b (match r with
   |some (i,_)=>.map (es.modify i λe=>{e with key:=k,val:=x}) clock
   |none=>.map (es.push {key:=k,val:=x,born:=clock}) (clock+1))}:=by
 simp only[Instr.mapUpdate,dF,fV hu,dH,yE hb tt,hck,hf];cases r with
 |none=>exact Nj hb tt
 |some p=>
  obtain⟨i,v⟩:=p;obtain⟨e,h1,h2⟩:=hs i v rfl;simp only[h1,lg,wX,Instr.keyThatStays,h2,if_true,dF,fD,dH];exact Nj hb tt
def SH(hu:P.underlying t=some (.map kt et)){m m' k k' x x':ah}{h2:IH}(hr:EH P kt m k x h=some h2)(hm:VR β m m')(hk:VR β k k')(hx:VR β x x')(hW:WR P β h w):
 ∃w',(Instr.mapUpdate t m' k' x').run P w=.ok () w'/\WR P β h2 w'/\Eff β h w β h2 w':=by
 unfold EH at hr;split at hr
 .rename_i i;split at hr
  .rename_i es clock hg;obtain⟨g,hb,rfl⟩:=hm.Dc;obtain⟨es',o1,o2⟩:=hW.obj i g _ hb hg;cases hck:sO P kt k with
   |false=>rw[hck]at hr;cases hr
   |true=>
    rw[hck]at hr;simp only[cond_true]at hr;have hk':=hk.pR (Ni hck);subst hk';have hfree:=Ni hck;have hlt:g.b<w.heap.size:=by
     exact pB
    cases hf:uB P kt k' es with
    |none=>rw[hf]at hr;cases hr
    |some r=>
     rw[hf]at hr;obtain⟨r',f1,f2⟩:=SE o2 w hf;cases f2 with
     |none=>
      simp only[aF]at hr;subst hr;have hrun:=SG (x:=x') hu o1 (Nh hck false w) f1 tt;obtain⟨p1,p2,p3⟩:=Fe (w:=w) (o:=.map (es'.push {key:=k',val:=x',born:=clock}) (clock+1)) hlt;refine⟨_,hrun,hW.write hb hg _ p1 p2 rfl rfl rfl (bQ _) ⟨_,p3,?_⟩⟩;rw[jQ,Array.toList_push];exact o2.push rfl hfree rfl hx
     |some j hv=>
      simp only at hr;split at hr
      .rename_i e he;rw[rJ]at he;obtain⟨e',q1,q2,q3,q4,q5⟩:=o2.get he;cases hs:Instr.sameBits 10000 e.key k' with
       |false=>rw[hs]at hr;cases hr
       |true=>
        rw[hs]at hr;simp only[cond_true,aF]at hr;subst hr;have hrun:=SG (x:=x') hu o1 (Nh hck false w) f1 (λi v SI=>by
         simp only[aF,dx]at SI;obtain⟨rfl,_⟩:=SI;exact⟨e',by simpa using q1,by rw[q2];exact hs⟩)
        obtain⟨p1,p2,p3⟩:=Fe (w:=w) (o:=.map (es'.modify j λe=>{e with key:=k',val:=x'}) clock) hlt;refine⟨_,hrun,hW.write hb hg _ p1 p2 rfl rfl rfl (bQ _) ⟨_,p3,?_⟩⟩;rw[Si,Array.toList_modify];exact o2.modify j λe e' a b c d=>⟨rfl,hfree,c,hx⟩
      .cases hr
  .cases hr
 .cases hr
variable{x m k:ay}
def abK(hc:cop P ⟨dst,.mapUpdate t m k x,type,pos,after,guard⟩=some c)(hr:c.run P ρ h=some (v,h'))(hm:VR β (ρ m) (ρ' m))(hk:VR β (ρ k) (ρ' k))(hx:VR β (ρ x) (ρ' x))(hW:WR P β h w):
 Good P β h w (execOp ρ' ⟨dst,.mapUpdate t m k x,type,pos,after,guard⟩) v h':=by
 simp only[cop]at hc;split at hc
 .exact dy
 .cases hc
def abL(hc:cop P ⟨dst,.insert t m k x,type,pos,after,guard⟩=some c)(hr:c.run P ρ h=some (v,h'))(hm:VR β (ρ m) (ρ' m))(hk:VR β (ρ k) (ρ' k))(hx:VR β (ρ x) (ρ' x))(hW:WR P β h w):
 Good P β h w (execOp ρ' ⟨dst,.insert t m k x,type,pos,after,guard⟩) v h':=by
 simp only[cop]at hc;split at hc
 .exact dy
 .cases hc
def Nk(hW:WR P β h w){s:Sem Next}{ob:bO}{o':Obj}(hr:s.run P w=.ok (.value (.pointer (some ⟨w.heap.size,0,none⟩))) {w with heap:=w.heap.push o'})
 (ho:∀β':aI,β.le β'->OR P β' ⟨w.heap.size,0,0,0,0⟩ {w with heap:=w.heap.push o'} ob):Good P β h w s (.pointer (some ⟨h.next,0,none⟩)) (h.new ob):=by
 refine vW.good (f:=λi=>.pointer (some ⟨i,0,none⟩)) hW ⟨_,o',⟨w.heap.size,0,0,0,0⟩,hr,rfl,λi β' hle hi=>⟨?_,ho β' hle⟩⟩;have:=VR.ptr (β:=β') (o:=0) hi;exact this
def abM(hc:cop P ⟨dst,.range t x,type,pos,after,guard⟩=some c)(hr:c.run P ρ h=some (v,h'))(hx:VR β (ρ x) (ρ' x))(hW:WR P β h w):
 Good P β h w (execOp ρ' ⟨dst,.range t x,type,pos,after,guard⟩) v h':=by
 simp only[cop]at hc;split at hc
 .rename_i hu;cases hc;simp only[aH.run]at hr;split at hr
  .rename_i s hs;simp only[aF,dx]at hr;obtain⟨rfl,rfl⟩:=hr;rw[hs]at hx;have hx':=hx.zK;refine Nk hW (o':=.stringIter s 0) ?_ λβ' _=>⟨tt,rfl⟩
   simp[execOp,Instr.range,fV hu,hx']
  .cases hr
 .rename_i kt et hu;cases hc;simp only[aH.run]at hr;split at hr
  .rename_i hs;simp only[aF,dx]at hr;obtain⟨rfl,rfl⟩:=hr;rw[hs]at hx;have hx':ρ' x=.map none:=by generalize ρ' x=y at hx;cases hx;rfl
   refine Nk hW (o':=.mapIter none 0 #[] 0) ?_ λβ' _=>⟨none, #[],tt,rfl,.yA,rfl⟩
   simp[execOp,Instr.range,fV hu,hx']
  .rename_i m hs;split at hr
   .rename_i es clock hg;simp only[aF,dx]at hr;obtain⟨rfl,rfl⟩:=hr;rw[hs]at hx;obtain⟨g,hb,hx'⟩:=hx.Dc;obtain⟨es',o1,o2⟩:=hW.obj m g _ hb hg;refine Nk hW (o':=.mapIter (some g.b) clock #[] clock) ?_ λβ' hle=>⟨some g.b, #[],tt,rfl,.map (hle _ _ hb),rfl⟩
    simp only[execOp,Instr.range,dF,fV hu,dH,hx',yE o1 tt,fD,run_newObj]
   .cases hr
  .cases hr
 .cases hc
def find_born{l l':ae MapEntry}(he:gK β l l')(n:Nat):match l.find? (λe=>Nat.beq e.born n)with
 |none=>l'.find? (λe=>e.born==n)=none
 |some e=>∃e',l'.find? (λe=>e.born==n)=some e'/\e'.key=e.key/\cz e.key=true/\VR β e.val e'.val:=by
 induction he with
 |nil=>rfl
 | @cons e e' l l' hk hf hb hv hl ih=>
   simp only[List.find?_cons,hb];cases hq:Nat.beq e.born n with
   |true=>
    have:(e.born==n)=true:=by simp[qY hq]
    simp only[this];exact⟨e',rfl,hk,hf,hv⟩
   |false=>
    have:(e.born==n)=false:=by simp[Ez hq]
    simp only[this];exact ih
def abN(hc:cop P ⟨dst,.entry x,type,pos,after,guard⟩=some c)(hr:c.run P ρ h=some (v,h'))(hx:VR β (ρ x) (ρ' x))(hW:WR P β h w):
 Good P β h w (execOp ρ' ⟨dst,.entry x,type,pos,after,guard⟩) v h':=by
 simp only[cop,aF]at hc;subst hc;simp only[aH.run]at hr;split at hr
 .rename_i r hs;split at hr
  .rename_i m since seen stepped hg;split at hr
   .rename_i es clock hgm;split at hr
    .rename_i stamp hst;cases hbq:Nat.beq clock stepped with
     |false=>rw[hbq]at hr;cases hr
     |true=>
      rw[hbq]at hr;simp only[cond_true]at hr;split at hr
      .rename_i e he;simp only[aF,dx]at hr;obtain⟨rfl,rfl⟩:=hr;rw[hs]at hx;obtain⟨g,hb,hx'⟩:=hx.vX;obtain⟨m',seen',o1,o2,o3,o4⟩:=hW.obj r g _ hb hg;rw[o4]at hx';obtain⟨gm,IG,hm'⟩:∃gm,β m=some gm/\m'=some gm.b:=by
        exact rB
       subst hm';obtain⟨es',p1,p2⟩:=hW.obj m gm _ IG hgm;have SK:=find_born p2 stamp;rw[he]at SK;obtain⟨e',q1,q2,q3,q4⟩:=SK;have hback:seen'.back? =some stamp:=by
        rw[<- Array.getLast?_toList,o2];exact hst
       have hcl:(clock !=stepped)=false:=by simp[qY hbq]
       have hfa:es'.find? (λe=>e.born==stamp)=some e':=by rw[<- Array.find?_toList];exact q1
       refine Good.same hW (v':=.tuple #[e'.key,e'.val]) ?_ (.tuple (.cons ?_ (.cons q4 .nil)))
       .simp only[execOp,Instr.entry,AQ,dF,hx',yE o1 tt,yE p1 tt,dH,hback,hcl,hfa,fD,wW,if_false]
       .rw[q2];exact VR.free q3
      .cases hr
    .cases hr
   .cases hr
  .cases hr
 .cases hr
def abO{xt:aC}{ok:Bool}(hc:cop P ⟨dst,.typeAssert x xt t ok,type,pos,after,guard⟩=some c)(hr:c.run P ρ h=some (v,h'))(hx:VR β (ρ x) (ρ' x))(hW:WR P β h w):
 Good P β h w (execOp ρ' ⟨dst,.typeAssert x xt t ok,type,pos,after,guard⟩) v h':=by
 simp only[cop]at hc;split at hc
 .cases hc
 .rename_i d hni hu;cases hz:zeroOf P t with
  |none=>simp[hz]at hc
  |some z=>
   simp only[hz,lg,aF]at hc;subst hc;obtain⟨_,_,_,Fb⟩:=C8 hz;simp only[aH.run]at hr;split at hr
   .rename_i hs;rw[hs]at hx;have hx':ρ' x=.nilIface:=by generalize ρ' x=y at hx;cases hx;rfl
    cases ok with
    |false=>cases hr
    |true=>
     simp only[cond_true,aF,dx]at hr;obtain⟨rfl,rfl⟩:=hr;refine Good.same hW (v':=.tuple #[z,.bool false]) ?_ (.tuple (.cons (VR.free Fb) (.cons (.bool _) .nil)));simp only[execOp,Instr.typeAssert,dF,fV hu,dH,hx',if_true,C9 hz,fD]
   .rename_i u y hs;rw[hs]at hx;obtain⟨y',hy,hx'⟩:=hx.Bn;cases hbq:Nat.beq u t with
    |true=>
     have hut:u=t:=qY hbq;rw[hbq]at hr;simp only[cond_true,aF,dx]at hr;obtain⟨rfl,rfl⟩:=hr;refine Good.same hW (v':=if ok then .tuple #[y',.bool true]else y') ?_ ?_
     .simp only[execOp,Instr.typeAssert,dF,fV hu,dH,hx',hut];cases d<;>first|exact absurd rfl (hni _)|simp
     .cases ok
      .exact hy
      .exact .tuple (.cons hy (.cons (.bool _) .nil))
    |false=>
     have hut:u≠t:=Ez hbq;rw[hbq]at hr;cases ok with
     |false=>cases hr
     |true=>
      simp only[cond_true,cond_false,aF,dx]at hr;obtain⟨rfl,rfl⟩:=hr;refine Good.same hW (v':=.tuple #[z,.bool false]) ?_ (.tuple (.cons (VR.free Fb) (.cons (.bool _) .nil)));simp only[execOp,Instr.typeAssert,dF,fV hu,dH,hx'];cases d<;>first|exact absurd rfl (hni _)|simp[hut,C9 hz]
   .cases hr
 .cases hc
end
