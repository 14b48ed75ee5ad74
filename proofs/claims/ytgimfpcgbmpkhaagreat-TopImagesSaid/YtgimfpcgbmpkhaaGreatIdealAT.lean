/- Part. -/
import Derived.Test.YtgimfpcgbmpkhaaGreatDictT
import Derived.KernelRfl
import GoSem.Step
import Derived.Below
import Derived.Laws.IdiomCopy
import Derived.Laws.Cells
import Derived.Laws.Entries
import Derived.IntWalk
import Derived.Laws.Append
set_option linter.all false
abbrev aV:=@List.mem_of_getElem?
abbrev bi:=@List.length_map
abbrev bz:=@List.getElem?_eq_some_iff
abbrev bC:=@Option.some.injEq
abbrev bG:=@Nat.le_refl
abbrev bI:=@Nat.zero_le
abbrev bN:=@List.getElem?_eq_getElem
abbrev bP:=@List.nil_append
abbrev bQ:=@List.cons_append
abbrev bR:=@List.mem_singleton
abbrev bZ:=@List.map_append
abbrev cO:=@List.mem_map
abbrev dm:=@List.mem_cons
abbrev dA:=@decide_eq_false
abbrev dK:=@List.take_length
abbrev dW:=@Int.eq_ofNat_of_zero_le
abbrev dY:=@Go.Sem.run_bind
abbrev eB:=@decide_eq_true
abbrev eF:=@List.getElem?_map
abbrev eX:=@List.mem_cons_self
abbrev eZ:=@Go.Result.andThen_ok
abbrev fo:=@List.append_assoc
abbrev fu:=@List.length_append
abbrev fI:=@Int.toNat_natCast
abbrev fP:=@List.mem_cons_of_mem
abbrev fT:=@List.getElem?_eq_none
abbrev fU:=@List.mem_append
abbrev fZ:=@Go.Sem.run_pure
abbrev gq:=@Nat.zero_add
abbrev gT:=@List.getElem?_of_mem
abbrev gV:=@Bool.and_eq_true
abbrev gW:=@List.length_take
abbrev iQ:=@List.ext_getElem?
abbrev iX:=@List.map_cons
abbrev jo:=@List.append_nil
abbrev jI:=@of_decide_eq_true
abbrev jU:=@List.all_eq_true
abbrev j5:=@List.nodup_append
abbrev j6:=@Decidable.not_not
abbrev kg:=@List.map_singleton
abbrev lu:=@List.length_set
abbrev lQ:=@Prod.mk.injEq
abbrev lS:=@Option.bind_some
abbrev lT:=@Option.map_eq_some_iff
abbrev lU:=@Nat.mul_one
abbrev lV:=@decide_eq_true_iff
abbrev lZ:=@Nat.le_trans
abbrev l5:=@List.take_append_drop
abbrev mX:=@List.drop_eq_getElem_cons
abbrev nZ:=@decide_eq_decide
abbrev oJ:=@Option.map_some
abbrev oZ:=@Nat.lt_of_lt_of_le
abbrev o8:=@List.length_range
abbrev pQ:=@Nat.le_of_ble_eq_true
abbrev pR:=@Nat.add_assoc
abbrev pU:=@List.length_eq_zero_iff
abbrev ql:=@List.getElem?_append_left
abbrev qm:=@List.mem_filter
abbrev qo:=@List.map_set
abbrev rG:=@List.getElem_mem
abbrev rH:=@List.getElem?_drop
abbrev rJ:=@List.length_cons
abbrev rM:=@List.getElem?_set
abbrev rO:=@List.map_map
abbrev rP:=@List.take_add_one
abbrev rQ:=@List.pairwise_cons
abbrev rR:=@Int.toNat_of_nonneg
abbrev sN:=@List.getElem?_append_right
abbrev uj:=@Nat.eq_of_beq_eq_true
abbrev uk:=@List.getElem?_range
abbrev ul:=@List.mem_append_left
abbrev um:=@Nat.sub_self
abbrev uo:=@List.length_drop
abbrev vH:=@Nat.ble_eq
abbrev vI:=@List.foldl_cons
abbrev vJ:=@List.foldl_append
abbrev wM:=@Bool.eq_iff_iff
abbrev wN:=@Nat.blt_eq
abbrev wO:=@Nat.add_mul
abbrev wP:=@List.getElem?_take
abbrev wQ:=@List.mem_append_right
abbrev wR:=@List.replicate_succ
abbrev wS:=@of_decide_eq_false
abbrev xP:=@List.mem_range
abbrev xQ:=@List.mk_mem_zipIdx_iff_getElem?
abbrev yY:=@Nat.lt_succ_self
abbrev yZ:=@List.map_congr_left
abbrev za:=@List.drop_zero
abbrev zb:=@List.mem_iff_getElem?
abbrev ze:=@List.filter_append
abbrev zf:=@List.pairwise_iff_getElem
abbrev zg:=@List.length_replicate
abbrev zh:=@List.length_filter_le
abbrev zi:=@List.pairwise_map
abbrev zk:=@Int.tdiv_eq_ediv_of_nonneg
abbrev Ac:=@Array.getD_eq_getD_getElem?
abbrev Ad:=@List.nodup_nil
abbrev Ae:=@Nat.min_eq_left
abbrev Af:=@List.filterMap_cons
abbrev Ag:=@List.take_of_length_le
abbrev BM:=@Go.World.cell?_setCells_out
abbrev BN:=@Nat.mod_lt
abbrev BP:=@List.length_nil
abbrev BQ:=@Nat.sub_zero
abbrev BS:=@Nat.one_mul
abbrev BU:=@List.drop_eq_nil_of_le
abbrev BV:=@List.map_id
abbrev BX:=@List.range_succ
abbrev BZ:=@List.zipIdx_append
abbrev Ca:=@List.mergeSort_perm
abbrev Cb:=@List.filterMap_append
abbrev Cc:=@Nat.not_lt_zero
abbrev DR:=@Bool.false_eq_true
abbrev DT:=@and_true
abbrev DU:=@List.set_append_right
abbrev DV:=@List.getD_eq_getElem?_getD
abbrev DW:=@List.reverse_cons
abbrev DY:=@List.drop_length
abbrev DZ:=@List.length_singleton
abbrev FB:=@Nat.le_succ
abbrev FC:=@Go.World.cell?_setCells_in
abbrev FD:=@Nat.add_zero
abbrev FE:=@List.getElem?_cons_zero
abbrev FH:=@List.filter_cons
abbrev FI:=@Nat.beq_refl
abbrev FJ:=@List.sum_cons
abbrev FK:=@List.flatMap_cons
abbrev FL:=@List.mem_of_mem_take
abbrev FM:=@Int.ediv_nonneg
abbrev FN:=@List.dropLast_concat_getLast
abbrev FO:=@List.reverse_nil
abbrev FP:=@List.length_reverse
abbrev FQ:=@List.reverse_reverse
abbrev IL:=@Nat.ne_of_beq_eq_false
abbrev IM:=@List.zipIdx_cons
abbrev IP:=@List.getElem?_cons_succ
abbrev IQ:=@Array.mem_append
abbrev IR:=@List.not_mem_nil
abbrev IU:=@List.mem_filterMap
abbrev IV:=@Bool.or_eq_true
abbrev IW:=@Nat.zero_mul
abbrev IX:=@Nat.mul_comm
abbrev IY:=@Nat.lt_of_le_of_lt
abbrev IZ:=@List.mem_of_mem_drop
abbrev I1:=@Int.tmod_eq_emod_of_nonneg
abbrev LZ:=@Nat.ble_eq_true_of_le
abbrev L6:=@List.all_cons
abbrev L8:=@Bool.true_and
abbrev L9:=@Nat.lt_or_ge
abbrev Ma:=@Go.World.frozen?_setCells
abbrev Mc:=@Option.isSome_iff_exists
abbrev Md:=@Bool.not_eq_true'
abbrev Me:=@Nat.shiftRight_eq_div_pow
abbrev Mf:=@Nat.add_sub_cancel
abbrev Mg:=@List.length_filterMap_le
abbrev Mh:=@Int.emod_add_mul_ediv
abbrev Mi:=@List.pairwise_append
abbrev Mj:=@List.take_sublist
abbrev Mk:=@Nat.pow_lt_pow_right
abbrev Ml:=@List.any_eq_false
abbrev Mm:=@List.zip_cons_cons
abbrev QD:=@Nat.lt_irrefl
abbrev QE:=@List.getElem?_toArray
abbrev QF:=@Array.getElem?_eq_some_iff
abbrev QG:=@Bool.false_or
abbrev QH:=@Nat.lt_succ_of_lt
abbrev QI:=@Nat.or_lt_two_pow
abbrev QJ:=@List.filter_eq_self
abbrev QK:=@List.find?_eq_none
abbrev QL:=@List.find?_some
abbrev QM:=@List.mem_of_find?_eq_some
abbrev QN:=@Nat.lt_trichotomy
abbrev QO:=@Nat.shiftRight_le
abbrev QR:=@List.zip_nil_left
abbrev QS:=@List.count_pos_iff
abbrev WW:=@Go.World.keptBut_setCells
abbrev WX:=@Nat.eq_zero_or_pos
abbrev WY:=@Nat.div_lt_iff_lt_mul
abbrev WZ:=@List.length_pos_iff
abbrev W9:=@List.length_zipIdx
abbrev Xa:=@List.flatMap_append
abbrev aeN:=@Array.getElem?_setIfInBounds_ne
abbrev aeO:=@List.length_erase_of_mem
abbrev aeP:=@List.pairwise_mergeSort
abbrev aeQ:=@List.findIdx?_eq_some_iff_getElem
abbrev aeR:=@List.findIdx?_eq_none_iff
abbrev aeS:=@List.getElem?_replicate
abbrev aeT:=@List.filterMap_eq_nil_iff
abbrev ae.{u}(α:Type u):Type u:=List α
abbrev ah:=Go.Value
abbrev qr:=List (Nat×Go.Value)
abbrev az.{u}(α:Type u):Type u:=Option α
abbrev aB:=Go.Operand
abbrev aM:=Go.TypeId
abbrev gy:=Go.FuncId
namespace Go.Ideal
inductive T(α:Type):Type where
 |leaf
 |node (v:Option α) (l r:T α)
noncomputable def T.get{α:Type}(t:T α):Nat->az α:=
 T.rec (motive:=λ_=>Nat->az α) (λ_=>none)
  (λv _ _ gl gr n=>Nat.rec (motive:=λ_=>az α) v
    (λm _=>Bool.rec (motive:=λ_=>az α) (gr (Nat.div m 2)) (gl (Nat.div m 2)) (Nat.beq (Nat.mod m 2) 0)) n) t
noncomputable def T.one{α:Type}(f:Nat):Nat->az α->T α:=
 Nat.rec (motive:=λ_=>Nat->az α->T α) (λ_ _=>.leaf)
  (λ_ ih n x=>Nat.rec (motive:=λ_=>T α) (.node x .leaf .leaf)
    (λm _=>Bool.rec (motive:=λ_=>T α) (.node none .leaf (ih (Nat.div m 2) x)) (.node none (ih (Nat.div m 2) x) .leaf) (Nat.beq (Nat.mod m 2) 0)) n) f
noncomputable def T.set{α:Type}(t:T α):Nat->az α->T α:=
 T.rec (motive:=λ_=>Nat->az α->T α) (λn x=>T.one (n+1) n x)
  (λv l r sl sr n x=>Nat.rec (motive:=λ_=>T α) (.node x l r)
    (λm _=>Bool.rec (motive:=λ_=>T α) (.node v l (sr (Nat.div m 2) x)) (.node v (sl (Nat.div m 2) x) r) (Nat.beq (Nat.mod m 2) 0)) n) t
noncomputable def o9{α β:Type}(f:α->β)(l:ae α):ae β:=
 List.rec (motive:=λ_=>ae β) [] (λx _ ih=>f x::ih) l
noncomputable def lW{α:Type}(l:ae α):Nat->az α:=
 List.rec (motive:=λ_=>Nat->az α) (λ_=>none) (λx _ ih n=>Nat.rec (motive:=λ_=>az α) (some x) (λm _=>ih m) n) l
noncomputable def kD{α:Type}(l:ae α):Nat->ae α:=
 List.rec (motive:=λ_=>Nat->ae α) (λ_=>[]) (λx l ih n=>Nat.rec (motive:=λ_=>ae α) (x::l) (λm _=>ih m) n) l
noncomputable def jR{α:Type}(l:ae α):Nat->az (ae α):=
 List.rec (motive:=λ_=>Nat->az (ae α)) (λn=>Nat.rec (motive:=λ_=>az (ae α)) (some []) (λ_ _=>none) n)
  (λx _ ih n=>Nat.rec (motive:=λ_=>az (ae α)) (some []) (λm _=>Option.rec (motive:=λ_=>az (ae α)) none (λr=>some (x::r)) (ih m)) n) l
noncomputable def jV{α:Type}(l:ae α):Nat->ae α->az (ae α):=
 List.rec (motive:=λ_=>Nat->ae α->az (ae α))
  (λo xs=>Nat.rec (motive:=λ_=>az (ae α)) (List.rec (motive:=λ_=>az (ae α)) (some []) (λ_ _ _=>none) xs) (λ_ _=>none) o)
  (λc l ih o xs=>Nat.rec (motive:=λ_=>az (ae α))
    (List.rec (motive:=λ_=>az (ae α)) (some (c::l)) (λx xs _=>Option.rec (motive:=λ_=>az (ae α)) none (λr=>some (x::r)) (ih 0 xs)) xs)
    (λo _=>Option.rec (motive:=λ_=>az (ae α)) none (λr=>some (c::r)) (ih o xs)) o) l
noncomputable def Mo{α:Type}(p:α->Bool)(l:ae α):Bool:=
 List.rec (motive:=λ_=>Bool) true (λx _ ih=>Bool.rec (motive:=λ_=>Bool) false ih (p x)) l
noncomputable def jv{α:Type}(l:ae α):Nat:=
 List.rec (motive:=λ_=>Nat) 0 (λ_ _ ih=>Nat.succ ih) l
noncomputable def mq{α:Type}(l r:ae α):ae α:=
 List.rec (motive:=λ_=>ae α) r (λx _ ih=>x::ih) l
noncomputable def zeros(z:ae ah)(n:Nat):ae ah:=
 Nat.rec (motive:=λ_=>ae ah) [] (λ_ ih=>mq z ih) n
abbrev eY:ah:=.tuple #[]
abbrev xR:ah:=.chan (some 0)
def cellV:ah->Bool
 | .agg _| .tuple _| .chan _=>false
 |_=>true
mutual
def dQ:ah->Bool
 | .bool _| .int _ _| .float _ _| .complex _ _ _| .string _| .nilFunc| .nilIface=>true
 | .pointer a=>a.isNone
 | .slice a n c=>a.isNone&&n==0&&c==0
 | .map r=>r.isNone
 | .chan _=>false
 | .func _ _ _=>false
 | .iface _ v=>dQ v&&cellV v
 | .agg ⟨cs⟩=>iY cs
 | .tuple _=>false
def iY:ae ah->Bool
 |[]=>true
 |v::l=>dQ v&&cellV v&&iY l
end
def dX{α:Type}(P:Program):Sem α->az α
 | .pure a=>some a
 | .program k=>dX P (k P)
 | .mark _ k=>dX P k
 |_=>none
def lC(P:Program)(s:Sem ah):az ah:=
 match dX P s with
 |some v=>cond (dQ v) (some v) none
 |none=>none
def cellsOf(v:ah):az (ae ah):=
 match v with
 | .agg ⟨cs⟩=>some cs
 | .tuple _| .chan _=>none
 |v=>some [v]
inductive Out where
 |normal
 |exit (id:Nat)
 |ret
 |panic (chain:List PanicEntry)
inductive aR where
 |mv (x:Operand)
 |jC (x:Operand)
 |pick (c a b:Operand)
 |new (cs:List Value) (t:TypeId)
 |box (x:Operand) (t:TypeId)
 |build (zero:List Value) (parts:List (Nat×Nat×Operand))
 |Ah (t:TypeId) (len:Nat) (zero:List Value) (parts:List (Nat×Nat×Operand))
 |fG (a:Operand)
 |sO (n:Nat) (a:Operand)
 |store (n:Nat) (a x:Operand)
 |nI (x:Operand)
 |bin (op:BinOp) (t:TypeId) (x y:Operand)
 |un (op:UnOp) (x:Operand)
 |conv (s d:TypeId) (x:Operand)
 |Xb (e:TypeId) (x:Operand)
 |I4 (x:Operand)
 |iface (t:TypeId) (x:Operand)
 |D5 (fn:Fn) (first captured:List Operand)
 |zl
 |xS (e:TypeId) (size bytes:Nat) (zero:List Value) (l c:Operand)
 |Xc (t:TypeId) (x:Operand) (lo hi mx:Option Operand)
 |QT (n size:Nat) (x:Operand) (lo hi mx:Option Operand)
 |FT (size:Nat) (x:Operand) (lo hi mx:Option Operand)
 |iw (off:Nat) (x:Operand)
 |field (t:TypeId) (off n:Nat) (agg:Bool) (x:Operand)
 |QU (n size:Nat) (x i:Operand)
 |jw (size:Nat) (x i:Operand)
 |Xd (x i:Operand)
 |Xe (n size:Nat) (agg:Bool) (x i:Operand)
 |lookup (kt:TypeId) (zero:Value) (m k:Operand) (ok:Bool)
 |Mq (kt:TypeId) (m k v:Operand)
 |Xf (kt:TypeId) (zero:Value) (m k:Operand)
 |Xg (m s v:Operand)
 |QV (x:Operand)
 |rangeMap (x:Operand)
 |Xh (x:Operand)
 |Ai (x:Operand)
 |entry (x:Operand)
 |Mr (t:TypeId) (zero:Value) (ok:Bool) (x:Operand)
 |extract (x:Operand) (i:Nat)
 |append (e:TypeId) (size bytes:Nat) (s x:Operand)
 |Ms (e:TypeId) (size bytes:Nat) (zero:List Value) (s x:Operand)
 |copy (size:Nat) (d x:Operand)
 |clear (zero:List Value) (x:Operand)
 |Xi (x:Operand)
 |Mt (n:Nat)
 |pV (x:Operand)
 |Mv (x:Operand)
 |Xj (x:Operand)
 |Ce (max:Bool) (args:List Operand)
 |call (f:Operand) (args:List Operand)
 |invoke (x:Operand) (name:String) (args:List Operand)
 |recover
 |panic (x:Operand)
 |dcall (f:Operand) (args:List Operand)
structure jh where
 dst:Option Tmp
 /-- the operation runs where this temporary holds this Bool -/
 guard:Option (Tmp×Bool)
 op:aR
structure bV where
 s:jh
 re:List jh
inductive dD where
 |skip
 /-- 'ds': where the region's operations put what they yield -/
 |ops (ds:List Tmp) (l:List bV)
 |seq (a b:dD)
 |cond (c:Operand) (a b:dD)
 |block (id:Nat) (a:dD)
 |loop (a:dD)
 |rangeFunc (f:Operand) (params:List Tmp) (assign body:dD)
 |scope (a:dD)
 |exit (id:Nat)
 |ret
 |fail
structure nJ where
 state:LoopState
 pending:Option Out
 tmps:T Value
 n:Nat
 params:List Tmp
 assign:dD
 body:dD
 defers:Nat
inductive fw where
 |cells (cs:List Value)
 /-- cells that are read alone -/
 |lD (cs:List Value)
 |map (es:List MapEntry) (clock:Nat)
 |D6 (s:ByteArray) (pos:Nat)
 |mapIter (m:Option Nat) (since:Nat) (seen:List Nat) (stepped:Nat)
 |loop (l:nJ)
 |jJ (open_:Bool)
structure IH where
 t:T fw
 next:Nat
 low:Nat
noncomputable def IH.get(h:IH)(i:Nat):az fw:=h.t.get i
noncomputable def IH.set(h:IH)(i:Nat)(o:fw):IH:={h with t:=h.t.set i (some o),low:=cond (Nat.ble h.low i) h.low i}
noncomputable def IH.kill(h:IH)(i:Nat):IH:={h with t:=h.t.set i none,low:=cond (Nat.ble h.low i) h.low i}
noncomputable def IH.new(h:IH)(o:fw):IH:={h with t:=h.t.set h.next (some o),next:=Nat.succ h.next}
structure bE where
 n:Nat
 tmps:T Value
 defers:List Deferred
 pm:Option FrameMode
 ro:Option Nat
noncomputable def dZ(t:T ah)(i:Nat):ah:=Option.rec (motive:=λ_=>ah) eY (λv=>v) (t.get i)
noncomputable def bE.eval(a:bE)(x:aB):ah:=
 match x with
 | .tmp t=>dZ a.tmps t
 | .const v=>v
 | .global g=>.pointer (some ⟨g,0,none⟩)
 | .func f=>.func (.func f) #[] #[]
noncomputable def bE.set(a:bE)(d:Nat)(v:ah):bE:=cond (Nat.blt d a.n) {a with tmps:=a.tmps.set d (some v)} a
noncomputable def bE.put(a:bE)(d:az Tmp)(v:ah):bE:=
 match d with
 |some d=>a.set d v
 |none=>a
noncomputable def bE.wants(a:bE)(g:az (Tmp×Bool)):az Bool:=
 match g with
 |none=>some true
 |some (t,want)=>match dZ a.tmps t with
  | .bool b=>some (cond want b (!b))
  | .chan _=>some false
  |_=>none
noncomputable def IH.kL(h:IH)(i o n:Nat):az (ae ah):=
 match h.get i with
 |some (.cells cs)=>jR (kD cs o) n
 |_=>none
noncomputable def IH.je(h:IH)(i o n:Nat):az (ae ah):=
 match h.get i with
 |some (.cells cs)=>jR (kD cs o) n
 |some (.lD cs)=>jR (kD cs o) n
 |_=>none
noncomputable def IH.qK(h:IH)(i o:Nat):az ah:=
 match h.get i with
 |some (.cells cs)=>lW cs o
 |some (.lD cs)=>lW cs o
 |_=>none
noncomputable def IH.storeAt(h:IH)(i o:Nat)(vs:ae ah):az IH:=
 match h.get i with
 |some (.cells cs)=>match jV cs o vs with
  |some cs=>some (h.set i (.cells cs))
  |none=>none
 |_=>none
def D7(i o:Nat):az Addr:=some ⟨i,o,some 0⟩
def small:Nat:=1073741824
def upTo(m:Nat)(v:ah):az Nat:=
 match v with
 | .int _ (.ofNat i)=>cond (Nat.ble i m) (some i) none
 |_=>none
def bounds?(len cap:Nat)(lo hi mx:az ah):az (Nat×Nat×Nat):=
 match (match mx with|some v=>upTo cap v|none=>some cap)with
 |none=>none
 |some m=>match (match hi,mx with|some v,_=>upTo m v|none,none=>some len|none,some _=>none)with
  |none=>none
  |some h=>match (match lo with|some v=>upTo h v|none=>some 0)with
   |none=>none
   |some l=>some (l,h,m)
noncomputable def pg(size n:Nat)(x:ah)(h:IH):az (ae ah):=
 match x with
 | .slice (some ⟨i,o,_⟩) _ _=>h.je i o (Nat.mul n size)
 | .slice none _ _=>match n with
   |0=>some []
   |_=>none
 | .string s=>cond (Nat.beq size 1) (match jR s.data.toList n with
   |some l=>some (o9 (λb=>.int .u8 b.toNat) l)
   |none=>none) none
 |_=>none
noncomputable def Aj(size n:Nat)(x:ah)(h:IH):az (ae ah):=
 match n with
 |0=>match x with
  | .slice _ _ _=>some []
  |x=>pg size 0 x h
 |Nat.succ k=>pg size (Nat.succ k) x h
def qp:ah->az Nat
 | .slice _ n _=>some n
 | .string s=>some s.size
 |_=>none
noncomputable def Cf(size bytes:Nat)(s:ah)(n:Nat)(xs:ae ah)(h:IH):az (ah×IH):=
 match s with
 | .slice base len cap=>
   let need:=Nat.add len n
   cond (Nat.ble (Nat.mul need bytes) small&&Nat.ble (Nat.mul need size) small&&Nat.ble need small)
    (cond (Nat.ble need cap)
      (match base with
      |some ⟨i,o,f⟩=>match h.storeAt i (Nat.add o (Nat.mul len size)) xs with
       |some h=>some (.slice (some ⟨i,o,f⟩) need cap,h)
       |none=>none
      |none=>match n with
       |0=>some (.slice none need cap,h)
       |_=>none)
      (match pg size len s h with
      |none=>none
      |some old=>match base with
       |some ⟨i,_,some (k+1)⟩=>cond (Nat.beq (Nat.succ k) size) (some (.slice (some ⟨h.next,0,some size⟩) need need,(h.kill i).new (.cells (mq old xs)))) none
       |_=>some (.slice (some ⟨h.next,0,some size⟩) need need,h.new (.cells (mq old xs))))) none
 |_=>none
noncomputable def Xk(size:Nat)(d x:ah)(h:IH):az (ah×IH):=
 match d,qp x with
 | .slice base uq _,some m=>
   let n:=cond (Nat.ble m uq) m uq
   match pg size n x h with
   |none=>none
   |some cs=>match base with
    |some ⟨i,o,_⟩=>match h.storeAt i o cs with
     |some h=>some (goInt n,h)
     |none=>none
    |none=>match n with
     |0=>some (goInt 0,h)
     |_=>none
 |_,_=>none
def wT(P:Program)(kt:aM)(k:ah)(es:ae MapEntry):az (az (Nat×ah)):=
 dX P (Instr.findKey kt k es)
def uu(P:Program)(kt:aM)(k:ah):Bool:=
 dQ k&&match dX P (Instr.checkKey true 10000 kt k),dX P (Instr.checkKey false 10000 kt k)with
  |some _,some _=>true
  |_,_=>false
noncomputable def entriesOf(m:ah)(h:IH):az (ae MapEntry):=
 match m with
 | .map none=>some []
 | .map (some i)=>match h.get i with
   |some (.map es _)=>some es
   |_=>none
 |_=>none
noncomputable def D8(P:Program)(kt:aM)(zero m k:ah)(ok:Bool)(h:IH):az ah:=
 match entriesOf m h with
 |none=>none
 |some es=>cond (uu P kt k) (match wT P kt k es with
  |none=>none
  |some (some (_,v))=>some (cond ok (.tuple #[v,.bool true]) v)
  |some none=>some (cond ok (.tuple #[zero,.bool false]) zero)) none
noncomputable def setAt{α:Type}(f:α->α)(l:ae α):Nat->ae α:=
 List.rec (motive:=λ_=>Nat->ae α) (λ_=>[]) (λx l ih n=>Nat.rec (motive:=λ_=>ae α) (f x::l) (λm _=>x::ih m) n) l
noncomputable def I5(P:Program)(kt:aM)(m k v:ah)(h:IH):az IH:=
 match m with
 | .map (some i)=>match h.get i with
   |some (.map es clock)=>cond (uu P kt k) (match wT P kt k es with
    |none=>none
    |some (some (j,_))=>match lW es j with
     |some e=>cond (Instr.sameBits 10000 e.key k) (some (h.set i (.map (setAt (λe=>{e with key:=k,val:=v}) es j) clock))) none
     |none=>none
    |some none=>some (h.set i (.map (mq es [{key:=k,val:=v,born:=clock}]) (Nat.succ clock)))) none
   |_=>none
 |_=>none
noncomputable def aeU(P:Program)(kt:aM)(zero m k:ah)(h:IH):az (ah×IH):=
 match m with
 | .map (some i)=>match h.get i with
   |some (.map es clock)=>cond (uu P kt k) (match wT P kt k es with
    |none=>none
    |some (some (j,v))=>match lW es j with
     |some e=>cond (Instr.sameBits 10000 e.key k) (some (.tuple #[v,goInt e.born],h.set i (.map (setAt (λe=>{e with key:=k}) es j) clock))) none
     |none=>none
    |some none=>some (.tuple #[zero,goInt clock],h.set i (.map (mq es [{key:=k,val:=zero,born:=clock}]) (Nat.succ clock)))) none
   |_=>none
 |_=>none
noncomputable def aeV(m s v:ah)(h:IH):az IH:=
 match m,s with
 | .map (some i),.int _ n=>match h.get i with
   |some (.map es clock)=>match es.findIdx? (λe=>(e.born:Int)==n)with
    |some j=>some (h.set i (.map (setAt (λe=>{e with val:=v}) es j) clock))
    |none=>none
   |_=>none
 |_,_=>none
def wU(P:Program)(t:aM)(x y:ah):az Bool:=
 match P.underlying t,x,y with
 |some (.pointer _),.pointer (some _),.pointer none=>some false
 |some (.pointer _),.pointer none,.pointer (some _)=>some false
 |some (.slice _),.slice (some _) _ _,.slice none _ _=>some false
 |some (.slice _),.slice none _ _,.slice (some _) _ _=>some false
 |some (.slice _),.slice none _ _,.slice none _ _=>some true
 |some (.map _ _),.map (some _),.map none=>some false
 |some (.map _ _),.map none,.map (some _)=>some false
 |some (.func _ _ _),.func _ _ _,.nilFunc=>some false
 |some (.func _ _ _),.nilFunc,.func _ _ _=>some false
 |some (.interface _),.iface _ _,.nilIface=>some false
 |some (.interface _),.nilIface,.iface _ _=>some false
 |_,_,_=>none
def QW:Nat:=9223372036854775807
def I6(k:IntKind)(n:Int):Int:=
 match k,n with
 | .i64,.ofNat m=>cond (Nat.ble m QW) (.ofNat m) (IntKind.i64.wrap (.ofNat m))
 | .i64,.negSucc m=>cond (Nat.ble m 1000000) (.negSucc m) (IntKind.i64.wrap (.negSucc m))
 |k,n=>k.wrap n
def Xl(a b:Int):Int:=
 match a,b with
 | .ofNat x,.ofNat y=>.ofNat (Nat.add x y)
 |a,b=>a+b
def QX(a b:Int):Int:=
 match a,b with
 | .ofNat x,.ofNat y=>cond (Nat.ble y x) (.ofNat (Nat.sub x y)) (.negSucc (Nat.pred (Nat.sub y x)))
 |a,b=>a - b
def leZ(a b:Int):Bool:=
 match a,b with
 | .ofNat x,.ofNat y=>Nat.ble x y
 | .negSucc _,.ofNat _=>true
 | .ofNat _,.negSucc _=>false
 | .negSucc x,.negSucc y=>Nat.ble y x
def FU(a b:Int):Bool:=
 match a,b with
 | .ofNat x,.ofNat y=>Nat.beq x y
 | .negSucc x,.negSucc y=>Nat.beq x y
 |_,_=>false
def Ak(j k:IntKind):Bool:=
 match j,k with
 | .i64,.i64=>true
 |j,k=>j==k
def sP(op:BinOp)(k:IntKind)(a b:Int):az ah:=
 match op with
 | .add=>some (.int k (I6 k (Xl a b)))
 | .sub=>some (.int k (I6 k (QX a b)))
 | .eql=>some (.bool (FU a b))
 | .neq=>some (.bool (!FU a b))
 | .lss=>some (.bool (!leZ b a))
 | .leq=>some (.bool (leZ a b))
 | .gtr=>some (.bool (!leZ a b))
 | .geq=>some (.bool (leZ b a))
 |_=>none
def mD(P:Program)(op:BinOp)(t:aM)(x y:aB)(a b:ah):az ah:=
 match (match a,b with
  | .int j m,.int k n=>cond (Ak j k) (sP op j m n) none
  |_,_=>none)with
 |some v=>some v
 |none=>cond (dQ a&&dQ b) (lC P (do eqGuard op t x y a b;binOp op t a b))
  (match op with
  | .eql=>(match wU P t a b with|some b=>some (.bool b)|none=>none)
  | .neq=>(match wU P t a b with|some b=>some (.bool !b)|none=>none)
  |_=>none)
noncomputable def D9(l:ae ah):az (ae UInt8):=
 List.rec (motive:=λ_=>az (ae UInt8)) (some []) (λv _ ih=>match v,ih with
  | .int .u8 k,some r=>some (UInt8.ofNat k.toNat::r)
  |_,_=>none) l
noncomputable def vK(ρ:aB->ah)(zero:ae ah)(parts:ae (Nat×Nat×aB)):az (ae ah):=
 List.rec (motive:=λ_=>ae ah->az (ae ah)) (λcs=>some cs)
  (λp _ ih cs=>match p with
    |(off,size,x)=>match cellsOf (ρ x)with
     |none=>none
     |some vs=>cond (Nat.beq (jv vs) size) (match jV cs off vs with
      |some cs=>ih cs
      |none=>none) none) parts zero
noncomputable def jK(ρ:aB->ah)(x:az aB):az ah:=
 match x with
 |some x=>some (ρ x)
 |none=>none
noncomputable def aR.alloc(c:aR)(ρ:aB->ah):az ((Nat->ah)×fw):=
 match c with
 | .new cs _=>some (λi=>.pointer (some ⟨i,0,none⟩),.cells cs)
 | .box x _=>match cellsOf (ρ x)with
   |some cs=>some (λi=>.pointer (some ⟨i,0,none⟩),.cells cs)
   |none=>none
 | .Ah _ len zero parts=>match vK ρ zero parts with
   |some cs=>some (λi=>.slice (D7 i 0) len len,.cells cs)
   |none=>none
 | .zl=>some (λi=>.map (some i),.map [] 0)
 | .xS _ size bytes zero l c=>match ρ l,ρ c with
   | .int .i64 (.ofNat l),.int .i64 (.ofNat c)=>cond (Nat.ble l c&&Nat.ble (Nat.mul c bytes) small&&Nat.ble (Nat.mul c size) small&&Nat.ble c small)
      (some (λi=>.slice (D7 i 0) l c,.cells (zeros zero c))) none
   |_,_=>none
 |_=>none
noncomputable def uw(x:az ((Nat->ah)×fw))(h:IH):az (ah×IH):=
 match x with
 |some (f,o)=>some (f h.next,h.new o)
 |none=>none
noncomputable def aR.run(P:Program)(c:aR)(ρ:aB->ah)(h:IH):az (ah×IH):=
 match c with
 | .mv x=>some (ρ x,h)
 | .jC x=>some (ρ x,h)
 | .pick c a b=>match ρ c with
   | .bool t=>some (cond t (ρ a) (ρ b),h)
   |_=>none
 | .new cs t=>uw ((aR.new cs t).alloc ρ) h
 | .box x t=>uw ((aR.box x t).alloc ρ) h
 | .build zero parts=>match vK ρ zero parts with
   |some cs=>some (.agg ⟨cs⟩,h)
   |none=>none
 | .Ah t len zero parts=>uw ((aR.Ah t len zero parts).alloc ρ) h
 | .fG a=>match ρ a with
   | .pointer (some ⟨i,o,none⟩)=>match h.qK i o with
     |some v=>some (v,h)
     |none=>none
   |_=>none
 | .sO n a=>match ρ a with
   | .pointer (some ⟨i,o,none⟩)=>match h.je i o n with
     |some cs=>some (.agg ⟨cs⟩,h)
     |none=>none
   |_=>none
 | .store n a x=>match ρ a,cellsOf (ρ x)with
   | .pointer (some ⟨i,o,none⟩),some vs=>cond (Nat.beq (jv vs) n) (match h.storeAt i o vs with
     |some h=>some (eY,h)
     |none=>none) none
   |_,_=>none
 | .nI x=>match ρ x with
   | .pointer (some a)=>some (.pointer (some a),h)
   | .iface t v=>some (.iface t v,h)
   | .func (.func f) first captured=>some (.func (.func f) first captured,h)
   | .func (.methodOf t n) first captured=>some (.func (.methodOf t n) first captured,h)
   | .func (.yield l) first captured=>some (.func (.yield l) first captured,h)
   |_=>none
 | .bin op t x y=>match mD P op t x y (ρ x) (ρ y)with
   |some v=>some (v,h)
   |none=>none
 | .un op x=>cond (dQ (ρ x)) (match lC P (Op.unary op (ρ x))with
   |some v=>some (v,h)
   |none=>none) none
 | .conv s d x=>cond (dQ (ρ x)) (match lC P (convert s d (ρ x))with
   |some v=>some (v,h)
   |none=>none) none
 | .Xb _ x=>match ρ x with
   | .string b=>some (.slice (some ⟨h.next,0,some 1⟩) b.data.toList.length b.data.toList.length,h.new (.cells (o9 (λc=>.int .u8 c.toNat) b.data.toList)))
   |_=>none
 | .I4 x=>match ρ x with
   | .slice none _ _=>some (.string .empty,h)
   | .slice (some ⟨i,o,_⟩) n _=>match h.je i o n with
     |some cs=>match D9 cs with
      |some bs=>some (.string ⟨⟨bs⟩⟩,h)
      |none=>none
     |none=>none
   |_=>none
 | .iface t x=>some (.iface t (ρ x),h)
 | .D5 fn first captured=>some (.func fn ⟨o9 ρ first⟩ ⟨o9 ρ captured⟩,h)
 | .zl=>uw (aR.zl.alloc ρ) h
 | .xS e size bytes zero l c=>uw ((aR.xS e size bytes zero l c).alloc ρ) h
 | .Xc t x lo hi mx=>match ρ x with
   | .string s=>match bounds? s.size s.size (jK ρ lo) (jK ρ hi) (jK ρ mx)with
     |some _=>match lC P (Instr.slice t (.string s) (jK ρ lo) (jK ρ hi) (jK ρ mx))with
      |some v=>some (v,h)
      |none=>none
     |none=>none
   |_=>none
 | .QT n size x lo hi mx=>match ρ x with
   | .pointer (some ⟨i,o,none⟩)=>match bounds? n n (jK ρ lo) (jK ρ hi) (jK ρ mx)with
     |some (l,hh,m)=>some (.slice (D7 i (Nat.add o (Nat.mul l size))) (Nat.sub hh l) (Nat.sub m l),h)
     |none=>none
   |_=>none
 | .FT size x lo hi mx=>match ρ x with
   | .slice a len cap=>match bounds? len cap (jK ρ lo) (jK ρ hi) (jK ρ mx)with
     |some (l,hh,m)=>match a with
      |none=>some (.slice none (Nat.sub hh l) (Nat.sub m l),h)
      |some ⟨i,o,some 0⟩=>some (.slice (D7 i (Nat.add o (Nat.mul l size))) (Nat.sub hh l) (Nat.sub m l),h)
      |some ⟨i,o,some (k+1)⟩=>cond (Nat.beq (Nat.succ k) size) (some (.slice (some ⟨i,Nat.add o (Nat.mul l size),match mx with|some _=>some 0|none=>some (Nat.succ k)⟩) (Nat.sub hh l) (Nat.sub m l),h)) none
      |some ⟨_,_,none⟩=>none
     |none=>none
   |_=>none
 | .iw off x=>match ρ x with
   | .pointer (some ⟨i,o,none⟩)=>some (.pointer (some ⟨i,Nat.add o off,none⟩),h)
   |_=>none
 | .field _ off n agg x=>match ρ x with
   | .agg ⟨cs⟩=>match agg with
     |true=>match jR (kD cs off) n with
      |some l=>some (.agg ⟨l⟩,h)
      |none=>none
     |false=>match lW cs off with
      |some v=>some (v,h)
      |none=>none
   |_=>none
 | .QU n size x ix=>match ρ x,ρ ix with
   | .pointer (some ⟨b,o,none⟩),.int _ (.ofNat i)=>cond (Nat.blt i n) (some (.pointer (some ⟨b,Nat.add o (Nat.mul i size),none⟩),h)) none
   |_,_=>none
 | .jw size x ix=>match ρ x,ρ ix with
   | .slice (some ⟨b,o,_⟩) n _,.int _ (.ofNat i)=>cond (Nat.blt i n) (some (.pointer (some ⟨b,Nat.add o (Nat.mul i size),none⟩),h)) none
   |_,_=>none
 | .Xd x ix=>match ρ x,ρ ix with
   | .string s,.int _ (.ofNat i)=>match lW s.data.toList i with
     |some b=>some (.int .u8 b.toNat,h)
     |none=>none
   |_,_=>none
 | .Xe n size agg x ix=>match ρ x,ρ ix with
   | .agg ⟨cs⟩,.int _ (.ofNat i)=>cond (Nat.blt i n) (match agg with
     |true=>match jR (kD cs (Nat.mul i size)) size with
      |some l=>some (.agg ⟨l⟩,h)
      |none=>none
     |false=>match lW cs (Nat.mul i size)with
      |some v=>some (v,h)
      |none=>none) none
   |_,_=>none
 | .lookup kt zero m k ok=>match D8 P kt zero (ρ m) (ρ k) ok h with
   |some v=>some (v,h)
   |none=>none
 | .Mq kt m k v=>match I5 P kt (ρ m) (ρ k) (ρ v) h with
   |some h=>some (eY,h)
   |none=>none
 | .Xf kt zero m k=>aeU P kt zero (ρ m) (ρ k) h
 | .Xg m s v=>match aeV (ρ m) (ρ s) (ρ v) h with
   |some h=>some (eY,h)
   |none=>none
 | .QV x=>match ρ x with
   | .string s=>some (.pointer (some ⟨h.next,0,none⟩),h.new (.D6 s 0))
   |_=>none
 | .rangeMap x=>match ρ x with
   | .map none=>some (.pointer (some ⟨h.next,0,none⟩),h.new (.mapIter none 0 [] 0))
   | .map (some m)=>match h.get m with
     |some (.map _ clock)=>some (.pointer (some ⟨h.next,0,none⟩),h.new (.mapIter (some m) clock [] clock))
     |_=>none
   |_=>none
 | .Xh it=>match ρ it with
   | .pointer (some ⟨r,0,none⟩)=>match h.get r with
     |some (.D6 s pos)=>cond (Nat.blt pos s.size)
       (some (.tuple #[.bool true,goInt pos,.int .i32 (Utf8.decode s pos).1],h.set r (.D6 s (Nat.add pos (Utf8.decode s pos).2))))
       (some (.tuple #[.bool false],h))
     |_=>none
   |_=>none
 | .entry it=>match ρ it with
   | .pointer (some ⟨r,0,none⟩)=>match h.get r with
     |some (.mapIter (some m) _ seen stepped)=>match h.get m with
      |some (.map es clock)=>match seen.getLast? with
       |some stamp=>cond (Nat.beq clock stepped) (match es.find? (λe=>Nat.beq e.born stamp)with
        |some e=>some (.tuple #[e.key,e.val],h)
        |none=>none) none
       |none=>none
      |_=>none
     |_=>none
   |_=>none
 | .Mr t zero ok x=>match ρ x with
   | .nilIface=>cond ok (some (.tuple #[zero,.bool false],h)) none
   | .iface u v=>cond (Nat.beq u t) (some (cond ok (.tuple #[v,.bool true]) v,h)) (cond ok (some (.tuple #[zero,.bool false],h)) none)
   |_=>none
 | .extract x i=>match ρ x with
   | .tuple ⟨vs⟩=>match lW vs i with
     |some v=>some (v,h)
     |none=>none
   |_=>none
 | .append _ size bytes s x=>match qp (ρ x)with
   |some n=>match Aj size n (ρ x) h with
    |some xs=>Cf size bytes (ρ s) n xs h
    |none=>none
   |none=>none
 | .Ms _ size bytes zero s x=>match ρ s,ρ x with
   | .slice none 0 0,.int .i64 (.ofNat (n+1))=>cond (Nat.ble (Nat.mul (n+1) bytes) small&&Nat.ble (Nat.mul (n+1) size) small&&Nat.ble (n+1) small) (some (.slice (some ⟨h.next,0,some size⟩) (n+1) (n+1),h.new (.cells (zeros zero (n+1))))) none
   |_,_=>none
 | .copy size d x=>Xk size (ρ d) (ρ x) h
 | .clear zero x=>match ρ x with
   | .slice (some ⟨i,o,some _⟩) (n+1) _=>match h.storeAt i o (zeros zero (n+1))with
     |some h'=>some (.tuple #[],h')
     |none=>none
   | .slice _ 0 _=>some (.tuple #[],h)
   |_=>none
 | .Xi x=>match ρ x with
   | .string s=>some (goInt s.size,h)
   |_=>none
 | .Mt n=>some (goInt n,h)
 | .pV x=>match ρ x with
   | .slice _ n _=>some (goInt n,h)
   |_=>none
 | .Mv x=>match entriesOf (ρ x) h with
   |some es=>some (goInt (jv es),h)
   |none=>none
 | .Xj x=>match ρ x with
   | .slice none _ c=>some (goInt c,h)
   | .slice (some ⟨_,_,some 0⟩) _ c=>some (goInt c,h)
   |_=>none
 | .Ce max args=>match o9 ρ args with
   |[.int j a,.int k b]=>cond (Ak j k) (some (.int j (cond max (cond (leZ b a) a b) (cond (leZ a b) a b)),h)) none
   |args=>cond (iY args) (match lC P (cond max (Builtin.max_ #[] 0 ⟨args⟩) (Builtin.min_ #[] 0 ⟨args⟩))with
    |some v=>some (v,h)
    |none=>none) none
 | .Ai _| .call _ _| .invoke _ _ _| .recover| .panic _| .dcall _ _=>none
end Go.Ideal
namespace Go.Ideal
noncomputable section
def kP(P:Program)(t:aM):az Nat:=(P.info? t).map (·.size)
def zeroOf(P:Program)(t:aM):az ah:=
 match (P.info? t).bind (·.zero)with
 |some z=>if dQ z then some z else none
 |none=>none
def kQ(P:Program)(t:aM):Bool:=
 match P.underlying t with
 |some (.struct _)|some (.array _ _)=>true
 |_=>false
def zm(P:Program)(t:aM):az (ae ah):=
 match zeroOf P t,kP P t with
 |some z,some n=>if z.cells.toList.length=n/\iY z.cells.toList then some z.cells.toList else none
 |_,_=>none
def pW(P:Program)(t:aM):az Nat:=
 match kP P t with
 |some 0=>none
 |s=>s
def Cg(P:Program)(fs:Array Field):ae (Nat×aB)->az (ae (Nat×Nat×aB))
 |[]=>some []
 |(i,x)::l=>match fs[i]?,Cg P fs l with
  |some f,some r=>match kP P f.type with
   |some s=>some ((f.offset,s,x)::r)
   |none=>none
  |_,_=>none
def placesOf(P:Program)(fs:Array Field)(parts:ae (Nat×aB)):az (ae (Nat×Nat×aB)):=
 if fs.toList.all (λf=>(kP P f.type).isSome)then Cg P fs parts else none
def Mw:Fn->Bool
 | .yield _=>false
 | .via .. =>false
 |_=>true
def cop(P:Program)(o:Oper):az aR:=
 match o.op with
 | .move x=>some (.mv x)
 | .assign x=>some (.jC x)
 | .pick c a b=>some (.pick c a b)
 | .alloc e=>match zm P e with
   |some cs=>some (.new cs e)
   |none=>none
 | .box e x=>some (.box x e)
 | .build t parts=>match P.underlying t,zm P t with
   |some (.struct fs),some z=>match placesOf P fs parts.toList with
    |some ps=>some (.build z ps)
    |none=>none
   |some (.array _ e),some z=>match pW P e with
    |some s=>some (.build z (parts.toList.map λ(i,x)=>(i*s,s,x)))
    |none=>none
   |_,_=>none
 | .buildSlice t len parts=>match P.underlying t with
   |some (.slice e)=>match pW P e,zm P e with
    |some s,some z=>if len*s<=2^24 then some (.Ah e len (zeros z len) (parts.toList.map λ(i,x)=>(i*s,s,x)))else none
    |_,_=>none
   |_=>none
 | .load t a=>if kQ P t then(kP P t).map λn=>.sO n a else match P.underlying t with
   |some _=>some (.fG a)
   |none=>none
 | .store t a x=>(kP P t).map λn=>.store n a x
 | .nilCheck x=>some (.nI x)
 | .binOp op t x y _=>some (.bin op t x y)
 | .unOp op _ x=>some (.un op x)
 | .convert s d x=>match P.underlying s,P.underlying d with
   |some .string,some (.slice _)=>none
   |some (.slice e),some .string=>match P.underlying e with
    |some (.int .u8)=>some (.I4 x)
    |_=>none
   |some (.slice _),some (.slice _)=>none
   |some _,some _=>some (.conv s d x)
   |_,_=>none
 | .makeInterface t x=>match P.underlying t with
   |some (.interface _)=>none
   |some _=>some (.iface t x)
   |none=>none
 | .makeFunc fn first captured=>if Mw fn then some (.D5 fn first.toList captured.toList)else none
 | .makeMap _ none=>some .zl
 | .makeSlice t l c=>match P.underlying t with
   |some (.slice e)=>match pW P e,zm P e with
    |some s,some z=>some (.xS e s ((P.info? e).map (·.bytes)).get! z l c)
    |_,_=>none
   |_=>none
 | .slice t x lo hi mx=>match P.underlying t with
   |some .string=>some (.Xc t x lo hi mx)
   |some (.array n e)=>(pW P e).map λs=>.QT n s x lo hi mx
   |some (.slice e)=>(pW P e).map λs=>.FT s x lo hi mx
   |_=>none
 | .fieldAddr s x f=>match P.underlying s with
   |some (.struct fs)=>match fs[f]? with
    |some f=>(pW P f.type).map λ_=>.iw f.offset x
    |none=>none
   |_=>none
 | .field t x f=>match P.underlying t with
   |some (.struct fs)=>match fs[f]? with
    |some f=>match kP P f.type,P.underlying f.type with
     |some n,some _=>some (.field f.type f.offset n (kQ P f.type) x)
     |_,_=>none
    |none=>none
   |_=>none
 | .indexAddr t x i=>match P.underlying t with
   |some (.array n e)=>(pW P e).map λs=>.QU n s x i
   |some (.slice e)=>(pW P e).map λs=>.jw s x i
   |_=>none
 | .index t x i=>match P.underlying t with
   |some (.array n e)=>match pW P e,P.underlying e with
    |some s,some _=>some (.Xe n s (kQ P e) x i)
    |_,_=>none
   |some .string=>some (.Xd x i)
   |_=>none
 | .lookup t m k ok=>match P.underlying t with
   |some (.map kt et)=>(zeroOf P et).map λz=>.lookup kt z m k ok
   |_=>none
 | .mapUpdate t m k v| .insert t m k v=>match P.underlying t with
   |some (.map kt _)=>some (.Mq kt m k v)
   |_=>none
 | .range t x=>match P.underlying t with
   |some .string=>some (.QV x)
   |some (.map _ _)=>some (.rangeMap x)
   |_=>none
 | .next it false=>some (.Ai it)
 | .entry it=>some (.entry it)
 | .typeAssert x _ t ok=>match P.underlying t with
   |some (.interface _)=>none
   |some _=>(zeroOf P t).map λz=>.Mr t z ok x
   |none=>none
 | .extract t i=>some (.extract t i)
 | .panic x=>some (.panic x)
 | .defer {callee:=.value f,args,.. }=>some (.dcall f args.toList)
 | .call {callee:=.value f,args,.. }=>some (.call f args.toList)
 | .call {callee:=.invoke x name,args,.. }=>some (.invoke x name args.toList)
 | .call {callee:=.builtin b,args,argTypes}=>match b,args.toList with
   | .recover,_=>some .recover
   | .panic,[x]=>some (.panic x)
   | .append,[s,x]=>match argTypes[0]?,argTypes[1]? with
     |some st,some xt=>match P.underlying st,P.underlying xt with
      |some (.slice e),some xd=>match pW P e,(P.info? e).map (·.bytes),zm P e with
       |some s',some (b+1),some z=>match xd with
        | .int _=>some (.Ms e s' (b+1) z s x)
        |_=>some (.append e s' (b+1) s x)
       |_,_,_=>none
      |_,_=>none
     |_,_=>none
   | .clear,[x]=>match argTypes[0]? with
     |some t=>match P.underlying t with
      |some (.slice e)=>match zm P e with
       |some (z::zs)=>some (.clear (z::zs) x)
       |_=>none
      |_=>none
     |none=>none
   | .copy,[d,x]=>match argTypes[0]? with
     |some dt=>match P.underlying dt with
      |some (.slice e)=>(pW P e).map λs=>.copy s d x
      |_=>none
     |none=>none
   | .len,[x]=>match argTypes[0]? with
     |some t=>match P.underlying t with
      |some .string=>some (.Xi x)
      |some (.array n _)=>some (.Mt n)
      |some (.pointer p)=>match P.underlying p with
       |some (.array n _)=>some (.Mt n)
       |_=>none
      |some (.slice _)=>some (.pV x)
      |some (.map _ _)=>some (.Mv x)
      |_=>none
     |none=>none
   | .cap,[x]=>match argTypes[0]? with
     |some t=>match P.underlying t with
      |some (.slice _)=>some (.Xj x)
      |_=>none
     |none=>none
   | .min,args=>some (.Ce false args)
   | .max,args=>some (.Ce true args)
   |_,_=>none
 |_=>none
def FV(P:Program):aB->Bool
 | .const (.tuple ⟨[]⟩)=>true
 | .const v=>dQ v
 | .global g=>Nat.blt g P.globals.size
 |_=>true
def I7(P:Program)(ops:Array Oper)(o:Oper):az jh:=
 if o.op.operands.toList.all (FV P)then match cop P o with
 |none=>none
 |some c=>match o.guard with
  |none=>some ⟨o.dst,none,c⟩
  |some (j,want)=>match (ops[j]?).bind (·.dst)with
   |some t=>some ⟨o.dst,some (t,want),c⟩
   |none=>none
 else none
def heavy:aR->Bool
 | .jC .. | .store .. | .Mq .. | .Xf .. | .Xg .. | .QV .. | .rangeMap .. | .Xh .. | .Ai .. | .append .. | .Ms .. | .copy .. | .clear .. | .Xb ..
 | .call .. | .invoke .. | .recover| .panic .. | .dcall .. =>true
 |_=>false
def FW:aR->Bool
 | .fG .. | .sO .. | .lookup .. | .entry .. | .I4 .. | .Mv .. =>true
 |_=>false
def FX(ops:Array Oper)(done:ae Nat)(i:Nat):Bool:=
 !done.contains i&&match ops[i]? with
  |some o=>o.after.toList.all λe=>!Region.binds .any e||done.contains e.on
  |none=>false
def looks(ops:Array Oper)(o:Oper):ae Tmp:=
 (o.op.operands.toList.filterMap λ| .tmp t=>some t|_=>none)++
 (match o.guard with
  |some (g,_)=>((ops[g]?).bind (·.dst)).toList
  |none=>[])
def QY(ops:Array Oper)(hv:Nat->Bool):Nat->ae Nat->ae Nat
 |0,done=>done.reverse
 |f+1,done=>
  match (List.range ops.size).find? λi=>!hv i&&FX ops done i with
  |some i=>QY ops hv f (i::done)
  |none=>match (List.range ops.size).find? λi=>FX ops done i with
   |some i=>QY ops hv f (i::done)
   |none=>done.reverse
def Xm(ops:Array Oper)(cZ:Nat->Nat->Bool)(hv:Nat->Bool)(done:ae Nat)(i:Nat):Bool:=
 match ops[i]? with
 |none=>false
 |some o=>
  FX ops done i&&
  (!hv i||(done.all λj=>!hv j||cZ i j)&&(List.range ops.size).all λj=>hv j||!FX ops done j)&&
  (match o.dst with
  |none=>true
  |some d=>(hv i||!(looks ops o).contains d)&&done.all λj=>match ops[j]? with
   |some p=>if(looks ops p).contains d||p.dst==some d then hv i&&cZ i j else true
   |none=>false)&&
  done.all λj=>match ops[j]? with
   |some p=>match p.dst with
    |some d=>if(looks ops o).contains d then cZ i j else true
    |none=>true
   |none=>false
def I8(ops:Array Oper)(cZ:Nat->Nat->Bool)(hv:Nat->Bool):ae Nat->ae Nat->Bool
 |[],done=>(List.range ops.size).all λi=>done.contains i
 |i::l,done=>Xm ops cZ hv done i&&I8 ops cZ hv l (i::done)
def I9(cZ:Nat->Nat->Bool)(cs:Nat->az jh):ae Nat->ae Nat->az (ae bV)
 |[],_=>some []
 |i::l,done=>match cs i,I9 cZ cs l (i::done)with
  |some s,some r=>some (⟨s,if heavy s.op then done.filterMap λj=>match cs j with
    |some t=>if FW t.op&&!cZ i j then some t else none
    |none=>none else[]⟩::r)
  |_,_=>none
def vM(ops:Array Oper):Nat->Nat->Bool:=
 let b:=Region.before ops
 λi j=>(b.getD i 0).testBit j
def mY(P:Program)(ops:Array Oper)(i:Nat):az jh:=(ops[i]?).bind (I7 P ops)
def Ch(P:Program)(ops:Array Oper)(i:Nat):Bool:=
 match mY P ops i with
 |some s=>heavy s.op
 |none=>true
def Xn(P:Program)(ops:Array Oper):az (ae bV):=
 let l:=QY ops (Ch P ops) ops.size []
 if I8 ops (vM ops) (Ch P ops) l []then I9 (vM ops) (mY P ops) l []else none
def dstsOf(ops:Array Oper):ae Tmp:=ops.toList.filterMap (·.dst)
def Mx(P:Program)(ops:Array Oper)(draw:Bool):dD:=
 match (if draw then Xn P ops else ops.toList.mapM λo=>(I7 P ops o).map λs=>⟨s,[]⟩)with
 |some l=>.ops (dstsOf ops) l
 |none=>.fail
def compile(P:Program):Code->dD
 | .skip| .label _=>.skip
 | .region _ ops draw=>Mx P ops draw
 | .seq a b=>.seq (compile P a) (compile P b)
 | .cond c a b=>.cond c (compile P a) (compile P b)
 | .block id a=>.block id (compile P a)
 | .loop a=>.loop (compile P a)
 | .rangeFunc f params assign body=>if FV P f then .rangeFunc f params.toList (compile P assign) (compile P body)else .fail
 | .exit id=>.exit id
 | .scope a=>.scope (compile P a)
 | .ret=>.ret
 | .goto _| .refuse _=>.fail
inductive uy where
 |tmp (t:Tmp)
 |cell1 (a:Tmp)
 |pX (n:Nat) (a:Tmp)
def Ja(P:Program):ResultVar->az uy
 | .tmp t=>some (.tmp t)
 | .cell a t=>if kQ P t then(kP P t).map λn=>.pX n a else match P.underlying t with
   |some _=>some (.cell1 a)
   |none=>none
structure iJ where
 ntmps:Nat
 results:List uy
 body:dD
def xU(P:Program)(fn:Func):az iJ:=
 match fn.body,fn.results.toList.mapM (Ja P)with
 |some c,some rs=>if fn.name= "runtime.NumGoroutine" then none else some ⟨fn.ntmps,rs,compile P c⟩
 |_,_=>none
inductive jL where
 |ok (v:Value)
 |iy (chain:List PanicEntry)
structure ji where
 fn:Fn
 args:List Value
 captured:List Value
 pm:Option FrameMode
def Al(l:ae ah):Nat->T ah->T ah:=
 List.rec (motive:=λ_=>Nat->T ah->T ah) (λ_ t=>t) (λv _ ih i t=>ih (Nat.succ i) (t.set i (some v))) l
def uz(a b:Nat):Nat:=cond (Nat.ble a b) b a
def Ea(n:Nat)(args:ae ah)(pm:az FrameMode):bE:=
 {n:=uz n (jv args),tmps:=Al args 0 .leaf,defers:=[],pm,ro:=none}
def wV(tmps:T ah)(h:IH)(r:uy):az ah:=
 match r with
 | .tmp t=>some (dZ tmps t)
 | .cell1 a=>match dZ tmps a with
   | .pointer (some ⟨i,o,none⟩)=>match h.get i with
     |some (.cells cs)=>lW cs o
     |_=>none
   |_=>none
 | .pX n a=>match dZ tmps a with
   | .pointer (some ⟨i,o,none⟩)=>match h.kL i o n with
     |some cs=>some (.agg ⟨cs⟩)
     |none=>none
   |_=>none
def Am(tmps:T ah)(h:IH)(l:ae uy):az (ae ah):=
 List.rec (motive:=λ_=>az (ae ah)) (some []) (λr _ ih=>match wV tmps h r,ih with
  |some v,some vs=>some (v::vs)
  |_,_=>none) l
def uA(rs:ae uy)(tmps:T ah)(h:IH):az ah:=
 match Am tmps h rs with
 |some [v]=>some v
 |some vs=>some (.tuple ⟨vs⟩)
 |none=>none
def Ci:FrameMode->FrameMode
 | .panicking (e::older)=>cond e.recovered (match older.dropWhile (!·.goexit)with
    |[]=>.returning
    |rest=>.panicking rest) (.panicking (e::older))
 |m=>m
def FY(u:FrameMode)(chain:ae PanicEntry):FrameMode:=
 match u with
 | .panicking old=>.panicking (chain++old)
 |_=>.panicking chain
def mZ(pm:FrameMode):ah×FrameMode:=
 match pm with
 | .panicking (e::older)=>cond (e.recovered||e.goexit) (.nilIface,pm) (e.v,.panicking ({e with recovered:=true}::older))
 |_=>(.nilIface,pm)
def FZ(P:Program)(t:aM)(v:ah)(name:String):az (gy×ah):=
 match P.info? t with
 |none=>none
 |some info=>match info.methods.find? (·.name==name)with
  |none=>none
  |some m=>if m.path.size≠0 then none else match m.func with
   |some (f,ptr)=>match P.underlying t,ptr with
    |some (.pointer _),true=>some (f,v)
    |some (.pointer _),false=>none
    |some _,false=>some (f,v)
    |_,_=>none
   |none=>none
def target(P:Program)(q:ji):az (gy×ae ah):=
 match q.fn with
 | .func f=>some (f,mq q.args q.captured)
 | .method name=>match q.args with
   | .iface t v::args=>match FZ P t v name with
     |some (f,r)=>some (f,r::args)
     |none=>none
   |_=>none
 | .methodOf t name=>match q.args with
   |x::args=>match P.underlying t with
    |some (.interface _)=>match x with
     | .iface t v=>match FZ P t v name with
       |some (f,r)=>some (f,r::args)
       |none=>none
     |_=>none
    |some _=>match FZ P t x name with
     |some (f,r)=>some (f,r::args)
     |none=>none
    |none=>none
   |[]=>none
 |_=>none
def Ao(c:aR)(ρ:aB->ah):az ji:=
 match c with
 | .call f args=>match ρ f with
   | .func fn ⟨first⟩ ⟨captured⟩=>some ⟨fn,mq first (o9 ρ args),captured,none⟩
   |_=>none
 | .invoke x name args=>some ⟨.method name,ρ x::o9 ρ args,[],none⟩
 |_=>none
def forget(ds:ae Tmp)(a:bE):bE:=
 List.rec (motive:=λ_=>bE->bE) (λa=>a) (λd _ ih a=>ih (a.set d eY)) ds a
def Eb(it:ah)(h:IH):az (ae (ah×IH)):=
 match it with
 | .pointer (some ⟨r,0,none⟩)=>match h.get r with
   |some (.mapIter none _ _ _)=>some [(.tuple #[.bool false],h)]
   |some (.mapIter (some m) since seen last)=>match h.get m with
    |some (.map es clock)=>
     cond (!seen.isEmpty&&!es.isEmpty&&es.all (λe=>Nat.ble last e.born)) none
      (let left:=es.filter λe=>!seen.contains e.born
      let old:=left.filter λe=>Nat.blt e.born since
      let new:=left.filter λe=>Nat.ble since e.born
      some ((if old.isEmpty then[(.tuple #[.bool false],h)]else[])++
       (old++new).map λe=>(.tuple #[.bool true,e.key,e.val],h.set r (.mapIter (some m) since (seen++[e.born]) clock))))
    |_=>none
   |_=>none
 |_=>none
def inBlock(id:Nat)(o:Out):Out:=
 match o with
 | .exit j=>cond (Nat.beq j id) .normal (.exit j)
 |o=>o
def wW(o:Out):az FrameMode:=
 match o with
 | .normal| .ret=>some .returning
 | .panic ch=>some (.panicking ch)
 | .exit _=>none
def Cj(n:Nat)(ps:ae Tmp)(args:ae ah)(t:T ah):T ah:=
 List.rec (motive:=λ_=>ae ah->T ah->T ah) (λ_ t=>t)
  (λp _ ih args t=>match args with
    |v::args=>ih args (cond (Nat.blt p n) (t.set p (some v)) t)
    |[]=>t) ps args t
mutual
def rT(m:Nat):ah->Bool
 | .pointer (some a)=>Nat.blt a.block m
 | .slice (some a) _ _=>Nat.blt a.block m
 | .map (some i)=>Nat.blt i m
 | .func fn ⟨f⟩ ⟨c⟩=>(match fn with
   | .yield _=>false
   |_=>true)&&xV m f&&xV m c
 | .iface _ v=>rT m v
 | .agg ⟨l⟩=>xV m l
 | .tuple ⟨l⟩=>xV m l
 |_=>true
def xV(m:Nat):ae ah->Bool
 |[]=>true
 |v::l=>rT m v&&xV m l
end
def MB(m:Nat):fw->Bool
 | .cells cs=>xV m cs
 | .map es _=>es.all λe=>rT m e.val
 |_=>false
abbrev KO:=Out->bE->IH->Prop
abbrev KR:=jL->az FrameMode->IH->Prop
end
end Go.Ideal
namespace Go.Ideal
noncomputable section
def F3{α:Type}(f:Nat):ae α->T α:=
 Nat.rec (motive:=λ_=>ae α->T α) (λ_=>.leaf)
  (λ_ ih l=>List.rec (motive:=λ_=>T α) .leaf (λx l _=>.node (some x)
    (ih (List.rec (motive:=λ_=>Bool->ae α) (λ_=>[]) (λy _ r b=>Bool.rec (motive:=λ_=>ae α) (r true) (y::r false) b) l true))
    (ih (List.rec (motive:=λ_=>Bool->ae α) (λ_=>[]) (λy _ r b=>Bool.rec (motive:=λ_=>ae α) (r true) (y::r false) b) l false))) l) f
def wX(f:Nat):ah->ah->Bool:=
 Nat.rec (motive:=λ_=>ah->ah->Bool) (λ_ _=>false)
  (λ_ ih v u=>match v,u with
    | .bool a,.bool b=>a==b
    | .int .i64 a,.int .i64 b=>FU a b
    | .int j a,.int k b=>j==k&&a==b
    | .string a,.string b=>a.data.toList==b.data.toList
    | .pointer none,.pointer none=>true
    | .pointer (some ⟨i,o,none⟩),.pointer (some ⟨j,p,none⟩)=>Nat.beq i j&&Nat.beq o p
    | .slice none n c,.slice none m d=>Nat.beq n m&&Nat.beq c d
    | .slice (some ⟨i,o,some f⟩) n c,.slice (some ⟨j,p,some g⟩) m d=>Nat.beq i j&&Nat.beq o p&&Nat.beq f g&&Nat.beq n m&&Nat.beq c d
    | .map none,.map none=>true
    | .map (some i),.map (some j)=>Nat.beq i j
    | .nilIface,.nilIface=>true
    | .nilFunc,.nilFunc=>true
    | .iface t v,.iface s u=>Nat.beq t s&&ih v u
    | .agg ⟨a⟩,.agg ⟨b⟩=>List.rec (motive:=λ_=>ae ah->Bool) (λb=>match b with|[]=>true|_=>false) (λx _ r b=>match b with|y::b=>cond (ih x y) (r b) false|[]=>false) a b
    | .tuple ⟨a⟩,.tuple ⟨b⟩=>List.rec (motive:=λ_=>ae ah->Bool) (λb=>match b with|[]=>true|_=>false) (λx _ r b=>match b with|y::b=>cond (ih x y) (r b) false|[]=>false) a b
    | .func f ⟨a⟩ ⟨c⟩,.func g ⟨b⟩ ⟨d⟩=>f==g&&
       List.rec (motive:=λ_=>ae ah->Bool) (λb=>match b with|[]=>true|_=>false) (λx _ r b=>match b with|y::b=>cond (ih x y) (r b) false|[]=>false) a b&&
       List.rec (motive:=λ_=>ae ah->Bool) (λb=>match b with|[]=>true|_=>false) (λx _ r b=>match b with|y::b=>cond (ih x y) (r b) false|[]=>false) c d
    |_,_=>false) f
abbrev BO:=Out->bE->IH->Bool
abbrev BR:=jL->az FrameMode->IH->Bool
structure Ev where
 code:dD->bE->IH->BO->Bool
 call:ji->IH->BR->Bool
structure Env where
 P:Program
 F:Nat->Option iJ
 cut:Nat->Option (ji->IH->Option (List Value×Nat×Nat))
 /-- calls that are known: what they return, and the heap behind them -/
 memo:Nat->Option (ji->IH->Option (Value×IH))
def Jb(P:Program)(re:ae jh)(a:bE)(h:IH):Bool:=
 List.rec (motive:=λ_=>Bool) true (λr _ ih=>cond (match a.wants r.guard with
  |some false=>true
  |_=>match r.op.run P a.eval h with
   |some (u,_)=>match r.dst with
    |some d=>wX 50 (dZ a.tmps d) u
    |none=>true
   |none=>false) ih false) re
def QZ(P:Program)(s:bV)(a:bE)(h:IH)(next:bE->IH->Bool):Bool:=
 match s.s.op.run P a.eval h with
 |some (v,h)=>match s.re with
  |[]=>next (a.put s.s.dst v) h
  |re=>cond (Jb P re (a.put s.s.dst v) h) (next (a.put s.s.dst v) h) false
 |none=>false
def MC(P:Program)(E:Ev)(ds:ae Tmp)(s:bV)(a:bE)(h:IH)(next:bE->IH->Bool)(k:BO):Bool:=
 match Ao s.s.op a.eval with
 |some q=>E.call q h λr _ h=>match r with
  | .ok v=>cond (Jb P s.re (a.put s.s.dst v) h) (next (a.put s.s.dst v) h) false
  | .iy ch=>k (.panic ch) (forget ds a) h
 |none=>false
def Jc(s:bV)(b:Bool):Bool:=match s.re with
 |[]=>b
 |_=>false
def ME(P:Program)(E:Ev)(ds:ae Tmp)(s:bV)(a:bE)(h:IH)(next:bE->IH->Bool)(k:BO):Bool:=
 match s.s.op with
 | .call _ _=>MC P E ds s a h next k
 | .invoke _ _ _=>MC P E ds s a h next k
 | .recover=>Jc s (match a.ro with
   |some _=>false
   |none=>match a.pm with
    |none=>next (a.put s.s.dst .nilIface) h
    |some m=>next ({a with pm:=some (mZ m).2}.put s.s.dst (mZ m).1) h)
 | .panic x=>match a.eval x with
   | .iface t v=>k (.panic [{v:=.iface t v,recovered:=false}]) (forget ds a) h
   |_=>false
 | .dcall f args=>Jc s (match a.ro with
   |some _=>false
   |none=>match a.eval f with
    | .func fn ⟨first⟩ ⟨captured⟩=>next ({a with defers:={target:=.fn fn ⟨captured⟩,args:=⟨mq first (o9 a.eval args)⟩}::a.defers}.put s.s.dst eY) h
    |_=>false)
 | .Ai x=>Jc s (match Eb (a.eval x) h with
   |some alts=>Mo (λvh=>next (a.put s.s.dst vh.1) vh.2) alts
   |none=>false)
 |_=>QZ P s a h next
def Jd(P:Program)(E:Ev)(ds:ae Tmp)(l:ae bV):bE->IH->BO->Bool:=
 List.rec (motive:=λ_=>bE->IH->BO->Bool) (λa h k=>k .normal a h)
  (λs _ ih a h k=>match a.wants s.s.guard with
    |some true=>ME P E ds s a h (λa h=>ih a h k) k
    |some false=>ih (a.put s.s.dst xR) h k
    |none=>false) l
def Ec(E:Ev)(cf:iJ)(ts:T ah)(ds:ae Deferred):FrameMode->IH->(jL->IH->Bool)->Bool:=
 List.rec (motive:=λ_=>FrameMode->IH->(jL->IH->Bool)->Bool)
  (λm h k=>match m with
    | .returning=>match uA cf.results ts h with
      |some v=>k (.ok v) h
      |none=>false
    | .panicking ch=>k (.iy ch) h
    | .run=>false)
  (λd _ ih m h k=>match m with
    | .run=>false
    |m=>match d with
     |{target:=.collected r,.. }=>match h.get r with
      |some (.jJ true)=>ih m (h.set r (.jJ false)) k
      |_=>false
     |{target:=.fn fn ⟨captured⟩,args:=⟨args⟩}=>E.call ⟨fn,args,captured,some m⟩ h λr pm h=>match pm with
      |none=>false
      |some m'=>match r with
       | .ok _=>ih (Ci m') h k
       | .iy ch=>ih (FY m' ch) h k
     |_=>false) ds
def Ed(V:Env)(E:Ev)(f:gy)(args:ae ah)(pm:az FrameMode)(h:IH)(k:BR):Bool:=
 match V.F f with
 |none=>false
 |some cf=>E.code cf.body (Ea cf.ntmps args pm) h λo a h=>match wW o with
  |none=>false
  |some m=>Ec E cf a.tmps a.defers m h λr h=>k r a.pm h
def Xo(l:Nat)(o:Out)(a:bE)(h:IH)(k:BR):Bool:=
 match a.defers with
 |[]=>match h.get l with
  |some (.loop r)=>match o with
   | .normal=>k (.ok (.bool true)) none (h.set l (.loop {r with state:=.ready,pending:=none}))
   | .panic ch=>k (.iy ch) none h
   | .exit id=>k (.ok (.bool false)) none (h.set l (.loop {r with state:=.done,pending:=some (.exit id)}))
   | .ret=>k (.ok (.bool false)) none (h.set l (.loop {r with state:=.done,pending:=some .ret}))
  |_=>false
 |_=>false
def Q0(E:Ev)(l:Nat)(args:ae ah)(h:IH)(k:BR):Bool:=
 match h.get l with
 |some (.loop r)=>cond (Nat.beq (jv args) (jv r.params))
  (E.code r.assign {n:=r.n,tmps:=Cj r.n r.params args r.tmps,defers:=[],pm:=none,ro:=some l} h λo a h=>match o with
    | .normal=>match h.get l with
      |some (.loop r1)=>match r1.state with
       | .ready=>E.code r.body a (h.set l (.loop {r1 with state:=.busy})) λo a h=>Xo l o a h k
       |_=>false
      |_=>false
    |_=>false) false
 |_=>false
def Xp(cs:ae ah)(n f:Nat)(h0:IH)(r:jL)(pm:az FrameMode)(h:IH):Bool:=
 match pm with
 |some _=>false
 |none=>match r with
  | .ok (.slice (some ⟨i,o,some f'⟩) n' c)=>cond (Nat.beq n n'&&Nat.beq f f'&&(!Nat.beq f 0||Nat.beq c n)&&Nat.ble h0.next i&&Nat.beq h.low h0.next) (match h.kL i o (jv cs)with
    |some l=>List.rec (motive:=λ_=>ae ah->Bool) (λb=>match b with|[]=>true|_=>false) (λx _ r b=>match b with|y::b=>cond (wX 5 x y) (r b) false|[]=>false) l cs
    |none=>false) false
  |_=>false
def Q3(V:Env)(f:Nat)(q:ji)(h:IH)(k:BR)(other:Bool):Bool:=
 match V.memo f with
 |none=>other
 |some g=>match q.pm with
  |some _=>other
  |none=>match g q h with
   |some (v,h')=>k (.ok v) none h'
   |none=>other
def Q4(V:Env)(E:Ev)(q:ji)(h:IH)(k:BR):Bool:=
 match q.fn with
 | .yield l=>match q.pm with
   |none=>Q0 E l q.args h k
   |some _=>false
 |_=>match target V.P q with
  |none=>false
  |some (f',args)=>Q3 V f' q h k (match V.cut f' with
   |none=>Ed V E f' args q.pm h k
   |some g=>match q.pm with
    |some _=>false
    |none=>match g q h with
     |none=>Ed V E f' args q.pm h k
     |some ([],_,_)=>Ed V E f' args q.pm h k
     |some (cs,n,f)=>cond (iY cs&&(Nat.beq f 0||Nat.beq (jv cs) (Nat.mul n f)))
       (cond (Ed V E f' args none {h with low:=h.next} (Xp cs n f h))
         (k (.ok (.slice (some ⟨h.next,0,some f⟩) n n)) none (h.new (.cells cs))) false) false)
def MF(V:Env)(E:Ev)(c:dD)(a:bE)(h:IH)(k:BO):Bool:=
 match c with
 | .skip=>k .normal a h
 | .ops ds l=>Jd V.P E ds l a h k
 | .seq x y=>E.code x a h λo a h=>match o with
   | .normal=>E.code y a h k
   |o=>k o a h
 | .cond c x y=>match a.eval c with
   | .bool true=>E.code x a h k
   | .bool false=>E.code y a h k
   |_=>false
 | .block id c=>E.code c a h λo a h=>k (inBlock id o) a h
 | .loop c=>E.code c a h λo a h=>match o with
   | .normal=>E.code (.loop c) a h k
   |o=>k o a h
 | .scope c=>E.code c a h k
 | .exit id=>k (.exit id) a h
 | .ret=>k .ret a h
 | .rangeFunc f ps assign body=>match a.eval f with
   | .func fn ⟨first⟩ ⟨captured⟩=>
     let go (a1:bE) (r:Nat) (h1:IH):Bool:=
      E.call ⟨fn,mq first [.func (.yield h1.next) #[] #[]],captured,none⟩
       (h1.new (.loop {state:=.ready,pending:=none,tmps:=a.tmps,n:=a.n,params:=ps,assign,body,defers:=r})) λres _ h2=>match res with
       | .ok _=>match h2.get h1.next with
         |some (.loop lp)=>match lp.state with
          | .busy=>false
          |_=>k (lp.pending.getD .normal) a1 (h2.set h1.next (.loop {lp with state:=.exhausted}))
         |_=>false
       | .iy ch=>k (.panic ch) a1 h2
     match a.ro with
     |none=>go {a with defers:={target:=.collected h.next,args:= #[]}::a.defers} h.next (h.new (.jJ true))
     |some l0=>match h.get l0 with
      |some (.loop r0)=>go a r0.defers h
      |_=>false
   |_=>false
 | .fail=>false
def Q5(V:Env)(n:Nat):Ev:=
 Nat.rec (motive:=λ_=>Ev) ⟨λ_ _ _ _=>false,λ_ _ _=>false⟩ (λ_ E=>⟨MF V E,Q4 V E⟩) n
def vN(P:Program)(cut:Nat->az (ji->IH->az (ae ah×Nat×Nat)))(memo:Nat->az (ji->IH->az (ah×IH))):Env:=
 {P,F:=λf=>match (F3 100000 P.funcs.toList).get f with
   |some fn=>xU P fn
   |none=>none,cut,memo}
def uB:Nat->az (ji->IH->az (ae ah×Nat×Nat)):=λ_=>none
def uC:Nat->az (ji->IH->az (ah×IH)):=λ_=>none
noncomputable abbrev ng(P:Program)(n:gy):az iJ:=(vN P uB uC).F n
noncomputable def qL(P:Program)(n:gy):iJ:=(ng P n).getD ⟨0,[],.skip⟩
def pY{P:Program}(n:gy)(h:(ng P n).isSome=true:=by kernel_rfl):(vN P uB uC).F n=some (qL P n):=by
 unfold qL;revert h;show(ng P n).isSome=true->ng P n=some ((ng P n).getD ⟨0,[],.skip⟩);cases ng P n with
 |none=>intro h;cases h
 |some c=>intro _;rfl
end
end Go.Ideal
namespace Go.Ideal
section
variable {α:Type}
def T.Je(n:Nat):(T.leaf:T α).get n=none:=rfl
def T.F4(v:az α)(l r:T α):(T.node v l r).get 0=v:=rfl
def T.zn(v:az α)(l r:T α)(m:Nat):(T.node v l r).get (m+1)=if m%2=0 then l.get (m/2)else r.get (m/2):=by
 show Bool.rec (motive:=λ_=>az α) (r.get (m/2)) (l.get (m/2)) (Nat.beq (m%2) 0)=_;exact li
def T.aeW(f:Nat)(x:az α):T.one (f+1) 0 x=.node x .leaf .leaf:=rfl
def T.aeX(f m:Nat)(x:az α):T.one (f+1) (m+1) x=if m%2=0 then .node none (T.one f (m/2) x) .leaf else .node none .leaf (T.one f (m/2) x):=by
 show Bool.rec (motive:=λ_=>T α) (.node none .leaf (T.one f (m/2) x)) (.node none (T.one f (m/2) x) .leaf) (Nat.beq (m%2) 0)=_;exact li
def T.aeY(n:Nat)(x:az α):(T.leaf:T α).set n x=T.one (n+1) n x:=rfl
def T.aeZ(v:az α)(l r:T α)(x:az α):(T.node v l r).set 0 x=.node x l r:=rfl
def T.ae0(v:az α)(l r:T α)(m:Nat)(x:az α):(T.node v l r).set (m+1) x=if m%2=0 then .node v (l.set (m/2) x) r else .node v l (r.set (m/2) x):=by
 show Bool.rec (motive:=λ_=>T α) (.node v l (r.set (m/2) x)) (.node v (l.set (m/2) x) r) (Nat.beq (m%2) 0)=_;exact li
def T.ae1(x:az α):∀(f n m:Nat),n<f->(T.one f n x).get m=if m=n then x else none:=by
 intro f;induction f with
 |zero=>intro n m h;omega
 |succ f ih=>
  intro n m h;cases n with
  |zero=>
   rw[T.aeW];cases m with
   |zero=>simp[T.F4]
   |succ m=>rw[T.zn];simp[T.Je]
  |succ n=>
   rw[T.aeX];by_cases hp:n%2=0
   .rw[if_pos hp];cases m with
    |zero=>simp[T.F4]
    |succ m=>
     rw[T.zn];by_cases hq:m%2=0
     .grind
     .rw[if_neg hq,T.Je,if_neg s6]
   .rw[if_neg hp];cases m with
    |zero=>simp[T.F4]
    |succ m=>
     rw[T.zn];by_cases hq:m%2=0
     .rw[if_pos hq,T.Je,if_neg s6]
     grind
def T.og(x:az α):∀(t:T α) (n m:Nat),(t.set n x).get m=if m=n then x else t.get m:=by
 intro t;induction t with
 |leaf=>intro n m;rw[T.aeY,T.ae1 _ _ _ _ (yY n),T.Je]
 |node v l r hl hr=>
  intro n m;cases n with
  |zero=>
   rw[T.aeZ];cases m with
   |zero=>simp[T.F4]
   |succ m=>rw[T.zn,T.zn];simp
  |succ n=>
   rw[T.ae0];by_cases hp:n%2=0
   .rw[if_pos hp];exact rh
   .rw[if_neg hp];exact rh
end
def IH.og(h:IH)(i j:Nat)(o:fw):(h.set i o).get j=if j=i then some o else h.get j:=T.og _ _ _ _
def IH.uD(h:IH)(i j:Nat):(h.kill i).get j=if j=i then none else h.get j:=T.og _ _ _ _
def IH.jD(h:IH)(j:Nat)(o:fw):(h.new o).get j=if j=h.next then some o else h.get j:=T.og _ _ _ _
def IH.Jf(h:IH)(i:Nat):(h.kill i).next=h.next:=rfl
def IH.MG(h:IH)(o:fw):(h.new o).next=h.next+1:=rfl
def IH.Jg(h:IH)(o:fw):(h.new o).low=h.low:=rfl
def IH.F5(h:IH)(i:Nat)(o:fw):(h.set i o).low=min h.low i:=by
 exact gx
def IH.Ap(h:IH)(i:Nat):(h.kill i).low=min h.low i:=by
 exact gx
def F6(t:T ah)(i j:Nat)(v:ah):dZ (t.set i (some v)) j=if j=i then v else dZ t j:=by
 unfold dZ;rw[T.og];split<;>rfl
section
variable {α β:Type}
def xW(f:α->β)(l:ae α):o9 f l=l.map f:=by
 induction l with
 |nil=>rfl
 |cons x l ih=>show f x::o9 f l=_;rw[ih];rfl
def uE(l:ae α)(n:Nat):lW l n=l[n]?:=by
 induction l generalizing n with
 |nil=>rfl
 |cons x l ih=>cases n with
  |zero=>rfl
  |succ n=>show lW l n=_;rw[ih];simp
def qw(l:ae α)(n:Nat):kD l n=l.drop n:=by
 induction l generalizing n with
 |nil=>cases n<;>rfl
 |cons x l ih=>cases n with
  |zero=>rfl
  |succ n=>show kD l n=_;rw[ih];simp
def xX(l:ae α):jv l=l.length:=by
 induction l with
 |nil=>rfl
 |cons x l ih=>show jv l+1=_;rw[ih];rfl
def kR(l r:ae α):mq l r=l++r:=by
 induction l with
 |nil=>rfl
 |cons x l ih=>show x::mq l r=_;rw[ih];rfl
def qM(l:ae α)(n:Nat):jR l n=if n<=l.length then some (l.take n)else none:=by
 induction l generalizing n with
 |nil=>cases n<;>rfl
 |cons x l ih=>cases n with
  |zero=>rfl
  |succ n=>
   show Option.rec (motive:=λ_=>az (ae α)) none (λr=>some (x::r)) (jR l n)=_;rw[ih];by_cases h:n<=l.length
   .rw[if_pos h,if_pos tj];rfl
   .rw[if_neg h,if_neg tj]
def ae2(p:α->Bool)(l:ae α):Mo p l=l.all p:=by
 induction l with
 |nil=>rfl
 |cons x l ih=>
  show Bool.rec (motive:=λ_=>Bool) false (Mo p l) (p x)=_;rw[ih];cases h:p x<;>simp[h]
def Xq(o:Nat)(xs:ae α):jV [] o xs=if xs=[]/\o=0 then some []else none:=by cases xs<;>cases o<;>rfl
def Xr(c:α)(l:ae α):jV (c::l) 0 []=some (c::l):=rfl
def Q6(c:α)(l:ae α)(x:α)(xs:ae α):jV (c::l) 0 (x::xs)=(jV l 0 xs).map (x::·):=by
 show Option.rec (motive:=λ_=>az (ae α)) none (λr=>some (x::r)) (jV l 0 xs)=_;cases jV l 0 xs<;>rfl
def Q7(c:α)(l:ae α)(o:Nat)(xs:ae α):jV (c::l) (o+1) xs=(jV l o xs).map (c::·):=by
 show Option.rec (motive:=λ_=>az (ae α)) none (λr=>some (c::r)) (jV l o xs)=_;cases jV l o xs<;>rfl
def Ee{l:ae α}:∀{o:Nat} {xs r:ae α},jV l o xs=some r->
 o+xs.length<=l.length/\r.length=l.length/\∀j:Nat,r[j]? =if o<=j/\j<o+xs.length then xs[j - o]? else l[j]?:=by
 induction l with
 |nil=>
  intro o xs r h;rw[Xq]at h
  grind
 |cons c l ih=>
  intro o xs r h;cases o with
  |zero=>
   cases xs with
   |nil=>rw[Xr]at h;grind
   |cons x xs=>
    rw[Q6]at h;cases hr:jV l 0 xs with
    |none=>rw[hr]at h;cases h
    |some r'=>
     grind
  |succ o=>
   rw[Q7]at h;cases hr:jV l o xs with
   |none=>rw[hr]at h;cases h
   |some r'=>
    grind
def Xt(f:α->α)(l:ae α)(n:Nat):setAt f l n=l.modify n f:=by
 induction l generalizing n with
 |nil=>cases n<;>rfl
 |cons x l ih=>cases n with
  |zero=>rfl
  |succ n=>show x::setAt f l n=_;rw[ih];simp
end
def zeros_length(z:ae ah)(n:Nat):(zeros z n).length=n*z.length:=by
 induction n with
 |zero=>simp;rfl
 |succ n ih=>show(mq z (zeros z n)).length=_;rw[kR,fu,ih,Nat.succ_mul,Nat.add_comm]
structure jk where
 b:Nat
 off:Nat
 len:Nat
 top:Nat
 sz:Nat
abbrev aQ:=Nat->az jk
inductive FR(β:aQ):Fn->Fn->Prop
 |func (f:FuncId):FR β (.func f) (.func f)
 |method (n:String):FR β (.method n) (.method n)
 |methodOf (t:TypeId) (n:String):FR β (.methodOf t n) (.methodOf t n)
 |yield {l:Nat} {g:jk} (h:β l=some g):FR β (.yield l) (.yield g.b)
mutual
inductive VR(β:aQ):Value->Value->Prop
 |eY (v:Value):VR β (.tuple #[]) v
 |skip:VR β (.chan (some 0)) (.tuple #[])
 |bool (b:Bool):VR β (.bool b) (.bool b)
 |int (k:IntKind) (n:Int):VR β (.int k n) (.int k n)
 |float (k:FloatKind) (n:Nat):VR β (.float k n) (.float k n)
 |complex (k:FloatKind) (n m:Nat):VR β (.complex k n m) (.complex k n m)
 |string (s:ByteArray):VR β (.string s) (.string s)
 |nilFunc:VR β .nilFunc .nilFunc
 |nilIface:VR β .nilIface .nilIface
 |Ck:VR β (.pointer none) (.pointer none)
 |ptr {i o:Nat} {g:jk} (h:β i=some g):VR β (.pointer (some ⟨i,o,none⟩)) (.pointer (some ⟨g.b,g.off+o,none⟩))
 |sl0 (n c:Nat):VR β (.slice none n c) (.slice none n c)
 |aA {i o n c:Nat} {g:jk} {a:Addr} (h:β i=some g) (hb:a.block=g.b) (hn:n<=c) (ha:c=0\/(a.off=g.off+o/\a.spot=none)):
   VR β (.slice (some ⟨i,o,some 0⟩) n c) (.slice (some a) n c)
 |qN {i o n c c':Nat} {g:jk} {a:Addr} (h:β i=some g) (hb:a.block=g.b) (hs:a.spot=none) (hn:n<=c) (hz:0<g.sz)
   (hl:o+c*g.sz=g.len) (ht:g.off+o+c'*g.sz=g.top) (hc:c<=c') (ha:c'=0\/a.off=g.off+o):
   VR β (.slice (some ⟨i,o,some g.sz⟩) n c) (.slice (some a) n c')
 |Aq:VR β (.map none) (.map none)
 |map {i:Nat} {g:jk} (h:β i=some g):VR β (.map (some i)) (.map (some g.b))
 |func {fn fn':Fn} {f f' c c':List Value} (h:FR β fn fn') (hf:bB β f f') (hc:bB β c c'):VR β (.func fn ⟨f⟩ ⟨c⟩) (.func fn' ⟨f'⟩ ⟨c'⟩)
 |iface (t:TypeId) {v v':Value} (h:VR β v v'):VR β (.iface t v) (.iface t v')
 |agg {l l':List Value} (hc:l.all cellV=true) (h:bB β l l'):VR β (.agg ⟨l⟩) (.agg ⟨l'⟩)
 |tuple {l l':List Value} (h:bB β l l'):VR β (.tuple ⟨l⟩) (.tuple ⟨l'⟩)
inductive bB(β:aQ):List Value->List Value->Prop
 |nil:bB β [] []
 |cons {v v':Value} {l l':List Value} (h:VR β v v') (hl:bB β l l'):bB β (v::l) (v'::l')
end
def aQ.le(β β':aQ):Prop:=∀i g,β i=some g->β' i=some g
def FR.mono{β β':aQ}(h:β.le β'){f f':Fn}(hf:FR β f f'):FR β' f f':=by
 cases hf with
 |func f=>exact .func f
 |method n=>exact .method n
 |methodOf t n=>exact .methodOf t n
 |yield hl=>exact .yield (h _ _ hl)
mutual
def VR.mono{β β':aQ}(h:β.le β'):∀{v v':ah},VR β v v'->VR β' v v'
 |_,_,.eY v=>.eY v
 |_,_,.skip=>.skip
 |_,_,.bool b=>.bool b
 |_,_,.int k n=>.int k n
 |_,_,.float k n=>.float k n
 |_,_,.complex k n m=>.complex k n m
 |_,_,.string s=>.string s
 |_,_,.nilFunc=>.nilFunc
 |_,_,.nilIface=>.nilIface
 |_,_,.Ck=>.Ck
 |_,_,.ptr hi=>.ptr (h _ _ hi)
 |_,_,.sl0 n c=>.sl0 n c
 |_,_,.aA hi hb hn ha=>.aA (h _ _ hi) hb hn ha
 |_,_,.qN hi hb hs hn hz hl ht hc ha=>.qN (h _ _ hi) hb hs hn hz hl ht hc ha
 |_,_,.Aq=>.Aq
 |_,_,.map hi=>.map (h _ _ hi)
 |_,_,.func hf h1 h2=>.func (hf.mono h) (bB.mono h h1) (bB.mono h h2)
 |_,_,.iface t hv=>.iface t (VR.mono h hv)
 |_,_,.agg hc hl=>.agg hc (bB.mono h hl)
 |_,_,.tuple hl=>.tuple (bB.mono h hl)
def bB.mono{β β':aQ}(h:β.le β'):∀{v v':ae ah},bB β v v'->bB β' v v'
 |_,_,.nil=>.nil
 |_,_,.cons hv hl=>.cons (VR.mono h hv) (bB.mono h hl)
end
def bB.length{β:aQ}{l l':ae ah}(h:bB β l l'):l'.length=l.length:=by
 induction l generalizing l' with
 |nil=>cases h;rfl
 |cons v l ih=>cases h with|cons hv hl=>simp[ih hl]
def bB.get{β:aQ}{l l':ae ah}(h:bB β l l'){i:Nat}{v:ah}(hi:l[i]? =some v):∃v',l'[i]? =some v'/\VR β v v':=by
 induction l generalizing l' i with
 |nil=>simp at hi
 |cons x l ih=>
  cases h with
  |cons hv hl=>
   grind
def bB.MH{β:aQ}{l l':ae ah}(hlen:l'.length=l.length)(h:∀(i:Nat) (v:ah),l[i]? =some v->∃v',l'[i]? =some v'/\VR β v v'):bB β l l':=by
 induction l generalizing l' with
 |nil=>cases l' with|nil=>exact .nil|cons x l'=>simp at hlen
 |cons x l ih=>
  cases l' with
  |nil=>simp at hlen
  |cons y l'=>
   refine .cons ?_ (ih (by simpa using hlen) λi v hi=>?_)
   .obtain⟨v',h1,h2⟩:=h 0 x s7;grind
   .obtain⟨v',h1,h2⟩:=h (i+1) v w8;grind
def bB.append{β:aQ}{l l' r r':ae ah}(h:bB β l l')(k:bB β r r'):bB β (l++r) (l'++r'):=by
 induction l generalizing l' with
 |nil=>cases h;exact k
 |cons x l ih=>cases h with|cons hv hl=>exact .cons hv (ih hl)
def bB.take{β:aQ}{l l':ae ah}(h:bB β l l')(n:Nat):bB β (l.take n) (l'.take n):=by
 induction l generalizing l' n with
 |nil=>cases h;simp;exact .nil
 |cons x l ih=>cases h with|cons hv hl=>cases n with
  |zero=>exact .nil
  |succ n=>exact .cons hv (ih hl n)
def bB.drop{β:aQ}{l l':ae ah}(h:bB β l l')(n:Nat):bB β (l.drop n) (l'.drop n):=by
 induction l generalizing l' n with
 |nil=>cases h;simp;exact .nil
 |cons x l ih=>cases h with|cons hv hl=>cases n with
  |zero=>exact .cons hv hl
  |succ n=>exact ih hl n
def bB.map{β:aQ}{γ:Type}{f f':γ->ah}(l:ae γ)(h:∀x∈l,VR β (f x) (f' x)):bB β (l.map f) (l.map f'):=by
 exact ov
mutual
def VR.free{β:aQ}:∀{v:ah},dQ v=true->VR β v v
 | .bool b,_=>.bool b
 | .int k n,_=>.int k n
 | .float k n,_=>.float k n
 | .complex k n m,_=>.complex k n m
 | .string s,_=>.string s
 | .nilFunc,_=>.nilFunc
 | .nilIface,_=>.nilIface
 | .pointer none,_=>.Ck
 | .pointer (some a),h=>by simp[dQ]at h
 | .slice none n c,_=>.sl0 n c
 | .slice (some a) n c,h=>by simp[dQ]at h
 | .map none,_=>.Aq
 | .map (some r),h=>by simp[dQ]at h
 | .chan r,h=>by simp[dQ]at h
 | .func _ _ _,h=>by simp[dQ]at h
 | .iface t v,h=>.iface t (VR.free (by simp[dQ]at h;exact h.1))
 | .agg ⟨l⟩,h=>.agg (xY Ax) (bB.free Ax)
 | .tuple _,h=>by simp[dQ]at h
def bB.free{β:aQ}:∀{l:ae ah},iY l=true->bB β l l
 |[],_=>.nil
 |v::l,h=>.cons (VR.free (by simp[iY]at h;exact h.1.1)) (bB.free (by simp[iY]at h;exact h.2))
def xY:∀{l:ae ah},iY l=true->l.all cellV=true
 |[],_=>rfl
 |v::l,h=>by simp[iY]at h;simp only[L6,h.1.2,L8];exact xY h.2
end
mutual
def VR.sQ{β:aQ}:∀{v v':ah},VR β v v'->dQ v=true->v'=v
 |_,_,.bool b,_=>rfl
 |_,_,.int k n,_=>rfl
 |_,_,.float k n,_=>rfl
 |_,_,.complex k n m,_=>rfl
 |_,_,.string s,_=>rfl
 |_,_,.nilFunc,_=>rfl
 |_,_,.nilIface,_=>rfl
 |_,_,.Ck,_=>rfl
 |_,_,.sl0 n c,_=>rfl
 |_,_,.Aq,_=>rfl
 |_,_,.iface t hv,h=>by rw[VR.sQ hv (by simp[dQ]at h;exact h.1)]
 |_,_,.agg hc hl,h=>by rw[bB.sQ hl Ax]
 |_,_,.eY v,h=>by simp[dQ]at h
 |_,_,.skip,h=>by simp[dQ]at h
 |_,_,.ptr _,h=>by simp[dQ]at h
 |_,_,.aA _ _ _ _,h=>by simp[dQ]at h
 |_,_,.qN _ _ _ _ _ _ _ _ _,h=>by simp[dQ]at h
 |_,_,.map _,h=>by simp[dQ]at h
 |_,_,.func _ _ _,h=>by simp[dQ]at h
 |_,_,.tuple _,h=>by simp[dQ]at h
def bB.sQ{β:aQ}:∀{l l':ae ah},bB β l l'->iY l=true->l'=l
 |_,_,.nil,_=>rfl
 |_,_,.cons hv hl,h=>by
  simp[iY]at h;rw[VR.sQ hv h.1.1,bB.sQ hl h.2]
end
def Cm{α:Type}{P:Program}{s:Sem α}{x:α}(h:dX P s=some x)(w:World):s.run P w=.ok x w:=by
 induction s with
 |pure a=>simp[dX]at h;subst h;rfl
 |program k ih=>exact ih _ h
 |mark m k ih=>exact ih h
 |_=>simp[dX]at h
def VR.cells{β:aQ}{v v':ah}{cs:ae ah}(h:VR β v v')(hc:cellsOf v=some cs):cs.all cellV=true/\∃cs',v'.cells=⟨cs'⟩/\bB β cs cs':=by
 cases h<;>simp only[cellsOf,bC,reduceCtorEq]at hc<;>try subst hc
 case agg hc' hl=>exact⟨hc',_,rfl,hl⟩
 all_goals exact⟨rfl,_,rfl,.cons (by constructor<;>assumption) .nil⟩
def VR.cellV{β:aQ}{v v':ah}(h:VR β v v')(hc:cellV v=true):(∀cs,v'≠.agg cs)/\(∀cs,v'≠.tuple cs):=by
 cases h<;>simp_all [Ideal.cellV]
inductive iC(β:aQ):List MapEntry->List MapEntry->Prop
 |nil:iC β [] []
 |cons {e e':MapEntry} {l l':List MapEntry} (hk:e'.key=e.key) (hf:dQ e.key=true) (hb:e'.born=e.born) (hv:VR β e.val e'.val) (hl:iC β l l'):iC β (e::l) (e'::l')
def Xu:Out->az Code
 | .normal=>none
 | .exit id=>some (.exit id)
 | .ret=>some .ret
 | .panic _=>none
structure LR(P:Program)(β:aQ)(r:nJ)(r':Loop):Prop where
 state:r'.state=r.state
 pending:r'.pending=r.pending.bind Xu
 Jh:∀ch,r.pending≠some (.panic ch)
 size:r'.tmps.size=r.n
 tmps:∀i,VR β (dZ r.tmps i) (r'.tmps.getD i undef)
 out:∀i,r.n<=i->dZ r.tmps i=eY
 params:r'.params.toList=r.params
 assign:compile P r'.assign=r.assign
 body:compile P r'.body=r.body
 defers:∃g,β r.defers=some g/\r'.defers=g.b
 F7:∃f,P.funcs[r'.fn]? =some f
def OR(P:Program)(β:aQ)(g:jk)(w:World):fw->Prop
 | .cells cs=>(∃c t fz,w.heap[g.b]? =some (.cells c t fz)/\¬(fz.1<=c.size/\c.size<fz.2))/\cs.length=g.len/\g.off+g.len<=g.top/\
    (∀j,j<g.top->(w.cell? ⟨g.b,j,none⟩).isSome=true/\w.frozen? ⟨g.b,j,none⟩=false)/\
    cs.all cellV=true/\∀(j:Nat) v,cs[j]? =some v->∃v',w.cell? ⟨g.b,g.off+j,none⟩=some v'/\VR β v v'
 | .lD cs=>(∃c t fz,w.heap[g.b]? =some (.cells c t fz)/\(g.top=0\/c.size=g.top))/\g.sz=0/\cs.all cellV=true/\∀(j:Nat) v,cs[j]? =some v->∃v',w.cell? ⟨g.b,g.off+j,none⟩=some v'/\VR β v v'
 | .map es clock=>∃es',w.heap[g.b]? =some (.map es' clock)/\iC β es es'.toList
 | .D6 s pos=>w.heap[g.b]? =some (.stringIter s pos)/\g.off=0
 | .mapIter m since seen stepped=>∃m' seen',w.heap[g.b]? =some (.mapIter m' since seen' stepped)/\seen'.toList=seen/\VR β (.map m) (.map m')/\g.off=0
 | .loop r=>∃r',w.heap[g.b]? =some (.loop r')/\LR P β r r'
 | .jJ b=>w.heap[g.b]? =some (.deferred (if b then some []else none))
structure WR(P:Program)(β:aQ)(h:IH)(w:World):Prop where
 dom:∀i g,β i=some g->i<h.next
 live:∀i o,h.get i=some o->i<h.next
 obj:∀i g o,β i=some g->h.get i=some o->OR P β g w o
 inj:∀i j g k,β i=some g->β j=some k->h.get i≠none->h.get j≠none->((∀cs,h.get i≠some (.lD cs))\/∀cs,h.get j≠some (.lD cs))->g.b=k.b->i=j
structure Eff(β:aQ)(h:IH)(w:World)(β':aQ)(h':IH)(w':World):Prop where
 agree:∀i,i<h.next->β' i=β i
 next:h.next<=h'.next
 alive:∀i,i<h.next->h'.get i≠none->h.get i≠none
 hid:∀i,i<h.next->β i=none->h'.get i=h.get i
 low:h'.low<=h.low
 kept:∀i,i<h'.low->i<h.next->h'.get i=h.get i
 os:w'.os=w.os
 tape:w'.tape=w.tape
 output:w'.output=w.output
 size:w.heap.size<=w'.heap.size
 keep:∀b,b<w.heap.size->(∀i g,β i=some g->h.get i≠none->g.b≠b)->w'.heap[b]? =w.heap[b]?
 fresh:∀i g,β' i=some g->h.next<=i->w.heap.size<=g.b\/∃j k,β j=some k/\h.get j≠none/\k.b=g.b
 vO:∀i g,i<h'.low->i<h.next->β i=some g->h.get i≠none->g.b<w.heap.size->w'.heap[g.b]? =w.heap[g.b]?
 drawn:w.drawn<=w'.drawn
def Eff.refl(β:aQ)(h:IH)(w:World)(hd:∀i g,β i=some g->i<h.next):Eff β h w β h w:=
 ⟨λ_ _=>rfl,bG _,λ_ _ h=>h,λ_ _ _=>rfl,bG _,λ_ _ _=>rfl,rfl,rfl,rfl,bG _,λ_ _ _=>rfl,
  (by grind),(by grind),bG _⟩
def Eff.le{β β':aQ}{h h':IH}{w w':World}(e:Eff β h w β' h' w')(hd:∀i g,β i=some g->i<h.next):β.le β':=
 λi g hg=>(e.agree i (hd i g hg)).trans hg
def Eff.trans{β β1 β2:aQ}{h h1 h2:IH}{w w1 w2:World}(e:Eff β h w β1 h1 w1)(f:Eff β1 h1 w1 β2 h2 w2):Eff β h w β2 h2 w2 where
 agree i hi:=(f.agree i (oZ hi e.next)).trans (e.agree i hi)
 vO i g hl hi hg hn hb:=(f.vO i g hl (oZ hi e.next) ((e.agree i hi).trans hg) (by rw[e.kept i (oZ hl f.low) hi];exact hn) (oZ hb e.size)).trans
  (e.vO i g (oZ hl f.low) hi hg hn hb)
 next:=lZ e.next f.next
 drawn:=lZ e.drawn f.drawn
 alive i hi hn:=e.alive i hi (f.alive i (oZ hi e.next) hn)
 hid i hi hb:=(f.hid i (oZ hi e.next) ((e.agree i hi).trans hb)).trans (e.hid i hi hb)
 low:=lZ f.low e.low
 kept i hl hi:=(f.kept i hl (oZ hi e.next)).trans (e.kept i (oZ hl f.low) hi)
 os:=f.os.trans e.os
 tape:=f.tape.trans e.tape
 output:=f.output.trans e.output
 size:=lZ e.size f.size
 keep b hb hno:=by
  refine(f.keep b (oZ hb e.size) λi g hg hn he=>?_).trans (e.keep b hb hno);by_cases hi:i<h.next
  .exact hno i g (by rw[<- e.agree i hi];exact hg) (e.alive i hi hn) he
  .rcases e.fresh i g hg (s6)with hf|⟨j,k,hk,hj,hkb⟩
   .omega
   grind
 fresh i g hg hi:=by
  by_cases hi1:i<h1.next
  .exact e.fresh i g (by rw[<- f.agree i hi1];exact hg) hi
  .rcases f.fresh i g hg (s6)with hf|⟨j,k,hk,hj,hkb⟩
   .exact .inl (lZ e.size hf)
   .by_cases hjn:j<h.next
    .exact .inr ⟨j,k,by rw[<- e.agree j hjn];exact hk,e.alive j hjn hj,hkb⟩
    .rcases e.fresh j k hk (s6)with hf'|⟨j',k',hk',hj',hkb'⟩
     .grind
     grind
end Go.Ideal
namespace Go.Ideal
variable {P:Program}
variable{β β':aQ}
def iC.mono(h:β.le β'){l l':ae MapEntry}(he:iC β l l'):iC β' l l':=by
 induction he with
 |nil=>exact .nil
 |cons hk hf hb hv _ ih=>exact .cons hk hf hb (hv.mono h) ih
def LR.mono(h:β.le β'){r:nJ}{r':Loop}(k:LR P β r r'):LR P β' r r':=
 ⟨k.state,k.pending,k.Jh,k.size,λi=>(k.tmps i).mono h,k.out,k.params,k.assign,k.body,let⟨g,h1,h2⟩:=k.defers;⟨g,h _ _ h1,h2⟩,k.F7⟩
def OR.mono(h:β.le β'){g:jk}{w:World}{o:fw}(k:OR P β g w o):OR P β' g w o:=by
 cases o with
 |cells cs=>
  obtain⟨h1,h2,h3,h5,h6,h7⟩:=k;exact⟨h1,h2,h3,h5,h6,λj v hj=>let⟨v',a,b⟩:=h7 j v hj;⟨v',a,b.mono h⟩⟩
 |lD cs=>obtain⟨h1,h2,h6,h7⟩:=k;exact⟨h1,h2,h6,λj v hj=>let⟨v',a,b⟩:=h7 j v hj;⟨v',a,b.mono h⟩⟩
 |map es clock=>obtain⟨es',h1,h2⟩:=k;exact⟨es',h1,h2.mono h⟩
 |D6 s pos=>exact k
 |mapIter m since seen stepped=>obtain⟨m',seen',h1,h2,h3,h4⟩:=k;exact⟨m',seen',h1,h2,h3.mono h,h4⟩
 |loop r=>obtain⟨r',h1,h2⟩:=k;exact⟨r',h1,h2.mono h⟩
 |jJ b=>exact k
variable{g:jk}{w:World}{o:fw}
def OR.congr{w':World}(hw:w'.heap[g.b]? =w.heap[g.b]?)(k:OR P β g w o):OR P β g w' o:=by
 have hc:∀j,w'.cell? ⟨g.b,j,none⟩=w.cell? ⟨g.b,j,none⟩:=λj=>World.cell?_of_block hw;have hf:∀j,w'.frozen? ⟨g.b,j,none⟩=w.frozen? ⟨g.b,j,none⟩:=λj=>World.frozen?_of_block hw;cases o<;>simp only[OR,hw,hc,hf]at *<;>exact k
def OR.lt(k:OR P β g w o):g.b<w.heap.size:=by
 have:w.heap[g.b]?≠none:=by
  cases o with
  |cells cs=>obtain⟨⟨c,t,fz,h1,_⟩,_⟩:=k;rw[h1];simp
  |lD cs=>obtain⟨⟨c,t,fz,h1,_⟩,_⟩:=k;rw[h1];simp
  |map es clock=>obtain⟨es',h1,_⟩:=k;rw[h1];simp
  |D6 s pos=>have h1:=k.1;rw[h1];simp
  |mapIter m since seen stepped=>obtain⟨m',seen',h1,_⟩:=k;rw[h1];simp
  |loop r=>obtain⟨r',h1,_⟩:=k;rw[h1];simp
  |jJ b=>have h1:=k;rw[h1];simp
 grind
def aQ.add(β:aQ)(i:Nat)(g:jk):aQ:=λj=>if j=i then some g else β j
def aQ.mE(β:aQ)(i:Nat)(g:jk):β.add i g i=some g:=by simp[aQ.add]
def aQ.nK(β:aQ){i j:Nat}(g:jk)(h:j≠i):β.add i g j=β j:=by simp[aQ.add,h]
def aQ.xZ{i:Nat}(g:jk)(h:β i=none):β.le (β.add i g):=λj k hj=>by
 by_cases e:j=i
 .grind
 .rw[aQ.nK _ _ e];exact hj
section
variable {β:aQ} {h:IH} {w:World}
def WR.zo(hW:WR P β h w):β h.next=none:=by
 cases hb:β h.next with
 |none=>rfl
 |some g=>exact absurd (hW.dom _ _ hb) (QD _)
variable{w':World}
def WR.qO(hW:WR P β h w)(hh:w'.heap=w.heap):WR P β h w':=
 ⟨hW.dom,hW.live,λi g o h1 h2=>(hW.obj i g o h1 h2).congr (by rw[hh]),hW.inj⟩
def Eff.qO(hd:∀i g,β i=some g->i<h.next)(h1:w'.heap=w.heap)(h2:w'.os=w.os)(h3:w'.tape=w.tape)(h4:w'.output=w.output)(h5:w.drawn<=w'.drawn:=by first|exact bG _|exact FB _|fail):Eff β h w β h w':=
 ⟨λ_ _=>rfl,bG _,λ_ _ h=>h,λ_ _ _=>rfl,bG _,λ_ _ _=>rfl,h2,h3,h4,by grind,λ_ _ _=>by rw[h1],
  (by grind),(by grind),h5⟩
def WR.alloc(hW:WR P β h w)(o:fw)(o':Obj)(g:jk)(hg:g.b=w.heap.size){w1:World}(hw1:w1={w with heap:=w.heap.push o'})
 (ho:OR P (β.add h.next g) g w1 o):WR P (β.add h.next g) (h.new o) w1/\Eff β h w (β.add h.next g) (h.new o) w1:=by
 have hle:β.le (β.add h.next g):=aQ.xZ g hW.zo;have hheap:∀b,b<w.heap.size->w1.heap[b]? =w.heap[b]?:=(by grind)
 refine⟨⟨?_,?_,?_,?_⟩,⟨?_,?_,?_,?_,?_,?_,?_,?_,?_,?_,?_,?_,(by grind),by grind⟩⟩
 .intro i k hk;rw[IH.MG];by_cases e:i=h.next
  .omega
  .rw[aQ.nK _ _ e]at hk;have:=hW.dom _ _ hk;omega
 .intro i x hx;rw[IH.MG];rw[IH.jD]at hx;split at hx
  .omega
  .have:=hW.live _ _ hx;omega
 .intro i k x hk hx;rw[IH.jD]at hx;by_cases e:i=h.next
  .subst e;rw[aQ.mE]at hk;grind
  .rw[aQ.nK _ _ e]at hk;rw[if_neg e]at hx;have:=hW.obj _ _ _ hk hx;exact(this.mono hle).congr (hheap _ this.lt)
 .intro i j k l hk hl hi hj hr he;rw[IH.jD]at hi hj;by_cases ei:i=h.next
  .by_cases ej:j=h.next
   .omega
   .rw[aQ.nK _ _ ej]at hl;rw[if_neg ej]at hj;subst ei;rw[aQ.mE]at hk;cases hk;cases hx:h.get j with
    |none=>exact absurd hx hj
    |some x=>have:=(hW.obj _ _ _ hl hx).lt;omega
  .rw[aQ.nK _ _ ei]at hk;rw[if_neg ei]at hi;by_cases ej:j=h.next
   .subst ej;rw[aQ.mE]at hl;cases hl;cases hx:h.get i with
    |none=>exact absurd hx hi
    |some x=>have:=(hW.obj _ _ _ hk hx).lt;omega
   .rw[aQ.nK _ _ ej]at hl;rw[if_neg ej]at hj;exact hW.inj _ _ _ _ hk hl hi hj (hr.imp (λq cs e=>q cs (by rw[IH.jD,if_neg ei];exact e)) (λq cs e=>q cs (by rw[IH.jD,if_neg ej];exact e))) he
 .intro i hi;exact aQ.nK _ _ s6
 .rw[IH.MG];omega
 .intro i hi hn;rw[IH.jD,if_neg s6]at hn;exact hn
 .intro i hi _;rw[IH.jD,if_neg s6]
 .exact bG _
 .intro i _ hi;rw[IH.jD,if_neg s6]
 .subst hw1;rfl
 .subst hw1;rfl
 .subst hw1;rfl
 .subst hw1;simp
 .grind
 .intro i k hk hi;by_cases e:i=h.next
  .subst e;rw[aQ.mE]at hk;grind
  .rw[aQ.nK _ _ e]at hk;exact mB
def WR.write(hW:WR P β h w){i:Nat}{g:jk}(hi:β i=some g){o0:fw}(h0:h.get i=some o0)(o:fw){w1:World}
 (hsz:w1.heap.size=w.heap.size) (hheap:∀b,b≠g.b->w1.heap[b]? =w.heap[b]?) (hos:w1.os=w.os) (Ef:w1.tape=w.tape) (hout:w1.output=w.output) (hdr:w.drawn<=w1.drawn)
 (ho:OR P β g w1 o) (hnr:∀cs,o0≠.lD cs:=by intro cs e;cases e):WR P β (h.set i o) w1/\Eff β h w β (h.set i o) w1:=by
 have hni:∀cs,h.get i≠some (.lD cs):=(by grind)
 refine⟨⟨?_,?_,?_,?_⟩,⟨?_,?_,?_,?_,?_,?_,hos,Ef,hout,?_,?_,?_,?_,hdr⟩⟩
 .exact hW.dom
 .intro j x hx;rw[IH.og]at hx;split at hx
  .subst_vars;exact hW.live _ _ h0
  .exact hW.live _ _ hx
 .intro j k x hk hx;rw[IH.og]at hx;by_cases e:j=i
  .grind
  .rw[if_neg e]at hx;refine(hW.obj _ _ _ hk hx).congr (hheap _ λhe=>e ?_);exact hW.inj _ _ _ _ hk hi (by rw[hx];simp) (by rw[h0];simp) (.inr hni) he
 .intro j l k m hk hm hj hl hr he;have pass:∀x,(∀cs,(h.set i o).get x≠some (.lD cs))->∀cs,h.get x≠some (.lD cs):=λx q cs e=>by
   by_cases ex:x=i
   .grind
   .exact q cs (by rw[IH.og,if_neg ex];exact e)
  refine hW.inj _ _ _ _ hk hm ?_ ?_ (by grind) he
  .rw[IH.og]at hj;grind
  .rw[IH.og]at hl;grind
 .intro _ _;rfl
 .exact bG _
 .intro j hj hn;rw[IH.og]at hn;grind
 .intro j hj hb;rw[IH.og,if_neg]
  grind
 .rw[IH.F5];omega
 .intro j hl hj;rw[IH.F5]at hl;rw[IH.og,if_neg s6]
 .omega
 .grind
 .intro j k hk hj;exact mB
 .intro j k hl hj hk hn hb;rw[IH.F5]at hl;refine hheap _ λhe=>?_;have:=hW.inj _ _ _ _ hk hi hn (by rw[h0];simp) (.inr hni) he;omega
def WR.drop(hW:WR P β h w){i:Nat}{g:jk}(hi:β i=some g):WR P β (h.kill i) w/\Eff β h w β (h.kill i) w:=by
 refine⟨⟨hW.dom,?_,?_,?_⟩,⟨?_,?_,?_,?_,?_,?_,rfl,rfl,rfl,bG _,λ_ _ _=>rfl,?_,λ_ _ _ _ _ _ _=>rfl,bG _⟩⟩
 .intro j x hx;rw[IH.uD]at hx;split at hx
  .cases hx
  .exact hW.live _ _ hx
 .intro j k x hk hx;rw[IH.uD]at hx;split at hx
  .cases hx
  .exact hW.obj _ _ _ hk hx
 .intro j l k m hk hm hj hl hr he;have pass:∀x,(h.kill i).get x≠none->(∀cs,(h.kill i).get x≠some (.lD cs))->∀cs,h.get x≠some (.lD cs):=λx hx q cs e=>by
   rw[IH.uD]at hx;by_cases ex:x=i
   .rw[if_pos ex]at hx;exact hx rfl
   .exact q cs (by rw[IH.uD,if_neg ex];exact e)
  have hr:=hr.imp (pass _ hj) (pass _ hl);rw[IH.uD]at hj hl;exact jx
 .intro _ _;rfl
 .exact bG _
 .intro j hj hn;rw[IH.uD]at hn;split at hn
  .exact absurd rfl hn
  .exact hn
 .intro j hj hb;rw[IH.uD,if_neg];intro e;subst e;rw[hi]at hb;cases hb
 .rw[IH.Ap];omega
 .intro j hl hj;rw[IH.Ap]at hl;rw[IH.uD,if_neg s6]
 .intro j k hk hj;exact mB
def WR.Xv(hW:WR P β h w){i:Nat}{g:jk}(hi:β i=some g)(hlive:h.get i≠none)(hni:∀cs,h.get i≠some (.lD cs))(o:fw)(g1:jk)(hg1:g1.b=g.b){w1:World}
 (hsz:w1.heap.size=w.heap.size) (hheap:∀b,b≠g.b->w1.heap[b]? =w.heap[b]?) (hos:w1.os=w.os) (Ef:w1.tape=w.tape) (hout:w1.output=w.output) (hdr:w.drawn<=w1.drawn)
 (ho:OR P (β.add h.next g1) g1 w1 o):WR P (β.add h.next g1) ((h.kill i).new o) w1/\Eff β h w (β.add h.next g1) ((h.kill i).new o) w1:=by
 have hle:β.le (β.add h.next g1):=aQ.xZ g1 hW.zo;have hin:i<h.next:=hW.dom _ _ hi
 have hget:∀j,((h.kill i).new o).get j=if j=h.next then some o else if j=i then none else h.get j:=λj=>by
  rw[IH.jD,IH.uD];rfl
 refine⟨⟨?_,?_,?_,?_⟩,⟨?_,?_,?_,?_,?_,?_,hos,Ef,hout,?_,?_,?_,?_,hdr⟩⟩
 .intro j k hk;show j<h.next+1
  by_cases e:j=h.next
  .omega
  .rw[aQ.nK _ _ e]at hk;have:=hW.dom _ _ hk;omega
 .intro j x hx;show j<h.next+1
  rw[hget]at hx;split at hx
  .omega
  .split at hx
   .cases hx
   .have:=hW.live _ _ hx;omega
 .intro j k x hk hx;rw[hget]at hx;by_cases e:j=h.next
  .subst e;rw[aQ.mE]at hk;cases hk;rw[if_pos rfl]at hx;cases hx;exact ho
  .rw[aQ.nK _ _ e]at hk;rw[if_neg e]at hx;split at hx
   .cases hx
   .rename_i hji;refine((hW.obj _ _ _ hk hx).mono hle).congr (hheap _ λhe=>hji ?_);exact hW.inj _ _ _ _ hk hi (by rw[hx];simp) hlive (.inr hni) he
 .have key:∀j k,β j=some k->((h.kill i).new o).get j≠none->j≠h.next->k.b≠g.b:=λj k hk hj hjn he=>by
   rw[hget,if_neg hjn]at hj;split at hj
   .exact hj rfl
   .rename_i hji;exact hji (hW.inj _ _ _ _ hk hi hj hlive (.inr hni) he)
  intro j l k m hk hm hj hl hr he;have pass:∀x,x≠h.next->((h.kill i).new o).get x≠none->(∀cs,((h.kill i).new o).get x≠some (.lD cs))->∀cs,h.get x≠some (.lD cs):=λx MI hx q cs e=>by
   rw[hget,if_neg MI]at hx;by_cases ex:x=i
   .rw[if_pos ex]at hx;exact hx rfl
   .exact q cs (by rw[hget,if_neg MI,if_neg ex];exact e)
  by_cases ej:j=h.next
  .by_cases el:l=h.next
   .omega
   .subst ej;rw[aQ.mE]at hk;cases hk;rw[aQ.nK _ _ el]at hm;exact absurd (he.symm.trans hg1) (key l m hm hl el)
  .rw[aQ.nK _ _ ej]at hk;by_cases el:l=h.next
   .subst el;rw[aQ.mE]at hm;cases hm;exact absurd (he.trans hg1) (key j k hk hj ej)
   .rw[aQ.nK _ _ el]at hm;have hr:=hr.imp (pass _ ej hj) (pass _ el hl);rw[hget,if_neg ej]at hj;rw[hget,if_neg el]at hl;exact jx
 .intro j hj;exact aQ.nK _ _ s6
 .show h.next<=h.next+1;omega
 .intro j hj hn;rw[hget,if_neg s6]at hn;split at hn
  .exact absurd rfl hn
  .exact hn
 .intro j hj hb;rw[hget,if_neg s6,if_neg];intro e;subst e;rw[hi]at hb;cases hb
 .show(h.kill i).low<=h.low;rw[IH.Ap];omega
 .intro j hl hj;have hl':j<(h.kill i).low:=hl;rw[IH.Ap]at hl';rw[hget,if_neg s6,if_neg s6]
 .omega
 .intro b hb hno;exact hheap b λe=>hno i g hi hlive e.symm
 .intro j k hk hj;by_cases e:j=h.next
  .subst e;rw[aQ.mE]at hk;cases hk;exact .inr ⟨i,g,hi,hlive,hg1.symm⟩
  .rw[aQ.nK _ _ e]at hk;exact mB
 .intro j k hl hj hk hn hb;rw[IH.Jg,IH.Ap]at hl;refine hheap _ λhe=>?_;have:=hW.inj _ _ _ _ hk hi hn hlive (.inr hni) he;omega
end
end Go.Ideal
namespace Go.Ideal
variable {P:Program} {β:aQ} {h:IH} {w:World}
def addr_add(b o j:Nat):(⟨b,o,none⟩:Addr).add j=⟨b,o+j,none⟩:=by unfold Addr.add;split<;>simp_all
variable{t:aM}{d:TypeDesc}
def gY(h:P.underlying t=some d)(w:World):(underlying t).run P w=.ok d w:=by
 simp[underlying,h]
variable{n:Nat}
def pq(h:kP P t=some n)(w:World):(sizeOf t).run P w=.ok n w:=by
 unfold kP at h;cases hi:P.info? t with
 |none=>simp[hi]at h
 |some i=>simp[hi]at h;simp[sizeOf,typeInfo,hi,h]
def Ji{i:TypeInfo}(h:P.info? t=some i)(w:World):(typeInfo t).run P w=.ok i w:=by
 simp[typeInfo,h]
variable{z:ah}
def F8(h:zeroOf P t=some z):∃i,P.info? t=some i/\i.zero=some z/\dQ z=true:=by
 unfold zeroOf at h;cases hi:P.info? t with
 |none=>simp[hi]at h
 |some i=>
  grind
def F9(h:zeroOf P t=some z)(w:World):(zeroValue t).run P w=.ok z w:=by
 obtain⟨i,h1,h2,_⟩:=F8 h;simp[zeroValue,typeInfo,h1,h2]
def Ga(h:P.underlying t=some d)(w:World):(isAgg t).run P w=.ok (kQ P t) w:=by
 simp only[isAgg,dY,gY h,kQ,h];cases d<;>rfl
def Xw(h:kQ P t=true):∃d,P.underlying t=some d:=by
 unfold kQ at h
 grind
def MJ(hW:WR P β h w){i:Nat}{g:jk}(hi:β i=some g){cs:ae ah}(hg:h.get i=some (.cells cs)\/h.get i=some (.lD cs)){o n:Nat}{l:ae ah}
 (hl:jR (kD cs o) n=some l):
 l.length=n/\l.all cellV=true/\∃l',bB β l l'/\∀(j:Nat) v,l'[j]? =some v->w.cell? ⟨g.b,g.off+o+j,none⟩=some v:=by
 obtain⟨h6,h7⟩:cs.all cellV=true/\∀(j:Nat) v,cs[j]? =some v->∃v',w.cell? ⟨g.b,g.off+j,none⟩=some v'/\VR β v v':=by
  rcases hg with hg|hg
  .obtain⟨_,_,_,_,h6,h7⟩:=hW.obj i g _ hi hg;exact⟨h6,h7⟩
  .obtain⟨_,_,h6,h7⟩:=hW.obj i g _ hi hg;exact⟨h6,h7⟩
 rw[qM,qw]at hl;split at hl
 .rename_i hn;cases hl;refine⟨by simp at hn⊢;omega,?_,?_⟩
  .grind
  .have key:∀k:Nat,k<=n->∃l',bB β ((cs.drop o).take k) l'/\∀(j:Nat) v,l'[j]? =some v->w.cell? ⟨g.b,g.off+o+j,none⟩=some v:=by
    intro k;induction k with
    |zero=>intro _;exact⟨[],by simpa using bB.nil,(by grind)⟩
    |succ k ih=>
     intro hk;obtain⟨l',h1,h2'⟩:=ih s6;have hlt:k<(cs.drop o).length:=s6
     obtain⟨v',hv1,hv2⟩:=h7 (o+k) ((cs.drop o)[k]) (by grind);refine⟨l'++[v'],?_,λj v hj=>?_⟩
     .rw[List.take_succ_eq_append_getElem hlt];exact h1.append (.cons hv2 .nil)
     .have hlen:=h1.length
      grind
   exact key n (bG _)
 .cases hl
variable{o:Nat}{l:ae ah}
def Q8{b:Nat}(hn:l.length=n)(hc:∀(j:Nat) v,l[j]? =some v->w.cell? ⟨b,o+j,none⟩=some v):
 (loadCells ⟨b,o,none⟩ n).run P w=.ok l.toArray w:=by
 subst hn;exact run_loadCells_list w _ l λj v hj=>by rw[addr_add];exact hc j v hj
variable{i:Nat}
def Xx{h:IH}(hl:h.kL i o n=some l):∃cs,h.get i=some (.cells cs)/\jR (kD cs o) n=some l:=by
 unfold IH.kL at hl
 grind
def Gb{h:IH}(hl:h.je i o n=some l):∃cs,(h.get i=some (.cells cs)\/h.get i=some (.lD cs))/\jR (kD cs o) n=some l:=by
 unfold IH.je at hl
 grind
def Xy{h:IH}{v:ah}(hl:h.qK i o=some v):∃cs,(h.get i=some (.cells cs)\/h.get i=some (.lD cs))/\lW cs o=some v:=by
 unfold IH.qK at hl
 grind
variable{h2:IH}
def ae3{h:IH}(hs:∀i o,h.get i=some o->h2.get i=some o){i o:Nat}{v:ah}(hl:h.qK i o=some v):h2.qK i o=some v:=by
 obtain⟨cs,hg|hg,h1⟩:=Xy hl
 .simp only[IH.qK,hs _ _ hg,h1]
 .simp only[IH.qK,hs _ _ hg,h1]
def Xz{h:IH}(hs:∀i o,h.get i=some o->h2.get i=some o){i o n:Nat}{l:ae ah}(hl:h.je i o n=some l):h2.je i o n=some l:=by
 obtain⟨cs,hg|hg,h1⟩:=Gb hl
 .simp only[IH.je,hs _ _ hg,h1]
 .simp only[IH.je,hs _ _ hg,h1]
def Jj(b:Nat):∀(vs:ae ah) (o:Nat) (w:World),(w.setCells b o vs).drawn=w.drawn
 |[],_,_=>rfl
 |v::vs,o,w=>by
  show((w.setCell ⟨b,o,none⟩ v).setCells b (o+1) vs).drawn=_;rw[Jj b vs];rfl
def Gc(hW:WR P β h w){i:Nat}{g:jk}(hi:β i=some g){o:Nat}{vs vs':ae ah}{h':IH}(hs:h.storeAt i o vs=some h')(hv:bB β vs vs')(hall:vs.all cellV=true):
 (∀k,k=0->(storeCells ⟨g.b,g.off+o,none⟩ vs' k).run P w=.ok () (w.setCells g.b (g.off+o) vs'))/\WR P β h' (w.setCells g.b (g.off+o) vs')/\Eff β h w β h' (w.setCells g.b (g.off+o) vs'):=by
 unfold IH.storeAt at hs;split at hs
 .rename_i cs hg;split at hs
  .rename_i cs2 hl;cases hs;obtain⟨h1,h2,h3,h5,h6,h7⟩:=hW.obj i g _ hi hg;obtain⟨l1,l2,l3⟩:=Ee hl;have hlen:vs'.length=vs.length:=hv.length;have hin:∀j,j<vs'.length->g.off+o+j<g.top:=λj hj=>by omega
   have hone:∀v∈vs',v.oneCell'=true:=λv hv'=>by
    obtain⟨j,hj⟩:=gT hv';have hjl:j<vs.length:=by
     rcases L9 j vs'.length with hh|hh
     .omega
     .rw[fT hh]at hj;cases hj
    exact gg
   have hrun:∀k,k=0->(storeCells ⟨g.b,g.off+o,none⟩ vs' k).run P w=.ok () (w.setCells g.b (g.off+o) vs'):=λk hk=>by
    subst hk;have:=run_storeCells_cells (P:=P) g.b (g.off+o) vs' 0 w (λj hj=>(h5 _ (hin j hj)).1) (λj hj=>(h5 _ (hin j hj)).2) hone;simpa using this
   have hsz:(w.setCells g.b (g.off+o) vs').heap.size=w.heap.size:=by
    have Eg:∀(vs:ae ah) (o:Nat) (w:World),(w.setCells g.b o vs).heap.size=w.heap.size:=by
     intro vs;induction vs with
     |nil=>intro o w;rfl
     |cons v vs ih=>intro o w;show((w.setCell ⟨g.b,o,none⟩ v).setCells g.b (o+1) vs).heap.size=_;rw[ih];simp
    exact Eg _ _ _
   have hother:∀b,b≠g.b->(w.setCells g.b (g.off+o) vs').heap[b]? =w.heap[b]?:=by
    have Eg:∀(vs:ae ah) (o:Nat) (w:World) (b:Nat),b≠g.b->(w.setCells g.b o vs).heap[b]? =w.heap[b]?:=by
     intro vs;induction vs with
     |nil=>intro o w b _;rfl
     |cons v vs ih=>intro o w b hb;show((w.setCell ⟨g.b,o,none⟩ v).setCells g.b (o+1) vs).heap[b]? =_;rw[ih _ _ _ hb,Go.RowKit.Below.heap_setCell _ _ _ _ hb]
    exact Eg _ _ _
   have hsame:∃c t fz,(w.setCells g.b (g.off+o) vs').heap[g.b]? =some (.cells c t fz)/\¬(fz.1<=c.size/\c.size<fz.2):=by
    have Eg:∀(vs:ae ah) (o:Nat) (w:World),(∃c t fz,w.heap[g.b]? =some (.cells c t fz)/\¬(fz.1<=c.size/\c.size<fz.2))->∃c t fz,(w.setCells g.b o vs).heap[g.b]? =some (.cells c t fz)/\¬(fz.1<=c.size/\c.size<fz.2):=by
     intro vs;induction vs with
     |nil=>intro o w hh;exact hh
     |cons v vs ih=>
      intro o w ⟨c,t,fz,hh,hz⟩;refine ih _ _ ⟨c.setIfInBounds o v,t,fz,?_,xa⟩;simp[World.setCell,Array.getElem?_modify,hh]
    exact Eg _ _ _ h1
   have Ef:(w.setCells g.b (g.off+o) vs').tape=w.tape:=by
    have Eg:∀(vs:ae ah) (o:Nat) (w:World),(w.setCells g.b o vs).tape=w.tape:=by
     intro vs;induction vs with
     |nil=>intro o w;rfl
     |cons v vs ih=>intro o w;show((w.setCell ⟨g.b,o,none⟩ v).setCells g.b (o+1) vs).tape=_;rw[ih];rfl
    exact Eg _ _ _
   have hos:=(WW g.b (may:=λ_=>True) vs' (g.off+o) w (λ_ _=>trivial)).1;have hout:=(WW g.b (may:=λ_=>True) vs' (g.off+o) w (λ_ _=>trivial)).2.1;have hdr:w.drawn<=(w.setCells g.b (g.off+o) vs').drawn:=by rw[Jj];exact bG _
   refine⟨hrun,?_⟩;refine hW.write hi hg (.cells cs2) hsz hother hos Ef hout hdr ⟨hsame,s6,h3,?_,?_,?_⟩
   .intro j hj;refine⟨?_,by rw[Ma];exact(h5 j hj).2⟩;by_cases hr:g.off+o<=j/\j<g.off+o+vs'.length
    .have:=FC g.b vs' (g.off+o) w (λk hk=>(h5 _ (hin k hk)).1) (j - (g.off+o)) s6;rw[show g.off+o+(j - (g.off+o))=j by omega]at this;rw[this];simp
    .rw[BM g.b vs' (g.off+o) w ⟨g.b,j,none⟩ (λ_ _=>by simp;omega)];exact(h5 j hj).1
   .rw[jU]at h6 hall⊢;intro x hx;obtain⟨j,hj⟩:=gT hx;rw[l3]at hj;split at hj
    .exact hall x (aV hj)
    .exact h6 x (aV hj)
   .intro j v hj;rw[l3]at hj;split at hj
    .rename_i hr;obtain⟨v',hv1,hv2⟩:=hv.get hj;refine⟨v',?_,hv2⟩;have hlt:j - o<vs'.length:=by omega
     have:=FC g.b vs' (g.off+o) w (λk hk=>(h5 _ (hin k hk)).1) (j - o) hlt;rw[show g.off+o+(j - o)=g.off+j by omega]at this;rw[this];rw[bN hlt]at hv1;exact hv1
    .rename_i hr;obtain⟨v',hv1,hv2⟩:=h7 j v hj;refine⟨v',?_,hv2⟩;rw[BM g.b vs' (g.off+o) w ⟨g.b,g.off+j,none⟩ (λ_ _=>by simp;omega)];exact hv1
  .cases hs
 .cases hs
def Good(P:Program)(β:aQ)(h:IH)(w:World)(s:Sem Next)(v:ah)(h':IH):Prop:=
 ∃r w' β' v',s.run P w=.ok r w'/\(r=.value v'\/(r=.skip/\v'=undef))/\VR β' v v'/\WR P β' h' w'/\Eff β h w β' h' w'
def Good.same(hW:WR P β h w){s:Sem Next}{v v':ah}(hr:s.run P w=.ok (.value v') w)(hv:VR β v v'):Good P β h w s v h:=
 ⟨_,w,β,v',hr,.inl rfl,hv,hW,Eff.refl _ _ _ hW.dom⟩
def x8(P:Program)(β:aQ)(w:World)(s:Sem Next)(f:Nat->ah)(o:fw):Prop:=
 ∃v' o' g,s.run P w=.ok (.value v') {w with heap:=w.heap.push o'}/\g.b=w.heap.size/\
  ∀(i:Nat) (β':aQ),β.le β'->β' i=some g->VR β' (f i) v'/\OR P β' g {w with heap:=w.heap.push o'} o
def x8.good(hW:WR P β h w){s:Sem Next}{f:Nat->ah}{o:fw}(hm:x8 P β w s f o):Good P β h w s (f h.next) (h.new o):=by
 obtain⟨v',o',g,h1,h2,h3⟩:=hm;have hle:=aQ.xZ g hW.zo;obtain⟨a,b⟩:=hW.alloc o o' g h2 rfl (h3 h.next _ hle (aQ.mE _ _ _)).2;exact⟨_,_,_,v',h1,.inl rfl,(h3 h.next _ hle (aQ.mE _ _ _)).1,a,b⟩
def OR.Jk{β:aQ}{w:World}{cs cs':ae ah}(t:aM)(h:bB β cs cs')(hc:cs.all cellV=true)(rest:ae ah)(sz:Nat):
 OR P β ⟨w.heap.size,0,cs.length,cs.length+rest.length,sz⟩ {w with heap:=w.heap.push (.cells ⟨cs'++rest⟩ t)} (.cells cs):=by
 have hb:({w with heap:=w.heap.push (.cells ⟨cs'++rest⟩ t)}).heap[w.heap.size]? =some (.cells ⟨cs'++rest⟩ t):=s7
 refine⟨(by grind),rfl,s7,λj hj=>⟨?_,?_⟩,hc,λj v hj=>?_⟩
 .simp;have:=h.length;simp at hj;omega
 .simp[World.frozen?]
 .obtain⟨v',h1,h2⟩:=h.get hj;refine⟨v',?_,h2⟩;simp only[World.cell?]
  grind
end Go.Ideal
namespace Go.Ideal
variable {P:Program} {β:aQ} {h:IH} {w:World}
variable{v:ah}
def VR.MK{b:Bool}(h:VR β (.bool b) v):v=.bool b:=by cases h;rfl
def VR.oh{k:IntKind}{n:Int}(h:VR β (.int k n) v):v=.int k n:=by cases h;rfl
def VR.Eh{s:ByteArray}(h:VR β (.string s) v):v=.string s:=by cases h;rfl
variable{i o:Nat}
def VR.x9(h:VR β (.pointer (some ⟨i,o,none⟩)) v):∃g,β i=some g/\v=.pointer (some ⟨g.b,g.off+o,none⟩):=by
 cases h with|ptr hi=>exact⟨_,hi,rfl⟩
def VR.Gd(h:VR β (.map (some i)) v):∃g,β i=some g/\v=.map (some g.b):=by
 cases h with|map hi=>exact⟨_,hi,rfl⟩
def VR.Ei{t:aM}{u:ah}(h:VR β (.iface t u) v):∃u',VR β u u'/\v=.iface t u':=by
 cases h with|iface t hi=>exact⟨_,hi,rfl⟩
def VR.Q9{l:ae ah}(h:VR β (.agg ⟨l⟩) v):∃l',bB β l l'/\l.all Ideal.cellV=true/\v=.agg ⟨l'⟩:=by
 cases h with|agg hc hl=>grind
def VR.Cn{fn:Fn}{f c:ae ah}(h:VR β (.func fn ⟨f⟩ ⟨c⟩) v):∃fn' f' c',FR β fn fn'/\bB β f f'/\bB β c c'/\v=.func fn' ⟨f'⟩ ⟨c'⟩:=by
 cases h with|func h1 h2 h3=>grind
def VR.oK{f:az Nat}{n c:Nat}(h:VR β (.slice (some ⟨i,o,f⟩) n c) v):
 ∃g a c',β i=some g/\v=.slice (some a) n c'/\a.block=g.b/\True/\n<=c/\c<=c'/\(c'=0\/(a.off=g.off+o/\a.spot=none))/\
  ((f=some 0/\c'=c)\/(f=some g.sz/\0<g.sz/\o+c*g.sz=g.len/\(g.off+o+c'*g.sz=g.top/\a.spot=none))):=by
 cases h with
 |aA hi hb hn ha=>grind
 |qN hi hb hs hn hz hl ht hc ha=>grind
def bB.of_map{γ:Type}{f f':γ->ah}{l:ae γ}(h:∀x∈l,VR β (f x) (f' x)):bB β (o9 f l) (l.map f'):=by
 rw[xW];exact bB.map l h
def ae4(ρ:aB->ah)(zero:ae ah):vK ρ zero []=some zero:=rfl
def Ra(ρ:aB->ah)(zero:ae ah)(off size:Nat)(x:aB)(ps:ae (Nat×Nat×aB)):
 vK ρ zero ((off,size,x)::ps)=match cellsOf (ρ x)with
  |none=>none
  |some vs=>if jv vs=size then(match jV zero off vs with
   |some cs=>vK ρ cs ps
   |none=>none)else none:=by
 show(match cellsOf (ρ x)with
  |none=>none
  |some vs=>cond (Nat.beq (jv vs) size) (match jV zero off vs with
   |some cs=>vK ρ cs ps
   |none=>none) none)=_
 cases cellsOf (ρ x)with
 |none=>rfl
 |some vs=>
  show cond (Nat.beq (jv vs) size) _ none=if jv vs=size then _ else none
  cases hb:Nat.beq (jv vs) size with
  |true=>rw[if_pos (uj hb)];rfl
  |false=>rw[if_neg (IL hb)];rfl
def foldl_set(off:Nat):∀(l:ae ah) (k:Nat) (A:Array ah),
 ((l.zipIdx k).foldl (λcs (x:ah×Nat)=>cs.setIfInBounds (off+x.2) x.1) A).size=A.size/\
 ∀j,((l.zipIdx k).foldl (λcs (x:ah×Nat)=>cs.setIfInBounds (off+x.2) x.1) A)[j]? =if off+k<=j/\j<off+k+l.length/\j<A.size then l[j - (off+k)]? else A[j]?:=by
 intro l;induction l with
 |nil=>intro k A;refine⟨rfl,λj=>?_⟩;rw[if_neg th];rfl
 |cons x l ih=>
  intro k A;simp only[IM]
  grind
inductive F2{γ δ:Type}(R:γ->δ->Prop):List γ->List δ->Prop
 |nil:F2 R [] []
 |cons {a:γ} {b:δ} {l:List γ} {r:List δ} (h:R a b) (hl:F2 R l r):F2 R (a::l) (b::r)
def Rb{place:Nat->az (Nat×Nat)}{ρ ρ':aB->ah}:∀(parts:ae (Nat×aB)) (pc:ae (Nat×Nat×aB)) (zs zs' cs:ae ah),
 F2 (λ(p:Nat×aB) (q:Nat×Nat×aB)=>q.2.2=p.2/\place p.1=some (q.1,q.2.1)) parts pc->bB β zs zs'->zs.all Ideal.cellV=true->
 vK ρ zs pc=some cs->(∀p∈parts,VR β (ρ p.2) (ρ' p.2))->∃cs',Instr.fill place ⟨zs'⟩ (parts.map λp=>(p.1,ρ' p.2))=some ⟨cs'⟩/\bB β cs cs'/\cs.all Ideal.cellV=true/\cs.length=zs.length:=by
 intro parts;induction parts with
 |nil=>
  intro pc zs zs' cs hf hz hc hr _;cases hf;rw[ae4]at hr;cases hr;exact⟨zs',rfl,hz,hc,rfl⟩
 |cons p parts ih=>
  intro pc zs zs' cs hf hz hc hr hρ;obtain⟨i,x⟩:=p;cases hf with
  | @cons _ q _ pc hq hf=>
    obtain⟨off,size,y⟩:=q;obtain⟨hy,hpl⟩:=hq;simp only at hy hpl;subst hy;rw[Ra]at hr;split at hr
    .cases hr
    .rename_i vs hvs;split at hr
     .rename_i hsz;split at hr
      .rename_i cs1 hl;obtain⟨Jl,vs',hv1,hv2⟩:=(hρ (i,y) s7).cells hvs;obtain⟨l1,l2,l3⟩:=Ee hl;rw[xX]at hsz;have hlen:=hv2.length;have hzl:=hz.length;have Rc:=foldl_set off vs' 0 ⟨zs'⟩;have hA:∃ML,((vs'.zipIdx 0).foldl (λcs (x:ah×Nat)=>cs.setIfInBounds (off+x.2) x.1) (⟨zs'⟩:Array ah))=⟨ML⟩/\bB β cs1 ML:=by
        refine⟨_,rfl,bB.MH ?_ ?_⟩
        .grind
        .intro j v hj;have hg:=Rc.2 j;simp only[FD]at hg;rw[l3]at hj;split at hj
         .rename_i hr2;obtain⟨v',h1,h2⟩:=hv2.get hj
          grind
         .rename_i hr2;obtain⟨v',h1,h2⟩:=hz.get hj
          grind
       obtain⟨ML,hA1,hA2⟩:=hA;have hc1:cs1.all Ideal.cellV=true:=by
        rw[jU]at hc Jl⊢;intro z Re;obtain⟨j,hj⟩:=gT Re
        grind
       obtain⟨cs',r1,r2,r3,r4⟩:=ih pc cs1 ML cs hf hA2 hc1 hr (by grind);refine⟨cs',?_,r2,r3,s6⟩;simp only[iX,Instr.fill,hpl]
       grind
      .cases hr
     .cases hr
end Go.Ideal
namespace Go.Ideal
variable {P:Program} {β:aQ} {h:IH} {w:World}
variable{w':World}
def Ar{s:Sem ah}{v:ah}{w:World}(h:s.run P w=.ok v w'):(do pure (.value (<- s)):Sem Next).run P w=.ok (.value v) w':=tt
def XA{s:Sem Unit}{w:World}(h:s.run P w=.ok () w'):(do s;pure .skip:Sem Next).run P w=.ok .skip w':=tt
variable{t:aM}{cs cs':ae ah}{s:Sem Next}
def XB(hcs:bB β cs cs')(hc:cs.all cellV=true)
 (hr:s.run P w=.ok (.value (.pointer (some ⟨w.heap.size,0,none⟩))) {w with heap:=w.heap.push (.cells ⟨cs'⟩ t)}):
 x8 P β w s (λi=>.pointer (some ⟨i,0,none⟩)) (.cells cs):=by
 refine⟨_,_,⟨w.heap.size,0,cs.length,cs.length+0,0⟩,hr,rfl,λi β' hle hi=>⟨?_,?_⟩⟩
 .have:=VR.ptr (o:=0) hi;exact this
 .exact pL
variable{n:Nat}
def XC{c:Nat}(hn:n<=c)(hcs:bB β cs cs')(hc:cs.all cellV=true)
 (hr:s.run P w=.ok (.value (.slice (some ⟨w.heap.size,0,none⟩) n c)) {w with heap:=w.heap.push (.cells ⟨cs'⟩ t)}):
 x8 P β w s (λi=>.slice (D7 i 0) n c) (.cells cs):=by
 refine⟨_,_,⟨w.heap.size,0,cs.length,cs.length+0,0⟩,hr,rfl,λi β' hle hi=>⟨?_,?_⟩⟩
 .exact VR.aA hi rfl hn (.inr ⟨rfl,rfl⟩)
 .exact pL
def Co(h:zm P t=some cs):
 ∃z i,P.info? t=some i/\i.zero=some z/\z.cells=⟨cs⟩/\iY cs=true/\kP P t=some cs.length:=by
 unfold zm at h;split at h
 .rename_i z n hz hn;split at h
  .obtain⟨i,h1,h2,h3⟩:=F8 hz
   grind
  .cases h
 .cases h
def ae5(f:Nat->ah):Array.map f (Array.range 0)= #[]:=(by grind)
variable{type e:aM}{dst:az Tmp}{pos:String}{after:Array Edge}{guard:az (Nat×Bool)}{c:aR}{ρ ρ':aB->ah}{f:Nat->ah}{ob:fw}
def ae6
 (hc:cop P ⟨dst,.alloc e,type,pos,after,guard⟩=some c) (ha:c.alloc ρ=some (f,ob)):x8 P β w (execOp ρ' ⟨dst,.alloc e,type,pos,after,guard⟩) f ob:=by
 simp only[cop]at hc;split at hc
 .rename_i cs hz;cases hc;cases ha;obtain⟨z,i,h1,h2,h3,h4,_⟩:=Co hz;refine XB (t:=e) (bB.free h4) (xY h4) ?_;simp[execOp,Instr.alloc,zeroValue,typeInfo,h1,h2,newVar,newRow,h3]
 .cases hc
def ae7{x:aB}
 (hc:cop P ⟨dst,.box e x,type,pos,after,guard⟩=some c) (ha:c.alloc ρ=some (f,ob)) (hx:VR β (ρ x) (ρ' x)):x8 P β w (execOp ρ' ⟨dst,.box e x,type,pos,after,guard⟩) f ob:=by
 simp only[cop,bC]at hc;subst hc;simp only[aR.alloc]at ha;split at ha
 .rename_i cs hcs;cases ha;obtain⟨h1,cs',h2,h3⟩:=hx.cells hcs;refine XB (t:=e) h3 h1 ?_;simp[execOp,Instr.box,newVar,newRow,h2]
 .cases ha
def ae8{r:az aB}
 (hc:cop P ⟨dst,.makeMap t r,type,pos,after,guard⟩=some c) (ha:c.alloc ρ=some (f,ob)):x8 P β w (execOp ρ' ⟨dst,.makeMap t r,type,pos,after,guard⟩) f ob:=by
 cases r with
 |some r=>simp[cop]at hc
 |none=>
  simp only[cop,bC]at hc;subst hc;cases ha;refine⟨.map (some w.heap.size),.map #[] 0,⟨w.heap.size,0,0,0,0⟩,?_,rfl,λi β' hle hi=>⟨?_,?_⟩⟩
  .simp[execOp,Instr.makeMap]
  .have:=VR.map hi;exact this
  .exact⟨#[],s7,.nil⟩
def ae9(z:ae ah)(n:Nat)(hz:z≠[]):∀j,(zeros z n)[j]? =if j<n*z.length then z[j%z.length]? else none:=by
 induction n with
 |zero=>intro j;show([])[j]? =_;simp
 |succ n ih=>
  intro j;show(mq z (zeros z n))[j]? =_;rw[kR];by_cases hj:j<z.length
  .rw[ql hj,if_pos (by grind),Nat.mod_eq_of_lt hj]
  .have:(j - z.length)%z.length=j%z.length:=by
    rw[<- Nat.mod_eq_sub_mod s6]
   grind
def Cq{z:ae ah}(hz:iY z=true)(n:Nat):iY (zeros z n)=true:=by
 have happ:∀(a b:ae ah),iY a=true->iY b=true->iY (a++b)=true:=by
  intro a b ha hb;induction a with
  |nil=>exact hb
  |cons x a ih=>simp[iY]at ha⊢;grind
 induction n with
 |zero=>rfl
 |succ n ih=>show iY (mq z (zeros z n))=true;rw[kR];exact happ _ _ hz ih
def MM(z:ae ah)(n:Nat)(hz:z≠[]):(Array.range (n*z.length)).map (λj=>(⟨z⟩:Array ah)[j%(⟨z⟩:Array ah).size]!)=⟨zeros z n⟩:=by
 have hpos:0<z.length:=(by grind)
 apply Array.ext';apply iQ;intro j;rw[ae9 z n hz];simp only[Array.toList_map,Array.toList_range,eF];by_cases hj:j<n*z.length
 .rw[if_pos hj,uk hj];have hm:j%z.length<z.length:=BN _ hpos;simp[hm]
 grind
def wY(h:pW P t=some n):kP P t=some n/\0<n:=by
 unfold pW at h
 grind
def afa{l k:aB}
 (hc:cop P ⟨dst,.makeSlice t l k,type,pos,after,guard⟩=some c) (ha:c.alloc ρ=some (f,ob)) (hl:VR β (ρ l) (ρ' l)) (hk:VR β (ρ k) (ρ' k)):
 x8 P β w (execOp ρ' ⟨dst,.makeSlice t l k,type,pos,after,guard⟩) f ob:=by
 simp only[cop]at hc;split at hc
 .rename_i e hu;split at hc
  .rename_i s z hs hz;cases hc;simp only[aR.alloc]at ha;obtain⟨zv,i,h1,h2,h3,h4,h5⟩:=Co hz;obtain⟨hs1,hs2⟩:=wY hs;rw[h5]at hs1;have hzl:z.length=s:=by simpa using hs1
   split at ha
   .rename_i ln cn hln hcn;rw[hln]at hl;rw[hcn]at hk;have hl':=hl.oh;have hk':=hk.oh;simp only[h1,oJ,Option.get!_some]at ha;cases hcond:(ln.ble cn&&(cn.mul i.bytes).ble small&&(cn.mul s).ble small&&cn.ble small)with
    |false=>grind
    |true=>
     rw[hcond]at ha;obtain⟨rfl,rfl⟩:=ha;simp only[gV]at hcond;obtain⟨⟨⟨c1,c2⟩,c3⟩,c4⟩:=hcond;have c1:=pQ c1;have c2:=pQ c2;have c4:=pQ c4;unfold small at c2 c4;have hwl:IntKind.i64.wrap (Int.ofNat ln)=ln:=by
      exact IntWalk.i64_in _ th
     have hwc:IntKind.i64.wrap (Int.ofNat cn)=cn:=by
      exact IntWalk.i64_in _ th
     refine XC (t:=e) c1 (bB.free (Cq h4 cn)) (xY (Cq h4 cn)) ?_;have Jm:z≠[]:=(by grind)
     have hsz:((cn:Int)).toNat=cn:=s7
     have hsz2:((ln:Int)).toNat=ln:=s7
     simp only[execOp,Instr.makeSlice,dY,gY hu,eZ,hl',hk',asInt,asIntOf,fZ,Ji h1,hwl,hwc,Int.reducePow];rw[if_neg (by grind)];simp only[hsz,hsz2,dY,run_askRoom,eZ,pq h5,hzl];by_cases h0:cn*s=0
     .rw[if_pos h0];have afb:cn=0:=by
       exact rS
      subst afb;have hz0:zeros z 0=[]:=rfl;simp[newRow,hz0,ae5]
     .rw[if_neg h0];have hzz:zeroOf P e=some zv:=by
       exact mT
      have hrow:=MM z cn Jm;rw[hzl]at hrow;simp only[dY,F9 hzz,eZ,h3,fZ,newRow,run_newObj,hrow]
   .cases ha
  .cases hc
 .cases hc
def F2.of_map{γ δ:Type}{R:γ->δ->Prop}(f:γ->δ)(l:ae γ)(h:∀x∈l,R x (f x)):F2 R l (l.map f):=by
 exact ov
section
variable {dst:az Tmp} {type:aM} {pos:String} {after:Array Edge} {guard:az (Nat×Bool)} {c:aR} {ρ ρ':aB->ah} {f:Nat->ah} {ob:fw} {v:ah} {h':IH}
variable{t:aM}{parts:Array (Nat×aB)}
def afc{len:Nat}
 (hc:cop P ⟨dst,.buildSlice t len parts,type,pos,after,guard⟩=some c) (ha:c.alloc ρ=some (f,ob)) (hρ:∀p∈parts.toList,VR β (ρ p.2) (ρ' p.2)):
 x8 P β w (execOp ρ' ⟨dst,.buildSlice t len parts,type,pos,after,guard⟩) f ob:=by
 simp only[cop]at hc;split at hc
 .rename_i e hu;split at hc
  .rename_i s z hs hz;split at hc
   .rename_i hle;cases hc;simp only[aR.alloc]at ha;split at ha
    .rename_i cs hcs;cases ha;obtain⟨zv,i,h1,h2,h3,h4,h5⟩:=Co hz;obtain⟨hs1,hs2⟩:=wY hs;rw[h5]at hs1;have hzl:z.length=s:=by simpa using hs1
     have Jm:z≠[]:=(by grind)
     obtain⟨cs',r1,r2,r3,_⟩:=Rb (β:=β) (place:=λi=>some (i*s,s)) (ρ:=ρ) (ρ':=ρ') parts.toList _ (zeros z len) (zeros z len) cs
      (F2.of_map (λp=>(p.1*s,s,p.2)) _ (by grind)) (bB.free (Cq h4 len)) (xY (Cq h4 len)) hcs hρ
     refine XC (t:=e) (bG _) r2 r3 ?_;have hzz:zeroOf P e=some zv:=by
      exact mT
     have hrow:=MM z len Jm;rw[hzl]at hrow;have hpl:(parts.map λ(x:Nat×aB)=>match x with|(i,x)=>(i,ρ' x)).toList=parts.toList.map λp=>(p.1,ρ' p.2):=s7
     simp only[execOp,Instr.buildSlice,dY,gY hu,eZ,pq h5,hzl,hpl];rw[if_neg s6];by_cases h0:len*s=0
     .have hl0:len=0:=by
       exact rS
      subst hl0;rw[if_pos h0];have hz0:(Array.map (λx=>(#[]:Array ah)[x%(#[]:Array ah).size]!) (Array.range (0*s)))=⟨zeros z 0⟩:=by grind
      simp only[dY,fZ,eZ,hz0,r1,newRow,run_newObj]
     .rw[if_neg h0];simp only[dY,F9 hzz,eZ,h3,fZ,hrow,r1,newRow,run_newObj]
    .cases ha
   .cases hc
  .cases hc
 .cases hc
variable{x:aB}
def afd(hc:cop P ⟨dst,.move x,type,pos,after,guard⟩=some c)(hr:c.run P ρ h=some (v,h'))(hx:VR β (ρ x) (ρ' x))(hW:WR P β h w):
 Good P β h w (execOp ρ' ⟨dst,.move x,type,pos,after,guard⟩) v h':=by
 simp only[cop,bC]at hc;subst hc;obtain⟨rfl,rfl⟩:=hr;exact Good.same hW (by simp[execOp]) hx
def afe(hc:cop P ⟨dst,.assign x,type,pos,after,guard⟩=some c)(hr:c.run P ρ h=some (v,h'))(hx:VR β (ρ x) (ρ' x))(hW:WR P β h w):
 Good P β h w (execOp ρ' ⟨dst,.assign x,type,pos,after,guard⟩) v h':=by
 simp only[cop,bC]at hc;subst hc;obtain⟨rfl,rfl⟩:=hr;exact Good.same hW (by simp[execOp]) hx
variable{y:aB}
def aff{z:aB}(hc:cop P ⟨dst,.pick x y z,type,pos,after,guard⟩=some c)(hr:c.run P ρ h=some (v,h'))(hx:VR β (ρ x) (ρ' x))(hy:VR β (ρ y) (ρ' y))(hz:VR β (ρ z) (ρ' z))(hW:WR P β h w):
 Good P β h w (execOp ρ' ⟨dst,.pick x y z,type,pos,after,guard⟩) v h':=by
 simp only[cop,bC]at hc;subst hc;simp only[aR.run]at hr;split at hr
 .rename_i t ht;rw[ht]at hx;have hx':=hx.MK;obtain⟨rfl,rfl⟩:=hr;cases t
  .exact Good.same hW (by simp[execOp,hx',asBool]) hz
  .exact Good.same hW (by simp[execOp,hx',asBool]) hy
 .cases hr
variable{fs:Array Field}
def run_places(hall:fs.toList.all (λf=>(kP P f.type).isSome)=true)(w:World):
 ∃pl:Array (Nat×Nat),(fs.mapM λf=>do pure (f.offset,<- sizeOf f.type):Sem (Array (Nat×Nat))).run P w=.ok pl w/\∀(i:Nat) fd,fs[i]? =some fd->∃s,kP P fd.type=some s/\pl[i]? =some (fd.offset,s):=by
 obtain⟨l⟩:=fs;have key:∀l:ae Field,l.all (λf=>(kP P f.type).isSome)=true->
  ∃pl:ae (Nat×Nat),(l.mapM λf=>do pure (f.offset,<- sizeOf f.type):Sem (ae (Nat×Nat))).run P w=.ok pl w/\∀(i:Nat) fd,l[i]? =some fd->∃s,kP P fd.type=some s/\pl[i]? =some (fd.offset,s):=by
  intro l;induction l with
  |nil=>intro _;exact⟨[],s7,(by grind)⟩
  |cons x l ih=>
   intro hl;simp only[L6,gV]at hl;obtain⟨pl,h1,h2⟩:=ih hl.2;obtain⟨s,hs⟩:=Mc.1 hl.1;refine⟨(x.offset,s)::pl,?_,λi fd hi=>?_⟩
   .simp only[List.mapM_cons,dY,pq hs,eZ,fZ,h1]
   grind
 obtain⟨pl,h1,h2⟩:=key l hall;refine⟨⟨pl⟩,?_,λi fd hi=>?_⟩
 .rw[List.mapM_toArray,Sem.run_map,h1];rfl
 grind
def afg{pl:Array (Nat×Nat)}(hpl:∀(i:Nat) fd,fs[i]? =some fd->∃s,kP P fd.type=some s/\pl[i]? =some (fd.offset,s)):
 ∀(parts:ae (Nat×aB)) (ps:ae (Nat×Nat×aB)),Cg P fs parts=some ps->F2 (λ(p:Nat×aB) (q:Nat×Nat×aB)=>q.2.2=p.2/\pl[p.1]? =some (q.1,q.2.1)) parts ps:=by
 intro parts;induction parts with
 |nil=>intro ps h;simp[Cg]at h;subst h;exact .nil
 |cons p parts ih=>
  intro ps h;simp only[Cg]at h;split at h
  .rename_i fd r Cr hr;split at h
   .cases h;refine .cons ⟨rfl,?_⟩ (ih r hr)
    grind
   .cases h
  .cases h
def afh(hc:cop P ⟨dst,.build t parts,type,pos,after,guard⟩=some c)(hr:c.run P ρ h=some (v,h'))(hρ:∀p∈parts.toList,VR β (ρ p.2) (ρ' p.2))(hW:WR P β h w):
 Good P β h w (execOp ρ' ⟨dst,.build t parts,type,pos,after,guard⟩) v h':=by
 have hpl:(parts.map λ(x:Nat×aB)=>match x with|(i,x)=>(i,ρ' x)).toList=parts.toList.map λp=>(p.1,ρ' p.2):=s7
 simp only[cop]at hc;split at hc
 .rename_i fs z hu hz;split at hc
  .rename_i ps hps;cases hc;simp only[aR.run]at hr;split at hr
   .rename_i cs hcs;obtain⟨rfl,rfl⟩:=hr;obtain⟨zv,i,h1,h2,h3,h4,h5⟩:=Co hz;unfold placesOf at hps;split at hps
    .rename_i hall;obtain⟨pl,q1,q2⟩:=run_places (P:=P) hall w;obtain⟨cs',r1,r2,r3,_⟩:=Rb (β:=β) (ρ:=ρ) (ρ':=ρ') parts.toList ps z z cs (afg q2 _ _ hps) (bB.free h4) (xY h4) hcs hρ;refine Good.same hW ?_ (.agg r3 r2);simp only[execOp,Instr.build,dY,zeroValue,Ji h1,h2,eZ,fZ,h3,gY hu,q1,hpl,r1]
    .cases hps
   .cases hr
  .cases hc
 .rename_i n e z hu hz;split at hc
  .rename_i s hs;cases hc;simp only[aR.run]at hr;split at hr
   .rename_i cs hcs;obtain⟨rfl,rfl⟩:=hr;obtain⟨zv,i,h1,h2,h3,h4,h5⟩:=Co hz;obtain⟨hs1,hs2⟩:=wY hs;obtain⟨cs',r1,r2,r3,_⟩:=Rb (β:=β) (place:=λi=>some (i*s,s)) (ρ:=ρ) (ρ':=ρ') parts.toList _ z z cs (F2.of_map (λp=>(p.1*s,s,p.2)) _ (by grind)) (bB.free h4) (xY h4) hcs hρ;refine Good.same hW ?_ (.agg r3 r2);simp only[execOp,Instr.build,dY,zeroValue,Ji h1,h2,eZ,fZ,h3,gY hu,pq hs1,hpl,r1]
   .cases hr
  .cases hc
 .cases hc
def afi(hc:cop P ⟨dst,.load t x,type,pos,after,guard⟩=some c)(hr:c.run P ρ h=some (v,h'))(hx:VR β (ρ x) (ρ' x))(hW:WR P β h w):
 Good P β h w (execOp ρ' ⟨dst,.load t x,type,pos,after,guard⟩) v h':=by
 simp only[cop]at hc;split at hc
 .rename_i hagg;cases hs:kP P t with
  |none=>simp[hs]at hc
  |some n=>
   simp only[hs,oJ,bC]at hc;subst hc;simp only[aR.run]at hr;split at hr
   .rename_i i o ha;rw[ha]at hx;obtain⟨g,hg,hx'⟩:=hx.x9;split at hr
    .rename_i cs hcs;obtain⟨rfl,rfl⟩:=hr;obtain⟨blk,hb,hl⟩:=Gb hcs;obtain⟨l1,l2,l',l3,l4⟩:=MJ hW hg hb hl;obtain⟨d,hd⟩:=Xw hagg;refine Good.same hW ?_ (.agg l2 l3);have:=Q8 (P:=P) (n:=n) (by rw[l3.length,l1]) l4;simp[execOp,Instr.loadAt,Instr.sureAddr,hx',loadVar,Ga hd,hagg,pq hs,this]
    .cases hr
   .cases hr
 .rename_i hagg;split at hc
  .rename_i d hd;cases hc;simp only[aR.run]at hr;split at hr
   .rename_i i o ha;rw[ha]at hx;obtain⟨g,hg,hx'⟩:=hx.x9;split at hr
    .rename_i u hu0;obtain⟨rfl,rfl⟩:=hr;obtain⟨cs,hcs,hu⟩:=Xy hu0;have h7:∀(j:Nat) v,cs[j]? =some v->∃v',w.cell? ⟨g.b,g.off+j,none⟩=some v'/\VR β v v':=by
      rcases hcs with hcs|hcs
      .obtain⟨_,_,_,_,_,h7⟩:=hW.obj i g _ hg hcs;exact h7
      .obtain⟨_,_,_,h7⟩:=hW.obj i g _ hg hcs;exact h7
     rw[uE]at hu;obtain⟨v',a,b⟩:=h7 _ _ hu;refine Good.same hW (v':=v') ?_ b;have Rf:kQ P t=false:=by simpa using hagg
     simp[execOp,Instr.loadAt,Instr.sureAddr,hx',loadVar,Ga hd,Rf,a]
    .cases hr
   .cases hr
  .cases hc
def afj(hc:cop P ⟨dst,.store t x y,type,pos,after,guard⟩=some c)(hr:c.run P ρ h=some (v,h'))(hx:VR β (ρ x) (ρ' x))(hy:VR β (ρ y) (ρ' y))(hW:WR P β h w):
 Good P β h w (execOp ρ' ⟨dst,.store t x y,type,pos,after,guard⟩) v h':=by
 simp only[cop]at hc;cases hs:kP P t with
 |none=>simp[hs]at hc
 |some n=>
  simp only[hs,oJ,bC]at hc;subst hc;simp only[aR.run]at hr;split at hr
  .rename_i i o vs ha hv;rw[ha]at hx;obtain⟨g,hg,hx'⟩:=hx.x9;cases hb:Nat.beq (jv vs) n with
   |false=>rw[hb]at hr;cases hr
   |true=>
    rw[hb]at hr;split at hr
    .rename_i h1 hst;obtain⟨rfl,rfl⟩:=hr;obtain⟨c1,vs',c2,c3⟩:=hy.cells hv;obtain⟨m1,m2,m3⟩:=Gc hW hg hst c3 c1;refine⟨.skip,_,β,undef,?_,.inr ⟨rfl,rfl⟩,.eY _,m2,m3⟩;have hlen:vs'.length=n:=by rw[c3.length,<- xX];exact uj hb
     have hsz:((ρ' y).cells.size≠n)=False:=by simp[c2,hlen]
     simp[execOp,Instr.storeAt,Instr.sureAddr,hx',storeVar,pq hs,c2,m1 0 rfl,hlen]
    .cases hr
  .cases hr
end
end Go.Ideal
namespace Go.Ideal
variable {P:Program} {β:aQ} {h:IH} {w:World}
section
variable {dst:az Tmp} {type:aM} {pos:String} {after:Array Edge} {guard:az (Nat×Bool)} {c:aR} {ρ ρ':aB->ah} {v:ah} {h':IH}
variable{x:aB}
def afk(hc:cop P ⟨dst,.nilCheck x,type,pos,after,guard⟩=some c)(hr:c.run P ρ h=some (v,h'))(hx:VR β (ρ x) (ρ' x))(hW:WR P β h w):
 Good P β h w (execOp ρ' ⟨dst,.nilCheck x,type,pos,after,guard⟩) v h':=by
 simp only[cop,bC]at hc;subst hc;simp only[aR.run]at hr;split at hr<;>simp only[bC,reduceCtorEq]at hr
 .rename_i a ha;obtain⟨rfl,rfl⟩:=hr;rw[ha]at hx;refine Good.same hW ?_ hx;have:∃a',ρ' x=.pointer (some a'):=by
   generalize ρ' x=u at hx;cases hx with|ptr hi=>exact⟨_,rfl⟩
  obtain⟨a',e⟩:=this;simp[execOp,e]
 .rename_i t u ha;obtain⟨rfl,rfl⟩:=hr;rw[ha]at hx;refine Good.same hW ?_ hx;obtain⟨u',_,e⟩:=hx.Ei;simp[execOp,e]
 .rename_i f first captured ha
  exact eV
 .rename_i t n first captured ha
  exact eV
 .rename_i l first captured ha
  exact eV
def uF(a b:Int):leZ a b=decide (a<=b):=by
 cases a<;>cases b<;>simp only[leZ]
 .rw[wM];simp[vH]
 .grind
 .grind
 .rw[wM];simp[vH];omega
def Jn(a b:Int):FU a b=(a==b):=by
 cases a<;>cases b<;>simp only[FU]
 .rw[wM];simp[Nat.beq_eq];omega
 .rfl
 .rfl
 .rw[wM];simp[Nat.beq_eq]
def Rh(a b:Int):Xl a b=a+b:=by cases a<;>cases b<;>rfl
def XD(a b:Int):QX a b=a - b:=by
 cases a<;>cases b<;>simp only[QX]
 rename_i x y;cases hb:Nat.ble y x with
 |true=>
  have:=pQ hb
  grind
 |false=>
  have:¬y<=x:=λhh=>by rw[LZ hh]at hb;cases hb
  simp[Int.negSucc_eq];omega
def MN(k:IntKind)(n:Int):I6 k n=k.wrap n:=by
 have hmax:QW=9223372036854775807:=rfl;have key:=λn hn=>(IntWalk.i64_in n hn).symm;unfold I6;split
 .rename_i m;cases hb:Nat.ble m QW with
  |true=>have:=pQ hb;grind
  |false=>exact cond_false _ _
 .rename_i m;cases hb:Nat.ble m 1000000 with
  |true=>
   have h1:=pQ hb
   grind
  |false=>exact cond_false _ _
 .rfl
variable{k:IntKind}
def XE{j:IntKind}(h:Ak j k=true):j=k:=by
 cases j<;>cases k<;>first|rfl|(simp[Ak]at h)
variable{t:aM}{op:BinOp}
def afl{a b:Int}{v:ah}(h:sP op k a b=some v)(w:World):(binOp op t (.int k a) (.int k b)).run P w=.ok v w:=by
 unfold sP at h;split at h<;>simp only[bC,reduceCtorEq]at h<;>subst h
 .simp[binOp,Op.intArith,MN,Rh]
 .simp[binOp,Op.intArith,MN,XD]
 .simp[binOp,Op.intCmp,Jn]
 .simp[binOp,Jn];rfl
 .simp[binOp,Op.intCmp,uF,<- Int.not_le]
 .simp[binOp,Op.intCmp,uF]
 .simp[binOp,Op.intCmp,uF,<- Int.not_le]
 .simp[binOp,Op.intCmp,uF]
def Ri(op:BinOp)(t:aM)(x y:aB)(a b:ah)(w:World)(h1:∀u,a≠.agg u)(h2:¬(a=.nilIface/\b=.nilIface)):(eqGuard op t x y a b).run P w=.ok () w:=by
 cases op<;>first
  |rfl
  |(cases a<;>first
   |rfl
   |exact absurd rfl (h1 _)
   |(cases b<;>first
    |rfl
    |grind))
def afm(d:Nat){t:aM}{a b a' b':ah}{r:Bool}(h:wU P t a b=some r)(ha:VR β a a')(hb:VR β b b')(w:World):
 (Op.equalIn (d+1) t a' b').run P w=.ok r w/\(∀u,a'≠.agg u)/\¬(a'=.nilIface/\b'=.nilIface)/\(∀k n,a'≠.int k n)/\(∀s,a'≠.string s)/\(∀k n,a'≠.float k n)/\(∀k n m,a'≠.complex k n m):=by
 cases hu:P.underlying t with
 |none=>unfold wU at h;simp[hu]at h
 |some ty=>
  unfold wU at h;rw[hu]at h;split at h<;>simp only[bC,reduceCtorEq]at h<;>subst h
  all_goals
   have he:=‹some ty=some _›;obtain rfl:=Option.some.inj he;cases ha<;>cases hb<;>refine⟨?_,s7,s7,s7,s7,s7,s7⟩<;>(unfold Op.equalIn;simp only[dY,gY hu,eZ];rfl)
def XF{a b a' b':ah}{r:Bool}(h:wU P t a b=some r)(ha:VR β a a')(hb:VR β b b')(w:World):
 (Op.equal t a' b').run P w=.ok r w/\(∀u,a'≠.agg u)/\¬(a'=.nilIface/\b'=.nilIface)/\(∀k n,a'≠.int k n)/\(∀s,a'≠.string s)/\(∀k n,a'≠.float k n)/\(∀k n m,a'≠.complex k n m):=
 afm 9999 h ha hb w
def Jo{s:Sem ah}{v:ah}(h:lC P s=some v):dX P s=some v/\dQ v=true:=by
 unfold lC at h
 grind
variable{y:aB}
def afn{yt:aM}(hc:cop P ⟨dst,.binOp op t x y yt,type,pos,after,guard⟩=some c)(hr:c.run P ρ h=some (v,h'))(hx:VR β (ρ x) (ρ' x))(hy:VR β (ρ y) (ρ' y))(hW:WR P β h w):
 Good P β h w (execOp ρ' ⟨dst,.binOp op t x y yt,type,pos,after,guard⟩) v h':=by
 simp only[cop,bC]at hc;subst hc;simp only[aR.run]at hr;split at hr
 .rename_i u hu;simp only[bC,lQ]at hr;obtain⟨rfl,rfl⟩:=hr;unfold mD at hu;split at hu
  .
   rename_i v1 hv1;simp only[bC]at hu;subst hu;split at hv1
   .rename_i j m k n hm hn;cases hk:Ak j k with
    |false=>grind
    |true=>
     rw[hk]at hv1;simp only[cond_true]at hv1;have:=XE hk;subst this;rw[hm]at hx;rw[hn]at hy;have hx':=hx.oh;have hy':=hy.oh;have hfree:dQ v1=true:=by
      unfold sP at hv1;split at hv1<;>simp only[bC,reduceCtorEq]at hv1<;>subst hv1<;>rfl
     refine Good.same hW (v':=v1) ?_ (VR.free hfree);simp only[execOp,hx',hy',dY,Ri op t x y (.int j m) (.int j n) w s7 s7,eZ,afl hv1,fZ]
   .cases hv1
  .cases hf:dQ (ρ x)&&dQ (ρ y)with
   |true=>
    rw[hf]at hu;simp only[cond_true]at hu;simp only[gV]at hf;have hx':=hx.sQ hf.1;have hy':=hy.sQ hf.2;obtain⟨hu1,hu2⟩:=Jo hu;have hrun:=Cm hu1 w;refine Good.same hW (v':=u) ?_ (VR.free hu2);simp only[execOp,hx',hy'];simp only[dY]at hrun⊢;rw[hrun];rfl
   |false=>
    rw[hf]at hu;simp only[cond_false]at hu;have XG:∀(a b:ah),(∀k n,a≠.int k n)->(∀s,a≠.string s)->(∀k n,a≠.float k n)->(∀k n m,a≠.complex k n m)->
     binOp .eql t a b=(do pure (.bool (<- Op.equal t a b)))/\binOp .neq t a b=(do pure (.bool (!(<- Op.equal t a b)))):=by
     intro a b h1 h2 h3 h4;constructor<;>unfold binOp<;>cases a<;>first|rfl|grind|exact absurd rfl (h2 _)|grind|grind
    split at hu
    .split at hu
     .rename_i r hr2;simp only[bC]at hu;subst hu;obtain⟨e1,e2,e3,e4,e5,e6,e7⟩:=XF hr2 hx hy w;refine Good.same hW (v':=.bool r) ?_ (.bool r);simp only[execOp,dY,Ri _ t x y _ _ w e2 e3,eZ,(XG _ _ e4 e5 e6 e7).1,e1,fZ]
     .cases hu
    .split at hu
     .rename_i r hr2;simp only[bC]at hu;subst hu;obtain⟨e1,e2,e3,e4,e5,e6,e7⟩:=XF hr2 hx hy w;refine Good.same hW (v':=.bool !r) ?_ (.bool _);simp only[execOp,dY,Ri _ t x y _ _ w e2 e3,eZ,(XG _ _ e4 e5 e6 e7).2,e1,fZ]
     .cases hu
    .cases hu
 .cases hr
def afo{op:UnOp}(hc:cop P ⟨dst,.unOp op t x,type,pos,after,guard⟩=some c)(hr:c.run P ρ h=some (v,h'))(hx:VR β (ρ x) (ρ' x))(hW:WR P β h w):
 Good P β h w (execOp ρ' ⟨dst,.unOp op t x,type,pos,after,guard⟩) v h':=by
 simp only[cop,bC]at hc;subst hc;simp only[aR.run]at hr;cases hf:dQ (ρ x)with
 |false=>rw[hf]at hr;cases hr
 |true=>
  rw[hf]at hr;simp only[cond_true]at hr;split at hr
  .rename_i u hu;simp only[bC,lQ]at hr;obtain⟨rfl,rfl⟩:=hr;obtain⟨h1,h2⟩:=Jo hu;have hx':=hx.sQ hf;exact Good.same hW Cl (VR.free h2)
  .cases hr
def afp(hc:cop P ⟨dst,.makeInterface t x,type,pos,after,guard⟩=some c)(hr:c.run P ρ h=some (v,h'))(hx:VR β (ρ x) (ρ' x))(hW:WR P β h w):
 Good P β h w (execOp ρ' ⟨dst,.makeInterface t x,type,pos,after,guard⟩) v h':=by
 simp only[cop]at hc;split at hc
 .cases hc
 .rename_i d hni hu;cases hc;obtain⟨rfl,rfl⟩:=hr;refine Good.same hW ?_ (.iface t hx);simp only[execOp,Instr.makeInterface,dY,gY hu];cases d<;>first|rfl|exact absurd rfl (hni _)
 .cases hc
variable{fn:Fn}
def FR.refl(h:Mw fn=true):FR β fn fn:=by
 cases fn with
 |func f=>exact .func f
 |method n=>exact .method n
 |methodOf t n=>exact .methodOf t n
 |via=>simp[Mw]at h
 |yield l=>simp[Mw]at h
def afq{first captured:Array aB}(hc:cop P ⟨dst,.makeFunc fn first captured,type,pos,after,guard⟩=some c)(hr:c.run P ρ h=some (v,h'))
 (hf:∀x∈first.toList,VR β (ρ x) (ρ' x)) (hk:∀x∈captured.toList,VR β (ρ x) (ρ' x)) (hW:WR P β h w):
 Good P β h w (execOp ρ' ⟨dst,.makeFunc fn first captured,type,pos,after,guard⟩) v h':=by
 simp only[cop]at hc;split at hc
 .rename_i hfn;cases hc;obtain⟨rfl,rfl⟩:=hr;refine Good.same hW (v':=.func fn (first.map ρ') (captured.map ρ')) (by simp[execOp,Instr.makeFunc]) ?_;have e1:first.map ρ'=⟨first.toList.map ρ'⟩:=by grind
  have e2:captured.map ρ'=⟨captured.toList.map ρ'⟩:=by grind
  rw[e1,e2];exact .func (FR.refl hfn) (bB.of_map hf) (bB.of_map hk)
 .cases hc
variable{n:Nat}
def afr{a:Addr}{f:Field}(hs:kP P f.type=some n)(hn:0<n)(w:World):(fieldPlace a f).run P w=.ok (a.add f.offset) w:=by
 simp only[fieldPlace,dY,pq hs,eZ];rw[if_neg s6];rfl
variable{f:Nat}
def afs{s:aM}(hc:cop P ⟨dst,.fieldAddr s x f,type,pos,after,guard⟩=some c)(hr:c.run P ρ h=some (v,h'))(hx:VR β (ρ x) (ρ' x))(hW:WR P β h w):
 Good P β h w (execOp ρ' ⟨dst,.fieldAddr s x f,type,pos,after,guard⟩) v h':=by
 simp only[cop]at hc;split at hc
 .rename_i fs hu;split at hc
  .rename_i fd Cr;cases hs:pW P fd.type with
   |none=>simp[hs]at hc
   |some n=>
    simp only[hs,oJ,bC]at hc;subst hc;obtain⟨hs1,hs2⟩:=wY hs;simp only[aR.run]at hr;split at hr
    .rename_i i o ha;rw[ha]at hx;obtain⟨g,hg,hx'⟩:=hx.x9;obtain⟨rfl,rfl⟩:=hr;refine Good.same hW (v':=.pointer (some ⟨g.b,g.off+(o+fd.offset),none⟩)) ?_ (.ptr hg);simp only[execOp,Instr.fieldAt,dY,gY hu,eZ,Cr,hx',Instr.sureAddr,fZ,afr hs1 hs2,addr_add,pR]
    .cases hr
  .cases hc
 .cases hc
def XH{cs cs':ae ah}{off:Nat}{d:TypeDesc}(hd:P.underlying t=some d)(hs:kP P t=some n)(hv:bB β cs cs')(hall:cs.all cellV=true){v:ah}
 (hr:(match kQ P t with
   |true=>match jR (kD cs off) n with
    |some l=>some (.agg ⟨l⟩:ah)
    |none=>none
   |false=>lW cs off)=some v) (w:World):∃v',(part t ⟨cs'⟩ off).run P w=.ok v' w/\VR β v v':=by
 cases hagg:kQ P t with
 |true=>
  rw[hagg]at hr;simp only at hr;rw[qM,qw]at hr;split at hr
  .rename_i l hl;split at hl
   .cases hl;simp only[bC]at hr;subst hr;refine⟨.agg ⟨(cs'.drop off).take n⟩,?_,.agg ?_ ((hv.drop off).take n)⟩
    .simp only[part,dY,Ga hd,hagg,eZ,if_true,pq hs,fZ]
     grind
    grind
   .cases hl
  .cases hr
 |false=>
  rw[hagg]at hr;rw[uE]at hr;obtain⟨v',h1,h2⟩:=hv.get hr;refine⟨v',?_,h2⟩;simp only[part,dY,Ga hd,hagg,if_false];have:(⟨cs'⟩:Array ah)[off]? =some v':=tG
  simp[this]
def aft(hc:cop P ⟨dst,.field t x f,type,pos,after,guard⟩=some c)(hr:c.run P ρ h=some (v,h'))(hx:VR β (ρ x) (ρ' x))(hW:WR P β h w):
 Good P β h w (execOp ρ' ⟨dst,.field t x f,type,pos,after,guard⟩) v h':=by
 simp only[cop]at hc;split at hc
 .rename_i fs hu;split at hc
  .rename_i fd Cr;split at hc
   .rename_i n d hs hd;cases hc;simp only[aR.run]at hr;split at hr
    .rename_i cs ha;rw[ha]at hx;obtain⟨cs',h1,h2,hx'⟩:=hx.Q9;have hr':h'=h/\(match kQ P fd.type with
      |true=>match jR (kD cs fd.offset) n with
       |some l=>some (.agg ⟨l⟩)
       |none=>none
      |false=>lW cs fd.offset)=some v:=by
      grind
     obtain⟨rfl,hr2⟩:=hr';obtain⟨v',p1,p2⟩:=XH hd hs h1 h2 hr2 w;refine Good.same hW ?_ p2;simp only[execOp,Instr.field,dY,gY hu,eZ,Cr,hx',asAgg,fZ,p1]
    .cases hr
   .cases hc
  .cases hc
 .cases hc
def afu(hc:cop P ⟨dst,.indexAddr t x y,type,pos,after,guard⟩=some c)(hr:c.run P ρ h=some (v,h'))(hx:VR β (ρ x) (ρ' x))(hy:VR β (ρ y) (ρ' y))(hW:WR P β h w):
 Good P β h w (execOp ρ' ⟨dst,.indexAddr t x y,type,pos,after,guard⟩) v h':=by
 simp only[cop]at hc;split at hc
 .rename_i n e hu;cases hs:pW P e with
  |none=>simp[hs]at hc
  |some s=>
   simp only[hs,oJ,bC]at hc;subst hc;obtain⟨hs1,hs2⟩:=wY hs;simp only[aR.run]at hr;split at hr
   .rename_i b o k i ha hi;rw[ha]at hx;rw[hi]at hy;obtain⟨g,hg,hx'⟩:=hx.x9;have hy':=hy.oh;cases hb:Nat.blt i n with
    |false=>rw[hb]at hr;cases hr
    |true=>
     rw[hb]at hr;obtain⟨rfl,rfl⟩:=hr;have hlt:i<n:=tI
     refine Good.same hW ?_ (.ptr hg);simp only[execOp,Instr.indexAt,dY,hy',asIntOf,fZ,eZ,gY hu,hx',Instr.sureAddr];rw[if_pos (by grind)];simp[pq hs1,addr_add,pR]
   .cases hr
 .rename_i e hu;cases hs:pW P e with
  |none=>simp[hs]at hc
  |some s=>
   simp only[hs,oJ,bC]at hc;subst hc;obtain⟨hs1,hs2⟩:=wY hs;simp only[aR.run]at hr;split at hr
   .rename_i b o f n k' k i ha hi;rw[ha]at hx;rw[hi]at hy;obtain⟨g,a,c',hg,hx',ha1,ha2,hn,hcc,hoff,_⟩:=hx.oK;have hy':=hy.oh;cases hb:Nat.blt i n with
    |false=>rw[hb]at hr;cases hr
    |true=>
     rw[hb]at hr;obtain⟨rfl,rfl⟩:=hr;have hlt:i<n:=tI
     have hae:a=⟨g.b,g.off+o,none⟩:=by
      rcases hoff with h0|⟨h0,ha2⟩
      .omega
      .obtain⟨ab,ao,as⟩:=a;grind
     refine Good.same hW ?_ (.ptr hg);simp only[execOp,Instr.indexAt,dY,hy',asIntOf,fZ,eZ,gY hu,hx',hae];rw[if_pos (by grind)];simp[pq hs1,addr_add,pR]
   .cases hr
 .cases hc
def afv{i:Nat}(hc:cop P ⟨dst,.extract x i,type,pos,after,guard⟩=some c)(hr:c.run P ρ h=some (v,h'))(hx:VR β (ρ x) (ρ' x))(hW:WR P β h w):
 Good P β h w (execOp ρ' ⟨dst,.extract x i,type,pos,after,guard⟩) v h':=by
 simp only[cop,bC]at hc;subst hc;simp only[aR.run]at hr;split at hr
 .rename_i vs ha;split at hr
  .rename_i u hu;obtain⟨rfl,rfl⟩:=hr;rw[ha]at hx;rw[uE]at hu;generalize hy:ρ' x=y at hx;cases hx with
   |eY=>simp at hu
   |tuple hl=>
    obtain⟨v',h1,h2⟩:=hl.get hu;refine Good.same hW ?_ h2;rename_i l';have:(⟨l'⟩:Array ah)[i]? =some v':=tG
    simp[execOp,Instr.extract,hy,this]
  .cases hr
 .cases hr
end
end Go.Ideal
namespace Go.Ideal
variable {P:Program} {β:aQ} {h:IH} {w:World}
variable{m i:Nat}{v:ah}
def Ej(h:upTo m v=some i):∃k,v=.int k i/\i<=m:=by
 unfold upTo at h;split at h
 .rename_i k n;cases hb:Nat.ble n m with
  |true=>rw[hb]at h;simp only[cond_true,bC]at h;subst h;exact⟨k,rfl,pQ hb⟩
  |false=>rw[hb]at h;cases h
 .cases h
def Au{y:Nat}{code:BoundsCode}(h:upTo m v=some i)(hm:m<=y)(w:World):(Instr.sliceBound v y code).run P w=.ok i w:=by
 obtain⟨k,rfl,hle⟩:=Ej h;simp only[Instr.sliceBound,asIntOf,dY,fZ,eZ];rw[if_pos (by grind)];simp
variable{len cap l hh:Nat}{lo hi mx:az ah}
def Jp(h:bounds? len cap lo hi mx=some (l,hh,m)):
 (∀v,mx=some v->upTo cap v=some m)/\(mx=none->m=cap)/\(∀v,hi=some v->upTo m v=some hh)/\(hi=none->mx=none/\hh=len)/\
 (∀v,lo=some v->upTo hh v=some l)/\(lo=none->l=0):=by
 unfold bounds? at h;split at h
 .cases h
 grind
def Rj(h:bounds? len cap lo hi mx=some (l,hh,m))(hlc:len<=cap):l<=hh/\hh<=m/\m<=cap:=by
 obtain⟨h1,h2,h3,h4,h5,h6⟩:=Jp h;refine⟨?_,?_,?_⟩
 .cases lo with
  |some v=>obtain⟨_,_,hle⟩:=Ej (h5 v rfl);exact hle
  |none=>grind
 .cases hi with
  |some v=>obtain⟨_,_,hle⟩:=Ej (h3 v rfl);exact hle
  |none=>grind
 .cases mx with
  |some v=>obtain⟨_,_,hle⟩:=Ej (h1 v rfl);exact hle
  |none=>grind
def MO{Jq:Bool}{cap':Nat}(h:bounds? len cap lo hi mx=some (l,hh,m))(hc:cap<=cap')(w:World):
 (Instr.sliceBounds Jq len cap' lo hi mx).run P w=.ok (l,hh,if mx.isSome then m else cap') w:=by
 obtain⟨h1,h2,h3,h4,h5,h6⟩:=Jp h;unfold Instr.sliceBounds;cases mx with
 |some v=>
  have h1:=h1 v rfl;cases hi with
  |none=>grind
  |some u=>
   have h3:=h3 u rfl;cases lo with
   |none=>have h6:=h6 rfl;subst h6;simp[Au h1 hc,Au h3 (bG _)]
   |some x=>have h5:=h5 x rfl;simp[Au h1 hc,Au h3 (bG _),Au h5 (bG _)]
 |none=>
  have h2:=h2 rfl;subst h2;cases hi with
  |none=>
   obtain⟨_,rfl⟩:=h4 rfl;cases lo with
   |none=>have h6:=h6 rfl;subst h6;simp
   |some x=>have h5:=h5 x rfl;simp[Au h5 (bG _)]
  |some u=>
   have h3:=h3 u rfl;cases lo with
   |none=>have h6:=h6 rfl;subst h6;simp[Au h3 hc]
   |some x=>have h5:=h5 x rfl;simp[Au h3 hc,Au h5 (bG _)]
def Rk(h:bounds? len cap lo hi mx=some (l,hh,m)):(if mx.isSome then m else cap)=m:=by
 obtain⟨_,h2,_⟩:=Jp h;cases mx with
 |some v=>rfl
 |none=>rw[h2 rfl];rfl
def Rl{lo hi mx:az aB}{ρ ρ':aB->ah}{r:Nat×Nat×Nat}(h:bounds? len cap (jK ρ lo) (jK ρ hi) (jK ρ mx)=some r)
 (hl:∀x,lo=some x->VR β (ρ x) (ρ' x)) (hh:∀x,hi=some x->VR β (ρ x) (ρ' x)) (hm:∀x,mx=some x->VR β (ρ x) (ρ' x)):
 lo.map ρ'=jK ρ lo/\hi.map ρ'=jK ρ hi/\mx.map ρ'=jK ρ mx:=by
 obtain⟨h1,_,h3,_,h5,_⟩:=Jp h;refine⟨?_,?_,?_⟩
 .cases lo with
  |none=>rfl
  |some x=>
   obtain⟨k,hk,_⟩:=Ej (h5 _ rfl);have:=hl x rfl;exact rp
 .cases hi with
  |none=>rfl
  |some x=>
   obtain⟨k,hk,_⟩:=Ej (h3 _ rfl);have:=hh x rfl;exact rp
 .cases mx with
  |none=>rfl
  |some x=>
   obtain⟨k,hk,_⟩:=Ej (h1 _ rfl);have:=hm x rfl;exact rp
section
variable {dst:az Tmp} {type:aM} {pos:String} {after:Array Edge} {guard:az (Nat×Bool)} {c:aR} {ρ ρ':aB->ah} {v:ah} {h':IH}
def afw{t:aM}{x:aB}{lo hi mx:az aB}(hc:cop P ⟨dst,.slice t x lo hi mx,type,pos,after,guard⟩=some c)(hr:c.run P ρ h=some (v,h'))(hx:VR β (ρ x) (ρ' x))
 (hl:∀x,lo=some x->VR β (ρ x) (ρ' x)) (hh:∀x,hi=some x->VR β (ρ x) (ρ' x)) (hm:∀x,mx=some x->VR β (ρ x) (ρ' x)) (hW:WR P β h w):
 Good P β h w (execOp ρ' ⟨dst,.slice t x lo hi mx,type,pos,after,guard⟩) v h':=by
 simp only[cop]at hc;split at hc
 .
  rename_i hu;cases hc;simp only[aR.run]at hr;split at hr
  .rename_i s hs;split at hr
   .rename_i b hb;split at hr
    .rename_i u hu2;simp only[bC,lQ]at hr;obtain⟨rfl,rfl⟩:=hr;obtain⟨h1,h2⟩:=Jo hu2;rw[hs]at hx;have hx':=hx.Eh;obtain⟨e1,e2,e3⟩:=Rl hb hl hh hm;refine Good.same hW (v':=u) ?_ (VR.free h2);simp only[execOp,Instr.sliceAt,dY,gY hu,eZ,hx',e1,e2,e3,Cm h1 w,fZ]
    .cases hr
   .cases hr
  .cases hr
 .
  rename_i n e hu;cases hs:pW P e with
  |none=>simp[hs]at hc
  |some s=>
   simp only[hs,oJ,bC]at hc;subst hc;obtain⟨hs1,hs2⟩:=wY hs;simp only[aR.run]at hr;split at hr
   .rename_i i o ha;split at hr
    .rename_i l h1 m hb;simp only[bC,lQ]at hr;obtain⟨rfl,rfl⟩:=hr;rw[ha]at hx;obtain⟨g,hg,hx'⟩:=hx.x9;obtain⟨e1,e2,e3⟩:=Rl hb hl hh hm;have b1:=MO (P:=P) (Jq:=false) hb (bG _) w;rw[Rk hb]at b1;have hlen:=Rj hb (bG _);refine Good.same hW (v':=.slice (some (if m=l then(⟨g.b,g.off+o,none⟩:Addr)else(⟨g.b,g.off+o,none⟩:Addr).add (l*s))) (h1 - l) (m - l)) ?_ ?_
     .simp only[execOp,Instr.sliceAt,dY,gY hu,eZ,hx',Instr.sureAddr,fZ,e1,e2,e3,b1,pq hs1]
     .refine .aA hg ?_ (by grind) ?_
      .split<;>simp[addr_add]
      .by_cases hml:m=l
       .grind
       .right;rw[if_neg hml,addr_add];simp[pR]
    .cases hr
   .cases hr
 .
  rename_i e hu;cases hs:pW P e with
  |none=>simp[hs]at hc
  |some s=>
   simp only[hs,oJ,bC]at hc;subst hc;obtain⟨hs1,hs2⟩:=wY hs;simp only[aR.run]at hr;split at hr
   .rename_i a len cap ha;split at hr
    .rename_i l h1 m hb;rw[ha]at hx;obtain⟨e1,e2,e3⟩:=Rl hb hl hh hm;split at hr
     .
      simp only[bC,lQ]at hr;obtain⟨rfl,rfl⟩:=hr;have hx':ρ' x=.slice none len cap:=by generalize ρ' x=y at hx;cases hx;rfl
      have b1:=MO (P:=P) (Jq:=true) hb (bG _) w;rw[Rk hb]at b1;refine Good.same hW (v':=.slice none (h1 - l) (m - l)) ?_ (.sl0 _ _);exact nr
     .
      rename_i i o;simp only[bC,lQ]at hr;obtain⟨rfl,rfl⟩:=hr;obtain⟨g,a',c',hg,hx',ha1,ha2,hn,hcc,hoff,hkind⟩:=hx.oK;have hc':c'=cap:=by
       grind
      subst hc';have b1:=MO (P:=P) (Jq:=true) hb (bG _) w;rw[Rk hb]at b1;have hlen:=Rj hb hn;obtain⟨ab,ao,as⟩:=a';simp only at ha1 hoff;subst ha1;refine Good.same hW (v':=.slice (some (if m=l then(⟨g.b,ao,as⟩:Addr)else(⟨g.b,ao,as⟩:Addr).add (l*s))) (h1 - l) (m - l)) ?_ ?_
      .exact nr
      .refine .aA hg ?_ (by grind) ?_
       .split
        .rfl
        .simp only[Addr.add];split<;>rfl
       .by_cases hml:m=l
        .grind
        .right;rw[if_neg hml];rcases hoff with h0|⟨h0,hs0⟩
         .omega
         .subst h0 hs0;rw[addr_add];simp[pR]
     .
      rename_i i o k;cases hbk:Nat.beq (Nat.succ k) s with
      |false=>grind
      |true=>
       rw[hbk]at hr;have hks:k+1=s:=uj hbk;simp only[cond_true,bC,lQ]at hr;obtain⟨rfl,rfl⟩:=hr;obtain⟨g,a',c',hg,hx',ha1,ha2,hn,hcc,hoff,hkind⟩:=hx.oK;obtain⟨hsz,hpos,hl1,hl2,ha2⟩:g.sz=s/\0<g.sz/\o+cap*g.sz=g.len/\g.off+o+c'*g.sz=g.top/\a'.spot=none:=by
        grind
       have b1:=MO (P:=P) (Jq:=true) hb hcc w;have hlen:=Rj hb hn;have afx:c'=0\/a'.off=g.off+o:=hoff.imp id (·.1);clear hoff;obtain⟨ab,ao,as⟩:=a';simp only at ha1 ha2 afx;subst ha1 ha2;have hrun:∀m',(Instr.sliceBounds true len c' (jK ρ lo) (jK ρ hi) (jK ρ mx)).run P w=.ok (l,h1,m') w->
        (execOp ρ' ⟨dst,.slice t x lo hi mx,type,pos,after,guard⟩).run P w=.ok (.value (.slice (some (if m'=l then(⟨g.b,ao,none⟩:Addr)else(⟨g.b,ao,none⟩:Addr).add (l*s))) (h1 - l) (m' - l))) w:=by
        intro m' hm';simp only[execOp,Instr.sliceAt,Instr.slice,dY,gY hu,eZ,hx',e1,e2,e3,hm',pq hs1,fZ];split<;>rfl
       cases hmx:mx with
       |some xx=>
        subst hmx;have hmm:(if(jK ρ (some xx)).isSome then m else c')=m:=rfl;rw[hmm]at b1;refine Good.same hW (hrun m b1) ?_;refine .aA hg ?_ (by grind) ?_
        .split<;>simp[addr_add]
        .by_cases hml:m=l
         .grind
         .right;rw[if_neg hml,addr_add]
          grind
       |none=>
        subst hmx;have hmm:(if(jK ρ (none:az aB)).isSome then m else c')=c':=rfl;rw[hmm]at b1;have afy:m=cap:=by
         obtain⟨_,q1,_⟩:=Jp hb;exact q1 rfl
        subst afy;refine Good.same hW (hrun c' b1) ?_;have afz:(some (Nat.succ k):az Nat)=some g.sz:=by rw[hsz,<- hks]
        simp only[afz];have hlc:l*s+(m - l)*s=m*s:=by rw[<- wO];congr 1;omega
        have auE:l*s+(c' - l)*s=c'*s:=by rw[<- wO];congr 1;omega
        refine .qN hg ?_ ?_ (by grind) hpos ?_ ?_ (by grind) ?_
        .split<;>simp[addr_add]
        .split<;>simp[addr_add]
        .grind
        .grind
        .by_cases hml:c'=l
         .left;omega
         .right;rw[if_neg hml,addr_add]
          grind
     .cases hr
    .cases hr
   .cases hr
 .cases hc
end
end Go.Ideal
namespace Go.Ideal
variable {P:Program} {β:aQ} {h:IH} {w:World}
def gu{α γ:Type}(s:Sem α)(f:α->Sem γ):dX P (s>>=f)=(dX P s).bind λa=>dX P (f a):=by
 induction s with
 |pure a=>rfl
 |program k ih=>exact ih _
 |mark m k ih=>exact ih
 |_=>rfl
variable{kt:aM}{k:ah}
def Rm(h:uu P kt k=true)(b:Bool)(w:World):(Instr.checkKey b 10000 kt k).run P w=.ok () w:=by
 unfold uu at h;simp only[gV]at h;obtain⟨_,h⟩:=h;split at h
 .rename_i x y hx hy;cases b
  .exact Cm hy w
  .exact Cm hx w
 .cases h
def Rn(h:uu P kt k=true):dQ k=true:=by
 unfold uu at h
 grind
inductive Jr(β:aQ):Option (Nat×Value)->Option (Nat×Value)->Prop
 |none:Jr β none none
 |some (i:Nat) {v v':Value} (h:VR β v v'):Jr β (some (i,v)) (some (i,v'))
variable{es es':ae MapEntry}
def afA{kd:TypeDesc}(he:iC β es es'):∀(i:Nat),
 (∀r,Instr.findNow kd k es i=some r->∃r',Instr.findNow kd k es' i=some r'/\Jr β r r')/\(Instr.findNow kd k es i=none->Instr.findNow kd k es' i=none):=by
 induction he with
 |nil=>intro i;exact⟨λr hr=>by simp only[Instr.findNow,bC]at hr;subst hr;exact⟨_,rfl,.none⟩,(by grind)⟩
 | @cons e e' l l' hk hf hb hv hl ih=>
   intro i;simp only[Instr.findNow,hk];cases hs:Instr.sameNow kd k e.key with
   |none=>grind
   |some b=>cases b with
    |true=>exact⟨λr hr=>by simp only[bC]at hr;subst hr;exact⟨_,rfl,.some i hv⟩,λhr=>by simp at hr⟩
    |false=>exact ih (i+1)
def afB(he:iC β es es')(w:World):∀(i:Nat) r,
 dX P (Instr.findAsking kt k es i)=some r->∃r',(Instr.findAsking kt k es' i).run P w=.ok r' w/\Jr β r r':=by
 induction he with
 |nil=>intro i r hr;change some none=some r at hr;simp only[bC]at hr;subst hr;exact⟨none,rfl,.none⟩
 | @cons e e' l l' hk hf hb hv hl ih=>
   intro i r hr;simp only[Instr.findAsking,gu]at hr;cases hq:dX P (Op.equal kt k e.key)with
   |none=>rw[hq]at hr;cases hr
   |some b=>
    rw[hq]at hr;simp only[Instr.findAsking,hk,dY,Cm hq w];cases b with
    |true=>
     change some (some (i,e.val))=some r at hr
     simp only[bC]at hr;subst hr;exact⟨_,rfl,.some i hv⟩
    |false=>exact ih (i+1) r hr
def XI(he:iC β es es')(w:World){r:az (Nat×ah)}(hr:wT P kt k es=some r):
 ∃r',(Instr.findKey kt k es').run P w=.ok r' w/\Jr β r r':=by
 unfold wT Instr.findKey at hr;rw[gu]at hr;cases hu:P.underlying kt with
 |none=>
  have:dX P (underlying kt)=none:=by simp[underlying,program,dX,hu,bind,Sem.bind,stuck]
  grind
 |some d=>
  have:dX P (underlying kt)=some d:=by simp[underlying,program,dX,hu,bind,Sem.bind];rfl
  rw[this]at hr;simp only[lS]at hr;obtain⟨n1,n2⟩:=afA he 0;simp only[Instr.findKey,dY,gY hu,eZ];split at hr
  .rename_i r1 hr1;change some r1=some r at hr
   simp only[bC]at hr;subst hr;obtain⟨r',h1,h2⟩:=n1 _ hr1;rw[h1];exact⟨r',rfl,h2⟩
  .rename_i hr1;rw[n2 hr1];exact afB he w 0 r hr
def XJ{m m':ah}(hW:WR P β h w)(hm:VR β m m')(he:entriesOf m h=some es):
 (m=.map none/\m'=.map none/\es=[])\/∃i g es' clock clock',m=.map (some i)/\h.get i=some (.map es clock)/\β i=some g/\m'=.map (some g.b)/\w.heap[g.b]? =some (.map es' clock')/\clock'=clock/\iC β es es'.toList:=by
 unfold entriesOf at he;split at he
 .simp only[bC]at he;cases hm;grind
 .rename_i i;split at he
  .rename_i es1 clock hg;simp only[bC]at he;obtain⟨g,hb,rfl⟩:=hm.Gd;obtain⟨es',h1,h2⟩:=hW.obj i g _ hb hg
   grind
  .cases he
 .cases he
def iC.length{l l':ae MapEntry}(he:iC β l l'):l'.length=l.length:=by
 induction he with
 |nil=>rfl
 |cons _ _ _ _ _ ih=>simp[ih]
variable{b:Nat}{o:Obj}
def Av(h:w.heap[b]? =some o)(hn:∀c t f,o≠.cells c t f):(getObj b).run P w=.ok o w:=by
 simp only[getObj,Sem.run,h]
def Ro{o0:Obj}(h:w.heap[b]? =some o0)(hn:∀c t f,o0≠.cells c t f):(setObj b o).run P w=.ok () {w with heap:=w.heap.setIfInBounds b o}:=by
 simp only[setObj,Sem.run,h]
def Js(ok:Bool)(z:ah):az (Nat×ah)->ah
 |some (_,v)=>if ok then .tuple #[v,.bool true]else v
 |none=>if ok then .tuple #[z,.bool false]else z
def afC{t et:aM}(hu:P.underlying t=some (.map kt et)){m k:ah}{es:Array MapEntry}(hm:(m=.map none/\es= #[])\/∃b clock,m=.map (some b)/\w.heap[b]? =some (.map es clock))
 (hck:(Instr.checkKey es.isEmpty 10000 kt k).run P w=.ok () w) {r:az (Nat×ah)} (hf:(Instr.findKey kt k es.toList).run P w=.ok r w) {z:ah} (hz:zeroOf P et=some z) {ok:Bool}:
 (Instr.lookup t m k ok).run P w=.ok (Js ok z r) w:=by
 rcases hm with⟨rfl,rfl⟩|⟨b,clock,rfl,hb⟩
 .simp only[Instr.lookup,dY,gY hu,eZ,fZ,hck,hf];exact sY
 .simp only[Instr.lookup,dY,gY hu,eZ,fZ,Av hb s7,hck,hf];exact sY
section
variable {dst:az Tmp} {type:aM} {pos:String} {after:Array Edge} {guard:az (Nat×Bool)} {c:aR} {ρ ρ':aB->ah} {v:ah} {h':IH}
def afD{t:aM}{m k:aB}{ok:Bool}(hc:cop P ⟨dst,.lookup t m k ok,type,pos,after,guard⟩=some c)(hr:c.run P ρ h=some (v,h'))(hm:VR β (ρ m) (ρ' m))(hk:VR β (ρ k) (ρ' k))(hW:WR P β h w):
 Good P β h w (execOp ρ' ⟨dst,.lookup t m k ok,type,pos,after,guard⟩) v h':=by
 simp only[cop]at hc;split at hc
 .rename_i kt et hu;cases hz:zeroOf P et with
  |none=>simp[hz]at hc
  |some z=>
   simp only[hz,oJ,bC]at hc;subst hc;obtain⟨_,_,_,Jt⟩:=F8 hz;simp only[aR.run]at hr;split at hr
   .rename_i u hl;obtain⟨rfl,rfl⟩:=hr;unfold D8 at hl;split at hl
    .cases hl
    .rename_i es hes;cases hck:uu P kt (ρ k)with
     |false=>grind
     |true=>
      rw[hck]at hl;simp only[cond_true]at hl;have hk':=hk.sQ (Rn hck);cases hf:wT P kt (ρ k) es with
      |none=>rw[hf]at hl;cases hl
      |some r=>
       rw[hf]at hl;obtain⟨es',he1,he2⟩:∃es':Array MapEntry,((ρ' m=.map none/\es'= #[])\/∃b clock,ρ' m=.map (some b)/\w.heap[b]? =some (.map es' clock))/\iC β es es'.toList:=by
        rcases XJ hW hm hes with⟨_,h2,h3⟩|⟨i,g,es',clock,clock',_,_,_,h4,h5,_,h6⟩
        .subst h3;exact⟨#[],.inl ⟨h2,rfl⟩,.nil⟩
        grind
       obtain⟨r',f1,f2⟩:=XI he2 w hf;have hrun:=afC (ok:=ok) hu he1 (Rm hck _ w) f1 hz;rw[<- hk']at hrun;cases f2 with
       |none=>
        simp only[bC]at hl;refine Good.same hW (Ar hrun) ?_;subst hl;cases ok
        .exact VR.free Jt
        .exact .tuple (.cons (VR.free Jt) (.cons (.bool _) .nil))
       |some i hv=>
        simp only[bC]at hl;refine Good.same hW (Ar hrun) ?_;subst hl;cases ok
        .exact hv
        .exact .tuple (.cons hv (.cons (.bool _) .nil))
   .cases hr
 .cases hc
end
end Go.Ideal
namespace Go.Ideal
variable {P:Program} {β:aQ} {h:IH} {w:World}
variable{l l':ae MapEntry}
def iC.get(he:iC β l l'){i:Nat}{e:MapEntry}(hi:l[i]? =some e):∃e',l'[i]? =some e'/\e'.key=e.key/\dQ e.key=true/\e'.born=e.born/\VR β e.val e'.val:=by
 induction he generalizing i with
 |nil=>simp at hi
 |cons hk hf hb hv hl ih=>
  grind
def iC.modify(he:iC β l l'){f f':MapEntry->MapEntry}(i:Nat)
 (Rp:∀e e',e'.key=e.key->dQ e.key=true->e'.born=e.born->VR β e.val e'.val->(f' e').key=(f e).key/\dQ (f e).key=true/\(f' e').born=(f e).born/\VR β (f e).val (f' e').val):
 iC β (l.modify i f) (l'.modify i f'):=by
 induction he generalizing i with
 |nil=>cases i<;>exact .nil
 |cons hk hf hb hv hl ih=>
  cases i with
  |zero=>obtain⟨a,b,c,d⟩:=Rp _ _ hk hf hb hv;exact .cons a b c d hl
  |succ i=>exact .cons hk hf hb hv (ih i)
def iC.push(he:iC β l l'){e e':MapEntry}(h1:e'.key=e.key)(h2:dQ e.key=true)(h3:e'.born=e.born)(h4:VR β e.val e'.val):iC β (l++[e]) (l'++[e']):=by
 induction he with
 |nil=>exact .cons h1 h2 h3 h4 .nil
 |cons hk hf hb hv hl ih=>exact .cons hk hf hb hv ih
def Ju{b:Nat}{o:Obj}(hb:b<w.heap.size):let w1:World:={w with heap:=w.heap.setIfInBounds b o}
 w1.heap.size=w.heap.size/\(∀x,x≠b->w1.heap[x]? =w.heap[x]?)/\w1.heap[b]? =some o:=by
 grind
section
variable {dst:az Tmp} {type:aM} {pos:String} {after:Array Edge} {guard:az (Nat×Bool)} {c:aR} {ρ ρ':aB->ah} {v:ah} {h':IH}
variable{t kt et:aM}
def XK(hu:P.underlying t=some (.map kt et)){b clock:Nat}{es:Array MapEntry}{k x:ah}(hb:w.heap[b]? =some (.map es clock))
 (hck:(Instr.checkKey false 10000 kt k).run P w=.ok () w) {r:az (Nat×ah)} (hf:(Instr.findKey kt k es.toList).run P w=.ok r w)
 (hs:∀i v,r=some (i,v)->∃e,es[i]? =some e/\Instr.sameBits 10000 e.key k=true):
 (Instr.mapUpdate t (.map (some b)) k x).run P w=.ok () {w with heap:=w.heap.setIfInBounds b (match r with
   |some (i,_)=>.map (es.modify i λe=>{e with key:=k,val:=x}) clock
   |none=>.map (es.push {key:=k,val:=x,born:=clock}) (clock+1))}:=by
 simp only[Instr.mapUpdate,dY,gY hu,eZ,Av hb s7,hck,hf];cases r with
 |none=>exact Ro hb s7
 |some p=>
  obtain⟨i,v⟩:=p;obtain⟨e,h1,h2⟩:=hs i v rfl;simp only[h1,oJ,Option.getD_some,Instr.keyThatStays,h2,fZ];exact Ro hb s7
def XL(hu:P.underlying t=some (.map kt et)){m m' k k' x x':ah}{h2:IH}(hr:I5 P kt m k x h=some h2)(hm:VR β m m')(hk:VR β k k')(hx:VR β x x')(hW:WR P β h w):
 ∃w',(Instr.mapUpdate t m' k' x').run P w=.ok () w'/\WR P β h2 w'/\Eff β h w β h2 w':=by
 unfold I5 at hr;split at hr
 .rename_i i;split at hr
  .rename_i es clock hg;obtain⟨g,hb,rfl⟩:=hm.Gd;obtain⟨es',o1,o2⟩:=hW.obj i g _ hb hg;cases hck:uu P kt k with
   |false=>grind
   |true=>
    rw[hck]at hr;simp only[cond_true]at hr;have hk':=hk.sQ (Rn hck);subst hk';have hfree:=Rn hck;have hlt:g.b<w.heap.size:=by
     grind
    cases hf:wT P kt k' es with
    |none=>rw[hf]at hr;cases hr
    |some r=>
     rw[hf]at hr;obtain⟨r',f1,f2⟩:=XI o2 w hf;cases f2 with
     |none=>
      simp only[bC]at hr;subst hr;have hrun:=XK (x:=x') hu o1 (Rm hck false w) f1 s7;obtain⟨p1,p2,p3⟩:=Ju (w:=w) hlt;refine⟨_,hrun,hW.write hb hg _ p1 p2 rfl rfl rfl (bG _) ⟨_,p3,?_⟩⟩;rw[kR,Array.toList_push];exact o2.push rfl hfree rfl hx
     |some j hv=>
      simp only at hr;split at hr
      .rename_i e he;rw[uE]at he;obtain⟨e',q1,q2,q3,q4,q5⟩:=o2.get he;cases hs:Instr.sameBits 10000 e.key k' with
       |false=>rw[hs]at hr;cases hr
       |true=>
        rw[hs]at hr;simp only[cond_true,bC]at hr;subst hr;have hrun:=XK (x:=x') hu o1 (Rm hck false w) f1 (by grind);obtain⟨p1,p2,p3⟩:=Ju (w:=w) hlt;refine⟨_,hrun,hW.write hb hg _ p1 p2 rfl rfl rfl (bG _) ⟨_,p3,?_⟩⟩;rw[Xt,Array.toList_modify];exact o2.modify j (by grind)
      .cases hr
  .cases hr
 .cases hr
variable{x m k:aB}
def afE(hc:cop P ⟨dst,.mapUpdate t m k x,type,pos,after,guard⟩=some c)(hr:c.run P ρ h=some (v,h'))(hm:VR β (ρ m) (ρ' m))(hk:VR β (ρ k) (ρ' k))(hx:VR β (ρ x) (ρ' x))(hW:WR P β h w):
 Good P β h w (execOp ρ' ⟨dst,.mapUpdate t m k x,type,pos,after,guard⟩) v h':=by
 simp only[cop]at hc;split at hc
 .exact fk
 .cases hc
def afF(hc:cop P ⟨dst,.insert t m k x,type,pos,after,guard⟩=some c)(hr:c.run P ρ h=some (v,h'))(hm:VR β (ρ m) (ρ' m))(hk:VR β (ρ k) (ρ' k))(hx:VR β (ρ x) (ρ' x))(hW:WR P β h w):
 Good P β h w (execOp ρ' ⟨dst,.insert t m k x,type,pos,after,guard⟩) v h':=by
 simp only[cop]at hc;split at hc
 .exact fk
 .cases hc
def Rq(hW:WR P β h w){s:Sem Next}{ob:fw}{o':Obj}(hr:s.run P w=.ok (.value (.pointer (some ⟨w.heap.size,0,none⟩))) {w with heap:=w.heap.push o'})
 (ho:∀β':aQ,β.le β'->OR P β' ⟨w.heap.size,0,0,0,0⟩ {w with heap:=w.heap.push o'} ob):Good P β h w s (.pointer (some ⟨h.next,0,none⟩)) (h.new ob):=by
 refine x8.good (f:=λi=>.pointer (some ⟨i,0,none⟩)) hW ⟨_,o',⟨w.heap.size,0,0,0,0⟩,hr,rfl,λi β' hle hi=>⟨?_,ho β' hle⟩⟩;have:=VR.ptr (o:=0) hi;exact this
def afG(hc:cop P ⟨dst,.range t x,type,pos,after,guard⟩=some c)(hr:c.run P ρ h=some (v,h'))(hx:VR β (ρ x) (ρ' x))(hW:WR P β h w):
 Good P β h w (execOp ρ' ⟨dst,.range t x,type,pos,after,guard⟩) v h':=by
 simp only[cop]at hc;split at hc
 .rename_i hu;cases hc;simp only[aR.run]at hr;split at hr
  .rename_i s hs;obtain⟨rfl,rfl⟩:=hr;rw[hs]at hx;have hx':=hx.Eh;refine Rq hW (o':=.stringIter s 0) ?_ λβ' _=>⟨s7,rfl⟩
   simp[execOp,Instr.range,gY hu,hx']
  .cases hr
 .rename_i kt et hu;cases hc;simp only[aR.run]at hr;split at hr
  .rename_i hs;obtain⟨rfl,rfl⟩:=hr;rw[hs]at hx;have hx':ρ' x=.map none:=by generalize ρ' x=y at hx;cases hx;rfl
   refine Rq hW (o':=.mapIter none 0 #[] 0) ?_ λβ' _=>⟨none, #[],s7,rfl,.Aq,rfl⟩
   simp[execOp,Instr.range,gY hu,hx']
  .rename_i m hs;split at hr
   .rename_i es clock hg;obtain⟨rfl,rfl⟩:=hr;rw[hs]at hx;obtain⟨g,hb,hx'⟩:=hx.Gd;obtain⟨es',o1,o2⟩:=hW.obj m g _ hb hg;refine Rq hW (o':=.mapIter (some g.b) clock #[] clock) ?_ λβ' hle=>⟨some g.b, #[],s7,rfl,.map (hle _ _ hb),rfl⟩
    simp only[execOp,Instr.range,dY,gY hu,eZ,hx',Av o1 s7,fZ,run_newObj]
   .cases hr
  .cases hr
 .cases hc
def find_born{l l':ae MapEntry}(he:iC β l l')(n:Nat):match l.find? (λe=>Nat.beq e.born n)with
 |none=>l'.find? (λe=>e.born==n)=none
 |some e=>∃e',l'.find? (λe=>e.born==n)=some e'/\e'.key=e.key/\dQ e.key=true/\VR β e.val e'.val:=by
 induction he with
 |nil=>rfl
 | @cons e e' l l' hk hf hb hv hl ih=>
   cases hq:Nat.beq e.born n with
   |true=>
    have:(e.born==n)=true:=by simp[uj hq]
    grind
   |false=>
    have:(e.born==n)=false:=by simp[IL hq]
    grind
def afH(hc:cop P ⟨dst,.entry x,type,pos,after,guard⟩=some c)(hr:c.run P ρ h=some (v,h'))(hx:VR β (ρ x) (ρ' x))(hW:WR P β h w):
 Good P β h w (execOp ρ' ⟨dst,.entry x,type,pos,after,guard⟩) v h':=by
 simp only[cop,bC]at hc;subst hc;simp only[aR.run]at hr;split at hr
 .rename_i r hs;split at hr
  .rename_i m since seen stepped hg;split at hr
   .rename_i es clock hgm;split at hr
    .rename_i stamp hst;cases hbq:Nat.beq clock stepped with
     |false=>grind
     |true=>
      rw[hbq]at hr;split at hr
      .rename_i e he;obtain⟨rfl,rfl⟩:=hr;rw[hs]at hx;obtain⟨g,hb,hx'⟩:=hx.x9;obtain⟨m',seen',o1,o2,o3,o4⟩:=hW.obj r g _ hb hg;rw[o4]at hx';obtain⟨gm,Gf,hm'⟩:∃gm,β m=some gm/\m'=some gm.b:=by
        obtain⟨gm,a,b⟩:=o3.Gd
        grind
       subst hm';obtain⟨es',p1,p2⟩:=hW.obj m gm _ Gf hgm;have XM:=find_born p2 stamp;rw[he]at XM;obtain⟨e',q1,q2,q3,q4⟩:=XM;have hback:seen'.back? =some stamp:=by
        grind
       have hcl:(clock !=stepped)=false:=by simp[uj hbq]
       have hfa:es'.find? (λe=>e.born==stamp)=some e':=by grind
       refine Good.same hW (v':=.tuple #[e'.key,e'.val]) ?_ (.tuple (.cons ?_ (.cons q4 .nil)))
       .simp only[execOp,Instr.entry,FD,dY,hx',Av o1 s7,Av p1 s7,eZ,hback,hcl,hfa,fZ,DR,if_false]
       .rw[q2];exact VR.free q3
      .cases hr
    .cases hr
   .cases hr
  .cases hr
 .cases hr
def afI{xt:aM}{ok:Bool}(hc:cop P ⟨dst,.typeAssert x xt t ok,type,pos,after,guard⟩=some c)(hr:c.run P ρ h=some (v,h'))(hx:VR β (ρ x) (ρ' x))(hW:WR P β h w):
 Good P β h w (execOp ρ' ⟨dst,.typeAssert x xt t ok,type,pos,after,guard⟩) v h':=by
 simp only[cop]at hc;split at hc
 .cases hc
 .rename_i d hni hu;cases hz:zeroOf P t with
  |none=>simp[hz]at hc
  |some z=>
   simp only[hz,oJ,bC]at hc;subst hc;obtain⟨_,_,_,Jt⟩:=F8 hz;simp only[aR.run]at hr;split at hr
   .rename_i hs;rw[hs]at hx;have hx':ρ' x=.nilIface:=by generalize ρ' x=y at hx;cases hx;rfl
    cases ok with
    |false=>cases hr
    |true=>
     obtain⟨rfl,rfl⟩:=hr;refine Good.same hW ?_ (.tuple (.cons (VR.free Jt) (.cons (.bool _) .nil)));simp only[execOp,Instr.typeAssert,dY,gY hu,eZ,hx',if_true,F9 hz,fZ]
   .rename_i u y hs;rw[hs]at hx;obtain⟨y',hy,hx'⟩:=hx.Ei;cases hbq:Nat.beq u t with
    |true=>
     have hut:u=t:=uj hbq;rw[hbq]at hr;obtain⟨rfl,rfl⟩:=hr;refine Good.same hW (v':=if ok then .tuple #[y',.bool true]else y') ?_ ?_
     .simp only[execOp,Instr.typeAssert,dY,gY hu,eZ,hx',hut];cases d<;>first|exact absurd rfl (hni _)|simp
     .cases ok
      .exact hy
      .exact .tuple (.cons hy (.cons (.bool _) .nil))
    |false=>
     have hut:u≠t:=IL hbq;rw[hbq]at hr;cases ok with
     |false=>cases hr
     |true=>
      obtain⟨rfl,rfl⟩:=hr;refine Good.same hW ?_ (.tuple (.cons (VR.free Jt) (.cons (.bool _) .nil)));simp only[execOp,Instr.typeAssert,dY,gY hu,eZ,hx'];cases d<;>first|exact absurd rfl (hni _)|simp[hut,F9 hz]
   .cases hr
 .cases hc
end
