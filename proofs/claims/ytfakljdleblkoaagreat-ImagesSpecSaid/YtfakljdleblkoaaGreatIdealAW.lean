/-
  Part IdealAW.
-/
import Derived.Test.YtfakljdleblkoaaGreatDictW
import Derived.KernelRfl
import GoSem.Step
import Derived.Below
import Derived.Laws.IdiomCopy
import Derived.Laws.Cells
import Derived.Laws.Entries
set_option linter.all false
abbrev aA:=@Option.some.injEq
abbrev aP:=@List.mem_of_getElem?
abbrev aS:=@decide_eq_false
abbrev bC:=@List.getElem?_eq_some_iff
abbrev bJ:=@List.take_length
abbrev bQ:=@Nat.zero_le
abbrev bK:=@List.mem_singleton
abbrev bW:=@List.getElem?_eq_getElem
abbrev bV:=@Nat.le_refl
abbrev cz:=@List.length_map
abbrev cZ:=@List.mem_cons_self
abbrev dH:=@List.mem_cons
abbrev dA:=@List.mem_cons_of_mem
abbrev dX:=@List.nil_append
abbrev eY:=@decide_eq_true
abbrev dK:=@List.getElem?_map
abbrev cO:=@Prod.mk.injEq
abbrev dz:=@Go.Sem.run_bind
abbrev dW:=@List.mem_append
abbrev fD:=@List.map_append
abbrev dD:=@Go.Result.andThen_ok
abbrev fM:=@List.cons_append
abbrev eG:=@List.mem_map
abbrev gy:=@Int.toNat_natCast
abbrev fU:=@List.append_assoc
abbrev eB:=@Bool.and_eq_true
abbrev gJ:=@List.getElem?_eq_none
abbrev eX:=@Go.Sem.run_pure
abbrev fC:=@Nat.zero_add
abbrev iO:=@Int.eq_ofNat_of_zero_le
abbrev gT:=@Decidable.not_not
abbrev ig:=@List.length_take
abbrev ic:=@List.map_cons
abbrev gQ:=@of_decide_eq_true
abbrev iI:=@List.append_nil
abbrev iE:=@List.length_append
abbrev gX:=@List.nodup_append
abbrev jv:=@List.ext_getElem?
abbrev jX:=@decide_eq_true_iff
abbrev iV:=@Option.bind_some
abbrev jw:=@List.length_eq_zero_iff
abbrev kR:=@List.all_eq_true
abbrev jT:=@List.getElem?_of_mem
abbrev jV:=@Option.map_eq_some_iff
abbrev jU:=@Option.map_some
abbrev r9:=@List.map_singleton
abbrev jW:=@List.mem_append_left
abbrev mV:=@of_decide_eq_false
abbrev lS:=@Nat.lt_of_lt_of_le
abbrev mD:=@Nat.le_of_ble_eq_true
abbrev nS:=@decide_eq_decide
abbrev qa:=@List.getElem?_append_right
abbrev nE:=@List.take_add_one
abbrev oD:=@List.length_cons
abbrev oF:=@List.mem_append_right
abbrev uU:=@List.take_append_drop
abbrev rZ:=@List.pairwise_cons
abbrev qK:=@List.getElem?_drop
abbrev qL:=@List.getElem?_append_left
abbrev qN:=@List.getElem?_range
abbrev o8:=@List.length_range
abbrev oW:=@Nat.le_trans
abbrev qM:=@Bool.or_eq_true
abbrev rW:=@Nat.add_mul
abbrev oZ:=@List.mem_range
abbrev o9:=@List.getElem?_set
abbrev wz:=@List.drop_eq_getElem_cons
abbrev p9:=@Nat.eq_of_beq_eq_true
abbrev qb:=@Nat.add_assoc
abbrev qI:=@List.getElem?_cons_succ
abbrev qJ:=@Nat.lt_or_ge
abbrev tO:=@List.getElem?_take
abbrev uX:=@List.length_set
abbrev tL:=@Array.getElem?_eq_none
abbrev rV:=@Nat.blt_eq
abbrev rX:=@Array.getD_eq_getD_getElem?
abbrev wm:=@List.length_drop
abbrev uV:=@Nat.mul_one
abbrev rY:=@List.mem_filter
abbrev xS:=@List.map_map
abbrev tV:=@List.take_of_length_le
abbrev FN:=@List.length_reverse
abbrev tN:=@List.foldl_cons
abbrev uQ:=@Bool.eq_iff_iff
abbrev uR:=@Nat.ble_eq
abbrev uS:=@Bool.false_eq_true
abbrev uW:=@List.mem_iff_getElem?
abbrev tQ:=@Int.tdiv_eq_ediv_of_nonneg
abbrev tT:=@List.mk_mem_zipIdx_iff_getElem?
abbrev xP:=@List.getElem_mem
abbrev uT:=@Option.getD_some
abbrev wo:=@List.nodup_cons
abbrev ww:=@Nat.sub_self
abbrev wy:=@List.nodup_nil
abbrev wh:=@Nat.lt_succ_self
abbrev zg:=@Array.getElem?_toList
abbrev xR:=@and_true
abbrev A7:=@Nat.one_mul
abbrev zm:=@List.pairwise_iff_getElem
abbrev CY:=@Int.toNat_of_nonneg
abbrev zh:=@decide_eq_true_eq
abbrev xQ:=@Array.mem_append
abbrev xU:=@List.pairwise_map
abbrev AV:=@Nat.add_zero
abbrev AX:=@List.length_pos_iff
abbrev aht:=@Nat.mod_lt
abbrev zi:=@List.getElem?_cons_zero
abbrev AY:=@List.map_congr_left
abbrev AZ:=@List.cons.injEq
abbrev CQ:=@List.length_nil
abbrev CR:=@Nat.sub_zero
abbrev zk:=@List.length_singleton
abbrev ahv:=@Nat.min_eq_left
abbrev zl:=@List.mergeSort_perm
abbrev AU:=@Nat.le_succ
abbrev ahy:=@Nat.mul_comm
abbrev FD:=@Bool.not_eq_true'
abbrev A8:=@List.dropLast_concat_getLast
abbrev A9:=@Nat.not_lt_zero
abbrev CP:=@Nat.ne_of_beq_eq_false
abbrev ahD:=@Nat.beq_refl
abbrev FI:=@Nat.zero_mul
abbrev CS:=@List.drop_zero
abbrev CU:=@Nat.lt_of_le_of_lt
abbrev ahE:=@List.drop_eq_nil_of_le
abbrev CW:=@Int.tmod_eq_emod_of_nonneg
abbrev Fv:=@Nat.ble_eq_true_of_le
abbrev Fw:=@Array.getElem?_push
abbrev Fx:=@Array.getElem?_setIfInBounds_ne
abbrev JL:=@Nat.eq_zero_or_pos
abbrev Fy:=@List.not_mem_nil
abbrev FB:=@List.mem_filterMap
abbrev FC:=@List.filter_cons
abbrev FE:=@List.contains_iff_mem
abbrev FH:=@List.replicate_succ
abbrev FJ:=@List.filter_append
abbrev JU:=@List.set_append_right
abbrev FK:=@List.foldl_append
abbrev FL:=@Nat.pow_lt_pow_right
abbrev ajs:=@List.drop_length
abbrev FM:=@List.take_sublist
abbrev OH:=@List.mem_of_mem_take
abbrev JK:=@Array.toList_map
abbrev JM:=@List.getElem?_toArray
abbrev WG:=@Array.getElem?_eq_some_iff
abbrev JN:=@Bool.and_self
abbrev JO:=@Nat.lt_succ_of_lt
abbrev JP:=@Nat.shiftLeft_eq
abbrev JQ:=@Nat.or_lt_two_pow
abbrev JR:=@List.mem_map_of_mem
abbrev JS:=@List.flatMap_cons
abbrev JV:=@Bool.false_and
abbrev JW:=@List.range_succ
abbrev JX:=@Int.ediv_nonneg
abbrev JY:=@List.pairwise_append
abbrev ajJ:=@List.any_append
abbrev JZ:=@Nat.shiftRight_le
abbrev OI:=@Go.World.keptBut_setCells
abbrev OJ:=@Go.World.cell?_setCells_in
abbrev OL:=@Go.World.cell?_setCells_out
abbrev OM:=@Array.foldl_toList
abbrev OO:=@List.extract_eq_take_drop
abbrev akd:=@Nat.mul_le_mul_right
abbrev OP:=@List.flatten_cons
abbrev OQ:=@List.getElem?_zip_eq_some
abbrev OT:=@List.getElem?_replicate
abbrev ake:=@Nat.div_lt_iff_lt_mul
abbrev OU:=@Nat.shiftRight_eq_div_pow
abbrev OV:=@List.mem_of_find?_eq_some
abbrev WJ:=@Array.getElem?_eq_getElem
abbrev OW:=@List.zipIdx_append
abbrev OX:=@List.length_filter_le
abbrev OY:=@Int.emod_add_mul_ediv
abbrev WL:=@List.length_erase_of_mem
abbrev akf:=@List.length_pos_of_mem
abbrev akg:=@List.mem_erase_of_ne
abbrev WC:=@Array.eq_empty_of_size_eq_zero
abbrev akR:=@Option.isSome_iff_exists
abbrev WE:=@Array.getElem?_setIfInBounds
abbrev akS:=@Array.getElem?_append_left
abbrev WH:=@List.getElem?_eq_none_iff
abbrev WI:=@Nat.add_sub_cancel_left
abbrev WK:=@List.pairwise_mergeSort
abbrev WM:=@List.findIdx?_eq_some_iff_getElem
namespace Go.Ideal
inductive T(α:Type):Type where
 |leaf
 |node (v:Option α) (l r:T α)
noncomputable def T.get{α:Type}(t:T α):Nat->Option α:=
 T.rec (motive:=λ_=>Nat->Option α) (λ_=>none)
  (λv _ _ gl gr n=>Nat.rec (motive:=λ_=>Option α) v
    (λm _=>Bool.rec (motive:=λ_=>Option α) (gr (Nat.div m 2)) (gl (Nat.div m 2)) (Nat.beq (Nat.mod m 2) 0)) n) t
noncomputable def T.one{α:Type}(f:Nat):Nat->Option α->T α:=
 Nat.rec (motive:=λ_=>Nat->Option α->T α) (λ_ _=>.leaf)
  (λ_ ih n x=>Nat.rec (motive:=λ_=>T α) (.node x .leaf .leaf)
    (λm _=>Bool.rec (motive:=λ_=>T α) (.node none .leaf (ih (Nat.div m 2) x)) (.node none (ih (Nat.div m 2) x) .leaf) (Nat.beq (Nat.mod m 2) 0)) n) f
noncomputable def T.set{α:Type}(t:T α):Nat->Option α->T α:=
 T.rec (motive:=λ_=>Nat->Option α->T α) (λn x=>T.one (n+1) n x)
  (λv l r sl sr n x=>Nat.rec (motive:=λ_=>T α) (.node x l r)
    (λm _=>Bool.rec (motive:=λ_=>T α) (.node v l (sr (Nat.div m 2) x)) (.node v (sl (Nat.div m 2) x) r) (Nat.beq (Nat.mod m 2) 0)) n) t
noncomputable def lT{α β:Type}(f:α->β)(l:List α):List β:=
 List.rec (motive:=λ_=>List β) [] (λx _ ih=>f x::ih) l
noncomputable def jD{α:Type}(l:List α):Nat->Option α:=
 List.rec (motive:=λ_=>Nat->Option α) (λ_=>none) (λx _ ih n=>Nat.rec (motive:=λ_=>Option α) (some x) (λm _=>ih m) n) l
noncomputable def jE{α:Type}(l:List α):Nat->List α:=
 List.rec (motive:=λ_=>Nat->List α) (λ_=>[]) (λx l ih n=>Nat.rec (motive:=λ_=>List α) (x::l) (λm _=>ih m) n) l
noncomputable def jd{α:Type}(l:List α):Nat->Option (List α):=
 List.rec (motive:=λ_=>Nat->Option (List α)) (λn=>Nat.rec (motive:=λ_=>Option (List α)) (some []) (λ_ _=>none) n)
  (λx _ ih n=>Nat.rec (motive:=λ_=>Option (List α)) (some []) (λm _=>Option.rec (motive:=λ_=>Option (List α)) none (λr=>some (x::r)) (ih m)) n) l
noncomputable def jK{α:Type}(l:List α):Nat->List α->Option (List α):=
 List.rec (motive:=λ_=>Nat->List α->Option (List α))
  (λo xs=>Nat.rec (motive:=λ_=>Option (List α)) (List.rec (motive:=λ_=>Option (List α)) (some []) (λ_ _ _=>none) xs) (λ_ _=>none) o)
  (λc l ih o xs=>Nat.rec (motive:=λ_=>Option (List α))
    (List.rec (motive:=λ_=>Option (List α)) (some (c::l)) (λx xs _=>Option.rec (motive:=λ_=>Option (List α)) none (λr=>some (x::r)) (ih 0 xs)) xs)
    (λo _=>Option.rec (motive:=λ_=>Option (List α)) none (λr=>some (c::r)) (ih o xs)) o) l
noncomputable def FO{α:Type}(p:α->Bool)(l:List α):Bool:=
 List.rec (motive:=λ_=>Bool) true (λx _ ih=>Bool.rec (motive:=λ_=>Bool) false ih (p x)) l
noncomputable def iF{α:Type}(l:List α):Nat:=
 List.rec (motive:=λ_=>Nat) 0 (λ_ _ ih=>Nat.succ ih) l
noncomputable def jY{α:Type}(l r:List α):List α:=
 List.rec (motive:=λ_=>List α) r (λx _ ih=>x::ih) l
noncomputable def zeros(z:List Value)(n:Nat):List Value:=
 Nat.rec (motive:=λ_=>List Value) [] (λ_ ih=>jY z ih) n
abbrev dO:Value:=.tuple #[]
abbrev si:Value:=.chan (some 0)
def cellV:Value->Bool
 | .agg _| .tuple _| .chan _=>false
 |_=>true
mutual
def bY:Value->Bool
 | .bool _| .int _ _| .float _ _| .complex _ _ _| .string _| .nilFunc| .nilIface=>true
 | .pointer a=>a.isNone
 | .slice a n c=>a.isNone&&n==0&&c==0
 | .map r=>r.isNone
 | .chan _=>false
 | .func _ _ _=>false
 | .iface _ v=>bY v&&cellV v
 | .agg ⟨cs⟩=>fO cs
 | .tuple _=>false
def fO:List Value->Bool
 |[]=>true
 |v::l=>bY v&&cellV v&&fO l
end
def dV{α:Type}(P:Program):Sem α->Option α
 | .pure a=>some a
 | .program k=>dV P (k P)
 | .mark _ k=>dV P k
 |_=>none
def kv(P:Program)(s:Sem Value):Option Value:=
 match dV P s with
 |some v=>cond (bY v) (some v) none
 |none=>none
def cellsOf(v:Value):Option (List Value):=
 match v with
 | .agg ⟨cs⟩=>some cs
 | .tuple _| .chan _=>none
 |v=>some [v]
inductive Out where
 |normal
 |exit (id:Nat)
 |ret
 |panic (chain:List PanicEntry)
inductive aB where
 |mv (x:Operand)
 |mW (x:Operand)
 |pick (c a b:Operand)
 |new (cs:List Value) (t:TypeId)
 |box (x:Operand) (t:TypeId)
 |build (zero:List Value) (parts:List (Nat×Nat×Operand))
 |wB (t:TypeId) (len:Nat) (zero:List Value) (parts:List (Nat×Nat×Operand))
 |gB (a:Operand)
 |qc (n:Nat) (a:Operand)
 |store (n:Nat) (a x:Operand)
 |kT (x:Operand)
 |bin (op:BinOp) (t:TypeId) (x y:Operand)
 |un (op:UnOp) (x:Operand)
 |conv (s d:TypeId) (x:Operand)
 |OZ (e:TypeId) (x:Operand)
 |FP (x:Operand)
 |iface (t:TypeId) (x:Operand)
 |Ba (fn:Fn) (first captured:List Operand)
 |uY
 |zn (e:TypeId) (size bytes:Nat) (zero:List Value) (l c:Operand)
 |O0 (t:TypeId) (x:Operand) (lo hi mx:Option Operand)
 |J2 (n size:Nat) (x:Operand) (lo hi mx:Option Operand)
 |O1 (size:Nat) (x:Operand) (lo hi mx:Option Operand)
 |fI (off:Nat) (x:Operand)
 |field (t:TypeId) (off n:Nat) (agg:Bool) (x:Operand)
 |J3 (n size:Nat) (x i:Operand)
 |nG (size:Nat) (x i:Operand)
 |O3 (x i:Operand)
 |O4 (n size:Nat) (agg:Bool) (x i:Operand)
 |lookup (kt:TypeId) (zero:Value) (m k:Operand) (ok:Bool)
 |FQ (kt:TypeId) (m k v:Operand)
 |O5 (kt:TypeId) (zero:Value) (m k:Operand)
 |O6 (m s v:Operand)
 |J4 (x:Operand)
 |rangeMap (x:Operand)
 |O7 (x:Operand)
 |wC (x:Operand)
 |entry (x:Operand)
 |FT (t:TypeId) (zero:Value) (ok:Bool) (x:Operand)
 |extract (x:Operand) (i:Nat)
 |append (e:TypeId) (size bytes:Nat) (s x:Operand)
 |FU (e:TypeId) (size bytes:Nat) (zero:List Value) (s x:Operand)
 |copy (size:Nat) (d x:Operand)
 |clear (zero:List Value) (x:Operand)
 |O8 (x:Operand)
 |FV (n:Nat)
 |wD (x:Operand)
 |FW (x:Operand)
 |O9 (x:Operand)
 |Bb (max:Bool) (args:List Operand)
 |call (f:Operand) (args:List Operand)
 |invoke (x:Operand) (name:String) (args:List Operand)
 |recover
 |panic (x:Operand)
 |dcall (f:Operand) (args:List Operand)
structure ik where
 dst:Option Tmp
 /-- the operation runs where this temporary holds this Bool -/
 guard:Option (Tmp×Bool)
 op:aB
structure bT where
 s:ik
 re:List ik
inductive dB where
 |skip
 /-- 'ds': where the region's operations put what they yield -/
 |ops (ds:List Tmp) (l:List bT)
 |seq (a b:dB)
 |cond (c:Operand) (a b:dB)
 |block (id:Nat) (a:dB)
 |loop (a:dB)
 |rangeFunc (f:Operand) (params:List Tmp) (assign body:dB)
 |scope (a:dB)
 |exit (id:Nat)
 |ret
 |fail
structure oG where
 state:LoopState
 pending:Option Out
 tmps:T Value
 n:Nat
 params:List Tmp
 assign:dB
 body:dB
 defers:Nat
inductive dQ where
 |cells (cs:List Value)
 /-- cells that are read alone -/
 |je (cs:List Value)
 |map (es:List MapEntry) (clock:Nat)
 |zo (s:ByteArray) (pos:Nat)
 |mapIter (m:Option Nat) (since:Nat) (seen:List Nat) (stepped:Nat)
 |loop (l:oG)
 |iY (open_:Bool)
structure IH where
 t:T dQ
 next:Nat
 low:Nat
noncomputable def IH.get(h:IH)(i:Nat):Option dQ:=h.t.get i
noncomputable def IH.set(h:IH)(i:Nat)(o:dQ):IH:={h with t:=h.t.set i (some o),low:=cond (Nat.ble h.low i) h.low i}
noncomputable def IH.kill(h:IH)(i:Nat):IH:={h with t:=h.t.set i none,low:=cond (Nat.ble h.low i) h.low i}
noncomputable def IH.new(h:IH)(o:dQ):IH:={h with t:=h.t.set h.next (some o),next:=Nat.succ h.next}
structure aV where
 n:Nat
 tmps:T Value
 defers:List Deferred
 pm:Option FrameMode
 ro:Option Nat
noncomputable def dF(t:T Value)(i:Nat):Value:=Option.rec (motive:=λ_=>Value) dO (λv=>v) (t.get i)
noncomputable def aV.eval(a:aV)(x:Operand):Value:=
 match x with
 | .tmp t=>dF a.tmps t
 | .const v=>v
 | .global g=>.pointer (some ⟨g,0,none⟩)
 | .func f=>.func (.func f) #[] #[]
noncomputable def aV.set(a:aV)(d:Nat)(v:Value):aV:=cond (Nat.blt d a.n) {a with tmps:=a.tmps.set d (some v)} a
noncomputable def aV.put(a:aV)(d:Option Tmp)(v:Value):aV:=
 match d with
 |some d=>a.set d v
 |none=>a
noncomputable def aV.wants(a:aV)(g:Option (Tmp×Bool)):Option Bool:=
 match g with
 |none=>some true
 |some (t,want)=>match dF a.tmps t with
  | .bool b=>some (cond want b (!b))
  | .chan _=>some false
  |_=>none
noncomputable def IH.nT(h:IH)(i o n:Nat):Option (List Value):=
 match h.get i with
 |some (.cells cs)=>jd (jE cs o) n
 |_=>none
noncomputable def IH.iW(h:IH)(i o n:Nat):Option (List Value):=
 match h.get i with
 |some (.cells cs)=>jd (jE cs o) n
 |some (.je cs)=>jd (jE cs o) n
 |_=>none
noncomputable def IH.nU(h:IH)(i o:Nat):Option Value:=
 match h.get i with
 |some (.cells cs)=>jD cs o
 |some (.je cs)=>jD cs o
 |_=>none
noncomputable def IH.storeAt(h:IH)(i o:Nat)(vs:List Value):Option IH:=
 match h.get i with
 |some (.cells cs)=>match jK cs o vs with
  |some cs=>some (h.set i (.cells cs))
  |none=>none
 |_=>none
def zq(i o:Nat):Option Addr:=some ⟨i,o,some 0⟩
def small:Nat:=1073741824
def upTo(m:Nat)(v:Value):Option Nat:=
 match v with
 | .int _ (.ofNat i)=>cond (Nat.ble i m) (some i) none
 |_=>none
def bounds?(len cap:Nat)(lo hi mx:Option Value):Option (Nat×Nat×Nat):=
 match (match mx with|some v=>upTo cap v|none=>some cap)with
 |none=>none
 |some m=>match (match hi,mx with|some v,_=>upTo m v|none,none=>some len|none,some _=>none)with
  |none=>none
  |some h=>match (match lo with|some v=>upTo h v|none=>some 0)with
   |none=>none
   |some l=>some (l,h,m)
noncomputable def mX(size n:Nat)(x:Value)(h:IH):Option (List Value):=
 match x with
 | .slice (some ⟨i,o,_⟩) _ _=>h.iW i o (Nat.mul n size)
 | .slice none _ _=>match n with
   |0=>some []
   |_=>none
 | .string s=>cond (Nat.beq size 1) (match jd s.data.toList n with
   |some l=>some (lT (λb=>.int .u8 b.toNat) l)
   |none=>none) none
 |_=>none
noncomputable def xV(size n:Nat)(x:Value)(h:IH):Option (List Value):=
 match n with
 |0=>match x with
  | .slice _ _ _=>some []
  |x=>mX size 0 x h
 |Nat.succ k=>mX size (Nat.succ k) x h
def oH:Value->Option Nat
 | .slice _ n _=>some n
 | .string s=>some s.size
 |_=>none
noncomputable def wE(size bytes:Nat)(s:Value)(n:Nat)(xs:List Value)(h:IH):Option (Value×IH):=
 match s with
 | .slice base len cap=>
   let need:=Nat.add len n
   cond (Nat.ble (Nat.mul need bytes) small&&Nat.ble (Nat.mul need size) small&&Nat.ble need small)
    (cond (Nat.ble need cap)
      (match base with
      |some ⟨i,o,f⟩=>match h.storeAt i (Nat.add o (Nat.mul len size)) xs with
       |some h=>some (.slice (some ⟨i,o,f⟩) need cap,h)
       |none=>none
      |none=>match n with
       |0=>some (.slice none need cap,h)
       |_=>none)
      (match mX size len s h with
      |none=>none
      |some old=>match base with
       |some ⟨i,_,some (k+1)⟩=>cond (Nat.beq (Nat.succ k) size) (some (.slice (some ⟨h.next,0,some size⟩) need need,(h.kill i).new (.cells (jY old xs)))) none
       |_=>some (.slice (some ⟨h.next,0,some size⟩) need need,h.new (.cells (jY old xs))))) none
 |_=>none
noncomputable def Pb(size:Nat)(d x:Value)(h:IH):Option (Value×IH):=
 match d,oH x with
 | .slice base nV _,some m=>
   let n:=cond (Nat.ble m nV) m nV
   match mX size n x h with
   |none=>none
   |some cs=>match base with
    |some ⟨i,o,_⟩=>match h.storeAt i o cs with
     |some h=>some (goInt n,h)
     |none=>none
    |none=>match n with
     |0=>some (goInt 0,h)
     |_=>none
 |_,_=>none
def sj(P:Program)(kt:TypeId)(k:Value)(es:List MapEntry):Option (Option (Nat×Value)):=
 dV P (Instr.findKey kt k es)
def qO(P:Program)(kt:TypeId)(k:Value):Bool:=
 bY k&&match dV P (Instr.checkKey true 10000 kt k),dV P (Instr.checkKey false 10000 kt k)with
  |some _,some _=>true
  |_,_=>false
noncomputable def entriesOf(m:Value)(h:IH):Option (List MapEntry):=
 match m with
 | .map none=>some []
 | .map (some i)=>match h.get i with
   |some (.map es _)=>some es
   |_=>none
 |_=>none
noncomputable def zu(P:Program)(kt:TypeId)(zero m k:Value)(ok:Bool)(h:IH):Option Value:=
 match entriesOf m h with
 |none=>none
 |some es=>cond (qO P kt k) (match sj P kt k es with
  |none=>none
  |some (some (_,v))=>some (cond ok (.tuple #[v,.bool true]) v)
  |some none=>some (cond ok (.tuple #[zero,.bool false]) zero)) none
noncomputable def setAt{α:Type}(f:α->α)(l:List α):Nat->List α:=
 List.rec (motive:=λ_=>Nat->List α) (λ_=>[]) (λx l ih n=>Nat.rec (motive:=λ_=>List α) (f x::l) (λm _=>x::ih m) n) l
noncomputable def CZ(P:Program)(kt:TypeId)(m k v:Value)(h:IH):Option IH:=
 match m with
 | .map (some i)=>match h.get i with
   |some (.map es clock)=>cond (qO P kt k) (match sj P kt k es with
    |none=>none
    |some (some (j,_))=>match jD es j with
     |some e=>cond (Instr.sameBits 10000 e.key k) (some (h.set i (.map (setAt (λe=>{e with key:=k,val:=v}) es j) clock))) none
     |none=>none
    |some none=>some (h.set i (.map (jY es [{key:=k,val:=v,born:=clock}]) (Nat.succ clock)))) none
   |_=>none
 |_=>none
noncomputable def WN(P:Program)(kt:TypeId)(zero m k:Value)(h:IH):Option (Value×IH):=
 match m with
 | .map (some i)=>match h.get i with
   |some (.map es clock)=>cond (qO P kt k) (match sj P kt k es with
    |none=>none
    |some (some (j,v))=>match jD es j with
     |some e=>cond (Instr.sameBits 10000 e.key k) (some (.tuple #[v,goInt e.born],h.set i (.map (setAt (λe=>{e with key:=k}) es j) clock))) none
     |none=>none
    |some none=>some (.tuple #[zero,goInt clock],h.set i (.map (jY es [{key:=k,val:=zero,born:=clock}]) (Nat.succ clock)))) none
   |_=>none
 |_=>none
noncomputable def WO(m s v:Value)(h:IH):Option IH:=
 match m,s with
 | .map (some i),.int _ n=>match h.get i with
   |some (.map es clock)=>match es.findIdx? (λe=>(e.born:Int)==n)with
    |some j=>some (h.set i (.map (setAt (λe=>{e with val:=v}) es j) clock))
    |none=>none
   |_=>none
 |_,_=>none
def su(P:Program)(t:TypeId)(x y:Value):Option Bool:=
 match P.underlying t,x,y with
 |some (.pointer _),.pointer (some _),.pointer none=>some false
 |some (.pointer _),.pointer none,.pointer (some _)=>some false
 |some (.slice _),.slice (some _) _ _,.slice none _ _=>some false
 |some (.slice _),.slice none _ _,.slice (some _) _ _=>some false
 |some (.slice _),.slice none _ _,.slice none _ _=>some true
 |some (.map _ _),.map (some _),.map none=>some false
 |some (.map _ _),.map none,.map (some _)=>some false
 |some (.func _ _ _),.func _ _ _,.nilFunc=>some false
 |some (.func _ _ _),.nilFunc,.func _ _ _=>some false
 |some (.interface _),.iface _ _,.nilIface=>some false
 |some (.interface _),.nilIface,.iface _ _=>some false
 |_,_,_=>none
def J5:Nat:=9223372036854775807
def C8(k:IntKind)(n:Int):Int:=
 match k,n with
 | .i64,.ofNat m=>cond (Nat.ble m J5) (.ofNat m) (IntKind.i64.wrap (.ofNat m))
 | .i64,.negSucc m=>cond (Nat.ble m 1000000) (.negSucc m) (IntKind.i64.wrap (.negSucc m))
 |k,n=>k.wrap n
def Pd(a b:Int):Int:=
 match a,b with
 | .ofNat x,.ofNat y=>.ofNat (Nat.add x y)
 |a,b=>a+b
def J6(a b:Int):Int:=
 match a,b with
 | .ofNat x,.ofNat y=>cond (Nat.ble y x) (.ofNat (Nat.sub x y)) (.negSucc (Nat.pred (Nat.sub y x)))
 |a,b=>a - b
def leZ(a b:Int):Bool:=
 match a,b with
 | .ofNat x,.ofNat y=>Nat.ble x y
 | .negSucc _,.ofNat _=>true
 | .ofNat _,.negSucc _=>false
 | .negSucc x,.negSucc y=>Nat.ble y x
def Bc(a b:Int):Bool:=
 match a,b with
 | .ofNat x,.ofNat y=>Nat.beq x y
 | .negSucc x,.negSucc y=>Nat.beq x y
 |_,_=>false
def uZ(j k:IntKind):Bool:=
 match j,k with
 | .i64,.i64=>true
 |j,k=>j==k
def pg(op:BinOp)(k:IntKind)(a b:Int):Option Value:=
 match op with
 | .add=>some (.int k (C8 k (Pd a b)))
 | .sub=>some (.int k (C8 k (J6 a b)))
 | .eql=>some (.bool (Bc a b))
 | .neq=>some (.bool (!Bc a b))
 | .lss=>some (.bool (!leZ b a))
 | .leq=>some (.bool (leZ a b))
 | .gtr=>some (.bool (!leZ a b))
 | .geq=>some (.bool (leZ b a))
 |_=>none
def lU(P:Program)(op:BinOp)(t:TypeId)(x y:Operand)(a b:Value):Option Value:=
 match (match a,b with
  | .int j m,.int k n=>cond (uZ j k) (pg op j m n) none
  |_,_=>none)with
 |some v=>some v
 |none=>cond (bY a&&bY b) (kv P (do eqGuard op t x y a b;binOp op t a b))
  (match op with
  | .eql=>(match su P t a b with|some b=>some (.bool b)|none=>none)
  | .neq=>(match su P t a b with|some b=>some (.bool !b)|none=>none)
  |_=>none)
noncomputable def FX(l:List Value):Option (List UInt8):=
 List.rec (motive:=λ_=>Option (List UInt8)) (some []) (λv _ ih=>match v,ih with
  | .int .u8 k,some r=>some (UInt8.ofNat k.toNat::r)
  |_,_=>none) l
noncomputable def qP(ρ:Operand->Value)(zero:List Value)(parts:List (Nat×Nat×Operand)):Option (List Value):=
 List.rec (motive:=λ_=>List Value->Option (List Value)) (λcs=>some cs)
  (λp _ ih cs=>match p with
    |(off,size,x)=>match cellsOf (ρ x)with
     |none=>none
     |some vs=>cond (Nat.beq (iF vs) size) (match jK cs off vs with
      |some cs=>ih cs
      |none=>none) none) parts zero
noncomputable def jf(ρ:Operand->Value)(x:Option Operand):Option Value:=
 match x with
 |some x=>some (ρ x)
 |none=>none
noncomputable def aB.alloc(c:aB)(ρ:Operand->Value):Option ((Nat->Value)×dQ):=
 match c with
 | .new cs _=>some (λi=>.pointer (some ⟨i,0,none⟩),.cells cs)
 | .box x _=>match cellsOf (ρ x)with
   |some cs=>some (λi=>.pointer (some ⟨i,0,none⟩),.cells cs)
   |none=>none
 | .wB _ len zero parts=>match qP ρ zero parts with
   |some cs=>some (λi=>.slice (zq i 0) len len,.cells cs)
   |none=>none
 | .uY=>some (λi=>.map (some i),.map [] 0)
 | .zn _ size bytes zero l c=>match ρ l,ρ c with
   | .int .i64 (.ofNat l),.int .i64 (.ofNat c)=>cond (Nat.ble l c&&Nat.ble (Nat.mul c bytes) small&&Nat.ble (Nat.mul c size) small&&Nat.ble c small)
      (some (λi=>.slice (zq i 0) l c,.cells (zeros zero c))) none
   |_,_=>none
 |_=>none
noncomputable def qQ(x:Option ((Nat->Value)×dQ))(h:IH):Option (Value×IH):=
 match x with
 |some (f,o)=>some (f h.next,h.new o)
 |none=>none
noncomputable def aB.run(P:Program)(c:aB)(ρ:Operand->Value)(h:IH):Option (Value×IH):=
 match c with
 | .mv x=>some (ρ x,h)
 | .mW x=>some (ρ x,h)
 | .pick c a b=>match ρ c with
   | .bool t=>some (cond t (ρ a) (ρ b),h)
   |_=>none
 | .new cs t=>qQ ((aB.new cs t).alloc ρ) h
 | .box x t=>qQ ((aB.box x t).alloc ρ) h
 | .build zero parts=>match qP ρ zero parts with
   |some cs=>some (.agg ⟨cs⟩,h)
   |none=>none
 | .wB t len zero parts=>qQ ((aB.wB t len zero parts).alloc ρ) h
 | .gB a=>match ρ a with
   | .pointer (some ⟨i,o,none⟩)=>match h.nU i o with
     |some v=>some (v,h)
     |none=>none
   |_=>none
 | .qc n a=>match ρ a with
   | .pointer (some ⟨i,o,none⟩)=>match h.iW i o n with
     |some cs=>some (.agg ⟨cs⟩,h)
     |none=>none
   |_=>none
 | .store n a x=>match ρ a,cellsOf (ρ x)with
   | .pointer (some ⟨i,o,none⟩),some vs=>cond (Nat.beq (iF vs) n) (match h.storeAt i o vs with
     |some h=>some (dO,h)
     |none=>none) none
   |_,_=>none
 | .kT x=>match ρ x with
   | .pointer (some a)=>some (.pointer (some a),h)
   | .iface t v=>some (.iface t v,h)
   | .func (.func f) first captured=>some (.func (.func f) first captured,h)
   | .func (.methodOf t n) first captured=>some (.func (.methodOf t n) first captured,h)
   | .func (.yield l) first captured=>some (.func (.yield l) first captured,h)
   |_=>none
 | .bin op t x y=>match lU P op t x y (ρ x) (ρ y)with
   |some v=>some (v,h)
   |none=>none
 | .un op x=>cond (bY (ρ x)) (match kv P (Op.unary op (ρ x))with
   |some v=>some (v,h)
   |none=>none) none
 | .conv s d x=>cond (bY (ρ x)) (match kv P (convert s d (ρ x))with
   |some v=>some (v,h)
   |none=>none) none
 | .OZ _ x=>match ρ x with
   | .string b=>some (.slice (some ⟨h.next,0,some 1⟩) b.data.toList.length b.data.toList.length,h.new (.cells (lT (λc=>.int .u8 c.toNat) b.data.toList)))
   |_=>none
 | .FP x=>match ρ x with
   | .slice none _ _=>some (.string .empty,h)
   | .slice (some ⟨i,o,_⟩) n _=>match h.iW i o n with
     |some cs=>match FX cs with
      |some bs=>some (.string ⟨⟨bs⟩⟩,h)
      |none=>none
     |none=>none
   |_=>none
 | .iface t x=>some (.iface t (ρ x),h)
 | .Ba fn first captured=>some (.func fn ⟨lT ρ first⟩ ⟨lT ρ captured⟩,h)
 | .uY=>qQ (aB.uY.alloc ρ) h
 | .zn e size bytes zero l c=>qQ ((aB.zn e size bytes zero l c).alloc ρ) h
 | .O0 t x lo hi mx=>match ρ x with
   | .string s=>match bounds? s.size s.size (jf ρ lo) (jf ρ hi) (jf ρ mx)with
     |some _=>match kv P (Instr.slice t (.string s) (jf ρ lo) (jf ρ hi) (jf ρ mx))with
      |some v=>some (v,h)
      |none=>none
     |none=>none
   |_=>none
 | .J2 n size x lo hi mx=>match ρ x with
   | .pointer (some ⟨i,o,none⟩)=>match bounds? n n (jf ρ lo) (jf ρ hi) (jf ρ mx)with
     |some (l,hh,m)=>some (.slice (zq i (Nat.add o (Nat.mul l size))) (Nat.sub hh l) (Nat.sub m l),h)
     |none=>none
   |_=>none
 | .O1 size x lo hi mx=>match ρ x with
   | .slice a len cap=>match bounds? len cap (jf ρ lo) (jf ρ hi) (jf ρ mx)with
     |some (l,hh,m)=>match a with
      |none=>some (.slice none (Nat.sub hh l) (Nat.sub m l),h)
      |some ⟨i,o,some 0⟩=>some (.slice (zq i (Nat.add o (Nat.mul l size))) (Nat.sub hh l) (Nat.sub m l),h)
      |some ⟨i,o,some (k+1)⟩=>cond (Nat.beq (Nat.succ k) size) (some (.slice (some ⟨i,Nat.add o (Nat.mul l size),match mx with|some _=>some 0|none=>some (Nat.succ k)⟩) (Nat.sub hh l) (Nat.sub m l),h)) none
      |some ⟨_,_,none⟩=>none
     |none=>none
   |_=>none
 | .fI off x=>match ρ x with
   | .pointer (some ⟨i,o,none⟩)=>some (.pointer (some ⟨i,Nat.add o off,none⟩),h)
   |_=>none
 | .field _ off n agg x=>match ρ x with
   | .agg ⟨cs⟩=>match agg with
     |true=>match jd (jE cs off) n with
      |some l=>some (.agg ⟨l⟩,h)
      |none=>none
     |false=>match jD cs off with
      |some v=>some (v,h)
      |none=>none
   |_=>none
 | .J3 n size x ix=>match ρ x,ρ ix with
   | .pointer (some ⟨b,o,none⟩),.int _ (.ofNat i)=>cond (Nat.blt i n) (some (.pointer (some ⟨b,Nat.add o (Nat.mul i size),none⟩),h)) none
   |_,_=>none
 | .nG size x ix=>match ρ x,ρ ix with
   | .slice (some ⟨b,o,_⟩) n _,.int _ (.ofNat i)=>cond (Nat.blt i n) (some (.pointer (some ⟨b,Nat.add o (Nat.mul i size),none⟩),h)) none
   |_,_=>none
 | .O3 x ix=>match ρ x,ρ ix with
   | .string s,.int _ (.ofNat i)=>match jD s.data.toList i with
     |some b=>some (.int .u8 b.toNat,h)
     |none=>none
   |_,_=>none
 | .O4 n size agg x ix=>match ρ x,ρ ix with
   | .agg ⟨cs⟩,.int _ (.ofNat i)=>cond (Nat.blt i n) (match agg with
     |true=>match jd (jE cs (Nat.mul i size)) size with
      |some l=>some (.agg ⟨l⟩,h)
      |none=>none
     |false=>match jD cs (Nat.mul i size)with
      |some v=>some (v,h)
      |none=>none) none
   |_,_=>none
 | .lookup kt zero m k ok=>match zu P kt zero (ρ m) (ρ k) ok h with
   |some v=>some (v,h)
   |none=>none
 | .FQ kt m k v=>match CZ P kt (ρ m) (ρ k) (ρ v) h with
   |some h=>some (dO,h)
   |none=>none
 | .O5 kt zero m k=>WN P kt zero (ρ m) (ρ k) h
 | .O6 m s v=>match WO (ρ m) (ρ s) (ρ v) h with
   |some h=>some (dO,h)
   |none=>none
 | .J4 x=>match ρ x with
   | .string s=>some (.pointer (some ⟨h.next,0,none⟩),h.new (.zo s 0))
   |_=>none
 | .rangeMap x=>match ρ x with
   | .map none=>some (.pointer (some ⟨h.next,0,none⟩),h.new (.mapIter none 0 [] 0))
   | .map (some m)=>match h.get m with
     |some (.map _ clock)=>some (.pointer (some ⟨h.next,0,none⟩),h.new (.mapIter (some m) clock [] clock))
     |_=>none
   |_=>none
 | .O7 it=>match ρ it with
   | .pointer (some ⟨r,0,none⟩)=>match h.get r with
     |some (.zo s pos)=>cond (Nat.blt pos s.size)
       (some (.tuple #[.bool true,goInt pos,.int .i32 (Utf8.decode s pos).1],h.set r (.zo s (Nat.add pos (Utf8.decode s pos).2))))
       (some (.tuple #[.bool false],h))
     |_=>none
   |_=>none
 | .entry it=>match ρ it with
   | .pointer (some ⟨r,0,none⟩)=>match h.get r with
     |some (.mapIter (some m) _ seen stepped)=>match h.get m with
      |some (.map es clock)=>match seen.getLast? with
       |some stamp=>cond (Nat.beq clock stepped) (match es.find? (λe=>Nat.beq e.born stamp)with
        |some e=>some (.tuple #[e.key,e.val],h)
        |none=>none) none
       |none=>none
      |_=>none
     |_=>none
   |_=>none
 | .FT t zero ok x=>match ρ x with
   | .nilIface=>cond ok (some (.tuple #[zero,.bool false],h)) none
   | .iface u v=>cond (Nat.beq u t) (some (cond ok (.tuple #[v,.bool true]) v,h)) (cond ok (some (.tuple #[zero,.bool false],h)) none)
   |_=>none
 | .extract x i=>match ρ x with
   | .tuple ⟨vs⟩=>match jD vs i with
     |some v=>some (v,h)
     |none=>none
   |_=>none
 | .append _ size bytes s x=>match oH (ρ x)with
   |some n=>match xV size n (ρ x) h with
    |some xs=>wE size bytes (ρ s) n xs h
    |none=>none
   |none=>none
 | .FU _ size bytes zero s x=>match ρ s,ρ x with
   | .slice none 0 0,.int .i64 (.ofNat (n+1))=>cond (Nat.ble (Nat.mul (n+1) bytes) small&&Nat.ble (Nat.mul (n+1) size) small&&Nat.ble (n+1) small) (some (.slice (some ⟨h.next,0,some size⟩) (n+1) (n+1),h.new (.cells (zeros zero (n+1))))) none
   |_,_=>none
 | .copy size d x=>Pb size (ρ d) (ρ x) h
 | .clear zero x=>match ρ x with
   | .slice (some ⟨i,o,some _⟩) (n+1) _=>match h.storeAt i o (zeros zero (n+1))with
     |some h'=>some (.tuple #[],h')
     |none=>none
   | .slice _ 0 _=>some (.tuple #[],h)
   |_=>none
 | .O8 x=>match ρ x with
   | .string s=>some (goInt s.size,h)
   |_=>none
 | .FV n=>some (goInt n,h)
 | .wD x=>match ρ x with
   | .slice _ n _=>some (goInt n,h)
   |_=>none
 | .FW x=>match entriesOf (ρ x) h with
   |some es=>some (goInt (iF es),h)
   |none=>none
 | .O9 x=>match ρ x with
   | .slice none _ c=>some (goInt c,h)
   | .slice (some ⟨_,_,some 0⟩) _ c=>some (goInt c,h)
   |_=>none
 | .Bb max args=>match lT ρ args with
   |[.int j a,.int k b]=>cond (uZ j k) (some (.int j (cond max (cond (leZ b a) a b) (cond (leZ a b) a b)),h)) none
   |args=>cond (fO args) (match kv P (cond max (Builtin.max_ #[] 0 ⟨args⟩) (Builtin.min_ #[] 0 ⟨args⟩))with
    |some v=>some (v,h)
    |none=>none) none
 | .wC _| .call _ _| .invoke _ _ _| .recover| .panic _| .dcall _ _=>none
end Go.Ideal
namespace Go.Ideal
noncomputable section
def jm(P:Program)(t:TypeId):Option Nat:=(P.info? t).map (·.size)
def zeroOf(P:Program)(t:TypeId):Option Value:=
 match (P.info? t).bind (·.zero)with
 |some z=>if bY z then some z else none
 |none=>none
def jL(P:Program)(t:TypeId):Bool:=
 match P.underlying t with
 |some (.struct _)|some (.array _ _)=>true
 |_=>false
def u7(P:Program)(t:TypeId):Option (List Value):=
 match zeroOf P t,jm P t with
 |some z,some n=>if z.cells.toList.length=n/\fO z.cells.toList then some z.cells.toList else none
 |_,_=>none
def mY(P:Program)(t:TypeId):Option Nat:=
 match jm P t with
 |some 0=>none
 |s=>s
def xW(P:Program)(fs:Array Field):List (Nat×Operand)->Option (List (Nat×Nat×Operand))
 |[]=>some []
 |(i,x)::l=>match fs[i]?,xW P fs l with
  |some f,some r=>match jm P f.type with
   |some s=>some ((f.offset,s,x)::r)
   |none=>none
  |_,_=>none
def placesOf(P:Program)(fs:Array Field)(parts:List (Nat×Operand)):Option (List (Nat×Nat×Operand)):=
 if fs.toList.all (λf=>(jm P f.type).isSome)then xW P fs parts else none
def FY:Fn->Bool
 | .yield _=>false
 | .via .. =>false
 |_=>true
def cop(P:Program)(o:Oper):Option aB:=
 match o.op with
 | .move x=>some (.mv x)
 | .assign x=>some (.mW x)
 | .pick c a b=>some (.pick c a b)
 | .alloc e=>match u7 P e with
   |some cs=>some (.new cs e)
   |none=>none
 | .box e x=>some (.box x e)
 | .build t parts=>match P.underlying t,u7 P t with
   |some (.struct fs),some z=>match placesOf P fs parts.toList with
    |some ps=>some (.build z ps)
    |none=>none
   |some (.array _ e),some z=>match mY P e with
    |some s=>some (.build z (parts.toList.map λ(i,x)=>(i*s,s,x)))
    |none=>none
   |_,_=>none
 | .buildSlice t len parts=>match P.underlying t with
   |some (.slice e)=>match mY P e,u7 P e with
    |some s,some z=>if len*s<=2^24 then some (.wB e len (zeros z len) (parts.toList.map λ(i,x)=>(i*s,s,x)))else none
    |_,_=>none
   |_=>none
 | .load t a=>if jL P t then(jm P t).map λn=>.qc n a else match P.underlying t with
   |some _=>some (.gB a)
   |none=>none
 | .store t a x=>(jm P t).map λn=>.store n a x
 | .nilCheck x=>some (.kT x)
 | .binOp op t x y _=>some (.bin op t x y)
 | .unOp op _ x=>some (.un op x)
 | .convert s d x=>match P.underlying s,P.underlying d with
   |some .string,some (.slice _)=>none
   |some (.slice e),some .string=>match P.underlying e with
    |some (.int .u8)=>some (.FP x)
    |_=>none
   |some (.slice _),some (.slice _)=>none
   |some _,some _=>some (.conv s d x)
   |_,_=>none
 | .makeInterface t x=>match P.underlying t with
   |some (.interface _)=>none
   |some _=>some (.iface t x)
   |none=>none
 | .makeFunc fn first captured=>if FY fn then some (.Ba fn first.toList captured.toList)else none
 | .makeMap _ none=>some .uY
 | .makeSlice t l c=>match P.underlying t with
   |some (.slice e)=>match mY P e,u7 P e with
    |some s,some z=>some (.zn e s ((P.info? e).map (·.bytes)).get! z l c)
    |_,_=>none
   |_=>none
 | .slice t x lo hi mx=>match P.underlying t with
   |some .string=>some (.O0 t x lo hi mx)
   |some (.array n e)=>(mY P e).map λs=>.J2 n s x lo hi mx
   |some (.slice e)=>(mY P e).map λs=>.O1 s x lo hi mx
   |_=>none
 | .fieldAddr s x f=>match P.underlying s with
   |some (.struct fs)=>match fs[f]? with
    |some f=>(mY P f.type).map λ_=>.fI f.offset x
    |none=>none
   |_=>none
 | .field t x f=>match P.underlying t with
   |some (.struct fs)=>match fs[f]? with
    |some f=>match jm P f.type,P.underlying f.type with
     |some n,some _=>some (.field f.type f.offset n (jL P f.type) x)
     |_,_=>none
    |none=>none
   |_=>none
 | .indexAddr t x i=>match P.underlying t with
   |some (.array n e)=>(mY P e).map λs=>.J3 n s x i
   |some (.slice e)=>(mY P e).map λs=>.nG s x i
   |_=>none
 | .index t x i=>match P.underlying t with
   |some (.array n e)=>match mY P e,P.underlying e with
    |some s,some _=>some (.O4 n s (jL P e) x i)
    |_,_=>none
   |some .string=>some (.O3 x i)
   |_=>none
 | .lookup t m k ok=>match P.underlying t with
   |some (.map kt et)=>(zeroOf P et).map λz=>.lookup kt z m k ok
   |_=>none
 | .mapUpdate t m k v| .insert t m k v=>match P.underlying t with
   |some (.map kt _)=>some (.FQ kt m k v)
   |_=>none
 | .range t x=>match P.underlying t with
   |some .string=>some (.J4 x)
   |some (.map _ _)=>some (.rangeMap x)
   |_=>none
 | .next it false=>some (.wC it)
 | .entry it=>some (.entry it)
 | .typeAssert x _ t ok=>match P.underlying t with
   |some (.interface _)=>none
   |some _=>(zeroOf P t).map λz=>.FT t z ok x
   |none=>none
 | .extract t i=>some (.extract t i)
 | .panic x=>some (.panic x)
 | .defer {callee:=.value f,args,.. }=>some (.dcall f args.toList)
 | .call {callee:=.value f,args,.. }=>some (.call f args.toList)
 | .call {callee:=.invoke x name,args,.. }=>some (.invoke x name args.toList)
 | .call {callee:=.builtin b,args,argTypes}=>match b,args.toList with
   | .recover,_=>some .recover
   | .panic,[x]=>some (.panic x)
   | .append,[s,x]=>match argTypes[0]?,argTypes[1]? with
     |some st,some xt=>match P.underlying st,P.underlying xt with
      |some (.slice e),some xd=>match mY P e,(P.info? e).map (·.bytes),u7 P e with
       |some s',some (b+1),some z=>match xd with
        | .int _=>some (.FU e s' (b+1) z s x)
        |_=>some (.append e s' (b+1) s x)
       |_,_,_=>none
      |_,_=>none
     |_,_=>none
   | .clear,[x]=>match argTypes[0]? with
     |some t=>match P.underlying t with
      |some (.slice e)=>match u7 P e with
       |some (z::zs)=>some (.clear (z::zs) x)
       |_=>none
      |_=>none
     |none=>none
   | .copy,[d,x]=>match argTypes[0]? with
     |some dt=>match P.underlying dt with
      |some (.slice e)=>(mY P e).map λs=>.copy s d x
      |_=>none
     |none=>none
   | .len,[x]=>match argTypes[0]? with
     |some t=>match P.underlying t with
      |some .string=>some (.O8 x)
      |some (.array n _)=>some (.FV n)
      |some (.pointer p)=>match P.underlying p with
       |some (.array n _)=>some (.FV n)
       |_=>none
      |some (.slice _)=>some (.wD x)
      |some (.map _ _)=>some (.FW x)
      |_=>none
     |none=>none
   | .cap,[x]=>match argTypes[0]? with
     |some t=>match P.underlying t with
      |some (.slice _)=>some (.O9 x)
      |_=>none
     |none=>none
   | .min,args=>some (.Bb false args)
   | .max,args=>some (.Bb true args)
   |_,_=>none
 |_=>none
def zw(P:Program):Operand->Bool
 | .const (.tuple ⟨[]⟩)=>true
 | .const v=>bY v
 | .global g=>Nat.blt g P.globals.size
 |_=>true
def C9(P:Program)(ops:Array Oper)(o:Oper):Option ik:=
 if o.op.operands.toList.all (zw P)then match cop P o with
 |none=>none
 |some c=>match o.guard with
  |none=>some ⟨o.dst,none,c⟩
  |some (j,want)=>match (ops[j]?).bind (·.dst)with
   |some t=>some ⟨o.dst,some (t,want),c⟩
   |none=>none
 else none
def heavy:aB->Bool
 | .mW .. | .store .. | .FQ .. | .O5 .. | .O6 .. | .J4 .. | .rangeMap .. | .O7 .. | .wC .. | .append .. | .FU .. | .copy .. | .clear .. | .OZ ..
 | .call .. | .invoke .. | .recover| .panic .. | .dcall .. =>true
 |_=>false
def Bd:aB->Bool
 | .gB .. | .qc .. | .lookup .. | .entry .. | .FP .. | .FW .. =>true
 |_=>false
def zx(ops:Array Oper)(done:List Nat)(i:Nat):Bool:=
 !done.contains i&&match ops[i]? with
  |some o=>o.after.toList.all λe=>!Region.binds .any e||done.contains e.on
  |none=>false
def looks(ops:Array Oper)(o:Oper):List Tmp:=
 (o.op.operands.toList.filterMap λ| .tmp t=>some t|_=>none)++
 (match o.guard with
  |some (g,_)=>((ops[g]?).bind (·.dst)).toList
  |none=>[])
def J7(ops:Array Oper)(hv:Nat->Bool):Nat->List Nat->List Nat
 |0,done=>done.reverse
 |f+1,done=>
  match (List.range ops.size).find? λi=>!hv i&&zx ops done i with
  |some i=>J7 ops hv f (i::done)
  |none=>match (List.range ops.size).find? λi=>zx ops done i with
   |some i=>J7 ops hv f (i::done)
   |none=>done.reverse
def Pe(ops:Array Oper)(bO:Nat->Nat->Bool)(hv:Nat->Bool)(done:List Nat)(i:Nat):Bool:=
 match ops[i]? with
 |none=>false
 |some o=>
  zx ops done i&&
  -- a heavy one: behind every heavy one; nothing that is not heavy could have come ahead of it
  (!hv i||(done.all λj=>!hv j||bO i j)&&(List.range ops.size).all λj=>hv j||!zx ops done j)&&
  -- where it puts what it yields
  (match o.dst with
  |none=>true
  |some d=>(hv i||!(looks ops o).contains d)&&done.all λj=>match ops[j]? with
   |some p=>if(looks ops p).contains d||p.dst==some d then hv i&&bO i j else true
   |none=>false)&&
  -- what it looks at
  done.all λj=>match ops[j]? with
   |some p=>match p.dst with
    |some d=>if(looks ops o).contains d then bO i j else true
    |none=>true
   |none=>false
def Da(ops:Array Oper)(bO:Nat->Nat->Bool)(hv:Nat->Bool):List Nat->List Nat->Bool
 |[],done=>(List.range ops.size).all λi=>done.contains i
 |i::l,done=>Pe ops bO hv done i&&Da ops bO hv l (i::done)
def Db(bO:Nat->Nat->Bool)(cs:Nat->Option ik):List Nat->List Nat->Option (List bT)
 |[],_=>some []
 |i::l,done=>match cs i,Db bO cs l (i::done)with
  |some s,some r=>some (⟨s,if heavy s.op then done.filterMap λj=>match cs j with
    |some t=>if Bd t.op&&!bO i j then some t else none
    |none=>none else[]⟩::r)
  |_,_=>none
def qd(ops:Array Oper):Nat->Nat->Bool:=
 let b:=Region.before ops
 λi j=>(b.getD i 0).testBit j
def jM(P:Program)(ops:Array Oper)(i:Nat):Option ik:=(ops[i]?).bind (C9 P ops)
def xX(P:Program)(ops:Array Oper)(i:Nat):Bool:=
 match jM P ops i with
 |some s=>heavy s.op
 |none=>true
def Pf(P:Program)(ops:Array Oper):Option (List bT):=
 let l:=J7 ops (xX P ops) ops.size []
 if Da ops (qd ops) (xX P ops) l []then Db (qd ops) (jM P ops) l []else none
def dstsOf(ops:Array Oper):List Tmp:=ops.toList.filterMap (·.dst)
def FZ(P:Program)(ops:Array Oper)(draw:Bool):dB:=
 match (if draw then Pf P ops else ops.toList.mapM λo=>(C9 P ops o).map λs=>⟨s,[]⟩)with
 |some l=>.ops (dstsOf ops) l
 |none=>.fail
def compile(P:Program):Code->dB
 | .skip| .label _=>.skip
 | .region _ ops draw=>FZ P ops draw
 | .seq a b=>.seq (compile P a) (compile P b)
 | .cond c a b=>.cond c (compile P a) (compile P b)
 | .block id a=>.block id (compile P a)
 | .loop a=>.loop (compile P a)
 | .rangeFunc f params assign body=>if zw P f then .rangeFunc f params.toList (compile P assign) (compile P body)else .fail
 | .exit id=>.exit id
 | .scope a=>.scope (compile P a)
 | .ret=>.ret
 | .goto _| .refuse _=>.fail
inductive qf where
 |tmp (t:Tmp)
 |cell1 (a:Tmp)
 |qg (n:Nat) (a:Tmp)
def Dc(P:Program):ResultVar->Option qf
 | .tmp t=>some (.tmp t)
 | .cell a t=>if jL P t then(jm P t).map λn=>.qg n a else match P.underlying t with
   |some _=>some (.cell1 a)
   |none=>none
structure gU where
 ntmps:Nat
 results:List qf
 body:dB
def tX(P:Program)(fn:Func):Option gU:=
 match fn.body,fn.results.toList.mapM (Dc P)with
 |some c,some rs=>if fn.name= "runtime.NumGoroutine" then none else some ⟨fn.ntmps,rs,compile P c⟩
 |_,_=>none
inductive iP where
 |ok (v:Value)
 |fJ (chain:List PanicEntry)
structure gD where
 fn:Fn
 args:List Value
 captured:List Value
 pm:Option FrameMode
def wF(l:List Value):Nat->T Value->T Value:=
 List.rec (motive:=λ_=>Nat->T Value->T Value) (λ_ t=>t) (λv _ ih i t=>ih (Nat.succ i) (t.set i (some v))) l
def qR(a b:Nat):Nat:=cond (Nat.ble a b) b a
def zy(n:Nat)(args:List Value)(pm:Option FrameMode):aV:=
 {n:=qR n (iF args),tmps:=wF args 0 .leaf,defers:=[],pm,ro:=none}
def sw(tmps:T Value)(h:IH)(r:qf):Option Value:=
 match r with
 | .tmp t=>some (dF tmps t)
 | .cell1 a=>match dF tmps a with
   | .pointer (some ⟨i,o,none⟩)=>match h.get i with
     |some (.cells cs)=>jD cs o
     |_=>none
   |_=>none
 | .qg n a=>match dF tmps a with
   | .pointer (some ⟨i,o,none⟩)=>match h.nT i o n with
     |some cs=>some (.agg ⟨cs⟩)
     |none=>none
   |_=>none
def wG(tmps:T Value)(h:IH)(l:List qf):Option (List Value):=
 List.rec (motive:=λ_=>Option (List Value)) (some []) (λr _ ih=>match sw tmps h r,ih with
  |some v,some vs=>some (v::vs)
  |_,_=>none) l
def qh(rs:List qf)(tmps:T Value)(h:IH):Option Value:=
 match wG tmps h rs with
 |some [v]=>some v
 |some vs=>some (.tuple ⟨vs⟩)
 |none=>none
def xY:FrameMode->FrameMode
 | .panicking (e::older)=>cond e.recovered (match older.dropWhile (!·.goexit)with
    |[]=>.returning
    |rest=>.panicking rest) (.panicking (e::older))
 |m=>m
def Be(u:FrameMode)(chain:List PanicEntry):FrameMode:=
 match u with
 | .panicking old=>.panicking (chain++old)
 |_=>.panicking chain
def jy(pm:FrameMode):Value×FrameMode:=
 match pm with
 | .panicking (e::older)=>cond (e.recovered||e.goexit) (.nilIface,pm) (e.v,.panicking ({e with recovered:=true}::older))
 |_=>(.nilIface,pm)
def Bf(P:Program)(t:TypeId)(v:Value)(name:String):Option (FuncId×Value):=
 match P.info? t with
 |none=>none
 |some info=>match info.methods.find? (·.name==name)with
  |none=>none
  |some m=>if m.path.size≠0 then none else match m.func with
   |some (f,ptr)=>match P.underlying t,ptr with
    |some (.pointer _),true=>some (f,v)
    |some (.pointer _),false=>none
    |some _,false=>some (f,v)
    |_,_=>none
   |none=>none
def target(P:Program)(q:gD):Option (FuncId×List Value):=
 match q.fn with
 | .func f=>some (f,jY q.args q.captured)
 | .method name=>match q.args with
   | .iface t v::args=>match Bf P t v name with
     |some (f,r)=>some (f,r::args)
     |none=>none
   |_=>none
 | .methodOf t name=>match q.args with
   |x::args=>match P.underlying t with
    |some (.interface _)=>match x with
     | .iface t v=>match Bf P t v name with
       |some (f,r)=>some (f,r::args)
       |none=>none
     |_=>none
    |some _=>match Bf P t x name with
     |some (f,r)=>some (f,r::args)
     |none=>none
    |none=>none
   |[]=>none
 |_=>none
def wH(c:aB)(ρ:Operand->Value):Option gD:=
 match c with
 | .call f args=>match ρ f with
   | .func fn ⟨first⟩ ⟨captured⟩=>some ⟨fn,jY first (lT ρ args),captured,none⟩
   |_=>none
 | .invoke x name args=>some ⟨.method name,ρ x::lT ρ args,[],none⟩
 |_=>none
def forget(ds:List Tmp)(a:aV):aV:=
 List.rec (motive:=λ_=>aV->aV) (λa=>a) (λd _ ih a=>ih (a.set d dO)) ds a
def zz(it:Value)(h:IH):Option (List (Value×IH)):=
 match it with
 | .pointer (some ⟨r,0,none⟩)=>match h.get r with
   |some (.mapIter none _ _ _)=>some [(.tuple #[.bool false],h)]
   |some (.mapIter (some m) since seen last)=>match h.get m with
    |some (.map es clock)=>
     cond (!seen.isEmpty&&!es.isEmpty&&es.all (λe=>Nat.ble last e.born)) none
      (let left:=es.filter λe=>!seen.contains e.born
      let old:=left.filter λe=>Nat.blt e.born since
      let new:=left.filter λe=>Nat.ble since e.born
      some ((if old.isEmpty then[(.tuple #[.bool false],h)]else[])++
       (old++new).map λe=>(.tuple #[.bool true,e.key,e.val],h.set r (.mapIter (some m) since (seen++[e.born]) clock))))
    |_=>none
   |_=>none
 |_=>none
def inBlock(id:Nat)(o:Out):Out:=
 match o with
 | .exit j=>cond (Nat.beq j id) .normal (.exit j)
 |o=>o
def tY(o:Out):Option FrameMode:=
 match o with
 | .normal| .ret=>some .returning
 | .panic ch=>some (.panicking ch)
 | .exit _=>none
def tZ(n:Nat)(ps:List Tmp)(args:List Value)(t:T Value):T Value:=
 List.rec (motive:=λ_=>List Value->T Value->T Value) (λ_ t=>t)
  (λp _ ih args t=>match args with
    |v::args=>ih args (cond (Nat.blt p n) (t.set p (some v)) t)
    |[]=>t) ps args t
mutual
def nH(m:Nat):Value->Bool
 | .pointer (some a)=>Nat.blt a.block m
 | .slice (some a) _ _=>Nat.blt a.block m
 | .map (some i)=>Nat.blt i m
 | .func fn ⟨f⟩ ⟨c⟩=>(match fn with
   | .yield _=>false
   |_=>true)&&qU m f&&qU m c
 | .iface _ v=>nH m v
 | .agg ⟨l⟩=>qU m l
 | .tuple ⟨l⟩=>qU m l
 |_=>true
def qU(m:Nat):List Value->Bool
 |[]=>true
 |v::l=>nH m v&&qU m l
end
def De(m:Nat):dQ->Bool
 | .cells cs=>qU m cs
 | .map es _=>es.all λe=>nH m e.val
 |_=>false
abbrev KO:=Out->aV->IH->Prop
abbrev KR:=iP->Option FrameMode->IH->Prop
end
end Go.Ideal
namespace Go.Ideal
noncomputable section
def Bg{α:Type}(f:Nat):List α->T α:=
 Nat.rec (motive:=λ_=>List α->T α) (λ_=>.leaf)
  (λ_ ih l=>List.rec (motive:=λ_=>T α) .leaf (λx l _=>.node (some x)
    (ih (List.rec (motive:=λ_=>Bool->List α) (λ_=>[]) (λy _ r b=>Bool.rec (motive:=λ_=>List α) (r true) (y::r false) b) l true))
    (ih (List.rec (motive:=λ_=>Bool->List α) (λ_=>[]) (λy _ r b=>Bool.rec (motive:=λ_=>List α) (r true) (y::r false) b) l false))) l) f
def pq(f:Nat):Value->Value->Bool:=
 Nat.rec (motive:=λ_=>Value->Value->Bool) (λ_ _=>false)
  (λ_ ih v u=>match v,u with
    | .bool a,.bool b=>a==b
    | .int .i64 a,.int .i64 b=>Bc a b
    | .int j a,.int k b=>j==k&&a==b
    | .string a,.string b=>a.data.toList==b.data.toList
    | .pointer none,.pointer none=>true
    | .pointer (some ⟨i,o,none⟩),.pointer (some ⟨j,p,none⟩)=>Nat.beq i j&&Nat.beq o p
    | .slice none n c,.slice none m d=>Nat.beq n m&&Nat.beq c d
    | .slice (some ⟨i,o,some f⟩) n c,.slice (some ⟨j,p,some g⟩) m d=>Nat.beq i j&&Nat.beq o p&&Nat.beq f g&&Nat.beq n m&&Nat.beq c d
    | .map none,.map none=>true
    | .map (some i),.map (some j)=>Nat.beq i j
    | .nilIface,.nilIface=>true
    | .nilFunc,.nilFunc=>true
    | .iface t v,.iface s u=>Nat.beq t s&&ih v u
    | .agg ⟨a⟩,.agg ⟨b⟩=>List.rec (motive:=λ_=>List Value->Bool) (λb=>match b with|[]=>true|_=>false) (λx _ r b=>match b with|y::b=>cond (ih x y) (r b) false|[]=>false) a b
    | .tuple ⟨a⟩,.tuple ⟨b⟩=>List.rec (motive:=λ_=>List Value->Bool) (λb=>match b with|[]=>true|_=>false) (λx _ r b=>match b with|y::b=>cond (ih x y) (r b) false|[]=>false) a b
    | .func f ⟨a⟩ ⟨c⟩,.func g ⟨b⟩ ⟨d⟩=>f==g&&
       List.rec (motive:=λ_=>List Value->Bool) (λb=>match b with|[]=>true|_=>false) (λx _ r b=>match b with|y::b=>cond (ih x y) (r b) false|[]=>false) a b&&
       List.rec (motive:=λ_=>List Value->Bool) (λb=>match b with|[]=>true|_=>false) (λx _ r b=>match b with|y::b=>cond (ih x y) (r b) false|[]=>false) c d
    |_,_=>false) f
abbrev BO:=Out->aV->IH->Bool
abbrev BR:=iP->Option FrameMode->IH->Bool
structure Ev where
 code:dB->aV->IH->BO->Bool
 call:gD->IH->BR->Bool
structure Env where
 P:Program
 F:Nat->Option gU
 cut:Nat->Option (gD->IH->Option (List Value×Nat×Nat))
 /-- calls that are known: what they return, and the heap behind them -/
 memo:Nat->Option (gD->IH->Option (Value×IH))
def Df(P:Program)(re:List ik)(a:aV)(h:IH):Bool:=
 List.rec (motive:=λ_=>Bool) true (λr _ ih=>cond (match a.wants r.guard with
  |some false=>true
  |_=>match r.op.run P a.eval h with
   |some (u,_)=>match r.dst with
    |some d=>pq 50 (dF a.tmps d) u
    |none=>true
   |none=>false) ih false) re
def J8(P:Program)(s:bT)(a:aV)(h:IH)(next:aV->IH->Bool):Bool:=
 match s.s.op.run P a.eval h with
 |some (v,h)=>match s.re with
  |[]=>next (a.put s.s.dst v) h
  |re=>cond (Df P re (a.put s.s.dst v) h) (next (a.put s.s.dst v) h) false
 |none=>false
def F3(P:Program)(E:Ev)(ds:List Tmp)(s:bT)(a:aV)(h:IH)(next:aV->IH->Bool)(k:BO):Bool:=
 match wH s.s.op a.eval with
 |some q=>E.call q h λr _ h=>match r with
  | .ok v=>cond (Df P s.re (a.put s.s.dst v) h) (next (a.put s.s.dst v) h) false
  | .fJ ch=>k (.panic ch) (forget ds a) h
 |none=>false
def Dg(s:bT)(b:Bool):Bool:=match s.re with
 |[]=>b
 |_=>false
def F4(P:Program)(E:Ev)(ds:List Tmp)(s:bT)(a:aV)(h:IH)(next:aV->IH->Bool)(k:BO):Bool:=
 match s.s.op with
 | .call _ _=>F3 P E ds s a h next k
 | .invoke _ _ _=>F3 P E ds s a h next k
 | .recover=>Dg s (match a.ro with
   |some _=>false
   |none=>match a.pm with
    |none=>next (a.put s.s.dst .nilIface) h
    |some m=>next ({a with pm:=some (jy m).2}.put s.s.dst (jy m).1) h)
 | .panic x=>match a.eval x with
   | .iface t v=>k (.panic [{v:=.iface t v,recovered:=false}]) (forget ds a) h
   |_=>false
 | .dcall f args=>Dg s (match a.ro with
   |some _=>false
   |none=>match a.eval f with
    | .func fn ⟨first⟩ ⟨captured⟩=>next ({a with defers:={target:=.fn fn ⟨captured⟩,args:=⟨jY first (lT a.eval args)⟩}::a.defers}.put s.s.dst dO) h
    |_=>false)
 | .wC x=>Dg s (match zz (a.eval x) h with
   |some alts=>FO (λvh=>next (a.put s.s.dst vh.1) vh.2) alts
   |none=>false)
 |_=>J8 P s a h next
def Dh(P:Program)(E:Ev)(ds:List Tmp)(l:List bT):aV->IH->BO->Bool:=
 List.rec (motive:=λ_=>aV->IH->BO->Bool) (λa h k=>k .normal a h)
  (λs _ ih a h k=>match a.wants s.s.guard with
    |some true=>F4 P E ds s a h (λa h=>ih a h k) k
    |some false=>ih (a.put s.s.dst si) h k
    |none=>false) l
def zA(E:Ev)(cf:gU)(ts:T Value)(ds:List Deferred):FrameMode->IH->(iP->IH->Bool)->Bool:=
 List.rec (motive:=λ_=>FrameMode->IH->(iP->IH->Bool)->Bool)
  (λm h k=>match m with
    | .returning=>match qh cf.results ts h with
      |some v=>k (.ok v) h
      |none=>false
    | .panicking ch=>k (.fJ ch) h
    | .run=>false)
  (λd _ ih m h k=>match m with
    | .run=>false
    |m=>match d with
     |{target:=.collected r,.. }=>match h.get r with
      |some (.iY true)=>ih m (h.set r (.iY false)) k
      |_=>false
     |{target:=.fn fn ⟨captured⟩,args:=⟨args⟩}=>E.call ⟨fn,args,captured,some m⟩ h λr pm h=>match pm with
      |none=>false
      |some m'=>match r with
       | .ok _=>ih (xY m') h k
       | .fJ ch=>ih (Be m' ch) h k
     |_=>false) ds
def zB(V:Env)(E:Ev)(f:FuncId)(args:List Value)(pm:Option FrameMode)(h:IH)(k:BR):Bool:=
 match V.F f with
 |none=>false
 |some cf=>E.code cf.body (zy cf.ntmps args pm) h λo a h=>match tY o with
  |none=>false
  |some m=>zA E cf a.tmps a.defers m h λr h=>k r a.pm h
def Pg(l:Nat)(o:Out)(a:aV)(h:IH)(k:BR):Bool:=
 match a.defers with
 |[]=>match h.get l with
  |some (.loop r)=>match o with
   | .normal=>k (.ok (.bool true)) none (h.set l (.loop {r with state:=.ready,pending:=none}))
   | .panic ch=>k (.fJ ch) none h
   | .exit id=>k (.ok (.bool false)) none (h.set l (.loop {r with state:=.done,pending:=some (.exit id)}))
   | .ret=>k (.ok (.bool false)) none (h.set l (.loop {r with state:=.done,pending:=some .ret}))
  |_=>false
 |_=>false
def J9(E:Ev)(l:Nat)(args:List Value)(h:IH)(k:BR):Bool:=
 match h.get l with
 |some (.loop r)=>cond (Nat.beq (iF args) (iF r.params))
  (E.code r.assign {n:=r.n,tmps:=tZ r.n r.params args r.tmps,defers:=[],pm:=none,ro:=some l} h λo a h=>match o with
    | .normal=>match h.get l with
      |some (.loop r1)=>match r1.state with
       | .ready=>E.code r.body a (h.set l (.loop {r1 with state:=.busy})) λo a h=>Pg l o a h k
       |_=>false
      |_=>false
    |_=>false) false
 |_=>false
def Ph(cs:List Value)(n f:Nat)(h0:IH)(r:iP)(pm:Option FrameMode)(h:IH):Bool:=
 match pm with
 |some _=>false
 |none=>match r with
  | .ok (.slice (some ⟨i,o,some f'⟩) n' c)=>cond (Nat.beq n n'&&Nat.beq f f'&&(!Nat.beq f 0||Nat.beq c n)&&Nat.ble h0.next i&&Nat.beq h.low h0.next) (match h.nT i o (iF cs)with
    |some l=>List.rec (motive:=λ_=>List Value->Bool) (λb=>match b with|[]=>true|_=>false) (λx _ r b=>match b with|y::b=>cond (pq 5 x y) (r b) false|[]=>false) l cs
    |none=>false) false
  |_=>false
def Ka(V:Env)(f:Nat)(q:gD)(h:IH)(k:BR)(other:Bool):Bool:=
 match V.memo f with
 |none=>other
 |some g=>match q.pm with
  |some _=>other
  |none=>match g q h with
   |some (v,h')=>k (.ok v) none h'
   |none=>other
def Kb(V:Env)(E:Ev)(q:gD)(h:IH)(k:BR):Bool:=
 match q.fn with
 | .yield l=>match q.pm with
   |none=>J9 E l q.args h k
   |some _=>false
 |_=>match target V.P q with
  |none=>false
  |some (f',args)=>Ka V f' q h k (match V.cut f' with
   |none=>zB V E f' args q.pm h k
   |some g=>match q.pm with
    |some _=>false
    |none=>match g q h with
     |none=>zB V E f' args q.pm h k
     |some ([],_,_)=>zB V E f' args q.pm h k
     |some (cs,n,f)=>cond (fO cs&&(Nat.beq f 0||Nat.beq (iF cs) (Nat.mul n f)))
       (cond (zB V E f' args none {h with low:=h.next} (Ph cs n f h))
         (k (.ok (.slice (some ⟨h.next,0,some f⟩) n n)) none (h.new (.cells cs))) false) false)
def F5(V:Env)(E:Ev)(c:dB)(a:aV)(h:IH)(k:BO):Bool:=
 match c with
 | .skip=>k .normal a h
 | .ops ds l=>Dh V.P E ds l a h k
 | .seq x y=>E.code x a h λo a h=>match o with
   | .normal=>E.code y a h k
   |o=>k o a h
 | .cond c x y=>match a.eval c with
   | .bool true=>E.code x a h k
   | .bool false=>E.code y a h k
   |_=>false
 | .block id c=>E.code c a h λo a h=>k (inBlock id o) a h
 | .loop c=>E.code c a h λo a h=>match o with
   | .normal=>E.code (.loop c) a h k
   |o=>k o a h
 | .scope c=>E.code c a h k
 | .exit id=>k (.exit id) a h
 | .ret=>k .ret a h
 | .rangeFunc f ps assign body=>match a.eval f with
   | .func fn ⟨first⟩ ⟨captured⟩=>
     let go (a1:aV) (r:Nat) (h1:IH):Bool:=
      E.call ⟨fn,jY first [.func (.yield h1.next) #[] #[]],captured,none⟩
       (h1.new (.loop {state:=.ready,pending:=none,tmps:=a.tmps,n:=a.n,params:=ps,assign,body,defers:=r})) λres _ h2=>match res with
       | .ok _=>match h2.get h1.next with
         |some (.loop lp)=>match lp.state with
          | .busy=>false
          |_=>k (lp.pending.getD .normal) a1 (h2.set h1.next (.loop {lp with state:=.exhausted}))
         |_=>false
       | .fJ ch=>k (.panic ch) a1 h2
     match a.ro with
     |none=>go {a with defers:={target:=.collected h.next,args:= #[]}::a.defers} h.next (h.new (.iY true))
     |some l0=>match h.get l0 with
      |some (.loop r0)=>go a r0.defers h
      |_=>false
   |_=>false
 | .fail=>false
def Bh(V:Env)(n:Nat):Ev:=
 Nat.rec (motive:=λ_=>Ev) ⟨λ_ _ _ _=>false,λ_ _ _=>false⟩ (λ_ E=>⟨F5 V E,Kb V E⟩) n
def pu(P:Program)(cut:Nat->Option (gD->IH->Option (List Value×Nat×Nat)))(memo:Nat->Option (gD->IH->Option (Value×IH))):Env:=
 {P,F:=λf=>match (Bg 100000 P.funcs.toList).get f with
   |some fn=>tX P fn
   |none=>none,cut,memo}
def qi:Nat->Option (gD->IH->Option (List Value×Nat×Nat)):=λ_=>none
def pz:Nat->Option (gD->IH->Option (Value×IH)):=λ_=>none
noncomputable abbrev kU(P:Program)(n:FuncId):Option gU:=(pu P qi pz).F n
noncomputable def qj(P:Program)(n:FuncId):gU:=(kU P n).getD ⟨0,[],.skip⟩
theorem aN{P:Program}(n:FuncId)(h:(kU P n).isSome=true:=by kernel_rfl):(pu P qi pz).F n=some (qj P n):=by
 unfold qj;revert h;show(kU P n).isSome=true->kU P n=some ((kU P n).getD ⟨0,[],.skip⟩);cases kU P n with
 |none=>intro h;cases h
 |some c=>intro _;rfl
end
end Go.Ideal
namespace Go.Ideal
section
variable {α:Type}
theorem T.Di(n:Nat):(T.leaf:T α).get n=none:=rfl
theorem T.Bi(v:Option α)(l r:T α):(T.node v l r).get 0=v:=rfl
theorem T.vo(v:Option α)(l r:T α)(m:Nat):(T.node v l r).get (m+1)=if m%2=0 then l.get (m/2)else r.get (m/2):=by
 show Bool.rec (motive:=λ_=>Option α) (r.get (m/2)) (l.get (m/2)) (Nat.beq (m%2) 0)=_;exact oc
theorem T.WQ(f:Nat)(x:Option α):T.one (f+1) 0 x=.node x .leaf .leaf:=rfl
theorem T.WS(f m:Nat)(x:Option α):T.one (f+1) (m+1) x=if m%2=0 then .node none (T.one f (m/2) x) .leaf else .node none .leaf (T.one f (m/2) x):=by
 show Bool.rec (motive:=λ_=>T α) (.node none .leaf (T.one f (m/2) x)) (.node none (T.one f (m/2) x) .leaf) (Nat.beq (m%2) 0)=_;exact oc
theorem T.WT(n:Nat)(x:Option α):(T.leaf:T α).set n x=T.one (n+1) n x:=rfl
theorem T.WU(v:Option α)(l r:T α)(x:Option α):(T.node v l r).set 0 x=.node x l r:=rfl
theorem T.WV(v:Option α)(l r:T α)(m:Nat)(x:Option α):(T.node v l r).set (m+1) x=if m%2=0 then .node v (l.set (m/2) x) r else .node v l (r.set (m/2) x):=by
 show Bool.rec (motive:=λ_=>T α) (.node v l (r.set (m/2) x)) (.node v (l.set (m/2) x) r) (Nat.beq (m%2) 0)=_;exact oc
theorem T.WW(x:Option α):∀(f n m:Nat),n<f->(T.one f n x).get m=if m=n then x else none:=by
 intro f;induction f with
 |zero=>intro n m h;omega
 |succ f ih=>
  intro n m h;cases n with
  |zero=>
   rw[T.WQ];cases m with
   |zero=>simp[T.Bi]
   |succ m=>rw[T.vo];simp[T.Di]
  |succ n=>
   rw[T.WS];by_cases hp:n%2=0
   ·rw[if_pos hp];cases m with
    |zero=>simp[T.Bi]
    |succ m=>
     rw[T.vo];by_cases hq:m%2=0
     ·rw[if_pos hq,ih _ _ vj];exact iS
     ·rw[if_neg hq,T.Di,if_neg vj]
   ·rw[if_neg hp];cases m with
    |zero=>simp[T.Bi]
    |succ m=>
     rw[T.vo];by_cases hq:m%2=0
     ·rw[if_pos hq,T.Di,if_neg vj]
     ·rw[if_neg hq,ih _ _ vj];exact iS
theorem T.mZ(x:Option α):∀(t:T α) (n m:Nat),(t.set n x).get m=if m=n then x else t.get m:=by
 intro t;induction t with
 |leaf=>intro n m;rw[T.WT,T.WW _ _ _ _ (wh n),T.Di]
 |node v l r hl hr=>
  intro n m;cases n with
  |zero=>
   rw[T.WU];cases m with
   |zero=>simp[T.Bi]
   |succ m=>rw[T.vo,T.vo];simp
  |succ n=>
   rw[T.WV];by_cases hp:n%2=0
   ·rw[if_pos hp];cases m with
    |zero=>simp[T.Bi]
    |succ m=>
     rw[T.vo,T.vo];by_cases hq:m%2=0
     ·rw[if_pos hq,if_pos hq,hl];exact iS
     ·rw[if_neg hq,if_neg hq,if_neg vj]
   ·rw[if_neg hp];cases m with
    |zero=>simp[T.Bi]
    |succ m=>
     rw[T.vo,T.vo];by_cases hq:m%2=0
     ·rw[if_pos hq,if_pos hq,if_neg vj]
     ·rw[if_neg hq,if_neg hq,hr];exact iS
end
theorem IH.mZ(h:IH)(i j:Nat)(o:dQ):(h.set i o).get j=if j=i then some o else h.get j:=T.mZ _ _ _ _
theorem IH.uf(h:IH)(i j:Nat):(h.kill i).get j=if j=i then none else h.get j:=T.mZ _ _ _ _
theorem IH.iZ(h:IH)(j:Nat)(o:dQ):(h.new o).get j=if j=h.next then some o else h.get j:=T.mZ _ _ _ _
theorem IH.Kc(h:IH)(o:dQ):(h.new o).next=h.next+1:=rfl
theorem IH.Ke(h:IH)(o:dQ):(h.new o).low=h.low:=rfl
theorem IH.F6(h:IH)(i:Nat)(o:dQ):(h.set i o).low=min h.low i:=by
 exact kq
theorem IH.zC(h:IH)(i:Nat):(h.kill i).low=min h.low i:=by
 exact kq
theorem Bj(t:T Value)(i j:Nat)(v:Value):dF (t.set i (some v)) j=if j=i then v else dF t j:=by
 unfold dF;rw[T.mZ];split<;>rfl
section
variable {α β:Type}
theorem wI(f:α->β)(l:List α):lT f l=l.map f:=by
 induction l with
 |nil=>rfl
 |cons x l ih=>show f x::lT f l=_;rw[ih];rfl
theorem ql(l:List α)(n:Nat):jD l n=l[n]?:=by
 induction l generalizing n with
 |nil=>rfl
 |cons x l ih=>cases n with
  |zero=>rfl
  |succ n=>show jD l n=_;rw[ih];simp
theorem qV(l:List α)(n:Nat):jE l n=l.drop n:=by
 induction l generalizing n with
 |nil=>cases n<;>rfl
 |cons x l ih=>cases n with
  |zero=>rfl
  |succ n=>show jE l n=_;rw[ih];simp
theorem wJ(l:List α):iF l=l.length:=by
 induction l with
 |nil=>rfl
 |cons x l ih=>show iF l+1=_;rw[ih];rfl
theorem jF(l r:List α):jY l r=l++r:=by
 induction l with
 |nil=>rfl
 |cons x l ih=>show x::jY l r=_;rw[ih];rfl
theorem sD(l:List α)(n:Nat):jd l n=if n<=l.length then some (l.take n)else none:=by
 induction l generalizing n with
 |nil=>cases n<;>rfl
 |cons x l ih=>cases n with
  |zero=>rfl
  |succ n=>
   show Option.rec (motive:=λ_=>Option (List α)) none (λr=>some (x::r)) (jd l n)=_;rw[ih];by_cases h:n<=l.length
   ·rw[if_pos h,if_pos wq];rfl
   ·rw[if_neg h,if_neg wq]
theorem Pj(p:α->Bool)(l:List α):FO p l=l.all p:=by
 induction l with
 |nil=>rfl
 |cons x l ih=>
  show Bool.rec (motive:=λ_=>Bool) false (FO p l) (p x)=_;rw[ih];cases h:p x<;>simp[h]
theorem Pk(o:Nat)(xs:List α):jK [] o xs=if xs=[]/\o=0 then some []else none:=by cases xs<;>cases o<;>rfl
theorem Pm(c:α)(l:List α):jK (c::l) 0 []=some (c::l):=rfl
theorem Kg(c:α)(l:List α)(x:α)(xs:List α):jK (c::l) 0 (x::xs)=(jK l 0 xs).map (x::·):=by
 show Option.rec (motive:=λ_=>Option (List α)) none (λr=>some (x::r)) (jK l 0 xs)=_;cases jK l 0 xs<;>rfl
theorem Kh(c:α)(l:List α)(o:Nat)(xs:List α):jK (c::l) (o+1) xs=(jK l o xs).map (c::·):=by
 show Option.rec (motive:=λ_=>Option (List α)) none (λr=>some (c::r)) (jK l o xs)=_;cases jK l o xs<;>rfl
theorem Ki{l:List α}:∀{o:Nat} {xs r:List α},jK l o xs=some r->
 o+xs.length<=l.length/\r.length=l.length/\∀j:Nat,r[j]? =if o<=j/\j<o+xs.length then xs[j - o]? else l[j]?:=by
 induction l with
 |nil=>
  intro o xs r h;rw[Pk]at h;split at h
  ·rename_i he;obtain⟨rfl,rfl⟩:=he;cases h;refine⟨vm,rfl,λj=>?_⟩;rw[if_neg vm]
  ·cases h
 |cons c l ih=>
  intro o xs r h;cases o with
  |zero=>
   cases xs with
   |nil=>rw[Pm]at h;cases h;refine⟨vm,rfl,λj=>?_⟩;rw[if_neg vm]
   |cons x xs=>
    rw[Kg]at h;cases hr:jK l 0 xs with
    |none=>rw[hr]at h;cases h
    |some r'=>
     rw[hr]at h;cases h;obtain⟨h1,h2,h3⟩:=ih hr;refine⟨by simp at h1⊢;omega,by simp[h2],λj=>?_⟩
     ·cases j with
      |zero=>simp
      |succ j=>have:=h3 j;simp at this⊢;rw[this]
  |succ o=>
   rw[Kh]at h;cases hr:jK l o xs with
   |none=>rw[hr]at h;cases h
   |some r'=>
    rw[hr]at h;cases h;obtain⟨h1,h2,h3⟩:=ih hr;refine⟨by simp;omega,by simp[h2],λj=>?_⟩
    ·cases j with
     |zero=>simp
     |succ j=>
      have:=h3 j;simp only[qI];rw[this];by_cases hc:o<=j/\j<o+xs.length
      ·rw[if_pos hc,if_pos vj];congr 1;omega
      ·rw[if_neg hc,if_neg vj]
theorem Pn(f:α->α)(l:List α)(n:Nat):setAt f l n=l.modify n f:=by
 induction l generalizing n with
 |nil=>cases n<;>rfl
 |cons x l ih=>cases n with
  |zero=>rfl
  |succ n=>show x::setAt f l n=_;rw[ih];simp
end
theorem zeros_length(z:List Value)(n:Nat):(zeros z n).length=n*z.length:=by
 induction n with
 |zero=>simp;rfl
 |succ n ih=>show(jY z (zeros z n)).length=_;rw[jF,iE,ih,Nat.succ_mul,Nat.add_comm]
structure iD where
 b:Nat
 off:Nat
 len:Nat
 top:Nat
 sz:Nat
abbrev aC:=Nat->Option iD
inductive FR(β:aC):Fn->Fn->Prop
 |func (f:FuncId):FR β (.func f) (.func f)
 |method (n:String):FR β (.method n) (.method n)
 |methodOf (t:TypeId) (n:String):FR β (.methodOf t n) (.methodOf t n)
 |yield {l:Nat} {g:iD} (h:β l=some g):FR β (.yield l) (.yield g.b)
mutual
inductive VR(β:aC):Value->Value->Prop
 |dO (v:Value):VR β (.tuple #[]) v
 |skip:VR β (.chan (some 0)) (.tuple #[])
 |bool (b:Bool):VR β (.bool b) (.bool b)
 |int (k:IntKind) (n:Int):VR β (.int k n) (.int k n)
 |float (k:FloatKind) (n:Nat):VR β (.float k n) (.float k n)
 |complex (k:FloatKind) (n m:Nat):VR β (.complex k n m) (.complex k n m)
 |string (s:ByteArray):VR β (.string s) (.string s)
 |nilFunc:VR β .nilFunc .nilFunc
 |nilIface:VR β .nilIface .nilIface
 |xZ:VR β (.pointer none) (.pointer none)
 |ptr {i o:Nat} {g:iD} (h:β i=some g):VR β (.pointer (some ⟨i,o,none⟩)) (.pointer (some ⟨g.b,g.off+o,none⟩))
 |sl0 (n c:Nat):VR β (.slice none n c) (.slice none n c)
 |ak {i o n c:Nat} {g:iD} {a:Addr} (h:β i=some g) (hb:a.block=g.b) (hn:n<=c) (ha:c=0\/(a.off=g.off+o/\a.spot=none)):
   VR β (.slice (some ⟨i,o,some 0⟩) n c) (.slice (some a) n c)
 |pE {i o n c c':Nat} {g:iD} {a:Addr} (h:β i=some g) (hb:a.block=g.b) (hs:a.spot=none) (hn:n<=c) (hz:0<g.sz)
   (hl:o+c*g.sz=g.len) (ht:g.off+o+c'*g.sz=g.top) (hc:c<=c') (ha:c'=0\/a.off=g.off+o):
   VR β (.slice (some ⟨i,o,some g.sz⟩) n c) (.slice (some a) n c')
 |wK:VR β (.map none) (.map none)
 |map {i:Nat} {g:iD} (h:β i=some g):VR β (.map (some i)) (.map (some g.b))
 |func {fn fn':Fn} {f f' c c':List Value} (h:FR β fn fn') (hf:aZ β f f') (hc:aZ β c c'):VR β (.func fn ⟨f⟩ ⟨c⟩) (.func fn' ⟨f'⟩ ⟨c'⟩)
 |iface (t:TypeId) {v v':Value} (h:VR β v v'):VR β (.iface t v) (.iface t v')
 |agg {l l':List Value} (hc:l.all cellV=true) (h:aZ β l l'):VR β (.agg ⟨l⟩) (.agg ⟨l'⟩)
 |tuple {l l':List Value} (h:aZ β l l'):VR β (.tuple ⟨l⟩) (.tuple ⟨l'⟩)
inductive aZ(β:aC):List Value->List Value->Prop
 |nil:aZ β [] []
 |cons {v v':Value} {l l':List Value} (h:VR β v v') (hl:aZ β l l'):aZ β (v::l) (v'::l')
end
def aC.le(β β':aC):Prop:=∀i g,β i=some g->β' i=some g
theorem FR.mono{β β':aC}(h:β.le β'){f f':Fn}(hf:FR β f f'):FR β' f f':=by
 cases hf with
 |func f=>exact .func f
 |method n=>exact .method n
 |methodOf t n=>exact .methodOf t n
 |yield hl=>exact .yield (h _ _ hl)
mutual
theorem VR.mono{β β':aC}(h:β.le β'):∀{v v':Value},VR β v v'->VR β' v v'
 |_,_,.dO v=>.dO v
 |_,_,.skip=>.skip
 |_,_,.bool b=>.bool b
 |_,_,.int k n=>.int k n
 |_,_,.float k n=>.float k n
 |_,_,.complex k n m=>.complex k n m
 |_,_,.string s=>.string s
 |_,_,.nilFunc=>.nilFunc
 |_,_,.nilIface=>.nilIface
 |_,_,.xZ=>.xZ
 |_,_,.ptr hi=>.ptr (h _ _ hi)
 |_,_,.sl0 n c=>.sl0 n c
 |_,_,.ak hi hb hn ha=>.ak (h _ _ hi) hb hn ha
 |_,_,.pE hi hb hs hn hz hl ht hc ha=>.pE (h _ _ hi) hb hs hn hz hl ht hc ha
 |_,_,.wK=>.wK
 |_,_,.map hi=>.map (h _ _ hi)
 |_,_,.func hf h1 h2=>.func (hf.mono h) (aZ.mono h h1) (aZ.mono h h2)
 |_,_,.iface t hv=>.iface t (VR.mono h hv)
 |_,_,.agg hc hl=>.agg hc (aZ.mono h hl)
 |_,_,.tuple hl=>.tuple (aZ.mono h hl)
theorem aZ.mono{β β':aC}(h:β.le β'):∀{v v':List Value},aZ β v v'->aZ β' v v'
 |_,_,.nil=>.nil
 |_,_,.cons hv hl=>.cons (VR.mono h hv) (aZ.mono h hl)
end
theorem aZ.length{β:aC}{l l':List Value}(h:aZ β l l'):l'.length=l.length:=by
 induction l generalizing l' with
 |nil=>cases h;rfl
 |cons v l ih=>cases h with|cons hv hl=>simp[ih hl]
theorem aZ.get{β:aC}{l l':List Value}(h:aZ β l l'){i:Nat}{v:Value}(hi:l[i]? =some v):∃v',l'[i]? =some v'/\VR β v v':=by
 induction l generalizing l' i with
 |nil=>simp at hi
 |cons x l ih=>
  cases h with
  |cons hv hl=>
   cases i with
   |zero=>simp at hi;subst hi;exact⟨_,vm,hv⟩
   |succ i=>simp at hi;obtain⟨v',h1,h2⟩:=ih hl hi;exact⟨v',by simpa using h1,h2⟩
theorem aZ.WX{β:aC}{l l':List Value}(hlen:l'.length=l.length)(h:∀(i:Nat) (v:Value),l[i]? =some v->∃v',l'[i]? =some v'/\VR β v v'):aZ β l l':=by
 induction l generalizing l' with
 |nil=>cases l' with|nil=>exact .nil|cons x l'=>simp at hlen
 |cons x l ih=>
  cases l' with
  |nil=>simp at hlen
  |cons y l'=>
   refine .cons ?_ (ih (by simpa using hlen) λi v hi=>?_)
   ·obtain⟨v',h1,h2⟩:=h 0 x vm;simp at h1;subst h1;exact h2
   ·obtain⟨v',h1,h2⟩:=h (i+1) v (by simpa using hi);exact⟨v',by simpa using h1,h2⟩
theorem aZ.append{β:aC}{l l' r r':List Value}(h:aZ β l l')(k:aZ β r r'):aZ β (l++r) (l'++r'):=by
 induction l generalizing l' with
 |nil=>cases h;exact k
 |cons x l ih=>cases h with|cons hv hl=>exact .cons hv (ih hl)
theorem aZ.take{β:aC}{l l':List Value}(h:aZ β l l')(n:Nat):aZ β (l.take n) (l'.take n):=by
 induction l generalizing l' n with
 |nil=>cases h;simp;exact .nil
 |cons x l ih=>cases h with|cons hv hl=>cases n with
  |zero=>exact .nil
  |succ n=>exact .cons hv (ih hl n)
theorem aZ.drop{β:aC}{l l':List Value}(h:aZ β l l')(n:Nat):aZ β (l.drop n) (l'.drop n):=by
 induction l generalizing l' n with
 |nil=>cases h;simp;exact .nil
 |cons x l ih=>cases h with|cons hv hl=>cases n with
  |zero=>exact .cons hv hl
  |succ n=>exact ih hl n
theorem aZ.map{β:aC}{γ:Type}{f f':γ->Value}(l:List γ)(h:∀x∈l,VR β (f x) (f' x)):aZ β (l.map f) (l.map f'):=by
 exact pe
mutual
theorem VR.free{β:aC}:∀{v:Value},bY v=true->VR β v v
 | .bool b,_=>.bool b
 | .int k n,_=>.int k n
 | .float k n,_=>.float k n
 | .complex k n m,_=>.complex k n m
 | .string s,_=>.string s
 | .nilFunc,_=>.nilFunc
 | .nilIface,_=>.nilIface
 | .pointer none,_=>.xZ
 | .pointer (some a),h=>by simp[bY]at h
 | .slice none n c,_=>.sl0 n c
 | .slice (some a) n c,h=>by simp[bY]at h
 | .map none,_=>.wK
 | .map (some r),h=>by simp[bY]at h
 | .chan r,h=>by simp[bY]at h
 | .func _ _ _,h=>by simp[bY]at h
 | .iface t v,h=>.iface t (VR.free (by simp[bY]at h;exact h.1))
 | .agg ⟨l⟩,h=>.agg (ug (by simpa[bY]using h)) (aZ.free (by simpa[bY]using h))
 | .tuple _,h=>by simp[bY]at h
theorem aZ.free{β:aC}:∀{l:List Value},fO l=true->aZ β l l
 |[],_=>.nil
 |v::l,h=>.cons (VR.free (by simp[fO]at h;exact h.1.1)) (aZ.free (by simp[fO]at h;exact h.2))
theorem ug:∀{l:List Value},fO l=true->l.all cellV=true
 |[],_=>rfl
 |v::l,h=>by simp[fO]at h;simp only[List.all_cons,h.1.2,Bool.true_and];exact ug h.2
end
mutual
theorem VR.pF{β:aC}:∀{v v':Value},VR β v v'->bY v=true->v'=v
 |_,_,.bool b,_=>rfl
 |_,_,.int k n,_=>rfl
 |_,_,.float k n,_=>rfl
 |_,_,.complex k n m,_=>rfl
 |_,_,.string s,_=>rfl
 |_,_,.nilFunc,_=>rfl
 |_,_,.nilIface,_=>rfl
 |_,_,.xZ,_=>rfl
 |_,_,.sl0 n c,_=>rfl
 |_,_,.wK,_=>rfl
 |_,_,.iface t hv,h=>by rw[VR.pF hv (by simp[bY]at h;exact h.1)]
 |_,_,.agg hc hl,h=>by rw[aZ.pF hl (by simpa[bY]using h)]
 |_,_,.dO v,h=>by simp[bY]at h
 |_,_,.skip,h=>by simp[bY]at h
 |_,_,.ptr _,h=>by simp[bY]at h
 |_,_,.ak _ _ _ _,h=>by simp[bY]at h
 |_,_,.pE _ _ _ _ _ _ _ _ _,h=>by simp[bY]at h
 |_,_,.map _,h=>by simp[bY]at h
 |_,_,.func _ _ _,h=>by simp[bY]at h
 |_,_,.tuple _,h=>by simp[bY]at h
theorem aZ.pF{β:aC}:∀{l l':List Value},aZ β l l'->fO l=true->l'=l
 |_,_,.nil,_=>rfl
 |_,_,.cons hv hl,h=>by
  simp[fO]at h;rw[VR.pF hv h.1.1,aZ.pF hl h.2]
end
theorem x8{α:Type}{P:Program}{s:Sem α}{x:α}(h:dV P s=some x)(w:World):s.run P w=.ok x w:=by
 induction s with
 |pure a=>simp[dV]at h;subst h;rfl
 |program k ih=>simp only[dV]at h;simp only[Sem.run];exact ih _ h
 |mark m k ih=>simp only[dV]at h;simp only[Sem.run];exact ih h
 |_=>simp[dV]at h
theorem VR.cells{β:aC}{v v':Value}{cs:List Value}(h:VR β v v')(hc:cellsOf v=some cs):cs.all cellV=true/\∃cs',v'.cells=⟨cs'⟩/\aZ β cs cs':=by
 cases h<;>simp only[cellsOf,aA,reduceCtorEq]at hc<;>try subst hc
 case agg hc' hl=>exact⟨hc',_,rfl,hl⟩
 all_goals exact⟨rfl,_,rfl,.cons (by constructor<;>assumption) .nil⟩
theorem VR.cellV{β:aC}{v v':Value}(h:VR β v v')(hc:cellV v=true):(∀cs,v'≠.agg cs)/\(∀cs,v'≠.tuple cs):=by
 cases h<;>simp_all [Ideal.cellV]
inductive fP(β:aC):List MapEntry->List MapEntry->Prop
 |nil:fP β [] []
 |cons {e e':MapEntry} {l l':List MapEntry} (hk:e'.key=e.key) (hf:bY e.key=true) (hb:e'.born=e.born) (hv:VR β e.val e'.val) (hl:fP β l l'):fP β (e::l) (e'::l')
def Po:Out->Option Code
 | .normal=>none
 | .exit id=>some (.exit id)
 | .ret=>some .ret
 | .panic _=>none
structure LR(P:Program)(β:aC)(r:oG)(r':Loop):Prop where
 state:r'.state=r.state
 pending:r'.pending=r.pending.bind Po
 Dj:∀ch,r.pending≠some (.panic ch)
 size:r'.tmps.size=r.n
 tmps:∀i,VR β (dF r.tmps i) (r'.tmps.getD i undef)
 out:∀i,r.n<=i->dF r.tmps i=dO
 params:r'.params.toList=r.params
 assign:compile P r'.assign=r.assign
 body:compile P r'.body=r.body
 defers:∃g,β r.defers=some g/\r'.defers=g.b
 Bl:∃f,P.funcs[r'.fn]? =some f
def OR(P:Program)(β:aC)(g:iD)(w:World):dQ->Prop
 | .cells cs=>(∃c t fz,w.heap[g.b]? =some (.cells c t fz))/\cs.length=g.len/\g.off+g.len<=g.top/\
    (∀j,j<g.top->(w.cell? ⟨g.b,j,none⟩).isSome=true/\w.frozen? ⟨g.b,j,none⟩=false)/\
    cs.all cellV=true/\∀(j:Nat) v,cs[j]? =some v->∃v',w.cell? ⟨g.b,g.off+j,none⟩=some v'/\VR β v v'
 | .je cs=>(∃c t fz,w.heap[g.b]? =some (.cells c t fz)/\(g.top=0\/c.size=g.top))/\g.sz=0/\cs.all cellV=true/\∀(j:Nat) v,cs[j]? =some v->∃v',w.cell? ⟨g.b,g.off+j,none⟩=some v'/\VR β v v'
 | .map es clock=>∃es',w.heap[g.b]? =some (.map es' clock)/\fP β es es'.toList
 | .zo s pos=>w.heap[g.b]? =some (.stringIter s pos)/\g.off=0
 | .mapIter m since seen stepped=>∃m' seen',w.heap[g.b]? =some (.mapIter m' since seen' stepped)/\seen'.toList=seen/\VR β (.map m) (.map m')/\g.off=0
 | .loop r=>∃r',w.heap[g.b]? =some (.loop r')/\LR P β r r'
 | .iY b=>w.heap[g.b]? =some (.deferred (if b then some []else none))
structure WR(P:Program)(β:aC)(h:IH)(w:World):Prop where
 dom:∀i g,β i=some g->i<h.next
 live:∀i o,h.get i=some o->i<h.next
 obj:∀i g o,β i=some g->h.get i=some o->OR P β g w o
 inj:∀i j g k,β i=some g->β j=some k->h.get i≠none->h.get j≠none->((∀cs,h.get i≠some (.je cs))\/∀cs,h.get j≠some (.je cs))->g.b=k.b->i=j
structure Eff(β:aC)(h:IH)(w:World)(β':aC)(h':IH)(w':World):Prop where
 agree:∀i,i<h.next->β' i=β i
 next:h.next<=h'.next
 alive:∀i,i<h.next->h'.get i≠none->h.get i≠none
 hid:∀i,i<h.next->β i=none->h'.get i=h.get i
 low:h'.low<=h.low
 kept:∀i,i<h'.low->i<h.next->h'.get i=h.get i
 os:w'.os=w.os
 tape:w'.tape=w.tape
 output:w'.output=w.output
 size:w.heap.size<=w'.heap.size
 keep:∀b,b<w.heap.size->(∀i g,β i=some g->h.get i≠none->g.b≠b)->w'.heap[b]? =w.heap[b]?
 fresh:∀i g,β' i=some g->h.next<=i->w.heap.size<=g.b\/∃j k,β j=some k/\h.get j≠none/\k.b=g.b
 sF:∀i g,i<h'.low->i<h.next->β i=some g->h.get i≠none->g.b<w.heap.size->w'.heap[g.b]? =w.heap[g.b]?
 drawn:w.drawn<=w'.drawn
theorem Eff.refl(β:aC)(h:IH)(w:World)(hd:∀i g,β i=some g->i<h.next):Eff β h w β h w:=
 ⟨λ_ _=>rfl,bV _,λ_ _ h=>h,λ_ _ _=>rfl,bV _,λ_ _ _=>rfl,rfl,rfl,rfl,bV _,λ_ _ _=>rfl,
  λi g hg hi=>absurd (hd i g hg) vj,λ_ _ _ _ _ _ _=>rfl,bV _⟩
theorem Eff.le{β β':aC}{h h':IH}{w w':World}(e:Eff β h w β' h' w')(hd:∀i g,β i=some g->i<h.next):β.le β':=
 λi g hg=>(e.agree i (hd i g hg)).trans hg
theorem Eff.trans{β β1 β2:aC}{h h1 h2:IH}{w w1 w2:World}(e:Eff β h w β1 h1 w1)(f:Eff β1 h1 w1 β2 h2 w2):Eff β h w β2 h2 w2 where
 agree i hi:=(f.agree i (lS hi e.next)).trans (e.agree i hi)
 sF i g hl hi hg hn hb:=(f.sF i g hl (lS hi e.next) ((e.agree i hi).trans hg) (by rw[e.kept i (lS hl f.low) hi];exact hn) (lS hb e.size)).trans
  (e.sF i g (lS hl f.low) hi hg hn hb)
 next:=oW e.next f.next
 drawn:=oW e.drawn f.drawn
 alive i hi hn:=e.alive i hi (f.alive i (lS hi e.next) hn)
 hid i hi hb:=(f.hid i (lS hi e.next) ((e.agree i hi).trans hb)).trans (e.hid i hi hb)
 low:=oW f.low e.low
 kept i hl hi:=(f.kept i hl (lS hi e.next)).trans (e.kept i (lS hl f.low) hi)
 os:=f.os.trans e.os
 tape:=f.tape.trans e.tape
 output:=f.output.trans e.output
 size:=oW e.size f.size
 keep b hb hno:=by
  refine(f.keep b (lS hb e.size) λi g hg hn he=>?_).trans (e.keep b hb hno);by_cases hi:i<h.next
  ·exact hno i g (by rw[<- e.agree i hi];exact hg) (e.alive i hi hn) he
  ·rcases e.fresh i g hg (vj)with hf|⟨j,k,hk,hj,hkb⟩
   ·omega
   ·exact hno j k hk hj (hkb.trans he)
 fresh i g hg hi:=by
  by_cases hi1:i<h1.next
  ·exact e.fresh i g (by rw[<- f.agree i hi1];exact hg) hi
  ·rcases f.fresh i g hg (vj)with hf|⟨j,k,hk,hj,hkb⟩
   ·exact .inl (oW e.size hf)
   ·by_cases hjn:j<h.next
    ·exact .inr ⟨j,k,by rw[<- e.agree j hjn];exact hk,e.alive j hjn hj,hkb⟩
    ·rcases e.fresh j k hk (vj)with hf'|⟨j',k',hk',hj',hkb'⟩
     ·exact .inl (hkb▸hf')
     ·exact .inr ⟨j',k',hk',hj',hkb'.trans hkb⟩
end Go.Ideal
namespace Go.Ideal
variable {P:Program}
variable{β β':aC}
theorem fP.mono(h:β.le β'){l l':List MapEntry}(he:fP β l l'):fP β' l l':=by
 induction he with
 |nil=>exact .nil
 |cons hk hf hb hv _ ih=>exact .cons hk hf hb (hv.mono h) ih
theorem LR.mono(h:β.le β'){r:oG}{r':Loop}(k:LR P β r r'):LR P β' r r':=
 ⟨k.state,k.pending,k.Dj,k.size,λi=>(k.tmps i).mono h,k.out,k.params,k.assign,k.body,let⟨g,h1,h2⟩:=k.defers;⟨g,h _ _ h1,h2⟩,k.Bl⟩
theorem OR.mono(h:β.le β'){g:iD}{w:World}{o:dQ}(k:OR P β g w o):OR P β' g w o:=by
 cases o with
 |cells cs=>
  obtain⟨h1,h2,h3,h5,h6,h7⟩:=k;exact⟨h1,h2,h3,h5,h6,λj v hj=>let⟨v',a,b⟩:=h7 j v hj;⟨v',a,b.mono h⟩⟩
 |je cs=>obtain⟨h1,h2,h6,h7⟩:=k;exact⟨h1,h2,h6,λj v hj=>let⟨v',a,b⟩:=h7 j v hj;⟨v',a,b.mono h⟩⟩
 |map es clock=>obtain⟨es',h1,h2⟩:=k;exact⟨es',h1,h2.mono h⟩
 |zo s pos=>exact k
 |mapIter m since seen stepped=>obtain⟨m',seen',h1,h2,h3,h4⟩:=k;exact⟨m',seen',h1,h2,h3.mono h,h4⟩
 |loop r=>obtain⟨r',h1,h2⟩:=k;exact⟨r',h1,h2.mono h⟩
 |iY b=>exact k
variable{g:iD}{w:World}{o:dQ}
theorem OR.congr{w':World}(hw:w'.heap[g.b]? =w.heap[g.b]?)(k:OR P β g w o):OR P β g w' o:=by
 have hc:∀j,w'.cell? ⟨g.b,j,none⟩=w.cell? ⟨g.b,j,none⟩:=λj=>World.cell?_of_block hw;have hf:∀j,w'.frozen? ⟨g.b,j,none⟩=w.frozen? ⟨g.b,j,none⟩:=λj=>World.frozen?_of_block hw;cases o<;>simp only[OR,hw,hc,hf]at *<;>exact k
theorem OR.lt(k:OR P β g w o):g.b<w.heap.size:=by
 have:w.heap[g.b]?≠none:=by
  cases o with
  |cells cs=>obtain⟨⟨c,t,fz,h1⟩,_⟩:=k;rw[h1];simp
  |je cs=>obtain⟨⟨c,t,fz,h1,_⟩,_⟩:=k;rw[h1];simp
  |map es clock=>obtain⟨es',h1,_⟩:=k;rw[h1];simp
  |zo s pos=>have h1:=k.1;rw[h1];simp
  |mapIter m since seen stepped=>obtain⟨m',seen',h1,_⟩:=k;rw[h1];simp
  |loop r=>obtain⟨r',h1,_⟩:=k;rw[h1];simp
  |iY b=>have h1:w.heap[g.b]? =_:=k;rw[h1];simp
 rcases qJ g.b w.heap.size with h|h
 ·exact h
 ·exact absurd (tL h) this
def aC.add(β:aC)(i:Nat)(g:iD):aC:=λj=>if j=i then some g else β j
theorem aC.lV(β:aC)(i:Nat)(g:iD):β.add i g i=some g:=by simp[aC.add]
theorem aC.kV(β:aC){i j:Nat}(g:iD)(h:j≠i):β.add i g j=β j:=by simp[aC.add,h]
theorem aC.wL{i:Nat}(g:iD)(h:β i=none):β.le (β.add i g):=λj k hj=>by
 by_cases e:j=i
 ·subst e;rw[h]at hj;cases hj
 ·rw[aC.kV _ _ e];exact hj
section
variable {β:aC} {h:IH} {w:World}
theorem WR.x9(hW:WR P β h w):β h.next=none:=by
 cases hb:β h.next with
 |none=>rfl
 |some g=>exact absurd (hW.dom _ _ hb) (Nat.lt_irrefl _)
variable{w':World}
theorem WR.uh(hW:WR P β h w)(hh:w'.heap=w.heap):WR P β h w':=
 ⟨hW.dom,hW.live,λi g o h1 h2=>(hW.obj i g o h1 h2).congr (by rw[hh]),hW.inj⟩
theorem Eff.uh(hd:∀i g,β i=some g->i<h.next)(h1:w'.heap=w.heap)(h2:w'.os=w.os)(h3:w'.tape=w.tape)(h4:w'.output=w.output)(h5:w.drawn<=w'.drawn:=by first|exact bV _|exact AU _|fail):Eff β h w β h w':=
 ⟨λ_ _=>rfl,bV _,λ_ _ h=>h,λ_ _ _=>rfl,bV _,λ_ _ _=>rfl,h2,h3,h4,by rw[h1];exact bV _,λ_ _ _=>by rw[h1],
  λi g hg hi=>absurd (hd i g hg) vj,λ_ _ _ _ _ _ _=>by rw[h1],h5⟩
theorem WR.alloc(hW:WR P β h w)(o:dQ)(o':Obj)(g:iD)(hg:g.b=w.heap.size){w1:World}(hw1:w1={w with heap:=w.heap.push o'})
 (ho:OR P (β.add h.next g) g w1 o):WR P (β.add h.next g) (h.new o) w1/\Eff β h w (β.add h.next g) (h.new o) w1:=by
 have hle:β.le (β.add h.next g):=aC.wL g hW.x9;have hheap:∀b,b<w.heap.size->w1.heap[b]? =w.heap[b]?:=λb hb=>by
  subst hw1;simp only[Fw];rw[if_neg vj]
 refine⟨⟨?_,?_,?_,?_⟩,⟨?_,?_,?_,?_,?_,?_,?_,?_,?_,?_,?_,?_,λ_ _ _ _ _ _ hb=>hheap _ hb,by subst hw1;exact bV _⟩⟩
 ·intro i k hk;rw[IH.Kc];by_cases e:i=h.next
  ·omega
  ·rw[aC.kV _ _ e]at hk;have:=hW.dom _ _ hk;omega
 ·intro i x hx;rw[IH.Kc];rw[IH.iZ]at hx;split at hx
  ·omega
  ·have:=hW.live _ _ hx;omega
 ·intro i k x hk hx;rw[IH.iZ]at hx;by_cases e:i=h.next
  ·subst e;rw[aC.lV]at hk;exact sL
  ·rw[aC.kV _ _ e]at hk;rw[if_neg e]at hx;have:=hW.obj _ _ _ hk hx;exact(this.mono hle).congr (hheap _ this.lt)
 ·intro i j k l hk hl hi hj hr he;rw[IH.iZ]at hi hj;by_cases ei:i=h.next
  ·by_cases ej:j=h.next
   ·omega
   ·rw[aC.kV _ _ ej]at hl;rw[if_neg ej]at hj;subst ei;rw[aC.lV]at hk;cases hk;cases hx:h.get j with
    |none=>exact absurd hx hj
    |some x=>have:=(hW.obj _ _ _ hl hx).lt;omega
  ·rw[aC.kV _ _ ei]at hk;rw[if_neg ei]at hi;by_cases ej:j=h.next
   ·subst ej;rw[aC.lV]at hl;cases hl;cases hx:h.get i with
    |none=>exact absurd hx hi
    |some x=>have:=(hW.obj _ _ _ hk hx).lt;omega
   ·rw[aC.kV _ _ ej]at hl;rw[if_neg ej]at hj;exact hW.inj _ _ _ _ hk hl hi hj (hr.imp (λq cs e=>q cs (by rw[IH.iZ,if_neg ei];exact e)) (λq cs e=>q cs (by rw[IH.iZ,if_neg ej];exact e))) he
 ·intro i hi;exact aC.kV _ _ vj
 ·rw[IH.Kc];omega
 ·intro i hi hn;rw[IH.iZ,if_neg vj]at hn;exact hn
 ·intro i hi _;rw[IH.iZ,if_neg vj]
 ·exact bV _
 ·intro i _ hi;rw[IH.iZ,if_neg vj]
 ·subst hw1;rfl
 ·subst hw1;rfl
 ·subst hw1;rfl
 ·subst hw1;simp
 ·intro b hb _;exact hheap b hb
 ·intro i k hk hi;by_cases e:i=h.next
  ·subst e;rw[aC.lV]at hk;cases hk;exact .inl vj
  ·rw[aC.kV _ _ e]at hk;exact pC
theorem WR.write(hW:WR P β h w){i:Nat}{g:iD}(hi:β i=some g){o0:dQ}(h0:h.get i=some o0)(o:dQ){w1:World}
 (hsz:w1.heap.size=w.heap.size) (hheap:∀b,b≠g.b->w1.heap[b]? =w.heap[b]?) (hos:w1.os=w.os) (zD:w1.tape=w.tape) (hout:w1.output=w.output) (hdr:w.drawn<=w1.drawn)
 (ho:OR P β g w1 o) (hnr:∀cs,o0≠.je cs:=by intro cs e;cases e):WR P β (h.set i o) w1/\Eff β h w β (h.set i o) w1:=by
 have hni:∀cs,h.get i≠some (.je cs):=λcs e=>hnr cs (by rw[h0]at e;exact Option.some.inj e);refine⟨⟨?_,?_,?_,?_⟩,⟨?_,?_,?_,?_,?_,?_,hos,zD,hout,?_,?_,?_,?_,hdr⟩⟩
 ·exact hW.dom
 ·intro j x hx;rw[IH.mZ]at hx;split at hx
  ·subst_vars;exact hW.live _ _ h0
  ·exact hW.live _ _ hx
 ·intro j k x hk hx;rw[IH.mZ]at hx;by_cases e:j=i
  ·subst e;rw[hi]at hk;exact sL
  ·rw[if_neg e]at hx;refine(hW.obj _ _ _ hk hx).congr (hheap _ λhe=>e ?_);exact hW.inj _ _ _ _ hk hi (by rw[hx];simp) (by rw[h0];simp) (.inr hni) he
 ·intro j l k m hk hm hj hl hr he;have pass:∀x,(∀cs,(h.set i o).get x≠some (.je cs))->∀cs,h.get x≠some (.je cs):=λx q cs e=>by
   by_cases ex:x=i
   ·subst ex;exact hni cs e
   ·exact q cs (by rw[IH.mZ,if_neg ex];exact e)
  refine hW.inj _ _ _ _ hk hm ?_ ?_ (hr.imp (pass _) (pass _)) he
  ·rw[IH.mZ]at hj;split at hj
   ·subst_vars;rw[h0];simp
   ·exact hj
  ·rw[IH.mZ]at hl;split at hl
   ·subst_vars;rw[h0];simp
   ·exact hl
 ·intro _ _;rfl
 ·exact bV _
 ·intro j hj hn;rw[IH.mZ]at hn;split at hn
  ·subst_vars;rw[h0];simp
  ·exact hn
 ·intro j hj hb;rw[IH.mZ,if_neg];exact tM
 ·rw[IH.F6];omega
 ·intro j hl hj;rw[IH.F6]at hl;rw[IH.mZ,if_neg vj]
 ·omega
 ·intro b hb hno;refine hheap b λe=>hno i g hi (by rw[h0];simp) e.symm
 ·intro j k hk hj;exact pC
 ·intro j k hl hj hk hn hb;rw[IH.F6]at hl;refine hheap _ λhe=>?_;have:=hW.inj _ _ _ _ hk hi hn (by rw[h0];simp) (.inr hni) he;omega
theorem WR.drop(hW:WR P β h w){i:Nat}{g:iD}(hi:β i=some g):WR P β (h.kill i) w/\Eff β h w β (h.kill i) w:=by
 refine⟨⟨hW.dom,?_,?_,?_⟩,⟨?_,?_,?_,?_,?_,?_,rfl,rfl,rfl,bV _,λ_ _ _=>rfl,?_,λ_ _ _ _ _ _ _=>rfl,bV _⟩⟩
 ·intro j x hx;rw[IH.uf]at hx;split at hx
  ·cases hx
  ·exact hW.live _ _ hx
 ·intro j k x hk hx;rw[IH.uf]at hx;split at hx
  ·cases hx
  ·exact hW.obj _ _ _ hk hx
 ·intro j l k m hk hm hj hl hr he;have pass:∀x,(h.kill i).get x≠none->(∀cs,(h.kill i).get x≠some (.je cs))->∀cs,h.get x≠some (.je cs):=λx hx q cs e=>by
   rw[IH.uf]at hx;by_cases ex:x=i
   ·rw[if_pos ex]at hx;exact hx rfl
   ·exact q cs (by rw[IH.uf,if_neg ex];exact e)
  have hr:=hr.imp (pass _ hj) (pass _ hl);rw[IH.uf]at hj hl;exact nt
 ·intro _ _;rfl
 ·exact bV _
 ·intro j hj hn;rw[IH.uf]at hn;split at hn
  ·exact absurd rfl hn
  ·exact hn
 ·intro j hj hb;rw[IH.uf,if_neg];exact tM
 ·rw[IH.zC];omega
 ·intro j hl hj;rw[IH.zC]at hl;rw[IH.uf,if_neg vj]
 ·intro j k hk hj;exact pC
theorem WR.WY(hW:WR P β h w){i:Nat}{g:iD}(hi:β i=some g)(hlive:h.get i≠none)(hni:∀cs,h.get i≠some (.je cs))(o:dQ)(g1:iD)(hg1:g1.b=g.b){w1:World}
 (hsz:w1.heap.size=w.heap.size) (hheap:∀b,b≠g.b->w1.heap[b]? =w.heap[b]?) (hos:w1.os=w.os) (zD:w1.tape=w.tape) (hout:w1.output=w.output) (hdr:w.drawn<=w1.drawn)
 (ho:OR P (β.add h.next g1) g1 w1 o):WR P (β.add h.next g1) ((h.kill i).new o) w1/\Eff β h w (β.add h.next g1) ((h.kill i).new o) w1:=by
 have hle:β.le (β.add h.next g1):=aC.wL g1 hW.x9;have hin:i<h.next:=hW.dom _ _ hi
 have hget:∀j,((h.kill i).new o).get j=if j=h.next then some o else if j=i then none else h.get j:=λj=>by
  rw[IH.iZ,IH.uf];rfl
 refine⟨⟨?_,?_,?_,?_⟩,⟨?_,?_,?_,?_,?_,?_,hos,zD,hout,?_,?_,?_,?_,hdr⟩⟩
 ·intro j k hk;show j<h.next+1
  by_cases e:j=h.next
  ·omega
  ·rw[aC.kV _ _ e]at hk;have:=hW.dom _ _ hk;omega
 ·intro j x hx;show j<h.next+1
  rw[hget]at hx;split at hx
  ·omega
  ·split at hx
   ·cases hx
   ·have:=hW.live _ _ hx;omega
 ·intro j k x hk hx;rw[hget]at hx;by_cases e:j=h.next
  ·subst e;rw[aC.lV]at hk;exact sL
  ·rw[aC.kV _ _ e]at hk;rw[if_neg e]at hx;split at hx
   ·cases hx
   ·rename_i hji;refine((hW.obj _ _ _ hk hx).mono hle).congr (hheap _ λhe=>hji ?_);exact hW.inj _ _ _ _ hk hi (by rw[hx];simp) hlive (.inr hni) he
 ·have key:∀j k,β j=some k->((h.kill i).new o).get j≠none->j≠h.next->k.b≠g.b:=λj k hk hj hjn he=>by
   rw[hget,if_neg hjn]at hj;split at hj
   ·exact hj rfl
   ·rename_i hji;exact hji (hW.inj _ _ _ _ hk hi hj hlive (.inr hni) he)
  intro j l k m hk hm hj hl hr he;have pass:∀x,x≠h.next->((h.kill i).new o).get x≠none->(∀cs,((h.kill i).new o).get x≠some (.je cs))->∀cs,h.get x≠some (.je cs):=λx kw hx q cs e=>by
   rw[hget,if_neg kw]at hx;by_cases ex:x=i
   ·rw[if_pos ex]at hx;exact hx rfl
   ·exact q cs (by rw[hget,if_neg kw,if_neg ex];exact e)
  by_cases ej:j=h.next
  ·by_cases el:l=h.next
   ·omega
   ·subst ej;rw[aC.lV]at hk;cases hk;rw[aC.kV _ _ el]at hm;exact absurd (he.symm.trans hg1) (key l m hm hl el)
  ·rw[aC.kV _ _ ej]at hk;by_cases el:l=h.next
   ·subst el;rw[aC.lV]at hm;cases hm;exact absurd (he.trans hg1) (key j k hk hj ej)
   ·rw[aC.kV _ _ el]at hm;have hr:=hr.imp (pass _ ej hj) (pass _ el hl);rw[hget,if_neg ej]at hj;rw[hget,if_neg el]at hl;exact nt
 ·intro j hj;exact aC.kV _ _ vj
 ·show h.next<=h.next+1;omega
 ·intro j hj hn;rw[hget,if_neg vj]at hn;split at hn
  ·exact absurd rfl hn
  ·exact hn
 ·intro j hj hb;rw[hget,if_neg vj,if_neg];exact tM
 ·show(h.kill i).low<=h.low;rw[IH.zC];omega
 ·intro j hl hj;have hl':j<(h.kill i).low:=hl;rw[IH.zC]at hl';rw[hget,if_neg vj,if_neg vj]
 ·omega
 ·intro b hb hno;exact hheap b λe=>hno i g hi hlive e.symm
 ·intro j k hk hj;by_cases e:j=h.next
  ·subst e;rw[aC.lV]at hk;cases hk;exact .inr ⟨i,g,hi,hlive,hg1.symm⟩
  ·rw[aC.kV _ _ e]at hk;exact pC
 ·intro j k hl hj hk hn hb;rw[IH.Ke,IH.zC]at hl;refine hheap _ λhe=>?_;have:=hW.inj _ _ _ _ hk hi hn hlive (.inr hni) he;omega
end
end Go.Ideal
namespace Go.Ideal
variable {P:Program} {β:aC} {h:IH} {w:World}
theorem addr_add(b o j:Nat):(⟨b,o,none⟩:Addr).add j=⟨b,o+j,none⟩:=by unfold Addr.add;split<;>simp_all
variable{t:TypeId}{d:TypeDesc}
theorem fE(h:P.underlying t=some d)(w:World):(underlying t).run P w=.ok d w:=by
 simp[underlying,h]
variable{n:Nat}
theorem mE(h:jm P t=some n)(w:World):(sizeOf t).run P w=.ok n w:=by
 unfold jm at h;cases hi:P.info? t with
 |none=>simp[hi]at h
 |some i=>simp[hi]at h;simp[sizeOf,typeInfo,hi,h]
theorem Dk{i:TypeInfo}(h:P.info? t=some i)(w:World):(typeInfo t).run P w=.ok i w:=by
 simp[typeInfo,h]
variable{z:Value}
theorem Bn(h:zeroOf P t=some z):∃i,P.info? t=some i/\i.zero=some z/\bY z=true:=by
 unfold zeroOf at h;cases hi:P.info? t with
 |none=>simp[hi]at h
 |some i=>
  simp only[hi,iV]at h;cases hz:i.zero with
  |none=>simp[hz]at h
  |some z'=>
   simp only[hz]at h;split at h
   ·cases h;exact⟨i,rfl,hz,by assumption⟩
   ·cases h
theorem Bo(h:zeroOf P t=some z)(w:World):(zeroValue t).run P w=.ok z w:=by
 obtain⟨i,h1,h2,_⟩:=Bn h;simp[zeroValue,typeInfo,h1,h2]
theorem Bp(h:P.underlying t=some d)(w:World):(isAgg t).run P w=.ok (jL P t) w:=by
 simp only[isAgg,dz,fE h,dD,jL,h];cases d<;>rfl
theorem Pp(h:jL P t=true):∃d,P.underlying t=some d:=by
 unfold jL at h;cases hu:P.underlying t with
 |none=>simp[hu]at h
 |some d=>exact⟨d,rfl⟩
theorem F7(hW:WR P β h w){i:Nat}{g:iD}(hi:β i=some g){cs:List Value}(hg:h.get i=some (.cells cs)\/h.get i=some (.je cs)){o n:Nat}{l:List Value}
 (hl:jd (jE cs o) n=some l):
 l.length=n/\l.all cellV=true/\∃l',aZ β l l'/\∀(j:Nat) v,l'[j]? =some v->w.cell? ⟨g.b,g.off+o+j,none⟩=some v:=by
 obtain⟨h6,h7⟩:cs.all cellV=true/\∀(j:Nat) v,cs[j]? =some v->∃v',w.cell? ⟨g.b,g.off+j,none⟩=some v'/\VR β v v':=by
  rcases hg with hg|hg
  ·obtain⟨_,_,_,_,h6,h7⟩:=hW.obj i g _ hi hg;exact⟨h6,h7⟩
  ·obtain⟨_,_,h6,h7⟩:=hW.obj i g _ hi hg;exact⟨h6,h7⟩
 rw[sD,qV]at hl;split at hl
 ·rename_i hn;cases hl;refine⟨by simp at hn⊢;omega,?_,?_⟩
  ·rw[kR]at h6⊢;exact λx hx=>h6 x (List.mem_of_mem_drop (OH hx))
  ·have key:∀k:Nat,k<=n->∃l',aZ β ((cs.drop o).take k) l'/\∀(j:Nat) v,l'[j]? =some v->w.cell? ⟨g.b,g.off+o+j,none⟩=some v:=by
    intro k;induction k with
    |zero=>intro _;exact⟨[],by simpa using aZ.nil,λj v hj=>by simp at hj⟩
    |succ k ih=>
     intro hk;obtain⟨l',h1,h2'⟩:=ih vj;have hlt:k<(cs.drop o).length:=vj
     obtain⟨v',hv1,hv2⟩:=h7 (o+k) ((cs.drop o)[k]) (by rw[<- qK];exact bW hlt);refine⟨l'++[v'],?_,λj v hj=>?_⟩
     ·rw[List.take_succ_eq_append_getElem hlt];exact h1.append (.cons hv2 .nil)
     ·have hlen:=h1.length;simp at hlen hlt;by_cases hjl:j<l'.length
      ·rw[qL hjl]at hj;exact h2' j v hj
      ·have hjk:j=l'.length:=by
        rcases qJ j (l'++[v']).length with hh|hh
        ·simp at hh;omega
        ·rw[gJ hh]at hj;cases hj
       subst hjk;simp at hj;subst hj;rw[show g.off+o+l'.length=g.off+(o+k)by omega];exact hv1
   exact key n (bV _)
 ·cases hl
variable{o:Nat}{l:List Value}
theorem Kj{b:Nat}(hn:l.length=n)(hc:∀(j:Nat) v,l[j]? =some v->w.cell? ⟨b,o+j,none⟩=some v):
 (loadCells ⟨b,o,none⟩ n).run P w=.ok l.toArray w:=by
 subst hn;exact run_loadCells_list w _ l λj v hj=>by rw[addr_add];exact hc j v hj
variable{i:Nat}
theorem Pq{h:IH}(hl:h.nT i o n=some l):∃cs,h.get i=some (.cells cs)/\jd (jE cs o) n=some l:=by
 unfold IH.nT at hl;split at hl
 ·exact⟨_,by assumption,hl⟩
 ·cases hl
theorem Bq{h:IH}(hl:h.iW i o n=some l):∃cs,(h.get i=some (.cells cs)\/h.get i=some (.je cs))/\jd (jE cs o) n=some l:=by
 unfold IH.iW at hl;exact pH
theorem Ps{h:IH}{v:Value}(hl:h.nU i o=some v):∃cs,(h.get i=some (.cells cs)\/h.get i=some (.je cs))/\jD cs o=some v:=by
 unfold IH.nU at hl;exact pH
variable{h2:IH}
theorem WZ{h:IH}(hs:∀i o,h.get i=some o->h2.get i=some o){i o:Nat}{v:Value}(hl:h.nU i o=some v):h2.nU i o=some v:=by
 obtain⟨cs,hg|hg,h1⟩:=Ps hl
 ·simp only[IH.nU,hs _ _ hg,h1]
 ·simp only[IH.nU,hs _ _ hg,h1]
theorem Pt{h:IH}(hs:∀i o,h.get i=some o->h2.get i=some o){i o n:Nat}{l:List Value}(hl:h.iW i o n=some l):h2.iW i o n=some l:=by
 obtain⟨cs,hg|hg,h1⟩:=Bq hl
 ·simp only[IH.iW,hs _ _ hg,h1]
 ·simp only[IH.iW,hs _ _ hg,h1]
theorem Kk(b:Nat):∀(vs:List Value) (o:Nat) (w:World),(w.setCells b o vs).drawn=w.drawn
 |[],_,_=>rfl
 |v::vs,o,w=>by
  show((w.setCell ⟨b,o,none⟩ v).setCells b (o+1) vs).drawn=_;rw[Kk b vs];rfl
theorem Kl(hW:WR P β h w){i:Nat}{g:iD}(hi:β i=some g){o:Nat}{vs vs':List Value}{h':IH}(hs:h.storeAt i o vs=some h')(hv:aZ β vs vs')(hall:vs.all cellV=true):
 (∀k,k=0->(storeCells ⟨g.b,g.off+o,none⟩ vs' k).run P w=.ok () (w.setCells g.b (g.off+o) vs'))/\WR P β h' (w.setCells g.b (g.off+o) vs')/\Eff β h w β h' (w.setCells g.b (g.off+o) vs'):=by
 unfold IH.storeAt at hs;split at hs
 ·rename_i cs hg;split at hs
  ·rename_i cs2 hl;cases hs;obtain⟨h1,h2,h3,h5,h6,h7⟩:=hW.obj i g _ hi hg;obtain⟨l1,l2,l3⟩:=Ki hl;have hlen:vs'.length=vs.length:=hv.length;have hin:∀j,j<vs'.length->g.off+o+j<g.top:=λj hj=>by omega
   have hone:∀v∈vs',v.oneCell'=true:=λv hv'=>by
    obtain⟨j,hj⟩:=jT hv';have hjl:j<vs.length:=by
     rcases qJ j vs'.length with hh|hh
     ·omega
     ·rw[gJ hh]at hj;cases hj
    exact jt
   have hrun:∀k,k=0->(storeCells ⟨g.b,g.off+o,none⟩ vs' k).run P w=.ok () (w.setCells g.b (g.off+o) vs'):=λk hk=>by
    subst hk;have:=run_storeCells_cells (P:=P) g.b (g.off+o) vs' 0 w (λj hj=>(h5 _ (hin j hj)).1) (λj hj=>(h5 _ (hin j hj)).2) hone;simpa using this
   have hsz:(w.setCells g.b (g.off+o) vs').heap.size=w.heap.size:=by
    have zF:∀(vs:List Value) (o:Nat) (w:World),(w.setCells g.b o vs).heap.size=w.heap.size:=by
     intro vs;induction vs with
     |nil=>intro o w;rfl
     |cons v vs ih=>intro o w;show((w.setCell ⟨g.b,o,none⟩ v).setCells g.b (o+1) vs).heap.size=_;rw[ih];simp
    exact zF _ _ _
   have hother:∀b,b≠g.b->(w.setCells g.b (g.off+o) vs').heap[b]? =w.heap[b]?:=by
    have zF:∀(vs:List Value) (o:Nat) (w:World) (b:Nat),b≠g.b->(w.setCells g.b o vs).heap[b]? =w.heap[b]?:=by
     intro vs;induction vs with
     |nil=>intro o w b _;rfl
     |cons v vs ih=>intro o w b hb;show((w.setCell ⟨g.b,o,none⟩ v).setCells g.b (o+1) vs).heap[b]? =_;rw[ih _ _ _ hb,Go.RowKit.Below.heap_setCell _ _ _ _ hb]
    exact zF _ _ _
   have hsame:∃c t fz,(w.setCells g.b (g.off+o) vs').heap[g.b]? =some (.cells c t fz):=by
    have zF:∀(vs:List Value) (o:Nat) (w:World),(∃c t fz,w.heap[g.b]? =some (.cells c t fz))->∃c t fz,(w.setCells g.b o vs).heap[g.b]? =some (.cells c t fz):=by
     intro vs;induction vs with
     |nil=>intro o w hh;exact hh
     |cons v vs ih=>
      intro o w ⟨c,t,fz,hh⟩;refine ih _ _ ⟨c.setIfInBounds o v,t,fz,?_⟩;simp[World.setCell,Array.getElem?_modify,hh]
    exact zF _ _ _ h1
   have zD:(w.setCells g.b (g.off+o) vs').tape=w.tape:=by
    have zF:∀(vs:List Value) (o:Nat) (w:World),(w.setCells g.b o vs).tape=w.tape:=by
     intro vs;induction vs with
     |nil=>intro o w;rfl
     |cons v vs ih=>intro o w;show((w.setCell ⟨g.b,o,none⟩ v).setCells g.b (o+1) vs).tape=_;rw[ih];rfl
    exact zF _ _ _
   have hos:=(OI g.b (may:=λ_=>True) vs' (g.off+o) w (λ_ _=>trivial)).1;have hout:=(OI g.b (may:=λ_=>True) vs' (g.off+o) w (λ_ _=>trivial)).2.1;have hdr:w.drawn<=(w.setCells g.b (g.off+o) vs').drawn:=by rw[Kk];exact bV _
   refine⟨hrun,?_⟩;refine hW.write hi hg (.cells cs2) hsz hother hos zD hout hdr ⟨hsame,vj,h3,?_,?_,?_⟩
   ·intro j hj;refine⟨?_,by rw[World.frozen?_setCells];exact(h5 j hj).2⟩;by_cases hr:g.off+o<=j/\j<g.off+o+vs'.length
    ·have:=OJ g.b vs' (g.off+o) w (λk hk=>(h5 _ (hin k hk)).1) (j - (g.off+o)) vj;rw[show g.off+o+(j - (g.off+o))=j by omega]at this;rw[this];simp
    ·rw[OL g.b vs' (g.off+o) w ⟨g.b,j,none⟩ (λ_ _=>by simp;omega)];exact(h5 j hj).1
   ·rw[kR]at h6 hall⊢;intro x hx;obtain⟨j,hj⟩:=jT hx;rw[l3]at hj;split at hj
    ·exact hall x (aP hj)
    ·exact h6 x (aP hj)
   ·intro j v hj;rw[l3]at hj;split at hj
    ·rename_i hr;obtain⟨v',hv1,hv2⟩:=hv.get hj;refine⟨v',?_,hv2⟩;have hlt:j - o<vs'.length:=by omega
     have:=OJ g.b vs' (g.off+o) w (λk hk=>(h5 _ (hin k hk)).1) (j - o) hlt;rw[show g.off+o+(j - o)=g.off+j by omega]at this;rw[this];rw[bW hlt]at hv1;exact hv1
    ·rename_i hr;obtain⟨v',hv1,hv2⟩:=h7 j v hj;refine⟨v',?_,hv2⟩;rw[OL g.b vs' (g.off+o) w ⟨g.b,g.off+j,none⟩ (λ_ _=>by simp;omega)];exact hv1
  ·cases hs
 ·cases hs
def Good(P:Program)(β:aC)(h:IH)(w:World)(s:Sem Next)(v:Value)(h':IH):Prop:=
 ∃r w' β' v',s.run P w=.ok r w'/\(r=.value v'\/(r=.skip/\v'=undef))/\VR β' v v'/\WR P β' h' w'/\Eff β h w β' h' w'
theorem Good.same(hW:WR P β h w){s:Sem Next}{v v':Value}(hr:s.run P w=.ok (.value v') w)(hv:VR β v v'):Good P β h w s v h:=
 ⟨_,w,β,v',hr,.inl rfl,hv,hW,Eff.refl _ _ _ hW.dom⟩
def uj(P:Program)(β:aC)(w:World)(s:Sem Next)(f:Nat->Value)(o:dQ):Prop:=
 ∃v' o' g,s.run P w=.ok (.value v') {w with heap:=w.heap.push o'}/\g.b=w.heap.size/\
  ∀(i:Nat) (β':aC),β.le β'->β' i=some g->VR β' (f i) v'/\OR P β' g {w with heap:=w.heap.push o'} o
theorem uj.good(hW:WR P β h w){s:Sem Next}{f:Nat->Value}{o:dQ}(hm:uj P β w s f o):Good P β h w s (f h.next) (h.new o):=by
 obtain⟨v',o',g,h1,h2,h3⟩:=hm;have hle:=aC.wL (β:=β) g hW.x9;obtain⟨a,b⟩:=hW.alloc o o' g h2 rfl (h3 h.next _ hle (aC.lV _ _ _)).2;exact⟨_,_,_,v',h1,.inl rfl,(h3 h.next _ hle (aC.lV _ _ _)).1,a,b⟩
theorem OR.F8{β:aC}{w:World}{cs cs':List Value}(t:TypeId)(h:aZ β cs cs')(hc:cs.all cellV=true)(rest:List Value)(sz:Nat):
 OR P β ⟨w.heap.size,0,cs.length,cs.length+rest.length,sz⟩ {w with heap:=w.heap.push (.cells ⟨cs'++rest⟩ t)} (.cells cs):=by
 have hb:({w with heap:=w.heap.push (.cells ⟨cs'++rest⟩ t)}:World).heap[w.heap.size]? =some (.cells ⟨cs'++rest⟩ t):=vm
 refine⟨⟨_,_,_,hb⟩,rfl,vm,λj hj=>⟨?_,?_⟩,hc,λj v hj=>?_⟩
 ·simp only[World.cell?,hb];simp;have:=h.length;simp at hj;omega
 ·simp[World.frozen?]
 ·obtain⟨v',h1,h2⟩:=h.get hj;refine⟨v',?_,h2⟩;simp only[World.cell?,hb];simp;rw[qL]
  ·exact h1
  ·rcases qJ j cs'.length with hh|hh
   ·exact hh
   ·rw[gJ hh]at h1;cases h1
