/- Part. -/
import Derived.Test.YtignbinlipkmfaaGreatDoorDictR
import Derived.KernelRfl
import GoSem.Step
import Derived.Below
import Derived.Laws.IdiomCopy
import Derived.Laws.Cells
import Derived.Laws.Entries
import Derived.IntWalk
import Derived.Laws.Append
set_option linter.all false
abbrev aU:=@List.mem_of_getElem?
abbrev aW:=@decide_eq_false
abbrev bz:=@Option.some.injEq
abbrev bC:=@List.length_map
abbrev bH:=@Nat.zero_le
abbrev bI:=@Nat.le_refl
abbrev bJ:=@List.getElem?_eq_some_iff
abbrev bP:=@List.take_length
abbrev bS:=@List.mem_singleton
abbrev bY:=@List.getElem?_eq_getElem
abbrev dB:=@List.mem_cons
abbrev dM:=@List.mem_map
abbrev dP:=@List.nil_append
abbrev dQ:=@decide_eq_true
abbrev dS:=@Go.Sem.run_bind
abbrev dZ:=@List.getElem?_map
abbrev ek:=@List.map_append
abbrev eP:=@List.mem_append
abbrev eU:=@Bool.and_eq_true
abbrev eX:=@Go.Result.andThen_ok
abbrev fB:=@List.cons_append
abbrev fF:=@List.mem_cons_self
abbrev fM:=@Go.Sem.run_pure
abbrev fV:=@List.length_append
abbrev gI:=@Nat.zero_add
abbrev gM:=@List.length_take
abbrev iw:=@List.mem_cons_of_mem
abbrev iE:=@List.append_nil
abbrev iI:=@List.getElem?_of_mem
abbrev iJ:=@List.getElem?_eq_none
abbrev iN:=@of_decide_eq_true
abbrev iO:=@List.append_assoc
abbrev iX:=@Decidable.not_not
abbrev jr:=@List.ext_getElem?
abbrev jJ:=@Int.toNat_natCast
abbrev jK:=@Int.eq_ofNat_of_zero_le
abbrev jN:=@List.all_eq_true
abbrev jV:=@List.nodup_append
abbrev kv:=@List.map_cons
abbrev kL:=@Prod.mk.injEq
abbrev lm:=@Option.bind_some
abbrev lq:=@Option.map_eq_some_iff
abbrev lV:=@Nat.le_trans
abbrev lW:=@List.length_eq_zero_iff
abbrev mG:=@Nat.le_of_ble_eq_true
abbrev om:=@Option.map_some
abbrev oq:=@Nat.add_assoc
abbrev ou:=@of_decide_eq_false
abbrev oQ:=@List.take_of_length_le
abbrev oU:=@List.length_set
abbrev pW:=@Nat.lt_of_lt_of_le
abbrev pX:=@List.getElem?_append_left
abbrev pY:=@Nat.mul_one
abbrev qp:=@List.drop_eq_getElem_cons
abbrev qw:=@List.take_add_one
abbrev qx:=@decide_eq_decide
abbrev qL:=@decide_eq_true_iff
abbrev rY:=@List.getElem_mem
abbrev rZ:=@List.getElem?_drop
abbrev r9:=@List.mem_range
abbrev si:=@List.take_append_drop
abbrev sj:=@List.map_map
abbrev su:=@Int.tdiv_eq_ediv_of_nonneg
abbrev tL:=@Nat.eq_of_beq_eq_true
abbrev tN:=@Nat.ble_eq
abbrev tO:=@List.getElem?_append_right
abbrev tQ:=@Nat.sub_self
abbrev tT:=@List.mem_filter
abbrev tV:=@List.length_range
abbrev uR:=@List.mem_append_left
abbrev uS:=@List.length_cons
abbrev uT:=@List.length_drop
abbrev vY:=@Nat.blt_eq
abbrev vZ:=@List.getElem?_take
abbrev wh:=@List.drop_zero
abbrev wm:=@List.map_set
abbrev wo:=@List.pairwise_cons
abbrev ww:=@List.map_singleton
abbrev xB:=@Nat.add_mul
abbrev xC:=@List.foldl_cons
abbrev xD:=@List.mem_append_right
abbrev xE:=@List.getElem?_set
abbrev xG:=@List.mem_iff_getElem?
abbrev xH:=@List.nodup_nil
abbrev xI:=@List.pairwise_iff_getElem
abbrev yR:=@List.getElem?_range
abbrev yS:=@List.map_congr_left
abbrev yT:=@List.replicate_succ
abbrev yU:=@List.foldl_append
abbrev yV:=@List.pairwise_map
abbrev zW:=@Nat.lt_succ_self
abbrev zX:=@Nat.mod_lt
abbrev zY:=@Array.getD_eq_getD_getElem?
abbrev Bv:=@Go.World.cell?_setCells_out
abbrev Bw:=@List.length_nil
abbrev Bz:=@List.mergeSort_perm
abbrev BA:=@Int.tmod_eq_emod_of_nonneg
abbrev BB:=@List.mk_mem_zipIdx_iff_getElem?
abbrev BC:=@Int.toNat_of_nonneg
abbrev BD:=@List.length_singleton
abbrev Dl:=@Nat.le_succ
abbrev Dm:=@Nat.add_zero
abbrev Dn:=@Bool.false_eq_true
abbrev Dp:=@and_true
abbrev Dq:=@Nat.beq_refl
abbrev Dr:=@List.set_append_right
abbrev Dt:=@List.drop_eq_nil_of_le
abbrev Du:=@List.length_replicate
abbrev Dv:=@List.range_succ
abbrev Dw:=@Int.ediv_nonneg
abbrev Dx:=@Nat.not_lt_zero
abbrev Fh:=@Go.World.cell?_setCells_in
abbrev Fj:=@Option.isSome_iff_exists
abbrev Fp:=@Bool.eq_iff_iff
abbrev Fq:=@List.getElem?_cons_zero
abbrev Fs:=@Bool.or_eq_true
abbrev Fu:=@Nat.sub_zero
abbrev Fv:=@Nat.zero_mul
abbrev Fw:=@Nat.one_mul
abbrev Fy:=@List.dropLast_concat_getLast
abbrev H9:=@Nat.ne_of_beq_eq_false
abbrev Ia:=@List.getElem?_cons_succ
abbrev Ib:=@Array.mem_append
abbrev Ic:=@List.mem_filterMap
abbrev Ie:=@Nat.mul_comm
abbrev Ig:=@List.length_pos_iff
abbrev Ih:=@List.map_id
abbrev Ii:=@List.mem_of_mem_drop
abbrev Ij:=@List.mem_of_mem_take
abbrev Ik:=@List.length_filter_le
abbrev MP:=@Nat.ble_eq_true_of_le
abbrev MQ:=@List.all_cons
abbrev MS:=@Nat.lt_or_ge
abbrev MU:=@Go.World.frozen?_setCells
abbrev MV:=@List.not_mem_nil
abbrev MW:=@Array.getElem?_eq_some_iff
abbrev MX:=@Nat.min_eq_left
abbrev MZ:=@Int.emod_add_mul_ediv
abbrev M0:=@List.any_eq_false
abbrev QR:=@Nat.lt_irrefl
abbrev QS:=@List.getElem?_toArray
abbrev QT:=@List.filter_cons
abbrev QU:=@Nat.eq_zero_or_pos
abbrev QV:=@Bool.not_eq_true'
abbrev QW:=@Nat.lt_succ_of_lt
abbrev QX:=@Nat.shiftRight_eq_div_pow
abbrev QY:=@Nat.lt_of_le_of_lt
abbrev QZ:=@List.nodup_cons
abbrev Q0:=@List.filter_append
abbrev Q3:=@Int.emod_nonneg
abbrev Q4:=@List.pairwise_append
abbrev Q5:=@Nat.pow_lt_pow_right
abbrev Q6:=@List.take_sublist
abbrev Q7:=@List.filterMap_append
abbrev Q8:=@List.getElem?_zipIdx
abbrev Ww:=@Go.World.keptBut_setCells
abbrev Wx:=@Nat.div_lt_iff_lt_mul
abbrev Wy:=@Nat.or_lt_two_pow
abbrev Wz:=@List.filter_eq_self
abbrev WA:=@List.mem_of_find?_eq_some
abbrev WB:=@List.flatMap_cons
abbrev WC:=@List.zipIdx_append
abbrev WE:=@List.pairwise_mergeSort
abbrev WG:=@List.length_filterMap_le
abbrev WH:=@Nat.lt_trichotomy
abbrev WI:=@List.length_pos_of_mem
abbrev WJ:=@List.length_reverse
abbrev WK:=@List.reverse_reverse
abbrev WL:=@Nat.shiftRight_le
abbrev WM:=@List.filterMap_cons
abbrev afQ:=@Array.getElem?_setIfInBounds_ne
abbrev afR:=@List.length_erase_of_mem
abbrev afS:=@List.findIdx?_eq_some_iff_getElem
abbrev afT:=@List.findIdx?_eq_none_iff
abbrev afU:=@List.filterMap_eq_nil_iff
abbrev ae.{u}(α:Type u):Type u:=List α
abbrev ah:=Go.Value
abbrev qr:=List (Nat×Go.Value)
abbrev ak.{u}(α:Type u):Type u:=Option α
abbrev az:=Go.Operand
abbrev aF:=Go.TypeId
abbrev fI:=Go.FuncId
namespace Go.Ideal
inductive T(α:Type):Type where
 |leaf
 |node (v:Option α) (l r:T α)
noncomputable def T.get{α:Type}(t:T α):Nat->ak α:=
 T.rec (motive:=λ_=>Nat->ak α) (λ_=>none)
  (λv _ _ gl gr n=>Nat.rec (motive:=λ_=>ak α) v
    (λm _=>Bool.rec (motive:=λ_=>ak α) (gr (Nat.div m 2)) (gl (Nat.div m 2)) (Nat.beq (Nat.mod m 2) 0)) n) t
noncomputable def T.one{α:Type}(f:Nat):Nat->ak α->T α:=
 Nat.rec (motive:=λ_=>Nat->ak α->T α) (λ_ _=>.leaf)
  (λ_ ih n x=>Nat.rec (motive:=λ_=>T α) (.node x .leaf .leaf)
    (λm _=>Bool.rec (motive:=λ_=>T α) (.node none .leaf (ih (Nat.div m 2) x)) (.node none (ih (Nat.div m 2) x) .leaf) (Nat.beq (Nat.mod m 2) 0)) n) f
noncomputable def T.set{α:Type}(t:T α):Nat->ak α->T α:=
 T.rec (motive:=λ_=>Nat->ak α->T α) (λn x=>T.one (n+1) n x)
  (λv l r sl sr n x=>Nat.rec (motive:=λ_=>T α) (.node x l r)
    (λm _=>Bool.rec (motive:=λ_=>T α) (.node v l (sr (Nat.div m 2) x)) (.node v (sl (Nat.div m 2) x) r) (Nat.beq (Nat.mod m 2) 0)) n) t
noncomputable def nQ{α β:Type}(f:α->β)(l:ae α):ae β:=
 List.rec (motive:=λ_=>ae β) [] (λx _ ih=>f x::ih) l
noncomputable def lu{α:Type}(l:ae α):Nat->ak α:=
 List.rec (motive:=λ_=>Nat->ak α) (λ_=>none) (λx _ ih n=>Nat.rec (motive:=λ_=>ak α) (some x) (λm _=>ih m) n) l
noncomputable def kP{α:Type}(l:ae α):Nat->ae α:=
 List.rec (motive:=λ_=>Nat->ae α) (λ_=>[]) (λx l ih n=>Nat.rec (motive:=λ_=>ae α) (x::l) (λm _=>ih m) n) l
noncomputable def jW{α:Type}(l:ae α):Nat->ak (ae α):=
 List.rec (motive:=λ_=>Nat->ak (ae α)) (λn=>Nat.rec (motive:=λ_=>ak (ae α)) (some []) (λ_ _=>none) n)
  (λx _ ih n=>Nat.rec (motive:=λ_=>ak (ae α)) (some []) (λm _=>Option.rec (motive:=λ_=>ak (ae α)) none (λr=>some (x::r)) (ih m)) n) l
noncomputable def jE{α:Type}(l:ae α):Nat->ae α->ak (ae α):=
 List.rec (motive:=λ_=>Nat->ae α->ak (ae α))
  (λo xs=>Nat.rec (motive:=λ_=>ak (ae α)) (List.rec (motive:=λ_=>ak (ae α)) (some []) (λ_ _ _=>none) xs) (λ_ _=>none) o)
  (λc l ih o xs=>Nat.rec (motive:=λ_=>ak (ae α))
    (List.rec (motive:=λ_=>ak (ae α)) (some (c::l)) (λx xs _=>Option.rec (motive:=λ_=>ak (ae α)) none (λr=>some (x::r)) (ih 0 xs)) xs)
    (λo _=>Option.rec (motive:=λ_=>ak (ae α)) none (λr=>some (c::r)) (ih o xs)) o) l
noncomputable def BF{α:Type}(p:α->Bool)(l:ae α):Bool:=
 List.rec (motive:=λ_=>Bool) true (λx _ ih=>Bool.rec (motive:=λ_=>Bool) false ih (p x)) l
noncomputable def jq{α:Type}(l:ae α):Nat:=
 List.rec (motive:=λ_=>Nat) 0 (λ_ _ ih=>Nat.succ ih) l
noncomputable def lX{α:Type}(l r:ae α):ae α:=
 List.rec (motive:=λ_=>ae α) r (λx _ ih=>x::ih) l
noncomputable def zeros(z:ae ah)(n:Nat):ae ah:=
 Nat.rec (motive:=λ_=>ae ah) [] (λ_ ih=>lX z ih) n
abbrev eO:ah:=.tuple #[]
abbrev xJ:ah:=.chan (some 0)
def cellV:ah->Bool
 | .agg _| .tuple _| .chan _=>false
 |_=>true
mutual
def cB:ah->Bool
 | .bool _| .int _ _| .float _ _| .complex _ _ _| .string _| .nilFunc| .nilIface=>true
 | .pointer a=>a.isNone
 | .slice a n c=>a.isNone&&n==0&&c==0
 | .map r=>r.isNone
 | .chan _=>false
 | .func _ _ _=>false
 | .iface _ v=>cB v&&cellV v
 | .agg ⟨cs⟩=>gJ cs
 | .tuple _=>false
def gJ:ae ah->Bool
 |[]=>true
 |v::l=>cB v&&cellV v&&gJ l
end
def dR{α:Type}(P:Program):Sem α->ak α
 | .pure a=>some a
 | .program k=>dR P (k P)
 | .mark _ k=>dR P k
 |_=>none
def kQ(P:Program)(s:Sem ah):ak ah:=
 match dR P s with
 |some v=>cond (cB v) (some v) none
 |none=>none
def cellsOf(v:ah):ak (ae ah):=
 match v with
 | .agg ⟨cs⟩=>some cs
 | .tuple _| .chan _=>none
 |v=>some [v]
inductive Out where
 |normal
 |exit (id:Nat)
 |ret
 |panic (chain:List PanicEntry)
inductive aK where
 |mv (x:Operand)
 |jh (x:Operand)
 |pick (c a b:Operand)
 |new (cs:List Value) (t:TypeId)
 |box (x:Operand) (t:TypeId)
 |build (zero:List Value) (parts:List (Nat×Nat×Operand))
 |yX (t:TypeId) (len:Nat) (zero:List Value) (parts:List (Nat×Nat×Operand))
 |fE (a:Operand)
 |tX (n:Nat) (a:Operand)
 |store (n:Nat) (a x:Operand)
 |ng (x:Operand)
 |bin (op:BinOp) (t:TypeId) (x y:Operand)
 |un (op:UnOp) (x:Operand)
 |conv (s d:TypeId) (x:Operand)
 |WN (e:TypeId) (x:Operand)
 |Il (x:Operand)
 |iface (t:TypeId) (x:Operand)
 |Dy (fn:Fn) (first captured:List Operand)
 |yY
 |xK (e:TypeId) (size bytes:Nat) (zero:List Value) (l c:Operand)
 |WO (t:TypeId) (x:Operand) (lo hi mx:Option Operand)
 |Q9 (n size:Nat) (x:Operand) (lo hi mx:Option Operand)
 |FB (size:Nat) (x:Operand) (lo hi mx:Option Operand)
 |iq (off:Nat) (x:Operand)
 |field (t:TypeId) (off n:Nat) (agg:Bool) (x:Operand)
 |Ra (n size:Nat) (x i:Operand)
 |jv (size:Nat) (x i:Operand)
 |WQ (x i:Operand)
 |WS (n size:Nat) (agg:Bool) (x i:Operand)
 |lookup (kt:TypeId) (zero:Value) (m k:Operand) (ok:Bool)
 |M3 (kt:TypeId) (m k v:Operand)
 |WT (kt:TypeId) (zero:Value) (m k:Operand)
 |WU (m s v:Operand)
 |Rb (x:Operand)
 |rangeMap (x:Operand)
 |WV (x:Operand)
 |zZ (x:Operand)
 |entry (x:Operand)
 |M4 (t:TypeId) (zero:Value) (ok:Bool) (x:Operand)
 |extract (x:Operand) (i:Nat)
 |append (e:TypeId) (size bytes:Nat) (s x:Operand)
 |M5 (e:TypeId) (size bytes:Nat) (zero:List Value) (s x:Operand)
 |copy (size:Nat) (d x:Operand)
 |clear (zero:List Value) (x:Operand)
 |WW (x:Operand)
 |M6 (n:Nat)
 |p9 (x:Operand)
 |M7 (x:Operand)
 |WX (x:Operand)
 |Dz (max:Bool) (args:List Operand)
 |call (f:Operand) (args:List Operand)
 |invoke (x:Operand) (name:String) (args:List Operand)
 |recover
 |panic (x:Operand)
 |dcall (f:Operand) (args:List Operand)
structure iY where
 dst:Option Tmp
 /-- the operation runs where this temporary holds this Bool -/
 guard:Option (Tmp×Bool)
 op:aK
structure bW where
 s:iY
 re:List iY
inductive dH where
 |skip
 /-- 'ds': where the region's operations put what they yield -/
 |ops (ds:List Tmp) (l:List bW)
 |seq (a b:dH)
 |cond (c:Operand) (a b:dH)
 |block (id:Nat) (a:dH)
 |loop (a:dH)
 |rangeFunc (f:Operand) (params:List Tmp) (assign body:dH)
 |scope (a:dH)
 |exit (id:Nat)
 |ret
 |fail
structure qy where
 state:LoopState
 pending:Option Out
 tmps:T Value
 n:Nat
 params:List Tmp
 assign:dH
 body:dH
 defers:Nat
inductive aN where
 |cells (cs:List Value)
 /-- cells that are read alone -/
 |kR (cs:List Value)
 |map (es:List MapEntry) (clock:Nat)
 |DC (s:ByteArray) (pos:Nat)
 |mapIter (m:Option Nat) (since:Nat) (seen:List Nat) (stepped:Nat)
 |loop (l:qy)
 |lC (open_:Bool)
structure IH where
 t:T aN
 next:Nat
 low:Nat
noncomputable def IH.get(h:IH)(i:Nat):ak aN:=h.t.get i
noncomputable def IH.set(h:IH)(i:Nat)(o:aN):IH:={h with t:=h.t.set i (some o),low:=cond (Nat.ble h.low i) h.low i}
noncomputable def IH.kill(h:IH)(i:Nat):IH:={h with t:=h.t.set i none,low:=cond (Nat.ble h.low i) h.low i}
noncomputable def IH.new(h:IH)(o:aN):IH:={h with t:=h.t.set h.next (some o),next:=Nat.succ h.next}
structure bB where
 n:Nat
 tmps:T Value
 defers:List Deferred
 pm:Option FrameMode
 ro:Option Nat
noncomputable def dU(t:T ah)(i:Nat):ah:=Option.rec (motive:=λ_=>ah) eO (λv=>v) (t.get i)
noncomputable def bB.eval(a:bB)(x:az):ah:=
 match x with
 | .tmp t=>dU a.tmps t
 | .const v=>v
 | .global g=>.pointer (some ⟨g,0,none⟩)
 | .func f=>.func (.func f) #[] #[]
noncomputable def bB.set(a:bB)(d:Nat)(v:ah):bB:=cond (Nat.blt d a.n) {a with tmps:=a.tmps.set d (some v)} a
noncomputable def bB.put(a:bB)(d:ak Tmp)(v:ah):bB:=
 match d with
 |some d=>a.set d v
 |none=>a
noncomputable def bB.wants(a:bB)(g:ak (Tmp×Bool)):ak Bool:=
 match g with
 |none=>some true
 |some (t,want)=>match dU a.tmps t with
  | .bool b=>some (cond want b (!b))
  | .chan _=>some false
  |_=>none
noncomputable def IH.qa(h:IH)(i o n:Nat):ak (ae ah):=
 match h.get i with
 |some (.cells cs)=>jW (kP cs o) n
 |_=>none
noncomputable def IH.iK(h:IH)(i o n:Nat):ak (ae ah):=
 match h.get i with
 |some (.cells cs)=>jW (kP cs o) n
 |some (.kR cs)=>jW (kP cs o) n
 |_=>none
noncomputable def IH.qM(h:IH)(i o:Nat):ak ah:=
 match h.get i with
 |some (.cells cs)=>lu cs o
 |some (.kR cs)=>lu cs o
 |_=>none
noncomputable def IH.storeAt(h:IH)(i o:Nat)(vs:ae ah):ak IH:=
 match h.get i with
 |some (.cells cs)=>match jE cs o vs with
  |some cs=>some (h.set i (.cells cs))
  |none=>none
 |_=>none
def FC(i o:Nat):ak Addr:=some ⟨i,o,some 0⟩
def small:Nat:=1073741824
def upTo(m:Nat)(v:ah):ak Nat:=
 match v with
 | .int _ (.ofNat i)=>cond (Nat.ble i m) (some i) none
 |_=>none
def bounds?(len cap:Nat)(lo hi mx:ak ah):ak (Nat×Nat×Nat):=
 match (match mx with|some v=>upTo cap v|none=>some cap)with
 |none=>none
 |some m=>match (match hi,mx with|some v,_=>upTo m v|none,none=>some len|none,some _=>none)with
  |none=>none
  |some h=>match (match lo with|some v=>upTo h v|none=>some 0)with
   |none=>none
   |some l=>some (l,h,m)
noncomputable def oV(size n:Nat)(x:ah)(h:IH):ak (ae ah):=
 match x with
 | .slice (some ⟨i,o,_⟩) _ _=>h.iK i o (Nat.mul n size)
 | .slice none _ _=>match n with
   |0=>some []
   |_=>none
 | .string s=>cond (Nat.beq size 1) (match jW s.data.toList n with
   |some l=>some (nQ (λb=>.int .u8 b.toNat) l)
   |none=>none) none
 |_=>none
noncomputable def yZ(size n:Nat)(x:ah)(h:IH):ak (ae ah):=
 match n with
 |0=>match x with
  | .slice _ _ _=>some []
  |x=>oV size 0 x h
 |Nat.succ k=>oV size (Nat.succ k) x h
def qb:ah->ak Nat
 | .slice _ n _=>some n
 | .string s=>some s.size
 |_=>none
noncomputable def z8(size bytes:Nat)(s:ah)(n:Nat)(xs:ae ah)(h:IH):ak (ah×IH):=
 match s with
 | .slice base len cap=>
   let need:=Nat.add len n
   cond (Nat.ble (Nat.mul need bytes) small&&Nat.ble (Nat.mul need size) small&&Nat.ble need small)
    (cond (Nat.ble need cap)
      (match base with
      |some ⟨i,o,f⟩=>match h.storeAt i (Nat.add o (Nat.mul len size)) xs with
       |some h=>some (.slice (some ⟨i,o,f⟩) need cap,h)
       |none=>none
      |none=>match n with
       |0=>some (.slice none need cap,h)
       |_=>none)
      (match oV size len s h with
      |none=>none
      |some old=>match base with
       |some ⟨i,_,some (k+1)⟩=>cond (Nat.beq (Nat.succ k) size) (some (.slice (some ⟨h.next,0,some size⟩) need need,(h.kill i).new (.cells (lX old xs)))) none
       |_=>some (.slice (some ⟨h.next,0,some size⟩) need need,h.new (.cells (lX old xs))))) none
 |_=>none
noncomputable def WY(size:Nat)(d x:ah)(h:IH):ak (ah×IH):=
 match d,qb x with
 | .slice base tY _,some m=>
   let n:=cond (Nat.ble m tY) m tY
   match oV size n x h with
   |none=>none
   |some cs=>match base with
    |some ⟨i,o,_⟩=>match h.storeAt i o cs with
     |some h=>some (goInt n,h)
     |none=>none
    |none=>match n with
     |0=>some (goInt 0,h)
     |_=>none
 |_,_=>none
def wy(P:Program)(kt:aF)(k:ah)(es:ae MapEntry):ak (ak (Nat×ah)):=
 dR P (Instr.findKey kt k es)
def tZ(P:Program)(kt:aF)(k:ah):Bool:=
 cB k&&match dR P (Instr.checkKey true 10000 kt k),dR P (Instr.checkKey false 10000 kt k)with
  |some _,some _=>true
  |_,_=>false
noncomputable def entriesOf(m:ah)(h:IH):ak (ae MapEntry):=
 match m with
 | .map none=>some []
 | .map (some i)=>match h.get i with
   |some (.map es _)=>some es
   |_=>none
 |_=>none
noncomputable def DD(P:Program)(kt:aF)(zero m k:ah)(ok:Bool)(h:IH):ak ah:=
 match entriesOf m h with
 |none=>none
 |some es=>cond (tZ P kt k) (match wy P kt k es with
  |none=>none
  |some (some (_,v))=>some (cond ok (.tuple #[v,.bool true]) v)
  |some none=>some (cond ok (.tuple #[zero,.bool false]) zero)) none
noncomputable def setAt{α:Type}(f:α->α)(l:ae α):Nat->ae α:=
 List.rec (motive:=λ_=>Nat->ae α) (λ_=>[]) (λx l ih n=>Nat.rec (motive:=λ_=>ae α) (f x::l) (λm _=>x::ih m) n) l
noncomputable def Im(P:Program)(kt:aF)(m k v:ah)(h:IH):ak IH:=
 match m with
 | .map (some i)=>match h.get i with
   |some (.map es clock)=>cond (tZ P kt k) (match wy P kt k es with
    |none=>none
    |some (some (j,_))=>match lu es j with
     |some e=>cond (Instr.sameBits 10000 e.key k) (some (h.set i (.map (setAt (λe=>{e with key:=k,val:=v}) es j) clock))) none
     |none=>none
    |some none=>some (h.set i (.map (lX es [{key:=k,val:=v,born:=clock}]) (Nat.succ clock)))) none
   |_=>none
 |_=>none
noncomputable def afV(P:Program)(kt:aF)(zero m k:ah)(h:IH):ak (ah×IH):=
 match m with
 | .map (some i)=>match h.get i with
   |some (.map es clock)=>cond (tZ P kt k) (match wy P kt k es with
    |none=>none
    |some (some (j,v))=>match lu es j with
     |some e=>cond (Instr.sameBits 10000 e.key k) (some (.tuple #[v,goInt e.born],h.set i (.map (setAt (λe=>{e with key:=k}) es j) clock))) none
     |none=>none
    |some none=>some (.tuple #[zero,goInt clock],h.set i (.map (lX es [{key:=k,val:=zero,born:=clock}]) (Nat.succ clock)))) none
   |_=>none
 |_=>none
noncomputable def afW(m s v:ah)(h:IH):ak IH:=
 match m,s with
 | .map (some i),.int _ n=>match h.get i with
   |some (.map es clock)=>match es.findIdx? (λe=>(e.born:Int)==n)with
    |some j=>some (h.set i (.map (setAt (λe=>{e with val:=v}) es j) clock))
    |none=>none
   |_=>none
 |_,_=>none
def wz(P:Program)(t:aF)(x y:ah):ak Bool:=
 match P.underlying t,x,y with
 |some (.pointer _),.pointer (some _),.pointer none=>some false
 |some (.pointer _),.pointer none,.pointer (some _)=>some false
 |some (.slice _),.slice (some _) _ _,.slice none _ _=>some false
 |some (.slice _),.slice none _ _,.slice (some _) _ _=>some false
 |some (.slice _),.slice none _ _,.slice none _ _=>some true
 |some (.map _ _),.map (some _),.map none=>some false
 |some (.map _ _),.map none,.map (some _)=>some false
 |some (.func _ _ _),.func _ _ _,.nilFunc=>some false
 |some (.func _ _ _),.nilFunc,.func _ _ _=>some false
 |some (.interface _),.iface _ _,.nilIface=>some false
 |some (.interface _),.nilIface,.iface _ _=>some false
 |_,_,_=>none
def Rc:Nat:=9223372036854775807
def Io(k:IntKind)(n:Int):Int:=
 match k,n with
 | .i64,.ofNat m=>cond (Nat.ble m Rc) (.ofNat m) (IntKind.i64.wrap (.ofNat m))
 | .i64,.negSucc m=>cond (Nat.ble m 1000000) (.negSucc m) (IntKind.i64.wrap (.negSucc m))
 |k,n=>k.wrap n
def WZ(a b:Int):Int:=
 match a,b with
 | .ofNat x,.ofNat y=>.ofNat (Nat.add x y)
 |a,b=>a+b
def Re(a b:Int):Int:=
 match a,b with
 | .ofNat x,.ofNat y=>cond (Nat.ble y x) (.ofNat (Nat.sub x y)) (.negSucc (Nat.pred (Nat.sub y x)))
 |a,b=>a - b
def leZ(a b:Int):Bool:=
 match a,b with
 | .ofNat x,.ofNat y=>Nat.ble x y
 | .negSucc _,.ofNat _=>true
 | .ofNat _,.negSucc _=>false
 | .negSucc x,.negSucc y=>Nat.ble y x
def FD(a b:Int):Bool:=
 match a,b with
 | .ofNat x,.ofNat y=>Nat.beq x y
 | .negSucc x,.negSucc y=>Nat.beq x y
 |_,_=>false
def BG(j k:IntKind):Bool:=
 match j,k with
 | .i64,.i64=>true
 |j,k=>j==k
def sw(op:BinOp)(k:IntKind)(a b:Int):ak ah:=
 match op with
 | .add=>some (.int k (Io k (WZ a b)))
 | .sub=>some (.int k (Io k (Re a b)))
 | .eql=>some (.bool (FD a b))
 | .neq=>some (.bool (!FD a b))
 | .lss=>some (.bool (!leZ b a))
 | .leq=>some (.bool (leZ a b))
 | .gtr=>some (.bool (!leZ a b))
 | .geq=>some (.bool (leZ b a))
 |_=>none
def ow(P:Program)(op:BinOp)(t:aF)(x y:az)(a b:ah):ak ah:=
 match (match a,b with
  | .int j m,.int k n=>cond (BG j k) (sw op j m n) none
  |_,_=>none)with
 |some v=>some v
 |none=>cond (cB a&&cB b) (kQ P (do eqGuard op t x y a b;binOp op t a b))
  (match op with
  | .eql=>(match wz P t a b with|some b=>some (.bool b)|none=>none)
  | .neq=>(match wz P t a b with|some b=>some (.bool !b)|none=>none)
  |_=>none)
noncomputable def DF(l:ae ah):ak (ae UInt8):=
 List.rec (motive:=λ_=>ak (ae UInt8)) (some []) (λv _ ih=>match v,ih with
  | .int .u8 k,some r=>some (UInt8.ofNat k.toNat::r)
  |_,_=>none) l
noncomputable def uU(ρ:az->ah)(zero:ae ah)(parts:ae (Nat×Nat×az)):ak (ae ah):=
 List.rec (motive:=λ_=>ae ah->ak (ae ah)) (λcs=>some cs)
  (λp _ ih cs=>match p with
    |(off,size,x)=>match cellsOf (ρ x)with
     |none=>none
     |some vs=>cond (Nat.beq (jq vs) size) (match jE cs off vs with
      |some cs=>ih cs
      |none=>none) none) parts zero
noncomputable def jw(ρ:az->ah)(x:ak az):ak ah:=
 match x with
 |some x=>some (ρ x)
 |none=>none
noncomputable def aK.alloc(c:aK)(ρ:az->ah):ak ((Nat->ah)×aN):=
 match c with
 | .new cs _=>some (λi=>.pointer (some ⟨i,0,none⟩),.cells cs)
 | .box x _=>match cellsOf (ρ x)with
   |some cs=>some (λi=>.pointer (some ⟨i,0,none⟩),.cells cs)
   |none=>none
 | .yX _ len zero parts=>match uU ρ zero parts with
   |some cs=>some (λi=>.slice (FC i 0) len len,.cells cs)
   |none=>none
 | .yY=>some (λi=>.map (some i),.map [] 0)
 | .xK _ size bytes zero l c=>match ρ l,ρ c with
   | .int .i64 (.ofNat l),.int .i64 (.ofNat c)=>cond (Nat.ble l c&&Nat.ble (Nat.mul c bytes) small&&Nat.ble (Nat.mul c size) small&&Nat.ble c small)
      (some (λi=>.slice (FC i 0) l c,.cells (zeros zero c))) none
   |_,_=>none
 |_=>none
noncomputable def uf(x:ak ((Nat->ah)×aN))(h:IH):ak (ah×IH):=
 match x with
 |some (f,o)=>some (f h.next,h.new o)
 |none=>none
noncomputable def aK.run(P:Program)(c:aK)(ρ:az->ah)(h:IH):ak (ah×IH):=
 match c with
 | .mv x=>some (ρ x,h)
 | .jh x=>some (ρ x,h)
 | .pick c a b=>match ρ c with
   | .bool t=>some (cond t (ρ a) (ρ b),h)
   |_=>none
 | .new cs t=>uf ((aK.new cs t).alloc ρ) h
 | .box x t=>uf ((aK.box x t).alloc ρ) h
 | .build zero parts=>match uU ρ zero parts with
   |some cs=>some (.agg ⟨cs⟩,h)
   |none=>none
 | .yX t len zero parts=>uf ((aK.yX t len zero parts).alloc ρ) h
 | .fE a=>match ρ a with
   | .pointer (some ⟨i,o,none⟩)=>match h.qM i o with
     |some v=>some (v,h)
     |none=>none
   |_=>none
 | .tX n a=>match ρ a with
   | .pointer (some ⟨i,o,none⟩)=>match h.iK i o n with
     |some cs=>some (.agg ⟨cs⟩,h)
     |none=>none
   |_=>none
 | .store n a x=>match ρ a,cellsOf (ρ x)with
   | .pointer (some ⟨i,o,none⟩),some vs=>cond (Nat.beq (jq vs) n) (match h.storeAt i o vs with
     |some h=>some (eO,h)
     |none=>none) none
   |_,_=>none
 | .ng x=>match ρ x with
   | .pointer (some a)=>some (.pointer (some a),h)
   | .iface t v=>some (.iface t v,h)
   | .func (.func f) first captured=>some (.func (.func f) first captured,h)
   | .func (.methodOf t n) first captured=>some (.func (.methodOf t n) first captured,h)
   | .func (.yield l) first captured=>some (.func (.yield l) first captured,h)
   |_=>none
 | .bin op t x y=>match ow P op t x y (ρ x) (ρ y)with
   |some v=>some (v,h)
   |none=>none
 | .un op x=>cond (cB (ρ x)) (match kQ P (Op.unary op (ρ x))with
   |some v=>some (v,h)
   |none=>none) none
 | .conv s d x=>cond (cB (ρ x)) (match kQ P (convert s d (ρ x))with
   |some v=>some (v,h)
   |none=>none) none
 | .WN _ x=>match ρ x with
   | .string b=>some (.slice (some ⟨h.next,0,some 1⟩) b.data.toList.length b.data.toList.length,h.new (.cells (nQ (λc=>.int .u8 c.toNat) b.data.toList)))
   |_=>none
 | .Il x=>match ρ x with
   | .slice none _ _=>some (.string .empty,h)
   | .slice (some ⟨i,o,_⟩) n _=>match h.iK i o n with
     |some cs=>match DF cs with
      |some bs=>some (.string ⟨⟨bs⟩⟩,h)
      |none=>none
     |none=>none
   |_=>none
 | .iface t x=>some (.iface t (ρ x),h)
 | .Dy fn first captured=>some (.func fn ⟨nQ ρ first⟩ ⟨nQ ρ captured⟩,h)
 | .yY=>uf (aK.yY.alloc ρ) h
 | .xK e size bytes zero l c=>uf ((aK.xK e size bytes zero l c).alloc ρ) h
 | .WO t x lo hi mx=>match ρ x with
   | .string s=>match bounds? s.size s.size (jw ρ lo) (jw ρ hi) (jw ρ mx)with
     |some _=>match kQ P (Instr.slice t (.string s) (jw ρ lo) (jw ρ hi) (jw ρ mx))with
      |some v=>some (v,h)
      |none=>none
     |none=>none
   |_=>none
 | .Q9 n size x lo hi mx=>match ρ x with
   | .pointer (some ⟨i,o,none⟩)=>match bounds? n n (jw ρ lo) (jw ρ hi) (jw ρ mx)with
     |some (l,hh,m)=>some (.slice (FC i (Nat.add o (Nat.mul l size))) (Nat.sub hh l) (Nat.sub m l),h)
     |none=>none
   |_=>none
 | .FB size x lo hi mx=>match ρ x with
   | .slice a len cap=>match bounds? len cap (jw ρ lo) (jw ρ hi) (jw ρ mx)with
     |some (l,hh,m)=>match a with
      |none=>some (.slice none (Nat.sub hh l) (Nat.sub m l),h)
      |some ⟨i,o,some 0⟩=>some (.slice (FC i (Nat.add o (Nat.mul l size))) (Nat.sub hh l) (Nat.sub m l),h)
      |some ⟨i,o,some (k+1)⟩=>cond (Nat.beq (Nat.succ k) size) (some (.slice (some ⟨i,Nat.add o (Nat.mul l size),match mx with|some _=>some 0|none=>some (Nat.succ k)⟩) (Nat.sub hh l) (Nat.sub m l),h)) none
      |some ⟨_,_,none⟩=>none
     |none=>none
   |_=>none
 | .iq off x=>match ρ x with
   | .pointer (some ⟨i,o,none⟩)=>some (.pointer (some ⟨i,Nat.add o off,none⟩),h)
   |_=>none
 | .field _ off n agg x=>match ρ x with
   | .agg ⟨cs⟩=>match agg with
     |true=>match jW (kP cs off) n with
      |some l=>some (.agg ⟨l⟩,h)
      |none=>none
     |false=>match lu cs off with
      |some v=>some (v,h)
      |none=>none
   |_=>none
 | .Ra n size x ix=>match ρ x,ρ ix with
   | .pointer (some ⟨b,o,none⟩),.int _ (.ofNat i)=>cond (Nat.blt i n) (some (.pointer (some ⟨b,Nat.add o (Nat.mul i size),none⟩),h)) none
   |_,_=>none
 | .jv size x ix=>match ρ x,ρ ix with
   | .slice (some ⟨b,o,_⟩) n _,.int _ (.ofNat i)=>cond (Nat.blt i n) (some (.pointer (some ⟨b,Nat.add o (Nat.mul i size),none⟩),h)) none
   |_,_=>none
 | .WQ x ix=>match ρ x,ρ ix with
   | .string s,.int _ (.ofNat i)=>match lu s.data.toList i with
     |some b=>some (.int .u8 b.toNat,h)
     |none=>none
   |_,_=>none
 | .WS n size agg x ix=>match ρ x,ρ ix with
   | .agg ⟨cs⟩,.int _ (.ofNat i)=>cond (Nat.blt i n) (match agg with
     |true=>match jW (kP cs (Nat.mul i size)) size with
      |some l=>some (.agg ⟨l⟩,h)
      |none=>none
     |false=>match lu cs (Nat.mul i size)with
      |some v=>some (v,h)
      |none=>none) none
   |_,_=>none
 | .lookup kt zero m k ok=>match DD P kt zero (ρ m) (ρ k) ok h with
   |some v=>some (v,h)
   |none=>none
 | .M3 kt m k v=>match Im P kt (ρ m) (ρ k) (ρ v) h with
   |some h=>some (eO,h)
   |none=>none
 | .WT kt zero m k=>afV P kt zero (ρ m) (ρ k) h
 | .WU m s v=>match afW (ρ m) (ρ s) (ρ v) h with
   |some h=>some (eO,h)
   |none=>none
 | .Rb x=>match ρ x with
   | .string s=>some (.pointer (some ⟨h.next,0,none⟩),h.new (.DC s 0))
   |_=>none
 | .rangeMap x=>match ρ x with
   | .map none=>some (.pointer (some ⟨h.next,0,none⟩),h.new (.mapIter none 0 [] 0))
   | .map (some m)=>match h.get m with
     |some (.map _ clock)=>some (.pointer (some ⟨h.next,0,none⟩),h.new (.mapIter (some m) clock [] clock))
     |_=>none
   |_=>none
 | .WV it=>match ρ it with
   | .pointer (some ⟨r,0,none⟩)=>match h.get r with
     |some (.DC s pos)=>cond (Nat.blt pos s.size)
       (some (.tuple #[.bool true,goInt pos,.int .i32 (Utf8.decode s pos).1],h.set r (.DC s (Nat.add pos (Utf8.decode s pos).2))))
       (some (.tuple #[.bool false],h))
     |_=>none
   |_=>none
 | .entry it=>match ρ it with
   | .pointer (some ⟨r,0,none⟩)=>match h.get r with
     |some (.mapIter (some m) _ seen stepped)=>match h.get m with
      |some (.map es clock)=>match seen.getLast? with
       |some stamp=>cond (Nat.beq clock stepped) (match es.find? (λe=>Nat.beq e.born stamp)with
        |some e=>some (.tuple #[e.key,e.val],h)
        |none=>none) none
       |none=>none
      |_=>none
     |_=>none
   |_=>none
 | .M4 t zero ok x=>match ρ x with
   | .nilIface=>cond ok (some (.tuple #[zero,.bool false],h)) none
   | .iface u v=>cond (Nat.beq u t) (some (cond ok (.tuple #[v,.bool true]) v,h)) (cond ok (some (.tuple #[zero,.bool false],h)) none)
   |_=>none
 | .extract x i=>match ρ x with
   | .tuple ⟨vs⟩=>match lu vs i with
     |some v=>some (v,h)
     |none=>none
   |_=>none
 | .append _ size bytes s x=>match qb (ρ x)with
   |some n=>match yZ size n (ρ x) h with
    |some xs=>z8 size bytes (ρ s) n xs h
    |none=>none
   |none=>none
 | .M5 _ size bytes zero s x=>match ρ s,ρ x with
   | .slice none 0 0,.int .i64 (.ofNat (n+1))=>cond (Nat.ble (Nat.mul (n+1) bytes) small&&Nat.ble (Nat.mul (n+1) size) small&&Nat.ble (n+1) small) (some (.slice (some ⟨h.next,0,some size⟩) (n+1) (n+1),h.new (.cells (zeros zero (n+1))))) none
   |_,_=>none
 | .copy size d x=>WY size (ρ d) (ρ x) h
 | .clear zero x=>match ρ x with
   | .slice (some ⟨i,o,some _⟩) (n+1) _=>match h.storeAt i o (zeros zero (n+1))with
     |some h'=>some (.tuple #[],h')
     |none=>none
   | .slice _ 0 _=>some (.tuple #[],h)
   |_=>none
 | .WW x=>match ρ x with
   | .string s=>some (goInt s.size,h)
   |_=>none
 | .M6 n=>some (goInt n,h)
 | .p9 x=>match ρ x with
   | .slice _ n _=>some (goInt n,h)
   |_=>none
 | .M7 x=>match entriesOf (ρ x) h with
   |some es=>some (goInt (jq es),h)
   |none=>none
 | .WX x=>match ρ x with
   | .slice none _ c=>some (goInt c,h)
   | .slice (some ⟨_,_,some 0⟩) _ c=>some (goInt c,h)
   |_=>none
 | .Dz max args=>match nQ ρ args with
   |[.int j a,.int k b]=>cond (BG j k) (some (.int j (cond max (cond (leZ b a) a b) (cond (leZ a b) a b)),h)) none
   |args=>cond (gJ args) (match kQ P (cond max (Builtin.max_ #[] 0 ⟨args⟩) (Builtin.min_ #[] 0 ⟨args⟩))with
    |some v=>some (v,h)
    |none=>none) none
 | .zZ _| .call _ _| .invoke _ _ _| .recover| .panic _| .dcall _ _=>none
end Go.Ideal
namespace Go.Ideal
noncomputable section
def kw(P:Program)(t:aF):ak Nat:=(P.info? t).map (·.size)
def zeroOf(P:Program)(t:aF):ak ah:=
 match (P.info? t).bind (·.zero)with
 |some z=>if cB z then some z else none
 |none=>none
def lD(P:Program)(t:aF):Bool:=
 match P.underlying t with
 |some (.struct _)|some (.array _ _)=>true
 |_=>false
def y5(P:Program)(t:aF):ak (ae ah):=
 match zeroOf P t,kw P t with
 |some z,some n=>if z.cells.toList.length=n/\gJ z.cells.toList then some z.cells.toList else none
 |_,_=>none
def qc(P:Program)(t:aF):ak Nat:=
 match kw P t with
 |some 0=>none
 |s=>s
def BH(P:Program)(fs:Array Field):ae (Nat×az)->ak (ae (Nat×Nat×az))
 |[]=>some []
 |(i,x)::l=>match fs[i]?,BH P fs l with
  |some f,some r=>match kw P f.type with
   |some s=>some ((f.offset,s,x)::r)
   |none=>none
  |_,_=>none
def placesOf(P:Program)(fs:Array Field)(parts:ae (Nat×az)):ak (ae (Nat×Nat×az)):=
 if fs.toList.all (λf=>(kw P f.type).isSome)then BH P fs parts else none
def M8:Fn->Bool
 | .yield _=>false
 | .via .. =>false
 |_=>true
def cop(P:Program)(o:Oper):ak aK:=
 match o.op with
 | .move x=>some (.mv x)
 | .assign x=>some (.jh x)
 | .pick c a b=>some (.pick c a b)
 | .alloc e=>match y5 P e with
   |some cs=>some (.new cs e)
   |none=>none
 | .box e x=>some (.box x e)
 | .build t parts=>match P.underlying t,y5 P t with
   |some (.struct fs),some z=>match placesOf P fs parts.toList with
    |some ps=>some (.build z ps)
    |none=>none
   |some (.array _ e),some z=>match qc P e with
    |some s=>some (.build z (parts.toList.map λ(i,x)=>(i*s,s,x)))
    |none=>none
   |_,_=>none
 | .buildSlice t len parts=>match P.underlying t with
   |some (.slice e)=>match qc P e,y5 P e with
    |some s,some z=>if len*s<=2^24 then some (.yX e len (zeros z len) (parts.toList.map λ(i,x)=>(i*s,s,x)))else none
    |_,_=>none
   |_=>none
 | .load t a=>if lD P t then(kw P t).map λn=>.tX n a else match P.underlying t with
   |some _=>some (.fE a)
   |none=>none
 | .store t a x=>(kw P t).map λn=>.store n a x
 | .nilCheck x=>some (.ng x)
 | .binOp op t x y _=>some (.bin op t x y)
 | .unOp op _ x=>some (.un op x)
 | .convert s d x=>match P.underlying s,P.underlying d with
   |some .string,some (.slice _)=>none
   |some (.slice e),some .string=>match P.underlying e with
    |some (.int .u8)=>some (.Il x)
    |_=>none
   |some (.slice _),some (.slice _)=>none
   |some _,some _=>some (.conv s d x)
   |_,_=>none
 | .makeInterface t x=>match P.underlying t with
   |some (.interface _)=>none
   |some _=>some (.iface t x)
   |none=>none
 | .makeFunc fn first captured=>if M8 fn then some (.Dy fn first.toList captured.toList)else none
 | .makeMap _ none=>some .yY
 | .makeSlice t l c=>match P.underlying t with
   |some (.slice e)=>match qc P e,y5 P e with
    |some s,some z=>some (.xK e s ((P.info? e).map (·.bytes)).get! z l c)
    |_,_=>none
   |_=>none
 | .slice t x lo hi mx=>match P.underlying t with
   |some .string=>some (.WO t x lo hi mx)
   |some (.array n e)=>(qc P e).map λs=>.Q9 n s x lo hi mx
   |some (.slice e)=>(qc P e).map λs=>.FB s x lo hi mx
   |_=>none
 | .fieldAddr s x f=>match P.underlying s with
   |some (.struct fs)=>match fs[f]? with
    |some f=>(qc P f.type).map λ_=>.iq f.offset x
    |none=>none
   |_=>none
 | .field t x f=>match P.underlying t with
   |some (.struct fs)=>match fs[f]? with
    |some f=>match kw P f.type,P.underlying f.type with
     |some n,some _=>some (.field f.type f.offset n (lD P f.type) x)
     |_,_=>none
    |none=>none
   |_=>none
 | .indexAddr t x i=>match P.underlying t with
   |some (.array n e)=>(qc P e).map λs=>.Ra n s x i
   |some (.slice e)=>(qc P e).map λs=>.jv s x i
   |_=>none
 | .index t x i=>match P.underlying t with
   |some (.array n e)=>match qc P e,P.underlying e with
    |some s,some _=>some (.WS n s (lD P e) x i)
    |_,_=>none
   |some .string=>some (.WQ x i)
   |_=>none
 | .lookup t m k ok=>match P.underlying t with
   |some (.map kt et)=>(zeroOf P et).map λz=>.lookup kt z m k ok
   |_=>none
 | .mapUpdate t m k v| .insert t m k v=>match P.underlying t with
   |some (.map kt _)=>some (.M3 kt m k v)
   |_=>none
 | .range t x=>match P.underlying t with
   |some .string=>some (.Rb x)
   |some (.map _ _)=>some (.rangeMap x)
   |_=>none
 | .next it false=>some (.zZ it)
 | .entry it=>some (.entry it)
 | .typeAssert x _ t ok=>match P.underlying t with
   |some (.interface _)=>none
   |some _=>(zeroOf P t).map λz=>.M4 t z ok x
   |none=>none
 | .extract t i=>some (.extract t i)
 | .panic x=>some (.panic x)
 | .defer {callee:=.value f,args,.. }=>some (.dcall f args.toList)
 | .call {callee:=.value f,args,.. }=>some (.call f args.toList)
 | .call {callee:=.invoke x name,args,.. }=>some (.invoke x name args.toList)
 | .call {callee:=.builtin b,args,argTypes}=>match b,args.toList with
   | .recover,_=>some .recover
   | .panic,[x]=>some (.panic x)
   | .append,[s,x]=>match argTypes[0]?,argTypes[1]? with
     |some st,some xt=>match P.underlying st,P.underlying xt with
      |some (.slice e),some xd=>match qc P e,(P.info? e).map (·.bytes),y5 P e with
       |some s',some (b+1),some z=>match xd with
        | .int _=>some (.M5 e s' (b+1) z s x)
        |_=>some (.append e s' (b+1) s x)
       |_,_,_=>none
      |_,_=>none
     |_,_=>none
   | .clear,[x]=>match argTypes[0]? with
     |some t=>match P.underlying t with
      |some (.slice e)=>match y5 P e with
       |some (z::zs)=>some (.clear (z::zs) x)
       |_=>none
      |_=>none
     |none=>none
   | .copy,[d,x]=>match argTypes[0]? with
     |some dt=>match P.underlying dt with
      |some (.slice e)=>(qc P e).map λs=>.copy s d x
      |_=>none
     |none=>none
   | .len,[x]=>match argTypes[0]? with
     |some t=>match P.underlying t with
      |some .string=>some (.WW x)
      |some (.array n _)=>some (.M6 n)
      |some (.pointer p)=>match P.underlying p with
       |some (.array n _)=>some (.M6 n)
       |_=>none
      |some (.slice _)=>some (.p9 x)
      |some (.map _ _)=>some (.M7 x)
      |_=>none
     |none=>none
   | .cap,[x]=>match argTypes[0]? with
     |some t=>match P.underlying t with
      |some (.slice _)=>some (.WX x)
      |_=>none
     |none=>none
   | .min,args=>some (.Dz false args)
   | .max,args=>some (.Dz true args)
   |_,_=>none
 |_=>none
def FE(P:Program):az->Bool
 | .const (.tuple ⟨[]⟩)=>true
 | .const v=>cB v
 | .global g=>Nat.blt g P.globals.size
 |_=>true
def Ip(P:Program)(ops:Array Oper)(o:Oper):ak iY:=
 if o.op.operands.toList.all (FE P)then match cop P o with
 |none=>none
 |some c=>match o.guard with
  |none=>some ⟨o.dst,none,c⟩
  |some (j,want)=>match (ops[j]?).bind (·.dst)with
   |some t=>some ⟨o.dst,some (t,want),c⟩
   |none=>none
 else none
def heavy:aK->Bool
 | .jh .. | .store .. | .M3 .. | .WT .. | .WU .. | .Rb .. | .rangeMap .. | .WV .. | .zZ .. | .append .. | .M5 .. | .copy .. | .clear .. | .WN ..
 | .call .. | .invoke .. | .recover| .panic .. | .dcall .. =>true
 |_=>false
def FH:aK->Bool
 | .fE .. | .tX .. | .lookup .. | .entry .. | .Il .. | .M7 .. =>true
 |_=>false
def FI(ops:Array Oper)(done:ae Nat)(i:Nat):Bool:=
 !done.contains i&&match ops[i]? with
  |some o=>o.after.toList.all λe=>!Region.binds .any e||done.contains e.on
  |none=>false
def looks(ops:Array Oper)(o:Oper):ae Tmp:=
 (o.op.operands.toList.filterMap λ| .tmp t=>some t|_=>none)++
 (match o.guard with
  |some (g,_)=>((ops[g]?).bind (·.dst)).toList
  |none=>[])
def Rf(ops:Array Oper)(hv:Nat->Bool):Nat->ae Nat->ae Nat
 |0,done=>done.reverse
 |f+1,done=>
  match (List.range ops.size).find? λi=>!hv i&&FI ops done i with
  |some i=>Rf ops hv f (i::done)
  |none=>match (List.range ops.size).find? λi=>FI ops done i with
   |some i=>Rf ops hv f (i::done)
   |none=>done.reverse
def W9(ops:Array Oper)(cz:Nat->Nat->Bool)(hv:Nat->Bool)(done:ae Nat)(i:Nat):Bool:=
 match ops[i]? with
 |none=>false
 |some o=>
  FI ops done i&&
  (!hv i||(done.all λj=>!hv j||cz i j)&&(List.range ops.size).all λj=>hv j||!FI ops done j)&&
  (match o.dst with
  |none=>true
  |some d=>(hv i||!(looks ops o).contains d)&&done.all λj=>match ops[j]? with
   |some p=>if(looks ops p).contains d||p.dst==some d then hv i&&cz i j else true
   |none=>false)&&
  done.all λj=>match ops[j]? with
   |some p=>match p.dst with
    |some d=>if(looks ops o).contains d then cz i j else true
    |none=>true
   |none=>false
def Iq(ops:Array Oper)(cz:Nat->Nat->Bool)(hv:Nat->Bool):ae Nat->ae Nat->Bool
 |[],done=>(List.range ops.size).all λi=>done.contains i
 |i::l,done=>W9 ops cz hv done i&&Iq ops cz hv l (i::done)
def Ir(cz:Nat->Nat->Bool)(cs:Nat->ak iY):ae Nat->ae Nat->ak (ae bW)
 |[],_=>some []
 |i::l,done=>match cs i,Ir cz cs l (i::done)with
  |some s,some r=>some (⟨s,if heavy s.op then done.filterMap λj=>match cs j with
    |some t=>if FH t.op&&!cz i j then some t else none
    |none=>none else[]⟩::r)
  |_,_=>none
def uV(ops:Array Oper):Nat->Nat->Bool:=
 let b:=Region.before ops
 λi j=>(b.getD i 0).testBit j
def mH(P:Program)(ops:Array Oper)(i:Nat):ak iY:=(ops[i]?).bind (Ip P ops)
def BI(P:Program)(ops:Array Oper)(i:Nat):Bool:=
 match mH P ops i with
 |some s=>heavy s.op
 |none=>true
def Xa(P:Program)(ops:Array Oper):ak (ae bW):=
 let l:=Rf ops (BI P ops) ops.size []
 if Iq ops (uV ops) (BI P ops) l []then Ir (uV ops) (mH P ops) l []else none
def dstsOf(ops:Array Oper):ae Tmp:=ops.toList.filterMap (·.dst)
def M9(P:Program)(ops:Array Oper)(draw:Bool):dH:=
 match (if draw then Xa P ops else ops.toList.mapM λo=>(Ip P ops o).map λs=>⟨s,[]⟩)with
 |some l=>.ops (dstsOf ops) l
 |none=>.fail
def compile(P:Program):Code->dH
 | .skip| .label _=>.skip
 | .region _ ops draw=>M9 P ops draw
 | .seq a b=>.seq (compile P a) (compile P b)
 | .cond c a b=>.cond c (compile P a) (compile P b)
 | .block id a=>.block id (compile P a)
 | .loop a=>.loop (compile P a)
 | .rangeFunc f params assign body=>if FE P f then .rangeFunc f params.toList (compile P assign) (compile P body)else .fail
 | .exit id=>.exit id
 | .scope a=>.scope (compile P a)
 | .ret=>.ret
 | .goto _| .refuse _=>.fail
inductive ug where
 |tmp (t:Tmp)
 |cell1 (a:Tmp)
 |sD (n:Nat) (a:Tmp)
def Iu(P:Program):ResultVar->ak ug
 | .tmp t=>some (.tmp t)
 | .cell a t=>if lD P t then(kw P t).map λn=>.sD n a else match P.underlying t with
   |some _=>some (.cell1 a)
   |none=>none
structure iL where
 ntmps:Nat
 results:List ug
 body:dH
def xL(P:Program)(fn:Func):ak iL:=
 match fn.body,fn.results.toList.mapM (Iu P)with
 |some c,some rs=>if fn.name= "runtime.NumGoroutine" then none else some ⟨fn.ntmps,rs,compile P c⟩
 |_,_=>none
inductive jy where
 |ok (v:Value)
 |gT (chain:List PanicEntry)
structure bD where
 fn:Fn
 args:List Value
 captured:List Value
 pm:Option FrameMode
def Aa(l:ae ah):Nat->T ah->T ah:=
 List.rec (motive:=λ_=>Nat->T ah->T ah) (λ_ t=>t) (λv _ ih i t=>ih (Nat.succ i) (t.set i (some v))) l
def uh(a b:Nat):Nat:=cond (Nat.ble a b) b a
def DI(n:Nat)(args:ae ah)(pm:ak FrameMode):bB:=
 {n:=uh n (jq args),tmps:=Aa args 0 .leaf,defers:=[],pm,ro:=none}
def wB(tmps:T ah)(h:IH)(r:ug):ak ah:=
 match r with
 | .tmp t=>some (dU tmps t)
 | .cell1 a=>match dU tmps a with
   | .pointer (some ⟨i,o,none⟩)=>match h.get i with
     |some (.cells cs)=>lu cs o
     |_=>none
   |_=>none
 | .sD n a=>match dU tmps a with
   | .pointer (some ⟨i,o,none⟩)=>match h.qa i o n with
     |some cs=>some (.agg ⟨cs⟩)
     |none=>none
   |_=>none
def Ab(tmps:T ah)(h:IH)(l:ae ug):ak (ae ah):=
 List.rec (motive:=λ_=>ak (ae ah)) (some []) (λr _ ih=>match wB tmps h r,ih with
  |some v,some vs=>some (v::vs)
  |_,_=>none) l
def uj(rs:ae ug)(tmps:T ah)(h:IH):ak ah:=
 match Ab tmps h rs with
 |some [v]=>some v
 |some vs=>some (.tuple ⟨vs⟩)
 |none=>none
def BJ:FrameMode->FrameMode
 | .panicking (e::older)=>cond e.recovered (match older.dropWhile (!·.goexit)with
    |[]=>.returning
    |rest=>.panicking rest) (.panicking (e::older))
 |m=>m
def FJ(u:FrameMode)(chain:ae PanicEntry):FrameMode:=
 match u with
 | .panicking old=>.panicking (chain++old)
 |_=>.panicking chain
def mI(pm:FrameMode):ah×FrameMode:=
 match pm with
 | .panicking (e::older)=>cond (e.recovered||e.goexit) (.nilIface,pm) (e.v,.panicking ({e with recovered:=true}::older))
 |_=>(.nilIface,pm)
def FK(P:Program)(t:aF)(v:ah)(name:String):ak (fI×ah):=
 match P.info? t with
 |none=>none
 |some info=>match info.methods.find? (·.name==name)with
  |none=>none
  |some m=>if m.path.size≠0 then none else match m.func with
   |some (f,ptr)=>match P.underlying t,ptr with
    |some (.pointer _),true=>some (f,v)
    |some (.pointer _),false=>none
    |some _,false=>some (f,v)
    |_,_=>none
   |none=>none
def target(P:Program)(q:bD):ak (fI×ae ah):=
 match q.fn with
 | .func f=>some (f,lX q.args q.captured)
 | .method name=>match q.args with
   | .iface t v::args=>match FK P t v name with
     |some (f,r)=>some (f,r::args)
     |none=>none
   |_=>none
 | .methodOf t name=>match q.args with
   |x::args=>match P.underlying t with
    |some (.interface _)=>match x with
     | .iface t v=>match FK P t v name with
       |some (f,r)=>some (f,r::args)
       |none=>none
     |_=>none
    |some _=>match FK P t x name with
     |some (f,r)=>some (f,r::args)
     |none=>none
    |none=>none
   |[]=>none
 |_=>none
def Ac(c:aK)(ρ:az->ah):ak bD:=
 match c with
 | .call f args=>match ρ f with
   | .func fn ⟨first⟩ ⟨captured⟩=>some ⟨fn,lX first (nQ ρ args),captured,none⟩
   |_=>none
 | .invoke x name args=>some ⟨.method name,ρ x::nQ ρ args,[],none⟩
 |_=>none
def forget(ds:ae Tmp)(a:bB):bB:=
 List.rec (motive:=λ_=>bB->bB) (λa=>a) (λd _ ih a=>ih (a.set d eO)) ds a
def DJ(it:ah)(h:IH):ak (ae (ah×IH)):=
 match it with
 | .pointer (some ⟨r,0,none⟩)=>match h.get r with
   |some (.mapIter none _ _ _)=>some [(.tuple #[.bool false],h)]
   |some (.mapIter (some m) since seen last)=>match h.get m with
    |some (.map es clock)=>
     cond (!seen.isEmpty&&!es.isEmpty&&es.all (λe=>Nat.ble last e.born)) none
      (let left:=es.filter λe=>!seen.contains e.born
      let old:=left.filter λe=>Nat.blt e.born since
      let new:=left.filter λe=>Nat.ble since e.born
      some ((if old.isEmpty then[(.tuple #[.bool false],h)]else[])++
       (old++new).map λe=>(.tuple #[.bool true,e.key,e.val],h.set r (.mapIter (some m) since (seen++[e.born]) clock))))
    |_=>none
   |_=>none
 |_=>none
def inBlock(id:Nat)(o:Out):Out:=
 match o with
 | .exit j=>cond (Nat.beq j id) .normal (.exit j)
 |o=>o
def xM(o:Out):ak FrameMode:=
 match o with
 | .normal| .ret=>some .returning
 | .panic ch=>some (.panicking ch)
 | .exit _=>none
def BK(n:Nat)(ps:ae Tmp)(args:ae ah)(t:T ah):T ah:=
 List.rec (motive:=λ_=>ae ah->T ah->T ah) (λ_ t=>t)
  (λp _ ih args t=>match args with
    |v::args=>ih args (cond (Nat.blt p n) (t.set p (some v)) t)
    |[]=>t) ps args t
mutual
def qN(m:Nat):ah->Bool
 | .pointer (some a)=>Nat.blt a.block m
 | .slice (some a) _ _=>Nat.blt a.block m
 | .map (some i)=>Nat.blt i m
 | .func fn ⟨f⟩ ⟨c⟩=>(match fn with
   | .yield _=>false
   |_=>true)&&uW m f&&uW m c
 | .iface _ v=>qN m v
 | .agg ⟨l⟩=>uW m l
 | .tuple ⟨l⟩=>uW m l
 |_=>true
def uW(m:Nat):ae ah->Bool
 |[]=>true
 |v::l=>qN m v&&uW m l
end
def Iw(m:Nat):aN->Bool
 | .cells cs=>uW m cs
 | .map es _=>es.all λe=>qN m e.val
 |_=>false
abbrev KO:=Out->bB->IH->Prop
abbrev KR:=jy->ak FrameMode->IH->Prop
end
end Go.Ideal
namespace Go.Ideal
noncomputable section
def FL{α:Type}(f:Nat):ae α->T α:=
 Nat.rec (motive:=λ_=>ae α->T α) (λ_=>.leaf)
  (λ_ ih l=>List.rec (motive:=λ_=>T α) .leaf (λx l _=>.node (some x)
    (ih (List.rec (motive:=λ_=>Bool->ae α) (λ_=>[]) (λy _ r b=>Bool.rec (motive:=λ_=>ae α) (r true) (y::r false) b) l true))
    (ih (List.rec (motive:=λ_=>Bool->ae α) (λ_=>[]) (λy _ r b=>Bool.rec (motive:=λ_=>ae α) (r true) (y::r false) b) l false))) l) f
def oW(f:Nat):ah->ah->Bool:=
 Nat.rec (motive:=λ_=>ah->ah->Bool) (λ_ _=>false)
  (λ_ ih v u=>match v,u with
    | .bool a,.bool b=>a==b
    | .int .i64 a,.int .i64 b=>FD a b
    | .int j a,.int k b=>j==k&&a==b
    | .string a,.string b=>a.data.toList==b.data.toList
    | .pointer none,.pointer none=>true
    | .pointer (some ⟨i,o,none⟩),.pointer (some ⟨j,p,none⟩)=>Nat.beq i j&&Nat.beq o p
    | .slice none n c,.slice none m d=>Nat.beq n m&&Nat.beq c d
    | .slice (some ⟨i,o,some f⟩) n c,.slice (some ⟨j,p,some g⟩) m d=>Nat.beq i j&&Nat.beq o p&&Nat.beq f g&&Nat.beq n m&&Nat.beq c d
    | .map none,.map none=>true
    | .map (some i),.map (some j)=>Nat.beq i j
    | .nilIface,.nilIface=>true
    | .nilFunc,.nilFunc=>true
    | .iface t v,.iface s u=>Nat.beq t s&&ih v u
    | .agg ⟨a⟩,.agg ⟨b⟩=>List.rec (motive:=λ_=>ae ah->Bool) (λb=>match b with|[]=>true|_=>false) (λx _ r b=>match b with|y::b=>cond (ih x y) (r b) false|[]=>false) a b
    | .tuple ⟨a⟩,.tuple ⟨b⟩=>List.rec (motive:=λ_=>ae ah->Bool) (λb=>match b with|[]=>true|_=>false) (λx _ r b=>match b with|y::b=>cond (ih x y) (r b) false|[]=>false) a b
    | .func f ⟨a⟩ ⟨c⟩,.func g ⟨b⟩ ⟨d⟩=>f==g&&
       List.rec (motive:=λ_=>ae ah->Bool) (λb=>match b with|[]=>true|_=>false) (λx _ r b=>match b with|y::b=>cond (ih x y) (r b) false|[]=>false) a b&&
       List.rec (motive:=λ_=>ae ah->Bool) (λb=>match b with|[]=>true|_=>false) (λx _ r b=>match b with|y::b=>cond (ih x y) (r b) false|[]=>false) c d
    |_,_=>false) f
abbrev BO:=Out->bB->IH->Bool
abbrev BR:=jy->ak FrameMode->IH->Bool
structure Ev where
 code:dH->bB->IH->BO->Bool
 call:bD->IH->BR->Bool
structure Env where
 P:Program
 F:Nat->Option iL
 cut:Nat->Option (bD->IH->Option (List Value×Nat×Nat))
 /-- calls that are known: what they return, and the heap behind them -/
 memo:Nat->Option (bD->IH->Option (Value×IH))
def Iy(P:Program)(re:ae iY)(a:bB)(h:IH):Bool:=
 List.rec (motive:=λ_=>Bool) true (λr _ ih=>cond (match a.wants r.guard with
  |some false=>true
  |_=>match r.op.run P a.eval h with
   |some (u,_)=>match r.dst with
    |some d=>oW 50 (dU a.tmps d) u
    |none=>true
   |none=>false) ih false) re
def Rh(P:Program)(s:bW)(a:bB)(h:IH)(next:bB->IH->Bool):Bool:=
 match s.s.op.run P a.eval h with
 |some (v,h)=>match s.re with
  |[]=>next (a.put s.s.dst v) h
  |re=>cond (Iy P re (a.put s.s.dst v) h) (next (a.put s.s.dst v) h) false
 |none=>false
def Na(P:Program)(E:Ev)(ds:ae Tmp)(s:bW)(a:bB)(h:IH)(next:bB->IH->Bool)(k:BO):Bool:=
 match Ac s.s.op a.eval with
 |some q=>E.call q h λr _ h=>match r with
  | .ok v=>cond (Iy P s.re (a.put s.s.dst v) h) (next (a.put s.s.dst v) h) false
  | .gT ch=>k (.panic ch) (forget ds a) h
 |none=>false
def Iz(s:bW)(b:Bool):Bool:=match s.re with
 |[]=>b
 |_=>false
def Nc(P:Program)(E:Ev)(ds:ae Tmp)(s:bW)(a:bB)(h:IH)(next:bB->IH->Bool)(k:BO):Bool:=
 match s.s.op with
 | .call _ _=>Na P E ds s a h next k
 | .invoke _ _ _=>Na P E ds s a h next k
 | .recover=>Iz s (match a.ro with
   |some _=>false
   |none=>match a.pm with
    |none=>next (a.put s.s.dst .nilIface) h
    |some m=>next ({a with pm:=some (mI m).2}.put s.s.dst (mI m).1) h)
 | .panic x=>match a.eval x with
   | .iface t v=>k (.panic [{v:=.iface t v,recovered:=false}]) (forget ds a) h
   |_=>false
 | .dcall f args=>Iz s (match a.ro with
   |some _=>false
   |none=>match a.eval f with
    | .func fn ⟨first⟩ ⟨captured⟩=>next ({a with defers:={target:=.fn fn ⟨captured⟩,args:=⟨lX first (nQ a.eval args)⟩}::a.defers}.put s.s.dst eO) h
    |_=>false)
 | .zZ x=>Iz s (match DJ (a.eval x) h with
   |some alts=>BF (λvh=>next (a.put s.s.dst vh.1) vh.2) alts
   |none=>false)
 |_=>Rh P s a h next
def IA(P:Program)(E:Ev)(ds:ae Tmp)(l:ae bW):bB->IH->BO->Bool:=
 List.rec (motive:=λ_=>bB->IH->BO->Bool) (λa h k=>k .normal a h)
  (λs _ ih a h k=>match a.wants s.s.guard with
    |some true=>Nc P E ds s a h (λa h=>ih a h k) k
    |some false=>ih (a.put s.s.dst xJ) h k
    |none=>false) l
def DK(E:Ev)(cf:iL)(ts:T ah)(ds:ae Deferred):FrameMode->IH->(jy->IH->Bool)->Bool:=
 List.rec (motive:=λ_=>FrameMode->IH->(jy->IH->Bool)->Bool)
  (λm h k=>match m with
    | .returning=>match uj cf.results ts h with
      |some v=>k (.ok v) h
      |none=>false
    | .panicking ch=>k (.gT ch) h
    | .run=>false)
  (λd _ ih m h k=>match m with
    | .run=>false
    |m=>match d with
     |{target:=.collected r,.. }=>match h.get r with
      |some (.lC true)=>ih m (h.set r (.lC false)) k
      |_=>false
     |{target:=.fn fn ⟨captured⟩,args:=⟨args⟩}=>E.call ⟨fn,args,captured,some m⟩ h λr pm h=>match pm with
      |none=>false
      |some m'=>match r with
       | .ok _=>ih (BJ m') h k
       | .gT ch=>ih (FJ m' ch) h k
     |_=>false) ds
def DL(V:Env)(E:Ev)(f:fI)(args:ae ah)(pm:ak FrameMode)(h:IH)(k:BR):Bool:=
 match V.F f with
 |none=>false
 |some cf=>E.code cf.body (DI cf.ntmps args pm) h λo a h=>match xM o with
  |none=>false
  |some m=>DK E cf a.tmps a.defers m h λr h=>k r a.pm h
def Xb(l:Nat)(o:Out)(a:bB)(h:IH)(k:BR):Bool:=
 match a.defers with
 |[]=>match h.get l with
  |some (.loop r)=>match o with
   | .normal=>k (.ok (.bool true)) none (h.set l (.loop {r with state:=.ready,pending:=none}))
   | .panic ch=>k (.gT ch) none h
   | .exit id=>k (.ok (.bool false)) none (h.set l (.loop {r with state:=.done,pending:=some (.exit id)}))
   | .ret=>k (.ok (.bool false)) none (h.set l (.loop {r with state:=.done,pending:=some .ret}))
  |_=>false
 |_=>false
def Ri(E:Ev)(l:Nat)(args:ae ah)(h:IH)(k:BR):Bool:=
 match h.get l with
 |some (.loop r)=>cond (Nat.beq (jq args) (jq r.params))
  (E.code r.assign {n:=r.n,tmps:=BK r.n r.params args r.tmps,defers:=[],pm:=none,ro:=some l} h λo a h=>match o with
    | .normal=>match h.get l with
      |some (.loop r1)=>match r1.state with
       | .ready=>E.code r.body a (h.set l (.loop {r1 with state:=.busy})) λo a h=>Xb l o a h k
       |_=>false
      |_=>false
    |_=>false) false
 |_=>false
def Xc(cs:ae ah)(n f:Nat)(h0:IH)(r:jy)(pm:ak FrameMode)(h:IH):Bool:=
 match pm with
 |some _=>false
 |none=>match r with
  | .ok (.slice (some ⟨i,o,some f'⟩) n' c)=>cond (Nat.beq n n'&&Nat.beq f f'&&(!Nat.beq f 0||Nat.beq c n)&&Nat.ble h0.next i&&Nat.beq h.low h0.next) (match h.qa i o (jq cs)with
    |some l=>List.rec (motive:=λ_=>ae ah->Bool) (λb=>match b with|[]=>true|_=>false) (λx _ r b=>match b with|y::b=>cond (oW 5 x y) (r b) false|[]=>false) l cs
    |none=>false) false
  |_=>false
def Rj(V:Env)(f:Nat)(q:bD)(h:IH)(k:BR)(other:Bool):Bool:=
 match V.memo f with
 |none=>other
 |some g=>match q.pm with
  |some _=>other
  |none=>match g q h with
   |some (v,h')=>k (.ok v) none h'
   |none=>other
def Rk(V:Env)(E:Ev)(q:bD)(h:IH)(k:BR):Bool:=
 match q.fn with
 | .yield l=>match q.pm with
   |none=>Ri E l q.args h k
   |some _=>false
 |_=>match target V.P q with
  |none=>false
  |some (f',args)=>Rj V f' q h k (match V.cut f' with
   |none=>DL V E f' args q.pm h k
   |some g=>match q.pm with
    |some _=>false
    |none=>match g q h with
     |none=>DL V E f' args q.pm h k
     |some ([],_,_)=>DL V E f' args q.pm h k
     |some (cs,n,f)=>cond (gJ cs&&(Nat.beq f 0||Nat.beq (jq cs) (Nat.mul n f)))
       (cond (DL V E f' args none {h with low:=h.next} (Xc cs n f h))
         (k (.ok (.slice (some ⟨h.next,0,some f⟩) n n)) none (h.new (.cells cs))) false) false)
def Nf(V:Env)(E:Ev)(c:dH)(a:bB)(h:IH)(k:BO):Bool:=
 match c with
 | .skip=>k .normal a h
 | .ops ds l=>IA V.P E ds l a h k
 | .seq x y=>E.code x a h λo a h=>match o with
   | .normal=>E.code y a h k
   |o=>k o a h
 | .cond c x y=>match a.eval c with
   | .bool true=>E.code x a h k
   | .bool false=>E.code y a h k
   |_=>false
 | .block id c=>E.code c a h λo a h=>k (inBlock id o) a h
 | .loop c=>E.code c a h λo a h=>match o with
   | .normal=>E.code (.loop c) a h k
   |o=>k o a h
 | .scope c=>E.code c a h k
 | .exit id=>k (.exit id) a h
 | .ret=>k .ret a h
 | .rangeFunc f ps assign body=>match a.eval f with
   | .func fn ⟨first⟩ ⟨captured⟩=>
     let go (a1:bB) (r:Nat) (h1:IH):Bool:=
      E.call ⟨fn,lX first [.func (.yield h1.next) #[] #[]],captured,none⟩
       (h1.new (.loop {state:=.ready,pending:=none,tmps:=a.tmps,n:=a.n,params:=ps,assign,body,defers:=r})) λres _ h2=>match res with
       | .ok _=>match h2.get h1.next with
         |some (.loop lp)=>match lp.state with
          | .busy=>false
          |_=>k (lp.pending.getD .normal) a1 (h2.set h1.next (.loop {lp with state:=.exhausted}))
         |_=>false
       | .gT ch=>k (.panic ch) a1 h2
     match a.ro with
     |none=>go {a with defers:={target:=.collected h.next,args:= #[]}::a.defers} h.next (h.new (.lC true))
     |some l0=>match h.get l0 with
      |some (.loop r0)=>go a r0.defers h
      |_=>false
   |_=>false
 | .fail=>false
def oZ(V:Env)(n:Nat):Ev:=
 Nat.rec (motive:=λ_=>Ev) ⟨λ_ _ _ _=>false,λ_ _ _=>false⟩ (λ_ E=>⟨Nf V E,Rk V E⟩) n
def ni(P:Program)(cut:Nat->ak (bD->IH->ak (ae ah×Nat×Nat)))(memo:Nat->ak (bD->IH->ak (ah×IH))):Env:=
 {P,F:=λf=>match (FL 100000 P.funcs.toList).get f with
   |some fn=>xL P fn
   |none=>none,cut,memo}
def uk:Nat->ak (bD->IH->ak (ae ah×Nat×Nat)):=λ_=>none
def ul:Nat->ak (bD->IH->ak (ah×IH)):=λ_=>none
noncomputable abbrev lF(P:Program)(n:fI):ak iL:=(ni P uk ul).F n
noncomputable def qd(P:Program)(n:fI):iL:=(lF P n).getD ⟨0,[],.skip⟩
def wC{P:Program}(n:fI)(h:(lF P n).isSome=true:=by kernel_rfl):(ni P uk ul).F n=some (qd P n):=by
 unfold qd;revert h;show(lF P n).isSome=true->lF P n=some ((lF P n).getD ⟨0,[],.skip⟩);cases lF P n with
 |none=>intro h;cases h
 |some c=>intro _;rfl
end
end Go.Ideal
namespace Go.Ideal
section
variable {α:Type}
def T.IB(n:Nat):(T.leaf:T α).get n=none:=rfl
def T.FM(v:ak α)(l r:T α):(T.node v l r).get 0=v:=rfl
def T.y7(v:ak α)(l r:T α)(m:Nat):(T.node v l r).get (m+1)=if m%2=0 then l.get (m/2)else r.get (m/2):=by
 show Bool.rec (motive:=λ_=>ak α) (r.get (m/2)) (l.get (m/2)) (Nat.beq (m%2) 0)=_;exact lO
def T.afX(f:Nat)(x:ak α):T.one (f+1) 0 x=.node x .leaf .leaf:=rfl
def T.afY(f m:Nat)(x:ak α):T.one (f+1) (m+1) x=if m%2=0 then .node none (T.one f (m/2) x) .leaf else .node none .leaf (T.one f (m/2) x):=by
 show Bool.rec (motive:=λ_=>T α) (.node none .leaf (T.one f (m/2) x)) (.node none (T.one f (m/2) x) .leaf) (Nat.beq (m%2) 0)=_;exact lO
def T.afZ(n:Nat)(x:ak α):(T.leaf:T α).set n x=T.one (n+1) n x:=rfl
def T.af0(v:ak α)(l r:T α)(x:ak α):(T.node v l r).set 0 x=.node x l r:=rfl
def T.af1(v:ak α)(l r:T α)(m:Nat)(x:ak α):(T.node v l r).set (m+1) x=if m%2=0 then .node v (l.set (m/2) x) r else .node v l (r.set (m/2) x):=by
 show Bool.rec (motive:=λ_=>T α) (.node v l (r.set (m/2) x)) (.node v (l.set (m/2) x) r) (Nat.beq (m%2) 0)=_;exact lO
def T.af2(x:ak α):∀(f n m:Nat),n<f->(T.one f n x).get m=if m=n then x else none:=by
 intro f;induction f with
 |zero=>intro n m h;omega
 |succ f ih=>
  intro n m h;cases n with
  |zero=>
   rw[T.afX];cases m with
   |zero=>simp[T.FM]
   |succ m=>rw[T.y7];simp[T.IB]
  |succ n=>
   rw[T.afY];by_cases hp:n%2=0
   .rw[if_pos hp];cases m with
    |zero=>simp[T.FM]
    |succ m=>
     rw[T.y7];by_cases hq:m%2=0
     .grind
     .rw[if_neg hq,T.IB,if_neg tf]
   .rw[if_neg hp];cases m with
    |zero=>simp[T.FM]
    |succ m=>
     rw[T.y7];by_cases hq:m%2=0
     .rw[if_pos hq,T.IB,if_neg tf]
     grind
def T.mJ(x:ak α):∀(t:T α) (n m:Nat),(t.set n x).get m=if m=n then x else t.get m:=by
 intro t;induction t with
 |leaf=>intro n m;rw[T.afZ,T.af2 _ _ _ _ (zW n),T.IB]
 |node v l r hl hr=>
  intro n m;cases n with
  |zero=>
   rw[T.af0];cases m with
   |zero=>simp[T.FM]
   |succ m=>rw[T.y7,T.y7];simp
  |succ n=>
   rw[T.af1];by_cases hp:n%2=0
   .rw[if_pos hp];exact rp
   .rw[if_neg hp];exact rp
end
def IH.mJ(h:IH)(i j:Nat)(o:aN):(h.set i o).get j=if j=i then some o else h.get j:=T.mJ _ _ _ _
def IH.um(h:IH)(i j:Nat):(h.kill i).get j=if j=i then none else h.get j:=T.mJ _ _ _ _
def IH.jA(h:IH)(j:Nat)(o:aN):(h.new o).get j=if j=h.next then some o else h.get j:=T.mJ _ _ _ _
def IH.IC(h:IH)(i:Nat):(h.kill i).next=h.next:=rfl
def IH.Ng(h:IH)(o:aN):(h.new o).next=h.next+1:=rfl
def IH.IE(h:IH)(o:aN):(h.new o).low=h.low:=rfl
def IH.FN(h:IH)(i:Nat)(o:aN):(h.set i o).low=min h.low i:=by
 exact gO
def IH.Ad(h:IH)(i:Nat):(h.kill i).low=min h.low i:=by
 exact gO
def FO(t:T ah)(i j:Nat)(v:ah):dU (t.set i (some v)) j=if j=i then v else dU t j:=by
 unfold dU;rw[T.mJ];split<;>rfl
section
variable {α β:Type}
def xN(f:α->β)(l:ae α):nQ f l=l.map f:=by
 induction l with
 |nil=>rfl
 |cons x l ih=>show f x::nQ f l=_;rw[ih];rfl
def uo(l:ae α)(n:Nat):lu l n=l[n]?:=by
 induction l generalizing n with
 |nil=>rfl
 |cons x l ih=>cases n with
  |zero=>rfl
  |succ n=>show lu l n=_;rw[ih];simp
def o8(l:ae α)(n:Nat):kP l n=l.drop n:=by
 induction l generalizing n with
 |nil=>cases n<;>rfl
 |cons x l ih=>cases n with
  |zero=>rfl
  |succ n=>show kP l n=_;rw[ih];simp
def xO(l:ae α):jq l=l.length:=by
 induction l with
 |nil=>rfl
 |cons x l ih=>show jq l+1=_;rw[ih];rfl
def jO(l r:ae α):lX l r=l++r:=by
 induction l with
 |nil=>rfl
 |cons x l ih=>show x::lX l r=_;rw[ih];rfl
def o9(l:ae α)(n:Nat):jW l n=if n<=l.length then some (l.take n)else none:=by
 induction l generalizing n with
 |nil=>cases n<;>rfl
 |cons x l ih=>cases n with
  |zero=>rfl
  |succ n=>
   show Option.rec (motive:=λ_=>ak (ae α)) none (λr=>some (x::r)) (jW l n)=_;rw[ih];by_cases h:n<=l.length
   .rw[if_pos h,if_pos tw];rfl
   .rw[if_neg h,if_neg tw]
def FP(p:α->Bool)(l:ae α):BF p l=l.all p:=by
 induction l with
 |nil=>rfl
 |cons x l ih=>
  show Bool.rec (motive:=λ_=>Bool) false (BF p l) (p x)=_;rw[ih];cases h:p x<;>simp[h]
def Xd(o:Nat)(xs:ae α):jE [] o xs=if xs=[]/\o=0 then some []else none:=by cases xs<;>cases o<;>rfl
def Xe(c:α)(l:ae α):jE (c::l) 0 []=some (c::l):=rfl
def Rl(c:α)(l:ae α)(x:α)(xs:ae α):jE (c::l) 0 (x::xs)=(jE l 0 xs).map (x::·):=by
 show Option.rec (motive:=λ_=>ak (ae α)) none (λr=>some (x::r)) (jE l 0 xs)=_;cases jE l 0 xs<;>rfl
def Rm(c:α)(l:ae α)(o:Nat)(xs:ae α):jE (c::l) (o+1) xs=(jE l o xs).map (c::·):=by
 show Option.rec (motive:=λ_=>ak (ae α)) none (λr=>some (c::r)) (jE l o xs)=_;cases jE l o xs<;>rfl
def BL{l:ae α}:∀{o:Nat} {xs r:ae α},jE l o xs=some r->
 o+xs.length<=l.length/\r.length=l.length/\∀j:Nat,r[j]? =if o<=j/\j<o+xs.length then xs[j - o]? else l[j]?:=by
 induction l with
 |nil=>
  intro o xs r h;rw[Xd]at h
  grind
 |cons c l ih=>
  intro o xs r h;cases o with
  |zero=>
   cases xs with
   |nil=>rw[Xe]at h;grind
   |cons x xs=>
    rw[Rl]at h;cases hr:jE l 0 xs with
    |none=>rw[hr]at h;cases h
    |some r'=>
     grind
  |succ o=>
   rw[Rm]at h;cases hr:jE l o xs with
   |none=>rw[hr]at h;cases h
   |some r'=>
    grind
def Xf(f:α->α)(l:ae α)(n:Nat):setAt f l n=l.modify n f:=by
 induction l generalizing n with
 |nil=>cases n<;>rfl
 |cons x l ih=>cases n with
  |zero=>rfl
  |succ n=>show x::setAt f l n=_;rw[ih];simp
end
def zeros_length(z:ae ah)(n:Nat):(zeros z n).length=n*z.length:=by
 induction n with
 |zero=>simp;rfl
 |succ n ih=>show(lX z (zeros z n)).length=_;rw[jO,fV,ih,Nat.succ_mul,Nat.add_comm]
structure jf where
 b:Nat
 off:Nat
 len:Nat
 top:Nat
 sz:Nat
abbrev aI:=Nat->ak jf
inductive FR(β:aI):Fn->Fn->Prop
 |func (f:FuncId):FR β (.func f) (.func f)
 |method (n:String):FR β (.method n) (.method n)
 |methodOf (t:TypeId) (n:String):FR β (.methodOf t n) (.methodOf t n)
 |yield {l:Nat} {g:jf} (h:β l=some g):FR β (.yield l) (.yield g.b)
mutual
inductive VR(β:aI):Value->Value->Prop
 |eO (v:Value):VR β (.tuple #[]) v
 |skip:VR β (.chan (some 0)) (.tuple #[])
 |bool (b:Bool):VR β (.bool b) (.bool b)
 |int (k:IntKind) (n:Int):VR β (.int k n) (.int k n)
 |float (k:FloatKind) (n:Nat):VR β (.float k n) (.float k n)
 |complex (k:FloatKind) (n m:Nat):VR β (.complex k n m) (.complex k n m)
 |string (s:ByteArray):VR β (.string s) (.string s)
 |nilFunc:VR β .nilFunc .nilFunc
 |nilIface:VR β .nilIface .nilIface
 |BM:VR β (.pointer none) (.pointer none)
 |ptr {i o:Nat} {g:jf} (h:β i=some g):VR β (.pointer (some ⟨i,o,none⟩)) (.pointer (some ⟨g.b,g.off+o,none⟩))
 |sl0 (n c:Nat):VR β (.slice none n c) (.slice none n c)
 |ay {i o n c:Nat} {g:jf} {a:Addr} (h:β i=some g) (hb:a.block=g.b) (hn:n<=c) (ha:c=0\/(a.off=g.off+o/\a.spot=none)):
   VR β (.slice (some ⟨i,o,some 0⟩) n c) (.slice (some a) n c)
 |qf {i o n c c':Nat} {g:jf} {a:Addr} (h:β i=some g) (hb:a.block=g.b) (hs:a.spot=none) (hn:n<=c) (hz:0<g.sz)
   (hl:o+c*g.sz=g.len) (ht:g.off+o+c'*g.sz=g.top) (hc:c<=c') (ha:c'=0\/a.off=g.off+o):
   VR β (.slice (some ⟨i,o,some g.sz⟩) n c) (.slice (some a) n c')
 |Ae:VR β (.map none) (.map none)
 |map {i:Nat} {g:jf} (h:β i=some g):VR β (.map (some i)) (.map (some g.b))
 |func {fn fn':Fn} {f f' c c':List Value} (h:FR β fn fn') (hf:aY β f f') (hc:aY β c c'):VR β (.func fn ⟨f⟩ ⟨c⟩) (.func fn' ⟨f'⟩ ⟨c'⟩)
 |iface (t:TypeId) {v v':Value} (h:VR β v v'):VR β (.iface t v) (.iface t v')
 |agg {l l':List Value} (hc:l.all cellV=true) (h:aY β l l'):VR β (.agg ⟨l⟩) (.agg ⟨l'⟩)
 |tuple {l l':List Value} (h:aY β l l'):VR β (.tuple ⟨l⟩) (.tuple ⟨l'⟩)
inductive aY(β:aI):List Value->List Value->Prop
 |nil:aY β [] []
 |cons {v v':Value} {l l':List Value} (h:VR β v v') (hl:aY β l l'):aY β (v::l) (v'::l')
end
def aI.le(β β':aI):Prop:=∀i g,β i=some g->β' i=some g
def FR.mono{β β':aI}(h:β.le β'){f f':Fn}(hf:FR β f f'):FR β' f f':=by
 cases hf with
 |func f=>exact .func f
 |method n=>exact .method n
 |methodOf t n=>exact .methodOf t n
 |yield hl=>exact .yield (h _ _ hl)
mutual
def VR.mono{β β':aI}(h:β.le β'):∀{v v':ah},VR β v v'->VR β' v v'
 |_,_,.eO v=>.eO v
 |_,_,.skip=>.skip
 |_,_,.bool b=>.bool b
 |_,_,.int k n=>.int k n
 |_,_,.float k n=>.float k n
 |_,_,.complex k n m=>.complex k n m
 |_,_,.string s=>.string s
 |_,_,.nilFunc=>.nilFunc
 |_,_,.nilIface=>.nilIface
 |_,_,.BM=>.BM
 |_,_,.ptr hi=>.ptr (h _ _ hi)
 |_,_,.sl0 n c=>.sl0 n c
 |_,_,.ay hi hb hn ha=>.ay (h _ _ hi) hb hn ha
 |_,_,.qf hi hb hs hn hz hl ht hc ha=>.qf (h _ _ hi) hb hs hn hz hl ht hc ha
 |_,_,.Ae=>.Ae
 |_,_,.map hi=>.map (h _ _ hi)
 |_,_,.func hf h1 h2=>.func (hf.mono h) (aY.mono h h1) (aY.mono h h2)
 |_,_,.iface t hv=>.iface t (VR.mono h hv)
 |_,_,.agg hc hl=>.agg hc (aY.mono h hl)
 |_,_,.tuple hl=>.tuple (aY.mono h hl)
def aY.mono{β β':aI}(h:β.le β'):∀{v v':ae ah},aY β v v'->aY β' v v'
 |_,_,.nil=>.nil
 |_,_,.cons hv hl=>.cons (VR.mono h hv) (aY.mono h hl)
end
def aY.length{β:aI}{l l':ae ah}(h:aY β l l'):l'.length=l.length:=by
 induction l generalizing l' with
 |nil=>cases h;rfl
 |cons v l ih=>cases h with|cons hv hl=>simp[ih hl]
def aY.get{β:aI}{l l':ae ah}(h:aY β l l'){i:Nat}{v:ah}(hi:l[i]? =some v):∃v',l'[i]? =some v'/\VR β v v':=by
 induction l generalizing l' i with
 |nil=>simp at hi
 |cons x l ih=>
  cases h with
  |cons hv hl=>
   grind
def aY.Nh{β:aI}{l l':ae ah}(hlen:l'.length=l.length)(h:∀(i:Nat) (v:ah),l[i]? =some v->∃v',l'[i]? =some v'/\VR β v v'):aY β l l':=by
 induction l generalizing l' with
 |nil=>cases l' with|nil=>exact .nil|cons x l'=>simp at hlen
 |cons x l ih=>
  cases l' with
  |nil=>simp at hlen
  |cons y l'=>
   refine .cons ?_ (ih (by simpa using hlen) λi v hi=>?_)
   .obtain⟨v',h1,h2⟩:=h 0 x tg;grind
   .obtain⟨v',h1,h2⟩:=h (i+1) v (by simpa using hi);grind
def aY.append{β:aI}{l l' r r':ae ah}(h:aY β l l')(k:aY β r r'):aY β (l++r) (l'++r'):=by
 induction l generalizing l' with
 |nil=>cases h;exact k
 |cons x l ih=>cases h with|cons hv hl=>exact .cons hv (ih hl)
def aY.take{β:aI}{l l':ae ah}(h:aY β l l')(n:Nat):aY β (l.take n) (l'.take n):=by
 induction l generalizing l' n with
 |nil=>cases h;simp;exact .nil
 |cons x l ih=>cases h with|cons hv hl=>cases n with
  |zero=>exact .nil
  |succ n=>exact .cons hv (ih hl n)
def aY.drop{β:aI}{l l':ae ah}(h:aY β l l')(n:Nat):aY β (l.drop n) (l'.drop n):=by
 induction l generalizing l' n with
 |nil=>cases h;simp;exact .nil
 |cons x l ih=>cases h with|cons hv hl=>cases n with
  |zero=>exact .cons hv hl
  |succ n=>exact ih hl n
def aY.map{β:aI}{γ:Type}{f f':γ->ah}(l:ae γ)(h:∀x∈l,VR β (f x) (f' x)):aY β (l.map f) (l.map f'):=by
 exact oT
mutual
def VR.free{β:aI}:∀{v:ah},cB v=true->VR β v v
 | .bool b,_=>.bool b
 | .int k n,_=>.int k n
 | .float k n,_=>.float k n
 | .complex k n m,_=>.complex k n m
 | .string s,_=>.string s
 | .nilFunc,_=>.nilFunc
 | .nilIface,_=>.nilIface
 | .pointer none,_=>.BM
 | .pointer (some a),h=>by simp[cB]at h
 | .slice none n c,_=>.sl0 n c
 | .slice (some a) n c,h=>by simp[cB]at h
 | .map none,_=>.Ae
 | .map (some r),h=>by simp[cB]at h
 | .chan r,h=>by simp[cB]at h
 | .func _ _ _,h=>by simp[cB]at h
 | .iface t v,h=>.iface t (VR.free (by simp[cB]at h;exact h.1))
 | .agg ⟨l⟩,h=>.agg (xP An) (aY.free An)
 | .tuple _,h=>by simp[cB]at h
def aY.free{β:aI}:∀{l:ae ah},gJ l=true->aY β l l
 |[],_=>.nil
 |v::l,h=>.cons (VR.free (by simp[gJ]at h;exact h.1.1)) (aY.free (by simp[gJ]at h;exact h.2))
def xP:∀{l:ae ah},gJ l=true->l.all cellV=true
 |[],_=>rfl
 |v::l,h=>by simp[gJ]at h;simp only[MQ,h.1.2,Bool.true_and];exact xP h.2
end
mutual
def VR.qO{β:aI}:∀{v v':ah},VR β v v'->cB v=true->v'=v
 |_,_,.bool b,_=>rfl
 |_,_,.int k n,_=>rfl
 |_,_,.float k n,_=>rfl
 |_,_,.complex k n m,_=>rfl
 |_,_,.string s,_=>rfl
 |_,_,.nilFunc,_=>rfl
 |_,_,.nilIface,_=>rfl
 |_,_,.BM,_=>rfl
 |_,_,.sl0 n c,_=>rfl
 |_,_,.Ae,_=>rfl
 |_,_,.iface t hv,h=>by rw[VR.qO hv (by simp[cB]at h;exact h.1)]
 |_,_,.agg hc hl,h=>by rw[aY.qO hl An]
 |_,_,.eO v,h=>by simp[cB]at h
 |_,_,.skip,h=>by simp[cB]at h
 |_,_,.ptr _,h=>by simp[cB]at h
 |_,_,.ay _ _ _ _,h=>by simp[cB]at h
 |_,_,.qf _ _ _ _ _ _ _ _ _,h=>by simp[cB]at h
 |_,_,.map _,h=>by simp[cB]at h
 |_,_,.func _ _ _,h=>by simp[cB]at h
 |_,_,.tuple _,h=>by simp[cB]at h
def aY.qO{β:aI}:∀{l l':ae ah},aY β l l'->gJ l=true->l'=l
 |_,_,.nil,_=>rfl
 |_,_,.cons hv hl,h=>by
  simp[gJ]at h;rw[VR.qO hv h.1.1,aY.qO hl h.2]
end
def BN{α:Type}{P:Program}{s:Sem α}{x:α}(h:dR P s=some x)(w:World):s.run P w=.ok x w:=by
 induction s with
 |pure a=>simp[dR]at h;subst h;rfl
 |program k ih=>exact ih _ h
 |mark m k ih=>exact ih h
 |_=>simp[dR]at h
def VR.cells{β:aI}{v v':ah}{cs:ae ah}(h:VR β v v')(hc:cellsOf v=some cs):cs.all cellV=true/\∃cs',v'.cells=⟨cs'⟩/\aY β cs cs':=by
 cases h<;>simp only[cellsOf,bz,reduceCtorEq]at hc<;>try subst hc
 case agg hc' hl=>exact⟨hc',_,rfl,hl⟩
 all_goals exact⟨rfl,_,rfl,.cons (by constructor<;>assumption) .nil⟩
def VR.cellV{β:aI}{v v':ah}(h:VR β v v')(hc:cellV v=true):(∀cs,v'≠.agg cs)/\(∀cs,v'≠.tuple cs):=by
 cases h<;>simp_all [Ideal.cellV]
inductive iy(β:aI):List MapEntry->List MapEntry->Prop
 |nil:iy β [] []
 |cons {e e':MapEntry} {l l':List MapEntry} (hk:e'.key=e.key) (hf:cB e.key=true) (hb:e'.born=e.born) (hv:VR β e.val e'.val) (hl:iy β l l'):iy β (e::l) (e'::l')
def Xg:Out->ak Code
 | .normal=>none
 | .exit id=>some (.exit id)
 | .ret=>some .ret
 | .panic _=>none
structure LR(P:Program)(β:aI)(r:qy)(r':Loop):Prop where
 state:r'.state=r.state
 pending:r'.pending=r.pending.bind Xg
 IG:∀ch,r.pending≠some (.panic ch)
 size:r'.tmps.size=r.n
 tmps:∀i,VR β (dU r.tmps i) (r'.tmps.getD i undef)
 out:∀i,r.n<=i->dU r.tmps i=eO
 params:r'.params.toList=r.params
 assign:compile P r'.assign=r.assign
 body:compile P r'.body=r.body
 defers:∃g,β r.defers=some g/\r'.defers=g.b
 FQ:∃f,P.funcs[r'.fn]? =some f
def OR(P:Program)(β:aI)(g:jf)(w:World):aN->Prop
 | .cells cs=>(∃c t fz,w.heap[g.b]? =some (.cells c t fz)/\¬(fz.1<=c.size/\c.size<fz.2))/\cs.length=g.len/\g.off+g.len<=g.top/\
    (∀j,j<g.top->(w.cell? ⟨g.b,j,none⟩).isSome=true/\w.frozen? ⟨g.b,j,none⟩=false)/\
    cs.all cellV=true/\∀(j:Nat) v,cs[j]? =some v->∃v',w.cell? ⟨g.b,g.off+j,none⟩=some v'/\VR β v v'
 | .kR cs=>(∃c t fz,w.heap[g.b]? =some (.cells c t fz)/\(g.top=0\/c.size=g.top))/\g.sz=0/\cs.all cellV=true/\∀(j:Nat) v,cs[j]? =some v->∃v',w.cell? ⟨g.b,g.off+j,none⟩=some v'/\VR β v v'
 | .map es clock=>∃es',w.heap[g.b]? =some (.map es' clock)/\iy β es es'.toList
 | .DC s pos=>w.heap[g.b]? =some (.stringIter s pos)/\g.off=0
 | .mapIter m since seen stepped=>∃m' seen',w.heap[g.b]? =some (.mapIter m' since seen' stepped)/\seen'.toList=seen/\VR β (.map m) (.map m')/\g.off=0
 | .loop r=>∃r',w.heap[g.b]? =some (.loop r')/\LR P β r r'
 | .lC b=>w.heap[g.b]? =some (.deferred (if b then some []else none))
structure WR(P:Program)(β:aI)(h:IH)(w:World):Prop where
 dom:∀i g,β i=some g->i<h.next
 live:∀i o,h.get i=some o->i<h.next
 obj:∀i g o,β i=some g->h.get i=some o->OR P β g w o
 inj:∀i j g k,β i=some g->β j=some k->h.get i≠none->h.get j≠none->((∀cs,h.get i≠some (.kR cs))\/∀cs,h.get j≠some (.kR cs))->g.b=k.b->i=j
structure Eff(β:aI)(h:IH)(w:World)(β':aI)(h':IH)(w':World):Prop where
 agree:∀i,i<h.next->β' i=β i
 next:h.next<=h'.next
 alive:∀i,i<h.next->h'.get i≠none->h.get i≠none
 hid:∀i,i<h.next->β i=none->h'.get i=h.get i
 low:h'.low<=h.low
 kept:∀i,i<h'.low->i<h.next->h'.get i=h.get i
 os:w'.os=w.os
 tape:w'.tape=w.tape
 output:w'.output=w.output
 size:w.heap.size<=w'.heap.size
 keep:∀b,b<w.heap.size->(∀i g,β i=some g->h.get i≠none->g.b≠b)->w'.heap[b]? =w.heap[b]?
 fresh:∀i g,β' i=some g->h.next<=i->w.heap.size<=g.b\/∃j k,β j=some k/\h.get j≠none/\k.b=g.b
 uX:∀i g,i<h'.low->i<h.next->β i=some g->h.get i≠none->g.b<w.heap.size->w'.heap[g.b]? =w.heap[g.b]?
 drawn:w.drawn<=w'.drawn
def Eff.refl(β:aI)(h:IH)(w:World)(hd:∀i g,β i=some g->i<h.next):Eff β h w β h w:=
 ⟨λ_ _=>rfl,bI _,λ_ _ h=>h,λ_ _ _=>rfl,bI _,λ_ _ _=>rfl,rfl,rfl,rfl,bI _,λ_ _ _=>rfl,
  (by grind),(by grind),bI _⟩
def Eff.le{β β':aI}{h h':IH}{w w':World}(e:Eff β h w β' h' w')(hd:∀i g,β i=some g->i<h.next):β.le β':=
 λi g hg=>(e.agree i (hd i g hg)).trans hg
def Eff.trans{β β1 β2:aI}{h h1 h2:IH}{w w1 w2:World}(e:Eff β h w β1 h1 w1)(f:Eff β1 h1 w1 β2 h2 w2):Eff β h w β2 h2 w2 where
 agree i hi:=(f.agree i (pW hi e.next)).trans (e.agree i hi)
 uX i g hl hi hg hn hb:=(f.uX i g hl (pW hi e.next) ((e.agree i hi).trans hg) (by rw[e.kept i (pW hl f.low) hi];exact hn) (pW hb e.size)).trans
  (e.uX i g (pW hl f.low) hi hg hn hb)
 next:=lV e.next f.next
 drawn:=lV e.drawn f.drawn
 alive i hi hn:=e.alive i hi (f.alive i (pW hi e.next) hn)
 hid i hi hb:=(f.hid i (pW hi e.next) ((e.agree i hi).trans hb)).trans (e.hid i hi hb)
 low:=lV f.low e.low
 kept i hl hi:=(f.kept i hl (pW hi e.next)).trans (e.kept i (pW hl f.low) hi)
 os:=f.os.trans e.os
 tape:=f.tape.trans e.tape
 output:=f.output.trans e.output
 size:=lV e.size f.size
 keep b hb hno:=by
  refine(f.keep b (pW hb e.size) λi g hg hn he=>?_).trans (e.keep b hb hno);by_cases hi:i<h.next
  .exact hno i g (by rw[<- e.agree i hi];exact hg) (e.alive i hi hn) he
  .rcases e.fresh i g hg (tf)with hf|⟨j,k,hk,hj,hkb⟩
   .omega
   grind
 fresh i g hg hi:=by
  by_cases hi1:i<h1.next
  .exact e.fresh i g (by rw[<- f.agree i hi1];exact hg) hi
  .rcases f.fresh i g hg (tf)with hf|⟨j,k,hk,hj,hkb⟩
   .exact .inl (lV e.size hf)
   .by_cases hjn:j<h.next
    .exact .inr ⟨j,k,by rw[<- e.agree j hjn];exact hk,e.alive j hjn hj,hkb⟩
    .rcases e.fresh j k hk (tf)with hf'|⟨j',k',hk',hj',hkb'⟩
     .grind
     grind
end Go.Ideal
namespace Go.Ideal
variable {P:Program}
variable{β β':aI}
def iy.mono(h:β.le β'){l l':ae MapEntry}(he:iy β l l'):iy β' l l':=by
 induction he with
 |nil=>exact .nil
 |cons hk hf hb hv _ ih=>exact .cons hk hf hb (hv.mono h) ih
def LR.mono(h:β.le β'){r:qy}{r':Loop}(k:LR P β r r'):LR P β' r r':=
 ⟨k.state,k.pending,k.IG,k.size,λi=>(k.tmps i).mono h,k.out,k.params,k.assign,k.body,let⟨g,h1,h2⟩:=k.defers;⟨g,h _ _ h1,h2⟩,k.FQ⟩
def OR.mono(h:β.le β'){g:jf}{w:World}{o:aN}(k:OR P β g w o):OR P β' g w o:=by
 cases o with
 |cells cs=>
  obtain⟨h1,h2,h3,h5,h6,h7⟩:=k;exact⟨h1,h2,h3,h5,h6,λj v hj=>let⟨v',a,b⟩:=h7 j v hj;⟨v',a,b.mono h⟩⟩
 |kR cs=>obtain⟨h1,h2,h6,h7⟩:=k;exact⟨h1,h2,h6,λj v hj=>let⟨v',a,b⟩:=h7 j v hj;⟨v',a,b.mono h⟩⟩
 |map es clock=>obtain⟨es',h1,h2⟩:=k;exact⟨es',h1,h2.mono h⟩
 |DC s pos=>exact k
 |mapIter m since seen stepped=>obtain⟨m',seen',h1,h2,h3,h4⟩:=k;exact⟨m',seen',h1,h2,h3.mono h,h4⟩
 |loop r=>obtain⟨r',h1,h2⟩:=k;exact⟨r',h1,h2.mono h⟩
 |lC b=>exact k
variable{g:jf}{w:World}{o:aN}
def OR.congr{w':World}(hw:w'.heap[g.b]? =w.heap[g.b]?)(k:OR P β g w o):OR P β g w' o:=by
 have hc:∀j,w'.cell? ⟨g.b,j,none⟩=w.cell? ⟨g.b,j,none⟩:=λj=>World.cell?_of_block hw;have hf:∀j,w'.frozen? ⟨g.b,j,none⟩=w.frozen? ⟨g.b,j,none⟩:=λj=>World.frozen?_of_block hw;cases o<;>simp only[OR,hw,hc,hf]at *<;>exact k
def OR.lt(k:OR P β g w o):g.b<w.heap.size:=by
 have:w.heap[g.b]?≠none:=by
  cases o with
  |cells cs=>obtain⟨⟨c,t,fz,h1,_⟩,_⟩:=k;rw[h1];simp
  |kR cs=>obtain⟨⟨c,t,fz,h1,_⟩,_⟩:=k;rw[h1];simp
  |map es clock=>obtain⟨es',h1,_⟩:=k;rw[h1];simp
  |DC s pos=>have h1:=k.1;rw[h1];simp
  |mapIter m since seen stepped=>obtain⟨m',seen',h1,_⟩:=k;rw[h1];simp
  |loop r=>obtain⟨r',h1,_⟩:=k;rw[h1];simp
  |lC b=>have h1:=k;rw[h1];simp
 grind
def aI.add(β:aI)(i:Nat)(g:jf):aI:=λj=>if j=i then some g else β j
def aI.lY(β:aI)(i:Nat)(g:jf):β.add i g i=some g:=by simp[aI.add]
def aI.ny(β:aI){i j:Nat}(g:jf)(h:j≠i):β.add i g j=β j:=by simp[aI.add,h]
def aI.xQ{i:Nat}(g:jf)(h:β i=none):β.le (β.add i g):=λj k hj=>by
 by_cases e:j=i
 .grind
 .rw[aI.ny _ _ e];exact hj
section
variable {β:aI} {h:IH} {w:World}
def WR.y8(hW:WR P β h w):β h.next=none:=by
 cases hb:β h.next with
 |none=>rfl
 |some g=>exact absurd (hW.dom _ _ hb) (QR _)
variable{w':World}
def WR.qg(hW:WR P β h w)(hh:w'.heap=w.heap):WR P β h w':=
 ⟨hW.dom,hW.live,λi g o h1 h2=>(hW.obj i g o h1 h2).congr (by rw[hh]),hW.inj⟩
def Eff.qg(hd:∀i g,β i=some g->i<h.next)(h1:w'.heap=w.heap)(h2:w'.os=w.os)(h3:w'.tape=w.tape)(h4:w'.output=w.output)(h5:w.drawn<=w'.drawn:=by first|exact bI _|exact Dl _|fail):Eff β h w β h w':=
 ⟨λ_ _=>rfl,bI _,λ_ _ h=>h,λ_ _ _=>rfl,bI _,λ_ _ _=>rfl,h2,h3,h4,by grind,λ_ _ _=>by rw[h1],
  (by grind),(by grind),h5⟩
def WR.alloc(hW:WR P β h w)(o:aN)(o':Obj)(g:jf)(hg:g.b=w.heap.size){w1:World}(hw1:w1={w with heap:=w.heap.push o'})
 (ho:OR P (β.add h.next g) g w1 o):WR P (β.add h.next g) (h.new o) w1/\Eff β h w (β.add h.next g) (h.new o) w1:=by
 have hle:β.le (β.add h.next g):=aI.xQ g hW.y8;have hheap:∀b,b<w.heap.size->w1.heap[b]? =w.heap[b]?:=(by grind)
 refine⟨⟨?_,?_,?_,?_⟩,⟨?_,?_,?_,?_,?_,?_,?_,?_,?_,?_,?_,?_,(by grind),by grind⟩⟩
 .intro i k hk;rw[IH.Ng];by_cases e:i=h.next
  .omega
  .rw[aI.ny _ _ e]at hk;have:=hW.dom _ _ hk;omega
 .intro i x hx;rw[IH.Ng];rw[IH.jA]at hx;split at hx
  .omega
  .have:=hW.live _ _ hx;omega
 .intro i k x hk hx;rw[IH.jA]at hx;by_cases e:i=h.next
  .subst e;rw[aI.lY]at hk;grind
  .rw[aI.ny _ _ e]at hk;rw[if_neg e]at hx;have:=hW.obj _ _ _ hk hx;exact(this.mono hle).congr (hheap _ this.lt)
 .intro i j k l hk hl hi hj hr he;rw[IH.jA]at hi hj;by_cases ei:i=h.next
  .by_cases ej:j=h.next
   .omega
   .rw[aI.ny _ _ ej]at hl;rw[if_neg ej]at hj;subst ei;rw[aI.lY]at hk;cases hk;cases hx:h.get j with
    |none=>exact absurd hx hj
    |some x=>have:=(hW.obj _ _ _ hl hx).lt;omega
  .rw[aI.ny _ _ ei]at hk;rw[if_neg ei]at hi;by_cases ej:j=h.next
   .subst ej;rw[aI.lY]at hl;cases hl;cases hx:h.get i with
    |none=>exact absurd hx hi
    |some x=>have:=(hW.obj _ _ _ hk hx).lt;omega
   .rw[aI.ny _ _ ej]at hl;rw[if_neg ej]at hj;exact hW.inj _ _ _ _ hk hl hi hj (hr.imp (λq cs e=>q cs (by rw[IH.jA,if_neg ei];exact e)) (λq cs e=>q cs (by rw[IH.jA,if_neg ej];exact e))) he
 .intro i hi;exact aI.ny _ _ tf
 .rw[IH.Ng];omega
 .intro i hi hn;rw[IH.jA,if_neg tf]at hn;exact hn
 .intro i hi _;rw[IH.jA,if_neg tf]
 .exact bI _
 .intro i _ hi;rw[IH.jA,if_neg tf]
 .subst hw1;rfl
 .subst hw1;rfl
 .subst hw1;rfl
 .subst hw1;simp
 .grind
 .intro i k hk hi;by_cases e:i=h.next
  .subst e;rw[aI.lY]at hk;grind
  .rw[aI.ny _ _ e]at hk;exact nh
def WR.write(hW:WR P β h w){i:Nat}{g:jf}(hi:β i=some g){o0:aN}(h0:h.get i=some o0)(o:aN){w1:World}
 (hsz:w1.heap.size=w.heap.size) (hheap:∀b,b≠g.b->w1.heap[b]? =w.heap[b]?) (hos:w1.os=w.os) (DN:w1.tape=w.tape) (hout:w1.output=w.output) (hdr:w.drawn<=w1.drawn)
 (ho:OR P β g w1 o) (hnr:∀cs,o0≠.kR cs:=by intro cs e;cases e):WR P β (h.set i o) w1/\Eff β h w β (h.set i o) w1:=by
 have hni:∀cs,h.get i≠some (.kR cs):=(by grind)
 refine⟨⟨?_,?_,?_,?_⟩,⟨?_,?_,?_,?_,?_,?_,hos,DN,hout,?_,?_,?_,?_,hdr⟩⟩
 .exact hW.dom
 .intro j x hx;rw[IH.mJ]at hx;split at hx
  .subst_vars;exact hW.live _ _ h0
  .exact hW.live _ _ hx
 .intro j k x hk hx;rw[IH.mJ]at hx;by_cases e:j=i
  .grind
  .rw[if_neg e]at hx;refine(hW.obj _ _ _ hk hx).congr (hheap _ λhe=>e ?_);exact hW.inj _ _ _ _ hk hi (by rw[hx];simp) (by rw[h0];simp) (.inr hni) he
 .intro j l k m hk hm hj hl hr he;have pass:∀x,(∀cs,(h.set i o).get x≠some (.kR cs))->∀cs,h.get x≠some (.kR cs):=λx q cs e=>by
   by_cases ex:x=i
   .grind
   .exact q cs (by rw[IH.mJ,if_neg ex];exact e)
  refine hW.inj _ _ _ _ hk hm ?_ ?_ (by grind) he
  .rw[IH.mJ]at hj;grind
  .rw[IH.mJ]at hl;grind
 .intro _ _;rfl
 .exact bI _
 .intro j hj hn;rw[IH.mJ]at hn;grind
 .intro j hj hb;rw[IH.mJ,if_neg]
  grind
 .rw[IH.FN];omega
 .intro j hl hj;rw[IH.FN]at hl;rw[IH.mJ,if_neg tf]
 .omega
 .grind
 .intro j k hk hj;exact nh
 .intro j k hl hj hk hn hb;rw[IH.FN]at hl;refine hheap _ λhe=>?_;have:=hW.inj _ _ _ _ hk hi hn (by rw[h0];simp) (.inr hni) he;omega
def WR.drop(hW:WR P β h w){i:Nat}{g:jf}(hi:β i=some g):WR P β (h.kill i) w/\Eff β h w β (h.kill i) w:=by
 refine⟨⟨hW.dom,?_,?_,?_⟩,⟨?_,?_,?_,?_,?_,?_,rfl,rfl,rfl,bI _,λ_ _ _=>rfl,?_,λ_ _ _ _ _ _ _=>rfl,bI _⟩⟩
 .intro j x hx;rw[IH.um]at hx;split at hx
  .cases hx
  .exact hW.live _ _ hx
 .intro j k x hk hx;rw[IH.um]at hx;split at hx
  .cases hx
  .exact hW.obj _ _ _ hk hx
 .intro j l k m hk hm hj hl hr he;have pass:∀x,(h.kill i).get x≠none->(∀cs,(h.kill i).get x≠some (.kR cs))->∀cs,h.get x≠some (.kR cs):=λx hx q cs e=>by
   rw[IH.um]at hx;by_cases ex:x=i
   .rw[if_pos ex]at hx;exact hx rfl
   .exact q cs (by rw[IH.um,if_neg ex];exact e)
  have hr:=hr.imp (pass _ hj) (pass _ hl);rw[IH.um]at hj hl;exact j9
 .intro _ _;rfl
 .exact bI _
 .intro j hj hn;rw[IH.um]at hn;split at hn
  .exact absurd rfl hn
  .exact hn
 .intro j hj hb;rw[IH.um,if_neg];intro e;subst e;rw[hi]at hb;cases hb
 .rw[IH.Ad];omega
 .intro j hl hj;rw[IH.Ad]at hl;rw[IH.um,if_neg tf]
 .intro j k hk hj;exact nh
def WR.Xh(hW:WR P β h w){i:Nat}{g:jf}(hi:β i=some g)(hlive:h.get i≠none)(hni:∀cs,h.get i≠some (.kR cs))(o:aN)(g1:jf)(hg1:g1.b=g.b){w1:World}
 (hsz:w1.heap.size=w.heap.size) (hheap:∀b,b≠g.b->w1.heap[b]? =w.heap[b]?) (hos:w1.os=w.os) (DN:w1.tape=w.tape) (hout:w1.output=w.output) (hdr:w.drawn<=w1.drawn)
 (ho:OR P (β.add h.next g1) g1 w1 o):WR P (β.add h.next g1) ((h.kill i).new o) w1/\Eff β h w (β.add h.next g1) ((h.kill i).new o) w1:=by
 have hle:β.le (β.add h.next g1):=aI.xQ g1 hW.y8;have hin:i<h.next:=hW.dom _ _ hi
 have hget:∀j,((h.kill i).new o).get j=if j=h.next then some o else if j=i then none else h.get j:=λj=>by
  rw[IH.jA,IH.um];rfl
 refine⟨⟨?_,?_,?_,?_⟩,⟨?_,?_,?_,?_,?_,?_,hos,DN,hout,?_,?_,?_,?_,hdr⟩⟩
 .intro j k hk;show j<h.next+1
  by_cases e:j=h.next
  .omega
  .rw[aI.ny _ _ e]at hk;have:=hW.dom _ _ hk;omega
 .intro j x hx;show j<h.next+1
  rw[hget]at hx;split at hx
  .omega
  .split at hx
   .cases hx
   .have:=hW.live _ _ hx;omega
 .intro j k x hk hx;rw[hget]at hx;by_cases e:j=h.next
  .subst e;rw[aI.lY]at hk;cases hk;rw[if_pos rfl]at hx;cases hx;exact ho
  .rw[aI.ny _ _ e]at hk;rw[if_neg e]at hx;split at hx
   .cases hx
   .rename_i hji;refine((hW.obj _ _ _ hk hx).mono hle).congr (hheap _ λhe=>hji ?_);exact hW.inj _ _ _ _ hk hi (by rw[hx];simp) hlive (.inr hni) he
 .have key:∀j k,β j=some k->((h.kill i).new o).get j≠none->j≠h.next->k.b≠g.b:=λj k hk hj hjn he=>by
   rw[hget,if_neg hjn]at hj;split at hj
   .exact hj rfl
   .rename_i hji;exact hji (hW.inj _ _ _ _ hk hi hj hlive (.inr hni) he)
  intro j l k m hk hm hj hl hr he;have pass:∀x,x≠h.next->((h.kill i).new o).get x≠none->(∀cs,((h.kill i).new o).get x≠some (.kR cs))->∀cs,h.get x≠some (.kR cs):=λx nR hx q cs e=>by
   rw[hget,if_neg nR]at hx;by_cases ex:x=i
   .rw[if_pos ex]at hx;exact hx rfl
   .exact q cs (by rw[hget,if_neg nR,if_neg ex];exact e)
  by_cases ej:j=h.next
  .by_cases el:l=h.next
   .omega
   .subst ej;rw[aI.lY]at hk;cases hk;rw[aI.ny _ _ el]at hm;exact absurd (he.symm.trans hg1) (key l m hm hl el)
  .rw[aI.ny _ _ ej]at hk;by_cases el:l=h.next
   .subst el;rw[aI.lY]at hm;cases hm;exact absurd (he.trans hg1) (key j k hk hj ej)
   .rw[aI.ny _ _ el]at hm;have hr:=hr.imp (pass _ ej hj) (pass _ el hl);rw[hget,if_neg ej]at hj;rw[hget,if_neg el]at hl;exact j9
 .intro j hj;exact aI.ny _ _ tf
 .show h.next<=h.next+1;omega
 .intro j hj hn;rw[hget,if_neg tf]at hn;split at hn
  .exact absurd rfl hn
  .exact hn
 .intro j hj hb;rw[hget,if_neg tf,if_neg];intro e;subst e;rw[hi]at hb;cases hb
 .show(h.kill i).low<=h.low;rw[IH.Ad];omega
 .intro j hl hj;have hl':j<(h.kill i).low:=hl;rw[IH.Ad]at hl';rw[hget,if_neg tf,if_neg tf]
 .omega
 .intro b hb hno;exact hheap b λe=>hno i g hi hlive e.symm
 .intro j k hk hj;by_cases e:j=h.next
  .subst e;rw[aI.lY]at hk;cases hk;exact .inr ⟨i,g,hi,hlive,hg1.symm⟩
  .rw[aI.ny _ _ e]at hk;exact nh
 .intro j k hl hj hk hn hb;rw[IH.IE,IH.Ad]at hl;refine hheap _ λhe=>?_;have:=hW.inj _ _ _ _ hk hi hn hlive (.inr hni) he;omega
end
end Go.Ideal
namespace Go.Ideal
variable {P:Program} {β:aI} {h:IH} {w:World}
def addr_add(b o j:Nat):(⟨b,o,none⟩:Addr).add j=⟨b,o+j,none⟩:=by unfold Addr.add;split<;>simp_all
variable{t:aF}{d:TypeDesc}
def gU(h:P.underlying t=some d)(w:World):(underlying t).run P w=.ok d w:=by
 simp[underlying,h]
variable{n:Nat}
def pg(h:kw P t=some n)(w:World):(sizeOf t).run P w=.ok n w:=by
 unfold kw at h;cases hi:P.info? t with
 |none=>simp[hi]at h
 |some i=>simp[hi]at h;simp[sizeOf,typeInfo,hi,h]
def II{i:TypeInfo}(h:P.info? t=some i)(w:World):(typeInfo t).run P w=.ok i w:=by
 simp[typeInfo,h]
variable{z:ah}
def FT(h:zeroOf P t=some z):∃i,P.info? t=some i/\i.zero=some z/\cB z=true:=by
 unfold zeroOf at h;cases hi:P.info? t with
 |none=>simp[hi]at h
 |some i=>
  grind
def FU(h:zeroOf P t=some z)(w:World):(zeroValue t).run P w=.ok z w:=by
 obtain⟨i,h1,h2,_⟩:=FT h;simp[zeroValue,typeInfo,h1,h2]
def FV(h:P.underlying t=some d)(w:World):(isAgg t).run P w=.ok (lD P t) w:=by
 simp only[isAgg,dS,gU h,lD,h];cases d<;>rfl
def Xi(h:lD P t=true):∃d,P.underlying t=some d:=by
 unfold lD at h
 grind
def Ni(hW:WR P β h w){i:Nat}{g:jf}(hi:β i=some g){cs:ae ah}(hg:h.get i=some (.cells cs)\/h.get i=some (.kR cs)){o n:Nat}{l:ae ah}
 (hl:jW (kP cs o) n=some l):
 l.length=n/\l.all cellV=true/\∃l',aY β l l'/\∀(j:Nat) v,l'[j]? =some v->w.cell? ⟨g.b,g.off+o+j,none⟩=some v:=by
 obtain⟨h6,h7⟩:cs.all cellV=true/\∀(j:Nat) v,cs[j]? =some v->∃v',w.cell? ⟨g.b,g.off+j,none⟩=some v'/\VR β v v':=by
  rcases hg with hg|hg
  .obtain⟨_,_,_,_,h6,h7⟩:=hW.obj i g _ hi hg;exact⟨h6,h7⟩
  .obtain⟨_,_,h6,h7⟩:=hW.obj i g _ hi hg;exact⟨h6,h7⟩
 rw[o9,o8]at hl;split at hl
 .rename_i hn;cases hl;refine⟨by simp at hn⊢;omega,?_,?_⟩
  .grind
  .have key:∀k:Nat,k<=n->∃l',aY β ((cs.drop o).take k) l'/\∀(j:Nat) v,l'[j]? =some v->w.cell? ⟨g.b,g.off+o+j,none⟩=some v:=by
    intro k;induction k with
    |zero=>intro _;exact⟨[],by simpa using aY.nil,(by grind)⟩
    |succ k ih=>
     intro hk;obtain⟨l',h1,h2'⟩:=ih tf;have hlt:k<(cs.drop o).length:=tf
     obtain⟨v',hv1,hv2⟩:=h7 (o+k) ((cs.drop o)[k]) (by grind);refine⟨l'++[v'],?_,λj v hj=>?_⟩
     .rw[List.take_succ_eq_append_getElem hlt];exact h1.append (.cons hv2 .nil)
     .have hlen:=h1.length
      grind
   exact key n (bI _)
 .cases hl
variable{o:Nat}{l:ae ah}
def Rn{b:Nat}(hn:l.length=n)(hc:∀(j:Nat) v,l[j]? =some v->w.cell? ⟨b,o+j,none⟩=some v):
 (loadCells ⟨b,o,none⟩ n).run P w=.ok l.toArray w:=by
 subst hn;exact run_loadCells_list w _ l λj v hj=>by rw[addr_add];exact hc j v hj
variable{i:Nat}
def Xj{h:IH}(hl:h.qa i o n=some l):∃cs,h.get i=some (.cells cs)/\jW (kP cs o) n=some l:=by
 unfold IH.qa at hl
 grind
def FW{h:IH}(hl:h.iK i o n=some l):∃cs,(h.get i=some (.cells cs)\/h.get i=some (.kR cs))/\jW (kP cs o) n=some l:=by
 unfold IH.iK at hl
 grind
def Xk{h:IH}{v:ah}(hl:h.qM i o=some v):∃cs,(h.get i=some (.cells cs)\/h.get i=some (.kR cs))/\lu cs o=some v:=by
 unfold IH.qM at hl
 grind
variable{h2:IH}
def af3{h:IH}(hs:∀i o,h.get i=some o->h2.get i=some o){i o:Nat}{v:ah}(hl:h.qM i o=some v):h2.qM i o=some v:=by
 obtain⟨cs,hg|hg,h1⟩:=Xk hl
 .simp only[IH.qM,hs _ _ hg,h1]
 .simp only[IH.qM,hs _ _ hg,h1]
def Xl{h:IH}(hs:∀i o,h.get i=some o->h2.get i=some o){i o n:Nat}{l:ae ah}(hl:h.iK i o n=some l):h2.iK i o n=some l:=by
 obtain⟨cs,hg|hg,h1⟩:=FW hl
 .simp only[IH.iK,hs _ _ hg,h1]
 .simp only[IH.iK,hs _ _ hg,h1]
def IJ(b:Nat):∀(vs:ae ah) (o:Nat) (w:World),(w.setCells b o vs).drawn=w.drawn
 |[],_,_=>rfl
 |v::vs,o,w=>by
  show((w.setCell ⟨b,o,none⟩ v).setCells b (o+1) vs).drawn=_;rw[IJ b vs];rfl
def DR(hW:WR P β h w){i:Nat}{g:jf}(hi:β i=some g){o:Nat}{vs vs':ae ah}{h':IH}(hs:h.storeAt i o vs=some h')(hv:aY β vs vs')(hall:vs.all cellV=true):
 (∀k,k=0->(storeCells ⟨g.b,g.off+o,none⟩ vs' k).run P w=.ok () (w.setCells g.b (g.off+o) vs'))/\WR P β h' (w.setCells g.b (g.off+o) vs')/\Eff β h w β h' (w.setCells g.b (g.off+o) vs'):=by
 unfold IH.storeAt at hs;split at hs
 .rename_i cs hg;split at hs
  .rename_i cs2 hl;cases hs;obtain⟨h1,h2,h3,h5,h6,h7⟩:=hW.obj i g _ hi hg;obtain⟨l1,l2,l3⟩:=BL hl;have hlen:vs'.length=vs.length:=hv.length;have hin:∀j,j<vs'.length->g.off+o+j<g.top:=λj hj=>by omega
   have hone:∀v∈vs',v.oneCell'=true:=λv hv'=>by
    obtain⟨j,hj⟩:=iI hv';have hjl:j<vs.length:=by
     rcases MS j vs'.length with hh|hh
     .omega
     .rw[iJ hh]at hj;cases hj
    exact fN
   have hrun:∀k,k=0->(storeCells ⟨g.b,g.off+o,none⟩ vs' k).run P w=.ok () (w.setCells g.b (g.off+o) vs'):=λk hk=>by
    subst hk;have:=run_storeCells_cells (P:=P) g.b (g.off+o) vs' 0 w (λj hj=>(h5 _ (hin j hj)).1) (λj hj=>(h5 _ (hin j hj)).2) hone;simpa using this
   have hsz:(w.setCells g.b (g.off+o) vs').heap.size=w.heap.size:=by
    have DT:∀(vs:ae ah) (o:Nat) (w:World),(w.setCells g.b o vs).heap.size=w.heap.size:=by
     intro vs;induction vs with
     |nil=>intro o w;rfl
     |cons v vs ih=>intro o w;show((w.setCell ⟨g.b,o,none⟩ v).setCells g.b (o+1) vs).heap.size=_;rw[ih];simp
    exact DT _ _ _
   have hother:∀b,b≠g.b->(w.setCells g.b (g.off+o) vs').heap[b]? =w.heap[b]?:=by
    have DT:∀(vs:ae ah) (o:Nat) (w:World) (b:Nat),b≠g.b->(w.setCells g.b o vs).heap[b]? =w.heap[b]?:=by
     intro vs;induction vs with
     |nil=>intro o w b _;rfl
     |cons v vs ih=>intro o w b hb;show((w.setCell ⟨g.b,o,none⟩ v).setCells g.b (o+1) vs).heap[b]? =_;rw[ih _ _ _ hb,Go.RowKit.Below.heap_setCell _ _ _ _ hb]
    exact DT _ _ _
   have hsame:∃c t fz,(w.setCells g.b (g.off+o) vs').heap[g.b]? =some (.cells c t fz)/\¬(fz.1<=c.size/\c.size<fz.2):=by
    have DT:∀(vs:ae ah) (o:Nat) (w:World),(∃c t fz,w.heap[g.b]? =some (.cells c t fz)/\¬(fz.1<=c.size/\c.size<fz.2))->∃c t fz,(w.setCells g.b o vs).heap[g.b]? =some (.cells c t fz)/\¬(fz.1<=c.size/\c.size<fz.2):=by
     intro vs;induction vs with
     |nil=>intro o w hh;exact hh
     |cons v vs ih=>
      intro o w ⟨c,t,fz,hh,hz⟩;refine ih _ _ ⟨c.setIfInBounds o v,t,fz,?_,As⟩;simp[World.setCell,Array.getElem?_modify,hh]
    exact DT _ _ _ h1
   have DN:(w.setCells g.b (g.off+o) vs').tape=w.tape:=by
    have DT:∀(vs:ae ah) (o:Nat) (w:World),(w.setCells g.b o vs).tape=w.tape:=by
     intro vs;induction vs with
     |nil=>intro o w;rfl
     |cons v vs ih=>intro o w;show((w.setCell ⟨g.b,o,none⟩ v).setCells g.b (o+1) vs).tape=_;rw[ih];rfl
    exact DT _ _ _
   have hos:=(Ww g.b (may:=λ_=>True) vs' (g.off+o) w (λ_ _=>trivial)).1;have hout:=(Ww g.b (may:=λ_=>True) vs' (g.off+o) w (λ_ _=>trivial)).2.1;have hdr:w.drawn<=(w.setCells g.b (g.off+o) vs').drawn:=by rw[IJ];exact bI _
   refine⟨hrun,?_⟩;refine hW.write hi hg (.cells cs2) hsz hother hos DN hout hdr ⟨hsame,tf,h3,?_,?_,?_⟩
   .intro j hj;refine⟨?_,by rw[MU];exact(h5 j hj).2⟩;by_cases hr:g.off+o<=j/\j<g.off+o+vs'.length
    .have:=Fh g.b vs' (g.off+o) w (λk hk=>(h5 _ (hin k hk)).1) (j - (g.off+o)) tf;rw[show g.off+o+(j - (g.off+o))=j by omega]at this;rw[this];simp
    .rw[Bv g.b vs' (g.off+o) w ⟨g.b,j,none⟩ (λ_ _=>by simp;omega)];exact(h5 j hj).1
   .rw[jN]at h6 hall⊢;intro x hx;obtain⟨j,hj⟩:=iI hx;rw[l3]at hj;split at hj
    .exact hall x (aU hj)
    .exact h6 x (aU hj)
   .intro j v hj;rw[l3]at hj;split at hj
    .rename_i hr;obtain⟨v',hv1,hv2⟩:=hv.get hj;refine⟨v',?_,hv2⟩;have hlt:j - o<vs'.length:=by omega
     have:=Fh g.b vs' (g.off+o) w (λk hk=>(h5 _ (hin k hk)).1) (j - o) hlt;rw[show g.off+o+(j - o)=g.off+j by omega]at this;rw[this];rw[bY hlt]at hv1;exact hv1
    .rename_i hr;obtain⟨v',hv1,hv2⟩:=h7 j v hj;refine⟨v',?_,hv2⟩;rw[Bv g.b vs' (g.off+o) w ⟨g.b,g.off+j,none⟩ (λ_ _=>by simp;omega)];exact hv1
  .cases hs
 .cases hs
def Good(P:Program)(β:aI)(h:IH)(w:World)(s:Sem Next)(v:ah)(h':IH):Prop:=
 ∃r w' β' v',s.run P w=.ok r w'/\(r=.value v'\/(r=.skip/\v'=undef))/\VR β' v v'/\WR P β' h' w'/\Eff β h w β' h' w'
def Good.same(hW:WR P β h w){s:Sem Next}{v v':ah}(hr:s.run P w=.ok (.value v') w)(hv:VR β v v'):Good P β h w s v h:=
 ⟨_,w,β,v',hr,.inl rfl,hv,hW,Eff.refl _ _ _ hW.dom⟩
def xR(P:Program)(β:aI)(w:World)(s:Sem Next)(f:Nat->ah)(o:aN):Prop:=
 ∃v' o' g,s.run P w=.ok (.value v') {w with heap:=w.heap.push o'}/\g.b=w.heap.size/\
  ∀(i:Nat) (β':aI),β.le β'->β' i=some g->VR β' (f i) v'/\OR P β' g {w with heap:=w.heap.push o'} o
def xR.good(hW:WR P β h w){s:Sem Next}{f:Nat->ah}{o:aN}(hm:xR P β w s f o):Good P β h w s (f h.next) (h.new o):=by
 obtain⟨v',o',g,h1,h2,h3⟩:=hm;have hle:=aI.xQ g hW.y8;obtain⟨a,b⟩:=hW.alloc o o' g h2 rfl (h3 h.next _ hle (aI.lY _ _ _)).2;exact⟨_,_,_,v',h1,.inl rfl,(h3 h.next _ hle (aI.lY _ _ _)).1,a,b⟩
def OR.IK{β:aI}{w:World}{cs cs':ae ah}(t:aF)(h:aY β cs cs')(hc:cs.all cellV=true)(rest:ae ah)(sz:Nat):
 OR P β ⟨w.heap.size,0,cs.length,cs.length+rest.length,sz⟩ {w with heap:=w.heap.push (.cells ⟨cs'++rest⟩ t)} (.cells cs):=by
 have hb:({w with heap:=w.heap.push (.cells ⟨cs'++rest⟩ t)}).heap[w.heap.size]? =some (.cells ⟨cs'++rest⟩ t):=tg
 refine⟨(by grind),rfl,tg,λj hj=>⟨?_,?_⟩,hc,λj v hj=>?_⟩
 .simp;have:=h.length;simp at hj;omega
 .simp[World.frozen?]
 .obtain⟨v',h1,h2⟩:=h.get hj;refine⟨v',?_,h2⟩;simp only[World.cell?]
  grind
end Go.Ideal
namespace Go.Ideal
variable {P:Program} {β:aI} {h:IH} {w:World}
variable{v:ah}
def VR.Nj{b:Bool}(h:VR β (.bool b) v):v=.bool b:=by cases h;rfl
def VR.nT{k:IntKind}{n:Int}(h:VR β (.int k n) v):v=.int k n:=by cases h;rfl
def VR.BP{s:ByteArray}(h:VR β (.string s) v):v=.string s:=by cases h;rfl
variable{i o:Nat}
def VR.xS(h:VR β (.pointer (some ⟨i,o,none⟩)) v):∃g,β i=some g/\v=.pointer (some ⟨g.b,g.off+o,none⟩):=by
 cases h with|ptr hi=>exact⟨_,hi,rfl⟩
def VR.FX(h:VR β (.map (some i)) v):∃g,β i=some g/\v=.map (some g.b):=by
 cases h with|map hi=>exact⟨_,hi,rfl⟩
def VR.DU{t:aF}{u:ah}(h:VR β (.iface t u) v):∃u',VR β u u'/\v=.iface t u':=by
 cases h with|iface t hi=>exact⟨_,hi,rfl⟩
def VR.Ro{l:ae ah}(h:VR β (.agg ⟨l⟩) v):∃l',aY β l l'/\l.all Ideal.cellV=true/\v=.agg ⟨l'⟩:=by
 cases h with|agg hc hl=>grind
def VR.BQ{fn:Fn}{f c:ae ah}(h:VR β (.func fn ⟨f⟩ ⟨c⟩) v):∃fn' f' c',FR β fn fn'/\aY β f f'/\aY β c c'/\v=.func fn' ⟨f'⟩ ⟨c'⟩:=by
 cases h with|func h1 h2 h3=>grind
def VR.nU{f:ak Nat}{n c:Nat}(h:VR β (.slice (some ⟨i,o,f⟩) n c) v):
 ∃g a c',β i=some g/\v=.slice (some a) n c'/\a.block=g.b/\True/\n<=c/\c<=c'/\(c'=0\/(a.off=g.off+o/\a.spot=none))/\
  ((f=some 0/\c'=c)\/(f=some g.sz/\0<g.sz/\o+c*g.sz=g.len/\(g.off+o+c'*g.sz=g.top/\a.spot=none))):=by
 cases h with
 |ay hi hb hn ha=>grind
 |qf hi hb hs hn hz hl ht hc ha=>grind
def aY.of_map{γ:Type}{f f':γ->ah}{l:ae γ}(h:∀x∈l,VR β (f x) (f' x)):aY β (nQ f l) (l.map f'):=by
 rw[xN];exact aY.map l h
def af4(ρ:az->ah)(zero:ae ah):uU ρ zero []=some zero:=rfl
def Rp(ρ:az->ah)(zero:ae ah)(off size:Nat)(x:az)(ps:ae (Nat×Nat×az)):
 uU ρ zero ((off,size,x)::ps)=match cellsOf (ρ x)with
  |none=>none
  |some vs=>if jq vs=size then(match jE zero off vs with
   |some cs=>uU ρ cs ps
   |none=>none)else none:=by
 show(match cellsOf (ρ x)with
  |none=>none
  |some vs=>cond (Nat.beq (jq vs) size) (match jE zero off vs with
   |some cs=>uU ρ cs ps
   |none=>none) none)=_
 cases cellsOf (ρ x)with
 |none=>rfl
 |some vs=>
  show cond (Nat.beq (jq vs) size) _ none=if jq vs=size then _ else none
  cases hb:Nat.beq (jq vs) size with
  |true=>rw[if_pos (tL hb)];rfl
  |false=>rw[if_neg (H9 hb)];rfl
def foldl_set(off:Nat):∀(l:ae ah) (k:Nat) (A:Array ah),
 ((l.zipIdx k).foldl (λcs (x:ah×Nat)=>cs.setIfInBounds (off+x.2) x.1) A).size=A.size/\
 ∀j,((l.zipIdx k).foldl (λcs (x:ah×Nat)=>cs.setIfInBounds (off+x.2) x.1) A)[j]? =if off+k<=j/\j<off+k+l.length/\j<A.size then l[j - (off+k)]? else A[j]?:=by
 intro l;induction l with
 |nil=>intro k A;refine⟨rfl,λj=>?_⟩;rw[if_neg tx];rfl
 |cons x l ih=>
  intro k A;simp only[List.zipIdx_cons]
  grind
inductive F2{γ δ:Type}(R:γ->δ->Prop):List γ->List δ->Prop
 |nil:F2 R [] []
 |cons {a:γ} {b:δ} {l:List γ} {r:List δ} (h:R a b) (hl:F2 R l r):F2 R (a::l) (b::r)
def Rq{place:Nat->ak (Nat×Nat)}{ρ ρ':az->ah}:∀(parts:ae (Nat×az)) (pc:ae (Nat×Nat×az)) (zs zs' cs:ae ah),
 F2 (λ(p:Nat×az) (q:Nat×Nat×az)=>q.2.2=p.2/\place p.1=some (q.1,q.2.1)) parts pc->aY β zs zs'->zs.all Ideal.cellV=true->
 uU ρ zs pc=some cs->(∀p∈parts,VR β (ρ p.2) (ρ' p.2))->∃cs',Instr.fill place ⟨zs'⟩ (parts.map λp=>(p.1,ρ' p.2))=some ⟨cs'⟩/\aY β cs cs'/\cs.all Ideal.cellV=true/\cs.length=zs.length:=by
 intro parts;induction parts with
 |nil=>
  intro pc zs zs' cs hf hz hc hr _;cases hf;rw[af4]at hr;cases hr;exact⟨zs',rfl,hz,hc,rfl⟩
 |cons p parts ih=>
  intro pc zs zs' cs hf hz hc hr hρ;obtain⟨i,x⟩:=p;cases hf with
  | @cons _ q _ pc hq hf=>
    obtain⟨off,size,y⟩:=q;obtain⟨hy,hpl⟩:=hq;simp only at hy hpl;subst hy;rw[Rp]at hr;split at hr
    .cases hr
    .rename_i vs hvs;split at hr
     .rename_i hsz;split at hr
      .rename_i cs1 hl;obtain⟨IL,vs',hv1,hv2⟩:=(hρ (i,y) tg).cells hvs;obtain⟨l1,l2,l3⟩:=BL hl;rw[xO]at hsz;have hlen:=hv2.length;have hzl:=hz.length;have Rs:=foldl_set off vs' 0 ⟨zs'⟩;have hA:∃Nk,((vs'.zipIdx 0).foldl (λcs (x:ah×Nat)=>cs.setIfInBounds (off+x.2) x.1) (⟨zs'⟩:Array ah))=⟨Nk⟩/\aY β cs1 Nk:=by
        refine⟨_,rfl,aY.Nh ?_ ?_⟩
        .grind
        .intro j v hj;have hg:=Rs.2 j;simp only[Dm]at hg;rw[l3]at hj;split at hj
         .rename_i hr2;obtain⟨v',h1,h2⟩:=hv2.get hj
          grind
         .rename_i hr2;obtain⟨v',h1,h2⟩:=hz.get hj
          grind
       obtain⟨Nk,hA1,hA2⟩:=hA;have hc1:cs1.all Ideal.cellV=true:=by
        rw[jN]at hc IL⊢;intro z hzm;obtain⟨j,hj⟩:=iI hzm
        grind
       obtain⟨cs',r1,r2,r3,r4⟩:=ih pc cs1 Nk cs hf hA2 hc1 hr (by grind);refine⟨cs',?_,r2,r3,tf⟩;simp only[kv,Instr.fill,hpl]
       grind
      .cases hr
     .cases hr
end Go.Ideal
namespace Go.Ideal
variable {P:Program} {β:aI} {h:IH} {w:World}
variable{w':World}
def Af{s:Sem ah}{v:ah}{w:World}(h:s.run P w=.ok v w'):(do pure (.value (<- s)):Sem Next).run P w=.ok (.value v) w':=tR
def Xm{s:Sem Unit}{w:World}(h:s.run P w=.ok () w'):(do s;pure .skip:Sem Next).run P w=.ok .skip w':=tR
variable{t:aF}{cs cs':ae ah}{s:Sem Next}
def Xn(hcs:aY β cs cs')(hc:cs.all cellV=true)
 (hr:s.run P w=.ok (.value (.pointer (some ⟨w.heap.size,0,none⟩))) {w with heap:=w.heap.push (.cells ⟨cs'⟩ t)}):
 xR P β w s (λi=>.pointer (some ⟨i,0,none⟩)) (.cells cs):=by
 refine⟨_,_,⟨w.heap.size,0,cs.length,cs.length+0,0⟩,hr,rfl,λi β' hle hi=>⟨?_,?_⟩⟩
 .have:=VR.ptr (o:=0) hi;exact this
 .exact pS
variable{n:Nat}
def Xo{c:Nat}(hn:n<=c)(hcs:aY β cs cs')(hc:cs.all cellV=true)
 (hr:s.run P w=.ok (.value (.slice (some ⟨w.heap.size,0,none⟩) n c)) {w with heap:=w.heap.push (.cells ⟨cs'⟩ t)}):
 xR P β w s (λi=>.slice (FC i 0) n c) (.cells cs):=by
 refine⟨_,_,⟨w.heap.size,0,cs.length,cs.length+0,0⟩,hr,rfl,λi β' hle hi=>⟨?_,?_⟩⟩
 .exact VR.ay hi rfl hn (.inr ⟨rfl,rfl⟩)
 .exact pS
def BS(h:y5 P t=some cs):
 ∃z i,P.info? t=some i/\i.zero=some z/\z.cells=⟨cs⟩/\gJ cs=true/\kw P t=some cs.length:=by
 unfold y5 at h;split at h
 .rename_i z n hz hn;split at h
  .obtain⟨i,h1,h2,h3⟩:=FT hz
   grind
  .cases h
 .cases h
def af6(f:Nat->ah):Array.map f (Array.range 0)= #[]:=(by grind)
variable{type e:aF}{dst:ak Tmp}{pos:String}{after:Array Edge}{guard:ak (Nat×Bool)}{c:aK}{ρ ρ':az->ah}{f:Nat->ah}{ob:aN}
def af7
 (hc:cop P ⟨dst,.alloc e,type,pos,after,guard⟩=some c) (ha:c.alloc ρ=some (f,ob)):xR P β w (execOp ρ' ⟨dst,.alloc e,type,pos,after,guard⟩) f ob:=by
 simp only[cop]at hc;split at hc
 .rename_i cs hz;cases hc;cases ha;obtain⟨z,i,h1,h2,h3,h4,_⟩:=BS hz;refine Xn (t:=e) (aY.free h4) (xP h4) ?_;simp[execOp,Instr.alloc,zeroValue,typeInfo,h1,h2,newVar,newRow,h3]
 .cases hc
def af8{x:az}
 (hc:cop P ⟨dst,.box e x,type,pos,after,guard⟩=some c) (ha:c.alloc ρ=some (f,ob)) (hx:VR β (ρ x) (ρ' x)):xR P β w (execOp ρ' ⟨dst,.box e x,type,pos,after,guard⟩) f ob:=by
 simp only[cop,bz]at hc;subst hc;simp only[aK.alloc]at ha;split at ha
 .rename_i cs hcs;cases ha;obtain⟨h1,cs',h2,h3⟩:=hx.cells hcs;refine Xn (t:=e) h3 h1 ?_;simp[execOp,Instr.box,newVar,newRow,h2]
 .cases ha
def af9{r:ak az}
 (hc:cop P ⟨dst,.makeMap t r,type,pos,after,guard⟩=some c) (ha:c.alloc ρ=some (f,ob)):xR P β w (execOp ρ' ⟨dst,.makeMap t r,type,pos,after,guard⟩) f ob:=by
 cases r with
 |some r=>simp[cop]at hc
 |none=>
  simp only[cop,bz]at hc;subst hc;cases ha;refine⟨.map (some w.heap.size),.map #[] 0,⟨w.heap.size,0,0,0,0⟩,?_,rfl,λi β' hle hi=>⟨?_,?_⟩⟩
  .simp[execOp,Instr.makeMap]
  .have:=VR.map hi;exact this
  .exact⟨#[],tg,.nil⟩
def aga(z:ae ah)(n:Nat)(hz:z≠[]):∀j,(zeros z n)[j]? =if j<n*z.length then z[j%z.length]? else none:=by
 induction n with
 |zero=>intro j;show([])[j]? =_;simp
 |succ n ih=>
  intro j;show(lX z (zeros z n))[j]? =_;rw[jO];by_cases hj:j<z.length
  .rw[pX hj,if_pos (by grind),Nat.mod_eq_of_lt hj]
  .have:(j - z.length)%z.length=j%z.length:=by
    rw[<- Nat.mod_eq_sub_mod tf]
   grind
def BU{z:ae ah}(hz:gJ z=true)(n:Nat):gJ (zeros z n)=true:=by
 have happ:∀(a b:ae ah),gJ a=true->gJ b=true->gJ (a++b)=true:=by
  intro a b ha hb;induction a with
  |nil=>exact hb
  |cons x a ih=>simp[gJ]at ha⊢;grind
 induction n with
 |zero=>rfl
 |succ n ih=>show gJ (lX z (zeros z n))=true;rw[jO];exact happ _ _ hz ih
def Nl(z:ae ah)(n:Nat)(hz:z≠[]):(Array.range (n*z.length)).map (λj=>(⟨z⟩:Array ah)[j%(⟨z⟩:Array ah).size]!)=⟨zeros z n⟩:=by
 have hpos:0<z.length:=(by grind)
 apply Array.ext';apply jr;intro j;rw[aga z n hz];simp only[Array.toList_map,Array.toList_range,dZ];by_cases hj:j<n*z.length
 .rw[if_pos hj,yR hj];have hm:j%z.length<z.length:=zX _ hpos;simp[hm]
 grind
def wD(h:qc P t=some n):kw P t=some n/\0<n:=by
 unfold qc at h
 grind
def agb{l k:az}
 (hc:cop P ⟨dst,.makeSlice t l k,type,pos,after,guard⟩=some c) (ha:c.alloc ρ=some (f,ob)) (hl:VR β (ρ l) (ρ' l)) (hk:VR β (ρ k) (ρ' k)):
 xR P β w (execOp ρ' ⟨dst,.makeSlice t l k,type,pos,after,guard⟩) f ob:=by
 simp only[cop]at hc;split at hc
 .rename_i e hu;split at hc
  .rename_i s z hs hz;cases hc;simp only[aK.alloc]at ha;obtain⟨zv,i,h1,h2,h3,h4,h5⟩:=BS hz;obtain⟨hs1,hs2⟩:=wD hs;rw[h5]at hs1;have hzl:z.length=s:=by simpa using hs1
   split at ha
   .rename_i ln cn hln hcn;rw[hln]at hl;rw[hcn]at hk;have hl':=hl.nT;have hk':=hk.nT;simp only[h1,om,Option.get!_some]at ha;cases hcond:(ln.ble cn&&(cn.mul i.bytes).ble small&&(cn.mul s).ble small&&cn.ble small)with
    |false=>grind
    |true=>
     rw[hcond]at ha;obtain⟨rfl,rfl⟩:=ha;simp only[eU]at hcond;obtain⟨⟨⟨c1,c2⟩,c3⟩,c4⟩:=hcond;have c1:=mG c1;have c2:=mG c2;have c4:=mG c4;unfold small at c2 c4;have hwl:IntKind.i64.wrap (Int.ofNat ln)=ln:=by
      exact IntWalk.i64_in _ tx
     have hwc:IntKind.i64.wrap (Int.ofNat cn)=cn:=by
      exact IntWalk.i64_in _ tx
     refine Xo (t:=e) c1 (aY.free (BU h4 cn)) (xP (BU h4 cn)) ?_;have IM:z≠[]:=(by grind)
     have hsz:((cn:Int)).toNat=cn:=tg
     have hsz2:((ln:Int)).toNat=ln:=tg
     simp only[execOp,Instr.makeSlice,dS,gU hu,eX,hl',hk',asInt,asIntOf,fM,II h1,hwl,hwc,Int.reducePow];rw[if_neg (by grind)];simp only[hsz,hsz2,dS,run_askRoom,eX,pg h5,hzl];by_cases h0:cn*s=0
     .rw[if_pos h0];have agc:cn=0:=by
       exact r5
      subst agc;have hz0:zeros z 0=[]:=rfl;simp[newRow,hz0,af6]
     .rw[if_neg h0];have hzz:zeroOf P e=some zv:=by
       exact nr
      have hrow:=Nl z cn IM;rw[hzl]at hrow;simp only[dS,FU hzz,eX,h3,fM,newRow,run_newObj,hrow]
   .cases ha
  .cases hc
 .cases hc
def F2.of_map{γ δ:Type}{R:γ->δ->Prop}(f:γ->δ)(l:ae γ)(h:∀x∈l,R x (f x)):F2 R l (l.map f):=by
 exact oT
section
variable {dst:ak Tmp} {type:aF} {pos:String} {after:Array Edge} {guard:ak (Nat×Bool)} {c:aK} {ρ ρ':az->ah} {f:Nat->ah} {ob:aN} {v:ah} {h':IH}
variable{t:aF}{parts:Array (Nat×az)}
def agd{len:Nat}
 (hc:cop P ⟨dst,.buildSlice t len parts,type,pos,after,guard⟩=some c) (ha:c.alloc ρ=some (f,ob)) (hρ:∀p∈parts.toList,VR β (ρ p.2) (ρ' p.2)):
 xR P β w (execOp ρ' ⟨dst,.buildSlice t len parts,type,pos,after,guard⟩) f ob:=by
 simp only[cop]at hc;split at hc
 .rename_i e hu;split at hc
  .rename_i s z hs hz;split at hc
   .rename_i hle;cases hc;simp only[aK.alloc]at ha;split at ha
    .rename_i cs hcs;cases ha;obtain⟨zv,i,h1,h2,h3,h4,h5⟩:=BS hz;obtain⟨hs1,hs2⟩:=wD hs;rw[h5]at hs1;have hzl:z.length=s:=by simpa using hs1
     have IM:z≠[]:=(by grind)
     obtain⟨cs',r1,r2,r3,_⟩:=Rq (β:=β) (place:=λi=>some (i*s,s)) (ρ:=ρ) (ρ':=ρ') parts.toList _ (zeros z len) (zeros z len) cs
      (F2.of_map (λp=>(p.1*s,s,p.2)) _ (by grind)) (aY.free (BU h4 len)) (xP (BU h4 len)) hcs hρ
     refine Xo (t:=e) (bI _) r2 r3 ?_;have hzz:zeroOf P e=some zv:=by
      exact nr
     have hrow:=Nl z len IM;rw[hzl]at hrow;have hpl:(parts.map λ(x:Nat×az)=>match x with|(i,x)=>(i,ρ' x)).toList=parts.toList.map λp=>(p.1,ρ' p.2):=tg
     simp only[execOp,Instr.buildSlice,dS,gU hu,eX,pg h5,hzl,hpl];rw[if_neg tf];by_cases h0:len*s=0
     .have hl0:len=0:=by
       exact r5
      subst hl0;rw[if_pos h0];have hz0:(Array.map (λx=>(#[]:Array ah)[x%(#[]:Array ah).size]!) (Array.range (0*s)))=⟨zeros z 0⟩:=by grind
      simp only[dS,fM,eX,hz0,r1,newRow,run_newObj]
     .rw[if_neg h0];simp only[dS,FU hzz,eX,h3,fM,hrow,r1,newRow,run_newObj]
    .cases ha
   .cases hc
  .cases hc
 .cases hc
variable{x:az}
def age(hc:cop P ⟨dst,.move x,type,pos,after,guard⟩=some c)(hr:c.run P ρ h=some (v,h'))(hx:VR β (ρ x) (ρ' x))(hW:WR P β h w):
 Good P β h w (execOp ρ' ⟨dst,.move x,type,pos,after,guard⟩) v h':=by
 simp only[cop,bz]at hc;subst hc;obtain⟨rfl,rfl⟩:=hr;exact Good.same hW (by simp[execOp]) hx
def agf(hc:cop P ⟨dst,.assign x,type,pos,after,guard⟩=some c)(hr:c.run P ρ h=some (v,h'))(hx:VR β (ρ x) (ρ' x))(hW:WR P β h w):
 Good P β h w (execOp ρ' ⟨dst,.assign x,type,pos,after,guard⟩) v h':=by
 simp only[cop,bz]at hc;subst hc;obtain⟨rfl,rfl⟩:=hr;exact Good.same hW (by simp[execOp]) hx
variable{y:az}
def agh{z:az}(hc:cop P ⟨dst,.pick x y z,type,pos,after,guard⟩=some c)(hr:c.run P ρ h=some (v,h'))(hx:VR β (ρ x) (ρ' x))(hy:VR β (ρ y) (ρ' y))(hz:VR β (ρ z) (ρ' z))(hW:WR P β h w):
 Good P β h w (execOp ρ' ⟨dst,.pick x y z,type,pos,after,guard⟩) v h':=by
 simp only[cop,bz]at hc;subst hc;simp only[aK.run]at hr;split at hr
 .rename_i t ht;rw[ht]at hx;have hx':=hx.Nj;obtain⟨rfl,rfl⟩:=hr;cases t
  .exact Good.same hW (by simp[execOp,hx',asBool]) hz
  .exact Good.same hW (by simp[execOp,hx',asBool]) hy
 .cases hr
variable{fs:Array Field}
def run_places(hall:fs.toList.all (λf=>(kw P f.type).isSome)=true)(w:World):
 ∃pl:Array (Nat×Nat),(fs.mapM λf=>do pure (f.offset,<- sizeOf f.type):Sem (Array (Nat×Nat))).run P w=.ok pl w/\∀(i:Nat) fd,fs[i]? =some fd->∃s,kw P fd.type=some s/\pl[i]? =some (fd.offset,s):=by
 obtain⟨l⟩:=fs;have key:∀l:ae Field,l.all (λf=>(kw P f.type).isSome)=true->
  ∃pl:ae (Nat×Nat),(l.mapM λf=>do pure (f.offset,<- sizeOf f.type):Sem (ae (Nat×Nat))).run P w=.ok pl w/\∀(i:Nat) fd,l[i]? =some fd->∃s,kw P fd.type=some s/\pl[i]? =some (fd.offset,s):=by
  intro l;induction l with
  |nil=>intro _;exact⟨[],tg,(by grind)⟩
  |cons x l ih=>
   intro hl;simp only[MQ,eU]at hl;obtain⟨pl,h1,h2⟩:=ih hl.2;obtain⟨s,hs⟩:=Fj.1 hl.1;refine⟨(x.offset,s)::pl,?_,λi fd hi=>?_⟩
   .simp only[List.mapM_cons,dS,pg hs,eX,fM,h1]
   grind
 obtain⟨pl,h1,h2⟩:=key l hall;refine⟨⟨pl⟩,?_,λi fd hi=>?_⟩
 .rw[List.mapM_toArray,Sem.run_map,h1];rfl
 grind
def agi{pl:Array (Nat×Nat)}(hpl:∀(i:Nat) fd,fs[i]? =some fd->∃s,kw P fd.type=some s/\pl[i]? =some (fd.offset,s)):
 ∀(parts:ae (Nat×az)) (ps:ae (Nat×Nat×az)),BH P fs parts=some ps->F2 (λ(p:Nat×az) (q:Nat×Nat×az)=>q.2.2=p.2/\pl[p.1]? =some (q.1,q.2.1)) parts ps:=by
 intro parts;induction parts with
 |nil=>intro ps h;simp[BH]at h;subst h;exact .nil
 |cons p parts ih=>
  intro ps h;simp only[BH]at h;split at h
  .rename_i fd r Nn hr;split at h
   .cases h;refine .cons ⟨rfl,?_⟩ (ih r hr)
    grind
   .cases h
  .cases h
def agj(hc:cop P ⟨dst,.build t parts,type,pos,after,guard⟩=some c)(hr:c.run P ρ h=some (v,h'))(hρ:∀p∈parts.toList,VR β (ρ p.2) (ρ' p.2))(hW:WR P β h w):
 Good P β h w (execOp ρ' ⟨dst,.build t parts,type,pos,after,guard⟩) v h':=by
 have hpl:(parts.map λ(x:Nat×az)=>match x with|(i,x)=>(i,ρ' x)).toList=parts.toList.map λp=>(p.1,ρ' p.2):=tg
 simp only[cop]at hc;split at hc
 .rename_i fs z hu hz;split at hc
  .rename_i ps hps;cases hc;simp only[aK.run]at hr;split at hr
   .rename_i cs hcs;obtain⟨rfl,rfl⟩:=hr;obtain⟨zv,i,h1,h2,h3,h4,h5⟩:=BS hz;unfold placesOf at hps;split at hps
    .rename_i hall;obtain⟨pl,q1,q2⟩:=run_places (P:=P) hall w;obtain⟨cs',r1,r2,r3,_⟩:=Rq (β:=β) (ρ:=ρ) (ρ':=ρ') parts.toList ps z z cs (agi q2 _ _ hps) (aY.free h4) (xP h4) hcs hρ;refine Good.same hW ?_ (.agg r3 r2);simp only[execOp,Instr.build,dS,zeroValue,II h1,h2,eX,fM,h3,gU hu,q1,hpl,r1]
    .cases hps
   .cases hr
  .cases hc
 .rename_i n e z hu hz;split at hc
  .rename_i s hs;cases hc;simp only[aK.run]at hr;split at hr
   .rename_i cs hcs;obtain⟨rfl,rfl⟩:=hr;obtain⟨zv,i,h1,h2,h3,h4,h5⟩:=BS hz;obtain⟨hs1,hs2⟩:=wD hs;obtain⟨cs',r1,r2,r3,_⟩:=Rq (β:=β) (place:=λi=>some (i*s,s)) (ρ:=ρ) (ρ':=ρ') parts.toList _ z z cs (F2.of_map (λp=>(p.1*s,s,p.2)) _ (by grind)) (aY.free h4) (xP h4) hcs hρ;refine Good.same hW ?_ (.agg r3 r2);simp only[execOp,Instr.build,dS,zeroValue,II h1,h2,eX,fM,h3,gU hu,pg hs1,hpl,r1]
   .cases hr
  .cases hc
 .cases hc
def agk(hc:cop P ⟨dst,.load t x,type,pos,after,guard⟩=some c)(hr:c.run P ρ h=some (v,h'))(hx:VR β (ρ x) (ρ' x))(hW:WR P β h w):
 Good P β h w (execOp ρ' ⟨dst,.load t x,type,pos,after,guard⟩) v h':=by
 simp only[cop]at hc;split at hc
 .rename_i hagg;cases hs:kw P t with
  |none=>simp[hs]at hc
  |some n=>
   simp only[hs,om,bz]at hc;subst hc;simp only[aK.run]at hr;split at hr
   .rename_i i o ha;rw[ha]at hx;obtain⟨g,hg,hx'⟩:=hx.xS;split at hr
    .rename_i cs hcs;obtain⟨rfl,rfl⟩:=hr;obtain⟨blk,hb,hl⟩:=FW hcs;obtain⟨l1,l2,l',l3,l4⟩:=Ni hW hg hb hl;obtain⟨d,hd⟩:=Xi hagg;refine Good.same hW ?_ (.agg l2 l3);have:=Rn (P:=P) (n:=n) (by rw[l3.length,l1]) l4;simp[execOp,Instr.loadAt,Instr.sureAddr,hx',loadVar,FV hd,hagg,pg hs,this]
    .cases hr
   .cases hr
 .rename_i hagg;split at hc
  .rename_i d hd;cases hc;simp only[aK.run]at hr;split at hr
   .rename_i i o ha;rw[ha]at hx;obtain⟨g,hg,hx'⟩:=hx.xS;split at hr
    .rename_i u hu0;obtain⟨rfl,rfl⟩:=hr;obtain⟨cs,hcs,hu⟩:=Xk hu0;have h7:∀(j:Nat) v,cs[j]? =some v->∃v',w.cell? ⟨g.b,g.off+j,none⟩=some v'/\VR β v v':=by
      rcases hcs with hcs|hcs
      .obtain⟨_,_,_,_,_,h7⟩:=hW.obj i g _ hg hcs;exact h7
      .obtain⟨_,_,_,h7⟩:=hW.obj i g _ hg hcs;exact h7
     rw[uo]at hu;obtain⟨v',a,b⟩:=h7 _ _ hu;refine Good.same hW (v':=v') ?_ b;have Rt:lD P t=false:=by simpa using hagg
     simp[execOp,Instr.loadAt,Instr.sureAddr,hx',loadVar,FV hd,Rt,a]
    .cases hr
   .cases hr
  .cases hc
def agl(hc:cop P ⟨dst,.store t x y,type,pos,after,guard⟩=some c)(hr:c.run P ρ h=some (v,h'))(hx:VR β (ρ x) (ρ' x))(hy:VR β (ρ y) (ρ' y))(hW:WR P β h w):
 Good P β h w (execOp ρ' ⟨dst,.store t x y,type,pos,after,guard⟩) v h':=by
 simp only[cop]at hc;cases hs:kw P t with
 |none=>simp[hs]at hc
 |some n=>
  simp only[hs,om,bz]at hc;subst hc;simp only[aK.run]at hr;split at hr
  .rename_i i o vs ha hv;rw[ha]at hx;obtain⟨g,hg,hx'⟩:=hx.xS;cases hb:Nat.beq (jq vs) n with
   |false=>rw[hb]at hr;cases hr
   |true=>
    rw[hb]at hr;split at hr
    .rename_i h1 hst;obtain⟨rfl,rfl⟩:=hr;obtain⟨c1,vs',c2,c3⟩:=hy.cells hv;obtain⟨m1,m2,m3⟩:=DR hW hg hst c3 c1;refine⟨.skip,_,β,undef,?_,.inr ⟨rfl,rfl⟩,.eO _,m2,m3⟩;have hlen:vs'.length=n:=by rw[c3.length,<- xO];exact tL hb
     have hsz:((ρ' y).cells.size≠n)=False:=by simp[c2,hlen]
     simp[execOp,Instr.storeAt,Instr.sureAddr,hx',storeVar,pg hs,c2,m1 0 rfl,hlen]
    .cases hr
  .cases hr
end
end Go.Ideal
namespace Go.Ideal
variable {P:Program} {β:aI} {h:IH} {w:World}
section
variable {dst:ak Tmp} {type:aF} {pos:String} {after:Array Edge} {guard:ak (Nat×Bool)} {c:aK} {ρ ρ':az->ah} {v:ah} {h':IH}
variable{x:az}
def agm(hc:cop P ⟨dst,.nilCheck x,type,pos,after,guard⟩=some c)(hr:c.run P ρ h=some (v,h'))(hx:VR β (ρ x) (ρ' x))(hW:WR P β h w):
 Good P β h w (execOp ρ' ⟨dst,.nilCheck x,type,pos,after,guard⟩) v h':=by
 simp only[cop,bz]at hc;subst hc;simp only[aK.run]at hr;split at hr<;>simp only[bz,reduceCtorEq]at hr
 .rename_i a ha;obtain⟨rfl,rfl⟩:=hr;rw[ha]at hx;refine Good.same hW ?_ hx;have:∃a',ρ' x=.pointer (some a'):=by
   generalize ρ' x=u at hx;cases hx with|ptr hi=>exact⟨_,rfl⟩
  obtain⟨a',e⟩:=this;simp[execOp,e]
 .rename_i t u ha;obtain⟨rfl,rfl⟩:=hr;rw[ha]at hx;refine Good.same hW ?_ hx;obtain⟨u',_,e⟩:=hx.DU;simp[execOp,e]
 .rename_i f first captured ha
  exact eJ
 .rename_i t n first captured ha
  exact eJ
 .rename_i l first captured ha
  exact eJ
def wE(a b:Int):leZ a b=decide (a<=b):=by
 cases a<;>cases b<;>simp only[leZ]
 .rw[Fp];simp[tN]
 .grind
 .grind
 .rw[Fp];simp[tN];omega
def IP(a b:Int):FD a b=(a==b):=by
 cases a<;>cases b<;>simp only[FD]
 .rw[Fp];simp[Nat.beq_eq];omega
 .rfl
 .rfl
 .rw[Fp];simp[Nat.beq_eq]
def Ru(a b:Int):WZ a b=a+b:=by cases a<;>cases b<;>rfl
def Xp(a b:Int):Re a b=a - b:=by
 cases a<;>cases b<;>simp only[Re]
 rename_i x y;cases hb:Nat.ble y x with
 |true=>
  have:=mG hb
  grind
 |false=>
  have:¬y<=x:=λhh=>by rw[MP hh]at hb;cases hb
  simp[Int.negSucc_eq];omega
def Np(k:IntKind)(n:Int):Io k n=k.wrap n:=by
 have hmax:Rc=9223372036854775807:=rfl;have key:=λn hn=>(IntWalk.i64_in n hn).symm;unfold Io;split
 .rename_i m;cases hb:Nat.ble m Rc with
  |true=>have:=mG hb;grind
  |false=>exact cond_false _ _
 .rename_i m;cases hb:Nat.ble m 1000000 with
  |true=>
   have h1:=mG hb
   grind
  |false=>exact cond_false _ _
 .rfl
variable{k:IntKind}
def Xq{j:IntKind}(h:BG j k=true):j=k:=by
 cases j<;>cases k<;>first|rfl|(simp[BG]at h)
variable{t:aF}{op:BinOp}
def agn{a b:Int}{v:ah}(h:sw op k a b=some v)(w:World):(binOp op t (.int k a) (.int k b)).run P w=.ok v w:=by
 unfold sw at h;split at h<;>simp only[bz,reduceCtorEq]at h<;>subst h
 .simp[binOp,Op.intArith,Np,Ru]
 .simp[binOp,Op.intArith,Np,Xp]
 .simp[binOp,Op.intCmp,IP]
 .simp[binOp,IP];rfl
 .simp[binOp,Op.intCmp,wE,<- Int.not_le]
 .simp[binOp,Op.intCmp,wE]
 .simp[binOp,Op.intCmp,wE,<- Int.not_le]
 .simp[binOp,Op.intCmp,wE]
def Rv(op:BinOp)(t:aF)(x y:az)(a b:ah)(w:World)(h1:∀u,a≠.agg u)(h2:¬(a=.nilIface/\b=.nilIface)):(eqGuard op t x y a b).run P w=.ok () w:=by
 cases op<;>first
  |rfl
  |(cases a<;>first
   |rfl
   |exact absurd rfl (h1 _)
   |(cases b<;>first
    |rfl
    |grind))
def agp(d:Nat){t:aF}{a b a' b':ah}{r:Bool}(h:wz P t a b=some r)(ha:VR β a a')(hb:VR β b b')(w:World):
 (Op.equalIn (d+1) t a' b').run P w=.ok r w/\(∀u,a'≠.agg u)/\¬(a'=.nilIface/\b'=.nilIface)/\(∀k n,a'≠.int k n)/\(∀s,a'≠.string s)/\(∀k n,a'≠.float k n)/\(∀k n m,a'≠.complex k n m):=by
 cases hu:P.underlying t with
 |none=>unfold wz at h;simp[hu]at h
 |some ty=>
  unfold wz at h;rw[hu]at h;split at h<;>simp only[bz,reduceCtorEq]at h<;>subst h
  all_goals
   have he:=‹some ty=some _›;obtain rfl:=Option.some.inj he;cases ha<;>cases hb<;>refine⟨?_,tg,tg,tg,tg,tg,tg⟩<;>(unfold Op.equalIn;simp only[dS,gU hu,eX];rfl)
def Xr{a b a' b':ah}{r:Bool}(h:wz P t a b=some r)(ha:VR β a a')(hb:VR β b b')(w:World):
 (Op.equal t a' b').run P w=.ok r w/\(∀u,a'≠.agg u)/\¬(a'=.nilIface/\b'=.nilIface)/\(∀k n,a'≠.int k n)/\(∀s,a'≠.string s)/\(∀k n,a'≠.float k n)/\(∀k n m,a'≠.complex k n m):=
 agp 9999 h ha hb w
def IQ{s:Sem ah}{v:ah}(h:kQ P s=some v):dR P s=some v/\cB v=true:=by
 unfold kQ at h
 grind
variable{y:az}
def agq{yt:aF}(hc:cop P ⟨dst,.binOp op t x y yt,type,pos,after,guard⟩=some c)(hr:c.run P ρ h=some (v,h'))(hx:VR β (ρ x) (ρ' x))(hy:VR β (ρ y) (ρ' y))(hW:WR P β h w):
 Good P β h w (execOp ρ' ⟨dst,.binOp op t x y yt,type,pos,after,guard⟩) v h':=by
 simp only[cop,bz]at hc;subst hc;simp only[aK.run]at hr;split at hr
 .rename_i u hu;simp only[bz,kL]at hr;obtain⟨rfl,rfl⟩:=hr;unfold ow at hu;split at hu
  .
   rename_i v1 hv1;simp only[bz]at hu;subst hu;split at hv1
   .rename_i j m k n hm hn;cases hk:BG j k with
    |false=>grind
    |true=>
     rw[hk]at hv1;simp only[cond_true]at hv1;have:=Xq hk;subst this;rw[hm]at hx;rw[hn]at hy;have hx':=hx.nT;have hy':=hy.nT;have hfree:cB v1=true:=by
      unfold sw at hv1;split at hv1<;>simp only[bz,reduceCtorEq]at hv1<;>subst hv1<;>rfl
     refine Good.same hW (v':=v1) ?_ (VR.free hfree);simp only[execOp,hx',hy',dS,Rv op t x y (.int j m) (.int j n) w tg tg,eX,agn hv1,fM]
   .cases hv1
  .cases hf:cB (ρ x)&&cB (ρ y)with
   |true=>
    rw[hf]at hu;simp only[cond_true]at hu;simp only[eU]at hf;have hx':=hx.qO hf.1;have hy':=hy.qO hf.2;obtain⟨hu1,hu2⟩:=IQ hu;have hrun:=BN hu1 w;refine Good.same hW (v':=u) ?_ (VR.free hu2);simp only[execOp,hx',hy'];simp only[dS]at hrun⊢;rw[hrun];rfl
   |false=>
    rw[hf]at hu;simp only[cond_false]at hu;have Xt:∀(a b:ah),(∀k n,a≠.int k n)->(∀s,a≠.string s)->(∀k n,a≠.float k n)->(∀k n m,a≠.complex k n m)->
     binOp .eql t a b=(do pure (.bool (<- Op.equal t a b)))/\binOp .neq t a b=(do pure (.bool (!(<- Op.equal t a b)))):=by
     intro a b h1 h2 h3 h4;constructor<;>unfold binOp<;>cases a<;>first|rfl|grind|exact absurd rfl (h2 _)|grind|grind
    split at hu
    .split at hu
     .rename_i r hr2;simp only[bz]at hu;subst hu;obtain⟨e1,e2,e3,e4,e5,e6,e7⟩:=Xr hr2 hx hy w;refine Good.same hW (v':=.bool r) ?_ (.bool r);simp only[execOp,dS,Rv _ t x y _ _ w e2 e3,eX,(Xt _ _ e4 e5 e6 e7).1,e1,fM]
     .cases hu
    .split at hu
     .rename_i r hr2;simp only[bz]at hu;subst hu;obtain⟨e1,e2,e3,e4,e5,e6,e7⟩:=Xr hr2 hx hy w;refine Good.same hW (v':=.bool !r) ?_ (.bool _);simp only[execOp,dS,Rv _ t x y _ _ w e2 e3,eX,(Xt _ _ e4 e5 e6 e7).2,e1,fM]
     .cases hu
    .cases hu
 .cases hr
def agr{op:UnOp}(hc:cop P ⟨dst,.unOp op t x,type,pos,after,guard⟩=some c)(hr:c.run P ρ h=some (v,h'))(hx:VR β (ρ x) (ρ' x))(hW:WR P β h w):
 Good P β h w (execOp ρ' ⟨dst,.unOp op t x,type,pos,after,guard⟩) v h':=by
 simp only[cop,bz]at hc;subst hc;simp only[aK.run]at hr;cases hf:cB (ρ x)with
 |false=>rw[hf]at hr;cases hr
 |true=>
  rw[hf]at hr;simp only[cond_true]at hr;split at hr
  .rename_i u hu;simp only[bz,kL]at hr;obtain⟨rfl,rfl⟩:=hr;obtain⟨h1,h2⟩:=IQ hu;have hx':=hx.qO hf;exact Good.same hW By (VR.free h2)
  .cases hr
def agt(hc:cop P ⟨dst,.makeInterface t x,type,pos,after,guard⟩=some c)(hr:c.run P ρ h=some (v,h'))(hx:VR β (ρ x) (ρ' x))(hW:WR P β h w):
 Good P β h w (execOp ρ' ⟨dst,.makeInterface t x,type,pos,after,guard⟩) v h':=by
 simp only[cop]at hc;split at hc
 .cases hc
 .rename_i d hni hu;cases hc;obtain⟨rfl,rfl⟩:=hr;refine Good.same hW ?_ (.iface t hx);simp only[execOp,Instr.makeInterface,dS,gU hu];cases d<;>first|rfl|exact absurd rfl (hni _)
 .cases hc
variable{fn:Fn}
def FR.refl(h:M8 fn=true):FR β fn fn:=by
 cases fn with
 |func f=>exact .func f
 |method n=>exact .method n
 |methodOf t n=>exact .methodOf t n
 |via=>simp[M8]at h
 |yield l=>simp[M8]at h
def agu{first captured:Array az}(hc:cop P ⟨dst,.makeFunc fn first captured,type,pos,after,guard⟩=some c)(hr:c.run P ρ h=some (v,h'))
 (hf:∀x∈first.toList,VR β (ρ x) (ρ' x)) (hk:∀x∈captured.toList,VR β (ρ x) (ρ' x)) (hW:WR P β h w):
 Good P β h w (execOp ρ' ⟨dst,.makeFunc fn first captured,type,pos,after,guard⟩) v h':=by
 simp only[cop]at hc;split at hc
 .rename_i hfn;cases hc;obtain⟨rfl,rfl⟩:=hr;refine Good.same hW (v':=.func fn (first.map ρ') (captured.map ρ')) (by simp[execOp,Instr.makeFunc]) ?_;have e1:first.map ρ'=⟨first.toList.map ρ'⟩:=by grind
  have e2:captured.map ρ'=⟨captured.toList.map ρ'⟩:=by grind
  rw[e1,e2];exact .func (FR.refl hfn) (aY.of_map hf) (aY.of_map hk)
 .cases hc
variable{n:Nat}
def agv{a:Addr}{f:Field}(hs:kw P f.type=some n)(hn:0<n)(w:World):(fieldPlace a f).run P w=.ok (a.add f.offset) w:=by
 simp only[fieldPlace,dS,pg hs,eX];rw[if_neg tf];rfl
variable{f:Nat}
def agw{s:aF}(hc:cop P ⟨dst,.fieldAddr s x f,type,pos,after,guard⟩=some c)(hr:c.run P ρ h=some (v,h'))(hx:VR β (ρ x) (ρ' x))(hW:WR P β h w):
 Good P β h w (execOp ρ' ⟨dst,.fieldAddr s x f,type,pos,after,guard⟩) v h':=by
 simp only[cop]at hc;split at hc
 .rename_i fs hu;split at hc
  .rename_i fd Nn;cases hs:qc P fd.type with
   |none=>simp[hs]at hc
   |some n=>
    simp only[hs,om,bz]at hc;subst hc;obtain⟨hs1,hs2⟩:=wD hs;simp only[aK.run]at hr;split at hr
    .rename_i i o ha;rw[ha]at hx;obtain⟨g,hg,hx'⟩:=hx.xS;obtain⟨rfl,rfl⟩:=hr;refine Good.same hW (v':=.pointer (some ⟨g.b,g.off+(o+fd.offset),none⟩)) ?_ (.ptr hg);simp only[execOp,Instr.fieldAt,dS,gU hu,eX,Nn,hx',Instr.sureAddr,fM,agv hs1 hs2,addr_add,oq]
    .cases hr
  .cases hc
 .cases hc
def Xu{cs cs':ae ah}{off:Nat}{d:TypeDesc}(hd:P.underlying t=some d)(hs:kw P t=some n)(hv:aY β cs cs')(hall:cs.all cellV=true){v:ah}
 (hr:(match lD P t with
   |true=>match jW (kP cs off) n with
    |some l=>some (.agg ⟨l⟩:ah)
    |none=>none
   |false=>lu cs off)=some v) (w:World):∃v',(part t ⟨cs'⟩ off).run P w=.ok v' w/\VR β v v':=by
 cases hagg:lD P t with
 |true=>
  rw[hagg]at hr;simp only at hr;rw[o9,o8]at hr;split at hr
  .rename_i l hl;split at hl
   .cases hl;simp only[bz]at hr;subst hr;refine⟨.agg ⟨(cs'.drop off).take n⟩,?_,.agg ?_ ((hv.drop off).take n)⟩
    .simp only[part,dS,FV hd,hagg,eX,if_true,pg hs,fM]
     grind
    grind
   .cases hl
  .cases hr
 |false=>
  rw[hagg]at hr;rw[uo]at hr;obtain⟨v',h1,h2⟩:=hv.get hr;refine⟨v',?_,h2⟩;simp only[part,dS,FV hd,hagg,if_false];have:(⟨cs'⟩:Array ah)[off]? =some v':=tU
  simp[this]
def agx(hc:cop P ⟨dst,.field t x f,type,pos,after,guard⟩=some c)(hr:c.run P ρ h=some (v,h'))(hx:VR β (ρ x) (ρ' x))(hW:WR P β h w):
 Good P β h w (execOp ρ' ⟨dst,.field t x f,type,pos,after,guard⟩) v h':=by
 simp only[cop]at hc;split at hc
 .rename_i fs hu;split at hc
  .rename_i fd Nn;split at hc
   .rename_i n d hs hd;cases hc;simp only[aK.run]at hr;split at hr
    .rename_i cs ha;rw[ha]at hx;obtain⟨cs',h1,h2,hx'⟩:=hx.Ro;have hr':h'=h/\(match lD P fd.type with
      |true=>match jW (kP cs fd.offset) n with
       |some l=>some (.agg ⟨l⟩)
       |none=>none
      |false=>lu cs fd.offset)=some v:=by
      grind
     obtain⟨rfl,hr2⟩:=hr';obtain⟨v',p1,p2⟩:=Xu hd hs h1 h2 hr2 w;refine Good.same hW ?_ p2;simp only[execOp,Instr.field,dS,gU hu,eX,Nn,hx',asAgg,fM,p1]
    .cases hr
   .cases hc
  .cases hc
 .cases hc
def agy(hc:cop P ⟨dst,.indexAddr t x y,type,pos,after,guard⟩=some c)(hr:c.run P ρ h=some (v,h'))(hx:VR β (ρ x) (ρ' x))(hy:VR β (ρ y) (ρ' y))(hW:WR P β h w):
 Good P β h w (execOp ρ' ⟨dst,.indexAddr t x y,type,pos,after,guard⟩) v h':=by
 simp only[cop]at hc;split at hc
 .rename_i n e hu;cases hs:qc P e with
  |none=>simp[hs]at hc
  |some s=>
   simp only[hs,om,bz]at hc;subst hc;obtain⟨hs1,hs2⟩:=wD hs;simp only[aK.run]at hr;split at hr
   .rename_i b o k i ha hi;rw[ha]at hx;rw[hi]at hy;obtain⟨g,hg,hx'⟩:=hx.xS;have hy':=hy.nT;cases hb:Nat.blt i n with
    |false=>rw[hb]at hr;cases hr
    |true=>
     rw[hb]at hr;obtain⟨rfl,rfl⟩:=hr;have hlt:i<n:=tW
     refine Good.same hW ?_ (.ptr hg);simp only[execOp,Instr.indexAt,dS,hy',asIntOf,fM,eX,gU hu,hx',Instr.sureAddr];rw[if_pos (by grind)];simp[pg hs1,addr_add,oq]
   .cases hr
 .rename_i e hu;cases hs:qc P e with
  |none=>simp[hs]at hc
  |some s=>
   simp only[hs,om,bz]at hc;subst hc;obtain⟨hs1,hs2⟩:=wD hs;simp only[aK.run]at hr;split at hr
   .rename_i b o f n k' k i ha hi;rw[ha]at hx;rw[hi]at hy;obtain⟨g,a,c',hg,hx',ha1,ha2,hn,hcc,hoff,_⟩:=hx.nU;have hy':=hy.nT;cases hb:Nat.blt i n with
    |false=>rw[hb]at hr;cases hr
    |true=>
     rw[hb]at hr;obtain⟨rfl,rfl⟩:=hr;have hlt:i<n:=tW
     have hae:a=⟨g.b,g.off+o,none⟩:=by
      rcases hoff with h0|⟨h0,ha2⟩
      .omega
      .obtain⟨ab,ao,as⟩:=a;grind
     refine Good.same hW ?_ (.ptr hg);simp only[execOp,Instr.indexAt,dS,hy',asIntOf,fM,eX,gU hu,hx',hae];rw[if_pos (by grind)];simp[pg hs1,addr_add,oq]
   .cases hr
 .cases hc
def agz{i:Nat}(hc:cop P ⟨dst,.extract x i,type,pos,after,guard⟩=some c)(hr:c.run P ρ h=some (v,h'))(hx:VR β (ρ x) (ρ' x))(hW:WR P β h w):
 Good P β h w (execOp ρ' ⟨dst,.extract x i,type,pos,after,guard⟩) v h':=by
 simp only[cop,bz]at hc;subst hc;simp only[aK.run]at hr;split at hr
 .rename_i vs ha;split at hr
  .rename_i u hu;obtain⟨rfl,rfl⟩:=hr;rw[ha]at hx;rw[uo]at hu;generalize hy:ρ' x=y at hx;cases hx with
   |eO=>simp at hu
   |tuple hl=>
    obtain⟨v',h1,h2⟩:=hl.get hu;refine Good.same hW ?_ h2;rename_i l';have:(⟨l'⟩:Array ah)[i]? =some v':=tU
    simp[execOp,Instr.extract,hy,this]
  .cases hr
 .cases hr
end
end Go.Ideal
namespace Go.Ideal
variable {P:Program} {β:aI} {h:IH} {w:World}
variable{m i:Nat}{v:ah}
def DV(h:upTo m v=some i):∃k,v=.int k i/\i<=m:=by
 unfold upTo at h;split at h
 .rename_i k n;cases hb:Nat.ble n m with
  |true=>rw[hb]at h;simp only[cond_true,bz]at h;subst h;exact⟨k,rfl,mG hb⟩
  |false=>rw[hb]at h;cases h
 .cases h
def Ag{y:Nat}{code:BoundsCode}(h:upTo m v=some i)(hm:m<=y)(w:World):(Instr.sliceBound v y code).run P w=.ok i w:=by
 obtain⟨k,rfl,hle⟩:=DV h;simp only[Instr.sliceBound,asIntOf,dS,fM,eX];rw[if_pos (by grind)];simp
variable{len cap l hh:Nat}{lo hi mx:ak ah}
def IR(h:bounds? len cap lo hi mx=some (l,hh,m)):
 (∀v,mx=some v->upTo cap v=some m)/\(mx=none->m=cap)/\(∀v,hi=some v->upTo m v=some hh)/\(hi=none->mx=none/\hh=len)/\
 (∀v,lo=some v->upTo hh v=some l)/\(lo=none->l=0):=by
 unfold bounds? at h;split at h
 .cases h
 grind
def Rw(h:bounds? len cap lo hi mx=some (l,hh,m))(hlc:len<=cap):l<=hh/\hh<=m/\m<=cap:=by
 obtain⟨h1,h2,h3,h4,h5,h6⟩:=IR h;refine⟨?_,?_,?_⟩
 .cases lo with
  |some v=>obtain⟨_,_,hle⟩:=DV (h5 v rfl);exact hle
  |none=>grind
 .cases hi with
  |some v=>obtain⟨_,_,hle⟩:=DV (h3 v rfl);exact hle
  |none=>grind
 .cases mx with
  |some v=>obtain⟨_,_,hle⟩:=DV (h1 v rfl);exact hle
  |none=>grind
def Nq{IU:Bool}{cap':Nat}(h:bounds? len cap lo hi mx=some (l,hh,m))(hc:cap<=cap')(w:World):
 (Instr.sliceBounds IU len cap' lo hi mx).run P w=.ok (l,hh,if mx.isSome then m else cap') w:=by
 obtain⟨h1,h2,h3,h4,h5,h6⟩:=IR h;unfold Instr.sliceBounds;cases mx with
 |some v=>
  have h1:=h1 v rfl;cases hi with
  |none=>grind
  |some u=>
   have h3:=h3 u rfl;cases lo with
   |none=>have h6:=h6 rfl;subst h6;simp[Ag h1 hc,Ag h3 (bI _)]
   |some x=>have h5:=h5 x rfl;simp[Ag h1 hc,Ag h3 (bI _),Ag h5 (bI _)]
 |none=>
  have h2:=h2 rfl;subst h2;cases hi with
  |none=>
   obtain⟨_,rfl⟩:=h4 rfl;cases lo with
   |none=>have h6:=h6 rfl;subst h6;simp
   |some x=>have h5:=h5 x rfl;simp[Ag h5 (bI _)]
  |some u=>
   have h3:=h3 u rfl;cases lo with
   |none=>have h6:=h6 rfl;subst h6;simp[Ag h3 hc]
   |some x=>have h5:=h5 x rfl;simp[Ag h3 hc,Ag h5 (bI _)]
def Rx(h:bounds? len cap lo hi mx=some (l,hh,m)):(if mx.isSome then m else cap)=m:=by
 obtain⟨_,h2,_⟩:=IR h;cases mx with
 |some v=>rfl
 |none=>rw[h2 rfl];rfl
def Ry{lo hi mx:ak az}{ρ ρ':az->ah}{r:Nat×Nat×Nat}(h:bounds? len cap (jw ρ lo) (jw ρ hi) (jw ρ mx)=some r)
 (hl:∀x,lo=some x->VR β (ρ x) (ρ' x)) (hh:∀x,hi=some x->VR β (ρ x) (ρ' x)) (hm:∀x,mx=some x->VR β (ρ x) (ρ' x)):
 lo.map ρ'=jw ρ lo/\hi.map ρ'=jw ρ hi/\mx.map ρ'=jw ρ mx:=by
 obtain⟨h1,_,h3,_,h5,_⟩:=IR h;refine⟨?_,?_,?_⟩
 .cases lo with
  |none=>rfl
  |some x=>
   obtain⟨k,hk,_⟩:=DV (h5 _ rfl);have:=hl x rfl;exact rK
 .cases hi with
  |none=>rfl
  |some x=>
   obtain⟨k,hk,_⟩:=DV (h3 _ rfl);have:=hh x rfl;exact rK
 .cases mx with
  |none=>rfl
  |some x=>
   obtain⟨k,hk,_⟩:=DV (h1 _ rfl);have:=hm x rfl;exact rK
section
variable {dst:ak Tmp} {type:aF} {pos:String} {after:Array Edge} {guard:ak (Nat×Bool)} {c:aK} {ρ ρ':az->ah} {v:ah} {h':IH}
def agA{t:aF}{x:az}{lo hi mx:ak az}(hc:cop P ⟨dst,.slice t x lo hi mx,type,pos,after,guard⟩=some c)(hr:c.run P ρ h=some (v,h'))(hx:VR β (ρ x) (ρ' x))
 (hl:∀x,lo=some x->VR β (ρ x) (ρ' x)) (hh:∀x,hi=some x->VR β (ρ x) (ρ' x)) (hm:∀x,mx=some x->VR β (ρ x) (ρ' x)) (hW:WR P β h w):
 Good P β h w (execOp ρ' ⟨dst,.slice t x lo hi mx,type,pos,after,guard⟩) v h':=by
 simp only[cop]at hc;split at hc
 .
  rename_i hu;cases hc;simp only[aK.run]at hr;split at hr
  .rename_i s hs;split at hr
   .rename_i b hb;split at hr
    .rename_i u hu2;simp only[bz,kL]at hr;obtain⟨rfl,rfl⟩:=hr;obtain⟨h1,h2⟩:=IQ hu2;rw[hs]at hx;have hx':=hx.BP;obtain⟨e1,e2,e3⟩:=Ry hb hl hh hm;refine Good.same hW (v':=u) ?_ (VR.free h2);simp only[execOp,Instr.sliceAt,dS,gU hu,eX,hx',e1,e2,e3,BN h1 w,fM]
    .cases hr
   .cases hr
  .cases hr
 .
  rename_i n e hu;cases hs:qc P e with
  |none=>simp[hs]at hc
  |some s=>
   simp only[hs,om,bz]at hc;subst hc;obtain⟨hs1,hs2⟩:=wD hs;simp only[aK.run]at hr;split at hr
   .rename_i i o ha;split at hr
    .rename_i l h1 m hb;simp only[bz,kL]at hr;obtain⟨rfl,rfl⟩:=hr;rw[ha]at hx;obtain⟨g,hg,hx'⟩:=hx.xS;obtain⟨e1,e2,e3⟩:=Ry hb hl hh hm;have b1:=Nq (P:=P) (IU:=false) hb (bI _) w;rw[Rx hb]at b1;have hlen:=Rw hb (bI _);refine Good.same hW (v':=.slice (some (if m=l then(⟨g.b,g.off+o,none⟩:Addr)else(⟨g.b,g.off+o,none⟩:Addr).add (l*s))) (h1 - l) (m - l)) ?_ ?_
     .simp only[execOp,Instr.sliceAt,dS,gU hu,eX,hx',Instr.sureAddr,fM,e1,e2,e3,b1,pg hs1]
     .refine .ay hg ?_ (by grind) ?_
      .split<;>simp[addr_add]
      .by_cases hml:m=l
       .grind
       .right;rw[if_neg hml,addr_add];simp[oq]
    .cases hr
   .cases hr
 .
  rename_i e hu;cases hs:qc P e with
  |none=>simp[hs]at hc
  |some s=>
   simp only[hs,om,bz]at hc;subst hc;obtain⟨hs1,hs2⟩:=wD hs;simp only[aK.run]at hr;split at hr
   .rename_i a len cap ha;split at hr
    .rename_i l h1 m hb;rw[ha]at hx;obtain⟨e1,e2,e3⟩:=Ry hb hl hh hm;split at hr
     .
      simp only[bz,kL]at hr;obtain⟨rfl,rfl⟩:=hr;have hx':ρ' x=.slice none len cap:=by generalize ρ' x=y at hx;cases hx;rfl
      have b1:=Nq (P:=P) (IU:=true) hb (bI _) w;rw[Rx hb]at b1;refine Good.same hW (v':=.slice none (h1 - l) (m - l)) ?_ (.sl0 _ _);exact oa
     .
      rename_i i o;simp only[bz,kL]at hr;obtain⟨rfl,rfl⟩:=hr;obtain⟨g,a',c',hg,hx',ha1,ha2,hn,hcc,hoff,hkind⟩:=hx.nU;have hc':c'=cap:=by
       grind
      subst hc';have b1:=Nq (P:=P) (IU:=true) hb (bI _) w;rw[Rx hb]at b1;have hlen:=Rw hb hn;obtain⟨ab,ao,as⟩:=a';simp only at ha1 hoff;subst ha1;refine Good.same hW (v':=.slice (some (if m=l then(⟨g.b,ao,as⟩:Addr)else(⟨g.b,ao,as⟩:Addr).add (l*s))) (h1 - l) (m - l)) ?_ ?_
      .exact oa
      .refine .ay hg ?_ (by grind) ?_
       .split
        .rfl
        .simp only[Addr.add];split<;>rfl
       .by_cases hml:m=l
        .grind
        .right;rw[if_neg hml];rcases hoff with h0|⟨h0,hs0⟩
         .omega
         .subst h0 hs0;rw[addr_add];simp[oq]
     .
      rename_i i o k;cases hbk:Nat.beq (Nat.succ k) s with
      |false=>grind
      |true=>
       rw[hbk]at hr;have hks:k+1=s:=tL hbk;simp only[cond_true,bz,kL]at hr;obtain⟨rfl,rfl⟩:=hr;obtain⟨g,a',c',hg,hx',ha1,ha2,hn,hcc,hoff,hkind⟩:=hx.nU;obtain⟨hsz,hpos,hl1,hl2,ha2⟩:g.sz=s/\0<g.sz/\o+cap*g.sz=g.len/\g.off+o+c'*g.sz=g.top/\a'.spot=none:=by
        grind
       have b1:=Nq (P:=P) (IU:=true) hb hcc w;have hlen:=Rw hb hn;have agB:c'=0\/a'.off=g.off+o:=hoff.imp id (·.1);clear hoff;obtain⟨ab,ao,as⟩:=a';simp only at ha1 ha2 agB;subst ha1 ha2;have hrun:∀m',(Instr.sliceBounds true len c' (jw ρ lo) (jw ρ hi) (jw ρ mx)).run P w=.ok (l,h1,m') w->
        (execOp ρ' ⟨dst,.slice t x lo hi mx,type,pos,after,guard⟩).run P w=.ok (.value (.slice (some (if m'=l then(⟨g.b,ao,none⟩:Addr)else(⟨g.b,ao,none⟩:Addr).add (l*s))) (h1 - l) (m' - l))) w:=by
        intro m' hm';simp only[execOp,Instr.sliceAt,Instr.slice,dS,gU hu,eX,hx',e1,e2,e3,hm',pg hs1,fM];split<;>rfl
       cases hmx:mx with
       |some xx=>
        subst hmx;have hmm:(if(jw ρ (some xx)).isSome then m else c')=m:=rfl;rw[hmm]at b1;refine Good.same hW (hrun m b1) ?_;refine .ay hg ?_ (by grind) ?_
        .split<;>simp[addr_add]
        .by_cases hml:m=l
         .grind
         .right;rw[if_neg hml,addr_add]
          grind
       |none=>
        subst hmx;have hmm:(if(jw ρ (none:ak az)).isSome then m else c')=c':=rfl;rw[hmm]at b1;have agC:m=cap:=by
         obtain⟨_,q1,_⟩:=IR hb;exact q1 rfl
        subst agC;refine Good.same hW (hrun c' b1) ?_;have agD:(some (Nat.succ k):ak Nat)=some g.sz:=by rw[hsz,<- hks]
        simp only[agD];have hlc:l*s+(m - l)*s=m*s:=by rw[<- xB];congr 1;omega
        have av1:l*s+(c' - l)*s=c'*s:=by rw[<- xB];congr 1;omega
        refine .qf hg ?_ ?_ (by grind) hpos ?_ ?_ (by grind) ?_
        .split<;>simp[addr_add]
        .split<;>simp[addr_add]
        .grind
        .grind
        .by_cases hml:c'=l
         .left;omega
         .right;rw[if_neg hml,addr_add]
          grind
     .cases hr
    .cases hr
   .cases hr
 .cases hc
end
end Go.Ideal
namespace Go.Ideal
variable {P:Program} {β:aI} {h:IH} {w:World}
def fO{α γ:Type}(s:Sem α)(f:α->Sem γ):dR P (s>>=f)=(dR P s).bind λa=>dR P (f a):=by
 induction s with
 |pure a=>rfl
 |program k ih=>exact ih _
 |mark m k ih=>exact ih
 |_=>rfl
variable{kt:aF}{k:ah}
def Rz(h:tZ P kt k=true)(b:Bool)(w:World):(Instr.checkKey b 10000 kt k).run P w=.ok () w:=by
 unfold tZ at h;simp only[eU]at h;obtain⟨_,h⟩:=h;split at h
 .rename_i x y hx hy;cases b
  .exact BN hy w
  .exact BN hx w
 .cases h
def RA(h:tZ P kt k=true):cB k=true:=by
 unfold tZ at h
 grind
inductive IV(β:aI):Option (Nat×Value)->Option (Nat×Value)->Prop
 |none:IV β none none
 |some (i:Nat) {v v':Value} (h:VR β v v'):IV β (some (i,v)) (some (i,v'))
variable{es es':ae MapEntry}
def agE{kd:TypeDesc}(he:iy β es es'):∀(i:Nat),
 (∀r,Instr.findNow kd k es i=some r->∃r',Instr.findNow kd k es' i=some r'/\IV β r r')/\(Instr.findNow kd k es i=none->Instr.findNow kd k es' i=none):=by
 induction he with
 |nil=>intro i;exact⟨λr hr=>by simp only[Instr.findNow,bz]at hr;subst hr;exact⟨_,rfl,.none⟩,(by grind)⟩
 | @cons e e' l l' hk hf hb hv hl ih=>
   intro i;simp only[Instr.findNow,hk];cases hs:Instr.sameNow kd k e.key with
   |none=>grind
   |some b=>cases b with
    |true=>exact⟨λr hr=>by simp only[bz]at hr;subst hr;exact⟨_,rfl,.some i hv⟩,λhr=>by simp at hr⟩
    |false=>exact ih (i+1)
def agF(he:iy β es es')(w:World):∀(i:Nat) r,
 dR P (Instr.findAsking kt k es i)=some r->∃r',(Instr.findAsking kt k es' i).run P w=.ok r' w/\IV β r r':=by
 induction he with
 |nil=>intro i r hr;change some none=some r at hr;simp only[bz]at hr;subst hr;exact⟨none,rfl,.none⟩
 | @cons e e' l l' hk hf hb hv hl ih=>
   intro i r hr;simp only[Instr.findAsking,fO]at hr;cases hq:dR P (Op.equal kt k e.key)with
   |none=>rw[hq]at hr;cases hr
   |some b=>
    rw[hq]at hr;simp only[Instr.findAsking,hk,dS,BN hq w];cases b with
    |true=>
     change some (some (i,e.val))=some r at hr
     simp only[bz]at hr;subst hr;exact⟨_,rfl,.some i hv⟩
    |false=>exact ih (i+1) r hr
def Xv(he:iy β es es')(w:World){r:ak (Nat×ah)}(hr:wy P kt k es=some r):
 ∃r',(Instr.findKey kt k es').run P w=.ok r' w/\IV β r r':=by
 unfold wy Instr.findKey at hr;rw[fO]at hr;cases hu:P.underlying kt with
 |none=>
  have:dR P (underlying kt)=none:=by simp[underlying,program,dR,hu,bind,Sem.bind,stuck]
  grind
 |some d=>
  have:dR P (underlying kt)=some d:=by simp[underlying,program,dR,hu,bind,Sem.bind];rfl
  rw[this]at hr;simp only[lm]at hr;obtain⟨n1,n2⟩:=agE he 0;simp only[Instr.findKey,dS,gU hu,eX];split at hr
  .rename_i r1 hr1;change some r1=some r at hr
   simp only[bz]at hr;subst hr;obtain⟨r',h1,h2⟩:=n1 _ hr1;rw[h1];exact⟨r',rfl,h2⟩
  .rename_i hr1;rw[n2 hr1];exact agF he w 0 r hr
def Xw{m m':ah}(hW:WR P β h w)(hm:VR β m m')(he:entriesOf m h=some es):
 (m=.map none/\m'=.map none/\es=[])\/∃i g es' clock clock',m=.map (some i)/\h.get i=some (.map es clock)/\β i=some g/\m'=.map (some g.b)/\w.heap[g.b]? =some (.map es' clock')/\clock'=clock/\iy β es es'.toList:=by
 unfold entriesOf at he;split at he
 .simp only[bz]at he;cases hm;grind
 .rename_i i;split at he
  .rename_i es1 clock hg;simp only[bz]at he;obtain⟨g,hb,rfl⟩:=hm.FX;obtain⟨es',h1,h2⟩:=hW.obj i g _ hb hg
   grind
  .cases he
 .cases he
def iy.length{l l':ae MapEntry}(he:iy β l l'):l'.length=l.length:=by
 induction he with
 |nil=>rfl
 |cons _ _ _ _ _ ih=>simp[ih]
variable{b:Nat}{o:Obj}
def Ah(h:w.heap[b]? =some o)(hn:∀c t f,o≠.cells c t f):(getObj b).run P w=.ok o w:=by
 simp only[getObj,Sem.run,h]
def RB{o0:Obj}(h:w.heap[b]? =some o0)(hn:∀c t f,o0≠.cells c t f):(setObj b o).run P w=.ok () {w with heap:=w.heap.setIfInBounds b o}:=by
 simp only[setObj,Sem.run,h]
def IW(ok:Bool)(z:ah):ak (Nat×ah)->ah
 |some (_,v)=>if ok then .tuple #[v,.bool true]else v
 |none=>if ok then .tuple #[z,.bool false]else z
def agG{t et:aF}(hu:P.underlying t=some (.map kt et)){m k:ah}{es:Array MapEntry}(hm:(m=.map none/\es= #[])\/∃b clock,m=.map (some b)/\w.heap[b]? =some (.map es clock))
 (hck:(Instr.checkKey es.isEmpty 10000 kt k).run P w=.ok () w) {r:ak (Nat×ah)} (hf:(Instr.findKey kt k es.toList).run P w=.ok r w) {z:ah} (hz:zeroOf P et=some z) {ok:Bool}:
 (Instr.lookup t m k ok).run P w=.ok (IW ok z r) w:=by
 rcases hm with⟨rfl,rfl⟩|⟨b,clock,rfl,hb⟩
 .simp only[Instr.lookup,dS,gU hu,eX,fM,hck,hf];exact s5
 .simp only[Instr.lookup,dS,gU hu,eX,fM,Ah hb tg,hck,hf];exact s5
section
variable {dst:ak Tmp} {type:aF} {pos:String} {after:Array Edge} {guard:ak (Nat×Bool)} {c:aK} {ρ ρ':az->ah} {v:ah} {h':IH}
def agH{t:aF}{m k:az}{ok:Bool}(hc:cop P ⟨dst,.lookup t m k ok,type,pos,after,guard⟩=some c)(hr:c.run P ρ h=some (v,h'))(hm:VR β (ρ m) (ρ' m))(hk:VR β (ρ k) (ρ' k))(hW:WR P β h w):
 Good P β h w (execOp ρ' ⟨dst,.lookup t m k ok,type,pos,after,guard⟩) v h':=by
 simp only[cop]at hc;split at hc
 .rename_i kt et hu;cases hz:zeroOf P et with
  |none=>simp[hz]at hc
  |some z=>
   simp only[hz,om,bz]at hc;subst hc;obtain⟨_,_,_,IX⟩:=FT hz;simp only[aK.run]at hr;split at hr
   .rename_i u hl;obtain⟨rfl,rfl⟩:=hr;unfold DD at hl;split at hl
    .cases hl
    .rename_i es hes;cases hck:tZ P kt (ρ k)with
     |false=>grind
     |true=>
      rw[hck]at hl;simp only[cond_true]at hl;have hk':=hk.qO (RA hck);cases hf:wy P kt (ρ k) es with
      |none=>rw[hf]at hl;cases hl
      |some r=>
       rw[hf]at hl;obtain⟨es',he1,he2⟩:∃es':Array MapEntry,((ρ' m=.map none/\es'= #[])\/∃b clock,ρ' m=.map (some b)/\w.heap[b]? =some (.map es' clock))/\iy β es es'.toList:=by
        rcases Xw hW hm hes with⟨_,h2,h3⟩|⟨i,g,es',clock,clock',_,_,_,h4,h5,_,h6⟩
        .subst h3;exact⟨#[],.inl ⟨h2,rfl⟩,.nil⟩
        grind
       obtain⟨r',f1,f2⟩:=Xv he2 w hf;have hrun:=agG (ok:=ok) hu he1 (Rz hck _ w) f1 hz;rw[<- hk']at hrun;cases f2 with
       |none=>
        simp only[bz]at hl;refine Good.same hW (Af hrun) ?_;subst hl;cases ok
        .exact VR.free IX
        .exact .tuple (.cons (VR.free IX) (.cons (.bool _) .nil))
       |some i hv=>
        simp only[bz]at hl;refine Good.same hW (Af hrun) ?_;subst hl;cases ok
        .exact hv
        .exact .tuple (.cons hv (.cons (.bool _) .nil))
   .cases hr
 .cases hc
end
end Go.Ideal
namespace Go.Ideal
variable {P:Program} {β:aI} {h:IH} {w:World}
variable{l l':ae MapEntry}
def iy.get(he:iy β l l'){i:Nat}{e:MapEntry}(hi:l[i]? =some e):∃e',l'[i]? =some e'/\e'.key=e.key/\cB e.key=true/\e'.born=e.born/\VR β e.val e'.val:=by
 induction he generalizing i with
 |nil=>simp at hi
 |cons hk hf hb hv hl ih=>
  grind
def iy.modify(he:iy β l l'){f f':MapEntry->MapEntry}(i:Nat)
 (hff:∀e e',e'.key=e.key->cB e.key=true->e'.born=e.born->VR β e.val e'.val->(f' e').key=(f e).key/\cB (f e).key=true/\(f' e').born=(f e).born/\VR β (f e).val (f' e').val):
 iy β (l.modify i f) (l'.modify i f'):=by
 induction he generalizing i with
 |nil=>cases i<;>exact .nil
 |cons hk hf hb hv hl ih=>
  cases i with
  |zero=>obtain⟨a,b,c,d⟩:=hff _ _ hk hf hb hv;exact .cons a b c d hl
  |succ i=>exact .cons hk hf hb hv (ih i)
def iy.push(he:iy β l l'){e e':MapEntry}(h1:e'.key=e.key)(h2:cB e.key=true)(h3:e'.born=e.born)(h4:VR β e.val e'.val):iy β (l++[e]) (l'++[e']):=by
 induction he with
 |nil=>exact .cons h1 h2 h3 h4 .nil
 |cons hk hf hb hv hl ih=>exact .cons hk hf hb hv ih
def IY{b:Nat}{o:Obj}(hb:b<w.heap.size):let w1:World:={w with heap:=w.heap.setIfInBounds b o}
 w1.heap.size=w.heap.size/\(∀x,x≠b->w1.heap[x]? =w.heap[x]?)/\w1.heap[b]? =some o:=by
 grind
section
variable {dst:ak Tmp} {type:aF} {pos:String} {after:Array Edge} {guard:ak (Nat×Bool)} {c:aK} {ρ ρ':az->ah} {v:ah} {h':IH}
variable{t kt et:aF}
def Xx(hu:P.underlying t=some (.map kt et)){b clock:Nat}{es:Array MapEntry}{k x:ah}(hb:w.heap[b]? =some (.map es clock))
 (hck:(Instr.checkKey false 10000 kt k).run P w=.ok () w) {r:ak (Nat×ah)} (hf:(Instr.findKey kt k es.toList).run P w=.ok r w)
 (hs:∀i v,r=some (i,v)->∃e,es[i]? =some e/\Instr.sameBits 10000 e.key k=true):
 (Instr.mapUpdate t (.map (some b)) k x).run P w=.ok () {w with heap:=w.heap.setIfInBounds b (match r with
   |some (i,_)=>.map (es.modify i λe=>{e with key:=k,val:=x}) clock
   |none=>.map (es.push {key:=k,val:=x,born:=clock}) (clock+1))}:=by
 simp only[Instr.mapUpdate,dS,gU hu,eX,Ah hb tg,hck,hf];cases r with
 |none=>exact RB hb tg
 |some p=>
  obtain⟨i,v⟩:=p;obtain⟨e,h1,h2⟩:=hs i v rfl;simp only[h1,om,Option.getD_some,Instr.keyThatStays,h2,fM];exact RB hb tg
def Xy(hu:P.underlying t=some (.map kt et)){m m' k k' x x':ah}{h2:IH}(hr:Im P kt m k x h=some h2)(hm:VR β m m')(hk:VR β k k')(hx:VR β x x')(hW:WR P β h w):
 ∃w',(Instr.mapUpdate t m' k' x').run P w=.ok () w'/\WR P β h2 w'/\Eff β h w β h2 w':=by
 unfold Im at hr;split at hr
 .rename_i i;split at hr
  .rename_i es clock hg;obtain⟨g,hb,rfl⟩:=hm.FX;obtain⟨es',o1,o2⟩:=hW.obj i g _ hb hg;cases hck:tZ P kt k with
   |false=>grind
   |true=>
    rw[hck]at hr;simp only[cond_true]at hr;have hk':=hk.qO (RA hck);subst hk';have hfree:=RA hck;have hlt:g.b<w.heap.size:=by
     grind
    cases hf:wy P kt k' es with
    |none=>rw[hf]at hr;cases hr
    |some r=>
     rw[hf]at hr;obtain⟨r',f1,f2⟩:=Xv o2 w hf;cases f2 with
     |none=>
      simp only[bz]at hr;subst hr;have hrun:=Xx (x:=x') hu o1 (Rz hck false w) f1 tg;obtain⟨p1,p2,p3⟩:=IY (w:=w) hlt;refine⟨_,hrun,hW.write hb hg _ p1 p2 rfl rfl rfl (bI _) ⟨_,p3,?_⟩⟩;rw[jO,Array.toList_push];exact o2.push rfl hfree rfl hx
     |some j hv=>
      simp only at hr;split at hr
      .rename_i e he;rw[uo]at he;obtain⟨e',q1,q2,q3,q4,q5⟩:=o2.get he;cases hs:Instr.sameBits 10000 e.key k' with
       |false=>rw[hs]at hr;cases hr
       |true=>
        rw[hs]at hr;simp only[cond_true,bz]at hr;subst hr;have hrun:=Xx (x:=x') hu o1 (Rz hck false w) f1 (by grind);obtain⟨p1,p2,p3⟩:=IY (w:=w) hlt;refine⟨_,hrun,hW.write hb hg _ p1 p2 rfl rfl rfl (bI _) ⟨_,p3,?_⟩⟩;rw[Xf,Array.toList_modify];exact o2.modify j (by grind)
      .cases hr
  .cases hr
 .cases hr
variable{x m k:az}
def agJ(hc:cop P ⟨dst,.mapUpdate t m k x,type,pos,after,guard⟩=some c)(hr:c.run P ρ h=some (v,h'))(hm:VR β (ρ m) (ρ' m))(hk:VR β (ρ k) (ρ' k))(hx:VR β (ρ x) (ρ' x))(hW:WR P β h w):
 Good P β h w (execOp ρ' ⟨dst,.mapUpdate t m k x,type,pos,after,guard⟩) v h':=by
 simp only[cop]at hc;split at hc
 .exact eW
 .cases hc
def agK(hc:cop P ⟨dst,.insert t m k x,type,pos,after,guard⟩=some c)(hr:c.run P ρ h=some (v,h'))(hm:VR β (ρ m) (ρ' m))(hk:VR β (ρ k) (ρ' k))(hx:VR β (ρ x) (ρ' x))(hW:WR P β h w):
 Good P β h w (execOp ρ' ⟨dst,.insert t m k x,type,pos,after,guard⟩) v h':=by
 simp only[cop]at hc;split at hc
 .exact eW
 .cases hc
def RD(hW:WR P β h w){s:Sem Next}{ob:aN}{o':Obj}(hr:s.run P w=.ok (.value (.pointer (some ⟨w.heap.size,0,none⟩))) {w with heap:=w.heap.push o'})
 (ho:∀β':aI,β.le β'->OR P β' ⟨w.heap.size,0,0,0,0⟩ {w with heap:=w.heap.push o'} ob):Good P β h w s (.pointer (some ⟨h.next,0,none⟩)) (h.new ob):=by
 refine xR.good (f:=λi=>.pointer (some ⟨i,0,none⟩)) hW ⟨_,o',⟨w.heap.size,0,0,0,0⟩,hr,rfl,λi β' hle hi=>⟨?_,ho β' hle⟩⟩;have:=VR.ptr (o:=0) hi;exact this
def agL(hc:cop P ⟨dst,.range t x,type,pos,after,guard⟩=some c)(hr:c.run P ρ h=some (v,h'))(hx:VR β (ρ x) (ρ' x))(hW:WR P β h w):
 Good P β h w (execOp ρ' ⟨dst,.range t x,type,pos,after,guard⟩) v h':=by
 simp only[cop]at hc;split at hc
 .rename_i hu;cases hc;simp only[aK.run]at hr;split at hr
  .rename_i s hs;obtain⟨rfl,rfl⟩:=hr;rw[hs]at hx;have hx':=hx.BP;refine RD hW (o':=.stringIter s 0) ?_ λβ' _=>⟨tg,rfl⟩
   simp[execOp,Instr.range,gU hu,hx']
  .cases hr
 .rename_i kt et hu;cases hc;simp only[aK.run]at hr;split at hr
  .rename_i hs;obtain⟨rfl,rfl⟩:=hr;rw[hs]at hx;have hx':ρ' x=.map none:=by generalize ρ' x=y at hx;cases hx;rfl
   refine RD hW (o':=.mapIter none 0 #[] 0) ?_ λβ' _=>⟨none, #[],tg,rfl,.Ae,rfl⟩
   simp[execOp,Instr.range,gU hu,hx']
  .rename_i m hs;split at hr
   .rename_i es clock hg;obtain⟨rfl,rfl⟩:=hr;rw[hs]at hx;obtain⟨g,hb,hx'⟩:=hx.FX;obtain⟨es',o1,o2⟩:=hW.obj m g _ hb hg;refine RD hW (o':=.mapIter (some g.b) clock #[] clock) ?_ λβ' hle=>⟨some g.b, #[],tg,rfl,.map (hle _ _ hb),rfl⟩
    simp only[execOp,Instr.range,dS,gU hu,eX,hx',Ah o1 tg,fM,run_newObj]
   .cases hr
  .cases hr
 .cases hc
def find_born{l l':ae MapEntry}(he:iy β l l')(n:Nat):match l.find? (λe=>Nat.beq e.born n)with
 |none=>l'.find? (λe=>e.born==n)=none
 |some e=>∃e',l'.find? (λe=>e.born==n)=some e'/\e'.key=e.key/\cB e.key=true/\VR β e.val e'.val:=by
 induction he with
 |nil=>rfl
 | @cons e e' l l' hk hf hb hv hl ih=>
   cases hq:Nat.beq e.born n with
   |true=>
    have:(e.born==n)=true:=by simp[tL hq]
    grind
   |false=>
    have:(e.born==n)=false:=by simp[H9 hq]
    grind
def agM(hc:cop P ⟨dst,.entry x,type,pos,after,guard⟩=some c)(hr:c.run P ρ h=some (v,h'))(hx:VR β (ρ x) (ρ' x))(hW:WR P β h w):
 Good P β h w (execOp ρ' ⟨dst,.entry x,type,pos,after,guard⟩) v h':=by
 simp only[cop,bz]at hc;subst hc;simp only[aK.run]at hr;split at hr
 .rename_i r hs;split at hr
  .rename_i m since seen stepped hg;split at hr
   .rename_i es clock hgm;split at hr
    .rename_i stamp hst;cases hbq:Nat.beq clock stepped with
     |false=>grind
     |true=>
      rw[hbq]at hr;split at hr
      .rename_i e he;obtain⟨rfl,rfl⟩:=hr;rw[hs]at hx;obtain⟨g,hb,hx'⟩:=hx.xS;obtain⟨m',seen',o1,o2,o3,o4⟩:=hW.obj r g _ hb hg;rw[o4]at hx';obtain⟨gm,FY,hm'⟩:∃gm,β m=some gm/\m'=some gm.b:=by
        obtain⟨gm,a,b⟩:=o3.FX
        grind
       subst hm';obtain⟨es',p1,p2⟩:=hW.obj m gm _ FY hgm;have Xz:=find_born p2 stamp;rw[he]at Xz;obtain⟨e',q1,q2,q3,q4⟩:=Xz;have hback:seen'.back? =some stamp:=by
        grind
       have hcl:(clock !=stepped)=false:=by simp[tL hbq]
       have hfa:es'.find? (λe=>e.born==stamp)=some e':=by grind
       refine Good.same hW (v':=.tuple #[e'.key,e'.val]) ?_ (.tuple (.cons ?_ (.cons q4 .nil)))
       .simp only[execOp,Instr.entry,Dm,dS,hx',Ah o1 tg,Ah p1 tg,eX,hback,hcl,hfa,fM,Dn,if_false]
       .rw[q2];exact VR.free q3
      .cases hr
    .cases hr
   .cases hr
  .cases hr
 .cases hr
def agN{xt:aF}{ok:Bool}(hc:cop P ⟨dst,.typeAssert x xt t ok,type,pos,after,guard⟩=some c)(hr:c.run P ρ h=some (v,h'))(hx:VR β (ρ x) (ρ' x))(hW:WR P β h w):
 Good P β h w (execOp ρ' ⟨dst,.typeAssert x xt t ok,type,pos,after,guard⟩) v h':=by
 simp only[cop]at hc;split at hc
 .cases hc
 .rename_i d hni hu;cases hz:zeroOf P t with
  |none=>simp[hz]at hc
  |some z=>
   simp only[hz,om,bz]at hc;subst hc;obtain⟨_,_,_,IX⟩:=FT hz;simp only[aK.run]at hr;split at hr
   .rename_i hs;rw[hs]at hx;have hx':ρ' x=.nilIface:=by generalize ρ' x=y at hx;cases hx;rfl
    cases ok with
    |false=>cases hr
    |true=>
     obtain⟨rfl,rfl⟩:=hr;refine Good.same hW ?_ (.tuple (.cons (VR.free IX) (.cons (.bool _) .nil)));simp only[execOp,Instr.typeAssert,dS,gU hu,eX,hx',if_true,FU hz,fM]
   .rename_i u y hs;rw[hs]at hx;obtain⟨y',hy,hx'⟩:=hx.DU;cases hbq:Nat.beq u t with
    |true=>
     have hut:u=t:=tL hbq;rw[hbq]at hr;obtain⟨rfl,rfl⟩:=hr;refine Good.same hW (v':=if ok then .tuple #[y',.bool true]else y') ?_ ?_
     .simp only[execOp,Instr.typeAssert,dS,gU hu,eX,hx',hut];cases d<;>first|exact absurd rfl (hni _)|simp
     .cases ok
      .exact hy
      .exact .tuple (.cons hy (.cons (.bool _) .nil))
    |false=>
     have hut:u≠t:=H9 hbq;rw[hbq]at hr;cases ok with
     |false=>cases hr
     |true=>
      obtain⟨rfl,rfl⟩:=hr;refine Good.same hW ?_ (.tuple (.cons (VR.free IX) (.cons (.bool _) .nil)));simp only[execOp,Instr.typeAssert,dS,gU hu,eX,hx'];cases d<;>first|exact absurd rfl (hni _)|simp[hut,FU hz]
   .cases hr
 .cases hc
end
