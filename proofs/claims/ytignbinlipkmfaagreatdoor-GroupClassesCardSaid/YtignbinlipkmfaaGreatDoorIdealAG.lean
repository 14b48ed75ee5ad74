/- Part. -/
import Derived.Test.YtignbinlipkmfaaGreatDoorDictG
import Derived.KernelRfl
import GoSem.Step
import Derived.Below
import Derived.Laws.IdiomCopy
import Derived.Laws.Cells
import Derived.Laws.Entries
import Derived.IntWalk
import Derived.Laws.Append
set_option linter.all false
abbrev aI:=@Option.some.injEq
abbrev aS:=@List.length_map
abbrev aT:=@List.getElem?_eq_some_iff
abbrev aV:=@List.mem_of_getElem?
abbrev bz:=@Nat.le_refl
abbrev bF:=@List.mem_singleton
abbrev bH:=@List.getElem?_eq_getElem
abbrev bN:=@List.mem_cons
abbrev bS:=@Nat.zero_le
abbrev bU:=@List.getElem?_map
abbrev cB:=@Prod.mk.injEq
abbrev cZ:=@List.mem_map
abbrev di:=@decide_eq_false
abbrev dm:=@Go.Sem.run_bind
abbrev dB:=@Go.Result.andThen_ok
abbrev dG:=@Bool.and_eq_true
abbrev dL:=@List.length_append
abbrev dO:=@List.mem_cons_of_mem
abbrev dP:=@List.mem_cons_self
abbrev dQ:=@List.map_append
abbrev dW:=@List.nil_append
abbrev dY:=@List.getElem?_eq_none
abbrev ed:=@Go.Sem.run_pure
abbrev eB:=@Nat.zero_add
abbrev eH:=@List.take_length
abbrev fo:=@decide_eq_true
abbrev fq:=@List.append_assoc
abbrev fG:=@List.cons_append
abbrev fK:=@List.map_cons
abbrev fO:=@List.mem_append
abbrev gq:=@List.length_take
abbrev gy:=@Option.bind_some
abbrev ic:=@Int.toNat_natCast
abbrev ik:=@List.getElem?_of_mem
abbrev iE:=@List.all_eq_true
abbrev iH:=@List.append_nil
abbrev iK:=@List.ext_getElem?
abbrev iQ:=@Int.eq_ofNat_of_zero_le
abbrev iT:=@List.nodup_append
abbrev iY:=@List.getElem?_append_left
abbrev jm:=@List.getElem?_append_right
abbrev jC:=@Option.map_eq_some_iff
abbrev jD:=@List.length_set
abbrev jR:=@List.getElem?_drop
abbrev jS:=@List.mem_append_left
abbrev jT:=@of_decide_eq_true
abbrev kD:=@Option.map_some
abbrev kE:=@Nat.add_assoc
abbrev lg:=@Nat.le_of_ble_eq_true
abbrev lm:=@List.length_drop
abbrev lU:=@List.length_cons
abbrev lV:=@Decidable.not_not
abbrev mh:=@Nat.le_trans
abbrev mo:=@List.length_eq_zero_iff
abbrev mM:=@Nat.sub_self
abbrev nC:=@Nat.lt_of_lt_of_le
abbrev nD:=@List.mem_range
abbrev nE:=@decide_eq_true_iff
abbrev nP:=@List.length_range
abbrev nQ:=@Nat.mul_one
abbrev ou:=@List.mem_append_right
abbrev ow:=@List.getElem?_set
abbrev pg:=@List.drop_eq_getElem_cons
abbrev p9:=@List.foldl_cons
abbrev qw:=@List.getElem?_range
abbrev qx:=@Nat.add_mul
abbrev qy:=@List.getElem?_take
abbrev qz:=@List.take_append_drop
abbrev qA:=@List.length_singleton
abbrev qB:=@List.map_map
abbrev qC:=@List.take_add_one
abbrev rq:=@Nat.eq_of_beq_eq_true
abbrev ru:=@List.getElem?_cons_succ
abbrev ry:=@List.mem_filter
abbrev rz:=@List.pairwise_cons
abbrev sM:=@Nat.lt_or_ge
abbrev sN:=@Array.getElem?_eq_none
abbrev sO:=@Nat.ble_eq
abbrev sP:=@decide_eq_decide
abbrev uh:=@Bool.false_eq_true
abbrev uj:=@Nat.blt_eq
abbrev uk:=@Array.getD_eq_getD_getElem?
abbrev ul:=@List.map_set
abbrev vF:=@List.map_congr_left
abbrev vH:=@of_decide_eq_false
abbrev vI:=@List.drop_zero
abbrev wR:=@List.getElem_mem
abbrev wS:=@Nat.add_zero
abbrev wT:=@Option.getD_some
abbrev wU:=@List.length_nil
abbrev wV:=@List.replicate_succ
abbrev wW:=@List.nodup_nil
abbrev wX:=@List.foldl_append
abbrev wY:=@Int.tdiv_eq_ediv_of_nonneg
abbrev x9:=@Nat.lt_succ_self
abbrev yc:=@Array.getElem?_toList
abbrev yf:=@Bool.or_eq_true
abbrev yg:=@Nat.sub_zero
abbrev yj:=@List.nodup_cons
abbrev ym:=@List.mem_iff_getElem?
abbrev yo:=@List.map_singleton
abbrev yu:=@Int.toNat_of_nonneg
abbrev zI:=@Nat.le_succ
abbrev zJ:=@Go.World.cell?_setCells_out
abbrev zK:=@Nat.not_lt_zero
abbrev zM:=@Nat.mod_lt
abbrev zN:=@Array.mem_append
abbrev zO:=@and_true
abbrev zP:=@Nat.one_mul
abbrev zQ:=@List.set_append_right
abbrev zR:=@List.pairwise_iff_getElem
abbrev zS:=@List.length_replicate
abbrev zT:=@List.mergeSort_perm
abbrev zU:=@List.mk_mem_zipIdx_iff_getElem?
abbrev zV:=@List.take_of_length_le
abbrev Bt:=@List.mem_of_mem_take
abbrev Bu:=@Bool.eq_iff_iff
abbrev Bv:=@List.getElem?_cons_zero
abbrev Bw:=@List.cons.injEq
abbrev Bz:=@List.filter_cons
abbrev BA:=@Bool.not_eq_true'
abbrev BB:=@List.drop_eq_nil_of_le
abbrev BC:=@List.getD_eq_getElem?_getD
abbrev BD:=@Nat.min_eq_left
abbrev BF:=@List.range_succ
abbrev BG:=@List.pairwise_map
abbrev Di:=@List.all_cons
abbrev Dj:=@List.mem_of_mem_drop
abbrev Dk:=@Go.World.cell?_setCells_in
abbrev Dl:=@decide_eq_true_eq
abbrev Dm:=@List.length_pos_iff
abbrev Dn:=@Option.isSome_iff_exists
abbrev Dp:=@List.filter_append
abbrev Dq:=@Int.ediv_nonneg
abbrev Dr:=@List.dropLast_concat_getLast
abbrev Fj:=@Nat.ne_of_beq_eq_false
abbrev Fp:=@Array.getElem?_push
abbrev Fq:=@Nat.mul_comm
abbrev Fs:=@List.not_mem_nil
abbrev Fu:=@Bool.and_self
abbrev Fv:=@Nat.beq_refl
abbrev Fw:=@Nat.zero_mul
abbrev Fy:=@List.map_id
abbrev FB:=@List.length_filter_le
abbrev FC:=@Int.tmod_eq_emod_of_nonneg
abbrev II:=@Nat.ble_eq_true_of_le
abbrev IJ:=@Go.World.frozen?_setCells
abbrev IK:=@Array.getElem?_setIfInBounds_ne
abbrev IL:=@Nat.le_add_right
abbrev IM:=@List.mem_filterMap
abbrev IP:=@Array.getElem?_eq_some_iff
abbrev IQ:=@List.contains_iff_mem
abbrev IR:=@Nat.add_sub_cancel_left
abbrev IU:=@List.mem_map_of_mem
abbrev IV:=@List.filterMap_append
abbrev IW:=@Int.emod_add_mul_ediv
abbrev IX:=@List.any_eq_true
abbrev IY:=@List.any_eq_false
abbrev M5:=@Nat.lt_irrefl
abbrev M6:=@Array.toList_map
abbrev M7:=@Nat.eq_zero_or_pos
abbrev M8:=@List.getElem?_toArray
abbrev M9:=@Bool.not_false
abbrev Na:=@List.getElem?_replicate
abbrev Nc:=@Nat.lt_succ_of_lt
abbrev Nf:=@Nat.shiftRight_eq_div_pow
abbrev Ng:=@Nat.lt_of_le_of_lt
abbrev Nh:=@Array.getElem?_eq_getElem
abbrev Ni:=@List.flatMap_cons
abbrev Nj:=@List.length_erase_of_mem
abbrev Nk:=@List.length_pos_of_mem
abbrev Sr:=@Array.getElem?_modify
abbrev Su:=@Go.World.keptBut_setCells
abbrev Sv:=@Array.foldl_toList
abbrev Sw:=@List.extract_eq_take_drop
abbrev Sy:=@Array.length_toList
abbrev Sz:=@List.flatten_cons
abbrev SA:=@List.getElem?_zip_eq_some
abbrev SB:=@List.filter_eq_self
abbrev SC:=@Classical.choose_spec
abbrev SE:=@List.flatMap_append
abbrev SF:=@Bool.or_eq_false_iff
abbrev SG:=@List.zipIdx_append
abbrev SH:=@List.getElem?_zipIdx
abbrev SI:=@List.pairwise_mergeSort
abbrev SK:=@List.length_filterMap_le
abbrev SL:=@Nat.lt_trichotomy
abbrev SN:=@List.mem_erase_of_ne
abbrev SQ:=@List.pairwise_append
abbrev SS:=@List.findIdx?_eq_none_iff
abbrev SV:=@List.length_reverse
abbrev SX:=@List.reverse_reverse
abbrev SY:=@Nat.shiftRight_le
abbrev S9:=@List.filterMap_cons
abbrev ach:=@Array.eq_empty_of_size_eq_zero
abbrev aci:=@Array.getElem?_setIfInBounds
abbrev acj:=@Array.getElem?_append_left
abbrev ack:=@List.getElem?_eq_none_iff
abbrev acm:=@List.findIdx?_eq_some_iff_getElem
abbrev ae.{u}(α:Type u):Type u:=List α
abbrev ah:=Go.Value
abbrev qr:=List (Nat×Go.Value)
abbrev aj.{u}(α:Type u):Type u:=Option α
abbrev ak:=Go.Operand
abbrev aB:=Go.TypeId
abbrev eD:=Go.FuncId
namespace Go.Ideal
inductive T(α:Type):Type where
 |leaf
 |node (v:Option α) (l r:T α)
noncomputable def T.get{α:Type}(t:T α):Nat->aj α:=
 T.rec (motive:=λ_=>Nat->aj α) (λ_=>none)
  (λv _ _ gl gr n=>Nat.rec (motive:=λ_=>aj α) v
    (λm _=>Bool.rec (motive:=λ_=>aj α) (gr (Nat.div m 2)) (gl (Nat.div m 2)) (Nat.beq (Nat.mod m 2) 0)) n) t
noncomputable def T.one{α:Type}(f:Nat):Nat->aj α->T α:=
 Nat.rec (motive:=λ_=>Nat->aj α->T α) (λ_ _=>.leaf)
  (λ_ ih n x=>Nat.rec (motive:=λ_=>T α) (.node x .leaf .leaf)
    (λm _=>Bool.rec (motive:=λ_=>T α) (.node none .leaf (ih (Nat.div m 2) x)) (.node none (ih (Nat.div m 2) x) .leaf) (Nat.beq (Nat.mod m 2) 0)) n) f
noncomputable def T.set{α:Type}(t:T α):Nat->aj α->T α:=
 T.rec (motive:=λ_=>Nat->aj α->T α) (λn x=>T.one (n+1) n x)
  (λv l r sl sr n x=>Nat.rec (motive:=λ_=>T α) (.node x l r)
    (λm _=>Bool.rec (motive:=λ_=>T α) (.node v l (sr (Nat.div m 2) x)) (.node v (sl (Nat.div m 2) x) r) (Nat.beq (Nat.mod m 2) 0)) n) t
noncomputable def lq{α β:Type}(f:α->β)(l:ae α):ae β:=
 List.rec (motive:=λ_=>ae β) [] (λx _ ih=>f x::ih) l
noncomputable def ko{α:Type}(l:ae α):Nat->aj α:=
 List.rec (motive:=λ_=>Nat->aj α) (λ_=>none) (λx _ ih n=>Nat.rec (motive:=λ_=>aj α) (some x) (λm _=>ih m) n) l
noncomputable def jU{α:Type}(l:ae α):Nat->ae α:=
 List.rec (motive:=λ_=>Nat->ae α) (λ_=>[]) (λx l ih n=>Nat.rec (motive:=λ_=>ae α) (x::l) (λm _=>ih m) n) l
noncomputable def jh{α:Type}(l:ae α):Nat->aj (ae α):=
 List.rec (motive:=λ_=>Nat->aj (ae α)) (λn=>Nat.rec (motive:=λ_=>aj (ae α)) (some []) (λ_ _=>none) n)
  (λx _ ih n=>Nat.rec (motive:=λ_=>aj (ae α)) (some []) (λm _=>Option.rec (motive:=λ_=>aj (ae α)) none (λr=>some (x::r)) (ih m)) n) l
noncomputable def iZ{α:Type}(l:ae α):Nat->ae α->aj (ae α):=
 List.rec (motive:=λ_=>Nat->ae α->aj (ae α))
  (λo xs=>Nat.rec (motive:=λ_=>aj (ae α)) (List.rec (motive:=λ_=>aj (ae α)) (some []) (λ_ _ _=>none) xs) (λ_ _=>none) o)
  (λc l ih o xs=>Nat.rec (motive:=λ_=>aj (ae α))
    (List.rec (motive:=λ_=>aj (ae α)) (some (c::l)) (λx xs _=>Option.rec (motive:=λ_=>aj (ae α)) none (λr=>some (x::r)) (ih 0 xs)) xs)
    (λo _=>Option.rec (motive:=λ_=>aj (ae α)) none (λr=>some (c::r)) (ih o xs)) o) l
noncomputable def zW{α:Type}(p:α->Bool)(l:ae α):Bool:=
 List.rec (motive:=λ_=>Bool) true (λx _ ih=>Bool.rec (motive:=λ_=>Bool) false ih (p x)) l
noncomputable def iI{α:Type}(l:ae α):Nat:=
 List.rec (motive:=λ_=>Nat) 0 (λ_ _ ih=>Nat.succ ih) l
noncomputable def kF{α:Type}(l r:ae α):ae α:=
 List.rec (motive:=λ_=>ae α) r (λx _ ih=>x::ih) l
noncomputable def zeros(z:ae ah)(n:Nat):ae ah:=
 Nat.rec (motive:=λ_=>ae ah) [] (λ_ ih=>kF z ih) n
abbrev dH:ah:=.tuple #[]
abbrev um:ah:=.chan (some 0)
def cellV:ah->Bool
 | .agg _| .tuple _| .chan _=>false
 |_=>true
mutual
def bR:ah->Bool
 | .bool _| .int _ _| .float _ _| .complex _ _ _| .string _| .nilFunc| .nilIface=>true
 | .pointer a=>a.isNone
 | .slice a n c=>a.isNone&&n==0&&c==0
 | .map r=>r.isNone
 | .chan _=>false
 | .func _ _ _=>false
 | .iface _ v=>bR v&&cellV v
 | .agg ⟨cs⟩=>gD cs
 | .tuple _=>false
def gD:ae ah->Bool
 |[]=>true
 |v::l=>bR v&&cellV v&&gD l
end
def bX{α:Type}(P:Program):Sem α->aj α
 | .pure a=>some a
 | .program k=>bX P (k P)
 | .mark _ k=>bX P k
 |_=>none
def jo(P:Program)(s:Sem ah):aj ah:=
 match bX P s with
 |some v=>cond (bR v) (some v) none
 |none=>none
def cellsOf(v:ah):aj (ae ah):=
 match v with
 | .agg ⟨cs⟩=>some cs
 | .tuple _| .chan _=>none
 |v=>some [v]
inductive Out where
 |normal
 |exit (id:Nat)
 |ret
 |panic (chain:List PanicEntry)
inductive aF where
 |mv (x:Operand)
 |pq (x:Operand)
 |pick (c a b:Operand)
 |new (cs:List Value) (t:TypeId)
 |box (x:Operand) (t:TypeId)
 |build (zero:List Value) (parts:List (Nat×Nat×Operand))
 |zX (t:TypeId) (len:Nat) (zero:List Value) (parts:List (Nat×Nat×Operand))
 |gJ (a:Operand)
 |rA (n:Nat) (a:Operand)
 |store (n:Nat) (a x:Operand)
 |lW (x:Operand)
 |bin (op:BinOp) (t:TypeId) (x y:Operand)
 |un (op:UnOp) (x:Operand)
 |conv (s d:TypeId) (x:Operand)
 |Ta (e:TypeId) (x:Operand)
 |FD (x:Operand)
 |iface (t:TypeId) (x:Operand)
 |Dt (fn:Fn) (first captured:List Operand)
 |wZ
 |zY (e:TypeId) (size bytes:Nat) (zero:List Value) (l c:Operand)
 |Tc (t:TypeId) (x:Operand) (lo hi mx:Option Operand)
 |Nl (n size:Nat) (x:Operand) (lo hi mx:Option Operand)
 |Nn (size:Nat) (x:Operand) (lo hi mx:Option Operand)
 |fM (off:Nat) (x:Operand)
 |field (t:TypeId) (off n:Nat) (agg:Bool) (x:Operand)
 |Np (n size:Nat) (x i:Operand)
 |oz (size:Nat) (x i:Operand)
 |Td (x i:Operand)
 |Te (n size:Nat) (agg:Bool) (x i:Operand)
 |lookup (kt:TypeId) (zero:Value) (m k:Operand) (ok:Bool)
 |IZ (kt:TypeId) (m k v:Operand)
 |Tf (kt:TypeId) (zero:Value) (m k:Operand)
 |Tg (m s v:Operand)
 |Nq (x:Operand)
 |rangeMap (x:Operand)
 |Ti (x:Operand)
 |yx (x:Operand)
 |entry (x:Operand)
 |I1 (t:TypeId) (zero:Value) (ok:Bool) (x:Operand)
 |extract (x:Operand) (i:Nat)
 |append (e:TypeId) (size bytes:Nat) (s x:Operand)
 |I4 (e:TypeId) (size bytes:Nat) (zero:List Value) (s x:Operand)
 |copy (size:Nat) (d x:Operand)
 |clear (zero:List Value) (x:Operand)
 |Tj (x:Operand)
 |I5 (n:Nat)
 |yz (x:Operand)
 |I6 (x:Operand)
 |Tk (x:Operand)
 |BH (max:Bool) (args:List Operand)
 |call (f:Operand) (args:List Operand)
 |invoke (x:Operand) (name:String) (args:List Operand)
 |recover
 |panic (x:Operand)
 |dcall (f:Operand) (args:List Operand)
structure iy where
 dst:Option Tmp
 /-- the operation runs where this temporary holds this Bool -/
 guard:Option (Tmp×Bool)
 op:aF
structure bJ where
 s:iy
 re:List iy
inductive cK where
 |skip
 /-- 'ds': where the region's operations put what they yield -/
 |ops (ds:List Tmp) (l:List bJ)
 |seq (a b:cK)
 |cond (c:Operand) (a b:cK)
 |block (id:Nat) (a:cK)
 |loop (a:cK)
 |rangeFunc (f:Operand) (params:List Tmp) (assign body:cK)
 |scope (a:cK)
 |exit (id:Nat)
 |ret
 |fail
structure oC where
 state:LoopState
 pending:Option Out
 tmps:T Value
 n:Nat
 params:List Tmp
 assign:cK
 body:cK
 defers:Nat
inductive bG where
 |cells (cs:List Value)
 /-- cells that are read alone -/
 |jq (cs:List Value)
 |map (es:List MapEntry) (clock:Nat)
 |BI (s:ByteArray) (pos:Nat)
 |mapIter (m:Option Nat) (since:Nat) (seen:List Nat) (stepped:Nat)
 |loop (l:oC)
 |iU (open_:Bool)
structure IH where
 t:T bG
 next:Nat
 low:Nat
noncomputable def IH.get(h:IH)(i:Nat):aj bG:=h.t.get i
noncomputable def IH.set(h:IH)(i:Nat)(o:bG):IH:={h with t:=h.t.set i (some o),low:=cond (Nat.ble h.low i) h.low i}
noncomputable def IH.kill(h:IH)(i:Nat):IH:={h with t:=h.t.set i none,low:=cond (Nat.ble h.low i) h.low i}
noncomputable def IH.new(h:IH)(o:bG):IH:={h with t:=h.t.set h.next (some o),next:=Nat.succ h.next}
structure aU where
 n:Nat
 tmps:T Value
 defers:List Deferred
 pm:Option FrameMode
 ro:Option Nat
noncomputable def dD(t:T ah)(i:Nat):ah:=Option.rec (motive:=λ_=>ah) dH (λv=>v) (t.get i)
noncomputable def aU.eval(a:aU)(x:ak):ah:=
 match x with
 | .tmp t=>dD a.tmps t
 | .const v=>v
 | .global g=>.pointer (some ⟨g,0,none⟩)
 | .func f=>.func (.func f) #[] #[]
noncomputable def aU.set(a:aU)(d:Nat)(v:ah):aU:=cond (Nat.blt d a.n) {a with tmps:=a.tmps.set d (some v)} a
noncomputable def aU.put(a:aU)(d:aj Tmp)(v:ah):aU:=
 match d with
 |some d=>a.set d v
 |none=>a
noncomputable def aU.wants(a:aU)(g:aj (Tmp×Bool)):aj Bool:=
 match g with
 |none=>some true
 |some (t,want)=>match dD a.tmps t with
  | .bool b=>some (cond want b (!b))
  | .chan _=>some false
  |_=>none
noncomputable def IH.nR(h:IH)(i o n:Nat):aj (ae ah):=
 match h.get i with
 |some (.cells cs)=>jh (jU cs o) n
 |_=>none
noncomputable def IH.iq(h:IH)(i o n:Nat):aj (ae ah):=
 match h.get i with
 |some (.cells cs)=>jh (jU cs o) n
 |some (.jq cs)=>jh (jU cs o) n
 |_=>none
noncomputable def IH.pu(h:IH)(i o:Nat):aj ah:=
 match h.get i with
 |some (.cells cs)=>ko cs o
 |some (.jq cs)=>ko cs o
 |_=>none
noncomputable def IH.storeAt(h:IH)(i o:Nat)(vs:ae ah):aj IH:=
 match h.get i with
 |some (.cells cs)=>match iZ cs o vs with
  |some cs=>some (h.set i (.cells cs))
  |none=>none
 |_=>none
def BJ(i o:Nat):aj Addr:=some ⟨i,o,some 0⟩
def small:Nat:=1073741824
def upTo(m:Nat)(v:ah):aj Nat:=
 match v with
 | .int _ (.ofNat i)=>cond (Nat.ble i m) (some i) none
 |_=>none
def bounds?(len cap:Nat)(lo hi mx:aj ah):aj (Nat×Nat×Nat):=
 match (match mx with|some v=>upTo cap v|none=>some cap)with
 |none=>none
 |some m=>match (match hi,mx with|some v,_=>upTo m v|none,none=>some len|none,some _=>none)with
  |none=>none
  |some h=>match (match lo with|some v=>upTo h v|none=>some 0)with
   |none=>none
   |some l=>some (l,h,m)
noncomputable def nG(size n:Nat)(x:ah)(h:IH):aj (ae ah):=
 match x with
 | .slice (some ⟨i,o,_⟩) _ _=>h.iq i o (Nat.mul n size)
 | .slice none _ _=>match n with
   |0=>some []
   |_=>none
 | .string s=>cond (Nat.beq size 1) (match jh s.data.toList n with
   |some l=>some (lq (λb=>.int .u8 b.toNat) l)
   |none=>none) none
 |_=>none
noncomputable def yA(size n:Nat)(x:ah)(h:IH):aj (ae ah):=
 match n with
 |0=>match x with
  | .slice _ _ _=>some []
  |x=>nG size 0 x h
 |Nat.succ k=>nG size (Nat.succ k) x h
def oD:ah->aj Nat
 | .slice _ n _=>some n
 | .string s=>some s.size
 |_=>none
noncomputable def w9(size bytes:Nat)(s:ah)(n:Nat)(xs:ae ah)(h:IH):aj (ah×IH):=
 match s with
 | .slice base len cap=>
   let need:=Nat.add len n
   cond (Nat.ble (Nat.mul need bytes) small&&Nat.ble (Nat.mul need size) small&&Nat.ble need small)
    (cond (Nat.ble need cap)
      (match base with
      |some ⟨i,o,f⟩=>match h.storeAt i (Nat.add o (Nat.mul len size)) xs with
       |some h=>some (.slice (some ⟨i,o,f⟩) need cap,h)
       |none=>none
      |none=>match n with
       |0=>some (.slice none need cap,h)
       |_=>none)
      (match nG size len s h with
      |none=>none
      |some old=>match base with
       |some ⟨i,_,some (k+1)⟩=>cond (Nat.beq (Nat.succ k) size) (some (.slice (some ⟨h.next,0,some size⟩) need need,(h.kill i).new (.cells (kF old xs)))) none
       |_=>some (.slice (some ⟨h.next,0,some size⟩) need need,h.new (.cells (kF old xs))))) none
 |_=>none
noncomputable def Tm(size:Nat)(d x:ah)(h:IH):aj (ah×IH):=
 match d,oD x with
 | .slice base pz _,some m=>
   let n:=cond (Nat.ble m pz) m pz
   match nG size n x h with
   |none=>none
   |some cs=>match base with
    |some ⟨i,o,_⟩=>match h.storeAt i o cs with
     |some h=>some (goInt n,h)
     |none=>none
    |none=>match n with
     |0=>some (goInt 0,h)
     |_=>none
 |_,_=>none
def uo(P:Program)(kt:aB)(k:ah)(es:ae MapEntry):aj (aj (Nat×ah)):=
 bX P (Instr.findKey kt k es)
def rC(P:Program)(kt:aB)(k:ah):Bool:=
 bR k&&match bX P (Instr.checkKey true 10000 kt k),bX P (Instr.checkKey false 10000 kt k)with
  |some _,some _=>true
  |_,_=>false
noncomputable def entriesOf(m:ah)(h:IH):aj (ae MapEntry):=
 match m with
 | .map none=>some []
 | .map (some i)=>match h.get i with
   |some (.map es _)=>some es
   |_=>none
 |_=>none
noncomputable def BK(P:Program)(kt:aB)(zero m k:ah)(ok:Bool)(h:IH):aj ah:=
 match entriesOf m h with
 |none=>none
 |some es=>cond (rC P kt k) (match uo P kt k es with
  |none=>none
  |some (some (_,v))=>some (cond ok (.tuple #[v,.bool true]) v)
  |some none=>some (cond ok (.tuple #[zero,.bool false]) zero)) none
noncomputable def setAt{α:Type}(f:α->α)(l:ae α):Nat->ae α:=
 List.rec (motive:=λ_=>Nat->ae α) (λ_=>[]) (λx l ih n=>Nat.rec (motive:=λ_=>ae α) (f x::l) (λm _=>x::ih m) n) l
noncomputable def FE(P:Program)(kt:aB)(m k v:ah)(h:IH):aj IH:=
 match m with
 | .map (some i)=>match h.get i with
   |some (.map es clock)=>cond (rC P kt k) (match uo P kt k es with
    |none=>none
    |some (some (j,_))=>match ko es j with
     |some e=>cond (Instr.sameBits 10000 e.key k) (some (h.set i (.map (setAt (λe=>{e with key:=k,val:=v}) es j) clock))) none
     |none=>none
    |some none=>some (h.set i (.map (kF es [{key:=k,val:=v,born:=clock}]) (Nat.succ clock)))) none
   |_=>none
 |_=>none
noncomputable def acn(P:Program)(kt:aB)(zero m k:ah)(h:IH):aj (ah×IH):=
 match m with
 | .map (some i)=>match h.get i with
   |some (.map es clock)=>cond (rC P kt k) (match uo P kt k es with
    |none=>none
    |some (some (j,v))=>match ko es j with
     |some e=>cond (Instr.sameBits 10000 e.key k) (some (.tuple #[v,goInt e.born],h.set i (.map (setAt (λe=>{e with key:=k}) es j) clock))) none
     |none=>none
    |some none=>some (.tuple #[zero,goInt clock],h.set i (.map (kF es [{key:=k,val:=zero,born:=clock}]) (Nat.succ clock)))) none
   |_=>none
 |_=>none
noncomputable def aco(m s v:ah)(h:IH):aj IH:=
 match m,s with
 | .map (some i),.int _ n=>match h.get i with
   |some (.map es clock)=>match es.findIdx? (λe=>(e.born:Int)==n)with
    |some j=>some (h.set i (.map (setAt (λe=>{e with val:=v}) es j) clock))
    |none=>none
   |_=>none
 |_,_=>none
def uq(P:Program)(t:aB)(x y:ah):aj Bool:=
 match P.underlying t,x,y with
 |some (.pointer _),.pointer (some _),.pointer none=>some false
 |some (.pointer _),.pointer none,.pointer (some _)=>some false
 |some (.slice _),.slice (some _) _ _,.slice none _ _=>some false
 |some (.slice _),.slice none _ _,.slice (some _) _ _=>some false
 |some (.slice _),.slice none _ _,.slice none _ _=>some true
 |some (.map _ _),.map (some _),.map none=>some false
 |some (.map _ _),.map none,.map (some _)=>some false
 |some (.func _ _ _),.func _ _ _,.nilFunc=>some false
 |some (.func _ _ _),.nilFunc,.func _ _ _=>some false
 |some (.interface _),.iface _ _,.nilIface=>some false
 |some (.interface _),.nilIface,.iface _ _=>some false
 |_,_,_=>none
def Nr:Nat:=9223372036854775807
def FH(k:IntKind)(n:Int):Int:=
 match k,n with
 | .i64,.ofNat m=>cond (Nat.ble m Nr) (.ofNat m) (IntKind.i64.wrap (.ofNat m))
 | .i64,.negSucc m=>cond (Nat.ble m 1000000) (.negSucc m) (IntKind.i64.wrap (.negSucc m))
 |k,n=>k.wrap n
def Tn(a b:Int):Int:=
 match a,b with
 | .ofNat x,.ofNat y=>.ofNat (Nat.add x y)
 |a,b=>a+b
def Ns(a b:Int):Int:=
 match a,b with
 | .ofNat x,.ofNat y=>cond (Nat.ble y x) (.ofNat (Nat.sub x y)) (.negSucc (Nat.pred (Nat.sub y x)))
 |a,b=>a - b
def leZ(a b:Int):Bool:=
 match a,b with
 | .ofNat x,.ofNat y=>Nat.ble x y
 | .negSucc _,.ofNat _=>true
 | .ofNat _,.negSucc _=>false
 | .negSucc x,.negSucc y=>Nat.ble y x
def Du(a b:Int):Bool:=
 match a,b with
 | .ofNat x,.ofNat y=>Nat.beq x y
 | .negSucc x,.negSucc y=>Nat.beq x y
 |_,_=>false
def qD(j k:IntKind):Bool:=
 match j,k with
 | .i64,.i64=>true
 |j,k=>j==k
def nS(op:BinOp)(k:IntKind)(a b:Int):aj ah:=
 match op with
 | .add=>some (.int k (FH k (Tn a b)))
 | .sub=>some (.int k (FH k (Ns a b)))
 | .eql=>some (.bool (Du a b))
 | .neq=>some (.bool (!Du a b))
 | .lss=>some (.bool (!leZ b a))
 | .leq=>some (.bool (leZ a b))
 | .gtr=>some (.bool (!leZ a b))
 | .geq=>some (.bool (leZ b a))
 |_=>none
def ku(P:Program)(op:BinOp)(t:aB)(x y:ak)(a b:ah):aj ah:=
 match (match a,b with
  | .int j m,.int k n=>cond (qD j k) (nS op j m n) none
  |_,_=>none)with
 |some v=>some v
 |none=>cond (bR a&&bR b) (jo P (do eqGuard op t x y a b;binOp op t a b))
  (match op with
  | .eql=>(match uq P t a b with|some b=>some (.bool b)|none=>none)
  | .neq=>(match uq P t a b with|some b=>some (.bool !b)|none=>none)
  |_=>none)
noncomputable def BL(l:ae ah):aj (ae UInt8):=
 List.rec (motive:=λ_=>aj (ae UInt8)) (some []) (λv _ ih=>match v,ih with
  | .int .u8 k,some r=>some (UInt8.ofNat k.toNat::r)
  |_,_=>none) l
noncomputable def sQ(ρ:ak->ah)(zero:ae ah)(parts:ae (Nat×Nat×ak)):aj (ae ah):=
 List.rec (motive:=λ_=>ae ah->aj (ae ah)) (λcs=>some cs)
  (λp _ ih cs=>match p with
    |(off,size,x)=>match cellsOf (ρ x)with
     |none=>none
     |some vs=>cond (Nat.beq (iI vs) size) (match iZ cs off vs with
      |some cs=>ih cs
      |none=>none) none) parts zero
noncomputable def ja(ρ:ak->ah)(x:aj ak):aj ah:=
 match x with
 |some x=>some (ρ x)
 |none=>none
noncomputable def aF.alloc(c:aF)(ρ:ak->ah):aj ((Nat->ah)×bG):=
 match c with
 | .new cs _=>some (λi=>.pointer (some ⟨i,0,none⟩),.cells cs)
 | .box x _=>match cellsOf (ρ x)with
   |some cs=>some (λi=>.pointer (some ⟨i,0,none⟩),.cells cs)
   |none=>none
 | .zX _ len zero parts=>match sQ ρ zero parts with
   |some cs=>some (λi=>.slice (BJ i 0) len len,.cells cs)
   |none=>none
 | .wZ=>some (λi=>.map (some i),.map [] 0)
 | .zY _ size bytes zero l c=>match ρ l,ρ c with
   | .int .i64 (.ofNat l),.int .i64 (.ofNat c)=>cond (Nat.ble l c&&Nat.ble (Nat.mul c bytes) small&&Nat.ble (Nat.mul c size) small&&Nat.ble c small)
      (some (λi=>.slice (BJ i 0) l c,.cells (zeros zero c))) none
   |_,_=>none
 |_=>none
noncomputable def rD(x:aj ((Nat->ah)×bG))(h:IH):aj (ah×IH):=
 match x with
 |some (f,o)=>some (f h.next,h.new o)
 |none=>none
noncomputable def aF.run(P:Program)(c:aF)(ρ:ak->ah)(h:IH):aj (ah×IH):=
 match c with
 | .mv x=>some (ρ x,h)
 | .pq x=>some (ρ x,h)
 | .pick c a b=>match ρ c with
   | .bool t=>some (cond t (ρ a) (ρ b),h)
   |_=>none
 | .new cs t=>rD ((aF.new cs t).alloc ρ) h
 | .box x t=>rD ((aF.box x t).alloc ρ) h
 | .build zero parts=>match sQ ρ zero parts with
   |some cs=>some (.agg ⟨cs⟩,h)
   |none=>none
 | .zX t len zero parts=>rD ((aF.zX t len zero parts).alloc ρ) h
 | .gJ a=>match ρ a with
   | .pointer (some ⟨i,o,none⟩)=>match h.pu i o with
     |some v=>some (v,h)
     |none=>none
   |_=>none
 | .rA n a=>match ρ a with
   | .pointer (some ⟨i,o,none⟩)=>match h.iq i o n with
     |some cs=>some (.agg ⟨cs⟩,h)
     |none=>none
   |_=>none
 | .store n a x=>match ρ a,cellsOf (ρ x)with
   | .pointer (some ⟨i,o,none⟩),some vs=>cond (Nat.beq (iI vs) n) (match h.storeAt i o vs with
     |some h=>some (dH,h)
     |none=>none) none
   |_,_=>none
 | .lW x=>match ρ x with
   | .pointer (some a)=>some (.pointer (some a),h)
   | .iface t v=>some (.iface t v,h)
   | .func (.func f) first captured=>some (.func (.func f) first captured,h)
   | .func (.methodOf t n) first captured=>some (.func (.methodOf t n) first captured,h)
   | .func (.yield l) first captured=>some (.func (.yield l) first captured,h)
   |_=>none
 | .bin op t x y=>match ku P op t x y (ρ x) (ρ y)with
   |some v=>some (v,h)
   |none=>none
 | .un op x=>cond (bR (ρ x)) (match jo P (Op.unary op (ρ x))with
   |some v=>some (v,h)
   |none=>none) none
 | .conv s d x=>cond (bR (ρ x)) (match jo P (convert s d (ρ x))with
   |some v=>some (v,h)
   |none=>none) none
 | .Ta _ x=>match ρ x with
   | .string b=>some (.slice (some ⟨h.next,0,some 1⟩) b.data.toList.length b.data.toList.length,h.new (.cells (lq (λc=>.int .u8 c.toNat) b.data.toList)))
   |_=>none
 | .FD x=>match ρ x with
   | .slice none _ _=>some (.string .empty,h)
   | .slice (some ⟨i,o,_⟩) n _=>match h.iq i o n with
     |some cs=>match BL cs with
      |some bs=>some (.string ⟨⟨bs⟩⟩,h)
      |none=>none
     |none=>none
   |_=>none
 | .iface t x=>some (.iface t (ρ x),h)
 | .Dt fn first captured=>some (.func fn ⟨lq ρ first⟩ ⟨lq ρ captured⟩,h)
 | .wZ=>rD (aF.wZ.alloc ρ) h
 | .zY e size bytes zero l c=>rD ((aF.zY e size bytes zero l c).alloc ρ) h
 | .Tc t x lo hi mx=>match ρ x with
   | .string s=>match bounds? s.size s.size (ja ρ lo) (ja ρ hi) (ja ρ mx)with
     |some _=>match jo P (Instr.slice t (.string s) (ja ρ lo) (ja ρ hi) (ja ρ mx))with
      |some v=>some (v,h)
      |none=>none
     |none=>none
   |_=>none
 | .Nl n size x lo hi mx=>match ρ x with
   | .pointer (some ⟨i,o,none⟩)=>match bounds? n n (ja ρ lo) (ja ρ hi) (ja ρ mx)with
     |some (l,hh,m)=>some (.slice (BJ i (Nat.add o (Nat.mul l size))) (Nat.sub hh l) (Nat.sub m l),h)
     |none=>none
   |_=>none
 | .Nn size x lo hi mx=>match ρ x with
   | .slice a len cap=>match bounds? len cap (ja ρ lo) (ja ρ hi) (ja ρ mx)with
     |some (l,hh,m)=>match a with
      |none=>some (.slice none (Nat.sub hh l) (Nat.sub m l),h)
      |some ⟨i,o,some 0⟩=>some (.slice (BJ i (Nat.add o (Nat.mul l size))) (Nat.sub hh l) (Nat.sub m l),h)
      |some ⟨i,o,some (k+1)⟩=>cond (Nat.beq (Nat.succ k) size) (some (.slice (some ⟨i,Nat.add o (Nat.mul l size),match mx with|some _=>some 0|none=>some (Nat.succ k)⟩) (Nat.sub hh l) (Nat.sub m l),h)) none
      |some ⟨_,_,none⟩=>none
     |none=>none
   |_=>none
 | .fM off x=>match ρ x with
   | .pointer (some ⟨i,o,none⟩)=>some (.pointer (some ⟨i,Nat.add o off,none⟩),h)
   |_=>none
 | .field _ off n agg x=>match ρ x with
   | .agg ⟨cs⟩=>match agg with
     |true=>match jh (jU cs off) n with
      |some l=>some (.agg ⟨l⟩,h)
      |none=>none
     |false=>match ko cs off with
      |some v=>some (v,h)
      |none=>none
   |_=>none
 | .Np n size x ix=>match ρ x,ρ ix with
   | .pointer (some ⟨b,o,none⟩),.int _ (.ofNat i)=>cond (Nat.blt i n) (some (.pointer (some ⟨b,Nat.add o (Nat.mul i size),none⟩),h)) none
   |_,_=>none
 | .oz size x ix=>match ρ x,ρ ix with
   | .slice (some ⟨b,o,_⟩) n _,.int _ (.ofNat i)=>cond (Nat.blt i n) (some (.pointer (some ⟨b,Nat.add o (Nat.mul i size),none⟩),h)) none
   |_,_=>none
 | .Td x ix=>match ρ x,ρ ix with
   | .string s,.int _ (.ofNat i)=>match ko s.data.toList i with
     |some b=>some (.int .u8 b.toNat,h)
     |none=>none
   |_,_=>none
 | .Te n size agg x ix=>match ρ x,ρ ix with
   | .agg ⟨cs⟩,.int _ (.ofNat i)=>cond (Nat.blt i n) (match agg with
     |true=>match jh (jU cs (Nat.mul i size)) size with
      |some l=>some (.agg ⟨l⟩,h)
      |none=>none
     |false=>match ko cs (Nat.mul i size)with
      |some v=>some (v,h)
      |none=>none) none
   |_,_=>none
 | .lookup kt zero m k ok=>match BK P kt zero (ρ m) (ρ k) ok h with
   |some v=>some (v,h)
   |none=>none
 | .IZ kt m k v=>match FE P kt (ρ m) (ρ k) (ρ v) h with
   |some h=>some (dH,h)
   |none=>none
 | .Tf kt zero m k=>acn P kt zero (ρ m) (ρ k) h
 | .Tg m s v=>match aco (ρ m) (ρ s) (ρ v) h with
   |some h=>some (dH,h)
   |none=>none
 | .Nq x=>match ρ x with
   | .string s=>some (.pointer (some ⟨h.next,0,none⟩),h.new (.BI s 0))
   |_=>none
 | .rangeMap x=>match ρ x with
   | .map none=>some (.pointer (some ⟨h.next,0,none⟩),h.new (.mapIter none 0 [] 0))
   | .map (some m)=>match h.get m with
     |some (.map _ clock)=>some (.pointer (some ⟨h.next,0,none⟩),h.new (.mapIter (some m) clock [] clock))
     |_=>none
   |_=>none
 | .Ti it=>match ρ it with
   | .pointer (some ⟨r,0,none⟩)=>match h.get r with
     |some (.BI s pos)=>cond (Nat.blt pos s.size)
       (some (.tuple #[.bool true,goInt pos,.int .i32 (Utf8.decode s pos).1],h.set r (.BI s (Nat.add pos (Utf8.decode s pos).2))))
       (some (.tuple #[.bool false],h))
     |_=>none
   |_=>none
 | .entry it=>match ρ it with
   | .pointer (some ⟨r,0,none⟩)=>match h.get r with
     |some (.mapIter (some m) _ seen stepped)=>match h.get m with
      |some (.map es clock)=>match seen.getLast? with
       |some stamp=>cond (Nat.beq clock stepped) (match es.find? (λe=>Nat.beq e.born stamp)with
        |some e=>some (.tuple #[e.key,e.val],h)
        |none=>none) none
       |none=>none
      |_=>none
     |_=>none
   |_=>none
 | .I1 t zero ok x=>match ρ x with
   | .nilIface=>cond ok (some (.tuple #[zero,.bool false],h)) none
   | .iface u v=>cond (Nat.beq u t) (some (cond ok (.tuple #[v,.bool true]) v,h)) (cond ok (some (.tuple #[zero,.bool false],h)) none)
   |_=>none
 | .extract x i=>match ρ x with
   | .tuple ⟨vs⟩=>match ko vs i with
     |some v=>some (v,h)
     |none=>none
   |_=>none
 | .append _ size bytes s x=>match oD (ρ x)with
   |some n=>match yA size n (ρ x) h with
    |some xs=>w9 size bytes (ρ s) n xs h
    |none=>none
   |none=>none
 | .I4 _ size bytes zero s x=>match ρ s,ρ x with
   | .slice none 0 0,.int .i64 (.ofNat (n+1))=>cond (Nat.ble (Nat.mul (n+1) bytes) small&&Nat.ble (Nat.mul (n+1) size) small&&Nat.ble (n+1) small) (some (.slice (some ⟨h.next,0,some size⟩) (n+1) (n+1),h.new (.cells (zeros zero (n+1))))) none
   |_,_=>none
 | .copy size d x=>Tm size (ρ d) (ρ x) h
 | .clear zero x=>match ρ x with
   | .slice (some ⟨i,o,some _⟩) (n+1) _=>match h.storeAt i o (zeros zero (n+1))with
     |some h'=>some (.tuple #[],h')
     |none=>none
   | .slice _ 0 _=>some (.tuple #[],h)
   |_=>none
 | .Tj x=>match ρ x with
   | .string s=>some (goInt s.size,h)
   |_=>none
 | .I5 n=>some (goInt n,h)
 | .yz x=>match ρ x with
   | .slice _ n _=>some (goInt n,h)
   |_=>none
 | .I6 x=>match entriesOf (ρ x) h with
   |some es=>some (goInt (iI es),h)
   |none=>none
 | .Tk x=>match ρ x with
   | .slice none _ c=>some (goInt c,h)
   | .slice (some ⟨_,_,some 0⟩) _ c=>some (goInt c,h)
   |_=>none
 | .BH max args=>match lq ρ args with
   |[.int j a,.int k b]=>cond (qD j k) (some (.int j (cond max (cond (leZ b a) a b) (cond (leZ a b) a b)),h)) none
   |args=>cond (gD args) (match jo P (cond max (Builtin.max_ #[] 0 ⟨args⟩) (Builtin.min_ #[] 0 ⟨args⟩))with
    |some v=>some (v,h)
    |none=>none) none
 | .yx _| .call _ _| .invoke _ _ _| .recover| .panic _| .dcall _ _=>none
end Go.Ideal
namespace Go.Ideal
noncomputable section
def jE(P:Program)(t:aB):aj Nat:=(P.info? t).map (·.size)
def zeroOf(P:Program)(t:aB):aj ah:=
 match (P.info? t).bind (·.zero)with
 |some z=>if bR z then some z else none
 |none=>none
def kv(P:Program)(t:aB):Bool:=
 match P.underlying t with
 |some (.struct _)|some (.array _ _)=>true
 |_=>false
def xe(P:Program)(t:aB):aj (ae ah):=
 match zeroOf P t,jE P t with
 |some z,some n=>if z.cells.toList.length=n/\gD z.cells.toList then some z.cells.toList else none
 |_,_=>none
def nT(P:Program)(t:aB):aj Nat:=
 match jE P t with
 |some 0=>none
 |s=>s
def zZ(P:Program)(fs:Array Field):ae (Nat×ak)->aj (ae (Nat×Nat×ak))
 |[]=>some []
 |(i,x)::l=>match fs[i]?,zZ P fs l with
  |some f,some r=>match jE P f.type with
   |some s=>some ((f.offset,s,x)::r)
   |none=>none
  |_,_=>none
def placesOf(P:Program)(fs:Array Field)(parts:ae (Nat×ak)):aj (ae (Nat×Nat×ak)):=
 if fs.toList.all (λf=>(jE P f.type).isSome)then zZ P fs parts else none
def I7:Fn->Bool
 | .yield _=>false
 | .via .. =>false
 |_=>true
def cop(P:Program)(o:Oper):aj aF:=
 match o.op with
 | .move x=>some (.mv x)
 | .assign x=>some (.pq x)
 | .pick c a b=>some (.pick c a b)
 | .alloc e=>match xe P e with
   |some cs=>some (.new cs e)
   |none=>none
 | .box e x=>some (.box x e)
 | .build t parts=>match P.underlying t,xe P t with
   |some (.struct fs),some z=>match placesOf P fs parts.toList with
    |some ps=>some (.build z ps)
    |none=>none
   |some (.array _ e),some z=>match nT P e with
    |some s=>some (.build z (parts.toList.map λ(i,x)=>(i*s,s,x)))
    |none=>none
   |_,_=>none
 | .buildSlice t len parts=>match P.underlying t with
   |some (.slice e)=>match nT P e,xe P e with
    |some s,some z=>if len*s<=2^24 then some (.zX e len (zeros z len) (parts.toList.map λ(i,x)=>(i*s,s,x)))else none
    |_,_=>none
   |_=>none
 | .load t a=>if kv P t then(jE P t).map λn=>.rA n a else match P.underlying t with
   |some _=>some (.gJ a)
   |none=>none
 | .store t a x=>(jE P t).map λn=>.store n a x
 | .nilCheck x=>some (.lW x)
 | .binOp op t x y _=>some (.bin op t x y)
 | .unOp op _ x=>some (.un op x)
 | .convert s d x=>match P.underlying s,P.underlying d with
   |some .string,some (.slice _)=>none
   |some (.slice e),some .string=>match P.underlying e with
    |some (.int .u8)=>some (.FD x)
    |_=>none
   |some (.slice _),some (.slice _)=>none
   |some _,some _=>some (.conv s d x)
   |_,_=>none
 | .makeInterface t x=>match P.underlying t with
   |some (.interface _)=>none
   |some _=>some (.iface t x)
   |none=>none
 | .makeFunc fn first captured=>if I7 fn then some (.Dt fn first.toList captured.toList)else none
 | .makeMap _ none=>some .wZ
 | .makeSlice t l c=>match P.underlying t with
   |some (.slice e)=>match nT P e,xe P e with
    |some s,some z=>some (.zY e s ((P.info? e).map (·.bytes)).get! z l c)
    |_,_=>none
   |_=>none
 | .slice t x lo hi mx=>match P.underlying t with
   |some .string=>some (.Tc t x lo hi mx)
   |some (.array n e)=>(nT P e).map λs=>.Nl n s x lo hi mx
   |some (.slice e)=>(nT P e).map λs=>.Nn s x lo hi mx
   |_=>none
 | .fieldAddr s x f=>match P.underlying s with
   |some (.struct fs)=>match fs[f]? with
    |some f=>(nT P f.type).map λ_=>.fM f.offset x
    |none=>none
   |_=>none
 | .field t x f=>match P.underlying t with
   |some (.struct fs)=>match fs[f]? with
    |some f=>match jE P f.type,P.underlying f.type with
     |some n,some _=>some (.field f.type f.offset n (kv P f.type) x)
     |_,_=>none
    |none=>none
   |_=>none
 | .indexAddr t x i=>match P.underlying t with
   |some (.array n e)=>(nT P e).map λs=>.Np n s x i
   |some (.slice e)=>(nT P e).map λs=>.oz s x i
   |_=>none
 | .index t x i=>match P.underlying t with
   |some (.array n e)=>match nT P e,P.underlying e with
    |some s,some _=>some (.Te n s (kv P e) x i)
    |_,_=>none
   |some .string=>some (.Td x i)
   |_=>none
 | .lookup t m k ok=>match P.underlying t with
   |some (.map kt et)=>(zeroOf P et).map λz=>.lookup kt z m k ok
   |_=>none
 | .mapUpdate t m k v| .insert t m k v=>match P.underlying t with
   |some (.map kt _)=>some (.IZ kt m k v)
   |_=>none
 | .range t x=>match P.underlying t with
   |some .string=>some (.Nq x)
   |some (.map _ _)=>some (.rangeMap x)
   |_=>none
 | .next it false=>some (.yx it)
 | .entry it=>some (.entry it)
 | .typeAssert x _ t ok=>match P.underlying t with
   |some (.interface _)=>none
   |some _=>(zeroOf P t).map λz=>.I1 t z ok x
   |none=>none
 | .extract t i=>some (.extract t i)
 | .panic x=>some (.panic x)
 | .defer {callee:=.value f,args,.. }=>some (.dcall f args.toList)
 | .call {callee:=.value f,args,.. }=>some (.call f args.toList)
 | .call {callee:=.invoke x name,args,.. }=>some (.invoke x name args.toList)
 | .call {callee:=.builtin b,args,argTypes}=>match b,args.toList with
   | .recover,_=>some .recover
   | .panic,[x]=>some (.panic x)
   | .append,[s,x]=>match argTypes[0]?,argTypes[1]? with
     |some st,some xt=>match P.underlying st,P.underlying xt with
      |some (.slice e),some xd=>match nT P e,(P.info? e).map (·.bytes),xe P e with
       |some s',some (b+1),some z=>match xd with
        | .int _=>some (.I4 e s' (b+1) z s x)
        |_=>some (.append e s' (b+1) s x)
       |_,_,_=>none
      |_,_=>none
     |_,_=>none
   | .clear,[x]=>match argTypes[0]? with
     |some t=>match P.underlying t with
      |some (.slice e)=>match xe P e with
       |some (z::zs)=>some (.clear (z::zs) x)
       |_=>none
      |_=>none
     |none=>none
   | .copy,[d,x]=>match argTypes[0]? with
     |some dt=>match P.underlying dt with
      |some (.slice e)=>(nT P e).map λs=>.copy s d x
      |_=>none
     |none=>none
   | .len,[x]=>match argTypes[0]? with
     |some t=>match P.underlying t with
      |some .string=>some (.Tj x)
      |some (.array n _)=>some (.I5 n)
      |some (.pointer p)=>match P.underlying p with
       |some (.array n _)=>some (.I5 n)
       |_=>none
      |some (.slice _)=>some (.yz x)
      |some (.map _ _)=>some (.I6 x)
      |_=>none
     |none=>none
   | .cap,[x]=>match argTypes[0]? with
     |some t=>match P.underlying t with
      |some (.slice _)=>some (.Tk x)
      |_=>none
     |none=>none
   | .min,args=>some (.BH false args)
   | .max,args=>some (.BH true args)
   |_,_=>none
 |_=>none
def BM(P:Program):ak->Bool
 | .const (.tuple ⟨[]⟩)=>true
 | .const v=>bR v
 | .global g=>Nat.blt g P.globals.size
 |_=>true
def FI(P:Program)(ops:Array Oper)(o:Oper):aj iy:=
 if o.op.operands.toList.all (BM P)then match cop P o with
 |none=>none
 |some c=>match o.guard with
  |none=>some ⟨o.dst,none,c⟩
  |some (j,want)=>match (ops[j]?).bind (·.dst)with
   |some t=>some ⟨o.dst,some (t,want),c⟩
   |none=>none
 else none
def heavy:aF->Bool
 | .pq .. | .store .. | .IZ .. | .Tf .. | .Tg .. | .Nq .. | .rangeMap .. | .Ti .. | .yx .. | .append .. | .I4 .. | .copy .. | .clear .. | .Ta ..
 | .call .. | .invoke .. | .recover| .panic .. | .dcall .. =>true
 |_=>false
def Dv:aF->Bool
 | .gJ .. | .rA .. | .lookup .. | .entry .. | .FD .. | .I6 .. =>true
 |_=>false
def BN(ops:Array Oper)(done:ae Nat)(i:Nat):Bool:=
 !done.contains i&&match ops[i]? with
  |some o=>o.after.toList.all λe=>!Region.binds .any e||done.contains e.on
  |none=>false
def looks(ops:Array Oper)(o:Oper):ae Tmp:=
 (o.op.operands.toList.filterMap λ| .tmp t=>some t|_=>none)++
 (match o.guard with
  |some (g,_)=>((ops[g]?).bind (·.dst)).toList
  |none=>[])
def Nt(ops:Array Oper)(hv:Nat->Bool):Nat->ae Nat->ae Nat
 |0,done=>done.reverse
 |f+1,done=>
  match (List.range ops.size).find? λi=>!hv i&&BN ops done i with
  |some i=>Nt ops hv f (i::done)
  |none=>match (List.range ops.size).find? λi=>BN ops done i with
   |some i=>Nt ops hv f (i::done)
   |none=>done.reverse
def Tp(ops:Array Oper)(bO:Nat->Nat->Bool)(hv:Nat->Bool)(done:ae Nat)(i:Nat):Bool:=
 match ops[i]? with
 |none=>false
 |some o=>
  BN ops done i&&
  (!hv i||(done.all λj=>!hv j||bO i j)&&(List.range ops.size).all λj=>hv j||!BN ops done j)&&
  (match o.dst with
  |none=>true
  |some d=>(hv i||!(looks ops o).contains d)&&done.all λj=>match ops[j]? with
   |some p=>if(looks ops p).contains d||p.dst==some d then hv i&&bO i j else true
   |none=>false)&&
  done.all λj=>match ops[j]? with
   |some p=>match p.dst with
    |some d=>if(looks ops o).contains d then bO i j else true
    |none=>true
   |none=>false
def FJ(ops:Array Oper)(bO:Nat->Nat->Bool)(hv:Nat->Bool):ae Nat->ae Nat->Bool
 |[],done=>(List.range ops.size).all λi=>done.contains i
 |i::l,done=>Tp ops bO hv done i&&FJ ops bO hv l (i::done)
def FK(bO:Nat->Nat->Bool)(cs:Nat->aj iy):ae Nat->ae Nat->aj (ae bJ)
 |[],_=>some []
 |i::l,done=>match cs i,FK bO cs l (i::done)with
  |some s,some r=>some (⟨s,if heavy s.op then done.filterMap λj=>match cs j with
    |some t=>if Dv t.op&&!bO i j then some t else none
    |none=>none else[]⟩::r)
  |_,_=>none
def rE(ops:Array Oper):Nat->Nat->Bool:=
 let b:=Region.before ops
 λi j=>(b.getD i 0).testBit j
def kG(P:Program)(ops:Array Oper)(i:Nat):aj iy:=(ops[i]?).bind (FI P ops)
def z8(P:Program)(ops:Array Oper)(i:Nat):Bool:=
 match kG P ops i with
 |some s=>heavy s.op
 |none=>true
def Tq(P:Program)(ops:Array Oper):aj (ae bJ):=
 let l:=Nt ops (z8 P ops) ops.size []
 if FJ ops (rE ops) (z8 P ops) l []then FK (rE ops) (kG P ops) l []else none
def dstsOf(ops:Array Oper):ae Tmp:=ops.toList.filterMap (·.dst)
def I8(P:Program)(ops:Array Oper)(draw:Bool):cK:=
 match (if draw then Tq P ops else ops.toList.mapM λo=>(FI P ops o).map λs=>⟨s,[]⟩)with
 |some l=>.ops (dstsOf ops) l
 |none=>.fail
def compile(P:Program):Code->cK
 | .skip| .label _=>.skip
 | .region _ ops draw=>I8 P ops draw
 | .seq a b=>.seq (compile P a) (compile P b)
 | .cond c a b=>.cond c (compile P a) (compile P b)
 | .block id a=>.block id (compile P a)
 | .loop a=>.loop (compile P a)
 | .rangeFunc f params assign body=>if BM P f then .rangeFunc f params.toList (compile P assign) (compile P body)else .fail
 | .exit id=>.exit id
 | .scope a=>.scope (compile P a)
 | .ret=>.ret
 | .goto _| .refuse _=>.fail
inductive rF where
 |tmp (t:Tmp)
 |cell1 (a:Tmp)
 |qE (n:Nat) (a:Tmp)
def FL(P:Program):ResultVar->aj rF
 | .tmp t=>some (.tmp t)
 | .cell a t=>if kv P t then(jE P t).map λn=>.qE n a else match P.underlying t with
   |some _=>some (.cell1 a)
   |none=>none
structure gK where
 ntmps:Nat
 results:List rF
 body:cK
def vJ(P:Program)(fn:Func):aj gK:=
 match fn.body,fn.results.toList.mapM (FL P)with
 |some c,some rs=>if fn.name= "runtime.NumGoroutine" then none else some ⟨fn.ntmps,rs,compile P c⟩
 |_,_=>none
inductive iL where
 |ok (v:Value)
 |fD (chain:List PanicEntry)
structure aX where
 fn:Fn
 args:List Value
 captured:List Value
 pm:Option FrameMode
def yB(l:ae ah):Nat->T ah->T ah:=
 List.rec (motive:=λ_=>Nat->T ah->T ah) (λ_ t=>t) (λv _ ih i t=>ih (Nat.succ i) (t.set i (some v))) l
def rG(a b:Nat):Nat:=cond (Nat.ble a b) b a
def BP(n:Nat)(args:ae ah)(pm:aj FrameMode):aU:=
 {n:=rG n (iI args),tmps:=yB args 0 .leaf,defers:=[],pm,ro:=none}
def uu(tmps:T ah)(h:IH)(r:rF):aj ah:=
 match r with
 | .tmp t=>some (dD tmps t)
 | .cell1 a=>match dD tmps a with
   | .pointer (some ⟨i,o,none⟩)=>match h.get i with
     |some (.cells cs)=>ko cs o
     |_=>none
   |_=>none
 | .qE n a=>match dD tmps a with
   | .pointer (some ⟨i,o,none⟩)=>match h.nR i o n with
     |some cs=>some (.agg ⟨cs⟩)
     |none=>none
   |_=>none
def yC(tmps:T ah)(h:IH)(l:ae rF):aj (ae ah):=
 List.rec (motive:=λ_=>aj (ae ah)) (some []) (λr _ ih=>match uu tmps h r,ih with
  |some v,some vs=>some (v::vs)
  |_,_=>none) l
def rH(rs:ae rF)(tmps:T ah)(h:IH):aj ah:=
 match yC tmps h rs with
 |some [v]=>some v
 |some vs=>some (.tuple ⟨vs⟩)
 |none=>none
def Aa:FrameMode->FrameMode
 | .panicking (e::older)=>cond e.recovered (match older.dropWhile (!·.goexit)with
    |[]=>.returning
    |rest=>.panicking rest) (.panicking (e::older))
 |m=>m
def Dw(u:FrameMode)(chain:ae PanicEntry):FrameMode:=
 match u with
 | .panicking old=>.panicking (chain++old)
 |_=>.panicking chain
def jV(pm:FrameMode):ah×FrameMode:=
 match pm with
 | .panicking (e::older)=>cond (e.recovered||e.goexit) (.nilIface,pm) (e.v,.panicking ({e with recovered:=true}::older))
 |_=>(.nilIface,pm)
def Dx(P:Program)(t:aB)(v:ah)(name:String):aj (eD×ah):=
 match P.info? t with
 |none=>none
 |some info=>match info.methods.find? (·.name==name)with
  |none=>none
  |some m=>if m.path.size≠0 then none else match m.func with
   |some (f,ptr)=>match P.underlying t,ptr with
    |some (.pointer _),true=>some (f,v)
    |some (.pointer _),false=>none
    |some _,false=>some (f,v)
    |_,_=>none
   |none=>none
def target(P:Program)(q:aX):aj (eD×ae ah):=
 match q.fn with
 | .func f=>some (f,kF q.args q.captured)
 | .method name=>match q.args with
   | .iface t v::args=>match Dx P t v name with
     |some (f,r)=>some (f,r::args)
     |none=>none
   |_=>none
 | .methodOf t name=>match q.args with
   |x::args=>match P.underlying t with
    |some (.interface _)=>match x with
     | .iface t v=>match Dx P t v name with
       |some (f,r)=>some (f,r::args)
       |none=>none
     |_=>none
    |some _=>match Dx P t x name with
     |some (f,r)=>some (f,r::args)
     |none=>none
    |none=>none
   |[]=>none
 |_=>none
def yD(c:aF)(ρ:ak->ah):aj aX:=
 match c with
 | .call f args=>match ρ f with
   | .func fn ⟨first⟩ ⟨captured⟩=>some ⟨fn,kF first (lq ρ args),captured,none⟩
   |_=>none
 | .invoke x name args=>some ⟨.method name,ρ x::lq ρ args,[],none⟩
 |_=>none
def forget(ds:ae Tmp)(a:aU):aU:=
 List.rec (motive:=λ_=>aU->aU) (λa=>a) (λd _ ih a=>ih (a.set d dH)) ds a
def BQ(it:ah)(h:IH):aj (ae (ah×IH)):=
 match it with
 | .pointer (some ⟨r,0,none⟩)=>match h.get r with
   |some (.mapIter none _ _ _)=>some [(.tuple #[.bool false],h)]
   |some (.mapIter (some m) since seen last)=>match h.get m with
    |some (.map es clock)=>
     cond (!seen.isEmpty&&!es.isEmpty&&es.all (λe=>Nat.ble last e.born)) none
      (let left:=es.filter λe=>!seen.contains e.born
      let old:=left.filter λe=>Nat.blt e.born since
      let new:=left.filter λe=>Nat.ble since e.born
      some ((if old.isEmpty then[(.tuple #[.bool false],h)]else[])++
       (old++new).map λe=>(.tuple #[.bool true,e.key,e.val],h.set r (.mapIter (some m) since (seen++[e.born]) clock))))
    |_=>none
   |_=>none
 |_=>none
def inBlock(id:Nat)(o:Out):Out:=
 match o with
 | .exit j=>cond (Nat.beq j id) .normal (.exit j)
 |o=>o
def vK(o:Out):aj FrameMode:=
 match o with
 | .normal| .ret=>some .returning
 | .panic ch=>some (.panicking ch)
 | .exit _=>none
def vM(n:Nat)(ps:ae Tmp)(args:ae ah)(t:T ah):T ah:=
 List.rec (motive:=λ_=>ae ah->T ah->T ah) (λ_ t=>t)
  (λp _ ih args t=>match args with
    |v::args=>ih args (cond (Nat.blt p n) (t.set p (some v)) t)
    |[]=>t) ps args t
mutual
def oF(m:Nat):ah->Bool
 | .pointer (some a)=>Nat.blt a.block m
 | .slice (some a) _ _=>Nat.blt a.block m
 | .map (some i)=>Nat.blt i m
 | .func fn ⟨f⟩ ⟨c⟩=>(match fn with
   | .yield _=>false
   |_=>true)&&sS m f&&sS m c
 | .iface _ v=>oF m v
 | .agg ⟨l⟩=>sS m l
 | .tuple ⟨l⟩=>sS m l
 |_=>true
def sS(m:Nat):ae ah->Bool
 |[]=>true
 |v::l=>oF m v&&sS m l
end
def FM(m:Nat):bG->Bool
 | .cells cs=>sS m cs
 | .map es _=>es.all λe=>oF m e.val
 |_=>false
abbrev KO:=Out->aU->IH->Prop
abbrev KR:=iL->aj FrameMode->IH->Prop
end
end Go.Ideal
namespace Go.Ideal
noncomputable section
def Dy{α:Type}(f:Nat):ae α->T α:=
 Nat.rec (motive:=λ_=>ae α->T α) (λ_=>.leaf)
  (λ_ ih l=>List.rec (motive:=λ_=>T α) .leaf (λx l _=>.node (some x)
    (ih (List.rec (motive:=λ_=>Bool->ae α) (λ_=>[]) (λy _ r b=>Bool.rec (motive:=λ_=>ae α) (r true) (y::r false) b) l true))
    (ih (List.rec (motive:=λ_=>Bool->ae α) (λ_=>[]) (λy _ r b=>Bool.rec (motive:=λ_=>ae α) (r true) (y::r false) b) l false))) l) f
def nH(f:Nat):ah->ah->Bool:=
 Nat.rec (motive:=λ_=>ah->ah->Bool) (λ_ _=>false)
  (λ_ ih v u=>match v,u with
    | .bool a,.bool b=>a==b
    | .int .i64 a,.int .i64 b=>Du a b
    | .int j a,.int k b=>j==k&&a==b
    | .string a,.string b=>a.data.toList==b.data.toList
    | .pointer none,.pointer none=>true
    | .pointer (some ⟨i,o,none⟩),.pointer (some ⟨j,p,none⟩)=>Nat.beq i j&&Nat.beq o p
    | .slice none n c,.slice none m d=>Nat.beq n m&&Nat.beq c d
    | .slice (some ⟨i,o,some f⟩) n c,.slice (some ⟨j,p,some g⟩) m d=>Nat.beq i j&&Nat.beq o p&&Nat.beq f g&&Nat.beq n m&&Nat.beq c d
    | .map none,.map none=>true
    | .map (some i),.map (some j)=>Nat.beq i j
    | .nilIface,.nilIface=>true
    | .nilFunc,.nilFunc=>true
    | .iface t v,.iface s u=>Nat.beq t s&&ih v u
    | .agg ⟨a⟩,.agg ⟨b⟩=>List.rec (motive:=λ_=>ae ah->Bool) (λb=>match b with|[]=>true|_=>false) (λx _ r b=>match b with|y::b=>cond (ih x y) (r b) false|[]=>false) a b
    | .tuple ⟨a⟩,.tuple ⟨b⟩=>List.rec (motive:=λ_=>ae ah->Bool) (λb=>match b with|[]=>true|_=>false) (λx _ r b=>match b with|y::b=>cond (ih x y) (r b) false|[]=>false) a b
    | .func f ⟨a⟩ ⟨c⟩,.func g ⟨b⟩ ⟨d⟩=>f==g&&
       List.rec (motive:=λ_=>ae ah->Bool) (λb=>match b with|[]=>true|_=>false) (λx _ r b=>match b with|y::b=>cond (ih x y) (r b) false|[]=>false) a b&&
       List.rec (motive:=λ_=>ae ah->Bool) (λb=>match b with|[]=>true|_=>false) (λx _ r b=>match b with|y::b=>cond (ih x y) (r b) false|[]=>false) c d
    |_,_=>false) f
abbrev BO:=Out->aU->IH->Bool
abbrev BR:=iL->aj FrameMode->IH->Bool
structure Ev where
 code:cK->aU->IH->BO->Bool
 call:aX->IH->BR->Bool
structure Env where
 P:Program
 F:Nat->Option gK
 cut:Nat->Option (aX->IH->Option (List Value×Nat×Nat))
 /-- calls that are known: what they return, and the heap behind them -/
 memo:Nat->Option (aX->IH->Option (Value×IH))
def FN(P:Program)(re:ae iy)(a:aU)(h:IH):Bool:=
 List.rec (motive:=λ_=>Bool) true (λr _ ih=>cond (match a.wants r.guard with
  |some false=>true
  |_=>match r.op.run P a.eval h with
   |some (u,_)=>match r.dst with
    |some d=>nH 50 (dD a.tmps d) u
    |none=>true
   |none=>false) ih false) re
def Nu(P:Program)(s:bJ)(a:aU)(h:IH)(next:aU->IH->Bool):Bool:=
 match s.s.op.run P a.eval h with
 |some (v,h)=>match s.re with
  |[]=>next (a.put s.s.dst v) h
  |re=>cond (FN P re (a.put s.s.dst v) h) (next (a.put s.s.dst v) h) false
 |none=>false
def I9(P:Program)(E:Ev)(ds:ae Tmp)(s:bJ)(a:aU)(h:IH)(next:aU->IH->Bool)(k:BO):Bool:=
 match yD s.s.op a.eval with
 |some q=>E.call q h λr _ h=>match r with
  | .ok v=>cond (FN P s.re (a.put s.s.dst v) h) (next (a.put s.s.dst v) h) false
  | .fD ch=>k (.panic ch) (forget ds a) h
 |none=>false
def FO(s:bJ)(b:Bool):Bool:=match s.re with
 |[]=>b
 |_=>false
def Ja(P:Program)(E:Ev)(ds:ae Tmp)(s:bJ)(a:aU)(h:IH)(next:aU->IH->Bool)(k:BO):Bool:=
 match s.s.op with
 | .call _ _=>I9 P E ds s a h next k
 | .invoke _ _ _=>I9 P E ds s a h next k
 | .recover=>FO s (match a.ro with
   |some _=>false
   |none=>match a.pm with
    |none=>next (a.put s.s.dst .nilIface) h
    |some m=>next ({a with pm:=some (jV m).2}.put s.s.dst (jV m).1) h)
 | .panic x=>match a.eval x with
   | .iface t v=>k (.panic [{v:=.iface t v,recovered:=false}]) (forget ds a) h
   |_=>false
 | .dcall f args=>FO s (match a.ro with
   |some _=>false
   |none=>match a.eval f with
    | .func fn ⟨first⟩ ⟨captured⟩=>next ({a with defers:={target:=.fn fn ⟨captured⟩,args:=⟨kF first (lq a.eval args)⟩}::a.defers}.put s.s.dst dH) h
    |_=>false)
 | .yx x=>FO s (match BQ (a.eval x) h with
   |some alts=>zW (λvh=>next (a.put s.s.dst vh.1) vh.2) alts
   |none=>false)
 |_=>Nu P s a h next
def FP(P:Program)(E:Ev)(ds:ae Tmp)(l:ae bJ):aU->IH->BO->Bool:=
 List.rec (motive:=λ_=>aU->IH->BO->Bool) (λa h k=>k .normal a h)
  (λs _ ih a h k=>match a.wants s.s.guard with
    |some true=>Ja P E ds s a h (λa h=>ih a h k) k
    |some false=>ih (a.put s.s.dst um) h k
    |none=>false) l
def BS(E:Ev)(cf:gK)(ts:T ah)(ds:ae Deferred):FrameMode->IH->(iL->IH->Bool)->Bool:=
 List.rec (motive:=λ_=>FrameMode->IH->(iL->IH->Bool)->Bool)
  (λm h k=>match m with
    | .returning=>match rH cf.results ts h with
      |some v=>k (.ok v) h
      |none=>false
    | .panicking ch=>k (.fD ch) h
    | .run=>false)
  (λd _ ih m h k=>match m with
    | .run=>false
    |m=>match d with
     |{target:=.collected r,.. }=>match h.get r with
      |some (.iU true)=>ih m (h.set r (.iU false)) k
      |_=>false
     |{target:=.fn fn ⟨captured⟩,args:=⟨args⟩}=>E.call ⟨fn,args,captured,some m⟩ h λr pm h=>match pm with
      |none=>false
      |some m'=>match r with
       | .ok _=>ih (Aa m') h k
       | .fD ch=>ih (Dw m' ch) h k
     |_=>false) ds
def BU(V:Env)(E:Ev)(f:eD)(args:ae ah)(pm:aj FrameMode)(h:IH)(k:BR):Bool:=
 match V.F f with
 |none=>false
 |some cf=>E.code cf.body (BP cf.ntmps args pm) h λo a h=>match vK o with
  |none=>false
  |some m=>BS E cf a.tmps a.defers m h λr h=>k r a.pm h
def Tt(l:Nat)(o:Out)(a:aU)(h:IH)(k:BR):Bool:=
 match a.defers with
 |[]=>match h.get l with
  |some (.loop r)=>match o with
   | .normal=>k (.ok (.bool true)) none (h.set l (.loop {r with state:=.ready,pending:=none}))
   | .panic ch=>k (.fD ch) none h
   | .exit id=>k (.ok (.bool false)) none (h.set l (.loop {r with state:=.done,pending:=some (.exit id)}))
   | .ret=>k (.ok (.bool false)) none (h.set l (.loop {r with state:=.done,pending:=some .ret}))
  |_=>false
 |_=>false
def Nv(E:Ev)(l:Nat)(args:ae ah)(h:IH)(k:BR):Bool:=
 match h.get l with
 |some (.loop r)=>cond (Nat.beq (iI args) (iI r.params))
  (E.code r.assign {n:=r.n,tmps:=vM r.n r.params args r.tmps,defers:=[],pm:=none,ro:=some l} h λo a h=>match o with
    | .normal=>match h.get l with
      |some (.loop r1)=>match r1.state with
       | .ready=>E.code r.body a (h.set l (.loop {r1 with state:=.busy})) λo a h=>Tt l o a h k
       |_=>false
      |_=>false
    |_=>false) false
 |_=>false
def Tu(cs:ae ah)(n f:Nat)(h0:IH)(r:iL)(pm:aj FrameMode)(h:IH):Bool:=
 match pm with
 |some _=>false
 |none=>match r with
  | .ok (.slice (some ⟨i,o,some f'⟩) n' c)=>cond (Nat.beq n n'&&Nat.beq f f'&&(!Nat.beq f 0||Nat.beq c n)&&Nat.ble h0.next i&&Nat.beq h.low h0.next) (match h.nR i o (iI cs)with
    |some l=>List.rec (motive:=λ_=>ae ah->Bool) (λb=>match b with|[]=>true|_=>false) (λx _ r b=>match b with|y::b=>cond (nH 5 x y) (r b) false|[]=>false) l cs
    |none=>false) false
  |_=>false
def Nw(V:Env)(f:Nat)(q:aX)(h:IH)(k:BR)(other:Bool):Bool:=
 match V.memo f with
 |none=>other
 |some g=>match q.pm with
  |some _=>other
  |none=>match g q h with
   |some (v,h')=>k (.ok v) none h'
   |none=>other
def Ny(V:Env)(E:Ev)(q:aX)(h:IH)(k:BR):Bool:=
 match q.fn with
 | .yield l=>match q.pm with
   |none=>Nv E l q.args h k
   |some _=>false
 |_=>match target V.P q with
  |none=>false
  |some (f',args)=>Nw V f' q h k (match V.cut f' with
   |none=>BU V E f' args q.pm h k
   |some g=>match q.pm with
    |some _=>false
    |none=>match g q h with
     |none=>BU V E f' args q.pm h k
     |some ([],_,_)=>BU V E f' args q.pm h k
     |some (cs,n,f)=>cond (gD cs&&(Nat.beq f 0||Nat.beq (iI cs) (Nat.mul n f)))
       (cond (BU V E f' args none {h with low:=h.next} (Tu cs n f h))
         (k (.ok (.slice (some ⟨h.next,0,some f⟩) n n)) none (h.new (.cells cs))) false) false)
def Jb(V:Env)(E:Ev)(c:cK)(a:aU)(h:IH)(k:BO):Bool:=
 match c with
 | .skip=>k .normal a h
 | .ops ds l=>FP V.P E ds l a h k
 | .seq x y=>E.code x a h λo a h=>match o with
   | .normal=>E.code y a h k
   |o=>k o a h
 | .cond c x y=>match a.eval c with
   | .bool true=>E.code x a h k
   | .bool false=>E.code y a h k
   |_=>false
 | .block id c=>E.code c a h λo a h=>k (inBlock id o) a h
 | .loop c=>E.code c a h λo a h=>match o with
   | .normal=>E.code (.loop c) a h k
   |o=>k o a h
 | .scope c=>E.code c a h k
 | .exit id=>k (.exit id) a h
 | .ret=>k .ret a h
 | .rangeFunc f ps assign body=>match a.eval f with
   | .func fn ⟨first⟩ ⟨captured⟩=>
     let go (a1:aU) (r:Nat) (h1:IH):Bool:=
      E.call ⟨fn,kF first [.func (.yield h1.next) #[] #[]],captured,none⟩
       (h1.new (.loop {state:=.ready,pending:=none,tmps:=a.tmps,n:=a.n,params:=ps,assign,body,defers:=r})) λres _ h2=>match res with
       | .ok _=>match h2.get h1.next with
         |some (.loop lp)=>match lp.state with
          | .busy=>false
          |_=>k (lp.pending.getD .normal) a1 (h2.set h1.next (.loop {lp with state:=.exhausted}))
         |_=>false
       | .fD ch=>k (.panic ch) a1 h2
     match a.ro with
     |none=>go {a with defers:={target:=.collected h.next,args:= #[]}::a.defers} h.next (h.new (.iU true))
     |some l0=>match h.get l0 with
      |some (.loop r0)=>go a r0.defers h
      |_=>false
   |_=>false
 | .fail=>false
def nI(V:Env)(n:Nat):Ev:=
 Nat.rec (motive:=λ_=>Ev) ⟨λ_ _ _ _=>false,λ_ _ _=>false⟩ (λ_ E=>⟨Jb V E,Ny V E⟩) n
def lX(P:Program)(cut:Nat->aj (aX->IH->aj (ae ah×Nat×Nat)))(memo:Nat->aj (aX->IH->aj (ah×IH))):Env:=
 {P,F:=λf=>match (Dy 100000 P.funcs.toList).get f with
   |some fn=>vJ P fn
   |none=>none,cut,memo}
def rJ:Nat->aj (aX->IH->aj (ae ah×Nat×Nat)):=λ_=>none
def rM:Nat->aj (aX->IH->aj (ah×IH)):=λ_=>none
noncomputable abbrev lu(P:Program)(n:eD):aj gK:=(lX P rJ rM).F n
noncomputable def oG(P:Program)(n:eD):gK:=(lu P n).getD ⟨0,[],.skip⟩
def uw{P:Program}(n:eD)(h:(lu P n).isSome=true:=by kernel_rfl):(lX P rJ rM).F n=some (oG P n):=by
 unfold oG;revert h;show(lu P n).isSome=true->lu P n=some ((lu P n).getD ⟨0,[],.skip⟩);cases lu P n with
 |none=>intro h;cases h
 |some c=>intro _;rfl
end
end Go.Ideal
namespace Go.Ideal
section
variable {α:Type}
def T.FQ(n:Nat):(T.leaf:T α).get n=none:=rfl
def T.Dz(v:aj α)(l r:T α):(T.node v l r).get 0=v:=rfl
def T.xg(v:aj α)(l r:T α)(m:Nat):(T.node v l r).get (m+1)=if m%2=0 then l.get (m/2)else r.get (m/2):=by
 show Bool.rec (motive:=λ_=>aj α) (r.get (m/2)) (l.get (m/2)) (Nat.beq (m%2) 0)=_;exact gk
def T.acp(f:Nat)(x:aj α):T.one (f+1) 0 x=.node x .leaf .leaf:=rfl
def T.acr(f m:Nat)(x:aj α):T.one (f+1) (m+1) x=if m%2=0 then .node none (T.one f (m/2) x) .leaf else .node none .leaf (T.one f (m/2) x):=by
 show Bool.rec (motive:=λ_=>T α) (.node none .leaf (T.one f (m/2) x)) (.node none (T.one f (m/2) x) .leaf) (Nat.beq (m%2) 0)=_;exact gk
def T.acs(n:Nat)(x:aj α):(T.leaf:T α).set n x=T.one (n+1) n x:=rfl
def T.acu(v:aj α)(l r:T α)(x:aj α):(T.node v l r).set 0 x=.node x l r:=rfl
def T.acv(v:aj α)(l r:T α)(m:Nat)(x:aj α):(T.node v l r).set (m+1) x=if m%2=0 then .node v (l.set (m/2) x) r else .node v l (r.set (m/2) x):=by
 show Bool.rec (motive:=λ_=>T α) (.node v l (r.set (m/2) x)) (.node v (l.set (m/2) x) r) (Nat.beq (m%2) 0)=_;exact gk
def T.acw(x:aj α):∀(f n m:Nat),n<f->(T.one f n x).get m=if m=n then x else none:=by
 intro f;induction f with
 |zero=>intro n m h;omega
 |succ f ih=>
  intro n m h;cases n with
  |zero=>
   rw[T.acp];cases m with
   |zero=>simp[T.Dz]
   |succ m=>rw[T.xg];simp[T.FQ]
  |succ n=>
   rw[T.acr];by_cases hp:n%2=0
   .rw[if_pos hp];cases m with
    |zero=>simp[T.Dz]
    |succ m=>
     rw[T.xg];by_cases hq:m%2=0
     .rw[if_pos hq,ih _ _ p0];exact ez
     .rw[if_neg hq,T.FQ,if_neg p0]
   .rw[if_neg hp];cases m with
    |zero=>simp[T.Dz]
    |succ m=>
     rw[T.xg];by_cases hq:m%2=0
     .rw[if_pos hq,T.FQ,if_neg p0]
     .rw[if_neg hq,ih _ _ p0];exact ez
def T.lC(x:aj α):∀(t:T α) (n m:Nat),(t.set n x).get m=if m=n then x else t.get m:=by
 intro t;induction t with
 |leaf=>intro n m;rw[T.acs,T.acw _ _ _ _ (x9 n),T.FQ]
 |node v l r hl hr=>
  intro n m;cases n with
  |zero=>
   rw[T.acu];cases m with
   |zero=>simp[T.Dz]
   |succ m=>rw[T.xg,T.xg];simp
  |succ n=>
   rw[T.acv];by_cases hp:n%2=0
   .rw[if_pos hp];cases m with
    |zero=>simp[T.Dz]
    |succ m=>
     rw[T.xg,T.xg];by_cases hq:m%2=0
     .rw[if_pos hq,if_pos hq,hl];exact ez
     .rw[if_neg hq,if_neg hq,if_neg p0]
   .rw[if_neg hp];cases m with
    |zero=>simp[T.Dz]
    |succ m=>
     rw[T.xg,T.xg];by_cases hq:m%2=0
     .rw[if_pos hq,if_pos hq,if_neg p0]
     .rw[if_neg hq,if_neg hq,hr];exact ez
end
def IH.lC(h:IH)(i j:Nat)(o:bG):(h.set i o).get j=if j=i then some o else h.get j:=T.lC _ _ _ _
def IH.rO(h:IH)(i j:Nat):(h.kill i).get j=if j=i then none else h.get j:=T.lC _ _ _ _
def IH.iM(h:IH)(j:Nat)(o:bG):(h.new o).get j=if j=h.next then some o else h.get j:=T.lC _ _ _ _
def IH.FT(h:IH)(i:Nat):(h.kill i).next=h.next:=rfl
def IH.Jc(h:IH)(o:bG):(h.new o).next=h.next+1:=rfl
def IH.FU(h:IH)(o:bG):(h.new o).low=h.low:=rfl
def IH.DC(h:IH)(i:Nat)(o:bG):(h.set i o).low=min h.low i:=by
 exact eJ
def IH.yE(h:IH)(i:Nat):(h.kill i).low=min h.low i:=by
 exact eJ
def DD(t:T ah)(i j:Nat)(v:ah):dD (t.set i (some v)) j=if j=i then v else dD t j:=by
 unfold dD;rw[T.lC];split<;>rfl
section
variable {α β:Type}
def vN(f:α->β)(l:ae α):lq f l=l.map f:=by
 induction l with
 |nil=>rfl
 |cons x l ih=>show f x::lq f l=_;rw[ih];rfl
def rP(l:ae α)(n:Nat):ko l n=l[n]?:=by
 induction l generalizing n with
 |nil=>rfl
 |cons x l ih=>cases n with
  |zero=>rfl
  |succ n=>show ko l n=_;rw[ih];simp
def oH(l:ae α)(n:Nat):jU l n=l.drop n:=by
 induction l generalizing n with
 |nil=>cases n<;>rfl
 |cons x l ih=>cases n with
  |zero=>rfl
  |succ n=>show jU l n=_;rw[ih];simp
def vO(l:ae α):iI l=l.length:=by
 induction l with
 |nil=>rfl
 |cons x l ih=>show iI l+1=_;rw[ih];rfl
def jc(l r:ae α):kF l r=l++r:=by
 induction l with
 |nil=>rfl
 |cons x l ih=>show x::kF l r=_;rw[ih];rfl
def pE(l:ae α)(n:Nat):jh l n=if n<=l.length then some (l.take n)else none:=by
 induction l generalizing n with
 |nil=>cases n<;>rfl
 |cons x l ih=>cases n with
  |zero=>rfl
  |succ n=>
   show Option.rec (motive:=λ_=>aj (ae α)) none (λr=>some (x::r)) (jh l n)=_;rw[ih];by_cases h:n<=l.length
   .rw[if_pos h,if_pos qS];rfl
   .rw[if_neg h,if_neg qS]
def DF(p:α->Bool)(l:ae α):zW p l=l.all p:=by
 induction l with
 |nil=>rfl
 |cons x l ih=>
  show Bool.rec (motive:=λ_=>Bool) false (zW p l) (p x)=_;rw[ih];cases h:p x<;>simp[h]
def Tv(o:Nat)(xs:ae α):iZ [] o xs=if xs=[]/\o=0 then some []else none:=by cases xs<;>cases o<;>rfl
def Tw(c:α)(l:ae α):iZ (c::l) 0 []=some (c::l):=rfl
def Jd(c:α)(l:ae α)(x:α)(xs:ae α):iZ (c::l) 0 (x::xs)=(iZ l 0 xs).map (x::·):=by
 show Option.rec (motive:=λ_=>aj (ae α)) none (λr=>some (x::r)) (iZ l 0 xs)=_;cases iZ l 0 xs<;>rfl
def Nz(c:α)(l:ae α)(o:Nat)(xs:ae α):iZ (c::l) (o+1) xs=(iZ l o xs).map (c::·):=by
 show Option.rec (motive:=λ_=>aj (ae α)) none (λr=>some (c::r)) (iZ l o xs)=_;cases iZ l o xs<;>rfl
def Ab{l:ae α}:∀{o:Nat} {xs r:ae α},iZ l o xs=some r->
 o+xs.length<=l.length/\r.length=l.length/\∀j:Nat,r[j]? =if o<=j/\j<o+xs.length then xs[j - o]? else l[j]?:=by
 induction l with
 |nil=>
  intro o xs r h;rw[Tv]at h;split at h
  .rename_i he;obtain⟨rfl,rfl⟩:=he;cases h;refine⟨qe,rfl,λj=>?_⟩;rw[if_neg qe]
  .cases h
 |cons c l ih=>
  intro o xs r h;cases o with
  |zero=>
   cases xs with
   |nil=>rw[Tw]at h;cases h;refine⟨qe,rfl,λj=>?_⟩;rw[if_neg qe]
   |cons x xs=>
    rw[Jd]at h;cases hr:iZ l 0 xs with
    |none=>rw[hr]at h;cases h
    |some r'=>
     rw[hr]at h;cases h;obtain⟨h1,h2,h3⟩:=ih hr;refine⟨by simp at h1⊢;omega,by simp[h2],λj=>?_⟩
     .cases j with
      |zero=>simp
      |succ j=>have:=h3 j;simp at this⊢;rw[this]
  |succ o=>
   rw[Nz]at h;cases hr:iZ l o xs with
   |none=>rw[hr]at h;cases h
   |some r'=>
    rw[hr]at h;cases h;obtain⟨h1,h2,h3⟩:=ih hr;refine⟨by simp;omega,by simp[h2],λj=>?_⟩
    .cases j with
     |zero=>simp
     |succ j=>
      have:=h3 j;simp only[ru];rw[this];by_cases hc:o<=j/\j<o+xs.length
      .rw[if_pos hc,if_pos p0];congr 1;omega
      .rw[if_neg hc,if_neg p0]
def Tx(f:α->α)(l:ae α)(n:Nat):setAt f l n=l.modify n f:=by
 induction l generalizing n with
 |nil=>cases n<;>rfl
 |cons x l ih=>cases n with
  |zero=>rfl
  |succ n=>show x::setAt f l n=_;rw[ih];simp
end
def zeros_length(z:ae ah)(n:Nat):(zeros z n).length=n*z.length:=by
 induction n with
 |zero=>simp;rfl
 |succ n ih=>show(kF z (zeros z n)).length=_;rw[jc,dL,ih,Nat.succ_mul,Nat.add_comm]
structure iC where
 b:Nat
 off:Nat
 len:Nat
 top:Nat
 sz:Nat
abbrev aD:=Nat->aj iC
inductive FR(β:aD):Fn->Fn->Prop
 |func (f:FuncId):FR β (.func f) (.func f)
 |method (n:String):FR β (.method n) (.method n)
 |methodOf (t:TypeId) (n:String):FR β (.methodOf t n) (.methodOf t n)
 |yield {l:Nat} {g:iC} (h:β l=some g):FR β (.yield l) (.yield g.b)
mutual
inductive VR(β:aD):Value->Value->Prop
 |dH (v:Value):VR β (.tuple #[]) v
 |skip:VR β (.chan (some 0)) (.tuple #[])
 |bool (b:Bool):VR β (.bool b) (.bool b)
 |int (k:IntKind) (n:Int):VR β (.int k n) (.int k n)
 |float (k:FloatKind) (n:Nat):VR β (.float k n) (.float k n)
 |complex (k:FloatKind) (n m:Nat):VR β (.complex k n m) (.complex k n m)
 |string (s:ByteArray):VR β (.string s) (.string s)
 |nilFunc:VR β .nilFunc .nilFunc
 |nilIface:VR β .nilIface .nilIface
 |Ac:VR β (.pointer none) (.pointer none)
 |ptr {i o:Nat} {g:iC} (h:β i=some g):VR β (.pointer (some ⟨i,o,none⟩)) (.pointer (some ⟨g.b,g.off+o,none⟩))
 |sl0 (n c:Nat):VR β (.slice none n c) (.slice none n c)
 |az {i o n c:Nat} {g:iC} {a:Addr} (h:β i=some g) (hb:a.block=g.b) (hn:n<=c) (ha:c=0\/(a.off=g.off+o/\a.spot=none)):
   VR β (.slice (some ⟨i,o,some 0⟩) n c) (.slice (some a) n c)
 |nU {i o n c c':Nat} {g:iC} {a:Addr} (h:β i=some g) (hb:a.block=g.b) (hs:a.spot=none) (hn:n<=c) (hz:0<g.sz)
   (hl:o+c*g.sz=g.len) (ht:g.off+o+c'*g.sz=g.top) (hc:c<=c') (ha:c'=0\/a.off=g.off+o):
   VR β (.slice (some ⟨i,o,some g.sz⟩) n c) (.slice (some a) n c')
 |yF:VR β (.map none) (.map none)
 |map {i:Nat} {g:iC} (h:β i=some g):VR β (.map (some i)) (.map (some g.b))
 |func {fn fn':Fn} {f f' c c':List Value} (h:FR β fn fn') (hf:aQ β f f') (hc:aQ β c c'):VR β (.func fn ⟨f⟩ ⟨c⟩) (.func fn' ⟨f'⟩ ⟨c'⟩)
 |iface (t:TypeId) {v v':Value} (h:VR β v v'):VR β (.iface t v) (.iface t v')
 |agg {l l':List Value} (hc:l.all cellV=true) (h:aQ β l l'):VR β (.agg ⟨l⟩) (.agg ⟨l'⟩)
 |tuple {l l':List Value} (h:aQ β l l'):VR β (.tuple ⟨l⟩) (.tuple ⟨l'⟩)
inductive aQ(β:aD):List Value->List Value->Prop
 |nil:aQ β [] []
 |cons {v v':Value} {l l':List Value} (h:VR β v v') (hl:aQ β l l'):aQ β (v::l) (v'::l')
end
def aD.le(β β':aD):Prop:=∀i g,β i=some g->β' i=some g
def FR.mono{β β':aD}(h:β.le β'){f f':Fn}(hf:FR β f f'):FR β' f f':=by
 cases hf with
 |func f=>exact .func f
 |method n=>exact .method n
 |methodOf t n=>exact .methodOf t n
 |yield hl=>exact .yield (h _ _ hl)
mutual
def VR.mono{β β':aD}(h:β.le β'):∀{v v':ah},VR β v v'->VR β' v v'
 |_,_,.dH v=>.dH v
 |_,_,.skip=>.skip
 |_,_,.bool b=>.bool b
 |_,_,.int k n=>.int k n
 |_,_,.float k n=>.float k n
 |_,_,.complex k n m=>.complex k n m
 |_,_,.string s=>.string s
 |_,_,.nilFunc=>.nilFunc
 |_,_,.nilIface=>.nilIface
 |_,_,.Ac=>.Ac
 |_,_,.ptr hi=>.ptr (h _ _ hi)
 |_,_,.sl0 n c=>.sl0 n c
 |_,_,.az hi hb hn ha=>.az (h _ _ hi) hb hn ha
 |_,_,.nU hi hb hs hn hz hl ht hc ha=>.nU (h _ _ hi) hb hs hn hz hl ht hc ha
 |_,_,.yF=>.yF
 |_,_,.map hi=>.map (h _ _ hi)
 |_,_,.func hf h1 h2=>.func (hf.mono h) (aQ.mono h h1) (aQ.mono h h2)
 |_,_,.iface t hv=>.iface t (VR.mono h hv)
 |_,_,.agg hc hl=>.agg hc (aQ.mono h hl)
 |_,_,.tuple hl=>.tuple (aQ.mono h hl)
def aQ.mono{β β':aD}(h:β.le β'):∀{v v':ae ah},aQ β v v'->aQ β' v v'
 |_,_,.nil=>.nil
 |_,_,.cons hv hl=>.cons (VR.mono h hv) (aQ.mono h hl)
end
def aQ.length{β:aD}{l l':ae ah}(h:aQ β l l'):l'.length=l.length:=by
 induction l generalizing l' with
 |nil=>cases h;rfl
 |cons v l ih=>cases h with|cons hv hl=>simp[ih hl]
def aQ.get{β:aD}{l l':ae ah}(h:aQ β l l'){i:Nat}{v:ah}(hi:l[i]? =some v):∃v',l'[i]? =some v'/\VR β v v':=by
 induction l generalizing l' i with
 |nil=>simp at hi
 |cons x l ih=>
  cases h with
  |cons hv hl=>
   cases i with
   |zero=>simp at hi;subst hi;exact⟨_,qe,hv⟩
   |succ i=>simp at hi;obtain⟨v',h1,h2⟩:=ih hl hi;exact⟨v',by simpa using h1,h2⟩
def aQ.Je{β:aD}{l l':ae ah}(hlen:l'.length=l.length)(h:∀(i:Nat) (v:ah),l[i]? =some v->∃v',l'[i]? =some v'/\VR β v v'):aQ β l l':=by
 induction l generalizing l' with
 |nil=>cases l' with|nil=>exact .nil|cons x l'=>simp at hlen
 |cons x l ih=>
  cases l' with
  |nil=>simp at hlen
  |cons y l'=>
   refine .cons ?_ (ih (by simpa using hlen) λi v hi=>?_)
   .obtain⟨v',h1,h2⟩:=h 0 x qe;simp at h1;subst h1;exact h2
   .obtain⟨v',h1,h2⟩:=h (i+1) v (by simpa using hi);exact⟨v',by simpa using h1,h2⟩
def aQ.append{β:aD}{l l' r r':ae ah}(h:aQ β l l')(k:aQ β r r'):aQ β (l++r) (l'++r'):=by
 induction l generalizing l' with
 |nil=>cases h;exact k
 |cons x l ih=>cases h with|cons hv hl=>exact .cons hv (ih hl)
def aQ.take{β:aD}{l l':ae ah}(h:aQ β l l')(n:Nat):aQ β (l.take n) (l'.take n):=by
 induction l generalizing l' n with
 |nil=>cases h;simp;exact .nil
 |cons x l ih=>cases h with|cons hv hl=>cases n with
  |zero=>exact .nil
  |succ n=>exact .cons hv (ih hl n)
def aQ.drop{β:aD}{l l':ae ah}(h:aQ β l l')(n:Nat):aQ β (l.drop n) (l'.drop n):=by
 induction l generalizing l' n with
 |nil=>cases h;simp;exact .nil
 |cons x l ih=>cases h with|cons hv hl=>cases n with
  |zero=>exact .cons hv hl
  |succ n=>exact ih hl n
def aQ.map{β:aD}{γ:Type}{f f':γ->ah}(l:ae γ)(h:∀x∈l,VR β (f x) (f' x)):aQ β (l.map f) (l.map f'):=by
 exact hU
mutual
def VR.free{β:aD}:∀{v:ah},bR v=true->VR β v v
 | .bool b,_=>.bool b
 | .int k n,_=>.int k n
 | .float k n,_=>.float k n
 | .complex k n m,_=>.complex k n m
 | .string s,_=>.string s
 | .nilFunc,_=>.nilFunc
 | .nilIface,_=>.nilIface
 | .pointer none,_=>.Ac
 | .pointer (some a),h=>by simp[bR]at h
 | .slice none n c,_=>.sl0 n c
 | .slice (some a) n c,h=>by simp[bR]at h
 | .map none,_=>.yF
 | .map (some r),h=>by simp[bR]at h
 | .chan r,h=>by simp[bR]at h
 | .func _ _ _,h=>by simp[bR]at h
 | .iface t v,h=>.iface t (VR.free (by simp[bR]at h;exact h.1))
 | .agg ⟨l⟩,h=>.agg (vP ur) (aQ.free ur)
 | .tuple _,h=>by simp[bR]at h
def aQ.free{β:aD}:∀{l:ae ah},gD l=true->aQ β l l
 |[],_=>.nil
 |v::l,h=>.cons (VR.free (by simp[gD]at h;exact h.1.1)) (aQ.free (by simp[gD]at h;exact h.2))
def vP:∀{l:ae ah},gD l=true->l.all cellV=true
 |[],_=>rfl
 |v::l,h=>by simp[gD]at h;simp only[Di,h.1.2,Bool.true_and];exact vP h.2
end
mutual
def VR.pF{β:aD}:∀{v v':ah},VR β v v'->bR v=true->v'=v
 |_,_,.bool b,_=>rfl
 |_,_,.int k n,_=>rfl
 |_,_,.float k n,_=>rfl
 |_,_,.complex k n m,_=>rfl
 |_,_,.string s,_=>rfl
 |_,_,.nilFunc,_=>rfl
 |_,_,.nilIface,_=>rfl
 |_,_,.Ac,_=>rfl
 |_,_,.sl0 n c,_=>rfl
 |_,_,.yF,_=>rfl
 |_,_,.iface t hv,h=>by rw[VR.pF hv (by simp[bR]at h;exact h.1)]
 |_,_,.agg hc hl,h=>by rw[aQ.pF hl ur]
 |_,_,.dH v,h=>by simp[bR]at h
 |_,_,.skip,h=>by simp[bR]at h
 |_,_,.ptr _,h=>by simp[bR]at h
 |_,_,.az _ _ _ _,h=>by simp[bR]at h
 |_,_,.nU _ _ _ _ _ _ _ _ _,h=>by simp[bR]at h
 |_,_,.map _,h=>by simp[bR]at h
 |_,_,.func _ _ _,h=>by simp[bR]at h
 |_,_,.tuple _,h=>by simp[bR]at h
def aQ.pF{β:aD}:∀{l l':ae ah},aQ β l l'->gD l=true->l'=l
 |_,_,.nil,_=>rfl
 |_,_,.cons hv hl,h=>by
  simp[gD]at h;rw[VR.pF hv h.1.1,aQ.pF hl h.2]
end
def Ad{α:Type}{P:Program}{s:Sem α}{x:α}(h:bX P s=some x)(w:World):s.run P w=.ok x w:=by
 induction s with
 |pure a=>simp[bX]at h;subst h;rfl
 |program k ih=>simp only[bX]at h;simp only[Sem.run];exact ih _ h
 |mark m k ih=>simp only[bX]at h;simp only[Sem.run];exact ih h
 |_=>simp[bX]at h
def VR.cells{β:aD}{v v':ah}{cs:ae ah}(h:VR β v v')(hc:cellsOf v=some cs):cs.all cellV=true/\∃cs',v'.cells=⟨cs'⟩/\aQ β cs cs':=by
 cases h<;>simp only[cellsOf,aI,reduceCtorEq]at hc<;>try subst hc
 case agg hc' hl=>exact⟨hc',_,rfl,hl⟩
 all_goals exact⟨rfl,_,rfl,.cons (by constructor<;>assumption) .nil⟩
def VR.cellV{β:aD}{v v':ah}(h:VR β v v')(hc:cellV v=true):(∀cs,v'≠.agg cs)/\(∀cs,v'≠.tuple cs):=by
 cases h<;>simp_all [Ideal.cellV]
inductive fP(β:aD):List MapEntry->List MapEntry->Prop
 |nil:fP β [] []
 |cons {e e':MapEntry} {l l':List MapEntry} (hk:e'.key=e.key) (hf:bR e.key=true) (hb:e'.born=e.born) (hv:VR β e.val e'.val) (hl:fP β l l'):fP β (e::l) (e'::l')
def Ty:Out->aj Code
 | .normal=>none
 | .exit id=>some (.exit id)
 | .ret=>some .ret
 | .panic _=>none
structure LR(P:Program)(β:aD)(r:oC)(r':Loop):Prop where
 state:r'.state=r.state
 pending:r'.pending=r.pending.bind Ty
 FV:∀ch,r.pending≠some (.panic ch)
 size:r'.tmps.size=r.n
 tmps:∀i,VR β (dD r.tmps i) (r'.tmps.getD i undef)
 out:∀i,r.n<=i->dD r.tmps i=dH
 params:r'.params.toList=r.params
 assign:compile P r'.assign=r.assign
 body:compile P r'.body=r.body
 defers:∃g,β r.defers=some g/\r'.defers=g.b
 DI:∃f,P.funcs[r'.fn]? =some f
def OR(P:Program)(β:aD)(g:iC)(w:World):bG->Prop
 | .cells cs=>(∃c t fz,w.heap[g.b]? =some (.cells c t fz)/\¬(fz.1<=c.size/\c.size<fz.2))/\cs.length=g.len/\g.off+g.len<=g.top/\
    (∀j,j<g.top->(w.cell? ⟨g.b,j,none⟩).isSome=true/\w.frozen? ⟨g.b,j,none⟩=false)/\
    cs.all cellV=true/\∀(j:Nat) v,cs[j]? =some v->∃v',w.cell? ⟨g.b,g.off+j,none⟩=some v'/\VR β v v'
 | .jq cs=>(∃c t fz,w.heap[g.b]? =some (.cells c t fz)/\(g.top=0\/c.size=g.top))/\g.sz=0/\cs.all cellV=true/\∀(j:Nat) v,cs[j]? =some v->∃v',w.cell? ⟨g.b,g.off+j,none⟩=some v'/\VR β v v'
 | .map es clock=>∃es',w.heap[g.b]? =some (.map es' clock)/\fP β es es'.toList
 | .BI s pos=>w.heap[g.b]? =some (.stringIter s pos)/\g.off=0
 | .mapIter m since seen stepped=>∃m' seen',w.heap[g.b]? =some (.mapIter m' since seen' stepped)/\seen'.toList=seen/\VR β (.map m) (.map m')/\g.off=0
 | .loop r=>∃r',w.heap[g.b]? =some (.loop r')/\LR P β r r'
 | .iU b=>w.heap[g.b]? =some (.deferred (if b then some []else none))
structure WR(P:Program)(β:aD)(h:IH)(w:World):Prop where
 dom:∀i g,β i=some g->i<h.next
 live:∀i o,h.get i=some o->i<h.next
 obj:∀i g o,β i=some g->h.get i=some o->OR P β g w o
 inj:∀i j g k,β i=some g->β j=some k->h.get i≠none->h.get j≠none->((∀cs,h.get i≠some (.jq cs))\/∀cs,h.get j≠some (.jq cs))->g.b=k.b->i=j
structure Eff(β:aD)(h:IH)(w:World)(β':aD)(h':IH)(w':World):Prop where
 agree:∀i,i<h.next->β' i=β i
 next:h.next<=h'.next
 alive:∀i,i<h.next->h'.get i≠none->h.get i≠none
 hid:∀i,i<h.next->β i=none->h'.get i=h.get i
 low:h'.low<=h.low
 kept:∀i,i<h'.low->i<h.next->h'.get i=h.get i
 os:w'.os=w.os
 tape:w'.tape=w.tape
 output:w'.output=w.output
 size:w.heap.size<=w'.heap.size
 keep:∀b,b<w.heap.size->(∀i g,β i=some g->h.get i≠none->g.b≠b)->w'.heap[b]? =w.heap[b]?
 fresh:∀i g,β' i=some g->h.next<=i->w.heap.size<=g.b\/∃j k,β j=some k/\h.get j≠none/\k.b=g.b
 sU:∀i g,i<h'.low->i<h.next->β i=some g->h.get i≠none->g.b<w.heap.size->w'.heap[g.b]? =w.heap[g.b]?
 drawn:w.drawn<=w'.drawn
def Eff.refl(β:aD)(h:IH)(w:World)(hd:∀i g,β i=some g->i<h.next):Eff β h w β h w:=
 ⟨λ_ _=>rfl,bz _,λ_ _ h=>h,λ_ _ _=>rfl,bz _,λ_ _ _=>rfl,rfl,rfl,rfl,bz _,λ_ _ _=>rfl,
  λi g hg hi=>absurd (hd i g hg) p0,λ_ _ _ _ _ _ _=>rfl,bz _⟩
def Eff.le{β β':aD}{h h':IH}{w w':World}(e:Eff β h w β' h' w')(hd:∀i g,β i=some g->i<h.next):β.le β':=
 λi g hg=>(e.agree i (hd i g hg)).trans hg
def Eff.trans{β β1 β2:aD}{h h1 h2:IH}{w w1 w2:World}(e:Eff β h w β1 h1 w1)(f:Eff β1 h1 w1 β2 h2 w2):Eff β h w β2 h2 w2 where
 agree i hi:=(f.agree i (nC hi e.next)).trans (e.agree i hi)
 sU i g hl hi hg hn hb:=(f.sU i g hl (nC hi e.next) ((e.agree i hi).trans hg) (by rw[e.kept i (nC hl f.low) hi];exact hn) (nC hb e.size)).trans
  (e.sU i g (nC hl f.low) hi hg hn hb)
 next:=mh e.next f.next
 drawn:=mh e.drawn f.drawn
 alive i hi hn:=e.alive i hi (f.alive i (nC hi e.next) hn)
 hid i hi hb:=(f.hid i (nC hi e.next) ((e.agree i hi).trans hb)).trans (e.hid i hi hb)
 low:=mh f.low e.low
 kept i hl hi:=(f.kept i hl (nC hi e.next)).trans (e.kept i (nC hl f.low) hi)
 os:=f.os.trans e.os
 tape:=f.tape.trans e.tape
 output:=f.output.trans e.output
 size:=mh e.size f.size
 keep b hb hno:=by
  refine(f.keep b (nC hb e.size) λi g hg hn he=>?_).trans (e.keep b hb hno);by_cases hi:i<h.next
  .exact hno i g (by rw[<- e.agree i hi];exact hg) (e.alive i hi hn) he
  .rcases e.fresh i g hg (p0)with hf|⟨j,k,hk,hj,hkb⟩
   .omega
   .exact hno j k hk hj (hkb.trans he)
 fresh i g hg hi:=by
  by_cases hi1:i<h1.next
  .exact e.fresh i g (by rw[<- f.agree i hi1];exact hg) hi
  .rcases f.fresh i g hg (p0)with hf|⟨j,k,hk,hj,hkb⟩
   .exact .inl (mh e.size hf)
   .by_cases hjn:j<h.next
    .exact .inr ⟨j,k,by rw[<- e.agree j hjn];exact hk,e.alive j hjn hj,hkb⟩
    .rcases e.fresh j k hk (p0)with hf'|⟨j',k',hk',hj',hkb'⟩
     .exact .inl (hkb▸hf')
     .exact .inr ⟨j',k',hk',hj',hkb'.trans hkb⟩
end Go.Ideal
namespace Go.Ideal
variable {P:Program}
variable{β β':aD}
def fP.mono(h:β.le β'){l l':ae MapEntry}(he:fP β l l'):fP β' l l':=by
 induction he with
 |nil=>exact .nil
 |cons hk hf hb hv _ ih=>exact .cons hk hf hb (hv.mono h) ih
def LR.mono(h:β.le β'){r:oC}{r':Loop}(k:LR P β r r'):LR P β' r r':=
 ⟨k.state,k.pending,k.FV,k.size,λi=>(k.tmps i).mono h,k.out,k.params,k.assign,k.body,let⟨g,h1,h2⟩:=k.defers;⟨g,h _ _ h1,h2⟩,k.DI⟩
def OR.mono(h:β.le β'){g:iC}{w:World}{o:bG}(k:OR P β g w o):OR P β' g w o:=by
 cases o with
 |cells cs=>
  obtain⟨h1,h2,h3,h5,h6,h7⟩:=k;exact⟨h1,h2,h3,h5,h6,λj v hj=>let⟨v',a,b⟩:=h7 j v hj;⟨v',a,b.mono h⟩⟩
 |jq cs=>obtain⟨h1,h2,h6,h7⟩:=k;exact⟨h1,h2,h6,λj v hj=>let⟨v',a,b⟩:=h7 j v hj;⟨v',a,b.mono h⟩⟩
 |map es clock=>obtain⟨es',h1,h2⟩:=k;exact⟨es',h1,h2.mono h⟩
 |BI s pos=>exact k
 |mapIter m since seen stepped=>obtain⟨m',seen',h1,h2,h3,h4⟩:=k;exact⟨m',seen',h1,h2,h3.mono h,h4⟩
 |loop r=>obtain⟨r',h1,h2⟩:=k;exact⟨r',h1,h2.mono h⟩
 |iU b=>exact k
variable{g:iC}{w:World}{o:bG}
def OR.congr{w':World}(hw:w'.heap[g.b]? =w.heap[g.b]?)(k:OR P β g w o):OR P β g w' o:=by
 have hc:∀j,w'.cell? ⟨g.b,j,none⟩=w.cell? ⟨g.b,j,none⟩:=λj=>World.cell?_of_block hw;have hf:∀j,w'.frozen? ⟨g.b,j,none⟩=w.frozen? ⟨g.b,j,none⟩:=λj=>World.frozen?_of_block hw;cases o<;>simp only[OR,hw,hc,hf]at *<;>exact k
def OR.lt(k:OR P β g w o):g.b<w.heap.size:=by
 have:w.heap[g.b]?≠none:=by
  cases o with
  |cells cs=>obtain⟨⟨c,t,fz,h1,_⟩,_⟩:=k;rw[h1];simp
  |jq cs=>obtain⟨⟨c,t,fz,h1,_⟩,_⟩:=k;rw[h1];simp
  |map es clock=>obtain⟨es',h1,_⟩:=k;rw[h1];simp
  |BI s pos=>have h1:=k.1;rw[h1];simp
  |mapIter m since seen stepped=>obtain⟨m',seen',h1,_⟩:=k;rw[h1];simp
  |loop r=>obtain⟨r',h1,_⟩:=k;rw[h1];simp
  |iU b=>have h1:w.heap[g.b]? =_:=k;rw[h1];simp
 rcases sM g.b w.heap.size with h|h
 .exact h
 .exact absurd (sN h) this
def aD.add(β:aD)(i:Nat)(g:iC):aD:=λj=>if j=i then some g else β j
def aD.aan(β:aD)(i:Nat)(g:iC):β.add i g i=some g:=by simp[aD.add]
def aD.lY(β:aD){i j:Nat}(g:iC)(h:j≠i):β.add i g j=β j:=by simp[aD.add,h]
def aD.vQ{i:Nat}(g:iC)(h:β i=none):β.le (β.add i g):=λj k hj=>by
 by_cases e:j=i
 .subst e;rw[h]at hj;cases hj
 .rw[aD.lY _ _ e];exact hj
section
variable {β:aD} {h:IH} {w:World}
def WR.xk(hW:WR P β h w):β h.next=none:=by
 cases hb:β h.next with
 |none=>rfl
 |some g=>exact absurd (hW.dom _ _ hb) (M5 _)
variable{w':World}
def WR.nV(hW:WR P β h w)(hh:w'.heap=w.heap):WR P β h w':=
 ⟨hW.dom,hW.live,λi g o h1 h2=>(hW.obj i g o h1 h2).congr (by rw[hh]),hW.inj⟩
def Eff.nV(hd:∀i g,β i=some g->i<h.next)(h1:w'.heap=w.heap)(h2:w'.os=w.os)(h3:w'.tape=w.tape)(h4:w'.output=w.output)(h5:w.drawn<=w'.drawn:=by first|exact bz _|exact zI _|fail):Eff β h w β h w':=
 ⟨λ_ _=>rfl,bz _,λ_ _ h=>h,λ_ _ _=>rfl,bz _,λ_ _ _=>rfl,h2,h3,h4,by rw[h1];exact bz _,λ_ _ _=>by rw[h1],
  λi g hg hi=>absurd (hd i g hg) p0,λ_ _ _ _ _ _ _=>by rw[h1],h5⟩
def WR.alloc(hW:WR P β h w)(o:bG)(o':Obj)(g:iC)(hg:g.b=w.heap.size){w1:World}(hw1:w1={w with heap:=w.heap.push o'})
 (ho:OR P (β.add h.next g) g w1 o):WR P (β.add h.next g) (h.new o) w1/\Eff β h w (β.add h.next g) (h.new o) w1:=by
 have hle:β.le (β.add h.next g):=aD.vQ g hW.xk;have hheap:∀b,b<w.heap.size->w1.heap[b]? =w.heap[b]?:=λb hb=>by
  subst hw1;simp only[Fp];rw[if_neg p0]
 refine⟨⟨?_,?_,?_,?_⟩,⟨?_,?_,?_,?_,?_,?_,?_,?_,?_,?_,?_,?_,λ_ _ _ _ _ _ hb=>hheap _ hb,by subst hw1;exact bz _⟩⟩
 .intro i k hk;rw[IH.Jc];by_cases e:i=h.next
  .omega
  .rw[aD.lY _ _ e]at hk;have:=hW.dom _ _ hk;omega
 .intro i x hx;rw[IH.Jc];rw[IH.iM]at hx;split at hx
  .omega
  .have:=hW.live _ _ hx;omega
 .intro i k x hk hx;rw[IH.iM]at hx;by_cases e:i=h.next
  .subst e;rw[aD.aan]at hk;exact lE
  .rw[aD.lY _ _ e]at hk;rw[if_neg e]at hx;have:=hW.obj _ _ _ hk hx;exact(this.mono hle).congr (hheap _ this.lt)
 .intro i j k l hk hl hi hj hr he;rw[IH.iM]at hi hj;by_cases ei:i=h.next
  .by_cases ej:j=h.next
   .omega
   .rw[aD.lY _ _ ej]at hl;rw[if_neg ej]at hj;subst ei;rw[aD.aan]at hk;cases hk;cases hx:h.get j with
    |none=>exact absurd hx hj
    |some x=>have:=(hW.obj _ _ _ hl hx).lt;omega
  .rw[aD.lY _ _ ei]at hk;rw[if_neg ei]at hi;by_cases ej:j=h.next
   .subst ej;rw[aD.aan]at hl;cases hl;cases hx:h.get i with
    |none=>exact absurd hx hi
    |some x=>have:=(hW.obj _ _ _ hk hx).lt;omega
   .rw[aD.lY _ _ ej]at hl;rw[if_neg ej]at hj;exact hW.inj _ _ _ _ hk hl hi hj (hr.imp (λq cs e=>q cs (by rw[IH.iM,if_neg ei];exact e)) (λq cs e=>q cs (by rw[IH.iM,if_neg ej];exact e))) he
 .intro i hi;exact aD.lY _ _ p0
 .rw[IH.Jc];omega
 .intro i hi hn;rw[IH.iM,if_neg p0]at hn;exact hn
 .intro i hi _;rw[IH.iM,if_neg p0]
 .exact bz _
 .intro i _ hi;rw[IH.iM,if_neg p0]
 .subst hw1;rfl
 .subst hw1;rfl
 .subst hw1;rfl
 .subst hw1;simp
 .intro b hb _;exact hheap b hb
 .intro i k hk hi;by_cases e:i=h.next
  .subst e;rw[aD.aan]at hk;cases hk;exact .inl p0
  .rw[aD.lY _ _ e]at hk;exact iu
def WR.write(hW:WR P β h w){i:Nat}{g:iC}(hi:β i=some g){o0:bG}(h0:h.get i=some o0)(o:bG){w1:World}
 (hsz:w1.heap.size=w.heap.size) (hheap:∀b,b≠g.b->w1.heap[b]? =w.heap[b]?) (hos:w1.os=w.os) (BV:w1.tape=w.tape) (hout:w1.output=w.output) (hdr:w.drawn<=w1.drawn)
 (ho:OR P β g w1 o) (hnr:∀cs,o0≠.jq cs:=by intro cs e;cases e):WR P β (h.set i o) w1/\Eff β h w β (h.set i o) w1:=by
 have hni:∀cs,h.get i≠some (.jq cs):=λcs e=>hnr cs (by rw[h0]at e;exact Option.some.inj e);refine⟨⟨?_,?_,?_,?_⟩,⟨?_,?_,?_,?_,?_,?_,hos,BV,hout,?_,?_,?_,?_,hdr⟩⟩
 .exact hW.dom
 .intro j x hx;rw[IH.lC]at hx;split at hx
  .subst_vars;exact hW.live _ _ h0
  .exact hW.live _ _ hx
 .intro j k x hk hx;rw[IH.lC]at hx;by_cases e:j=i
  .subst e;rw[hi]at hk;exact lE
  .rw[if_neg e]at hx;refine(hW.obj _ _ _ hk hx).congr (hheap _ λhe=>e ?_);exact hW.inj _ _ _ _ hk hi (by rw[hx];simp) (by rw[h0];simp) (.inr hni) he
 .intro j l k m hk hm hj hl hr he;have pass:∀x,(∀cs,(h.set i o).get x≠some (.jq cs))->∀cs,h.get x≠some (.jq cs):=λx q cs e=>by
   by_cases ex:x=i
   .subst ex;exact hni cs e
   .exact q cs (by rw[IH.lC,if_neg ex];exact e)
  refine hW.inj _ _ _ _ hk hm ?_ ?_ (hr.imp (pass _) (pass _)) he
  .rw[IH.lC]at hj;split at hj
   .subst_vars;rw[h0];simp
   .exact hj
  .rw[IH.lC]at hl;split at hl
   .subst_vars;rw[h0];simp
   .exact hl
 .intro _ _;rfl
 .exact bz _
 .intro j hj hn;rw[IH.lC]at hn;split at hn
  .subst_vars;rw[h0];simp
  .exact hn
 .intro j hj hb;rw[IH.lC,if_neg];exact nv
 .rw[IH.DC];omega
 .intro j hl hj;rw[IH.DC]at hl;rw[IH.lC,if_neg p0]
 .omega
 .intro b hb hno;refine hheap b λe=>hno i g hi (by rw[h0];simp) e.symm
 .intro j k hk hj;exact iu
 .intro j k hl hj hk hn hb;rw[IH.DC]at hl;refine hheap _ λhe=>?_;have:=hW.inj _ _ _ _ hk hi hn (by rw[h0];simp) (.inr hni) he;omega
def WR.drop(hW:WR P β h w){i:Nat}{g:iC}(hi:β i=some g):WR P β (h.kill i) w/\Eff β h w β (h.kill i) w:=by
 refine⟨⟨hW.dom,?_,?_,?_⟩,⟨?_,?_,?_,?_,?_,?_,rfl,rfl,rfl,bz _,λ_ _ _=>rfl,?_,λ_ _ _ _ _ _ _=>rfl,bz _⟩⟩
 .intro j x hx;rw[IH.rO]at hx;split at hx
  .cases hx
  .exact hW.live _ _ hx
 .intro j k x hk hx;rw[IH.rO]at hx;split at hx
  .cases hx
  .exact hW.obj _ _ _ hk hx
 .intro j l k m hk hm hj hl hr he;have pass:∀x,(h.kill i).get x≠none->(∀cs,(h.kill i).get x≠some (.jq cs))->∀cs,h.get x≠some (.jq cs):=λx hx q cs e=>by
   rw[IH.rO]at hx;by_cases ex:x=i
   .rw[if_pos ex]at hx;exact hx rfl
   .exact q cs (by rw[IH.rO,if_neg ex];exact e)
  have hr:=hr.imp (pass _ hj) (pass _ hl);rw[IH.rO]at hj hl;exact fp
 .intro _ _;rfl
 .exact bz _
 .intro j hj hn;rw[IH.rO]at hn;split at hn
  .exact absurd rfl hn
  .exact hn
 .intro j hj hb;rw[IH.rO,if_neg];exact nv
 .rw[IH.yE];omega
 .intro j hl hj;rw[IH.yE]at hl;rw[IH.rO,if_neg p0]
 .intro j k hk hj;exact iu
def WR.Tz(hW:WR P β h w){i:Nat}{g:iC}(hi:β i=some g)(hlive:h.get i≠none)(hni:∀cs,h.get i≠some (.jq cs))(o:bG)(g1:iC)(hg1:g1.b=g.b){w1:World}
 (hsz:w1.heap.size=w.heap.size) (hheap:∀b,b≠g.b->w1.heap[b]? =w.heap[b]?) (hos:w1.os=w.os) (BV:w1.tape=w.tape) (hout:w1.output=w.output) (hdr:w.drawn<=w1.drawn)
 (ho:OR P (β.add h.next g1) g1 w1 o):WR P (β.add h.next g1) ((h.kill i).new o) w1/\Eff β h w (β.add h.next g1) ((h.kill i).new o) w1:=by
 have hle:β.le (β.add h.next g1):=aD.vQ g1 hW.xk;have hin:i<h.next:=hW.dom _ _ hi
 have hget:∀j,((h.kill i).new o).get j=if j=h.next then some o else if j=i then none else h.get j:=λj=>by
  rw[IH.iM,IH.rO];rfl
 refine⟨⟨?_,?_,?_,?_⟩,⟨?_,?_,?_,?_,?_,?_,hos,BV,hout,?_,?_,?_,?_,hdr⟩⟩
 .intro j k hk;show j<h.next+1
  by_cases e:j=h.next
  .omega
  .rw[aD.lY _ _ e]at hk;have:=hW.dom _ _ hk;omega
 .intro j x hx;show j<h.next+1
  rw[hget]at hx;split at hx
  .omega
  .split at hx
   .cases hx
   .have:=hW.live _ _ hx;omega
 .intro j k x hk hx;rw[hget]at hx;by_cases e:j=h.next
  .subst e;rw[aD.aan]at hk;exact lE
  .rw[aD.lY _ _ e]at hk;rw[if_neg e]at hx;split at hx
   .cases hx
   .rename_i hji;refine((hW.obj _ _ _ hk hx).mono hle).congr (hheap _ λhe=>hji ?_);exact hW.inj _ _ _ _ hk hi (by rw[hx];simp) hlive (.inr hni) he
 .have key:∀j k,β j=some k->((h.kill i).new o).get j≠none->j≠h.next->k.b≠g.b:=λj k hk hj hjn he=>by
   rw[hget,if_neg hjn]at hj;split at hj
   .exact hj rfl
   .rename_i hji;exact hji (hW.inj _ _ _ _ hk hi hj hlive (.inr hni) he)
  intro j l k m hk hm hj hl hr he;have pass:∀x,x≠h.next->((h.kill i).new o).get x≠none->(∀cs,((h.kill i).new o).get x≠some (.jq cs))->∀cs,h.get x≠some (.jq cs):=λx TA hx q cs e=>by
   rw[hget,if_neg TA]at hx;by_cases ex:x=i
   .rw[if_pos ex]at hx;exact hx rfl
   .exact q cs (by rw[hget,if_neg TA,if_neg ex];exact e)
  by_cases ej:j=h.next
  .by_cases el:l=h.next
   .omega
   .subst ej;rw[aD.aan]at hk;cases hk;rw[aD.lY _ _ el]at hm;exact absurd (he.symm.trans hg1) (key l m hm hl el)
  .rw[aD.lY _ _ ej]at hk;by_cases el:l=h.next
   .subst el;rw[aD.aan]at hm;cases hm;exact absurd (he.trans hg1) (key j k hk hj ej)
   .rw[aD.lY _ _ el]at hm;have hr:=hr.imp (pass _ ej hj) (pass _ el hl);rw[hget,if_neg ej]at hj;rw[hget,if_neg el]at hl;exact fp
 .intro j hj;exact aD.lY _ _ p0
 .show h.next<=h.next+1;omega
 .intro j hj hn;rw[hget,if_neg p0]at hn;split at hn
  .exact absurd rfl hn
  .exact hn
 .intro j hj hb;rw[hget,if_neg p0,if_neg];exact nv
 .show(h.kill i).low<=h.low;rw[IH.yE];omega
 .intro j hl hj;have hl':j<(h.kill i).low:=hl;rw[IH.yE]at hl';rw[hget,if_neg p0,if_neg p0]
 .omega
 .intro b hb hno;exact hheap b λe=>hno i g hi hlive e.symm
 .intro j k hk hj;by_cases e:j=h.next
  .subst e;rw[aD.aan]at hk;cases hk;exact .inr ⟨i,g,hi,hlive,hg1.symm⟩
  .rw[aD.lY _ _ e]at hk;exact iu
 .intro j k hl hj hk hn hb;rw[IH.FU,IH.yE]at hl;refine hheap _ λhe=>?_;have:=hW.inj _ _ _ _ hk hi hn hlive (.inr hni) he;omega
end
end Go.Ideal
namespace Go.Ideal
variable {P:Program} {β:aD} {h:IH} {w:World}
def addr_add(b o j:Nat):(⟨b,o,none⟩:Addr).add j=⟨b,o+j,none⟩:=by unfold Addr.add;split<;>simp_all
variable{t:aB}{d:TypeDesc}
def fE(h:P.underlying t=some d)(w:World):(underlying t).run P w=.ok d w:=by
 simp[underlying,h]
variable{n:Nat}
def nJ(h:jE P t=some n)(w:World):(sizeOf t).run P w=.ok n w:=by
 unfold jE at h;cases hi:P.info? t with
 |none=>simp[hi]at h
 |some i=>simp[hi]at h;simp[sizeOf,typeInfo,hi,h]
def FW{i:TypeInfo}(h:P.info? t=some i)(w:World):(typeInfo t).run P w=.ok i w:=by
 simp[typeInfo,h]
variable{z:ah}
def DJ(h:zeroOf P t=some z):∃i,P.info? t=some i/\i.zero=some z/\bR z=true:=by
 unfold zeroOf at h;cases hi:P.info? t with
 |none=>simp[hi]at h
 |some i=>
  simp only[hi,gy]at h;cases hz:i.zero with
  |none=>simp[hz]at h
  |some z'=>
   simp only[hz]at h;split at h
   .cases h;exact⟨i,rfl,hz,by assumption⟩
   .cases h
def DK(h:zeroOf P t=some z)(w:World):(zeroValue t).run P w=.ok z w:=by
 obtain⟨i,h1,h2,_⟩:=DJ h;simp[zeroValue,typeInfo,h1,h2]
def DL(h:P.underlying t=some d)(w:World):(isAgg t).run P w=.ok (kv P t) w:=by
 simp only[isAgg,dm,fE h,dB,kv,h];cases d<;>rfl
def TB(h:kv P t=true):∃d,P.underlying t=some d:=by
 unfold kv at h;cases hu:P.underlying t with
 |none=>simp[hu]at h
 |some d=>exact⟨d,rfl⟩
def Jf(hW:WR P β h w){i:Nat}{g:iC}(hi:β i=some g){cs:ae ah}(hg:h.get i=some (.cells cs)\/h.get i=some (.jq cs)){o n:Nat}{l:ae ah}
 (hl:jh (jU cs o) n=some l):
 l.length=n/\l.all cellV=true/\∃l',aQ β l l'/\∀(j:Nat) v,l'[j]? =some v->w.cell? ⟨g.b,g.off+o+j,none⟩=some v:=by
 obtain⟨h6,h7⟩:cs.all cellV=true/\∀(j:Nat) v,cs[j]? =some v->∃v',w.cell? ⟨g.b,g.off+j,none⟩=some v'/\VR β v v':=by
  rcases hg with hg|hg
  .obtain⟨_,_,_,_,h6,h7⟩:=hW.obj i g _ hi hg;exact⟨h6,h7⟩
  .obtain⟨_,_,h6,h7⟩:=hW.obj i g _ hi hg;exact⟨h6,h7⟩
 rw[pE,oH]at hl;split at hl
 .rename_i hn;cases hl;refine⟨by simp at hn⊢;omega,?_,?_⟩
  .rw[iE]at h6⊢;exact λx hx=>h6 x (Dj (Bt hx))
  .have key:∀k:Nat,k<=n->∃l',aQ β ((cs.drop o).take k) l'/\∀(j:Nat) v,l'[j]? =some v->w.cell? ⟨g.b,g.off+o+j,none⟩=some v:=by
    intro k;induction k with
    |zero=>intro _;exact⟨[],by simpa using aQ.nil,λj v hj=>by simp at hj⟩
    |succ k ih=>
     intro hk;obtain⟨l',h1,h2'⟩:=ih p0;have hlt:k<(cs.drop o).length:=p0
     obtain⟨v',hv1,hv2⟩:=h7 (o+k) ((cs.drop o)[k]) (by rw[<- jR];exact bH hlt);refine⟨l'++[v'],?_,λj v hj=>?_⟩
     .rw[List.take_succ_eq_append_getElem hlt];exact h1.append (.cons hv2 .nil)
     .have hlen:=h1.length;simp at hlen hlt;by_cases hjl:j<l'.length
      .rw[iY hjl]at hj;exact h2' j v hj
      .have hjk:j=l'.length:=by
        rcases sM j (l'++[v']).length with hh|hh
        .simp at hh;omega
        .rw[dY hh]at hj;cases hj
       subst hjk;simp at hj;subst hj;rw[show g.off+o+l'.length=g.off+(o+k)by omega];exact hv1
   exact key n (bz _)
 .cases hl
variable{o:Nat}{l:ae ah}
def NA{b:Nat}(hn:l.length=n)(hc:∀(j:Nat) v,l[j]? =some v->w.cell? ⟨b,o+j,none⟩=some v):
 (loadCells ⟨b,o,none⟩ n).run P w=.ok l.toArray w:=by
 subst hn;exact run_loadCells_list w _ l λj v hj=>by rw[addr_add];exact hc j v hj
variable{i:Nat}
def TC{h:IH}(hl:h.nR i o n=some l):∃cs,h.get i=some (.cells cs)/\jh (jU cs o) n=some l:=by
 unfold IH.nR at hl;split at hl
 .exact⟨_,by assumption,hl⟩
 .cases hl
def DN{h:IH}(hl:h.iq i o n=some l):∃cs,(h.get i=some (.cells cs)\/h.get i=some (.jq cs))/\jh (jU cs o) n=some l:=by
 unfold IH.iq at hl;exact iz
def TD{h:IH}{v:ah}(hl:h.pu i o=some v):∃cs,(h.get i=some (.cells cs)\/h.get i=some (.jq cs))/\ko cs o=some v:=by
 unfold IH.pu at hl;exact iz
variable{h2:IH}
def acy{h:IH}(hs:∀i o,h.get i=some o->h2.get i=some o){i o:Nat}{v:ah}(hl:h.pu i o=some v):h2.pu i o=some v:=by
 obtain⟨cs,hg|hg,h1⟩:=TD hl
 .simp only[IH.pu,hs _ _ hg,h1]
 .simp only[IH.pu,hs _ _ hg,h1]
def TE{h:IH}(hs:∀i o,h.get i=some o->h2.get i=some o){i o n:Nat}{l:ae ah}(hl:h.iq i o n=some l):h2.iq i o n=some l:=by
 obtain⟨cs,hg|hg,h1⟩:=DN hl
 .simp only[IH.iq,hs _ _ hg,h1]
 .simp only[IH.iq,hs _ _ hg,h1]
def FX(b:Nat):∀(vs:ae ah) (o:Nat) (w:World),(w.setCells b o vs).drawn=w.drawn
 |[],_,_=>rfl
 |v::vs,o,w=>by
  show((w.setCell ⟨b,o,none⟩ v).setCells b (o+1) vs).drawn=_;rw[FX b vs];rfl
def BX(hW:WR P β h w){i:Nat}{g:iC}(hi:β i=some g){o:Nat}{vs vs':ae ah}{h':IH}(hs:h.storeAt i o vs=some h')(hv:aQ β vs vs')(hall:vs.all cellV=true):
 (∀k,k=0->(storeCells ⟨g.b,g.off+o,none⟩ vs' k).run P w=.ok () (w.setCells g.b (g.off+o) vs'))/\WR P β h' (w.setCells g.b (g.off+o) vs')/\Eff β h w β h' (w.setCells g.b (g.off+o) vs'):=by
 unfold IH.storeAt at hs;split at hs
 .rename_i cs hg;split at hs
  .rename_i cs2 hl;cases hs;obtain⟨h1,h2,h3,h5,h6,h7⟩:=hW.obj i g _ hi hg;obtain⟨l1,l2,l3⟩:=Ab hl;have hlen:vs'.length=vs.length:=hv.length;have hin:∀j,j<vs'.length->g.off+o+j<g.top:=λj hj=>by omega
   have hone:∀v∈vs',v.oneCell'=true:=λv hv'=>by
    obtain⟨j,hj⟩:=ik hv';have hjl:j<vs.length:=by
     rcases sM j vs'.length with hh|hh
     .omega
     .rw[dY hh]at hj;cases hj
    exact eA
   have hrun:∀k,k=0->(storeCells ⟨g.b,g.off+o,none⟩ vs' k).run P w=.ok () (w.setCells g.b (g.off+o) vs'):=λk hk=>by
    subst hk;have:=run_storeCells_cells (P:=P) g.b (g.off+o) vs' 0 w (λj hj=>(h5 _ (hin j hj)).1) (λj hj=>(h5 _ (hin j hj)).2) hone;simpa using this
   have hsz:(w.setCells g.b (g.off+o) vs').heap.size=w.heap.size:=by
    have BZ:∀(vs:ae ah) (o:Nat) (w:World),(w.setCells g.b o vs).heap.size=w.heap.size:=by
     intro vs;induction vs with
     |nil=>intro o w;rfl
     |cons v vs ih=>intro o w;show((w.setCell ⟨g.b,o,none⟩ v).setCells g.b (o+1) vs).heap.size=_;rw[ih];simp
    exact BZ _ _ _
   have hother:∀b,b≠g.b->(w.setCells g.b (g.off+o) vs').heap[b]? =w.heap[b]?:=by
    have BZ:∀(vs:ae ah) (o:Nat) (w:World) (b:Nat),b≠g.b->(w.setCells g.b o vs).heap[b]? =w.heap[b]?:=by
     intro vs;induction vs with
     |nil=>intro o w b _;rfl
     |cons v vs ih=>intro o w b hb;show((w.setCell ⟨g.b,o,none⟩ v).setCells g.b (o+1) vs).heap[b]? =_;rw[ih _ _ _ hb,Go.RowKit.Below.heap_setCell _ _ _ _ hb]
    exact BZ _ _ _
   have hsame:∃c t fz,(w.setCells g.b (g.off+o) vs').heap[g.b]? =some (.cells c t fz)/\¬(fz.1<=c.size/\c.size<fz.2):=by
    have BZ:∀(vs:ae ah) (o:Nat) (w:World),(∃c t fz,w.heap[g.b]? =some (.cells c t fz)/\¬(fz.1<=c.size/\c.size<fz.2))->∃c t fz,(w.setCells g.b o vs).heap[g.b]? =some (.cells c t fz)/\¬(fz.1<=c.size/\c.size<fz.2):=by
     intro vs;induction vs with
     |nil=>intro o w hh;exact hh
     |cons v vs ih=>
      intro o w ⟨c,t,fz,hh,hz⟩;refine ih _ _ ⟨c.setIfInBounds o v,t,fz,?_,sY⟩;simp[World.setCell,Sr,hh]
    exact BZ _ _ _ h1
   have BV:(w.setCells g.b (g.off+o) vs').tape=w.tape:=by
    have BZ:∀(vs:ae ah) (o:Nat) (w:World),(w.setCells g.b o vs).tape=w.tape:=by
     intro vs;induction vs with
     |nil=>intro o w;rfl
     |cons v vs ih=>intro o w;show((w.setCell ⟨g.b,o,none⟩ v).setCells g.b (o+1) vs).tape=_;rw[ih];rfl
    exact BZ _ _ _
   have hos:=(Su g.b (may:=λ_=>True) vs' (g.off+o) w (λ_ _=>trivial)).1;have hout:=(Su g.b (may:=λ_=>True) vs' (g.off+o) w (λ_ _=>trivial)).2.1;have hdr:w.drawn<=(w.setCells g.b (g.off+o) vs').drawn:=by rw[FX];exact bz _
   refine⟨hrun,?_⟩;refine hW.write hi hg (.cells cs2) hsz hother hos BV hout hdr ⟨hsame,p0,h3,?_,?_,?_⟩
   .intro j hj;refine⟨?_,by rw[IJ];exact(h5 j hj).2⟩;by_cases hr:g.off+o<=j/\j<g.off+o+vs'.length
    .have:=Dk g.b vs' (g.off+o) w (λk hk=>(h5 _ (hin k hk)).1) (j - (g.off+o)) p0;rw[show g.off+o+(j - (g.off+o))=j by omega]at this;rw[this];simp
    .rw[zJ g.b vs' (g.off+o) w ⟨g.b,j,none⟩ (λ_ _=>by simp;omega)];exact(h5 j hj).1
   .rw[iE]at h6 hall⊢;intro x hx;obtain⟨j,hj⟩:=ik hx;rw[l3]at hj;split at hj
    .exact hall x (aV hj)
    .exact h6 x (aV hj)
   .intro j v hj;rw[l3]at hj;split at hj
    .rename_i hr;obtain⟨v',hv1,hv2⟩:=hv.get hj;refine⟨v',?_,hv2⟩;have hlt:j - o<vs'.length:=by omega
     have:=Dk g.b vs' (g.off+o) w (λk hk=>(h5 _ (hin k hk)).1) (j - o) hlt;rw[show g.off+o+(j - o)=g.off+j by omega]at this;rw[this];rw[bH hlt]at hv1;exact hv1
    .rename_i hr;obtain⟨v',hv1,hv2⟩:=h7 j v hj;refine⟨v',?_,hv2⟩;rw[zJ g.b vs' (g.off+o) w ⟨g.b,g.off+j,none⟩ (λ_ _=>by simp;omega)];exact hv1
  .cases hs
 .cases hs
def Good(P:Program)(β:aD)(h:IH)(w:World)(s:Sem Next)(v:ah)(h':IH):Prop:=
 ∃r w' β' v',s.run P w=.ok r w'/\(r=.value v'\/(r=.skip/\v'=undef))/\VR β' v v'/\WR P β' h' w'/\Eff β h w β' h' w'
def Good.same(hW:WR P β h w){s:Sem Next}{v v':ah}(hr:s.run P w=.ok (.value v') w)(hv:VR β v v'):Good P β h w s v h:=
 ⟨_,w,β,v',hr,.inl rfl,hv,hW,Eff.refl _ _ _ hW.dom⟩
def vR(P:Program)(β:aD)(w:World)(s:Sem Next)(f:Nat->ah)(o:bG):Prop:=
 ∃v' o' g,s.run P w=.ok (.value v') {w with heap:=w.heap.push o'}/\g.b=w.heap.size/\
  ∀(i:Nat) (β':aD),β.le β'->β' i=some g->VR β' (f i) v'/\OR P β' g {w with heap:=w.heap.push o'} o
def vR.good(hW:WR P β h w){s:Sem Next}{f:Nat->ah}{o:bG}(hm:vR P β w s f o):Good P β h w s (f h.next) (h.new o):=by
 obtain⟨v',o',g,h1,h2,h3⟩:=hm;have hle:=aD.vQ (β:=β) g hW.xk;obtain⟨a,b⟩:=hW.alloc o o' g h2 rfl (h3 h.next _ hle (aD.aan _ _ _)).2;exact⟨_,_,_,v',h1,.inl rfl,(h3 h.next _ hle (aD.aan _ _ _)).1,a,b⟩
def OR.FY{β:aD}{w:World}{cs cs':ae ah}(t:aB)(h:aQ β cs cs')(hc:cs.all cellV=true)(rest:ae ah)(sz:Nat):
 OR P β ⟨w.heap.size,0,cs.length,cs.length+rest.length,sz⟩ {w with heap:=w.heap.push (.cells ⟨cs'++rest⟩ t)} (.cells cs):=by
 have hb:({w with heap:=w.heap.push (.cells ⟨cs'++rest⟩ t)}:World).heap[w.heap.size]? =some (.cells ⟨cs'++rest⟩ t):=qe
 refine⟨⟨_,_,_,hb,λh=>absurd h.2 (zK _)⟩,rfl,qe,λj hj=>⟨?_,?_⟩,hc,λj v hj=>?_⟩
 .simp only[World.cell?,hb];simp;have:=h.length;simp at hj;omega
 .simp[World.frozen?]
 .obtain⟨v',h1,h2⟩:=h.get hj;refine⟨v',?_,h2⟩;simp only[World.cell?,hb];simp;rw[iY]
  .exact h1
  .rcases sM j cs'.length with hh|hh
   .exact hh
   .rw[dY hh]at h1;cases h1
end Go.Ideal
namespace Go.Ideal
variable {P:Program} {β:aD} {h:IH} {w:World}
variable{v:ah}
def VR.Jg{b:Bool}(h:VR β (.bool b) v):v=.bool b:=by cases h;rfl
def VR.mq{k:IntKind}{n:Int}(h:VR β (.int k n) v):v=.int k n:=by cases h;rfl
def VR.Ae{s:ByteArray}(h:VR β (.string s) v):v=.string s:=by cases h;rfl
variable{i o:Nat}
def VR.vT(h:VR β (.pointer (some ⟨i,o,none⟩)) v):∃g,β i=some g/\v=.pointer (some ⟨g.b,g.off+o,none⟩):=by
 cases h with|ptr hi=>exact⟨_,hi,rfl⟩
def VR.DR(h:VR β (.map (some i)) v):∃g,β i=some g/\v=.map (some g.b):=by
 cases h with|map hi=>exact⟨_,hi,rfl⟩
def VR.Ca{t:aB}{u:ah}(h:VR β (.iface t u) v):∃u',VR β u u'/\v=.iface t u':=by
 cases h with|iface t hi=>exact⟨_,hi,rfl⟩
def VR.NB{l:ae ah}(h:VR β (.agg ⟨l⟩) v):∃l',aQ β l l'/\l.all Ideal.cellV=true/\v=.agg ⟨l'⟩:=by
 cases h with|agg hc hl=>exact⟨_,hl,hc,rfl⟩
def VR.Af{fn:Fn}{f c:ae ah}(h:VR β (.func fn ⟨f⟩ ⟨c⟩) v):∃fn' f' c',FR β fn fn'/\aQ β f f'/\aQ β c c'/\v=.func fn' ⟨f'⟩ ⟨c'⟩:=by
 cases h with|func h1 h2 h3=>exact⟨_,_,_,h1,h2,h3,rfl⟩
def VR.mD{f:aj Nat}{n c:Nat}(h:VR β (.slice (some ⟨i,o,f⟩) n c) v):
 ∃g a c',β i=some g/\v=.slice (some a) n c'/\a.block=g.b/\True/\n<=c/\c<=c'/\(c'=0\/(a.off=g.off+o/\a.spot=none))/\
  ((f=some 0/\c'=c)\/(f=some g.sz/\0<g.sz/\o+c*g.sz=g.len/\(g.off+o+c'*g.sz=g.top/\a.spot=none))):=by
 cases h with
 |az hi hb hn ha=>exact⟨_,_,_,hi,rfl,hb,trivial,hn,bz _,ha,.inl ⟨rfl,rfl⟩⟩
 |nU hi hb hs hn hz hl ht hc ha=>exact⟨_,_,_,hi,rfl,hb,trivial,hn,hc,ha.imp id (λe=>⟨e,hs⟩),.inr ⟨rfl,hz,hl,ht,hs⟩⟩
def aQ.of_map{γ:Type}{f f':γ->ah}{l:ae γ}(h:∀x∈l,VR β (f x) (f' x)):aQ β (lq f l) (l.map f'):=by
 rw[vN];exact aQ.map l h
def acz(ρ:ak->ah)(zero:ae ah):sQ ρ zero []=some zero:=rfl
def NC(ρ:ak->ah)(zero:ae ah)(off size:Nat)(x:ak)(ps:ae (Nat×Nat×ak)):
 sQ ρ zero ((off,size,x)::ps)=match cellsOf (ρ x)with
  |none=>none
  |some vs=>if iI vs=size then(match iZ zero off vs with
   |some cs=>sQ ρ cs ps
   |none=>none)else none:=by
 show(match cellsOf (ρ x)with
  |none=>none
  |some vs=>cond (Nat.beq (iI vs) size) (match iZ zero off vs with
   |some cs=>sQ ρ cs ps
   |none=>none) none)=_
 cases cellsOf (ρ x)with
 |none=>rfl
 |some vs=>
  show cond (Nat.beq (iI vs) size) _ none=if iI vs=size then _ else none
  cases hb:Nat.beq (iI vs) size with
  |true=>rw[if_pos (rq hb)];rfl
  |false=>rw[if_neg (Fj hb)];rfl
def foldl_set(off:Nat):∀(l:ae ah) (k:Nat) (A:Array ah),
 ((l.zipIdx k).foldl (λcs (x:ah×Nat)=>cs.setIfInBounds (off+x.2) x.1) A).size=A.size/\
 ∀j,((l.zipIdx k).foldl (λcs (x:ah×Nat)=>cs.setIfInBounds (off+x.2) x.1) A)[j]? =if off+k<=j/\j<off+k+l.length/\j<A.size then l[j - (off+k)]? else A[j]?:=by
 intro l;induction l with
 |nil=>intro k A;refine⟨rfl,λj=>?_⟩;rw[if_neg qu];rfl
 |cons x l ih=>
  intro k A;simp only[List.zipIdx_cons,p9];obtain⟨h1,h2⟩:=ih (k+1) (A.setIfInBounds (off+k) x);refine⟨by rw[h1];simp,λj=>?_⟩;rw[h2];simp only[Array.size_setIfInBounds,lU];by_cases hc:off+(k+1)<=j/\j<off+(k+1)+l.length/\j<A.size
  .rw[if_pos hc,if_pos p0];rw[show j - (off+k)=(j - (off+(k+1)))+1 by omega,ru]
  .rw[if_neg hc];by_cases hj:j=off+k
   .subst hj;by_cases hs:off+k<A.size
    .rw[if_pos p0];simp[hs]
    .rw[if_neg p0,sN qu,sN p0]
   .rw[if_neg p0];rw[IK p0]
inductive F2{γ δ:Type}(R:γ->δ->Prop):List γ->List δ->Prop
 |nil:F2 R [] []
 |cons {a:γ} {b:δ} {l:List γ} {r:List δ} (h:R a b) (hl:F2 R l r):F2 R (a::l) (b::r)
def ND{place:Nat->aj (Nat×Nat)}{ρ ρ':ak->ah}:∀(parts:ae (Nat×ak)) (pc:ae (Nat×Nat×ak)) (zs zs' cs:ae ah),
 F2 (λ(p:Nat×ak) (q:Nat×Nat×ak)=>q.2.2=p.2/\place p.1=some (q.1,q.2.1)) parts pc->aQ β zs zs'->zs.all Ideal.cellV=true->
 sQ ρ zs pc=some cs->(∀p∈parts,VR β (ρ p.2) (ρ' p.2))->∃cs',Instr.fill place ⟨zs'⟩ (parts.map λp=>(p.1,ρ' p.2))=some ⟨cs'⟩/\aQ β cs cs'/\cs.all Ideal.cellV=true/\cs.length=zs.length:=by
 intro parts;induction parts with
 |nil=>
  intro pc zs zs' cs hf hz hc hr _;cases hf;rw[acz]at hr;cases hr;exact⟨zs',rfl,hz,hc,rfl⟩
 |cons p parts ih=>
  intro pc zs zs' cs hf hz hc hr hρ;obtain⟨i,x⟩:=p;cases hf with
  | @cons _ q _ pc hq hf=>
    obtain⟨off,size,y⟩:=q;obtain⟨hy,hpl⟩:=hq;simp only at hy hpl;subst hy;rw[NC]at hr;split at hr
    .cases hr
    .rename_i vs hvs;split at hr
     .rename_i hsz;split at hr
      .rename_i cs1 hl;obtain⟨DT,vs',hv1,hv2⟩:=(hρ (i,y) qe).cells hvs;obtain⟨l1,l2,l3⟩:=Ab hl;rw[vO]at hsz;have hlen:=hv2.length;have hzl:=hz.length;have Jh:=foldl_set off vs' 0 ⟨zs'⟩;have hA:∃FZ,((vs'.zipIdx 0).foldl (λcs (x:ah×Nat)=>cs.setIfInBounds (off+x.2) x.1) (⟨zs'⟩:Array ah))=⟨FZ⟩/\aQ β cs1 FZ:=by
        refine⟨_,rfl,aQ.Je ?_ ?_⟩
        .have:=Jh.1;simp only[Array.size]at this;rw[this,hzl,l2]
        .intro j v hj;have hg:=Jh.2 j;simp only[wS]at hg;rw[l3]at hj;have hjl:j<zs'.length:=by
          rw[hzl,<- l2];rcases sM j cs1.length with hh|hh
          .exact hh
          .have:=l3 j;rw[dY hh]at this;rw[<- this]at hj;cases hj
         split at hj
         .rename_i hr2;obtain⟨v',h1,h2⟩:=hv2.get hj;refine⟨v',?_,h2⟩;rw[<- yc]at hg;rw[hg,if_pos qu];exact h1
         .rename_i hr2;obtain⟨v',h1,h2⟩:=hz.get hj;refine⟨v',?_,h2⟩;rw[<- yc]at hg;rw[hg,if_neg qu];simpa using h1
       obtain⟨FZ,hA1,hA2⟩:=hA;have hc1:cs1.all Ideal.cellV=true:=by
        rw[iE]at hc DT⊢;intro z hzm;obtain⟨j,hj⟩:=ik hzm;rw[l3]at hj;split at hj
        .exact DT z (aV hj)
        .exact hc z (aV hj)
       obtain⟨cs',r1,r2,r3,r4⟩:=ih pc cs1 FZ cs hf hA2 hc1 hr λp hp=>hρ p (by simp[hp]);refine⟨cs',?_,r2,r3,p0⟩;simp only[fK,Instr.fill,hpl];rw[if_neg (by simp only[hv1,Array.size,yf,Dl,not_or];omega)];have hz0:(ρ' y).cells.zipIdx=(⟨vs'.zipIdx 0⟩:Array (ah×Nat)):=by rw[hv1];simp
       rw[hz0];have hfl:Array.foldl (λcs (x:ah×Nat)=>match x with|(c,j)=>cs.setIfInBounds (off+j) c) (⟨zs'⟩:Array ah) (⟨vs'.zipIdx 0⟩:Array (ah×Nat))=⟨FZ⟩:=by
        rw[<- hA1,<- Sv]
       rw[hfl];exact r1
      .cases hr
     .cases hr
end Go.Ideal
namespace Go.Ideal
variable {P:Program} {β:aD} {h:IH} {w:World}
variable{w':World}
def yG{s:Sem ah}{v:ah}{w:World}(h:s.run P w=.ok v w'):(do pure (.value (<- s)):Sem Next).run P w=.ok (.value v) w':=r5
def TF{s:Sem Unit}{w:World}(h:s.run P w=.ok () w'):(do s;pure .skip:Sem Next).run P w=.ok .skip w':=r5
variable{t:aB}{cs cs':ae ah}{s:Sem Next}
def TG(hcs:aQ β cs cs')(hc:cs.all cellV=true)
 (hr:s.run P w=.ok (.value (.pointer (some ⟨w.heap.size,0,none⟩))) {w with heap:=w.heap.push (.cells ⟨cs'⟩ t)}):
 vR P β w s (λi=>.pointer (some ⟨i,0,none⟩)) (.cells cs):=by
 refine⟨_,_,⟨w.heap.size,0,cs.length,cs.length+0,0⟩,hr,rfl,λi β' hle hi=>⟨?_,?_⟩⟩
 .have:=VR.ptr (β:=β') (o:=0) hi;exact this
 .exact mT
variable{n:Nat}
def TH{c:Nat}(hn:n<=c)(hcs:aQ β cs cs')(hc:cs.all cellV=true)
 (hr:s.run P w=.ok (.value (.slice (some ⟨w.heap.size,0,none⟩) n c)) {w with heap:=w.heap.push (.cells ⟨cs'⟩ t)}):
 vR P β w s (λi=>.slice (BJ i 0) n c) (.cells cs):=by
 refine⟨_,_,⟨w.heap.size,0,cs.length,cs.length+0,0⟩,hr,rfl,λi β' hle hi=>⟨?_,?_⟩⟩
 .exact VR.az hi rfl hn (.inr ⟨rfl,rfl⟩)
 .exact mT
def Ag(h:xe P t=some cs):
 ∃z i,P.info? t=some i/\i.zero=some z/\z.cells=⟨cs⟩/\gD cs=true/\jE P t=some cs.length:=by
 unfold xe at h;split at h
 .rename_i z n hz hn;split at h
  .rename_i hh;cases h;obtain⟨i,h1,h2,h3⟩:=DJ hz;exact⟨z,i,h1,h2,rfl,hh.2,by rw[hh.1];exact hn⟩
  .cases h
 .cases h
def TI(f:Nat->ah):Array.map f (Array.range 0)= #[]:=ach qe
variable{type e:aB}{dst:aj Tmp}{pos:String}{after:Array Edge}{guard:aj (Nat×Bool)}{c:aF}{ρ ρ':ak->ah}{f:Nat->ah}{ob:bG}
def acB
 (hc:cop P ⟨dst,.alloc e,type,pos,after,guard⟩=some c) (ha:c.alloc ρ=some (f,ob)):vR P β w (execOp ρ' ⟨dst,.alloc e,type,pos,after,guard⟩) f ob:=by
 simp only[cop]at hc;split at hc
 .rename_i cs hz;cases hc;simp only[aF.alloc]at ha;cases ha;obtain⟨z,i,h1,h2,h3,h4,_⟩:=Ag hz;refine TG (t:=e) (aQ.free h4) (vP h4) ?_;simp[execOp,Instr.alloc,zeroValue,typeInfo,h1,h2,newVar,newRow,h3]
 .cases hc
def acC{x:ak}
 (hc:cop P ⟨dst,.box e x,type,pos,after,guard⟩=some c) (ha:c.alloc ρ=some (f,ob)) (hx:VR β (ρ x) (ρ' x)):vR P β w (execOp ρ' ⟨dst,.box e x,type,pos,after,guard⟩) f ob:=by
 simp only[cop,aI]at hc;subst hc;simp only[aF.alloc]at ha;split at ha
 .rename_i cs hcs;cases ha;obtain⟨h1,cs',h2,h3⟩:=hx.cells hcs;refine TG (t:=e) h3 h1 ?_;simp[execOp,Instr.box,newVar,newRow,h2]
 .cases ha
def acD{r:aj ak}
 (hc:cop P ⟨dst,.makeMap t r,type,pos,after,guard⟩=some c) (ha:c.alloc ρ=some (f,ob)):vR P β w (execOp ρ' ⟨dst,.makeMap t r,type,pos,after,guard⟩) f ob:=by
 cases r with
 |some r=>simp[cop]at hc
 |none=>
  simp only[cop,aI]at hc;subst hc;simp only[aF.alloc]at ha;cases ha;refine⟨.map (some w.heap.size),.map #[] 0,⟨w.heap.size,0,0,0,0⟩,?_,rfl,λi β' hle hi=>⟨?_,?_⟩⟩
  .simp[execOp,Instr.makeMap]
  .have:=VR.map (β:=β') hi;exact this
  .exact⟨#[],qe,.nil⟩
def acE(z:ae ah)(n:Nat)(hz:z≠[]):∀j,(zeros z n)[j]? =if j<n*z.length then z[j%z.length]? else none:=by
 induction n with
 |zero=>intro j;show([]:ae ah)[j]? =_;simp
 |succ n ih=>
  intro j;have hpos:0<z.length:=Dm.2 hz;show(kF z (zeros z n))[j]? =_;rw[jc];by_cases hj:j<z.length
  .rw[iY hj,if_pos (by rw[Nat.succ_mul];omega),Nat.mod_eq_of_lt hj]
  .rw[jm p0,ih];have:(j - z.length)%z.length=j%z.length:=by
    rw[<- Nat.mod_eq_sub_mod p0]
   rw[this];by_cases hl:j<(n+1)*z.length
   .rw[if_pos hl,if_pos xa]
   .rw[if_neg hl,if_neg xa]
def Ah{z:ae ah}(hz:gD z=true)(n:Nat):gD (zeros z n)=true:=by
 have happ:∀(a b:ae ah),gD a=true->gD b=true->gD (a++b)=true:=by
  intro a b ha hb;induction a with
  |nil=>exact hb
  |cons x a ih=>simp[gD]at ha⊢;exact⟨ha.1,ih ha.2⟩
 induction n with
 |zero=>rfl
 |succ n ih=>show gD (kF z (zeros z n))=true;rw[jc];exact happ _ _ hz ih
def Ji(z:ae ah)(n:Nat)(hz:z≠[]):(Array.range (n*z.length)).map (λj=>(⟨z⟩:Array ah)[j%(⟨z⟩:Array ah).size]!)=⟨zeros z n⟩:=by
 have hpos:0<z.length:=Dm.2 hz;apply Array.ext';apply iK;intro j;show _=(zeros z n)[j]?;rw[acE z n hz];simp only[M6,Array.toList_range,bU];by_cases hj:j<n*z.length
 .rw[if_pos hj,qw hj];have hm:j%z.length<z.length:=zM _ hpos;simp[hm]
 .rw[if_neg hj,dY qu];rfl
def uy(h:nT P t=some n):jE P t=some n/\0<n:=by
 unfold nT at h;split at h
 .cases h
 .rename_i h2;refine⟨h,?_⟩;rcases M7 n with h0|h0
  .subst h0;exact absurd h h2
  .exact h0
def acF{l k:ak}
 (hc:cop P ⟨dst,.makeSlice t l k,type,pos,after,guard⟩=some c) (ha:c.alloc ρ=some (f,ob)) (hl:VR β (ρ l) (ρ' l)) (hk:VR β (ρ k) (ρ' k)):
 vR P β w (execOp ρ' ⟨dst,.makeSlice t l k,type,pos,after,guard⟩) f ob:=by
 simp only[cop]at hc;split at hc
 .rename_i e hu;split at hc
  .rename_i s z hs hz;cases hc;simp only[aF.alloc]at ha;obtain⟨zv,i,h1,h2,h3,h4,h5⟩:=Ag hz;obtain⟨hs1,hs2⟩:=uy hs;rw[h5]at hs1;have hzl:z.length=s:=by simpa using hs1
   split at ha
   .rename_i ln cn hln hcn;rw[hln]at hl;rw[hcn]at hk;have hl':=hl.mq;have hk':=hk.mq;simp only[h1,kD,Option.get!_some]at ha;cases hcond:(ln.ble cn&&(cn.mul i.bytes).ble small&&(cn.mul s).ble small&&cn.ble small)with
    |false=>rw[hcond]at ha;cases ha
    |true=>
     rw[hcond]at ha;simp only[cond_true,aI,cB]at ha;obtain⟨rfl,rfl⟩:=ha;simp only[dG]at hcond;obtain⟨⟨⟨c1,c2⟩,c3⟩,c4⟩:=hcond;have c1:=lg c1;have c2:=lg c2;have c4:=lg c4;unfold small at c2 c4;have hwl:IntKind.i64.wrap (Int.ofNat ln)=ln:=by
      exact IntWalk.i64_in _ qu
     have hwc:IntKind.i64.wrap (Int.ofNat cn)=cn:=by
      exact IntWalk.i64_in _ qu
     refine TH (t:=e) c1 (aQ.free (Ah h4 cn)) (vP (Ah h4 cn)) ?_;have F3:z≠[]:=λe=>by subst e;simp at hzl;omega
     have hbig:¬((i.bytes:Int)*(cn:Int)>281474976710656):=by
      rw[<- Int.natCast_mul,Fq];have c2':cn*i.bytes<=1073741824:=c2;omega
     have hsz:((cn:Int)).toNat=cn:=qe
     have hsz2:((ln:Int)).toNat=ln:=qe
     have hzs:(⟨z⟩:Array ah).size=s:=hzl;simp only[execOp,Instr.makeSlice,dm,fE hu,dB,hl',hk',asInt,asIntOf,ed,FW h1,hwl,hwc,Int.reducePow];rw[if_neg (by simp only[yf,Dl,not_or];omega)];simp only[hsz,hsz2,dm,run_askRoom,dB,nJ h5,hzl];by_cases h0:cn*s=0
     .rw[if_pos h0];have acG:cn=0:=by
       exact oE
      subst acG;have hz0:zeros z 0=[]:=rfl;simp[newRow,hz0,TI]
     .rw[if_neg h0];have hzz:zeroOf P e=some zv:=by
       exact fc
      have hrow:=Ji z cn F3;rw[hzl]at hrow;simp only[dm,DK hzz,dB,h3,ed,newRow,run_newObj,hrow]
   .cases ha
  .cases hc
 .cases hc
def F2.of_map{γ δ:Type}{R:γ->δ->Prop}(f:γ->δ)(l:ae γ)(h:∀x∈l,R x (f x)):F2 R l (l.map f):=by
 exact hU
section
variable {dst:aj Tmp} {type:aB} {pos:String} {after:Array Edge} {guard:aj (Nat×Bool)} {c:aF} {ρ ρ':ak->ah} {f:Nat->ah} {ob:bG} {v:ah} {h':IH}
variable{t:aB}{parts:Array (Nat×ak)}
def acH{len:Nat}
 (hc:cop P ⟨dst,.buildSlice t len parts,type,pos,after,guard⟩=some c) (ha:c.alloc ρ=some (f,ob)) (hρ:∀p∈parts.toList,VR β (ρ p.2) (ρ' p.2)):
 vR P β w (execOp ρ' ⟨dst,.buildSlice t len parts,type,pos,after,guard⟩) f ob:=by
 simp only[cop]at hc;split at hc
 .rename_i e hu;split at hc
  .rename_i s z hs hz;split at hc
   .rename_i hle;cases hc;simp only[aF.alloc]at ha;split at ha
    .rename_i cs hcs;cases ha;obtain⟨zv,i,h1,h2,h3,h4,h5⟩:=Ag hz;obtain⟨hs1,hs2⟩:=uy hs;rw[h5]at hs1;have hzl:z.length=s:=by simpa using hs1
     have F3:z≠[]:=λe=>by subst e;simp at hzl;omega
     obtain⟨cs',r1,r2,r3,_⟩:=ND (β:=β) (place:=λi=>some (i*s,s)) (ρ:=ρ) (ρ':=ρ') parts.toList _ (zeros z len) (zeros z len) cs
      (F2.of_map (λp=>(p.1*s,s,p.2)) _ λp _=>⟨rfl,rfl⟩) (aQ.free (Ah h4 len)) (vP (Ah h4 len)) hcs hρ
     refine TH (t:=e) (bz _) r2 r3 ?_;have hzz:zeroOf P e=some zv:=by
      exact fc
     have hrow:=Ji z len F3;rw[hzl]at hrow;have hpl:(parts.map λ(x:Nat×ak)=>match x with|(i,x)=>(i,ρ' x)).toList=parts.toList.map λp=>(p.1,ρ' p.2):=qe
     simp only[execOp,Instr.buildSlice,dm,fE hu,dB,nJ h5,hzl,hpl];rw[if_neg p0];simp only[dm,dB,ed];by_cases h0:len*s=0
     .have hl0:len=0:=by
       exact oE
      subst hl0;rw[if_pos h0];have hz0:(Array.map (λx=>(#[]:Array ah)[x%(#[]:Array ah).size]!) (Array.range (0*s)))=⟨zeros z 0⟩:=by rw[h0];exact TI _
      simp only[dm,ed,dB,hz0,r1,newRow,run_newObj]
     .rw[if_neg h0];simp only[dm,DK hzz,dB,h3,ed,hrow,r1,newRow,run_newObj]
    .cases ha
   .cases hc
  .cases hc
 .cases hc
variable{x:ak}
def acI(hc:cop P ⟨dst,.move x,type,pos,after,guard⟩=some c)(hr:c.run P ρ h=some (v,h'))(hx:VR β (ρ x) (ρ' x))(hW:WR P β h w):
 Good P β h w (execOp ρ' ⟨dst,.move x,type,pos,after,guard⟩) v h':=by
 simp only[cop,aI]at hc;subst hc;simp only[aF.run,aI,cB]at hr;obtain⟨rfl,rfl⟩:=hr;exact Good.same hW (v':=ρ' x) (by simp[execOp]) hx
def acJ(hc:cop P ⟨dst,.assign x,type,pos,after,guard⟩=some c)(hr:c.run P ρ h=some (v,h'))(hx:VR β (ρ x) (ρ' x))(hW:WR P β h w):
 Good P β h w (execOp ρ' ⟨dst,.assign x,type,pos,after,guard⟩) v h':=by
 simp only[cop,aI]at hc;subst hc;simp only[aF.run,aI,cB]at hr;obtain⟨rfl,rfl⟩:=hr;exact Good.same hW (v':=ρ' x) (by simp[execOp]) hx
variable{y:ak}
def acK{z:ak}(hc:cop P ⟨dst,.pick x y z,type,pos,after,guard⟩=some c)(hr:c.run P ρ h=some (v,h'))(hx:VR β (ρ x) (ρ' x))(hy:VR β (ρ y) (ρ' y))(hz:VR β (ρ z) (ρ' z))(hW:WR P β h w):
 Good P β h w (execOp ρ' ⟨dst,.pick x y z,type,pos,after,guard⟩) v h':=by
 simp only[cop,aI]at hc;subst hc;simp only[aF.run]at hr;split at hr
 .rename_i t ht;rw[ht]at hx;have hx':=hx.Jg;simp only[aI,cB]at hr;obtain⟨rfl,rfl⟩:=hr;cases t
  .exact Good.same hW (v':=ρ' z) (by simp[execOp,hx',asBool]) hz
  .exact Good.same hW (v':=ρ' y) (by simp[execOp,hx',asBool]) hy
 .cases hr
variable{fs:Array Field}
def run_places(hall:fs.toList.all (λf=>(jE P f.type).isSome)=true)(w:World):
 ∃pl:Array (Nat×Nat),(fs.mapM λf=>do pure (f.offset,<- sizeOf f.type):Sem (Array (Nat×Nat))).run P w=.ok pl w/\∀(i:Nat) fd,fs[i]? =some fd->∃s,jE P fd.type=some s/\pl[i]? =some (fd.offset,s):=by
 obtain⟨l⟩:=fs;have key:∀l:ae Field,l.all (λf=>(jE P f.type).isSome)=true->
  ∃pl:ae (Nat×Nat),(l.mapM λf=>do pure (f.offset,<- sizeOf f.type):Sem (ae (Nat×Nat))).run P w=.ok pl w/\∀(i:Nat) fd,l[i]? =some fd->∃s,jE P fd.type=some s/\pl[i]? =some (fd.offset,s):=by
  intro l;induction l with
  |nil=>intro _;exact⟨[],qe,λi fd hi=>by simp at hi⟩
  |cons x l ih=>
   intro hl;simp only[Di,dG]at hl;obtain⟨pl,h1,h2⟩:=ih hl.2;obtain⟨s,hs⟩:=Dn.1 hl.1;refine⟨(x.offset,s)::pl,?_,λi fd hi=>?_⟩
   .simp only[List.mapM_cons,dm,nJ hs,dB,ed,h1]
   .cases i with
    |zero=>simp at hi;subst hi;exact⟨s,hs,qe⟩
    |succ i=>simp at hi;obtain⟨s',a,b⟩:=h2 i fd hi;exact⟨s',a,by simpa using b⟩
 obtain⟨pl,h1,h2⟩:=key l hall;refine⟨⟨pl⟩,?_,λi fd hi=>?_⟩
 .rw[List.mapM_toArray,Sem.run_map,h1];rfl
 .obtain⟨s,a,b⟩:=h2 i fd (by simpa using hi);exact⟨s,a,by simpa using b⟩
def acL{pl:Array (Nat×Nat)}(hpl:∀(i:Nat) fd,fs[i]? =some fd->∃s,jE P fd.type=some s/\pl[i]? =some (fd.offset,s)):
 ∀(parts:ae (Nat×ak)) (ps:ae (Nat×Nat×ak)),zZ P fs parts=some ps->F2 (λ(p:Nat×ak) (q:Nat×Nat×ak)=>q.2.2=p.2/\pl[p.1]? =some (q.1,q.2.1)) parts ps:=by
 intro parts;induction parts with
 |nil=>intro ps h;simp[zZ]at h;subst h;exact .nil
 |cons p parts ih=>
  intro ps h;obtain⟨i,x⟩:=p;simp only[zZ]at h;split at h
  .rename_i fd r F4 hr;split at h
   .rename_i s hs;cases h;refine .cons ⟨rfl,?_⟩ (ih r hr);obtain⟨s',a,b⟩:=hpl i fd F4;rw[hs]at a;cases a;exact b
   .cases h
  .cases h
def acM(hc:cop P ⟨dst,.build t parts,type,pos,after,guard⟩=some c)(hr:c.run P ρ h=some (v,h'))(hρ:∀p∈parts.toList,VR β (ρ p.2) (ρ' p.2))(hW:WR P β h w):
 Good P β h w (execOp ρ' ⟨dst,.build t parts,type,pos,after,guard⟩) v h':=by
 have hpl:(parts.map λ(x:Nat×ak)=>match x with|(i,x)=>(i,ρ' x)).toList=parts.toList.map λp=>(p.1,ρ' p.2):=qe
 simp only[cop]at hc;split at hc
 .rename_i fs z hu hz;split at hc
  .rename_i ps hps;cases hc;simp only[aF.run]at hr;split at hr
   .rename_i cs hcs;simp only[aI,cB]at hr;obtain⟨rfl,rfl⟩:=hr;obtain⟨zv,i,h1,h2,h3,h4,h5⟩:=Ag hz;unfold placesOf at hps;split at hps
    .rename_i hall;obtain⟨pl,q1,q2⟩:=run_places (P:=P) hall w;obtain⟨cs',r1,r2,r3,_⟩:=ND (β:=β) (place:=λi=>pl[i]?) (ρ:=ρ) (ρ':=ρ') parts.toList ps z z cs (acL q2 _ _ hps) (aQ.free h4) (vP h4) hcs hρ;refine Good.same hW (v':=.agg ⟨cs'⟩) ?_ (.agg r3 r2);simp only[execOp,Instr.build,dm,zeroValue,FW h1,h2,dB,ed,h3,fE hu,q1,hpl,r1]
    .cases hps
   .cases hr
  .cases hc
 .rename_i n e z hu hz;split at hc
  .rename_i s hs;cases hc;simp only[aF.run]at hr;split at hr
   .rename_i cs hcs;simp only[aI,cB]at hr;obtain⟨rfl,rfl⟩:=hr;obtain⟨zv,i,h1,h2,h3,h4,h5⟩:=Ag hz;obtain⟨hs1,hs2⟩:=uy hs;obtain⟨cs',r1,r2,r3,_⟩:=ND (β:=β) (place:=λi=>some (i*s,s)) (ρ:=ρ) (ρ':=ρ') parts.toList _ z z cs (F2.of_map (λp=>(p.1*s,s,p.2)) _ λp _=>⟨rfl,rfl⟩) (aQ.free h4) (vP h4) hcs hρ;refine Good.same hW (v':=.agg ⟨cs'⟩) ?_ (.agg r3 r2);simp only[execOp,Instr.build,dm,zeroValue,FW h1,h2,dB,ed,h3,fE hu,nJ hs1,hpl,r1]
   .cases hr
  .cases hc
 .cases hc
def acN(hc:cop P ⟨dst,.load t x,type,pos,after,guard⟩=some c)(hr:c.run P ρ h=some (v,h'))(hx:VR β (ρ x) (ρ' x))(hW:WR P β h w):
 Good P β h w (execOp ρ' ⟨dst,.load t x,type,pos,after,guard⟩) v h':=by
 simp only[cop]at hc;split at hc
 .rename_i hagg;cases hs:jE P t with
  |none=>simp[hs]at hc
  |some n=>
   simp only[hs,kD,aI]at hc;subst hc;simp only[aF.run]at hr;split at hr
   .rename_i i o ha;rw[ha]at hx;obtain⟨g,hg,hx'⟩:=hx.vT;split at hr
    .rename_i cs hcs;simp only[aI,cB]at hr;obtain⟨rfl,rfl⟩:=hr;obtain⟨blk,hb,hl⟩:=DN hcs;obtain⟨l1,l2,l',l3,l4⟩:=Jf hW hg hb hl;obtain⟨d,hd⟩:=TB hagg;refine Good.same hW (v':=.agg ⟨l'⟩) ?_ (.agg l2 l3);have:=NA (P:=P) (n:=n) (by rw[l3.length,l1]) l4;simp[execOp,Instr.loadAt,Instr.sureAddr,hx',loadVar,DL hd,hagg,nJ hs,this]
    .cases hr
   .cases hr
 .rename_i hagg;split at hc
  .rename_i d hd;cases hc;simp only[aF.run]at hr;split at hr
   .rename_i i o ha;rw[ha]at hx;obtain⟨g,hg,hx'⟩:=hx.vT;split at hr
    .rename_i u hu0;simp only[aI,cB]at hr;obtain⟨rfl,rfl⟩:=hr;obtain⟨cs,hcs,hu⟩:=TD hu0;have h7:∀(j:Nat) v,cs[j]? =some v->∃v',w.cell? ⟨g.b,g.off+j,none⟩=some v'/\VR β v v':=by
      rcases hcs with hcs|hcs
      .obtain⟨_,_,_,_,_,h7⟩:=hW.obj i g _ hg hcs;exact h7
      .obtain⟨_,_,_,h7⟩:=hW.obj i g _ hg hcs;exact h7
     rw[rP]at hu;obtain⟨v',a,b⟩:=h7 _ _ hu;refine Good.same hW (v':=v') ?_ b;have NE:kv P t=false:=by simpa using hagg
     simp[execOp,Instr.loadAt,Instr.sureAddr,hx',loadVar,DL hd,NE,a]
    .cases hr
   .cases hr
  .cases hc
def acO(hc:cop P ⟨dst,.store t x y,type,pos,after,guard⟩=some c)(hr:c.run P ρ h=some (v,h'))(hx:VR β (ρ x) (ρ' x))(hy:VR β (ρ y) (ρ' y))(hW:WR P β h w):
 Good P β h w (execOp ρ' ⟨dst,.store t x y,type,pos,after,guard⟩) v h':=by
 simp only[cop]at hc;cases hs:jE P t with
 |none=>simp[hs]at hc
 |some n=>
  simp only[hs,kD,aI]at hc;subst hc;simp only[aF.run]at hr;split at hr
  .rename_i i o vs ha hv;rw[ha]at hx;obtain⟨g,hg,hx'⟩:=hx.vT;cases hb:Nat.beq (iI vs) n with
   |false=>rw[hb]at hr;cases hr
   |true=>
    rw[hb]at hr;simp only[cond_true]at hr;split at hr
    .rename_i h1 hst;simp only[aI,cB]at hr;obtain⟨rfl,rfl⟩:=hr;obtain⟨c1,vs',c2,c3⟩:=hy.cells hv;obtain⟨m1,m2,m3⟩:=BX hW hg hst c3 c1;refine⟨.skip,_,β,undef,?_,.inr ⟨rfl,rfl⟩,.dH _,m2,m3⟩;have hlen:vs'.length=n:=by rw[c3.length,<- vO];exact rq hb
     have hsz:((ρ' y).cells.size≠n)=False:=by simp[c2,hlen]
     simp[execOp,Instr.storeAt,Instr.sureAddr,hx',storeVar,nJ hs,hsz,c2,m1 0 rfl,hlen]
    .cases hr
  .cases hr
end
end Go.Ideal
namespace Go.Ideal
variable {P:Program} {β:aD} {h:IH} {w:World}
section
variable {dst:aj Tmp} {type:aB} {pos:String} {after:Array Edge} {guard:aj (Nat×Bool)} {c:aF} {ρ ρ':ak->ah} {v:ah} {h':IH}
variable{x:ak}
def acP(hc:cop P ⟨dst,.nilCheck x,type,pos,after,guard⟩=some c)(hr:c.run P ρ h=some (v,h'))(hx:VR β (ρ x) (ρ' x))(hW:WR P β h w):
 Good P β h w (execOp ρ' ⟨dst,.nilCheck x,type,pos,after,guard⟩) v h':=by
 simp only[cop,aI]at hc;subst hc;simp only[aF.run]at hr;split at hr<;>simp only[aI,cB,reduceCtorEq]at hr
 .rename_i a ha;obtain⟨rfl,rfl⟩:=hr;rw[ha]at hx;refine Good.same hW (v':=ρ' x) ?_ hx;have:∃a',ρ' x=.pointer (some a'):=by
   generalize ρ' x=u at hx;cases hx with|ptr hi=>exact⟨_,rfl⟩
  obtain⟨a',e⟩:=this;simp[execOp,e]
 .rename_i t u ha;obtain⟨rfl,rfl⟩:=hr;rw[ha]at hx;refine Good.same hW (v':=ρ' x) ?_ hx;obtain⟨u',_,e⟩:=hx.Ca;simp[execOp,e]
 .rename_i f first captured ha
  exact cV
 .rename_i t n first captured ha
  exact cV
 .rename_i l first captured ha
  exact cV
def uz(a b:Int):leZ a b=decide (a<=b):=by
 cases a<;>cases b<;>simp only[leZ]
 .rename_i x y;rw[Bu];simp[sO]
 .rename_i x y;simp;omega
 .rename_i x y;simp;omega
 .rename_i x y;rw[Bu];simp[sO];omega
def DU(a b:Int):Du a b=(a==b):=by
 cases a<;>cases b<;>simp only[Du]
 .rename_i x y;rw[Bu];simp[Nat.beq_eq];omega
 .rfl
 .rfl
 .rename_i x y;rw[Bu];simp[Nat.beq_eq]
def NF(a b:Int):Tn a b=a+b:=by cases a<;>cases b<;>rfl
def TJ(a b:Int):Ns a b=a - b:=by
 cases a<;>cases b<;>simp only[Ns]
 rename_i x y;cases hb:Nat.ble y x with
 |true=>
  have:=lg hb;show Int.ofNat (x - y)=_;simp;omega
 |false=>
  have:¬y<=x:=λhh=>by rw[II hh]at hb;cases hb
  show Int.negSucc ((y - x).pred)=_;simp[Int.negSucc_eq,Nat.pred_eq_sub_one];omega
def Jj(k:IntKind)(n:Int):FH k n=k.wrap n:=by
 have hmax:Nr=9223372036854775807:=rfl;have key:∀n:Int, -9223372036854775808<=n/\n<=9223372036854775807->n=IntKind.i64.wrap n:=λn hn=>(IntWalk.i64_in n hn).symm;unfold FH;split
 .rename_i m;cases hb:Nat.ble m Nr with
  |true=>have:=lg hb;exact(cond_true _ _).trans (key _ (by rw[Int.ofNat_eq_natCast];omega))
  |false=>exact cond_false _ _
 .rename_i m;cases hb:Nat.ble m 1000000 with
  |true=>
   have h1:=lg hb;have h2:(-1000001:Int)<=Int.negSucc m:=by rw[Int.negSucc_eq];omega
   have h3:Int.negSucc m<=0:=by rw[Int.negSucc_eq];omega
   exact(cond_true _ _).trans (key _ ⟨Int.le_trans qv h2,Int.le_trans h3 qv⟩)
  |false=>exact cond_false _ _
 .rfl
variable{k:IntKind}
def TK{j:IntKind}(h:qD j k=true):j=k:=by
 cases j<;>cases k<;>first|rfl|(simp[qD]at h)
variable{t:aB}{op:BinOp}
def acQ{a b:Int}{v:ah}(h:nS op k a b=some v)(w:World):(binOp op t (.int k a) (.int k b)).run P w=.ok v w:=by
 unfold nS at h;split at h<;>simp only[aI,reduceCtorEq]at h<;>subst h
 .simp[binOp,Op.intArith,Jj,NF]
 .simp[binOp,Op.intArith,Jj,TJ]
 .simp[binOp,Op.intCmp,DU]
 .simp[binOp,Op.intCmp,DU];rfl
 .exact jn
 .exact jn
 .exact jn
 .exact jn
def NG(op:BinOp)(t:aB)(x y:ak)(a b:ah)(w:World)(h1:∀u,a≠.agg u)(h2:¬(a=.nilIface/\b=.nilIface)):(eqGuard op t x y a b).run P w=.ok () w:=by
 cases op<;>first
  |rfl
  |(cases a<;>first
   |rfl
   |exact absurd rfl (h1 _)
   |(cases b<;>first
    |rfl
    |exact absurd ⟨rfl,rfl⟩ h2))
def acR(d:Nat){t:aB}{a b a' b':ah}{r:Bool}(h:uq P t a b=some r)(ha:VR β a a')(hb:VR β b b')(w:World):
 (Op.equalIn (d+1) t a' b').run P w=.ok r w/\(∀u,a'≠.agg u)/\¬(a'=.nilIface/\b'=.nilIface)/\(∀k n,a'≠.int k n)/\(∀s,a'≠.string s)/\(∀k n,a'≠.float k n)/\(∀k n m,a'≠.complex k n m):=by
 cases hu:P.underlying t with
 |none=>unfold uq at h;simp[hu]at h
 |some ty=>
  unfold uq at h;rw[hu]at h;split at h<;>simp only[aI,reduceCtorEq]at h<;>subst h
  all_goals
   have he:=‹some ty=some _›;obtain rfl:=Option.some.inj he;cases ha<;>cases hb<;>refine⟨?_,qe,qe,qe,qe,qe,qe⟩<;>(unfold Op.equalIn;simp only[dm,fE hu,dB];rfl)
def TL{a b a' b':ah}{r:Bool}(h:uq P t a b=some r)(ha:VR β a a')(hb:VR β b b')(w:World):
 (Op.equal t a' b').run P w=.ok r w/\(∀u,a'≠.agg u)/\¬(a'=.nilIface/\b'=.nilIface)/\(∀k n,a'≠.int k n)/\(∀s,a'≠.string s)/\(∀k n,a'≠.float k n)/\(∀k n m,a'≠.complex k n m):=
 acR 9999 h ha hb w
def F5{s:Sem ah}{v:ah}(h:jo P s=some v):bX P s=some v/\bR v=true:=by
 unfold jo at h;split at h
 .rename_i u hu;cases hf:bR u with
  |true=>rw[hf]at h;simp only[cond_true,aI]at h;subst h;exact⟨hu,hf⟩
  |false=>rw[hf]at h;cases h
 .cases h
variable{y:ak}
def acS{yt:aB}(hc:cop P ⟨dst,.binOp op t x y yt,type,pos,after,guard⟩=some c)(hr:c.run P ρ h=some (v,h'))(hx:VR β (ρ x) (ρ' x))(hy:VR β (ρ y) (ρ' y))(hW:WR P β h w):
 Good P β h w (execOp ρ' ⟨dst,.binOp op t x y yt,type,pos,after,guard⟩) v h':=by
 simp only[cop,aI]at hc;subst hc;simp only[aF.run]at hr;split at hr
 .rename_i u hu;simp only[aI,cB]at hr;obtain⟨rfl,rfl⟩:=hr;unfold ku at hu;split at hu
  .
   rename_i v1 hv1;simp only[aI]at hu;subst hu;split at hv1
   .rename_i j m k n hm hn;cases hk:qD j k with
    |false=>rw[hk]at hv1;cases hv1
    |true=>
     rw[hk]at hv1;simp only[cond_true]at hv1;have:=TK hk;subst this;rw[hm]at hx;rw[hn]at hy;have hx':=hx.mq;have hy':=hy.mq;have hfree:bR v1=true:=by
      unfold nS at hv1;split at hv1<;>simp only[aI,reduceCtorEq]at hv1<;>subst hv1<;>rfl
     refine Good.same hW (v':=v1) ?_ (VR.free hfree);simp only[execOp,hx',hy',dm,NG op t x y (.int j m) (.int j n) w qe qe,dB,acQ hv1,ed]
   .cases hv1
  .cases hf:bR (ρ x)&&bR (ρ y)with
   |true=>
    rw[hf]at hu;simp only[cond_true]at hu;simp only[dG]at hf;have hx':=hx.pF hf.1;have hy':=hy.pF hf.2;obtain⟨hu1,hu2⟩:=F5 hu;have hrun:=Ad hu1 w;refine Good.same hW (v':=u) ?_ (VR.free hu2);simp only[execOp,hx',hy'];simp only[dm]at hrun⊢;rw[hrun];rfl
   |false=>
    rw[hf]at hu;simp only[cond_false]at hu;have TM:∀(a b:ah),(∀k n,a≠.int k n)->(∀s,a≠.string s)->(∀k n,a≠.float k n)->(∀k n m,a≠.complex k n m)->
     binOp .eql t a b=(do pure (.bool (<- Op.equal t a b)))/\binOp .neq t a b=(do pure (.bool (!(<- Op.equal t a b)))):=by
     intro a b h1 h2 h3 h4;constructor<;>unfold binOp<;>cases a<;>first|rfl|exact absurd rfl (h1 _ _)|exact absurd rfl (h2 _)|exact absurd rfl (h3 _ _)|exact absurd rfl (h4 _ _ _)
    split at hu
    .split at hu
     .rename_i r hr2;simp only[aI]at hu;subst hu;obtain⟨e1,e2,e3,e4,e5,e6,e7⟩:=TL hr2 hx hy w;refine Good.same hW (v':=.bool r) ?_ (.bool r);simp only[execOp,dm,NG _ t x y _ _ w e2 e3,dB,(TM _ _ e4 e5 e6 e7).1,e1,ed]
     .cases hu
    .split at hu
     .rename_i r hr2;simp only[aI]at hu;subst hu;obtain⟨e1,e2,e3,e4,e5,e6,e7⟩:=TL hr2 hx hy w;refine Good.same hW (v':=.bool !r) ?_ (.bool _);simp only[execOp,dm,NG _ t x y _ _ w e2 e3,dB,(TM _ _ e4 e5 e6 e7).2,e1,ed]
     .cases hu
    .cases hu
 .cases hr
def acT{op:UnOp}(hc:cop P ⟨dst,.unOp op t x,type,pos,after,guard⟩=some c)(hr:c.run P ρ h=some (v,h'))(hx:VR β (ρ x) (ρ' x))(hW:WR P β h w):
 Good P β h w (execOp ρ' ⟨dst,.unOp op t x,type,pos,after,guard⟩) v h':=by
 simp only[cop,aI]at hc;subst hc;simp only[aF.run]at hr;cases hf:bR (ρ x)with
 |false=>rw[hf]at hr;cases hr
 |true=>
  exact c9
def acU(hc:cop P ⟨dst,.makeInterface t x,type,pos,after,guard⟩=some c)(hr:c.run P ρ h=some (v,h'))(hx:VR β (ρ x) (ρ' x))(hW:WR P β h w):
 Good P β h w (execOp ρ' ⟨dst,.makeInterface t x,type,pos,after,guard⟩) v h':=by
 simp only[cop]at hc;split at hc
 .cases hc
 .rename_i d hni hu;cases hc;simp only[aF.run,aI,cB]at hr;obtain⟨rfl,rfl⟩:=hr;refine Good.same hW (v':=.iface t (ρ' x)) ?_ (.iface t hx);simp only[execOp,Instr.makeInterface,dm,fE hu,dB];cases d<;>first|rfl|exact absurd rfl (hni _)
 .cases hc
variable{fn:Fn}
def FR.refl(h:I7 fn=true):FR β fn fn:=by
 cases fn with
 |func f=>exact .func f
 |method n=>exact .method n
 |methodOf t n=>exact .methodOf t n
 |via=>simp[I7]at h
 |yield l=>simp[I7]at h
def acV{first captured:Array ak}(hc:cop P ⟨dst,.makeFunc fn first captured,type,pos,after,guard⟩=some c)(hr:c.run P ρ h=some (v,h'))
 (hf:∀x∈first.toList,VR β (ρ x) (ρ' x)) (hk:∀x∈captured.toList,VR β (ρ x) (ρ' x)) (hW:WR P β h w):
 Good P β h w (execOp ρ' ⟨dst,.makeFunc fn first captured,type,pos,after,guard⟩) v h':=by
 simp only[cop]at hc;split at hc
 .rename_i hfn;cases hc;simp only[aF.run,aI,cB]at hr;obtain⟨rfl,rfl⟩:=hr;refine Good.same hW (v':=.func fn (first.map ρ') (captured.map ρ')) (by simp[execOp,Instr.makeFunc]) ?_;have e1:first.map ρ'=⟨first.toList.map ρ'⟩:=by apply Array.ext';rw[M6]
  have e2:captured.map ρ'=⟨captured.toList.map ρ'⟩:=by apply Array.ext';rw[M6]
  rw[e1,e2];exact .func (FR.refl hfn) (aQ.of_map hf) (aQ.of_map hk)
 .cases hc
variable{n:Nat}
def acW{a:Addr}{f:Field}(hs:jE P f.type=some n)(hn:0<n)(w:World):(fieldPlace a f).run P w=.ok (a.add f.offset) w:=by
 simp only[fieldPlace,dm,nJ hs,dB];rw[if_neg p0];rfl
variable{f:Nat}
def acX{s:aB}(hc:cop P ⟨dst,.fieldAddr s x f,type,pos,after,guard⟩=some c)(hr:c.run P ρ h=some (v,h'))(hx:VR β (ρ x) (ρ' x))(hW:WR P β h w):
 Good P β h w (execOp ρ' ⟨dst,.fieldAddr s x f,type,pos,after,guard⟩) v h':=by
 simp only[cop]at hc;split at hc
 .rename_i fs hu;split at hc
  .rename_i fd F4;cases hs:nT P fd.type with
   |none=>simp[hs]at hc
   |some n=>
    simp only[hs,kD,aI]at hc;subst hc;obtain⟨hs1,hs2⟩:=uy hs;simp only[aF.run]at hr;split at hr
    .rename_i i o ha;rw[ha]at hx;obtain⟨g,hg,hx'⟩:=hx.vT;simp only[aI,cB]at hr;obtain⟨rfl,rfl⟩:=hr;refine Good.same hW (v':=.pointer (some ⟨g.b,g.off+(o+fd.offset),none⟩)) ?_ (.ptr hg);simp only[execOp,Instr.fieldAt,dm,fE hu,dB,F4,hx',Instr.sureAddr,ed,acW hs1 hs2,addr_add,kE]
    .cases hr
  .cases hc
 .cases hc
def TN{cs cs':ae ah}{off:Nat}{d:TypeDesc}(hd:P.underlying t=some d)(hs:jE P t=some n)(hv:aQ β cs cs')(hall:cs.all cellV=true){v:ah}
 (hr:(match kv P t with
   |true=>match jh (jU cs off) n with
    |some l=>some (.agg ⟨l⟩:ah)
    |none=>none
   |false=>ko cs off)=some v) (w:World):∃v',(part t ⟨cs'⟩ off).run P w=.ok v' w/\VR β v v':=by
 cases hagg:kv P t with
 |true=>
  rw[hagg]at hr;simp only at hr;rw[pE,oH]at hr;split at hr
  .rename_i l hl;split at hl
   .rename_i hn;cases hl;simp only[aI]at hr;subst hr;refine⟨.agg ⟨(cs'.drop off).take n⟩,?_,.agg ?_ ((hv.drop off).take n)⟩
    .simp only[part,dm,DL hd,hagg,dB,if_true,nJ hs,ed];congr 2;apply Array.ext';simp[Array.toList_extract,Sw]
    .rw[iE]at hall⊢;exact λx hx=>hall x (Dj (Bt hx))
   .cases hl
  .cases hr
 |false=>
  rw[hagg]at hr;simp only at hr;rw[rP]at hr;obtain⟨v',h1,h2⟩:=hv.get hr;refine⟨v',?_,h2⟩;simp only[part,dm,DL hd,hagg,dB,uh,if_false];have:(⟨cs'⟩:Array ah)[off]? =some v':=r6
  simp[this]
def acY(hc:cop P ⟨dst,.field t x f,type,pos,after,guard⟩=some c)(hr:c.run P ρ h=some (v,h'))(hx:VR β (ρ x) (ρ' x))(hW:WR P β h w):
 Good P β h w (execOp ρ' ⟨dst,.field t x f,type,pos,after,guard⟩) v h':=by
 simp only[cop]at hc;split at hc
 .rename_i fs hu;split at hc
  .rename_i fd F4;split at hc
   .rename_i n d hs hd;cases hc;simp only[aF.run]at hr;split at hr
    .rename_i cs ha;rw[ha]at hx;obtain⟨cs',h1,h2,hx'⟩:=hx.NB;have hr':h'=h/\(match kv P fd.type with
      |true=>match jh (jU cs fd.offset) n with
       |some l=>some (.agg ⟨l⟩:ah)
       |none=>none
      |false=>ko cs fd.offset)=some v:=by
      cases hagg:kv P fd.type with
      |true=>
       exact pZ
      |false=>
       exact pZ
     obtain⟨rfl,hr2⟩:=hr';obtain⟨v',p1,p2⟩:=TN hd hs h1 h2 hr2 w;refine Good.same hW (v':=v') ?_ p2;simp only[execOp,Instr.field,dm,fE hu,dB,F4,hx',asAgg,ed,p1]
    .cases hr
   .cases hc
  .cases hc
 .cases hc
def acZ(hc:cop P ⟨dst,.indexAddr t x y,type,pos,after,guard⟩=some c)(hr:c.run P ρ h=some (v,h'))(hx:VR β (ρ x) (ρ' x))(hy:VR β (ρ y) (ρ' y))(hW:WR P β h w):
 Good P β h w (execOp ρ' ⟨dst,.indexAddr t x y,type,pos,after,guard⟩) v h':=by
 simp only[cop]at hc;split at hc
 .rename_i n e hu;cases hs:nT P e with
  |none=>simp[hs]at hc
  |some s=>
   simp only[hs,kD,aI]at hc;subst hc;obtain⟨hs1,hs2⟩:=uy hs;simp only[aF.run]at hr;split at hr
   .rename_i b o k i ha hi;rw[ha]at hx;rw[hi]at hy;obtain⟨g,hg,hx'⟩:=hx.vT;have hy':=hy.mq;cases hb:Nat.blt i n with
    |false=>rw[hb]at hr;cases hr
    |true=>
     rw[hb]at hr;simp only[cond_true,aI,cB]at hr;obtain⟨rfl,rfl⟩:=hr;have hlt:i<n:=r7
     refine Good.same hW (v':=.pointer (some ⟨g.b,g.off+Nat.add o (Nat.mul i s),none⟩)) ?_ (.ptr hg);simp only[execOp,Instr.indexAt,dm,hy',asIntOf,ed,dB,fE hu,hx',Instr.sureAddr];exact nn
   .cases hr
 .rename_i e hu;cases hs:nT P e with
  |none=>simp[hs]at hc
  |some s=>
   simp only[hs,kD,aI]at hc;subst hc;obtain⟨hs1,hs2⟩:=uy hs;simp only[aF.run]at hr;split at hr
   .rename_i b o f n k' k i ha hi;rw[ha]at hx;rw[hi]at hy;obtain⟨g,a,c',hg,hx',ha1,ha2,hn,hcc,hoff,_⟩:=hx.mD;have hy':=hy.mq;cases hb:Nat.blt i n with
    |false=>rw[hb]at hr;cases hr
    |true=>
     rw[hb]at hr;simp only[cond_true,aI,cB]at hr;obtain⟨rfl,rfl⟩:=hr;have hlt:i<n:=r7
     have hae:a=⟨g.b,g.off+o,none⟩:=by
      rcases hoff with h0|⟨h0,ha2⟩
      .omega
      .obtain⟨ab,ao,as⟩:=a;simp at ha1 ha2 h0;subst ha1 ha2 h0;rfl
     refine Good.same hW (v':=.pointer (some ⟨g.b,g.off+Nat.add o (Nat.mul i s),none⟩)) ?_ (.ptr hg);simp only[execOp,Instr.indexAt,dm,hy',asIntOf,ed,dB,fE hu,hx',hae];exact nn
   .cases hr
 .cases hc
def ac0{i:Nat}(hc:cop P ⟨dst,.extract x i,type,pos,after,guard⟩=some c)(hr:c.run P ρ h=some (v,h'))(hx:VR β (ρ x) (ρ' x))(hW:WR P β h w):
 Good P β h w (execOp ρ' ⟨dst,.extract x i,type,pos,after,guard⟩) v h':=by
 simp only[cop,aI]at hc;subst hc;simp only[aF.run]at hr;split at hr
 .rename_i vs ha;split at hr
  .rename_i u hu;simp only[aI,cB]at hr;obtain⟨rfl,rfl⟩:=hr;rw[ha]at hx;rw[rP]at hu;generalize hy:ρ' x=y at hx;cases hx with
   |dH=>simp at hu
   |tuple hl=>
    obtain⟨v',h1,h2⟩:=hl.get hu;refine Good.same hW (v':=v') ?_ h2;rename_i l';have:(⟨l'⟩:Array ah)[i]? =some v':=r6
    simp[execOp,Instr.extract,hy,this]
  .cases hr
 .cases hr
end
end Go.Ideal
namespace Go.Ideal
variable {P:Program} {β:aD} {h:IH} {w:World}
variable{m i:Nat}{v:ah}
def Cb(h:upTo m v=some i):∃k,v=.int k i/\i<=m:=by
 unfold upTo at h;split at h
 .rename_i k n;cases hb:Nat.ble n m with
  |true=>rw[hb]at h;simp only[cond_true,aI]at h;subst h;exact⟨k,rfl,lg hb⟩
  |false=>rw[hb]at h;cases h
 .cases h
def yH{y:Nat}{code:BoundsCode}(h:upTo m v=some i)(hm:m<=y)(w:World):(Instr.sliceBound v y code).run P w=.ok i w:=by
 obtain⟨k,rfl,hle⟩:=Cb h;simp only[Instr.sliceBound,asIntOf,dm,ed,dB];rw[if_pos ⟨p0,p0⟩];simp
variable{len cap l hh:Nat}{lo hi mx:aj ah}
def F6(h:bounds? len cap lo hi mx=some (l,hh,m)):
 (∀v,mx=some v->upTo cap v=some m)/\(mx=none->m=cap)/\(∀v,hi=some v->upTo m v=some hh)/\(hi=none->mx=none/\hh=len)/\
 (∀v,lo=some v->upTo hh v=some l)/\(lo=none->l=0):=by
 unfold bounds? at h;split at h
 .cases h
 .rename_i m' hm;split at h
  .cases h
  .rename_i h1 hhi;split at h
   .cases h
   .rename_i l1 hlo;simp only[aI,cB]at h;obtain⟨rfl,rfl,rfl⟩:=h;refine⟨?_,?_,?_,?_,?_,?_⟩
    .rintro v rfl;exact hm
    .rintro rfl;simp at hm;exact hm.symm
    .rintro v rfl;exact hhi
    .rintro rfl;cases mx with
     |some v=>simp at hhi
     |none=>simp at hhi;exact⟨rfl,hhi.symm⟩
    .rintro v rfl;exact hlo
    .rintro rfl;simp at hlo;exact hlo.symm
def NH(h:bounds? len cap lo hi mx=some (l,hh,m))(hlc:len<=cap):l<=hh/\hh<=m/\m<=cap:=by
 obtain⟨h1,h2,h3,h4,h5,h6⟩:=F6 h;refine⟨?_,?_,?_⟩
 .cases lo with
  |some v=>obtain⟨_,_,hle⟩:=Cb (h5 v rfl);exact hle
  |none=>rw[h6 rfl];exact bS _
 .cases hi with
  |some v=>obtain⟨_,_,hle⟩:=Cb (h3 v rfl);exact hle
  |none=>obtain⟨q1,q2⟩:=h4 rfl;rw[q2,h2 q1];exact hlc
 .cases mx with
  |some v=>obtain⟨_,_,hle⟩:=Cb (h1 v rfl);exact hle
  |none=>rw[h2 rfl];exact bz _
def Jk{F7:Bool}{cap':Nat}(h:bounds? len cap lo hi mx=some (l,hh,m))(hc:cap<=cap')(w:World):
 (Instr.sliceBounds F7 len cap' lo hi mx).run P w=.ok (l,hh,if mx.isSome then m else cap') w:=by
 obtain⟨h1,h2,h3,h4,h5,h6⟩:=F6 h;unfold Instr.sliceBounds;cases mx with
 |some v=>
  have h1:=h1 v rfl;cases hi with
  |none=>exact absurd (h4 rfl).1 qe
  |some u=>
   have h3:=h3 u rfl;cases lo with
   |none=>have h6:=h6 rfl;subst h6;simp[yH h1 hc,yH h3 (bz _)]
   |some x=>have h5:=h5 x rfl;simp[yH h1 hc,yH h3 (bz _),yH h5 (bz _)]
 |none=>
  have h2:=h2 rfl;subst h2;cases hi with
  |none=>
   obtain⟨_,rfl⟩:=h4 rfl;cases lo with
   |none=>have h6:=h6 rfl;subst h6;simp
   |some x=>have h5:=h5 x rfl;simp[yH h5 (bz _)]
  |some u=>
   have h3:=h3 u rfl;cases lo with
   |none=>have h6:=h6 rfl;subst h6;simp[yH h3 hc]
   |some x=>have h5:=h5 x rfl;simp[yH h3 hc,yH h5 (bz _)]
def NI(h:bounds? len cap lo hi mx=some (l,hh,m)):(if mx.isSome then m else cap)=m:=by
 obtain⟨_,h2,_⟩:=F6 h;cases mx with
 |some v=>rfl
 |none=>rw[h2 rfl];rfl
def NJ{lo hi mx:aj ak}{ρ ρ':ak->ah}{r:Nat×Nat×Nat}(h:bounds? len cap (ja ρ lo) (ja ρ hi) (ja ρ mx)=some r)
 (hl:∀x,lo=some x->VR β (ρ x) (ρ' x)) (hh:∀x,hi=some x->VR β (ρ x) (ρ' x)) (hm:∀x,mx=some x->VR β (ρ x) (ρ' x)):
 lo.map ρ'=ja ρ lo/\hi.map ρ'=ja ρ hi/\mx.map ρ'=ja ρ mx:=by
 obtain⟨l,hi2,m⟩:=r;obtain⟨h1,_,h3,_,h5,_⟩:=F6 h;refine⟨?_,?_,?_⟩
 .cases lo with
  |none=>rfl
  |some x=>
   obtain⟨k,hk,_⟩:=Cb (h5 _ rfl);have:=hl x rfl;exact oe
 .cases hi with
  |none=>rfl
  |some x=>
   obtain⟨k,hk,_⟩:=Cb (h3 _ rfl);have:=hh x rfl;exact oe
 .cases mx with
  |none=>rfl
  |some x=>
   obtain⟨k,hk,_⟩:=Cb (h1 _ rfl);have:=hm x rfl;exact oe
section
variable {dst:aj Tmp} {type:aB} {pos:String} {after:Array Edge} {guard:aj (Nat×Bool)} {c:aF} {ρ ρ':ak->ah} {v:ah} {h':IH}
def ac1{t:aB}{x:ak}{lo hi mx:aj ak}(hc:cop P ⟨dst,.slice t x lo hi mx,type,pos,after,guard⟩=some c)(hr:c.run P ρ h=some (v,h'))(hx:VR β (ρ x) (ρ' x))
 (hl:∀x,lo=some x->VR β (ρ x) (ρ' x)) (hh:∀x,hi=some x->VR β (ρ x) (ρ' x)) (hm:∀x,mx=some x->VR β (ρ x) (ρ' x)) (hW:WR P β h w):
 Good P β h w (execOp ρ' ⟨dst,.slice t x lo hi mx,type,pos,after,guard⟩) v h':=by
 simp only[cop]at hc;split at hc
 .
  rename_i hu;cases hc;simp only[aF.run]at hr;split at hr
  .rename_i s hs;split at hr
   .rename_i b hb;split at hr
    .rename_i u hu2;simp only[aI,cB]at hr;obtain⟨rfl,rfl⟩:=hr;obtain⟨h1,h2⟩:=F5 hu2;rw[hs]at hx;have hx':=hx.Ae;obtain⟨e1,e2,e3⟩:=NJ hb hl hh hm;refine Good.same hW (v':=u) ?_ (VR.free h2);simp only[execOp,Instr.sliceAt,dm,fE hu,dB,hx',e1,e2,e3,Ad h1 w,ed]
    .cases hr
   .cases hr
  .cases hr
 .
  rename_i n e hu;cases hs:nT P e with
  |none=>simp[hs]at hc
  |some s=>
   simp only[hs,kD,aI]at hc;subst hc;obtain⟨hs1,hs2⟩:=uy hs;simp only[aF.run]at hr;split at hr
   .rename_i i o ha;split at hr
    .rename_i l h1 m hb;simp only[aI,cB]at hr;obtain⟨rfl,rfl⟩:=hr;rw[ha]at hx;obtain⟨g,hg,hx'⟩:=hx.vT;obtain⟨e1,e2,e3⟩:=NJ hb hl hh hm;have b1:=Jk (P:=P) (F7:=false) hb (bz _) w;rw[NI hb]at b1;have hlen:=NH hb (bz _);refine Good.same hW (v':=.slice (some (if m=l then(⟨g.b,g.off+o,none⟩:Addr)else(⟨g.b,g.off+o,none⟩:Addr).add (l*s))) (h1 - l) (m - l)) ?_ ?_
     .simp only[execOp,Instr.sliceAt,dm,fE hu,dB,hx',Instr.sureAddr,ed,e1,e2,e3,b1,nJ hs1]
     .refine .az hg ?_ tg ?_
      .split<;>simp[addr_add]
      .by_cases hml:m=l
       .left;show m - l=0;omega
       .right;rw[if_neg hml,addr_add];simp[kE]
    .cases hr
   .cases hr
 .
  rename_i e hu;cases hs:nT P e with
  |none=>simp[hs]at hc
  |some s=>
   simp only[hs,kD,aI]at hc;subst hc;obtain⟨hs1,hs2⟩:=uy hs;simp only[aF.run]at hr;split at hr
   .rename_i a len cap ha;split at hr
    .rename_i l h1 m hb;rw[ha]at hx;obtain⟨e1,e2,e3⟩:=NJ hb hl hh hm;split at hr
     .
      simp only[aI,cB]at hr;obtain⟨rfl,rfl⟩:=hr;have hx':ρ' x=.slice none len cap:=by generalize ρ' x=y at hx;cases hx;rfl
      have b1:=Jk (P:=P) (F7:=true) hb (bz _) w;rw[NI hb]at b1;refine Good.same hW (v':=.slice none (h1 - l) (m - l)) ?_ (.sl0 _ _);exact j7
     .
      rename_i i o;simp only[aI,cB]at hr;obtain⟨rfl,rfl⟩:=hr;obtain⟨g,a',c',hg,hx',ha1,ha2,hn,hcc,hoff,hkind⟩:=hx.mD;have hc':c'=cap:=by
       rcases hkind with hk|hk
       .exact hk.2
       .have:=hk.1;simp at this;omega
      subst hc';have b1:=Jk (P:=P) (F7:=true) hb (bz _) w;rw[NI hb]at b1;have hlen:=NH hb hn;obtain⟨ab,ao,as⟩:=a';simp only at ha1 hoff;subst ha1;refine Good.same hW (v':=.slice (some (if m=l then(⟨g.b,ao,as⟩:Addr)else(⟨g.b,ao,as⟩:Addr).add (l*s))) (h1 - l) (m - l)) ?_ ?_
      .exact j7
      .refine .az hg ?_ tg ?_
       .split
        .rfl
        .simp only[Addr.add];split<;>rfl
       .by_cases hml:m=l
        .left;show m - l=0;omega
        .right;rw[if_neg hml];rcases hoff with h0|⟨h0,hs0⟩
         .omega
         .subst h0 hs0;rw[addr_add];simp[kE]
     .
      rename_i i o k;cases hbk:Nat.beq (Nat.succ k) s with
      |false=>rw[hbk]at hr;cases hr
      |true=>
       rw[hbk]at hr;have hks:k+1=s:=rq hbk;simp only[cond_true,aI,cB]at hr;obtain⟨rfl,rfl⟩:=hr;obtain⟨g,a',c',hg,hx',ha1,ha2,hn,hcc,hoff,hkind⟩:=hx.mD;obtain⟨hsz,hpos,hl1,hl2,ha2⟩:g.sz=s/\0<g.sz/\o+cap*g.sz=g.len/\g.off+o+c'*g.sz=g.top/\a'.spot=none:=by
        rcases hkind with hk|hk
        .have:=hk.1;simp at this
        .have:=hk.1;simp at this;exact⟨p0,hk.2.1,hk.2.2.1,hk.2.2.2⟩
       have b1:=Jk (P:=P) (F7:=true) hb hcc w;have hlen:=NH hb hn;have NK:c'=0\/a'.off=g.off+o:=hoff.imp id (·.1);clear hoff;obtain⟨ab,ao,as⟩:=a';simp only at ha1 ha2 NK;subst ha1 ha2;have hrun:∀m',(Instr.sliceBounds true len c' (ja ρ lo) (ja ρ hi) (ja ρ mx)).run P w=.ok (l,h1,m') w->
        (execOp ρ' ⟨dst,.slice t x lo hi mx,type,pos,after,guard⟩).run P w=.ok (.value (.slice (some (if m'=l then(⟨g.b,ao,none⟩:Addr)else(⟨g.b,ao,none⟩:Addr).add (l*s))) (h1 - l) (m' - l))) w:=by
        intro m' hm';simp only[execOp,Instr.sliceAt,Instr.slice,dm,fE hu,dB,hx',e1,e2,e3,hm',nJ hs1,ed];split<;>rfl
       cases hmx:mx with
       |some xx=>
        subst hmx;have hmm:(if(ja ρ (some xx)).isSome then m else c')=m:=rfl;rw[hmm]at b1;refine Good.same hW (hrun m b1) ?_;refine .az hg ?_ tg ?_
        .split<;>simp[addr_add]
        .by_cases hml:m=l
         .left;show m - l=0;omega
         .right;rw[if_neg hml,addr_add];rcases NK with h0|h0
          .omega
          .have h0':ao=g.off+o:=h0;refine⟨?_,rfl⟩;show ao+l*s=g.off+(o+l*s)
           omega
       |none=>
        subst hmx;have hmm:(if(ja ρ (none:aj ak)).isSome then m else c')=c':=rfl;rw[hmm]at b1;have ac2:m=cap:=by
         obtain⟨_,q1,_⟩:=F6 hb;exact q1 rfl
        subst ac2;refine Good.same hW (hrun c' b1) ?_;have ac3:(some (Nat.succ k):aj Nat)=some g.sz:=by rw[hsz,<- hks]
        simp only[ac3];have hlc:l*s+(m - l)*s=m*s:=by rw[<- qx];congr 1;omega
        have aq5:l*s+(c' - l)*s=c'*s:=by rw[<- qx];congr 1;omega
        refine .nU hg ?_ ?_ tg hpos ?_ ?_ (by show m - l<=c' - l;omega) ?_
        .split<;>simp[addr_add]
        .split<;>simp[addr_add]
        .show o+l*s+(m - l)*g.sz=g.len;rw[hsz]at hl1⊢;omega
        .show g.off+(o+l*s)+(c' - l)*g.sz=g.top;rw[hsz]at hl2⊢;omega
        .by_cases hml:c'=l
         .left;omega
         .right;rw[if_neg hml,addr_add];rcases NK with h0|h0
          .omega
          .subst h0;simp[kE]
     .cases hr
    .cases hr
   .cases hr
 .cases hc
end
end Go.Ideal
namespace Go.Ideal
variable {P:Program} {β:aD} {h:IH} {w:World}
def eF{α γ:Type}(s:Sem α)(f:α->Sem γ):bX P (s>>=f)=(bX P s).bind λa=>bX P (f a):=by
 show bX P (Sem.bind s f)=_;induction s with
 |pure a=>rfl
 |program k ih=>exact ih _
 |mark m k ih=>exact ih
 |_=>rfl
variable{kt:aB}{k:ah}
def NL(h:rC P kt k=true)(b:Bool)(w:World):(Instr.checkKey b 10000 kt k).run P w=.ok () w:=by
 unfold rC at h;simp only[dG]at h;obtain⟨_,h⟩:=h;split at h
 .rename_i x y hx hy;cases b
  .exact Ad hy w
  .exact Ad hx w
 .cases h
def NM(h:rC P kt k=true):bR k=true:=by
 unfold rC at h;simp only[dG]at h;exact h.1
inductive F8(β:aD):Option (Nat×Value)->Option (Nat×Value)->Prop
 |none:F8 β none none
 |some (i:Nat) {v v':Value} (h:VR β v v'):F8 β (some (i,v)) (some (i,v'))
variable{es es':ae MapEntry}
def ac4{kd:TypeDesc}(he:fP β es es'):∀(i:Nat),
 (∀r,Instr.findNow kd k es i=some r->∃r',Instr.findNow kd k es' i=some r'/\F8 β r r')/\(Instr.findNow kd k es i=none->Instr.findNow kd k es' i=none):=by
 induction he with
 |nil=>intro i;exact⟨λr hr=>by simp only[Instr.findNow,aI]at hr;subst hr;exact⟨_,rfl,.none⟩,λhr=>by simp[Instr.findNow]at hr⟩
 | @cons e e' l l' hk hf hb hv hl ih=>
   intro i;simp only[Instr.findNow,hk];cases hs:Instr.sameNow kd k e.key with
   |none=>exact⟨λr hr=>(by cases hr),λ_=>rfl⟩
   |some b=>cases b with
    |true=>exact⟨λr hr=>by simp only[aI]at hr;subst hr;exact⟨_,rfl,.some i hv⟩,λhr=>by simp at hr⟩
    |false=>exact ih (i+1)
def ac5(he:fP β es es')(w:World):∀(i:Nat) r,
 bX P (Instr.findAsking kt k es i)=some r->∃r',(Instr.findAsking kt k es' i).run P w=.ok r' w/\F8 β r r':=by
 induction he with
 |nil=>intro i r hr;simp only[Instr.findAsking]at hr;change some none=some r at hr;simp only[aI]at hr;subst hr;exact⟨none,rfl,.none⟩
 | @cons e e' l l' hk hf hb hv hl ih=>
   intro i r hr;simp only[Instr.findAsking,eF]at hr;cases hq:bX P (Op.equal kt k e.key)with
   |none=>rw[hq]at hr;cases hr
   |some b=>
    rw[hq]at hr;simp only[Instr.findAsking,hk,dm,Ad hq w,dB];cases b with
    |true=>
     change some (some (i,e.val))=some r at hr
     simp only[aI]at hr;subst hr;exact⟨_,rfl,.some i hv⟩
    |false=>exact ih (i+1) r hr
def TP(he:fP β es es')(w:World){r:aj (Nat×ah)}(hr:uo P kt k es=some r):
 ∃r',(Instr.findKey kt k es').run P w=.ok r' w/\F8 β r r':=by
 unfold uo Instr.findKey at hr;rw[eF]at hr;cases hu:P.underlying kt with
 |none=>
  have:bX P (underlying kt)=none:=by simp[underlying,program,bX,hu,bind,Sem.bind,stuck]
  rw[this]at hr;cases hr
 |some d=>
  have:bX P (underlying kt)=some d:=by simp[underlying,program,bX,hu,bind,Sem.bind];rfl
  rw[this]at hr;simp only[gy]at hr;obtain⟨n1,n2⟩:=ac4 (β:=β) (kd:=d) (k:=k) he 0;simp only[Instr.findKey,dm,fE hu,dB];split at hr
  .rename_i r1 hr1;change some r1=some r at hr
   simp only[aI]at hr;subst hr;obtain⟨r',h1,h2⟩:=n1 _ hr1;rw[h1];exact⟨r',rfl,h2⟩
  .rename_i hr1;rw[n2 hr1];exact ac5 he w 0 r hr
def TQ{m m':ah}(hW:WR P β h w)(hm:VR β m m')(he:entriesOf m h=some es):
 (m=.map none/\m'=.map none/\es=[])\/∃i g es' clock clock',m=.map (some i)/\h.get i=some (.map es clock)/\β i=some g/\m'=.map (some g.b)/\w.heap[g.b]? =some (.map es' clock')/\clock'=clock/\fP β es es'.toList:=by
 unfold entriesOf at he;split at he
 .simp only[aI]at he;subst he;left;cases hm;exact⟨rfl,rfl,rfl⟩
 .rename_i i;split at he
  .rename_i es1 clock hg;simp only[aI]at he;subst he;obtain⟨g,hb,rfl⟩:=hm.DR;obtain⟨es',h1,h2⟩:=hW.obj i g _ hb hg;exact .inr ⟨i,g,es',clock,clock,rfl,hg,hb,rfl,h1,rfl,h2⟩
  .cases he
 .cases he
def fP.length{l l':ae MapEntry}(he:fP β l l'):l'.length=l.length:=by
 induction he with
 |nil=>rfl
 |cons _ _ _ _ _ ih=>simp[ih]
variable{b:Nat}{o:Obj}
def yI(h:w.heap[b]? =some o)(hn:∀c t f,o≠.cells c t f):(getObj b).run P w=.ok o w:=by
 simp only[getObj,Sem.run,h]
def NN{o0:Obj}(h:w.heap[b]? =some o0)(hn:∀c t f,o0≠.cells c t f):(setObj b o).run P w=.ok () {w with heap:=w.heap.setIfInBounds b o}:=by
 simp only[setObj,Sem.run,h]
def F9(ok:Bool)(z:ah):aj (Nat×ah)->ah
 |some (_,v)=>if ok then .tuple #[v,.bool true]else v
 |none=>if ok then .tuple #[z,.bool false]else z
def ac6{t et:aB}(hu:P.underlying t=some (.map kt et)){m k:ah}{es:Array MapEntry}(hm:(m=.map none/\es= #[])\/∃b clock,m=.map (some b)/\w.heap[b]? =some (.map es clock))
 (hck:(Instr.checkKey es.isEmpty 10000 kt k).run P w=.ok () w) {r:aj (Nat×ah)} (hf:(Instr.findKey kt k es.toList).run P w=.ok r w) {z:ah} (hz:zeroOf P et=some z) {ok:Bool}:
 (Instr.lookup t m k ok).run P w=.ok (F9 ok z r) w:=by
 rcases hm with⟨rfl,rfl⟩|⟨b,clock,rfl,hb⟩
 .simp only[Instr.lookup,dm,fE hu,dB,ed,hck,hf];exact pS
 .simp only[Instr.lookup,dm,fE hu,dB,ed,yI hb qe,hck,hf];exact pS
section
variable {dst:aj Tmp} {type:aB} {pos:String} {after:Array Edge} {guard:aj (Nat×Bool)} {c:aF} {ρ ρ':ak->ah} {v:ah} {h':IH}
def ac7{t:aB}{m k:ak}{ok:Bool}(hc:cop P ⟨dst,.lookup t m k ok,type,pos,after,guard⟩=some c)(hr:c.run P ρ h=some (v,h'))(hm:VR β (ρ m) (ρ' m))(hk:VR β (ρ k) (ρ' k))(hW:WR P β h w):
 Good P β h w (execOp ρ' ⟨dst,.lookup t m k ok,type,pos,after,guard⟩) v h':=by
 simp only[cop]at hc;split at hc
 .rename_i kt et hu;cases hz:zeroOf P et with
  |none=>simp[hz]at hc
  |some z=>
   simp only[hz,kD,aI]at hc;subst hc;obtain⟨_,_,_,Ga⟩:=DJ hz;simp only[aF.run]at hr;split at hr
   .rename_i u hl;simp only[aI,cB]at hr;obtain⟨rfl,rfl⟩:=hr;unfold BK at hl;split at hl
    .cases hl
    .rename_i es hes;cases hck:rC P kt (ρ k)with
     |false=>rw[hck]at hl;cases hl
     |true=>
      rw[hck]at hl;simp only[cond_true]at hl;have hk':=hk.pF (NM hck);cases hf:uo P kt (ρ k) es with
      |none=>rw[hf]at hl;cases hl
      |some r=>
       rw[hf]at hl;obtain⟨es',he1,he2⟩:∃es':Array MapEntry,((ρ' m=.map none/\es'= #[])\/∃b clock,ρ' m=.map (some b)/\w.heap[b]? =some (.map es' clock))/\fP β es es'.toList:=by
        rcases TQ hW hm hes with⟨_,h2,h3⟩|⟨i,g,es',clock,clock',_,_,_,h4,h5,_,h6⟩
        .subst h3;exact⟨#[],.inl ⟨h2,rfl⟩,.nil⟩
        .exact⟨es',.inr ⟨_,_,h4,h5⟩,h6⟩
       obtain⟨r',f1,f2⟩:=TP he2 w hf;have hrun:=ac6 (ok:=ok) hu he1 (NL hck _ w) f1 hz;rw[<- hk']at hrun;cases f2 with
       |none=>
        simp only[aI]at hl;refine Good.same hW (yG hrun) ?_;subst hl;cases ok
        .exact VR.free Ga
        .exact .tuple (.cons (VR.free Ga) (.cons (.bool _) .nil))
       |some i hv=>
        simp only[aI]at hl;refine Good.same hW (yG hrun) ?_;subst hl;cases ok
        .exact hv
        .exact .tuple (.cons hv (.cons (.bool _) .nil))
   .cases hr
 .cases hc
end
end Go.Ideal
namespace Go.Ideal
variable {P:Program} {β:aD} {h:IH} {w:World}
variable{l l':ae MapEntry}
def fP.get(he:fP β l l'){i:Nat}{e:MapEntry}(hi:l[i]? =some e):∃e',l'[i]? =some e'/\e'.key=e.key/\bR e.key=true/\e'.born=e.born/\VR β e.val e'.val:=by
 induction he generalizing i with
 |nil=>simp at hi
 |cons hk hf hb hv hl ih=>
  cases i with
  |zero=>simp at hi;subst hi;exact⟨_,qe,hk,hf,hb,hv⟩
  |succ i=>simp at hi;obtain⟨e',h1,h2⟩:=ih hi;exact⟨e',by simpa using h1,h2⟩
def fP.modify(he:fP β l l'){f f':MapEntry->MapEntry}(i:Nat)
 (hff:∀e e',e'.key=e.key->bR e.key=true->e'.born=e.born->VR β e.val e'.val->(f' e').key=(f e).key/\bR (f e).key=true/\(f' e').born=(f e).born/\VR β (f e).val (f' e').val):
 fP β (l.modify i f) (l'.modify i f'):=by
 induction he generalizing i with
 |nil=>cases i<;>exact .nil
 |cons hk hf hb hv hl ih=>
  cases i with
  |zero=>obtain⟨a,b,c,d⟩:=hff _ _ hk hf hb hv;exact .cons a b c d hl
  |succ i=>exact .cons hk hf hb hv (ih i)
def fP.push(he:fP β l l'){e e':MapEntry}(h1:e'.key=e.key)(h2:bR e.key=true)(h3:e'.born=e.born)(h4:VR β e.val e'.val):fP β (l++[e]) (l'++[e']):=by
 induction he with
 |nil=>exact .cons h1 h2 h3 h4 .nil
 |cons hk hf hb hv hl ih=>exact .cons hk hf hb hv ih
def Gb{b:Nat}{o:Obj}(hb:b<w.heap.size):let w1:World:={w with heap:=w.heap.setIfInBounds b o}
 w1.heap.size=w.heap.size/\(∀x,x≠b->w1.heap[x]? =w.heap[x]?)/\w1.heap[b]? =some o:=by
 refine⟨qe,λx hx=>?_,?_⟩
 .show(w.heap.setIfInBounds b o)[x]? =_;rw[IK p0]
 .show(w.heap.setIfInBounds b o)[b]? =_;simp[hb]
section
variable {dst:aj Tmp} {type:aB} {pos:String} {after:Array Edge} {guard:aj (Nat×Bool)} {c:aF} {ρ ρ':ak->ah} {v:ah} {h':IH}
variable{t kt et:aB}
def TR(hu:P.underlying t=some (.map kt et)){b clock:Nat}{es:Array MapEntry}{k x:ah}(hb:w.heap[b]? =some (.map es clock))
 (hck:(Instr.checkKey false 10000 kt k).run P w=.ok () w) {r:aj (Nat×ah)} (hf:(Instr.findKey kt k es.toList).run P w=.ok r w)
 (hs:∀i v,r=some (i,v)->∃e,es[i]? =some e/\Instr.sameBits 10000 e.key k=true):
 (Instr.mapUpdate t (.map (some b)) k x).run P w=.ok () {w with heap:=w.heap.setIfInBounds b (match r with
   |some (i,_)=>.map (es.modify i λe=>{e with key:=k,val:=x}) clock
   |none=>.map (es.push {key:=k,val:=x,born:=clock}) (clock+1))}:=by
 simp only[Instr.mapUpdate,dm,fE hu,dB,yI hb qe,hck,hf];cases r with
 |none=>exact NN hb qe
 |some p=>
  obtain⟨i,v⟩:=p;obtain⟨e,h1,h2⟩:=hs i v rfl;simp only[h1,kD,wT,Instr.keyThatStays,h2,if_true,dm,ed,dB];exact NN hb qe
def TS(hu:P.underlying t=some (.map kt et)){m m' k k' x x':ah}{h2:IH}(hr:FE P kt m k x h=some h2)(hm:VR β m m')(hk:VR β k k')(hx:VR β x x')(hW:WR P β h w):
 ∃w',(Instr.mapUpdate t m' k' x').run P w=.ok () w'/\WR P β h2 w'/\Eff β h w β h2 w':=by
 unfold FE at hr;split at hr
 .rename_i i;split at hr
  .rename_i es clock hg;obtain⟨g,hb,rfl⟩:=hm.DR;obtain⟨es',o1,o2⟩:=hW.obj i g _ hb hg;cases hck:rC P kt k with
   |false=>rw[hck]at hr;cases hr
   |true=>
    rw[hck]at hr;simp only[cond_true]at hr;have hk':=hk.pF (NM hck);subst hk';have hfree:=NM hck;have hlt:g.b<w.heap.size:=by
     exact mB
    cases hf:uo P kt k' es with
    |none=>rw[hf]at hr;cases hr
    |some r=>
     rw[hf]at hr;obtain⟨r',f1,f2⟩:=TP o2 w hf;cases f2 with
     |none=>
      simp only[aI]at hr;subst hr;have hrun:=TR (x:=x') hu o1 (NL hck false w) f1 qe;obtain⟨p1,p2,p3⟩:=Gb (w:=w) (o:=.map (es'.push {key:=k',val:=x',born:=clock}) (clock+1)) hlt;refine⟨_,hrun,hW.write hb hg _ p1 p2 rfl rfl rfl (bz _) ⟨_,p3,?_⟩⟩;rw[jc,Array.toList_push];exact o2.push rfl hfree rfl hx
     |some j hv=>
      simp only at hr;split at hr
      .rename_i e he;rw[rP]at he;obtain⟨e',q1,q2,q3,q4,q5⟩:=o2.get he;cases hs:Instr.sameBits 10000 e.key k' with
       |false=>rw[hs]at hr;cases hr
       |true=>
        rw[hs]at hr;simp only[cond_true,aI]at hr;subst hr;have hrun:=TR (x:=x') hu o1 (NL hck false w) f1 (λi v TT=>by
         simp only[aI,cB]at TT;obtain⟨rfl,_⟩:=TT;exact⟨e',by simpa using q1,by rw[q2];exact hs⟩)
        obtain⟨p1,p2,p3⟩:=Gb (w:=w) (o:=.map (es'.modify j λe=>{e with key:=k',val:=x'}) clock) hlt;refine⟨_,hrun,hW.write hb hg _ p1 p2 rfl rfl rfl (bz _) ⟨_,p3,?_⟩⟩;rw[Tx,Array.toList_modify];exact o2.modify j λe e' a b c d=>⟨rfl,hfree,c,hx⟩
      .cases hr
  .cases hr
 .cases hr
variable{x m k:ak}
def ac9(hc:cop P ⟨dst,.mapUpdate t m k x,type,pos,after,guard⟩=some c)(hr:c.run P ρ h=some (v,h'))(hm:VR β (ρ m) (ρ' m))(hk:VR β (ρ k) (ρ' k))(hx:VR β (ρ x) (ρ' x))(hW:WR P β h w):
 Good P β h w (execOp ρ' ⟨dst,.mapUpdate t m k x,type,pos,after,guard⟩) v h':=by
 simp only[cop]at hc;split at hc
 .exact de
 .cases hc
def ada(hc:cop P ⟨dst,.insert t m k x,type,pos,after,guard⟩=some c)(hr:c.run P ρ h=some (v,h'))(hm:VR β (ρ m) (ρ' m))(hk:VR β (ρ k) (ρ' k))(hx:VR β (ρ x) (ρ' x))(hW:WR P β h w):
 Good P β h w (execOp ρ' ⟨dst,.insert t m k x,type,pos,after,guard⟩) v h':=by
 simp only[cop]at hc;split at hc
 .exact de
 .cases hc
def NP(hW:WR P β h w){s:Sem Next}{ob:bG}{o':Obj}(hr:s.run P w=.ok (.value (.pointer (some ⟨w.heap.size,0,none⟩))) {w with heap:=w.heap.push o'})
 (ho:∀β':aD,β.le β'->OR P β' ⟨w.heap.size,0,0,0,0⟩ {w with heap:=w.heap.push o'} ob):Good P β h w s (.pointer (some ⟨h.next,0,none⟩)) (h.new ob):=by
 refine vR.good (f:=λi=>.pointer (some ⟨i,0,none⟩)) hW ⟨_,o',⟨w.heap.size,0,0,0,0⟩,hr,rfl,λi β' hle hi=>⟨?_,ho β' hle⟩⟩;have:=VR.ptr (β:=β') (o:=0) hi;exact this
def adb(hc:cop P ⟨dst,.range t x,type,pos,after,guard⟩=some c)(hr:c.run P ρ h=some (v,h'))(hx:VR β (ρ x) (ρ' x))(hW:WR P β h w):
 Good P β h w (execOp ρ' ⟨dst,.range t x,type,pos,after,guard⟩) v h':=by
 simp only[cop]at hc;split at hc
 .rename_i hu;cases hc;simp only[aF.run]at hr;split at hr
  .rename_i s hs;simp only[aI,cB]at hr;obtain⟨rfl,rfl⟩:=hr;rw[hs]at hx;have hx':=hx.Ae;refine NP hW (o':=.stringIter s 0) ?_ λβ' _=>⟨qe,rfl⟩
   simp[execOp,Instr.range,fE hu,hx']
  .cases hr
 .rename_i kt et hu;cases hc;simp only[aF.run]at hr;split at hr
  .rename_i hs;simp only[aI,cB]at hr;obtain⟨rfl,rfl⟩:=hr;rw[hs]at hx;have hx':ρ' x=.map none:=by generalize ρ' x=y at hx;cases hx;rfl
   refine NP hW (o':=.mapIter none 0 #[] 0) ?_ λβ' _=>⟨none, #[],qe,rfl,.yF,rfl⟩
   simp[execOp,Instr.range,fE hu,hx']
  .rename_i m hs;split at hr
   .rename_i es clock hg;simp only[aI,cB]at hr;obtain⟨rfl,rfl⟩:=hr;rw[hs]at hx;obtain⟨g,hb,hx'⟩:=hx.DR;obtain⟨es',o1,o2⟩:=hW.obj m g _ hb hg;refine NP hW (o':=.mapIter (some g.b) clock #[] clock) ?_ λβ' hle=>⟨some g.b, #[],qe,rfl,.map (hle _ _ hb),rfl⟩
    simp only[execOp,Instr.range,dm,fE hu,dB,hx',yI o1 qe,ed,run_newObj]
   .cases hr
  .cases hr
 .cases hc
def find_born{l l':ae MapEntry}(he:fP β l l')(n:Nat):match l.find? (λe=>Nat.beq e.born n)with
 |none=>l'.find? (λe=>e.born==n)=none
 |some e=>∃e',l'.find? (λe=>e.born==n)=some e'/\e'.key=e.key/\bR e.key=true/\VR β e.val e'.val:=by
 induction he with
 |nil=>rfl
 | @cons e e' l l' hk hf hb hv hl ih=>
   simp only[List.find?_cons,hb];cases hq:Nat.beq e.born n with
   |true=>
    have:(e.born==n)=true:=by simp[rq hq]
    simp only[this];exact⟨e',rfl,hk,hf,hv⟩
   |false=>
    have:(e.born==n)=false:=by simp[Fj hq]
    simp only[this];exact ih
def ade(hc:cop P ⟨dst,.entry x,type,pos,after,guard⟩=some c)(hr:c.run P ρ h=some (v,h'))(hx:VR β (ρ x) (ρ' x))(hW:WR P β h w):
 Good P β h w (execOp ρ' ⟨dst,.entry x,type,pos,after,guard⟩) v h':=by
 simp only[cop,aI]at hc;subst hc;simp only[aF.run]at hr;split at hr
 .rename_i r hs;split at hr
  .rename_i m since seen stepped hg;split at hr
   .rename_i es clock hgm;split at hr
    .rename_i stamp hst;cases hbq:Nat.beq clock stepped with
     |false=>rw[hbq]at hr;cases hr
     |true=>
      rw[hbq]at hr;simp only[cond_true]at hr;split at hr
      .rename_i e he;simp only[aI,cB]at hr;obtain⟨rfl,rfl⟩:=hr;rw[hs]at hx;obtain⟨g,hb,hx'⟩:=hx.vT;obtain⟨m',seen',o1,o2,o3,o4⟩:=hW.obj r g _ hb hg;rw[o4]at hx';obtain⟨gm,DV,hm'⟩:∃gm,β m=some gm/\m'=some gm.b:=by
        exact oc
       subst hm';obtain⟨es',p1,p2⟩:=hW.obj m gm _ DV hgm;have TU:=find_born p2 stamp;rw[he]at TU;obtain⟨e',q1,q2,q3,q4⟩:=TU;have hback:seen'.back? =some stamp:=by
        rw[<- Array.getLast?_toList,o2];exact hst
       have hcl:(clock !=stepped)=false:=by simp[rq hbq]
       have hfa:es'.find? (λe=>e.born==stamp)=some e':=by rw[<- Array.find?_toList];exact q1
       refine Good.same hW (v':=.tuple #[e'.key,e'.val]) ?_ (.tuple (.cons ?_ (.cons q4 .nil)))
       .simp only[execOp,Instr.entry,wS,dm,hx',yI o1 qe,yI p1 qe,dB,hback,hcl,hfa,ed,uh,if_false]
       .rw[q2];exact VR.free q3
      .cases hr
    .cases hr
   .cases hr
  .cases hr
 .cases hr
def adf{xt:aB}{ok:Bool}(hc:cop P ⟨dst,.typeAssert x xt t ok,type,pos,after,guard⟩=some c)(hr:c.run P ρ h=some (v,h'))(hx:VR β (ρ x) (ρ' x))(hW:WR P β h w):
 Good P β h w (execOp ρ' ⟨dst,.typeAssert x xt t ok,type,pos,after,guard⟩) v h':=by
 simp only[cop]at hc;split at hc
 .cases hc
 .rename_i d hni hu;cases hz:zeroOf P t with
  |none=>simp[hz]at hc
  |some z=>
   simp only[hz,kD,aI]at hc;subst hc;obtain⟨_,_,_,Ga⟩:=DJ hz;simp only[aF.run]at hr;split at hr
   .rename_i hs;rw[hs]at hx;have hx':ρ' x=.nilIface:=by generalize ρ' x=y at hx;cases hx;rfl
    cases ok with
    |false=>cases hr
    |true=>
     simp only[cond_true,aI,cB]at hr;obtain⟨rfl,rfl⟩:=hr;refine Good.same hW (v':=.tuple #[z,.bool false]) ?_ (.tuple (.cons (VR.free Ga) (.cons (.bool _) .nil)));simp only[execOp,Instr.typeAssert,dm,fE hu,dB,hx',if_true,DK hz,ed]
   .rename_i u y hs;rw[hs]at hx;obtain⟨y',hy,hx'⟩:=hx.Ca;cases hbq:Nat.beq u t with
    |true=>
     have hut:u=t:=rq hbq;rw[hbq]at hr;simp only[cond_true,aI,cB]at hr;obtain⟨rfl,rfl⟩:=hr;refine Good.same hW (v':=if ok then .tuple #[y',.bool true]else y') ?_ ?_
     .simp only[execOp,Instr.typeAssert,dm,fE hu,dB,hx',hut];cases d<;>first|exact absurd rfl (hni _)|simp
     .cases ok
      .exact hy
      .exact .tuple (.cons hy (.cons (.bool _) .nil))
    |false=>
     have hut:u≠t:=Fj hbq;rw[hbq]at hr;cases ok with
     |false=>cases hr
     |true=>
      simp only[cond_true,cond_false,aI,cB]at hr;obtain⟨rfl,rfl⟩:=hr;refine Good.same hW (v':=.tuple #[z,.bool false]) ?_ (.tuple (.cons (VR.free Ga) (.cons (.bool _) .nil)));simp only[execOp,Instr.typeAssert,dm,fE hu,dB,hx'];cases d<;>first|exact absurd rfl (hni _)|simp[hut,DK hz]
   .cases hr
 .cases hc
end
