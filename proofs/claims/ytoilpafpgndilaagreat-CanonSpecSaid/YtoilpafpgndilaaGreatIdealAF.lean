/- Part. -/
import Derived.Test.YtoilpafpgndilaaGreatDictF
import Derived.KernelRfl
import GoSem.Step
import Derived.Below
import Derived.Laws.IdiomCopy
import Derived.Laws.Cells
import Derived.Laws.Entries
import Derived.IntWalk
import Derived.Laws.Append
set_option linter.all false
abbrev aD:=@Option.some.injEq
abbrev aZ:=@List.mem_of_getElem?
abbrev aR:=@decide_eq_false
abbrev bq:=@List.getElem?_eq_some_iff
abbrev bR:=@Nat.zero_le
abbrev bP:=@List.getElem?_eq_getElem
abbrev bM:=@List.mem_singleton
abbrev bU:=@List.take_length
abbrev bT:=@Nat.le_refl
abbrev bY:=@List.length_map
abbrev dx:=@List.mem_cons
abbrev dY:=@List.nil_append
abbrev dm:=@List.getElem?_map
abbrev dX:=@List.mem_append
abbrev dK:=@decide_eq_true
abbrev fV:=@List.cons_append
abbrev fP:=@List.map_append
abbrev di:=@Prod.mk.injEq
abbrev dG:=@Go.Sem.run_bind
abbrev dJ:=@Go.Result.andThen_ok
abbrev eT:=@List.mem_map
abbrev kJ:=@Int.toNat_natCast
abbrev cB:=@List.mem_cons_self
abbrev cO:=@List.mem_cons_of_mem
abbrev fO:=@List.getElem?_eq_none
abbrev jA:=@Int.eq_ofNat_of_zero_le
abbrev afD:=@Bool.and_eq_true
abbrev fo:=@Nat.zero_add
abbrev fw:=@Go.Sem.run_pure
abbrev ic:=@Decidable.not_not
abbrev gT:=@List.length_take
abbrev gU:=@List.append_nil
abbrev agO:=@List.map_cons
abbrev iI:=@of_decide_eq_true
abbrev iH:=@List.length_append
abbrev iY:=@List.ext_getElem?
abbrev jS:=@List.getElem?_of_mem
abbrev iT:=@List.nodup_append
abbrev jy:=@List.length_eq_zero_iff
abbrev lM:=@decide_eq_true_iff
abbrev iX:=@Option.bind_some
abbrev sQ:=@List.map_singleton
abbrev je:=@List.mem_append_left
abbrev lK:=@List.all_eq_true
abbrev kg:=@Option.map_eq_some_iff
abbrev jT:=@Option.map_some
abbrev nC:=@of_decide_eq_false
abbrev mM:=@Nat.lt_of_lt_of_le
abbrev pU:=@List.getElem?_range
abbrev nA:=@List.mem_append_right
abbrev uq:=@List.take_append_drop
abbrev nO:=@decide_eq_decide
abbrev pR:=@List.getElem?_append_right
abbrev oQ:=@List.getElem?_set
abbrev oU:=@List.drop_eq_getElem_cons
abbrev mK:=@Nat.le_of_ble_eq_true
abbrev oO:=@List.getElem?_drop
abbrev wO:=@List.foldl_cons
abbrev oP:=@List.length_cons
abbrev uu:=@List.length_range
abbrev nP:=@List.take_add_one
abbrev qx:=@List.pairwise_cons
abbrev qp:=@List.getElem?_append_left
abbrev ol:=@List.mem_range
abbrev uw:=@Nat.mul_one
abbrev vG:=@Bool.or_eq_true
abbrev qw:=@Nat.add_assoc
abbrev pV:=@List.length_set
abbrev pQ:=@Nat.le_trans
abbrev ru:=@Nat.add_mul
abbrev ry:=@List.take_of_length_le
abbrev qo:=@Nat.eq_of_beq_eq_true
abbrev sK:=@List.getElem?_take
abbrev sO:=@List.length_drop
abbrev qZ:=@List.getElem?_cons_succ
abbrev rq:=@Nat.lt_or_ge
abbrev vF:=@List.getElem_mem
abbrev wR:=@List.map_map
abbrev uo:=@Array.getElem?_eq_none
abbrev sJ:=@Nat.blt_eq
abbrev sM:=@Array.getD_eq_getD_getElem?
abbrev sP:=@List.mem_filter
abbrev akP:=@List.length_reverse
abbrev zP:=@Bool.eq_iff_iff
abbrev vH:=@Nat.ble_eq
abbrev vJ:=@Bool.false_eq_true
abbrev sN:=@List.map_congr_left
abbrev vK:=@Nat.sub_self
abbrev uy:=@List.mem_iff_getElem?
abbrev akS:=@List.drop_eq_nil_of_le
abbrev uz:=@Int.tdiv_eq_ediv_of_nonneg
abbrev zU:=@List.mk_mem_zipIdx_iff_getElem?
abbrev wQ:=@Option.getD_some
abbrev yD:=@List.nodup_cons
abbrev yE:=@List.nodup_nil
abbrev wT:=@List.pairwise_iff_getElem
abbrev wN:=@Nat.lt_succ_self
abbrev zM:=@Nat.add_zero
abbrev zN:=@Array.getElem?_toList
abbrev wP:=@decide_eq_true_eq
abbrev yC:=@and_true
abbrev BL:=@Nat.one_mul
abbrev DI:=@List.foldl_append
abbrev wS:=@List.pairwise_map
abbrev vM:=@Int.toNat_of_nonneg
abbrev ak5:=@Nat.not_lt_zero
abbrev yB:=@Array.mem_append
abbrev Kj:=@List.not_mem_nil
abbrev zS:=@List.length_singleton
abbrev yF:=@List.dropLast_concat_getLast
abbrev BJ:=@List.mem_of_mem_take
abbrev BK:=@List.length_pos_iff
abbrev zO:=@Nat.mod_lt
abbrev zQ:=@List.getElem?_cons_zero
abbrev zR:=@List.cons.injEq
abbrev Dx:=@List.length_nil
abbrev Dy:=@Bool.not_eq_true'
abbrev Dz:=@Nat.sub_zero
abbrev alv:=@List.getD_eq_getElem?_getD
abbrev DF:=@Nat.min_eq_left
abbrev DD:=@List.map_set
abbrev zT:=@List.mergeSort_perm
abbrev BI:=@Nat.le_succ
abbrev alG:=@Nat.mul_comm
abbrev Gn:=@List.length_replicate
abbrev Gm:=@List.range_succ
abbrev Dw:=@Nat.ne_of_beq_eq_false
abbrev Gd:=@List.filter_cons
abbrev alT:=@Nat.beq_refl
abbrev PO:=@List.getElem?_replicate
abbrev Gh:=@Nat.zero_mul
abbrev DC:=@List.drop_zero
abbrev Gl:=@List.set_append_right
abbrev alU:=@List.map_id
abbrev DJ:=@Int.tmod_eq_emod_of_nonneg
abbrev alV:=@List.drop_length
abbrev DK:=@List.take_zero
abbrev F9:=@Nat.ble_eq_true_of_le
abbrev Ga:=@Array.getElem?_push
abbrev Gb:=@Array.getElem?_setIfInBounds_ne
abbrev Gc:=@Nat.eq_zero_or_pos
abbrev Kk:=@List.mem_filterMap
abbrev Gf:=@List.contains_iff_mem
abbrev Gg:=@List.replicate_succ
abbrev ami:=@Nat.lt_of_le_of_lt
abbrev Kn:=@List.mem_map_of_mem
abbrev Gi:=@List.filter_append
abbrev amj:=@Nat.pow_lt_pow_right
abbrev PX:=@List.take_sublist
abbrev amK:=@Bool.true_and
abbrev Kh:=@Array.toList_map
abbrev Ki:=@List.getElem?_toArray
abbrev XH:=@Array.getElem?_eq_some_iff
abbrev Kl:=@Bool.and_self
abbrev Km:=@Nat.lt_succ_of_lt
abbrev amL:=@Nat.shiftLeft_eq
abbrev amM:=@Nat.or_lt_two_pow
abbrev Gj:=@List.flatMap_cons
abbrev amN:=@Bool.false_and
abbrev amO:=@Classical.choose_spec
abbrev PR:=@List.length_filter_le
abbrev PU:=@List.length_erase_of_mem
abbrev Ko:=@Int.ediv_nonneg
abbrev Kq:=@List.pairwise_append
abbrev amP:=@List.any_append
abbrev amQ:=@Nat.shiftRight_le
abbrev PE:=@Go.World.keptBut_setCells
abbrev PG:=@Go.World.cell?_setCells_in
abbrev PI:=@Go.World.cell?_setCells_out
abbrev PK:=@Array.foldl_toList
abbrev PL:=@List.extract_eq_take_drop
abbrev anD:=@Nat.mul_le_mul_right
abbrev PM:=@List.flatten_cons
abbrev PN:=@List.getElem?_zip_eq_some
abbrev anE:=@Nat.div_lt_iff_lt_mul
abbrev anF:=@Nat.shiftRight_eq_div_pow
abbrev anG:=@List.find?_eq_none
abbrev anH:=@List.mem_of_find?_eq_some
abbrev XK:=@Array.getElem?_eq_getElem
abbrev anI:=@List.flatMap_append
abbrev anJ:=@List.mem_or_eq_of_mem_set
abbrev PP:=@List.zipIdx_append
abbrev PS:=@Int.emod_add_mul_ediv
abbrev PT:=@Nat.lt_trichotomy
abbrev PV:=@List.length_pos_of_mem
abbrev PW:=@List.mem_erase_of_ne
abbrev PY:=@List.reverse_reverse
abbrev XF:=@Array.eq_empty_of_size_eq_zero
abbrev aoT:=@Option.isSome_iff_exists
abbrev XG:=@Array.getElem?_setIfInBounds
abbrev aoU:=@Array.getElem?_append_left
abbrev XI:=@List.getElem?_eq_none_iff
abbrev XJ:=@Nat.add_sub_cancel_left
abbrev XL:=@List.pairwise_mergeSort
abbrev aoV:=@List.findIdx?_eq_some_iff_getElem
abbrev kI.{u}(α:Type u):Type u:=List α
abbrev vI:=Go.Value
abbrev qr:=List (Nat×Go.Value)
abbrev x8.{u}(α:Type u):Type u:=Option α
abbrev aaB:=Go.Operand
abbrev adH:=Go.TypeId
abbrev agR:=Go.FuncId
namespace Go.Ideal
inductive T(α:Type):Type where
 |leaf
 |node (v:Option α) (l r:T α)
noncomputable def T.get{α:Type}(t:T α):Nat->x8 α:=
 T.rec (motive:=λ_=>Nat->x8 α) (λ_=>none)
  (λv _ _ gl gr n=>Nat.rec (motive:=λ_=>x8 α) v
    (λm _=>Bool.rec (motive:=λ_=>x8 α) (gr (Nat.div m 2)) (gl (Nat.div m 2)) (Nat.beq (Nat.mod m 2) 0)) n) t
noncomputable def T.one{α:Type}(f:Nat):Nat->x8 α->T α:=
 Nat.rec (motive:=λ_=>Nat->x8 α->T α) (λ_ _=>.leaf)
  (λ_ ih n x=>Nat.rec (motive:=λ_=>T α) (.node x .leaf .leaf)
    (λm _=>Bool.rec (motive:=λ_=>T α) (.node none .leaf (ih (Nat.div m 2) x)) (.node none (ih (Nat.div m 2) x) .leaf) (Nat.beq (Nat.mod m 2) 0)) n) f
noncomputable def T.set{α:Type}(t:T α):Nat->x8 α->T α:=
 T.rec (motive:=λ_=>Nat->x8 α->T α) (λn x=>T.one (n+1) n x)
  (λv l r sl sr n x=>Nat.rec (motive:=λ_=>T α) (.node x l r)
    (λm _=>Bool.rec (motive:=λ_=>T α) (.node v l (sr (Nat.div m 2) x)) (.node v (sl (Nat.div m 2) x) r) (Nat.beq (Nat.mod m 2) 0)) n) t
noncomputable def lN{α β:Type}(f:α->β)(l:kI α):kI β:=
 List.rec (motive:=λ_=>kI β) [] (λx _ ih=>f x::ih) l
noncomputable def jU{α:Type}(l:kI α):Nat->x8 α:=
 List.rec (motive:=λ_=>Nat->x8 α) (λ_=>none) (λx _ ih n=>Nat.rec (motive:=λ_=>x8 α) (some x) (λm _=>ih m) n) l
noncomputable def jH{α:Type}(l:kI α):Nat->kI α:=
 List.rec (motive:=λ_=>Nat->kI α) (λ_=>[]) (λx l ih n=>Nat.rec (motive:=λ_=>kI α) (x::l) (λm _=>ih m) n) l
noncomputable def jf{α:Type}(l:kI α):Nat->x8 (kI α):=
 List.rec (motive:=λ_=>Nat->x8 (kI α)) (λn=>Nat.rec (motive:=λ_=>x8 (kI α)) (some []) (λ_ _=>none) n)
  (λx _ ih n=>Nat.rec (motive:=λ_=>x8 (kI α)) (some []) (λm _=>Option.rec (motive:=λ_=>x8 (kI α)) none (λr=>some (x::r)) (ih m)) n) l
noncomputable def jV{α:Type}(l:kI α):Nat->kI α->x8 (kI α):=
 List.rec (motive:=λ_=>Nat->kI α->x8 (kI α))
  (λo xs=>Nat.rec (motive:=λ_=>x8 (kI α)) (List.rec (motive:=λ_=>x8 (kI α)) (some []) (λ_ _ _=>none) xs) (λ_ _=>none) o)
  (λc l ih o xs=>Nat.rec (motive:=λ_=>x8 (kI α))
    (List.rec (motive:=λ_=>x8 (kI α)) (some (c::l)) (λx xs _=>Option.rec (motive:=λ_=>x8 (kI α)) none (λr=>some (x::r)) (ih 0 xs)) xs)
    (λo _=>Option.rec (motive:=λ_=>x8 (kI α)) none (λr=>some (c::r)) (ih o xs)) o) l
noncomputable def Gp{α:Type}(p:α->Bool)(l:kI α):Bool:=
 List.rec (motive:=λ_=>Bool) true (λx _ ih=>Bool.rec (motive:=λ_=>Bool) false ih (p x)) l
noncomputable def iL{α:Type}(l:kI α):Nat:=
 List.rec (motive:=λ_=>Nat) 0 (λ_ _ ih=>Nat.succ ih) l
noncomputable def ko{α:Type}(l r:kI α):kI α:=
 List.rec (motive:=λ_=>kI α) r (λx _ ih=>x::ih) l
noncomputable def zeros(z:kI vI)(n:Nat):kI vI:=
 Nat.rec (motive:=λ_=>kI vI) [] (λ_ ih=>ko z ih) n
abbrev dU:vI:=.tuple #[]
abbrev sS:vI:=.chan (some 0)
def cellV:vI->Bool
 | .agg _| .tuple _| .chan _=>false
 |_=>true
mutual
def cK:vI->Bool
 | .bool _| .int _ _| .float _ _| .complex _ _ _| .string _| .nilFunc| .nilIface=>true
 | .pointer a=>a.isNone
 | .slice a n c=>a.isNone&&n==0&&c==0
 | .map r=>r.isNone
 | .chan _=>false
 | .func _ _ _=>false
 | .iface _ v=>cK v&&cellV v
 | .agg ⟨cs⟩=>fZ cs
 | .tuple _=>false
def fZ:kI vI->Bool
 |[]=>true
 |v::l=>cK v&&cellV v&&fZ l
end
def eD{α:Type}(P:Program):Sem α->x8 α
 | .pure a=>some a
 | .program k=>eD P (k P)
 | .mark _ k=>eD P k
 |_=>none
def kK(P:Program)(s:Sem vI):x8 vI:=
 match eD P s with
 |some v=>cond (cK v) (some v) none
 |none=>none
def cellsOf(v:vI):x8 (kI vI):=
 match v with
 | .agg ⟨cs⟩=>some cs
 | .tuple _| .chan _=>none
 |v=>some [v]
inductive Out where
 |normal
 |exit (id:Nat)
 |ret
 |panic (chain:List PanicEntry)
inductive aF where
 |mv (x:Operand)
 |nD (x:Operand)
 |pick (c a b:Operand)
 |new (cs:List Value) (t:TypeId)
 |box (x:Operand) (t:TypeId)
 |build (zero:List Value) (parts:List (Nat×Nat×Operand))
 |wU (t:TypeId) (len:Nat) (zero:List Value) (parts:List (Nat×Nat×Operand))
 |ah2 (a:Operand)
 |pW (n:Nat) (a:Operand)
 |store (n:Nat) (a x:Operand)
 |lm (x:Operand)
 |bin (op:BinOp) (t:TypeId) (x y:Operand)
 |un (op:UnOp) (x:Operand)
 |conv (s d:TypeId) (x:Operand)
 |PZ (e:TypeId) (x:Operand)
 |Gq (x:Operand)
 |iface (t:TypeId) (x:Operand)
 |BM (fn:Fn) (first captured:List Operand)
 |vN
 |zV (e:TypeId) (size bytes:Nat) (zero:List Value) (l c:Operand)
 |P5 (t:TypeId) (x:Operand) (lo hi mx:Option Operand)
 |Kt (n size:Nat) (x:Operand) (lo hi mx:Option Operand)
 |P6 (size:Nat) (x:Operand) (lo hi mx:Option Operand)
 |fQ (off:Nat) (x:Operand)
 |field (t:TypeId) (off n:Nat) (agg:Bool) (x:Operand)
 |Ku (n size:Nat) (x i:Operand)
 |nQ (size:Nat) (x i:Operand)
 |P7 (x i:Operand)
 |P8 (n size:Nat) (agg:Bool) (x i:Operand)
 |lookup (kt:TypeId) (zero:Value) (m k:Operand) (ok:Bool)
 |Gr (kt:TypeId) (m k v:Operand)
 |P9 (kt:TypeId) (zero:Value) (m k:Operand)
 |Qa (m s v:Operand)
 |Kv (x:Operand)
 |rangeMap (x:Operand)
 |Qb (x:Operand)
 |wV (x:Operand)
 |entry (x:Operand)
 |Gs (t:TypeId) (zero:Value) (ok:Bool) (x:Operand)
 |extract (x:Operand) (i:Nat)
 |append (e:TypeId) (size bytes:Nat) (s x:Operand)
 |Gt (e:TypeId) (size bytes:Nat) (zero:List Value) (s x:Operand)
 |copy (size:Nat) (d x:Operand)
 |clear (zero:List Value) (x:Operand)
 |Qc (x:Operand)
 |Gu (n:Nat)
 |wW (x:Operand)
 |Gv (x:Operand)
 |Qd (x:Operand)
 |zW (max:Bool) (args:List Operand)
 |call (f:Operand) (args:List Operand)
 |invoke (x:Operand) (name:String) (args:List Operand)
 |recover
 |panic (x:Operand)
 |dcall (f:Operand) (args:List Operand)
structure iq where
 dst:Option Tmp
 /-- the operation runs where this temporary holds this Bool -/
 guard:Option (Tmp×Bool)
 op:aF
structure bV where
 s:iq
 re:List iq
inductive dI where
 |skip
 /-- 'ds': where the region's operations put what they yield -/
 |ops (ds:List Tmp) (l:List bV)
 |seq (a b:dI)
 |cond (c:Operand) (a b:dI)
 |block (id:Nat) (a:dI)
 |loop (a:dI)
 |rangeFunc (f:Operand) (params:List Tmp) (assign body:dI)
 |scope (a:dI)
 |exit (id:Nat)
 |ret
 |fail
structure oV where
 state:LoopState
 pending:Option Out
 tmps:T Value
 n:Nat
 params:List Tmp
 assign:dI
 body:dI
 defers:Nat
inductive dN where
 |cells (cs:List Value)
 /-- cells that are read alone -/
 |jl (cs:List Value)
 |map (es:List MapEntry) (clock:Nat)
 |zX (s:ByteArray) (pos:Nat)
 |mapIter (m:Option Nat) (since:Nat) (seen:List Nat) (stepped:Nat)
 |loop (l:oV)
 |aid (open_:Bool)
structure IH where
 t:T dN
 next:Nat
 low:Nat
noncomputable def IH.get(h:IH)(i:Nat):x8 dN:=h.t.get i
noncomputable def IH.set(h:IH)(i:Nat)(o:dN):IH:={h with t:=h.t.set i (some o),low:=cond (Nat.ble h.low i) h.low i}
noncomputable def IH.kill(h:IH)(i:Nat):IH:={h with t:=h.t.set i none,low:=cond (Nat.ble h.low i) h.low i}
noncomputable def IH.new(h:IH)(o:dN):IH:={h with t:=h.t.set h.next (some o),next:=Nat.succ h.next}
structure aV where
 n:Nat
 tmps:T Value
 defers:List Deferred
 pm:Option FrameMode
 ro:Option Nat
noncomputable def dL(t:T vI)(i:Nat):vI:=Option.rec (motive:=λ_=>vI) dU (λv=>v) (t.get i)
noncomputable def aV.eval(a:aV)(x:aaB):vI:=
 match x with
 | .tmp t=>dL a.tmps t
 | .const v=>v
 | .global g=>.pointer (some ⟨g,0,none⟩)
 | .func f=>.func (.func f) #[] #[]
noncomputable def aV.set(a:aV)(d:Nat)(v:vI):aV:=cond (Nat.blt d a.n) {a with tmps:=a.tmps.set d (some v)} a
noncomputable def aV.put(a:aV)(d:x8 Tmp)(v:vI):aV:=
 match d with
 |some d=>a.set d v
 |none=>a
noncomputable def aV.wants(a:aV)(g:x8 (Tmp×Bool)):x8 Bool:=
 match g with
 |none=>some true
 |some (t,want)=>match dL a.tmps t with
  | .bool b=>some (cond want b (!b))
  | .chan _=>some false
  |_=>none
noncomputable def IH.nR(h:IH)(i o n:Nat):x8 (kI vI):=
 match h.get i with
 |some (.cells cs)=>jf (jH cs o) n
 |_=>none
noncomputable def IH.iM(h:IH)(i o n:Nat):x8 (kI vI):=
 match h.get i with
 |some (.cells cs)=>jf (jH cs o) n
 |some (.jl cs)=>jf (jH cs o) n
 |_=>none
noncomputable def IH.om(h:IH)(i o:Nat):x8 vI:=
 match h.get i with
 |some (.cells cs)=>jU cs o
 |some (.jl cs)=>jU cs o
 |_=>none
noncomputable def IH.storeAt(h:IH)(i o:Nat)(vs:kI vI):x8 IH:=
 match h.get i with
 |some (.cells cs)=>match jV cs o vs with
  |some cs=>some (h.set i (.cells cs))
  |none=>none
 |_=>none
def zY(i o:Nat):x8 Addr:=some ⟨i,o,some 0⟩
def small:Nat:=1073741824
def upTo(m:Nat)(v:vI):x8 Nat:=
 match v with
 | .int _ (.ofNat i)=>cond (Nat.ble i m) (some i) none
 |_=>none
def bounds?(len cap:Nat)(lo hi mx:x8 vI):x8 (Nat×Nat×Nat):=
 match (match mx with|some v=>upTo cap v|none=>some cap)with
 |none=>none
 |some m=>match (match hi,mx with|some v,_=>upTo m v|none,none=>some len|none,some _=>none)with
  |none=>none
  |some h=>match (match lo with|some v=>upTo h v|none=>some 0)with
   |none=>none
   |some l=>some (l,h,m)
noncomputable def nE(size n:Nat)(x:vI)(h:IH):x8 (kI vI):=
 match x with
 | .slice (some ⟨i,o,_⟩) _ _=>h.iM i o (Nat.mul n size)
 | .slice none _ _=>match n with
   |0=>some []
   |_=>none
 | .string s=>cond (Nat.beq size 1) (match jf s.data.toList n with
   |some l=>some (lN (λb=>.int .u8 b.toNat) l)
   |none=>none) none
 |_=>none
noncomputable def yG(size n:Nat)(x:vI)(h:IH):x8 (kI vI):=
 match n with
 |0=>match x with
  | .slice _ _ _=>some []
  |x=>nE size 0 x h
 |Nat.succ k=>nE size (Nat.succ k) x h
def oW:vI->x8 Nat
 | .slice _ n _=>some n
 | .string s=>some s.size
 |_=>none
noncomputable def wX(size bytes:Nat)(s:vI)(n:Nat)(xs:kI vI)(h:IH):x8 (vI×IH):=
 match s with
 | .slice base len cap=>
   let need:=Nat.add len n
   cond (Nat.ble (Nat.mul need bytes) small&&Nat.ble (Nat.mul need size) small&&Nat.ble need small)
    (cond (Nat.ble need cap)
      (match base with
      |some ⟨i,o,f⟩=>match h.storeAt i (Nat.add o (Nat.mul len size)) xs with
       |some h=>some (.slice (some ⟨i,o,f⟩) need cap,h)
       |none=>none
      |none=>match n with
       |0=>some (.slice none need cap,h)
       |_=>none)
      (match nE size len s h with
      |none=>none
      |some old=>match base with
       |some ⟨i,_,some (k+1)⟩=>cond (Nat.beq (Nat.succ k) size) (some (.slice (some ⟨h.next,0,some size⟩) need need,(h.kill i).new (.cells (ko old xs)))) none
       |_=>some (.slice (some ⟨h.next,0,some size⟩) need need,h.new (.cells (ko old xs))))) none
 |_=>none
noncomputable def Qe(size:Nat)(d x:vI)(h:IH):x8 (vI×IH):=
 match d,oW x with
 | .slice base oq _,some m=>
   let n:=cond (Nat.ble m oq) m oq
   match nE size n x h with
   |none=>none
   |some cs=>match base with
    |some ⟨i,o,_⟩=>match h.storeAt i o cs with
     |some h=>some (goInt n,h)
     |none=>none
    |none=>match n with
     |0=>some (goInt 0,h)
     |_=>none
 |_,_=>none
def sU(P:Program)(kt:adH)(k:vI)(es:kI MapEntry):x8 (x8 (Nat×vI)):=
 eD P (Instr.findKey kt k es)
def rz(P:Program)(kt:adH)(k:vI):Bool:=
 cK k&&match eD P (Instr.checkKey true 10000 kt k),eD P (Instr.checkKey false 10000 kt k)with
  |some _,some _=>true
  |_,_=>false
noncomputable def entriesOf(m:vI)(h:IH):x8 (kI MapEntry):=
 match m with
 | .map none=>some []
 | .map (some i)=>match h.get i with
   |some (.map es _)=>some es
   |_=>none
 |_=>none
noncomputable def zZ(P:Program)(kt:adH)(zero m k:vI)(ok:Bool)(h:IH):x8 vI:=
 match entriesOf m h with
 |none=>none
 |some es=>cond (rz P kt k) (match sU P kt k es with
  |none=>none
  |some (some (_,v))=>some (cond ok (.tuple #[v,.bool true]) v)
  |some none=>some (cond ok (.tuple #[zero,.bool false]) zero)) none
noncomputable def setAt{α:Type}(f:α->α)(l:kI α):Nat->kI α:=
 List.rec (motive:=λ_=>Nat->kI α) (λ_=>[]) (λx l ih n=>Nat.rec (motive:=λ_=>kI α) (f x::l) (λm _=>x::ih m) n) l
noncomputable def DL(P:Program)(kt:adH)(m k v:vI)(h:IH):x8 IH:=
 match m with
 | .map (some i)=>match h.get i with
   |some (.map es clock)=>cond (rz P kt k) (match sU P kt k es with
    |none=>none
    |some (some (j,_))=>match jU es j with
     |some e=>cond (Instr.sameBits 10000 e.key k) (some (h.set i (.map (setAt (λe=>{e with key:=k,val:=v}) es j) clock))) none
     |none=>none
    |some none=>some (h.set i (.map (ko es [{key:=k,val:=v,born:=clock}]) (Nat.succ clock)))) none
   |_=>none
 |_=>none
noncomputable def XM(P:Program)(kt:adH)(zero m k:vI)(h:IH):x8 (vI×IH):=
 match m with
 | .map (some i)=>match h.get i with
   |some (.map es clock)=>cond (rz P kt k) (match sU P kt k es with
    |none=>none
    |some (some (j,v))=>match jU es j with
     |some e=>cond (Instr.sameBits 10000 e.key k) (some (.tuple #[v,goInt e.born],h.set i (.map (setAt (λe=>{e with key:=k}) es j) clock))) none
     |none=>none
    |some none=>some (.tuple #[zero,goInt clock],h.set i (.map (ko es [{key:=k,val:=zero,born:=clock}]) (Nat.succ clock)))) none
   |_=>none
 |_=>none
noncomputable def XN(m s v:vI)(h:IH):x8 IH:=
 match m,s with
 | .map (some i),.int _ n=>match h.get i with
   |some (.map es clock)=>match es.findIdx? (λe=>(e.born:Int)==n)with
    |some j=>some (h.set i (.map (setAt (λe=>{e with val:=v}) es j) clock))
    |none=>none
   |_=>none
 |_,_=>none
def sV(P:Program)(t:adH)(x y:vI):x8 Bool:=
 match P.underlying t,x,y with
 |some (.pointer _),.pointer (some _),.pointer none=>some false
 |some (.pointer _),.pointer none,.pointer (some _)=>some false
 |some (.slice _),.slice (some _) _ _,.slice none _ _=>some false
 |some (.slice _),.slice none _ _,.slice (some _) _ _=>some false
 |some (.slice _),.slice none _ _,.slice none _ _=>some true
 |some (.map _ _),.map (some _),.map none=>some false
 |some (.map _ _),.map none,.map (some _)=>some false
 |some (.func _ _ _),.func _ _ _,.nilFunc=>some false
 |some (.func _ _ _),.nilFunc,.func _ _ _=>some false
 |some (.interface _),.iface _ _,.nilIface=>some false
 |some (.interface _),.nilIface,.iface _ _=>some false
 |_,_,_=>none
def Kw:Nat:=9223372036854775807
def DN(k:IntKind)(n:Int):Int:=
 match k,n with
 | .i64,.ofNat m=>cond (Nat.ble m Kw) (.ofNat m) (IntKind.i64.wrap (.ofNat m))
 | .i64,.negSucc m=>cond (Nat.ble m 1000000) (.negSucc m) (IntKind.i64.wrap (.negSucc m))
 |k,n=>k.wrap n
def Qf(a b:Int):Int:=
 match a,b with
 | .ofNat x,.ofNat y=>.ofNat (Nat.add x y)
 |a,b=>a+b
def Ky(a b:Int):Int:=
 match a,b with
 | .ofNat x,.ofNat y=>cond (Nat.ble y x) (.ofNat (Nat.sub x y)) (.negSucc (Nat.pred (Nat.sub y x)))
 |a,b=>a - b
def leZ(a b:Int):Bool:=
 match a,b with
 | .ofNat x,.ofNat y=>Nat.ble x y
 | .negSucc _,.ofNat _=>true
 | .ofNat _,.negSucc _=>false
 | .negSucc x,.negSucc y=>Nat.ble y x
def BN(a b:Int):Bool:=
 match a,b with
 | .ofNat x,.ofNat y=>Nat.beq x y
 | .negSucc x,.negSucc y=>Nat.beq x y
 |_,_=>false
def uA(j k:IntKind):Bool:=
 match j,k with
 | .i64,.i64=>true
 |j,k=>j==k
def oZ(op:BinOp)(k:IntKind)(a b:Int):x8 vI:=
 match op with
 | .add=>some (.int k (DN k (Qf a b)))
 | .sub=>some (.int k (DN k (Ky a b)))
 | .eql=>some (.bool (BN a b))
 | .neq=>some (.bool (!BN a b))
 | .lss=>some (.bool (!leZ b a))
 | .leq=>some (.bool (leZ a b))
 | .gtr=>some (.bool (!leZ a b))
 | .geq=>some (.bool (leZ b a))
 |_=>none
def mg(P:Program)(op:BinOp)(t:adH)(x y:aaB)(a b:vI):x8 vI:=
 match (match a,b with
  | .int j m,.int k n=>cond (uA j k) (oZ op j m n) none
  |_,_=>none)with
 |some v=>some v
 |none=>cond (cK a&&cK b) (kK P (do eqGuard op t x y a b;binOp op t a b))
  (match op with
  | .eql=>(match sV P t a b with|some b=>some (.bool b)|none=>none)
  | .neq=>(match sV P t a b with|some b=>some (.bool !b)|none=>none)
  |_=>none)
noncomputable def Gw(l:kI vI):x8 (kI UInt8):=
 List.rec (motive:=λ_=>x8 (kI UInt8)) (some []) (λv _ ih=>match v,ih with
  | .int .u8 k,some r=>some (UInt8.ofNat k.toNat::r)
  |_,_=>none) l
noncomputable def rA(ρ:aaB->vI)(zero:kI vI)(parts:kI (Nat×Nat×aaB)):x8 (kI vI):=
 List.rec (motive:=λ_=>kI vI->x8 (kI vI)) (λcs=>some cs)
  (λp _ ih cs=>match p with
    |(off,size,x)=>match cellsOf (ρ x)with
     |none=>none
     |some vs=>cond (Nat.beq (iL vs) size) (match jV cs off vs with
      |some cs=>ih cs
      |none=>none) none) parts zero
noncomputable def jm(ρ:aaB->vI)(x:x8 aaB):x8 vI:=
 match x with
 |some x=>some (ρ x)
 |none=>none
noncomputable def aF.alloc(c:aF)(ρ:aaB->vI):x8 ((Nat->vI)×dN):=
 match c with
 | .new cs _=>some (λi=>.pointer (some ⟨i,0,none⟩),.cells cs)
 | .box x _=>match cellsOf (ρ x)with
   |some cs=>some (λi=>.pointer (some ⟨i,0,none⟩),.cells cs)
   |none=>none
 | .wU _ len zero parts=>match rA ρ zero parts with
   |some cs=>some (λi=>.slice (zY i 0) len len,.cells cs)
   |none=>none
 | .vN=>some (λi=>.map (some i),.map [] 0)
 | .zV _ size bytes zero l c=>match ρ l,ρ c with
   | .int .i64 (.ofNat l),.int .i64 (.ofNat c)=>cond (Nat.ble l c&&Nat.ble (Nat.mul c bytes) small&&Nat.ble (Nat.mul c size) small&&Nat.ble c small)
      (some (λi=>.slice (zY i 0) l c,.cells (zeros zero c))) none
   |_,_=>none
 |_=>none
noncomputable def rC(x:x8 ((Nat->vI)×dN))(h:IH):x8 (vI×IH):=
 match x with
 |some (f,o)=>some (f h.next,h.new o)
 |none=>none
noncomputable def aF.run(P:Program)(c:aF)(ρ:aaB->vI)(h:IH):x8 (vI×IH):=
 match c with
 | .mv x=>some (ρ x,h)
 | .nD x=>some (ρ x,h)
 | .pick c a b=>match ρ c with
   | .bool t=>some (cond t (ρ a) (ρ b),h)
   |_=>none
 | .new cs t=>rC ((aF.new cs t).alloc ρ) h
 | .box x t=>rC ((aF.box x t).alloc ρ) h
 | .build zero parts=>match rA ρ zero parts with
   |some cs=>some (.agg ⟨cs⟩,h)
   |none=>none
 | .wU t len zero parts=>rC ((aF.wU t len zero parts).alloc ρ) h
 | .ah2 a=>match ρ a with
   | .pointer (some ⟨i,o,none⟩)=>match h.om i o with
     |some v=>some (v,h)
     |none=>none
   |_=>none
 | .pW n a=>match ρ a with
   | .pointer (some ⟨i,o,none⟩)=>match h.iM i o n with
     |some cs=>some (.agg ⟨cs⟩,h)
     |none=>none
   |_=>none
 | .store n a x=>match ρ a,cellsOf (ρ x)with
   | .pointer (some ⟨i,o,none⟩),some vs=>cond (Nat.beq (iL vs) n) (match h.storeAt i o vs with
     |some h=>some (dU,h)
     |none=>none) none
   |_,_=>none
 | .lm x=>match ρ x with
   | .pointer (some a)=>some (.pointer (some a),h)
   | .iface t v=>some (.iface t v,h)
   | .func (.func f) first captured=>some (.func (.func f) first captured,h)
   | .func (.methodOf t n) first captured=>some (.func (.methodOf t n) first captured,h)
   | .func (.yield l) first captured=>some (.func (.yield l) first captured,h)
   |_=>none
 | .bin op t x y=>match mg P op t x y (ρ x) (ρ y)with
   |some v=>some (v,h)
   |none=>none
 | .un op x=>cond (cK (ρ x)) (match kK P (Op.unary op (ρ x))with
   |some v=>some (v,h)
   |none=>none) none
 | .conv s d x=>cond (cK (ρ x)) (match kK P (convert s d (ρ x))with
   |some v=>some (v,h)
   |none=>none) none
 | .PZ _ x=>match ρ x with
   | .string b=>some (.slice (some ⟨h.next,0,some 1⟩) b.data.toList.length b.data.toList.length,h.new (.cells (lN (λc=>.int .u8 c.toNat) b.data.toList)))
   |_=>none
 | .Gq x=>match ρ x with
   | .slice none _ _=>some (.string .empty,h)
   | .slice (some ⟨i,o,_⟩) n _=>match h.iM i o n with
     |some cs=>match Gw cs with
      |some bs=>some (.string ⟨⟨bs⟩⟩,h)
      |none=>none
     |none=>none
   |_=>none
 | .iface t x=>some (.iface t (ρ x),h)
 | .BM fn first captured=>some (.func fn ⟨lN ρ first⟩ ⟨lN ρ captured⟩,h)
 | .vN=>rC (aF.vN.alloc ρ) h
 | .zV e size bytes zero l c=>rC ((aF.zV e size bytes zero l c).alloc ρ) h
 | .P5 t x lo hi mx=>match ρ x with
   | .string s=>match bounds? s.size s.size (jm ρ lo) (jm ρ hi) (jm ρ mx)with
     |some _=>match kK P (Instr.slice t (.string s) (jm ρ lo) (jm ρ hi) (jm ρ mx))with
      |some v=>some (v,h)
      |none=>none
     |none=>none
   |_=>none
 | .Kt n size x lo hi mx=>match ρ x with
   | .pointer (some ⟨i,o,none⟩)=>match bounds? n n (jm ρ lo) (jm ρ hi) (jm ρ mx)with
     |some (l,hh,m)=>some (.slice (zY i (Nat.add o (Nat.mul l size))) (Nat.sub hh l) (Nat.sub m l),h)
     |none=>none
   |_=>none
 | .P6 size x lo hi mx=>match ρ x with
   | .slice a len cap=>match bounds? len cap (jm ρ lo) (jm ρ hi) (jm ρ mx)with
     |some (l,hh,m)=>match a with
      |none=>some (.slice none (Nat.sub hh l) (Nat.sub m l),h)
      |some ⟨i,o,some 0⟩=>some (.slice (zY i (Nat.add o (Nat.mul l size))) (Nat.sub hh l) (Nat.sub m l),h)
      |some ⟨i,o,some (k+1)⟩=>cond (Nat.beq (Nat.succ k) size) (some (.slice (some ⟨i,Nat.add o (Nat.mul l size),match mx with|some _=>some 0|none=>some (Nat.succ k)⟩) (Nat.sub hh l) (Nat.sub m l),h)) none
      |some ⟨_,_,none⟩=>none
     |none=>none
   |_=>none
 | .fQ off x=>match ρ x with
   | .pointer (some ⟨i,o,none⟩)=>some (.pointer (some ⟨i,Nat.add o off,none⟩),h)
   |_=>none
 | .field _ off n agg x=>match ρ x with
   | .agg ⟨cs⟩=>match agg with
     |true=>match jf (jH cs off) n with
      |some l=>some (.agg ⟨l⟩,h)
      |none=>none
     |false=>match jU cs off with
      |some v=>some (v,h)
      |none=>none
   |_=>none
 | .Ku n size x ix=>match ρ x,ρ ix with
   | .pointer (some ⟨b,o,none⟩),.int _ (.ofNat i)=>cond (Nat.blt i n) (some (.pointer (some ⟨b,Nat.add o (Nat.mul i size),none⟩),h)) none
   |_,_=>none
 | .nQ size x ix=>match ρ x,ρ ix with
   | .slice (some ⟨b,o,_⟩) n _,.int _ (.ofNat i)=>cond (Nat.blt i n) (some (.pointer (some ⟨b,Nat.add o (Nat.mul i size),none⟩),h)) none
   |_,_=>none
 | .P7 x ix=>match ρ x,ρ ix with
   | .string s,.int _ (.ofNat i)=>match jU s.data.toList i with
     |some b=>some (.int .u8 b.toNat,h)
     |none=>none
   |_,_=>none
 | .P8 n size agg x ix=>match ρ x,ρ ix with
   | .agg ⟨cs⟩,.int _ (.ofNat i)=>cond (Nat.blt i n) (match agg with
     |true=>match jf (jH cs (Nat.mul i size)) size with
      |some l=>some (.agg ⟨l⟩,h)
      |none=>none
     |false=>match jU cs (Nat.mul i size)with
      |some v=>some (v,h)
      |none=>none) none
   |_,_=>none
 | .lookup kt zero m k ok=>match zZ P kt zero (ρ m) (ρ k) ok h with
   |some v=>some (v,h)
   |none=>none
 | .Gr kt m k v=>match DL P kt (ρ m) (ρ k) (ρ v) h with
   |some h=>some (dU,h)
   |none=>none
 | .P9 kt zero m k=>XM P kt zero (ρ m) (ρ k) h
 | .Qa m s v=>match XN (ρ m) (ρ s) (ρ v) h with
   |some h=>some (dU,h)
   |none=>none
 | .Kv x=>match ρ x with
   | .string s=>some (.pointer (some ⟨h.next,0,none⟩),h.new (.zX s 0))
   |_=>none
 | .rangeMap x=>match ρ x with
   | .map none=>some (.pointer (some ⟨h.next,0,none⟩),h.new (.mapIter none 0 [] 0))
   | .map (some m)=>match h.get m with
     |some (.map _ clock)=>some (.pointer (some ⟨h.next,0,none⟩),h.new (.mapIter (some m) clock [] clock))
     |_=>none
   |_=>none
 | .Qb it=>match ρ it with
   | .pointer (some ⟨r,0,none⟩)=>match h.get r with
     |some (.zX s pos)=>cond (Nat.blt pos s.size)
       (some (.tuple #[.bool true,goInt pos,.int .i32 (Utf8.decode s pos).1],h.set r (.zX s (Nat.add pos (Utf8.decode s pos).2))))
       (some (.tuple #[.bool false],h))
     |_=>none
   |_=>none
 | .entry it=>match ρ it with
   | .pointer (some ⟨r,0,none⟩)=>match h.get r with
     |some (.mapIter (some m) _ seen stepped)=>match h.get m with
      |some (.map es clock)=>match seen.getLast? with
       |some stamp=>cond (Nat.beq clock stepped) (match es.find? (λe=>Nat.beq e.born stamp)with
        |some e=>some (.tuple #[e.key,e.val],h)
        |none=>none) none
       |none=>none
      |_=>none
     |_=>none
   |_=>none
 | .Gs t zero ok x=>match ρ x with
   | .nilIface=>cond ok (some (.tuple #[zero,.bool false],h)) none
   | .iface u v=>cond (Nat.beq u t) (some (cond ok (.tuple #[v,.bool true]) v,h)) (cond ok (some (.tuple #[zero,.bool false],h)) none)
   |_=>none
 | .extract x i=>match ρ x with
   | .tuple ⟨vs⟩=>match jU vs i with
     |some v=>some (v,h)
     |none=>none
   |_=>none
 | .append _ size bytes s x=>match oW (ρ x)with
   |some n=>match yG size n (ρ x) h with
    |some xs=>wX size bytes (ρ s) n xs h
    |none=>none
   |none=>none
 | .Gt _ size bytes zero s x=>match ρ s,ρ x with
   | .slice none 0 0,.int .i64 (.ofNat (n+1))=>cond (Nat.ble (Nat.mul (n+1) bytes) small&&Nat.ble (Nat.mul (n+1) size) small&&Nat.ble (n+1) small) (some (.slice (some ⟨h.next,0,some size⟩) (n+1) (n+1),h.new (.cells (zeros zero (n+1))))) none
   |_,_=>none
 | .copy size d x=>Qe size (ρ d) (ρ x) h
 | .clear zero x=>match ρ x with
   | .slice (some ⟨i,o,some _⟩) (n+1) _=>match h.storeAt i o (zeros zero (n+1))with
     |some h'=>some (.tuple #[],h')
     |none=>none
   | .slice _ 0 _=>some (.tuple #[],h)
   |_=>none
 | .Qc x=>match ρ x with
   | .string s=>some (goInt s.size,h)
   |_=>none
 | .Gu n=>some (goInt n,h)
 | .wW x=>match ρ x with
   | .slice _ n _=>some (goInt n,h)
   |_=>none
 | .Gv x=>match entriesOf (ρ x) h with
   |some es=>some (goInt (iL es),h)
   |none=>none
 | .Qd x=>match ρ x with
   | .slice none _ c=>some (goInt c,h)
   | .slice (some ⟨_,_,some 0⟩) _ c=>some (goInt c,h)
   |_=>none
 | .zW max args=>match lN ρ args with
   |[.int j a,.int k b]=>cond (uA j k) (some (.int j (cond max (cond (leZ b a) a b) (cond (leZ a b) a b)),h)) none
   |args=>cond (fZ args) (match kK P (cond max (Builtin.max_ #[] 0 ⟨args⟩) (Builtin.min_ #[] 0 ⟨args⟩))with
    |some v=>some (v,h)
    |none=>none) none
 | .wV _| .call _ _| .invoke _ _ _| .recover| .panic _| .dcall _ _=>none
end Go.Ideal
namespace Go.Ideal
noncomputable section
def jB(P:Program)(t:adH):x8 Nat:=(P.info? t).map (·.size)
def zeroOf(P:Program)(t:adH):x8 vI:=
 match (P.info? t).bind (·.zero)with
 |some z=>if cK z then some z else none
 |none=>none
def jC(P:Program)(t:adH):Bool:=
 match P.underlying t with
 |some (.struct _)|some (.array _ _)=>true
 |_=>false
def vO(P:Program)(t:adH):x8 (kI vI):=
 match zeroOf P t,jB P t with
 |some z,some n=>if z.cells.toList.length=n/\fZ z.cells.toList then some z.cells.toList else none
 |_,_=>none
def nG(P:Program)(t:adH):x8 Nat:=
 match jB P t with
 |some 0=>none
 |s=>s
def yH(P:Program)(fs:Array Field):kI (Nat×aaB)->x8 (kI (Nat×Nat×aaB))
 |[]=>some []
 |(i,x)::l=>match fs[i]?,yH P fs l with
  |some f,some r=>match jB P f.type with
   |some s=>some ((f.offset,s,x)::r)
   |none=>none
  |_,_=>none
def placesOf(P:Program)(fs:Array Field)(parts:kI (Nat×aaB)):x8 (kI (Nat×Nat×aaB)):=
 if fs.toList.all (λf=>(jB P f.type).isSome)then yH P fs parts else none
def Gx:Fn->Bool
 | .yield _=>false
 | .via .. =>false
 |_=>true
def cop(P:Program)(o:Oper):x8 aF:=
 match o.op with
 | .move x=>some (.mv x)
 | .assign x=>some (.nD x)
 | .pick c a b=>some (.pick c a b)
 | .alloc e=>match vO P e with
   |some cs=>some (.new cs e)
   |none=>none
 | .box e x=>some (.box x e)
 | .build t parts=>match P.underlying t,vO P t with
   |some (.struct fs),some z=>match placesOf P fs parts.toList with
    |some ps=>some (.build z ps)
    |none=>none
   |some (.array _ e),some z=>match nG P e with
    |some s=>some (.build z (parts.toList.map λ(i,x)=>(i*s,s,x)))
    |none=>none
   |_,_=>none
 | .buildSlice t len parts=>match P.underlying t with
   |some (.slice e)=>match nG P e,vO P e with
    |some s,some z=>if len*s<=2^24 then some (.wU e len (zeros z len) (parts.toList.map λ(i,x)=>(i*s,s,x)))else none
    |_,_=>none
   |_=>none
 | .load t a=>if jC P t then(jB P t).map λn=>.pW n a else match P.underlying t with
   |some _=>some (.ah2 a)
   |none=>none
 | .store t a x=>(jB P t).map λn=>.store n a x
 | .nilCheck x=>some (.lm x)
 | .binOp op t x y _=>some (.bin op t x y)
 | .unOp op _ x=>some (.un op x)
 | .convert s d x=>match P.underlying s,P.underlying d with
   |some .string,some (.slice _)=>none
   |some (.slice e),some .string=>match P.underlying e with
    |some (.int .u8)=>some (.Gq x)
    |_=>none
   |some (.slice _),some (.slice _)=>none
   |some _,some _=>some (.conv s d x)
   |_,_=>none
 | .makeInterface t x=>match P.underlying t with
   |some (.interface _)=>none
   |some _=>some (.iface t x)
   |none=>none
 | .makeFunc fn first captured=>if Gx fn then some (.BM fn first.toList captured.toList)else none
 | .makeMap _ none=>some .vN
 | .makeSlice t l c=>match P.underlying t with
   |some (.slice e)=>match nG P e,vO P e with
    |some s,some z=>some (.zV e s ((P.info? e).map (·.bytes)).get! z l c)
    |_,_=>none
   |_=>none
 | .slice t x lo hi mx=>match P.underlying t with
   |some .string=>some (.P5 t x lo hi mx)
   |some (.array n e)=>(nG P e).map λs=>.Kt n s x lo hi mx
   |some (.slice e)=>(nG P e).map λs=>.P6 s x lo hi mx
   |_=>none
 | .fieldAddr s x f=>match P.underlying s with
   |some (.struct fs)=>match fs[f]? with
    |some f=>(nG P f.type).map λ_=>.fQ f.offset x
    |none=>none
   |_=>none
 | .field t x f=>match P.underlying t with
   |some (.struct fs)=>match fs[f]? with
    |some f=>match jB P f.type,P.underlying f.type with
     |some n,some _=>some (.field f.type f.offset n (jC P f.type) x)
     |_,_=>none
    |none=>none
   |_=>none
 | .indexAddr t x i=>match P.underlying t with
   |some (.array n e)=>(nG P e).map λs=>.Ku n s x i
   |some (.slice e)=>(nG P e).map λs=>.nQ s x i
   |_=>none
 | .index t x i=>match P.underlying t with
   |some (.array n e)=>match nG P e,P.underlying e with
    |some s,some _=>some (.P8 n s (jC P e) x i)
    |_,_=>none
   |some .string=>some (.P7 x i)
   |_=>none
 | .lookup t m k ok=>match P.underlying t with
   |some (.map kt et)=>(zeroOf P et).map λz=>.lookup kt z m k ok
   |_=>none
 | .mapUpdate t m k v| .insert t m k v=>match P.underlying t with
   |some (.map kt _)=>some (.Gr kt m k v)
   |_=>none
 | .range t x=>match P.underlying t with
   |some .string=>some (.Kv x)
   |some (.map _ _)=>some (.rangeMap x)
   |_=>none
 | .next it false=>some (.wV it)
 | .entry it=>some (.entry it)
 | .typeAssert x _ t ok=>match P.underlying t with
   |some (.interface _)=>none
   |some _=>(zeroOf P t).map λz=>.Gs t z ok x
   |none=>none
 | .extract t i=>some (.extract t i)
 | .panic x=>some (.panic x)
 | .defer {callee:=.value f,args,.. }=>some (.dcall f args.toList)
 | .call {callee:=.value f,args,.. }=>some (.call f args.toList)
 | .call {callee:=.invoke x name,args,.. }=>some (.invoke x name args.toList)
 | .call {callee:=.builtin b,args,argTypes}=>match b,args.toList with
   | .recover,_=>some .recover
   | .panic,[x]=>some (.panic x)
   | .append,[s,x]=>match argTypes[0]?,argTypes[1]? with
     |some st,some xt=>match P.underlying st,P.underlying xt with
      |some (.slice e),some xd=>match nG P e,(P.info? e).map (·.bytes),vO P e with
       |some s',some (b+1),some z=>match xd with
        | .int _=>some (.Gt e s' (b+1) z s x)
        |_=>some (.append e s' (b+1) s x)
       |_,_,_=>none
      |_,_=>none
     |_,_=>none
   | .clear,[x]=>match argTypes[0]? with
     |some t=>match P.underlying t with
      |some (.slice e)=>match vO P e with
       |some (z::zs)=>some (.clear (z::zs) x)
       |_=>none
      |_=>none
     |none=>none
   | .copy,[d,x]=>match argTypes[0]? with
     |some dt=>match P.underlying dt with
      |some (.slice e)=>(nG P e).map λs=>.copy s d x
      |_=>none
     |none=>none
   | .len,[x]=>match argTypes[0]? with
     |some t=>match P.underlying t with
      |some .string=>some (.Qc x)
      |some (.array n _)=>some (.Gu n)
      |some (.pointer p)=>match P.underlying p with
       |some (.array n _)=>some (.Gu n)
       |_=>none
      |some (.slice _)=>some (.wW x)
      |some (.map _ _)=>some (.Gv x)
      |_=>none
     |none=>none
   | .cap,[x]=>match argTypes[0]? with
     |some t=>match P.underlying t with
      |some (.slice _)=>some (.Qd x)
      |_=>none
     |none=>none
   | .min,args=>some (.zW false args)
   | .max,args=>some (.zW true args)
   |_,_=>none
 |_=>none
def z8(P:Program):aaB->Bool
 | .const (.tuple ⟨[]⟩)=>true
 | .const v=>cK v
 | .global g=>Nat.blt g P.globals.size
 |_=>true
def DR(P:Program)(ops:Array Oper)(o:Oper):x8 iq:=
 if o.op.operands.toList.all (z8 P)then match cop P o with
 |none=>none
 |some c=>match o.guard with
  |none=>some ⟨o.dst,none,c⟩
  |some (j,want)=>match (ops[j]?).bind (·.dst)with
   |some t=>some ⟨o.dst,some (t,want),c⟩
   |none=>none
 else none
def heavy:aF->Bool
 | .nD .. | .store .. | .Gr .. | .P9 .. | .Qa .. | .Kv .. | .rangeMap .. | .Qb .. | .wV .. | .append .. | .Gt .. | .copy .. | .clear .. | .PZ ..
 | .call .. | .invoke .. | .recover| .panic .. | .dcall .. =>true
 |_=>false
def BP:aF->Bool
 | .ah2 .. | .pW .. | .lookup .. | .entry .. | .Gq .. | .Gv .. =>true
 |_=>false
def Aa(ops:Array Oper)(done:kI Nat)(i:Nat):Bool:=
 !done.contains i&&match ops[i]? with
  |some o=>o.after.toList.all λe=>!Region.binds .any e||done.contains e.on
  |none=>false
def looks(ops:Array Oper)(o:Oper):kI Tmp:=
 (o.op.operands.toList.filterMap λ| .tmp t=>some t|_=>none)++
 (match o.guard with
  |some (g,_)=>((ops[g]?).bind (·.dst)).toList
  |none=>[])
def Kz(ops:Array Oper)(hv:Nat->Bool):Nat->kI Nat->kI Nat
 |0,done=>done.reverse
 |f+1,done=>
  match (List.range ops.size).find? λi=>!hv i&&Aa ops done i with
  |some i=>Kz ops hv f (i::done)
  |none=>match (List.range ops.size).find? λi=>Aa ops done i with
   |some i=>Kz ops hv f (i::done)
   |none=>done.reverse
def Qg(ops:Array Oper)(bQ:Nat->Nat->Bool)(hv:Nat->Bool)(done:kI Nat)(i:Nat):Bool:=
 match ops[i]? with
 |none=>false
 |some o=>
  Aa ops done i&&
  (!hv i||(done.all λj=>!hv j||bQ i j)&&(List.range ops.size).all λj=>hv j||!Aa ops done j)&&
  (match o.dst with
  |none=>true
  |some d=>(hv i||!(looks ops o).contains d)&&done.all λj=>match ops[j]? with
   |some p=>if(looks ops p).contains d||p.dst==some d then hv i&&bQ i j else true
   |none=>false)&&
  done.all λj=>match ops[j]? with
   |some p=>match p.dst with
    |some d=>if(looks ops o).contains d then bQ i j else true
    |none=>true
   |none=>false
def DT(ops:Array Oper)(bQ:Nat->Nat->Bool)(hv:Nat->Bool):kI Nat->kI Nat->Bool
 |[],done=>(List.range ops.size).all λi=>done.contains i
 |i::l,done=>Qg ops bQ hv done i&&DT ops bQ hv l (i::done)
def DU(bQ:Nat->Nat->Bool)(cs:Nat->x8 iq):kI Nat->kI Nat->x8 (kI bV)
 |[],_=>some []
 |i::l,done=>match cs i,DU bQ cs l (i::done)with
  |some s,some r=>some (⟨s,if heavy s.op then done.filterMap λj=>match cs j with
    |some t=>if BP t.op&&!bQ i j then some t else none
    |none=>none else[]⟩::r)
  |_,_=>none
def qy(ops:Array Oper):Nat->Nat->Bool:=
 let b:=Region.before ops
 λi j=>(b.getD i 0).testBit j
def jW(P:Program)(ops:Array Oper)(i:Nat):x8 iq:=(ops[i]?).bind (DR P ops)
def yI(P:Program)(ops:Array Oper)(i:Nat):Bool:=
 match jW P ops i with
 |some s=>heavy s.op
 |none=>true
def Qh(P:Program)(ops:Array Oper):x8 (kI bV):=
 let l:=Kz ops (yI P ops) ops.size []
 if DT ops (qy ops) (yI P ops) l []then DU (qy ops) (jW P ops) l []else none
def dstsOf(ops:Array Oper):kI Tmp:=ops.toList.filterMap (·.dst)
def Gy(P:Program)(ops:Array Oper)(draw:Bool):dI:=
 match (if draw then Qh P ops else ops.toList.mapM λo=>(DR P ops o).map λs=>⟨s,[]⟩)with
 |some l=>.ops (dstsOf ops) l
 |none=>.fail
def compile(P:Program):Code->dI
 | .skip| .label _=>.skip
 | .region _ ops draw=>Gy P ops draw
 | .seq a b=>.seq (compile P a) (compile P b)
 | .cond c a b=>.cond c (compile P a) (compile P b)
 | .block id a=>.block id (compile P a)
 | .loop a=>.loop (compile P a)
 | .rangeFunc f params assign body=>if z8 P f then .rangeFunc f params.toList (compile P assign) (compile P body)else .fail
 | .exit id=>.exit id
 | .scope a=>.scope (compile P a)
 | .ret=>.ret
 | .goto _| .refuse _=>.fail
inductive qz where
 |tmp (t:Tmp)
 |cell1 (a:Tmp)
 |qA (n:Nat) (a:Tmp)
def DV(P:Program):ResultVar->x8 qz
 | .tmp t=>some (.tmp t)
 | .cell a t=>if jC P t then(jB P t).map λn=>.qA n a else match P.underlying t with
   |some _=>some (.cell1 a)
   |none=>none
structure gV where
 ntmps:Nat
 results:List qz
 body:dI
def uB(P:Program)(fn:Func):x8 gV:=
 match fn.body,fn.results.toList.mapM (DV P)with
 |some c,some rs=>if fn.name= "runtime.NumGoroutine" then none else some ⟨fn.ntmps,rs,compile P c⟩
 |_,_=>none
inductive iU where
 |ok (v:Value)
 |fT (chain:List PanicEntry)
structure gM where
 fn:Fn
 args:List Value
 captured:List Value
 pm:Option FrameMode
def wY(l:kI vI):Nat->T vI->T vI:=
 List.rec (motive:=λ_=>Nat->T vI->T vI) (λ_ t=>t) (λv _ ih i t=>ih (Nat.succ i) (t.set i (some v))) l
def rD(a b:Nat):Nat:=cond (Nat.ble a b) b a
def Ab(n:Nat)(args:kI vI)(pm:x8 FrameMode):aV:=
 {n:=rD n (iL args),tmps:=wY args 0 .leaf,defers:=[],pm,ro:=none}
def sW(tmps:T vI)(h:IH)(r:qz):x8 vI:=
 match r with
 | .tmp t=>some (dL tmps t)
 | .cell1 a=>match dL tmps a with
   | .pointer (some ⟨i,o,none⟩)=>match h.get i with
     |some (.cells cs)=>jU cs o
     |_=>none
   |_=>none
 | .qA n a=>match dL tmps a with
   | .pointer (some ⟨i,o,none⟩)=>match h.nR i o n with
     |some cs=>some (.agg ⟨cs⟩)
     |none=>none
   |_=>none
def wZ(tmps:T vI)(h:IH)(l:kI qz):x8 (kI vI):=
 List.rec (motive:=λ_=>x8 (kI vI)) (some []) (λr _ ih=>match sW tmps h r,ih with
  |some v,some vs=>some (v::vs)
  |_,_=>none) l
def qB(rs:kI qz)(tmps:T vI)(h:IH):x8 vI:=
 match wZ tmps h rs with
 |some [v]=>some v
 |some vs=>some (.tuple ⟨vs⟩)
 |none=>none
def yJ:FrameMode->FrameMode
 | .panicking (e::older)=>cond e.recovered (match older.dropWhile (!·.goexit)with
    |[]=>.returning
    |rest=>.panicking rest) (.panicking (e::older))
 |m=>m
def BQ(u:FrameMode)(chain:kI PanicEntry):FrameMode:=
 match u with
 | .panicking old=>.panicking (chain++old)
 |_=>.panicking chain
def jI(pm:FrameMode):vI×FrameMode:=
 match pm with
 | .panicking (e::older)=>cond (e.recovered||e.goexit) (.nilIface,pm) (e.v,.panicking ({e with recovered:=true}::older))
 |_=>(.nilIface,pm)
def BS(P:Program)(t:adH)(v:vI)(name:String):x8 (agR×vI):=
 match P.info? t with
 |none=>none
 |some info=>match info.methods.find? (·.name==name)with
  |none=>none
  |some m=>if m.path.size≠0 then none else match m.func with
   |some (f,ptr)=>match P.underlying t,ptr with
    |some (.pointer _),true=>some (f,v)
    |some (.pointer _),false=>none
    |some _,false=>some (f,v)
    |_,_=>none
   |none=>none
def target(P:Program)(q:gM):x8 (agR×kI vI):=
 match q.fn with
 | .func f=>some (f,ko q.args q.captured)
 | .method name=>match q.args with
   | .iface t v::args=>match BS P t v name with
     |some (f,r)=>some (f,r::args)
     |none=>none
   |_=>none
 | .methodOf t name=>match q.args with
   |x::args=>match P.underlying t with
    |some (.interface _)=>match x with
     | .iface t v=>match BS P t v name with
       |some (f,r)=>some (f,r::args)
       |none=>none
     |_=>none
    |some _=>match BS P t x name with
     |some (f,r)=>some (f,r::args)
     |none=>none
    |none=>none
   |[]=>none
 |_=>none
def w9(c:aF)(ρ:aaB->vI):x8 gM:=
 match c with
 | .call f args=>match ρ f with
   | .func fn ⟨first⟩ ⟨captured⟩=>some ⟨fn,ko first (lN ρ args),captured,none⟩
   |_=>none
 | .invoke x name args=>some ⟨.method name,ρ x::lN ρ args,[],none⟩
 |_=>none
def forget(ds:kI Tmp)(a:aV):aV:=
 List.rec (motive:=λ_=>aV->aV) (λa=>a) (λd _ ih a=>ih (a.set d dU)) ds a
def Ac(it:vI)(h:IH):x8 (kI (vI×IH)):=
 match it with
 | .pointer (some ⟨r,0,none⟩)=>match h.get r with
   |some (.mapIter none _ _ _)=>some [(.tuple #[.bool false],h)]
   |some (.mapIter (some m) since seen last)=>match h.get m with
    |some (.map es clock)=>
     cond (!seen.isEmpty&&!es.isEmpty&&es.all (λe=>Nat.ble last e.born)) none
      (let left:=es.filter λe=>!seen.contains e.born
      let old:=left.filter λe=>Nat.blt e.born since
      let new:=left.filter λe=>Nat.ble since e.born
      some ((if old.isEmpty then[(.tuple #[.bool false],h)]else[])++
       (old++new).map λe=>(.tuple #[.bool true,e.key,e.val],h.set r (.mapIter (some m) since (seen++[e.born]) clock))))
    |_=>none
   |_=>none
 |_=>none
def inBlock(id:Nat)(o:Out):Out:=
 match o with
 | .exit j=>cond (Nat.beq j id) .normal (.exit j)
 |o=>o
def uC(o:Out):x8 FrameMode:=
 match o with
 | .normal| .ret=>some .returning
 | .panic ch=>some (.panicking ch)
 | .exit _=>none
def uD(n:Nat)(ps:kI Tmp)(args:kI vI)(t:T vI):T vI:=
 List.rec (motive:=λ_=>kI vI->T vI->T vI) (λ_ t=>t)
  (λp _ ih args t=>match args with
    |v::args=>ih args (cond (Nat.blt p n) (t.set p (some v)) t)
    |[]=>t) ps args t
mutual
def nS(m:Nat):vI->Bool
 | .pointer (some a)=>Nat.blt a.block m
 | .slice (some a) _ _=>Nat.blt a.block m
 | .map (some i)=>Nat.blt i m
 | .func fn ⟨f⟩ ⟨c⟩=>(match fn with
   | .yield _=>false
   |_=>true)&&rE m f&&rE m c
 | .iface _ v=>nS m v
 | .agg ⟨l⟩=>rE m l
 | .tuple ⟨l⟩=>rE m l
 |_=>true
def rE(m:Nat):kI vI->Bool
 |[]=>true
 |v::l=>nS m v&&rE m l
end
def DW(m:Nat):dN->Bool
 | .cells cs=>rE m cs
 | .map es _=>es.all λe=>nS m e.val
 |_=>false
abbrev KO:=Out->aV->IH->Prop
abbrev KR:=iU->x8 FrameMode->IH->Prop
end
end Go.Ideal
namespace Go.Ideal
noncomputable section
def BU{α:Type}(f:Nat):kI α->T α:=
 Nat.rec (motive:=λ_=>kI α->T α) (λ_=>.leaf)
  (λ_ ih l=>List.rec (motive:=λ_=>T α) .leaf (λx l _=>.node (some x)
    (ih (List.rec (motive:=λ_=>Bool->kI α) (λ_=>[]) (λy _ r b=>Bool.rec (motive:=λ_=>kI α) (r true) (y::r false) b) l true))
    (ih (List.rec (motive:=λ_=>Bool->kI α) (λ_=>[]) (λy _ r b=>Bool.rec (motive:=λ_=>kI α) (r true) (y::r false) b) l false))) l) f
def ou(f:Nat):vI->vI->Bool:=
 Nat.rec (motive:=λ_=>vI->vI->Bool) (λ_ _=>false)
  (λ_ ih v u=>match v,u with
    | .bool a,.bool b=>a==b
    | .int .i64 a,.int .i64 b=>BN a b
    | .int j a,.int k b=>j==k&&a==b
    | .string a,.string b=>a.data.toList==b.data.toList
    | .pointer none,.pointer none=>true
    | .pointer (some ⟨i,o,none⟩),.pointer (some ⟨j,p,none⟩)=>Nat.beq i j&&Nat.beq o p
    | .slice none n c,.slice none m d=>Nat.beq n m&&Nat.beq c d
    | .slice (some ⟨i,o,some f⟩) n c,.slice (some ⟨j,p,some g⟩) m d=>Nat.beq i j&&Nat.beq o p&&Nat.beq f g&&Nat.beq n m&&Nat.beq c d
    | .map none,.map none=>true
    | .map (some i),.map (some j)=>Nat.beq i j
    | .nilIface,.nilIface=>true
    | .nilFunc,.nilFunc=>true
    | .iface t v,.iface s u=>Nat.beq t s&&ih v u
    | .agg ⟨a⟩,.agg ⟨b⟩=>List.rec (motive:=λ_=>kI vI->Bool) (λb=>match b with|[]=>true|_=>false) (λx _ r b=>match b with|y::b=>cond (ih x y) (r b) false|[]=>false) a b
    | .tuple ⟨a⟩,.tuple ⟨b⟩=>List.rec (motive:=λ_=>kI vI->Bool) (λb=>match b with|[]=>true|_=>false) (λx _ r b=>match b with|y::b=>cond (ih x y) (r b) false|[]=>false) a b
    | .func f ⟨a⟩ ⟨c⟩,.func g ⟨b⟩ ⟨d⟩=>f==g&&
       List.rec (motive:=λ_=>kI vI->Bool) (λb=>match b with|[]=>true|_=>false) (λx _ r b=>match b with|y::b=>cond (ih x y) (r b) false|[]=>false) a b&&
       List.rec (motive:=λ_=>kI vI->Bool) (λb=>match b with|[]=>true|_=>false) (λx _ r b=>match b with|y::b=>cond (ih x y) (r b) false|[]=>false) c d
    |_,_=>false) f
abbrev BO:=Out->aV->IH->Bool
abbrev BR:=iU->x8 FrameMode->IH->Bool
structure Ev where
 code:dI->aV->IH->BO->Bool
 call:gM->IH->BR->Bool
structure Env where
 P:Program
 F:Nat->Option gV
 cut:Nat->Option (gM->IH->Option (List Value×Nat×Nat))
 /-- calls that are known: what they return, and the heap behind them -/
 memo:Nat->Option (gM->IH->Option (Value×IH))
def DX(P:Program)(re:kI iq)(a:aV)(h:IH):Bool:=
 List.rec (motive:=λ_=>Bool) true (λr _ ih=>cond (match a.wants r.guard with
  |some false=>true
  |_=>match r.op.run P a.eval h with
   |some (u,_)=>match r.dst with
    |some d=>ou 50 (dL a.tmps d) u
    |none=>true
   |none=>false) ih false) re
def KA(P:Program)(s:bV)(a:aV)(h:IH)(next:aV->IH->Bool):Bool:=
 match s.s.op.run P a.eval h with
 |some (v,h)=>match s.re with
  |[]=>next (a.put s.s.dst v) h
  |re=>cond (DX P re (a.put s.s.dst v) h) (next (a.put s.s.dst v) h) false
 |none=>false
def Gz(P:Program)(E:Ev)(ds:kI Tmp)(s:bV)(a:aV)(h:IH)(next:aV->IH->Bool)(k:BO):Bool:=
 match w9 s.s.op a.eval with
 |some q=>E.call q h λr _ h=>match r with
  | .ok v=>cond (DX P s.re (a.put s.s.dst v) h) (next (a.put s.s.dst v) h) false
  | .fT ch=>k (.panic ch) (forget ds a) h
 |none=>false
def DY(s:bV)(b:Bool):Bool:=match s.re with
 |[]=>b
 |_=>false
def GA(P:Program)(E:Ev)(ds:kI Tmp)(s:bV)(a:aV)(h:IH)(next:aV->IH->Bool)(k:BO):Bool:=
 match s.s.op with
 | .call _ _=>Gz P E ds s a h next k
 | .invoke _ _ _=>Gz P E ds s a h next k
 | .recover=>DY s (match a.ro with
   |some _=>false
   |none=>match a.pm with
    |none=>next (a.put s.s.dst .nilIface) h
    |some m=>next ({a with pm:=some (jI m).2}.put s.s.dst (jI m).1) h)
 | .panic x=>match a.eval x with
   | .iface t v=>k (.panic [{v:=.iface t v,recovered:=false}]) (forget ds a) h
   |_=>false
 | .dcall f args=>DY s (match a.ro with
   |some _=>false
   |none=>match a.eval f with
    | .func fn ⟨first⟩ ⟨captured⟩=>next ({a with defers:={target:=.fn fn ⟨captured⟩,args:=⟨ko first (lN a.eval args)⟩}::a.defers}.put s.s.dst dU) h
    |_=>false)
 | .wV x=>DY s (match Ac (a.eval x) h with
   |some alts=>Gp (λvh=>next (a.put s.s.dst vh.1) vh.2) alts
   |none=>false)
 |_=>KA P s a h next
def DZ(P:Program)(E:Ev)(ds:kI Tmp)(l:kI bV):aV->IH->BO->Bool:=
 List.rec (motive:=λ_=>aV->IH->BO->Bool) (λa h k=>k .normal a h)
  (λs _ ih a h k=>match a.wants s.s.guard with
    |some true=>GA P E ds s a h (λa h=>ih a h k) k
    |some false=>ih (a.put s.s.dst sS) h k
    |none=>false) l
def Ad(E:Ev)(cf:gV)(ts:T vI)(ds:kI Deferred):FrameMode->IH->(iU->IH->Bool)->Bool:=
 List.rec (motive:=λ_=>FrameMode->IH->(iU->IH->Bool)->Bool)
  (λm h k=>match m with
    | .returning=>match qB cf.results ts h with
      |some v=>k (.ok v) h
      |none=>false
    | .panicking ch=>k (.fT ch) h
    | .run=>false)
  (λd _ ih m h k=>match m with
    | .run=>false
    |m=>match d with
     |{target:=.collected r,.. }=>match h.get r with
      |some (.aid true)=>ih m (h.set r (.aid false)) k
      |_=>false
     |{target:=.fn fn ⟨captured⟩,args:=⟨args⟩}=>E.call ⟨fn,args,captured,some m⟩ h λr pm h=>match pm with
      |none=>false
      |some m'=>match r with
       | .ok _=>ih (yJ m') h k
       | .fT ch=>ih (BQ m' ch) h k
     |_=>false) ds
def Ae(V:Env)(E:Ev)(f:agR)(args:kI vI)(pm:x8 FrameMode)(h:IH)(k:BR):Bool:=
 match V.F f with
 |none=>false
 |some cf=>E.code cf.body (Ab cf.ntmps args pm) h λo a h=>match uC o with
  |none=>false
  |some m=>Ad E cf a.tmps a.defers m h λr h=>k r a.pm h
def Qi(l:Nat)(o:Out)(a:aV)(h:IH)(k:BR):Bool:=
 match a.defers with
 |[]=>match h.get l with
  |some (.loop r)=>match o with
   | .normal=>k (.ok (.bool true)) none (h.set l (.loop {r with state:=.ready,pending:=none}))
   | .panic ch=>k (.fT ch) none h
   | .exit id=>k (.ok (.bool false)) none (h.set l (.loop {r with state:=.done,pending:=some (.exit id)}))
   | .ret=>k (.ok (.bool false)) none (h.set l (.loop {r with state:=.done,pending:=some .ret}))
  |_=>false
 |_=>false
def KC(E:Ev)(l:Nat)(args:kI vI)(h:IH)(k:BR):Bool:=
 match h.get l with
 |some (.loop r)=>cond (Nat.beq (iL args) (iL r.params))
  (E.code r.assign {n:=r.n,tmps:=uD r.n r.params args r.tmps,defers:=[],pm:=none,ro:=some l} h λo a h=>match o with
    | .normal=>match h.get l with
      |some (.loop r1)=>match r1.state with
       | .ready=>E.code r.body a (h.set l (.loop {r1 with state:=.busy})) λo a h=>Qi l o a h k
       |_=>false
      |_=>false
    |_=>false) false
 |_=>false
def Qj(cs:kI vI)(n f:Nat)(h0:IH)(r:iU)(pm:x8 FrameMode)(h:IH):Bool:=
 match pm with
 |some _=>false
 |none=>match r with
  | .ok (.slice (some ⟨i,o,some f'⟩) n' c)=>cond (Nat.beq n n'&&Nat.beq f f'&&(!Nat.beq f 0||Nat.beq c n)&&Nat.ble h0.next i&&Nat.beq h.low h0.next) (match h.nR i o (iL cs)with
    |some l=>List.rec (motive:=λ_=>kI vI->Bool) (λb=>match b with|[]=>true|_=>false) (λx _ r b=>match b with|y::b=>cond (ou 5 x y) (r b) false|[]=>false) l cs
    |none=>false) false
  |_=>false
def KD(V:Env)(f:Nat)(q:gM)(h:IH)(k:BR)(other:Bool):Bool:=
 match V.memo f with
 |none=>other
 |some g=>match q.pm with
  |some _=>other
  |none=>match g q h with
   |some (v,h')=>k (.ok v) none h'
   |none=>other
def KE(V:Env)(E:Ev)(q:gM)(h:IH)(k:BR):Bool:=
 match q.fn with
 | .yield l=>match q.pm with
   |none=>KC E l q.args h k
   |some _=>false
 |_=>match target V.P q with
  |none=>false
  |some (f',args)=>KD V f' q h k (match V.cut f' with
   |none=>Ae V E f' args q.pm h k
   |some g=>match q.pm with
    |some _=>false
    |none=>match g q h with
     |none=>Ae V E f' args q.pm h k
     |some ([],_,_)=>Ae V E f' args q.pm h k
     |some (cs,n,f)=>cond (fZ cs&&(Nat.beq f 0||Nat.beq (iL cs) (Nat.mul n f)))
       (cond (Ae V E f' args none {h with low:=h.next} (Qj cs n f h))
         (k (.ok (.slice (some ⟨h.next,0,some f⟩) n n)) none (h.new (.cells cs))) false) false)
def GD(V:Env)(E:Ev)(c:dI)(a:aV)(h:IH)(k:BO):Bool:=
 match c with
 | .skip=>k .normal a h
 | .ops ds l=>DZ V.P E ds l a h k
 | .seq x y=>E.code x a h λo a h=>match o with
   | .normal=>E.code y a h k
   |o=>k o a h
 | .cond c x y=>match a.eval c with
   | .bool true=>E.code x a h k
   | .bool false=>E.code y a h k
   |_=>false
 | .block id c=>E.code c a h λo a h=>k (inBlock id o) a h
 | .loop c=>E.code c a h λo a h=>match o with
   | .normal=>E.code (.loop c) a h k
   |o=>k o a h
 | .scope c=>E.code c a h k
 | .exit id=>k (.exit id) a h
 | .ret=>k .ret a h
 | .rangeFunc f ps assign body=>match a.eval f with
   | .func fn ⟨first⟩ ⟨captured⟩=>
     let go (a1:aV) (r:Nat) (h1:IH):Bool:=
      E.call ⟨fn,ko first [.func (.yield h1.next) #[] #[]],captured,none⟩
       (h1.new (.loop {state:=.ready,pending:=none,tmps:=a.tmps,n:=a.n,params:=ps,assign,body,defers:=r})) λres _ h2=>match res with
       | .ok _=>match h2.get h1.next with
         |some (.loop lp)=>match lp.state with
          | .busy=>false
          |_=>k (lp.pending.getD .normal) a1 (h2.set h1.next (.loop {lp with state:=.exhausted}))
         |_=>false
       | .fT ch=>k (.panic ch) a1 h2
     match a.ro with
     |none=>go {a with defers:={target:=.collected h.next,args:= #[]}::a.defers} h.next (h.new (.aid true))
     |some l0=>match h.get l0 with
      |some (.loop r0)=>go a r0.defers h
      |_=>false
   |_=>false
 | .fail=>false
def BV(V:Env)(n:Nat):Ev:=
 Nat.rec (motive:=λ_=>Ev) ⟨λ_ _ _ _=>false,λ_ _ _=>false⟩ (λ_ E=>⟨GD V E,KE V E⟩) n
def pX(P:Program)(cut:Nat->x8 (gM->IH->x8 (kI vI×Nat×Nat)))(memo:Nat->x8 (gM->IH->x8 (vI×IH))):Env:=
 {P,F:=λf=>match (BU 100000 P.funcs.toList).get f with
   |some fn=>uB P fn
   |none=>none,cut,memo}
def qC:Nat->x8 (gM->IH->x8 (kI vI×Nat×Nat)):=λ_=>none
def pY:Nat->x8 (gM->IH->x8 (vI×IH)):=λ_=>none
noncomputable abbrev mO(P:Program)(n:agR):x8 gV:=(pX P qC pY).F n
noncomputable def uE(P:Program)(n:agR):gV:=(mO P n).getD ⟨0,[],.skip⟩
def aP{P:Program}(n:agR)(h:(mO P n).isSome=true:=by kernel_rfl):(pX P qC pY).F n=some (uE P n):=by
 unfold uE;revert h;show(mO P n).isSome=true->mO P n=some ((mO P n).getD ⟨0,[],.skip⟩);cases mO P n with
 |none=>intro h;cases h
 |some c=>intro _;rfl
end
end Go.Ideal
namespace Go.Ideal
section
variable {α:Type}
def T.D5(n:Nat):(T.leaf:T α).get n=none:=rfl
def T.BX(v:x8 α)(l r:T α):(T.node v l r).get 0=v:=rfl
def T.vP(v:x8 α)(l r:T α)(m:Nat):(T.node v l r).get (m+1)=if m%2=0 then l.get (m/2)else r.get (m/2):=by
 show Bool.rec (motive:=λ_=>x8 α) (r.get (m/2)) (l.get (m/2)) (Nat.beq (m%2) 0)=_;exact oy
def T.XO(f:Nat)(x:x8 α):T.one (f+1) 0 x=.node x .leaf .leaf:=rfl
def T.XP(f m:Nat)(x:x8 α):T.one (f+1) (m+1) x=if m%2=0 then .node none (T.one f (m/2) x) .leaf else .node none .leaf (T.one f (m/2) x):=by
 show Bool.rec (motive:=λ_=>T α) (.node none .leaf (T.one f (m/2) x)) (.node none (T.one f (m/2) x) .leaf) (Nat.beq (m%2) 0)=_;exact oy
def T.XQ(n:Nat)(x:x8 α):(T.leaf:T α).set n x=T.one (n+1) n x:=rfl
def T.XR(v:x8 α)(l r:T α)(x:x8 α):(T.node v l r).set 0 x=.node x l r:=rfl
def T.XT(v:x8 α)(l r:T α)(m:Nat)(x:x8 α):(T.node v l r).set (m+1) x=if m%2=0 then .node v (l.set (m/2) x) r else .node v l (r.set (m/2) x):=by
 show Bool.rec (motive:=λ_=>T α) (.node v l (r.set (m/2) x)) (.node v (l.set (m/2) x) r) (Nat.beq (m%2) 0)=_;exact oy
def T.XU(x:x8 α):∀(f n m:Nat),n<f->(T.one f n x).get m=if m=n then x else none:=by
 intro f;induction f with
 |zero=>intro n m h;omega
 |succ f ih=>
  intro n m h;cases n with
  |zero=>
   rw[T.XO];cases m with
   |zero=>simp[T.BX]
   |succ m=>rw[T.vP];simp[T.D5]
  |succ n=>
   rw[T.XP];by_cases hp:n%2=0
   .rw[if_pos hp];cases m with
    |zero=>simp[T.BX]
    |succ m=>
     rw[T.vP];by_cases hq:m%2=0
     .rw[if_pos hq,ih _ _ z7];exact gE
     .rw[if_neg hq,T.D5,if_neg z7]
   .rw[if_neg hp];cases m with
    |zero=>simp[T.BX]
    |succ m=>
     rw[T.vP];by_cases hq:m%2=0
     .rw[if_pos hq,T.D5,if_neg z7]
     .rw[if_neg hq,ih _ _ z7];exact gE
def T.nH(x:x8 α):∀(t:T α) (n m:Nat),(t.set n x).get m=if m=n then x else t.get m:=by
 intro t;induction t with
 |leaf=>intro n m;rw[T.XQ,T.XU _ _ _ _ (wN n),T.D5]
 |node v l r hl hr=>
  intro n m;cases n with
  |zero=>
   rw[T.XR];cases m with
   |zero=>simp[T.BX]
   |succ m=>rw[T.vP,T.vP];simp
  |succ n=>
   rw[T.XT];by_cases hp:n%2=0
   .rw[if_pos hp];cases m with
    |zero=>simp[T.BX]
    |succ m=>
     rw[T.vP,T.vP];by_cases hq:m%2=0
     .rw[if_pos hq,if_pos hq,hl];exact gE
     .rw[if_neg hq,if_neg hq,if_neg z7]
   .rw[if_neg hp];cases m with
    |zero=>simp[T.BX]
    |succ m=>
     rw[T.vP,T.vP];by_cases hq:m%2=0
     .rw[if_pos hq,if_pos hq,if_neg z7]
     .rw[if_neg hq,if_neg hq,hr];exact gE
end
def IH.nH(h:IH)(i j:Nat)(o:dN):(h.set i o).get j=if j=i then some o else h.get j:=T.nH _ _ _ _
def IH.uF(h:IH)(i j:Nat):(h.kill i).get j=if j=i then none else h.get j:=T.nH _ _ _ _
def IH.jc(h:IH)(j:Nat)(o:dN):(h.new o).get j=if j=h.next then some o else h.get j:=T.nH _ _ _ _
def IH.KF(h:IH)(o:dN):(h.new o).next=h.next+1:=rfl
def IH.KG(h:IH)(o:dN):(h.new o).low=h.low:=rfl
def IH.GG(h:IH)(i:Nat)(o:dN):(h.set i o).low=min h.low i:=by
 exact j9
def IH.Af(h:IH)(i:Nat):(h.kill i).low=min h.low i:=by
 exact j9
def BZ(t:T vI)(i j:Nat)(v:vI):dL (t.set i (some v)) j=if j=i then v else dL t j:=by
 unfold dL;rw[T.nH];split<;>rfl
section
variable {α β:Type}
def vQ(f:α->β)(l:kI α):lN f l=l.map f:=by
 induction l with
 |nil=>rfl
 |cons x l ih=>show f x::lN f l=_;rw[ih];rfl
def sZ(l:kI α)(n:Nat):jU l n=l[n]?:=by
 induction l generalizing n with
 |nil=>rfl
 |cons x l ih=>cases n with
  |zero=>rfl
  |succ n=>show jU l n=_;rw[ih];simp
def p9(l:kI α)(n:Nat):jH l n=l.drop n:=by
 induction l generalizing n with
 |nil=>cases n<;>rfl
 |cons x l ih=>cases n with
  |zero=>rfl
  |succ n=>show jH l n=_;rw[ih];simp
def xe(l:kI α):iL l=l.length:=by
 induction l with
 |nil=>rfl
 |cons x l ih=>show iL l+1=_;rw[ih];rfl
def jK(l r:kI α):ko l r=l++r:=by
 induction l with
 |nil=>rfl
 |cons x l ih=>show x::ko l r=_;rw[ih];rfl
def qD(l:kI α)(n:Nat):jf l n=if n<=l.length then some (l.take n)else none:=by
 induction l generalizing n with
 |nil=>cases n<;>rfl
 |cons x l ih=>cases n with
  |zero=>rfl
  |succ n=>
   show Option.rec (motive:=λ_=>x8 (kI α)) none (λr=>some (x::r)) (jf l n)=_;rw[ih];by_cases h:n<=l.length
   .rw[if_pos h,if_pos AH];rfl
   .rw[if_neg h,if_neg AH]
def Qk(p:α->Bool)(l:kI α):Gp p l=l.all p:=by
 induction l with
 |nil=>rfl
 |cons x l ih=>
  show Bool.rec (motive:=λ_=>Bool) false (Gp p l) (p x)=_;rw[ih];cases h:p x<;>simp[h]
def Ql(o:Nat)(xs:kI α):jV [] o xs=if xs=[]/\o=0 then some []else none:=by cases xs<;>cases o<;>rfl
def Qm(c:α)(l:kI α):jV (c::l) 0 []=some (c::l):=rfl
def KH(c:α)(l:kI α)(x:α)(xs:kI α):jV (c::l) 0 (x::xs)=(jV l 0 xs).map (x::·):=by
 show Option.rec (motive:=λ_=>x8 (kI α)) none (λr=>some (x::r)) (jV l 0 xs)=_;cases jV l 0 xs<;>rfl
def KI(c:α)(l:kI α)(o:Nat)(xs:kI α):jV (c::l) (o+1) xs=(jV l o xs).map (c::·):=by
 show Option.rec (motive:=λ_=>x8 (kI α)) none (λr=>some (c::r)) (jV l o xs)=_;cases jV l o xs<;>rfl
def KJ{l:kI α}:∀{o:Nat} {xs r:kI α},jV l o xs=some r->
 o+xs.length<=l.length/\r.length=l.length/\∀j:Nat,r[j]? =if o<=j/\j<o+xs.length then xs[j - o]? else l[j]?:=by
 induction l with
 |nil=>
  intro o xs r h;rw[Ql]at h;split at h
  .rename_i he;obtain⟨rfl,rfl⟩:=he;cases h;refine⟨An,rfl,λj=>?_⟩;rw[if_neg An]
  .cases h
 |cons c l ih=>
  intro o xs r h;cases o with
  |zero=>
   cases xs with
   |nil=>rw[Qm]at h;cases h;refine⟨An,rfl,λj=>?_⟩;rw[if_neg An]
   |cons x xs=>
    rw[KH]at h;cases hr:jV l 0 xs with
    |none=>rw[hr]at h;cases h
    |some r'=>
     rw[hr]at h;cases h;obtain⟨h1,h2,h3⟩:=ih hr;refine⟨by simp at h1⊢;omega,by simp[h2],λj=>?_⟩
     .cases j with
      |zero=>simp
      |succ j=>have:=h3 j;simp at this⊢;rw[this]
  |succ o=>
   rw[KI]at h;cases hr:jV l o xs with
   |none=>rw[hr]at h;cases h
   |some r'=>
    rw[hr]at h;cases h;obtain⟨h1,h2,h3⟩:=ih hr;refine⟨by simp;omega,by simp[h2],λj=>?_⟩
    .cases j with
     |zero=>simp
     |succ j=>
      have:=h3 j;simp only[qZ];rw[this];by_cases hc:o<=j/\j<o+xs.length
      .rw[if_pos hc,if_pos z7];congr 1;omega
      .rw[if_neg hc,if_neg z7]
def Qn(f:α->α)(l:kI α)(n:Nat):setAt f l n=l.modify n f:=by
 induction l generalizing n with
 |nil=>cases n<;>rfl
 |cons x l ih=>cases n with
  |zero=>rfl
  |succ n=>show x::setAt f l n=_;rw[ih];simp
end
def zeros_length(z:kI vI)(n:Nat):(zeros z n).length=n*z.length:=by
 induction n with
 |zero=>simp;rfl
 |succ n ih=>show(ko z (zeros z n)).length=_;rw[jK,iH,ih,Nat.succ_mul,Nat.add_comm]
structure iJ where
 b:Nat
 off:Nat
 len:Nat
 top:Nat
 sz:Nat
abbrev aG:=Nat->x8 iJ
inductive FR(β:aG):Fn->Fn->Prop
 |func (f:FuncId):FR β (.func f) (.func f)
 |method (n:String):FR β (.method n) (.method n)
 |methodOf (t:TypeId) (n:String):FR β (.methodOf t n) (.methodOf t n)
 |yield {l:Nat} {g:iJ} (h:β l=some g):FR β (.yield l) (.yield g.b)
mutual
inductive VR(β:aG):Value->Value->Prop
 |dU (v:Value):VR β (.tuple #[]) v
 |skip:VR β (.chan (some 0)) (.tuple #[])
 |bool (b:Bool):VR β (.bool b) (.bool b)
 |int (k:IntKind) (n:Int):VR β (.int k n) (.int k n)
 |float (k:FloatKind) (n:Nat):VR β (.float k n) (.float k n)
 |complex (k:FloatKind) (n m:Nat):VR β (.complex k n m) (.complex k n m)
 |string (s:ByteArray):VR β (.string s) (.string s)
 |nilFunc:VR β .nilFunc .nilFunc
 |nilIface:VR β .nilIface .nilIface
 |yK:VR β (.pointer none) (.pointer none)
 |ptr {i o:Nat} {g:iJ} (h:β i=some g):VR β (.pointer (some ⟨i,o,none⟩)) (.pointer (some ⟨g.b,g.off+o,none⟩))
 |sl0 (n c:Nat):VR β (.slice none n c) (.slice none n c)
 |ak {i o n c:Nat} {g:iJ} {a:Addr} (h:β i=some g) (hb:a.block=g.b) (hn:n<=c) (ha:c=0\/(a.off=g.off+o/\a.spot=none)):
   VR β (.slice (some ⟨i,o,some 0⟩) n c) (.slice (some a) n c)
 |qa {i o n c c':Nat} {g:iJ} {a:Addr} (h:β i=some g) (hb:a.block=g.b) (hs:a.spot=none) (hn:n<=c) (hz:0<g.sz)
   (hl:o+c*g.sz=g.len) (ht:g.off+o+c'*g.sz=g.top) (hc:c<=c') (ha:c'=0\/a.off=g.off+o):
   VR β (.slice (some ⟨i,o,some g.sz⟩) n c) (.slice (some a) n c')
 |xk:VR β (.map none) (.map none)
 |map {i:Nat} {g:iJ} (h:β i=some g):VR β (.map (some i)) (.map (some g.b))
 |func {fn fn':Fn} {f f' c c':List Value} (h:FR β fn fn') (hf:aW β f f') (hc:aW β c c'):VR β (.func fn ⟨f⟩ ⟨c⟩) (.func fn' ⟨f'⟩ ⟨c'⟩)
 |iface (t:TypeId) {v v':Value} (h:VR β v v'):VR β (.iface t v) (.iface t v')
 |agg {l l':List Value} (hc:l.all cellV=true) (h:aW β l l'):VR β (.agg ⟨l⟩) (.agg ⟨l'⟩)
 |tuple {l l':List Value} (h:aW β l l'):VR β (.tuple ⟨l⟩) (.tuple ⟨l'⟩)
inductive aW(β:aG):List Value->List Value->Prop
 |nil:aW β [] []
 |cons {v v':Value} {l l':List Value} (h:VR β v v') (hl:aW β l l'):aW β (v::l) (v'::l')
end
def aG.le(β β':aG):Prop:=∀i g,β i=some g->β' i=some g
def FR.mono{β β':aG}(h:β.le β'){f f':Fn}(hf:FR β f f'):FR β' f f':=by
 cases hf with
 |func f=>exact .func f
 |method n=>exact .method n
 |methodOf t n=>exact .methodOf t n
 |yield hl=>exact .yield (h _ _ hl)
mutual
def VR.mono{β β':aG}(h:β.le β'):∀{v v':vI},VR β v v'->VR β' v v'
 |_,_,.dU v=>.dU v
 |_,_,.skip=>.skip
 |_,_,.bool b=>.bool b
 |_,_,.int k n=>.int k n
 |_,_,.float k n=>.float k n
 |_,_,.complex k n m=>.complex k n m
 |_,_,.string s=>.string s
 |_,_,.nilFunc=>.nilFunc
 |_,_,.nilIface=>.nilIface
 |_,_,.yK=>.yK
 |_,_,.ptr hi=>.ptr (h _ _ hi)
 |_,_,.sl0 n c=>.sl0 n c
 |_,_,.ak hi hb hn ha=>.ak (h _ _ hi) hb hn ha
 |_,_,.qa hi hb hs hn hz hl ht hc ha=>.qa (h _ _ hi) hb hs hn hz hl ht hc ha
 |_,_,.xk=>.xk
 |_,_,.map hi=>.map (h _ _ hi)
 |_,_,.func hf h1 h2=>.func (hf.mono h) (aW.mono h h1) (aW.mono h h2)
 |_,_,.iface t hv=>.iface t (VR.mono h hv)
 |_,_,.agg hc hl=>.agg hc (aW.mono h hl)
 |_,_,.tuple hl=>.tuple (aW.mono h hl)
def aW.mono{β β':aG}(h:β.le β'):∀{v v':kI vI},aW β v v'->aW β' v v'
 |_,_,.nil=>.nil
 |_,_,.cons hv hl=>.cons (VR.mono h hv) (aW.mono h hl)
end
def aW.length{β:aG}{l l':kI vI}(h:aW β l l'):l'.length=l.length:=by
 induction l generalizing l' with
 |nil=>cases h;rfl
 |cons v l ih=>cases h with|cons hv hl=>simp[ih hl]
def aW.get{β:aG}{l l':kI vI}(h:aW β l l'){i:Nat}{v:vI}(hi:l[i]? =some v):∃v',l'[i]? =some v'/\VR β v v':=by
 induction l generalizing l' i with
 |nil=>simp at hi
 |cons x l ih=>
  cases h with
  |cons hv hl=>
   cases i with
   |zero=>simp at hi;subst hi;exact⟨_,An,hv⟩
   |succ i=>simp at hi;obtain⟨v',h1,h2⟩:=ih hl hi;exact⟨v',by simpa using h1,h2⟩
def aW.XV{β:aG}{l l':kI vI}(hlen:l'.length=l.length)(h:∀(i:Nat) (v:vI),l[i]? =some v->∃v',l'[i]? =some v'/\VR β v v'):aW β l l':=by
 induction l generalizing l' with
 |nil=>cases l' with|nil=>exact .nil|cons x l'=>simp at hlen
 |cons x l ih=>
  cases l' with
  |nil=>simp at hlen
  |cons y l'=>
   refine .cons ?_ (ih (by simpa using hlen) λi v hi=>?_)
   .obtain⟨v',h1,h2⟩:=h 0 x An;simp at h1;subst h1;exact h2
   .obtain⟨v',h1,h2⟩:=h (i+1) v E6;exact⟨v',by simpa using h1,h2⟩
def aW.append{β:aG}{l l' r r':kI vI}(h:aW β l l')(k:aW β r r'):aW β (l++r) (l'++r'):=by
 induction l generalizing l' with
 |nil=>cases h;exact k
 |cons x l ih=>cases h with|cons hv hl=>exact .cons hv (ih hl)
def aW.take{β:aG}{l l':kI vI}(h:aW β l l')(n:Nat):aW β (l.take n) (l'.take n):=by
 induction l generalizing l' n with
 |nil=>cases h;simp;exact .nil
 |cons x l ih=>cases h with|cons hv hl=>cases n with
  |zero=>exact .nil
  |succ n=>exact .cons hv (ih hl n)
def aW.drop{β:aG}{l l':kI vI}(h:aW β l l')(n:Nat):aW β (l.drop n) (l'.drop n):=by
 induction l generalizing l' n with
 |nil=>cases h;simp;exact .nil
 |cons x l ih=>cases h with|cons hv hl=>cases n with
  |zero=>exact .cons hv hl
  |succ n=>exact ih hl n
def aW.map{β:aG}{γ:Type}{f f':γ->vI}(l:kI γ)(h:∀x∈l,VR β (f x) (f' x)):aW β (l.map f) (l.map f'):=by
 exact pw
mutual
def VR.free{β:aG}:∀{v:vI},cK v=true->VR β v v
 | .bool b,_=>.bool b
 | .int k n,_=>.int k n
 | .float k n,_=>.float k n
 | .complex k n m,_=>.complex k n m
 | .string s,_=>.string s
 | .nilFunc,_=>.nilFunc
 | .nilIface,_=>.nilIface
 | .pointer none,_=>.yK
 | .pointer (some a),h=>by simp[cK]at h
 | .slice none n c,_=>.sl0 n c
 | .slice (some a) n c,h=>by simp[cK]at h
 | .map none,_=>.xk
 | .map (some r),h=>by simp[cK]at h
 | .chan r,h=>by simp[cK]at h
 | .func _ _ _,h=>by simp[cK]at h
 | .iface t v,h=>.iface t (VR.free (by simp[cK]at h;exact h.1))
 | .agg ⟨l⟩,h=>.agg (uG E7) (aW.free E7)
 | .tuple _,h=>by simp[cK]at h
def aW.free{β:aG}:∀{l:kI vI},fZ l=true->aW β l l
 |[],_=>.nil
 |v::l,h=>.cons (VR.free (by simp[fZ]at h;exact h.1.1)) (aW.free (by simp[fZ]at h;exact h.2))
def uG:∀{l:kI vI},fZ l=true->l.all cellV=true
 |[],_=>rfl
 |v::l,h=>by simp[fZ]at h;simp only[List.all_cons,h.1.2,amK];exact uG h.2
end
mutual
def VR.qb{β:aG}:∀{v v':vI},VR β v v'->cK v=true->v'=v
 |_,_,.bool b,_=>rfl
 |_,_,.int k n,_=>rfl
 |_,_,.float k n,_=>rfl
 |_,_,.complex k n m,_=>rfl
 |_,_,.string s,_=>rfl
 |_,_,.nilFunc,_=>rfl
 |_,_,.nilIface,_=>rfl
 |_,_,.yK,_=>rfl
 |_,_,.sl0 n c,_=>rfl
 |_,_,.xk,_=>rfl
 |_,_,.iface t hv,h=>by rw[VR.qb hv (by simp[cK]at h;exact h.1)]
 |_,_,.agg hc hl,h=>by rw[aW.qb hl E7]
 |_,_,.dU v,h=>by simp[cK]at h
 |_,_,.skip,h=>by simp[cK]at h
 |_,_,.ptr _,h=>by simp[cK]at h
 |_,_,.ak _ _ _ _,h=>by simp[cK]at h
 |_,_,.qa _ _ _ _ _ _ _ _ _,h=>by simp[cK]at h
 |_,_,.map _,h=>by simp[cK]at h
 |_,_,.func _ _ _,h=>by simp[cK]at h
 |_,_,.tuple _,h=>by simp[cK]at h
def aW.qb{β:aG}:∀{l l':kI vI},aW β l l'->fZ l=true->l'=l
 |_,_,.nil,_=>rfl
 |_,_,.cons hv hl,h=>by
  simp[fZ]at h;rw[VR.qb hv h.1.1,aW.qb hl h.2]
end
def yL{α:Type}{P:Program}{s:Sem α}{x:α}(h:eD P s=some x)(w:World):s.run P w=.ok x w:=by
 induction s with
 |pure a=>simp[eD]at h;subst h;rfl
 |program k ih=>simp only[eD]at h;simp only[Sem.run];exact ih _ h
 |mark m k ih=>simp only[eD]at h;simp only[Sem.run];exact ih h
 |_=>simp[eD]at h
def VR.cells{β:aG}{v v':vI}{cs:kI vI}(h:VR β v v')(hc:cellsOf v=some cs):cs.all cellV=true/\∃cs',v'.cells=⟨cs'⟩/\aW β cs cs':=by
 cases h<;>simp only[cellsOf,aD,reduceCtorEq]at hc<;>try subst hc
 case agg hc' hl=>exact⟨hc',_,rfl,hl⟩
 all_goals exact⟨rfl,_,rfl,.cons (by constructor<;>assumption) .nil⟩
def VR.cellV{β:aG}{v v':vI}(h:VR β v v')(hc:cellV v=true):(∀cs,v'≠.agg cs)/\(∀cs,v'≠.tuple cs):=by
 cases h<;>simp_all [Ideal.cellV]
inductive ERs(β:aG):List MapEntry->List MapEntry->Prop
 |nil:ERs β [] []
 |cons {e e':MapEntry} {l l':List MapEntry} (hk:e'.key=e.key) (hf:cK e.key=true) (hb:e'.born=e.born) (hv:VR β e.val e'.val) (hl:ERs β l l'):ERs β (e::l) (e'::l')
def Qo:Out->x8 Code
 | .normal=>none
 | .exit id=>some (.exit id)
 | .ret=>some .ret
 | .panic _=>none
structure LR(P:Program)(β:aG)(r:oV)(r':Loop):Prop where
 state:r'.state=r.state
 pending:r'.pending=r.pending.bind Qo
 D6:∀ch,r.pending≠some (.panic ch)
 size:r'.tmps.size=r.n
 tmps:∀i,VR β (dL r.tmps i) (r'.tmps.getD i undef)
 out:∀i,r.n<=i->dL r.tmps i=dU
 params:r'.params.toList=r.params
 assign:compile P r'.assign=r.assign
 body:compile P r'.body=r.body
 defers:∃g,β r.defers=some g/\r'.defers=g.b
 Ca:∃f,P.funcs[r'.fn]? =some f
def OR(P:Program)(β:aG)(g:iJ)(w:World):dN->Prop
 | .cells cs=>(∃c t fz,w.heap[g.b]? =some (.cells c t fz))/\cs.length=g.len/\g.off+g.len<=g.top/\
    (∀j,j<g.top->(w.cell? ⟨g.b,j,none⟩).isSome=true/\w.frozen? ⟨g.b,j,none⟩=false)/\
    cs.all cellV=true/\∀(j:Nat) v,cs[j]? =some v->∃v',w.cell? ⟨g.b,g.off+j,none⟩=some v'/\VR β v v'
 | .jl cs=>(∃c t fz,w.heap[g.b]? =some (.cells c t fz)/\(g.top=0\/c.size=g.top))/\g.sz=0/\cs.all cellV=true/\∀(j:Nat) v,cs[j]? =some v->∃v',w.cell? ⟨g.b,g.off+j,none⟩=some v'/\VR β v v'
 | .map es clock=>∃es',w.heap[g.b]? =some (.map es' clock)/\ERs β es es'.toList
 | .zX s pos=>w.heap[g.b]? =some (.stringIter s pos)/\g.off=0
 | .mapIter m since seen stepped=>∃m' seen',w.heap[g.b]? =some (.mapIter m' since seen' stepped)/\seen'.toList=seen/\VR β (.map m) (.map m')/\g.off=0
 | .loop r=>∃r',w.heap[g.b]? =some (.loop r')/\LR P β r r'
 | .aid b=>w.heap[g.b]? =some (.deferred (if b then some []else none))
structure WR(P:Program)(β:aG)(h:IH)(w:World):Prop where
 dom:∀i g,β i=some g->i<h.next
 live:∀i o,h.get i=some o->i<h.next
 obj:∀i g o,β i=some g->h.get i=some o->OR P β g w o
 inj:∀i j g k,β i=some g->β j=some k->h.get i≠none->h.get j≠none->((∀cs,h.get i≠some (.jl cs))\/∀cs,h.get j≠some (.jl cs))->g.b=k.b->i=j
structure Eff(β:aG)(h:IH)(w:World)(β':aG)(h':IH)(w':World):Prop where
 agree:∀i,i<h.next->β' i=β i
 next:h.next<=h'.next
 alive:∀i,i<h.next->h'.get i≠none->h.get i≠none
 hid:∀i,i<h.next->β i=none->h'.get i=h.get i
 low:h'.low<=h.low
 kept:∀i,i<h'.low->i<h.next->h'.get i=h.get i
 os:w'.os=w.os
 tape:w'.tape=w.tape
 output:w'.output=w.output
 size:w.heap.size<=w'.heap.size
 keep:∀b,b<w.heap.size->(∀i g,β i=some g->h.get i≠none->g.b≠b)->w'.heap[b]? =w.heap[b]?
 fresh:∀i g,β' i=some g->h.next<=i->w.heap.size<=g.b\/∃j k,β j=some k/\h.get j≠none/\k.b=g.b
 tq:∀i g,i<h'.low->i<h.next->β i=some g->h.get i≠none->g.b<w.heap.size->w'.heap[g.b]? =w.heap[g.b]?
 drawn:w.drawn<=w'.drawn
def Eff.refl(β:aG)(h:IH)(w:World)(hd:∀i g,β i=some g->i<h.next):Eff β h w β h w:=
 ⟨λ_ _=>rfl,bT _,λ_ _ h=>h,λ_ _ _=>rfl,bT _,λ_ _ _=>rfl,rfl,rfl,rfl,bT _,λ_ _ _=>rfl,
  λi g hg hi=>absurd (hd i g hg) z7,λ_ _ _ _ _ _ _=>rfl,bT _⟩
def Eff.le{β β':aG}{h h':IH}{w w':World}(e:Eff β h w β' h' w')(hd:∀i g,β i=some g->i<h.next):β.le β':=
 λi g hg=>(e.agree i (hd i g hg)).trans hg
def Eff.trans{β β1 β2:aG}{h h1 h2:IH}{w w1 w2:World}(e:Eff β h w β1 h1 w1)(f:Eff β1 h1 w1 β2 h2 w2):Eff β h w β2 h2 w2 where
 agree i hi:=(f.agree i (mM hi e.next)).trans (e.agree i hi)
 tq i g hl hi hg hn hb:=(f.tq i g hl (mM hi e.next) ((e.agree i hi).trans hg) (by rw[e.kept i (mM hl f.low) hi];exact hn) (mM hb e.size)).trans
  (e.tq i g (mM hl f.low) hi hg hn hb)
 next:=pQ e.next f.next
 drawn:=pQ e.drawn f.drawn
 alive i hi hn:=e.alive i hi (f.alive i (mM hi e.next) hn)
 hid i hi hb:=(f.hid i (mM hi e.next) ((e.agree i hi).trans hb)).trans (e.hid i hi hb)
 low:=pQ f.low e.low
 kept i hl hi:=(f.kept i hl (mM hi e.next)).trans (e.kept i (mM hl f.low) hi)
 os:=f.os.trans e.os
 tape:=f.tape.trans e.tape
 output:=f.output.trans e.output
 size:=pQ e.size f.size
 keep b hb hno:=by
  refine(f.keep b (mM hb e.size) λi g hg hn he=>?_).trans (e.keep b hb hno);by_cases hi:i<h.next
  .exact hno i g (by rw[<- e.agree i hi];exact hg) (e.alive i hi hn) he
  .rcases e.fresh i g hg (z7)with hf|⟨j,k,hk,hj,hkb⟩
   .omega
   .exact hno j k hk hj (hkb.trans he)
 fresh i g hg hi:=by
  by_cases hi1:i<h1.next
  .exact e.fresh i g (by rw[<- f.agree i hi1];exact hg) hi
  .rcases f.fresh i g hg (z7)with hf|⟨j,k,hk,hj,hkb⟩
   .exact .inl (pQ e.size hf)
   .by_cases hjn:j<h.next
    .exact .inr ⟨j,k,by rw[<- e.agree j hjn];exact hk,e.alive j hjn hj,hkb⟩
    .rcases e.fresh j k hk (z7)with hf'|⟨j',k',hk',hj',hkb'⟩
     .exact .inl (hkb▸hf')
     .exact .inr ⟨j',k',hk',hj',hkb'.trans hkb⟩
end Go.Ideal
namespace Go.Ideal
variable {P:Program}
variable{β β':aG}
def ERs.mono(h:β.le β'){l l':kI MapEntry}(he:ERs β l l'):ERs β' l l':=by
 induction he with
 |nil=>exact .nil
 |cons hk hf hb hv _ ih=>exact .cons hk hf hb (hv.mono h) ih
def LR.mono(h:β.le β'){r:oV}{r':Loop}(k:LR P β r r'):LR P β' r r':=
 ⟨k.state,k.pending,k.D6,k.size,λi=>(k.tmps i).mono h,k.out,k.params,k.assign,k.body,let⟨g,h1,h2⟩:=k.defers;⟨g,h _ _ h1,h2⟩,k.Ca⟩
def OR.mono(h:β.le β'){g:iJ}{w:World}{o:dN}(k:OR P β g w o):OR P β' g w o:=by
 cases o with
 |cells cs=>
  obtain⟨h1,h2,h3,h5,h6,h7⟩:=k;exact⟨h1,h2,h3,h5,h6,λj v hj=>let⟨v',a,b⟩:=h7 j v hj;⟨v',a,b.mono h⟩⟩
 |jl cs=>obtain⟨h1,h2,h6,h7⟩:=k;exact⟨h1,h2,h6,λj v hj=>let⟨v',a,b⟩:=h7 j v hj;⟨v',a,b.mono h⟩⟩
 |map es clock=>obtain⟨es',h1,h2⟩:=k;exact⟨es',h1,h2.mono h⟩
 |zX s pos=>exact k
 |mapIter m since seen stepped=>obtain⟨m',seen',h1,h2,h3,h4⟩:=k;exact⟨m',seen',h1,h2,h3.mono h,h4⟩
 |loop r=>obtain⟨r',h1,h2⟩:=k;exact⟨r',h1,h2.mono h⟩
 |aid b=>exact k
variable{g:iJ}{w:World}{o:dN}
def OR.congr{w':World}(hw:w'.heap[g.b]? =w.heap[g.b]?)(k:OR P β g w o):OR P β g w' o:=by
 have hc:∀j,w'.cell? ⟨g.b,j,none⟩=w.cell? ⟨g.b,j,none⟩:=λj=>World.cell?_of_block hw;have hf:∀j,w'.frozen? ⟨g.b,j,none⟩=w.frozen? ⟨g.b,j,none⟩:=λj=>World.frozen?_of_block hw;cases o<;>simp only[OR,hw,hc,hf]at *<;>exact k
def OR.lt(k:OR P β g w o):g.b<w.heap.size:=by
 have:w.heap[g.b]?≠none:=by
  cases o with
  |cells cs=>obtain⟨⟨c,t,fz,h1⟩,_⟩:=k;rw[h1];simp
  |jl cs=>obtain⟨⟨c,t,fz,h1,_⟩,_⟩:=k;rw[h1];simp
  |map es clock=>obtain⟨es',h1,_⟩:=k;rw[h1];simp
  |zX s pos=>have h1:=k.1;rw[h1];simp
  |mapIter m since seen stepped=>obtain⟨m',seen',h1,_⟩:=k;rw[h1];simp
  |loop r=>obtain⟨r',h1,_⟩:=k;rw[h1];simp
  |aid b=>have h1:w.heap[g.b]? =_:=k;rw[h1];simp
 rcases rq g.b w.heap.size with h|h
 .exact h
 .exact absurd (uo h) this
def aG.add(β:aG)(i:Nat)(g:iJ):aG:=λj=>if j=i then some g else β j
def aG.mh(β:aG)(i:Nat)(g:iJ):β.add i g i=some g:=by simp[aG.add]
def aG.lq(β:aG){i j:Nat}(g:iJ)(h:j≠i):β.add i g j=β j:=by simp[aG.add,h]
def aG.xm{i:Nat}(g:iJ)(h:β i=none):β.le (β.add i g):=λj k hj=>by
 by_cases e:j=i
 .subst e;rw[h]at hj;cases hj
 .rw[aG.lq _ _ e];exact hj
section
variable {β:aG} {h:IH} {w:World}
def WR.yM(hW:WR P β h w):β h.next=none:=by
 cases hb:β h.next with
 |none=>rfl
 |some g=>exact absurd (hW.dom _ _ hb) (Nat.lt_irrefl _)
variable{w':World}
def WR.uH(hW:WR P β h w)(hh:w'.heap=w.heap):WR P β h w':=
 ⟨hW.dom,hW.live,λi g o h1 h2=>(hW.obj i g o h1 h2).congr (by rw[hh]),hW.inj⟩
def Eff.uH(hd:∀i g,β i=some g->i<h.next)(h1:w'.heap=w.heap)(h2:w'.os=w.os)(h3:w'.tape=w.tape)(h4:w'.output=w.output)(h5:w.drawn<=w'.drawn:=by first|exact bT _|exact BI _|fail):Eff β h w β h w':=
 ⟨λ_ _=>rfl,bT _,λ_ _ h=>h,λ_ _ _=>rfl,bT _,λ_ _ _=>rfl,h2,h3,h4,by rw[h1];exact bT _,λ_ _ _=>by rw[h1],
  λi g hg hi=>absurd (hd i g hg) z7,λ_ _ _ _ _ _ _=>by rw[h1],h5⟩
def WR.alloc(hW:WR P β h w)(o:dN)(o':Obj)(g:iJ)(hg:g.b=w.heap.size){w1:World}(hw1:w1={w with heap:=w.heap.push o'})
 (ho:OR P (β.add h.next g) g w1 o):WR P (β.add h.next g) (h.new o) w1/\Eff β h w (β.add h.next g) (h.new o) w1:=by
 have hle:β.le (β.add h.next g):=aG.xm g hW.yM;have hheap:∀b,b<w.heap.size->w1.heap[b]? =w.heap[b]?:=λb hb=>by
  subst hw1;simp only[Ga];rw[if_neg z7]
 refine⟨⟨?_,?_,?_,?_⟩,⟨?_,?_,?_,?_,?_,?_,?_,?_,?_,?_,?_,?_,λ_ _ _ _ _ _ hb=>hheap _ hb,by subst hw1;exact bT _⟩⟩
 .intro i k hk;rw[IH.KF];by_cases e:i=h.next
  .omega
  .rw[aG.lq _ _ e]at hk;have:=hW.dom _ _ hk;omega
 .intro i x hx;rw[IH.KF];rw[IH.jc]at hx;split at hx
  .omega
  .have:=hW.live _ _ hx;omega
 .intro i k x hk hx;rw[IH.jc]at hx;by_cases e:i=h.next
  .subst e;rw[aG.mh]at hk;exact sR
  .rw[aG.lq _ _ e]at hk;rw[if_neg e]at hx;have:=hW.obj _ _ _ hk hx;exact(this.mono hle).congr (hheap _ this.lt)
 .intro i j k l hk hl hi hj hr he;rw[IH.jc]at hi hj;by_cases ei:i=h.next
  .by_cases ej:j=h.next
   .omega
   .rw[aG.lq _ _ ej]at hl;rw[if_neg ej]at hj;subst ei;rw[aG.mh]at hk;cases hk;cases hx:h.get j with
    |none=>exact absurd hx hj
    |some x=>have:=(hW.obj _ _ _ hl hx).lt;omega
  .rw[aG.lq _ _ ei]at hk;rw[if_neg ei]at hi;by_cases ej:j=h.next
   .subst ej;rw[aG.mh]at hl;cases hl;cases hx:h.get i with
    |none=>exact absurd hx hi
    |some x=>have:=(hW.obj _ _ _ hk hx).lt;omega
   .rw[aG.lq _ _ ej]at hl;rw[if_neg ej]at hj;exact hW.inj _ _ _ _ hk hl hi hj (hr.imp (λq cs e=>q cs (by rw[IH.jc,if_neg ei];exact e)) (λq cs e=>q cs (by rw[IH.jc,if_neg ej];exact e))) he
 .intro i hi;exact aG.lq _ _ z7
 .rw[IH.KF];omega
 .intro i hi hn;rw[IH.jc,if_neg z7]at hn;exact hn
 .intro i hi _;rw[IH.jc,if_neg z7]
 .exact bT _
 .intro i _ hi;rw[IH.jc,if_neg z7]
 .subst hw1;rfl
 .subst hw1;rfl
 .subst hw1;rfl
 .subst hw1;simp
 .intro b hb _;exact hheap b hb
 .intro i k hk hi;by_cases e:i=h.next
  .subst e;rw[aG.mh]at hk;cases hk;exact .inl z7
  .rw[aG.lq _ _ e]at hk;exact pC
def WR.write(hW:WR P β h w){i:Nat}{g:iJ}(hi:β i=some g){o0:dN}(h0:h.get i=some o0)(o:dN){w1:World}
 (hsz:w1.heap.size=w.heap.size) (hheap:∀b,b≠g.b->w1.heap[b]? =w.heap[b]?) (hos:w1.os=w.os) (Ag:w1.tape=w.tape) (hout:w1.output=w.output) (hdr:w.drawn<=w1.drawn)
 (ho:OR P β g w1 o) (hnr:∀cs,o0≠.jl cs:=by intro cs e;cases e):WR P β (h.set i o) w1/\Eff β h w β (h.set i o) w1:=by
 have hni:∀cs,h.get i≠some (.jl cs):=λcs e=>hnr cs (by rw[h0]at e;exact Option.some.inj e);refine⟨⟨?_,?_,?_,?_⟩,⟨?_,?_,?_,?_,?_,?_,hos,Ag,hout,?_,?_,?_,?_,hdr⟩⟩
 .exact hW.dom
 .intro j x hx;rw[IH.nH]at hx;split at hx
  .subst_vars;exact hW.live _ _ h0
  .exact hW.live _ _ hx
 .intro j k x hk hx;rw[IH.nH]at hx;by_cases e:j=i
  .subst e;rw[hi]at hk;exact sR
  .rw[if_neg e]at hx;refine(hW.obj _ _ _ hk hx).congr (hheap _ λhe=>e ?_);exact hW.inj _ _ _ _ hk hi (by rw[hx];simp) (by rw[h0];simp) (.inr hni) he
 .intro j l k m hk hm hj hl hr he;have pass:∀x,(∀cs,(h.set i o).get x≠some (.jl cs))->∀cs,h.get x≠some (.jl cs):=λx q cs e=>by
   by_cases ex:x=i
   .subst ex;exact hni cs e
   .exact q cs (by rw[IH.nH,if_neg ex];exact e)
  refine hW.inj _ _ _ _ hk hm ?_ ?_ (hr.imp (pass _) (pass _)) he
  .rw[IH.nH]at hj;split at hj
   .subst_vars;rw[h0];simp
   .exact hj
  .rw[IH.nH]at hl;split at hl
   .subst_vars;rw[h0];simp
   .exact hl
 .intro _ _;rfl
 .exact bT _
 .intro j hj hn;rw[IH.nH]at hn;split at hn
  .subst_vars;rw[h0];simp
  .exact hn
 .intro j hj hb;rw[IH.nH,if_neg];exact tS
 .rw[IH.GG];omega
 .intro j hl hj;rw[IH.GG]at hl;rw[IH.nH,if_neg z7]
 .omega
 .intro b hb hno;refine hheap b λe=>hno i g hi (by rw[h0];simp) e.symm
 .intro j k hk hj;exact pC
 .intro j k hl hj hk hn hb;rw[IH.GG]at hl;refine hheap _ λhe=>?_;have:=hW.inj _ _ _ _ hk hi hn (by rw[h0];simp) (.inr hni) he;omega
def WR.drop(hW:WR P β h w){i:Nat}{g:iJ}(hi:β i=some g):WR P β (h.kill i) w/\Eff β h w β (h.kill i) w:=by
 refine⟨⟨hW.dom,?_,?_,?_⟩,⟨?_,?_,?_,?_,?_,?_,rfl,rfl,rfl,bT _,λ_ _ _=>rfl,?_,λ_ _ _ _ _ _ _=>rfl,bT _⟩⟩
 .intro j x hx;rw[IH.uF]at hx;split at hx
  .cases hx
  .exact hW.live _ _ hx
 .intro j k x hk hx;rw[IH.uF]at hx;split at hx
  .cases hx
  .exact hW.obj _ _ _ hk hx
 .intro j l k m hk hm hj hl hr he;have pass:∀x,(h.kill i).get x≠none->(∀cs,(h.kill i).get x≠some (.jl cs))->∀cs,h.get x≠some (.jl cs):=λx hx q cs e=>by
   rw[IH.uF]at hx;by_cases ex:x=i
   .rw[if_pos ex]at hx;exact hx rfl
   .exact q cs (by rw[IH.uF,if_neg ex];exact e)
  have hr:=hr.imp (pass _ hj) (pass _ hl);rw[IH.uF]at hj hl;exact nv
 .intro _ _;rfl
 .exact bT _
 .intro j hj hn;rw[IH.uF]at hn;split at hn
  .exact absurd rfl hn
  .exact hn
 .intro j hj hb;rw[IH.uF,if_neg];exact tS
 .rw[IH.Af];omega
 .intro j hl hj;rw[IH.Af]at hl;rw[IH.uF,if_neg z7]
 .intro j k hk hj;exact pC
def WR.XW(hW:WR P β h w){i:Nat}{g:iJ}(hi:β i=some g)(hlive:h.get i≠none)(hni:∀cs,h.get i≠some (.jl cs))(o:dN)(g1:iJ)(hg1:g1.b=g.b){w1:World}
 (hsz:w1.heap.size=w.heap.size) (hheap:∀b,b≠g.b->w1.heap[b]? =w.heap[b]?) (hos:w1.os=w.os) (Ag:w1.tape=w.tape) (hout:w1.output=w.output) (hdr:w.drawn<=w1.drawn)
 (ho:OR P (β.add h.next g1) g1 w1 o):WR P (β.add h.next g1) ((h.kill i).new o) w1/\Eff β h w (β.add h.next g1) ((h.kill i).new o) w1:=by
 have hle:β.le (β.add h.next g1):=aG.xm g1 hW.yM;have hin:i<h.next:=hW.dom _ _ hi
 have hget:∀j,((h.kill i).new o).get j=if j=h.next then some o else if j=i then none else h.get j:=λj=>by
  rw[IH.jc,IH.uF];rfl
 refine⟨⟨?_,?_,?_,?_⟩,⟨?_,?_,?_,?_,?_,?_,hos,Ag,hout,?_,?_,?_,?_,hdr⟩⟩
 .intro j k hk;show j<h.next+1
  by_cases e:j=h.next
  .omega
  .rw[aG.lq _ _ e]at hk;have:=hW.dom _ _ hk;omega
 .intro j x hx;show j<h.next+1
  rw[hget]at hx;split at hx
  .omega
  .split at hx
   .cases hx
   .have:=hW.live _ _ hx;omega
 .intro j k x hk hx;rw[hget]at hx;by_cases e:j=h.next
  .subst e;rw[aG.mh]at hk;exact sR
  .rw[aG.lq _ _ e]at hk;rw[if_neg e]at hx;split at hx
   .cases hx
   .rename_i hji;refine((hW.obj _ _ _ hk hx).mono hle).congr (hheap _ λhe=>hji ?_);exact hW.inj _ _ _ _ hk hi (by rw[hx];simp) hlive (.inr hni) he
 .have key:∀j k,β j=some k->((h.kill i).new o).get j≠none->j≠h.next->k.b≠g.b:=λj k hk hj hjn he=>by
   rw[hget,if_neg hjn]at hj;split at hj
   .exact hj rfl
   .rename_i hji;exact hji (hW.inj _ _ _ _ hk hi hj hlive (.inr hni) he)
  intro j l k m hk hm hj hl hr he;have pass:∀x,x≠h.next->((h.kill i).new o).get x≠none->(∀cs,((h.kill i).new o).get x≠some (.jl cs))->∀cs,h.get x≠some (.jl cs):=λx lQ hx q cs e=>by
   rw[hget,if_neg lQ]at hx;by_cases ex:x=i
   .rw[if_pos ex]at hx;exact hx rfl
   .exact q cs (by rw[hget,if_neg lQ,if_neg ex];exact e)
  by_cases ej:j=h.next
  .by_cases el:l=h.next
   .omega
   .subst ej;rw[aG.mh]at hk;cases hk;rw[aG.lq _ _ el]at hm;exact absurd (he.symm.trans hg1) (key l m hm hl el)
  .rw[aG.lq _ _ ej]at hk;by_cases el:l=h.next
   .subst el;rw[aG.mh]at hm;cases hm;exact absurd (he.trans hg1) (key j k hk hj ej)
   .rw[aG.lq _ _ el]at hm;have hr:=hr.imp (pass _ ej hj) (pass _ el hl);rw[hget,if_neg ej]at hj;rw[hget,if_neg el]at hl;exact nv
 .intro j hj;exact aG.lq _ _ z7
 .show h.next<=h.next+1;omega
 .intro j hj hn;rw[hget,if_neg z7]at hn;split at hn
  .exact absurd rfl hn
  .exact hn
 .intro j hj hb;rw[hget,if_neg z7,if_neg];exact tS
 .show(h.kill i).low<=h.low;rw[IH.Af];omega
 .intro j hl hj;have hl':j<(h.kill i).low:=hl;rw[IH.Af]at hl';rw[hget,if_neg z7,if_neg z7]
 .omega
 .intro b hb hno;exact hheap b λe=>hno i g hi hlive e.symm
 .intro j k hk hj;by_cases e:j=h.next
  .subst e;rw[aG.mh]at hk;cases hk;exact .inr ⟨i,g,hi,hlive,hg1.symm⟩
  .rw[aG.lq _ _ e]at hk;exact pC
 .intro j k hl hj hk hn hb;rw[IH.KG,IH.Af]at hl;refine hheap _ λhe=>?_;have:=hW.inj _ _ _ _ hk hi hn hlive (.inr hni) he;omega
end
end Go.Ideal
namespace Go.Ideal
variable {P:Program} {β:aG} {h:IH} {w:World}
def addr_add(b o j:Nat):(⟨b,o,none⟩:Addr).add j=⟨b,o+j,none⟩:=by unfold Addr.add;split<;>simp_all
variable{t:adH}{d:TypeDesc}
def fJ(h:P.underlying t=some d)(w:World):(underlying t).run P w=.ok d w:=by
 simp[underlying,h]
variable{n:Nat}
def mP(h:jB P t=some n)(w:World):(sizeOf t).run P w=.ok n w:=by
 unfold jB at h;cases hi:P.info? t with
 |none=>simp[hi]at h
 |some i=>simp[hi]at h;simp[sizeOf,typeInfo,hi,h]
def D7{i:TypeInfo}(h:P.info? t=some i)(w:World):(typeInfo t).run P w=.ok i w:=by
 simp[typeInfo,h]
variable{z:vI}
def Cb(h:zeroOf P t=some z):∃i,P.info? t=some i/\i.zero=some z/\cK z=true:=by
 unfold zeroOf at h;cases hi:P.info? t with
 |none=>simp[hi]at h
 |some i=>
  simp only[hi,iX]at h;cases hz:i.zero with
  |none=>simp[hz]at h
  |some z'=>
   simp only[hz]at h;split at h
   .cases h;exact⟨i,rfl,hz,by assumption⟩
   .cases h
def Cc(h:zeroOf P t=some z)(w:World):(zeroValue t).run P w=.ok z w:=by
 obtain⟨i,h1,h2,_⟩:=Cb h;simp[zeroValue,typeInfo,h1,h2]
def Ce(h:P.underlying t=some d)(w:World):(isAgg t).run P w=.ok (jC P t) w:=by
 simp only[isAgg,dG,fJ h,dJ,jC,h];cases d<;>rfl
def Qp(h:jC P t=true):∃d,P.underlying t=some d:=by
 unfold jC at h;cases hu:P.underlying t with
 |none=>simp[hu]at h
 |some d=>exact⟨d,rfl⟩
def GH(hW:WR P β h w){i:Nat}{g:iJ}(hi:β i=some g){cs:kI vI}(hg:h.get i=some (.cells cs)\/h.get i=some (.jl cs)){o n:Nat}{l:kI vI}
 (hl:jf (jH cs o) n=some l):
 l.length=n/\l.all cellV=true/\∃l',aW β l l'/\∀(j:Nat) v,l'[j]? =some v->w.cell? ⟨g.b,g.off+o+j,none⟩=some v:=by
 obtain⟨h6,h7⟩:cs.all cellV=true/\∀(j:Nat) v,cs[j]? =some v->∃v',w.cell? ⟨g.b,g.off+j,none⟩=some v'/\VR β v v':=by
  rcases hg with hg|hg
  .obtain⟨_,_,_,_,h6,h7⟩:=hW.obj i g _ hi hg;exact⟨h6,h7⟩
  .obtain⟨_,_,h6,h7⟩:=hW.obj i g _ hi hg;exact⟨h6,h7⟩
 rw[qD,p9]at hl;split at hl
 .rename_i hn;cases hl;refine⟨by simp at hn⊢;omega,?_,?_⟩
  .rw[lK]at h6⊢;exact λx hx=>h6 x (List.mem_of_mem_drop (BJ hx))
  .have key:∀k:Nat,k<=n->∃l',aW β ((cs.drop o).take k) l'/\∀(j:Nat) v,l'[j]? =some v->w.cell? ⟨g.b,g.off+o+j,none⟩=some v:=by
    intro k;induction k with
    |zero=>intro _;exact⟨[],by simpa using aW.nil,λj v hj=>by simp at hj⟩
    |succ k ih=>
     intro hk;obtain⟨l',h1,h2'⟩:=ih z7;have hlt:k<(cs.drop o).length:=z7
     obtain⟨v',hv1,hv2⟩:=h7 (o+k) ((cs.drop o)[k]) (by rw[<- oO];exact bP hlt);refine⟨l'++[v'],?_,λj v hj=>?_⟩
     .rw[List.take_succ_eq_append_getElem hlt];exact h1.append (.cons hv2 .nil)
     .have hlen:=h1.length;simp at hlen hlt;by_cases hjl:j<l'.length
      .rw[qp hjl]at hj;exact h2' j v hj
      .have hjk:j=l'.length:=by
        rcases rq j (l'++[v']).length with hh|hh
        .simp at hh;omega
        .rw[fO hh]at hj;cases hj
       subst hjk;simp at hj;subst hj;rw[show g.off+o+l'.length=g.off+(o+k)by omega];exact hv1
   exact key n (bT _)
 .cases hl
variable{o:Nat}{l:kI vI}
def KM{b:Nat}(hn:l.length=n)(hc:∀(j:Nat) v,l[j]? =some v->w.cell? ⟨b,o+j,none⟩=some v):
 (loadCells ⟨b,o,none⟩ n).run P w=.ok l.toArray w:=by
 subst hn;exact run_loadCells_list w _ l λj v hj=>by rw[addr_add];exact hc j v hj
variable{i:Nat}
def Qq{h:IH}(hl:h.nR i o n=some l):∃cs,h.get i=some (.cells cs)/\jf (jH cs o) n=some l:=by
 unfold IH.nR at hl;split at hl
 .exact⟨_,by assumption,hl⟩
 .cases hl
def Cf{h:IH}(hl:h.iM i o n=some l):∃cs,(h.get i=some (.cells cs)\/h.get i=some (.jl cs))/\jf (jH cs o) n=some l:=by
 unfold IH.iM at hl;exact pH
def Qr{h:IH}{v:vI}(hl:h.om i o=some v):∃cs,(h.get i=some (.cells cs)\/h.get i=some (.jl cs))/\jU cs o=some v:=by
 unfold IH.om at hl;exact pH
variable{h2:IH}
def XX{h:IH}(hs:∀i o,h.get i=some o->h2.get i=some o){i o:Nat}{v:vI}(hl:h.om i o=some v):h2.om i o=some v:=by
 obtain⟨cs,hg|hg,h1⟩:=Qr hl
 .simp only[IH.om,hs _ _ hg,h1]
 .simp only[IH.om,hs _ _ hg,h1]
def Qs{h:IH}(hs:∀i o,h.get i=some o->h2.get i=some o){i o n:Nat}{l:kI vI}(hl:h.iM i o n=some l):h2.iM i o n=some l:=by
 obtain⟨cs,hg|hg,h1⟩:=Cf hl
 .simp only[IH.iM,hs _ _ hg,h1]
 .simp only[IH.iM,hs _ _ hg,h1]
def KN(b:Nat):∀(vs:kI vI) (o:Nat) (w:World),(w.setCells b o vs).drawn=w.drawn
 |[],_,_=>rfl
 |v::vs,o,w=>by
  show((w.setCell ⟨b,o,none⟩ v).setCells b (o+1) vs).drawn=_;rw[KN b vs];rfl
def KP(hW:WR P β h w){i:Nat}{g:iJ}(hi:β i=some g){o:Nat}{vs vs':kI vI}{h':IH}(hs:h.storeAt i o vs=some h')(hv:aW β vs vs')(hall:vs.all cellV=true):
 (∀k,k=0->(storeCells ⟨g.b,g.off+o,none⟩ vs' k).run P w=.ok () (w.setCells g.b (g.off+o) vs'))/\WR P β h' (w.setCells g.b (g.off+o) vs')/\Eff β h w β h' (w.setCells g.b (g.off+o) vs'):=by
 unfold IH.storeAt at hs;split at hs
 .rename_i cs hg;split at hs
  .rename_i cs2 hl;cases hs;obtain⟨h1,h2,h3,h5,h6,h7⟩:=hW.obj i g _ hi hg;obtain⟨l1,l2,l3⟩:=KJ hl;have hlen:vs'.length=vs.length:=hv.length;have hin:∀j,j<vs'.length->g.off+o+j<g.top:=λj hj=>by omega
   have hone:∀v∈vs',v.oneCell'=true:=λv hv'=>by
    obtain⟨j,hj⟩:=jS hv';have hjl:j<vs.length:=by
     rcases rq j vs'.length with hh|hh
     .omega
     .rw[fO hh]at hj;cases hj
    exact ii
   have hrun:∀k,k=0->(storeCells ⟨g.b,g.off+o,none⟩ vs' k).run P w=.ok () (w.setCells g.b (g.off+o) vs'):=λk hk=>by
    subst hk;have:=run_storeCells_cells (P:=P) g.b (g.off+o) vs' 0 w (λj hj=>(h5 _ (hin j hj)).1) (λj hj=>(h5 _ (hin j hj)).2) hone;simpa using this
   have hsz:(w.setCells g.b (g.off+o) vs').heap.size=w.heap.size:=by
    have Ah:∀(vs:kI vI) (o:Nat) (w:World),(w.setCells g.b o vs).heap.size=w.heap.size:=by
     intro vs;induction vs with
     |nil=>intro o w;rfl
     |cons v vs ih=>intro o w;show((w.setCell ⟨g.b,o,none⟩ v).setCells g.b (o+1) vs).heap.size=_;rw[ih];simp
    exact Ah _ _ _
   have hother:∀b,b≠g.b->(w.setCells g.b (g.off+o) vs').heap[b]? =w.heap[b]?:=by
    have Ah:∀(vs:kI vI) (o:Nat) (w:World) (b:Nat),b≠g.b->(w.setCells g.b o vs).heap[b]? =w.heap[b]?:=by
     intro vs;induction vs with
     |nil=>intro o w b _;rfl
     |cons v vs ih=>intro o w b hb;show((w.setCell ⟨g.b,o,none⟩ v).setCells g.b (o+1) vs).heap[b]? =_;rw[ih _ _ _ hb,Go.RowKit.Below.heap_setCell _ _ _ _ hb]
    exact Ah _ _ _
   have hsame:∃c t fz,(w.setCells g.b (g.off+o) vs').heap[g.b]? =some (.cells c t fz):=by
    have Ah:∀(vs:kI vI) (o:Nat) (w:World),(∃c t fz,w.heap[g.b]? =some (.cells c t fz))->∃c t fz,(w.setCells g.b o vs).heap[g.b]? =some (.cells c t fz):=by
     intro vs;induction vs with
     |nil=>intro o w hh;exact hh
     |cons v vs ih=>
      intro o w ⟨c,t,fz,hh⟩;refine ih _ _ ⟨c.setIfInBounds o v,t,fz,?_⟩;simp[World.setCell,Array.getElem?_modify,hh]
    exact Ah _ _ _ h1
   have Ag:(w.setCells g.b (g.off+o) vs').tape=w.tape:=by
    have Ah:∀(vs:kI vI) (o:Nat) (w:World),(w.setCells g.b o vs).tape=w.tape:=by
     intro vs;induction vs with
     |nil=>intro o w;rfl
     |cons v vs ih=>intro o w;show((w.setCell ⟨g.b,o,none⟩ v).setCells g.b (o+1) vs).tape=_;rw[ih];rfl
    exact Ah _ _ _
   have hos:=(PE g.b (may:=λ_=>True) vs' (g.off+o) w (λ_ _=>trivial)).1;have hout:=(PE g.b (may:=λ_=>True) vs' (g.off+o) w (λ_ _=>trivial)).2.1;have hdr:w.drawn<=(w.setCells g.b (g.off+o) vs').drawn:=by rw[KN];exact bT _
   refine⟨hrun,?_⟩;refine hW.write hi hg (.cells cs2) hsz hother hos Ag hout hdr ⟨hsame,z7,h3,?_,?_,?_⟩
   .intro j hj;refine⟨?_,by rw[World.frozen?_setCells];exact(h5 j hj).2⟩;by_cases hr:g.off+o<=j/\j<g.off+o+vs'.length
    .have:=PG g.b vs' (g.off+o) w (λk hk=>(h5 _ (hin k hk)).1) (j - (g.off+o)) z7;rw[show g.off+o+(j - (g.off+o))=j by omega]at this;rw[this];simp
    .rw[PI g.b vs' (g.off+o) w ⟨g.b,j,none⟩ (λ_ _=>by simp;omega)];exact(h5 j hj).1
   .rw[lK]at h6 hall⊢;intro x hx;obtain⟨j,hj⟩:=jS hx;rw[l3]at hj;split at hj
    .exact hall x (aZ hj)
    .exact h6 x (aZ hj)
   .intro j v hj;rw[l3]at hj;split at hj
    .rename_i hr;obtain⟨v',hv1,hv2⟩:=hv.get hj;refine⟨v',?_,hv2⟩;have hlt:j - o<vs'.length:=by omega
     have:=PG g.b vs' (g.off+o) w (λk hk=>(h5 _ (hin k hk)).1) (j - o) hlt;rw[show g.off+o+(j - o)=g.off+j by omega]at this;rw[this];rw[bP hlt]at hv1;exact hv1
    .rename_i hr;obtain⟨v',hv1,hv2⟩:=h7 j v hj;refine⟨v',?_,hv2⟩;rw[PI g.b vs' (g.off+o) w ⟨g.b,g.off+j,none⟩ (λ_ _=>by simp;omega)];exact hv1
  .cases hs
 .cases hs
def Good(P:Program)(β:aG)(h:IH)(w:World)(s:Sem Next)(v:vI)(h':IH):Prop:=
 ∃r w' β' v',s.run P w=.ok r w'/\(r=.value v'\/(r=.skip/\v'=undef))/\VR β' v v'/\WR P β' h' w'/\Eff β h w β' h' w'
def Good.same(hW:WR P β h w){s:Sem Next}{v v':vI}(hr:s.run P w=.ok (.value v') w)(hv:VR β v v'):Good P β h w s v h:=
 ⟨_,w,β,v',hr,.inl rfl,hv,hW,Eff.refl _ _ _ hW.dom⟩
def uI(P:Program)(β:aG)(w:World)(s:Sem Next)(f:Nat->vI)(o:dN):Prop:=
 ∃v' o' g,s.run P w=.ok (.value v') {w with heap:=w.heap.push o'}/\g.b=w.heap.size/\
  ∀(i:Nat) (β':aG),β.le β'->β' i=some g->VR β' (f i) v'/\OR P β' g {w with heap:=w.heap.push o'} o
def uI.good(hW:WR P β h w){s:Sem Next}{f:Nat->vI}{o:dN}(hm:uI P β w s f o):Good P β h w s (f h.next) (h.new o):=by
 obtain⟨v',o',g,h1,h2,h3⟩:=hm;have hle:=aG.xm (β:=β) g hW.yM;obtain⟨a,b⟩:=hW.alloc o o' g h2 rfl (h3 h.next _ hle (aG.mh _ _ _)).2;exact⟨_,_,_,v',h1,.inl rfl,(h3 h.next _ hle (aG.mh _ _ _)).1,a,b⟩
def OR.GI{β:aG}{w:World}{cs cs':kI vI}(t:adH)(h:aW β cs cs')(hc:cs.all cellV=true)(rest:kI vI)(sz:Nat):
 OR P β ⟨w.heap.size,0,cs.length,cs.length+rest.length,sz⟩ {w with heap:=w.heap.push (.cells ⟨cs'++rest⟩ t)} (.cells cs):=by
 have hb:({w with heap:=w.heap.push (.cells ⟨cs'++rest⟩ t)}:World).heap[w.heap.size]? =some (.cells ⟨cs'++rest⟩ t):=An
 refine⟨⟨_,_,_,hb⟩,rfl,An,λj hj=>⟨?_,?_⟩,hc,λj v hj=>?_⟩
 .simp only[World.cell?,hb];simp;have:=h.length;simp at hj;omega
 .simp[World.frozen?]
 .obtain⟨v',h1,h2⟩:=h.get hj;refine⟨v',?_,h2⟩;simp only[World.cell?,hb];simp;rw[qp]
  .exact h1
  .rcases rq j cs'.length with hh|hh
   .exact hh
   .rw[fO hh]at h1;cases h1
end Go.Ideal
namespace Go.Ideal
variable {P:Program} {β:aG} {h:IH} {w:World}
variable{v:vI}
def VR.GJ{b:Bool}(h:VR β (.bool b) v):v=.bool b:=by cases h;rfl
def VR.mo{k:IntKind}{n:Int}(h:VR β (.int k n) v):v=.int k n:=by cases h;rfl
def VR.Ai{s:ByteArray}(h:VR β (.string s) v):v=.string s:=by cases h;rfl
variable{i o:Nat}
def VR.uJ(h:VR β (.pointer (some ⟨i,o,none⟩)) v):∃g,β i=some g/\v=.pointer (some ⟨g.b,g.off+o,none⟩):=by
 cases h with|ptr hi=>exact⟨_,hi,rfl⟩
def VR.Cg(h:VR β (.map (some i)) v):∃g,β i=some g/\v=.map (some g.b):=by
 cases h with|map hi=>exact⟨_,hi,rfl⟩
def VR.Aj{t:adH}{u:vI}(h:VR β (.iface t u) v):∃u',VR β u u'/\v=.iface t u':=by
 cases h with|iface t hi=>exact⟨_,hi,rfl⟩
def VR.KQ{l:kI vI}(h:VR β (.agg ⟨l⟩) v):∃l',aW β l l'/\l.all Ideal.cellV=true/\v=.agg ⟨l'⟩:=by
 cases h with|agg hc hl=>exact⟨_,hl,hc,rfl⟩
def VR.Ak{fn:Fn}{f c:kI vI}(h:VR β (.func fn ⟨f⟩ ⟨c⟩) v):∃fn' f' c',FR β fn fn'/\aW β f f'/\aW β c c'/\v=.func fn' ⟨f'⟩ ⟨c'⟩:=by
 cases h with|func h1 h2 h3=>exact⟨_,_,_,h1,h2,h3,rfl⟩
def VR.nT{f:x8 Nat}{n c:Nat}(h:VR β (.slice (some ⟨i,o,f⟩) n c) v):
 ∃g a c',β i=some g/\v=.slice (some a) n c'/\a.block=g.b/\True/\n<=c/\c<=c'/\(c'=0\/(a.off=g.off+o/\a.spot=none))/\
  ((f=some 0/\c'=c)\/(f=some g.sz/\0<g.sz/\o+c*g.sz=g.len/\(g.off+o+c'*g.sz=g.top/\a.spot=none))):=by
 cases h with
 |ak hi hb hn ha=>exact⟨_,_,_,hi,rfl,hb,trivial,hn,bT _,ha,.inl ⟨rfl,rfl⟩⟩
 |qa hi hb hs hn hz hl ht hc ha=>exact⟨_,_,_,hi,rfl,hb,trivial,hn,hc,ha.imp id (λe=>⟨e,hs⟩),.inr ⟨rfl,hz,hl,ht,hs⟩⟩
def aW.of_map{γ:Type}{f f':γ->vI}{l:kI γ}(h:∀x∈l,VR β (f x) (f' x)):aW β (lN f l) (l.map f'):=by
 rw[vQ];exact aW.map l h
def XY(ρ:aaB->vI)(zero:kI vI):rA ρ zero []=some zero:=rfl
def KS(ρ:aaB->vI)(zero:kI vI)(off size:Nat)(x:aaB)(ps:kI (Nat×Nat×aaB)):
 rA ρ zero ((off,size,x)::ps)=match cellsOf (ρ x)with
  |none=>none
  |some vs=>if iL vs=size then(match jV zero off vs with
   |some cs=>rA ρ cs ps
   |none=>none)else none:=by
 show(match cellsOf (ρ x)with
  |none=>none
  |some vs=>cond (Nat.beq (iL vs) size) (match jV zero off vs with
   |some cs=>rA ρ cs ps
   |none=>none) none)=_
 cases cellsOf (ρ x)with
 |none=>rfl
 |some vs=>
  show cond (Nat.beq (iL vs) size) _ none=if iL vs=size then _ else none
  cases hb:Nat.beq (iL vs) size with
  |true=>rw[if_pos (qo hb)];rfl
  |false=>rw[if_neg (Dw hb)];rfl
def foldl_set(off:Nat):∀(l:kI vI) (k:Nat) (A:Array vI),
 ((l.zipIdx k).foldl (λcs (x:vI×Nat)=>cs.setIfInBounds (off+x.2) x.1) A).size=A.size/\
 ∀j,((l.zipIdx k).foldl (λcs (x:vI×Nat)=>cs.setIfInBounds (off+x.2) x.1) A)[j]? =if off+k<=j/\j<off+k+l.length/\j<A.size then l[j - (off+k)]? else A[j]?:=by
 intro l;induction l with
 |nil=>intro k A;refine⟨rfl,λj=>?_⟩;rw[if_neg AI];rfl
 |cons x l ih=>
  intro k A;simp only[List.zipIdx_cons,wO];obtain⟨h1,h2⟩:=ih (k+1) (A.setIfInBounds (off+k) x);refine⟨by rw[h1];simp,λj=>?_⟩;rw[h2];simp only[Array.size_setIfInBounds,oP];by_cases hc:off+(k+1)<=j/\j<off+(k+1)+l.length/\j<A.size
  .rw[if_pos hc,if_pos z7];rw[show j - (off+k)=(j - (off+(k+1)))+1 by omega,qZ]
  .rw[if_neg hc];by_cases hj:j=off+k
   .subst hj;by_cases hs:off+k<A.size
    .rw[if_pos z7];simp[hs]
    .rw[if_neg z7,uo AI,uo z7]
   .rw[if_neg z7];rw[Gb z7]
inductive F2{γ δ:Type}(R:γ->δ->Prop):List γ->List δ->Prop
 |nil:F2 R [] []
 |cons {a:γ} {b:δ} {l:List γ} {r:List δ} (h:R a b) (hl:F2 R l r):F2 R (a::l) (b::r)
def KT{place:Nat->x8 (Nat×Nat)}{ρ ρ':aaB->vI}:∀(parts:kI (Nat×aaB)) (pc:kI (Nat×Nat×aaB)) (zs zs' cs:kI vI),
 F2 (λ(p:Nat×aaB) (q:Nat×Nat×aaB)=>q.2.2=p.2/\place p.1=some (q.1,q.2.1)) parts pc->aW β zs zs'->zs.all Ideal.cellV=true->
 rA ρ zs pc=some cs->(∀p∈parts,VR β (ρ p.2) (ρ' p.2))->∃cs',Instr.fill place ⟨zs'⟩ (parts.map λp=>(p.1,ρ' p.2))=some ⟨cs'⟩/\aW β cs cs'/\cs.all Ideal.cellV=true/\cs.length=zs.length:=by
 intro parts;induction parts with
 |nil=>
  intro pc zs zs' cs hf hz hc hr _;cases hf;rw[XY]at hr;cases hr;exact⟨zs',rfl,hz,hc,rfl⟩
 |cons p parts ih=>
  intro pc zs zs' cs hf hz hc hr hρ;obtain⟨i,x⟩:=p;cases hf with
  | @cons _ q _ pc hq hf=>
    obtain⟨off,size,y⟩:=q;obtain⟨hy,hpl⟩:=hq;simp only at hy hpl;subst hy;rw[KS]at hr;split at hr
    .cases hr
    .rename_i vs hvs;split at hr
     .rename_i hsz;split at hr
      .rename_i cs1 hl;obtain⟨Qt,vs',hv1,hv2⟩:=(hρ (i,y) An).cells hvs;obtain⟨l1,l2,l3⟩:=KJ hl;rw[xe]at hsz;have hlen:=hv2.length;have hzl:=hz.length;have GK:=foldl_set off vs' 0 ⟨zs'⟩;have hA:∃D8,((vs'.zipIdx 0).foldl (λcs (x:vI×Nat)=>cs.setIfInBounds (off+x.2) x.1) (⟨zs'⟩:Array vI))=⟨D8⟩/\aW β cs1 D8:=by
        refine⟨_,rfl,aW.XV ?_ ?_⟩
        .have:=GK.1;simp only[Array.size]at this;rw[this,hzl,l2]
        .intro j v hj;have hg:=GK.2 j;simp only[zM]at hg;rw[l3]at hj;have hjl:j<zs'.length:=by
          rw[hzl,<- l2];rcases rq j cs1.length with hh|hh
          .exact hh
          .have:=l3 j;rw[fO hh]at this;rw[<- this]at hj;cases hj
         split at hj
         .rename_i hr2;obtain⟨v',h1,h2⟩:=hv2.get hj;refine⟨v',?_,h2⟩;rw[<- zN]at hg;rw[hg,if_pos AI];exact h1
         .rename_i hr2;obtain⟨v',h1,h2⟩:=hz.get hj;refine⟨v',?_,h2⟩;rw[<- zN]at hg;rw[hg,if_neg AI];simpa using h1
       obtain⟨D8,hA1,hA2⟩:=hA;have hc1:cs1.all Ideal.cellV=true:=by
        rw[lK]at hc Qt⊢;intro z XZ;obtain⟨j,hj⟩:=jS XZ;rw[l3]at hj;split at hj
        .exact Qt z (aZ hj)
        .exact hc z (aZ hj)
       obtain⟨cs',r1,r2,r3,r4⟩:=ih pc cs1 D8 cs hf hA2 hc1 hr λp hp=>hρ p (by simp[hp]);refine⟨cs',?_,r2,r3,z7⟩;simp only[agO,Instr.fill,hpl];rw[if_neg (by simp only[hv1,Array.size,vG,wP,not_or];omega)];have hz0:(ρ' y).cells.zipIdx=(⟨vs'.zipIdx 0⟩:Array (vI×Nat)):=by rw[hv1];simp
       rw[hz0];have hfl:Array.foldl (λcs (x:vI×Nat)=>match x with|(c,j)=>cs.setIfInBounds (off+j) c) (⟨zs'⟩:Array vI) (⟨vs'.zipIdx 0⟩:Array (vI×Nat))=⟨D8⟩:=by
        rw[<- hA1,<- PK]
       rw[hfl];exact r1
      .cases hr
     .cases hr
end Go.Ideal
namespace Go.Ideal
variable {P:Program} {β:aG} {h:IH} {w:World}
variable{w':World}
def xq{s:Sem vI}{v:vI}{w:World}(h:s.run P w=.ok v w'):(do pure (.value (<- s)):Sem Next).run P w=.ok (.value v) w':=A5
def Qu{s:Sem Unit}{w:World}(h:s.run P w=.ok () w'):(do s;pure .skip:Sem Next).run P w=.ok .skip w':=A5
variable{t:adH}{cs cs':kI vI}{s:Sem Next}
def Qv(hcs:aW β cs cs')(hc:cs.all cellV=true)
 (hr:s.run P w=.ok (.value (.pointer (some ⟨w.heap.size,0,none⟩))) {w with heap:=w.heap.push (.cells ⟨cs'⟩ t)}):
 uI P β w s (λi=>.pointer (some ⟨i,0,none⟩)) (.cells cs):=by
 refine⟨_,_,⟨w.heap.size,0,cs.length,cs.length+0,0⟩,hr,rfl,λi β' hle hi=>⟨?_,?_⟩⟩
 .have:=VR.ptr (β:=β') (o:=0) hi;exact this
 .exact tB
variable{n:Nat}
def Qw{c:Nat}(hn:n<=c)(hcs:aW β cs cs')(hc:cs.all cellV=true)
 (hr:s.run P w=.ok (.value (.slice (some ⟨w.heap.size,0,none⟩) n c)) {w with heap:=w.heap.push (.cells ⟨cs'⟩ t)}):
 uI P β w s (λi=>.slice (zY i 0) n c) (.cells cs):=by
 refine⟨_,_,⟨w.heap.size,0,cs.length,cs.length+0,0⟩,hr,rfl,λi β' hle hi=>⟨?_,?_⟩⟩
 .exact VR.ak hi rfl hn (.inr ⟨rfl,rfl⟩)
 .exact tB
def yN(h:vO P t=some cs):
 ∃z i,P.info? t=some i/\i.zero=some z/\z.cells=⟨cs⟩/\fZ cs=true/\jB P t=some cs.length:=by
 unfold vO at h;split at h
 .rename_i z n hz hn;split at h
  .rename_i hh;cases h;obtain⟨i,h1,h2,h3⟩:=Cb hz;exact⟨z,i,h1,h2,rfl,hh.2,by rw[hh.1];exact hn⟩
  .cases h
 .cases h
def Qx(f:Nat->vI):Array.map f (Array.range 0)= #[]:=XF An
variable{type e:adH}{dst:x8 Tmp}{pos:String}{after:Array Edge}{guard:x8 (Nat×Bool)}{c:aF}{ρ ρ':aaB->vI}{f:Nat->vI}{ob:dN}
def X0
 (hc:cop P ⟨dst,.alloc e,type,pos,after,guard⟩=some c) (ha:c.alloc ρ=some (f,ob)):uI P β w (execOp ρ' ⟨dst,.alloc e,type,pos,after,guard⟩) f ob:=by
 simp only[cop]at hc;split at hc
 .rename_i cs hz;cases hc;simp only[aF.alloc]at ha;cases ha;obtain⟨z,i,h1,h2,h3,h4,_⟩:=yN hz;refine Qv (t:=e) (aW.free h4) (uG h4) ?_;simp[execOp,Instr.alloc,zeroValue,typeInfo,h1,h2,newVar,newRow,h3]
 .cases hc
def X3{x:aaB}
 (hc:cop P ⟨dst,.box e x,type,pos,after,guard⟩=some c) (ha:c.alloc ρ=some (f,ob)) (hx:VR β (ρ x) (ρ' x)):uI P β w (execOp ρ' ⟨dst,.box e x,type,pos,after,guard⟩) f ob:=by
 simp only[cop,aD]at hc;subst hc;simp only[aF.alloc]at ha;split at ha
 .rename_i cs hcs;cases ha;obtain⟨h1,cs',h2,h3⟩:=hx.cells hcs;refine Qv (t:=e) h3 h1 ?_;simp[execOp,Instr.box,newVar,newRow,h2]
 .cases ha
def X4{r:x8 aaB}
 (hc:cop P ⟨dst,.makeMap t r,type,pos,after,guard⟩=some c) (ha:c.alloc ρ=some (f,ob)):uI P β w (execOp ρ' ⟨dst,.makeMap t r,type,pos,after,guard⟩) f ob:=by
 cases r with
 |some r=>simp[cop]at hc
 |none=>
  simp only[cop,aD]at hc;subst hc;simp only[aF.alloc]at ha;cases ha;refine⟨.map (some w.heap.size),.map #[] 0,⟨w.heap.size,0,0,0,0⟩,?_,rfl,λi β' hle hi=>⟨?_,?_⟩⟩
  .simp[execOp,Instr.makeMap]
  .have:=VR.map (β:=β') hi;exact this
  .exact⟨#[],An,.nil⟩
def X5(z:kI vI)(n:Nat)(hz:z≠[]):∀j,(zeros z n)[j]? =if j<n*z.length then z[j%z.length]? else none:=by
 induction n with
 |zero=>intro j;show([]:kI vI)[j]? =_;simp
 |succ n ih=>
  intro j;have hpos:0<z.length:=BK.2 hz;show(ko z (zeros z n))[j]? =_;rw[jK];by_cases hj:j<z.length
  .rw[qp hj,if_pos (by rw[Nat.succ_mul];omega),Nat.mod_eq_of_lt hj]
  .rw[pR z7,ih];have:(j - z.length)%z.length=j%z.length:=by
    rw[<- Nat.mod_eq_sub_mod z7]
   rw[this];by_cases hl:j<(n+1)*z.length
   .rw[if_pos hl,if_pos HD]
   .rw[if_neg hl,if_neg HD]
def yO{z:kI vI}(hz:fZ z=true)(n:Nat):fZ (zeros z n)=true:=by
 have happ:∀(a b:kI vI),fZ a=true->fZ b=true->fZ (a++b)=true:=by
  intro a b ha hb;induction a with
  |nil=>exact hb
  |cons x a ih=>simp[fZ]at ha⊢;exact⟨ha.1,ih ha.2⟩
 induction n with
 |zero=>rfl
 |succ n ih=>show fZ (ko z (zeros z n))=true;rw[jK];exact happ _ _ hz ih
def GL(z:kI vI)(n:Nat)(hz:z≠[]):(Array.range (n*z.length)).map (λj=>(⟨z⟩:Array vI)[j%(⟨z⟩:Array vI).size]!)=⟨zeros z n⟩:=by
 have hpos:0<z.length:=BK.2 hz;apply Array.ext';apply iY;intro j;show _=(zeros z n)[j]?;rw[X5 z n hz];simp only[Kh,Array.toList_range,dm];by_cases hj:j<n*z.length
 .rw[if_pos hj,pU hj];have hm:j%z.length<z.length:=zO _ hpos;simp[hm]
 .rw[if_neg hj,fO AI];rfl
def tu(h:nG P t=some n):jB P t=some n/\0<n:=by
 unfold nG at h;split at h
 .cases h
 .rename_i h2;refine⟨h,?_⟩;rcases Gc n with h0|h0
  .subst h0;exact absurd h h2
  .exact h0
def X6{l k:aaB}
 (hc:cop P ⟨dst,.makeSlice t l k,type,pos,after,guard⟩=some c) (ha:c.alloc ρ=some (f,ob)) (hl:VR β (ρ l) (ρ' l)) (hk:VR β (ρ k) (ρ' k)):
 uI P β w (execOp ρ' ⟨dst,.makeSlice t l k,type,pos,after,guard⟩) f ob:=by
 simp only[cop]at hc;split at hc
 .rename_i e hu;split at hc
  .rename_i s z hs hz;cases hc;simp only[aF.alloc]at ha;obtain⟨zv,i,h1,h2,h3,h4,h5⟩:=yN hz;obtain⟨hs1,hs2⟩:=tu hs;rw[h5]at hs1;have hzl:z.length=s:=by simpa using hs1
   split at ha
   .rename_i ln cn hln hcn;rw[hln]at hl;rw[hcn]at hk;have hl':=hl.mo;have hk':=hk.mo;simp only[h1,jT,Option.get!_some]at ha;cases hcond:(ln.ble cn&&(cn.mul i.bytes).ble small&&(cn.mul s).ble small&&cn.ble small)with
    |false=>rw[hcond]at ha;cases ha
    |true=>
     rw[hcond]at ha;simp only[cond_true,aD,di]at ha;obtain⟨rfl,rfl⟩:=ha;simp only[afD]at hcond;obtain⟨⟨⟨c1,c2⟩,c3⟩,c4⟩:=hcond;have c1:=mK c1;have c2:=mK c2;have c4:=mK c4;unfold small at c2 c4;have hwl:IntKind.i64.wrap (Int.ofNat ln)=ln:=by
      exact IntWalk.i64_in _ AI
     have hwc:IntKind.i64.wrap (Int.ofNat cn)=cn:=by
      exact IntWalk.i64_in _ AI
     refine Qw (t:=e) c1 (aW.free (yO h4 cn)) (uG (yO h4 cn)) ?_;have D9:z≠[]:=λe=>by subst e;simp at hzl;omega
     have hbig:¬((i.bytes:Int)*(cn:Int)>281474976710656):=by
      rw[<- Int.natCast_mul,alG];have c2':cn*i.bytes<=1073741824:=c2;omega
     have hsz:((cn:Int)).toNat=cn:=An
     have hsz2:((ln:Int)).toNat=ln:=An
     have hzs:(⟨z⟩:Array vI).size=s:=hzl;simp only[execOp,Instr.makeSlice,dG,fJ hu,dJ,hl',hk',asInt,asIntOf,fw,D7 h1,hwl,hwc,Int.reducePow];rw[if_neg (by simp only[vG,wP,not_or];omega)];simp only[hsz,hsz2,dG,run_askRoom,dJ,mP h5,hzl];by_cases h0:cn*s=0
     .rw[if_pos h0];have X7:cn=0:=by
       exact wg
      subst X7;have hz0:zeros z 0=[]:=rfl;simp[newRow,hz0,Qx]
     .rw[if_neg h0];have hzz:zeroOf P e=some zv:=by
       exact mA
      have hrow:=GL z cn D9;rw[hzl]at hrow;simp only[dG,Cc hzz,dJ,h3,fw,newRow,run_newObj,hrow]
   .cases ha
  .cases hc
 .cases hc
def F2.of_map{γ δ:Type}{R:γ->δ->Prop}(f:γ->δ)(l:kI γ)(h:∀x∈l,R x (f x)):F2 R l (l.map f):=by
 exact pw
section
variable {dst:x8 Tmp} {type:adH} {pos:String} {after:Array Edge} {guard:x8 (Nat×Bool)} {c:aF} {ρ ρ':aaB->vI} {f:Nat->vI} {ob:dN} {v:vI} {h':IH}
variable{t:adH}{parts:Array (Nat×aaB)}
def X8{len:Nat}
 (hc:cop P ⟨dst,.buildSlice t len parts,type,pos,after,guard⟩=some c) (ha:c.alloc ρ=some (f,ob)) (hρ:∀p∈parts.toList,VR β (ρ p.2) (ρ' p.2)):
 uI P β w (execOp ρ' ⟨dst,.buildSlice t len parts,type,pos,after,guard⟩) f ob:=by
 simp only[cop]at hc;split at hc
 .rename_i e hu;split at hc
  .rename_i s z hs hz;split at hc
   .rename_i hle;cases hc;simp only[aF.alloc]at ha;split at ha
    .rename_i cs hcs;cases ha;obtain⟨zv,i,h1,h2,h3,h4,h5⟩:=yN hz;obtain⟨hs1,hs2⟩:=tu hs;rw[h5]at hs1;have hzl:z.length=s:=by simpa using hs1
     have D9:z≠[]:=λe=>by subst e;simp at hzl;omega
     obtain⟨cs',r1,r2,r3,_⟩:=KT (β:=β) (place:=λi=>some (i*s,s)) (ρ:=ρ) (ρ':=ρ') parts.toList _ (zeros z len) (zeros z len) cs
      (F2.of_map (λp=>(p.1*s,s,p.2)) _ λp _=>⟨rfl,rfl⟩) (aW.free (yO h4 len)) (uG (yO h4 len)) hcs hρ
     refine Qw (t:=e) (bT _) r2 r3 ?_;have hzz:zeroOf P e=some zv:=by
      exact mA
     have hrow:=GL z len D9;rw[hzl]at hrow;have hpl:(parts.map λ(x:Nat×aaB)=>match x with|(i,x)=>(i,ρ' x)).toList=parts.toList.map λp=>(p.1,ρ' p.2):=An
     simp only[execOp,Instr.buildSlice,dG,fJ hu,dJ,mP h5,hzl,hpl];rw[if_neg z7];simp only[dG,dJ,fw];by_cases h0:len*s=0
     .have hl0:len=0:=by
       exact wg
      subst hl0;rw[if_pos h0];have hz0:(Array.map (λx=>(#[]:Array vI)[x%(#[]:Array vI).size]!) (Array.range (0*s)))=⟨zeros z 0⟩:=by rw[h0];exact Qx _
      simp only[dG,fw,dJ,hz0,r1,newRow,run_newObj]
     .rw[if_neg h0];simp only[dG,Cc hzz,dJ,h3,fw,hrow,r1,newRow,run_newObj]
    .cases ha
   .cases hc
  .cases hc
 .cases hc
variable{x:aaB}
def X9(hc:cop P ⟨dst,.move x,type,pos,after,guard⟩=some c)(hr:c.run P ρ h=some (v,h'))(hx:VR β (ρ x) (ρ' x))(hW:WR P β h w):
 Good P β h w (execOp ρ' ⟨dst,.move x,type,pos,after,guard⟩) v h':=by
 simp only[cop,aD]at hc;subst hc;simp only[aF.run,aD,di]at hr;obtain⟨rfl,rfl⟩:=hr;exact Good.same hW (v':=ρ' x) (by simp[execOp]) hx
def Ya(hc:cop P ⟨dst,.assign x,type,pos,after,guard⟩=some c)(hr:c.run P ρ h=some (v,h'))(hx:VR β (ρ x) (ρ' x))(hW:WR P β h w):
 Good P β h w (execOp ρ' ⟨dst,.assign x,type,pos,after,guard⟩) v h':=by
 simp only[cop,aD]at hc;subst hc;simp only[aF.run,aD,di]at hr;obtain⟨rfl,rfl⟩:=hr;exact Good.same hW (v':=ρ' x) (by simp[execOp]) hx
variable{y:aaB}
def Yb{z:aaB}(hc:cop P ⟨dst,.pick x y z,type,pos,after,guard⟩=some c)(hr:c.run P ρ h=some (v,h'))(hx:VR β (ρ x) (ρ' x))(hy:VR β (ρ y) (ρ' y))(hz:VR β (ρ z) (ρ' z))(hW:WR P β h w):
 Good P β h w (execOp ρ' ⟨dst,.pick x y z,type,pos,after,guard⟩) v h':=by
 simp only[cop,aD]at hc;subst hc;simp only[aF.run]at hr;split at hr
 .rename_i t ht;rw[ht]at hx;have hx':=hx.GJ;simp only[aD,di]at hr;obtain⟨rfl,rfl⟩:=hr;cases t
  .exact Good.same hW (v':=ρ' z) (by simp[execOp,hx',asBool]) hz
  .exact Good.same hW (v':=ρ' y) (by simp[execOp,hx',asBool]) hy
 .cases hr
variable{fs:Array Field}
def run_places(hall:fs.toList.all (λf=>(jB P f.type).isSome)=true)(w:World):
 ∃pl:Array (Nat×Nat),(fs.mapM λf=>do pure (f.offset,<- sizeOf f.type):Sem (Array (Nat×Nat))).run P w=.ok pl w/\∀(i:Nat) fd,fs[i]? =some fd->∃s,jB P fd.type=some s/\pl[i]? =some (fd.offset,s):=by
 obtain⟨l⟩:=fs;have key:∀l:kI Field,l.all (λf=>(jB P f.type).isSome)=true->
  ∃pl:kI (Nat×Nat),(l.mapM λf=>do pure (f.offset,<- sizeOf f.type):Sem (kI (Nat×Nat))).run P w=.ok pl w/\∀(i:Nat) fd,l[i]? =some fd->∃s,jB P fd.type=some s/\pl[i]? =some (fd.offset,s):=by
  intro l;induction l with
  |nil=>intro _;exact⟨[],An,λi fd hi=>by simp at hi⟩
  |cons x l ih=>
   intro hl;simp only[List.all_cons,afD]at hl;obtain⟨pl,h1,h2⟩:=ih hl.2;obtain⟨s,hs⟩:=aoT.1 hl.1;refine⟨(x.offset,s)::pl,?_,λi fd hi=>?_⟩
   .simp only[List.mapM_cons,dG,mP hs,dJ,fw,h1]
   .cases i with
    |zero=>simp at hi;subst hi;exact⟨s,hs,An⟩
    |succ i=>simp at hi;obtain⟨s',a,b⟩:=h2 i fd hi;exact⟨s',a,by simpa using b⟩
 obtain⟨pl,h1,h2⟩:=key l hall;refine⟨⟨pl⟩,?_,λi fd hi=>?_⟩
 .rw[List.mapM_toArray,Sem.run_map,h1];rfl
 .obtain⟨s,a,b⟩:=h2 i fd E6;exact⟨s,a,by simpa using b⟩
def Yc{pl:Array (Nat×Nat)}(hpl:∀(i:Nat) fd,fs[i]? =some fd->∃s,jB P fd.type=some s/\pl[i]? =some (fd.offset,s)):
 ∀(parts:kI (Nat×aaB)) (ps:kI (Nat×Nat×aaB)),yH P fs parts=some ps->F2 (λ(p:Nat×aaB) (q:Nat×Nat×aaB)=>q.2.2=p.2/\pl[p.1]? =some (q.1,q.2.1)) parts ps:=by
 intro parts;induction parts with
 |nil=>intro ps h;simp[yH]at h;subst h;exact .nil
 |cons p parts ih=>
  intro ps h;obtain⟨i,x⟩:=p;simp only[yH]at h;split at h
  .rename_i fd r Ea hr;split at h
   .rename_i s hs;cases h;refine .cons ⟨rfl,?_⟩ (ih r hr);obtain⟨s',a,b⟩:=hpl i fd Ea;rw[hs]at a;cases a;exact b
   .cases h
  .cases h
def Yd(hc:cop P ⟨dst,.build t parts,type,pos,after,guard⟩=some c)(hr:c.run P ρ h=some (v,h'))(hρ:∀p∈parts.toList,VR β (ρ p.2) (ρ' p.2))(hW:WR P β h w):
 Good P β h w (execOp ρ' ⟨dst,.build t parts,type,pos,after,guard⟩) v h':=by
 have hpl:(parts.map λ(x:Nat×aaB)=>match x with|(i,x)=>(i,ρ' x)).toList=parts.toList.map λp=>(p.1,ρ' p.2):=An
 simp only[cop]at hc;split at hc
 .rename_i fs z hu hz;split at hc
  .rename_i ps hps;cases hc;simp only[aF.run]at hr;split at hr
   .rename_i cs hcs;simp only[aD,di]at hr;obtain⟨rfl,rfl⟩:=hr;obtain⟨zv,i,h1,h2,h3,h4,h5⟩:=yN hz;unfold placesOf at hps;split at hps
    .rename_i hall;obtain⟨pl,q1,q2⟩:=run_places (P:=P) hall w;obtain⟨cs',r1,r2,r3,_⟩:=KT (β:=β) (place:=λi=>pl[i]?) (ρ:=ρ) (ρ':=ρ') parts.toList ps z z cs (Yc q2 _ _ hps) (aW.free h4) (uG h4) hcs hρ;refine Good.same hW (v':=.agg ⟨cs'⟩) ?_ (.agg r3 r2);simp only[execOp,Instr.build,dG,zeroValue,D7 h1,h2,dJ,fw,h3,fJ hu,q1,hpl,r1]
    .cases hps
   .cases hr
  .cases hc
 .rename_i n e z hu hz;split at hc
  .rename_i s hs;cases hc;simp only[aF.run]at hr;split at hr
   .rename_i cs hcs;simp only[aD,di]at hr;obtain⟨rfl,rfl⟩:=hr;obtain⟨zv,i,h1,h2,h3,h4,h5⟩:=yN hz;obtain⟨hs1,hs2⟩:=tu hs;obtain⟨cs',r1,r2,r3,_⟩:=KT (β:=β) (place:=λi=>some (i*s,s)) (ρ:=ρ) (ρ':=ρ') parts.toList _ z z cs (F2.of_map (λp=>(p.1*s,s,p.2)) _ λp _=>⟨rfl,rfl⟩) (aW.free h4) (uG h4) hcs hρ;refine Good.same hW (v':=.agg ⟨cs'⟩) ?_ (.agg r3 r2);simp only[execOp,Instr.build,dG,zeroValue,D7 h1,h2,dJ,fw,h3,fJ hu,mP hs1,hpl,r1]
   .cases hr
  .cases hc
 .cases hc
def Ye(hc:cop P ⟨dst,.load t x,type,pos,after,guard⟩=some c)(hr:c.run P ρ h=some (v,h'))(hx:VR β (ρ x) (ρ' x))(hW:WR P β h w):
 Good P β h w (execOp ρ' ⟨dst,.load t x,type,pos,after,guard⟩) v h':=by
 simp only[cop]at hc;split at hc
 .rename_i hagg;cases hs:jB P t with
  |none=>simp[hs]at hc
  |some n=>
   simp only[hs,jT,aD]at hc;subst hc;simp only[aF.run]at hr;split at hr
   .rename_i i o ha;rw[ha]at hx;obtain⟨g,hg,hx'⟩:=hx.uJ;split at hr
    .rename_i cs hcs;simp only[aD,di]at hr;obtain⟨rfl,rfl⟩:=hr;obtain⟨blk,hb,hl⟩:=Cf hcs;obtain⟨l1,l2,l',l3,l4⟩:=GH hW hg hb hl;obtain⟨d,hd⟩:=Qp hagg;refine Good.same hW (v':=.agg ⟨l'⟩) ?_ (.agg l2 l3);have:=KM (P:=P) (n:=n) (by rw[l3.length,l1]) l4;simp[execOp,Instr.loadAt,Instr.sureAddr,hx',loadVar,Ce hd,hagg,mP hs,this]
    .cases hr
   .cases hr
 .rename_i hagg;split at hc
  .rename_i d hd;cases hc;simp only[aF.run]at hr;split at hr
   .rename_i i o ha;rw[ha]at hx;obtain⟨g,hg,hx'⟩:=hx.uJ;split at hr
    .rename_i u hu0;simp only[aD,di]at hr;obtain⟨rfl,rfl⟩:=hr;obtain⟨cs,hcs,hu⟩:=Qr hu0;have h7:∀(j:Nat) v,cs[j]? =some v->∃v',w.cell? ⟨g.b,g.off+j,none⟩=some v'/\VR β v v':=by
      rcases hcs with hcs|hcs
      .obtain⟨_,_,_,_,_,h7⟩:=hW.obj i g _ hg hcs;exact h7
      .obtain⟨_,_,_,h7⟩:=hW.obj i g _ hg hcs;exact h7
     rw[sZ]at hu;obtain⟨v',a,b⟩:=h7 _ _ hu;refine Good.same hW (v':=v') ?_ b;have KU:jC P t=false:=by simpa using hagg
     simp[execOp,Instr.loadAt,Instr.sureAddr,hx',loadVar,Ce hd,KU,a]
    .cases hr
   .cases hr
  .cases hc
def Yf(hc:cop P ⟨dst,.store t x y,type,pos,after,guard⟩=some c)(hr:c.run P ρ h=some (v,h'))(hx:VR β (ρ x) (ρ' x))(hy:VR β (ρ y) (ρ' y))(hW:WR P β h w):
 Good P β h w (execOp ρ' ⟨dst,.store t x y,type,pos,after,guard⟩) v h':=by
 simp only[cop]at hc;cases hs:jB P t with
 |none=>simp[hs]at hc
 |some n=>
  simp only[hs,jT,aD]at hc;subst hc;simp only[aF.run]at hr;split at hr
  .rename_i i o vs ha hv;rw[ha]at hx;obtain⟨g,hg,hx'⟩:=hx.uJ;cases hb:Nat.beq (iL vs) n with
   |false=>rw[hb]at hr;cases hr
   |true=>
    rw[hb]at hr;simp only[cond_true]at hr;split at hr
    .rename_i h1 hst;simp only[aD,di]at hr;obtain⟨rfl,rfl⟩:=hr;obtain⟨c1,vs',c2,c3⟩:=hy.cells hv;obtain⟨m1,m2,m3⟩:=KP hW hg hst c3 c1;refine⟨.skip,_,β,undef,?_,.inr ⟨rfl,rfl⟩,.dU _,m2,m3⟩;have hlen:vs'.length=n:=by rw[c3.length,<- xe];exact qo hb
     have hsz:((ρ' y).cells.size≠n)=False:=by simp[c2,hlen]
     simp[execOp,Instr.storeAt,Instr.sureAddr,hx',storeVar,mP hs,hsz,c2,m1 0 rfl,hlen]
    .cases hr
  .cases hr
end
end Go.Ideal
namespace Go.Ideal
variable {P:Program} {β:aG} {h:IH} {w:World}
section
variable {dst:x8 Tmp} {type:adH} {pos:String} {after:Array Edge} {guard:x8 (Nat×Bool)} {c:aF} {ρ ρ':aaB->vI} {v:vI} {h':IH}
variable{x:aaB}
def Yg(hc:cop P ⟨dst,.nilCheck x,type,pos,after,guard⟩=some c)(hr:c.run P ρ h=some (v,h'))(hx:VR β (ρ x) (ρ' x))(hW:WR P β h w):
 Good P β h w (execOp ρ' ⟨dst,.nilCheck x,type,pos,after,guard⟩) v h':=by
 simp only[cop,aD]at hc;subst hc;simp only[aF.run]at hr;split at hr<;>simp only[aD,di,reduceCtorEq]at hr
 .rename_i a ha;obtain⟨rfl,rfl⟩:=hr;rw[ha]at hx;refine Good.same hW (v':=ρ' x) ?_ hx;have:∃a',ρ' x=.pointer (some a'):=by
   generalize ρ' x=u at hx;cases hx with|ptr hi=>exact⟨_,rfl⟩
  obtain⟨a',e⟩:=this;simp[execOp,e]
 .rename_i t u ha;obtain⟨rfl,rfl⟩:=hr;rw[ha]at hx;refine Good.same hW (v':=ρ' x) ?_ hx;obtain⟨u',_,e⟩:=hx.Aj;simp[execOp,e]
 .rename_i f first captured ha
  exact eW
 .rename_i t n first captured ha
  exact eW
 .rename_i l first captured ha
  exact eW
def tC(a b:Int):leZ a b=decide (a<=b):=by
 cases a<;>cases b<;>simp only[leZ]
 .rename_i x y;rw[zP];simp[vH]
 .rename_i x y;simp;omega
 .rename_i x y;simp;omega
 .rename_i x y;rw[zP];simp[vH];omega
def Eb(a b:Int):BN a b=(a==b):=by
 cases a<;>cases b<;>simp only[BN]
 .rename_i x y;rw[zP];simp[Nat.beq_eq];omega
 .rfl
 .rfl
 .rename_i x y;rw[zP];simp[Nat.beq_eq]
def KW(a b:Int):Qf a b=a+b:=by cases a<;>cases b<;>rfl
def Qy(a b:Int):Ky a b=a - b:=by
 cases a<;>cases b<;>simp only[Ky]
 rename_i x y;cases hb:Nat.ble y x with
 |true=>
  have:=mK hb;show Int.ofNat (x - y)=_;simp;omega
 |false=>
  have:¬y<=x:=λhh=>by rw[F9 hh]at hb;cases hb
  show Int.negSucc ((y - x).pred)=_;simp[Int.negSucc_eq,Nat.pred_eq_sub_one];omega
def Al(k:IntKind)(n:Int):DN k n=k.wrap n:=by
 have hmax:Kw=9223372036854775807:=rfl;have key:∀n:Int, -9223372036854775808<=n/\n<=9223372036854775807->n=IntKind.i64.wrap n:=λn hn=>(IntWalk.i64_in n hn).symm;unfold DN;split
 .rename_i m;cases hb:Nat.ble m Kw with
  |true=>have:=mK hb;exact(cond_true _ _).trans (key _ (by rw[Int.ofNat_eq_natCast];omega))
  |false=>exact cond_false _ _
 .rename_i m;cases hb:Nat.ble m 1000000 with
  |true=>
   have h1:=mK hb;have h2:(-1000001:Int)<=Int.negSucc m:=by rw[Int.negSucc_eq];omega
   have h3:Int.negSucc m<=0:=by rw[Int.negSucc_eq];omega
   exact(cond_true _ _).trans (key _ ⟨Int.le_trans AE h2,Int.le_trans h3 AE⟩)
  |false=>exact cond_false _ _
 .rfl
variable{k:IntKind}
def Qz{j:IntKind}(h:uA j k=true):j=k:=by
 cases j<;>cases k<;>first|rfl|(simp[uA]at h)
variable{t:adH}{op:BinOp}
def Yh{a b:Int}{v:vI}(h:oZ op k a b=some v)(w:World):(binOp op t (.int k a) (.int k b)).run P w=.ok v w:=by
 unfold oZ at h;split at h<;>simp only[aD,reduceCtorEq]at h<;>subst h
 .simp[binOp,Op.intArith,Al,KW]
 .simp[binOp,Op.intArith,Al,Qy]
 .simp[binOp,Op.intCmp,Eb]
 .simp[binOp,Op.intCmp,Eb];rfl
 .exact pZ
 .exact pZ
 .exact pZ
 .exact pZ
def KX(op:BinOp)(t:adH)(x y:aaB)(a b:vI)(w:World)(h1:∀u,a≠.agg u)(h2:¬(a=.nilIface/\b=.nilIface)):(eqGuard op t x y a b).run P w=.ok () w:=by
 cases op<;>first
  |rfl
  |(cases a<;>first
   |rfl
   |exact absurd rfl (h1 _)
   |(cases b<;>first
    |rfl
    |exact absurd ⟨rfl,rfl⟩ h2))
def Yi(d:Nat){t:adH}{a b a' b':vI}{r:Bool}(h:sV P t a b=some r)(ha:VR β a a')(hb:VR β b b')(w:World):
 (Op.equalIn (d+1) t a' b').run P w=.ok r w/\(∀u,a'≠.agg u)/\¬(a'=.nilIface/\b'=.nilIface)/\(∀k n,a'≠.int k n)/\(∀s,a'≠.string s)/\(∀k n,a'≠.float k n)/\(∀k n m,a'≠.complex k n m):=by
 cases hu:P.underlying t with
 |none=>unfold sV at h;simp[hu]at h
 |some ty=>
  unfold sV at h;rw[hu]at h;split at h<;>simp only[aD,reduceCtorEq]at h<;>subst h
  all_goals
   have he:=‹some ty=some _›;obtain rfl:=Option.some.inj he;cases ha<;>cases hb<;>refine⟨?_,An,An,An,An,An,An⟩<;>(unfold Op.equalIn;simp only[dG,fJ hu,dJ];rfl)
def QA{a b a' b':vI}{r:Bool}(h:sV P t a b=some r)(ha:VR β a a')(hb:VR β b b')(w:World):
 (Op.equal t a' b').run P w=.ok r w/\(∀u,a'≠.agg u)/\¬(a'=.nilIface/\b'=.nilIface)/\(∀k n,a'≠.int k n)/\(∀s,a'≠.string s)/\(∀k n,a'≠.float k n)/\(∀k n m,a'≠.complex k n m):=
 Yi 9999 h ha hb w
def Ec{s:Sem vI}{v:vI}(h:kK P s=some v):eD P s=some v/\cK v=true:=by
 unfold kK at h;split at h
 .rename_i u hu;cases hf:cK u with
  |true=>rw[hf]at h;simp only[cond_true,aD]at h;subst h;exact⟨hu,hf⟩
  |false=>rw[hf]at h;cases h
 .cases h
variable{y:aaB}
def Yj{yt:adH}(hc:cop P ⟨dst,.binOp op t x y yt,type,pos,after,guard⟩=some c)(hr:c.run P ρ h=some (v,h'))(hx:VR β (ρ x) (ρ' x))(hy:VR β (ρ y) (ρ' y))(hW:WR P β h w):
 Good P β h w (execOp ρ' ⟨dst,.binOp op t x y yt,type,pos,after,guard⟩) v h':=by
 simp only[cop,aD]at hc;subst hc;simp only[aF.run]at hr;split at hr
 .rename_i u hu;simp only[aD,di]at hr;obtain⟨rfl,rfl⟩:=hr;unfold mg at hu;split at hu
  .
   rename_i v1 hv1;simp only[aD]at hu;subst hu;split at hv1
   .rename_i j m k n hm hn;cases hk:uA j k with
    |false=>rw[hk]at hv1;cases hv1
    |true=>
     rw[hk]at hv1;simp only[cond_true]at hv1;have:=Qz hk;subst this;rw[hm]at hx;rw[hn]at hy;have hx':=hx.mo;have hy':=hy.mo;have hfree:cK v1=true:=by
      unfold oZ at hv1;split at hv1<;>simp only[aD,reduceCtorEq]at hv1<;>subst hv1<;>rfl
     refine Good.same hW (v':=v1) ?_ (VR.free hfree);simp only[execOp,hx',hy',dG,KX op t x y (.int j m) (.int j n) w An An,dJ,Yh hv1,fw]
   .cases hv1
  .cases hf:cK (ρ x)&&cK (ρ y)with
   |true=>
    rw[hf]at hu;simp only[cond_true]at hu;simp only[afD]at hf;have hx':=hx.qb hf.1;have hy':=hy.qb hf.2;obtain⟨hu1,hu2⟩:=Ec hu;have hrun:=yL hu1 w;refine Good.same hW (v':=u) ?_ (VR.free hu2);simp only[execOp,hx',hy'];simp only[dG]at hrun⊢;rw[hrun];rfl
   |false=>
    rw[hf]at hu;simp only[cond_false]at hu;have QB:∀(a b:vI),(∀k n,a≠.int k n)->(∀s,a≠.string s)->(∀k n,a≠.float k n)->(∀k n m,a≠.complex k n m)->
     binOp .eql t a b=(do pure (.bool (<- Op.equal t a b)))/\binOp .neq t a b=(do pure (.bool (!(<- Op.equal t a b)))):=by
     intro a b h1 h2 h3 h4;constructor<;>unfold binOp<;>cases a<;>first|rfl|exact absurd rfl (h1 _ _)|exact absurd rfl (h2 _)|exact absurd rfl (h3 _ _)|exact absurd rfl (h4 _ _ _)
    split at hu
    .split at hu
     .rename_i r hr2;simp only[aD]at hu;subst hu;obtain⟨e1,e2,e3,e4,e5,e6,e7⟩:=QA hr2 hx hy w;refine Good.same hW (v':=.bool r) ?_ (.bool r);simp only[execOp,dG,KX _ t x y _ _ w e2 e3,dJ,(QB _ _ e4 e5 e6 e7).1,e1,fw]
     .cases hu
    .split at hu
     .rename_i r hr2;simp only[aD]at hu;subst hu;obtain⟨e1,e2,e3,e4,e5,e6,e7⟩:=QA hr2 hx hy w;refine Good.same hW (v':=.bool !r) ?_ (.bool _);simp only[execOp,dG,KX _ t x y _ _ w e2 e3,dJ,(QB _ _ e4 e5 e6 e7).2,e1,fw]
     .cases hu
    .cases hu
 .cases hr
def Yk{op:UnOp}(hc:cop P ⟨dst,.unOp op t x,type,pos,after,guard⟩=some c)(hr:c.run P ρ h=some (v,h'))(hx:VR β (ρ x) (ρ' x))(hW:WR P β h w):
 Good P β h w (execOp ρ' ⟨dst,.unOp op t x,type,pos,after,guard⟩) v h':=by
 simp only[cop,aD]at hc;subst hc;simp only[aF.run]at hr;cases hf:cK (ρ x)with
 |false=>rw[hf]at hr;cases hr
 |true=>
  exact ff
def Yl(hc:cop P ⟨dst,.makeInterface t x,type,pos,after,guard⟩=some c)(hr:c.run P ρ h=some (v,h'))(hx:VR β (ρ x) (ρ' x))(hW:WR P β h w):
 Good P β h w (execOp ρ' ⟨dst,.makeInterface t x,type,pos,after,guard⟩) v h':=by
 simp only[cop]at hc;split at hc
 .cases hc
 .rename_i d hni hu;cases hc;simp only[aF.run,aD,di]at hr;obtain⟨rfl,rfl⟩:=hr;refine Good.same hW (v':=.iface t (ρ' x)) ?_ (.iface t hx);simp only[execOp,Instr.makeInterface,dG,fJ hu,dJ];cases d<;>first|rfl|exact absurd rfl (hni _)
 .cases hc
variable{fn:Fn}
def FR.refl(h:Gx fn=true):FR β fn fn:=by
 cases fn with
 |func f=>exact .func f
 |method n=>exact .method n
 |methodOf t n=>exact .methodOf t n
 |via=>simp[Gx]at h
 |yield l=>simp[Gx]at h
def Ym{first captured:Array aaB}(hc:cop P ⟨dst,.makeFunc fn first captured,type,pos,after,guard⟩=some c)(hr:c.run P ρ h=some (v,h'))
 (hf:∀x∈first.toList,VR β (ρ x) (ρ' x)) (hk:∀x∈captured.toList,VR β (ρ x) (ρ' x)) (hW:WR P β h w):
 Good P β h w (execOp ρ' ⟨dst,.makeFunc fn first captured,type,pos,after,guard⟩) v h':=by
 simp only[cop]at hc;split at hc
 .rename_i hfn;cases hc;simp only[aF.run,aD,di]at hr;obtain⟨rfl,rfl⟩:=hr;refine Good.same hW (v':=.func fn (first.map ρ') (captured.map ρ')) (by simp[execOp,Instr.makeFunc]) ?_;have e1:first.map ρ'=⟨first.toList.map ρ'⟩:=by apply Array.ext';rw[Kh]
  have e2:captured.map ρ'=⟨captured.toList.map ρ'⟩:=by apply Array.ext';rw[Kh]
  rw[e1,e2];exact .func (FR.refl hfn) (aW.of_map hf) (aW.of_map hk)
 .cases hc
variable{n:Nat}
def Yn{a:Addr}{f:Field}(hs:jB P f.type=some n)(hn:0<n)(w:World):(fieldPlace a f).run P w=.ok (a.add f.offset) w:=by
 simp only[fieldPlace,dG,mP hs,dJ];rw[if_neg z7];rfl
variable{f:Nat}
def Yo{s:adH}(hc:cop P ⟨dst,.fieldAddr s x f,type,pos,after,guard⟩=some c)(hr:c.run P ρ h=some (v,h'))(hx:VR β (ρ x) (ρ' x))(hW:WR P β h w):
 Good P β h w (execOp ρ' ⟨dst,.fieldAddr s x f,type,pos,after,guard⟩) v h':=by
 simp only[cop]at hc;split at hc
 .rename_i fs hu;split at hc
  .rename_i fd Ea;cases hs:nG P fd.type with
   |none=>simp[hs]at hc
   |some n=>
    simp only[hs,jT,aD]at hc;subst hc;obtain⟨hs1,hs2⟩:=tu hs;simp only[aF.run]at hr;split at hr
    .rename_i i o ha;rw[ha]at hx;obtain⟨g,hg,hx'⟩:=hx.uJ;simp only[aD,di]at hr;obtain⟨rfl,rfl⟩:=hr;refine Good.same hW (v':=.pointer (some ⟨g.b,g.off+(o+fd.offset),none⟩)) ?_ (.ptr hg);simp only[execOp,Instr.fieldAt,dG,fJ hu,dJ,Ea,hx',Instr.sureAddr,fw,Yn hs1 hs2,addr_add,qw]
    .cases hr
  .cases hc
 .cases hc
def QC{cs cs':kI vI}{off:Nat}{d:TypeDesc}(hd:P.underlying t=some d)(hs:jB P t=some n)(hv:aW β cs cs')(hall:cs.all cellV=true){v:vI}
 (hr:(match jC P t with
   |true=>match jf (jH cs off) n with
    |some l=>some (.agg ⟨l⟩:vI)
    |none=>none
   |false=>jU cs off)=some v) (w:World):∃v',(part t ⟨cs'⟩ off).run P w=.ok v' w/\VR β v v':=by
 cases hagg:jC P t with
 |true=>
  rw[hagg]at hr;simp only at hr;rw[qD,p9]at hr;split at hr
  .rename_i l hl;split at hl
   .rename_i hn;cases hl;simp only[aD]at hr;subst hr;refine⟨.agg ⟨(cs'.drop off).take n⟩,?_,.agg ?_ ((hv.drop off).take n)⟩
    .simp only[part,dG,Ce hd,hagg,dJ,if_true,mP hs,fw];congr 2;apply Array.ext';simp[Array.toList_extract,PL]
    .rw[lK]at hall⊢;exact λx hx=>hall x (List.mem_of_mem_drop (BJ hx))
   .cases hl
  .cases hr
 |false=>
  rw[hagg]at hr;simp only at hr;rw[sZ]at hr;obtain⟨v',h1,h2⟩:=hv.get hr;refine⟨v',?_,h2⟩;simp only[part,dG,Ce hd,hagg,dJ,vJ,if_false];have:(⟨cs'⟩:Array vI)[off]? =some v':=A6
  simp[this]
def Yp(hc:cop P ⟨dst,.field t x f,type,pos,after,guard⟩=some c)(hr:c.run P ρ h=some (v,h'))(hx:VR β (ρ x) (ρ' x))(hW:WR P β h w):
 Good P β h w (execOp ρ' ⟨dst,.field t x f,type,pos,after,guard⟩) v h':=by
 simp only[cop]at hc;split at hc
 .rename_i fs hu;split at hc
  .rename_i fd Ea;split at hc
   .rename_i n d hs hd;cases hc;simp only[aF.run]at hr;split at hr
    .rename_i cs ha;rw[ha]at hx;obtain⟨cs',h1,h2,hx'⟩:=hx.KQ;have hr':h'=h/\(match jC P fd.type with
      |true=>match jf (jH cs fd.offset) n with
       |some l=>some (.agg ⟨l⟩:vI)
       |none=>none
      |false=>jU cs fd.offset)=some v:=by
      cases hagg:jC P fd.type with
      |true=>
       exact zj
      |false=>
       exact zj
     obtain⟨rfl,hr2⟩:=hr';obtain⟨v',p1,p2⟩:=QC hd hs h1 h2 hr2 w;refine Good.same hW (v':=v') ?_ p2;simp only[execOp,Instr.field,dG,fJ hu,dJ,Ea,hx',asAgg,fw,p1]
    .cases hr
   .cases hc
  .cases hc
 .cases hc
def Yq(hc:cop P ⟨dst,.indexAddr t x y,type,pos,after,guard⟩=some c)(hr:c.run P ρ h=some (v,h'))(hx:VR β (ρ x) (ρ' x))(hy:VR β (ρ y) (ρ' y))(hW:WR P β h w):
 Good P β h w (execOp ρ' ⟨dst,.indexAddr t x y,type,pos,after,guard⟩) v h':=by
 simp only[cop]at hc;split at hc
 .rename_i n e hu;cases hs:nG P e with
  |none=>simp[hs]at hc
  |some s=>
   simp only[hs,jT,aD]at hc;subst hc;obtain⟨hs1,hs2⟩:=tu hs;simp only[aF.run]at hr;split at hr
   .rename_i b o k i ha hi;rw[ha]at hx;rw[hi]at hy;obtain⟨g,hg,hx'⟩:=hx.uJ;have hy':=hy.mo;cases hb:Nat.blt i n with
    |false=>rw[hb]at hr;cases hr
    |true=>
     rw[hb]at hr;simp only[cond_true,aD,di]at hr;obtain⟨rfl,rfl⟩:=hr;have hlt:i<n:=Bk
     refine Good.same hW (v':=.pointer (some ⟨g.b,g.off+Nat.add o (Nat.mul i s),none⟩)) ?_ (.ptr hg);simp only[execOp,Instr.indexAt,dG,hy',asIntOf,fw,dJ,fJ hu,hx',Instr.sureAddr];exact tM
   .cases hr
 .rename_i e hu;cases hs:nG P e with
  |none=>simp[hs]at hc
  |some s=>
   simp only[hs,jT,aD]at hc;subst hc;obtain⟨hs1,hs2⟩:=tu hs;simp only[aF.run]at hr;split at hr
   .rename_i b o f n k' k i ha hi;rw[ha]at hx;rw[hi]at hy;obtain⟨g,a,c',hg,hx',ha1,ha2,hn,hcc,hoff,_⟩:=hx.nT;have hy':=hy.mo;cases hb:Nat.blt i n with
    |false=>rw[hb]at hr;cases hr
    |true=>
     rw[hb]at hr;simp only[cond_true,aD,di]at hr;obtain⟨rfl,rfl⟩:=hr;have hlt:i<n:=Bk
     have hae:a=⟨g.b,g.off+o,none⟩:=by
      rcases hoff with h0|⟨h0,ha2⟩
      .omega
      .obtain⟨ab,ao,as⟩:=a;simp at ha1 ha2 h0;subst ha1 ha2 h0;rfl
     refine Good.same hW (v':=.pointer (some ⟨g.b,g.off+Nat.add o (Nat.mul i s),none⟩)) ?_ (.ptr hg);simp only[execOp,Instr.indexAt,dG,hy',asIntOf,fw,dJ,fJ hu,hx',hae];exact tM
   .cases hr
 .cases hc
def Yr{i:Nat}(hc:cop P ⟨dst,.extract x i,type,pos,after,guard⟩=some c)(hr:c.run P ρ h=some (v,h'))(hx:VR β (ρ x) (ρ' x))(hW:WR P β h w):
 Good P β h w (execOp ρ' ⟨dst,.extract x i,type,pos,after,guard⟩) v h':=by
 simp only[cop,aD]at hc;subst hc;simp only[aF.run]at hr;split at hr
 .rename_i vs ha;split at hr
  .rename_i u hu;simp only[aD,di]at hr;obtain⟨rfl,rfl⟩:=hr;rw[ha]at hx;rw[sZ]at hu;generalize hy:ρ' x=y at hx;cases hx with
   |dU=>simp at hu
   |tuple hl=>
    obtain⟨v',h1,h2⟩:=hl.get hu;refine Good.same hW (v':=v') ?_ h2;rename_i l';have:(⟨l'⟩:Array vI)[i]? =some v':=A6
    simp[execOp,Instr.extract,hy,this]
  .cases hr
 .cases hr
end
end Go.Ideal
namespace Go.Ideal
variable {P:Program} {β:aG} {h:IH} {w:World}
variable{m i:Nat}{v:vI}
def Am(h:upTo m v=some i):∃k,v=.int k i/\i<=m:=by
 unfold upTo at h;split at h
 .rename_i k n;cases hb:Nat.ble n m with
  |true=>rw[hb]at h;simp only[cond_true,aD]at h;subst h;exact⟨k,rfl,mK hb⟩
  |false=>rw[hb]at h;cases h
 .cases h
def xu{y:Nat}{code:BoundsCode}(h:upTo m v=some i)(hm:m<=y)(w:World):(Instr.sliceBound v y code).run P w=.ok i w:=by
 obtain⟨k,rfl,hle⟩:=Am h;simp only[Instr.sliceBound,asIntOf,dG,fw,dJ];rw[if_pos ⟨z7,z7⟩];simp
variable{len cap l hh:Nat}{lo hi mx:x8 vI}
def Ed(h:bounds? len cap lo hi mx=some (l,hh,m)):
 (∀v,mx=some v->upTo cap v=some m)/\(mx=none->m=cap)/\(∀v,hi=some v->upTo m v=some hh)/\(hi=none->mx=none/\hh=len)/\
 (∀v,lo=some v->upTo hh v=some l)/\(lo=none->l=0):=by
 unfold bounds? at h;split at h
 .cases h
 .rename_i m' hm;split at h
  .cases h
  .rename_i h1 hhi;split at h
   .cases h
   .rename_i l1 hlo;simp only[aD,di]at h;obtain⟨rfl,rfl,rfl⟩:=h;refine⟨?_,?_,?_,?_,?_,?_⟩
    .rintro v rfl;exact hm
    .rintro rfl;simp at hm;exact hm.symm
    .rintro v rfl;exact hhi
    .rintro rfl;cases mx with
     |some v=>simp at hhi
     |none=>simp at hhi;exact⟨rfl,hhi.symm⟩
    .rintro v rfl;exact hlo
    .rintro rfl;simp at hlo;exact hlo.symm
def KY(h:bounds? len cap lo hi mx=some (l,hh,m))(hlc:len<=cap):l<=hh/\hh<=m/\m<=cap:=by
 obtain⟨h1,h2,h3,h4,h5,h6⟩:=Ed h;refine⟨?_,?_,?_⟩
 .cases lo with
  |some v=>obtain⟨_,_,hle⟩:=Am (h5 v rfl);exact hle
  |none=>rw[h6 rfl];exact bR _
 .cases hi with
  |some v=>obtain⟨_,_,hle⟩:=Am (h3 v rfl);exact hle
  |none=>obtain⟨q1,q2⟩:=h4 rfl;rw[q2,h2 q1];exact hlc
 .cases mx with
  |some v=>obtain⟨_,_,hle⟩:=Am (h1 v rfl);exact hle
  |none=>rw[h2 rfl];exact bT _
def GM{Ee:Bool}{cap':Nat}(h:bounds? len cap lo hi mx=some (l,hh,m))(hc:cap<=cap')(w:World):
 (Instr.sliceBounds Ee len cap' lo hi mx).run P w=.ok (l,hh,if mx.isSome then m else cap') w:=by
 obtain⟨h1,h2,h3,h4,h5,h6⟩:=Ed h;unfold Instr.sliceBounds;cases mx with
 |some v=>
  have h1:=h1 v rfl;cases hi with
  |none=>exact absurd (h4 rfl).1 An
  |some u=>
   have h3:=h3 u rfl;cases lo with
   |none=>have h6:=h6 rfl;subst h6;simp[xu h1 hc,xu h3 (bT _)]
   |some x=>have h5:=h5 x rfl;simp[xu h1 hc,xu h3 (bT _),xu h5 (bT _)]
 |none=>
  have h2:=h2 rfl;subst h2;cases hi with
  |none=>
   obtain⟨_,rfl⟩:=h4 rfl;cases lo with
   |none=>have h6:=h6 rfl;subst h6;simp
   |some x=>have h5:=h5 x rfl;simp[xu h5 (bT _)]
  |some u=>
   have h3:=h3 u rfl;cases lo with
   |none=>have h6:=h6 rfl;subst h6;simp[xu h3 hc]
   |some x=>have h5:=h5 x rfl;simp[xu h3 hc,xu h5 (bT _)]
def KZ(h:bounds? len cap lo hi mx=some (l,hh,m)):(if mx.isSome then m else cap)=m:=by
 obtain⟨_,h2,_⟩:=Ed h;cases mx with
 |some v=>rfl
 |none=>rw[h2 rfl];rfl
def K3{lo hi mx:x8 aaB}{ρ ρ':aaB->vI}{r:Nat×Nat×Nat}(h:bounds? len cap (jm ρ lo) (jm ρ hi) (jm ρ mx)=some r)
 (hl:∀x,lo=some x->VR β (ρ x) (ρ' x)) (hh:∀x,hi=some x->VR β (ρ x) (ρ' x)) (hm:∀x,mx=some x->VR β (ρ x) (ρ' x)):
 lo.map ρ'=jm ρ lo/\hi.map ρ'=jm ρ hi/\mx.map ρ'=jm ρ mx:=by
 obtain⟨l,hi2,m⟩:=r;obtain⟨h1,_,h3,_,h5,_⟩:=Ed h;refine⟨?_,?_,?_⟩
 .cases lo with
  |none=>rfl
  |some x=>
   obtain⟨k,hk,_⟩:=Am (h5 _ rfl);have:=hl x rfl;exact u9
 .cases hi with
  |none=>rfl
  |some x=>
   obtain⟨k,hk,_⟩:=Am (h3 _ rfl);have:=hh x rfl;exact u9
 .cases mx with
  |none=>rfl
  |some x=>
   obtain⟨k,hk,_⟩:=Am (h1 _ rfl);have:=hm x rfl;exact u9
section
variable {dst:x8 Tmp} {type:adH} {pos:String} {after:Array Edge} {guard:x8 (Nat×Bool)} {c:aF} {ρ ρ':aaB->vI} {v:vI} {h':IH}
def Yt{t:adH}{x:aaB}{lo hi mx:x8 aaB}(hc:cop P ⟨dst,.slice t x lo hi mx,type,pos,after,guard⟩=some c)(hr:c.run P ρ h=some (v,h'))(hx:VR β (ρ x) (ρ' x))
 (hl:∀x,lo=some x->VR β (ρ x) (ρ' x)) (hh:∀x,hi=some x->VR β (ρ x) (ρ' x)) (hm:∀x,mx=some x->VR β (ρ x) (ρ' x)) (hW:WR P β h w):
 Good P β h w (execOp ρ' ⟨dst,.slice t x lo hi mx,type,pos,after,guard⟩) v h':=by
 simp only[cop]at hc;split at hc
 .
  rename_i hu;cases hc;simp only[aF.run]at hr;split at hr
  .rename_i s hs;split at hr
   .rename_i b hb;split at hr
    .rename_i u hu2;simp only[aD,di]at hr;obtain⟨rfl,rfl⟩:=hr;obtain⟨h1,h2⟩:=Ec hu2;rw[hs]at hx;have hx':=hx.Ai;obtain⟨e1,e2,e3⟩:=K3 hb hl hh hm;refine Good.same hW (v':=u) ?_ (VR.free h2);simp only[execOp,Instr.sliceAt,dG,fJ hu,dJ,hx',e1,e2,e3,yL h1 w,fw]
    .cases hr
   .cases hr
  .cases hr
 .
  rename_i n e hu;cases hs:nG P e with
  |none=>simp[hs]at hc
  |some s=>
   simp only[hs,jT,aD]at hc;subst hc;obtain⟨hs1,hs2⟩:=tu hs;simp only[aF.run]at hr;split at hr
   .rename_i i o ha;split at hr
    .rename_i l h1 m hb;simp only[aD,di]at hr;obtain⟨rfl,rfl⟩:=hr;rw[ha]at hx;obtain⟨g,hg,hx'⟩:=hx.uJ;obtain⟨e1,e2,e3⟩:=K3 hb hl hh hm;have b1:=GM (P:=P) (Ee:=false) hb (bT _) w;rw[KZ hb]at b1;have hlen:=KY hb (bT _);refine Good.same hW (v':=.slice (some (if m=l then(⟨g.b,g.off+o,none⟩:Addr)else(⟨g.b,g.off+o,none⟩:Addr).add (l*s))) (h1 - l) (m - l)) ?_ ?_
     .simp only[execOp,Instr.sliceAt,dG,fJ hu,dJ,hx',Instr.sureAddr,fw,e1,e2,e3,b1,mP hs1]
     .refine .ak hg ?_ C4 ?_
      .split<;>simp[addr_add]
      .by_cases hml:m=l
       .left;show m - l=0;omega
       .right;rw[if_neg hml,addr_add];simp[qw]
    .cases hr
   .cases hr
 .
  rename_i e hu;cases hs:nG P e with
  |none=>simp[hs]at hc
  |some s=>
   simp only[hs,jT,aD]at hc;subst hc;obtain⟨hs1,hs2⟩:=tu hs;simp only[aF.run]at hr;split at hr
   .rename_i a len cap ha;split at hr
    .rename_i l h1 m hb;rw[ha]at hx;obtain⟨e1,e2,e3⟩:=K3 hb hl hh hm;split at hr
     .
      simp only[aD,di]at hr;obtain⟨rfl,rfl⟩:=hr;have hx':ρ' x=.slice none len cap:=by generalize ρ' x=y at hx;cases hx;rfl
      have b1:=GM (P:=P) (Ee:=true) hb (bT _) w;rw[KZ hb]at b1;refine Good.same hW (v':=.slice none (h1 - l) (m - l)) ?_ (.sl0 _ _);exact qS
     .
      rename_i i o;simp only[aD,di]at hr;obtain⟨rfl,rfl⟩:=hr;obtain⟨g,a',c',hg,hx',ha1,ha2,hn,hcc,hoff,hkind⟩:=hx.nT;have hc':c'=cap:=by
       rcases hkind with hk|hk
       .exact hk.2
       .have:=hk.1;simp at this;omega
      subst hc';have b1:=GM (P:=P) (Ee:=true) hb (bT _) w;rw[KZ hb]at b1;have hlen:=KY hb hn;obtain⟨ab,ao,as⟩:=a';simp only at ha1 hoff;subst ha1;refine Good.same hW (v':=.slice (some (if m=l then(⟨g.b,ao,as⟩:Addr)else(⟨g.b,ao,as⟩:Addr).add (l*s))) (h1 - l) (m - l)) ?_ ?_
      .exact qS
      .refine .ak hg ?_ C4 ?_
       .split
        .rfl
        .simp only[Addr.add];split<;>rfl
       .by_cases hml:m=l
        .left;show m - l=0;omega
        .right;rw[if_neg hml];rcases hoff with h0|⟨h0,hs0⟩
         .omega
         .subst h0 hs0;rw[addr_add];simp[qw]
     .
      rename_i i o k;cases hbk:Nat.beq (Nat.succ k) s with
      |false=>rw[hbk]at hr;cases hr
      |true=>
       rw[hbk]at hr;have hks:k+1=s:=qo hbk;simp only[cond_true,aD,di]at hr;obtain⟨rfl,rfl⟩:=hr;obtain⟨g,a',c',hg,hx',ha1,ha2,hn,hcc,hoff,hkind⟩:=hx.nT;obtain⟨hsz,hpos,hl1,hl2,ha2⟩:g.sz=s/\0<g.sz/\o+cap*g.sz=g.len/\g.off+o+c'*g.sz=g.top/\a'.spot=none:=by
        rcases hkind with hk|hk
        .have:=hk.1;simp at this
        .have:=hk.1;simp at this;exact⟨z7,hk.2.1,hk.2.2.1,hk.2.2.2⟩
       have b1:=GM (P:=P) (Ee:=true) hb hcc w;have hlen:=KY hb hn;have K4:c'=0\/a'.off=g.off+o:=hoff.imp id (·.1);clear hoff;obtain⟨ab,ao,as⟩:=a';simp only at ha1 ha2 K4;subst ha1 ha2;have hrun:∀m',(Instr.sliceBounds true len c' (jm ρ lo) (jm ρ hi) (jm ρ mx)).run P w=.ok (l,h1,m') w->
        (execOp ρ' ⟨dst,.slice t x lo hi mx,type,pos,after,guard⟩).run P w=.ok (.value (.slice (some (if m'=l then(⟨g.b,ao,none⟩:Addr)else(⟨g.b,ao,none⟩:Addr).add (l*s))) (h1 - l) (m' - l))) w:=by
        intro m' hm';simp only[execOp,Instr.sliceAt,Instr.slice,dG,fJ hu,dJ,hx',e1,e2,e3,hm',mP hs1,fw];split<;>rfl
       cases hmx:mx with
       |some xx=>
        subst hmx;have hmm:(if(jm ρ (some xx)).isSome then m else c')=m:=rfl;rw[hmm]at b1;refine Good.same hW (hrun m b1) ?_;refine .ak hg ?_ C4 ?_
        .split<;>simp[addr_add]
        .by_cases hml:m=l
         .left;show m - l=0;omega
         .right;rw[if_neg hml,addr_add];rcases K4 with h0|h0
          .omega
          .have h0':ao=g.off+o:=h0;refine⟨?_,rfl⟩;show ao+l*s=g.off+(o+l*s)
           omega
       |none=>
        subst hmx;have hmm:(if(jm ρ (none:x8 aaB)).isSome then m else c')=c':=rfl;rw[hmm]at b1;have Yu:m=cap:=by
         obtain⟨_,q1,_⟩:=Ed hb;exact q1 rfl
        subst Yu;refine Good.same hW (hrun c' b1) ?_;have Yv:(some (Nat.succ k):x8 Nat)=some g.sz:=by rw[hsz,<- hks]
        simp only[Yv];have hlc:l*s+(m - l)*s=m*s:=by rw[<- ru];congr 1;omega
        have akh:l*s+(c' - l)*s=c'*s:=by rw[<- ru];congr 1;omega
        refine .qa hg ?_ ?_ C4 hpos ?_ ?_ (by show m - l<=c' - l;omega) ?_
        .split<;>simp[addr_add]
        .split<;>simp[addr_add]
        .show o+l*s+(m - l)*g.sz=g.len;rw[hsz]at hl1⊢;omega
        .show g.off+(o+l*s)+(c' - l)*g.sz=g.top;rw[hsz]at hl2⊢;omega
        .by_cases hml:c'=l
         .left;omega
         .right;rw[if_neg hml,addr_add];rcases K4 with h0|h0
          .omega
          .subst h0;simp[qw]
     .cases hr
    .cases hr
   .cases hr
 .cases hc
end
end Go.Ideal
namespace Go.Ideal
variable {P:Program} {β:aG} {h:IH} {w:World}
def ig{α γ:Type}(s:Sem α)(f:α->Sem γ):eD P (s>>=f)=(eD P s).bind λa=>eD P (f a):=by
 show eD P (Sem.bind s f)=_;induction s with
 |pure a=>rfl
 |program k ih=>exact ih _
 |mark m k ih=>exact ih
 |_=>rfl
variable{kt:adH}{k:vI}
def K5(h:rz P kt k=true)(b:Bool)(w:World):(Instr.checkKey b 10000 kt k).run P w=.ok () w:=by
 unfold rz at h;simp only[afD]at h;obtain⟨_,h⟩:=h;split at h
 .rename_i x y hx hy;cases b
  .exact yL hy w
  .exact yL hx w
 .cases h
def K6(h:rz P kt k=true):cK k=true:=by
 unfold rz at h;simp only[afD]at h;exact h.1
inductive Ef(β:aG):Option (Nat×Value)->Option (Nat×Value)->Prop
 |none:Ef β none none
 |some (i:Nat) {v v':Value} (h:VR β v v'):Ef β (some (i,v)) (some (i,v'))
variable{es es':kI MapEntry}
def Yw{kd:TypeDesc}(he:ERs β es es'):∀(i:Nat),
 (∀r,Instr.findNow kd k es i=some r->∃r',Instr.findNow kd k es' i=some r'/\Ef β r r')/\(Instr.findNow kd k es i=none->Instr.findNow kd k es' i=none):=by
 induction he with
 |nil=>intro i;exact⟨λr hr=>by simp only[Instr.findNow,aD]at hr;subst hr;exact⟨_,rfl,.none⟩,λhr=>by simp[Instr.findNow]at hr⟩
 | @cons e e' l l' hk hf hb hv hl ih=>
   intro i;simp only[Instr.findNow,hk];cases hs:Instr.sameNow kd k e.key with
   |none=>exact⟨λr hr=>(by cases hr),λ_=>rfl⟩
   |some b=>cases b with
    |true=>exact⟨λr hr=>by simp only[aD]at hr;subst hr;exact⟨_,rfl,.some i hv⟩,λhr=>by simp at hr⟩
    |false=>exact ih (i+1)
def Yx(he:ERs β es es')(w:World):∀(i:Nat) r,
 eD P (Instr.findAsking kt k es i)=some r->∃r',(Instr.findAsking kt k es' i).run P w=.ok r' w/\Ef β r r':=by
 induction he with
 |nil=>intro i r hr;simp only[Instr.findAsking]at hr;change some none=some r at hr;simp only[aD]at hr;subst hr;exact⟨none,rfl,.none⟩
 | @cons e e' l l' hk hf hb hv hl ih=>
   intro i r hr;simp only[Instr.findAsking,ig]at hr;cases hq:eD P (Op.equal kt k e.key)with
   |none=>rw[hq]at hr;cases hr
   |some b=>
    rw[hq]at hr;simp only[Instr.findAsking,hk,dG,yL hq w,dJ];cases b with
    |true=>
     change some (some (i,e.val))=some r at hr
     simp only[aD]at hr;subst hr;exact⟨_,rfl,.some i hv⟩
    |false=>exact ih (i+1) r hr
def QD(he:ERs β es es')(w:World){r:x8 (Nat×vI)}(hr:sU P kt k es=some r):
 ∃r',(Instr.findKey kt k es').run P w=.ok r' w/\Ef β r r':=by
 unfold sU Instr.findKey at hr;rw[ig]at hr;cases hu:P.underlying kt with
 |none=>
  have:eD P (underlying kt)=none:=by simp[underlying,program,eD,hu,bind,Sem.bind,stuck]
  rw[this]at hr;cases hr
 |some d=>
  have:eD P (underlying kt)=some d:=by simp[underlying,program,eD,hu,bind,Sem.bind];rfl
  rw[this]at hr;simp only[iX]at hr;obtain⟨n1,n2⟩:=Yw (β:=β) (kd:=d) (k:=k) he 0;simp only[Instr.findKey,dG,fJ hu,dJ];split at hr
  .rename_i r1 hr1;change some r1=some r at hr
   simp only[aD]at hr;subst hr;obtain⟨r',h1,h2⟩:=n1 _ hr1;rw[h1];exact⟨r',rfl,h2⟩
  .rename_i hr1;rw[n2 hr1];exact Yx he w 0 r hr
def QE{m m':vI}(hW:WR P β h w)(hm:VR β m m')(he:entriesOf m h=some es):
 (m=.map none/\m'=.map none/\es=[])\/∃i g es' clock clock',m=.map (some i)/\h.get i=some (.map es clock)/\β i=some g/\m'=.map (some g.b)/\w.heap[g.b]? =some (.map es' clock')/\clock'=clock/\ERs β es es'.toList:=by
 unfold entriesOf at he;split at he
 .simp only[aD]at he;subst he;left;cases hm;exact⟨rfl,rfl,rfl⟩
 .rename_i i;split at he
  .rename_i es1 clock hg;simp only[aD]at he;subst he;obtain⟨g,hb,rfl⟩:=hm.Cg;obtain⟨es',h1,h2⟩:=hW.obj i g _ hb hg;exact .inr ⟨i,g,es',clock,clock,rfl,hg,hb,rfl,h1,rfl,h2⟩
  .cases he
 .cases he
def ERs.length{l l':kI MapEntry}(he:ERs β l l'):l'.length=l.length:=by
 induction he with
 |nil=>rfl
 |cons _ _ _ _ _ ih=>simp[ih]
variable{b:Nat}{o:Obj}
def xy(h:w.heap[b]? =some o)(hn:∀c t f,o≠.cells c t f):(getObj b).run P w=.ok o w:=by
 simp only[getObj,Sem.run,h]
def K7{o0:Obj}(h:w.heap[b]? =some o0)(hn:∀c t f,o0≠.cells c t f):(setObj b o).run P w=.ok () {w with heap:=w.heap.setIfInBounds b o}:=by
 simp only[setObj,Sem.run,h]
def Eg(ok:Bool)(z:vI):x8 (Nat×vI)->vI
 |some (_,v)=>if ok then .tuple #[v,.bool true]else v
 |none=>if ok then .tuple #[z,.bool false]else z
def Yy{t et:adH}(hu:P.underlying t=some (.map kt et)){m k:vI}{es:Array MapEntry}(hm:(m=.map none/\es= #[])\/∃b clock,m=.map (some b)/\w.heap[b]? =some (.map es clock))
 (hck:(Instr.checkKey es.isEmpty 10000 kt k).run P w=.ok () w) {r:x8 (Nat×vI)} (hf:(Instr.findKey kt k es.toList).run P w=.ok r w) {z:vI} (hz:zeroOf P et=some z) {ok:Bool}:
 (Instr.lookup t m k ok).run P w=.ok (Eg ok z r) w:=by
 rcases hm with⟨rfl,rfl⟩|⟨b,clock,rfl,hb⟩
 .simp only[Instr.lookup,dG,fJ hu,dJ,fw,hck,hf];exact ye
 .simp only[Instr.lookup,dG,fJ hu,dJ,fw,xy hb An,hck,hf];exact ye
section
variable {dst:x8 Tmp} {type:adH} {pos:String} {after:Array Edge} {guard:x8 (Nat×Bool)} {c:aF} {ρ ρ':aaB->vI} {v:vI} {h':IH}
def Yz{t:adH}{m k:aaB}{ok:Bool}(hc:cop P ⟨dst,.lookup t m k ok,type,pos,after,guard⟩=some c)(hr:c.run P ρ h=some (v,h'))(hm:VR β (ρ m) (ρ' m))(hk:VR β (ρ k) (ρ' k))(hW:WR P β h w):
 Good P β h w (execOp ρ' ⟨dst,.lookup t m k ok,type,pos,after,guard⟩) v h':=by
 simp only[cop]at hc;split at hc
 .rename_i kt et hu;cases hz:zeroOf P et with
  |none=>simp[hz]at hc
  |some z=>
   simp only[hz,jT,aD]at hc;subst hc;obtain⟨_,_,_,Eh⟩:=Cb hz;simp only[aF.run]at hr;split at hr
   .rename_i u hl;simp only[aD,di]at hr;obtain⟨rfl,rfl⟩:=hr;unfold zZ at hl;split at hl
    .cases hl
    .rename_i es hes;cases hck:rz P kt (ρ k)with
     |false=>rw[hck]at hl;cases hl
     |true=>
      rw[hck]at hl;simp only[cond_true]at hl;have hk':=hk.qb (K6 hck);cases hf:sU P kt (ρ k) es with
      |none=>rw[hf]at hl;cases hl
      |some r=>
       rw[hf]at hl;obtain⟨es',he1,he2⟩:∃es':Array MapEntry,((ρ' m=.map none/\es'= #[])\/∃b clock,ρ' m=.map (some b)/\w.heap[b]? =some (.map es' clock))/\ERs β es es'.toList:=by
        rcases QE hW hm hes with⟨_,h2,h3⟩|⟨i,g,es',clock,clock',_,_,_,h4,h5,_,h6⟩
        .subst h3;exact⟨#[],.inl ⟨h2,rfl⟩,.nil⟩
        .exact⟨es',.inr ⟨_,_,h4,h5⟩,h6⟩
       obtain⟨r',f1,f2⟩:=QD he2 w hf;have hrun:=Yy (ok:=ok) hu he1 (K5 hck _ w) f1 hz;rw[<- hk']at hrun;cases f2 with
       |none=>
        simp only[aD]at hl;refine Good.same hW (xq hrun) ?_;subst hl;cases ok
        .exact VR.free Eh
        .exact .tuple (.cons (VR.free Eh) (.cons (.bool _) .nil))
       |some i hv=>
        simp only[aD]at hl;refine Good.same hW (xq hrun) ?_;subst hl;cases ok
        .exact hv
        .exact .tuple (.cons hv (.cons (.bool _) .nil))
   .cases hr
 .cases hc
end
end Go.Ideal
namespace Go.Ideal
variable {P:Program} {β:aG} {h:IH} {w:World}
variable{l l':kI MapEntry}
def ERs.get(he:ERs β l l'){i:Nat}{e:MapEntry}(hi:l[i]? =some e):∃e',l'[i]? =some e'/\e'.key=e.key/\cK e.key=true/\e'.born=e.born/\VR β e.val e'.val:=by
 induction he generalizing i with
 |nil=>simp at hi
 |cons hk hf hb hv hl ih=>
  cases i with
  |zero=>simp at hi;subst hi;exact⟨_,An,hk,hf,hb,hv⟩
  |succ i=>simp at hi;obtain⟨e',h1,h2⟩:=ih hi;exact⟨e',by simpa using h1,h2⟩
def ERs.modify(he:ERs β l l'){f f':MapEntry->MapEntry}(i:Nat)
 (YA:∀e e',e'.key=e.key->cK e.key=true->e'.born=e.born->VR β e.val e'.val->(f' e').key=(f e).key/\cK (f e).key=true/\(f' e').born=(f e).born/\VR β (f e).val (f' e').val):
 ERs β (l.modify i f) (l'.modify i f'):=by
 induction he generalizing i with
 |nil=>cases i<;>exact .nil
 |cons hk hf hb hv hl ih=>
  cases i with
  |zero=>obtain⟨a,b,c,d⟩:=YA _ _ hk hf hb hv;exact .cons a b c d hl
  |succ i=>exact .cons hk hf hb hv (ih i)
def ERs.push(he:ERs β l l'){e e':MapEntry}(h1:e'.key=e.key)(h2:cK e.key=true)(h3:e'.born=e.born)(h4:VR β e.val e'.val):ERs β (l++[e]) (l'++[e']):=by
 induction he with
 |nil=>exact .cons h1 h2 h3 h4 .nil
 |cons hk hf hb hv hl ih=>exact .cons hk hf hb hv ih
def Ei{b:Nat}{o:Obj}(hb:b<w.heap.size):let w1:World:={w with heap:=w.heap.setIfInBounds b o}
 w1.heap.size=w.heap.size/\(∀x,x≠b->w1.heap[x]? =w.heap[x]?)/\w1.heap[b]? =some o:=by
 refine⟨An,λx hx=>?_,?_⟩
 .show(w.heap.setIfInBounds b o)[x]? =_;rw[Gb z7]
 .show(w.heap.setIfInBounds b o)[b]? =_;simp[hb]
section
variable {dst:x8 Tmp} {type:adH} {pos:String} {after:Array Edge} {guard:x8 (Nat×Bool)} {c:aF} {ρ ρ':aaB->vI} {v:vI} {h':IH}
variable{t kt et:adH}
def QF(hu:P.underlying t=some (.map kt et)){b clock:Nat}{es:Array MapEntry}{k x:vI}(hb:w.heap[b]? =some (.map es clock))
 (hck:(Instr.checkKey false 10000 kt k).run P w=.ok () w) {r:x8 (Nat×vI)} (hf:(Instr.findKey kt k es.toList).run P w=.ok r w)
 (hs:∀i v,r=some (i,v)->∃e,es[i]? =some e/\Instr.sameBits 10000 e.key k=true):
 (Instr.mapUpdate t (.map (some b)) k x).run P w=.ok () {w with heap:=w.heap.setIfInBounds b (match r with
   |some (i,_)=>.map (es.modify i λe=>{e with key:=k,val:=x}) clock
   |none=>.map (es.push {key:=k,val:=x,born:=clock}) (clock+1))}:=by
 simp only[Instr.mapUpdate,dG,fJ hu,dJ,xy hb An,hck,hf];cases r with
 |none=>exact K7 hb An
 |some p=>
  obtain⟨i,v⟩:=p;obtain⟨e,h1,h2⟩:=hs i v rfl;simp only[h1,jT,wQ,Instr.keyThatStays,h2,if_true,dG,fw,dJ];exact K7 hb An
def QG(hu:P.underlying t=some (.map kt et)){m m' k k' x x':vI}{h2:IH}(hr:DL P kt m k x h=some h2)(hm:VR β m m')(hk:VR β k k')(hx:VR β x x')(hW:WR P β h w):
 ∃w',(Instr.mapUpdate t m' k' x').run P w=.ok () w'/\WR P β h2 w'/\Eff β h w β h2 w':=by
 unfold DL at hr;split at hr
 .rename_i i;split at hr
  .rename_i es clock hg;obtain⟨g,hb,rfl⟩:=hm.Cg;obtain⟨es',o1,o2⟩:=hW.obj i g _ hb hg;cases hck:rz P kt k with
   |false=>rw[hck]at hr;cases hr
   |true=>
    rw[hck]at hr;simp only[cond_true]at hr;have hk':=hk.qb (K6 hck);subst hk';have hfree:=K6 hck;have hlt:g.b<w.heap.size:=by
     exact th
    cases hf:sU P kt k' es with
    |none=>rw[hf]at hr;cases hr
    |some r=>
     rw[hf]at hr;obtain⟨r',f1,f2⟩:=QD o2 w hf;cases f2 with
     |none=>
      simp only[aD]at hr;subst hr;have hrun:=QF (x:=x') hu o1 (K5 hck false w) f1 An;obtain⟨p1,p2,p3⟩:=Ei (w:=w) (o:=.map (es'.push {key:=k',val:=x',born:=clock}) (clock+1)) hlt;refine⟨_,hrun,hW.write hb hg _ p1 p2 rfl rfl rfl (bT _) ⟨_,p3,?_⟩⟩;rw[jK,Array.toList_push];exact o2.push rfl hfree rfl hx
     |some j hv=>
      simp only at hr;split at hr
      .rename_i e he;rw[sZ]at he;obtain⟨e',q1,q2,q3,q4,q5⟩:=o2.get he;cases hs:Instr.sameBits 10000 e.key k' with
       |false=>rw[hs]at hr;cases hr
       |true=>
        rw[hs]at hr;simp only[cond_true,aD]at hr;subst hr;have hrun:=QF (x:=x') hu o1 (K5 hck false w) f1 (λi v QH=>by
         simp only[aD,di]at QH;obtain⟨rfl,_⟩:=QH;exact⟨e',by simpa using q1,by rw[q2];exact hs⟩)
        obtain⟨p1,p2,p3⟩:=Ei (w:=w) (o:=.map (es'.modify j λe=>{e with key:=k',val:=x'}) clock) hlt;refine⟨_,hrun,hW.write hb hg _ p1 p2 rfl rfl rfl (bT _) ⟨_,p3,?_⟩⟩;rw[Qn,Array.toList_modify];exact o2.modify j λe e' a b c d=>⟨rfl,hfree,c,hx⟩
      .cases hr
  .cases hr
 .cases hr
variable{x m k:aaB}
def YB(hc:cop P ⟨dst,.mapUpdate t m k x,type,pos,after,guard⟩=some c)(hr:c.run P ρ h=some (v,h'))(hm:VR β (ρ m) (ρ' m))(hk:VR β (ρ k) (ρ' k))(hx:VR β (ρ x) (ρ' x))(hW:WR P β h w):
 Good P β h w (execOp ρ' ⟨dst,.mapUpdate t m k x,type,pos,after,guard⟩) v h':=by
 simp only[cop]at hc;split at hc
 .exact fg
 .cases hc
def YC(hc:cop P ⟨dst,.insert t m k x,type,pos,after,guard⟩=some c)(hr:c.run P ρ h=some (v,h'))(hm:VR β (ρ m) (ρ' m))(hk:VR β (ρ k) (ρ' k))(hx:VR β (ρ x) (ρ' x))(hW:WR P β h w):
 Good P β h w (execOp ρ' ⟨dst,.insert t m k x,type,pos,after,guard⟩) v h':=by
 simp only[cop]at hc;split at hc
 .exact fg
 .cases hc
def K8(hW:WR P β h w){s:Sem Next}{ob:dN}{o':Obj}(hr:s.run P w=.ok (.value (.pointer (some ⟨w.heap.size,0,none⟩))) {w with heap:=w.heap.push o'})
 (ho:∀β':aG,β.le β'->OR P β' ⟨w.heap.size,0,0,0,0⟩ {w with heap:=w.heap.push o'} ob):Good P β h w s (.pointer (some ⟨h.next,0,none⟩)) (h.new ob):=by
 refine uI.good (f:=λi=>.pointer (some ⟨i,0,none⟩)) hW ⟨_,o',⟨w.heap.size,0,0,0,0⟩,hr,rfl,λi β' hle hi=>⟨?_,ho β' hle⟩⟩;have:=VR.ptr (β:=β') (o:=0) hi;exact this
def YD(hc:cop P ⟨dst,.range t x,type,pos,after,guard⟩=some c)(hr:c.run P ρ h=some (v,h'))(hx:VR β (ρ x) (ρ' x))(hW:WR P β h w):
 Good P β h w (execOp ρ' ⟨dst,.range t x,type,pos,after,guard⟩) v h':=by
 simp only[cop]at hc;split at hc
 .rename_i hu;cases hc;simp only[aF.run]at hr;split at hr
  .rename_i s hs;simp only[aD,di]at hr;obtain⟨rfl,rfl⟩:=hr;rw[hs]at hx;have hx':=hx.Ai;refine K8 hW (o':=.stringIter s 0) ?_ λβ' _=>⟨An,rfl⟩
   simp[execOp,Instr.range,fJ hu,hx']
  .cases hr
 .rename_i kt et hu;cases hc;simp only[aF.run]at hr;split at hr
  .rename_i hs;simp only[aD,di]at hr;obtain⟨rfl,rfl⟩:=hr;rw[hs]at hx;have hx':ρ' x=.map none:=by generalize ρ' x=y at hx;cases hx;rfl
   refine K8 hW (o':=.mapIter none 0 #[] 0) ?_ λβ' _=>⟨none, #[],An,rfl,.xk,rfl⟩
   simp[execOp,Instr.range,fJ hu,hx']
  .rename_i m hs;split at hr
   .rename_i es clock hg;simp only[aD,di]at hr;obtain⟨rfl,rfl⟩:=hr;rw[hs]at hx;obtain⟨g,hb,hx'⟩:=hx.Cg;obtain⟨es',o1,o2⟩:=hW.obj m g _ hb hg;refine K8 hW (o':=.mapIter (some g.b) clock #[] clock) ?_ λβ' hle=>⟨some g.b, #[],An,rfl,.map (hle _ _ hb),rfl⟩
    simp only[execOp,Instr.range,dG,fJ hu,dJ,hx',xy o1 An,fw,run_newObj]
   .cases hr
  .cases hr
 .cases hc
def find_born{l l':kI MapEntry}(he:ERs β l l')(n:Nat):match l.find? (λe=>Nat.beq e.born n)with
 |none=>l'.find? (λe=>e.born==n)=none
 |some e=>∃e',l'.find? (λe=>e.born==n)=some e'/\e'.key=e.key/\cK e.key=true/\VR β e.val e'.val:=by
 induction he with
 |nil=>rfl
 | @cons e e' l l' hk hf hb hv hl ih=>
   simp only[List.find?_cons,hb];cases hq:Nat.beq e.born n with
   |true=>
    have:(e.born==n)=true:=by simp[qo hq]
    simp only[this];exact⟨e',rfl,hk,hf,hv⟩
   |false=>
    have:(e.born==n)=false:=by simp[Dw hq]
    simp only[this];exact ih
def YE(hc:cop P ⟨dst,.entry x,type,pos,after,guard⟩=some c)(hr:c.run P ρ h=some (v,h'))(hx:VR β (ρ x) (ρ' x))(hW:WR P β h w):
 Good P β h w (execOp ρ' ⟨dst,.entry x,type,pos,after,guard⟩) v h':=by
 simp only[cop,aD]at hc;subst hc;simp only[aF.run]at hr;split at hr
 .rename_i r hs;split at hr
  .rename_i m since seen stepped hg;split at hr
   .rename_i es clock hgm;split at hr
    .rename_i stamp hst;cases hbq:Nat.beq clock stepped with
     |false=>rw[hbq]at hr;cases hr
     |true=>
      rw[hbq]at hr;simp only[cond_true]at hr;split at hr
      .rename_i e he;simp only[aD,di]at hr;obtain⟨rfl,rfl⟩:=hr;rw[hs]at hx;obtain⟨g,hb,hx'⟩:=hx.uJ;obtain⟨m',seen',o1,o2,o3,o4⟩:=hW.obj r g _ hb hg;rw[o4]at hx';obtain⟨gm,K9,hm'⟩:∃gm,β m=some gm/\m'=some gm.b:=by
        exact uv
       subst hm';obtain⟨es',p1,p2⟩:=hW.obj m gm _ K9 hgm;have QI:=find_born p2 stamp;rw[he]at QI;obtain⟨e',q1,q2,q3,q4⟩:=QI;have hback:seen'.back? =some stamp:=by
        rw[<- Array.getLast?_toList,o2];exact hst
       have hcl:(clock !=stepped)=false:=by simp[qo hbq]
       have hfa:es'.find? (λe=>e.born==stamp)=some e':=by rw[<- Array.find?_toList];exact q1
       refine Good.same hW (v':=.tuple #[e'.key,e'.val]) ?_ (.tuple (.cons ?_ (.cons q4 .nil)))
       .simp only[execOp,Instr.entry,zM,dG,hx',xy o1 An,xy p1 An,dJ,hback,hcl,hfa,fw,vJ,if_false]
       .rw[q2];exact VR.free q3
      .cases hr
    .cases hr
   .cases hr
  .cases hr
 .cases hr
def YF{xt:adH}{ok:Bool}(hc:cop P ⟨dst,.typeAssert x xt t ok,type,pos,after,guard⟩=some c)(hr:c.run P ρ h=some (v,h'))(hx:VR β (ρ x) (ρ' x))(hW:WR P β h w):
 Good P β h w (execOp ρ' ⟨dst,.typeAssert x xt t ok,type,pos,after,guard⟩) v h':=by
 simp only[cop]at hc;split at hc
 .cases hc
 .rename_i d hni hu;cases hz:zeroOf P t with
  |none=>simp[hz]at hc
  |some z=>
   simp only[hz,jT,aD]at hc;subst hc;obtain⟨_,_,_,Eh⟩:=Cb hz;simp only[aF.run]at hr;split at hr
   .rename_i hs;rw[hs]at hx;have hx':ρ' x=.nilIface:=by generalize ρ' x=y at hx;cases hx;rfl
    cases ok with
    |false=>cases hr
    |true=>
     simp only[cond_true,aD,di]at hr;obtain⟨rfl,rfl⟩:=hr;refine Good.same hW (v':=.tuple #[z,.bool false]) ?_ (.tuple (.cons (VR.free Eh) (.cons (.bool _) .nil)));simp only[execOp,Instr.typeAssert,dG,fJ hu,dJ,hx',if_true,Cc hz,fw]
   .rename_i u y hs;rw[hs]at hx;obtain⟨y',hy,hx'⟩:=hx.Aj;cases hbq:Nat.beq u t with
    |true=>
     have hut:u=t:=qo hbq;rw[hbq]at hr;simp only[cond_true,aD,di]at hr;obtain⟨rfl,rfl⟩:=hr;refine Good.same hW (v':=if ok then .tuple #[y',.bool true]else y') ?_ ?_
     .simp only[execOp,Instr.typeAssert,dG,fJ hu,dJ,hx',hut];cases d<;>first|exact absurd rfl (hni _)|simp
     .cases ok
      .exact hy
      .exact .tuple (.cons hy (.cons (.bool _) .nil))
    |false=>
     have hut:u≠t:=Dw hbq;rw[hbq]at hr;cases ok with
     |false=>cases hr
     |true=>
      simp only[cond_true,cond_false,aD,di]at hr;obtain⟨rfl,rfl⟩:=hr;refine Good.same hW (v':=.tuple #[z,.bool false]) ?_ (.tuple (.cons (VR.free Eh) (.cons (.bool _) .nil)));simp only[execOp,Instr.typeAssert,dG,fJ hu,dJ,hx'];cases d<;>first|exact absurd rfl (hni _)|simp[hut,Cc hz]
   .cases hr
 .cases hc
end
