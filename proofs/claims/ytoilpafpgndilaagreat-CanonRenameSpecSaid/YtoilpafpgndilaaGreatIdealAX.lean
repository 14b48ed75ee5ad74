/-
  Part IdealAX.
-/
import Derived.KernelRfl
import GoSem.Step
import Derived.Below
import Derived.Laws.IdiomCopy
import Derived.Laws.Cells
import Derived.Laws.Entries
set_option linter.all false
abbrev aD:=@Option.some.injEq
abbrev aR:=@decide_eq_false
abbrev aZ:=@List.mem_of_getElem?
abbrev bq:=@List.getElem?_eq_some_iff
abbrev bM:=@List.mem_singleton
abbrev bP:=@List.getElem?_eq_getElem
abbrev bR:=@Nat.zero_le
abbrev bT:=@Nat.le_refl
abbrev bU:=@List.take_length
abbrev bY:=@List.length_map
abbrev cB:=@List.mem_cons_self
abbrev dm:=@List.getElem?_map
abbrev cO:=@List.mem_cons_of_mem
abbrev di:=@Prod.mk.injEq
abbrev dx:=@List.mem_cons
abbrev dG:=@Go.Sem.run_bind
abbrev dJ:=@Go.Result.andThen_ok
abbrev dK:=@decide_eq_true
abbrev dX:=@List.mem_append
abbrev dY:=@List.nil_append
abbrev eT:=@List.mem_map
abbrev fe:=@Bool.and_eq_true
abbrev fo:=@Nat.zero_add
abbrev fw:=@Go.Sem.run_pure
abbrev fO:=@List.getElem?_eq_none
abbrev fP:=@List.map_append
abbrev fV:=@List.cons_append
abbrev gL:=@List.map_cons
abbrev gT:=@List.length_take
abbrev gU:=@List.append_nil
abbrev ic:=@Decidable.not_not
abbrev iH:=@List.length_append
abbrev iI:=@of_decide_eq_true
abbrev iY:=@List.ext_getElem?
abbrev iT:=@List.nodup_append
abbrev iX:=@Option.bind_some
abbrev jS:=@List.getElem?_of_mem
abbrev je:=@List.mem_append_left
abbrev jy:=@List.length_eq_zero_iff
abbrev jA:=@Int.eq_ofNat_of_zero_le
abbrev kJ:=@Int.toNat_natCast
abbrev jT:=@Option.map_some
abbrev kg:=@Option.map_eq_some_iff
abbrev lK:=@List.all_eq_true
abbrev lM:=@decide_eq_true_iff
abbrev mK:=@Nat.le_of_ble_eq_true
abbrev mM:=@Nat.lt_of_lt_of_le
abbrev nA:=@List.mem_append_right
abbrev nC:=@of_decide_eq_false
abbrev nO:=@decide_eq_decide
abbrev nP:=@List.take_add_one
abbrev ol:=@List.mem_range
abbrev oO:=@List.getElem?_drop
abbrev oP:=@List.length_cons
abbrev oQ:=@List.getElem?_set
abbrev oU:=@List.drop_eq_getElem_cons
abbrev pQ:=@Nat.le_trans
abbrev pR:=@List.getElem?_append_right
abbrev pU:=@List.getElem?_range
abbrev pV:=@List.length_set
abbrev qo:=@Nat.eq_of_beq_eq_true
abbrev qp:=@List.getElem?_append_left
abbrev qw:=@Nat.add_assoc
abbrev qx:=@List.pairwise_cons
abbrev qZ:=@List.getElem?_cons_succ
abbrev rq:=@Nat.lt_or_ge
abbrev ru:=@Nat.add_mul
abbrev sN:=@List.map_congr_left
abbrev ry:=@List.take_of_length_le
abbrev sJ:=@Nat.blt_eq
abbrev sK:=@List.getElem?_take
abbrev sM:=@Array.getD_eq_getD_getElem?
abbrev sO:=@List.length_drop
abbrev sP:=@List.mem_filter
abbrev sQ:=@List.map_singleton
abbrev uo:=@Array.getElem?_eq_none
abbrev vF:=@List.getElem_mem
abbrev uq:=@List.take_append_drop
abbrev uu:=@List.length_range
abbrev uw:=@Nat.mul_one
abbrev uy:=@List.mem_iff_getElem?
abbrev uz:=@Int.tdiv_eq_ediv_of_nonneg
abbrev vG:=@Bool.or_eq_true
abbrev vH:=@Nat.ble_eq
abbrev vJ:=@Bool.false_eq_true
abbrev vK:=@Nat.sub_self
abbrev vL:=@List.drop_eq_nil_of_le
abbrev vM:=@Int.toNat_of_nonneg
abbrev wN:=@Nat.lt_succ_self
abbrev wO:=@List.foldl_cons
abbrev wP:=@decide_eq_true_eq
abbrev wQ:=@Option.getD_some
abbrev wR:=@List.map_map
abbrev wS:=@List.pairwise_map
abbrev wT:=@List.pairwise_iff_getElem
abbrev yB:=@Array.mem_append
abbrev yC:=@and_true
abbrev yD:=@List.nodup_cons
abbrev yE:=@List.nodup_nil
abbrev yF:=@List.dropLast_concat_getLast
abbrev zM:=@Nat.add_zero
abbrev zN:=@Array.getElem?_toList
abbrev zO:=@Nat.mod_lt
abbrev zP:=@Bool.eq_iff_iff
abbrev zQ:=@List.getElem?_cons_zero
abbrev zR:=@List.cons.injEq
abbrev zS:=@List.length_singleton
abbrev zT:=@List.mergeSort_perm
abbrev zU:=@List.mk_mem_zipIdx_iff_getElem?
abbrev BI:=@Nat.le_succ
abbrev BJ:=@List.mem_of_mem_take
abbrev BK:=@List.length_pos_iff
abbrev BL:=@Nat.one_mul
abbrev Dw:=@Nat.ne_of_beq_eq_false
abbrev Dx:=@List.length_nil
abbrev Dy:=@Bool.not_eq_true'
abbrev Dz:=@Nat.sub_zero
abbrev DC:=@List.drop_zero
abbrev DD:=@List.map_set
abbrev DF:=@Nat.min_eq_left
abbrev DI:=@List.foldl_append
abbrev DJ:=@Int.tmod_eq_emod_of_nonneg
abbrev DK:=@List.take_zero
abbrev F9:=@Nat.ble_eq_true_of_le
abbrev Ga:=@Array.getElem?_push
abbrev Gb:=@Array.getElem?_setIfInBounds_ne
abbrev Gc:=@Nat.eq_zero_or_pos
abbrev Gd:=@List.filter_cons
abbrev Gf:=@List.contains_iff_mem
abbrev Gg:=@List.replicate_succ
abbrev Gh:=@Nat.zero_mul
abbrev Gi:=@List.filter_append
abbrev Gj:=@List.flatMap_cons
abbrev Gl:=@List.set_append_right
abbrev Gm:=@List.range_succ
abbrev Gn:=@List.length_replicate
abbrev Kh:=@Array.toList_map
abbrev Ki:=@List.getElem?_toArray
abbrev Kj:=@List.not_mem_nil
abbrev Kk:=@List.mem_filterMap
abbrev Kl:=@Bool.and_self
abbrev Km:=@Nat.lt_succ_of_lt
abbrev Kn:=@List.mem_map_of_mem
abbrev Ko:=@Int.ediv_nonneg
abbrev Kq:=@List.pairwise_append
abbrev PE:=@Go.World.keptBut_setCells
abbrev PG:=@Go.World.cell?_setCells_in
abbrev PI:=@Go.World.cell?_setCells_out
abbrev PK:=@Array.foldl_toList
abbrev PL:=@List.extract_eq_take_drop
abbrev PM:=@List.flatten_cons
abbrev PN:=@List.getElem?_zip_eq_some
abbrev PO:=@List.getElem?_replicate
abbrev PP:=@List.zipIdx_append
abbrev PR:=@List.length_filter_le
abbrev PS:=@Int.emod_add_mul_ediv
abbrev PT:=@Nat.lt_trichotomy
abbrev PU:=@List.length_erase_of_mem
abbrev PV:=@List.length_pos_of_mem
abbrev PW:=@List.mem_erase_of_ne
abbrev PX:=@List.take_sublist
abbrev PY:=@List.reverse_reverse
abbrev XF:=@Array.eq_empty_of_size_eq_zero
abbrev XG:=@Array.getElem?_setIfInBounds
abbrev XH:=@Array.getElem?_eq_some_iff
abbrev XI:=@List.getElem?_eq_none_iff
abbrev XJ:=@Nat.add_sub_cancel_left
abbrev XK:=@Array.getElem?_eq_getElem
abbrev XL:=@List.pairwise_mergeSort
namespace Go.Ideal
inductive T(α:Type):Type where
 |leaf
 |node (v:Option α) (l r:T α)
noncomputable def T.get{α:Type}(t:T α):Nat->Option α:=
 T.rec (motive:=λ_=>Nat->Option α) (λ_=>none)
  (λv _ _ gl gr n=>Nat.rec (motive:=λ_=>Option α) v
    (λm _=>Bool.rec (motive:=λ_=>Option α) (gr (Nat.div m 2)) (gl (Nat.div m 2)) (Nat.beq (Nat.mod m 2) 0)) n) t
noncomputable def T.one{α:Type}(f:Nat):Nat->Option α->T α:=
 Nat.rec (motive:=λ_=>Nat->Option α->T α) (λ_ _=>.leaf)
  (λ_ ih n x=>Nat.rec (motive:=λ_=>T α) (.node x .leaf .leaf)
    (λm _=>Bool.rec (motive:=λ_=>T α) (.node none .leaf (ih (Nat.div m 2) x)) (.node none (ih (Nat.div m 2) x) .leaf) (Nat.beq (Nat.mod m 2) 0)) n) f
noncomputable def T.set{α:Type}(t:T α):Nat->Option α->T α:=
 T.rec (motive:=λ_=>Nat->Option α->T α) (λn x=>T.one (n+1) n x)
  (λv l r sl sr n x=>Nat.rec (motive:=λ_=>T α) (.node x l r)
    (λm _=>Bool.rec (motive:=λ_=>T α) (.node v l (sr (Nat.div m 2) x)) (.node v (sl (Nat.div m 2) x) r) (Nat.beq (Nat.mod m 2) 0)) n) t
noncomputable def lN{α β:Type}(f:α->β)(l:List α):List β:=
 List.rec (motive:=λ_=>List β) [] (λx _ ih=>f x::ih) l
noncomputable def jU{α:Type}(l:List α):Nat->Option α:=
 List.rec (motive:=λ_=>Nat->Option α) (λ_=>none) (λx _ ih n=>Nat.rec (motive:=λ_=>Option α) (some x) (λm _=>ih m) n) l
noncomputable def jH{α:Type}(l:List α):Nat->List α:=
 List.rec (motive:=λ_=>Nat->List α) (λ_=>[]) (λx l ih n=>Nat.rec (motive:=λ_=>List α) (x::l) (λm _=>ih m) n) l
noncomputable def jf{α:Type}(l:List α):Nat->Option (List α):=
 List.rec (motive:=λ_=>Nat->Option (List α)) (λn=>Nat.rec (motive:=λ_=>Option (List α)) (some []) (λ_ _=>none) n)
  (λx _ ih n=>Nat.rec (motive:=λ_=>Option (List α)) (some []) (λm _=>Option.rec (motive:=λ_=>Option (List α)) none (λr=>some (x::r)) (ih m)) n) l
noncomputable def jV{α:Type}(l:List α):Nat->List α->Option (List α):=
 List.rec (motive:=λ_=>Nat->List α->Option (List α))
  (λo xs=>Nat.rec (motive:=λ_=>Option (List α)) (List.rec (motive:=λ_=>Option (List α)) (some []) (λ_ _ _=>none) xs) (λ_ _=>none) o)
  (λc l ih o xs=>Nat.rec (motive:=λ_=>Option (List α))
    (List.rec (motive:=λ_=>Option (List α)) (some (c::l)) (λx xs _=>Option.rec (motive:=λ_=>Option (List α)) none (λr=>some (x::r)) (ih 0 xs)) xs)
    (λo _=>Option.rec (motive:=λ_=>Option (List α)) none (λr=>some (c::r)) (ih o xs)) o) l
noncomputable def Gp{α:Type}(p:α->Bool)(l:List α):Bool:=
 List.rec (motive:=λ_=>Bool) true (λx _ ih=>Bool.rec (motive:=λ_=>Bool) false ih (p x)) l
noncomputable def iL{α:Type}(l:List α):Nat:=
 List.rec (motive:=λ_=>Nat) 0 (λ_ _ ih=>Nat.succ ih) l
noncomputable def ko{α:Type}(l r:List α):List α:=
 List.rec (motive:=λ_=>List α) r (λx _ ih=>x::ih) l
noncomputable def zeros(z:List Value)(n:Nat):List Value:=
 Nat.rec (motive:=λ_=>List Value) [] (λ_ ih=>ko z ih) n
abbrev dU:Value:=.tuple #[]
abbrev sS:Value:=.chan (some 0)
def cellV:Value->Bool
 | .agg _| .tuple _| .chan _=>false
 |_=>true
mutual
def cK:Value->Bool
 | .bool _| .int _ _| .float _ _| .complex _ _ _| .string _| .nilFunc| .nilIface=>true
 | .pointer a=>a.isNone
 | .slice a n c=>a.isNone&&n==0&&c==0
 | .map r=>r.isNone
 | .chan _=>false
 | .func _ _ _=>false
 | .iface _ v=>cK v&&cellV v
 | .agg ⟨cs⟩=>fZ cs
 | .tuple _=>false
def fZ:List Value->Bool
 |[]=>true
 |v::l=>cK v&&cellV v&&fZ l
end
def eD{α:Type}(P:Program):Sem α->Option α
 | .pure a=>some a
 | .program k=>eD P (k P)
 | .mark _ k=>eD P k
 |_=>none
def kK(P:Program)(s:Sem Value):Option Value:=
 match eD P s with
 |some v=>cond (cK v) (some v) none
 |none=>none
def cellsOf(v:Value):Option (List Value):=
 match v with
 | .agg ⟨cs⟩=>some cs
 | .tuple _| .chan _=>none
 |v=>some [v]
inductive Out where
 |normal
 |exit (id:Nat)
 |ret
 |panic (chain:List PanicEntry)
inductive aF where
 |mv (x:Operand)
 |nD (x:Operand)
 |pick (c a b:Operand)
 |new (cs:List Value) (t:TypeId)
 |box (x:Operand) (t:TypeId)
 |build (zero:List Value) (parts:List (Nat×Nat×Operand))
 |wU (t:TypeId) (len:Nat) (zero:List Value) (parts:List (Nat×Nat×Operand))
 |gQ (a:Operand)
 |pW (n:Nat) (a:Operand)
 |store (n:Nat) (a x:Operand)
 |lm (x:Operand)
 |bin (op:BinOp) (t:TypeId) (x y:Operand)
 |un (op:UnOp) (x:Operand)
 |conv (s d:TypeId) (x:Operand)
 |PZ (e:TypeId) (x:Operand)
 |Gq (x:Operand)
 |iface (t:TypeId) (x:Operand)
 |BM (fn:Fn) (first captured:List Operand)
 |vN
 |zV (e:TypeId) (size bytes:Nat) (zero:List Value) (l c:Operand)
 |P5 (t:TypeId) (x:Operand) (lo hi mx:Option Operand)
 |Kt (n size:Nat) (x:Operand) (lo hi mx:Option Operand)
 |P6 (size:Nat) (x:Operand) (lo hi mx:Option Operand)
 |fQ (off:Nat) (x:Operand)
 |field (t:TypeId) (off n:Nat) (agg:Bool) (x:Operand)
 |Ku (n size:Nat) (x i:Operand)
 |nQ (size:Nat) (x i:Operand)
 |P7 (x i:Operand)
 |P8 (n size:Nat) (agg:Bool) (x i:Operand)
 |lookup (kt:TypeId) (zero:Value) (m k:Operand) (ok:Bool)
 |Gr (kt:TypeId) (m k v:Operand)
 |P9 (kt:TypeId) (zero:Value) (m k:Operand)
 |Qa (m s v:Operand)
 |Kv (x:Operand)
 |rangeMap (x:Operand)
 |Qb (x:Operand)
 |wV (x:Operand)
 |entry (x:Operand)
 |Gs (t:TypeId) (zero:Value) (ok:Bool) (x:Operand)
 |extract (x:Operand) (i:Nat)
 |append (e:TypeId) (size bytes:Nat) (s x:Operand)
 |Gt (e:TypeId) (size bytes:Nat) (zero:List Value) (s x:Operand)
 |copy (size:Nat) (d x:Operand)
 |clear (zero:List Value) (x:Operand)
 |Qc (x:Operand)
 |Gu (n:Nat)
 |wW (x:Operand)
 |Gv (x:Operand)
 |Qd (x:Operand)
 |zW (max:Bool) (args:List Operand)
 |call (f:Operand) (args:List Operand)
 |invoke (x:Operand) (name:String) (args:List Operand)
 |recover
 |panic (x:Operand)
 |dcall (f:Operand) (args:List Operand)
structure iq where
 dst:Option Tmp
 /-- the operation runs where this temporary holds this Bool -/
 guard:Option (Tmp×Bool)
 op:aF
structure bV where
 s:iq
 re:List iq
inductive dI where
 |skip
 /-- 'ds': where the region's operations put what they yield -/
 |ops (ds:List Tmp) (l:List bV)
 |seq (a b:dI)
 |cond (c:Operand) (a b:dI)
 |block (id:Nat) (a:dI)
 |loop (a:dI)
 |rangeFunc (f:Operand) (params:List Tmp) (assign body:dI)
 |scope (a:dI)
 |exit (id:Nat)
 |ret
 |fail
structure oV where
 state:LoopState
 pending:Option Out
 tmps:T Value
 n:Nat
 params:List Tmp
 assign:dI
 body:dI
 defers:Nat
inductive dN where
 |cells (cs:List Value)
 /-- cells that are read alone -/
 |jl (cs:List Value)
 |map (es:List MapEntry) (clock:Nat)
 |zX (s:ByteArray) (pos:Nat)
 |mapIter (m:Option Nat) (since:Nat) (seen:List Nat) (stepped:Nat)
 |loop (l:oV)
 |jb (open_:Bool)
structure IH where
 t:T dN
 next:Nat
 low:Nat
noncomputable def IH.get(h:IH)(i:Nat):Option dN:=h.t.get i
noncomputable def IH.set(h:IH)(i:Nat)(o:dN):IH:={h with t:=h.t.set i (some o),low:=cond (Nat.ble h.low i) h.low i}
noncomputable def IH.kill(h:IH)(i:Nat):IH:={h with t:=h.t.set i none,low:=cond (Nat.ble h.low i) h.low i}
noncomputable def IH.new(h:IH)(o:dN):IH:={h with t:=h.t.set h.next (some o),next:=Nat.succ h.next}
structure aV where
 n:Nat
 tmps:T Value
 defers:List Deferred
 pm:Option FrameMode
 ro:Option Nat
noncomputable def dL(t:T Value)(i:Nat):Value:=Option.rec (motive:=λ_=>Value) dU (λv=>v) (t.get i)
noncomputable def aV.eval(a:aV)(x:Operand):Value:=
 match x with
 | .tmp t=>dL a.tmps t
 | .const v=>v
 | .global g=>.pointer (some ⟨g,0,none⟩)
 | .func f=>.func (.func f) #[] #[]
noncomputable def aV.set(a:aV)(d:Nat)(v:Value):aV:=cond (Nat.blt d a.n) {a with tmps:=a.tmps.set d (some v)} a
noncomputable def aV.put(a:aV)(d:Option Tmp)(v:Value):aV:=
 match d with
 |some d=>a.set d v
 |none=>a
noncomputable def aV.wants(a:aV)(g:Option (Tmp×Bool)):Option Bool:=
 match g with
 |none=>some true
 |some (t,want)=>match dL a.tmps t with
  | .bool b=>some (cond want b (!b))
  | .chan _=>some false
  |_=>none
noncomputable def IH.nR(h:IH)(i o n:Nat):Option (List Value):=
 match h.get i with
 |some (.cells cs)=>jf (jH cs o) n
 |_=>none
noncomputable def IH.iM(h:IH)(i o n:Nat):Option (List Value):=
 match h.get i with
 |some (.cells cs)=>jf (jH cs o) n
 |some (.jl cs)=>jf (jH cs o) n
 |_=>none
noncomputable def IH.om(h:IH)(i o:Nat):Option Value:=
 match h.get i with
 |some (.cells cs)=>jU cs o
 |some (.jl cs)=>jU cs o
 |_=>none
noncomputable def IH.storeAt(h:IH)(i o:Nat)(vs:List Value):Option IH:=
 match h.get i with
 |some (.cells cs)=>match jV cs o vs with
  |some cs=>some (h.set i (.cells cs))
  |none=>none
 |_=>none
def zY(i o:Nat):Option Addr:=some ⟨i,o,some 0⟩
def small:Nat:=1073741824
def upTo(m:Nat)(v:Value):Option Nat:=
 match v with
 | .int _ (.ofNat i)=>cond (Nat.ble i m) (some i) none
 |_=>none
def bounds?(len cap:Nat)(lo hi mx:Option Value):Option (Nat×Nat×Nat):=
 match (match mx with|some v=>upTo cap v|none=>some cap)with
 |none=>none
 |some m=>match (match hi,mx with|some v,_=>upTo m v|none,none=>some len|none,some _=>none)with
  |none=>none
  |some h=>match (match lo with|some v=>upTo h v|none=>some 0)with
   |none=>none
   |some l=>some (l,h,m)
noncomputable def nE(size n:Nat)(x:Value)(h:IH):Option (List Value):=
 match x with
 | .slice (some ⟨i,o,_⟩) _ _=>h.iM i o (Nat.mul n size)
 | .slice none _ _=>match n with
   |0=>some []
   |_=>none
 | .string s=>cond (Nat.beq size 1) (match jf s.data.toList n with
   |some l=>some (lN (λb=>.int .u8 b.toNat) l)
   |none=>none) none
 |_=>none
noncomputable def yG(size n:Nat)(x:Value)(h:IH):Option (List Value):=
 match n with
 |0=>match x with
  | .slice _ _ _=>some []
  |x=>nE size 0 x h
 |Nat.succ k=>nE size (Nat.succ k) x h
def oW:Value->Option Nat
 | .slice _ n _=>some n
 | .string s=>some s.size
 |_=>none
noncomputable def wX(size bytes:Nat)(s:Value)(n:Nat)(xs:List Value)(h:IH):Option (Value×IH):=
 match s with
 | .slice base len cap=>
   let need:=Nat.add len n
   cond (Nat.ble (Nat.mul need bytes) small&&Nat.ble (Nat.mul need size) small&&Nat.ble need small)
    (cond (Nat.ble need cap)
      (match base with
      |some ⟨i,o,f⟩=>match h.storeAt i (Nat.add o (Nat.mul len size)) xs with
       |some h=>some (.slice (some ⟨i,o,f⟩) need cap,h)
       |none=>none
      |none=>match n with
       |0=>some (.slice none need cap,h)
       |_=>none)
      (match nE size len s h with
      |none=>none
      |some old=>match base with
       |some ⟨i,_,some (k+1)⟩=>cond (Nat.beq (Nat.succ k) size) (some (.slice (some ⟨h.next,0,some size⟩) need need,(h.kill i).new (.cells (ko old xs)))) none
       |_=>some (.slice (some ⟨h.next,0,some size⟩) need need,h.new (.cells (ko old xs))))) none
 |_=>none
noncomputable def Qe(size:Nat)(d x:Value)(h:IH):Option (Value×IH):=
 match d,oW x with
 | .slice base oq _,some m=>
   let n:=cond (Nat.ble m oq) m oq
   match nE size n x h with
   |none=>none
   |some cs=>match base with
    |some ⟨i,o,_⟩=>match h.storeAt i o cs with
     |some h=>some (goInt n,h)
     |none=>none
    |none=>match n with
     |0=>some (goInt 0,h)
     |_=>none
 |_,_=>none
def sU(P:Program)(kt:TypeId)(k:Value)(es:List MapEntry):Option (Option (Nat×Value)):=
 eD P (Instr.findKey kt k es)
def rz(P:Program)(kt:TypeId)(k:Value):Bool:=
 cK k&&match eD P (Instr.checkKey true 10000 kt k),eD P (Instr.checkKey false 10000 kt k)with
  |some _,some _=>true
  |_,_=>false
noncomputable def entriesOf(m:Value)(h:IH):Option (List MapEntry):=
 match m with
 | .map none=>some []
 | .map (some i)=>match h.get i with
   |some (.map es _)=>some es
   |_=>none
 |_=>none
noncomputable def zZ(P:Program)(kt:TypeId)(zero m k:Value)(ok:Bool)(h:IH):Option Value:=
 match entriesOf m h with
 |none=>none
 |some es=>cond (rz P kt k) (match sU P kt k es with
  |none=>none
  |some (some (_,v))=>some (cond ok (.tuple #[v,.bool true]) v)
  |some none=>some (cond ok (.tuple #[zero,.bool false]) zero)) none
noncomputable def setAt{α:Type}(f:α->α)(l:List α):Nat->List α:=
 List.rec (motive:=λ_=>Nat->List α) (λ_=>[]) (λx l ih n=>Nat.rec (motive:=λ_=>List α) (f x::l) (λm _=>x::ih m) n) l
noncomputable def DL(P:Program)(kt:TypeId)(m k v:Value)(h:IH):Option IH:=
 match m with
 | .map (some i)=>match h.get i with
   |some (.map es clock)=>cond (rz P kt k) (match sU P kt k es with
    |none=>none
    |some (some (j,_))=>match jU es j with
     |some e=>cond (Instr.sameBits 10000 e.key k) (some (h.set i (.map (setAt (λe=>{e with key:=k,val:=v}) es j) clock))) none
     |none=>none
    |some none=>some (h.set i (.map (ko es [{key:=k,val:=v,born:=clock}]) (Nat.succ clock)))) none
   |_=>none
 |_=>none
noncomputable def XM(P:Program)(kt:TypeId)(zero m k:Value)(h:IH):Option (Value×IH):=
 match m with
 | .map (some i)=>match h.get i with
   |some (.map es clock)=>cond (rz P kt k) (match sU P kt k es with
    |none=>none
    |some (some (j,v))=>match jU es j with
     |some e=>cond (Instr.sameBits 10000 e.key k) (some (.tuple #[v,goInt e.born],h.set i (.map (setAt (λe=>{e with key:=k}) es j) clock))) none
     |none=>none
    |some none=>some (.tuple #[zero,goInt clock],h.set i (.map (ko es [{key:=k,val:=zero,born:=clock}]) (Nat.succ clock)))) none
   |_=>none
 |_=>none
noncomputable def XN(m s v:Value)(h:IH):Option IH:=
 match m,s with
 | .map (some i),.int _ n=>match h.get i with
   |some (.map es clock)=>match es.findIdx? (λe=>(e.born:Int)==n)with
    |some j=>some (h.set i (.map (setAt (λe=>{e with val:=v}) es j) clock))
    |none=>none
   |_=>none
 |_,_=>none
def sV(P:Program)(t:TypeId)(x y:Value):Option Bool:=
 match P.underlying t,x,y with
 |some (.pointer _),.pointer (some _),.pointer none=>some false
 |some (.pointer _),.pointer none,.pointer (some _)=>some false
 |some (.slice _),.slice (some _) _ _,.slice none _ _=>some false
 |some (.slice _),.slice none _ _,.slice (some _) _ _=>some false
 |some (.slice _),.slice none _ _,.slice none _ _=>some true
 |some (.map _ _),.map (some _),.map none=>some false
 |some (.map _ _),.map none,.map (some _)=>some false
 |some (.func _ _ _),.func _ _ _,.nilFunc=>some false
 |some (.func _ _ _),.nilFunc,.func _ _ _=>some false
 |some (.interface _),.iface _ _,.nilIface=>some false
 |some (.interface _),.nilIface,.iface _ _=>some false
 |_,_,_=>none
def Kw:Nat:=9223372036854775807
def DN(k:IntKind)(n:Int):Int:=
 match k,n with
 | .i64,.ofNat m=>cond (Nat.ble m Kw) (.ofNat m) (IntKind.i64.wrap (.ofNat m))
 | .i64,.negSucc m=>cond (Nat.ble m 1000000) (.negSucc m) (IntKind.i64.wrap (.negSucc m))
 |k,n=>k.wrap n
def Qf(a b:Int):Int:=
 match a,b with
 | .ofNat x,.ofNat y=>.ofNat (Nat.add x y)
 |a,b=>a+b
def Ky(a b:Int):Int:=
 match a,b with
 | .ofNat x,.ofNat y=>cond (Nat.ble y x) (.ofNat (Nat.sub x y)) (.negSucc (Nat.pred (Nat.sub y x)))
 |a,b=>a - b
def leZ(a b:Int):Bool:=
 match a,b with
 | .ofNat x,.ofNat y=>Nat.ble x y
 | .negSucc _,.ofNat _=>true
 | .ofNat _,.negSucc _=>false
 | .negSucc x,.negSucc y=>Nat.ble y x
def BN(a b:Int):Bool:=
 match a,b with
 | .ofNat x,.ofNat y=>Nat.beq x y
 | .negSucc x,.negSucc y=>Nat.beq x y
 |_,_=>false
def uA(j k:IntKind):Bool:=
 match j,k with
 | .i64,.i64=>true
 |j,k=>j==k
def oZ(op:BinOp)(k:IntKind)(a b:Int):Option Value:=
 match op with
 | .add=>some (.int k (DN k (Qf a b)))
 | .sub=>some (.int k (DN k (Ky a b)))
 | .eql=>some (.bool (BN a b))
 | .neq=>some (.bool (!BN a b))
 | .lss=>some (.bool (!leZ b a))
 | .leq=>some (.bool (leZ a b))
 | .gtr=>some (.bool (!leZ a b))
 | .geq=>some (.bool (leZ b a))
 |_=>none
def mg(P:Program)(op:BinOp)(t:TypeId)(x y:Operand)(a b:Value):Option Value:=
 match (match a,b with
  | .int j m,.int k n=>cond (uA j k) (oZ op j m n) none
  |_,_=>none)with
 |some v=>some v
 |none=>cond (cK a&&cK b) (kK P (do eqGuard op t x y a b;binOp op t a b))
  (match op with
  | .eql=>(match sV P t a b with|some b=>some (.bool b)|none=>none)
  | .neq=>(match sV P t a b with|some b=>some (.bool !b)|none=>none)
  |_=>none)
noncomputable def Gw(l:List Value):Option (List UInt8):=
 List.rec (motive:=λ_=>Option (List UInt8)) (some []) (λv _ ih=>match v,ih with
  | .int .u8 k,some r=>some (UInt8.ofNat k.toNat::r)
  |_,_=>none) l
noncomputable def rA(ρ:Operand->Value)(zero:List Value)(parts:List (Nat×Nat×Operand)):Option (List Value):=
 List.rec (motive:=λ_=>List Value->Option (List Value)) (λcs=>some cs)
  (λp _ ih cs=>match p with
    |(off,size,x)=>match cellsOf (ρ x)with
     |none=>none
     |some vs=>cond (Nat.beq (iL vs) size) (match jV cs off vs with
      |some cs=>ih cs
      |none=>none) none) parts zero
noncomputable def jm(ρ:Operand->Value)(x:Option Operand):Option Value:=
 match x with
 |some x=>some (ρ x)
 |none=>none
noncomputable def aF.alloc(c:aF)(ρ:Operand->Value):Option ((Nat->Value)×dN):=
 match c with
 | .new cs _=>some (λi=>.pointer (some ⟨i,0,none⟩),.cells cs)
 | .box x _=>match cellsOf (ρ x)with
   |some cs=>some (λi=>.pointer (some ⟨i,0,none⟩),.cells cs)
   |none=>none
 | .wU _ len zero parts=>match rA ρ zero parts with
   |some cs=>some (λi=>.slice (zY i 0) len len,.cells cs)
   |none=>none
 | .vN=>some (λi=>.map (some i),.map [] 0)
 | .zV _ size bytes zero l c=>match ρ l,ρ c with
   | .int .i64 (.ofNat l),.int .i64 (.ofNat c)=>cond (Nat.ble l c&&Nat.ble (Nat.mul c bytes) small&&Nat.ble (Nat.mul c size) small&&Nat.ble c small)
      (some (λi=>.slice (zY i 0) l c,.cells (zeros zero c))) none
   |_,_=>none
 |_=>none
noncomputable def rC(x:Option ((Nat->Value)×dN))(h:IH):Option (Value×IH):=
 match x with
 |some (f,o)=>some (f h.next,h.new o)
 |none=>none
noncomputable def aF.run(P:Program)(c:aF)(ρ:Operand->Value)(h:IH):Option (Value×IH):=
 match c with
 | .mv x=>some (ρ x,h)
 | .nD x=>some (ρ x,h)
 | .pick c a b=>match ρ c with
   | .bool t=>some (cond t (ρ a) (ρ b),h)
   |_=>none
 | .new cs t=>rC ((aF.new cs t).alloc ρ) h
 | .box x t=>rC ((aF.box x t).alloc ρ) h
 | .build zero parts=>match rA ρ zero parts with
   |some cs=>some (.agg ⟨cs⟩,h)
   |none=>none
 | .wU t len zero parts=>rC ((aF.wU t len zero parts).alloc ρ) h
 | .gQ a=>match ρ a with
   | .pointer (some ⟨i,o,none⟩)=>match h.om i o with
     |some v=>some (v,h)
     |none=>none
   |_=>none
 | .pW n a=>match ρ a with
   | .pointer (some ⟨i,o,none⟩)=>match h.iM i o n with
     |some cs=>some (.agg ⟨cs⟩,h)
     |none=>none
   |_=>none
 | .store n a x=>match ρ a,cellsOf (ρ x)with
   | .pointer (some ⟨i,o,none⟩),some vs=>cond (Nat.beq (iL vs) n) (match h.storeAt i o vs with
     |some h=>some (dU,h)
     |none=>none) none
   |_,_=>none
 | .lm x=>match ρ x with
   | .pointer (some a)=>some (.pointer (some a),h)
   | .iface t v=>some (.iface t v,h)
   | .func (.func f) first captured=>some (.func (.func f) first captured,h)
   | .func (.methodOf t n) first captured=>some (.func (.methodOf t n) first captured,h)
   | .func (.yield l) first captured=>some (.func (.yield l) first captured,h)
   |_=>none
 | .bin op t x y=>match mg P op t x y (ρ x) (ρ y)with
   |some v=>some (v,h)
   |none=>none
 | .un op x=>cond (cK (ρ x)) (match kK P (Op.unary op (ρ x))with
   |some v=>some (v,h)
   |none=>none) none
 | .conv s d x=>cond (cK (ρ x)) (match kK P (convert s d (ρ x))with
   |some v=>some (v,h)
   |none=>none) none
 | .PZ _ x=>match ρ x with
   | .string b=>some (.slice (some ⟨h.next,0,some 1⟩) b.data.toList.length b.data.toList.length,h.new (.cells (lN (λc=>.int .u8 c.toNat) b.data.toList)))
   |_=>none
 | .Gq x=>match ρ x with
   | .slice none _ _=>some (.string .empty,h)
   | .slice (some ⟨i,o,_⟩) n _=>match h.iM i o n with
     |some cs=>match Gw cs with
      |some bs=>some (.string ⟨⟨bs⟩⟩,h)
      |none=>none
     |none=>none
   |_=>none
 | .iface t x=>some (.iface t (ρ x),h)
 | .BM fn first captured=>some (.func fn ⟨lN ρ first⟩ ⟨lN ρ captured⟩,h)
 | .vN=>rC (aF.vN.alloc ρ) h
 | .zV e size bytes zero l c=>rC ((aF.zV e size bytes zero l c).alloc ρ) h
 | .P5 t x lo hi mx=>match ρ x with
   | .string s=>match bounds? s.size s.size (jm ρ lo) (jm ρ hi) (jm ρ mx)with
     |some _=>match kK P (Instr.slice t (.string s) (jm ρ lo) (jm ρ hi) (jm ρ mx))with
      |some v=>some (v,h)
      |none=>none
     |none=>none
   |_=>none
 | .Kt n size x lo hi mx=>match ρ x with
   | .pointer (some ⟨i,o,none⟩)=>match bounds? n n (jm ρ lo) (jm ρ hi) (jm ρ mx)with
     |some (l,hh,m)=>some (.slice (zY i (Nat.add o (Nat.mul l size))) (Nat.sub hh l) (Nat.sub m l),h)
     |none=>none
   |_=>none
 | .P6 size x lo hi mx=>match ρ x with
   | .slice a len cap=>match bounds? len cap (jm ρ lo) (jm ρ hi) (jm ρ mx)with
     |some (l,hh,m)=>match a with
      |none=>some (.slice none (Nat.sub hh l) (Nat.sub m l),h)
      |some ⟨i,o,some 0⟩=>some (.slice (zY i (Nat.add o (Nat.mul l size))) (Nat.sub hh l) (Nat.sub m l),h)
      |some ⟨i,o,some (k+1)⟩=>cond (Nat.beq (Nat.succ k) size) (some (.slice (some ⟨i,Nat.add o (Nat.mul l size),match mx with|some _=>some 0|none=>some (Nat.succ k)⟩) (Nat.sub hh l) (Nat.sub m l),h)) none
      |some ⟨_,_,none⟩=>none
     |none=>none
   |_=>none
 | .fQ off x=>match ρ x with
   | .pointer (some ⟨i,o,none⟩)=>some (.pointer (some ⟨i,Nat.add o off,none⟩),h)
   |_=>none
 | .field _ off n agg x=>match ρ x with
   | .agg ⟨cs⟩=>match agg with
     |true=>match jf (jH cs off) n with
      |some l=>some (.agg ⟨l⟩,h)
      |none=>none
     |false=>match jU cs off with
      |some v=>some (v,h)
      |none=>none
   |_=>none
 | .Ku n size x ix=>match ρ x,ρ ix with
   | .pointer (some ⟨b,o,none⟩),.int _ (.ofNat i)=>cond (Nat.blt i n) (some (.pointer (some ⟨b,Nat.add o (Nat.mul i size),none⟩),h)) none
   |_,_=>none
 | .nQ size x ix=>match ρ x,ρ ix with
   | .slice (some ⟨b,o,_⟩) n _,.int _ (.ofNat i)=>cond (Nat.blt i n) (some (.pointer (some ⟨b,Nat.add o (Nat.mul i size),none⟩),h)) none
   |_,_=>none
 | .P7 x ix=>match ρ x,ρ ix with
   | .string s,.int _ (.ofNat i)=>match jU s.data.toList i with
     |some b=>some (.int .u8 b.toNat,h)
     |none=>none
   |_,_=>none
 | .P8 n size agg x ix=>match ρ x,ρ ix with
   | .agg ⟨cs⟩,.int _ (.ofNat i)=>cond (Nat.blt i n) (match agg with
     |true=>match jf (jH cs (Nat.mul i size)) size with
      |some l=>some (.agg ⟨l⟩,h)
      |none=>none
     |false=>match jU cs (Nat.mul i size)with
      |some v=>some (v,h)
      |none=>none) none
   |_,_=>none
 | .lookup kt zero m k ok=>match zZ P kt zero (ρ m) (ρ k) ok h with
   |some v=>some (v,h)
   |none=>none
 | .Gr kt m k v=>match DL P kt (ρ m) (ρ k) (ρ v) h with
   |some h=>some (dU,h)
   |none=>none
 | .P9 kt zero m k=>XM P kt zero (ρ m) (ρ k) h
 | .Qa m s v=>match XN (ρ m) (ρ s) (ρ v) h with
   |some h=>some (dU,h)
   |none=>none
 | .Kv x=>match ρ x with
   | .string s=>some (.pointer (some ⟨h.next,0,none⟩),h.new (.zX s 0))
   |_=>none
 | .rangeMap x=>match ρ x with
   | .map none=>some (.pointer (some ⟨h.next,0,none⟩),h.new (.mapIter none 0 [] 0))
   | .map (some m)=>match h.get m with
     |some (.map _ clock)=>some (.pointer (some ⟨h.next,0,none⟩),h.new (.mapIter (some m) clock [] clock))
     |_=>none
   |_=>none
 | .Qb it=>match ρ it with
   | .pointer (some ⟨r,0,none⟩)=>match h.get r with
     |some (.zX s pos)=>cond (Nat.blt pos s.size)
       (some (.tuple #[.bool true,goInt pos,.int .i32 (Utf8.decode s pos).1],h.set r (.zX s (Nat.add pos (Utf8.decode s pos).2))))
       (some (.tuple #[.bool false],h))
     |_=>none
   |_=>none
 | .entry it=>match ρ it with
   | .pointer (some ⟨r,0,none⟩)=>match h.get r with
     |some (.mapIter (some m) _ seen stepped)=>match h.get m with
      |some (.map es clock)=>match seen.getLast? with
       |some stamp=>cond (Nat.beq clock stepped) (match es.find? (λe=>Nat.beq e.born stamp)with
        |some e=>some (.tuple #[e.key,e.val],h)
        |none=>none) none
       |none=>none
      |_=>none
     |_=>none
   |_=>none
 | .Gs t zero ok x=>match ρ x with
   | .nilIface=>cond ok (some (.tuple #[zero,.bool false],h)) none
   | .iface u v=>cond (Nat.beq u t) (some (cond ok (.tuple #[v,.bool true]) v,h)) (cond ok (some (.tuple #[zero,.bool false],h)) none)
   |_=>none
 | .extract x i=>match ρ x with
   | .tuple ⟨vs⟩=>match jU vs i with
     |some v=>some (v,h)
     |none=>none
   |_=>none
 | .append _ size bytes s x=>match oW (ρ x)with
   |some n=>match yG size n (ρ x) h with
    |some xs=>wX size bytes (ρ s) n xs h
    |none=>none
   |none=>none
 | .Gt _ size bytes zero s x=>match ρ s,ρ x with
   | .slice none 0 0,.int .i64 (.ofNat (n+1))=>cond (Nat.ble (Nat.mul (n+1) bytes) small&&Nat.ble (Nat.mul (n+1) size) small&&Nat.ble (n+1) small) (some (.slice (some ⟨h.next,0,some size⟩) (n+1) (n+1),h.new (.cells (zeros zero (n+1))))) none
   |_,_=>none
 | .copy size d x=>Qe size (ρ d) (ρ x) h
 | .clear zero x=>match ρ x with
   | .slice (some ⟨i,o,some _⟩) (n+1) _=>match h.storeAt i o (zeros zero (n+1))with
     |some h'=>some (.tuple #[],h')
     |none=>none
   | .slice _ 0 _=>some (.tuple #[],h)
   |_=>none
 | .Qc x=>match ρ x with
   | .string s=>some (goInt s.size,h)
   |_=>none
 | .Gu n=>some (goInt n,h)
 | .wW x=>match ρ x with
   | .slice _ n _=>some (goInt n,h)
   |_=>none
 | .Gv x=>match entriesOf (ρ x) h with
   |some es=>some (goInt (iL es),h)
   |none=>none
 | .Qd x=>match ρ x with
   | .slice none _ c=>some (goInt c,h)
   | .slice (some ⟨_,_,some 0⟩) _ c=>some (goInt c,h)
   |_=>none
 | .zW max args=>match lN ρ args with
   |[.int j a,.int k b]=>cond (uA j k) (some (.int j (cond max (cond (leZ b a) a b) (cond (leZ a b) a b)),h)) none
   |args=>cond (fZ args) (match kK P (cond max (Builtin.max_ #[] 0 ⟨args⟩) (Builtin.min_ #[] 0 ⟨args⟩))with
    |some v=>some (v,h)
    |none=>none) none
 | .wV _| .call _ _| .invoke _ _ _| .recover| .panic _| .dcall _ _=>none
end Go.Ideal
namespace Go.Ideal
noncomputable section
def jB(P:Program)(t:TypeId):Option Nat:=(P.info? t).map (·.size)
def zeroOf(P:Program)(t:TypeId):Option Value:=
 match (P.info? t).bind (·.zero)with
 |some z=>if cK z then some z else none
 |none=>none
def jC(P:Program)(t:TypeId):Bool:=
 match P.underlying t with
 |some (.struct _)|some (.array _ _)=>true
 |_=>false
def vO(P:Program)(t:TypeId):Option (List Value):=
 match zeroOf P t,jB P t with
 |some z,some n=>if z.cells.toList.length=n/\fZ z.cells.toList then some z.cells.toList else none
 |_,_=>none
def nG(P:Program)(t:TypeId):Option Nat:=
 match jB P t with
 |some 0=>none
 |s=>s
def yH(P:Program)(fs:Array Field):List (Nat×Operand)->Option (List (Nat×Nat×Operand))
 |[]=>some []
 |(i,x)::l=>match fs[i]?,yH P fs l with
  |some f,some r=>match jB P f.type with
   |some s=>some ((f.offset,s,x)::r)
   |none=>none
  |_,_=>none
def placesOf(P:Program)(fs:Array Field)(parts:List (Nat×Operand)):Option (List (Nat×Nat×Operand)):=
 if fs.toList.all (λf=>(jB P f.type).isSome)then yH P fs parts else none
def Gx:Fn->Bool
 | .yield _=>false
 | .via .. =>false
 |_=>true
def cop(P:Program)(o:Oper):Option aF:=
 match o.op with
 | .move x=>some (.mv x)
 | .assign x=>some (.nD x)
 | .pick c a b=>some (.pick c a b)
 | .alloc e=>match vO P e with
   |some cs=>some (.new cs e)
   |none=>none
 | .box e x=>some (.box x e)
 | .build t parts=>match P.underlying t,vO P t with
   |some (.struct fs),some z=>match placesOf P fs parts.toList with
    |some ps=>some (.build z ps)
    |none=>none
   |some (.array _ e),some z=>match nG P e with
    |some s=>some (.build z (parts.toList.map λ(i,x)=>(i*s,s,x)))
    |none=>none
   |_,_=>none
 | .buildSlice t len parts=>match P.underlying t with
   |some (.slice e)=>match nG P e,vO P e with
    |some s,some z=>if len*s<=2^24 then some (.wU e len (zeros z len) (parts.toList.map λ(i,x)=>(i*s,s,x)))else none
    |_,_=>none
   |_=>none
 | .load t a=>if jC P t then(jB P t).map λn=>.pW n a else match P.underlying t with
   |some _=>some (.gQ a)
   |none=>none
 | .store t a x=>(jB P t).map λn=>.store n a x
 | .nilCheck x=>some (.lm x)
 | .binOp op t x y _=>some (.bin op t x y)
 | .unOp op _ x=>some (.un op x)
 | .convert s d x=>match P.underlying s,P.underlying d with
   |some .string,some (.slice _)=>none
   |some (.slice e),some .string=>match P.underlying e with
    |some (.int .u8)=>some (.Gq x)
    |_=>none
   |some (.slice _),some (.slice _)=>none
   |some _,some _=>some (.conv s d x)
   |_,_=>none
 | .makeInterface t x=>match P.underlying t with
   |some (.interface _)=>none
   |some _=>some (.iface t x)
   |none=>none
 | .makeFunc fn first captured=>if Gx fn then some (.BM fn first.toList captured.toList)else none
 | .makeMap _ none=>some .vN
 | .makeSlice t l c=>match P.underlying t with
   |some (.slice e)=>match nG P e,vO P e with
    |some s,some z=>some (.zV e s ((P.info? e).map (·.bytes)).get! z l c)
    |_,_=>none
   |_=>none
 | .slice t x lo hi mx=>match P.underlying t with
   |some .string=>some (.P5 t x lo hi mx)
   |some (.array n e)=>(nG P e).map λs=>.Kt n s x lo hi mx
   |some (.slice e)=>(nG P e).map λs=>.P6 s x lo hi mx
   |_=>none
 | .fieldAddr s x f=>match P.underlying s with
   |some (.struct fs)=>match fs[f]? with
    |some f=>(nG P f.type).map λ_=>.fQ f.offset x
    |none=>none
   |_=>none
 | .field t x f=>match P.underlying t with
   |some (.struct fs)=>match fs[f]? with
    |some f=>match jB P f.type,P.underlying f.type with
     |some n,some _=>some (.field f.type f.offset n (jC P f.type) x)
     |_,_=>none
    |none=>none
   |_=>none
 | .indexAddr t x i=>match P.underlying t with
   |some (.array n e)=>(nG P e).map λs=>.Ku n s x i
   |some (.slice e)=>(nG P e).map λs=>.nQ s x i
   |_=>none
 | .index t x i=>match P.underlying t with
   |some (.array n e)=>match nG P e,P.underlying e with
    |some s,some _=>some (.P8 n s (jC P e) x i)
    |_,_=>none
   |some .string=>some (.P7 x i)
   |_=>none
 | .lookup t m k ok=>match P.underlying t with
   |some (.map kt et)=>(zeroOf P et).map λz=>.lookup kt z m k ok
   |_=>none
 | .mapUpdate t m k v| .insert t m k v=>match P.underlying t with
   |some (.map kt _)=>some (.Gr kt m k v)
   |_=>none
 | .range t x=>match P.underlying t with
   |some .string=>some (.Kv x)
   |some (.map _ _)=>some (.rangeMap x)
   |_=>none
 | .next it false=>some (.wV it)
 | .entry it=>some (.entry it)
 | .typeAssert x _ t ok=>match P.underlying t with
   |some (.interface _)=>none
   |some _=>(zeroOf P t).map λz=>.Gs t z ok x
   |none=>none
 | .extract t i=>some (.extract t i)
 | .panic x=>some (.panic x)
 | .defer {callee:=.value f,args,.. }=>some (.dcall f args.toList)
 | .call {callee:=.value f,args,.. }=>some (.call f args.toList)
 | .call {callee:=.invoke x name,args,.. }=>some (.invoke x name args.toList)
 | .call {callee:=.builtin b,args,argTypes}=>match b,args.toList with
   | .recover,_=>some .recover
   | .panic,[x]=>some (.panic x)
   | .append,[s,x]=>match argTypes[0]?,argTypes[1]? with
     |some st,some xt=>match P.underlying st,P.underlying xt with
      |some (.slice e),some xd=>match nG P e,(P.info? e).map (·.bytes),vO P e with
       |some s',some (b+1),some z=>match xd with
        | .int _=>some (.Gt e s' (b+1) z s x)
        |_=>some (.append e s' (b+1) s x)
       |_,_,_=>none
      |_,_=>none
     |_,_=>none
   | .clear,[x]=>match argTypes[0]? with
     |some t=>match P.underlying t with
      |some (.slice e)=>match vO P e with
       |some (z::zs)=>some (.clear (z::zs) x)
       |_=>none
      |_=>none
     |none=>none
   | .copy,[d,x]=>match argTypes[0]? with
     |some dt=>match P.underlying dt with
      |some (.slice e)=>(nG P e).map λs=>.copy s d x
      |_=>none
     |none=>none
   | .len,[x]=>match argTypes[0]? with
     |some t=>match P.underlying t with
      |some .string=>some (.Qc x)
      |some (.array n _)=>some (.Gu n)
      |some (.pointer p)=>match P.underlying p with
       |some (.array n _)=>some (.Gu n)
       |_=>none
      |some (.slice _)=>some (.wW x)
      |some (.map _ _)=>some (.Gv x)
      |_=>none
     |none=>none
   | .cap,[x]=>match argTypes[0]? with
     |some t=>match P.underlying t with
      |some (.slice _)=>some (.Qd x)
      |_=>none
     |none=>none
   | .min,args=>some (.zW false args)
   | .max,args=>some (.zW true args)
   |_,_=>none
 |_=>none
def z8(P:Program):Operand->Bool
 | .const (.tuple ⟨[]⟩)=>true
 | .const v=>cK v
 | .global g=>Nat.blt g P.globals.size
 |_=>true
def DR(P:Program)(ops:Array Oper)(o:Oper):Option iq:=
 if o.op.operands.toList.all (z8 P)then match cop P o with
 |none=>none
 |some c=>match o.guard with
  |none=>some ⟨o.dst,none,c⟩
  |some (j,want)=>match (ops[j]?).bind (·.dst)with
   |some t=>some ⟨o.dst,some (t,want),c⟩
   |none=>none
 else none
def heavy:aF->Bool
 | .nD .. | .store .. | .Gr .. | .P9 .. | .Qa .. | .Kv .. | .rangeMap .. | .Qb .. | .wV .. | .append .. | .Gt .. | .copy .. | .clear .. | .PZ ..
 | .call .. | .invoke .. | .recover| .panic .. | .dcall .. =>true
 |_=>false
def BP:aF->Bool
 | .gQ .. | .pW .. | .lookup .. | .entry .. | .Gq .. | .Gv .. =>true
 |_=>false
def Aa(ops:Array Oper)(done:List Nat)(i:Nat):Bool:=
 !done.contains i&&match ops[i]? with
  |some o=>o.after.toList.all λe=>!Region.binds .any e||done.contains e.on
  |none=>false
def looks(ops:Array Oper)(o:Oper):List Tmp:=
 (o.op.operands.toList.filterMap λ| .tmp t=>some t|_=>none)++
 (match o.guard with
  |some (g,_)=>((ops[g]?).bind (·.dst)).toList
  |none=>[])
def Kz(ops:Array Oper)(hv:Nat->Bool):Nat->List Nat->List Nat
 |0,done=>done.reverse
 |f+1,done=>
  match (List.range ops.size).find? λi=>!hv i&&Aa ops done i with
  |some i=>Kz ops hv f (i::done)
  |none=>match (List.range ops.size).find? λi=>Aa ops done i with
   |some i=>Kz ops hv f (i::done)
   |none=>done.reverse
def Qg(ops:Array Oper)(bQ:Nat->Nat->Bool)(hv:Nat->Bool)(done:List Nat)(i:Nat):Bool:=
 match ops[i]? with
 |none=>false
 |some o=>
  Aa ops done i&&
  -- a heavy one: behind every heavy one; nothing that is not heavy could have come ahead of it
  (!hv i||(done.all λj=>!hv j||bQ i j)&&(List.range ops.size).all λj=>hv j||!Aa ops done j)&&
  -- where it puts what it yields
  (match o.dst with
  |none=>true
  |some d=>(hv i||!(looks ops o).contains d)&&done.all λj=>match ops[j]? with
   |some p=>if(looks ops p).contains d||p.dst==some d then hv i&&bQ i j else true
   |none=>false)&&
  -- what it looks at
  done.all λj=>match ops[j]? with
   |some p=>match p.dst with
    |some d=>if(looks ops o).contains d then bQ i j else true
    |none=>true
   |none=>false
def DT(ops:Array Oper)(bQ:Nat->Nat->Bool)(hv:Nat->Bool):List Nat->List Nat->Bool
 |[],done=>(List.range ops.size).all λi=>done.contains i
 |i::l,done=>Qg ops bQ hv done i&&DT ops bQ hv l (i::done)
def DU(bQ:Nat->Nat->Bool)(cs:Nat->Option iq):List Nat->List Nat->Option (List bV)
 |[],_=>some []
 |i::l,done=>match cs i,DU bQ cs l (i::done)with
  |some s,some r=>some (⟨s,if heavy s.op then done.filterMap λj=>match cs j with
    |some t=>if BP t.op&&!bQ i j then some t else none
    |none=>none else[]⟩::r)
  |_,_=>none
def qy(ops:Array Oper):Nat->Nat->Bool:=
 let b:=Region.before ops
 λi j=>(b.getD i 0).testBit j
def jW(P:Program)(ops:Array Oper)(i:Nat):Option iq:=(ops[i]?).bind (DR P ops)
def yI(P:Program)(ops:Array Oper)(i:Nat):Bool:=
 match jW P ops i with
 |some s=>heavy s.op
 |none=>true
def Qh(P:Program)(ops:Array Oper):Option (List bV):=
 let l:=Kz ops (yI P ops) ops.size []
 if DT ops (qy ops) (yI P ops) l []then DU (qy ops) (jW P ops) l []else none
def dstsOf(ops:Array Oper):List Tmp:=ops.toList.filterMap (·.dst)
def Gy(P:Program)(ops:Array Oper)(draw:Bool):dI:=
 match (if draw then Qh P ops else ops.toList.mapM λo=>(DR P ops o).map λs=>⟨s,[]⟩)with
 |some l=>.ops (dstsOf ops) l
 |none=>.fail
def compile(P:Program):Code->dI
 | .skip| .label _=>.skip
 | .region _ ops draw=>Gy P ops draw
 | .seq a b=>.seq (compile P a) (compile P b)
 | .cond c a b=>.cond c (compile P a) (compile P b)
 | .block id a=>.block id (compile P a)
 | .loop a=>.loop (compile P a)
 | .rangeFunc f params assign body=>if z8 P f then .rangeFunc f params.toList (compile P assign) (compile P body)else .fail
 | .exit id=>.exit id
 | .scope a=>.scope (compile P a)
 | .ret=>.ret
 | .goto _| .refuse _=>.fail
inductive qz where
 |tmp (t:Tmp)
 |cell1 (a:Tmp)
 |qA (n:Nat) (a:Tmp)
def DV(P:Program):ResultVar->Option qz
 | .tmp t=>some (.tmp t)
 | .cell a t=>if jC P t then(jB P t).map λn=>.qA n a else match P.underlying t with
   |some _=>some (.cell1 a)
   |none=>none
structure gV where
 ntmps:Nat
 results:List qz
 body:dI
def uB(P:Program)(fn:Func):Option gV:=
 match fn.body,fn.results.toList.mapM (DV P)with
 |some c,some rs=>if fn.name= "runtime.NumGoroutine" then none else some ⟨fn.ntmps,rs,compile P c⟩
 |_,_=>none
inductive iU where
 |ok (v:Value)
 |fT (chain:List PanicEntry)
structure gM where
 fn:Fn
 args:List Value
 captured:List Value
 pm:Option FrameMode
def wY(l:List Value):Nat->T Value->T Value:=
 List.rec (motive:=λ_=>Nat->T Value->T Value) (λ_ t=>t) (λv _ ih i t=>ih (Nat.succ i) (t.set i (some v))) l
def rD(a b:Nat):Nat:=cond (Nat.ble a b) b a
def Ab(n:Nat)(args:List Value)(pm:Option FrameMode):aV:=
 {n:=rD n (iL args),tmps:=wY args 0 .leaf,defers:=[],pm,ro:=none}
def sW(tmps:T Value)(h:IH)(r:qz):Option Value:=
 match r with
 | .tmp t=>some (dL tmps t)
 | .cell1 a=>match dL tmps a with
   | .pointer (some ⟨i,o,none⟩)=>match h.get i with
     |some (.cells cs)=>jU cs o
     |_=>none
   |_=>none
 | .qA n a=>match dL tmps a with
   | .pointer (some ⟨i,o,none⟩)=>match h.nR i o n with
     |some cs=>some (.agg ⟨cs⟩)
     |none=>none
   |_=>none
def wZ(tmps:T Value)(h:IH)(l:List qz):Option (List Value):=
 List.rec (motive:=λ_=>Option (List Value)) (some []) (λr _ ih=>match sW tmps h r,ih with
  |some v,some vs=>some (v::vs)
  |_,_=>none) l
def qB(rs:List qz)(tmps:T Value)(h:IH):Option Value:=
 match wZ tmps h rs with
 |some [v]=>some v
 |some vs=>some (.tuple ⟨vs⟩)
 |none=>none
def yJ:FrameMode->FrameMode
 | .panicking (e::older)=>cond e.recovered (match older.dropWhile (!·.goexit)with
    |[]=>.returning
    |rest=>.panicking rest) (.panicking (e::older))
 |m=>m
def BQ(u:FrameMode)(chain:List PanicEntry):FrameMode:=
 match u with
 | .panicking old=>.panicking (chain++old)
 |_=>.panicking chain
def jI(pm:FrameMode):Value×FrameMode:=
 match pm with
 | .panicking (e::older)=>cond (e.recovered||e.goexit) (.nilIface,pm) (e.v,.panicking ({e with recovered:=true}::older))
 |_=>(.nilIface,pm)
def BS(P:Program)(t:TypeId)(v:Value)(name:String):Option (FuncId×Value):=
 match P.info? t with
 |none=>none
 |some info=>match info.methods.find? (·.name==name)with
  |none=>none
  |some m=>if m.path.size≠0 then none else match m.func with
   |some (f,ptr)=>match P.underlying t,ptr with
    |some (.pointer _),true=>some (f,v)
    |some (.pointer _),false=>none
    |some _,false=>some (f,v)
    |_,_=>none
   |none=>none
def target(P:Program)(q:gM):Option (FuncId×List Value):=
 match q.fn with
 | .func f=>some (f,ko q.args q.captured)
 | .method name=>match q.args with
   | .iface t v::args=>match BS P t v name with
     |some (f,r)=>some (f,r::args)
     |none=>none
   |_=>none
 | .methodOf t name=>match q.args with
   |x::args=>match P.underlying t with
    |some (.interface _)=>match x with
     | .iface t v=>match BS P t v name with
       |some (f,r)=>some (f,r::args)
       |none=>none
     |_=>none
    |some _=>match BS P t x name with
     |some (f,r)=>some (f,r::args)
     |none=>none
    |none=>none
   |[]=>none
 |_=>none
def w9(c:aF)(ρ:Operand->Value):Option gM:=
 match c with
 | .call f args=>match ρ f with
   | .func fn ⟨first⟩ ⟨captured⟩=>some ⟨fn,ko first (lN ρ args),captured,none⟩
   |_=>none
 | .invoke x name args=>some ⟨.method name,ρ x::lN ρ args,[],none⟩
 |_=>none
def forget(ds:List Tmp)(a:aV):aV:=
 List.rec (motive:=λ_=>aV->aV) (λa=>a) (λd _ ih a=>ih (a.set d dU)) ds a
def Ac(it:Value)(h:IH):Option (List (Value×IH)):=
 match it with
 | .pointer (some ⟨r,0,none⟩)=>match h.get r with
   |some (.mapIter none _ _ _)=>some [(.tuple #[.bool false],h)]
   |some (.mapIter (some m) since seen last)=>match h.get m with
    |some (.map es clock)=>
     cond (!seen.isEmpty&&!es.isEmpty&&es.all (λe=>Nat.ble last e.born)) none
      (let left:=es.filter λe=>!seen.contains e.born
      let old:=left.filter λe=>Nat.blt e.born since
      let new:=left.filter λe=>Nat.ble since e.born
      some ((if old.isEmpty then[(.tuple #[.bool false],h)]else[])++
       (old++new).map λe=>(.tuple #[.bool true,e.key,e.val],h.set r (.mapIter (some m) since (seen++[e.born]) clock))))
    |_=>none
   |_=>none
 |_=>none
def inBlock(id:Nat)(o:Out):Out:=
 match o with
 | .exit j=>cond (Nat.beq j id) .normal (.exit j)
 |o=>o
def uC(o:Out):Option FrameMode:=
 match o with
 | .normal| .ret=>some .returning
 | .panic ch=>some (.panicking ch)
 | .exit _=>none
def uD(n:Nat)(ps:List Tmp)(args:List Value)(t:T Value):T Value:=
 List.rec (motive:=λ_=>List Value->T Value->T Value) (λ_ t=>t)
  (λp _ ih args t=>match args with
    |v::args=>ih args (cond (Nat.blt p n) (t.set p (some v)) t)
    |[]=>t) ps args t
mutual
def nS(m:Nat):Value->Bool
 | .pointer (some a)=>Nat.blt a.block m
 | .slice (some a) _ _=>Nat.blt a.block m
 | .map (some i)=>Nat.blt i m
 | .func fn ⟨f⟩ ⟨c⟩=>(match fn with
   | .yield _=>false
   |_=>true)&&rE m f&&rE m c
 | .iface _ v=>nS m v
 | .agg ⟨l⟩=>rE m l
 | .tuple ⟨l⟩=>rE m l
 |_=>true
def rE(m:Nat):List Value->Bool
 |[]=>true
 |v::l=>nS m v&&rE m l
end
def DW(m:Nat):dN->Bool
 | .cells cs=>rE m cs
 | .map es _=>es.all λe=>nS m e.val
 |_=>false
abbrev KO:=Out->aV->IH->Prop
abbrev KR:=iU->Option FrameMode->IH->Prop
end
end Go.Ideal
namespace Go.Ideal
noncomputable section
def BU{α:Type}(f:Nat):List α->T α:=
 Nat.rec (motive:=λ_=>List α->T α) (λ_=>.leaf)
  (λ_ ih l=>List.rec (motive:=λ_=>T α) .leaf (λx l _=>.node (some x)
    (ih (List.rec (motive:=λ_=>Bool->List α) (λ_=>[]) (λy _ r b=>Bool.rec (motive:=λ_=>List α) (r true) (y::r false) b) l true))
    (ih (List.rec (motive:=λ_=>Bool->List α) (λ_=>[]) (λy _ r b=>Bool.rec (motive:=λ_=>List α) (r true) (y::r false) b) l false))) l) f
def ou(f:Nat):Value->Value->Bool:=
 Nat.rec (motive:=λ_=>Value->Value->Bool) (λ_ _=>false)
  (λ_ ih v u=>match v,u with
    | .bool a,.bool b=>a==b
    | .int .i64 a,.int .i64 b=>BN a b
    | .int j a,.int k b=>j==k&&a==b
    | .string a,.string b=>a.data.toList==b.data.toList
    | .pointer none,.pointer none=>true
    | .pointer (some ⟨i,o,none⟩),.pointer (some ⟨j,p,none⟩)=>Nat.beq i j&&Nat.beq o p
    | .slice none n c,.slice none m d=>Nat.beq n m&&Nat.beq c d
    | .slice (some ⟨i,o,some f⟩) n c,.slice (some ⟨j,p,some g⟩) m d=>Nat.beq i j&&Nat.beq o p&&Nat.beq f g&&Nat.beq n m&&Nat.beq c d
    | .map none,.map none=>true
    | .map (some i),.map (some j)=>Nat.beq i j
    | .nilIface,.nilIface=>true
    | .nilFunc,.nilFunc=>true
    | .iface t v,.iface s u=>Nat.beq t s&&ih v u
    | .agg ⟨a⟩,.agg ⟨b⟩=>List.rec (motive:=λ_=>List Value->Bool) (λb=>match b with|[]=>true|_=>false) (λx _ r b=>match b with|y::b=>cond (ih x y) (r b) false|[]=>false) a b
    | .tuple ⟨a⟩,.tuple ⟨b⟩=>List.rec (motive:=λ_=>List Value->Bool) (λb=>match b with|[]=>true|_=>false) (λx _ r b=>match b with|y::b=>cond (ih x y) (r b) false|[]=>false) a b
    | .func f ⟨a⟩ ⟨c⟩,.func g ⟨b⟩ ⟨d⟩=>f==g&&
       List.rec (motive:=λ_=>List Value->Bool) (λb=>match b with|[]=>true|_=>false) (λx _ r b=>match b with|y::b=>cond (ih x y) (r b) false|[]=>false) a b&&
       List.rec (motive:=λ_=>List Value->Bool) (λb=>match b with|[]=>true|_=>false) (λx _ r b=>match b with|y::b=>cond (ih x y) (r b) false|[]=>false) c d
    |_,_=>false) f
abbrev BO:=Out->aV->IH->Bool
abbrev BR:=iU->Option FrameMode->IH->Bool
structure Ev where
 code:dI->aV->IH->BO->Bool
 call:gM->IH->BR->Bool
structure Env where
 P:Program
 F:Nat->Option gV
 cut:Nat->Option (gM->IH->Option (List Value×Nat×Nat))
 /-- calls that are known: what they return, and the heap behind them -/
 memo:Nat->Option (gM->IH->Option (Value×IH))
def DX(P:Program)(re:List iq)(a:aV)(h:IH):Bool:=
 List.rec (motive:=λ_=>Bool) true (λr _ ih=>cond (match a.wants r.guard with
  |some false=>true
  |_=>match r.op.run P a.eval h with
   |some (u,_)=>match r.dst with
    |some d=>ou 50 (dL a.tmps d) u
    |none=>true
   |none=>false) ih false) re
def KA(P:Program)(s:bV)(a:aV)(h:IH)(next:aV->IH->Bool):Bool:=
 match s.s.op.run P a.eval h with
 |some (v,h)=>match s.re with
  |[]=>next (a.put s.s.dst v) h
  |re=>cond (DX P re (a.put s.s.dst v) h) (next (a.put s.s.dst v) h) false
 |none=>false
def Gz(P:Program)(E:Ev)(ds:List Tmp)(s:bV)(a:aV)(h:IH)(next:aV->IH->Bool)(k:BO):Bool:=
 match w9 s.s.op a.eval with
 |some q=>E.call q h λr _ h=>match r with
  | .ok v=>cond (DX P s.re (a.put s.s.dst v) h) (next (a.put s.s.dst v) h) false
  | .fT ch=>k (.panic ch) (forget ds a) h
 |none=>false
def DY(s:bV)(b:Bool):Bool:=match s.re with
 |[]=>b
 |_=>false
def GA(P:Program)(E:Ev)(ds:List Tmp)(s:bV)(a:aV)(h:IH)(next:aV->IH->Bool)(k:BO):Bool:=
 match s.s.op with
 | .call _ _=>Gz P E ds s a h next k
 | .invoke _ _ _=>Gz P E ds s a h next k
 | .recover=>DY s (match a.ro with
   |some _=>false
   |none=>match a.pm with
    |none=>next (a.put s.s.dst .nilIface) h
    |some m=>next ({a with pm:=some (jI m).2}.put s.s.dst (jI m).1) h)
 | .panic x=>match a.eval x with
   | .iface t v=>k (.panic [{v:=.iface t v,recovered:=false}]) (forget ds a) h
   |_=>false
 | .dcall f args=>DY s (match a.ro with
   |some _=>false
   |none=>match a.eval f with
    | .func fn ⟨first⟩ ⟨captured⟩=>next ({a with defers:={target:=.fn fn ⟨captured⟩,args:=⟨ko first (lN a.eval args)⟩}::a.defers}.put s.s.dst dU) h
    |_=>false)
 | .wV x=>DY s (match Ac (a.eval x) h with
   |some alts=>Gp (λvh=>next (a.put s.s.dst vh.1) vh.2) alts
   |none=>false)
 |_=>KA P s a h next
def DZ(P:Program)(E:Ev)(ds:List Tmp)(l:List bV):aV->IH->BO->Bool:=
 List.rec (motive:=λ_=>aV->IH->BO->Bool) (λa h k=>k .normal a h)
  (λs _ ih a h k=>match a.wants s.s.guard with
    |some true=>GA P E ds s a h (λa h=>ih a h k) k
    |some false=>ih (a.put s.s.dst sS) h k
    |none=>false) l
def Ad(E:Ev)(cf:gV)(ts:T Value)(ds:List Deferred):FrameMode->IH->(iU->IH->Bool)->Bool:=
 List.rec (motive:=λ_=>FrameMode->IH->(iU->IH->Bool)->Bool)
  (λm h k=>match m with
    | .returning=>match qB cf.results ts h with
      |some v=>k (.ok v) h
      |none=>false
    | .panicking ch=>k (.fT ch) h
    | .run=>false)
  (λd _ ih m h k=>match m with
    | .run=>false
    |m=>match d with
     |{target:=.collected r,.. }=>match h.get r with
      |some (.jb true)=>ih m (h.set r (.jb false)) k
      |_=>false
     |{target:=.fn fn ⟨captured⟩,args:=⟨args⟩}=>E.call ⟨fn,args,captured,some m⟩ h λr pm h=>match pm with
      |none=>false
      |some m'=>match r with
       | .ok _=>ih (yJ m') h k
       | .fT ch=>ih (BQ m' ch) h k
     |_=>false) ds
def Ae(V:Env)(E:Ev)(f:FuncId)(args:List Value)(pm:Option FrameMode)(h:IH)(k:BR):Bool:=
 match V.F f with
 |none=>false
 |some cf=>E.code cf.body (Ab cf.ntmps args pm) h λo a h=>match uC o with
  |none=>false
  |some m=>Ad E cf a.tmps a.defers m h λr h=>k r a.pm h
def Qi(l:Nat)(o:Out)(a:aV)(h:IH)(k:BR):Bool:=
 match a.defers with
 |[]=>match h.get l with
  |some (.loop r)=>match o with
   | .normal=>k (.ok (.bool true)) none (h.set l (.loop {r with state:=.ready,pending:=none}))
   | .panic ch=>k (.fT ch) none h
   | .exit id=>k (.ok (.bool false)) none (h.set l (.loop {r with state:=.done,pending:=some (.exit id)}))
   | .ret=>k (.ok (.bool false)) none (h.set l (.loop {r with state:=.done,pending:=some .ret}))
  |_=>false
 |_=>false
def KC(E:Ev)(l:Nat)(args:List Value)(h:IH)(k:BR):Bool:=
 match h.get l with
 |some (.loop r)=>cond (Nat.beq (iL args) (iL r.params))
  (E.code r.assign {n:=r.n,tmps:=uD r.n r.params args r.tmps,defers:=[],pm:=none,ro:=some l} h λo a h=>match o with
    | .normal=>match h.get l with
      |some (.loop r1)=>match r1.state with
       | .ready=>E.code r.body a (h.set l (.loop {r1 with state:=.busy})) λo a h=>Qi l o a h k
       |_=>false
      |_=>false
    |_=>false) false
 |_=>false
def Qj(cs:List Value)(n f:Nat)(h0:IH)(r:iU)(pm:Option FrameMode)(h:IH):Bool:=
 match pm with
 |some _=>false
 |none=>match r with
  | .ok (.slice (some ⟨i,o,some f'⟩) n' c)=>cond (Nat.beq n n'&&Nat.beq f f'&&(!Nat.beq f 0||Nat.beq c n)&&Nat.ble h0.next i&&Nat.beq h.low h0.next) (match h.nR i o (iL cs)with
    |some l=>List.rec (motive:=λ_=>List Value->Bool) (λb=>match b with|[]=>true|_=>false) (λx _ r b=>match b with|y::b=>cond (ou 5 x y) (r b) false|[]=>false) l cs
    |none=>false) false
  |_=>false
def KD(V:Env)(f:Nat)(q:gM)(h:IH)(k:BR)(other:Bool):Bool:=
 match V.memo f with
 |none=>other
 |some g=>match q.pm with
  |some _=>other
  |none=>match g q h with
   |some (v,h')=>k (.ok v) none h'
   |none=>other
def KE(V:Env)(E:Ev)(q:gM)(h:IH)(k:BR):Bool:=
 match q.fn with
 | .yield l=>match q.pm with
   |none=>KC E l q.args h k
   |some _=>false
 |_=>match target V.P q with
  |none=>false
  |some (f',args)=>KD V f' q h k (match V.cut f' with
   |none=>Ae V E f' args q.pm h k
   |some g=>match q.pm with
    |some _=>false
    |none=>match g q h with
     |none=>Ae V E f' args q.pm h k
     |some ([],_,_)=>Ae V E f' args q.pm h k
     |some (cs,n,f)=>cond (fZ cs&&(Nat.beq f 0||Nat.beq (iL cs) (Nat.mul n f)))
       (cond (Ae V E f' args none {h with low:=h.next} (Qj cs n f h))
         (k (.ok (.slice (some ⟨h.next,0,some f⟩) n n)) none (h.new (.cells cs))) false) false)
def GD(V:Env)(E:Ev)(c:dI)(a:aV)(h:IH)(k:BO):Bool:=
 match c with
 | .skip=>k .normal a h
 | .ops ds l=>DZ V.P E ds l a h k
 | .seq x y=>E.code x a h λo a h=>match o with
   | .normal=>E.code y a h k
   |o=>k o a h
 | .cond c x y=>match a.eval c with
   | .bool true=>E.code x a h k
   | .bool false=>E.code y a h k
   |_=>false
 | .block id c=>E.code c a h λo a h=>k (inBlock id o) a h
 | .loop c=>E.code c a h λo a h=>match o with
   | .normal=>E.code (.loop c) a h k
   |o=>k o a h
 | .scope c=>E.code c a h k
 | .exit id=>k (.exit id) a h
 | .ret=>k .ret a h
 | .rangeFunc f ps assign body=>match a.eval f with
   | .func fn ⟨first⟩ ⟨captured⟩=>
     let go (a1:aV) (r:Nat) (h1:IH):Bool:=
      E.call ⟨fn,ko first [.func (.yield h1.next) #[] #[]],captured,none⟩
       (h1.new (.loop {state:=.ready,pending:=none,tmps:=a.tmps,n:=a.n,params:=ps,assign,body,defers:=r})) λres _ h2=>match res with
       | .ok _=>match h2.get h1.next with
         |some (.loop lp)=>match lp.state with
          | .busy=>false
          |_=>k (lp.pending.getD .normal) a1 (h2.set h1.next (.loop {lp with state:=.exhausted}))
         |_=>false
       | .fT ch=>k (.panic ch) a1 h2
     match a.ro with
     |none=>go {a with defers:={target:=.collected h.next,args:= #[]}::a.defers} h.next (h.new (.jb true))
     |some l0=>match h.get l0 with
      |some (.loop r0)=>go a r0.defers h
      |_=>false
   |_=>false
 | .fail=>false
def BV(V:Env)(n:Nat):Ev:=
 Nat.rec (motive:=λ_=>Ev) ⟨λ_ _ _ _=>false,λ_ _ _=>false⟩ (λ_ E=>⟨GD V E,KE V E⟩) n
def pX(P:Program)(cut:Nat->Option (gM->IH->Option (List Value×Nat×Nat)))(memo:Nat->Option (gM->IH->Option (Value×IH))):Env:=
 {P,F:=λf=>match (BU 100000 P.funcs.toList).get f with
   |some fn=>uB P fn
   |none=>none,cut,memo}
def qC:Nat->Option (gM->IH->Option (List Value×Nat×Nat)):=λ_=>none
def pY:Nat->Option (gM->IH->Option (Value×IH)):=λ_=>none
noncomputable abbrev mO(P:Program)(n:FuncId):Option gV:=(pX P qC pY).F n
noncomputable def uE(P:Program)(n:FuncId):gV:=(mO P n).getD ⟨0,[],.skip⟩
theorem aP{P:Program}(n:FuncId)(h:(mO P n).isSome=true:=by kernel_rfl):(pX P qC pY).F n=some (uE P n):=by
 unfold uE;revert h;show(mO P n).isSome=true->mO P n=some ((mO P n).getD ⟨0,[],.skip⟩);cases mO P n with
 |none=>intro h;cases h
 |some c=>intro _;rfl
end
end Go.Ideal
namespace Go.Ideal
section
variable {α:Type}
theorem T.D5(n:Nat):(T.leaf:T α).get n=none:=rfl
theorem T.BX(v:Option α)(l r:T α):(T.node v l r).get 0=v:=rfl
theorem T.vP(v:Option α)(l r:T α)(m:Nat):(T.node v l r).get (m+1)=if m%2=0 then l.get (m/2)else r.get (m/2):=by
 show Bool.rec (motive:=λ_=>Option α) (r.get (m/2)) (l.get (m/2)) (Nat.beq (m%2) 0)=_;cases h:Nat.beq (m%2) 0 with
 |true=>simp[qo h]
 |false=>simp[Dw h]
theorem T.XO(f:Nat)(x:Option α):T.one (f+1) 0 x=.node x .leaf .leaf:=rfl
theorem T.XP(f m:Nat)(x:Option α):T.one (f+1) (m+1) x=if m%2=0 then .node none (T.one f (m/2) x) .leaf else .node none .leaf (T.one f (m/2) x):=by
 show Bool.rec (motive:=λ_=>T α) (.node none .leaf (T.one f (m/2) x)) (.node none (T.one f (m/2) x) .leaf) (Nat.beq (m%2) 0)=_;cases h:Nat.beq (m%2) 0 with
 |true=>simp[qo h]
 |false=>simp[Dw h]
theorem T.XQ(n:Nat)(x:Option α):(T.leaf:T α).set n x=T.one (n+1) n x:=rfl
theorem T.XR(v:Option α)(l r:T α)(x:Option α):(T.node v l r).set 0 x=.node x l r:=rfl
theorem T.XT(v:Option α)(l r:T α)(m:Nat)(x:Option α):(T.node v l r).set (m+1) x=if m%2=0 then .node v (l.set (m/2) x) r else .node v l (r.set (m/2) x):=by
 show Bool.rec (motive:=λ_=>T α) (.node v l (r.set (m/2) x)) (.node v (l.set (m/2) x) r) (Nat.beq (m%2) 0)=_;cases h:Nat.beq (m%2) 0 with
 |true=>simp[qo h]
 |false=>simp[Dw h]
theorem T.XU(x:Option α):∀(f n m:Nat),n<f->(T.one f n x).get m=if m=n then x else none:=by
 intro f;induction f with
 |zero=>intro n m h;omega
 |succ f ih=>
  intro n m h;cases n with
  |zero=>
   rw[T.XO];cases m with
   |zero=>simp[T.BX]
   |succ m=>rw[T.vP];simp[T.D5]
  |succ n=>
   rw[T.XP];by_cases hp:n%2=0
   ·rw[if_pos hp];cases m with
    |zero=>simp[T.BX]
    |succ m=>
     rw[T.vP];by_cases hq:m%2=0
     ·rw[if_pos hq,ih _ _ (by omega)];by_cases e:m=n
      ·subst e;simp
      ·rw[if_neg (by omega),if_neg (by omega)]
     ·rw[if_neg hq,T.D5,if_neg (by omega)]
   ·rw[if_neg hp];cases m with
    |zero=>simp[T.BX]
    |succ m=>
     rw[T.vP];by_cases hq:m%2=0
     ·rw[if_pos hq,T.D5,if_neg (by omega)]
     ·rw[if_neg hq,ih _ _ (by omega)];by_cases e:m=n
      ·subst e;simp
      ·rw[if_neg (by omega),if_neg (by omega)]
theorem T.nH(x:Option α):∀(t:T α) (n m:Nat),(t.set n x).get m=if m=n then x else t.get m:=by
 intro t;induction t with
 |leaf=>intro n m;rw[T.XQ,T.XU _ _ _ _ (wN n),T.D5]
 |node v l r hl hr=>
  intro n m;cases n with
  |zero=>
   rw[T.XR];cases m with
   |zero=>simp[T.BX]
   |succ m=>rw[T.vP,T.vP];simp
  |succ n=>
   rw[T.XT];by_cases hp:n%2=0
   ·rw[if_pos hp];cases m with
    |zero=>simp[T.BX]
    |succ m=>
     rw[T.vP,T.vP];by_cases hq:m%2=0
     ·rw[if_pos hq,if_pos hq,hl];by_cases e:m=n
      ·subst e;simp
      ·rw[if_neg (by omega),if_neg (by omega)]
     ·rw[if_neg hq,if_neg hq,if_neg (by omega)]
   ·rw[if_neg hp];cases m with
    |zero=>simp[T.BX]
    |succ m=>
     rw[T.vP,T.vP];by_cases hq:m%2=0
     ·rw[if_pos hq,if_pos hq,if_neg (by omega)]
     ·rw[if_neg hq,if_neg hq,hr];by_cases e:m=n
      ·subst e;simp
      ·rw[if_neg (by omega),if_neg (by omega)]
end
theorem IH.nH(h:IH)(i j:Nat)(o:dN):(h.set i o).get j=if j=i then some o else h.get j:=T.nH _ _ _ _
theorem IH.uF(h:IH)(i j:Nat):(h.kill i).get j=if j=i then none else h.get j:=T.nH _ _ _ _
theorem IH.jc(h:IH)(j:Nat)(o:dN):(h.new o).get j=if j=h.next then some o else h.get j:=T.nH _ _ _ _
theorem IH.KF(h:IH)(o:dN):(h.new o).next=h.next+1:=rfl
theorem IH.KG(h:IH)(o:dN):(h.new o).low=h.low:=rfl
theorem IH.GG(h:IH)(i:Nat)(o:dN):(h.set i o).low=min h.low i:=by
 show cond (Nat.ble h.low i) h.low i=_;cases hb:Nat.ble h.low i with
 |true=>have:=mK hb;simp;omega
 |false=>have:¬h.low<=i:=λhh=>by rw[F9 hh]at hb;cases hb
         simp;omega
theorem IH.Af(h:IH)(i:Nat):(h.kill i).low=min h.low i:=by
 show cond (Nat.ble h.low i) h.low i=_;cases hb:Nat.ble h.low i with
 |true=>have:=mK hb;simp;omega
 |false=>have:¬h.low<=i:=λhh=>by rw[F9 hh]at hb;cases hb
         simp;omega
theorem BZ(t:T Value)(i j:Nat)(v:Value):dL (t.set i (some v)) j=if j=i then v else dL t j:=by
 unfold dL;rw[T.nH];split<;>rfl
section
variable {α β:Type}
theorem vQ(f:α->β)(l:List α):lN f l=l.map f:=by
 induction l with
 |nil=>rfl
 |cons x l ih=>show f x::lN f l=_;rw[ih];rfl
theorem sZ(l:List α)(n:Nat):jU l n=l[n]?:=by
 induction l generalizing n with
 |nil=>rfl
 |cons x l ih=>cases n with
  |zero=>rfl
  |succ n=>show jU l n=_;rw[ih];simp
theorem p9(l:List α)(n:Nat):jH l n=l.drop n:=by
 induction l generalizing n with
 |nil=>cases n<;>rfl
 |cons x l ih=>cases n with
  |zero=>rfl
  |succ n=>show jH l n=_;rw[ih];simp
theorem xe(l:List α):iL l=l.length:=by
 induction l with
 |nil=>rfl
 |cons x l ih=>show iL l+1=_;rw[ih];rfl
theorem jK(l r:List α):ko l r=l++r:=by
 induction l with
 |nil=>rfl
 |cons x l ih=>show x::ko l r=_;rw[ih];rfl
theorem qD(l:List α)(n:Nat):jf l n=if n<=l.length then some (l.take n)else none:=by
 induction l generalizing n with
 |nil=>cases n<;>rfl
 |cons x l ih=>cases n with
  |zero=>rfl
  |succ n=>
   show Option.rec (motive:=λ_=>Option (List α)) none (λr=>some (x::r)) (jf l n)=_;rw[ih];by_cases h:n<=l.length
   ·rw[if_pos h,if_pos (by simpa using h)];rfl
   ·rw[if_neg h,if_neg (by simpa using h)]
theorem Qk(p:α->Bool)(l:List α):Gp p l=l.all p:=by
 induction l with
 |nil=>rfl
 |cons x l ih=>
  show Bool.rec (motive:=λ_=>Bool) false (Gp p l) (p x)=_;rw[ih];cases h:p x<;>simp[h]
theorem Ql(o:Nat)(xs:List α):jV [] o xs=if xs=[]/\o=0 then some []else none:=by cases xs<;>cases o<;>rfl
theorem Qm(c:α)(l:List α):jV (c::l) 0 []=some (c::l):=rfl
theorem KH(c:α)(l:List α)(x:α)(xs:List α):jV (c::l) 0 (x::xs)=(jV l 0 xs).map (x::·):=by
 show Option.rec (motive:=λ_=>Option (List α)) none (λr=>some (x::r)) (jV l 0 xs)=_;cases jV l 0 xs<;>rfl
theorem KI(c:α)(l:List α)(o:Nat)(xs:List α):jV (c::l) (o+1) xs=(jV l o xs).map (c::·):=by
 show Option.rec (motive:=λ_=>Option (List α)) none (λr=>some (c::r)) (jV l o xs)=_;cases jV l o xs<;>rfl
theorem KJ{l:List α}:∀{o:Nat} {xs r:List α},jV l o xs=some r->
 o+xs.length<=l.length/\r.length=l.length/\∀j:Nat,r[j]? =if o<=j/\j<o+xs.length then xs[j - o]? else l[j]?:=by
 induction l with
 |nil=>
  intro o xs r h;rw[Ql]at h;split at h
  ·rename_i he;obtain⟨rfl,rfl⟩:=he;cases h;refine⟨by simp,rfl,λj=>?_⟩;rw[if_neg (by simp)]
  ·cases h
 |cons c l ih=>
  intro o xs r h;cases o with
  |zero=>
   cases xs with
   |nil=>rw[Qm]at h;cases h;refine⟨by simp,rfl,λj=>?_⟩;rw[if_neg (by simp)]
   |cons x xs=>
    rw[KH]at h;cases hr:jV l 0 xs with
    |none=>rw[hr]at h;cases h
    |some r'=>
     rw[hr]at h;cases h;obtain⟨h1,h2,h3⟩:=ih hr;refine⟨by simp at h1⊢;omega,by simp[h2],λj=>?_⟩
     ·cases j with
      |zero=>simp
      |succ j=>have:=h3 j;simp at this⊢;rw[this]
  |succ o=>
   rw[KI]at h;cases hr:jV l o xs with
   |none=>rw[hr]at h;cases h
   |some r'=>
    rw[hr]at h;cases h;obtain⟨h1,h2,h3⟩:=ih hr;refine⟨by simp;omega,by simp[h2],λj=>?_⟩
    ·cases j with
     |zero=>simp
     |succ j=>
      have:=h3 j;simp only[qZ];rw[this];by_cases hc:o<=j/\j<o+xs.length
      ·rw[if_pos hc,if_pos (by omega)];congr 1;omega
      ·rw[if_neg hc,if_neg (by omega)]
theorem Qn(f:α->α)(l:List α)(n:Nat):setAt f l n=l.modify n f:=by
 induction l generalizing n with
 |nil=>cases n<;>rfl
 |cons x l ih=>cases n with
  |zero=>rfl
  |succ n=>show x::setAt f l n=_;rw[ih];simp
end
theorem zeros_length(z:List Value)(n:Nat):(zeros z n).length=n*z.length:=by
 induction n with
 |zero=>simp;rfl
 |succ n ih=>show(ko z (zeros z n)).length=_;rw[jK,iH,ih,Nat.succ_mul,Nat.add_comm]
structure iJ where
 b:Nat
 off:Nat
 len:Nat
 top:Nat
 sz:Nat
abbrev aG:=Nat->Option iJ
inductive FR(β:aG):Fn->Fn->Prop
 |func (f:FuncId):FR β (.func f) (.func f)
 |method (n:String):FR β (.method n) (.method n)
 |methodOf (t:TypeId) (n:String):FR β (.methodOf t n) (.methodOf t n)
 |yield {l:Nat} {g:iJ} (h:β l=some g):FR β (.yield l) (.yield g.b)
mutual
inductive VR(β:aG):Value->Value->Prop
 |dU (v:Value):VR β (.tuple #[]) v
 |skip:VR β (.chan (some 0)) (.tuple #[])
 |bool (b:Bool):VR β (.bool b) (.bool b)
 |int (k:IntKind) (n:Int):VR β (.int k n) (.int k n)
 |float (k:FloatKind) (n:Nat):VR β (.float k n) (.float k n)
 |complex (k:FloatKind) (n m:Nat):VR β (.complex k n m) (.complex k n m)
 |string (s:ByteArray):VR β (.string s) (.string s)
 |nilFunc:VR β .nilFunc .nilFunc
 |nilIface:VR β .nilIface .nilIface
 |yK:VR β (.pointer none) (.pointer none)
 |ptr {i o:Nat} {g:iJ} (h:β i=some g):VR β (.pointer (some ⟨i,o,none⟩)) (.pointer (some ⟨g.b,g.off+o,none⟩))
 |sl0 (n c:Nat):VR β (.slice none n c) (.slice none n c)
 |ak {i o n c:Nat} {g:iJ} {a:Addr} (h:β i=some g) (hb:a.block=g.b) (hn:n<=c) (ha:c=0\/(a.off=g.off+o/\a.spot=none)):
   VR β (.slice (some ⟨i,o,some 0⟩) n c) (.slice (some a) n c)
 |qa {i o n c c':Nat} {g:iJ} {a:Addr} (h:β i=some g) (hb:a.block=g.b) (hs:a.spot=none) (hn:n<=c) (hz:0<g.sz)
   (hl:o+c*g.sz=g.len) (ht:g.off+o+c'*g.sz=g.top) (hc:c<=c') (ha:c'=0\/a.off=g.off+o):
   VR β (.slice (some ⟨i,o,some g.sz⟩) n c) (.slice (some a) n c')
 |xk:VR β (.map none) (.map none)
 |map {i:Nat} {g:iJ} (h:β i=some g):VR β (.map (some i)) (.map (some g.b))
 |func {fn fn':Fn} {f f' c c':List Value} (h:FR β fn fn') (hf:aW β f f') (hc:aW β c c'):VR β (.func fn ⟨f⟩ ⟨c⟩) (.func fn' ⟨f'⟩ ⟨c'⟩)
 |iface (t:TypeId) {v v':Value} (h:VR β v v'):VR β (.iface t v) (.iface t v')
 |agg {l l':List Value} (hc:l.all cellV=true) (h:aW β l l'):VR β (.agg ⟨l⟩) (.agg ⟨l'⟩)
 |tuple {l l':List Value} (h:aW β l l'):VR β (.tuple ⟨l⟩) (.tuple ⟨l'⟩)
inductive aW(β:aG):List Value->List Value->Prop
 |nil:aW β [] []
 |cons {v v':Value} {l l':List Value} (h:VR β v v') (hl:aW β l l'):aW β (v::l) (v'::l')
end
def aG.le(β β':aG):Prop:=∀i g,β i=some g->β' i=some g
theorem FR.mono{β β':aG}(h:β.le β'){f f':Fn}(hf:FR β f f'):FR β' f f':=by
 cases hf with
 |func f=>exact .func f
 |method n=>exact .method n
 |methodOf t n=>exact .methodOf t n
 |yield hl=>exact .yield (h _ _ hl)
mutual
theorem VR.mono{β β':aG}(h:β.le β'):∀{v v':Value},VR β v v'->VR β' v v'
 |_,_,.dU v=>.dU v
 |_,_,.skip=>.skip
 |_,_,.bool b=>.bool b
 |_,_,.int k n=>.int k n
 |_,_,.float k n=>.float k n
 |_,_,.complex k n m=>.complex k n m
 |_,_,.string s=>.string s
 |_,_,.nilFunc=>.nilFunc
 |_,_,.nilIface=>.nilIface
 |_,_,.yK=>.yK
 |_,_,.ptr hi=>.ptr (h _ _ hi)
 |_,_,.sl0 n c=>.sl0 n c
 |_,_,.ak hi hb hn ha=>.ak (h _ _ hi) hb hn ha
 |_,_,.qa hi hb hs hn hz hl ht hc ha=>.qa (h _ _ hi) hb hs hn hz hl ht hc ha
 |_,_,.xk=>.xk
 |_,_,.map hi=>.map (h _ _ hi)
 |_,_,.func hf h1 h2=>.func (hf.mono h) (aW.mono h h1) (aW.mono h h2)
 |_,_,.iface t hv=>.iface t (VR.mono h hv)
 |_,_,.agg hc hl=>.agg hc (aW.mono h hl)
 |_,_,.tuple hl=>.tuple (aW.mono h hl)
theorem aW.mono{β β':aG}(h:β.le β'):∀{v v':List Value},aW β v v'->aW β' v v'
 |_,_,.nil=>.nil
 |_,_,.cons hv hl=>.cons (VR.mono h hv) (aW.mono h hl)
end
theorem aW.length{β:aG}{l l':List Value}(h:aW β l l'):l'.length=l.length:=by
 induction l generalizing l' with
 |nil=>cases h;rfl
 |cons v l ih=>cases h with|cons hv hl=>simp[ih hl]
theorem aW.get{β:aG}{l l':List Value}(h:aW β l l'){i:Nat}{v:Value}(hi:l[i]? =some v):∃v',l'[i]? =some v'/\VR β v v':=by
 induction l generalizing l' i with
 |nil=>simp at hi
 |cons x l ih=>
  cases h with
  |cons hv hl=>
   cases i with
   |zero=>simp at hi;subst hi;exact⟨_,by simp,hv⟩
   |succ i=>simp at hi;obtain⟨v',h1,h2⟩:=ih hl hi;exact⟨v',by simpa using h1,h2⟩
theorem aW.XV{β:aG}{l l':List Value}(hlen:l'.length=l.length)(h:∀(i:Nat) (v:Value),l[i]? =some v->∃v',l'[i]? =some v'/\VR β v v'):aW β l l':=by
 induction l generalizing l' with
 |nil=>cases l' with|nil=>exact .nil|cons x l'=>simp at hlen
 |cons x l ih=>
  cases l' with
  |nil=>simp at hlen
  |cons y l'=>
   refine .cons ?_ (ih (by simpa using hlen) λi v hi=>?_)
   ·obtain⟨v',h1,h2⟩:=h 0 x (by simp);simp at h1;subst h1;exact h2
   ·obtain⟨v',h1,h2⟩:=h (i+1) v (by simpa using hi);exact⟨v',by simpa using h1,h2⟩
theorem aW.append{β:aG}{l l' r r':List Value}(h:aW β l l')(k:aW β r r'):aW β (l++r) (l'++r'):=by
 induction l generalizing l' with
 |nil=>cases h;exact k
 |cons x l ih=>cases h with|cons hv hl=>exact .cons hv (ih hl)
theorem aW.take{β:aG}{l l':List Value}(h:aW β l l')(n:Nat):aW β (l.take n) (l'.take n):=by
 induction l generalizing l' n with
 |nil=>cases h;simp;exact .nil
 |cons x l ih=>cases h with|cons hv hl=>cases n with
  |zero=>exact .nil
  |succ n=>exact .cons hv (ih hl n)
theorem aW.drop{β:aG}{l l':List Value}(h:aW β l l')(n:Nat):aW β (l.drop n) (l'.drop n):=by
 induction l generalizing l' n with
 |nil=>cases h;simp;exact .nil
 |cons x l ih=>cases h with|cons hv hl=>cases n with
  |zero=>exact .cons hv hl
  |succ n=>exact ih hl n
theorem aW.map{β:aG}{γ:Type}{f f':γ->Value}(l:List γ)(h:∀x∈l,VR β (f x) (f' x)):aW β (l.map f) (l.map f'):=by
 induction l with
 |nil=>exact .nil
 |cons x l ih=>exact .cons (h x (by simp)) (ih λy hy=>h y (by simp[hy]))
mutual
theorem VR.free{β:aG}:∀{v:Value},cK v=true->VR β v v
 | .bool b,_=>.bool b
 | .int k n,_=>.int k n
 | .float k n,_=>.float k n
 | .complex k n m,_=>.complex k n m
 | .string s,_=>.string s
 | .nilFunc,_=>.nilFunc
 | .nilIface,_=>.nilIface
 | .pointer none,_=>.yK
 | .pointer (some a),h=>by simp[cK]at h
 | .slice none n c,_=>.sl0 n c
 | .slice (some a) n c,h=>by simp[cK]at h
 | .map none,_=>.xk
 | .map (some r),h=>by simp[cK]at h
 | .chan r,h=>by simp[cK]at h
 | .func _ _ _,h=>by simp[cK]at h
 | .iface t v,h=>.iface t (VR.free (by simp[cK]at h;exact h.1))
 | .agg ⟨l⟩,h=>.agg (uG (by simpa[cK]using h)) (aW.free (by simpa[cK]using h))
 | .tuple _,h=>by simp[cK]at h
theorem aW.free{β:aG}:∀{l:List Value},fZ l=true->aW β l l
 |[],_=>.nil
 |v::l,h=>.cons (VR.free (by simp[fZ]at h;exact h.1.1)) (aW.free (by simp[fZ]at h;exact h.2))
theorem uG:∀{l:List Value},fZ l=true->l.all cellV=true
 |[],_=>rfl
 |v::l,h=>by simp[fZ]at h;simp only[List.all_cons,h.1.2,Bool.true_and];exact uG h.2
end
mutual
theorem VR.qb{β:aG}:∀{v v':Value},VR β v v'->cK v=true->v'=v
 |_,_,.bool b,_=>rfl
 |_,_,.int k n,_=>rfl
 |_,_,.float k n,_=>rfl
 |_,_,.complex k n m,_=>rfl
 |_,_,.string s,_=>rfl
 |_,_,.nilFunc,_=>rfl
 |_,_,.nilIface,_=>rfl
 |_,_,.yK,_=>rfl
 |_,_,.sl0 n c,_=>rfl
 |_,_,.xk,_=>rfl
 |_,_,.iface t hv,h=>by rw[VR.qb hv (by simp[cK]at h;exact h.1)]
 |_,_,.agg hc hl,h=>by rw[aW.qb hl (by simpa[cK]using h)]
 |_,_,.dU v,h=>by simp[cK]at h
 |_,_,.skip,h=>by simp[cK]at h
 |_,_,.ptr _,h=>by simp[cK]at h
 |_,_,.ak _ _ _ _,h=>by simp[cK]at h
 |_,_,.qa _ _ _ _ _ _ _ _ _,h=>by simp[cK]at h
 |_,_,.map _,h=>by simp[cK]at h
 |_,_,.func _ _ _,h=>by simp[cK]at h
 |_,_,.tuple _,h=>by simp[cK]at h
theorem aW.qb{β:aG}:∀{l l':List Value},aW β l l'->fZ l=true->l'=l
 |_,_,.nil,_=>rfl
 |_,_,.cons hv hl,h=>by
  simp[fZ]at h;rw[VR.qb hv h.1.1,aW.qb hl h.2]
end
theorem yL{α:Type}{P:Program}{s:Sem α}{x:α}(h:eD P s=some x)(w:World):s.run P w=.ok x w:=by
 induction s with
 |pure a=>simp[eD]at h;subst h;rfl
 |program k ih=>simp only[eD]at h;simp only[Sem.run];exact ih _ h
 |mark m k ih=>simp only[eD]at h;simp only[Sem.run];exact ih h
 |_=>simp[eD]at h
theorem VR.cells{β:aG}{v v':Value}{cs:List Value}(h:VR β v v')(hc:cellsOf v=some cs):cs.all cellV=true/\∃cs',v'.cells=⟨cs'⟩/\aW β cs cs':=by
 cases h<;>simp only[cellsOf,aD,reduceCtorEq]at hc<;>try subst hc
 case agg hc' hl=>exact⟨hc',_,rfl,hl⟩
 all_goals exact⟨rfl,_,rfl,.cons (by constructor<;>assumption) .nil⟩
theorem VR.cellV{β:aG}{v v':Value}(h:VR β v v')(hc:cellV v=true):(∀cs,v'≠.agg cs)/\(∀cs,v'≠.tuple cs):=by
 cases h<;>simp_all [Ideal.cellV]
inductive gp(β:aG):List MapEntry->List MapEntry->Prop
 |nil:gp β [] []
 |cons {e e':MapEntry} {l l':List MapEntry} (hk:e'.key=e.key) (hf:cK e.key=true) (hb:e'.born=e.born) (hv:VR β e.val e'.val) (hl:gp β l l'):gp β (e::l) (e'::l')
def Qo:Out->Option Code
 | .normal=>none
 | .exit id=>some (.exit id)
 | .ret=>some .ret
 | .panic _=>none
structure LR(P:Program)(β:aG)(r:oV)(r':Loop):Prop where
 state:r'.state=r.state
 pending:r'.pending=r.pending.bind Qo
 D6:∀ch,r.pending≠some (.panic ch)
 size:r'.tmps.size=r.n
 tmps:∀i,VR β (dL r.tmps i) (r'.tmps.getD i undef)
 out:∀i,r.n<=i->dL r.tmps i=dU
 params:r'.params.toList=r.params
 assign:compile P r'.assign=r.assign
 body:compile P r'.body=r.body
 defers:∃g,β r.defers=some g/\r'.defers=g.b
 Ca:∃f,P.funcs[r'.fn]? =some f
def OR(P:Program)(β:aG)(g:iJ)(w:World):dN->Prop
 | .cells cs=>(∃c t fz,w.heap[g.b]? =some (.cells c t fz))/\cs.length=g.len/\g.off+g.len<=g.top/\
    (∀j,j<g.top->(w.cell? ⟨g.b,j,none⟩).isSome=true/\w.frozen? ⟨g.b,j,none⟩=false)/\
    cs.all cellV=true/\∀(j:Nat) v,cs[j]? =some v->∃v',w.cell? ⟨g.b,g.off+j,none⟩=some v'/\VR β v v'
 | .jl cs=>(∃c t fz,w.heap[g.b]? =some (.cells c t fz)/\(g.top=0\/c.size=g.top))/\g.sz=0/\cs.all cellV=true/\∀(j:Nat) v,cs[j]? =some v->∃v',w.cell? ⟨g.b,g.off+j,none⟩=some v'/\VR β v v'
 | .map es clock=>∃es',w.heap[g.b]? =some (.map es' clock)/\gp β es es'.toList
 | .zX s pos=>w.heap[g.b]? =some (.stringIter s pos)/\g.off=0
 | .mapIter m since seen stepped=>∃m' seen',w.heap[g.b]? =some (.mapIter m' since seen' stepped)/\seen'.toList=seen/\VR β (.map m) (.map m')/\g.off=0
 | .loop r=>∃r',w.heap[g.b]? =some (.loop r')/\LR P β r r'
 | .jb b=>w.heap[g.b]? =some (.deferred (if b then some []else none))
structure WR(P:Program)(β:aG)(h:IH)(w:World):Prop where
 dom:∀i g,β i=some g->i<h.next
 live:∀i o,h.get i=some o->i<h.next
 obj:∀i g o,β i=some g->h.get i=some o->OR P β g w o
 inj:∀i j g k,β i=some g->β j=some k->h.get i≠none->h.get j≠none->((∀cs,h.get i≠some (.jl cs))\/∀cs,h.get j≠some (.jl cs))->g.b=k.b->i=j
structure Eff(β:aG)(h:IH)(w:World)(β':aG)(h':IH)(w':World):Prop where
 agree:∀i,i<h.next->β' i=β i
 next:h.next<=h'.next
 alive:∀i,i<h.next->h'.get i≠none->h.get i≠none
 hid:∀i,i<h.next->β i=none->h'.get i=h.get i
 low:h'.low<=h.low
 kept:∀i,i<h'.low->i<h.next->h'.get i=h.get i
 os:w'.os=w.os
 tape:w'.tape=w.tape
 output:w'.output=w.output
 size:w.heap.size<=w'.heap.size
 keep:∀b,b<w.heap.size->(∀i g,β i=some g->h.get i≠none->g.b≠b)->w'.heap[b]? =w.heap[b]?
 fresh:∀i g,β' i=some g->h.next<=i->w.heap.size<=g.b\/∃j k,β j=some k/\h.get j≠none/\k.b=g.b
 tq:∀i g,i<h'.low->i<h.next->β i=some g->h.get i≠none->g.b<w.heap.size->w'.heap[g.b]? =w.heap[g.b]?
 drawn:w.drawn<=w'.drawn
theorem Eff.refl(β:aG)(h:IH)(w:World)(hd:∀i g,β i=some g->i<h.next):Eff β h w β h w:=
 ⟨λ_ _=>rfl,bT _,λ_ _ h=>h,λ_ _ _=>rfl,bT _,λ_ _ _=>rfl,rfl,rfl,rfl,bT _,λ_ _ _=>rfl,
  λi g hg hi=>absurd (hd i g hg) (by omega),λ_ _ _ _ _ _ _=>rfl,bT _⟩
theorem Eff.le{β β':aG}{h h':IH}{w w':World}(e:Eff β h w β' h' w')(hd:∀i g,β i=some g->i<h.next):β.le β':=
 λi g hg=>(e.agree i (hd i g hg)).trans hg
theorem Eff.trans{β β1 β2:aG}{h h1 h2:IH}{w w1 w2:World}(e:Eff β h w β1 h1 w1)(f:Eff β1 h1 w1 β2 h2 w2):Eff β h w β2 h2 w2 where
 agree i hi:=(f.agree i (mM hi e.next)).trans (e.agree i hi)
 tq i g hl hi hg hn hb:=(f.tq i g hl (mM hi e.next) ((e.agree i hi).trans hg) (by rw[e.kept i (mM hl f.low) hi];exact hn) (mM hb e.size)).trans
  (e.tq i g (mM hl f.low) hi hg hn hb)
 next:=pQ e.next f.next
 drawn:=pQ e.drawn f.drawn
 alive i hi hn:=e.alive i hi (f.alive i (mM hi e.next) hn)
 hid i hi hb:=(f.hid i (mM hi e.next) ((e.agree i hi).trans hb)).trans (e.hid i hi hb)
 low:=pQ f.low e.low
 kept i hl hi:=(f.kept i hl (mM hi e.next)).trans (e.kept i (mM hl f.low) hi)
 os:=f.os.trans e.os
 tape:=f.tape.trans e.tape
 output:=f.output.trans e.output
 size:=pQ e.size f.size
 keep b hb hno:=by
  refine(f.keep b (mM hb e.size) λi g hg hn he=>?_).trans (e.keep b hb hno);by_cases hi:i<h.next
  ·exact hno i g (by rw[<- e.agree i hi];exact hg) (e.alive i hi hn) he
  ·rcases e.fresh i g hg (by omega)with hf|⟨j,k,hk,hj,hkb⟩
   ·omega
   ·exact hno j k hk hj (hkb.trans he)
 fresh i g hg hi:=by
  by_cases hi1:i<h1.next
  ·exact e.fresh i g (by rw[<- f.agree i hi1];exact hg) hi
  ·rcases f.fresh i g hg (by omega)with hf|⟨j,k,hk,hj,hkb⟩
   ·exact .inl (pQ e.size hf)
   ·by_cases hjn:j<h.next
    ·exact .inr ⟨j,k,by rw[<- e.agree j hjn];exact hk,e.alive j hjn hj,hkb⟩
    ·rcases e.fresh j k hk (by omega)with hf'|⟨j',k',hk',hj',hkb'⟩
     ·exact .inl (hkb▸hf')
     ·exact .inr ⟨j',k',hk',hj',hkb'.trans hkb⟩
end Go.Ideal
namespace Go.Ideal
variable {P:Program}
theorem gp.mono{β β':aG}(h:β.le β'){l l':List MapEntry}(he:gp β l l'):gp β' l l':=by
 induction he with
 |nil=>exact .nil
 |cons hk hf hb hv _ ih=>exact .cons hk hf hb (hv.mono h) ih
theorem LR.mono{β β':aG}(h:β.le β'){r:oV}{r':Loop}(k:LR P β r r'):LR P β' r r':=
 ⟨k.state,k.pending,k.D6,k.size,λi=>(k.tmps i).mono h,k.out,k.params,k.assign,k.body,let⟨g,h1,h2⟩:=k.defers;⟨g,h _ _ h1,h2⟩,k.Ca⟩
theorem OR.mono{β β':aG}(h:β.le β'){g:iJ}{w:World}{o:dN}(k:OR P β g w o):OR P β' g w o:=by
 cases o with
 |cells cs=>
  obtain⟨h1,h2,h3,h5,h6,h7⟩:=k;exact⟨h1,h2,h3,h5,h6,λj v hj=>let⟨v',a,b⟩:=h7 j v hj;⟨v',a,b.mono h⟩⟩
 |jl cs=>obtain⟨h1,h2,h6,h7⟩:=k;exact⟨h1,h2,h6,λj v hj=>let⟨v',a,b⟩:=h7 j v hj;⟨v',a,b.mono h⟩⟩
 |map es clock=>obtain⟨es',h1,h2⟩:=k;exact⟨es',h1,h2.mono h⟩
 |zX s pos=>exact k
 |mapIter m since seen stepped=>obtain⟨m',seen',h1,h2,h3,h4⟩:=k;exact⟨m',seen',h1,h2,h3.mono h,h4⟩
 |loop r=>obtain⟨r',h1,h2⟩:=k;exact⟨r',h1,h2.mono h⟩
 |jb b=>exact k
theorem OR.congr{β:aG}{g:iJ}{w w':World}{o:dN}(hw:w'.heap[g.b]? =w.heap[g.b]?)(k:OR P β g w o):OR P β g w' o:=by
 have hc:∀j,w'.cell? ⟨g.b,j,none⟩=w.cell? ⟨g.b,j,none⟩:=λj=>World.cell?_of_block hw;have hf:∀j,w'.frozen? ⟨g.b,j,none⟩=w.frozen? ⟨g.b,j,none⟩:=λj=>World.frozen?_of_block hw;cases o<;>simp only[OR,hw,hc,hf]at *<;>exact k
theorem OR.lt{β:aG}{g:iJ}{w:World}{o:dN}(k:OR P β g w o):g.b<w.heap.size:=by
 have:w.heap[g.b]?≠none:=by
  cases o with
  |cells cs=>obtain⟨⟨c,t,fz,h1⟩,_⟩:=k;rw[h1];simp
  |jl cs=>obtain⟨⟨c,t,fz,h1,_⟩,_⟩:=k;rw[h1];simp
  |map es clock=>obtain⟨es',h1,_⟩:=k;rw[h1];simp
  |zX s pos=>have h1:=k.1;rw[h1];simp
  |mapIter m since seen stepped=>obtain⟨m',seen',h1,_⟩:=k;rw[h1];simp
  |loop r=>obtain⟨r',h1,_⟩:=k;rw[h1];simp
  |jb b=>have h1:w.heap[g.b]? =_:=k;rw[h1];simp
 rcases rq g.b w.heap.size with h|h
 ·exact h
 ·exact absurd (uo h) this
def aG.add(β:aG)(i:Nat)(g:iJ):aG:=λj=>if j=i then some g else β j
theorem aG.mh(β:aG)(i:Nat)(g:iJ):β.add i g i=some g:=by simp[aG.add]
theorem aG.lq(β:aG){i j:Nat}(g:iJ)(h:j≠i):β.add i g j=β j:=by simp[aG.add,h]
theorem aG.xm{β:aG}{i:Nat}(g:iJ)(h:β i=none):β.le (β.add i g):=λj k hj=>by
 by_cases e:j=i
 ·subst e;rw[h]at hj;cases hj
 ·rw[aG.lq _ _ e];exact hj
section
variable {β:aG} {h:IH} {w:World}
theorem WR.yM(hW:WR P β h w):β h.next=none:=by
 cases hb:β h.next with
 |none=>rfl
 |some g=>exact absurd (hW.dom _ _ hb) (Nat.lt_irrefl _)
theorem WR.uH{w':World}(hW:WR P β h w)(hh:w'.heap=w.heap):WR P β h w':=
 ⟨hW.dom,hW.live,λi g o h1 h2=>(hW.obj i g o h1 h2).congr (by rw[hh]),hW.inj⟩
theorem Eff.uH{w':World}(hd:∀i g,β i=some g->i<h.next)(h1:w'.heap=w.heap)(h2:w'.os=w.os)(h3:w'.tape=w.tape)(h4:w'.output=w.output)(h5:w.drawn<=w'.drawn:=by first|exact bT _|exact BI _|fail):Eff β h w β h w':=
 ⟨λ_ _=>rfl,bT _,λ_ _ h=>h,λ_ _ _=>rfl,bT _,λ_ _ _=>rfl,h2,h3,h4,by rw[h1];exact bT _,λ_ _ _=>by rw[h1],
  λi g hg hi=>absurd (hd i g hg) (by omega),λ_ _ _ _ _ _ _=>by rw[h1],h5⟩
theorem WR.alloc(hW:WR P β h w)(o:dN)(o':Obj)(g:iJ)(hg:g.b=w.heap.size){w1:World}(hw1:w1={w with heap:=w.heap.push o'})
 (ho:OR P (β.add h.next g) g w1 o):WR P (β.add h.next g) (h.new o) w1/\Eff β h w (β.add h.next g) (h.new o) w1:=by
 have hle:β.le (β.add h.next g):=aG.xm g hW.yM;have hheap:∀b,b<w.heap.size->w1.heap[b]? =w.heap[b]?:=λb hb=>by
  subst hw1;simp only[Ga];rw[if_neg (by omega)]
 refine⟨⟨?_,?_,?_,?_⟩,⟨?_,?_,?_,?_,?_,?_,?_,?_,?_,?_,?_,?_,λ_ _ _ _ _ _ hb=>hheap _ hb,by subst hw1;exact bT _⟩⟩
 ·intro i k hk;rw[IH.KF];by_cases e:i=h.next
  ·omega
  ·rw[aG.lq _ _ e]at hk;have:=hW.dom _ _ hk;omega
 ·intro i x hx;rw[IH.KF];rw[IH.jc]at hx;split at hx
  ·omega
  ·have:=hW.live _ _ hx;omega
 ·intro i k x hk hx;rw[IH.jc]at hx;by_cases e:i=h.next
  ·subst e;rw[aG.mh]at hk;cases hk;rw[if_pos rfl]at hx;cases hx;exact ho
  ·rw[aG.lq _ _ e]at hk;rw[if_neg e]at hx;have:=hW.obj _ _ _ hk hx;exact(this.mono hle).congr (hheap _ this.lt)
 ·intro i j k l hk hl hi hj hr he;rw[IH.jc]at hi hj;by_cases ei:i=h.next
  ·by_cases ej:j=h.next
   ·omega
   ·rw[aG.lq _ _ ej]at hl;rw[if_neg ej]at hj;subst ei;rw[aG.mh]at hk;cases hk;cases hx:h.get j with
    |none=>exact absurd hx hj
    |some x=>have:=(hW.obj _ _ _ hl hx).lt;omega
  ·rw[aG.lq _ _ ei]at hk;rw[if_neg ei]at hi;by_cases ej:j=h.next
   ·subst ej;rw[aG.mh]at hl;cases hl;cases hx:h.get i with
    |none=>exact absurd hx hi
    |some x=>have:=(hW.obj _ _ _ hk hx).lt;omega
   ·rw[aG.lq _ _ ej]at hl;rw[if_neg ej]at hj;exact hW.inj _ _ _ _ hk hl hi hj (hr.imp (λq cs e=>q cs (by rw[IH.jc,if_neg ei];exact e)) (λq cs e=>q cs (by rw[IH.jc,if_neg ej];exact e))) he
 ·intro i hi;exact aG.lq _ _ (by omega)
 ·rw[IH.KF];omega
 ·intro i hi hn;rw[IH.jc,if_neg (by omega)]at hn;exact hn
 ·intro i hi _;rw[IH.jc,if_neg (by omega)]
 ·exact bT _
 ·intro i _ hi;rw[IH.jc,if_neg (by omega)]
 ·subst hw1;rfl
 ·subst hw1;rfl
 ·subst hw1;rfl
 ·subst hw1;simp
 ·intro b hb _;exact hheap b hb
 ·intro i k hk hi;by_cases e:i=h.next
  ·subst e;rw[aG.mh]at hk;cases hk;exact .inl (by omega)
  ·rw[aG.lq _ _ e]at hk;exact absurd (hW.dom _ _ hk) (by omega)
theorem WR.write(hW:WR P β h w){i:Nat}{g:iJ}(hi:β i=some g){o0:dN}(h0:h.get i=some o0)(o:dN){w1:World}
 (hsz:w1.heap.size=w.heap.size) (hheap:∀b,b≠g.b->w1.heap[b]? =w.heap[b]?) (hos:w1.os=w.os) (Ag:w1.tape=w.tape) (hout:w1.output=w.output) (hdr:w.drawn<=w1.drawn)
 (ho:OR P β g w1 o) (hnr:∀cs,o0≠.jl cs:=by intro cs e;cases e):WR P β (h.set i o) w1/\Eff β h w β (h.set i o) w1:=by
 have hni:∀cs,h.get i≠some (.jl cs):=λcs e=>hnr cs (by rw[h0]at e;exact Option.some.inj e);refine⟨⟨?_,?_,?_,?_⟩,⟨?_,?_,?_,?_,?_,?_,hos,Ag,hout,?_,?_,?_,?_,hdr⟩⟩
 ·exact hW.dom
 ·intro j x hx;rw[IH.nH]at hx;split at hx
  ·subst_vars;exact hW.live _ _ h0
  ·exact hW.live _ _ hx
 ·intro j k x hk hx;rw[IH.nH]at hx;by_cases e:j=i
  ·subst e;rw[hi]at hk;cases hk;rw[if_pos rfl]at hx;cases hx;exact ho
  ·rw[if_neg e]at hx;refine(hW.obj _ _ _ hk hx).congr (hheap _ λhe=>e ?_);exact hW.inj _ _ _ _ hk hi (by rw[hx];simp) (by rw[h0];simp) (.inr hni) he
 ·intro j l k m hk hm hj hl hr he;have pass:∀x,(∀cs,(h.set i o).get x≠some (.jl cs))->∀cs,h.get x≠some (.jl cs):=λx q cs e=>by
   by_cases ex:x=i
   ·subst ex;exact hni cs e
   ·exact q cs (by rw[IH.nH,if_neg ex];exact e)
  refine hW.inj _ _ _ _ hk hm ?_ ?_ (hr.imp (pass _) (pass _)) he
  ·rw[IH.nH]at hj;split at hj
   ·subst_vars;rw[h0];simp
   ·exact hj
  ·rw[IH.nH]at hl;split at hl
   ·subst_vars;rw[h0];simp
   ·exact hl
 ·intro _ _;rfl
 ·exact bT _
 ·intro j hj hn;rw[IH.nH]at hn;split at hn
  ·subst_vars;rw[h0];simp
  ·exact hn
 ·intro j hj hb;rw[IH.nH,if_neg];intro e;subst e;rw[hi]at hb;cases hb
 ·rw[IH.GG];omega
 ·intro j hl hj;rw[IH.GG]at hl;rw[IH.nH,if_neg (by omega)]
 ·omega
 ·intro b hb hno;refine hheap b λe=>hno i g hi (by rw[h0];simp) e.symm
 ·intro j k hk hj;exact absurd (hW.dom _ _ hk) (by omega)
 ·intro j k hl hj hk hn hb;rw[IH.GG]at hl;refine hheap _ λhe=>?_;have:=hW.inj _ _ _ _ hk hi hn (by rw[h0];simp) (.inr hni) he;omega
theorem WR.drop(hW:WR P β h w){i:Nat}{g:iJ}(hi:β i=some g):WR P β (h.kill i) w/\Eff β h w β (h.kill i) w:=by
 refine⟨⟨hW.dom,?_,?_,?_⟩,⟨?_,?_,?_,?_,?_,?_,rfl,rfl,rfl,bT _,λ_ _ _=>rfl,?_,λ_ _ _ _ _ _ _=>rfl,bT _⟩⟩
 ·intro j x hx;rw[IH.uF]at hx;split at hx
  ·cases hx
  ·exact hW.live _ _ hx
 ·intro j k x hk hx;rw[IH.uF]at hx;split at hx
  ·cases hx
  ·exact hW.obj _ _ _ hk hx
 ·intro j l k m hk hm hj hl hr he;have pass:∀x,(h.kill i).get x≠none->(∀cs,(h.kill i).get x≠some (.jl cs))->∀cs,h.get x≠some (.jl cs):=λx hx q cs e=>by
   rw[IH.uF]at hx;by_cases ex:x=i
   ·rw[if_pos ex]at hx;exact hx rfl
   ·exact q cs (by rw[IH.uF,if_neg ex];exact e)
  have hr:=hr.imp (pass _ hj) (pass _ hl);rw[IH.uF]at hj hl;refine hW.inj _ _ _ _ hk hm ?_ ?_ hr he
  ·split at hj
   ·exact absurd rfl hj
   ·exact hj
  ·split at hl
   ·exact absurd rfl hl
   ·exact hl
 ·intro _ _;rfl
 ·exact bT _
 ·intro j hj hn;rw[IH.uF]at hn;split at hn
  ·exact absurd rfl hn
  ·exact hn
 ·intro j hj hb;rw[IH.uF,if_neg];intro e;subst e;rw[hi]at hb;cases hb
 ·rw[IH.Af];omega
 ·intro j hl hj;rw[IH.Af]at hl;rw[IH.uF,if_neg (by omega)]
 ·intro j k hk hj;exact absurd (hW.dom _ _ hk) (by omega)
theorem WR.XW(hW:WR P β h w){i:Nat}{g:iJ}(hi:β i=some g)(hlive:h.get i≠none)(hni:∀cs,h.get i≠some (.jl cs))(o:dN)(g1:iJ)(hg1:g1.b=g.b){w1:World}
 (hsz:w1.heap.size=w.heap.size) (hheap:∀b,b≠g.b->w1.heap[b]? =w.heap[b]?) (hos:w1.os=w.os) (Ag:w1.tape=w.tape) (hout:w1.output=w.output) (hdr:w.drawn<=w1.drawn)
 (ho:OR P (β.add h.next g1) g1 w1 o):WR P (β.add h.next g1) ((h.kill i).new o) w1/\Eff β h w (β.add h.next g1) ((h.kill i).new o) w1:=by
 have hle:β.le (β.add h.next g1):=aG.xm g1 hW.yM;have hin:i<h.next:=hW.dom _ _ hi
 have hget:∀j,((h.kill i).new o).get j=if j=h.next then some o else if j=i then none else h.get j:=λj=>by
  rw[IH.jc,IH.uF];rfl
 refine⟨⟨?_,?_,?_,?_⟩,⟨?_,?_,?_,?_,?_,?_,hos,Ag,hout,?_,?_,?_,?_,hdr⟩⟩
 ·intro j k hk;show j<h.next+1
  by_cases e:j=h.next
  ·omega
  ·rw[aG.lq _ _ e]at hk;have:=hW.dom _ _ hk;omega
 ·intro j x hx;show j<h.next+1
  rw[hget]at hx;split at hx
  ·omega
  ·split at hx
   ·cases hx
   ·have:=hW.live _ _ hx;omega
 ·intro j k x hk hx;rw[hget]at hx;by_cases e:j=h.next
  ·subst e;rw[aG.mh]at hk;cases hk;rw[if_pos rfl]at hx;cases hx;exact ho
  ·rw[aG.lq _ _ e]at hk;rw[if_neg e]at hx;split at hx
   ·cases hx
   ·rename_i hji;refine((hW.obj _ _ _ hk hx).mono hle).congr (hheap _ λhe=>hji ?_);exact hW.inj _ _ _ _ hk hi (by rw[hx];simp) hlive (.inr hni) he
 ·have key:∀j k,β j=some k->((h.kill i).new o).get j≠none->j≠h.next->k.b≠g.b:=λj k hk hj hjn he=>by
   rw[hget,if_neg hjn]at hj;split at hj
   ·exact hj rfl
   ·rename_i hji;exact hji (hW.inj _ _ _ _ hk hi hj hlive (.inr hni) he)
  intro j l k m hk hm hj hl hr he;have pass:∀x,x≠h.next->((h.kill i).new o).get x≠none->(∀cs,((h.kill i).new o).get x≠some (.jl cs))->∀cs,h.get x≠some (.jl cs):=λx lQ hx q cs e=>by
   rw[hget,if_neg lQ]at hx;by_cases ex:x=i
   ·rw[if_pos ex]at hx;exact hx rfl
   ·exact q cs (by rw[hget,if_neg lQ,if_neg ex];exact e)
  by_cases ej:j=h.next
  ·by_cases el:l=h.next
   ·omega
   ·subst ej;rw[aG.mh]at hk;cases hk;rw[aG.lq _ _ el]at hm;exact absurd (he.symm.trans hg1) (key l m hm hl el)
  ·rw[aG.lq _ _ ej]at hk;by_cases el:l=h.next
   ·subst el;rw[aG.mh]at hm;cases hm;exact absurd (he.trans hg1) (key j k hk hj ej)
   ·rw[aG.lq _ _ el]at hm;have hr:=hr.imp (pass _ ej hj) (pass _ el hl);rw[hget,if_neg ej]at hj;rw[hget,if_neg el]at hl;refine hW.inj _ _ _ _ hk hm ?_ ?_ hr he
    ·split at hj
     ·exact absurd rfl hj
     ·exact hj
    ·split at hl
     ·exact absurd rfl hl
     ·exact hl
 ·intro j hj;exact aG.lq _ _ (by omega)
 ·show h.next<=h.next+1;omega
 ·intro j hj hn;rw[hget,if_neg (by omega)]at hn;split at hn
  ·exact absurd rfl hn
  ·exact hn
 ·intro j hj hb;rw[hget,if_neg (by omega),if_neg];intro e;subst e;rw[hi]at hb;cases hb
 ·show(h.kill i).low<=h.low;rw[IH.Af];omega
 ·intro j hl hj;have hl':j<(h.kill i).low:=hl;rw[IH.Af]at hl';rw[hget,if_neg (by omega),if_neg (by omega)]
 ·omega
 ·intro b hb hno;exact hheap b λe=>hno i g hi hlive e.symm
 ·intro j k hk hj;by_cases e:j=h.next
  ·subst e;rw[aG.mh]at hk;cases hk;exact .inr ⟨i,g,hi,hlive,hg1.symm⟩
  ·rw[aG.lq _ _ e]at hk;exact absurd (hW.dom _ _ hk) (by omega)
 ·intro j k hl hj hk hn hb;rw[IH.KG,IH.Af]at hl;refine hheap _ λhe=>?_;have:=hW.inj _ _ _ _ hk hi hn hlive (.inr hni) he;omega
end
end Go.Ideal
namespace Go.Ideal
variable {P:Program} {β:aG} {h:IH} {w:World}
theorem addr_add(b o j:Nat):(⟨b,o,none⟩:Addr).add j=⟨b,o+j,none⟩:=by unfold Addr.add;split<;>simp_all
theorem fJ{t:TypeId}{d:TypeDesc}(h:P.underlying t=some d)(w:World):(underlying t).run P w=.ok d w:=by
 simp[underlying,h]
theorem mP{t:TypeId}{n:Nat}(h:jB P t=some n)(w:World):(sizeOf t).run P w=.ok n w:=by
 unfold jB at h;cases hi:P.info? t with
 |none=>simp[hi]at h
 |some i=>simp[hi]at h;simp[sizeOf,typeInfo,hi,h]
theorem D7{t:TypeId}{i:TypeInfo}(h:P.info? t=some i)(w:World):(typeInfo t).run P w=.ok i w:=by
 simp[typeInfo,h]
theorem Cb{t:TypeId}{z:Value}(h:zeroOf P t=some z):∃i,P.info? t=some i/\i.zero=some z/\cK z=true:=by
 unfold zeroOf at h;cases hi:P.info? t with
 |none=>simp[hi]at h
 |some i=>
  simp only[hi,iX]at h;cases hz:i.zero with
  |none=>simp[hz]at h
  |some z'=>
   simp only[hz]at h;split at h
   ·cases h;exact⟨i,rfl,hz,by assumption⟩
   ·cases h
theorem Cc{t:TypeId}{z:Value}(h:zeroOf P t=some z)(w:World):(zeroValue t).run P w=.ok z w:=by
 obtain⟨i,h1,h2,_⟩:=Cb h;simp[zeroValue,typeInfo,h1,h2]
theorem Ce{t:TypeId}{d:TypeDesc}(h:P.underlying t=some d)(w:World):(isAgg t).run P w=.ok (jC P t) w:=by
 simp only[isAgg,dG,fJ h,dJ,jC,h];cases d<;>rfl
theorem Qp{t:TypeId}(h:jC P t=true):∃d,P.underlying t=some d:=by
 unfold jC at h;cases hu:P.underlying t with
 |none=>simp[hu]at h
 |some d=>exact⟨d,rfl⟩
theorem GH(hW:WR P β h w){i:Nat}{g:iJ}(hi:β i=some g){cs:List Value}(hg:h.get i=some (.cells cs)\/h.get i=some (.jl cs)){o n:Nat}{l:List Value}
 (hl:jf (jH cs o) n=some l):
 l.length=n/\l.all cellV=true/\∃l',aW β l l'/\∀(j:Nat) v,l'[j]? =some v->w.cell? ⟨g.b,g.off+o+j,none⟩=some v:=by
 obtain⟨h6,h7⟩:cs.all cellV=true/\∀(j:Nat) v,cs[j]? =some v->∃v',w.cell? ⟨g.b,g.off+j,none⟩=some v'/\VR β v v':=by
  rcases hg with hg|hg
  ·obtain⟨_,_,_,_,h6,h7⟩:=hW.obj i g _ hi hg;exact⟨h6,h7⟩
  ·obtain⟨_,_,h6,h7⟩:=hW.obj i g _ hi hg;exact⟨h6,h7⟩
 rw[qD,p9]at hl;split at hl
 ·rename_i hn;cases hl;refine⟨by simp at hn⊢;omega,?_,?_⟩
  ·rw[lK]at h6⊢;exact λx hx=>h6 x (List.mem_of_mem_drop (BJ hx))
  ·have key:∀k:Nat,k<=n->∃l',aW β ((cs.drop o).take k) l'/\∀(j:Nat) v,l'[j]? =some v->w.cell? ⟨g.b,g.off+o+j,none⟩=some v:=by
    intro k;induction k with
    |zero=>intro _;exact⟨[],by simpa using aW.nil,λj v hj=>by simp at hj⟩
    |succ k ih=>
     intro hk;obtain⟨l',h1,h2'⟩:=ih (by omega);have hlt:k<(cs.drop o).length:=by omega
     obtain⟨v',hv1,hv2⟩:=h7 (o+k) ((cs.drop o)[k]) (by rw[<- oO];exact bP hlt);refine⟨l'++[v'],?_,λj v hj=>?_⟩
     ·rw[List.take_succ_eq_append_getElem hlt];exact h1.append (.cons hv2 .nil)
     ·have hlen:=h1.length;simp at hlen hlt;by_cases hjl:j<l'.length
      ·rw[qp hjl]at hj;exact h2' j v hj
      ·have hjk:j=l'.length:=by
        rcases rq j (l'++[v']).length with hh|hh
        ·simp at hh;omega
        ·rw[fO hh]at hj;cases hj
       subst hjk;simp at hj;subst hj;rw[show g.off+o+l'.length=g.off+(o+k)by omega];exact hv1
   exact key n (bT _)
 ·cases hl
theorem KM{b o:Nat}{l:List Value}{n:Nat}(hn:l.length=n)(hc:∀(j:Nat) v,l[j]? =some v->w.cell? ⟨b,o+j,none⟩=some v):
 (loadCells ⟨b,o,none⟩ n).run P w=.ok l.toArray w:=by
 subst hn;exact run_loadCells_list w _ l λj v hj=>by rw[addr_add];exact hc j v hj
theorem Qq{h:IH}{i o n:Nat}{l:List Value}(hl:h.nR i o n=some l):∃cs,h.get i=some (.cells cs)/\jf (jH cs o) n=some l:=by
 unfold IH.nR at hl;split at hl
 ·exact⟨_,by assumption,hl⟩
 ·cases hl
theorem Cf{h:IH}{i o n:Nat}{l:List Value}(hl:h.iM i o n=some l):∃cs,(h.get i=some (.cells cs)\/h.get i=some (.jl cs))/\jf (jH cs o) n=some l:=by
 unfold IH.iM at hl;split at hl
 ·exact⟨_,.inl (by assumption),hl⟩
 ·exact⟨_,.inr (by assumption),hl⟩
 ·cases hl
theorem Qr{h:IH}{i o:Nat}{v:Value}(hl:h.om i o=some v):∃cs,(h.get i=some (.cells cs)\/h.get i=some (.jl cs))/\jU cs o=some v:=by
 unfold IH.om at hl;split at hl
 ·exact⟨_,.inl (by assumption),hl⟩
 ·exact⟨_,.inr (by assumption),hl⟩
 ·cases hl
theorem XX{h h2:IH}(hs:∀i o,h.get i=some o->h2.get i=some o){i o:Nat}{v:Value}(hl:h.om i o=some v):h2.om i o=some v:=by
 obtain⟨cs,hg|hg,h1⟩:=Qr hl
 ·simp only[IH.om,hs _ _ hg,h1]
 ·simp only[IH.om,hs _ _ hg,h1]
theorem Qs{h h2:IH}(hs:∀i o,h.get i=some o->h2.get i=some o){i o n:Nat}{l:List Value}(hl:h.iM i o n=some l):h2.iM i o n=some l:=by
 obtain⟨cs,hg|hg,h1⟩:=Cf hl
 ·simp only[IH.iM,hs _ _ hg,h1]
 ·simp only[IH.iM,hs _ _ hg,h1]
theorem KN(b:Nat):∀(vs:List Value) (o:Nat) (w:World),(w.setCells b o vs).drawn=w.drawn
 |[],_,_=>rfl
 |v::vs,o,w=>by
  show((w.setCell ⟨b,o,none⟩ v).setCells b (o+1) vs).drawn=_;rw[KN b vs];rfl
theorem KP(hW:WR P β h w){i:Nat}{g:iJ}(hi:β i=some g){o:Nat}{vs vs':List Value}{h':IH}(hs:h.storeAt i o vs=some h')(hv:aW β vs vs')(hall:vs.all cellV=true):
 (∀k,k=0->(storeCells ⟨g.b,g.off+o,none⟩ vs' k).run P w=.ok () (w.setCells g.b (g.off+o) vs'))/\WR P β h' (w.setCells g.b (g.off+o) vs')/\Eff β h w β h' (w.setCells g.b (g.off+o) vs'):=by
 unfold IH.storeAt at hs;split at hs
 ·rename_i cs hg;split at hs
  ·rename_i cs2 hl;cases hs;obtain⟨h1,h2,h3,h5,h6,h7⟩:=hW.obj i g _ hi hg;obtain⟨l1,l2,l3⟩:=KJ hl;have hlen:vs'.length=vs.length:=hv.length;have hin:∀j,j<vs'.length->g.off+o+j<g.top:=λj hj=>by omega
   have hone:∀v∈vs',v.oneCell'=true:=λv hv'=>by
    obtain⟨j,hj⟩:=jS hv';have hjl:j<vs.length:=by
     rcases rq j vs'.length with hh|hh
     ·omega
     ·rw[fO hh]at hj;cases hj
    obtain⟨v2,hv2,hr⟩:=hv.get (bP hjl);rw[hv2]at hj;cases hj;have hc:=(lK.1 hall) _ (vF hjl);obtain⟨a,b⟩:=hr.cellV hc;cases v<;>first|rfl|exact absurd rfl (a _)|exact absurd rfl (b _)
   have hrun:∀k,k=0->(storeCells ⟨g.b,g.off+o,none⟩ vs' k).run P w=.ok () (w.setCells g.b (g.off+o) vs'):=λk hk=>by
    subst hk;have:=run_storeCells_cells (P:=P) g.b (g.off+o) vs' 0 w (λj hj=>(h5 _ (hin j hj)).1) (λj hj=>(h5 _ (hin j hj)).2) hone;simpa using this
   have hsz:(w.setCells g.b (g.off+o) vs').heap.size=w.heap.size:=by
    have Ah:∀(vs:List Value) (o:Nat) (w:World),(w.setCells g.b o vs).heap.size=w.heap.size:=by
     intro vs;induction vs with
     |nil=>intro o w;rfl
     |cons v vs ih=>intro o w;show((w.setCell ⟨g.b,o,none⟩ v).setCells g.b (o+1) vs).heap.size=_;rw[ih];simp
    exact Ah _ _ _
   have hother:∀b,b≠g.b->(w.setCells g.b (g.off+o) vs').heap[b]? =w.heap[b]?:=by
    have Ah:∀(vs:List Value) (o:Nat) (w:World) (b:Nat),b≠g.b->(w.setCells g.b o vs).heap[b]? =w.heap[b]?:=by
     intro vs;induction vs with
     |nil=>intro o w b _;rfl
     |cons v vs ih=>intro o w b hb;show((w.setCell ⟨g.b,o,none⟩ v).setCells g.b (o+1) vs).heap[b]? =_;rw[ih _ _ _ hb,Go.RowKit.Below.heap_setCell _ _ _ _ hb]
    exact Ah _ _ _
   have hsame:∃c t fz,(w.setCells g.b (g.off+o) vs').heap[g.b]? =some (.cells c t fz):=by
    have Ah:∀(vs:List Value) (o:Nat) (w:World),(∃c t fz,w.heap[g.b]? =some (.cells c t fz))->∃c t fz,(w.setCells g.b o vs).heap[g.b]? =some (.cells c t fz):=by
     intro vs;induction vs with
     |nil=>intro o w hh;exact hh
     |cons v vs ih=>
      intro o w ⟨c,t,fz,hh⟩;refine ih _ _ ⟨c.setIfInBounds o v,t,fz,?_⟩;simp[World.setCell,Array.getElem?_modify,hh]
    exact Ah _ _ _ h1
   have Ag:(w.setCells g.b (g.off+o) vs').tape=w.tape:=by
    have Ah:∀(vs:List Value) (o:Nat) (w:World),(w.setCells g.b o vs).tape=w.tape:=by
     intro vs;induction vs with
     |nil=>intro o w;rfl
     |cons v vs ih=>intro o w;show((w.setCell ⟨g.b,o,none⟩ v).setCells g.b (o+1) vs).tape=_;rw[ih];rfl
    exact Ah _ _ _
   have hos:=(PE g.b (may:=λ_=>True) vs' (g.off+o) w (λ_ _=>trivial)).1;have hout:=(PE g.b (may:=λ_=>True) vs' (g.off+o) w (λ_ _=>trivial)).2.1;have hdr:w.drawn<=(w.setCells g.b (g.off+o) vs').drawn:=by rw[KN];exact bT _
   refine⟨hrun,?_⟩;refine hW.write hi hg (.cells cs2) hsz hother hos Ag hout hdr ⟨hsame,by omega,h3,?_,?_,?_⟩
   ·intro j hj;refine⟨?_,by rw[World.frozen?_setCells];exact(h5 j hj).2⟩;by_cases hr:g.off+o<=j/\j<g.off+o+vs'.length
    ·have:=PG g.b vs' (g.off+o) w (λk hk=>(h5 _ (hin k hk)).1) (j - (g.off+o)) (by omega);rw[show g.off+o+(j - (g.off+o))=j by omega]at this;rw[this];simp
    ·rw[PI g.b vs' (g.off+o) w ⟨g.b,j,none⟩ (λ_ _=>by simp;omega)];exact(h5 j hj).1
   ·rw[lK]at h6 hall⊢;intro x hx;obtain⟨j,hj⟩:=jS hx;rw[l3]at hj;split at hj
    ·exact hall x (aZ hj)
    ·exact h6 x (aZ hj)
   ·intro j v hj;rw[l3]at hj;split at hj
    ·rename_i hr;obtain⟨v',hv1,hv2⟩:=hv.get hj;refine⟨v',?_,hv2⟩;have hlt:j - o<vs'.length:=by omega
     have:=PG g.b vs' (g.off+o) w (λk hk=>(h5 _ (hin k hk)).1) (j - o) hlt;rw[show g.off+o+(j - o)=g.off+j by omega]at this;rw[this];rw[bP hlt]at hv1;exact hv1
    ·rename_i hr;obtain⟨v',hv1,hv2⟩:=h7 j v hj;refine⟨v',?_,hv2⟩;rw[PI g.b vs' (g.off+o) w ⟨g.b,g.off+j,none⟩ (λ_ _=>by simp;omega)];exact hv1
  ·cases hs
 ·cases hs
def Good(P:Program)(β:aG)(h:IH)(w:World)(s:Sem Next)(v:Value)(h':IH):Prop:=
 ∃r w' β' v',s.run P w=.ok r w'/\(r=.value v'\/(r=.skip/\v'=undef))/\VR β' v v'/\WR P β' h' w'/\Eff β h w β' h' w'
theorem Good.same(hW:WR P β h w){s:Sem Next}{v v':Value}(hr:s.run P w=.ok (.value v') w)(hv:VR β v v'):Good P β h w s v h:=
 ⟨_,w,β,v',hr,.inl rfl,hv,hW,Eff.refl _ _ _ hW.dom⟩
def uI(P:Program)(β:aG)(w:World)(s:Sem Next)(f:Nat->Value)(o:dN):Prop:=
 ∃v' o' g,s.run P w=.ok (.value v') {w with heap:=w.heap.push o'}/\g.b=w.heap.size/\
  ∀(i:Nat) (β':aG),β.le β'->β' i=some g->VR β' (f i) v'/\OR P β' g {w with heap:=w.heap.push o'} o
theorem uI.good(hW:WR P β h w){s:Sem Next}{f:Nat->Value}{o:dN}(hm:uI P β w s f o):Good P β h w s (f h.next) (h.new o):=by
 obtain⟨v',o',g,h1,h2,h3⟩:=hm;have hle:=aG.xm (β:=β) g hW.yM;obtain⟨a,b⟩:=hW.alloc o o' g h2 rfl (h3 h.next _ hle (aG.mh _ _ _)).2;exact⟨_,_,_,v',h1,.inl rfl,(h3 h.next _ hle (aG.mh _ _ _)).1,a,b⟩
theorem OR.GI{β:aG}{w:World}{cs cs':List Value}(t:TypeId)(h:aW β cs cs')(hc:cs.all cellV=true)(rest:List Value)(sz:Nat):
 OR P β ⟨w.heap.size,0,cs.length,cs.length+rest.length,sz⟩ {w with heap:=w.heap.push (.cells ⟨cs'++rest⟩ t)} (.cells cs):=by
 have hb:({w with heap:=w.heap.push (.cells ⟨cs'++rest⟩ t)}:World).heap[w.heap.size]? =some (.cells ⟨cs'++rest⟩ t):=by simp
 refine⟨⟨_,_,_,hb⟩,rfl,by simp,λj hj=>⟨?_,?_⟩,hc,λj v hj=>?_⟩
 ·simp only[World.cell?,hb];simp;have:=h.length;simp at hj;omega
 ·simp[World.frozen?]
 ·obtain⟨v',h1,h2⟩:=h.get hj;refine⟨v',?_,h2⟩;simp only[World.cell?,hb];simp;rw[qp]
  ·exact h1
  ·rcases rq j cs'.length with hh|hh
   ·exact hh
   ·rw[fO hh]at h1;cases h1
