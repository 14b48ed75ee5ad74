/-
  The ideal machine, 1: its heap, its acts, its operations (compiled from the model's), and the relation EV, CALL: what code does on it.
-/
import Derived.KernelRfl
import GoSem.Step
import Derived.Below
import Derived.Laws.IdiomCopy
import Derived.Laws.Cells
import Derived.Laws.Entries
set_option linter.all false
abbrev au:=@Option.some.injEq
abbrev aC:=@Nat.le_refl
abbrev aS:=@List.mem_cons_self
abbrev bz:=@Prod.mk.injEq
abbrev bD:=@Go.Sem.run_bind
abbrev bF:=@Go.Result.andThen_ok
abbrev bH:=@List.getElem?_eq_getElem
abbrev bI:=@List.length_map
abbrev bW:=@List.mem_cons_of_mem
abbrev bZ:=@List.mem_cons
abbrev cB:=@List.mem_singleton
abbrev cK:=@List.getElem?_map
abbrev cO:=@Nat.le_trans
abbrev cZ:=@Go.Sem.run_pure
abbrev dw:=@List.nil_append
abbrev dA:=@List.mem_of_getElem?
abbrev dB:=@Nat.zero_add
abbrev dK:=@List.length_append
abbrev dM:=@List.map_append
abbrev dU:=@List.getElem?_eq_some_iff
abbrev dY:=@Nat.zero_le
abbrev fo:=@Bool.and_eq_true
abbrev fB:=@List.length_take
abbrev fC:=@List.cons_append
abbrev fI:=@List.mem_append
abbrev fJ:=@List.append_nil
abbrev fK:=@decide_eq_true
abbrev gq:=@decide_eq_false
abbrev gz:=@List.mem_map
abbrev gY:=@List.append_assoc
abbrev iA:=@Option.bind_some
abbrev iB:=@List.take_length
abbrev iJ:=@Option.map_some
abbrev iV:=@List.getElem?_drop
abbrev iW:=@List.getElem?_append_left
abbrev iX:=@List.getElem?_eq_none
abbrev iY:=@List.length_drop
abbrev jy:=@Nat.lt_of_lt_of_le
abbrev jA:=@List.all_eq_true
abbrev jB:=@Nat.mul_one
abbrev jW:=@Nat.le_of_ble_eq_true
abbrev jX:=@List.ext_getElem?
abbrev kz:=@Option.map_eq_some_iff
abbrev lc:=@List.map_cons
abbrev lg:=@Nat.add_mul
abbrev lN:=@List.getElem?_append_right
abbrev lQ:=@Nat.add_assoc
abbrev mq:=@Nat.ble_eq
abbrev mD:=@List.mem_append_left
abbrev nA:=@Nat.eq_of_beq_eq_true
abbrev nC:=@List.mem_append_right
abbrev nW:=@List.getElem?_cons_succ
abbrev nX:=@Nat.lt_or_ge
abbrev nY:=@Array.getElem?_eq_none
abbrev nZ:=@List.length_cons
abbrev og:=@Nat.zero_mul
abbrev oh:=@List.getD_eq_getElem?_getD
abbrev oM:=@List.getElem?_of_mem
abbrev oN:=@Nat.blt_eq
abbrev oO:=@Array.getD_eq_getD_getElem?
abbrev qb:=@Bool.false_eq_true
abbrev qc:=@List.length_eq_zero_iff
abbrev qd:=@List.getElem?_take
abbrev qf:=@List.length_nil
abbrev qg:=@Nat.sub_zero
abbrev qh:=@List.nodup_append
abbrev qi:=@List.drop_zero
abbrev qj:=@List.length_singleton
abbrev rE:=@Nat.add_zero
abbrev rF:=@List.length_pos_iff
abbrev rG:=@List.flatten_cons
abbrev rH:=@List.take_of_length_le
abbrev rJ:=@Decidable.not_not
abbrev sJ:=@Nat.lt_succ_self
abbrev sK:=@Array.getElem?_toList
abbrev sM:=@Nat.mod_lt
abbrev sN:=@of_decide_eq_true
abbrev uB:=@Nat.le_succ
abbrev uC:=@Array.mem_append
abbrev uD:=@Nat.beq_refl
abbrev uE:=@Nat.sub_self
abbrev uF:=@List.mem_map_of_mem
abbrev uG:=@List.drop_eq_nil_of_le
abbrev wu:=@List.all_cons
abbrev ww:=@decide_eq_true_eq
abbrev wy:=@and_true
abbrev wz:=@List.mem_range
abbrev wB:=@Int.eq_ofNat_of_zero_le
abbrev wC:=@List.any_eq_true
abbrev wD:=@List.map_set
abbrev xO:=@List.mem_of_mem_take
abbrev xP:=@Bool.or_eq_true
abbrev xQ:=@Nat.mul_comm
abbrev xR:=@List.getElem?_cons_zero
abbrev xS:=@List.cons.injEq
abbrev xU:=@List.take_append_drop
abbrev xV:=@Nat.one_mul
abbrev xW:=@decide_eq_decide
abbrev xX:=@List.flatten_nil
abbrev xY:=@List.length_replicate
abbrev zL:=@Nat.ne_of_beq_eq_false
abbrev zM:=@Nat.ble_eq_true_of_le
abbrev zN:=@List.getElem?_range
abbrev zO:=@Nat.eq_zero_or_pos
abbrev zP:=@Bool.eq_iff_iff
abbrev zQ:=@List.getElem?_toArray
abbrev zR:=@List.not_mem_nil
abbrev zS:=@Bool.and_self
abbrev zT:=@List.nodup_cons
abbrev zU:=@Nat.lt_of_le_of_lt
abbrev zV:=@List.drop_eq_getElem_cons
abbrev zW:=@List.map_map
abbrev Cx:=@Array.getElem?_push
abbrev Cy:=@List.foldl_cons
abbrev Cz:=@Array.getElem?_setIfInBounds_ne
abbrev CB:=@Bool.not_eq_true'
abbrev CE:=@List.contains_iff_mem
abbrev CF:=@List.mem_filter
abbrev CG:=@List.map_id
abbrev CJ:=@List.sum_append
abbrev Gc:=@Array.toList_map
abbrev Gd:=@Option.getD_some
abbrev Gf:=@Bool.or_false
abbrev Gg:=@List.range_eq_range'
abbrev Gh:=@List.replicate_succ
abbrev Gi:=@Nat.lt_succ_of_lt
abbrev Gj:=@of_decide_eq_false
abbrev Gl:=@List.nodup_nil
abbrev Gm:=@List.flatMap_cons
abbrev Gn:=@Nat.shiftRight_le
abbrev Ld:=@Go.World.keptBut_setCells
abbrev Lf:=@Go.World.cell?_setCells_in
abbrev Lg:=@Go.World.cell?_setCells_out
abbrev Lh:=@Array.foldl_toList
abbrev Li:=@Option.isSome_iff_exists
abbrev Lj:=@List.extract_eq_take_drop
abbrev Ll:=@Array.ext_getElem?
abbrev Lm:=@Array.getElem?_eq_some_iff
abbrev Lp:=@Array.getElem?_append_left
abbrev Lr:=@List.zip_cons_cons
abbrev Ls:=@List.getElem?_zip_eq_some
abbrev Lt:=@List.length_range
abbrev Lu:=@Nat.div_lt_iff_lt_mul
abbrev Lv:=@List.mem_iff_getElem?
abbrev Lx:=@Array.getElem?_eq_getElem
abbrev LA:=@Nat.one_shiftLeft
abbrev LB:=@List.range'_append_1
abbrev Tt:=@Array.eq_empty_of_size_eq_zero
abbrev Tu:=@Array.getElem?_setIfInBounds
abbrev Tv:=@List.getElem?_eq_none_iff
abbrev Tw:=@List.eq_of_mem_replicate
abbrev Tx:=@Int.tdiv_eq_ediv_of_nonneg
namespace Go.Ideal
inductive T(α:Type):Type where
 |leaf
 |node (v:Option α) (l r:T α)
noncomputable def T.get{α:Type}(t:T α):Nat->Option α:=
 T.rec (motive:=λ_=>Nat->Option α) (λ_=>none)
  (λv _ _ gl gr n=>Nat.rec (motive:=λ_=>Option α) v
    (λm _=>Bool.rec (motive:=λ_=>Option α) (gr (Nat.div m 2)) (gl (Nat.div m 2)) (Nat.beq (Nat.mod m 2) 0)) n) t
noncomputable def T.one{α:Type}(f:Nat):Nat->Option α->T α:=
 Nat.rec (motive:=λ_=>Nat->Option α->T α) (λ_ _=>.leaf)
  (λ_ ih n x=>Nat.rec (motive:=λ_=>T α) (.node x .leaf .leaf)
    (λm _=>Bool.rec (motive:=λ_=>T α) (.node none .leaf (ih (Nat.div m 2) x)) (.node none (ih (Nat.div m 2) x) .leaf) (Nat.beq (Nat.mod m 2) 0)) n) f
noncomputable def T.set{α:Type}(t:T α):Nat->Option α->T α:=
 T.rec (motive:=λ_=>Nat->Option α->T α) (λn x=>T.one (n+1) n x)
  (λv l r sl sr n x=>Nat.rec (motive:=λ_=>T α) (.node x l r)
    (λm _=>Bool.rec (motive:=λ_=>T α) (.node v l (sr (Nat.div m 2) x)) (.node v (sl (Nat.div m 2) x) r) (Nat.beq (Nat.mod m 2) 0)) n) t
noncomputable def jh{α β:Type}(f:α->β)(l:List α):List β:=
 List.rec (motive:=λ_=>List β) [] (λx _ ih=>f x::ih) l
noncomputable def gH{α:Type}(l:List α):Nat->Option α:=
 List.rec (motive:=λ_=>Nat->Option α) (λ_=>none) (λx _ ih n=>Nat.rec (motive:=λ_=>Option α) (some x) (λm _=>ih m) n) l
noncomputable def iE{α:Type}(l:List α):Nat->List α:=
 List.rec (motive:=λ_=>Nat->List α) (λ_=>[]) (λx l ih n=>Nat.rec (motive:=λ_=>List α) (x::l) (λm _=>ih m) n) l
noncomputable def gU{α:Type}(l:List α):Nat->Option (List α):=
 List.rec (motive:=λ_=>Nat->Option (List α)) (λn=>Nat.rec (motive:=λ_=>Option (List α)) (some []) (λ_ _=>none) n)
  (λx _ ih n=>Nat.rec (motive:=λ_=>Option (List α)) (some []) (λm _=>Option.rec (motive:=λ_=>Option (List α)) none (λr=>some (x::r)) (ih m)) n) l
noncomputable def fV{α:Type}(l:List α):Nat->List α->Option (List α):=
 List.rec (motive:=λ_=>Nat->List α->Option (List α))
  (λo xs=>Nat.rec (motive:=λ_=>Option (List α)) (List.rec (motive:=λ_=>Option (List α)) (some []) (λ_ _ _=>none) xs) (λ_ _=>none) o)
  (λc l ih o xs=>Nat.rec (motive:=λ_=>Option (List α))
    (List.rec (motive:=λ_=>Option (List α)) (some (c::l)) (λx xs _=>Option.rec (motive:=λ_=>Option (List α)) none (λr=>some (x::r)) (ih 0 xs)) xs)
    (λo _=>Option.rec (motive:=λ_=>Option (List α)) none (λr=>some (c::r)) (ih o xs)) o) l
noncomputable def CK{α:Type}(p:α->Bool)(l:List α):Bool:=
 List.rec (motive:=λ_=>Bool) true (λx _ ih=>Bool.rec (motive:=λ_=>Bool) false ih (p x)) l
noncomputable def fZ{α:Type}(l:List α):Nat:=
 List.rec (motive:=λ_=>Nat) 0 (λ_ _ ih=>Nat.succ ih) l
noncomputable def iM{α:Type}(l r:List α):List α:=
 List.rec (motive:=λ_=>List α) r (λx _ ih=>x::ih) l
noncomputable def zeros(z:List Value)(n:Nat):List Value:=
 Nat.rec (motive:=λ_=>List Value) [] (λ_ ih=>iM z ih) n
abbrev bN:Value:=.tuple #[]
abbrev ql:Value:=.chan (some 0)
def cellV:Value->Bool
 | .agg _| .tuple _| .chan _=>false
 |_=>true
mutual
def bE:Value->Bool
 | .bool _| .int _ _| .float _ _| .complex _ _ _| .string _| .nilFunc| .nilIface=>true
 | .pointer a=>a.isNone
 | .slice a n c=>a.isNone&&n==0&&c==0
 | .map r=>r.isNone
 | .chan _=>false
 | .func _ _ _=>false
 | .iface _ v=>bE v&&cellV v
 | .agg ⟨cs⟩=>gV cs
 | .tuple _=>false
def gV:List Value->Bool
 |[]=>true
 |v::l=>bE v&&cellV v&&gV l
end
def dh{α:Type}(P:Program):Sem α->Option α
 | .pure a=>some a
 | .program k=>dh P (k P)
 | .mark _ k=>dh P k
 |_=>none
def ji(P:Program)(s:Sem Value):Option Value:=
 match dh P s with
 |some v=>cond (bE v) (some v) none
 |none=>none
def cellsOf(v:Value):Option (List Value):=
 match v with
 | .agg ⟨cs⟩=>some cs
 | .tuple _| .chan _=>none
 |v=>some [v]
inductive Out where
 |normal
 |exit (id:Nat)
 |ret
 |panic (chain:List PanicEntry)
inductive ai where
 |mv (x:Operand)
 |aX (x:Operand)
 |pick (c a b:Operand)
 |new (cs:List Value) (t:TypeId)
 |box (x:Operand) (t:TypeId)
 |build (zero:List Value) (parts:List (Nat×Nat×Operand))
 |dV (t:TypeId) (len:Nat) (zero:List Value) (parts:List (Nat×Nat×Operand))
 |aH (a:Operand)
 |lS (n:Nat) (a:Operand)
 |store (n:Nat) (a x:Operand)
 |CL (x:Operand)
 |bin (op:BinOp) (t:TypeId) (x y:Operand)
 |un (op:UnOp) (x:Operand)
 |conv (s d:TypeId) (x:Operand)
 |LC (e:TypeId) (x:Operand)
 |zX (x:Operand)
 |iface (t:TypeId) (x:Operand)
 |zY (fn:Fn) (first captured:List Operand)
 |xZ
 |uH (e:TypeId) (size bytes:Nat) (zero:List Value) (l c:Operand)
 |LD (t:TypeId) (x:Operand) (lo hi mx:Option Operand)
 |CO (n size:Nat) (x:Operand) (lo hi mx:Option Operand)
 |nD (size:Nat) (x:Operand) (lo hi mx:Option Operand)
 |di (off:Nat) (x:Operand)
 |field (t:TypeId) (off n:Nat) (agg:Bool) (x:Operand)
 |CP (n size:Nat) (x i:Operand)
 |fE (size:Nat) (x i:Operand)
 |Gp (x i:Operand)
 |Gq (n size:Nat) (agg:Bool) (x i:Operand)
 |lookup (kt:TypeId) (zero:Value) (m k:Operand) (ok:Bool)
 |CQ (kt:TypeId) (m k v:Operand)
 |LF (kt:TypeId) (zero:Value) (m k:Operand)
 |LG (m s v:Operand)
 |Gr (x:Operand)
 |rangeMap (x:Operand)
 |LH (x:Operand)
 |sO (x:Operand)
 |entry (x:Operand)
 |zZ (t:TypeId) (zero:Value) (ok:Bool) (x:Operand)
 |extract (x:Operand) (i:Nat)
 |append (e:TypeId) (size bytes:Nat) (s x:Operand)
 |x8 (e:TypeId) (size bytes:Nat) (zero:List Value) (s x:Operand)
 |copy (size:Nat) (d x:Operand)
 |clear (zero:List Value) (x:Operand)
 |Gs (x:Operand)
 |CR (n:Nat)
 |iN (x:Operand)
 |z8 (x:Operand)
 |Aa (x:Operand)
 |uI (max:Bool) (args:List Operand)
 |call (f:Operand) (args:List Operand)
 |invoke (x:Operand) (name:String) (args:List Operand)
 |recover
 |panic (x:Operand)
 |dcall (f:Operand) (args:List Operand)
structure fq where
 dst:Option Tmp
 /-- the operation runs where this temporary holds this Bool -/
 guard:Option (Tmp×Bool)
 op:ai
structure aP where
 s:fq
 re:List fq
inductive bG where
 |skip
 /-- 'ds': where the region's operations put what they yield -/
 |ops (ds:List Tmp) (l:List aP)
 |seq (a b:bG)
 |cond (c:Operand) (a b:bG)
 |block (id:Nat) (a:bG)
 |loop (a:bG)
 |rangeFunc (f:Operand) (params:List Tmp) (assign body:bG)
 |scope (a:bG)
 |exit (id:Nat)
 |ret
 |fail
structure kD where
 state:LoopState
 pending:Option Out
 tmps:T Value
 n:Nat
 params:List Tmp
 assign:bG
 body:bG
 defers:Nat
inductive bQ where
 |cells (cs:List Value)
 /-- cells that are read alone -/
 |fM (cs:List Value)
 |map (es:List MapEntry) (clock:Nat)
 |wE (s:ByteArray) (pos:Nat)
 |mapIter (m:Option Nat) (since:Nat) (seen:List Nat) (stepped:Nat)
 |loop (l:kD)
 |fO (open_:Bool)
structure IH where
 t:T bQ
 next:Nat
 low:Nat
noncomputable def IH.get(h:IH)(i:Nat):Option bQ:=h.t.get i
noncomputable def IH.set(h:IH)(i:Nat)(o:bQ):IH:={h with t:=h.t.set i (some o),low:=cond (Nat.ble h.low i) h.low i}
noncomputable def IH.kill(h:IH)(i:Nat):IH:={h with t:=h.t.set i none,low:=cond (Nat.ble h.low i) h.low i}
noncomputable def IH.new(h:IH)(o:bQ):IH:={h with t:=h.t.set h.next (some o),next:=Nat.succ h.next}
structure aI where
 n:Nat
 tmps:T Value
 defers:List Deferred
 pm:Option FrameMode
 ro:Option Nat
noncomputable def bJ(t:T Value)(i:Nat):Value:=Option.rec (motive:=λ_=>Value) bN (λv=>v) (t.get i)
noncomputable def aI.eval(a:aI)(x:Operand):Value:=
 match x with
 | .tmp t=>bJ a.tmps t
 | .const v=>v
 | .global g=>.pointer (some ⟨g,0,none⟩)
 | .func f=>.func (.func f) #[] #[]
noncomputable def aI.set(a:aI)(d:Nat)(v:Value):aI:=cond (Nat.blt d a.n) {a with tmps:=a.tmps.set d (some v)} a
noncomputable def aI.put(a:aI)(d:Option Tmp)(v:Value):aI:=
 match d with
 |some d=>a.set d v
 |none=>a
noncomputable def aI.wants(a:aI)(g:Option (Tmp×Bool)):Option Bool:=
 match g with
 |none=>some true
 |some (t,want)=>match bJ a.tmps t with
  | .bool b=>some (cond want b (!b))
  | .chan _=>some false
  |_=>none
noncomputable def IH.rM(h:IH)(i o n:Nat):Option (List Value):=
 match h.get i with
 |some (.cells cs)=>gU (iE cs o) n
 |_=>none
noncomputable def IH.dL(h:IH)(i o n:Nat):Option (List Value):=
 match h.get i with
 |some (.cells cs)=>gU (iE cs o) n
 |some (.fM cs)=>gU (iE cs o) n
 |_=>none
noncomputable def IH.lm(h:IH)(i o:Nat):Option Value:=
 match h.get i with
 |some (.cells cs)=>gH cs o
 |some (.fM cs)=>gH cs o
 |_=>none
noncomputable def IH.storeAt(h:IH)(i o:Nat)(vs:List Value):Option IH:=
 match h.get i with
 |some (.cells cs)=>match fV cs o vs with
  |some cs=>some (h.set i (.cells cs))
  |none=>none
 |_=>none
def rO(i o:Nat):Option Addr:=some ⟨i,o,some 0⟩
def small:Nat:=1073741824
def upTo(m:Nat)(v:Value):Option Nat:=
 match v with
 | .int _ (.ofNat i)=>cond (Nat.ble i m) (some i) none
 |_=>none
def bounds?(len cap:Nat)(lo hi mx:Option Value):Option (Nat×Nat×Nat):=
 match (match mx with|some v=>upTo cap v|none=>some cap)with
 |none=>none
 |some m=>match (match hi,mx with|some v,_=>upTo m v|none,none=>some len|none,some _=>none)with
  |none=>none
  |some h=>match (match lo with|some v=>upTo h v|none=>some 0)with
   |none=>none
   |some l=>some (l,h,m)
noncomputable def jC(size n:Nat)(x:Value)(h:IH):Option (List Value):=
 match x with
 | .slice (some ⟨i,o,_⟩) _ _=>h.dL i o (Nat.mul n size)
 | .slice none _ _=>match n with
   |0=>some []
   |_=>none
 | .string s=>cond (Nat.beq size 1) (match gU s.data.toList n with
   |some l=>some (jh (λb=>.int .u8 b.toNat) l)
   |none=>none) none
 |_=>none
noncomputable def rP(size n:Nat)(x:Value)(h:IH):Option (List Value):=
 match n with
 |0=>match x with
  | .slice _ _ _=>some []
  |x=>jC size 0 x h
 |Nat.succ k=>jC size (Nat.succ k) x h
def jY:Value->Option Nat
 | .slice _ n _=>some n
 | .string s=>some s.size
 |_=>none
noncomputable def mE(size bytes:Nat)(s:Value)(n:Nat)(xs:List Value)(h:IH):Option (Value×IH):=
 match s with
 | .slice base len cap=>
   let need:=Nat.add len n
   cond (Nat.ble (Nat.mul need bytes) small&&Nat.ble (Nat.mul need size) small&&Nat.ble need small)
    (cond (Nat.ble need cap)
      (match base with
      |some ⟨i,o,f⟩=>match h.storeAt i (Nat.add o (Nat.mul len size)) xs with
       |some h=>some (.slice (some ⟨i,o,f⟩) need cap,h)
       |none=>none
      |none=>match n with
       |0=>some (.slice none need cap,h)
       |_=>none)
      (match jC size len s h with
      |none=>none
      |some old=>match base with
       |some ⟨i,_,some (k+1)⟩=>cond (Nat.beq (Nat.succ k) size) (some (.slice (some ⟨h.next,0,some size⟩) need need,(h.kill i).new (.cells (iM old xs)))) none
       |_=>some (.slice (some ⟨h.next,0,some size⟩) need need,h.new (.cells (iM old xs))))) none
 |_=>none
noncomputable def CS(size:Nat)(d x:Value)(h:IH):Option (Value×IH):=
 match d,jY x with
 | .slice base lq _,some m=>
   let n:=cond (Nat.ble m lq) m lq
   match jC size n x h with
   |none=>none
   |some cs=>match base with
    |some ⟨i,o,_⟩=>match h.storeAt i o cs with
     |some h=>some (goInt n,h)
     |none=>none
    |none=>match n with
     |0=>some (goInt 0,h)
     |_=>none
 |_,_=>none
def oP(P:Program)(kt:TypeId)(k:Value)(es:List MapEntry):Option (Option (Nat×Value)):=
 dh P (Instr.findKey kt k es)
def oQ(P:Program)(kt:TypeId)(k:Value):Bool:=
 bE k&&match dh P (Instr.checkKey true 10000 kt k),dh P (Instr.checkKey false 10000 kt k)with
  |some _,some _=>true
  |_,_=>false
noncomputable def entriesOf(m:Value)(h:IH):Option (List MapEntry):=
 match m with
 | .map none=>some []
 | .map (some i)=>match h.get i with
   |some (.map es _)=>some es
   |_=>none
 |_=>none
noncomputable def x9(P:Program)(kt:TypeId)(zero m k:Value)(ok:Bool)(h:IH):Option Value:=
 match entriesOf m h with
 |none=>none
 |some es=>cond (oQ P kt k) (match oP P kt k es with
  |none=>none
  |some (some (_,v))=>some (cond ok (.tuple #[v,.bool true]) v)
  |some none=>some (cond ok (.tuple #[zero,.bool false]) zero)) none
noncomputable def setAt{α:Type}(f:α->α)(l:List α):Nat->List α:=
 List.rec (motive:=λ_=>Nat->List α) (λ_=>[]) (λx l ih n=>Nat.rec (motive:=λ_=>List α) (f x::l) (λm _=>x::ih m) n) l
noncomputable def Ab(P:Program)(kt:TypeId)(m k v:Value)(h:IH):Option IH:=
 match m with
 | .map (some i)=>match h.get i with
   |some (.map es clock)=>cond (oQ P kt k) (match oP P kt k es with
    |none=>none
    |some (some (j,_))=>match gH es j with
     |some e=>cond (Instr.sameBits 10000 e.key k) (some (h.set i (.map (setAt (λe=>{e with key:=k,val:=v}) es j) clock))) none
     |none=>none
    |some none=>some (h.set i (.map (iM es [{key:=k,val:=v,born:=clock}]) (Nat.succ clock)))) none
   |_=>none
 |_=>none
noncomputable def Ty(P:Program)(kt:TypeId)(zero m k:Value)(h:IH):Option (Value×IH):=
 match m with
 | .map (some i)=>match h.get i with
   |some (.map es clock)=>cond (oQ P kt k) (match oP P kt k es with
    |none=>none
    |some (some (j,v))=>match gH es j with
     |some e=>cond (Instr.sameBits 10000 e.key k) (some (.tuple #[v,goInt e.born],h.set i (.map (setAt (λe=>{e with key:=k}) es j) clock))) none
     |none=>none
    |some none=>some (.tuple #[zero,goInt clock],h.set i (.map (iM es [{key:=k,val:=zero,born:=clock}]) (Nat.succ clock)))) none
   |_=>none
 |_=>none
noncomputable def Tz(m s v:Value)(h:IH):Option IH:=
 match m,s with
 | .map (some i),.int _ n=>match h.get i with
   |some (.map es clock)=>match es.findIdx? (λe=>(e.born:Int)==n)with
    |some j=>some (h.set i (.map (setAt (λe=>{e with val:=v}) es j) clock))
    |none=>none
   |_=>none
 |_,_=>none
def oU(P:Program)(t:TypeId)(x y:Value):Option Bool:=
 match P.underlying t,x,y with
 |some (.pointer _),.pointer (some _),.pointer none=>some false
 |some (.pointer _),.pointer none,.pointer (some _)=>some false
 |some (.slice _),.slice (some _) _ _,.slice none _ _=>some false
 |some (.slice _),.slice none _ _,.slice (some _) _ _=>some false
 |some (.slice _),.slice none _ _,.slice none _ _=>some true
 |some (.map _ _),.map (some _),.map none=>some false
 |some (.map _ _),.map none,.map (some _)=>some false
 |some (.func _ _ _),.func _ _ _,.nilFunc=>some false
 |some (.func _ _ _),.nilFunc,.func _ _ _=>some false
 |some (.interface _),.iface _ _,.nilIface=>some false
 |some (.interface _),.nilIface,.iface _ _=>some false
 |_,_,_=>none
def Gt:Nat:=9223372036854775807
def Ac(k:IntKind)(n:Int):Int:=
 match k,n with
 | .i64,.ofNat m=>cond (Nat.ble m Gt) (.ofNat m) (IntKind.i64.wrap (.ofNat m))
 | .i64,.negSucc m=>cond (Nat.ble m 1000000) (.negSucc m) (IntKind.i64.wrap (.negSucc m))
 |k,n=>k.wrap n
def LJ(a b:Int):Int:=
 match a,b with
 | .ofNat x,.ofNat y=>.ofNat (Nat.add x y)
 |a,b=>a+b
def Gu(a b:Int):Int:=
 match a,b with
 | .ofNat x,.ofNat y=>cond (Nat.ble y x) (.ofNat (Nat.sub x y)) (.negSucc (Nat.pred (Nat.sub y x)))
 |a,b=>a - b
def leZ(a b:Int):Bool:=
 match a,b with
 | .ofNat x,.ofNat y=>Nat.ble x y
 | .negSucc _,.ofNat _=>true
 | .ofNat _,.negSucc _=>false
 | .negSucc x,.negSucc y=>Nat.ble y x
def yc(a b:Int):Bool:=
 match a,b with
 | .ofNat x,.ofNat y=>Nat.beq x y
 | .negSucc x,.negSucc y=>Nat.beq x y
 |_,_=>false
def oV(j k:IntKind):Bool:=
 match j,k with
 | .i64,.i64=>true
 |j,k=>j==k
def mF(op:BinOp)(k:IntKind)(a b:Int):Option Value:=
 match op with
 | .add=>some (.int k (Ac k (LJ a b)))
 | .sub=>some (.int k (Ac k (Gu a b)))
 | .eql=>some (.bool (yc a b))
 | .neq=>some (.bool (!yc a b))
 | .lss=>some (.bool (!leZ b a))
 | .leq=>some (.bool (leZ a b))
 | .gtr=>some (.bool (!leZ a b))
 | .geq=>some (.bool (leZ b a))
 |_=>none
def mG(P:Program)(op:BinOp)(t:TypeId)(x y:Operand)(a b:Value):Option Value:=
 match (match a,b with
  | .int j m,.int k n=>cond (oV j k) (mF op j m n) none
  |_,_=>none)with
 |some v=>some v
 |none=>cond (bE a&&bE b) (ji P (do eqGuard op t x y a b;binOp op t a b))
  (match op with
  | .eql=>(match oU P t a b with|some b=>some (.bool b)|none=>none)
  | .neq=>(match oU P t a b with|some b=>some (.bool !b)|none=>none)
  |_=>none)
noncomputable def CU(l:List Value):Option (List UInt8):=
 List.rec (motive:=λ_=>Option (List UInt8)) (some []) (λv _ ih=>match v,ih with
  | .int .u8 k,some r=>some (UInt8.ofNat k.toNat::r)
  |_,_=>none) l
noncomputable def ol(ρ:Operand->Value)(zero:List Value)(parts:List (Nat×Nat×Operand)):Option (List Value):=
 List.rec (motive:=λ_=>List Value->Option (List Value)) (λcs=>some cs)
  (λp _ ih cs=>match p with
    |(off,size,x)=>match cellsOf (ρ x)with
     |none=>none
     |some vs=>cond (Nat.beq (fZ vs) size) (match fV cs off vs with
      |some cs=>ih cs
      |none=>none) none) parts zero
noncomputable def eO(ρ:Operand->Value)(x:Option Operand):Option Value:=
 match x with
 |some x=>some (ρ x)
 |none=>none
noncomputable def ai.alloc(c:ai)(ρ:Operand->Value):Option ((Nat->Value)×bQ):=
 match c with
 | .new cs _=>some (λi=>.pointer (some ⟨i,0,none⟩),.cells cs)
 | .box x _=>match cellsOf (ρ x)with
   |some cs=>some (λi=>.pointer (some ⟨i,0,none⟩),.cells cs)
   |none=>none
 | .dV _ len zero parts=>match ol ρ zero parts with
   |some cs=>some (λi=>.slice (rO i 0) len len,.cells cs)
   |none=>none
 | .xZ=>some (λi=>.map (some i),.map [] 0)
 | .uH _ size bytes zero l c=>match ρ l,ρ c with
   | .int .i64 (.ofNat l),.int .i64 (.ofNat c)=>cond (Nat.ble l c&&Nat.ble (Nat.mul c bytes) small&&Nat.ble (Nat.mul c size) small&&Nat.ble c small)
      (some (λi=>.slice (rO i 0) l c,.cells (zeros zero c))) none
   |_,_=>none
 |_=>none
noncomputable def om(x:Option ((Nat->Value)×bQ))(h:IH):Option (Value×IH):=
 match x with
 |some (f,o)=>some (f h.next,h.new o)
 |none=>none
noncomputable def ai.run(P:Program)(c:ai)(ρ:Operand->Value)(h:IH):Option (Value×IH):=
 match c with
 | .mv x=>some (ρ x,h)
 | .aX x=>some (ρ x,h)
 | .pick c a b=>match ρ c with
   | .bool t=>some (cond t (ρ a) (ρ b),h)
   |_=>none
 | .new cs t=>om ((ai.new cs t).alloc ρ) h
 | .box x t=>om ((ai.box x t).alloc ρ) h
 | .build zero parts=>match ol ρ zero parts with
   |some cs=>some (.agg ⟨cs⟩,h)
   |none=>none
 | .dV t len zero parts=>om ((ai.dV t len zero parts).alloc ρ) h
 | .aH a=>match ρ a with
   | .pointer (some ⟨i,o,none⟩)=>match h.lm i o with
     |some v=>some (v,h)
     |none=>none
   |_=>none
 | .lS n a=>match ρ a with
   | .pointer (some ⟨i,o,none⟩)=>match h.dL i o n with
     |some cs=>some (.agg ⟨cs⟩,h)
     |none=>none
   |_=>none
 | .store n a x=>match ρ a,cellsOf (ρ x)with
   | .pointer (some ⟨i,o,none⟩),some vs=>cond (Nat.beq (fZ vs) n) (match h.storeAt i o vs with
     |some h=>some (bN,h)
     |none=>none) none
   |_,_=>none
 | .CL x=>match ρ x with
   | .pointer (some a)=>some (.pointer (some a),h)
   | .iface t v=>some (.iface t v,h)
   | .func (.func f) first captured=>some (.func (.func f) first captured,h)
   | .func (.methodOf t n) first captured=>some (.func (.methodOf t n) first captured,h)
   | .func (.yield l) first captured=>some (.func (.yield l) first captured,h)
   |_=>none
 | .bin op t x y=>match mG P op t x y (ρ x) (ρ y)with
   |some v=>some (v,h)
   |none=>none
 | .un op x=>cond (bE (ρ x)) (match ji P (Op.unary op (ρ x))with
   |some v=>some (v,h)
   |none=>none) none
 | .conv s d x=>cond (bE (ρ x)) (match ji P (convert s d (ρ x))with
   |some v=>some (v,h)
   |none=>none) none
 | .LC _ x=>match ρ x with
   | .string b=>some (.slice (some ⟨h.next,0,some 1⟩) b.data.toList.length b.data.toList.length,h.new (.cells (jh (λc=>.int .u8 c.toNat) b.data.toList)))
   |_=>none
 | .zX x=>match ρ x with
   | .slice none _ _=>some (.string .empty,h)
   | .slice (some ⟨i,o,_⟩) n _=>match h.dL i o n with
     |some cs=>match CU cs with
      |some bs=>some (.string ⟨⟨bs⟩⟩,h)
      |none=>none
     |none=>none
   |_=>none
 | .iface t x=>some (.iface t (ρ x),h)
 | .zY fn first captured=>some (.func fn ⟨jh ρ first⟩ ⟨jh ρ captured⟩,h)
 | .xZ=>om (ai.xZ.alloc ρ) h
 | .uH e size bytes zero l c=>om ((ai.uH e size bytes zero l c).alloc ρ) h
 | .LD t x lo hi mx=>match ρ x with
   | .string s=>match bounds? s.size s.size (eO ρ lo) (eO ρ hi) (eO ρ mx)with
     |some _=>match ji P (Instr.slice t (.string s) (eO ρ lo) (eO ρ hi) (eO ρ mx))with
      |some v=>some (v,h)
      |none=>none
     |none=>none
   |_=>none
 | .CO n size x lo hi mx=>match ρ x with
   | .pointer (some ⟨i,o,none⟩)=>match bounds? n n (eO ρ lo) (eO ρ hi) (eO ρ mx)with
     |some (l,hh,m)=>some (.slice (rO i (Nat.add o (Nat.mul l size))) (Nat.sub hh l) (Nat.sub m l),h)
     |none=>none
   |_=>none
 | .nD size x lo hi mx=>match ρ x with
   | .slice a len cap=>match bounds? len cap (eO ρ lo) (eO ρ hi) (eO ρ mx)with
     |some (l,hh,m)=>match a with
      |none=>some (.slice none (Nat.sub hh l) (Nat.sub m l),h)
      |some ⟨i,o,some 0⟩=>some (.slice (rO i (Nat.add o (Nat.mul l size))) (Nat.sub hh l) (Nat.sub m l),h)
      |some ⟨i,o,some (k+1)⟩=>cond (Nat.beq (Nat.succ k) size) (some (.slice (some ⟨i,Nat.add o (Nat.mul l size),match mx with|some _=>some 0|none=>some (Nat.succ k)⟩) (Nat.sub hh l) (Nat.sub m l),h)) none
      |some ⟨_,_,none⟩=>none
     |none=>none
   |_=>none
 | .di off x=>match ρ x with
   | .pointer (some ⟨i,o,none⟩)=>some (.pointer (some ⟨i,Nat.add o off,none⟩),h)
   |_=>none
 | .field _ off n agg x=>match ρ x with
   | .agg ⟨cs⟩=>match agg with
     |true=>match gU (iE cs off) n with
      |some l=>some (.agg ⟨l⟩,h)
      |none=>none
     |false=>match gH cs off with
      |some v=>some (v,h)
      |none=>none
   |_=>none
 | .CP n size x ix=>match ρ x,ρ ix with
   | .pointer (some ⟨b,o,none⟩),.int _ (.ofNat i)=>cond (Nat.blt i n) (some (.pointer (some ⟨b,Nat.add o (Nat.mul i size),none⟩),h)) none
   |_,_=>none
 | .fE size x ix=>match ρ x,ρ ix with
   | .slice (some ⟨b,o,_⟩) n _,.int _ (.ofNat i)=>cond (Nat.blt i n) (some (.pointer (some ⟨b,Nat.add o (Nat.mul i size),none⟩),h)) none
   |_,_=>none
 | .Gp x ix=>match ρ x,ρ ix with
   | .string s,.int _ (.ofNat i)=>match gH s.data.toList i with
     |some b=>some (.int .u8 b.toNat,h)
     |none=>none
   |_,_=>none
 | .Gq n size agg x ix=>match ρ x,ρ ix with
   | .agg ⟨cs⟩,.int _ (.ofNat i)=>cond (Nat.blt i n) (match agg with
     |true=>match gU (iE cs (Nat.mul i size)) size with
      |some l=>some (.agg ⟨l⟩,h)
      |none=>none
     |false=>match gH cs (Nat.mul i size)with
      |some v=>some (v,h)
      |none=>none) none
   |_,_=>none
 | .lookup kt zero m k ok=>match x9 P kt zero (ρ m) (ρ k) ok h with
   |some v=>some (v,h)
   |none=>none
 | .CQ kt m k v=>match Ab P kt (ρ m) (ρ k) (ρ v) h with
   |some h=>some (bN,h)
   |none=>none
 | .LF kt zero m k=>Ty P kt zero (ρ m) (ρ k) h
 | .LG m s v=>match Tz (ρ m) (ρ s) (ρ v) h with
   |some h=>some (bN,h)
   |none=>none
 | .Gr x=>match ρ x with
   | .string s=>some (.pointer (some ⟨h.next,0,none⟩),h.new (.wE s 0))
   |_=>none
 | .rangeMap x=>match ρ x with
   | .map none=>some (.pointer (some ⟨h.next,0,none⟩),h.new (.mapIter none 0 [] 0))
   | .map (some m)=>match h.get m with
     |some (.map _ clock)=>some (.pointer (some ⟨h.next,0,none⟩),h.new (.mapIter (some m) clock [] clock))
     |_=>none
   |_=>none
 | .LH it=>match ρ it with
   | .pointer (some ⟨r,0,none⟩)=>match h.get r with
     |some (.wE s pos)=>cond (Nat.blt pos s.size)
       (some (.tuple #[.bool true,goInt pos,.int .i32 (Utf8.decode s pos).1],h.set r (.wE s (Nat.add pos (Utf8.decode s pos).2))))
       (some (.tuple #[.bool false],h))
     |_=>none
   |_=>none
 | .entry it=>match ρ it with
   | .pointer (some ⟨r,0,none⟩)=>match h.get r with
     |some (.mapIter (some m) _ seen stepped)=>match h.get m with
      |some (.map es clock)=>match seen.getLast? with
       |some stamp=>cond (Nat.beq clock stepped) (match es.find? (λe=>Nat.beq e.born stamp)with
        |some e=>some (.tuple #[e.key,e.val],h)
        |none=>none) none
       |none=>none
      |_=>none
     |_=>none
   |_=>none
 | .zZ t zero ok x=>match ρ x with
   | .nilIface=>cond ok (some (.tuple #[zero,.bool false],h)) none
   | .iface u v=>cond (Nat.beq u t) (some (cond ok (.tuple #[v,.bool true]) v,h)) (cond ok (some (.tuple #[zero,.bool false],h)) none)
   |_=>none
 | .extract x i=>match ρ x with
   | .tuple ⟨vs⟩=>match gH vs i with
     |some v=>some (v,h)
     |none=>none
   |_=>none
 | .append _ size bytes s x=>match jY (ρ x)with
   |some n=>match rP size n (ρ x) h with
    |some xs=>mE size bytes (ρ s) n xs h
    |none=>none
   |none=>none
 | .x8 _ size bytes zero s x=>match ρ s,ρ x with
   | .slice none 0 0,.int .i64 (.ofNat (n+1))=>cond (Nat.ble (Nat.mul (n+1) bytes) small&&Nat.ble (Nat.mul (n+1) size) small&&Nat.ble (n+1) small) (some (.slice (some ⟨h.next,0,some size⟩) (n+1) (n+1),h.new (.cells (zeros zero (n+1))))) none
   |_,_=>none
 | .copy size d x=>CS size (ρ d) (ρ x) h
 | .clear zero x=>match ρ x with
   | .slice (some ⟨i,o,some _⟩) (n+1) _=>match h.storeAt i o (zeros zero (n+1))with
     |some h'=>some (.tuple #[],h')
     |none=>none
   | .slice _ 0 _=>some (.tuple #[],h)
   |_=>none
 | .Gs x=>match ρ x with
   | .string s=>some (goInt s.size,h)
   |_=>none
 | .CR n=>some (goInt n,h)
 | .iN x=>match ρ x with
   | .slice _ n _=>some (goInt n,h)
   |_=>none
 | .z8 x=>match entriesOf (ρ x) h with
   |some es=>some (goInt (fZ es),h)
   |none=>none
 | .Aa x=>match ρ x with
   | .slice none _ c=>some (goInt c,h)
   | .slice (some ⟨_,_,some 0⟩) _ c=>some (goInt c,h)
   |_=>none
 | .uI max args=>match jh ρ args with
   |[.int j a,.int k b]=>cond (oV j k) (some (.int j (cond max (cond (leZ b a) a b) (cond (leZ a b) a b)),h)) none
   |args=>cond (gV args) (match ji P (cond max (Builtin.max_ #[] 0 ⟨args⟩) (Builtin.min_ #[] 0 ⟨args⟩))with
    |some v=>some (v,h)
    |none=>none) none
 | .sO _| .call _ _| .invoke _ _ _| .recover| .panic _| .dcall _ _=>none
end Go.Ideal
namespace Go.Ideal
noncomputable section
def gW(P:Program)(t:TypeId):Option Nat:=(P.info? t).map (·.size)
def zeroOf(P:Program)(t:TypeId):Option Value:=
 match (P.info? t).bind (·.zero)with
 |some z=>if bE z then some z else none
 |none=>none
def gI(P:Program)(t:TypeId):Bool:=
 match P.underlying t with
 |some (.struct _)|some (.array _ _)=>true
 |_=>false
def rQ(P:Program)(t:TypeId):Option (List Value):=
 match zeroOf P t,gW P t with
 |some z,some n=>if z.cells.toList.length=n/\gV z.cells.toList then some z.cells.toList else none
 |_,_=>none
def jZ(P:Program)(t:TypeId):Option Nat:=
 match gW P t with
 |some 0=>none
 |s=>s
def uJ(P:Program)(fs:Array Field):List (Nat×Operand)->Option (List (Nat×Nat×Operand))
 |[]=>some []
 |(i,x)::l=>match fs[i]?,uJ P fs l with
  |some f,some r=>match gW P f.type with
   |some s=>some ((f.offset,s,x)::r)
   |none=>none
  |_,_=>none
def placesOf(P:Program)(fs:Array Field)(parts:List (Nat×Operand)):Option (List (Nat×Nat×Operand)):=
 if fs.toList.all (λf=>(gW P f.type).isSome)then uJ P fs parts else none
def CV:Fn->Bool
 | .yield _=>false
 | .via .. =>false
 |_=>true
def cop(P:Program)(o:Oper):Option ai:=
 match o.op with
 | .move x=>some (.mv x)
 | .assign x=>some (.aX x)
 | .pick c a b=>some (.pick c a b)
 | .alloc e=>match rQ P e with
   |some cs=>some (.new cs e)
   |none=>none
 | .box e x=>some (.box x e)
 | .build t parts=>match P.underlying t,rQ P t with
   |some (.struct fs),some z=>match placesOf P fs parts.toList with
    |some ps=>some (.build z ps)
    |none=>none
   |some (.array _ e),some z=>match jZ P e with
    |some s=>some (.build z (parts.toList.map λ(i,x)=>(i*s,s,x)))
    |none=>none
   |_,_=>none
 | .buildSlice t len parts=>match P.underlying t with
   |some (.slice e)=>match jZ P e,rQ P e with
    |some s,some z=>if len*s<=2^24 then some (.dV e len (zeros z len) (parts.toList.map λ(i,x)=>(i*s,s,x)))else none
    |_,_=>none
   |_=>none
 | .load t a=>if gI P t then(gW P t).map λn=>.lS n a else match P.underlying t with
   |some _=>some (.aH a)
   |none=>none
 | .store t a x=>(gW P t).map λn=>.store n a x
 | .nilCheck x=>some (.CL x)
 | .binOp op t x y _=>some (.bin op t x y)
 | .unOp op _ x=>some (.un op x)
 | .convert s d x=>match P.underlying s,P.underlying d with
   |some .string,some (.slice _)=>none
   |some (.slice e),some .string=>match P.underlying e with
    |some (.int .u8)=>some (.zX x)
    |_=>none
   |some (.slice _),some (.slice _)=>none
   |some _,some _=>some (.conv s d x)
   |_,_=>none
 | .makeInterface t x=>match P.underlying t with
   |some (.interface _)=>none
   |some _=>some (.iface t x)
   |none=>none
 | .makeFunc fn first captured=>if CV fn then some (.zY fn first.toList captured.toList)else none
 | .makeMap _ none=>some .xZ
 | .makeSlice t l c=>match P.underlying t with
   |some (.slice e)=>match jZ P e,rQ P e with
    |some s,some z=>some (.uH e s ((P.info? e).map (·.bytes)).get! z l c)
    |_,_=>none
   |_=>none
 | .slice t x lo hi mx=>match P.underlying t with
   |some .string=>some (.LD t x lo hi mx)
   |some (.array n e)=>(jZ P e).map λs=>.CO n s x lo hi mx
   |some (.slice e)=>(jZ P e).map λs=>.nD s x lo hi mx
   |_=>none
 | .fieldAddr s x f=>match P.underlying s with
   |some (.struct fs)=>match fs[f]? with
    |some f=>(jZ P f.type).map λ_=>.di f.offset x
    |none=>none
   |_=>none
 | .field t x f=>match P.underlying t with
   |some (.struct fs)=>match fs[f]? with
    |some f=>match gW P f.type,P.underlying f.type with
     |some n,some _=>some (.field f.type f.offset n (gI P f.type) x)
     |_,_=>none
    |none=>none
   |_=>none
 | .indexAddr t x i=>match P.underlying t with
   |some (.array n e)=>(jZ P e).map λs=>.CP n s x i
   |some (.slice e)=>(jZ P e).map λs=>.fE s x i
   |_=>none
 | .index t x i=>match P.underlying t with
   |some (.array n e)=>match jZ P e,P.underlying e with
    |some s,some _=>some (.Gq n s (gI P e) x i)
    |_,_=>none
   |some .string=>some (.Gp x i)
   |_=>none
 | .lookup t m k ok=>match P.underlying t with
   |some (.map kt et)=>(zeroOf P et).map λz=>.lookup kt z m k ok
   |_=>none
 | .mapUpdate t m k v| .insert t m k v=>match P.underlying t with
   |some (.map kt _)=>some (.CQ kt m k v)
   |_=>none
 | .range t x=>match P.underlying t with
   |some .string=>some (.Gr x)
   |some (.map _ _)=>some (.rangeMap x)
   |_=>none
 | .next it false=>some (.sO it)
 | .entry it=>some (.entry it)
 | .typeAssert x _ t ok=>match P.underlying t with
   |some (.interface _)=>none
   |some _=>(zeroOf P t).map λz=>.zZ t z ok x
   |none=>none
 | .extract t i=>some (.extract t i)
 | .panic x=>some (.panic x)
 | .defer {callee:=.value f,args,.. }=>some (.dcall f args.toList)
 | .call {callee:=.value f,args,.. }=>some (.call f args.toList)
 | .call {callee:=.invoke x name,args,.. }=>some (.invoke x name args.toList)
 | .call {callee:=.builtin b,args,argTypes}=>match b,args.toList with
   | .recover,_=>some .recover
   | .panic,[x]=>some (.panic x)
   | .append,[s,x]=>match argTypes[0]?,argTypes[1]? with
     |some st,some xt=>match P.underlying st,P.underlying xt with
      |some (.slice e),some xd=>match jZ P e,(P.info? e).map (·.bytes),rQ P e with
       |some s',some (b+1),some z=>match xd with
        | .int _=>some (.x8 e s' (b+1) z s x)
        |_=>some (.append e s' (b+1) s x)
       |_,_,_=>none
      |_,_=>none
     |_,_=>none
   | .clear,[x]=>match argTypes[0]? with
     |some t=>match P.underlying t with
      |some (.slice e)=>match rQ P e with
       |some (z::zs)=>some (.clear (z::zs) x)
       |_=>none
      |_=>none
     |none=>none
   | .copy,[d,x]=>match argTypes[0]? with
     |some dt=>match P.underlying dt with
      |some (.slice e)=>(jZ P e).map λs=>.copy s d x
      |_=>none
     |none=>none
   | .len,[x]=>match argTypes[0]? with
     |some t=>match P.underlying t with
      |some .string=>some (.Gs x)
      |some (.array n _)=>some (.CR n)
      |some (.pointer p)=>match P.underlying p with
       |some (.array n _)=>some (.CR n)
       |_=>none
      |some (.slice _)=>some (.iN x)
      |some (.map _ _)=>some (.z8 x)
      |_=>none
     |none=>none
   | .cap,[x]=>match argTypes[0]? with
     |some t=>match P.underlying t with
      |some (.slice _)=>some (.Aa x)
      |_=>none
     |none=>none
   | .min,args=>some (.uI false args)
   | .max,args=>some (.uI true args)
   |_,_=>none
 |_=>none
def wF(P:Program):Operand->Bool
 | .const (.tuple ⟨[]⟩)=>true
 | .const v=>bE v
 | .global g=>Nat.blt g P.globals.size
 |_=>true
def Ad(P:Program)(ops:Array Oper)(o:Oper):Option fq:=
 if o.op.operands.toList.all (wF P)then match cop P o with
 |none=>none
 |some c=>match o.guard with
  |none=>some ⟨o.dst,none,c⟩
  |some (j,want)=>match (ops[j]?).bind (·.dst)with
   |some t=>some ⟨o.dst,some (t,want),c⟩
   |none=>none
 else none
def heavy:ai->Bool
 | .aX .. | .store .. | .CQ .. | .LF .. | .LG .. | .Gr .. | .rangeMap .. | .LH .. | .sO .. | .append .. | .x8 .. | .copy .. | .clear .. | .LC ..
 | .call .. | .invoke .. | .recover| .panic .. | .dcall .. =>true
 |_=>false
def yf:ai->Bool
 | .aH .. | .lS .. | .lookup .. | .entry .. | .zX .. | .z8 .. =>true
 |_=>false
def wG(ops:Array Oper)(done:List Nat)(i:Nat):Bool:=
 !done.contains i&&match ops[i]? with
  |some o=>o.after.toList.all λe=>!Region.binds .any e||done.contains e.on
  |none=>false
def looks(ops:Array Oper)(o:Oper):List Tmp:=
 (o.op.operands.toList.filterMap λ| .tmp t=>some t|_=>none)++
 (match o.guard with
  |some (g,_)=>((ops[g]?).bind (·.dst)).toList
  |none=>[])
def Gv(ops:Array Oper)(hv:Nat->Bool):Nat->List Nat->List Nat
 |0,done=>done.reverse
 |f+1,done=>
  match (List.range ops.size).find? λi=>!hv i&&wG ops done i with
  |some i=>Gv ops hv f (i::done)
  |none=>match (List.range ops.size).find? λi=>wG ops done i with
   |some i=>Gv ops hv f (i::done)
   |none=>done.reverse
def LK(ops:Array Oper)(aQ:Nat->Nat->Bool)(hv:Nat->Bool)(done:List Nat)(i:Nat):Bool:=
 match ops[i]? with
 |none=>false
 |some o=>
  wG ops done i&&
  -- a heavy one: behind every heavy one; nothing that is not heavy could have come ahead of it
  (!hv i||(done.all λj=>!hv j||aQ i j)&&(List.range ops.size).all λj=>hv j||!wG ops done j)&&
  -- where it puts what it yields
  (match o.dst with
  |none=>true
  |some d=>(hv i||!(looks ops o).contains d)&&done.all λj=>match ops[j]? with
   |some p=>if(looks ops p).contains d||p.dst==some d then hv i&&aQ i j else true
   |none=>false)&&
  -- what it looks at
  done.all λj=>match ops[j]? with
   |some p=>match p.dst with
    |some d=>if(looks ops o).contains d then aQ i j else true
    |none=>true
   |none=>false
def Ae(ops:Array Oper)(aQ:Nat->Nat->Bool)(hv:Nat->Bool):List Nat->List Nat->Bool
 |[],done=>(List.range ops.size).all λi=>done.contains i
 |i::l,done=>LK ops aQ hv done i&&Ae ops aQ hv l (i::done)
def Af(aQ:Nat->Nat->Bool)(cs:Nat->Option fq):List Nat->List Nat->Option (List aP)
 |[],_=>some []
 |i::l,done=>match cs i,Af aQ cs l (i::done)with
  |some s,some r=>some (⟨s,if heavy s.op then done.filterMap λj=>match cs j with
    |some t=>if yf t.op&&!aQ i j then some t else none
    |none=>none else[]⟩::r)
  |_,_=>none
def nE(ops:Array Oper):Nat->Nat->Bool:=
 let b:=Region.before ops
 λi j=>(b.getD i 0).testBit j
def iF(P:Program)(ops:Array Oper)(i:Nat):Option fq:=(ops[i]?).bind (Ad P ops)
def uK(P:Program)(ops:Array Oper)(i:Nat):Bool:=
 match iF P ops i with
 |some s=>heavy s.op
 |none=>true
def LM(P:Program)(ops:Array Oper):Option (List aP):=
 let l:=Gv ops (uK P ops) ops.size []
 if Ae ops (nE ops) (uK P ops) l []then Af (nE ops) (iF P ops) l []else none
def dstsOf(ops:Array Oper):List Tmp:=ops.toList.filterMap (·.dst)
def CW(P:Program)(ops:Array Oper)(draw:Bool):bG:=
 match (if draw then LM P ops else ops.toList.mapM λo=>(Ad P ops o).map λs=>⟨s,[]⟩)with
 |some l=>.ops (dstsOf ops) l
 |none=>.fail
def compile(P:Program):Code->bG
 | .skip| .label _=>.skip
 | .region _ ops draw=>CW P ops draw
 | .seq a b=>.seq (compile P a) (compile P b)
 | .cond c a b=>.cond c (compile P a) (compile P b)
 | .block id a=>.block id (compile P a)
 | .loop a=>.loop (compile P a)
 | .rangeFunc f params assign body=>if wF P f then .rangeFunc f params.toList (compile P assign) (compile P body)else .fail
 | .exit id=>.exit id
 | .scope a=>.scope (compile P a)
 | .ret=>.ret
 | .goto _| .refuse _=>.fail
inductive nG where
 |tmp (t:Tmp)
 |cell1 (a:Tmp)
 |wH (n:Nat) (a:Tmp)
def Ag(P:Program):ResultVar->Option nG
 | .tmp t=>some (.tmp t)
 | .cell a t=>if gI P t then(gW P t).map λn=>.wH n a else match P.underlying t with
   |some _=>some (.cell1 a)
   |none=>none
structure dW where
 ntmps:Nat
 results:List nG
 body:bG
def qm(P:Program)(fn:Func):Option dW:=
 match fn.body,fn.results.toList.mapM (Ag P)with
 |some c,some rs=>if fn.name= "runtime.NumGoroutine" then none else some ⟨fn.ntmps,rs,compile P c⟩
 |_,_=>none
inductive gJ where
 |ok (v:Value)
 |fP (chain:List PanicEntry)
structure dO where
 fn:Fn
 args:List Value
 captured:List Value
 pm:Option FrameMode
def sP(l:List Value):Nat->T Value->T Value:=
 List.rec (motive:=λ_=>Nat->T Value->T Value) (λ_ t=>t) (λv _ ih i t=>ih (Nat.succ i) (t.set i (some v))) l
def oq(a b:Nat):Nat:=cond (Nat.ble a b) b a
def wI(n:Nat)(args:List Value)(pm:Option FrameMode):aI:=
 {n:=oq n (fZ args),tmps:=sP args 0 .leaf,defers:=[],pm,ro:=none}
def oW(tmps:T Value)(h:IH)(r:nG):Option Value:=
 match r with
 | .tmp t=>some (bJ tmps t)
 | .cell1 a=>match bJ tmps a with
   | .pointer (some ⟨i,o,none⟩)=>match h.get i with
     |some (.cells cs)=>gH cs o
     |_=>none
   |_=>none
 | .wH n a=>match bJ tmps a with
   | .pointer (some ⟨i,o,none⟩)=>match h.rM i o n with
     |some cs=>some (.agg ⟨cs⟩)
     |none=>none
   |_=>none
def sQ(tmps:T Value)(h:IH)(l:List nG):Option (List Value):=
 List.rec (motive:=λ_=>Option (List Value)) (some []) (λr _ ih=>match oW tmps h r,ih with
  |some v,some vs=>some (v::vs)
  |_,_=>none) l
def nH(rs:List nG)(tmps:T Value)(h:IH):Option Value:=
 match sQ tmps h rs with
 |some [v]=>some v
 |some vs=>some (.tuple ⟨vs⟩)
 |none=>none
def uL:FrameMode->FrameMode
 | .panicking (e::older)=>cond e.recovered (match older.dropWhile (!·.goexit)with
    |[]=>.returning
    |rest=>.panicking rest) (.panicking (e::older))
 |m=>m
def yg(u:FrameMode)(chain:List PanicEntry):FrameMode:=
 match u with
 | .panicking old=>.panicking (chain++old)
 |_=>.panicking chain
def gZ(pm:FrameMode):Value×FrameMode:=
 match pm with
 | .panicking (e::older)=>cond (e.recovered||e.goexit) (.nilIface,pm) (e.v,.panicking ({e with recovered:=true}::older))
 |_=>(.nilIface,pm)
def yh(P:Program)(t:TypeId)(v:Value)(name:String):Option (FuncId×Value):=
 match P.info? t with
 |none=>none
 |some info=>match info.methods.find? (·.name==name)with
  |none=>none
  |some m=>if m.path.size≠0 then none else match m.func with
   |some (f,ptr)=>match P.underlying t,ptr with
    |some (.pointer _),true=>some (f,v)
    |some (.pointer _),false=>none
    |some _,false=>some (f,v)
    |_,_=>none
   |none=>none
def target(P:Program)(q:dO):Option (FuncId×List Value):=
 match q.fn with
 | .func f=>some (f,iM q.args q.captured)
 | .method name=>match q.args with
   | .iface t v::args=>match yh P t v name with
     |some (f,r)=>some (f,r::args)
     |none=>none
   |_=>none
 | .methodOf t name=>match q.args with
   |x::args=>match P.underlying t with
    |some (.interface _)=>match x with
     | .iface t v=>match yh P t v name with
       |some (f,r)=>some (f,r::args)
       |none=>none
     |_=>none
    |some _=>match yh P t x name with
     |some (f,r)=>some (f,r::args)
     |none=>none
    |none=>none
   |[]=>none
 |_=>none
def sS(c:ai)(ρ:Operand->Value):Option dO:=
 match c with
 | .call f args=>match ρ f with
   | .func fn ⟨first⟩ ⟨captured⟩=>some ⟨fn,iM first (jh ρ args),captured,none⟩
   |_=>none
 | .invoke x name args=>some ⟨.method name,ρ x::jh ρ args,[],none⟩
 |_=>none
def forget(ds:List Tmp)(a:aI):aI:=
 List.rec (motive:=λ_=>aI->aI) (λa=>a) (λd _ ih a=>ih (a.set d bN)) ds a
def wJ(it:Value)(h:IH):Option (List (Value×IH)):=
 match it with
 | .pointer (some ⟨r,0,none⟩)=>match h.get r with
   |some (.mapIter none _ _ _)=>some [(.tuple #[.bool false],h)]
   |some (.mapIter (some m) since seen last)=>match h.get m with
    |some (.map es clock)=>
     cond (!seen.isEmpty&&!es.isEmpty&&es.all (λe=>Nat.ble last e.born)) none
      (let left:=es.filter λe=>!seen.contains e.born
      let old:=left.filter λe=>Nat.blt e.born since
      let new:=left.filter λe=>Nat.ble since e.born
      some ((if old.isEmpty then[(.tuple #[.bool false],h)]else[])++
       (old++new).map λe=>(.tuple #[.bool true,e.key,e.val],h.set r (.mapIter (some m) since (seen++[e.born]) clock))))
    |_=>none
   |_=>none
 |_=>none
def inBlock(id:Nat)(o:Out):Out:=
 match o with
 | .exit j=>cond (Nat.beq j id) .normal (.exit j)
 |o=>o
def rR(o:Out):Option FrameMode:=
 match o with
 | .normal| .ret=>some .returning
 | .panic ch=>some (.panicking ch)
 | .exit _=>none
def qo(n:Nat)(ps:List Tmp)(args:List Value)(t:T Value):T Value:=
 List.rec (motive:=λ_=>List Value->T Value->T Value) (λ_ t=>t)
  (λp _ ih args t=>match args with
    |v::args=>ih args (cond (Nat.blt p n) (t.set p (some v)) t)
    |[]=>t) ps args t
mutual
def j3(m:Nat):Value->Bool
 | .pointer (some a)=>Nat.blt a.block m
 | .slice (some a) _ _=>Nat.blt a.block m
 | .map (some i)=>Nat.blt i m
 | .func fn ⟨f⟩ ⟨c⟩=>(match fn with
   | .yield _=>false
   |_=>true)&&ou m f&&ou m c
 | .iface _ v=>j3 m v
 | .agg ⟨l⟩=>ou m l
 | .tuple ⟨l⟩=>ou m l
 |_=>true
def ou(m:Nat):List Value->Bool
 |[]=>true
 |v::l=>j3 m v&&ou m l
end
def yj(m:Nat):bQ->Bool
 | .cells cs=>ou m cs
 | .map es _=>es.all λe=>j3 m e.val
 |_=>false
abbrev KO:=Out->aI->IH->Prop
abbrev KR:=gJ->Option FrameMode->IH->Prop
end
end Go.Ideal
namespace Go.Ideal
noncomputable section
def yl{α:Type}(f:Nat):List α->T α:=
 Nat.rec (motive:=λ_=>List α->T α) (λ_=>.leaf)
  (λ_ ih l=>List.rec (motive:=λ_=>T α) .leaf (λx l _=>.node (some x)
    (ih (List.rec (motive:=λ_=>Bool->List α) (λ_=>[]) (λy _ r b=>Bool.rec (motive:=λ_=>List α) (r true) (y::r false) b) l true))
    (ih (List.rec (motive:=λ_=>Bool->List α) (λ_=>[]) (λy _ r b=>Bool.rec (motive:=λ_=>List α) (r true) (y::r false) b) l false))) l) f
def nI(f:Nat):Value->Value->Bool:=
 Nat.rec (motive:=λ_=>Value->Value->Bool) (λ_ _=>false)
  (λ_ ih v u=>match v,u with
    | .bool a,.bool b=>a==b
    | .int .i64 a,.int .i64 b=>yc a b
    | .int j a,.int k b=>j==k&&a==b
    | .string a,.string b=>a.data.toList==b.data.toList
    | .pointer none,.pointer none=>true
    | .pointer (some ⟨i,o,none⟩),.pointer (some ⟨j,p,none⟩)=>Nat.beq i j&&Nat.beq o p
    | .slice none n c,.slice none m d=>Nat.beq n m&&Nat.beq c d
    | .slice (some ⟨i,o,some f⟩) n c,.slice (some ⟨j,p,some g⟩) m d=>Nat.beq i j&&Nat.beq o p&&Nat.beq f g&&Nat.beq n m&&Nat.beq c d
    | .map none,.map none=>true
    | .map (some i),.map (some j)=>Nat.beq i j
    | .nilIface,.nilIface=>true
    | .nilFunc,.nilFunc=>true
    | .iface t v,.iface s u=>Nat.beq t s&&ih v u
    | .agg ⟨a⟩,.agg ⟨b⟩=>List.rec (motive:=λ_=>List Value->Bool) (λb=>match b with|[]=>true|_=>false) (λx _ r b=>match b with|y::b=>cond (ih x y) (r b) false|[]=>false) a b
    | .tuple ⟨a⟩,.tuple ⟨b⟩=>List.rec (motive:=λ_=>List Value->Bool) (λb=>match b with|[]=>true|_=>false) (λx _ r b=>match b with|y::b=>cond (ih x y) (r b) false|[]=>false) a b
    | .func f ⟨a⟩ ⟨c⟩,.func g ⟨b⟩ ⟨d⟩=>f==g&&
       List.rec (motive:=λ_=>List Value->Bool) (λb=>match b with|[]=>true|_=>false) (λx _ r b=>match b with|y::b=>cond (ih x y) (r b) false|[]=>false) a b&&
       List.rec (motive:=λ_=>List Value->Bool) (λb=>match b with|[]=>true|_=>false) (λx _ r b=>match b with|y::b=>cond (ih x y) (r b) false|[]=>false) c d
    |_,_=>false) f
abbrev BO:=Out->aI->IH->Bool
abbrev BR:=gJ->Option FrameMode->IH->Bool
structure Ev where
 code:bG->aI->IH->BO->Bool
 call:dO->IH->BR->Bool
structure Env where
 P:Program
 F:Nat->Option dW
 cut:Nat->Option (dO->IH->Option (List Value×Nat×Nat))
 /-- calls that are known: what they return, and the heap behind them -/
 memo:Nat->Option (dO->IH->Option (Value×IH))
def Ah(P:Program)(re:List fq)(a:aI)(h:IH):Bool:=
 List.rec (motive:=λ_=>Bool) true (λr _ ih=>cond (match a.wants r.guard with
  |some false=>true
  |_=>match r.op.run P a.eval h with
   |some (u,_)=>match r.dst with
    |some d=>nI 50 (bJ a.tmps d) u
    |none=>true
   |none=>false) ih false) re
def Gw(P:Program)(s:aP)(a:aI)(h:IH)(next:aI->IH->Bool):Bool:=
 match s.s.op.run P a.eval h with
 |some (v,h)=>match s.re with
  |[]=>next (a.put s.s.dst v) h
  |re=>cond (Ah P re (a.put s.s.dst v) h) (next (a.put s.s.dst v) h) false
 |none=>false
def CY(P:Program)(E:Ev)(ds:List Tmp)(s:aP)(a:aI)(h:IH)(next:aI->IH->Bool)(k:BO):Bool:=
 match sS s.s.op a.eval with
 |some q=>E.call q h λr _ h=>match r with
  | .ok v=>cond (Ah P s.re (a.put s.s.dst v) h) (next (a.put s.s.dst v) h) false
  | .fP ch=>k (.panic ch) (forget ds a) h
 |none=>false
def Ai(s:aP)(b:Bool):Bool:=match s.re with
 |[]=>b
 |_=>false
def CZ(P:Program)(E:Ev)(ds:List Tmp)(s:aP)(a:aI)(h:IH)(next:aI->IH->Bool)(k:BO):Bool:=
 match s.s.op with
 | .call _ _=>CY P E ds s a h next k
 | .invoke _ _ _=>CY P E ds s a h next k
 | .recover=>Ai s (match a.ro with
   |some _=>false
   |none=>match a.pm with
    |none=>next (a.put s.s.dst .nilIface) h
    |some m=>next ({a with pm:=some (gZ m).2}.put s.s.dst (gZ m).1) h)
 | .panic x=>match a.eval x with
   | .iface t v=>k (.panic [{v:=.iface t v,recovered:=false}]) (forget ds a) h
   |_=>false
 | .dcall f args=>Ai s (match a.ro with
   |some _=>false
   |none=>match a.eval f with
    | .func fn ⟨first⟩ ⟨captured⟩=>next ({a with defers:={target:=.fn fn ⟨captured⟩,args:=⟨iM first (jh a.eval args)⟩}::a.defers}.put s.s.dst bN) h
    |_=>false)
 | .sO x=>Ai s (match wJ (a.eval x) h with
   |some alts=>CK (λvh=>next (a.put s.s.dst vh.1) vh.2) alts
   |none=>false)
 |_=>Gw P s a h next
def Aj(P:Program)(E:Ev)(ds:List Tmp)(l:List aP):aI->IH->BO->Bool:=
 List.rec (motive:=λ_=>aI->IH->BO->Bool) (λa h k=>k .normal a h)
  (λs _ ih a h k=>match a.wants s.s.guard with
    |some true=>CZ P E ds s a h (λa h=>ih a h k) k
    |some false=>ih (a.put s.s.dst ql) h k
    |none=>false) l
def wK(E:Ev)(cf:dW)(ts:T Value)(ds:List Deferred):FrameMode->IH->(gJ->IH->Bool)->Bool:=
 List.rec (motive:=λ_=>FrameMode->IH->(gJ->IH->Bool)->Bool)
  (λm h k=>match m with
    | .returning=>match nH cf.results ts h with
      |some v=>k (.ok v) h
      |none=>false
    | .panicking ch=>k (.fP ch) h
    | .run=>false)
  (λd _ ih m h k=>match m with
    | .run=>false
    |m=>match d with
     |{target:=.collected r,.. }=>match h.get r with
      |some (.fO true)=>ih m (h.set r (.fO false)) k
      |_=>false
     |{target:=.fn fn ⟨captured⟩,args:=⟨args⟩}=>E.call ⟨fn,args,captured,some m⟩ h λr pm h=>match pm with
      |none=>false
      |some m'=>match r with
       | .ok _=>ih (uL m') h k
       | .fP ch=>ih (yg m' ch) h k
     |_=>false) ds
def wL(V:Env)(E:Ev)(f:FuncId)(args:List Value)(pm:Option FrameMode)(h:IH)(k:BR):Bool:=
 match V.F f with
 |none=>false
 |some cf=>E.code cf.body (wI cf.ntmps args pm) h λo a h=>match rR o with
  |none=>false
  |some m=>wK E cf a.tmps a.defers m h λr h=>k r a.pm h
def LP(l:Nat)(o:Out)(a:aI)(h:IH)(k:BR):Bool:=
 match a.defers with
 |[]=>match h.get l with
  |some (.loop r)=>match o with
   | .normal=>k (.ok (.bool true)) none (h.set l (.loop {r with state:=.ready,pending:=none}))
   | .panic ch=>k (.fP ch) none h
   | .exit id=>k (.ok (.bool false)) none (h.set l (.loop {r with state:=.done,pending:=some (.exit id)}))
   | .ret=>k (.ok (.bool false)) none (h.set l (.loop {r with state:=.done,pending:=some .ret}))
  |_=>false
 |_=>false
def Gx(E:Ev)(l:Nat)(args:List Value)(h:IH)(k:BR):Bool:=
 match h.get l with
 |some (.loop r)=>cond (Nat.beq (fZ args) (fZ r.params))
  (E.code r.assign {n:=r.n,tmps:=qo r.n r.params args r.tmps,defers:=[],pm:=none,ro:=some l} h λo a h=>match o with
    | .normal=>match h.get l with
      |some (.loop r1)=>match r1.state with
       | .ready=>E.code r.body a (h.set l (.loop {r1 with state:=.busy})) λo a h=>LP l o a h k
       |_=>false
      |_=>false
    |_=>false) false
 |_=>false
def LQ(cs:List Value)(n f:Nat)(h0:IH)(r:gJ)(pm:Option FrameMode)(h:IH):Bool:=
 match pm with
 |some _=>false
 |none=>match r with
  | .ok (.slice (some ⟨i,o,some f'⟩) n' c)=>cond (Nat.beq n n'&&Nat.beq f f'&&(!Nat.beq f 0||Nat.beq c n)&&Nat.ble h0.next i&&Nat.beq h.low h0.next) (match h.rM i o (fZ cs)with
    |some l=>List.rec (motive:=λ_=>List Value->Bool) (λb=>match b with|[]=>true|_=>false) (λx _ r b=>match b with|y::b=>cond (nI 5 x y) (r b) false|[]=>false) l cs
    |none=>false) false
  |_=>false
def Gy(V:Env)(f:Nat)(q:dO)(h:IH)(k:BR)(other:Bool):Bool:=
 match V.memo f with
 |none=>other
 |some g=>match q.pm with
  |some _=>other
  |none=>match g q h with
   |some (v,h')=>k (.ok v) none h'
   |none=>other
def Gz(V:Env)(E:Ev)(q:dO)(h:IH)(k:BR):Bool:=
 match q.fn with
 | .yield l=>match q.pm with
   |none=>Gx E l q.args h k
   |some _=>false
 |_=>match target V.P q with
  |none=>false
  |some (f',args)=>Gy V f' q h k (match V.cut f' with
   |none=>wL V E f' args q.pm h k
   |some g=>match q.pm with
    |some _=>false
    |none=>match g q h with
     |none=>wL V E f' args q.pm h k
     |some ([],_,_)=>wL V E f' args q.pm h k
     |some (cs,n,f)=>cond (gV cs&&(Nat.beq f 0||Nat.beq (fZ cs) (Nat.mul n f)))
       (cond (wL V E f' args none {h with low:=h.next} (LQ cs n f h))
         (k (.ok (.slice (some ⟨h.next,0,some f⟩) n n)) none (h.new (.cells cs))) false) false)
def C8(V:Env)(E:Ev)(c:bG)(a:aI)(h:IH)(k:BO):Bool:=
 match c with
 | .skip=>k .normal a h
 | .ops ds l=>Aj V.P E ds l a h k
 | .seq x y=>E.code x a h λo a h=>match o with
   | .normal=>E.code y a h k
   |o=>k o a h
 | .cond c x y=>match a.eval c with
   | .bool true=>E.code x a h k
   | .bool false=>E.code y a h k
   |_=>false
 | .block id c=>E.code c a h λo a h=>k (inBlock id o) a h
 | .loop c=>E.code c a h λo a h=>match o with
   | .normal=>E.code (.loop c) a h k
   |o=>k o a h
 | .scope c=>E.code c a h k
 | .exit id=>k (.exit id) a h
 | .ret=>k .ret a h
 | .rangeFunc f ps assign body=>match a.eval f with
   | .func fn ⟨first⟩ ⟨captured⟩=>
     let go (a1:aI) (r:Nat) (h1:IH):Bool:=
      E.call ⟨fn,iM first [.func (.yield h1.next) #[] #[]],captured,none⟩
       (h1.new (.loop {state:=.ready,pending:=none,tmps:=a.tmps,n:=a.n,params:=ps,assign,body,defers:=r})) λres _ h2=>match res with
       | .ok _=>match h2.get h1.next with
         |some (.loop lp)=>match lp.state with
          | .busy=>false
          |_=>k (lp.pending.getD .normal) a1 (h2.set h1.next (.loop {lp with state:=.exhausted}))
         |_=>false
       | .fP ch=>k (.panic ch) a1 h2
     match a.ro with
     |none=>go {a with defers:={target:=.collected h.next,args:= #[]}::a.defers} h.next (h.new (.fO true))
     |some l0=>match h.get l0 with
      |some (.loop r0)=>go a r0.defers h
      |_=>false
   |_=>false
 | .fail=>false
def Ak(V:Env)(n:Nat):Ev:=
 Nat.rec (motive:=λ_=>Ev) ⟨λ_ _ _ _=>false,λ_ _ _=>false⟩ (λ_ E=>⟨C8 V E,Gz V E⟩) n
def oz(P:Program)(cut:Nat->Option (dO->IH->Option (List Value×Nat×Nat)))(memo:Nat->Option (dO->IH->Option (Value×IH))):Env:=
 {P,F:=λf=>match (yl 100000 P.funcs.toList).get f with
   |some fn=>qm P fn
   |none=>none,cut,memo}
def nJ:Nat->Option (dO->IH->Option (List Value×Nat×Nat)):=λ_=>none
def oZ:Nat->Option (dO->IH->Option (Value×IH)):=λ_=>none
noncomputable abbrev jD(P:Program)(n:FuncId):Option dW:=(oz P nJ oZ).F n
noncomputable def ym(P:Program)(n:FuncId):dW:=(jD P n).getD ⟨0,[],.skip⟩
theorem bB{P:Program}(n:FuncId)(h:(jD P n).isSome=true:=by kernel_rfl):(oz P nJ oZ).F n=some (ym P n):=by
 unfold ym;revert h;show(jD P n).isSome=true->jD P n=some ((jD P n).getD ⟨0,[],.skip⟩);cases jD P n with
 |none=>intro h;cases h
 |some c=>intro _;rfl
end
end Go.Ideal
namespace Go.Ideal
section
variable {α:Type}
theorem T.Al(n:Nat):(T.leaf:T α).get n=none:=rfl
theorem T.yn(v:Option α)(l r:T α):(T.node v l r).get 0=v:=rfl
theorem T.rT(v:Option α)(l r:T α)(m:Nat):(T.node v l r).get (m+1)=if m%2=0 then l.get (m/2)else r.get (m/2):=by
 show Bool.rec (motive:=λ_=>Option α) (r.get (m/2)) (l.get (m/2)) (Nat.beq (m%2) 0)=_;cases h:Nat.beq (m%2) 0 with
 |true=>simp[nA h]
 |false=>simp[zL h]
theorem T.TA(f:Nat)(x:Option α):T.one (f+1) 0 x=.node x .leaf .leaf:=rfl
theorem T.TB(f m:Nat)(x:Option α):T.one (f+1) (m+1) x=if m%2=0 then .node none (T.one f (m/2) x) .leaf else .node none .leaf (T.one f (m/2) x):=by
 show Bool.rec (motive:=λ_=>T α) (.node none .leaf (T.one f (m/2) x)) (.node none (T.one f (m/2) x) .leaf) (Nat.beq (m%2) 0)=_;cases h:Nat.beq (m%2) 0 with
 |true=>simp[nA h]
 |false=>simp[zL h]
theorem T.TC(n:Nat)(x:Option α):(T.leaf:T α).set n x=T.one (n+1) n x:=rfl
theorem T.TD(v:Option α)(l r:T α)(x:Option α):(T.node v l r).set 0 x=.node x l r:=rfl
theorem T.TE(v:Option α)(l r:T α)(m:Nat)(x:Option α):(T.node v l r).set (m+1) x=if m%2=0 then .node v (l.set (m/2) x) r else .node v l (r.set (m/2) x):=by
 show Bool.rec (motive:=λ_=>T α) (.node v l (r.set (m/2) x)) (.node v (l.set (m/2) x) r) (Nat.beq (m%2) 0)=_;cases h:Nat.beq (m%2) 0 with
 |true=>simp[nA h]
 |false=>simp[zL h]
theorem T.TF(x:Option α):∀(f n m:Nat),n<f->(T.one f n x).get m=if m=n then x else none:=by
 intro f;induction f with
 |zero=>intro n m h;omega
 |succ f ih=>
  intro n m h;cases n with
  |zero=>
   rw[T.TA];cases m with
   |zero=>simp[T.yn]
   |succ m=>rw[T.rT];simp[T.Al]
  |succ n=>
   rw[T.TB];by_cases hp:n%2=0
   ·rw[if_pos hp];cases m with
    |zero=>simp[T.yn]
    |succ m=>
     rw[T.rT];by_cases hq:m%2=0
     ·rw[if_pos hq,ih _ _ (by omega)];by_cases e:m=n
      ·subst e;simp
      ·rw[if_neg (by omega),if_neg (by omega)]
     ·rw[if_neg hq,T.Al,if_neg (by omega)]
   ·rw[if_neg hp];cases m with
    |zero=>simp[T.yn]
    |succ m=>
     rw[T.rT];by_cases hq:m%2=0
     ·rw[if_pos hq,T.Al,if_neg (by omega)]
     ·rw[if_neg hq,ih _ _ (by omega)];by_cases e:m=n
      ·subst e;simp
      ·rw[if_neg (by omega),if_neg (by omega)]
theorem T.jM(x:Option α):∀(t:T α) (n m:Nat),(t.set n x).get m=if m=n then x else t.get m:=by
 intro t;induction t with
 |leaf=>intro n m;rw[T.TC,T.TF _ _ _ _ (sJ n),T.Al]
 |node v l r hl hr=>
  intro n m;cases n with
  |zero=>
   rw[T.TD];cases m with
   |zero=>simp[T.yn]
   |succ m=>rw[T.rT,T.rT];simp
  |succ n=>
   rw[T.TE];by_cases hp:n%2=0
   ·rw[if_pos hp];cases m with
    |zero=>simp[T.yn]
    |succ m=>
     rw[T.rT,T.rT];by_cases hq:m%2=0
     ·rw[if_pos hq,if_pos hq,hl];by_cases e:m=n
      ·subst e;simp
      ·rw[if_neg (by omega),if_neg (by omega)]
     ·rw[if_neg hq,if_neg hq,if_neg (by omega)]
   ·rw[if_neg hp];cases m with
    |zero=>simp[T.yn]
    |succ m=>
     rw[T.rT,T.rT];by_cases hq:m%2=0
     ·rw[if_pos hq,if_pos hq,if_neg (by omega)]
     ·rw[if_neg hq,if_neg hq,hr];by_cases e:m=n
      ·subst e;simp
      ·rw[if_neg (by omega),if_neg (by omega)]
end
theorem IH.jM(h:IH)(i j:Nat)(o:bQ):(h.set i o).get j=if j=i then some o else h.get j:=T.jM _ _ _ _
theorem IH.o8(h:IH)(i j:Nat):(h.kill i).get j=if j=i then none else h.get j:=T.jM _ _ _ _
theorem IH.gu(h:IH)(j:Nat)(o:bQ):(h.new o).get j=if j=h.next then some o else h.get j:=T.jM _ _ _ _
theorem IH.GA(h:IH)(o:bQ):(h.new o).next=h.next+1:=rfl
theorem IH.GD(h:IH)(o:bQ):(h.new o).low=h.low:=rfl
theorem IH.C9(h:IH)(i:Nat)(o:bQ):(h.set i o).low=min h.low i:=by
 show cond (Nat.ble h.low i) h.low i=_;cases hb:Nat.ble h.low i with
 |true=>have:=jW hb;simp;omega
 |false=>have:¬h.low<=i:=λhh=>by rw[zM hh]at hb;cases hb
         simp;omega
theorem IH.wM(h:IH)(i:Nat):(h.kill i).low=min h.low i:=by
 show cond (Nat.ble h.low i) h.low i=_;cases hb:Nat.ble h.low i with
 |true=>have:=jW hb;simp;omega
 |false=>have:¬h.low<=i:=λhh=>by rw[zM hh]at hb;cases hb
         simp;omega
theorem yo(t:T Value)(i j:Nat)(v:Value):bJ (t.set i (some v)) j=if j=i then v else bJ t j:=by
 unfold bJ;rw[T.jM];split<;>rfl
section
variable {α β:Type}
theorem qp(f:α->β)(l:List α):jh f l=l.map f:=by
 induction l with
 |nil=>rfl
 |cons x l ih=>show f x::jh f l=_;rw[ih];rfl
theorem mH(l:List α)(n:Nat):gH l n=l[n]?:=by
 induction l generalizing n with
 |nil=>rfl
 |cons x l ih=>cases n with
  |zero=>rfl
  |succ n=>show gH l n=_;rw[ih];simp
theorem jE(l:List α)(n:Nat):iE l n=l.drop n:=by
 induction l generalizing n with
 |nil=>cases n<;>rfl
 |cons x l ih=>cases n with
  |zero=>rfl
  |succ n=>show iE l n=_;rw[ih];simp
theorem qw(l:List α):fZ l=l.length:=by
 induction l with
 |nil=>rfl
 |cons x l ih=>show fZ l+1=_;rw[ih];rfl
theorem gK(l r:List α):iM l r=l++r:=by
 induction l with
 |nil=>rfl
 |cons x l ih=>show x::iM l r=_;rw[ih];rfl
theorem jF(l:List α)(n:Nat):gU l n=if n<=l.length then some (l.take n)else none:=by
 induction l generalizing n with
 |nil=>cases n<;>rfl
 |cons x l ih=>cases n with
  |zero=>rfl
  |succ n=>
   show Option.rec (motive:=λ_=>Option (List α)) none (λr=>some (x::r)) (gU l n)=_;rw[ih];by_cases h:n<=l.length
   ·rw[if_pos h,if_pos (by simpa using h)];rfl
   ·rw[if_neg h,if_neg (by simpa using h)]
theorem LU(p:α->Bool)(l:List α):CK p l=l.all p:=by
 induction l with
 |nil=>rfl
 |cons x l ih=>
  show Bool.rec (motive:=λ_=>Bool) false (CK p l) (p x)=_;rw[ih];cases h:p x<;>simp[h]
theorem LV(o:Nat)(xs:List α):fV [] o xs=if xs=[]/\o=0 then some []else none:=by cases xs<;>cases o<;>rfl
theorem LW(c:α)(l:List α):fV (c::l) 0 []=some (c::l):=rfl
theorem GG(c:α)(l:List α)(x:α)(xs:List α):fV (c::l) 0 (x::xs)=(fV l 0 xs).map (x::·):=by
 show Option.rec (motive:=λ_=>Option (List α)) none (λr=>some (x::r)) (fV l 0 xs)=_;cases fV l 0 xs<;>rfl
theorem GH(c:α)(l:List α)(o:Nat)(xs:List α):fV (c::l) (o+1) xs=(fV l o xs).map (c::·):=by
 show Option.rec (motive:=λ_=>Option (List α)) none (λr=>some (c::r)) (fV l o xs)=_;cases fV l o xs<;>rfl
theorem Da{l:List α}:∀{o:Nat} {xs r:List α},fV l o xs=some r->
 o+xs.length<=l.length/\r.length=l.length/\∀j:Nat,r[j]? =if o<=j/\j<o+xs.length then xs[j - o]? else l[j]?:=by
 induction l with
 |nil=>
  intro o xs r h;rw[LV]at h;split at h
  ·rename_i he;obtain⟨rfl,rfl⟩:=he;cases h;refine⟨by simp,rfl,λj=>?_⟩;rw[if_neg (by simp)]
  ·cases h
 |cons c l ih=>
  intro o xs r h;cases o with
  |zero=>
   cases xs with
   |nil=>rw[LW]at h;cases h;refine⟨by simp,rfl,λj=>?_⟩;rw[if_neg (by simp)]
   |cons x xs=>
    rw[GG]at h;cases hr:fV l 0 xs with
    |none=>rw[hr]at h;cases h
    |some r'=>
     rw[hr]at h;cases h;obtain⟨h1,h2,h3⟩:=ih hr;refine⟨by simp at h1⊢;omega,by simp[h2],λj=>?_⟩
     ·cases j with
      |zero=>simp
      |succ j=>have:=h3 j;simp at this⊢;rw[this]
  |succ o=>
   rw[GH]at h;cases hr:fV l o xs with
   |none=>rw[hr]at h;cases h
   |some r'=>
    rw[hr]at h;cases h;obtain⟨h1,h2,h3⟩:=ih hr;refine⟨by simp;omega,by simp[h2],λj=>?_⟩
    ·cases j with
     |zero=>simp
     |succ j=>
      have:=h3 j;simp only[nW];rw[this];by_cases hc:o<=j/\j<o+xs.length
      ·rw[if_pos hc,if_pos (by omega)];congr 1;omega
      ·rw[if_neg hc,if_neg (by omega)]
theorem LX(f:α->α)(l:List α)(n:Nat):setAt f l n=l.modify n f:=by
 induction l generalizing n with
 |nil=>cases n<;>rfl
 |cons x l ih=>cases n with
  |zero=>rfl
  |succ n=>show x::setAt f l n=_;rw[ih];simp
end
theorem zeros_length(z:List Value)(n:Nat):(zeros z n).length=n*z.length:=by
 induction n with
 |zero=>simp;rfl
 |succ n ih=>show(iM z (zeros z n)).length=_;rw[gK,dK,ih,Nat.succ_mul,Nat.add_comm]
structure fD where
 b:Nat
 off:Nat
 len:Nat
 top:Nat
 sz:Nat
abbrev ak:=Nat->Option fD
inductive FR(β:ak):Fn->Fn->Prop
 |func (f:FuncId):FR β (.func f) (.func f)
 |method (n:String):FR β (.method n) (.method n)
 |methodOf (t:TypeId) (n:String):FR β (.methodOf t n) (.methodOf t n)
 |yield {l:Nat} {g:fD} (h:β l=some g):FR β (.yield l) (.yield g.b)
mutual
inductive VR(β:ak):Value->Value->Prop
 |bN (v:Value):VR β (.tuple #[]) v
 |skip:VR β (.chan (some 0)) (.tuple #[])
 |bool (b:Bool):VR β (.bool b) (.bool b)
 |int (k:IntKind) (n:Int):VR β (.int k n) (.int k n)
 |float (k:FloatKind) (n:Nat):VR β (.float k n) (.float k n)
 |complex (k:FloatKind) (n m:Nat):VR β (.complex k n m) (.complex k n m)
 |string (s:ByteArray):VR β (.string s) (.string s)
 |nilFunc:VR β .nilFunc .nilFunc
 |nilIface:VR β .nilIface .nilIface
 |uM:VR β (.pointer none) (.pointer none)
 |ptr {i o:Nat} {g:fD} (h:β i=some g):VR β (.pointer (some ⟨i,o,none⟩)) (.pointer (some ⟨g.b,g.off+o,none⟩))
 |sl0 (n c:Nat):VR β (.slice none n c) (.slice none n c)
 |bC {i o n c:Nat} {g:fD} {a:Addr} (h:β i=some g) (hb:a.block=g.b) (hn:n<=c) (ha:c=0\/(a.off=g.off+o/\a.spot=none)):
   VR β (.slice (some ⟨i,o,some 0⟩) n c) (.slice (some a) n c)
 |lu {i o n c c':Nat} {g:fD} {a:Addr} (h:β i=some g) (hb:a.block=g.b) (hs:a.spot=none) (hn:n<=c) (hz:0<g.sz)
   (hl:o+c*g.sz=g.len) (ht:g.off+o+c'*g.sz=g.top) (hc:c<=c') (ha:c'=0\/a.off=g.off+o):
   VR β (.slice (some ⟨i,o,some g.sz⟩) n c) (.slice (some a) n c')
 |sU:VR β (.map none) (.map none)
 |map {i:Nat} {g:fD} (h:β i=some g):VR β (.map (some i)) (.map (some g.b))
 |func {fn fn':Fn} {f f' c c':List Value} (h:FR β fn fn') (hf:aD β f f') (hc:aD β c c'):VR β (.func fn ⟨f⟩ ⟨c⟩) (.func fn' ⟨f'⟩ ⟨c'⟩)
 |iface (t:TypeId) {v v':Value} (h:VR β v v'):VR β (.iface t v) (.iface t v')
 |agg {l l':List Value} (hc:l.all cellV=true) (h:aD β l l'):VR β (.agg ⟨l⟩) (.agg ⟨l'⟩)
 |tuple {l l':List Value} (h:aD β l l'):VR β (.tuple ⟨l⟩) (.tuple ⟨l'⟩)
inductive aD(β:ak):List Value->List Value->Prop
 |nil:aD β [] []
 |cons {v v':Value} {l l':List Value} (h:VR β v v') (hl:aD β l l'):aD β (v::l) (v'::l')
end
def ak.le(β β':ak):Prop:=∀i g,β i=some g->β' i=some g
theorem FR.mono{β β':ak}(h:β.le β'){f f':Fn}(hf:FR β f f'):FR β' f f':=by
 cases hf with
 |func f=>exact .func f
 |method n=>exact .method n
 |methodOf t n=>exact .methodOf t n
 |yield hl=>exact .yield (h _ _ hl)
mutual
theorem VR.mono{β β':ak}(h:β.le β'):∀{v v':Value},VR β v v'->VR β' v v'
 |_,_,.bN v=>.bN v
 |_,_,.skip=>.skip
 |_,_,.bool b=>.bool b
 |_,_,.int k n=>.int k n
 |_,_,.float k n=>.float k n
 |_,_,.complex k n m=>.complex k n m
 |_,_,.string s=>.string s
 |_,_,.nilFunc=>.nilFunc
 |_,_,.nilIface=>.nilIface
 |_,_,.uM=>.uM
 |_,_,.ptr hi=>.ptr (h _ _ hi)
 |_,_,.sl0 n c=>.sl0 n c
 |_,_,.bC hi hb hn ha=>.bC (h _ _ hi) hb hn ha
 |_,_,.lu hi hb hs hn hz hl ht hc ha=>.lu (h _ _ hi) hb hs hn hz hl ht hc ha
 |_,_,.sU=>.sU
 |_,_,.map hi=>.map (h _ _ hi)
 |_,_,.func hf h1 h2=>.func (hf.mono h) (aD.mono h h1) (aD.mono h h2)
 |_,_,.iface t hv=>.iface t (VR.mono h hv)
 |_,_,.agg hc hl=>.agg hc (aD.mono h hl)
 |_,_,.tuple hl=>.tuple (aD.mono h hl)
theorem aD.mono{β β':ak}(h:β.le β'):∀{v v':List Value},aD β v v'->aD β' v v'
 |_,_,.nil=>.nil
 |_,_,.cons hv hl=>.cons (VR.mono h hv) (aD.mono h hl)
end
theorem aD.length{β:ak}{l l':List Value}(h:aD β l l'):l'.length=l.length:=by
 induction l generalizing l' with
 |nil=>cases h;rfl
 |cons v l ih=>cases h with|cons hv hl=>simp[ih hl]
theorem aD.get{β:ak}{l l':List Value}(h:aD β l l'){i:Nat}{v:Value}(hi:l[i]? =some v):∃v',l'[i]? =some v'/\VR β v v':=by
 induction l generalizing l' i with
 |nil=>simp at hi
 |cons x l ih=>
  cases h with
  |cons hv hl=>
   cases i with
   |zero=>simp at hi;subst hi;exact⟨_,by simp,hv⟩
   |succ i=>simp at hi;obtain⟨v',h1,h2⟩:=ih hl hi;exact⟨v',by simpa using h1,h2⟩
theorem aD.GI{β:ak}{l l':List Value}(hlen:l'.length=l.length)(h:∀(i:Nat) (v:Value),l[i]? =some v->∃v',l'[i]? =some v'/\VR β v v'):aD β l l':=by
 induction l generalizing l' with
 |nil=>cases l' with|nil=>exact .nil|cons x l'=>simp at hlen
 |cons x l ih=>
  cases l' with
  |nil=>simp at hlen
  |cons y l'=>
   refine .cons ?_ (ih (by simpa using hlen) λi v hi=>?_)
   ·obtain⟨v',h1,h2⟩:=h 0 x (by simp);simp at h1;subst h1;exact h2
   ·obtain⟨v',h1,h2⟩:=h (i+1) v (by simpa using hi);exact⟨v',by simpa using h1,h2⟩
theorem aD.append{β:ak}{l l' r r':List Value}(h:aD β l l')(k:aD β r r'):aD β (l++r) (l'++r'):=by
 induction l generalizing l' with
 |nil=>cases h;exact k
 |cons x l ih=>cases h with|cons hv hl=>exact .cons hv (ih hl)
theorem aD.take{β:ak}{l l':List Value}(h:aD β l l')(n:Nat):aD β (l.take n) (l'.take n):=by
 induction l generalizing l' n with
 |nil=>cases h;simp;exact .nil
 |cons x l ih=>cases h with|cons hv hl=>cases n with
  |zero=>exact .nil
  |succ n=>exact .cons hv (ih hl n)
theorem aD.drop{β:ak}{l l':List Value}(h:aD β l l')(n:Nat):aD β (l.drop n) (l'.drop n):=by
 induction l generalizing l' n with
 |nil=>cases h;simp;exact .nil
 |cons x l ih=>cases h with|cons hv hl=>cases n with
  |zero=>exact .cons hv hl
  |succ n=>exact ih hl n
theorem aD.map{β:ak}{γ:Type}{f f':γ->Value}(l:List γ)(h:∀x∈l,VR β (f x) (f' x)):aD β (l.map f) (l.map f'):=by
 induction l with
 |nil=>exact .nil
 |cons x l ih=>exact .cons (h x (by simp)) (ih λy hy=>h y (by simp[hy]))
mutual
theorem VR.free{β:ak}:∀{v:Value},bE v=true->VR β v v
 | .bool b,_=>.bool b
 | .int k n,_=>.int k n
 | .float k n,_=>.float k n
 | .complex k n m,_=>.complex k n m
 | .string s,_=>.string s
 | .nilFunc,_=>.nilFunc
 | .nilIface,_=>.nilIface
 | .pointer none,_=>.uM
 | .pointer (some a),h=>by simp[bE]at h
 | .slice none n c,_=>.sl0 n c
 | .slice (some a) n c,h=>by simp[bE]at h
 | .map none,_=>.sU
 | .map (some r),h=>by simp[bE]at h
 | .chan r,h=>by simp[bE]at h
 | .func _ _ _,h=>by simp[bE]at h
 | .iface t v,h=>.iface t (VR.free (by simp[bE]at h;exact h.1))
 | .agg ⟨l⟩,h=>.agg (qx (by simpa[bE]using h)) (aD.free (by simpa[bE]using h))
 | .tuple _,h=>by simp[bE]at h
theorem aD.free{β:ak}:∀{l:List Value},gV l=true->aD β l l
 |[],_=>.nil
 |v::l,h=>.cons (VR.free (by simp[gV]at h;exact h.1.1)) (aD.free (by simp[gV]at h;exact h.2))
theorem qx:∀{l:List Value},gV l=true->l.all cellV=true
 |[],_=>rfl
 |v::l,h=>by simp[gV]at h;simp only[wu,h.1.2,Bool.true_and];exact qx h.2
end
mutual
theorem VR.kE{β:ak}:∀{v v':Value},VR β v v'->bE v=true->v'=v
 |_,_,.bool b,_=>rfl
 |_,_,.int k n,_=>rfl
 |_,_,.float k n,_=>rfl
 |_,_,.complex k n m,_=>rfl
 |_,_,.string s,_=>rfl
 |_,_,.nilFunc,_=>rfl
 |_,_,.nilIface,_=>rfl
 |_,_,.uM,_=>rfl
 |_,_,.sl0 n c,_=>rfl
 |_,_,.sU,_=>rfl
 |_,_,.iface t hv,h=>by rw[VR.kE hv (by simp[bE]at h;exact h.1)]
 |_,_,.agg hc hl,h=>by rw[aD.kE hl (by simpa[bE]using h)]
 |_,_,.bN v,h=>by simp[bE]at h
 |_,_,.skip,h=>by simp[bE]at h
 |_,_,.ptr _,h=>by simp[bE]at h
 |_,_,.bC _ _ _ _,h=>by simp[bE]at h
 |_,_,.lu _ _ _ _ _ _ _ _ _,h=>by simp[bE]at h
 |_,_,.map _,h=>by simp[bE]at h
 |_,_,.func _ _ _,h=>by simp[bE]at h
 |_,_,.tuple _,h=>by simp[bE]at h
theorem aD.kE{β:ak}:∀{l l':List Value},aD β l l'->gV l=true->l'=l
 |_,_,.nil,_=>rfl
 |_,_,.cons hv hl,h=>by
  simp[gV]at h;rw[VR.kE hv h.1.1,aD.kE hl h.2]
end
theorem uN{α:Type}{P:Program}{s:Sem α}{x:α}(h:dh P s=some x)(w:World):s.run P w=.ok x w:=by
 induction s with
 |pure a=>simp[dh]at h;subst h;rfl
 |program k ih=>simp only[dh]at h;simp only[Sem.run];exact ih _ h
 |mark m k ih=>simp only[dh]at h;simp only[Sem.run];exact ih h
 |_=>simp[dh]at h
theorem VR.cells{β:ak}{v v':Value}{cs:List Value}(h:VR β v v')(hc:cellsOf v=some cs):cs.all cellV=true/\∃cs',v'.cells=⟨cs'⟩/\aD β cs cs':=by
 cases h<;>simp only[cellsOf,au,reduceCtorEq]at hc<;>try subst hc
 case agg hc' hl=>exact⟨hc',_,rfl,hl⟩
 all_goals exact⟨rfl,_,rfl,.cons (by constructor<;>assumption) .nil⟩
theorem VR.cellV{β:ak}{v v':Value}(h:VR β v v')(hc:cellV v=true):(∀cs,v'≠.agg cs)/\(∀cs,v'≠.tuple cs):=by
 cases h<;>simp_all [Ideal.cellV]
inductive dP(β:ak):List MapEntry->List MapEntry->Prop
 |nil:dP β [] []
 |cons {e e':MapEntry} {l l':List MapEntry} (hk:e'.key=e.key) (hf:bE e.key=true) (hb:e'.born=e.born) (hv:VR β e.val e'.val) (hl:dP β l l'):dP β (e::l) (e'::l')
def LY:Out->Option Code
 | .normal=>none
 | .exit id=>some (.exit id)
 | .ret=>some .ret
 | .panic _=>none
structure LR(P:Program)(β:ak)(r:kD)(r':Loop):Prop where
 state:r'.state=r.state
 pending:r'.pending=r.pending.bind LY
 Am:∀ch,r.pending≠some (.panic ch)
 size:r'.tmps.size=r.n
 tmps:∀i,VR β (bJ r.tmps i) (r'.tmps.getD i undef)
 out:∀i,r.n<=i->bJ r.tmps i=bN
 params:r'.params.toList=r.params
 assign:compile P r'.assign=r.assign
 body:compile P r'.body=r.body
 defers:∃g,β r.defers=some g/\r'.defers=g.b
 yu:∃f,P.funcs[r'.fn]? =some f
def OR(P:Program)(β:ak)(g:fD)(w:World):bQ->Prop
 | .cells cs=>(∃c t fz,w.heap[g.b]? =some (.cells c t fz))/\cs.length=g.len/\g.off+g.len<=g.top/\
    (∀j,j<g.top->(w.cell? ⟨g.b,j,none⟩).isSome=true/\w.frozen? ⟨g.b,j,none⟩=false)/\
    cs.all cellV=true/\∀(j:Nat) v,cs[j]? =some v->∃v',w.cell? ⟨g.b,g.off+j,none⟩=some v'/\VR β v v'
 | .fM cs=>(∃c t fz,w.heap[g.b]? =some (.cells c t fz)/\(g.top=0\/c.size=g.top))/\g.sz=0/\cs.all cellV=true/\∀(j:Nat) v,cs[j]? =some v->∃v',w.cell? ⟨g.b,g.off+j,none⟩=some v'/\VR β v v'
 | .map es clock=>∃es',w.heap[g.b]? =some (.map es' clock)/\dP β es es'.toList
 | .wE s pos=>w.heap[g.b]? =some (.stringIter s pos)/\g.off=0
 | .mapIter m since seen stepped=>∃m' seen',w.heap[g.b]? =some (.mapIter m' since seen' stepped)/\seen'.toList=seen/\VR β (.map m) (.map m')/\g.off=0
 | .loop r=>∃r',w.heap[g.b]? =some (.loop r')/\LR P β r r'
 | .fO b=>w.heap[g.b]? =some (.deferred (if b then some []else none))
structure WR(P:Program)(β:ak)(h:IH)(w:World):Prop where
 dom:∀i g,β i=some g->i<h.next
 live:∀i o,h.get i=some o->i<h.next
 obj:∀i g o,β i=some g->h.get i=some o->OR P β g w o
 inj:∀i j g k,β i=some g->β j=some k->h.get i≠none->h.get j≠none->((∀cs,h.get i≠some (.fM cs))\/∀cs,h.get j≠some (.fM cs))->g.b=k.b->i=j
structure Eff(β:ak)(h:IH)(w:World)(β':ak)(h':IH)(w':World):Prop where
 agree:∀i,i<h.next->β' i=β i
 next:h.next<=h'.next
 alive:∀i,i<h.next->h'.get i≠none->h.get i≠none
 hid:∀i,i<h.next->β i=none->h'.get i=h.get i
 low:h'.low<=h.low
 kept:∀i,i<h'.low->i<h.next->h'.get i=h.get i
 os:w'.os=w.os
 tape:w'.tape=w.tape
 output:w'.output=w.output
 size:w.heap.size<=w'.heap.size
 keep:∀b,b<w.heap.size->(∀i g,β i=some g->h.get i≠none->g.b≠b)->w'.heap[b]? =w.heap[b]?
 fresh:∀i g,β' i=some g->h.next<=i->w.heap.size<=g.b\/∃j k,β j=some k/\h.get j≠none/\k.b=g.b
 mI:∀i g,i<h'.low->i<h.next->β i=some g->h.get i≠none->g.b<w.heap.size->w'.heap[g.b]? =w.heap[g.b]?
 drawn:w.drawn<=w'.drawn
theorem Eff.refl(β:ak)(h:IH)(w:World)(hd:∀i g,β i=some g->i<h.next):Eff β h w β h w:=
 ⟨λ_ _=>rfl,aC _,λ_ _ h=>h,λ_ _ _=>rfl,aC _,λ_ _ _=>rfl,rfl,rfl,rfl,aC _,λ_ _ _=>rfl,
  λi g hg hi=>absurd (hd i g hg) (by omega),λ_ _ _ _ _ _ _=>rfl,aC _⟩
theorem Eff.le{β β':ak}{h h':IH}{w w':World}(e:Eff β h w β' h' w')(hd:∀i g,β i=some g->i<h.next):β.le β':=
 λi g hg=>(e.agree i (hd i g hg)).trans hg
theorem Eff.trans{β β1 β2:ak}{h h1 h2:IH}{w w1 w2:World}(e:Eff β h w β1 h1 w1)(f:Eff β1 h1 w1 β2 h2 w2):Eff β h w β2 h2 w2 where
 agree i hi:=(f.agree i (jy hi e.next)).trans (e.agree i hi)
 mI i g hl hi hg hn hb:=(f.mI i g hl (jy hi e.next) ((e.agree i hi).trans hg) (by rw[e.kept i (jy hl f.low) hi];exact hn) (jy hb e.size)).trans
  (e.mI i g (jy hl f.low) hi hg hn hb)
 next:=cO e.next f.next
 drawn:=cO e.drawn f.drawn
 alive i hi hn:=e.alive i hi (f.alive i (jy hi e.next) hn)
 hid i hi hb:=(f.hid i (jy hi e.next) ((e.agree i hi).trans hb)).trans (e.hid i hi hb)
 low:=cO f.low e.low
 kept i hl hi:=(f.kept i hl (jy hi e.next)).trans (e.kept i (jy hl f.low) hi)
 os:=f.os.trans e.os
 tape:=f.tape.trans e.tape
 output:=f.output.trans e.output
 size:=cO e.size f.size
 keep b hb hno:=by
  refine(f.keep b (jy hb e.size) λi g hg hn he=>?_).trans (e.keep b hb hno);by_cases hi:i<h.next
  ·exact hno i g (by rw[<- e.agree i hi];exact hg) (e.alive i hi hn) he
  ·rcases e.fresh i g hg (by omega)with hf|⟨j,k,hk,hj,hkb⟩
   ·omega
   ·exact hno j k hk hj (hkb.trans he)
 fresh i g hg hi:=by
  by_cases hi1:i<h1.next
  ·exact e.fresh i g (by rw[<- f.agree i hi1];exact hg) hi
  ·rcases f.fresh i g hg (by omega)with hf|⟨j,k,hk,hj,hkb⟩
   ·exact .inl (cO e.size hf)
   ·by_cases hjn:j<h.next
    ·exact .inr ⟨j,k,by rw[<- e.agree j hjn];exact hk,e.alive j hjn hj,hkb⟩
    ·rcases e.fresh j k hk (by omega)with hf'|⟨j',k',hk',hj',hkb'⟩
     ·exact .inl (hkb▸hf')
     ·exact .inr ⟨j',k',hk',hj',hkb'.trans hkb⟩
end Go.Ideal
namespace Go.Ideal
variable {P:Program}
theorem dP.mono{β β':ak}(h:β.le β'){l l':List MapEntry}(he:dP β l l'):dP β' l l':=by
 induction he with
 |nil=>exact .nil
 |cons hk hf hb hv _ ih=>exact .cons hk hf hb (hv.mono h) ih
theorem LR.mono{β β':ak}(h:β.le β'){r:kD}{r':Loop}(k:LR P β r r'):LR P β' r r':=
 ⟨k.state,k.pending,k.Am,k.size,λi=>(k.tmps i).mono h,k.out,k.params,k.assign,k.body,let⟨g,h1,h2⟩:=k.defers;⟨g,h _ _ h1,h2⟩,k.yu⟩
theorem OR.mono{β β':ak}(h:β.le β'){g:fD}{w:World}{o:bQ}(k:OR P β g w o):OR P β' g w o:=by
 cases o with
 |cells cs=>
  obtain⟨h1,h2,h3,h5,h6,h7⟩:=k;exact⟨h1,h2,h3,h5,h6,λj v hj=>let⟨v',a,b⟩:=h7 j v hj;⟨v',a,b.mono h⟩⟩
 |fM cs=>obtain⟨h1,h2,h6,h7⟩:=k;exact⟨h1,h2,h6,λj v hj=>let⟨v',a,b⟩:=h7 j v hj;⟨v',a,b.mono h⟩⟩
 |map es clock=>obtain⟨es',h1,h2⟩:=k;exact⟨es',h1,h2.mono h⟩
 |wE s pos=>exact k
 |mapIter m since seen stepped=>obtain⟨m',seen',h1,h2,h3,h4⟩:=k;exact⟨m',seen',h1,h2,h3.mono h,h4⟩
 |loop r=>obtain⟨r',h1,h2⟩:=k;exact⟨r',h1,h2.mono h⟩
 |fO b=>exact k
theorem OR.congr{β:ak}{g:fD}{w w':World}{o:bQ}(hw:w'.heap[g.b]? =w.heap[g.b]?)(k:OR P β g w o):OR P β g w' o:=by
 have hc:∀j,w'.cell? ⟨g.b,j,none⟩=w.cell? ⟨g.b,j,none⟩:=λj=>World.cell?_of_block hw;have hf:∀j,w'.frozen? ⟨g.b,j,none⟩=w.frozen? ⟨g.b,j,none⟩:=λj=>World.frozen?_of_block hw;cases o<;>simp only[OR,hw,hc,hf]at *<;>exact k
theorem OR.lt{β:ak}{g:fD}{w:World}{o:bQ}(k:OR P β g w o):g.b<w.heap.size:=by
 have:w.heap[g.b]?≠none:=by
  cases o with
  |cells cs=>obtain⟨⟨c,t,fz,h1⟩,_⟩:=k;rw[h1];simp
  |fM cs=>obtain⟨⟨c,t,fz,h1,_⟩,_⟩:=k;rw[h1];simp
  |map es clock=>obtain⟨es',h1,_⟩:=k;rw[h1];simp
  |wE s pos=>have h1:=k.1;rw[h1];simp
  |mapIter m since seen stepped=>obtain⟨m',seen',h1,_⟩:=k;rw[h1];simp
  |loop r=>obtain⟨r',h1,_⟩:=k;rw[h1];simp
  |fO b=>have h1:w.heap[g.b]? =_:=k;rw[h1];simp
 rcases nX g.b w.heap.size with h|h
 ·exact h
 ·exact absurd (nY h) this
def ak.add(β:ak)(i:Nat)(g:fD):ak:=λj=>if j=i then some g else β j
theorem ak.jG(β:ak)(i:Nat)(g:fD):β.add i g i=some g:=by simp[ak.add]
theorem ak.iZ(β:ak){i j:Nat}(g:fD)(h:j≠i):β.add i g j=β j:=by simp[ak.add,h]
theorem ak.sV{β:ak}{i:Nat}(g:fD)(h:β i=none):β.le (β.add i g):=λj k hj=>by
 by_cases e:j=i
 ·subst e;rw[h]at hj;cases hj
 ·rw[ak.iZ _ _ e];exact hj
section
variable {β:ak} {h:IH} {w:World}
theorem WR.uO(hW:WR P β h w):β h.next=none:=by
 cases hb:β h.next with
 |none=>rfl
 |some g=>exact absurd (hW.dom _ _ hb) (Nat.lt_irrefl _)
theorem WR.qy{w':World}(hW:WR P β h w)(hh:w'.heap=w.heap):WR P β h w':=
 ⟨hW.dom,hW.live,λi g o h1 h2=>(hW.obj i g o h1 h2).congr (by rw[hh]),hW.inj⟩
theorem Eff.qy{w':World}(hd:∀i g,β i=some g->i<h.next)(h1:w'.heap=w.heap)(h2:w'.os=w.os)(h3:w'.tape=w.tape)(h4:w'.output=w.output)(h5:w.drawn<=w'.drawn:=by first|exact aC _|exact uB _|fail):Eff β h w β h w':=
 ⟨λ_ _=>rfl,aC _,λ_ _ h=>h,λ_ _ _=>rfl,aC _,λ_ _ _=>rfl,h2,h3,h4,by rw[h1];exact aC _,λ_ _ _=>by rw[h1],
  λi g hg hi=>absurd (hd i g hg) (by omega),λ_ _ _ _ _ _ _=>by rw[h1],h5⟩
theorem WR.alloc(hW:WR P β h w)(o:bQ)(o':Obj)(g:fD)(hg:g.b=w.heap.size){w1:World}(hw1:w1={w with heap:=w.heap.push o'})
 (ho:OR P (β.add h.next g) g w1 o):WR P (β.add h.next g) (h.new o) w1/\Eff β h w (β.add h.next g) (h.new o) w1:=by
 have hle:β.le (β.add h.next g):=ak.sV g hW.uO;have hheap:∀b,b<w.heap.size->w1.heap[b]? =w.heap[b]?:=λb hb=>by
  subst hw1;simp only[Cx];rw[if_neg (by omega)]
 refine⟨⟨?_,?_,?_,?_⟩,⟨?_,?_,?_,?_,?_,?_,?_,?_,?_,?_,?_,?_,λ_ _ _ _ _ _ hb=>hheap _ hb,by subst hw1;exact aC _⟩⟩
 ·intro i k hk;rw[IH.GA];by_cases e:i=h.next
  ·omega
  ·rw[ak.iZ _ _ e]at hk;have:=hW.dom _ _ hk;omega
 ·intro i x hx;rw[IH.GA];rw[IH.gu]at hx;split at hx
  ·omega
  ·have:=hW.live _ _ hx;omega
 ·intro i k x hk hx;rw[IH.gu]at hx;by_cases e:i=h.next
  ·subst e;rw[ak.jG]at hk;cases hk;rw[if_pos rfl]at hx;cases hx;exact ho
  ·rw[ak.iZ _ _ e]at hk;rw[if_neg e]at hx;have:=hW.obj _ _ _ hk hx;exact(this.mono hle).congr (hheap _ this.lt)
 ·intro i j k l hk hl hi hj hr he;rw[IH.gu]at hi hj;by_cases ei:i=h.next
  ·by_cases ej:j=h.next
   ·omega
   ·rw[ak.iZ _ _ ej]at hl;rw[if_neg ej]at hj;subst ei;rw[ak.jG]at hk;cases hk;cases hx:h.get j with
    |none=>exact absurd hx hj
    |some x=>have:=(hW.obj _ _ _ hl hx).lt;omega
  ·rw[ak.iZ _ _ ei]at hk;rw[if_neg ei]at hi;by_cases ej:j=h.next
   ·subst ej;rw[ak.jG]at hl;cases hl;cases hx:h.get i with
    |none=>exact absurd hx hi
    |some x=>have:=(hW.obj _ _ _ hk hx).lt;omega
   ·rw[ak.iZ _ _ ej]at hl;rw[if_neg ej]at hj;exact hW.inj _ _ _ _ hk hl hi hj (hr.imp (λq cs e=>q cs (by rw[IH.gu,if_neg ei];exact e)) (λq cs e=>q cs (by rw[IH.gu,if_neg ej];exact e))) he
 ·intro i hi;exact ak.iZ _ _ (by omega)
 ·rw[IH.GA];omega
 ·intro i hi hn;rw[IH.gu,if_neg (by omega)]at hn;exact hn
 ·intro i hi _;rw[IH.gu,if_neg (by omega)]
 ·exact aC _
 ·intro i _ hi;rw[IH.gu,if_neg (by omega)]
 ·subst hw1;rfl
 ·subst hw1;rfl
 ·subst hw1;rfl
 ·subst hw1;simp
 ·intro b hb _;exact hheap b hb
 ·intro i k hk hi;by_cases e:i=h.next
  ·subst e;rw[ak.jG]at hk;cases hk;exact .inl (by omega)
  ·rw[ak.iZ _ _ e]at hk;exact absurd (hW.dom _ _ hk) (by omega)
theorem WR.write(hW:WR P β h w){i:Nat}{g:fD}(hi:β i=some g){o0:bQ}(h0:h.get i=some o0)(o:bQ){w1:World}
 (hsz:w1.heap.size=w.heap.size) (hheap:∀b,b≠g.b->w1.heap[b]? =w.heap[b]?) (hos:w1.os=w.os) (wN:w1.tape=w.tape) (hout:w1.output=w.output) (hdr:w.drawn<=w1.drawn)
 (ho:OR P β g w1 o) (hnr:∀cs,o0≠.fM cs:=by intro cs e;cases e):WR P β (h.set i o) w1/\Eff β h w β (h.set i o) w1:=by
 have hni:∀cs,h.get i≠some (.fM cs):=λcs e=>hnr cs (by rw[h0]at e;exact Option.some.inj e);refine⟨⟨?_,?_,?_,?_⟩,⟨?_,?_,?_,?_,?_,?_,hos,wN,hout,?_,?_,?_,?_,hdr⟩⟩
 ·exact hW.dom
 ·intro j x hx;rw[IH.jM]at hx;split at hx
  ·subst_vars;exact hW.live _ _ h0
  ·exact hW.live _ _ hx
 ·intro j k x hk hx;rw[IH.jM]at hx;by_cases e:j=i
  ·subst e;rw[hi]at hk;cases hk;rw[if_pos rfl]at hx;cases hx;exact ho
  ·rw[if_neg e]at hx;refine(hW.obj _ _ _ hk hx).congr (hheap _ λhe=>e ?_);exact hW.inj _ _ _ _ hk hi (by rw[hx];simp) (by rw[h0];simp) (.inr hni) he
 ·intro j l k m hk hm hj hl hr he;have pass:∀x,(∀cs,(h.set i o).get x≠some (.fM cs))->∀cs,h.get x≠some (.fM cs):=λx q cs e=>by
   by_cases ex:x=i
   ·subst ex;exact hni cs e
   ·exact q cs (by rw[IH.jM,if_neg ex];exact e)
  refine hW.inj _ _ _ _ hk hm ?_ ?_ (hr.imp (pass _) (pass _)) he
  ·rw[IH.jM]at hj;split at hj
   ·subst_vars;rw[h0];simp
   ·exact hj
  ·rw[IH.jM]at hl;split at hl
   ·subst_vars;rw[h0];simp
   ·exact hl
 ·intro _ _;rfl
 ·exact aC _
 ·intro j hj hn;rw[IH.jM]at hn;split at hn
  ·subst_vars;rw[h0];simp
  ·exact hn
 ·intro j hj hb;rw[IH.jM,if_neg];intro e;subst e;rw[hi]at hb;cases hb
 ·rw[IH.C9];omega
 ·intro j hl hj;rw[IH.C9]at hl;rw[IH.jM,if_neg (by omega)]
 ·omega
 ·intro b hb hno;refine hheap b λe=>hno i g hi (by rw[h0];simp) e.symm
 ·intro j k hk hj;exact absurd (hW.dom _ _ hk) (by omega)
 ·intro j k hl hj hk hn hb;rw[IH.C9]at hl;refine hheap _ λhe=>?_;have:=hW.inj _ _ _ _ hk hi hn (by rw[h0];simp) (.inr hni) he;omega
theorem WR.drop(hW:WR P β h w){i:Nat}{g:fD}(hi:β i=some g):WR P β (h.kill i) w/\Eff β h w β (h.kill i) w:=by
 refine⟨⟨hW.dom,?_,?_,?_⟩,⟨?_,?_,?_,?_,?_,?_,rfl,rfl,rfl,aC _,λ_ _ _=>rfl,?_,λ_ _ _ _ _ _ _=>rfl,aC _⟩⟩
 ·intro j x hx;rw[IH.o8]at hx;split at hx
  ·cases hx
  ·exact hW.live _ _ hx
 ·intro j k x hk hx;rw[IH.o8]at hx;split at hx
  ·cases hx
  ·exact hW.obj _ _ _ hk hx
 ·intro j l k m hk hm hj hl hr he;have pass:∀x,(h.kill i).get x≠none->(∀cs,(h.kill i).get x≠some (.fM cs))->∀cs,h.get x≠some (.fM cs):=λx hx q cs e=>by
   rw[IH.o8]at hx;by_cases ex:x=i
   ·rw[if_pos ex]at hx;exact hx rfl
   ·exact q cs (by rw[IH.o8,if_neg ex];exact e)
  have hr:=hr.imp (pass _ hj) (pass _ hl);rw[IH.o8]at hj hl;refine hW.inj _ _ _ _ hk hm ?_ ?_ hr he
  ·split at hj
   ·exact absurd rfl hj
   ·exact hj
  ·split at hl
   ·exact absurd rfl hl
   ·exact hl
 ·intro _ _;rfl
 ·exact aC _
 ·intro j hj hn;rw[IH.o8]at hn;split at hn
  ·exact absurd rfl hn
  ·exact hn
 ·intro j hj hb;rw[IH.o8,if_neg];intro e;subst e;rw[hi]at hb;cases hb
 ·rw[IH.wM];omega
 ·intro j hl hj;rw[IH.wM]at hl;rw[IH.o8,if_neg (by omega)]
 ·intro j k hk hj;exact absurd (hW.dom _ _ hk) (by omega)
theorem WR.TG(hW:WR P β h w){i:Nat}{g:fD}(hi:β i=some g)(hlive:h.get i≠none)(hni:∀cs,h.get i≠some (.fM cs))(o:bQ)(g1:fD)(hg1:g1.b=g.b){w1:World}
 (hsz:w1.heap.size=w.heap.size) (hheap:∀b,b≠g.b->w1.heap[b]? =w.heap[b]?) (hos:w1.os=w.os) (wN:w1.tape=w.tape) (hout:w1.output=w.output) (hdr:w.drawn<=w1.drawn)
 (ho:OR P (β.add h.next g1) g1 w1 o):WR P (β.add h.next g1) ((h.kill i).new o) w1/\Eff β h w (β.add h.next g1) ((h.kill i).new o) w1:=by
 have hle:β.le (β.add h.next g1):=ak.sV g1 hW.uO;have hin:i<h.next:=hW.dom _ _ hi
 have hget:∀j,((h.kill i).new o).get j=if j=h.next then some o else if j=i then none else h.get j:=λj=>by
  rw[IH.gu,IH.o8];rfl
 refine⟨⟨?_,?_,?_,?_⟩,⟨?_,?_,?_,?_,?_,?_,hos,wN,hout,?_,?_,?_,?_,hdr⟩⟩
 ·intro j k hk;show j<h.next+1
  by_cases e:j=h.next
  ·omega
  ·rw[ak.iZ _ _ e]at hk;have:=hW.dom _ _ hk;omega
 ·intro j x hx;show j<h.next+1
  rw[hget]at hx;split at hx
  ·omega
  ·split at hx
   ·cases hx
   ·have:=hW.live _ _ hx;omega
 ·intro j k x hk hx;rw[hget]at hx;by_cases e:j=h.next
  ·subst e;rw[ak.jG]at hk;cases hk;rw[if_pos rfl]at hx;cases hx;exact ho
  ·rw[ak.iZ _ _ e]at hk;rw[if_neg e]at hx;split at hx
   ·cases hx
   ·rename_i hji;refine((hW.obj _ _ _ hk hx).mono hle).congr (hheap _ λhe=>hji ?_);exact hW.inj _ _ _ _ hk hi (by rw[hx];simp) hlive (.inr hni) he
 ·have key:∀j k,β j=some k->((h.kill i).new o).get j≠none->j≠h.next->k.b≠g.b:=λj k hk hj hjn he=>by
   rw[hget,if_neg hjn]at hj;split at hj
   ·exact hj rfl
   ·rename_i hji;exact hji (hW.inj _ _ _ _ hk hi hj hlive (.inr hni) he)
  intro j l k m hk hm hj hl hr he;have pass:∀x,x≠h.next->((h.kill i).new o).get x≠none->(∀cs,((h.kill i).new o).get x≠some (.fM cs))->∀cs,h.get x≠some (.fM cs):=λx LZ hx q cs e=>by
   rw[hget,if_neg LZ]at hx;by_cases ex:x=i
   ·rw[if_pos ex]at hx;exact hx rfl
   ·exact q cs (by rw[hget,if_neg LZ,if_neg ex];exact e)
  by_cases ej:j=h.next
  ·by_cases el:l=h.next
   ·omega
   ·subst ej;rw[ak.jG]at hk;cases hk;rw[ak.iZ _ _ el]at hm;exact absurd (he.symm.trans hg1) (key l m hm hl el)
  ·rw[ak.iZ _ _ ej]at hk;by_cases el:l=h.next
   ·subst el;rw[ak.jG]at hm;cases hm;exact absurd (he.trans hg1) (key j k hk hj ej)
   ·rw[ak.iZ _ _ el]at hm;have hr:=hr.imp (pass _ ej hj) (pass _ el hl);rw[hget,if_neg ej]at hj;rw[hget,if_neg el]at hl;refine hW.inj _ _ _ _ hk hm ?_ ?_ hr he
    ·split at hj
     ·exact absurd rfl hj
     ·exact hj
    ·split at hl
     ·exact absurd rfl hl
     ·exact hl
 ·intro j hj;exact ak.iZ _ _ (by omega)
 ·show h.next<=h.next+1;omega
 ·intro j hj hn;rw[hget,if_neg (by omega)]at hn;split at hn
  ·exact absurd rfl hn
  ·exact hn
 ·intro j hj hb;rw[hget,if_neg (by omega),if_neg];intro e;subst e;rw[hi]at hb;cases hb
 ·show(h.kill i).low<=h.low;rw[IH.wM];omega
 ·intro j hl hj;have hl':j<(h.kill i).low:=hl;rw[IH.wM]at hl';rw[hget,if_neg (by omega),if_neg (by omega)]
 ·omega
 ·intro b hb hno;exact hheap b λe=>hno i g hi hlive e.symm
 ·intro j k hk hj;by_cases e:j=h.next
  ·subst e;rw[ak.jG]at hk;cases hk;exact .inr ⟨i,g,hi,hlive,hg1.symm⟩
  ·rw[ak.iZ _ _ e]at hk;exact absurd (hW.dom _ _ hk) (by omega)
 ·intro j k hl hj hk hn hb;rw[IH.GD,IH.wM]at hl;refine hheap _ λhe=>?_;have:=hW.inj _ _ _ _ hk hi hn hlive (.inr hni) he;omega
end
end Go.Ideal
namespace Go.Ideal
variable {P:Program} {β:ak} {h:IH} {w:World}
theorem addr_add(b o j:Nat):(⟨b,o,none⟩:Addr).add j=⟨b,o+j,none⟩:=by unfold Addr.add;split<;>simp_all
theorem dI{t:TypeId}{d:TypeDesc}(h:P.underlying t=some d)(w:World):(underlying t).run P w=.ok d w:=by
 simp[underlying,h]
theorem jN{t:TypeId}{n:Nat}(h:gW P t=some n)(w:World):(sizeOf t).run P w=.ok n w:=by
 unfold gW at h;cases hi:P.info? t with
 |none=>simp[hi]at h
 |some i=>simp[hi]at h;simp[sizeOf,typeInfo,hi,h]
theorem Ao{t:TypeId}{i:TypeInfo}(h:P.info? t=some i)(w:World):(typeInfo t).run P w=.ok i w:=by
 simp[typeInfo,h]
theorem yw{t:TypeId}{z:Value}(h:zeroOf P t=some z):∃i,P.info? t=some i/\i.zero=some z/\bE z=true:=by
 unfold zeroOf at h;cases hi:P.info? t with
 |none=>simp[hi]at h
 |some i=>
  simp only[hi,iA]at h;cases hz:i.zero with
  |none=>simp[hz]at h
  |some z'=>
   simp only[hz]at h;split at h
   ·cases h;exact⟨i,rfl,hz,by assumption⟩
   ·cases h
theorem yx{t:TypeId}{z:Value}(h:zeroOf P t=some z)(w:World):(zeroValue t).run P w=.ok z w:=by
 obtain⟨i,h1,h2,_⟩:=yw h;simp[zeroValue,typeInfo,h1,h2]
theorem yz{t:TypeId}{d:TypeDesc}(h:P.underlying t=some d)(w:World):(isAgg t).run P w=.ok (gI P t) w:=by
 simp only[isAgg,bD,dI h,bF,gI,h];cases d<;>rfl
theorem L6{t:TypeId}(h:gI P t=true):∃d,P.underlying t=some d:=by
 unfold gI at h;cases hu:P.underlying t with
 |none=>simp[hu]at h
 |some d=>exact⟨d,rfl⟩
theorem Db(hW:WR P β h w){i:Nat}{g:fD}(hi:β i=some g){cs:List Value}(hg:h.get i=some (.cells cs)\/h.get i=some (.fM cs)){o n:Nat}{l:List Value}
 (hl:gU (iE cs o) n=some l):
 l.length=n/\l.all cellV=true/\∃l',aD β l l'/\∀(j:Nat) v,l'[j]? =some v->w.cell? ⟨g.b,g.off+o+j,none⟩=some v:=by
 obtain⟨h6,h7⟩:cs.all cellV=true/\∀(j:Nat) v,cs[j]? =some v->∃v',w.cell? ⟨g.b,g.off+j,none⟩=some v'/\VR β v v':=by
  rcases hg with hg|hg
  ·obtain⟨_,_,_,_,h6,h7⟩:=hW.obj i g _ hi hg;exact⟨h6,h7⟩
  ·obtain⟨_,_,h6,h7⟩:=hW.obj i g _ hi hg;exact⟨h6,h7⟩
 rw[jF,jE]at hl;split at hl
 ·rename_i hn;cases hl;refine⟨by simp at hn⊢;omega,?_,?_⟩
  ·rw[jA]at h6⊢;exact λx hx=>h6 x (List.mem_of_mem_drop (xO hx))
  ·have key:∀k:Nat,k<=n->∃l',aD β ((cs.drop o).take k) l'/\∀(j:Nat) v,l'[j]? =some v->w.cell? ⟨g.b,g.off+o+j,none⟩=some v:=by
    intro k;induction k with
    |zero=>intro _;exact⟨[],by simpa using aD.nil,λj v hj=>by simp at hj⟩
    |succ k ih=>
     intro hk;obtain⟨l',h1,h2'⟩:=ih (by omega);have hlt:k<(cs.drop o).length:=by omega
     obtain⟨v',hv1,hv2⟩:=h7 (o+k) ((cs.drop o)[k]) (by rw[<- iV];exact bH hlt);refine⟨l'++[v'],?_,λj v hj=>?_⟩
     ·rw[List.take_succ_eq_append_getElem hlt];exact h1.append (.cons hv2 .nil)
     ·have hlen:=h1.length;simp at hlen hlt;by_cases hjl:j<l'.length
      ·rw[iW hjl]at hj;exact h2' j v hj
      ·have hjk:j=l'.length:=by
        rcases nX j (l'++[v']).length with hh|hh
        ·simp at hh;omega
        ·rw[iX hh]at hj;cases hj
       subst hjk;simp at hj;subst hj;rw[show g.off+o+l'.length=g.off+(o+k)by omega];exact hv1
   exact key n (aC _)
 ·cases hl
theorem GJ{b o:Nat}{l:List Value}{n:Nat}(hn:l.length=n)(hc:∀(j:Nat) v,l[j]? =some v->w.cell? ⟨b,o+j,none⟩=some v):
 (loadCells ⟨b,o,none⟩ n).run P w=.ok l.toArray w:=by
 subst hn;exact run_loadCells_list w _ l λj v hj=>by rw[addr_add];exact hc j v hj
theorem L8{h:IH}{i o n:Nat}{l:List Value}(hl:h.rM i o n=some l):∃cs,h.get i=some (.cells cs)/\gU (iE cs o) n=some l:=by
 unfold IH.rM at hl;split at hl
 ·exact⟨_,by assumption,hl⟩
 ·cases hl
theorem yA{h:IH}{i o n:Nat}{l:List Value}(hl:h.dL i o n=some l):∃cs,(h.get i=some (.cells cs)\/h.get i=some (.fM cs))/\gU (iE cs o) n=some l:=by
 unfold IH.dL at hl;split at hl
 ·exact⟨_,.inl (by assumption),hl⟩
 ·exact⟨_,.inr (by assumption),hl⟩
 ·cases hl
theorem L9{h:IH}{i o:Nat}{v:Value}(hl:h.lm i o=some v):∃cs,(h.get i=some (.cells cs)\/h.get i=some (.fM cs))/\gH cs o=some v:=by
 unfold IH.lm at hl;split at hl
 ·exact⟨_,.inl (by assumption),hl⟩
 ·exact⟨_,.inr (by assumption),hl⟩
 ·cases hl
theorem TH{h h2:IH}(hs:∀i o,h.get i=some o->h2.get i=some o){i o:Nat}{v:Value}(hl:h.lm i o=some v):h2.lm i o=some v:=by
 obtain⟨cs,hg|hg,h1⟩:=L9 hl
 ·simp only[IH.lm,hs _ _ hg,h1]
 ·simp only[IH.lm,hs _ _ hg,h1]
theorem Ma{h h2:IH}(hs:∀i o,h.get i=some o->h2.get i=some o){i o n:Nat}{l:List Value}(hl:h.dL i o n=some l):h2.dL i o n=some l:=by
 obtain⟨cs,hg|hg,h1⟩:=yA hl
 ·simp only[IH.dL,hs _ _ hg,h1]
 ·simp only[IH.dL,hs _ _ hg,h1]
theorem GK(b:Nat):∀(vs:List Value) (o:Nat) (w:World),(w.setCells b o vs).drawn=w.drawn
 |[],_,_=>rfl
 |v::vs,o,w=>by
  show((w.setCell ⟨b,o,none⟩ v).setCells b (o+1) vs).drawn=_;rw[GK b vs];rfl
theorem GL(hW:WR P β h w){i:Nat}{g:fD}(hi:β i=some g){o:Nat}{vs vs':List Value}{h':IH}(hs:h.storeAt i o vs=some h')(hv:aD β vs vs')(hall:vs.all cellV=true):
 (∀k,k=0->(storeCells ⟨g.b,g.off+o,none⟩ vs' k).run P w=.ok () (w.setCells g.b (g.off+o) vs'))/\WR P β h' (w.setCells g.b (g.off+o) vs')/\Eff β h w β h' (w.setCells g.b (g.off+o) vs'):=by
 unfold IH.storeAt at hs;split at hs
 ·rename_i cs hg;split at hs
  ·rename_i cs2 hl;cases hs;obtain⟨h1,h2,h3,h5,h6,h7⟩:=hW.obj i g _ hi hg;obtain⟨l1,l2,l3⟩:=Da hl;have hlen:vs'.length=vs.length:=hv.length;have hin:∀j,j<vs'.length->g.off+o+j<g.top:=λj hj=>by omega
   have hone:∀v∈vs',v.oneCell'=true:=λv hv'=>by
    obtain⟨j,hj⟩:=oM hv';have hjl:j<vs.length:=by
     rcases nX j vs'.length with hh|hh
     ·omega
     ·rw[iX hh]at hj;cases hj
    obtain⟨v2,hv2,hr⟩:=hv.get (bH hjl);rw[hv2]at hj;cases hj;have hc:=(jA.1 hall) _ (List.getElem_mem hjl);obtain⟨a,b⟩:=hr.cellV hc;cases v<;>first|rfl|exact absurd rfl (a _)|exact absurd rfl (b _)
   have hrun:∀k,k=0->(storeCells ⟨g.b,g.off+o,none⟩ vs' k).run P w=.ok () (w.setCells g.b (g.off+o) vs'):=λk hk=>by
    subst hk;have:=run_storeCells_cells (P:=P) g.b (g.off+o) vs' 0 w (λj hj=>(h5 _ (hin j hj)).1) (λj hj=>(h5 _ (hin j hj)).2) hone;simpa using this
   have hsz:(w.setCells g.b (g.off+o) vs').heap.size=w.heap.size:=by
    have wO:∀(vs:List Value) (o:Nat) (w:World),(w.setCells g.b o vs).heap.size=w.heap.size:=by
     intro vs;induction vs with
     |nil=>intro o w;rfl
     |cons v vs ih=>intro o w;show((w.setCell ⟨g.b,o,none⟩ v).setCells g.b (o+1) vs).heap.size=_;rw[ih];simp
    exact wO _ _ _
   have hother:∀b,b≠g.b->(w.setCells g.b (g.off+o) vs').heap[b]? =w.heap[b]?:=by
    have wO:∀(vs:List Value) (o:Nat) (w:World) (b:Nat),b≠g.b->(w.setCells g.b o vs).heap[b]? =w.heap[b]?:=by
     intro vs;induction vs with
     |nil=>intro o w b _;rfl
     |cons v vs ih=>intro o w b hb;show((w.setCell ⟨g.b,o,none⟩ v).setCells g.b (o+1) vs).heap[b]? =_;rw[ih _ _ _ hb,Go.RowKit.Below.heap_setCell _ _ _ _ hb]
    exact wO _ _ _
   have hsame:∃c t fz,(w.setCells g.b (g.off+o) vs').heap[g.b]? =some (.cells c t fz):=by
    have wO:∀(vs:List Value) (o:Nat) (w:World),(∃c t fz,w.heap[g.b]? =some (.cells c t fz))->∃c t fz,(w.setCells g.b o vs).heap[g.b]? =some (.cells c t fz):=by
     intro vs;induction vs with
     |nil=>intro o w hh;exact hh
     |cons v vs ih=>
      intro o w ⟨c,t,fz,hh⟩;refine ih _ _ ⟨c.setIfInBounds o v,t,fz,?_⟩;simp[World.setCell,Array.getElem?_modify,hh]
    exact wO _ _ _ h1
   have wN:(w.setCells g.b (g.off+o) vs').tape=w.tape:=by
    have wO:∀(vs:List Value) (o:Nat) (w:World),(w.setCells g.b o vs).tape=w.tape:=by
     intro vs;induction vs with
     |nil=>intro o w;rfl
     |cons v vs ih=>intro o w;show((w.setCell ⟨g.b,o,none⟩ v).setCells g.b (o+1) vs).tape=_;rw[ih];rfl
    exact wO _ _ _
   have hos:=(Ld g.b (may:=λ_=>True) vs' (g.off+o) w (λ_ _=>trivial)).1;have hout:=(Ld g.b (may:=λ_=>True) vs' (g.off+o) w (λ_ _=>trivial)).2.1;have hdr:w.drawn<=(w.setCells g.b (g.off+o) vs').drawn:=by rw[GK];exact aC _
   refine⟨hrun,?_⟩;refine hW.write hi hg (.cells cs2) hsz hother hos wN hout hdr ⟨hsame,by omega,h3,?_,?_,?_⟩
   ·intro j hj;refine⟨?_,by rw[World.frozen?_setCells];exact(h5 j hj).2⟩;by_cases hr:g.off+o<=j/\j<g.off+o+vs'.length
    ·have:=Lf g.b vs' (g.off+o) w (λk hk=>(h5 _ (hin k hk)).1) (j - (g.off+o)) (by omega);rw[show g.off+o+(j - (g.off+o))=j by omega]at this;rw[this];simp
    ·rw[Lg g.b vs' (g.off+o) w ⟨g.b,j,none⟩ (λ_ _=>by simp;omega)];exact(h5 j hj).1
   ·rw[jA]at h6 hall⊢;intro x hx;obtain⟨j,hj⟩:=oM hx;rw[l3]at hj;split at hj
    ·exact hall x (dA hj)
    ·exact h6 x (dA hj)
   ·intro j v hj;rw[l3]at hj;split at hj
    ·rename_i hr;obtain⟨v',hv1,hv2⟩:=hv.get hj;refine⟨v',?_,hv2⟩;have hlt:j - o<vs'.length:=by omega
     have:=Lf g.b vs' (g.off+o) w (λk hk=>(h5 _ (hin k hk)).1) (j - o) hlt;rw[show g.off+o+(j - o)=g.off+j by omega]at this;rw[this];rw[bH hlt]at hv1;exact hv1
    ·rename_i hr;obtain⟨v',hv1,hv2⟩:=h7 j v hj;refine⟨v',?_,hv2⟩;rw[Lg g.b vs' (g.off+o) w ⟨g.b,g.off+j,none⟩ (λ_ _=>by simp;omega)];exact hv1
  ·cases hs
 ·cases hs
def Good(P:Program)(β:ak)(h:IH)(w:World)(s:Sem Next)(v:Value)(h':IH):Prop:=
 ∃r w' β' v',s.run P w=.ok r w'/\(r=.value v'\/(r=.skip/\v'=undef))/\VR β' v v'/\WR P β' h' w'/\Eff β h w β' h' w'
theorem Good.same(hW:WR P β h w){s:Sem Next}{v v':Value}(hr:s.run P w=.ok (.value v') w)(hv:VR β v v'):Good P β h w s v h:=
 ⟨_,w,β,v',hr,.inl rfl,hv,hW,Eff.refl _ _ _ hW.dom⟩
def qz(P:Program)(β:ak)(w:World)(s:Sem Next)(f:Nat->Value)(o:bQ):Prop:=
 ∃v' o' g,s.run P w=.ok (.value v') {w with heap:=w.heap.push o'}/\g.b=w.heap.size/\
  ∀(i:Nat) (β':ak),β.le β'->β' i=some g->VR β' (f i) v'/\OR P β' g {w with heap:=w.heap.push o'} o
theorem qz.good(hW:WR P β h w){s:Sem Next}{f:Nat->Value}{o:bQ}(hm:qz P β w s f o):Good P β h w s (f h.next) (h.new o):=by
 obtain⟨v',o',g,h1,h2,h3⟩:=hm;have hle:=ak.sV (β:=β) g hW.uO;obtain⟨a,b⟩:=hW.alloc o o' g h2 rfl (h3 h.next _ hle (ak.jG _ _ _)).2;exact⟨_,_,_,v',h1,.inl rfl,(h3 h.next _ hle (ak.jG _ _ _)).1,a,b⟩
theorem OR.Dc{β:ak}{w:World}{cs cs':List Value}(t:TypeId)(h:aD β cs cs')(hc:cs.all cellV=true)(rest:List Value)(sz:Nat):
 OR P β ⟨w.heap.size,0,cs.length,cs.length+rest.length,sz⟩ {w with heap:=w.heap.push (.cells ⟨cs'++rest⟩ t)} (.cells cs):=by
 have hb:({w with heap:=w.heap.push (.cells ⟨cs'++rest⟩ t)}:World).heap[w.heap.size]? =some (.cells ⟨cs'++rest⟩ t):=by simp
 refine⟨⟨_,_,_,hb⟩,rfl,by simp,λj hj=>⟨?_,?_⟩,hc,λj v hj=>?_⟩
 ·simp only[World.cell?,hb];simp;have:=h.length;simp at hj;omega
 ·simp[World.frozen?]
 ·obtain⟨v',h1,h2⟩:=h.get hj;refine⟨v',?_,h2⟩;simp only[World.cell?,hb];simp;rw[iW]
  ·exact h1
  ·rcases nX j cs'.length with hh|hh
   ·exact hh
   ·rw[iX hh]at h1;cases h1
