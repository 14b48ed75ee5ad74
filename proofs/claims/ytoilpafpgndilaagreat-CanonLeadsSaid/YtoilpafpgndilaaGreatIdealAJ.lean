/- Part. -/
import Derived.Test.YtoilpafpgndilaaGreatDictJ
import Derived.KernelRfl
import GoSem.Step
import Derived.Below
import Derived.Laws.IdiomCopy
import Derived.Laws.Cells
import Derived.Laws.Entries
import Derived.IntWalk
import Derived.Laws.Append
set_option linter.all false
abbrev aN:=@Option.some.injEq
abbrev aR:=@List.length_map
abbrev aT:=@List.mem_of_getElem?
abbrev aV:=@List.getElem?_eq_some_iff
abbrev aZ:=@Nat.le_refl
abbrev bA:=@List.mem_singleton
abbrev bG:=@List.getElem?_eq_getElem
abbrev bH:=@List.mem_cons
abbrev bM:=@Nat.zero_le
abbrev bS:=@List.mem_map
abbrev bU:=@List.getElem?_map
abbrev bY:=@decide_eq_false
abbrev cB:=@List.map_append
abbrev cK:=@List.nil_append
abbrev dm:=@List.cons_append
abbrev dB:=@List.mem_cons_of_mem
abbrev dD:=@List.mem_cons_self
abbrev dH:=@Prod.mk.injEq
abbrev dM:=@Go.Sem.run_bind
abbrev dR:=@Go.Result.andThen_ok
abbrev dW:=@List.getElem?_eq_none
abbrev eB:=@Nat.zero_add
abbrev eF:=@List.length_append
abbrev eP:=@Bool.and_eq_true
abbrev eT:=@decide_eq_true
abbrev fq:=@List.mem_append
abbrev fu:=@List.take_length
abbrev fA:=@List.map_cons
abbrev fG:=@Go.Sem.run_pure
abbrev fM:=@Int.toNat_natCast
abbrev fU:=@List.length_take
abbrev gV:=@Int.eq_ofNat_of_zero_le
abbrev gW:=@List.append_nil
abbrev iH:=@List.ext_getElem?
abbrev iL:=@Option.bind_some
abbrev iM:=@List.getElem?_of_mem
abbrev jl:=@List.mem_append_left
abbrev jy:=@List.all_eq_true
abbrev jA:=@List.nodup_append
abbrev jL:=@List.getElem?_append_left
abbrev jP:=@List.getElem?_append_right
abbrev jQ:=@decide_eq_true_iff
abbrev jU:=@List.getElem?_drop
abbrev j6:=@List.length_eq_zero_iff
abbrev kg:=@Option.map_eq_some_iff
abbrev ko:=@of_decide_eq_true
abbrev ku:=@List.length_set
abbrev kv:=@Decidable.not_not
abbrev lq:=@Option.map_some
abbrev lu:=@List.length_drop
abbrev lK:=@Nat.mul_one
abbrev l5:=@Nat.add_assoc
abbrev l6:=@List.map_singleton
abbrev nC:=@List.foldl_cons
abbrev nD:=@List.mem_append_right
abbrev nE:=@List.take_append_drop
abbrev nG:=@List.length_range
abbrev nH:=@List.drop_eq_getElem_cons
abbrev nW:=@List.length_cons
abbrev nX:=@Nat.sub_self
abbrev nY:=@List.getElem?_set
abbrev oH:=@Nat.le_trans
abbrev oI:=@List.getElem?_range
abbrev pq:=@Nat.le_of_ble_eq_true
abbrev pu:=@Nat.lt_of_lt_of_le
abbrev pQ:=@List.map_set
abbrev qi:=@List.pairwise_cons
abbrev rD:=@Nat.add_mul
abbrev rE:=@List.getElem?_take
abbrev rF:=@decide_eq_decide
abbrev rG:=@List.map_map
abbrev rH:=@List.take_add_one
abbrev sD:=@List.map_congr_left
abbrev sF:=@List.mem_range
abbrev tZ:=@Nat.eq_of_beq_eq_true
abbrev uf:=@List.getElem?_cons_succ
abbrev ug:=@List.mem_filter
abbrev uW:=@Nat.lt_or_ge
abbrev uX:=@Array.getElem?_eq_none
abbrev uY:=@Nat.ble_eq
abbrev uZ:=@of_decide_eq_false
abbrev u7:=@List.length_singleton
abbrev vz:=@List.drop_eq_nil_of_le
abbrev wo:=@List.getElem_mem
abbrev wu:=@Nat.mod_lt
abbrev ww:=@Bool.false_eq_true
abbrev wy:=@Nat.blt_eq
abbrev wz:=@Array.getD_eq_getD_getElem?
abbrev wB:=@List.length_nil
abbrev wC:=@List.length_replicate
abbrev wD:=@List.foldl_append
abbrev wE:=@Int.toNat_of_nonneg
abbrev xK:=@List.mem_of_mem_take
abbrev xL:=@Nat.add_zero
abbrev xM:=@Bool.or_eq_true
abbrev xN:=@Nat.sub_zero
abbrev xO:=@List.replicate_succ
abbrev xP:=@List.take_of_length_le
abbrev yU:=@Nat.not_lt_zero
abbrev yV:=@Option.getD_some
abbrev yX:=@List.drop_zero
abbrev yY:=@List.mem_iff_getElem?
abbrev yZ:=@List.pairwise_iff_getElem
abbrev y9:=@Int.tdiv_eq_ediv_of_nonneg
abbrev zY:=@Nat.lt_succ_self
abbrev zZ:=@Array.getElem?_toList
abbrev z8:=@decide_eq_true_eq
abbrev Aa:=@and_true
abbrev Ab:=@List.not_mem_nil
abbrev Ac:=@List.nodup_cons
abbrev Ad:=@Nat.one_mul
abbrev Ae:=@List.nodup_nil
abbrev Af:=@List.set_append_right
abbrev Ag:=@List.range_succ
abbrev Ah:=@List.mergeSort_perm
abbrev Ai:=@List.dropLast_concat_getLast
abbrev BS:=@Go.World.cell?_setCells_out
abbrev BU:=@Array.mem_append
abbrev BV:=@List.cons.injEq
abbrev BX:=@List.map_id
abbrev BZ:=@List.mk_mem_zipIdx_iff_getElem?
abbrev Dw:=@Nat.le_succ
abbrev Dx:=@Bool.eq_iff_iff
abbrev Dy:=@List.getElem?_cons_zero
abbrev Dz:=@List.filter_cons
abbrev DC:=@Bool.not_eq_true'
abbrev DD:=@List.getD_eq_getElem?_getD
abbrev DF:=@Nat.min_eq_left
abbrev DI:=@List.pairwise_map
abbrev E9:=@List.mem_of_mem_drop
abbrev Fa:=@Go.World.cell?_setCells_in
abbrev Fb:=@List.length_pos_iff
abbrev Fe:=@Nat.mul_comm
abbrev Ff:=@Nat.zero_mul
abbrev Fg:=@List.mem_map_of_mem
abbrev Fh:=@List.filter_append
abbrev Fj:=@Int.ediv_nonneg
abbrev Fp:=@List.drop_length
abbrev Fq:=@List.length_reverse
abbrev Hz:=@Nat.ne_of_beq_eq_false
abbrev HV:=@Nat.beq_refl
abbrev HY:=@List.getElem?_replicate
abbrev HZ:=@List.length_filter_le
abbrev H6:=@Int.tmod_eq_emod_of_nonneg
abbrev KE:=@Nat.ble_eq_true_of_le
abbrev KF:=@Array.getElem?_push
abbrev KG:=@Go.World.frozen?_setCells
abbrev KH:=@Array.getElem?_setIfInBounds_ne
abbrev KI:=@Nat.eq_zero_or_pos
abbrev KJ:=@Option.isSome_iff_exists
abbrev KM:=@List.mem_filterMap
abbrev KN:=@List.contains_iff_mem
abbrev KP:=@List.flatMap_cons
abbrev KQ:=@List.flatMap_append
abbrev KS:=@List.filterMap_append
abbrev KT:=@Int.emod_add_mul_ediv
abbrev KU:=@List.any_eq_true
abbrev KW:=@List.any_eq_false
abbrev KX:=@List.reverse_reverse
abbrev Pb:=@List.all_cons
abbrev Pd:=@Nat.lt_irrefl
abbrev Pe:=@Array.toList_map
abbrev Pf:=@List.getElem?_toArray
abbrev Pg:=@Bool.not_false
abbrev Ph:=@Nat.le_add_right
abbrev Pj:=@Array.getElem?_eq_some_iff
abbrev Pk:=@Bool.and_self
abbrev Pm:=@List.reverse_nil
abbrev Pn:=@List.zip_cons_cons
abbrev Po:=@Nat.lt_succ_of_lt
abbrev Pp:=@Nat.add_sub_cancel_left
abbrev Pq:=@Nat.shiftRight_eq_div_pow
abbrev Ps:=@Nat.lt_of_le_of_lt
abbrev Pt:=@Array.getElem?_eq_getElem
abbrev Pv:=@Classical.choose_spec
abbrev Pw:=@List.length_erase_of_mem
abbrev Px:=@List.pairwise_mergeSort
abbrev Py:=@List.mem_flatMap
abbrev Pz:=@List.length_pos_of_mem
abbrev VH:=@Go.World.keptBut_setCells
abbrev VI:=@Array.foldl_toList
abbrev VJ:=@List.extract_eq_take_drop
abbrev VK:=@List.flatten_cons
abbrev VL:=@List.getElem?_zip_eq_some
abbrev VM:=@Nat.div_lt_iff_lt_mul
abbrev VN:=@List.filter_eq_self
abbrev VO:=@Nat.add_sub_cancel
abbrev VP:=@Bool.or_eq_false_iff
abbrev VQ:=@List.mem_or_eq_of_mem_set
abbrev VS:=@List.zipIdx_append
abbrev VT:=@List.getElem?_zipIdx
abbrev VU:=@List.length_filterMap_le
abbrev VV:=@List.set_cons_zero
abbrev VW:=@Nat.lt_trichotomy
abbrev VX:=@List.mem_erase_of_ne
abbrev VY:=@List.pairwise_append
abbrev VZ:=@List.findIdx?_eq_none_iff
abbrev V3:=@Nat.shiftRight_le
abbrev V4:=@List.reverse_cons
abbrev V5:=@List.filterMap_cons
abbrev adM:=@Array.eq_empty_of_size_eq_zero
abbrev adN:=@Array.getElem?_setIfInBounds
abbrev adO:=@Array.getElem?_append_left
abbrev adP:=@List.getElem?_eq_none_iff
abbrev adQ:=@List.findIdx?_eq_some_iff_getElem
abbrev ae.{u}(α:Type u):Type u:=List α
abbrev ah:=Go.Value
abbrev qr:=List (Nat×Go.Value)
abbrev ak.{u}(α:Type u):Type u:=Option α
abbrev ay:=Go.Operand
abbrev aD:=Go.TypeId
abbrev fO:=Go.FuncId
namespace Go.Ideal
inductive T(α:Type):Type where
 |leaf
 |node (v:Option α) (l r:T α)
noncomputable def T.get{α:Type}(t:T α):Nat->ak α:=
 T.rec (motive:=λ_=>Nat->ak α) (λ_=>none)
  (λv _ _ gl gr n=>Nat.rec (motive:=λ_=>ak α) v
    (λm _=>Bool.rec (motive:=λ_=>ak α) (gr (Nat.div m 2)) (gl (Nat.div m 2)) (Nat.beq (Nat.mod m 2) 0)) n) t
noncomputable def T.one{α:Type}(f:Nat):Nat->ak α->T α:=
 Nat.rec (motive:=λ_=>Nat->ak α->T α) (λ_ _=>.leaf)
  (λ_ ih n x=>Nat.rec (motive:=λ_=>T α) (.node x .leaf .leaf)
    (λm _=>Bool.rec (motive:=λ_=>T α) (.node none .leaf (ih (Nat.div m 2) x)) (.node none (ih (Nat.div m 2) x) .leaf) (Nat.beq (Nat.mod m 2) 0)) n) f
noncomputable def T.set{α:Type}(t:T α):Nat->ak α->T α:=
 T.rec (motive:=λ_=>Nat->ak α->T α) (λn x=>T.one (n+1) n x)
  (λv l r sl sr n x=>Nat.rec (motive:=λ_=>T α) (.node x l r)
    (λm _=>Bool.rec (motive:=λ_=>T α) (.node v l (sr (Nat.div m 2) x)) (.node v (sl (Nat.div m 2) x) r) (Nat.beq (Nat.mod m 2) 0)) n) t
noncomputable def nZ{α β:Type}(f:α->β)(l:ae α):ae β:=
 List.rec (motive:=λ_=>ae β) [] (λx _ ih=>f x::ih) l
noncomputable def lC{α:Type}(l:ae α):Nat->ak α:=
 List.rec (motive:=λ_=>Nat->ak α) (λ_=>none) (λx _ ih n=>Nat.rec (motive:=λ_=>ak α) (some x) (λm _=>ih m) n) l
noncomputable def kw{α:Type}(l:ae α):Nat->ae α:=
 List.rec (motive:=λ_=>Nat->ae α) (λ_=>[]) (λx l ih n=>Nat.rec (motive:=λ_=>ae α) (x::l) (λm _=>ih m) n) l
noncomputable def jM{α:Type}(l:ae α):Nat->ak (ae α):=
 List.rec (motive:=λ_=>Nat->ak (ae α)) (λn=>Nat.rec (motive:=λ_=>ak (ae α)) (some []) (λ_ _=>none) n)
  (λx _ ih n=>Nat.rec (motive:=λ_=>ak (ae α)) (some []) (λm _=>Option.rec (motive:=λ_=>ak (ae α)) none (λr=>some (x::r)) (ih m)) n) l
noncomputable def jH{α:Type}(l:ae α):Nat->ae α->ak (ae α):=
 List.rec (motive:=λ_=>Nat->ae α->ak (ae α))
  (λo xs=>Nat.rec (motive:=λ_=>ak (ae α)) (List.rec (motive:=λ_=>ak (ae α)) (some []) (λ_ _ _=>none) xs) (λ_ _=>none) o)
  (λc l ih o xs=>Nat.rec (motive:=λ_=>ak (ae α))
    (List.rec (motive:=λ_=>ak (ae α)) (some (c::l)) (λx xs _=>Option.rec (motive:=λ_=>ak (ae α)) none (λr=>some (x::r)) (ih 0 xs)) xs)
    (λo _=>Option.rec (motive:=λ_=>ak (ae α)) none (λr=>some (c::r)) (ih o xs)) o) l
noncomputable def KY{α:Type}(p:α->Bool)(l:ae α):Bool:=
 List.rec (motive:=λ_=>Bool) true (λx _ ih=>Bool.rec (motive:=λ_=>Bool) false ih (p x)) l
noncomputable def jh{α:Type}(l:ae α):Nat:=
 List.rec (motive:=λ_=>Nat) 0 (λ_ _ ih=>Nat.succ ih) l
noncomputable def lM{α:Type}(l r:ae α):ae α:=
 List.rec (motive:=λ_=>ae α) r (λx _ ih=>x::ih) l
noncomputable def zeros(z:ae ah)(n:Nat):ae ah:=
 Nat.rec (motive:=λ_=>ae ah) [] (λ_ ih=>lM z ih) n
abbrev dX:ah:=.tuple #[]
abbrev wF:ah:=.chan (some 0)
def cellV:ah->Bool
 | .agg _| .tuple _| .chan _=>false
 |_=>true
mutual
def dG:ah->Bool
 | .bool _| .int _ _| .float _ _| .complex _ _ _| .string _| .nilFunc| .nilIface=>true
 | .pointer a=>a.isNone
 | .slice a n c=>a.isNone&&n==0&&c==0
 | .map r=>r.isNone
 | .chan _=>false
 | .func _ _ _=>false
 | .iface _ v=>dG v&&cellV v
 | .agg ⟨cs⟩=>iU cs
 | .tuple _=>false
def iU:ae ah->Bool
 |[]=>true
 |v::l=>dG v&&cellV v&&iU l
end
def dK{α:Type}(P:Program):Sem α->ak α
 | .pure a=>some a
 | .program k=>dK P (k P)
 | .mark _ k=>dK P k
 |_=>none
def lN(P:Program)(s:Sem ah):ak ah:=
 match dK P s with
 |some v=>cond (dG v) (some v) none
 |none=>none
def cellsOf(v:ah):ak (ae ah):=
 match v with
 | .agg ⟨cs⟩=>some cs
 | .tuple _| .chan _=>none
 |v=>some [v]
inductive Out where
 |normal
 |exit (id:Nat)
 |ret
 |panic (chain:List PanicEntry)
inductive aK where
 |mv (x:Operand)
 |jm (x:Operand)
 |pick (c a b:Operand)
 |new (cs:List Value) (t:TypeId)
 |box (x:Operand) (t:TypeId)
 |build (zero:List Value) (parts:List (Nat×Nat×Operand))
 |Aj (t:TypeId) (len:Nat) (zero:List Value) (parts:List (Nat×Nat×Operand))
 |fE (a:Operand)
 |sH (n:Nat) (a:Operand)
 |store (n:Nat) (a x:Operand)
 |nI (x:Operand)
 |bin (op:BinOp) (t:TypeId) (x y:Operand)
 |un (op:UnOp) (x:Operand)
 |conv (s d:TypeId) (x:Operand)
 |V6 (e:TypeId) (x:Operand)
 |H7 (x:Operand)
 |iface (t:TypeId) (x:Operand)
 |DJ (fn:Fn) (first captured:List Operand)
 |za
 |xQ (e:TypeId) (size bytes:Nat) (zero:List Value) (l c:Operand)
 |V7 (t:TypeId) (x:Operand) (lo hi mx:Option Operand)
 |PD (n size:Nat) (x:Operand) (lo hi mx:Option Operand)
 |PE (size:Nat) (x:Operand) (lo hi mx:Option Operand)
 |gU (off:Nat) (x:Operand)
 |field (t:TypeId) (off n:Nat) (agg:Bool) (x:Operand)
 |PG (n size:Nat) (x i:Operand)
 |jw (size:Nat) (x i:Operand)
 |V8 (x i:Operand)
 |V9 (n size:Nat) (agg:Bool) (x i:Operand)
 |lookup (kt:TypeId) (zero:Value) (m k:Operand) (ok:Bool)
 |KZ (kt:TypeId) (m k v:Operand)
 |We (kt:TypeId) (zero:Value) (m k:Operand)
 |Wh (m s v:Operand)
 |PI (x:Operand)
 |rangeMap (x:Operand)
 |Wi (x:Operand)
 |Ak (x:Operand)
 |entry (x:Operand)
 |K3 (t:TypeId) (zero:Value) (ok:Bool) (x:Operand)
 |extract (x:Operand) (i:Nat)
 |append (e:TypeId) (size bytes:Nat) (s x:Operand)
 |K4 (e:TypeId) (size bytes:Nat) (zero:List Value) (s x:Operand)
 |copy (size:Nat) (d x:Operand)
 |clear (zero:List Value) (x:Operand)
 |Wj (x:Operand)
 |K5 (n:Nat)
 |pR (x:Operand)
 |K6 (x:Operand)
 |Wl (x:Operand)
 |DK (max:Bool) (args:List Operand)
 |call (f:Operand) (args:List Operand)
 |invoke (x:Operand) (name:String) (args:List Operand)
 |recover
 |panic (x:Operand)
 |dcall (f:Operand) (args:List Operand)
structure jc where
 dst:Option Tmp
 /-- the operation runs where this temporary holds this Bool -/
 guard:Option (Tmp×Bool)
 op:aK
structure bN where
 s:jc
 re:List jc
inductive dz where
 |skip
 /-- 'ds': where the region's operations put what they yield -/
 |ops (ds:List Tmp) (l:List bN)
 |seq (a b:dz)
 |cond (c:Operand) (a b:dz)
 |block (id:Nat) (a:dz)
 |loop (a:dz)
 |rangeFunc (f:Operand) (params:List Tmp) (assign body:dz)
 |scope (a:dz)
 |exit (id:Nat)
 |ret
 |fail
structure pz where
 state:LoopState
 pending:Option Out
 tmps:T Value
 n:Nat
 params:List Tmp
 assign:dz
 body:dz
 defers:Nat
inductive dL where
 |cells (cs:List Value)
 /-- cells that are read alone -/
 |jV (cs:List Value)
 |map (es:List MapEntry) (clock:Nat)
 |DL (s:ByteArray) (pos:Nat)
 |mapIter (m:Option Nat) (since:Nat) (seen:List Nat) (stepped:Nat)
 |loop (l:pz)
 |jo (open_:Bool)
structure IH where
 t:T dL
 next:Nat
 low:Nat
noncomputable def IH.get(h:IH)(i:Nat):ak dL:=h.t.get i
noncomputable def IH.set(h:IH)(i:Nat)(o:dL):IH:={h with t:=h.t.set i (some o),low:=cond (Nat.ble h.low i) h.low i}
noncomputable def IH.kill(h:IH)(i:Nat):IH:={h with t:=h.t.set i none,low:=cond (Nat.ble h.low i) h.low i}
noncomputable def IH.new(h:IH)(o:dL):IH:={h with t:=h.t.set h.next (some o),next:=Nat.succ h.next}
structure bi where
 n:Nat
 tmps:T Value
 defers:List Deferred
 pm:Option FrameMode
 ro:Option Nat
noncomputable def dS(t:T ah)(i:Nat):ah:=Option.rec (motive:=λ_=>ah) dX (λv=>v) (t.get i)
noncomputable def bi.eval(a:bi)(x:ay):ah:=
 match x with
 | .tmp t=>dS a.tmps t
 | .const v=>v
 | .global g=>.pointer (some ⟨g,0,none⟩)
 | .func f=>.func (.func f) #[] #[]
noncomputable def bi.set(a:bi)(d:Nat)(v:ah):bi:=cond (Nat.blt d a.n) {a with tmps:=a.tmps.set d (some v)} a
noncomputable def bi.put(a:bi)(d:ak Tmp)(v:ah):bi:=
 match d with
 |some d=>a.set d v
 |none=>a
noncomputable def bi.wants(a:bi)(g:ak (Tmp×Bool)):ak Bool:=
 match g with
 |none=>some true
 |some (t,want)=>match dS a.tmps t with
  | .bool b=>some (cond want b (!b))
  | .chan _=>some false
  |_=>none
noncomputable def IH.qj(h:IH)(i o n:Nat):ak (ae ah):=
 match h.get i with
 |some (.cells cs)=>jM (kw cs o) n
 |_=>none
noncomputable def IH.jd(h:IH)(i o n:Nat):ak (ae ah):=
 match h.get i with
 |some (.cells cs)=>jM (kw cs o) n
 |some (.jV cs)=>jM (kw cs o) n
 |_=>none
noncomputable def IH.qF(h:IH)(i o:Nat):ak ah:=
 match h.get i with
 |some (.cells cs)=>lC cs o
 |some (.jV cs)=>lC cs o
 |_=>none
noncomputable def IH.storeAt(h:IH)(i o:Nat)(vs:ae ah):ak IH:=
 match h.get i with
 |some (.cells cs)=>match jH cs o vs with
  |some cs=>some (h.set i (.cells cs))
  |none=>none
 |_=>none
def DN(i o:Nat):ak Addr:=some ⟨i,o,some 0⟩
def small:Nat:=1073741824
def upTo(m:Nat)(v:ah):ak Nat:=
 match v with
 | .int _ (.ofNat i)=>cond (Nat.ble i m) (some i) none
 |_=>none
def bounds?(len cap:Nat)(lo hi mx:ak ah):ak (Nat×Nat×Nat):=
 match (match mx with|some v=>upTo cap v|none=>some cap)with
 |none=>none
 |some m=>match (match hi,mx with|some v,_=>upTo m v|none,none=>some len|none,some _=>none)with
  |none=>none
  |some h=>match (match lo with|some v=>upTo h v|none=>some 0)with
   |none=>none
   |some l=>some (l,h,m)
noncomputable def pE(size n:Nat)(x:ah)(h:IH):ak (ae ah):=
 match x with
 | .slice (some ⟨i,o,_⟩) _ _=>h.jd i o (Nat.mul n size)
 | .slice none _ _=>match n with
   |0=>some []
   |_=>none
 | .string s=>cond (Nat.beq size 1) (match jM s.data.toList n with
   |some l=>some (nZ (λb=>.int .u8 b.toNat) l)
   |none=>none) none
 |_=>none
noncomputable def Al(size n:Nat)(x:ah)(h:IH):ak (ae ah):=
 match n with
 |0=>match x with
  | .slice _ _ _=>some []
  |x=>pE size 0 x h
 |Nat.succ k=>pE size (Nat.succ k) x h
def ql:ah->ak Nat
 | .slice _ n _=>some n
 | .string s=>some s.size
 |_=>none
noncomputable def zb(size bytes:Nat)(s:ah)(n:Nat)(xs:ae ah)(h:IH):ak (ah×IH):=
 match s with
 | .slice base len cap=>
   let need:=Nat.add len n
   cond (Nat.ble (Nat.mul need bytes) small&&Nat.ble (Nat.mul need size) small&&Nat.ble need small)
    (cond (Nat.ble need cap)
      (match base with
      |some ⟨i,o,f⟩=>match h.storeAt i (Nat.add o (Nat.mul len size)) xs with
       |some h=>some (.slice (some ⟨i,o,f⟩) need cap,h)
       |none=>none
      |none=>match n with
       |0=>some (.slice none need cap,h)
       |_=>none)
      (match pE size len s h with
      |none=>none
      |some old=>match base with
       |some ⟨i,_,some (k+1)⟩=>cond (Nat.beq (Nat.succ k) size) (some (.slice (some ⟨h.next,0,some size⟩) need need,(h.kill i).new (.cells (lM old xs)))) none
       |_=>some (.slice (some ⟨h.next,0,some size⟩) need need,h.new (.cells (lM old xs))))) none
 |_=>none
noncomputable def Wm(size:Nat)(d x:ah)(h:IH):ak (ah×IH):=
 match d,ql x with
 | .slice base qG _,some m=>
   let n:=cond (Nat.ble m qG) m qG
   match pE size n x h with
   |none=>none
   |some cs=>match base with
    |some ⟨i,o,_⟩=>match h.storeAt i o cs with
     |some h=>some (goInt n,h)
     |none=>none
    |none=>match n with
     |0=>some (goInt 0,h)
     |_=>none
 |_,_=>none
def wG(P:Program)(kt:aD)(k:ah)(es:ae MapEntry):ak (ak (Nat×ah)):=
 dK P (Instr.findKey kt k es)
def uh(P:Program)(kt:aD)(k:ah):Bool:=
 dG k&&match dK P (Instr.checkKey true 10000 kt k),dK P (Instr.checkKey false 10000 kt k)with
  |some _,some _=>true
  |_,_=>false
noncomputable def entriesOf(m:ah)(h:IH):ak (ae MapEntry):=
 match m with
 | .map none=>some []
 | .map (some i)=>match h.get i with
   |some (.map es _)=>some es
   |_=>none
 |_=>none
noncomputable def DR(P:Program)(kt:aD)(zero m k:ah)(ok:Bool)(h:IH):ak ah:=
 match entriesOf m h with
 |none=>none
 |some es=>cond (uh P kt k) (match wG P kt k es with
  |none=>none
  |some (some (_,v))=>some (cond ok (.tuple #[v,.bool true]) v)
  |some none=>some (cond ok (.tuple #[zero,.bool false]) zero)) none
noncomputable def setAt{α:Type}(f:α->α)(l:ae α):Nat->ae α:=
 List.rec (motive:=λ_=>Nat->ae α) (λ_=>[]) (λx l ih n=>Nat.rec (motive:=λ_=>ae α) (f x::l) (λm _=>x::ih m) n) l
noncomputable def H8(P:Program)(kt:aD)(m k v:ah)(h:IH):ak IH:=
 match m with
 | .map (some i)=>match h.get i with
   |some (.map es clock)=>cond (uh P kt k) (match wG P kt k es with
    |none=>none
    |some (some (j,_))=>match lC es j with
     |some e=>cond (Instr.sameBits 10000 e.key k) (some (h.set i (.map (setAt (λe=>{e with key:=k,val:=v}) es j) clock))) none
     |none=>none
    |some none=>some (h.set i (.map (lM es [{key:=k,val:=v,born:=clock}]) (Nat.succ clock)))) none
   |_=>none
 |_=>none
noncomputable def adR(P:Program)(kt:aD)(zero m k:ah)(h:IH):ak (ah×IH):=
 match m with
 | .map (some i)=>match h.get i with
   |some (.map es clock)=>cond (uh P kt k) (match wG P kt k es with
    |none=>none
    |some (some (j,v))=>match lC es j with
     |some e=>cond (Instr.sameBits 10000 e.key k) (some (.tuple #[v,goInt e.born],h.set i (.map (setAt (λe=>{e with key:=k}) es j) clock))) none
     |none=>none
    |some none=>some (.tuple #[zero,goInt clock],h.set i (.map (lM es [{key:=k,val:=zero,born:=clock}]) (Nat.succ clock)))) none
   |_=>none
 |_=>none
noncomputable def adS(m s v:ah)(h:IH):ak IH:=
 match m,s with
 | .map (some i),.int _ n=>match h.get i with
   |some (.map es clock)=>match es.findIdx? (λe=>(e.born:Int)==n)with
    |some j=>some (h.set i (.map (setAt (λe=>{e with val:=v}) es j) clock))
    |none=>none
   |_=>none
 |_,_=>none
def wH(P:Program)(t:aD)(x y:ah):ak Bool:=
 match P.underlying t,x,y with
 |some (.pointer _),.pointer (some _),.pointer none=>some false
 |some (.pointer _),.pointer none,.pointer (some _)=>some false
 |some (.slice _),.slice (some _) _ _,.slice none _ _=>some false
 |some (.slice _),.slice none _ _,.slice (some _) _ _=>some false
 |some (.slice _),.slice none _ _,.slice none _ _=>some true
 |some (.map _ _),.map (some _),.map none=>some false
 |some (.map _ _),.map none,.map (some _)=>some false
 |some (.func _ _ _),.func _ _ _,.nilFunc=>some false
 |some (.func _ _ _),.nilFunc,.func _ _ _=>some false
 |some (.interface _),.iface _ _,.nilIface=>some false
 |some (.interface _),.nilIface,.iface _ _=>some false
 |_,_,_=>none
def PK:Nat:=9223372036854775807
def H9(k:IntKind)(n:Int):Int:=
 match k,n with
 | .i64,.ofNat m=>cond (Nat.ble m PK) (.ofNat m) (IntKind.i64.wrap (.ofNat m))
 | .i64,.negSucc m=>cond (Nat.ble m 1000000) (.negSucc m) (IntKind.i64.wrap (.negSucc m))
 |k,n=>k.wrap n
def Wn(a b:Int):Int:=
 match a,b with
 | .ofNat x,.ofNat y=>.ofNat (Nat.add x y)
 |a,b=>a+b
def PL(a b:Int):Int:=
 match a,b with
 | .ofNat x,.ofNat y=>cond (Nat.ble y x) (.ofNat (Nat.sub x y)) (.negSucc (Nat.pred (Nat.sub y x)))
 |a,b=>a - b
def leZ(a b:Int):Bool:=
 match a,b with
 | .ofNat x,.ofNat y=>Nat.ble x y
 | .negSucc _,.ofNat _=>true
 | .ofNat _,.negSucc _=>false
 | .negSucc x,.negSucc y=>Nat.ble y x
def Fs(a b:Int):Bool:=
 match a,b with
 | .ofNat x,.ofNat y=>Nat.beq x y
 | .negSucc x,.negSucc y=>Nat.beq x y
 |_,_=>false
def xR(j k:IntKind):Bool:=
 match j,k with
 | .i64,.i64=>true
 |j,k=>j==k
def rJ(op:BinOp)(k:IntKind)(a b:Int):ak ah:=
 match op with
 | .add=>some (.int k (H9 k (Wn a b)))
 | .sub=>some (.int k (H9 k (PL a b)))
 | .eql=>some (.bool (Fs a b))
 | .neq=>some (.bool (!Fs a b))
 | .lss=>some (.bool (!leZ b a))
 | .leq=>some (.bool (leZ a b))
 | .gtr=>some (.bool (!leZ a b))
 | .geq=>some (.bool (leZ b a))
 |_=>none
def l7(P:Program)(op:BinOp)(t:aD)(x y:ay)(a b:ah):ak ah:=
 match (match a,b with
  | .int j m,.int k n=>cond (xR j k) (rJ op j m n) none
  |_,_=>none)with
 |some v=>some v
 |none=>cond (dG a&&dG b) (lN P (do eqGuard op t x y a b;binOp op t a b))
  (match op with
  | .eql=>(match wH P t a b with|some b=>some (.bool b)|none=>none)
  | .neq=>(match wH P t a b with|some b=>some (.bool !b)|none=>none)
  |_=>none)
noncomputable def DT(l:ae ah):ak (ae UInt8):=
 List.rec (motive:=λ_=>ak (ae UInt8)) (some []) (λv _ ih=>match v,ih with
  | .int .u8 k,some r=>some (UInt8.ofNat k.toNat::r)
  |_,_=>none) l
noncomputable def vB(ρ:ay->ah)(zero:ae ah)(parts:ae (Nat×Nat×ay)):ak (ae ah):=
 List.rec (motive:=λ_=>ae ah->ak (ae ah)) (λcs=>some cs)
  (λp _ ih cs=>match p with
    |(off,size,x)=>match cellsOf (ρ x)with
     |none=>none
     |some vs=>cond (Nat.beq (jh vs) size) (match jH cs off vs with
      |some cs=>ih cs
      |none=>none) none) parts zero
noncomputable def jI(ρ:ay->ah)(x:ak ay):ak ah:=
 match x with
 |some x=>some (ρ x)
 |none=>none
noncomputable def aK.alloc(c:aK)(ρ:ay->ah):ak ((Nat->ah)×dL):=
 match c with
 | .new cs _=>some (λi=>.pointer (some ⟨i,0,none⟩),.cells cs)
 | .box x _=>match cellsOf (ρ x)with
   |some cs=>some (λi=>.pointer (some ⟨i,0,none⟩),.cells cs)
   |none=>none
 | .Aj _ len zero parts=>match vB ρ zero parts with
   |some cs=>some (λi=>.slice (DN i 0) len len,.cells cs)
   |none=>none
 | .za=>some (λi=>.map (some i),.map [] 0)
 | .xQ _ size bytes zero l c=>match ρ l,ρ c with
   | .int .i64 (.ofNat l),.int .i64 (.ofNat c)=>cond (Nat.ble l c&&Nat.ble (Nat.mul c bytes) small&&Nat.ble (Nat.mul c size) small&&Nat.ble c small)
      (some (λi=>.slice (DN i 0) l c,.cells (zeros zero c))) none
   |_,_=>none
 |_=>none
noncomputable def uj(x:ak ((Nat->ah)×dL))(h:IH):ak (ah×IH):=
 match x with
 |some (f,o)=>some (f h.next,h.new o)
 |none=>none
noncomputable def aK.run(P:Program)(c:aK)(ρ:ay->ah)(h:IH):ak (ah×IH):=
 match c with
 | .mv x=>some (ρ x,h)
 | .jm x=>some (ρ x,h)
 | .pick c a b=>match ρ c with
   | .bool t=>some (cond t (ρ a) (ρ b),h)
   |_=>none
 | .new cs t=>uj ((aK.new cs t).alloc ρ) h
 | .box x t=>uj ((aK.box x t).alloc ρ) h
 | .build zero parts=>match vB ρ zero parts with
   |some cs=>some (.agg ⟨cs⟩,h)
   |none=>none
 | .Aj t len zero parts=>uj ((aK.Aj t len zero parts).alloc ρ) h
 | .fE a=>match ρ a with
   | .pointer (some ⟨i,o,none⟩)=>match h.qF i o with
     |some v=>some (v,h)
     |none=>none
   |_=>none
 | .sH n a=>match ρ a with
   | .pointer (some ⟨i,o,none⟩)=>match h.jd i o n with
     |some cs=>some (.agg ⟨cs⟩,h)
     |none=>none
   |_=>none
 | .store n a x=>match ρ a,cellsOf (ρ x)with
   | .pointer (some ⟨i,o,none⟩),some vs=>cond (Nat.beq (jh vs) n) (match h.storeAt i o vs with
     |some h=>some (dX,h)
     |none=>none) none
   |_,_=>none
 | .nI x=>match ρ x with
   | .pointer (some a)=>some (.pointer (some a),h)
   | .iface t v=>some (.iface t v,h)
   | .func (.func f) first captured=>some (.func (.func f) first captured,h)
   | .func (.methodOf t n) first captured=>some (.func (.methodOf t n) first captured,h)
   | .func (.yield l) first captured=>some (.func (.yield l) first captured,h)
   |_=>none
 | .bin op t x y=>match l7 P op t x y (ρ x) (ρ y)with
   |some v=>some (v,h)
   |none=>none
 | .un op x=>cond (dG (ρ x)) (match lN P (Op.unary op (ρ x))with
   |some v=>some (v,h)
   |none=>none) none
 | .conv s d x=>cond (dG (ρ x)) (match lN P (convert s d (ρ x))with
   |some v=>some (v,h)
   |none=>none) none
 | .V6 _ x=>match ρ x with
   | .string b=>some (.slice (some ⟨h.next,0,some 1⟩) b.data.toList.length b.data.toList.length,h.new (.cells (nZ (λc=>.int .u8 c.toNat) b.data.toList)))
   |_=>none
 | .H7 x=>match ρ x with
   | .slice none _ _=>some (.string .empty,h)
   | .slice (some ⟨i,o,_⟩) n _=>match h.jd i o n with
     |some cs=>match DT cs with
      |some bs=>some (.string ⟨⟨bs⟩⟩,h)
      |none=>none
     |none=>none
   |_=>none
 | .iface t x=>some (.iface t (ρ x),h)
 | .DJ fn first captured=>some (.func fn ⟨nZ ρ first⟩ ⟨nZ ρ captured⟩,h)
 | .za=>uj (aK.za.alloc ρ) h
 | .xQ e size bytes zero l c=>uj ((aK.xQ e size bytes zero l c).alloc ρ) h
 | .V7 t x lo hi mx=>match ρ x with
   | .string s=>match bounds? s.size s.size (jI ρ lo) (jI ρ hi) (jI ρ mx)with
     |some _=>match lN P (Instr.slice t (.string s) (jI ρ lo) (jI ρ hi) (jI ρ mx))with
      |some v=>some (v,h)
      |none=>none
     |none=>none
   |_=>none
 | .PD n size x lo hi mx=>match ρ x with
   | .pointer (some ⟨i,o,none⟩)=>match bounds? n n (jI ρ lo) (jI ρ hi) (jI ρ mx)with
     |some (l,hh,m)=>some (.slice (DN i (Nat.add o (Nat.mul l size))) (Nat.sub hh l) (Nat.sub m l),h)
     |none=>none
   |_=>none
 | .PE size x lo hi mx=>match ρ x with
   | .slice a len cap=>match bounds? len cap (jI ρ lo) (jI ρ hi) (jI ρ mx)with
     |some (l,hh,m)=>match a with
      |none=>some (.slice none (Nat.sub hh l) (Nat.sub m l),h)
      |some ⟨i,o,some 0⟩=>some (.slice (DN i (Nat.add o (Nat.mul l size))) (Nat.sub hh l) (Nat.sub m l),h)
      |some ⟨i,o,some (k+1)⟩=>cond (Nat.beq (Nat.succ k) size) (some (.slice (some ⟨i,Nat.add o (Nat.mul l size),match mx with|some _=>some 0|none=>some (Nat.succ k)⟩) (Nat.sub hh l) (Nat.sub m l),h)) none
      |some ⟨_,_,none⟩=>none
     |none=>none
   |_=>none
 | .gU off x=>match ρ x with
   | .pointer (some ⟨i,o,none⟩)=>some (.pointer (some ⟨i,Nat.add o off,none⟩),h)
   |_=>none
 | .field _ off n agg x=>match ρ x with
   | .agg ⟨cs⟩=>match agg with
     |true=>match jM (kw cs off) n with
      |some l=>some (.agg ⟨l⟩,h)
      |none=>none
     |false=>match lC cs off with
      |some v=>some (v,h)
      |none=>none
   |_=>none
 | .PG n size x ix=>match ρ x,ρ ix with
   | .pointer (some ⟨b,o,none⟩),.int _ (.ofNat i)=>cond (Nat.blt i n) (some (.pointer (some ⟨b,Nat.add o (Nat.mul i size),none⟩),h)) none
   |_,_=>none
 | .jw size x ix=>match ρ x,ρ ix with
   | .slice (some ⟨b,o,_⟩) n _,.int _ (.ofNat i)=>cond (Nat.blt i n) (some (.pointer (some ⟨b,Nat.add o (Nat.mul i size),none⟩),h)) none
   |_,_=>none
 | .V8 x ix=>match ρ x,ρ ix with
   | .string s,.int _ (.ofNat i)=>match lC s.data.toList i with
     |some b=>some (.int .u8 b.toNat,h)
     |none=>none
   |_,_=>none
 | .V9 n size agg x ix=>match ρ x,ρ ix with
   | .agg ⟨cs⟩,.int _ (.ofNat i)=>cond (Nat.blt i n) (match agg with
     |true=>match jM (kw cs (Nat.mul i size)) size with
      |some l=>some (.agg ⟨l⟩,h)
      |none=>none
     |false=>match lC cs (Nat.mul i size)with
      |some v=>some (v,h)
      |none=>none) none
   |_,_=>none
 | .lookup kt zero m k ok=>match DR P kt zero (ρ m) (ρ k) ok h with
   |some v=>some (v,h)
   |none=>none
 | .KZ kt m k v=>match H8 P kt (ρ m) (ρ k) (ρ v) h with
   |some h=>some (dX,h)
   |none=>none
 | .We kt zero m k=>adR P kt zero (ρ m) (ρ k) h
 | .Wh m s v=>match adS (ρ m) (ρ s) (ρ v) h with
   |some h=>some (dX,h)
   |none=>none
 | .PI x=>match ρ x with
   | .string s=>some (.pointer (some ⟨h.next,0,none⟩),h.new (.DL s 0))
   |_=>none
 | .rangeMap x=>match ρ x with
   | .map none=>some (.pointer (some ⟨h.next,0,none⟩),h.new (.mapIter none 0 [] 0))
   | .map (some m)=>match h.get m with
     |some (.map _ clock)=>some (.pointer (some ⟨h.next,0,none⟩),h.new (.mapIter (some m) clock [] clock))
     |_=>none
   |_=>none
 | .Wi it=>match ρ it with
   | .pointer (some ⟨r,0,none⟩)=>match h.get r with
     |some (.DL s pos)=>cond (Nat.blt pos s.size)
       (some (.tuple #[.bool true,goInt pos,.int .i32 (Utf8.decode s pos).1],h.set r (.DL s (Nat.add pos (Utf8.decode s pos).2))))
       (some (.tuple #[.bool false],h))
     |_=>none
   |_=>none
 | .entry it=>match ρ it with
   | .pointer (some ⟨r,0,none⟩)=>match h.get r with
     |some (.mapIter (some m) _ seen stepped)=>match h.get m with
      |some (.map es clock)=>match seen.getLast? with
       |some stamp=>cond (Nat.beq clock stepped) (match es.find? (λe=>Nat.beq e.born stamp)with
        |some e=>some (.tuple #[e.key,e.val],h)
        |none=>none) none
       |none=>none
      |_=>none
     |_=>none
   |_=>none
 | .K3 t zero ok x=>match ρ x with
   | .nilIface=>cond ok (some (.tuple #[zero,.bool false],h)) none
   | .iface u v=>cond (Nat.beq u t) (some (cond ok (.tuple #[v,.bool true]) v,h)) (cond ok (some (.tuple #[zero,.bool false],h)) none)
   |_=>none
 | .extract x i=>match ρ x with
   | .tuple ⟨vs⟩=>match lC vs i with
     |some v=>some (v,h)
     |none=>none
   |_=>none
 | .append _ size bytes s x=>match ql (ρ x)with
   |some n=>match Al size n (ρ x) h with
    |some xs=>zb size bytes (ρ s) n xs h
    |none=>none
   |none=>none
 | .K4 _ size bytes zero s x=>match ρ s,ρ x with
   | .slice none 0 0,.int .i64 (.ofNat (n+1))=>cond (Nat.ble (Nat.mul (n+1) bytes) small&&Nat.ble (Nat.mul (n+1) size) small&&Nat.ble (n+1) small) (some (.slice (some ⟨h.next,0,some size⟩) (n+1) (n+1),h.new (.cells (zeros zero (n+1))))) none
   |_,_=>none
 | .copy size d x=>Wm size (ρ d) (ρ x) h
 | .clear zero x=>match ρ x with
   | .slice (some ⟨i,o,some _⟩) (n+1) _=>match h.storeAt i o (zeros zero (n+1))with
     |some h'=>some (.tuple #[],h')
     |none=>none
   | .slice _ 0 _=>some (.tuple #[],h)
   |_=>none
 | .Wj x=>match ρ x with
   | .string s=>some (goInt s.size,h)
   |_=>none
 | .K5 n=>some (goInt n,h)
 | .pR x=>match ρ x with
   | .slice _ n _=>some (goInt n,h)
   |_=>none
 | .K6 x=>match entriesOf (ρ x) h with
   |some es=>some (goInt (jh es),h)
   |none=>none
 | .Wl x=>match ρ x with
   | .slice none _ c=>some (goInt c,h)
   | .slice (some ⟨_,_,some 0⟩) _ c=>some (goInt c,h)
   |_=>none
 | .DK max args=>match nZ ρ args with
   |[.int j a,.int k b]=>cond (xR j k) (some (.int j (cond max (cond (leZ b a) a b) (cond (leZ a b) a b)),h)) none
   |args=>cond (iU args) (match lN P (cond max (Builtin.max_ #[] 0 ⟨args⟩) (Builtin.min_ #[] 0 ⟨args⟩))with
    |some v=>some (v,h)
    |none=>none) none
 | .Ak _| .call _ _| .invoke _ _ _| .recover| .panic _| .dcall _ _=>none
end Go.Ideal
namespace Go.Ideal
noncomputable section
def kz(P:Program)(t:aD):ak Nat:=(P.info? t).map (·.size)
def zeroOf(P:Program)(t:aD):ak ah:=
 match (P.info? t).bind (·.zero)with
 |some z=>if dG z then some z else none
 |none=>none
def kD(P:Program)(t:aD):Bool:=
 match P.underlying t with
 |some (.struct _)|some (.array _ _)=>true
 |_=>false
def ze(P:Program)(t:aD):ak (ae ah):=
 match zeroOf P t,kz P t with
 |some z,some n=>if z.cells.toList.length=n/\iU z.cells.toList then some z.cells.toList else none
 |_,_=>none
def pU(P:Program)(t:aD):ak Nat:=
 match kz P t with
 |some 0=>none
 |s=>s
def Ca(P:Program)(fs:Array Field):ae (Nat×ay)->ak (ae (Nat×Nat×ay))
 |[]=>some []
 |(i,x)::l=>match fs[i]?,Ca P fs l with
  |some f,some r=>match kz P f.type with
   |some s=>some ((f.offset,s,x)::r)
   |none=>none
  |_,_=>none
def placesOf(P:Program)(fs:Array Field)(parts:ae (Nat×ay)):ak (ae (Nat×Nat×ay)):=
 if fs.toList.all (λf=>(kz P f.type).isSome)then Ca P fs parts else none
def K7:Fn->Bool
 | .yield _=>false
 | .via .. =>false
 |_=>true
def cop(P:Program)(o:Oper):ak aK:=
 match o.op with
 | .move x=>some (.mv x)
 | .assign x=>some (.jm x)
 | .pick c a b=>some (.pick c a b)
 | .alloc e=>match ze P e with
   |some cs=>some (.new cs e)
   |none=>none
 | .box e x=>some (.box x e)
 | .build t parts=>match P.underlying t,ze P t with
   |some (.struct fs),some z=>match placesOf P fs parts.toList with
    |some ps=>some (.build z ps)
    |none=>none
   |some (.array _ e),some z=>match pU P e with
    |some s=>some (.build z (parts.toList.map λ(i,x)=>(i*s,s,x)))
    |none=>none
   |_,_=>none
 | .buildSlice t len parts=>match P.underlying t with
   |some (.slice e)=>match pU P e,ze P e with
    |some s,some z=>if len*s<=2^24 then some (.Aj e len (zeros z len) (parts.toList.map λ(i,x)=>(i*s,s,x)))else none
    |_,_=>none
   |_=>none
 | .load t a=>if kD P t then(kz P t).map λn=>.sH n a else match P.underlying t with
   |some _=>some (.fE a)
   |none=>none
 | .store t a x=>(kz P t).map λn=>.store n a x
 | .nilCheck x=>some (.nI x)
 | .binOp op t x y _=>some (.bin op t x y)
 | .unOp op _ x=>some (.un op x)
 | .convert s d x=>match P.underlying s,P.underlying d with
   |some .string,some (.slice _)=>none
   |some (.slice e),some .string=>match P.underlying e with
    |some (.int .u8)=>some (.H7 x)
    |_=>none
   |some (.slice _),some (.slice _)=>none
   |some _,some _=>some (.conv s d x)
   |_,_=>none
 | .makeInterface t x=>match P.underlying t with
   |some (.interface _)=>none
   |some _=>some (.iface t x)
   |none=>none
 | .makeFunc fn first captured=>if K7 fn then some (.DJ fn first.toList captured.toList)else none
 | .makeMap _ none=>some .za
 | .makeSlice t l c=>match P.underlying t with
   |some (.slice e)=>match pU P e,ze P e with
    |some s,some z=>some (.xQ e s ((P.info? e).map (·.bytes)).get! z l c)
    |_,_=>none
   |_=>none
 | .slice t x lo hi mx=>match P.underlying t with
   |some .string=>some (.V7 t x lo hi mx)
   |some (.array n e)=>(pU P e).map λs=>.PD n s x lo hi mx
   |some (.slice e)=>(pU P e).map λs=>.PE s x lo hi mx
   |_=>none
 | .fieldAddr s x f=>match P.underlying s with
   |some (.struct fs)=>match fs[f]? with
    |some f=>(pU P f.type).map λ_=>.gU f.offset x
    |none=>none
   |_=>none
 | .field t x f=>match P.underlying t with
   |some (.struct fs)=>match fs[f]? with
    |some f=>match kz P f.type,P.underlying f.type with
     |some n,some _=>some (.field f.type f.offset n (kD P f.type) x)
     |_,_=>none
    |none=>none
   |_=>none
 | .indexAddr t x i=>match P.underlying t with
   |some (.array n e)=>(pU P e).map λs=>.PG n s x i
   |some (.slice e)=>(pU P e).map λs=>.jw s x i
   |_=>none
 | .index t x i=>match P.underlying t with
   |some (.array n e)=>match pU P e,P.underlying e with
    |some s,some _=>some (.V9 n s (kD P e) x i)
    |_,_=>none
   |some .string=>some (.V8 x i)
   |_=>none
 | .lookup t m k ok=>match P.underlying t with
   |some (.map kt et)=>(zeroOf P et).map λz=>.lookup kt z m k ok
   |_=>none
 | .mapUpdate t m k v| .insert t m k v=>match P.underlying t with
   |some (.map kt _)=>some (.KZ kt m k v)
   |_=>none
 | .range t x=>match P.underlying t with
   |some .string=>some (.PI x)
   |some (.map _ _)=>some (.rangeMap x)
   |_=>none
 | .next it false=>some (.Ak it)
 | .entry it=>some (.entry it)
 | .typeAssert x _ t ok=>match P.underlying t with
   |some (.interface _)=>none
   |some _=>(zeroOf P t).map λz=>.K3 t z ok x
   |none=>none
 | .extract t i=>some (.extract t i)
 | .panic x=>some (.panic x)
 | .defer {callee:=.value f,args,.. }=>some (.dcall f args.toList)
 | .call {callee:=.value f,args,.. }=>some (.call f args.toList)
 | .call {callee:=.invoke x name,args,.. }=>some (.invoke x name args.toList)
 | .call {callee:=.builtin b,args,argTypes}=>match b,args.toList with
   | .recover,_=>some .recover
   | .panic,[x]=>some (.panic x)
   | .append,[s,x]=>match argTypes[0]?,argTypes[1]? with
     |some st,some xt=>match P.underlying st,P.underlying xt with
      |some (.slice e),some xd=>match pU P e,(P.info? e).map (·.bytes),ze P e with
       |some s',some (b+1),some z=>match xd with
        | .int _=>some (.K4 e s' (b+1) z s x)
        |_=>some (.append e s' (b+1) s x)
       |_,_,_=>none
      |_,_=>none
     |_,_=>none
   | .clear,[x]=>match argTypes[0]? with
     |some t=>match P.underlying t with
      |some (.slice e)=>match ze P e with
       |some (z::zs)=>some (.clear (z::zs) x)
       |_=>none
      |_=>none
     |none=>none
   | .copy,[d,x]=>match argTypes[0]? with
     |some dt=>match P.underlying dt with
      |some (.slice e)=>(pU P e).map λs=>.copy s d x
      |_=>none
     |none=>none
   | .len,[x]=>match argTypes[0]? with
     |some t=>match P.underlying t with
      |some .string=>some (.Wj x)
      |some (.array n _)=>some (.K5 n)
      |some (.pointer p)=>match P.underlying p with
       |some (.array n _)=>some (.K5 n)
       |_=>none
      |some (.slice _)=>some (.pR x)
      |some (.map _ _)=>some (.K6 x)
      |_=>none
     |none=>none
   | .cap,[x]=>match argTypes[0]? with
     |some t=>match P.underlying t with
      |some (.slice _)=>some (.Wl x)
      |_=>none
     |none=>none
   | .min,args=>some (.DK false args)
   | .max,args=>some (.DK true args)
   |_,_=>none
 |_=>none
def DU(P:Program):ay->Bool
 | .const (.tuple ⟨[]⟩)=>true
 | .const v=>dG v
 | .global g=>Nat.blt g P.globals.size
 |_=>true
def Ia(P:Program)(ops:Array Oper)(o:Oper):ak jc:=
 if o.op.operands.toList.all (DU P)then match cop P o with
 |none=>none
 |some c=>match o.guard with
  |none=>some ⟨o.dst,none,c⟩
  |some (j,want)=>match (ops[j]?).bind (·.dst)with
   |some t=>some ⟨o.dst,some (t,want),c⟩
   |none=>none
 else none
def heavy:aK->Bool
 | .jm .. | .store .. | .KZ .. | .We .. | .Wh .. | .PI .. | .rangeMap .. | .Wi .. | .Ak .. | .append .. | .K4 .. | .copy .. | .clear .. | .V6 ..
 | .call .. | .invoke .. | .recover| .panic .. | .dcall .. =>true
 |_=>false
def Fu:aK->Bool
 | .fE .. | .sH .. | .lookup .. | .entry .. | .H7 .. | .K6 .. =>true
 |_=>false
def DV(ops:Array Oper)(done:ae Nat)(i:Nat):Bool:=
 !done.contains i&&match ops[i]? with
  |some o=>o.after.toList.all λe=>!Region.binds .any e||done.contains e.on
  |none=>false
def looks(ops:Array Oper)(o:Oper):ae Tmp:=
 (o.op.operands.toList.filterMap λ| .tmp t=>some t|_=>none)++
 (match o.guard with
  |some (g,_)=>((ops[g]?).bind (·.dst)).toList
  |none=>[])
def PM(ops:Array Oper)(hv:Nat->Bool):Nat->ae Nat->ae Nat
 |0,done=>done.reverse
 |f+1,done=>
  match (List.range ops.size).find? λi=>!hv i&&DV ops done i with
  |some i=>PM ops hv f (i::done)
  |none=>match (List.range ops.size).find? λi=>DV ops done i with
   |some i=>PM ops hv f (i::done)
   |none=>done.reverse
def Wo(ops:Array Oper)(bR:Nat->Nat->Bool)(hv:Nat->Bool)(done:ae Nat)(i:Nat):Bool:=
 match ops[i]? with
 |none=>false
 |some o=>
  DV ops done i&&
  (!hv i||(done.all λj=>!hv j||bR i j)&&(List.range ops.size).all λj=>hv j||!DV ops done j)&&
  (match o.dst with
  |none=>true
  |some d=>(hv i||!(looks ops o).contains d)&&done.all λj=>match ops[j]? with
   |some p=>if(looks ops p).contains d||p.dst==some d then hv i&&bR i j else true
   |none=>false)&&
  done.all λj=>match ops[j]? with
   |some p=>match p.dst with
    |some d=>if(looks ops o).contains d then bR i j else true
    |none=>true
   |none=>false
def Ib(ops:Array Oper)(bR:Nat->Nat->Bool)(hv:Nat->Bool):ae Nat->ae Nat->Bool
 |[],done=>(List.range ops.size).all λi=>done.contains i
 |i::l,done=>Wo ops bR hv done i&&Ib ops bR hv l (i::done)
def Ic(bR:Nat->Nat->Bool)(cs:Nat->ak jc):ae Nat->ae Nat->ak (ae bN)
 |[],_=>some []
 |i::l,done=>match cs i,Ic bR cs l (i::done)with
  |some s,some r=>some (⟨s,if heavy s.op then done.filterMap λj=>match cs j with
    |some t=>if Fu t.op&&!bR i j then some t else none
    |none=>none else[]⟩::r)
  |_,_=>none
def uk(ops:Array Oper):Nat->Nat->Bool:=
 let b:=Region.before ops
 λi j=>(b.getD i 0).testBit j
def lQ(P:Program)(ops:Array Oper)(i:Nat):ak jc:=(ops[i]?).bind (Ia P ops)
def Cb(P:Program)(ops:Array Oper)(i:Nat):Bool:=
 match lQ P ops i with
 |some s=>heavy s.op
 |none=>true
def Wp(P:Program)(ops:Array Oper):ak (ae bN):=
 let l:=PM ops (Cb P ops) ops.size []
 if Ib ops (uk ops) (Cb P ops) l []then Ic (uk ops) (lQ P ops) l []else none
def dstsOf(ops:Array Oper):ae Tmp:=ops.toList.filterMap (·.dst)
def K8(P:Program)(ops:Array Oper)(draw:Bool):dz:=
 match (if draw then Wp P ops else ops.toList.mapM λo=>(Ia P ops o).map λs=>⟨s,[]⟩)with
 |some l=>.ops (dstsOf ops) l
 |none=>.fail
def compile(P:Program):Code->dz
 | .skip| .label _=>.skip
 | .region _ ops draw=>K8 P ops draw
 | .seq a b=>.seq (compile P a) (compile P b)
 | .cond c a b=>.cond c (compile P a) (compile P b)
 | .block id a=>.block id (compile P a)
 | .loop a=>.loop (compile P a)
 | .rangeFunc f params assign body=>if DU P f then .rangeFunc f params.toList (compile P assign) (compile P body)else .fail
 | .exit id=>.exit id
 | .scope a=>.scope (compile P a)
 | .ret=>.ret
 | .goto _| .refuse _=>.fail
inductive ul where
 |tmp (t:Tmp)
 |cell1 (a:Tmp)
 |pV (n:Nat) (a:Tmp)
def Ie(P:Program):ResultVar->ak ul
 | .tmp t=>some (.tmp t)
 | .cell a t=>if kD P t then(kz P t).map λn=>.pV n a else match P.underlying t with
   |some _=>some (.cell1 a)
   |none=>none
structure iG where
 ntmps:Nat
 results:List ul
 body:dz
def xS(P:Program)(fn:Func):ak iG:=
 match fn.body,fn.results.toList.mapM (Ie P)with
 |some c,some rs=>if fn.name= "runtime.NumGoroutine" then none else some ⟨fn.ntmps,rs,compile P c⟩
 |_,_=>none
inductive jB where
 |ok (v:Value)
 |gI (chain:List PanicEntry)
structure iI where
 fn:Fn
 args:List Value
 captured:List Value
 pm:Option FrameMode
def Am(l:ae ah):Nat->T ah->T ah:=
 List.rec (motive:=λ_=>Nat->T ah->T ah) (λ_ t=>t) (λv _ ih i t=>ih (Nat.succ i) (t.set i (some v))) l
def um(a b:Nat):Nat:=cond (Nat.ble a b) b a
def DW(n:Nat)(args:ae ah)(pm:ak FrameMode):bi:=
 {n:=um n (jh args),tmps:=Am args 0 .leaf,defers:=[],pm,ro:=none}
def wI(tmps:T ah)(h:IH)(r:ul):ak ah:=
 match r with
 | .tmp t=>some (dS tmps t)
 | .cell1 a=>match dS tmps a with
   | .pointer (some ⟨i,o,none⟩)=>match h.get i with
     |some (.cells cs)=>lC cs o
     |_=>none
   |_=>none
 | .pV n a=>match dS tmps a with
   | .pointer (some ⟨i,o,none⟩)=>match h.qj i o n with
     |some cs=>some (.agg ⟨cs⟩)
     |none=>none
   |_=>none
def Ao(tmps:T ah)(h:IH)(l:ae ul):ak (ae ah):=
 List.rec (motive:=λ_=>ak (ae ah)) (some []) (λr _ ih=>match wI tmps h r,ih with
  |some v,some vs=>some (v::vs)
  |_,_=>none) l
def uo(rs:ae ul)(tmps:T ah)(h:IH):ak ah:=
 match Ao tmps h rs with
 |some [v]=>some v
 |some vs=>some (.tuple ⟨vs⟩)
 |none=>none
def Cc:FrameMode->FrameMode
 | .panicking (e::older)=>cond e.recovered (match older.dropWhile (!·.goexit)with
    |[]=>.returning
    |rest=>.panicking rest) (.panicking (e::older))
 |m=>m
def Fv(u:FrameMode)(chain:ae PanicEntry):FrameMode:=
 match u with
 | .panicking old=>.panicking (chain++old)
 |_=>.panicking chain
def kV(pm:FrameMode):ah×FrameMode:=
 match pm with
 | .panicking (e::older)=>cond (e.recovered||e.goexit) (.nilIface,pm) (e.v,.panicking ({e with recovered:=true}::older))
 |_=>(.nilIface,pm)
def Fw(P:Program)(t:aD)(v:ah)(name:String):ak (fO×ah):=
 match P.info? t with
 |none=>none
 |some info=>match info.methods.find? (·.name==name)with
  |none=>none
  |some m=>if m.path.size≠0 then none else match m.func with
   |some (f,ptr)=>match P.underlying t,ptr with
    |some (.pointer _),true=>some (f,v)
    |some (.pointer _),false=>none
    |some _,false=>some (f,v)
    |_,_=>none
   |none=>none
def target(P:Program)(q:iI):ak (fO×ae ah):=
 match q.fn with
 | .func f=>some (f,lM q.args q.captured)
 | .method name=>match q.args with
   | .iface t v::args=>match Fw P t v name with
     |some (f,r)=>some (f,r::args)
     |none=>none
   |_=>none
 | .methodOf t name=>match q.args with
   |x::args=>match P.underlying t with
    |some (.interface _)=>match x with
     | .iface t v=>match Fw P t v name with
       |some (f,r)=>some (f,r::args)
       |none=>none
     |_=>none
    |some _=>match Fw P t x name with
     |some (f,r)=>some (f,r::args)
     |none=>none
    |none=>none
   |[]=>none
 |_=>none
def Ap(c:aK)(ρ:ay->ah):ak iI:=
 match c with
 | .call f args=>match ρ f with
   | .func fn ⟨first⟩ ⟨captured⟩=>some ⟨fn,lM first (nZ ρ args),captured,none⟩
   |_=>none
 | .invoke x name args=>some ⟨.method name,ρ x::nZ ρ args,[],none⟩
 |_=>none
def forget(ds:ae Tmp)(a:bi):bi:=
 List.rec (motive:=λ_=>bi->bi) (λa=>a) (λd _ ih a=>ih (a.set d dX)) ds a
def DX(it:ah)(h:IH):ak (ae (ah×IH)):=
 match it with
 | .pointer (some ⟨r,0,none⟩)=>match h.get r with
   |some (.mapIter none _ _ _)=>some [(.tuple #[.bool false],h)]
   |some (.mapIter (some m) since seen last)=>match h.get m with
    |some (.map es clock)=>
     cond (!seen.isEmpty&&!es.isEmpty&&es.all (λe=>Nat.ble last e.born)) none
      (let left:=es.filter λe=>!seen.contains e.born
      let old:=left.filter λe=>Nat.blt e.born since
      let new:=left.filter λe=>Nat.ble since e.born
      some ((if old.isEmpty then[(.tuple #[.bool false],h)]else[])++
       (old++new).map λe=>(.tuple #[.bool true,e.key,e.val],h.set r (.mapIter (some m) since (seen++[e.born]) clock))))
    |_=>none
   |_=>none
 |_=>none
def inBlock(id:Nat)(o:Out):Out:=
 match o with
 | .exit j=>cond (Nat.beq j id) .normal (.exit j)
 |o=>o
def wJ(o:Out):ak FrameMode:=
 match o with
 | .normal| .ret=>some .returning
 | .panic ch=>some (.panicking ch)
 | .exit _=>none
def xU(n:Nat)(ps:ae Tmp)(args:ae ah)(t:T ah):T ah:=
 List.rec (motive:=λ_=>ae ah->T ah->T ah) (λ_ t=>t)
  (λp _ ih args t=>match args with
    |v::args=>ih args (cond (Nat.blt p n) (t.set p (some v)) t)
    |[]=>t) ps args t
mutual
def qm(m:Nat):ah->Bool
 | .pointer (some a)=>Nat.blt a.block m
 | .slice (some a) _ _=>Nat.blt a.block m
 | .map (some i)=>Nat.blt i m
 | .func fn ⟨f⟩ ⟨c⟩=>(match fn with
   | .yield _=>false
   |_=>true)&&vC m f&&vC m c
 | .iface _ v=>qm m v
 | .agg ⟨l⟩=>vC m l
 | .tuple ⟨l⟩=>vC m l
 |_=>true
def vC(m:Nat):ae ah->Bool
 |[]=>true
 |v::l=>qm m v&&vC m l
end
def Ig(m:Nat):dL->Bool
 | .cells cs=>vC m cs
 | .map es _=>es.all λe=>qm m e.val
 |_=>false
abbrev KO:=Out->bi->IH->Prop
abbrev KR:=jB->ak FrameMode->IH->Prop
end
end Go.Ideal
namespace Go.Ideal
noncomputable section
def Fy{α:Type}(f:Nat):ae α->T α:=
 Nat.rec (motive:=λ_=>ae α->T α) (λ_=>.leaf)
  (λ_ ih l=>List.rec (motive:=λ_=>T α) .leaf (λx l _=>.node (some x)
    (ih (List.rec (motive:=λ_=>Bool->ae α) (λ_=>[]) (λy _ r b=>Bool.rec (motive:=λ_=>ae α) (r true) (y::r false) b) l true))
    (ih (List.rec (motive:=λ_=>Bool->ae α) (λ_=>[]) (λy _ r b=>Bool.rec (motive:=λ_=>ae α) (r true) (y::r false) b) l false))) l) f
def qH(f:Nat):ah->ah->Bool:=
 Nat.rec (motive:=λ_=>ah->ah->Bool) (λ_ _=>false)
  (λ_ ih v u=>match v,u with
    | .bool a,.bool b=>a==b
    | .int .i64 a,.int .i64 b=>Fs a b
    | .int j a,.int k b=>j==k&&a==b
    | .string a,.string b=>a.data.toList==b.data.toList
    | .pointer none,.pointer none=>true
    | .pointer (some ⟨i,o,none⟩),.pointer (some ⟨j,p,none⟩)=>Nat.beq i j&&Nat.beq o p
    | .slice none n c,.slice none m d=>Nat.beq n m&&Nat.beq c d
    | .slice (some ⟨i,o,some f⟩) n c,.slice (some ⟨j,p,some g⟩) m d=>Nat.beq i j&&Nat.beq o p&&Nat.beq f g&&Nat.beq n m&&Nat.beq c d
    | .map none,.map none=>true
    | .map (some i),.map (some j)=>Nat.beq i j
    | .nilIface,.nilIface=>true
    | .nilFunc,.nilFunc=>true
    | .iface t v,.iface s u=>Nat.beq t s&&ih v u
    | .agg ⟨a⟩,.agg ⟨b⟩=>List.rec (motive:=λ_=>ae ah->Bool) (λb=>match b with|[]=>true|_=>false) (λx _ r b=>match b with|y::b=>cond (ih x y) (r b) false|[]=>false) a b
    | .tuple ⟨a⟩,.tuple ⟨b⟩=>List.rec (motive:=λ_=>ae ah->Bool) (λb=>match b with|[]=>true|_=>false) (λx _ r b=>match b with|y::b=>cond (ih x y) (r b) false|[]=>false) a b
    | .func f ⟨a⟩ ⟨c⟩,.func g ⟨b⟩ ⟨d⟩=>f==g&&
       List.rec (motive:=λ_=>ae ah->Bool) (λb=>match b with|[]=>true|_=>false) (λx _ r b=>match b with|y::b=>cond (ih x y) (r b) false|[]=>false) a b&&
       List.rec (motive:=λ_=>ae ah->Bool) (λb=>match b with|[]=>true|_=>false) (λx _ r b=>match b with|y::b=>cond (ih x y) (r b) false|[]=>false) c d
    |_,_=>false) f
abbrev BO:=Out->bi->IH->Bool
abbrev BR:=jB->ak FrameMode->IH->Bool
structure Ev where
 code:dz->bi->IH->BO->Bool
 call:iI->IH->BR->Bool
structure Env where
 P:Program
 F:Nat->Option iG
 cut:Nat->Option (iI->IH->Option (List Value×Nat×Nat))
 /-- calls that are known: what they return, and the heap behind them -/
 memo:Nat->Option (iI->IH->Option (Value×IH))
def Ih(P:Program)(re:ae jc)(a:bi)(h:IH):Bool:=
 List.rec (motive:=λ_=>Bool) true (λr _ ih=>cond (match a.wants r.guard with
  |some false=>true
  |_=>match r.op.run P a.eval h with
   |some (u,_)=>match r.dst with
    |some d=>qH 50 (dS a.tmps d) u
    |none=>true
   |none=>false) ih false) re
def PN(P:Program)(s:bN)(a:bi)(h:IH)(next:bi->IH->Bool):Bool:=
 match s.s.op.run P a.eval h with
 |some (v,h)=>match s.re with
  |[]=>next (a.put s.s.dst v) h
  |re=>cond (Ih P re (a.put s.s.dst v) h) (next (a.put s.s.dst v) h) false
 |none=>false
def K9(P:Program)(E:Ev)(ds:ae Tmp)(s:bN)(a:bi)(h:IH)(next:bi->IH->Bool)(k:BO):Bool:=
 match Ap s.s.op a.eval with
 |some q=>E.call q h λr _ h=>match r with
  | .ok v=>cond (Ih P s.re (a.put s.s.dst v) h) (next (a.put s.s.dst v) h) false
  | .gI ch=>k (.panic ch) (forget ds a) h
 |none=>false
def Ii(s:bN)(b:Bool):Bool:=match s.re with
 |[]=>b
 |_=>false
def La(P:Program)(E:Ev)(ds:ae Tmp)(s:bN)(a:bi)(h:IH)(next:bi->IH->Bool)(k:BO):Bool:=
 match s.s.op with
 | .call _ _=>K9 P E ds s a h next k
 | .invoke _ _ _=>K9 P E ds s a h next k
 | .recover=>Ii s (match a.ro with
   |some _=>false
   |none=>match a.pm with
    |none=>next (a.put s.s.dst .nilIface) h
    |some m=>next ({a with pm:=some (kV m).2}.put s.s.dst (kV m).1) h)
 | .panic x=>match a.eval x with
   | .iface t v=>k (.panic [{v:=.iface t v,recovered:=false}]) (forget ds a) h
   |_=>false
 | .dcall f args=>Ii s (match a.ro with
   |some _=>false
   |none=>match a.eval f with
    | .func fn ⟨first⟩ ⟨captured⟩=>next ({a with defers:={target:=.fn fn ⟨captured⟩,args:=⟨lM first (nZ a.eval args)⟩}::a.defers}.put s.s.dst dX) h
    |_=>false)
 | .Ak x=>Ii s (match DX (a.eval x) h with
   |some alts=>KY (λvh=>next (a.put s.s.dst vh.1) vh.2) alts
   |none=>false)
 |_=>PN P s a h next
def Ij(P:Program)(E:Ev)(ds:ae Tmp)(l:ae bN):bi->IH->BO->Bool:=
 List.rec (motive:=λ_=>bi->IH->BO->Bool) (λa h k=>k .normal a h)
  (λs _ ih a h k=>match a.wants s.s.guard with
    |some true=>La P E ds s a h (λa h=>ih a h k) k
    |some false=>ih (a.put s.s.dst wF) h k
    |none=>false) l
def DY(E:Ev)(cf:iG)(ts:T ah)(ds:ae Deferred):FrameMode->IH->(jB->IH->Bool)->Bool:=
 List.rec (motive:=λ_=>FrameMode->IH->(jB->IH->Bool)->Bool)
  (λm h k=>match m with
    | .returning=>match uo cf.results ts h with
      |some v=>k (.ok v) h
      |none=>false
    | .panicking ch=>k (.gI ch) h
    | .run=>false)
  (λd _ ih m h k=>match m with
    | .run=>false
    |m=>match d with
     |{target:=.collected r,.. }=>match h.get r with
      |some (.jo true)=>ih m (h.set r (.jo false)) k
      |_=>false
     |{target:=.fn fn ⟨captured⟩,args:=⟨args⟩}=>E.call ⟨fn,args,captured,some m⟩ h λr pm h=>match pm with
      |none=>false
      |some m'=>match r with
       | .ok _=>ih (Cc m') h k
       | .gI ch=>ih (Fv m' ch) h k
     |_=>false) ds
def DZ(V:Env)(E:Ev)(f:fO)(args:ae ah)(pm:ak FrameMode)(h:IH)(k:BR):Bool:=
 match V.F f with
 |none=>false
 |some cf=>E.code cf.body (DW cf.ntmps args pm) h λo a h=>match wJ o with
  |none=>false
  |some m=>DY E cf a.tmps a.defers m h λr h=>k r a.pm h
def Wq(l:Nat)(o:Out)(a:bi)(h:IH)(k:BR):Bool:=
 match a.defers with
 |[]=>match h.get l with
  |some (.loop r)=>match o with
   | .normal=>k (.ok (.bool true)) none (h.set l (.loop {r with state:=.ready,pending:=none}))
   | .panic ch=>k (.gI ch) none h
   | .exit id=>k (.ok (.bool false)) none (h.set l (.loop {r with state:=.done,pending:=some (.exit id)}))
   | .ret=>k (.ok (.bool false)) none (h.set l (.loop {r with state:=.done,pending:=some .ret}))
  |_=>false
 |_=>false
def PO(E:Ev)(l:Nat)(args:ae ah)(h:IH)(k:BR):Bool:=
 match h.get l with
 |some (.loop r)=>cond (Nat.beq (jh args) (jh r.params))
  (E.code r.assign {n:=r.n,tmps:=xU r.n r.params args r.tmps,defers:=[],pm:=none,ro:=some l} h λo a h=>match o with
    | .normal=>match h.get l with
      |some (.loop r1)=>match r1.state with
       | .ready=>E.code r.body a (h.set l (.loop {r1 with state:=.busy})) λo a h=>Wq l o a h k
       |_=>false
      |_=>false
    |_=>false) false
 |_=>false
def Ws(cs:ae ah)(n f:Nat)(h0:IH)(r:jB)(pm:ak FrameMode)(h:IH):Bool:=
 match pm with
 |some _=>false
 |none=>match r with
  | .ok (.slice (some ⟨i,o,some f'⟩) n' c)=>cond (Nat.beq n n'&&Nat.beq f f'&&(!Nat.beq f 0||Nat.beq c n)&&Nat.ble h0.next i&&Nat.beq h.low h0.next) (match h.qj i o (jh cs)with
    |some l=>List.rec (motive:=λ_=>ae ah->Bool) (λb=>match b with|[]=>true|_=>false) (λx _ r b=>match b with|y::b=>cond (qH 5 x y) (r b) false|[]=>false) l cs
    |none=>false) false
  |_=>false
def PP(V:Env)(f:Nat)(q:iI)(h:IH)(k:BR)(other:Bool):Bool:=
 match V.memo f with
 |none=>other
 |some g=>match q.pm with
  |some _=>other
  |none=>match g q h with
   |some (v,h')=>k (.ok v) none h'
   |none=>other
def PR(V:Env)(E:Ev)(q:iI)(h:IH)(k:BR):Bool:=
 match q.fn with
 | .yield l=>match q.pm with
   |none=>PO E l q.args h k
   |some _=>false
 |_=>match target V.P q with
  |none=>false
  |some (f',args)=>PP V f' q h k (match V.cut f' with
   |none=>DZ V E f' args q.pm h k
   |some g=>match q.pm with
    |some _=>false
    |none=>match g q h with
     |none=>DZ V E f' args q.pm h k
     |some ([],_,_)=>DZ V E f' args q.pm h k
     |some (cs,n,f)=>cond (iU cs&&(Nat.beq f 0||Nat.beq (jh cs) (Nat.mul n f)))
       (cond (DZ V E f' args none {h with low:=h.next} (Ws cs n f h))
         (k (.ok (.slice (some ⟨h.next,0,some f⟩) n n)) none (h.new (.cells cs))) false) false)
def Lb(V:Env)(E:Ev)(c:dz)(a:bi)(h:IH)(k:BO):Bool:=
 match c with
 | .skip=>k .normal a h
 | .ops ds l=>Ij V.P E ds l a h k
 | .seq x y=>E.code x a h λo a h=>match o with
   | .normal=>E.code y a h k
   |o=>k o a h
 | .cond c x y=>match a.eval c with
   | .bool true=>E.code x a h k
   | .bool false=>E.code y a h k
   |_=>false
 | .block id c=>E.code c a h λo a h=>k (inBlock id o) a h
 | .loop c=>E.code c a h λo a h=>match o with
   | .normal=>E.code (.loop c) a h k
   |o=>k o a h
 | .scope c=>E.code c a h k
 | .exit id=>k (.exit id) a h
 | .ret=>k .ret a h
 | .rangeFunc f ps assign body=>match a.eval f with
   | .func fn ⟨first⟩ ⟨captured⟩=>
     let go (a1:bi) (r:Nat) (h1:IH):Bool:=
      E.call ⟨fn,lM first [.func (.yield h1.next) #[] #[]],captured,none⟩
       (h1.new (.loop {state:=.ready,pending:=none,tmps:=a.tmps,n:=a.n,params:=ps,assign,body,defers:=r})) λres _ h2=>match res with
       | .ok _=>match h2.get h1.next with
         |some (.loop lp)=>match lp.state with
          | .busy=>false
          |_=>k (lp.pending.getD .normal) a1 (h2.set h1.next (.loop {lp with state:=.exhausted}))
         |_=>false
       | .gI ch=>k (.panic ch) a1 h2
     match a.ro with
     |none=>go {a with defers:={target:=.collected h.next,args:= #[]}::a.defers} h.next (h.new (.jo true))
     |some l0=>match h.get l0 with
      |some (.loop r0)=>go a r0.defers h
      |_=>false
   |_=>false
 | .fail=>false
def FB(V:Env)(n:Nat):Ev:=
 Nat.rec (motive:=λ_=>Ev) ⟨λ_ _ _ _=>false,λ_ _ _=>false⟩ (λ_ E=>⟨Lb V E,PR V E⟩) n
def sI(P:Program)(cut:Nat->ak (iI->IH->ak (ae ah×Nat×Nat)))(memo:Nat->ak (iI->IH->ak (ah×IH))):Env:=
 {P,F:=λf=>match (Fy 100000 P.funcs.toList).get f with
   |some fn=>xS P fn
   |none=>none,cut,memo}
def uq:Nat->ak (iI->IH->ak (ae ah×Nat×Nat)):=λ_=>none
def sJ:Nat->ak (iI->IH->ak (ah×IH)):=λ_=>none
noncomputable abbrev mO(P:Program)(n:fO):ak iG:=(sI P uq sJ).F n
noncomputable def qI(P:Program)(n:fO):iG:=(mO P n).getD ⟨0,[],.skip⟩
def qo{P:Program}(n:fO)(h:(mO P n).isSome=true:=by kernel_rfl):(sI P uq sJ).F n=some (qI P n):=by
 unfold qI;revert h;show(mO P n).isSome=true->mO P n=some ((mO P n).getD ⟨0,[],.skip⟩);cases mO P n with
 |none=>intro h;cases h
 |some c=>intro _;rfl
end
end Go.Ideal
namespace Go.Ideal
section
variable {α:Type}
def T.Ik(n:Nat):(T.leaf:T α).get n=none:=rfl
def T.FC(v:ak α)(l r:T α):(T.node v l r).get 0=v:=rfl
def T.zf(v:ak α)(l r:T α)(m:Nat):(T.node v l r).get (m+1)=if m%2=0 then l.get (m/2)else r.get (m/2):=by
 show Bool.rec (motive:=λ_=>ak α) (r.get (m/2)) (l.get (m/2)) (Nat.beq (m%2) 0)=_;exact ju
def T.adT(f:Nat)(x:ak α):T.one (f+1) 0 x=.node x .leaf .leaf:=rfl
def T.adU(f m:Nat)(x:ak α):T.one (f+1) (m+1) x=if m%2=0 then .node none (T.one f (m/2) x) .leaf else .node none .leaf (T.one f (m/2) x):=by
 show Bool.rec (motive:=λ_=>T α) (.node none .leaf (T.one f (m/2) x)) (.node none (T.one f (m/2) x) .leaf) (Nat.beq (m%2) 0)=_;exact ju
def T.adV(n:Nat)(x:ak α):(T.leaf:T α).set n x=T.one (n+1) n x:=rfl
def T.adW(v:ak α)(l r:T α)(x:ak α):(T.node v l r).set 0 x=.node x l r:=rfl
def T.adX(v:ak α)(l r:T α)(m:Nat)(x:ak α):(T.node v l r).set (m+1) x=if m%2=0 then .node v (l.set (m/2) x) r else .node v l (r.set (m/2) x):=by
 show Bool.rec (motive:=λ_=>T α) (.node v l (r.set (m/2) x)) (.node v (l.set (m/2) x) r) (Nat.beq (m%2) 0)=_;exact ju
def T.adY(x:ak α):∀(f n m:Nat),n<f->(T.one f n x).get m=if m=n then x else none:=by
 intro f;induction f with
 |zero=>intro n m h;omega
 |succ f ih=>
  intro n m h;cases n with
  |zero=>
   rw[T.adT];cases m with
   |zero=>simp[T.FC]
   |succ m=>rw[T.zf];simp[T.Ik]
  |succ n=>
   rw[T.adU];by_cases hp:n%2=0
   .rw[if_pos hp];cases m with
    |zero=>simp[T.FC]
    |succ m=>
     rw[T.zf];by_cases hq:m%2=0
     .rw[if_pos hq,ih _ _ s6];exact fb
     .rw[if_neg hq,T.Ik,if_neg s6]
   .rw[if_neg hp];cases m with
    |zero=>simp[T.FC]
    |succ m=>
     rw[T.zf];by_cases hq:m%2=0
     .rw[if_pos hq,T.Ik,if_neg s6]
     .rw[if_neg hq,ih _ _ s6];exact fb
def T.nJ(x:ak α):∀(t:T α) (n m:Nat),(t.set n x).get m=if m=n then x else t.get m:=by
 intro t;induction t with
 |leaf=>intro n m;rw[T.adV,T.adY _ _ _ _ (zY n),T.Ik]
 |node v l r hl hr=>
  intro n m;cases n with
  |zero=>
   rw[T.adW];cases m with
   |zero=>simp[T.FC]
   |succ m=>rw[T.zf,T.zf];simp
  |succ n=>
   rw[T.adX];by_cases hp:n%2=0
   .rw[if_pos hp];cases m with
    |zero=>simp[T.FC]
    |succ m=>
     rw[T.zf,T.zf];by_cases hq:m%2=0
     .rw[if_pos hq,if_pos hq,hl];exact fb
     .rw[if_neg hq,if_neg hq,if_neg s6]
   .rw[if_neg hp];cases m with
    |zero=>simp[T.FC]
    |succ m=>
     rw[T.zf,T.zf];by_cases hq:m%2=0
     .rw[if_pos hq,if_pos hq,if_neg s6]
     .rw[if_neg hq,if_neg hq,hr];exact fb
end
def IH.nJ(h:IH)(i j:Nat)(o:dL):(h.set i o).get j=if j=i then some o else h.get j:=T.nJ _ _ _ _
def IH.uu(h:IH)(i j:Nat):(h.kill i).get j=if j=i then none else h.get j:=T.nJ _ _ _ _
def IH.jq(h:IH)(j:Nat)(o:dL):(h.new o).get j=if j=h.next then some o else h.get j:=T.nJ _ _ _ _
def IH.Il(h:IH)(i:Nat):(h.kill i).next=h.next:=rfl
def IH.Lc(h:IH)(o:dL):(h.new o).next=h.next+1:=rfl
def IH.Im(h:IH)(o:dL):(h.new o).low=h.low:=rfl
def IH.FD(h:IH)(i:Nat)(o:dL):(h.set i o).low=min h.low i:=by
 exact fN
def IH.Aq(h:IH)(i:Nat):(h.kill i).low=min h.low i:=by
 exact fN
def FE(t:T ah)(i j:Nat)(v:ah):dS (t.set i (some v)) j=if j=i then v else dS t j:=by
 unfold dS;rw[T.nJ];split<;>rfl
section
variable {α β:Type}
def zg(f:α->β)(l:ae α):nZ f l=l.map f:=by
 induction l with
 |nil=>rfl
 |cons x l ih=>show f x::nZ f l=_;rw[ih];rfl
def uw(l:ae α)(n:Nat):lC l n=l[n]?:=by
 induction l generalizing n with
 |nil=>rfl
 |cons x l ih=>cases n with
  |zero=>rfl
  |succ n=>show lC l n=_;rw[ih];simp
def qp(l:ae α)(n:Nat):kw l n=l.drop n:=by
 induction l generalizing n with
 |nil=>cases n<;>rfl
 |cons x l ih=>cases n with
  |zero=>rfl
  |succ n=>show kw l n=_;rw[ih];simp
def xV(l:ae α):jh l=l.length:=by
 induction l with
 |nil=>rfl
 |cons x l ih=>show jh l+1=_;rw[ih];rfl
def jW(l r:ae α):lM l r=l++r:=by
 induction l with
 |nil=>rfl
 |cons x l ih=>show x::lM l r=_;rw[ih];rfl
def qJ(l:ae α)(n:Nat):jM l n=if n<=l.length then some (l.take n)else none:=by
 induction l generalizing n with
 |nil=>cases n<;>rfl
 |cons x l ih=>cases n with
  |zero=>rfl
  |succ n=>
   show Option.rec (motive:=λ_=>ak (ae α)) none (λr=>some (x::r)) (jM l n)=_;rw[ih];by_cases h:n<=l.length
   .rw[if_pos h,if_pos tf];rfl
   .rw[if_neg h,if_neg tf]
def Wt(p:α->Bool)(l:ae α):KY p l=l.all p:=by
 induction l with
 |nil=>rfl
 |cons x l ih=>
  show Bool.rec (motive:=λ_=>Bool) false (KY p l) (p x)=_;rw[ih];cases h:p x<;>simp[h]
def Wu(o:Nat)(xs:ae α):jH [] o xs=if xs=[]/\o=0 then some []else none:=by cases xs<;>cases o<;>rfl
def Wv(c:α)(l:ae α):jH (c::l) 0 []=some (c::l):=rfl
def Ld(c:α)(l:ae α)(x:α)(xs:ae α):jH (c::l) 0 (x::xs)=(jH l 0 xs).map (x::·):=by
 show Option.rec (motive:=λ_=>ak (ae α)) none (λr=>some (x::r)) (jH l 0 xs)=_;cases jH l 0 xs<;>rfl
def PS(c:α)(l:ae α)(o:Nat)(xs:ae α):jH (c::l) (o+1) xs=(jH l o xs).map (c::·):=by
 show Option.rec (motive:=λ_=>ak (ae α)) none (λr=>some (c::r)) (jH l o xs)=_;cases jH l o xs<;>rfl
def D5{l:ae α}:∀{o:Nat} {xs r:ae α},jH l o xs=some r->
 o+xs.length<=l.length/\r.length=l.length/\∀j:Nat,r[j]? =if o<=j/\j<o+xs.length then xs[j - o]? else l[j]?:=by
 induction l with
 |nil=>
  intro o xs r h;rw[Wu]at h;split at h
  .rename_i he;obtain⟨rfl,rfl⟩:=he;cases h;refine⟨s7,rfl,λj=>?_⟩;rw[if_neg s7]
  .cases h
 |cons c l ih=>
  intro o xs r h;cases o with
  |zero=>
   cases xs with
   |nil=>rw[Wv]at h;cases h;refine⟨s7,rfl,λj=>?_⟩;rw[if_neg s7]
   |cons x xs=>
    rw[Ld]at h;cases hr:jH l 0 xs with
    |none=>rw[hr]at h;cases h
    |some r'=>
     rw[hr]at h;cases h;obtain⟨h1,h2,h3⟩:=ih hr;refine⟨by simp at h1⊢;omega,by simp[h2],λj=>?_⟩
     .cases j with
      |zero=>simp
      |succ j=>have:=h3 j;simp at this⊢;rw[this]
  |succ o=>
   rw[PS]at h;cases hr:jH l o xs with
   |none=>rw[hr]at h;cases h
   |some r'=>
    rw[hr]at h;cases h;obtain⟨h1,h2,h3⟩:=ih hr;refine⟨by simp;omega,by simp[h2],λj=>?_⟩
    .cases j with
     |zero=>simp
     |succ j=>
      have:=h3 j;simp only[uf];rw[this];by_cases hc:o<=j/\j<o+xs.length
      .rw[if_pos hc,if_pos s6];congr 1;omega
      .rw[if_neg hc,if_neg s6]
def Ww(f:α->α)(l:ae α)(n:Nat):setAt f l n=l.modify n f:=by
 induction l generalizing n with
 |nil=>cases n<;>rfl
 |cons x l ih=>cases n with
  |zero=>rfl
  |succ n=>show x::setAt f l n=_;rw[ih];simp
end
def zeros_length(z:ae ah)(n:Nat):(zeros z n).length=n*z.length:=by
 induction n with
 |zero=>simp;rfl
 |succ n ih=>show(lM z (zeros z n)).length=_;rw[jW,eF,ih,Nat.succ_mul,Nat.add_comm]
structure je where
 b:Nat
 off:Nat
 len:Nat
 top:Nat
 sz:Nat
abbrev aJ:=Nat->ak je
inductive FR(β:aJ):Fn->Fn->Prop
 |func (f:FuncId):FR β (.func f) (.func f)
 |method (n:String):FR β (.method n) (.method n)
 |methodOf (t:TypeId) (n:String):FR β (.methodOf t n) (.methodOf t n)
 |yield {l:Nat} {g:je} (h:β l=some g):FR β (.yield l) (.yield g.b)
mutual
inductive VR(β:aJ):Value->Value->Prop
 |dX (v:Value):VR β (.tuple #[]) v
 |skip:VR β (.chan (some 0)) (.tuple #[])
 |bool (b:Bool):VR β (.bool b) (.bool b)
 |int (k:IntKind) (n:Int):VR β (.int k n) (.int k n)
 |float (k:FloatKind) (n:Nat):VR β (.float k n) (.float k n)
 |complex (k:FloatKind) (n m:Nat):VR β (.complex k n m) (.complex k n m)
 |string (s:ByteArray):VR β (.string s) (.string s)
 |nilFunc:VR β .nilFunc .nilFunc
 |nilIface:VR β .nilIface .nilIface
 |Ce:VR β (.pointer none) (.pointer none)
 |ptr {i o:Nat} {g:je} (h:β i=some g):VR β (.pointer (some ⟨i,o,none⟩)) (.pointer (some ⟨g.b,g.off+o,none⟩))
 |sl0 (n c:Nat):VR β (.slice none n c) (.slice none n c)
 |az {i o n c:Nat} {g:je} {a:Addr} (h:β i=some g) (hb:a.block=g.b) (hn:n<=c) (ha:c=0\/(a.off=g.off+o/\a.spot=none)):
   VR β (.slice (some ⟨i,o,some 0⟩) n c) (.slice (some a) n c)
 |pW {i o n c c':Nat} {g:je} {a:Addr} (h:β i=some g) (hb:a.block=g.b) (hs:a.spot=none) (hn:n<=c) (hz:0<g.sz)
   (hl:o+c*g.sz=g.len) (ht:g.off+o+c'*g.sz=g.top) (hc:c<=c') (ha:c'=0\/a.off=g.off+o):
   VR β (.slice (some ⟨i,o,some g.sz⟩) n c) (.slice (some a) n c')
 |Ar:VR β (.map none) (.map none)
 |map {i:Nat} {g:je} (h:β i=some g):VR β (.map (some i)) (.map (some g.b))
 |func {fn fn':Fn} {f f' c c':List Value} (h:FR β fn fn') (hf:aW β f f') (hc:aW β c c'):VR β (.func fn ⟨f⟩ ⟨c⟩) (.func fn' ⟨f'⟩ ⟨c'⟩)
 |iface (t:TypeId) {v v':Value} (h:VR β v v'):VR β (.iface t v) (.iface t v')
 |agg {l l':List Value} (hc:l.all cellV=true) (h:aW β l l'):VR β (.agg ⟨l⟩) (.agg ⟨l'⟩)
 |tuple {l l':List Value} (h:aW β l l'):VR β (.tuple ⟨l⟩) (.tuple ⟨l'⟩)
inductive aW(β:aJ):List Value->List Value->Prop
 |nil:aW β [] []
 |cons {v v':Value} {l l':List Value} (h:VR β v v') (hl:aW β l l'):aW β (v::l) (v'::l')
end
def aJ.le(β β':aJ):Prop:=∀i g,β i=some g->β' i=some g
def FR.mono{β β':aJ}(h:β.le β'){f f':Fn}(hf:FR β f f'):FR β' f f':=by
 cases hf with
 |func f=>exact .func f
 |method n=>exact .method n
 |methodOf t n=>exact .methodOf t n
 |yield hl=>exact .yield (h _ _ hl)
mutual
def VR.mono{β β':aJ}(h:β.le β'):∀{v v':ah},VR β v v'->VR β' v v'
 |_,_,.dX v=>.dX v
 |_,_,.skip=>.skip
 |_,_,.bool b=>.bool b
 |_,_,.int k n=>.int k n
 |_,_,.float k n=>.float k n
 |_,_,.complex k n m=>.complex k n m
 |_,_,.string s=>.string s
 |_,_,.nilFunc=>.nilFunc
 |_,_,.nilIface=>.nilIface
 |_,_,.Ce=>.Ce
 |_,_,.ptr hi=>.ptr (h _ _ hi)
 |_,_,.sl0 n c=>.sl0 n c
 |_,_,.az hi hb hn ha=>.az (h _ _ hi) hb hn ha
 |_,_,.pW hi hb hs hn hz hl ht hc ha=>.pW (h _ _ hi) hb hs hn hz hl ht hc ha
 |_,_,.Ar=>.Ar
 |_,_,.map hi=>.map (h _ _ hi)
 |_,_,.func hf h1 h2=>.func (hf.mono h) (aW.mono h h1) (aW.mono h h2)
 |_,_,.iface t hv=>.iface t (VR.mono h hv)
 |_,_,.agg hc hl=>.agg hc (aW.mono h hl)
 |_,_,.tuple hl=>.tuple (aW.mono h hl)
def aW.mono{β β':aJ}(h:β.le β'):∀{v v':ae ah},aW β v v'->aW β' v v'
 |_,_,.nil=>.nil
 |_,_,.cons hv hl=>.cons (VR.mono h hv) (aW.mono h hl)
end
def aW.length{β:aJ}{l l':ae ah}(h:aW β l l'):l'.length=l.length:=by
 induction l generalizing l' with
 |nil=>cases h;rfl
 |cons v l ih=>cases h with|cons hv hl=>simp[ih hl]
def aW.get{β:aJ}{l l':ae ah}(h:aW β l l'){i:Nat}{v:ah}(hi:l[i]? =some v):∃v',l'[i]? =some v'/\VR β v v':=by
 induction l generalizing l' i with
 |nil=>simp at hi
 |cons x l ih=>
  cases h with
  |cons hv hl=>
   cases i with
   |zero=>simp at hi;subst hi;exact⟨_,s7,hv⟩
   |succ i=>simp at hi;obtain⟨v',h1,h2⟩:=ih hl hi;exact⟨v',by simpa using h1,h2⟩
def aW.Lf{β:aJ}{l l':ae ah}(hlen:l'.length=l.length)(h:∀(i:Nat) (v:ah),l[i]? =some v->∃v',l'[i]? =some v'/\VR β v v'):aW β l l':=by
 induction l generalizing l' with
 |nil=>cases l' with|nil=>exact .nil|cons x l'=>simp at hlen
 |cons x l ih=>
  cases l' with
  |nil=>simp at hlen
  |cons y l'=>
   refine .cons ?_ (ih (by simpa using hlen) λi v hi=>?_)
   .obtain⟨v',h1,h2⟩:=h 0 x s7;simp at h1;subst h1;exact h2
   .obtain⟨v',h1,h2⟩:=h (i+1) v AG;exact⟨v',by simpa using h1,h2⟩
def aW.append{β:aJ}{l l' r r':ae ah}(h:aW β l l')(k:aW β r r'):aW β (l++r) (l'++r'):=by
 induction l generalizing l' with
 |nil=>cases h;exact k
 |cons x l ih=>cases h with|cons hv hl=>exact .cons hv (ih hl)
def aW.take{β:aJ}{l l':ae ah}(h:aW β l l')(n:Nat):aW β (l.take n) (l'.take n):=by
 induction l generalizing l' n with
 |nil=>cases h;simp;exact .nil
 |cons x l ih=>cases h with|cons hv hl=>cases n with
  |zero=>exact .nil
  |succ n=>exact .cons hv (ih hl n)
def aW.drop{β:aJ}{l l':ae ah}(h:aW β l l')(n:Nat):aW β (l.drop n) (l'.drop n):=by
 induction l generalizing l' n with
 |nil=>cases h;simp;exact .nil
 |cons x l ih=>cases h with|cons hv hl=>cases n with
  |zero=>exact .cons hv hl
  |succ n=>exact ih hl n
def aW.map{β:aJ}{γ:Type}{f f':γ->ah}(l:ae γ)(h:∀x∈l,VR β (f x) (f' x)):aW β (l.map f) (l.map f'):=by
 exact kq
mutual
def VR.free{β:aJ}:∀{v:ah},dG v=true->VR β v v
 | .bool b,_=>.bool b
 | .int k n,_=>.int k n
 | .float k n,_=>.float k n
 | .complex k n m,_=>.complex k n m
 | .string s,_=>.string s
 | .nilFunc,_=>.nilFunc
 | .nilIface,_=>.nilIface
 | .pointer none,_=>.Ce
 | .pointer (some a),h=>by simp[dG]at h
 | .slice none n c,_=>.sl0 n c
 | .slice (some a) n c,h=>by simp[dG]at h
 | .map none,_=>.Ar
 | .map (some r),h=>by simp[dG]at h
 | .chan r,h=>by simp[dG]at h
 | .func _ _ _,h=>by simp[dG]at h
 | .iface t v,h=>.iface t (VR.free (by simp[dG]at h;exact h.1))
 | .agg ⟨l⟩,h=>.agg (xW AH) (aW.free AH)
 | .tuple _,h=>by simp[dG]at h
def aW.free{β:aJ}:∀{l:ae ah},iU l=true->aW β l l
 |[],_=>.nil
 |v::l,h=>.cons (VR.free (by simp[iU]at h;exact h.1.1)) (aW.free (by simp[iU]at h;exact h.2))
def xW:∀{l:ae ah},iU l=true->l.all cellV=true
 |[],_=>rfl
 |v::l,h=>by simp[iU]at h;simp only[Pb,h.1.2,Bool.true_and];exact xW h.2
end
mutual
def VR.rM{β:aJ}:∀{v v':ah},VR β v v'->dG v=true->v'=v
 |_,_,.bool b,_=>rfl
 |_,_,.int k n,_=>rfl
 |_,_,.float k n,_=>rfl
 |_,_,.complex k n m,_=>rfl
 |_,_,.string s,_=>rfl
 |_,_,.nilFunc,_=>rfl
 |_,_,.nilIface,_=>rfl
 |_,_,.Ce,_=>rfl
 |_,_,.sl0 n c,_=>rfl
 |_,_,.Ar,_=>rfl
 |_,_,.iface t hv,h=>by rw[VR.rM hv (by simp[dG]at h;exact h.1)]
 |_,_,.agg hc hl,h=>by rw[aW.rM hl AH]
 |_,_,.dX v,h=>by simp[dG]at h
 |_,_,.skip,h=>by simp[dG]at h
 |_,_,.ptr _,h=>by simp[dG]at h
 |_,_,.az _ _ _ _,h=>by simp[dG]at h
 |_,_,.pW _ _ _ _ _ _ _ _ _,h=>by simp[dG]at h
 |_,_,.map _,h=>by simp[dG]at h
 |_,_,.func _ _ _,h=>by simp[dG]at h
 |_,_,.tuple _,h=>by simp[dG]at h
def aW.rM{β:aJ}:∀{l l':ae ah},aW β l l'->iU l=true->l'=l
 |_,_,.nil,_=>rfl
 |_,_,.cons hv hl,h=>by
  simp[iU]at h;rw[VR.rM hv h.1.1,aW.rM hl h.2]
end
def Cf{α:Type}{P:Program}{s:Sem α}{x:α}(h:dK P s=some x)(w:World):s.run P w=.ok x w:=by
 induction s with
 |pure a=>simp[dK]at h;subst h;rfl
 |program k ih=>simp only[dK]at h;simp only[Sem.run];exact ih _ h
 |mark m k ih=>simp only[dK]at h;simp only[Sem.run];exact ih h
 |_=>simp[dK]at h
def VR.cells{β:aJ}{v v':ah}{cs:ae ah}(h:VR β v v')(hc:cellsOf v=some cs):cs.all cellV=true/\∃cs',v'.cells=⟨cs'⟩/\aW β cs cs':=by
 cases h<;>simp only[cellsOf,aN,reduceCtorEq]at hc<;>try subst hc
 case agg hc' hl=>exact⟨hc',_,rfl,hl⟩
 all_goals exact⟨rfl,_,rfl,.cons (by constructor<;>assumption) .nil⟩
def VR.cellV{β:aJ}{v v':ah}(h:VR β v v')(hc:cellV v=true):(∀cs,v'≠.agg cs)/\(∀cs,v'≠.tuple cs):=by
 cases h<;>simp_all [Ideal.cellV]
inductive gY(β:aJ):List MapEntry->List MapEntry->Prop
 |nil:gY β [] []
 |cons {e e':MapEntry} {l l':List MapEntry} (hk:e'.key=e.key) (hf:dG e.key=true) (hb:e'.born=e.born) (hv:VR β e.val e'.val) (hl:gY β l l'):gY β (e::l) (e'::l')
def Wx:Out->ak Code
 | .normal=>none
 | .exit id=>some (.exit id)
 | .ret=>some .ret
 | .panic _=>none
structure LR(P:Program)(β:aJ)(r:pz)(r':Loop):Prop where
 state:r'.state=r.state
 pending:r'.pending=r.pending.bind Wx
 Io:∀ch,r.pending≠some (.panic ch)
 size:r'.tmps.size=r.n
 tmps:∀i,VR β (dS r.tmps i) (r'.tmps.getD i undef)
 out:∀i,r.n<=i->dS r.tmps i=dX
 params:r'.params.toList=r.params
 assign:compile P r'.assign=r.assign
 body:compile P r'.body=r.body
 defers:∃g,β r.defers=some g/\r'.defers=g.b
 FH:∃f,P.funcs[r'.fn]? =some f
def OR(P:Program)(β:aJ)(g:je)(w:World):dL->Prop
 | .cells cs=>(∃c t fz,w.heap[g.b]? =some (.cells c t fz)/\¬(fz.1<=c.size/\c.size<fz.2))/\cs.length=g.len/\g.off+g.len<=g.top/\
    (∀j,j<g.top->(w.cell? ⟨g.b,j,none⟩).isSome=true/\w.frozen? ⟨g.b,j,none⟩=false)/\
    cs.all cellV=true/\∀(j:Nat) v,cs[j]? =some v->∃v',w.cell? ⟨g.b,g.off+j,none⟩=some v'/\VR β v v'
 | .jV cs=>(∃c t fz,w.heap[g.b]? =some (.cells c t fz)/\(g.top=0\/c.size=g.top))/\g.sz=0/\cs.all cellV=true/\∀(j:Nat) v,cs[j]? =some v->∃v',w.cell? ⟨g.b,g.off+j,none⟩=some v'/\VR β v v'
 | .map es clock=>∃es',w.heap[g.b]? =some (.map es' clock)/\gY β es es'.toList
 | .DL s pos=>w.heap[g.b]? =some (.stringIter s pos)/\g.off=0
 | .mapIter m since seen stepped=>∃m' seen',w.heap[g.b]? =some (.mapIter m' since seen' stepped)/\seen'.toList=seen/\VR β (.map m) (.map m')/\g.off=0
 | .loop r=>∃r',w.heap[g.b]? =some (.loop r')/\LR P β r r'
 | .jo b=>w.heap[g.b]? =some (.deferred (if b then some []else none))
structure WR(P:Program)(β:aJ)(h:IH)(w:World):Prop where
 dom:∀i g,β i=some g->i<h.next
 live:∀i o,h.get i=some o->i<h.next
 obj:∀i g o,β i=some g->h.get i=some o->OR P β g w o
 inj:∀i j g k,β i=some g->β j=some k->h.get i≠none->h.get j≠none->((∀cs,h.get i≠some (.jV cs))\/∀cs,h.get j≠some (.jV cs))->g.b=k.b->i=j
structure Eff(β:aJ)(h:IH)(w:World)(β':aJ)(h':IH)(w':World):Prop where
 agree:∀i,i<h.next->β' i=β i
 next:h.next<=h'.next
 alive:∀i,i<h.next->h'.get i≠none->h.get i≠none
 hid:∀i,i<h.next->β i=none->h'.get i=h.get i
 low:h'.low<=h.low
 kept:∀i,i<h'.low->i<h.next->h'.get i=h.get i
 os:w'.os=w.os
 tape:w'.tape=w.tape
 output:w'.output=w.output
 size:w.heap.size<=w'.heap.size
 keep:∀b,b<w.heap.size->(∀i g,β i=some g->h.get i≠none->g.b≠b)->w'.heap[b]? =w.heap[b]?
 fresh:∀i g,β' i=some g->h.next<=i->w.heap.size<=g.b\/∃j k,β j=some k/\h.get j≠none/\k.b=g.b
 vD:∀i g,i<h'.low->i<h.next->β i=some g->h.get i≠none->g.b<w.heap.size->w'.heap[g.b]? =w.heap[g.b]?
 drawn:w.drawn<=w'.drawn
def Eff.refl(β:aJ)(h:IH)(w:World)(hd:∀i g,β i=some g->i<h.next):Eff β h w β h w:=
 ⟨λ_ _=>rfl,aZ _,λ_ _ h=>h,λ_ _ _=>rfl,aZ _,λ_ _ _=>rfl,rfl,rfl,rfl,aZ _,λ_ _ _=>rfl,
  λi g hg hi=>absurd (hd i g hg) s6,λ_ _ _ _ _ _ _=>rfl,aZ _⟩
def Eff.le{β β':aJ}{h h':IH}{w w':World}(e:Eff β h w β' h' w')(hd:∀i g,β i=some g->i<h.next):β.le β':=
 λi g hg=>(e.agree i (hd i g hg)).trans hg
def Eff.trans{β β1 β2:aJ}{h h1 h2:IH}{w w1 w2:World}(e:Eff β h w β1 h1 w1)(f:Eff β1 h1 w1 β2 h2 w2):Eff β h w β2 h2 w2 where
 agree i hi:=(f.agree i (pu hi e.next)).trans (e.agree i hi)
 vD i g hl hi hg hn hb:=(f.vD i g hl (pu hi e.next) ((e.agree i hi).trans hg) (by rw[e.kept i (pu hl f.low) hi];exact hn) (pu hb e.size)).trans
  (e.vD i g (pu hl f.low) hi hg hn hb)
 next:=oH e.next f.next
 drawn:=oH e.drawn f.drawn
 alive i hi hn:=e.alive i hi (f.alive i (pu hi e.next) hn)
 hid i hi hb:=(f.hid i (pu hi e.next) ((e.agree i hi).trans hb)).trans (e.hid i hi hb)
 low:=oH f.low e.low
 kept i hl hi:=(f.kept i hl (pu hi e.next)).trans (e.kept i (pu hl f.low) hi)
 os:=f.os.trans e.os
 tape:=f.tape.trans e.tape
 output:=f.output.trans e.output
 size:=oH e.size f.size
 keep b hb hno:=by
  refine(f.keep b (pu hb e.size) λi g hg hn he=>?_).trans (e.keep b hb hno);by_cases hi:i<h.next
  .exact hno i g (by rw[<- e.agree i hi];exact hg) (e.alive i hi hn) he
  .rcases e.fresh i g hg (s6)with hf|⟨j,k,hk,hj,hkb⟩
   .omega
   .exact hno j k hk hj (hkb.trans he)
 fresh i g hg hi:=by
  by_cases hi1:i<h1.next
  .exact e.fresh i g (by rw[<- f.agree i hi1];exact hg) hi
  .rcases f.fresh i g hg (s6)with hf|⟨j,k,hk,hj,hkb⟩
   .exact .inl (oH e.size hf)
   .by_cases hjn:j<h.next
    .exact .inr ⟨j,k,by rw[<- e.agree j hjn];exact hk,e.alive j hjn hj,hkb⟩
    .rcases e.fresh j k hk (s6)with hf'|⟨j',k',hk',hj',hkb'⟩
     .exact .inl (hkb▸hf')
     .exact .inr ⟨j',k',hk',hj',hkb'.trans hkb⟩
end Go.Ideal
namespace Go.Ideal
variable {P:Program}
variable{β β':aJ}
def gY.mono(h:β.le β'){l l':ae MapEntry}(he:gY β l l'):gY β' l l':=by
 induction he with
 |nil=>exact .nil
 |cons hk hf hb hv _ ih=>exact .cons hk hf hb (hv.mono h) ih
def LR.mono(h:β.le β'){r:pz}{r':Loop}(k:LR P β r r'):LR P β' r r':=
 ⟨k.state,k.pending,k.Io,k.size,λi=>(k.tmps i).mono h,k.out,k.params,k.assign,k.body,let⟨g,h1,h2⟩:=k.defers;⟨g,h _ _ h1,h2⟩,k.FH⟩
def OR.mono(h:β.le β'){g:je}{w:World}{o:dL}(k:OR P β g w o):OR P β' g w o:=by
 cases o with
 |cells cs=>
  obtain⟨h1,h2,h3,h5,h6,h7⟩:=k;exact⟨h1,h2,h3,h5,h6,λj v hj=>let⟨v',a,b⟩:=h7 j v hj;⟨v',a,b.mono h⟩⟩
 |jV cs=>obtain⟨h1,h2,h6,h7⟩:=k;exact⟨h1,h2,h6,λj v hj=>let⟨v',a,b⟩:=h7 j v hj;⟨v',a,b.mono h⟩⟩
 |map es clock=>obtain⟨es',h1,h2⟩:=k;exact⟨es',h1,h2.mono h⟩
 |DL s pos=>exact k
 |mapIter m since seen stepped=>obtain⟨m',seen',h1,h2,h3,h4⟩:=k;exact⟨m',seen',h1,h2,h3.mono h,h4⟩
 |loop r=>obtain⟨r',h1,h2⟩:=k;exact⟨r',h1,h2.mono h⟩
 |jo b=>exact k
variable{g:je}{w:World}{o:dL}
def OR.congr{w':World}(hw:w'.heap[g.b]? =w.heap[g.b]?)(k:OR P β g w o):OR P β g w' o:=by
 have hc:∀j,w'.cell? ⟨g.b,j,none⟩=w.cell? ⟨g.b,j,none⟩:=λj=>World.cell?_of_block hw;have hf:∀j,w'.frozen? ⟨g.b,j,none⟩=w.frozen? ⟨g.b,j,none⟩:=λj=>World.frozen?_of_block hw;cases o<;>simp only[OR,hw,hc,hf]at *<;>exact k
def OR.lt(k:OR P β g w o):g.b<w.heap.size:=by
 have:w.heap[g.b]?≠none:=by
  cases o with
  |cells cs=>obtain⟨⟨c,t,fz,h1,_⟩,_⟩:=k;rw[h1];simp
  |jV cs=>obtain⟨⟨c,t,fz,h1,_⟩,_⟩:=k;rw[h1];simp
  |map es clock=>obtain⟨es',h1,_⟩:=k;rw[h1];simp
  |DL s pos=>have h1:=k.1;rw[h1];simp
  |mapIter m since seen stepped=>obtain⟨m',seen',h1,_⟩:=k;rw[h1];simp
  |loop r=>obtain⟨r',h1,_⟩:=k;rw[h1];simp
  |jo b=>have h1:w.heap[g.b]? =_:=k;rw[h1];simp
 rcases uW g.b w.heap.size with h|h
 .exact h
 .exact absurd (uX h) this
def aJ.add(β:aJ)(i:Nat)(g:je):aJ:=λj=>if j=i then some g else β j
def aJ.l8(β:aJ)(i:Nat)(g:je):β.add i g i=some g:=by simp[aJ.add]
def aJ.nK(β:aJ){i j:Nat}(g:je)(h:j≠i):β.add i g j=β j:=by simp[aJ.add,h]
def aJ.xX{i:Nat}(g:je)(h:β i=none):β.le (β.add i g):=λj k hj=>by
 by_cases e:j=i
 .subst e;rw[h]at hj;cases hj
 .rw[aJ.nK _ _ e];exact hj
section
variable {β:aJ} {h:IH} {w:World}
def WR.zh(hW:WR P β h w):β h.next=none:=by
 cases hb:β h.next with
 |none=>rfl
 |some g=>exact absurd (hW.dom _ _ hb) (Pd _)
variable{w':World}
def WR.qK(hW:WR P β h w)(hh:w'.heap=w.heap):WR P β h w':=
 ⟨hW.dom,hW.live,λi g o h1 h2=>(hW.obj i g o h1 h2).congr (by rw[hh]),hW.inj⟩
def Eff.qK(hd:∀i g,β i=some g->i<h.next)(h1:w'.heap=w.heap)(h2:w'.os=w.os)(h3:w'.tape=w.tape)(h4:w'.output=w.output)(h5:w.drawn<=w'.drawn:=by first|exact aZ _|exact Dw _|fail):Eff β h w β h w':=
 ⟨λ_ _=>rfl,aZ _,λ_ _ h=>h,λ_ _ _=>rfl,aZ _,λ_ _ _=>rfl,h2,h3,h4,by rw[h1];exact aZ _,λ_ _ _=>by rw[h1],
  λi g hg hi=>absurd (hd i g hg) s6,λ_ _ _ _ _ _ _=>by rw[h1],h5⟩
def WR.alloc(hW:WR P β h w)(o:dL)(o':Obj)(g:je)(hg:g.b=w.heap.size){w1:World}(hw1:w1={w with heap:=w.heap.push o'})
 (ho:OR P (β.add h.next g) g w1 o):WR P (β.add h.next g) (h.new o) w1/\Eff β h w (β.add h.next g) (h.new o) w1:=by
 have hle:β.le (β.add h.next g):=aJ.xX g hW.zh;have hheap:∀b,b<w.heap.size->w1.heap[b]? =w.heap[b]?:=λb hb=>by
  subst hw1;simp only[KF];rw[if_neg s6]
 refine⟨⟨?_,?_,?_,?_⟩,⟨?_,?_,?_,?_,?_,?_,?_,?_,?_,?_,?_,?_,λ_ _ _ _ _ _ hb=>hheap _ hb,by subst hw1;exact aZ _⟩⟩
 .intro i k hk;rw[IH.Lc];by_cases e:i=h.next
  .omega
  .rw[aJ.nK _ _ e]at hk;have:=hW.dom _ _ hk;omega
 .intro i x hx;rw[IH.Lc];rw[IH.jq]at hx;split at hx
  .omega
  .have:=hW.live _ _ hx;omega
 .intro i k x hk hx;rw[IH.jq]at hx;by_cases e:i=h.next
  .subst e;rw[aJ.l8]at hk;exact nF
  .rw[aJ.nK _ _ e]at hk;rw[if_neg e]at hx;have:=hW.obj _ _ _ hk hx;exact(this.mono hle).congr (hheap _ this.lt)
 .intro i j k l hk hl hi hj hr he;rw[IH.jq]at hi hj;by_cases ei:i=h.next
  .by_cases ej:j=h.next
   .omega
   .rw[aJ.nK _ _ ej]at hl;rw[if_neg ej]at hj;subst ei;rw[aJ.l8]at hk;cases hk;cases hx:h.get j with
    |none=>exact absurd hx hj
    |some x=>have:=(hW.obj _ _ _ hl hx).lt;omega
  .rw[aJ.nK _ _ ei]at hk;rw[if_neg ei]at hi;by_cases ej:j=h.next
   .subst ej;rw[aJ.l8]at hl;cases hl;cases hx:h.get i with
    |none=>exact absurd hx hi
    |some x=>have:=(hW.obj _ _ _ hk hx).lt;omega
   .rw[aJ.nK _ _ ej]at hl;rw[if_neg ej]at hj;exact hW.inj _ _ _ _ hk hl hi hj (hr.imp (λq cs e=>q cs (by rw[IH.jq,if_neg ei];exact e)) (λq cs e=>q cs (by rw[IH.jq,if_neg ej];exact e))) he
 .intro i hi;exact aJ.nK _ _ s6
 .rw[IH.Lc];omega
 .intro i hi hn;rw[IH.jq,if_neg s6]at hn;exact hn
 .intro i hi _;rw[IH.jq,if_neg s6]
 .exact aZ _
 .intro i _ hi;rw[IH.jq,if_neg s6]
 .subst hw1;rfl
 .subst hw1;rfl
 .subst hw1;rfl
 .subst hw1;simp
 .intro b hb _;exact hheap b hb
 .intro i k hk hi;by_cases e:i=h.next
  .subst e;rw[aJ.l8]at hk;cases hk;exact .inl s6
  .rw[aJ.nK _ _ e]at hk;exact lB
def WR.write(hW:WR P β h w){i:Nat}{g:je}(hi:β i=some g){o0:dL}(h0:h.get i=some o0)(o:dL){w1:World}
 (hsz:w1.heap.size=w.heap.size) (hheap:∀b,b≠g.b->w1.heap[b]? =w.heap[b]?) (hos:w1.os=w.os) (D6:w1.tape=w.tape) (hout:w1.output=w.output) (hdr:w.drawn<=w1.drawn)
 (ho:OR P β g w1 o) (hnr:∀cs,o0≠.jV cs:=by intro cs e;cases e):WR P β (h.set i o) w1/\Eff β h w β (h.set i o) w1:=by
 have hni:∀cs,h.get i≠some (.jV cs):=λcs e=>hnr cs (by rw[h0]at e;exact Option.some.inj e);refine⟨⟨?_,?_,?_,?_⟩,⟨?_,?_,?_,?_,?_,?_,hos,D6,hout,?_,?_,?_,?_,hdr⟩⟩
 .exact hW.dom
 .intro j x hx;rw[IH.nJ]at hx;split at hx
  .subst_vars;exact hW.live _ _ h0
  .exact hW.live _ _ hx
 .intro j k x hk hx;rw[IH.nJ]at hx;by_cases e:j=i
  .subst e;rw[hi]at hk;exact nF
  .rw[if_neg e]at hx;refine(hW.obj _ _ _ hk hx).congr (hheap _ λhe=>e ?_);exact hW.inj _ _ _ _ hk hi (by rw[hx];simp) (by rw[h0];simp) (.inr hni) he
 .intro j l k m hk hm hj hl hr he;have pass:∀x,(∀cs,(h.set i o).get x≠some (.jV cs))->∀cs,h.get x≠some (.jV cs):=λx q cs e=>by
   by_cases ex:x=i
   .subst ex;exact hni cs e
   .exact q cs (by rw[IH.nJ,if_neg ex];exact e)
  refine hW.inj _ _ _ _ hk hm ?_ ?_ (hr.imp (pass _) (pass _)) he
  .rw[IH.nJ]at hj;split at hj
   .subst_vars;rw[h0];simp
   .exact hj
  .rw[IH.nJ]at hl;split at hl
   .subst_vars;rw[h0];simp
   .exact hl
 .intro _ _;rfl
 .exact aZ _
 .intro j hj hn;rw[IH.nJ]at hn;split at hn
  .subst_vars;rw[h0];simp
  .exact hn
 .intro j hj hb;rw[IH.nJ,if_neg];exact pH
 .rw[IH.FD];omega
 .intro j hl hj;rw[IH.FD]at hl;rw[IH.nJ,if_neg s6]
 .omega
 .intro b hb hno;refine hheap b λe=>hno i g hi (by rw[h0];simp) e.symm
 .intro j k hk hj;exact lB
 .intro j k hl hj hk hn hb;rw[IH.FD]at hl;refine hheap _ λhe=>?_;have:=hW.inj _ _ _ _ hk hi hn (by rw[h0];simp) (.inr hni) he;omega
def WR.drop(hW:WR P β h w){i:Nat}{g:je}(hi:β i=some g):WR P β (h.kill i) w/\Eff β h w β (h.kill i) w:=by
 refine⟨⟨hW.dom,?_,?_,?_⟩,⟨?_,?_,?_,?_,?_,?_,rfl,rfl,rfl,aZ _,λ_ _ _=>rfl,?_,λ_ _ _ _ _ _ _=>rfl,aZ _⟩⟩
 .intro j x hx;rw[IH.uu]at hx;split at hx
  .cases hx
  .exact hW.live _ _ hx
 .intro j k x hk hx;rw[IH.uu]at hx;split at hx
  .cases hx
  .exact hW.obj _ _ _ hk hx
 .intro j l k m hk hm hj hl hr he;have pass:∀x,(h.kill i).get x≠none->(∀cs,(h.kill i).get x≠some (.jV cs))->∀cs,h.get x≠some (.jV cs):=λx hx q cs e=>by
   rw[IH.uu]at hx;by_cases ex:x=i
   .rw[if_pos ex]at hx;exact hx rfl
   .exact q cs (by rw[IH.uu,if_neg ex];exact e)
  have hr:=hr.imp (pass _ hj) (pass _ hl);rw[IH.uu]at hj hl;exact ii
 .intro _ _;rfl
 .exact aZ _
 .intro j hj hn;rw[IH.uu]at hn;split at hn
  .exact absurd rfl hn
  .exact hn
 .intro j hj hb;rw[IH.uu,if_neg];exact pH
 .rw[IH.Aq];omega
 .intro j hl hj;rw[IH.Aq]at hl;rw[IH.uu,if_neg s6]
 .intro j k hk hj;exact lB
def WR.Wy(hW:WR P β h w){i:Nat}{g:je}(hi:β i=some g)(hlive:h.get i≠none)(hni:∀cs,h.get i≠some (.jV cs))(o:dL)(g1:je)(hg1:g1.b=g.b){w1:World}
 (hsz:w1.heap.size=w.heap.size) (hheap:∀b,b≠g.b->w1.heap[b]? =w.heap[b]?) (hos:w1.os=w.os) (D6:w1.tape=w.tape) (hout:w1.output=w.output) (hdr:w.drawn<=w1.drawn)
 (ho:OR P (β.add h.next g1) g1 w1 o):WR P (β.add h.next g1) ((h.kill i).new o) w1/\Eff β h w (β.add h.next g1) ((h.kill i).new o) w1:=by
 have hle:β.le (β.add h.next g1):=aJ.xX g1 hW.zh;have hin:i<h.next:=hW.dom _ _ hi
 have hget:∀j,((h.kill i).new o).get j=if j=h.next then some o else if j=i then none else h.get j:=λj=>by
  rw[IH.jq,IH.uu];rfl
 refine⟨⟨?_,?_,?_,?_⟩,⟨?_,?_,?_,?_,?_,?_,hos,D6,hout,?_,?_,?_,?_,hdr⟩⟩
 .intro j k hk;show j<h.next+1
  by_cases e:j=h.next
  .omega
  .rw[aJ.nK _ _ e]at hk;have:=hW.dom _ _ hk;omega
 .intro j x hx;show j<h.next+1
  rw[hget]at hx;split at hx
  .omega
  .split at hx
   .cases hx
   .have:=hW.live _ _ hx;omega
 .intro j k x hk hx;rw[hget]at hx;by_cases e:j=h.next
  .subst e;rw[aJ.l8]at hk;exact nF
  .rw[aJ.nK _ _ e]at hk;rw[if_neg e]at hx;split at hx
   .cases hx
   .rename_i hji;refine((hW.obj _ _ _ hk hx).mono hle).congr (hheap _ λhe=>hji ?_);exact hW.inj _ _ _ _ hk hi (by rw[hx];simp) hlive (.inr hni) he
 .have key:∀j k,β j=some k->((h.kill i).new o).get j≠none->j≠h.next->k.b≠g.b:=λj k hk hj hjn he=>by
   rw[hget,if_neg hjn]at hj;split at hj
   .exact hj rfl
   .rename_i hji;exact hji (hW.inj _ _ _ _ hk hi hj hlive (.inr hni) he)
  intro j l k m hk hm hj hl hr he;have pass:∀x,x≠h.next->((h.kill i).new o).get x≠none->(∀cs,((h.kill i).new o).get x≠some (.jV cs))->∀cs,h.get x≠some (.jV cs):=λx Wz hx q cs e=>by
   rw[hget,if_neg Wz]at hx;by_cases ex:x=i
   .rw[if_pos ex]at hx;exact hx rfl
   .exact q cs (by rw[hget,if_neg Wz,if_neg ex];exact e)
  by_cases ej:j=h.next
  .by_cases el:l=h.next
   .omega
   .subst ej;rw[aJ.l8]at hk;cases hk;rw[aJ.nK _ _ el]at hm;exact absurd (he.symm.trans hg1) (key l m hm hl el)
  .rw[aJ.nK _ _ ej]at hk;by_cases el:l=h.next
   .subst el;rw[aJ.l8]at hm;cases hm;exact absurd (he.trans hg1) (key j k hk hj ej)
   .rw[aJ.nK _ _ el]at hm;have hr:=hr.imp (pass _ ej hj) (pass _ el hl);rw[hget,if_neg ej]at hj;rw[hget,if_neg el]at hl;exact ii
 .intro j hj;exact aJ.nK _ _ s6
 .show h.next<=h.next+1;omega
 .intro j hj hn;rw[hget,if_neg s6]at hn;split at hn
  .exact absurd rfl hn
  .exact hn
 .intro j hj hb;rw[hget,if_neg s6,if_neg];exact pH
 .show(h.kill i).low<=h.low;rw[IH.Aq];omega
 .intro j hl hj;have hl':j<(h.kill i).low:=hl;rw[IH.Aq]at hl';rw[hget,if_neg s6,if_neg s6]
 .omega
 .intro b hb hno;exact hheap b λe=>hno i g hi hlive e.symm
 .intro j k hk hj;by_cases e:j=h.next
  .subst e;rw[aJ.l8]at hk;cases hk;exact .inr ⟨i,g,hi,hlive,hg1.symm⟩
  .rw[aJ.nK _ _ e]at hk;exact lB
 .intro j k hl hj hk hn hb;rw[IH.Im,IH.Aq]at hl;refine hheap _ λhe=>?_;have:=hW.inj _ _ _ _ hk hi hn hlive (.inr hni) he;omega
end
end Go.Ideal
namespace Go.Ideal
variable {P:Program} {β:aJ} {h:IH} {w:World}
def addr_add(b o j:Nat):(⟨b,o,none⟩:Addr).add j=⟨b,o+j,none⟩:=by unfold Addr.add;split<;>simp_all
variable{t:aD}{d:TypeDesc}
def gz(h:P.underlying t=some d)(w:World):(underlying t).run P w=.ok d w:=by
 simp[underlying,h]
variable{n:Nat}
def pF(h:kz P t=some n)(w:World):(sizeOf t).run P w=.ok n w:=by
 unfold kz at h;cases hi:P.info? t with
 |none=>simp[hi]at h
 |some i=>simp[hi]at h;simp[sizeOf,typeInfo,hi,h]
def Ip{i:TypeInfo}(h:P.info? t=some i)(w:World):(typeInfo t).run P w=.ok i w:=by
 simp[typeInfo,h]
variable{z:ah}
def FI(h:zeroOf P t=some z):∃i,P.info? t=some i/\i.zero=some z/\dG z=true:=by
 unfold zeroOf at h;cases hi:P.info? t with
 |none=>simp[hi]at h
 |some i=>
  simp only[hi,iL]at h;cases hz:i.zero with
  |none=>simp[hz]at h
  |some z'=>
   simp only[hz]at h;split at h
   .cases h;exact⟨i,rfl,hz,by assumption⟩
   .cases h
def FJ(h:zeroOf P t=some z)(w:World):(zeroValue t).run P w=.ok z w:=by
 obtain⟨i,h1,h2,_⟩:=FI h;simp[zeroValue,typeInfo,h1,h2]
def FK(h:P.underlying t=some d)(w:World):(isAgg t).run P w=.ok (kD P t) w:=by
 simp only[isAgg,dM,gz h,dR,kD,h];cases d<;>rfl
def WA(h:kD P t=true):∃d,P.underlying t=some d:=by
 unfold kD at h;cases hu:P.underlying t with
 |none=>simp[hu]at h
 |some d=>exact⟨d,rfl⟩
def Lg(hW:WR P β h w){i:Nat}{g:je}(hi:β i=some g){cs:ae ah}(hg:h.get i=some (.cells cs)\/h.get i=some (.jV cs)){o n:Nat}{l:ae ah}
 (hl:jM (kw cs o) n=some l):
 l.length=n/\l.all cellV=true/\∃l',aW β l l'/\∀(j:Nat) v,l'[j]? =some v->w.cell? ⟨g.b,g.off+o+j,none⟩=some v:=by
 obtain⟨h6,h7⟩:cs.all cellV=true/\∀(j:Nat) v,cs[j]? =some v->∃v',w.cell? ⟨g.b,g.off+j,none⟩=some v'/\VR β v v':=by
  rcases hg with hg|hg
  .obtain⟨_,_,_,_,h6,h7⟩:=hW.obj i g _ hi hg;exact⟨h6,h7⟩
  .obtain⟨_,_,h6,h7⟩:=hW.obj i g _ hi hg;exact⟨h6,h7⟩
 rw[qJ,qp]at hl;split at hl
 .rename_i hn;cases hl;refine⟨by simp at hn⊢;omega,?_,?_⟩
  .rw[jy]at h6⊢;exact λx hx=>h6 x (E9 (xK hx))
  .have key:∀k:Nat,k<=n->∃l',aW β ((cs.drop o).take k) l'/\∀(j:Nat) v,l'[j]? =some v->w.cell? ⟨g.b,g.off+o+j,none⟩=some v:=by
    intro k;induction k with
    |zero=>intro _;exact⟨[],by simpa using aW.nil,λj v hj=>by simp at hj⟩
    |succ k ih=>
     intro hk;obtain⟨l',h1,h2'⟩:=ih s6;have hlt:k<(cs.drop o).length:=s6
     obtain⟨v',hv1,hv2⟩:=h7 (o+k) ((cs.drop o)[k]) (by rw[<- jU];exact bG hlt);refine⟨l'++[v'],?_,λj v hj=>?_⟩
     .rw[List.take_succ_eq_append_getElem hlt];exact h1.append (.cons hv2 .nil)
     .have hlen:=h1.length;simp at hlen hlt;by_cases hjl:j<l'.length
      .rw[jL hjl]at hj;exact h2' j v hj
      .have hjk:j=l'.length:=by
        rcases uW j (l'++[v']).length with hh|hh
        .simp at hh;omega
        .rw[dW hh]at hj;cases hj
       subst hjk;simp at hj;subst hj;rw[show g.off+o+l'.length=g.off+(o+k)by omega];exact hv1
   exact key n (aZ _)
 .cases hl
variable{o:Nat}{l:ae ah}
def PT{b:Nat}(hn:l.length=n)(hc:∀(j:Nat) v,l[j]? =some v->w.cell? ⟨b,o+j,none⟩=some v):
 (loadCells ⟨b,o,none⟩ n).run P w=.ok l.toArray w:=by
 subst hn;exact run_loadCells_list w _ l λj v hj=>by rw[addr_add];exact hc j v hj
variable{i:Nat}
def WB{h:IH}(hl:h.qj i o n=some l):∃cs,h.get i=some (.cells cs)/\jM (kw cs o) n=some l:=by
 unfold IH.qj at hl;split at hl
 .exact⟨_,by assumption,hl⟩
 .cases hl
def FL{h:IH}(hl:h.jd i o n=some l):∃cs,(h.get i=some (.cells cs)\/h.get i=some (.jV cs))/\jM (kw cs o) n=some l:=by
 unfold IH.jd at hl;exact lO
def WC{h:IH}{v:ah}(hl:h.qF i o=some v):∃cs,(h.get i=some (.cells cs)\/h.get i=some (.jV cs))/\lC cs o=some v:=by
 unfold IH.qF at hl;exact lO
variable{h2:IH}
def adZ{h:IH}(hs:∀i o,h.get i=some o->h2.get i=some o){i o:Nat}{v:ah}(hl:h.qF i o=some v):h2.qF i o=some v:=by
 obtain⟨cs,hg|hg,h1⟩:=WC hl
 .simp only[IH.qF,hs _ _ hg,h1]
 .simp only[IH.qF,hs _ _ hg,h1]
def WE{h:IH}(hs:∀i o,h.get i=some o->h2.get i=some o){i o n:Nat}{l:ae ah}(hl:h.jd i o n=some l):h2.jd i o n=some l:=by
 obtain⟨cs,hg|hg,h1⟩:=FL hl
 .simp only[IH.jd,hs _ _ hg,h1]
 .simp only[IH.jd,hs _ _ hg,h1]
def Iq(b:Nat):∀(vs:ae ah) (o:Nat) (w:World),(w.setCells b o vs).drawn=w.drawn
 |[],_,_=>rfl
 |v::vs,o,w=>by
  show((w.setCell ⟨b,o,none⟩ v).setCells b (o+1) vs).drawn=_;rw[Iq b vs];rfl
def FM(hW:WR P β h w){i:Nat}{g:je}(hi:β i=some g){o:Nat}{vs vs':ae ah}{h':IH}(hs:h.storeAt i o vs=some h')(hv:aW β vs vs')(hall:vs.all cellV=true):
 (∀k,k=0->(storeCells ⟨g.b,g.off+o,none⟩ vs' k).run P w=.ok () (w.setCells g.b (g.off+o) vs'))/\WR P β h' (w.setCells g.b (g.off+o) vs')/\Eff β h w β h' (w.setCells g.b (g.off+o) vs'):=by
 unfold IH.storeAt at hs;split at hs
 .rename_i cs hg;split at hs
  .rename_i cs2 hl;cases hs;obtain⟨h1,h2,h3,h5,h6,h7⟩:=hW.obj i g _ hi hg;obtain⟨l1,l2,l3⟩:=D5 hl;have hlen:vs'.length=vs.length:=hv.length;have hin:∀j,j<vs'.length->g.off+o+j<g.top:=λj hj=>by omega
   have hone:∀v∈vs',v.oneCell'=true:=λv hv'=>by
    obtain⟨j,hj⟩:=iM hv';have hjl:j<vs.length:=by
     rcases uW j vs'.length with hh|hh
     .omega
     .rw[dW hh]at hj;cases hj
    exact fc
   have hrun:∀k,k=0->(storeCells ⟨g.b,g.off+o,none⟩ vs' k).run P w=.ok () (w.setCells g.b (g.off+o) vs'):=λk hk=>by
    subst hk;have:=run_storeCells_cells (P:=P) g.b (g.off+o) vs' 0 w (λj hj=>(h5 _ (hin j hj)).1) (λj hj=>(h5 _ (hin j hj)).2) hone;simpa using this
   have hsz:(w.setCells g.b (g.off+o) vs').heap.size=w.heap.size:=by
    have D7:∀(vs:ae ah) (o:Nat) (w:World),(w.setCells g.b o vs).heap.size=w.heap.size:=by
     intro vs;induction vs with
     |nil=>intro o w;rfl
     |cons v vs ih=>intro o w;show((w.setCell ⟨g.b,o,none⟩ v).setCells g.b (o+1) vs).heap.size=_;rw[ih];simp
    exact D7 _ _ _
   have hother:∀b,b≠g.b->(w.setCells g.b (g.off+o) vs').heap[b]? =w.heap[b]?:=by
    have D7:∀(vs:ae ah) (o:Nat) (w:World) (b:Nat),b≠g.b->(w.setCells g.b o vs).heap[b]? =w.heap[b]?:=by
     intro vs;induction vs with
     |nil=>intro o w b _;rfl
     |cons v vs ih=>intro o w b hb;show((w.setCell ⟨g.b,o,none⟩ v).setCells g.b (o+1) vs).heap[b]? =_;rw[ih _ _ _ hb,Go.RowKit.Below.heap_setCell _ _ _ _ hb]
    exact D7 _ _ _
   have hsame:∃c t fz,(w.setCells g.b (g.off+o) vs').heap[g.b]? =some (.cells c t fz)/\¬(fz.1<=c.size/\c.size<fz.2):=by
    have D7:∀(vs:ae ah) (o:Nat) (w:World),(∃c t fz,w.heap[g.b]? =some (.cells c t fz)/\¬(fz.1<=c.size/\c.size<fz.2))->∃c t fz,(w.setCells g.b o vs).heap[g.b]? =some (.cells c t fz)/\¬(fz.1<=c.size/\c.size<fz.2):=by
     intro vs;induction vs with
     |nil=>intro o w hh;exact hh
     |cons v vs ih=>
      intro o w ⟨c,t,fz,hh,hz⟩;refine ih _ _ ⟨c.setIfInBounds o v,t,fz,?_,we⟩;simp[World.setCell,Array.getElem?_modify,hh]
    exact D7 _ _ _ h1
   have D6:(w.setCells g.b (g.off+o) vs').tape=w.tape:=by
    have D7:∀(vs:ae ah) (o:Nat) (w:World),(w.setCells g.b o vs).tape=w.tape:=by
     intro vs;induction vs with
     |nil=>intro o w;rfl
     |cons v vs ih=>intro o w;show((w.setCell ⟨g.b,o,none⟩ v).setCells g.b (o+1) vs).tape=_;rw[ih];rfl
    exact D7 _ _ _
   have hos:=(VH g.b (may:=λ_=>True) vs' (g.off+o) w (λ_ _=>trivial)).1;have hout:=(VH g.b (may:=λ_=>True) vs' (g.off+o) w (λ_ _=>trivial)).2.1;have hdr:w.drawn<=(w.setCells g.b (g.off+o) vs').drawn:=by rw[Iq];exact aZ _
   refine⟨hrun,?_⟩;refine hW.write hi hg (.cells cs2) hsz hother hos D6 hout hdr ⟨hsame,s6,h3,?_,?_,?_⟩
   .intro j hj;refine⟨?_,by rw[KG];exact(h5 j hj).2⟩;by_cases hr:g.off+o<=j/\j<g.off+o+vs'.length
    .have:=Fa g.b vs' (g.off+o) w (λk hk=>(h5 _ (hin k hk)).1) (j - (g.off+o)) s6;rw[show g.off+o+(j - (g.off+o))=j by omega]at this;rw[this];simp
    .rw[BS g.b vs' (g.off+o) w ⟨g.b,j,none⟩ (λ_ _=>by simp;omega)];exact(h5 j hj).1
   .rw[jy]at h6 hall⊢;intro x hx;obtain⟨j,hj⟩:=iM hx;rw[l3]at hj;split at hj
    .exact hall x (aT hj)
    .exact h6 x (aT hj)
   .intro j v hj;rw[l3]at hj;split at hj
    .rename_i hr;obtain⟨v',hv1,hv2⟩:=hv.get hj;refine⟨v',?_,hv2⟩;have hlt:j - o<vs'.length:=by omega
     have:=Fa g.b vs' (g.off+o) w (λk hk=>(h5 _ (hin k hk)).1) (j - o) hlt;rw[show g.off+o+(j - o)=g.off+j by omega]at this;rw[this];rw[bG hlt]at hv1;exact hv1
    .rename_i hr;obtain⟨v',hv1,hv2⟩:=h7 j v hj;refine⟨v',?_,hv2⟩;rw[BS g.b vs' (g.off+o) w ⟨g.b,g.off+j,none⟩ (λ_ _=>by simp;omega)];exact hv1
  .cases hs
 .cases hs
def Good(P:Program)(β:aJ)(h:IH)(w:World)(s:Sem Next)(v:ah)(h':IH):Prop:=
 ∃r w' β' v',s.run P w=.ok r w'/\(r=.value v'\/(r=.skip/\v'=undef))/\VR β' v v'/\WR P β' h' w'/\Eff β h w β' h' w'
def Good.same(hW:WR P β h w){s:Sem Next}{v v':ah}(hr:s.run P w=.ok (.value v') w)(hv:VR β v v'):Good P β h w s v h:=
 ⟨_,w,β,v',hr,.inl rfl,hv,hW,Eff.refl _ _ _ hW.dom⟩
def xY(P:Program)(β:aJ)(w:World)(s:Sem Next)(f:Nat->ah)(o:dL):Prop:=
 ∃v' o' g,s.run P w=.ok (.value v') {w with heap:=w.heap.push o'}/\g.b=w.heap.size/\
  ∀(i:Nat) (β':aJ),β.le β'->β' i=some g->VR β' (f i) v'/\OR P β' g {w with heap:=w.heap.push o'} o
def xY.good(hW:WR P β h w){s:Sem Next}{f:Nat->ah}{o:dL}(hm:xY P β w s f o):Good P β h w s (f h.next) (h.new o):=by
 obtain⟨v',o',g,h1,h2,h3⟩:=hm;have hle:=aJ.xX (β:=β) g hW.zh;obtain⟨a,b⟩:=hW.alloc o o' g h2 rfl (h3 h.next _ hle (aJ.l8 _ _ _)).2;exact⟨_,_,_,v',h1,.inl rfl,(h3 h.next _ hle (aJ.l8 _ _ _)).1,a,b⟩
def OR.Ir{β:aJ}{w:World}{cs cs':ae ah}(t:aD)(h:aW β cs cs')(hc:cs.all cellV=true)(rest:ae ah)(sz:Nat):
 OR P β ⟨w.heap.size,0,cs.length,cs.length+rest.length,sz⟩ {w with heap:=w.heap.push (.cells ⟨cs'++rest⟩ t)} (.cells cs):=by
 have hb:({w with heap:=w.heap.push (.cells ⟨cs'++rest⟩ t)}:World).heap[w.heap.size]? =some (.cells ⟨cs'++rest⟩ t):=s7
 refine⟨⟨_,_,_,hb,λh=>absurd h.2 (yU _)⟩,rfl,s7,λj hj=>⟨?_,?_⟩,hc,λj v hj=>?_⟩
 .simp only[World.cell?,hb];simp;have:=h.length;simp at hj;omega
 .simp[World.frozen?]
 .obtain⟨v',h1,h2⟩:=h.get hj;refine⟨v',?_,h2⟩;simp only[World.cell?,hb];simp;rw[jL]
  .exact h1
  .rcases uW j cs'.length with hh|hh
   .exact hh
   .rw[dW hh]at h1;cases h1
end Go.Ideal
namespace Go.Ideal
variable {P:Program} {β:aJ} {h:IH} {w:World}
variable{v:ah}
def VR.Lh{b:Bool}(h:VR β (.bool b) v):v=.bool b:=by cases h;rfl
def VR.mP{k:IntKind}{n:Int}(h:VR β (.int k n) v):v=.int k n:=by cases h;rfl
def VR.D8{s:ByteArray}(h:VR β (.string s) v):v=.string s:=by cases h;rfl
variable{i o:Nat}
def VR.xZ(h:VR β (.pointer (some ⟨i,o,none⟩)) v):∃g,β i=some g/\v=.pointer (some ⟨g.b,g.off+o,none⟩):=by
 cases h with|ptr hi=>exact⟨_,hi,rfl⟩
def VR.FN(h:VR β (.map (some i)) v):∃g,β i=some g/\v=.map (some g.b):=by
 cases h with|map hi=>exact⟨_,hi,rfl⟩
def VR.D9{t:aD}{u:ah}(h:VR β (.iface t u) v):∃u',VR β u u'/\v=.iface t u':=by
 cases h with|iface t hi=>exact⟨_,hi,rfl⟩
def VR.PU{l:ae ah}(h:VR β (.agg ⟨l⟩) v):∃l',aW β l l'/\l.all Ideal.cellV=true/\v=.agg ⟨l'⟩:=by
 cases h with|agg hc hl=>exact⟨_,hl,hc,rfl⟩
def VR.Cg{fn:Fn}{f c:ae ah}(h:VR β (.func fn ⟨f⟩ ⟨c⟩) v):∃fn' f' c',FR β fn fn'/\aW β f f'/\aW β c c'/\v=.func fn' ⟨f'⟩ ⟨c'⟩:=by
 cases h with|func h1 h2 h3=>exact⟨_,_,_,h1,h2,h3,rfl⟩
def VR.oJ{f:ak Nat}{n c:Nat}(h:VR β (.slice (some ⟨i,o,f⟩) n c) v):
 ∃g a c',β i=some g/\v=.slice (some a) n c'/\a.block=g.b/\True/\n<=c/\c<=c'/\(c'=0\/(a.off=g.off+o/\a.spot=none))/\
  ((f=some 0/\c'=c)\/(f=some g.sz/\0<g.sz/\o+c*g.sz=g.len/\(g.off+o+c'*g.sz=g.top/\a.spot=none))):=by
 cases h with
 |az hi hb hn ha=>exact⟨_,_,_,hi,rfl,hb,trivial,hn,aZ _,ha,.inl ⟨rfl,rfl⟩⟩
 |pW hi hb hs hn hz hl ht hc ha=>exact⟨_,_,_,hi,rfl,hb,trivial,hn,hc,ha.imp id (λe=>⟨e,hs⟩),.inr ⟨rfl,hz,hl,ht,hs⟩⟩
def aW.of_map{γ:Type}{f f':γ->ah}{l:ae γ}(h:∀x∈l,VR β (f x) (f' x)):aW β (nZ f l) (l.map f'):=by
 rw[zg];exact aW.map l h
def ad1(ρ:ay->ah)(zero:ae ah):vB ρ zero []=some zero:=rfl
def PV(ρ:ay->ah)(zero:ae ah)(off size:Nat)(x:ay)(ps:ae (Nat×Nat×ay)):
 vB ρ zero ((off,size,x)::ps)=match cellsOf (ρ x)with
  |none=>none
  |some vs=>if jh vs=size then(match jH zero off vs with
   |some cs=>vB ρ cs ps
   |none=>none)else none:=by
 show(match cellsOf (ρ x)with
  |none=>none
  |some vs=>cond (Nat.beq (jh vs) size) (match jH zero off vs with
   |some cs=>vB ρ cs ps
   |none=>none) none)=_
 cases cellsOf (ρ x)with
 |none=>rfl
 |some vs=>
  show cond (Nat.beq (jh vs) size) _ none=if jh vs=size then _ else none
  cases hb:Nat.beq (jh vs) size with
  |true=>rw[if_pos (tZ hb)];rfl
  |false=>rw[if_neg (Hz hb)];rfl
def foldl_set(off:Nat):∀(l:ae ah) (k:Nat) (A:Array ah),
 ((l.zipIdx k).foldl (λcs (x:ah×Nat)=>cs.setIfInBounds (off+x.2) x.1) A).size=A.size/\
 ∀j,((l.zipIdx k).foldl (λcs (x:ah×Nat)=>cs.setIfInBounds (off+x.2) x.1) A)[j]? =if off+k<=j/\j<off+k+l.length/\j<A.size then l[j - (off+k)]? else A[j]?:=by
 intro l;induction l with
 |nil=>intro k A;refine⟨rfl,λj=>?_⟩;rw[if_neg tc];rfl
 |cons x l ih=>
  intro k A;simp only[List.zipIdx_cons,nC];obtain⟨h1,h2⟩:=ih (k+1) (A.setIfInBounds (off+k) x);refine⟨by rw[h1];simp,λj=>?_⟩;rw[h2];simp only[Array.size_setIfInBounds,nW];by_cases hc:off+(k+1)<=j/\j<off+(k+1)+l.length/\j<A.size
  .rw[if_pos hc,if_pos s6];rw[show j - (off+k)=(j - (off+(k+1)))+1 by omega,uf]
  .rw[if_neg hc];by_cases hj:j=off+k
   .subst hj;by_cases hs:off+k<A.size
    .rw[if_pos s6];simp[hs]
    .rw[if_neg s6,uX tc,uX s6]
   .rw[if_neg s6];rw[KH s6]
inductive F2{γ δ:Type}(R:γ->δ->Prop):List γ->List δ->Prop
 |nil:F2 R [] []
 |cons {a:γ} {b:δ} {l:List γ} {r:List δ} (h:R a b) (hl:F2 R l r):F2 R (a::l) (b::r)
def PW{place:Nat->ak (Nat×Nat)}{ρ ρ':ay->ah}:∀(parts:ae (Nat×ay)) (pc:ae (Nat×Nat×ay)) (zs zs' cs:ae ah),
 F2 (λ(p:Nat×ay) (q:Nat×Nat×ay)=>q.2.2=p.2/\place p.1=some (q.1,q.2.1)) parts pc->aW β zs zs'->zs.all Ideal.cellV=true->
 vB ρ zs pc=some cs->(∀p∈parts,VR β (ρ p.2) (ρ' p.2))->∃cs',Instr.fill place ⟨zs'⟩ (parts.map λp=>(p.1,ρ' p.2))=some ⟨cs'⟩/\aW β cs cs'/\cs.all Ideal.cellV=true/\cs.length=zs.length:=by
 intro parts;induction parts with
 |nil=>
  intro pc zs zs' cs hf hz hc hr _;cases hf;rw[ad1]at hr;cases hr;exact⟨zs',rfl,hz,hc,rfl⟩
 |cons p parts ih=>
  intro pc zs zs' cs hf hz hc hr hρ;obtain⟨i,x⟩:=p;cases hf with
  | @cons _ q _ pc hq hf=>
    obtain⟨off,size,y⟩:=q;obtain⟨hy,hpl⟩:=hq;simp only at hy hpl;subst hy;rw[PV]at hr;split at hr
    .cases hr
    .rename_i vs hvs;split at hr
     .rename_i hsz;split at hr
      .rename_i cs1 hl;obtain⟨FO,vs',hv1,hv2⟩:=(hρ (i,y) s7).cells hvs;obtain⟨l1,l2,l3⟩:=D5 hl;rw[xV]at hsz;have hlen:=hv2.length;have hzl:=hz.length;have Li:=foldl_set off vs' 0 ⟨zs'⟩;have hA:∃Iu,((vs'.zipIdx 0).foldl (λcs (x:ah×Nat)=>cs.setIfInBounds (off+x.2) x.1) (⟨zs'⟩:Array ah))=⟨Iu⟩/\aW β cs1 Iu:=by
        refine⟨_,rfl,aW.Lf ?_ ?_⟩
        .have:=Li.1;simp only[Array.size]at this;rw[this,hzl,l2]
        .intro j v hj;have hg:=Li.2 j;simp only[xL]at hg;rw[l3]at hj;have hjl:j<zs'.length:=by
          rw[hzl,<- l2];rcases uW j cs1.length with hh|hh
          .exact hh
          .have:=l3 j;rw[dW hh]at this;rw[<- this]at hj;cases hj
         split at hj
         .rename_i hr2;obtain⟨v',h1,h2⟩:=hv2.get hj;refine⟨v',?_,h2⟩;rw[<- zZ]at hg;rw[hg,if_pos tc];exact h1
         .rename_i hr2;obtain⟨v',h1,h2⟩:=hz.get hj;refine⟨v',?_,h2⟩;rw[<- zZ]at hg;rw[hg,if_neg tc];simpa using h1
       obtain⟨Iu,hA1,hA2⟩:=hA;have hc1:cs1.all Ideal.cellV=true:=by
        rw[jy]at hc FO⊢;intro z PX;obtain⟨j,hj⟩:=iM PX;rw[l3]at hj;split at hj
        .exact FO z (aT hj)
        .exact hc z (aT hj)
       obtain⟨cs',r1,r2,r3,r4⟩:=ih pc cs1 Iu cs hf hA2 hc1 hr λp hp=>hρ p (by simp[hp]);refine⟨cs',?_,r2,r3,s6⟩;simp only[fA,Instr.fill,hpl];rw[if_neg (by simp only[hv1,Array.size,xM,z8,not_or];omega)];have hz0:(ρ' y).cells.zipIdx=(⟨vs'.zipIdx 0⟩:Array (ah×Nat)):=by rw[hv1];simp
       rw[hz0];have hfl:Array.foldl (λcs (x:ah×Nat)=>match x with|(c,j)=>cs.setIfInBounds (off+j) c) (⟨zs'⟩:Array ah) (⟨vs'.zipIdx 0⟩:Array (ah×Nat))=⟨Iu⟩:=by
        rw[<- hA1,<- VI]
       rw[hfl];exact r1
      .cases hr
     .cases hr
end Go.Ideal
namespace Go.Ideal
variable {P:Program} {β:aJ} {h:IH} {w:World}
variable{w':World}
def Au{s:Sem ah}{v:ah}{w:World}(h:s.run P w=.ok v w'):(do pure (.value (<- s)):Sem Next).run P w=.ok (.value v) w':=tG
def WG{s:Sem Unit}{w:World}(h:s.run P w=.ok () w'):(do s;pure .skip:Sem Next).run P w=.ok .skip w':=tG
variable{t:aD}{cs cs':ae ah}{s:Sem Next}
def WH(hcs:aW β cs cs')(hc:cs.all cellV=true)
 (hr:s.run P w=.ok (.value (.pointer (some ⟨w.heap.size,0,none⟩))) {w with heap:=w.heap.push (.cells ⟨cs'⟩ t)}):
 xY P β w s (λi=>.pointer (some ⟨i,0,none⟩)) (.cells cs):=by
 refine⟨_,_,⟨w.heap.size,0,cs.length,cs.length+0,0⟩,hr,rfl,λi β' hle hi=>⟨?_,?_⟩⟩
 .have:=VR.ptr (β:=β') (o:=0) hi;exact this
 .exact po
variable{n:Nat}
def WI{c:Nat}(hn:n<=c)(hcs:aW β cs cs')(hc:cs.all cellV=true)
 (hr:s.run P w=.ok (.value (.slice (some ⟨w.heap.size,0,none⟩) n c)) {w with heap:=w.heap.push (.cells ⟨cs'⟩ t)}):
 xY P β w s (λi=>.slice (DN i 0) n c) (.cells cs):=by
 refine⟨_,_,⟨w.heap.size,0,cs.length,cs.length+0,0⟩,hr,rfl,λi β' hle hi=>⟨?_,?_⟩⟩
 .exact VR.az hi rfl hn (.inr ⟨rfl,rfl⟩)
 .exact po
def Ch(h:ze P t=some cs):
 ∃z i,P.info? t=some i/\i.zero=some z/\z.cells=⟨cs⟩/\iU cs=true/\kz P t=some cs.length:=by
 unfold ze at h;split at h
 .rename_i z n hz hn;split at h
  .rename_i hh;cases h;obtain⟨i,h1,h2,h3⟩:=FI hz;exact⟨z,i,h1,h2,rfl,hh.2,by rw[hh.1];exact hn⟩
  .cases h
 .cases h
def WJ(f:Nat->ah):Array.map f (Array.range 0)= #[]:=adM s7
variable{type e:aD}{dst:ak Tmp}{pos:String}{after:Array Edge}{guard:ak (Nat×Bool)}{c:aK}{ρ ρ':ay->ah}{f:Nat->ah}{ob:dL}
def ad3
 (hc:cop P ⟨dst,.alloc e,type,pos,after,guard⟩=some c) (ha:c.alloc ρ=some (f,ob)):xY P β w (execOp ρ' ⟨dst,.alloc e,type,pos,after,guard⟩) f ob:=by
 simp only[cop]at hc;split at hc
 .rename_i cs hz;cases hc;simp only[aK.alloc]at ha;cases ha;obtain⟨z,i,h1,h2,h3,h4,_⟩:=Ch hz;refine WH (t:=e) (aW.free h4) (xW h4) ?_;simp[execOp,Instr.alloc,zeroValue,typeInfo,h1,h2,newVar,newRow,h3]
 .cases hc
def ad4{x:ay}
 (hc:cop P ⟨dst,.box e x,type,pos,after,guard⟩=some c) (ha:c.alloc ρ=some (f,ob)) (hx:VR β (ρ x) (ρ' x)):xY P β w (execOp ρ' ⟨dst,.box e x,type,pos,after,guard⟩) f ob:=by
 simp only[cop,aN]at hc;subst hc;simp only[aK.alloc]at ha;split at ha
 .rename_i cs hcs;cases ha;obtain⟨h1,cs',h2,h3⟩:=hx.cells hcs;refine WH (t:=e) h3 h1 ?_;simp[execOp,Instr.box,newVar,newRow,h2]
 .cases ha
def ad5{r:ak ay}
 (hc:cop P ⟨dst,.makeMap t r,type,pos,after,guard⟩=some c) (ha:c.alloc ρ=some (f,ob)):xY P β w (execOp ρ' ⟨dst,.makeMap t r,type,pos,after,guard⟩) f ob:=by
 cases r with
 |some r=>simp[cop]at hc
 |none=>
  simp only[cop,aN]at hc;subst hc;simp only[aK.alloc]at ha;cases ha;refine⟨.map (some w.heap.size),.map #[] 0,⟨w.heap.size,0,0,0,0⟩,?_,rfl,λi β' hle hi=>⟨?_,?_⟩⟩
  .simp[execOp,Instr.makeMap]
  .have:=VR.map (β:=β') hi;exact this
  .exact⟨#[],s7,.nil⟩
def ad6(z:ae ah)(n:Nat)(hz:z≠[]):∀j,(zeros z n)[j]? =if j<n*z.length then z[j%z.length]? else none:=by
 induction n with
 |zero=>intro j;show([]:ae ah)[j]? =_;simp
 |succ n ih=>
  intro j;have hpos:0<z.length:=Fb.2 hz;show(lM z (zeros z n))[j]? =_;rw[jW];by_cases hj:j<z.length
  .rw[jL hj,if_pos (by rw[Nat.succ_mul];omega),Nat.mod_eq_of_lt hj]
  .rw[jP s6,ih];have:(j - z.length)%z.length=j%z.length:=by
    rw[<- Nat.mod_eq_sub_mod s6]
   rw[this];by_cases hl:j<(n+1)*z.length
   .rw[if_pos hl,if_pos CM]
   .rw[if_neg hl,if_neg CM]
def Ci{z:ae ah}(hz:iU z=true)(n:Nat):iU (zeros z n)=true:=by
 have happ:∀(a b:ae ah),iU a=true->iU b=true->iU (a++b)=true:=by
  intro a b ha hb;induction a with
  |nil=>exact hb
  |cons x a ih=>simp[iU]at ha⊢;exact⟨ha.1,ih ha.2⟩
 induction n with
 |zero=>rfl
 |succ n ih=>show iU (lM z (zeros z n))=true;rw[jW];exact happ _ _ hz ih
def Lj(z:ae ah)(n:Nat)(hz:z≠[]):(Array.range (n*z.length)).map (λj=>(⟨z⟩:Array ah)[j%(⟨z⟩:Array ah).size]!)=⟨zeros z n⟩:=by
 have hpos:0<z.length:=Fb.2 hz;apply Array.ext';apply iH;intro j;show _=(zeros z n)[j]?;rw[ad6 z n hz];simp only[Pe,Array.toList_range,bU];by_cases hj:j<n*z.length
 .rw[if_pos hj,oI hj];have hm:j%z.length<z.length:=wu _ hpos;simp[hm]
 .rw[if_neg hj,dW tc];rfl
def wK(h:pU P t=some n):kz P t=some n/\0<n:=by
 unfold pU at h;split at h
 .cases h
 .rename_i h2;refine⟨h,?_⟩;rcases KI n with h0|h0
  .subst h0;exact absurd h h2
  .exact h0
def ad7{l k:ay}
 (hc:cop P ⟨dst,.makeSlice t l k,type,pos,after,guard⟩=some c) (ha:c.alloc ρ=some (f,ob)) (hl:VR β (ρ l) (ρ' l)) (hk:VR β (ρ k) (ρ' k)):
 xY P β w (execOp ρ' ⟨dst,.makeSlice t l k,type,pos,after,guard⟩) f ob:=by
 simp only[cop]at hc;split at hc
 .rename_i e hu;split at hc
  .rename_i s z hs hz;cases hc;simp only[aK.alloc]at ha;obtain⟨zv,i,h1,h2,h3,h4,h5⟩:=Ch hz;obtain⟨hs1,hs2⟩:=wK hs;rw[h5]at hs1;have hzl:z.length=s:=by simpa using hs1
   split at ha
   .rename_i ln cn hln hcn;rw[hln]at hl;rw[hcn]at hk;have hl':=hl.mP;have hk':=hk.mP;simp only[h1,lq,Option.get!_some]at ha;cases hcond:(ln.ble cn&&(cn.mul i.bytes).ble small&&(cn.mul s).ble small&&cn.ble small)with
    |false=>rw[hcond]at ha;cases ha
    |true=>
     rw[hcond]at ha;simp only[cond_true,aN,dH]at ha;obtain⟨rfl,rfl⟩:=ha;simp only[eP]at hcond;obtain⟨⟨⟨c1,c2⟩,c3⟩,c4⟩:=hcond;have c1:=pq c1;have c2:=pq c2;have c4:=pq c4;unfold small at c2 c4;have hwl:IntKind.i64.wrap (Int.ofNat ln)=ln:=by
      exact IntWalk.i64_in _ tc
     have hwc:IntKind.i64.wrap (Int.ofNat cn)=cn:=by
      exact IntWalk.i64_in _ tc
     refine WI (t:=e) c1 (aW.free (Ci h4 cn)) (xW (Ci h4 cn)) ?_;have Iw:z≠[]:=λe=>by subst e;simp at hzl;omega
     have hbig:¬((i.bytes:Int)*(cn:Int)>281474976710656):=by
      rw[<- Int.natCast_mul,Fe];have c2':cn*i.bytes<=1073741824:=c2;omega
     have hsz:((cn:Int)).toNat=cn:=s7
     have hsz2:((ln:Int)).toNat=ln:=s7
     have hzs:(⟨z⟩:Array ah).size=s:=hzl;simp only[execOp,Instr.makeSlice,dM,gz hu,dR,hl',hk',asInt,asIntOf,fG,Ip h1,hwl,hwc,Int.reducePow];rw[if_neg (by simp only[xM,z8,not_or];omega)];simp only[hsz,hsz2,dM,run_askRoom,dR,pF h5,hzl];by_cases h0:cn*s=0
     .rw[if_pos h0];have ad8:cn=0:=by
       exact ri
      subst ad8;have hz0:zeros z 0=[]:=rfl;simp[newRow,hz0,WJ]
     .rw[if_neg h0];have hzz:zeroOf P e=some zv:=by
       exact gO
      have hrow:=Lj z cn Iw;rw[hzl]at hrow;simp only[dM,FJ hzz,dR,h3,fG,newRow,run_newObj,hrow]
   .cases ha
  .cases hc
 .cases hc
def F2.of_map{γ δ:Type}{R:γ->δ->Prop}(f:γ->δ)(l:ae γ)(h:∀x∈l,R x (f x)):F2 R l (l.map f):=by
 exact kq
section
variable {dst:ak Tmp} {type:aD} {pos:String} {after:Array Edge} {guard:ak (Nat×Bool)} {c:aK} {ρ ρ':ay->ah} {f:Nat->ah} {ob:dL} {v:ah} {h':IH}
variable{t:aD}{parts:Array (Nat×ay)}
def ad9{len:Nat}
 (hc:cop P ⟨dst,.buildSlice t len parts,type,pos,after,guard⟩=some c) (ha:c.alloc ρ=some (f,ob)) (hρ:∀p∈parts.toList,VR β (ρ p.2) (ρ' p.2)):
 xY P β w (execOp ρ' ⟨dst,.buildSlice t len parts,type,pos,after,guard⟩) f ob:=by
 simp only[cop]at hc;split at hc
 .rename_i e hu;split at hc
  .rename_i s z hs hz;split at hc
   .rename_i hle;cases hc;simp only[aK.alloc]at ha;split at ha
    .rename_i cs hcs;cases ha;obtain⟨zv,i,h1,h2,h3,h4,h5⟩:=Ch hz;obtain⟨hs1,hs2⟩:=wK hs;rw[h5]at hs1;have hzl:z.length=s:=by simpa using hs1
     have Iw:z≠[]:=λe=>by subst e;simp at hzl;omega
     obtain⟨cs',r1,r2,r3,_⟩:=PW (β:=β) (place:=λi=>some (i*s,s)) (ρ:=ρ) (ρ':=ρ') parts.toList _ (zeros z len) (zeros z len) cs
      (F2.of_map (λp=>(p.1*s,s,p.2)) _ λp _=>⟨rfl,rfl⟩) (aW.free (Ci h4 len)) (xW (Ci h4 len)) hcs hρ
     refine WI (t:=e) (aZ _) r2 r3 ?_;have hzz:zeroOf P e=some zv:=by
      exact gO
     have hrow:=Lj z len Iw;rw[hzl]at hrow;have hpl:(parts.map λ(x:Nat×ay)=>match x with|(i,x)=>(i,ρ' x)).toList=parts.toList.map λp=>(p.1,ρ' p.2):=s7
     simp only[execOp,Instr.buildSlice,dM,gz hu,dR,pF h5,hzl,hpl];rw[if_neg s6];simp only[dM,dR,fG];by_cases h0:len*s=0
     .have hl0:len=0:=by
       exact ri
      subst hl0;rw[if_pos h0];have hz0:(Array.map (λx=>(#[]:Array ah)[x%(#[]:Array ah).size]!) (Array.range (0*s)))=⟨zeros z 0⟩:=by rw[h0];exact WJ _
      simp only[dM,fG,dR,hz0,r1,newRow,run_newObj]
     .rw[if_neg h0];simp only[dM,FJ hzz,dR,h3,fG,hrow,r1,newRow,run_newObj]
    .cases ha
   .cases hc
  .cases hc
 .cases hc
variable{x:ay}
def aea(hc:cop P ⟨dst,.move x,type,pos,after,guard⟩=some c)(hr:c.run P ρ h=some (v,h'))(hx:VR β (ρ x) (ρ' x))(hW:WR P β h w):
 Good P β h w (execOp ρ' ⟨dst,.move x,type,pos,after,guard⟩) v h':=by
 simp only[cop,aN]at hc;subst hc;simp only[aK.run,aN,dH]at hr;obtain⟨rfl,rfl⟩:=hr;exact Good.same hW (v':=ρ' x) (by simp[execOp]) hx
def aeb(hc:cop P ⟨dst,.assign x,type,pos,after,guard⟩=some c)(hr:c.run P ρ h=some (v,h'))(hx:VR β (ρ x) (ρ' x))(hW:WR P β h w):
 Good P β h w (execOp ρ' ⟨dst,.assign x,type,pos,after,guard⟩) v h':=by
 simp only[cop,aN]at hc;subst hc;simp only[aK.run,aN,dH]at hr;obtain⟨rfl,rfl⟩:=hr;exact Good.same hW (v':=ρ' x) (by simp[execOp]) hx
variable{y:ay}
def aec{z:ay}(hc:cop P ⟨dst,.pick x y z,type,pos,after,guard⟩=some c)(hr:c.run P ρ h=some (v,h'))(hx:VR β (ρ x) (ρ' x))(hy:VR β (ρ y) (ρ' y))(hz:VR β (ρ z) (ρ' z))(hW:WR P β h w):
 Good P β h w (execOp ρ' ⟨dst,.pick x y z,type,pos,after,guard⟩) v h':=by
 simp only[cop,aN]at hc;subst hc;simp only[aK.run]at hr;split at hr
 .rename_i t ht;rw[ht]at hx;have hx':=hx.Lh;simp only[aN,dH]at hr;obtain⟨rfl,rfl⟩:=hr;cases t
  .exact Good.same hW (v':=ρ' z) (by simp[execOp,hx',asBool]) hz
  .exact Good.same hW (v':=ρ' y) (by simp[execOp,hx',asBool]) hy
 .cases hr
variable{fs:Array Field}
def run_places(hall:fs.toList.all (λf=>(kz P f.type).isSome)=true)(w:World):
 ∃pl:Array (Nat×Nat),(fs.mapM λf=>do pure (f.offset,<- sizeOf f.type):Sem (Array (Nat×Nat))).run P w=.ok pl w/\∀(i:Nat) fd,fs[i]? =some fd->∃s,kz P fd.type=some s/\pl[i]? =some (fd.offset,s):=by
 obtain⟨l⟩:=fs;have key:∀l:ae Field,l.all (λf=>(kz P f.type).isSome)=true->
  ∃pl:ae (Nat×Nat),(l.mapM λf=>do pure (f.offset,<- sizeOf f.type):Sem (ae (Nat×Nat))).run P w=.ok pl w/\∀(i:Nat) fd,l[i]? =some fd->∃s,kz P fd.type=some s/\pl[i]? =some (fd.offset,s):=by
  intro l;induction l with
  |nil=>intro _;exact⟨[],s7,λi fd hi=>by simp at hi⟩
  |cons x l ih=>
   intro hl;simp only[Pb,eP]at hl;obtain⟨pl,h1,h2⟩:=ih hl.2;obtain⟨s,hs⟩:=KJ.1 hl.1;refine⟨(x.offset,s)::pl,?_,λi fd hi=>?_⟩
   .simp only[List.mapM_cons,dM,pF hs,dR,fG,h1]
   .cases i with
    |zero=>simp at hi;subst hi;exact⟨s,hs,s7⟩
    |succ i=>simp at hi;obtain⟨s',a,b⟩:=h2 i fd hi;exact⟨s',a,by simpa using b⟩
 obtain⟨pl,h1,h2⟩:=key l hall;refine⟨⟨pl⟩,?_,λi fd hi=>?_⟩
 .rw[List.mapM_toArray,Sem.run_map,h1];rfl
 .obtain⟨s,a,b⟩:=h2 i fd AG;exact⟨s,a,by simpa using b⟩
def aed{pl:Array (Nat×Nat)}(hpl:∀(i:Nat) fd,fs[i]? =some fd->∃s,kz P fd.type=some s/\pl[i]? =some (fd.offset,s)):
 ∀(parts:ae (Nat×ay)) (ps:ae (Nat×Nat×ay)),Ca P fs parts=some ps->F2 (λ(p:Nat×ay) (q:Nat×Nat×ay)=>q.2.2=p.2/\pl[p.1]? =some (q.1,q.2.1)) parts ps:=by
 intro parts;induction parts with
 |nil=>intro ps h;simp[Ca]at h;subst h;exact .nil
 |cons p parts ih=>
  intro ps h;obtain⟨i,x⟩:=p;simp only[Ca]at h;split at h
  .rename_i fd r Iy hr;split at h
   .rename_i s hs;cases h;refine .cons ⟨rfl,?_⟩ (ih r hr);obtain⟨s',a,b⟩:=hpl i fd Iy;rw[hs]at a;cases a;exact b
   .cases h
  .cases h
def aee(hc:cop P ⟨dst,.build t parts,type,pos,after,guard⟩=some c)(hr:c.run P ρ h=some (v,h'))(hρ:∀p∈parts.toList,VR β (ρ p.2) (ρ' p.2))(hW:WR P β h w):
 Good P β h w (execOp ρ' ⟨dst,.build t parts,type,pos,after,guard⟩) v h':=by
 have hpl:(parts.map λ(x:Nat×ay)=>match x with|(i,x)=>(i,ρ' x)).toList=parts.toList.map λp=>(p.1,ρ' p.2):=s7
 simp only[cop]at hc;split at hc
 .rename_i fs z hu hz;split at hc
  .rename_i ps hps;cases hc;simp only[aK.run]at hr;split at hr
   .rename_i cs hcs;simp only[aN,dH]at hr;obtain⟨rfl,rfl⟩:=hr;obtain⟨zv,i,h1,h2,h3,h4,h5⟩:=Ch hz;unfold placesOf at hps;split at hps
    .rename_i hall;obtain⟨pl,q1,q2⟩:=run_places (P:=P) hall w;obtain⟨cs',r1,r2,r3,_⟩:=PW (β:=β) (place:=λi=>pl[i]?) (ρ:=ρ) (ρ':=ρ') parts.toList ps z z cs (aed q2 _ _ hps) (aW.free h4) (xW h4) hcs hρ;refine Good.same hW (v':=.agg ⟨cs'⟩) ?_ (.agg r3 r2);simp only[execOp,Instr.build,dM,zeroValue,Ip h1,h2,dR,fG,h3,gz hu,q1,hpl,r1]
    .cases hps
   .cases hr
  .cases hc
 .rename_i n e z hu hz;split at hc
  .rename_i s hs;cases hc;simp only[aK.run]at hr;split at hr
   .rename_i cs hcs;simp only[aN,dH]at hr;obtain⟨rfl,rfl⟩:=hr;obtain⟨zv,i,h1,h2,h3,h4,h5⟩:=Ch hz;obtain⟨hs1,hs2⟩:=wK hs;obtain⟨cs',r1,r2,r3,_⟩:=PW (β:=β) (place:=λi=>some (i*s,s)) (ρ:=ρ) (ρ':=ρ') parts.toList _ z z cs (F2.of_map (λp=>(p.1*s,s,p.2)) _ λp _=>⟨rfl,rfl⟩) (aW.free h4) (xW h4) hcs hρ;refine Good.same hW (v':=.agg ⟨cs'⟩) ?_ (.agg r3 r2);simp only[execOp,Instr.build,dM,zeroValue,Ip h1,h2,dR,fG,h3,gz hu,pF hs1,hpl,r1]
   .cases hr
  .cases hc
 .cases hc
def aef(hc:cop P ⟨dst,.load t x,type,pos,after,guard⟩=some c)(hr:c.run P ρ h=some (v,h'))(hx:VR β (ρ x) (ρ' x))(hW:WR P β h w):
 Good P β h w (execOp ρ' ⟨dst,.load t x,type,pos,after,guard⟩) v h':=by
 simp only[cop]at hc;split at hc
 .rename_i hagg;cases hs:kz P t with
  |none=>simp[hs]at hc
  |some n=>
   simp only[hs,lq,aN]at hc;subst hc;simp only[aK.run]at hr;split at hr
   .rename_i i o ha;rw[ha]at hx;obtain⟨g,hg,hx'⟩:=hx.xZ;split at hr
    .rename_i cs hcs;simp only[aN,dH]at hr;obtain⟨rfl,rfl⟩:=hr;obtain⟨blk,hb,hl⟩:=FL hcs;obtain⟨l1,l2,l',l3,l4⟩:=Lg hW hg hb hl;obtain⟨d,hd⟩:=WA hagg;refine Good.same hW (v':=.agg ⟨l'⟩) ?_ (.agg l2 l3);have:=PT (P:=P) (n:=n) (by rw[l3.length,l1]) l4;simp[execOp,Instr.loadAt,Instr.sureAddr,hx',loadVar,FK hd,hagg,pF hs,this]
    .cases hr
   .cases hr
 .rename_i hagg;split at hc
  .rename_i d hd;cases hc;simp only[aK.run]at hr;split at hr
   .rename_i i o ha;rw[ha]at hx;obtain⟨g,hg,hx'⟩:=hx.xZ;split at hr
    .rename_i u hu0;simp only[aN,dH]at hr;obtain⟨rfl,rfl⟩:=hr;obtain⟨cs,hcs,hu⟩:=WC hu0;have h7:∀(j:Nat) v,cs[j]? =some v->∃v',w.cell? ⟨g.b,g.off+j,none⟩=some v'/\VR β v v':=by
      rcases hcs with hcs|hcs
      .obtain⟨_,_,_,_,_,h7⟩:=hW.obj i g _ hg hcs;exact h7
      .obtain⟨_,_,_,h7⟩:=hW.obj i g _ hg hcs;exact h7
     rw[uw]at hu;obtain⟨v',a,b⟩:=h7 _ _ hu;refine Good.same hW (v':=v') ?_ b;have PY:kD P t=false:=by simpa using hagg
     simp[execOp,Instr.loadAt,Instr.sureAddr,hx',loadVar,FK hd,PY,a]
    .cases hr
   .cases hr
  .cases hc
def aeg(hc:cop P ⟨dst,.store t x y,type,pos,after,guard⟩=some c)(hr:c.run P ρ h=some (v,h'))(hx:VR β (ρ x) (ρ' x))(hy:VR β (ρ y) (ρ' y))(hW:WR P β h w):
 Good P β h w (execOp ρ' ⟨dst,.store t x y,type,pos,after,guard⟩) v h':=by
 simp only[cop]at hc;cases hs:kz P t with
 |none=>simp[hs]at hc
 |some n=>
  simp only[hs,lq,aN]at hc;subst hc;simp only[aK.run]at hr;split at hr
  .rename_i i o vs ha hv;rw[ha]at hx;obtain⟨g,hg,hx'⟩:=hx.xZ;cases hb:Nat.beq (jh vs) n with
   |false=>rw[hb]at hr;cases hr
   |true=>
    rw[hb]at hr;simp only[cond_true]at hr;split at hr
    .rename_i h1 hst;simp only[aN,dH]at hr;obtain⟨rfl,rfl⟩:=hr;obtain⟨c1,vs',c2,c3⟩:=hy.cells hv;obtain⟨m1,m2,m3⟩:=FM hW hg hst c3 c1;refine⟨.skip,_,β,undef,?_,.inr ⟨rfl,rfl⟩,.dX _,m2,m3⟩;have hlen:vs'.length=n:=by rw[c3.length,<- xV];exact tZ hb
     have hsz:((ρ' y).cells.size≠n)=False:=by simp[c2,hlen]
     simp[execOp,Instr.storeAt,Instr.sureAddr,hx',storeVar,pF hs,hsz,c2,m1 0 rfl,hlen]
    .cases hr
  .cases hr
end
end Go.Ideal
namespace Go.Ideal
variable {P:Program} {β:aJ} {h:IH} {w:World}
section
variable {dst:ak Tmp} {type:aD} {pos:String} {after:Array Edge} {guard:ak (Nat×Bool)} {c:aK} {ρ ρ':ay->ah} {v:ah} {h':IH}
variable{x:ay}
def aeh(hc:cop P ⟨dst,.nilCheck x,type,pos,after,guard⟩=some c)(hr:c.run P ρ h=some (v,h'))(hx:VR β (ρ x) (ρ' x))(hW:WR P β h w):
 Good P β h w (execOp ρ' ⟨dst,.nilCheck x,type,pos,after,guard⟩) v h':=by
 simp only[cop,aN]at hc;subst hc;simp only[aK.run]at hr;split at hr<;>simp only[aN,dH,reduceCtorEq]at hr
 .rename_i a ha;obtain⟨rfl,rfl⟩:=hr;rw[ha]at hx;refine Good.same hW (v':=ρ' x) ?_ hx;have:∃a',ρ' x=.pointer (some a'):=by
   generalize ρ' x=u at hx;cases hx with|ptr hi=>exact⟨_,rfl⟩
  obtain⟨a',e⟩:=this;simp[execOp,e]
 .rename_i t u ha;obtain⟨rfl,rfl⟩:=hr;rw[ha]at hx;refine Good.same hW (v':=ρ' x) ?_ hx;obtain⟨u',_,e⟩:=hx.D9;simp[execOp,e]
 .rename_i f first captured ha
  exact eo
 .rename_i t n first captured ha
  exact eo
 .rename_i l first captured ha
  exact eo
def wL(a b:Int):leZ a b=decide (a<=b):=by
 cases a<;>cases b<;>simp only[leZ]
 .rename_i x y;rw[Dx];simp[uY]
 .rename_i x y;simp;omega
 .rename_i x y;simp;omega
 .rename_i x y;rw[Dx];simp[uY];omega
def Iz(a b:Int):Fs a b=(a==b):=by
 cases a<;>cases b<;>simp only[Fs]
 .rename_i x y;rw[Dx];simp[Nat.beq_eq];omega
 .rfl
 .rfl
 .rename_i x y;rw[Dx];simp[Nat.beq_eq]
def PZ(a b:Int):Wn a b=a+b:=by cases a<;>cases b<;>rfl
def WK(a b:Int):PL a b=a - b:=by
 cases a<;>cases b<;>simp only[PL]
 rename_i x y;cases hb:Nat.ble y x with
 |true=>
  have:=pq hb;show Int.ofNat (x - y)=_;simp;omega
 |false=>
  have:¬y<=x:=λhh=>by rw[KE hh]at hb;cases hb
  show Int.negSucc ((y - x).pred)=_;simp[Int.negSucc_eq,Nat.pred_eq_sub_one];omega
def Ea(k:IntKind)(n:Int):H9 k n=k.wrap n:=by
 have hmax:PK=9223372036854775807:=rfl;have key:∀n:Int, -9223372036854775808<=n/\n<=9223372036854775807->n=IntKind.i64.wrap n:=λn hn=>(IntWalk.i64_in n hn).symm;unfold H9;split
 .rename_i m;cases hb:Nat.ble m PK with
  |true=>have:=pq hb;exact(cond_true _ _).trans (key _ (by rw[Int.ofNat_eq_natCast];omega))
  |false=>exact cond_false _ _
 .rename_i m;cases hb:Nat.ble m 1000000 with
  |true=>
   have h1:=pq hb;have h2:(-1000001:Int)<=Int.negSucc m:=by rw[Int.negSucc_eq];omega
   have h3:Int.negSucc m<=0:=by rw[Int.negSucc_eq];omega
   exact(cond_true _ _).trans (key _ ⟨Int.le_trans td h2,Int.le_trans h3 td⟩)
  |false=>exact cond_false _ _
 .rfl
variable{k:IntKind}
def WL{j:IntKind}(h:xR j k=true):j=k:=by
 cases j<;>cases k<;>first|rfl|(simp[xR]at h)
variable{t:aD}{op:BinOp}
def aei{a b:Int}{v:ah}(h:rJ op k a b=some v)(w:World):(binOp op t (.int k a) (.int k b)).run P w=.ok v w:=by
 unfold rJ at h;split at h<;>simp only[aN,reduceCtorEq]at h<;>subst h
 .simp[binOp,Op.intArith,Ea,PZ]
 .simp[binOp,Op.intArith,Ea,WK]
 .simp[binOp,Op.intCmp,Iz]
 .simp[binOp,Op.intCmp,Iz];rfl
 .exact mj
 .exact mj
 .exact mj
 .exact mj
def P5(op:BinOp)(t:aD)(x y:ay)(a b:ah)(w:World)(h1:∀u,a≠.agg u)(h2:¬(a=.nilIface/\b=.nilIface)):(eqGuard op t x y a b).run P w=.ok () w:=by
 cases op<;>first
  |rfl
  |(cases a<;>first
   |rfl
   |exact absurd rfl (h1 _)
   |(cases b<;>first
    |rfl
    |exact absurd ⟨rfl,rfl⟩ h2))
def aej(d:Nat){t:aD}{a b a' b':ah}{r:Bool}(h:wH P t a b=some r)(ha:VR β a a')(hb:VR β b b')(w:World):
 (Op.equalIn (d+1) t a' b').run P w=.ok r w/\(∀u,a'≠.agg u)/\¬(a'=.nilIface/\b'=.nilIface)/\(∀k n,a'≠.int k n)/\(∀s,a'≠.string s)/\(∀k n,a'≠.float k n)/\(∀k n m,a'≠.complex k n m):=by
 cases hu:P.underlying t with
 |none=>unfold wH at h;simp[hu]at h
 |some ty=>
  unfold wH at h;rw[hu]at h;split at h<;>simp only[aN,reduceCtorEq]at h<;>subst h
  all_goals
   have he:=‹some ty=some _›;obtain rfl:=Option.some.inj he;cases ha<;>cases hb<;>refine⟨?_,s7,s7,s7,s7,s7,s7⟩<;>(unfold Op.equalIn;simp only[dM,gz hu,dR];rfl)
def WM{a b a' b':ah}{r:Bool}(h:wH P t a b=some r)(ha:VR β a a')(hb:VR β b b')(w:World):
 (Op.equal t a' b').run P w=.ok r w/\(∀u,a'≠.agg u)/\¬(a'=.nilIface/\b'=.nilIface)/\(∀k n,a'≠.int k n)/\(∀s,a'≠.string s)/\(∀k n,a'≠.float k n)/\(∀k n m,a'≠.complex k n m):=
 aej 9999 h ha hb w
def IA{s:Sem ah}{v:ah}(h:lN P s=some v):dK P s=some v/\dG v=true:=by
 unfold lN at h;split at h
 .rename_i u hu;cases hf:dG u with
  |true=>rw[hf]at h;simp only[cond_true,aN]at h;subst h;exact⟨hu,hf⟩
  |false=>rw[hf]at h;cases h
 .cases h
variable{y:ay}
def aek{yt:aD}(hc:cop P ⟨dst,.binOp op t x y yt,type,pos,after,guard⟩=some c)(hr:c.run P ρ h=some (v,h'))(hx:VR β (ρ x) (ρ' x))(hy:VR β (ρ y) (ρ' y))(hW:WR P β h w):
 Good P β h w (execOp ρ' ⟨dst,.binOp op t x y yt,type,pos,after,guard⟩) v h':=by
 simp only[cop,aN]at hc;subst hc;simp only[aK.run]at hr;split at hr
 .rename_i u hu;simp only[aN,dH]at hr;obtain⟨rfl,rfl⟩:=hr;unfold l7 at hu;split at hu
  .
   rename_i v1 hv1;simp only[aN]at hu;subst hu;split at hv1
   .rename_i j m k n hm hn;cases hk:xR j k with
    |false=>rw[hk]at hv1;cases hv1
    |true=>
     rw[hk]at hv1;simp only[cond_true]at hv1;have:=WL hk;subst this;rw[hm]at hx;rw[hn]at hy;have hx':=hx.mP;have hy':=hy.mP;have hfree:dG v1=true:=by
      unfold rJ at hv1;split at hv1<;>simp only[aN,reduceCtorEq]at hv1<;>subst hv1<;>rfl
     refine Good.same hW (v':=v1) ?_ (VR.free hfree);simp only[execOp,hx',hy',dM,P5 op t x y (.int j m) (.int j n) w s7 s7,dR,aei hv1,fG]
   .cases hv1
  .cases hf:dG (ρ x)&&dG (ρ y)with
   |true=>
    rw[hf]at hu;simp only[cond_true]at hu;simp only[eP]at hf;have hx':=hx.rM hf.1;have hy':=hy.rM hf.2;obtain⟨hu1,hu2⟩:=IA hu;have hrun:=Cf hu1 w;refine Good.same hW (v':=u) ?_ (VR.free hu2);simp only[execOp,hx',hy'];simp only[dM]at hrun⊢;rw[hrun];rfl
   |false=>
    rw[hf]at hu;simp only[cond_false]at hu;have WN:∀(a b:ah),(∀k n,a≠.int k n)->(∀s,a≠.string s)->(∀k n,a≠.float k n)->(∀k n m,a≠.complex k n m)->
     binOp .eql t a b=(do pure (.bool (<- Op.equal t a b)))/\binOp .neq t a b=(do pure (.bool (!(<- Op.equal t a b)))):=by
     intro a b h1 h2 h3 h4;constructor<;>unfold binOp<;>cases a<;>first|rfl|exact absurd rfl (h1 _ _)|exact absurd rfl (h2 _)|exact absurd rfl (h3 _ _)|exact absurd rfl (h4 _ _ _)
    split at hu
    .split at hu
     .rename_i r hr2;simp only[aN]at hu;subst hu;obtain⟨e1,e2,e3,e4,e5,e6,e7⟩:=WM hr2 hx hy w;refine Good.same hW (v':=.bool r) ?_ (.bool r);simp only[execOp,dM,P5 _ t x y _ _ w e2 e3,dR,(WN _ _ e4 e5 e6 e7).1,e1,fG]
     .cases hu
    .split at hu
     .rename_i r hr2;simp only[aN]at hu;subst hu;obtain⟨e1,e2,e3,e4,e5,e6,e7⟩:=WM hr2 hx hy w;refine Good.same hW (v':=.bool !r) ?_ (.bool _);simp only[execOp,dM,P5 _ t x y _ _ w e2 e3,dR,(WN _ _ e4 e5 e6 e7).2,e1,fG]
     .cases hu
    .cases hu
 .cases hr
def ael{op:UnOp}(hc:cop P ⟨dst,.unOp op t x,type,pos,after,guard⟩=some c)(hr:c.run P ρ h=some (v,h'))(hx:VR β (ρ x) (ρ' x))(hW:WR P β h w):
 Good P β h w (execOp ρ' ⟨dst,.unOp op t x,type,pos,after,guard⟩) v h':=by
 simp only[cop,aN]at hc;subst hc;simp only[aK.run]at hr;cases hf:dG (ρ x)with
 |false=>rw[hf]at hr;cases hr
 |true=>
  exact eA
def aem(hc:cop P ⟨dst,.makeInterface t x,type,pos,after,guard⟩=some c)(hr:c.run P ρ h=some (v,h'))(hx:VR β (ρ x) (ρ' x))(hW:WR P β h w):
 Good P β h w (execOp ρ' ⟨dst,.makeInterface t x,type,pos,after,guard⟩) v h':=by
 simp only[cop]at hc;split at hc
 .cases hc
 .rename_i d hni hu;cases hc;simp only[aK.run,aN,dH]at hr;obtain⟨rfl,rfl⟩:=hr;refine Good.same hW (v':=.iface t (ρ' x)) ?_ (.iface t hx);simp only[execOp,Instr.makeInterface,dM,gz hu,dR];cases d<;>first|rfl|exact absurd rfl (hni _)
 .cases hc
variable{fn:Fn}
def FR.refl(h:K7 fn=true):FR β fn fn:=by
 cases fn with
 |func f=>exact .func f
 |method n=>exact .method n
 |methodOf t n=>exact .methodOf t n
 |via=>simp[K7]at h
 |yield l=>simp[K7]at h
def aen{first captured:Array ay}(hc:cop P ⟨dst,.makeFunc fn first captured,type,pos,after,guard⟩=some c)(hr:c.run P ρ h=some (v,h'))
 (hf:∀x∈first.toList,VR β (ρ x) (ρ' x)) (hk:∀x∈captured.toList,VR β (ρ x) (ρ' x)) (hW:WR P β h w):
 Good P β h w (execOp ρ' ⟨dst,.makeFunc fn first captured,type,pos,after,guard⟩) v h':=by
 simp only[cop]at hc;split at hc
 .rename_i hfn;cases hc;simp only[aK.run,aN,dH]at hr;obtain⟨rfl,rfl⟩:=hr;refine Good.same hW (v':=.func fn (first.map ρ') (captured.map ρ')) (by simp[execOp,Instr.makeFunc]) ?_;have e1:first.map ρ'=⟨first.toList.map ρ'⟩:=by apply Array.ext';rw[Pe]
  have e2:captured.map ρ'=⟨captured.toList.map ρ'⟩:=by apply Array.ext';rw[Pe]
  rw[e1,e2];exact .func (FR.refl hfn) (aW.of_map hf) (aW.of_map hk)
 .cases hc
variable{n:Nat}
def aeo{a:Addr}{f:Field}(hs:kz P f.type=some n)(hn:0<n)(w:World):(fieldPlace a f).run P w=.ok (a.add f.offset) w:=by
 simp only[fieldPlace,dM,pF hs,dR];rw[if_neg s6];rfl
variable{f:Nat}
def aep{s:aD}(hc:cop P ⟨dst,.fieldAddr s x f,type,pos,after,guard⟩=some c)(hr:c.run P ρ h=some (v,h'))(hx:VR β (ρ x) (ρ' x))(hW:WR P β h w):
 Good P β h w (execOp ρ' ⟨dst,.fieldAddr s x f,type,pos,after,guard⟩) v h':=by
 simp only[cop]at hc;split at hc
 .rename_i fs hu;split at hc
  .rename_i fd Iy;cases hs:pU P fd.type with
   |none=>simp[hs]at hc
   |some n=>
    simp only[hs,lq,aN]at hc;subst hc;obtain⟨hs1,hs2⟩:=wK hs;simp only[aK.run]at hr;split at hr
    .rename_i i o ha;rw[ha]at hx;obtain⟨g,hg,hx'⟩:=hx.xZ;simp only[aN,dH]at hr;obtain⟨rfl,rfl⟩:=hr;refine Good.same hW (v':=.pointer (some ⟨g.b,g.off+(o+fd.offset),none⟩)) ?_ (.ptr hg);simp only[execOp,Instr.fieldAt,dM,gz hu,dR,Iy,hx',Instr.sureAddr,fG,aeo hs1 hs2,addr_add,l5]
    .cases hr
  .cases hc
 .cases hc
def WO{cs cs':ae ah}{off:Nat}{d:TypeDesc}(hd:P.underlying t=some d)(hs:kz P t=some n)(hv:aW β cs cs')(hall:cs.all cellV=true){v:ah}
 (hr:(match kD P t with
   |true=>match jM (kw cs off) n with
    |some l=>some (.agg ⟨l⟩:ah)
    |none=>none
   |false=>lC cs off)=some v) (w:World):∃v',(part t ⟨cs'⟩ off).run P w=.ok v' w/\VR β v v':=by
 cases hagg:kD P t with
 |true=>
  rw[hagg]at hr;simp only at hr;rw[qJ,qp]at hr;split at hr
  .rename_i l hl;split at hl
   .rename_i hn;cases hl;simp only[aN]at hr;subst hr;refine⟨.agg ⟨(cs'.drop off).take n⟩,?_,.agg ?_ ((hv.drop off).take n)⟩
    .simp only[part,dM,FK hd,hagg,dR,if_true,pF hs,fG];congr 2;apply Array.ext';simp[Array.toList_extract,VJ]
    .rw[jy]at hall⊢;exact λx hx=>hall x (E9 (xK hx))
   .cases hl
  .cases hr
 |false=>
  rw[hagg]at hr;simp only at hr;rw[uw]at hr;obtain⟨v',h1,h2⟩:=hv.get hr;refine⟨v',?_,h2⟩;simp only[part,dM,FK hd,hagg,dR,ww,if_false];have:(⟨cs'⟩:Array ah)[off]? =some v':=tI
  simp[this]
def aeq(hc:cop P ⟨dst,.field t x f,type,pos,after,guard⟩=some c)(hr:c.run P ρ h=some (v,h'))(hx:VR β (ρ x) (ρ' x))(hW:WR P β h w):
 Good P β h w (execOp ρ' ⟨dst,.field t x f,type,pos,after,guard⟩) v h':=by
 simp only[cop]at hc;split at hc
 .rename_i fs hu;split at hc
  .rename_i fd Iy;split at hc
   .rename_i n d hs hd;cases hc;simp only[aK.run]at hr;split at hr
    .rename_i cs ha;rw[ha]at hx;obtain⟨cs',h1,h2,hx'⟩:=hx.PU;have hr':h'=h/\(match kD P fd.type with
      |true=>match jM (kw cs fd.offset) n with
       |some l=>some (.agg ⟨l⟩:ah)
       |none=>none
      |false=>lC cs fd.offset)=some v:=by
      cases hagg:kD P fd.type with
      |true=>
       exact sY
      |false=>
       exact sY
     obtain⟨rfl,hr2⟩:=hr';obtain⟨v',p1,p2⟩:=WO hd hs h1 h2 hr2 w;refine Good.same hW (v':=v') ?_ p2;simp only[execOp,Instr.field,dM,gz hu,dR,Iy,hx',asAgg,fG,p1]
    .cases hr
   .cases hc
  .cases hc
 .cases hc
def aer(hc:cop P ⟨dst,.indexAddr t x y,type,pos,after,guard⟩=some c)(hr:c.run P ρ h=some (v,h'))(hx:VR β (ρ x) (ρ' x))(hy:VR β (ρ y) (ρ' y))(hW:WR P β h w):
 Good P β h w (execOp ρ' ⟨dst,.indexAddr t x y,type,pos,after,guard⟩) v h':=by
 simp only[cop]at hc;split at hc
 .rename_i n e hu;cases hs:pU P e with
  |none=>simp[hs]at hc
  |some s=>
   simp only[hs,lq,aN]at hc;subst hc;obtain⟨hs1,hs2⟩:=wK hs;simp only[aK.run]at hr;split at hr
   .rename_i b o k i ha hi;rw[ha]at hx;rw[hi]at hy;obtain⟨g,hg,hx'⟩:=hx.xZ;have hy':=hy.mP;cases hb:Nat.blt i n with
    |false=>rw[hb]at hr;cases hr
    |true=>
     rw[hb]at hr;simp only[cond_true,aN,dH]at hr;obtain⟨rfl,rfl⟩:=hr;have hlt:i<n:=tM
     refine Good.same hW (v':=.pointer (some ⟨g.b,g.off+Nat.add o (Nat.mul i s),none⟩)) ?_ (.ptr hg);simp only[execOp,Instr.indexAt,dM,hy',asIntOf,fG,dR,gz hu,hx',Instr.sureAddr];exact pB
   .cases hr
 .rename_i e hu;cases hs:pU P e with
  |none=>simp[hs]at hc
  |some s=>
   simp only[hs,lq,aN]at hc;subst hc;obtain⟨hs1,hs2⟩:=wK hs;simp only[aK.run]at hr;split at hr
   .rename_i b o f n k' k i ha hi;rw[ha]at hx;rw[hi]at hy;obtain⟨g,a,c',hg,hx',ha1,ha2,hn,hcc,hoff,_⟩:=hx.oJ;have hy':=hy.mP;cases hb:Nat.blt i n with
    |false=>rw[hb]at hr;cases hr
    |true=>
     rw[hb]at hr;simp only[cond_true,aN,dH]at hr;obtain⟨rfl,rfl⟩:=hr;have hlt:i<n:=tM
     have hae:a=⟨g.b,g.off+o,none⟩:=by
      rcases hoff with h0|⟨h0,ha2⟩
      .omega
      .obtain⟨ab,ao,as⟩:=a;simp at ha1 ha2 h0;subst ha1 ha2 h0;rfl
     refine Good.same hW (v':=.pointer (some ⟨g.b,g.off+Nat.add o (Nat.mul i s),none⟩)) ?_ (.ptr hg);simp only[execOp,Instr.indexAt,dM,hy',asIntOf,fG,dR,gz hu,hx',hae];exact pB
   .cases hr
 .cases hc
def aes{i:Nat}(hc:cop P ⟨dst,.extract x i,type,pos,after,guard⟩=some c)(hr:c.run P ρ h=some (v,h'))(hx:VR β (ρ x) (ρ' x))(hW:WR P β h w):
 Good P β h w (execOp ρ' ⟨dst,.extract x i,type,pos,after,guard⟩) v h':=by
 simp only[cop,aN]at hc;subst hc;simp only[aK.run]at hr;split at hr
 .rename_i vs ha;split at hr
  .rename_i u hu;simp only[aN,dH]at hr;obtain⟨rfl,rfl⟩:=hr;rw[ha]at hx;rw[uw]at hu;generalize hy:ρ' x=y at hx;cases hx with
   |dX=>simp at hu
   |tuple hl=>
    obtain⟨v',h1,h2⟩:=hl.get hu;refine Good.same hW (v':=v') ?_ h2;rename_i l';have:(⟨l'⟩:Array ah)[i]? =some v':=tI
    simp[execOp,Instr.extract,hy,this]
  .cases hr
 .cases hr
end
end Go.Ideal
namespace Go.Ideal
variable {P:Program} {β:aJ} {h:IH} {w:World}
variable{m i:Nat}{v:ah}
def Eb(h:upTo m v=some i):∃k,v=.int k i/\i<=m:=by
 unfold upTo at h;split at h
 .rename_i k n;cases hb:Nat.ble n m with
  |true=>rw[hb]at h;simp only[cond_true,aN]at h;subst h;exact⟨k,rfl,pq hb⟩
  |false=>rw[hb]at h;cases h
 .cases h
def Av{y:Nat}{code:BoundsCode}(h:upTo m v=some i)(hm:m<=y)(w:World):(Instr.sliceBound v y code).run P w=.ok i w:=by
 obtain⟨k,rfl,hle⟩:=Eb h;simp only[Instr.sliceBound,asIntOf,dM,fG,dR];rw[if_pos ⟨s6,s6⟩];simp
variable{len cap l hh:Nat}{lo hi mx:ak ah}
def IB(h:bounds? len cap lo hi mx=some (l,hh,m)):
 (∀v,mx=some v->upTo cap v=some m)/\(mx=none->m=cap)/\(∀v,hi=some v->upTo m v=some hh)/\(hi=none->mx=none/\hh=len)/\
 (∀v,lo=some v->upTo hh v=some l)/\(lo=none->l=0):=by
 unfold bounds? at h;split at h
 .cases h
 .rename_i m' hm;split at h
  .cases h
  .rename_i h1 hhi;split at h
   .cases h
   .rename_i l1 hlo;simp only[aN,dH]at h;obtain⟨rfl,rfl,rfl⟩:=h;refine⟨?_,?_,?_,?_,?_,?_⟩
    .rintro v rfl;exact hm
    .rintro rfl;simp at hm;exact hm.symm
    .rintro v rfl;exact hhi
    .rintro rfl;cases mx with
     |some v=>simp at hhi
     |none=>simp at hhi;exact⟨rfl,hhi.symm⟩
    .rintro v rfl;exact hlo
    .rintro rfl;simp at hlo;exact hlo.symm
def P6(h:bounds? len cap lo hi mx=some (l,hh,m))(hlc:len<=cap):l<=hh/\hh<=m/\m<=cap:=by
 obtain⟨h1,h2,h3,h4,h5,h6⟩:=IB h;refine⟨?_,?_,?_⟩
 .cases lo with
  |some v=>obtain⟨_,_,hle⟩:=Eb (h5 v rfl);exact hle
  |none=>rw[h6 rfl];exact bM _
 .cases hi with
  |some v=>obtain⟨_,_,hle⟩:=Eb (h3 v rfl);exact hle
  |none=>obtain⟨q1,q2⟩:=h4 rfl;rw[q2,h2 q1];exact hlc
 .cases mx with
  |some v=>obtain⟨_,_,hle⟩:=Eb (h1 v rfl);exact hle
  |none=>rw[h2 rfl];exact aZ _
def Ll{IC:Bool}{cap':Nat}(h:bounds? len cap lo hi mx=some (l,hh,m))(hc:cap<=cap')(w:World):
 (Instr.sliceBounds IC len cap' lo hi mx).run P w=.ok (l,hh,if mx.isSome then m else cap') w:=by
 obtain⟨h1,h2,h3,h4,h5,h6⟩:=IB h;unfold Instr.sliceBounds;cases mx with
 |some v=>
  have h1:=h1 v rfl;cases hi with
  |none=>exact absurd (h4 rfl).1 s7
  |some u=>
   have h3:=h3 u rfl;cases lo with
   |none=>have h6:=h6 rfl;subst h6;simp[Av h1 hc,Av h3 (aZ _)]
   |some x=>have h5:=h5 x rfl;simp[Av h1 hc,Av h3 (aZ _),Av h5 (aZ _)]
 |none=>
  have h2:=h2 rfl;subst h2;cases hi with
  |none=>
   obtain⟨_,rfl⟩:=h4 rfl;cases lo with
   |none=>have h6:=h6 rfl;subst h6;simp
   |some x=>have h5:=h5 x rfl;simp[Av h5 (aZ _)]
  |some u=>
   have h3:=h3 u rfl;cases lo with
   |none=>have h6:=h6 rfl;subst h6;simp[Av h3 hc]
   |some x=>have h5:=h5 x rfl;simp[Av h3 hc,Av h5 (aZ _)]
def P7(h:bounds? len cap lo hi mx=some (l,hh,m)):(if mx.isSome then m else cap)=m:=by
 obtain⟨_,h2,_⟩:=IB h;cases mx with
 |some v=>rfl
 |none=>rw[h2 rfl];rfl
def P8{lo hi mx:ak ay}{ρ ρ':ay->ah}{r:Nat×Nat×Nat}(h:bounds? len cap (jI ρ lo) (jI ρ hi) (jI ρ mx)=some r)
 (hl:∀x,lo=some x->VR β (ρ x) (ρ' x)) (hh:∀x,hi=some x->VR β (ρ x) (ρ' x)) (hm:∀x,mx=some x->VR β (ρ x) (ρ' x)):
 lo.map ρ'=jI ρ lo/\hi.map ρ'=jI ρ hi/\mx.map ρ'=jI ρ mx:=by
 obtain⟨l,hi2,m⟩:=r;obtain⟨h1,_,h3,_,h5,_⟩:=IB h;refine⟨?_,?_,?_⟩
 .cases lo with
  |none=>rfl
  |some x=>
   obtain⟨k,hk,_⟩:=Eb (h5 _ rfl);have:=hl x rfl;exact qq
 .cases hi with
  |none=>rfl
  |some x=>
   obtain⟨k,hk,_⟩:=Eb (h3 _ rfl);have:=hh x rfl;exact qq
 .cases mx with
  |none=>rfl
  |some x=>
   obtain⟨k,hk,_⟩:=Eb (h1 _ rfl);have:=hm x rfl;exact qq
section
variable {dst:ak Tmp} {type:aD} {pos:String} {after:Array Edge} {guard:ak (Nat×Bool)} {c:aK} {ρ ρ':ay->ah} {v:ah} {h':IH}
def aet{t:aD}{x:ay}{lo hi mx:ak ay}(hc:cop P ⟨dst,.slice t x lo hi mx,type,pos,after,guard⟩=some c)(hr:c.run P ρ h=some (v,h'))(hx:VR β (ρ x) (ρ' x))
 (hl:∀x,lo=some x->VR β (ρ x) (ρ' x)) (hh:∀x,hi=some x->VR β (ρ x) (ρ' x)) (hm:∀x,mx=some x->VR β (ρ x) (ρ' x)) (hW:WR P β h w):
 Good P β h w (execOp ρ' ⟨dst,.slice t x lo hi mx,type,pos,after,guard⟩) v h':=by
 simp only[cop]at hc;split at hc
 .
  rename_i hu;cases hc;simp only[aK.run]at hr;split at hr
  .rename_i s hs;split at hr
   .rename_i b hb;split at hr
    .rename_i u hu2;simp only[aN,dH]at hr;obtain⟨rfl,rfl⟩:=hr;obtain⟨h1,h2⟩:=IA hu2;rw[hs]at hx;have hx':=hx.D8;obtain⟨e1,e2,e3⟩:=P8 hb hl hh hm;refine Good.same hW (v':=u) ?_ (VR.free h2);simp only[execOp,Instr.sliceAt,dM,gz hu,dR,hx',e1,e2,e3,Cf h1 w,fG]
    .cases hr
   .cases hr
  .cases hr
 .
  rename_i n e hu;cases hs:pU P e with
  |none=>simp[hs]at hc
  |some s=>
   simp only[hs,lq,aN]at hc;subst hc;obtain⟨hs1,hs2⟩:=wK hs;simp only[aK.run]at hr;split at hr
   .rename_i i o ha;split at hr
    .rename_i l h1 m hb;simp only[aN,dH]at hr;obtain⟨rfl,rfl⟩:=hr;rw[ha]at hx;obtain⟨g,hg,hx'⟩:=hx.xZ;obtain⟨e1,e2,e3⟩:=P8 hb hl hh hm;have b1:=Ll (P:=P) (IC:=false) hb (aZ _) w;rw[P7 hb]at b1;have hlen:=P6 hb (aZ _);refine Good.same hW (v':=.slice (some (if m=l then(⟨g.b,g.off+o,none⟩:Addr)else(⟨g.b,g.off+o,none⟩:Addr).add (l*s))) (h1 - l) (m - l)) ?_ ?_
     .simp only[execOp,Instr.sliceAt,dM,gz hu,dR,hx',Instr.sureAddr,fG,e1,e2,e3,b1,pF hs1]
     .refine .az hg ?_ xb ?_
      .split<;>simp[addr_add]
      .by_cases hml:m=l
       .left;show m - l=0;omega
       .right;rw[if_neg hml,addr_add];simp[l5]
    .cases hr
   .cases hr
 .
  rename_i e hu;cases hs:pU P e with
  |none=>simp[hs]at hc
  |some s=>
   simp only[hs,lq,aN]at hc;subst hc;obtain⟨hs1,hs2⟩:=wK hs;simp only[aK.run]at hr;split at hr
   .rename_i a len cap ha;split at hr
    .rename_i l h1 m hb;rw[ha]at hx;obtain⟨e1,e2,e3⟩:=P8 hb hl hh hm;split at hr
     .
      simp only[aN,dH]at hr;obtain⟨rfl,rfl⟩:=hr;have hx':ρ' x=.slice none len cap:=by generalize ρ' x=y at hx;cases hx;rfl
      have b1:=Ll (P:=P) (IC:=true) hb (aZ _) w;rw[P7 hb]at b1;refine Good.same hW (v':=.slice none (h1 - l) (m - l)) ?_ (.sl0 _ _);exact mN
     .
      rename_i i o;simp only[aN,dH]at hr;obtain⟨rfl,rfl⟩:=hr;obtain⟨g,a',c',hg,hx',ha1,ha2,hn,hcc,hoff,hkind⟩:=hx.oJ;have hc':c'=cap:=by
       rcases hkind with hk|hk
       .exact hk.2
       .have:=hk.1;simp at this;omega
      subst hc';have b1:=Ll (P:=P) (IC:=true) hb (aZ _) w;rw[P7 hb]at b1;have hlen:=P6 hb hn;obtain⟨ab,ao,as⟩:=a';simp only at ha1 hoff;subst ha1;refine Good.same hW (v':=.slice (some (if m=l then(⟨g.b,ao,as⟩:Addr)else(⟨g.b,ao,as⟩:Addr).add (l*s))) (h1 - l) (m - l)) ?_ ?_
      .exact mN
      .refine .az hg ?_ xb ?_
       .split
        .rfl
        .simp only[Addr.add];split<;>rfl
       .by_cases hml:m=l
        .left;show m - l=0;omega
        .right;rw[if_neg hml];rcases hoff with h0|⟨h0,hs0⟩
         .omega
         .subst h0 hs0;rw[addr_add];simp[l5]
     .
      rename_i i o k;cases hbk:Nat.beq (Nat.succ k) s with
      |false=>rw[hbk]at hr;cases hr
      |true=>
       rw[hbk]at hr;have hks:k+1=s:=tZ hbk;simp only[cond_true,aN,dH]at hr;obtain⟨rfl,rfl⟩:=hr;obtain⟨g,a',c',hg,hx',ha1,ha2,hn,hcc,hoff,hkind⟩:=hx.oJ;obtain⟨hsz,hpos,hl1,hl2,ha2⟩:g.sz=s/\0<g.sz/\o+cap*g.sz=g.len/\g.off+o+c'*g.sz=g.top/\a'.spot=none:=by
        rcases hkind with hk|hk
        .have:=hk.1;simp at this
        .have:=hk.1;simp at this;exact⟨s6,hk.2.1,hk.2.2.1,hk.2.2.2⟩
       have b1:=Ll (P:=P) (IC:=true) hb hcc w;have hlen:=P6 hb hn;have P9:c'=0\/a'.off=g.off+o:=hoff.imp id (·.1);clear hoff;obtain⟨ab,ao,as⟩:=a';simp only at ha1 ha2 P9;subst ha1 ha2;have hrun:∀m',(Instr.sliceBounds true len c' (jI ρ lo) (jI ρ hi) (jI ρ mx)).run P w=.ok (l,h1,m') w->
        (execOp ρ' ⟨dst,.slice t x lo hi mx,type,pos,after,guard⟩).run P w=.ok (.value (.slice (some (if m'=l then(⟨g.b,ao,none⟩:Addr)else(⟨g.b,ao,none⟩:Addr).add (l*s))) (h1 - l) (m' - l))) w:=by
        intro m' hm';simp only[execOp,Instr.sliceAt,Instr.slice,dM,gz hu,dR,hx',e1,e2,e3,hm',pF hs1,fG];split<;>rfl
       cases hmx:mx with
       |some xx=>
        subst hmx;have hmm:(if(jI ρ (some xx)).isSome then m else c')=m:=rfl;rw[hmm]at b1;refine Good.same hW (hrun m b1) ?_;refine .az hg ?_ xb ?_
        .split<;>simp[addr_add]
        .by_cases hml:m=l
         .left;show m - l=0;omega
         .right;rw[if_neg hml,addr_add];rcases P9 with h0|h0
          .omega
          .have h0':ao=g.off+o:=h0;refine⟨?_,rfl⟩;show ao+l*s=g.off+(o+l*s)
           omega
       |none=>
        subst hmx;have hmm:(if(jI ρ (none:ak ay)).isSome then m else c')=c':=rfl;rw[hmm]at b1;have aeu:m=cap:=by
         obtain⟨_,q1,_⟩:=IB hb;exact q1 rfl
        subst aeu;refine Good.same hW (hrun c' b1) ?_;have aev:(some (Nat.succ k):ak Nat)=some g.sz:=by rw[hsz,<- hks]
        simp only[aev];have hlc:l*s+(m - l)*s=m*s:=by rw[<- rD];congr 1;omega
        have asV:l*s+(c' - l)*s=c'*s:=by rw[<- rD];congr 1;omega
        refine .pW hg ?_ ?_ xb hpos ?_ ?_ (by show m - l<=c' - l;omega) ?_
        .split<;>simp[addr_add]
        .split<;>simp[addr_add]
        .show o+l*s+(m - l)*g.sz=g.len;rw[hsz]at hl1⊢;omega
        .show g.off+(o+l*s)+(c' - l)*g.sz=g.top;rw[hsz]at hl2⊢;omega
        .by_cases hml:c'=l
         .left;omega
         .right;rw[if_neg hml,addr_add];rcases P9 with h0|h0
          .omega
          .subst h0;simp[l5]
     .cases hr
    .cases hr
   .cases hr
 .cases hc
end
end Go.Ideal
namespace Go.Ideal
variable {P:Program} {β:aJ} {h:IH} {w:World}
def fP{α γ:Type}(s:Sem α)(f:α->Sem γ):dK P (s>>=f)=(dK P s).bind λa=>dK P (f a):=by
 show dK P (Sem.bind s f)=_;induction s with
 |pure a=>rfl
 |program k ih=>exact ih _
 |mark m k ih=>exact ih
 |_=>rfl
variable{kt:aD}{k:ah}
def Qa(h:uh P kt k=true)(b:Bool)(w:World):(Instr.checkKey b 10000 kt k).run P w=.ok () w:=by
 unfold uh at h;simp only[eP]at h;obtain⟨_,h⟩:=h;split at h
 .rename_i x y hx hy;cases b
  .exact Cf hy w
  .exact Cf hx w
 .cases h
def Qb(h:uh P kt k=true):dG k=true:=by
 unfold uh at h;simp only[eP]at h;exact h.1
inductive IE(β:aJ):Option (Nat×Value)->Option (Nat×Value)->Prop
 |none:IE β none none
 |some (i:Nat) {v v':Value} (h:VR β v v'):IE β (some (i,v)) (some (i,v'))
variable{es es':ae MapEntry}
def aew{kd:TypeDesc}(he:gY β es es'):∀(i:Nat),
 (∀r,Instr.findNow kd k es i=some r->∃r',Instr.findNow kd k es' i=some r'/\IE β r r')/\(Instr.findNow kd k es i=none->Instr.findNow kd k es' i=none):=by
 induction he with
 |nil=>intro i;exact⟨λr hr=>by simp only[Instr.findNow,aN]at hr;subst hr;exact⟨_,rfl,.none⟩,λhr=>by simp[Instr.findNow]at hr⟩
 | @cons e e' l l' hk hf hb hv hl ih=>
   intro i;simp only[Instr.findNow,hk];cases hs:Instr.sameNow kd k e.key with
   |none=>exact⟨λr hr=>(by cases hr),λ_=>rfl⟩
   |some b=>cases b with
    |true=>exact⟨λr hr=>by simp only[aN]at hr;subst hr;exact⟨_,rfl,.some i hv⟩,λhr=>by simp at hr⟩
    |false=>exact ih (i+1)
def aex(he:gY β es es')(w:World):∀(i:Nat) r,
 dK P (Instr.findAsking kt k es i)=some r->∃r',(Instr.findAsking kt k es' i).run P w=.ok r' w/\IE β r r':=by
 induction he with
 |nil=>intro i r hr;simp only[Instr.findAsking]at hr;change some none=some r at hr;simp only[aN]at hr;subst hr;exact⟨none,rfl,.none⟩
 | @cons e e' l l' hk hf hb hv hl ih=>
   intro i r hr;simp only[Instr.findAsking,fP]at hr;cases hq:dK P (Op.equal kt k e.key)with
   |none=>rw[hq]at hr;cases hr
   |some b=>
    rw[hq]at hr;simp only[Instr.findAsking,hk,dM,Cf hq w,dR];cases b with
    |true=>
     change some (some (i,e.val))=some r at hr
     simp only[aN]at hr;subst hr;exact⟨_,rfl,.some i hv⟩
    |false=>exact ih (i+1) r hr
def WQ(he:gY β es es')(w:World){r:ak (Nat×ah)}(hr:wG P kt k es=some r):
 ∃r',(Instr.findKey kt k es').run P w=.ok r' w/\IE β r r':=by
 unfold wG Instr.findKey at hr;rw[fP]at hr;cases hu:P.underlying kt with
 |none=>
  have:dK P (underlying kt)=none:=by simp[underlying,program,dK,hu,bind,Sem.bind,stuck]
  rw[this]at hr;cases hr
 |some d=>
  have:dK P (underlying kt)=some d:=by simp[underlying,program,dK,hu,bind,Sem.bind];rfl
  rw[this]at hr;simp only[iL]at hr;obtain⟨n1,n2⟩:=aew (β:=β) (kd:=d) (k:=k) he 0;simp only[Instr.findKey,dM,gz hu,dR];split at hr
  .rename_i r1 hr1;change some r1=some r at hr
   simp only[aN]at hr;subst hr;obtain⟨r',h1,h2⟩:=n1 _ hr1;rw[h1];exact⟨r',rfl,h2⟩
  .rename_i hr1;rw[n2 hr1];exact aex he w 0 r hr
def WS{m m':ah}(hW:WR P β h w)(hm:VR β m m')(he:entriesOf m h=some es):
 (m=.map none/\m'=.map none/\es=[])\/∃i g es' clock clock',m=.map (some i)/\h.get i=some (.map es clock)/\β i=some g/\m'=.map (some g.b)/\w.heap[g.b]? =some (.map es' clock')/\clock'=clock/\gY β es es'.toList:=by
 unfold entriesOf at he;split at he
 .simp only[aN]at he;subst he;left;cases hm;exact⟨rfl,rfl,rfl⟩
 .rename_i i;split at he
  .rename_i es1 clock hg;simp only[aN]at he;subst he;obtain⟨g,hb,rfl⟩:=hm.FN;obtain⟨es',h1,h2⟩:=hW.obj i g _ hb hg;exact .inr ⟨i,g,es',clock,clock,rfl,hg,hb,rfl,h1,rfl,h2⟩
  .cases he
 .cases he
def gY.length{l l':ae MapEntry}(he:gY β l l'):l'.length=l.length:=by
 induction he with
 |nil=>rfl
 |cons _ _ _ _ _ ih=>simp[ih]
variable{b:Nat}{o:Obj}
def Aw(h:w.heap[b]? =some o)(hn:∀c t f,o≠.cells c t f):(getObj b).run P w=.ok o w:=by
 simp only[getObj,Sem.run,h]
def Qc{o0:Obj}(h:w.heap[b]? =some o0)(hn:∀c t f,o0≠.cells c t f):(setObj b o).run P w=.ok () {w with heap:=w.heap.setIfInBounds b o}:=by
 simp only[setObj,Sem.run,h]
def IG(ok:Bool)(z:ah):ak (Nat×ah)->ah
 |some (_,v)=>if ok then .tuple #[v,.bool true]else v
 |none=>if ok then .tuple #[z,.bool false]else z
def aey{t et:aD}(hu:P.underlying t=some (.map kt et)){m k:ah}{es:Array MapEntry}(hm:(m=.map none/\es= #[])\/∃b clock,m=.map (some b)/\w.heap[b]? =some (.map es clock))
 (hck:(Instr.checkKey es.isEmpty 10000 kt k).run P w=.ok () w) {r:ak (Nat×ah)} (hf:(Instr.findKey kt k es.toList).run P w=.ok r w) {z:ah} (hz:zeroOf P et=some z) {ok:Bool}:
 (Instr.lookup t m k ok).run P w=.ok (IG ok z r) w:=by
 rcases hm with⟨rfl,rfl⟩|⟨b,clock,rfl,hb⟩
 .simp only[Instr.lookup,dM,gz hu,dR,fG,hck,hf];exact sR
 .simp only[Instr.lookup,dM,gz hu,dR,fG,Aw hb s7,hck,hf];exact sR
section
variable {dst:ak Tmp} {type:aD} {pos:String} {after:Array Edge} {guard:ak (Nat×Bool)} {c:aK} {ρ ρ':ay->ah} {v:ah} {h':IH}
def aez{t:aD}{m k:ay}{ok:Bool}(hc:cop P ⟨dst,.lookup t m k ok,type,pos,after,guard⟩=some c)(hr:c.run P ρ h=some (v,h'))(hm:VR β (ρ m) (ρ' m))(hk:VR β (ρ k) (ρ' k))(hW:WR P β h w):
 Good P β h w (execOp ρ' ⟨dst,.lookup t m k ok,type,pos,after,guard⟩) v h':=by
 simp only[cop]at hc;split at hc
 .rename_i kt et hu;cases hz:zeroOf P et with
  |none=>simp[hz]at hc
  |some z=>
   simp only[hz,lq,aN]at hc;subst hc;obtain⟨_,_,_,II⟩:=FI hz;simp only[aK.run]at hr;split at hr
   .rename_i u hl;simp only[aN,dH]at hr;obtain⟨rfl,rfl⟩:=hr;unfold DR at hl;split at hl
    .cases hl
    .rename_i es hes;cases hck:uh P kt (ρ k)with
     |false=>rw[hck]at hl;cases hl
     |true=>
      rw[hck]at hl;simp only[cond_true]at hl;have hk':=hk.rM (Qb hck);cases hf:wG P kt (ρ k) es with
      |none=>rw[hf]at hl;cases hl
      |some r=>
       rw[hf]at hl;obtain⟨es',he1,he2⟩:∃es':Array MapEntry,((ρ' m=.map none/\es'= #[])\/∃b clock,ρ' m=.map (some b)/\w.heap[b]? =some (.map es' clock))/\gY β es es'.toList:=by
        rcases WS hW hm hes with⟨_,h2,h3⟩|⟨i,g,es',clock,clock',_,_,_,h4,h5,_,h6⟩
        .subst h3;exact⟨#[],.inl ⟨h2,rfl⟩,.nil⟩
        .exact⟨es',.inr ⟨_,_,h4,h5⟩,h6⟩
       obtain⟨r',f1,f2⟩:=WQ he2 w hf;have hrun:=aey (ok:=ok) hu he1 (Qa hck _ w) f1 hz;rw[<- hk']at hrun;cases f2 with
       |none=>
        simp only[aN]at hl;refine Good.same hW (Au hrun) ?_;subst hl;cases ok
        .exact VR.free II
        .exact .tuple (.cons (VR.free II) (.cons (.bool _) .nil))
       |some i hv=>
        simp only[aN]at hl;refine Good.same hW (Au hrun) ?_;subst hl;cases ok
        .exact hv
        .exact .tuple (.cons hv (.cons (.bool _) .nil))
   .cases hr
 .cases hc
end
end Go.Ideal
namespace Go.Ideal
variable {P:Program} {β:aJ} {h:IH} {w:World}
variable{l l':ae MapEntry}
def gY.get(he:gY β l l'){i:Nat}{e:MapEntry}(hi:l[i]? =some e):∃e',l'[i]? =some e'/\e'.key=e.key/\dG e.key=true/\e'.born=e.born/\VR β e.val e'.val:=by
 induction he generalizing i with
 |nil=>simp at hi
 |cons hk hf hb hv hl ih=>
  cases i with
  |zero=>simp at hi;subst hi;exact⟨_,s7,hk,hf,hb,hv⟩
  |succ i=>simp at hi;obtain⟨e',h1,h2⟩:=ih hi;exact⟨e',by simpa using h1,h2⟩
def gY.modify(he:gY β l l'){f f':MapEntry->MapEntry}(i:Nat)
 (hff:∀e e',e'.key=e.key->dG e.key=true->e'.born=e.born->VR β e.val e'.val->(f' e').key=(f e).key/\dG (f e).key=true/\(f' e').born=(f e).born/\VR β (f e).val (f' e').val):
 gY β (l.modify i f) (l'.modify i f'):=by
 induction he generalizing i with
 |nil=>cases i<;>exact .nil
 |cons hk hf hb hv hl ih=>
  cases i with
  |zero=>obtain⟨a,b,c,d⟩:=hff _ _ hk hf hb hv;exact .cons a b c d hl
  |succ i=>exact .cons hk hf hb hv (ih i)
def gY.push(he:gY β l l'){e e':MapEntry}(h1:e'.key=e.key)(h2:dG e.key=true)(h3:e'.born=e.born)(h4:VR β e.val e'.val):gY β (l++[e]) (l'++[e']):=by
 induction he with
 |nil=>exact .cons h1 h2 h3 h4 .nil
 |cons hk hf hb hv hl ih=>exact .cons hk hf hb hv ih
def IJ{b:Nat}{o:Obj}(hb:b<w.heap.size):let w1:World:={w with heap:=w.heap.setIfInBounds b o}
 w1.heap.size=w.heap.size/\(∀x,x≠b->w1.heap[x]? =w.heap[x]?)/\w1.heap[b]? =some o:=by
 refine⟨s7,λx hx=>?_,?_⟩
 .show(w.heap.setIfInBounds b o)[x]? =_;rw[KH s6]
 .show(w.heap.setIfInBounds b o)[b]? =_;simp[hb]
section
variable {dst:ak Tmp} {type:aD} {pos:String} {after:Array Edge} {guard:ak (Nat×Bool)} {c:aK} {ρ ρ':ay->ah} {v:ah} {h':IH}
variable{t kt et:aD}
def WT(hu:P.underlying t=some (.map kt et)){b clock:Nat}{es:Array MapEntry}{k x:ah}(hb:w.heap[b]? =some (.map es clock))
 (hck:(Instr.checkKey false 10000 kt k).run P w=.ok () w) {r:ak (Nat×ah)} (hf:(Instr.findKey kt k es.toList).run P w=.ok r w)
 (hs:∀i v,r=some (i,v)->∃e,es[i]? =some e/\Instr.sameBits 10000 e.key k=true):
 (Instr.mapUpdate t (.map (some b)) k x).run P w=.ok () {w with heap:=w.heap.setIfInBounds b (match r with
   |some (i,_)=>.map (es.modify i λe=>{e with key:=k,val:=x}) clock
   |none=>.map (es.push {key:=k,val:=x,born:=clock}) (clock+1))}:=by
 simp only[Instr.mapUpdate,dM,gz hu,dR,Aw hb s7,hck,hf];cases r with
 |none=>exact Qc hb s7
 |some p=>
  obtain⟨i,v⟩:=p;obtain⟨e,h1,h2⟩:=hs i v rfl;simp only[h1,lq,yV,Instr.keyThatStays,h2,if_true,dM,fG,dR];exact Qc hb s7
def WU(hu:P.underlying t=some (.map kt et)){m m' k k' x x':ah}{h2:IH}(hr:H8 P kt m k x h=some h2)(hm:VR β m m')(hk:VR β k k')(hx:VR β x x')(hW:WR P β h w):
 ∃w',(Instr.mapUpdate t m' k' x').run P w=.ok () w'/\WR P β h2 w'/\Eff β h w β h2 w':=by
 unfold H8 at hr;split at hr
 .rename_i i;split at hr
  .rename_i es clock hg;obtain⟨g,hb,rfl⟩:=hm.FN;obtain⟨es',o1,o2⟩:=hW.obj i g _ hb hg;cases hck:uh P kt k with
   |false=>rw[hck]at hr;cases hr
   |true=>
    rw[hck]at hr;simp only[cond_true]at hr;have hk':=hk.rM (Qb hck);subst hk';have hfree:=Qb hck;have hlt:g.b<w.heap.size:=by
     exact oS
    cases hf:wG P kt k' es with
    |none=>rw[hf]at hr;cases hr
    |some r=>
     rw[hf]at hr;obtain⟨r',f1,f2⟩:=WQ o2 w hf;cases f2 with
     |none=>
      simp only[aN]at hr;subst hr;have hrun:=WT (x:=x') hu o1 (Qa hck false w) f1 s7;obtain⟨p1,p2,p3⟩:=IJ (w:=w) (o:=.map (es'.push {key:=k',val:=x',born:=clock}) (clock+1)) hlt;refine⟨_,hrun,hW.write hb hg _ p1 p2 rfl rfl rfl (aZ _) ⟨_,p3,?_⟩⟩;rw[jW,Array.toList_push];exact o2.push rfl hfree rfl hx
     |some j hv=>
      simp only at hr;split at hr
      .rename_i e he;rw[uw]at he;obtain⟨e',q1,q2,q3,q4,q5⟩:=o2.get he;cases hs:Instr.sameBits 10000 e.key k' with
       |false=>rw[hs]at hr;cases hr
       |true=>
        rw[hs]at hr;simp only[cond_true,aN]at hr;subst hr;have hrun:=WT (x:=x') hu o1 (Qa hck false w) f1 (λi v WV=>by
         simp only[aN,dH]at WV;obtain⟨rfl,_⟩:=WV;exact⟨e',by simpa using q1,by rw[q2];exact hs⟩)
        obtain⟨p1,p2,p3⟩:=IJ (w:=w) (o:=.map (es'.modify j λe=>{e with key:=k',val:=x'}) clock) hlt;refine⟨_,hrun,hW.write hb hg _ p1 p2 rfl rfl rfl (aZ _) ⟨_,p3,?_⟩⟩;rw[Ww,Array.toList_modify];exact o2.modify j λe e' a b c d=>⟨rfl,hfree,c,hx⟩
      .cases hr
  .cases hr
 .cases hr
variable{x m k:ay}
def aeB(hc:cop P ⟨dst,.mapUpdate t m k x,type,pos,after,guard⟩=some c)(hr:c.run P ρ h=some (v,h'))(hm:VR β (ρ m) (ρ' m))(hk:VR β (ρ k) (ρ' k))(hx:VR β (ρ x) (ρ' x))(hW:WR P β h w):
 Good P β h w (execOp ρ' ⟨dst,.mapUpdate t m k x,type,pos,after,guard⟩) v h':=by
 simp only[cop]at hc;split at hc
 .exact eC
 .cases hc
def aeC(hc:cop P ⟨dst,.insert t m k x,type,pos,after,guard⟩=some c)(hr:c.run P ρ h=some (v,h'))(hm:VR β (ρ m) (ρ' m))(hk:VR β (ρ k) (ρ' k))(hx:VR β (ρ x) (ρ' x))(hW:WR P β h w):
 Good P β h w (execOp ρ' ⟨dst,.insert t m k x,type,pos,after,guard⟩) v h':=by
 simp only[cop]at hc;split at hc
 .exact eC
 .cases hc
def Qd(hW:WR P β h w){s:Sem Next}{ob:dL}{o':Obj}(hr:s.run P w=.ok (.value (.pointer (some ⟨w.heap.size,0,none⟩))) {w with heap:=w.heap.push o'})
 (ho:∀β':aJ,β.le β'->OR P β' ⟨w.heap.size,0,0,0,0⟩ {w with heap:=w.heap.push o'} ob):Good P β h w s (.pointer (some ⟨h.next,0,none⟩)) (h.new ob):=by
 refine xY.good (f:=λi=>.pointer (some ⟨i,0,none⟩)) hW ⟨_,o',⟨w.heap.size,0,0,0,0⟩,hr,rfl,λi β' hle hi=>⟨?_,ho β' hle⟩⟩;have:=VR.ptr (β:=β') (o:=0) hi;exact this
def aeD(hc:cop P ⟨dst,.range t x,type,pos,after,guard⟩=some c)(hr:c.run P ρ h=some (v,h'))(hx:VR β (ρ x) (ρ' x))(hW:WR P β h w):
 Good P β h w (execOp ρ' ⟨dst,.range t x,type,pos,after,guard⟩) v h':=by
 simp only[cop]at hc;split at hc
 .rename_i hu;cases hc;simp only[aK.run]at hr;split at hr
  .rename_i s hs;simp only[aN,dH]at hr;obtain⟨rfl,rfl⟩:=hr;rw[hs]at hx;have hx':=hx.D8;refine Qd hW (o':=.stringIter s 0) ?_ λβ' _=>⟨s7,rfl⟩
   simp[execOp,Instr.range,gz hu,hx']
  .cases hr
 .rename_i kt et hu;cases hc;simp only[aK.run]at hr;split at hr
  .rename_i hs;simp only[aN,dH]at hr;obtain⟨rfl,rfl⟩:=hr;rw[hs]at hx;have hx':ρ' x=.map none:=by generalize ρ' x=y at hx;cases hx;rfl
   refine Qd hW (o':=.mapIter none 0 #[] 0) ?_ λβ' _=>⟨none, #[],s7,rfl,.Ar,rfl⟩
   simp[execOp,Instr.range,gz hu,hx']
  .rename_i m hs;split at hr
   .rename_i es clock hg;simp only[aN,dH]at hr;obtain⟨rfl,rfl⟩:=hr;rw[hs]at hx;obtain⟨g,hb,hx'⟩:=hx.FN;obtain⟨es',o1,o2⟩:=hW.obj m g _ hb hg;refine Qd hW (o':=.mapIter (some g.b) clock #[] clock) ?_ λβ' hle=>⟨some g.b, #[],s7,rfl,.map (hle _ _ hb),rfl⟩
    simp only[execOp,Instr.range,dM,gz hu,dR,hx',Aw o1 s7,fG,run_newObj]
   .cases hr
  .cases hr
 .cases hc
def find_born{l l':ae MapEntry}(he:gY β l l')(n:Nat):match l.find? (λe=>Nat.beq e.born n)with
 |none=>l'.find? (λe=>e.born==n)=none
 |some e=>∃e',l'.find? (λe=>e.born==n)=some e'/\e'.key=e.key/\dG e.key=true/\VR β e.val e'.val:=by
 induction he with
 |nil=>rfl
 | @cons e e' l l' hk hf hb hv hl ih=>
   simp only[List.find?_cons,hb];cases hq:Nat.beq e.born n with
   |true=>
    have:(e.born==n)=true:=by simp[tZ hq]
    simp only[this];exact⟨e',rfl,hk,hf,hv⟩
   |false=>
    have:(e.born==n)=false:=by simp[Hz hq]
    simp only[this];exact ih
def aeE(hc:cop P ⟨dst,.entry x,type,pos,after,guard⟩=some c)(hr:c.run P ρ h=some (v,h'))(hx:VR β (ρ x) (ρ' x))(hW:WR P β h w):
 Good P β h w (execOp ρ' ⟨dst,.entry x,type,pos,after,guard⟩) v h':=by
 simp only[cop,aN]at hc;subst hc;simp only[aK.run]at hr;split at hr
 .rename_i r hs;split at hr
  .rename_i m since seen stepped hg;split at hr
   .rename_i es clock hgm;split at hr
    .rename_i stamp hst;cases hbq:Nat.beq clock stepped with
     |false=>rw[hbq]at hr;cases hr
     |true=>
      rw[hbq]at hr;simp only[cond_true]at hr;split at hr
      .rename_i e he;simp only[aN,dH]at hr;obtain⟨rfl,rfl⟩:=hr;rw[hs]at hx;obtain⟨g,hb,hx'⟩:=hx.xZ;obtain⟨m',seen',o1,o2,o3,o4⟩:=hW.obj r g _ hb hg;rw[o4]at hx';obtain⟨gm,FP,hm'⟩:∃gm,β m=some gm/\m'=some gm.b:=by
        exact qk
       subst hm';obtain⟨es',p1,p2⟩:=hW.obj m gm _ FP hgm;have WW:=find_born p2 stamp;rw[he]at WW;obtain⟨e',q1,q2,q3,q4⟩:=WW;have hback:seen'.back? =some stamp:=by
        rw[<- Array.getLast?_toList,o2];exact hst
       have hcl:(clock !=stepped)=false:=by simp[tZ hbq]
       have hfa:es'.find? (λe=>e.born==stamp)=some e':=by rw[<- Array.find?_toList];exact q1
       refine Good.same hW (v':=.tuple #[e'.key,e'.val]) ?_ (.tuple (.cons ?_ (.cons q4 .nil)))
       .simp only[execOp,Instr.entry,xL,dM,hx',Aw o1 s7,Aw p1 s7,dR,hback,hcl,hfa,fG,ww,if_false]
       .rw[q2];exact VR.free q3
      .cases hr
    .cases hr
   .cases hr
  .cases hr
 .cases hr
def aeF{xt:aD}{ok:Bool}(hc:cop P ⟨dst,.typeAssert x xt t ok,type,pos,after,guard⟩=some c)(hr:c.run P ρ h=some (v,h'))(hx:VR β (ρ x) (ρ' x))(hW:WR P β h w):
 Good P β h w (execOp ρ' ⟨dst,.typeAssert x xt t ok,type,pos,after,guard⟩) v h':=by
 simp only[cop]at hc;split at hc
 .cases hc
 .rename_i d hni hu;cases hz:zeroOf P t with
  |none=>simp[hz]at hc
  |some z=>
   simp only[hz,lq,aN]at hc;subst hc;obtain⟨_,_,_,II⟩:=FI hz;simp only[aK.run]at hr;split at hr
   .rename_i hs;rw[hs]at hx;have hx':ρ' x=.nilIface:=by generalize ρ' x=y at hx;cases hx;rfl
    cases ok with
    |false=>cases hr
    |true=>
     simp only[cond_true,aN,dH]at hr;obtain⟨rfl,rfl⟩:=hr;refine Good.same hW (v':=.tuple #[z,.bool false]) ?_ (.tuple (.cons (VR.free II) (.cons (.bool _) .nil)));simp only[execOp,Instr.typeAssert,dM,gz hu,dR,hx',if_true,FJ hz,fG]
   .rename_i u y hs;rw[hs]at hx;obtain⟨y',hy,hx'⟩:=hx.D9;cases hbq:Nat.beq u t with
    |true=>
     have hut:u=t:=tZ hbq;rw[hbq]at hr;simp only[cond_true,aN,dH]at hr;obtain⟨rfl,rfl⟩:=hr;refine Good.same hW (v':=if ok then .tuple #[y',.bool true]else y') ?_ ?_
     .simp only[execOp,Instr.typeAssert,dM,gz hu,dR,hx',hut];cases d<;>first|exact absurd rfl (hni _)|simp
     .cases ok
      .exact hy
      .exact .tuple (.cons hy (.cons (.bool _) .nil))
    |false=>
     have hut:u≠t:=Hz hbq;rw[hbq]at hr;cases ok with
     |false=>cases hr
     |true=>
      simp only[cond_true,cond_false,aN,dH]at hr;obtain⟨rfl,rfl⟩:=hr;refine Good.same hW (v':=.tuple #[z,.bool false]) ?_ (.tuple (.cons (VR.free II) (.cons (.bool _) .nil)));simp only[execOp,Instr.typeAssert,dM,gz hu,dR,hx'];cases d<;>first|exact absurd rfl (hni _)|simp[hut,FJ hz]
   .cases hr
 .cases hc
end
