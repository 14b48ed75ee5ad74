/-
  The ideal machine, 72: conversions between integers, shifts of unsigned ones; arrays of numbers as keys.
-/
import Derived.Test.YtpkieeggilkagaaGreatIdealN
set_option linter.unusedSimpArgs false
set_option linter.unusedVariables false
set_option linter.unusedSectionVars false
namespace Go.Ideal
variable {P:Program}
theorem zFT{ρ:Operand→Value}{src dst:TypeId}{x:Operand}{kk k:IntKind}{n m:Int}{ds:TypeDesc}(hs:P.underlying src=some ds)(hd:P.underlying dst=some (.int k))(hx:ρ x=.int kk n)(hw:k.wrap n=m):Pu P ρ (.conv src dst x) (.int k m):=fun h=>by
 have h1:zF P (convert src dst (.int kk n))=some (.int k m):=by
  unfold convert;rw[zD,zAE hs];simp only[Option.bind_some];rw[zD,zAE hd];simp only[Option.bind_some];rw[← hw];rfl
 simp only[COp.run,hx,zA2,h1];rfl
theorem zTY{a:Nat}(h:a<18446744073709551616):IntKind.u64.wrap (a:Int)=a:=by
 show(let m:=(a:Int)%(2^64:Int);if false&&m≥(2^63:Int)then m - (2^64:Int)else m)=_;simp only[Bool.false_and,Bool.false_eq_true,if_false];rw[Int.emod_eq_of_lt (by omega) (by simpa using(by omega:(a:Int)<18446744073709551616))]
theorem zP4{ρ:Operand→Value}{x y:Operand}{t:TypeId}{a b:Nat}(hx:ρ x=.int .u64 (a:Int))(hy:ρ y=.int .u64 (b:Int))(hb:b<64):Pu P ρ (.bin .shr t x y) (.int .u64 ((a>>>b:Nat):Int)):=fun h=>by
 have hv:zF P (binOp .shr t (.int .u64 (a:Int)) (.int .u64 (b:Int)))=some (.int .u64 ((a>>>b:Nat):Int)):=by
  show zF P (Op.shift .shr .u64 a .u64 b)=_;unfold Op.shift;rw[if_neg (by omega)];show some (Value.int .u64 ((a:Int).fdiv (2^(min (b:Int).toNat 64))))=_;rw[show min (b:Int).toNat 64=b by simp;omega,Nat.shiftRight_eq_div_pow];congr 2;rw[show((2:Int)^b)=((2^b:Nat):Int)by simp,Int.fdiv_eq_ediv_of_nonneg _ (Int.natCast_nonneg _)];simp
 have h1:zA2 P (do eqGuard .shr t x y (.int .u64 (a:Int)) (.int .u64 (b:Int));binOp .shr t (.int .u64 (a:Int)) (.int .u64 (b:Int)))=some (.int .u64 ((a>>>b:Nat):Int)):=by
  unfold zA2;rw[zD,zA7 (by intro c e;cases e) (by intro e;cases e)];simp only[Option.bind_some,hv];rfl
 have h2:zFo P .shr t x y (.int .u64 (a:Int)) (.int .u64 (b:Int))=some (.int .u64 ((a>>>b:Nat):Int)):=by
  unfold zFo;have:(match sameK .u64 .u64 with|true=>zIu .shr .u64 (a:Int) (b:Int)|false=>none)=none:=rfl;simp only[sameK,zC,Bool.and_self,cond];exact h1
 simp only[COp.run,hx,hy,h2]
theorem zNy{α:Type}[DecidableEq α]{toV:α→Value}{kt:TypeId}{d:TypeDesc}(hu:P.underlying kt=some d)(hn:∀a b,Instr.sameNow d (toV a) (toV b)=none)(he:∀a b,zF P (Op.equal kt (toV a) (toV b))=some (decide (a=b)))(a:α)(kvs:List (α×Value))(es:List MapEntry)(h:zCr toV kvs es):zEe P kt (toV a) es=some (fnd a kvs 0):=by
 have hask:∀(kvs:List (α×Value)) (es:List MapEntry) (i:Nat),zCr toV kvs es→zF P (Instr.findAsking kt (toV a) es i)=some (fnd a kvs i):=by
  intro kvs;induction kvs with
  |nil=>
   intro es i h;cases es with
   |nil=>rfl
   |cons e es=>cases h
  |cons p kvs ih=>
   intro es i h;obtain⟨e,es',rfl,h1,h2,h3⟩:=zD0 h;unfold Instr.findAsking;rw[zD,h1,he];simp only[Option.bind_some];unfold fnd;by_cases hab:a=p.1
   ·rw[decide_eq_true hab,if_pos hab,h2];rfl
   ·rw[decide_eq_false hab,if_neg hab];exact ih es' (i+1) h3
 unfold zEe Instr.findKey;rw[zD,zAE hu];simp only[Option.bind_some];cases kvs with
 |nil=>
  cases es with
  |nil=>rfl
  |cons e es=>cases h
 |cons p kvs=>
  have h':=h;obtain⟨e,es',rfl,h1,h2,h3⟩:=zD0 h;have:Instr.findNow d (toV a) (e::es') 0=none:=by
   show(match Instr.sameNow d (toV a) e.key with
   |some true=>some (some (0,e.val))
   |some false=>Instr.findNow d (toV a) es' 1
   |none=>none)=_
   rw[h1,hn]
  rw[this];exact hask _ _ _ h'
abbrev zFh:Int×Int→Value:=fun p=>.agg ⟨[.int .i64 p.1,.int .i64 p.2]⟩
theorem zLm{kt e:TypeId}(hu:P.underlying kt=some (.array 2 e))(he:P.underlying e=some (.int .i64))(hs:P.info? e|>.map (·.size)|>(·=some 1))(hc:∀a b:Int,zBi P kt (.agg ⟨[.int .i64 a,.int .i64 b]⟩)=true):zKl P kt zFh where
 chk a:=hc a.1 a.2
 find a kvs es h:=zNy hu (fun a b=>rfl) (fun a b=>by
  have:=zJP (d:=9998) (xs:=[a.1,a.2]) (ys:=[b.1,b.2]) hu he hs rfl rfl;rw[show decide (a=b)=decide ([a.1,a.2]=[b.1,b.2])from decide_eq_decide.2 ⟨fun h=>by rw[h],fun h=>by
   injection h with h1 h2;injection h2 with h2;exact Prod.ext h1 h2⟩]
  exact this) a kvs es h
 same a:=by
  show((⟨[Value.int .i64 a.1,.int .i64 a.2]⟩:Array Value).size==(⟨[Value.int .i64 a.1,.int .i64 a.2]⟩:Array Value).size&&(List.zip [Value.int .i64 a.1,.int .i64 a.2] [Value.int .i64 a.1,.int .i64 a.2]).all fun(x,y)=>Instr.sameBits 9999 x y)=true;simp[Instr.sameBits]
end Go.Ideal
namespace Go.Ideal
section
variable {P:Program}
variable {ds:List Tmp} {rest:List zQ} {n:Nat} {l:List (Nat×Value)} {D:List Deferred} {pm:Option FrameMode} {ro:Option Nat} {h:IH} {K:KO} {d:Nat} {g:Option (Tmp×Bool)}
theorem zQW{op:COp}{v:Value}{h':IH}{re:List zx}(hn:Nat.blt d n=true)(hg:gok l g=true)(hr:op.run P (ev l) h=some (v,h'))
 (hsm:∀q∈re,∃u h2,q.op.run P (ev ((d,v)::l)) h'=some (u,h2)∧∀d',q.dst=some d'→lk ((d,v)::l) d'=u)
 (next:OPS P ds rest (act n ((d,v)::l) D pm ro) h' K):OPS P ds (⟨⟨some d,g,op⟩,re⟩::rest) (act n l D pm ro) h K:=
 .det (zAN hg) v h' (by rw[zi];exact hr) (fun q hq _=>by
  obtain⟨u,h2,e1,e2⟩:=hsm q hq;rw[put_act hn];exact⟨u,h2,by rw[zi];exact e1,fun d' hd=>by rw[← e2 d' hd];exact zAC _ _⟩) (by rw[put_act hn];exact next)
theorem zNp{re:List zx}{e:TypeId}{size bytes b o m k:Nat}{f:Option Nat}{s x:Operand}{old xs:List Value}(hn:Nat.blt d n=true)(hg:gok l g=true)
 (hs:ev l s=.slice (some ⟨b,o,f⟩) m m) (hx:zIV (ev l x)=some (k+1)) (hxs:zAa size (k+1) (ev l x) h=some xs) (hold:h.readAt b o (m*size)=some old)
 (hf:f=some 0∨f=some size) (hm:(m+(k+1))*bytes≤1073741824∧(m+(k+1))*size≤1073741824∧m+(k+1)≤1073741824)
 (hsm:∀h',zId h h' b (.cells (old++xs))→∀q∈re,∃u h2,q.op.run P (ev ((d,.slice (some ⟨h.next,0,some size⟩) (m+(k+1)) (m+(k+1)))::l)) h'=some (u,h2)∧∀d',q.dst=some d'→lk ((d,.slice (some ⟨h.next,0,some size⟩) (m+(k+1)) (m+(k+1)))::l) d'=u)
 (next:∀h',zId h h' b (.cells (old++xs))→OPS P ds rest (act n ((d,.slice (some ⟨h.next,0,some size⟩) (m+(k+1)) (m+(k+1)))::l) D pm ro) h' K):
 OPS P ds (⟨⟨some d,g,.append e size bytes s x⟩,re⟩::rest) (act n l D pm ro) h K:=by
 have hle:∀{a b:Nat},a≤b→Nat.ble a b=true:=fun h=>by rw[Nat.ble_eq];exact h
 have hlt:Nat.ble (m+(k+1)) m=false:=by
  cases hb:Nat.ble (m+(k+1)) m with
  |false=>rfl
  |true=>have:=Nat.le_of_ble_eq_true hb;omega
 have hc:(Nat.ble (Nat.mul (m+(k+1)) bytes) small&&Nat.ble (Nat.mul (m+(k+1)) size) small&&Nat.ble (m+(k+1)) small)=true:=by
  rw[hle (show Nat.mul (m+(k+1)) bytes≤small from hm.1),hle (show Nat.mul (m+(k+1)) size≤small from hm.2.1),hle (show m+(k+1)≤small from hm.2.2)];rfl
 have hrun:∃h',(COp.append e size bytes s x).run P (ev l) h=some (.slice (some ⟨h.next,0,some size⟩) (m+(k+1)) (m+(k+1)),h')∧zId h h' b (.cells (old++xs)):=by
  have hxs':zEO size (k+1) (ev l x) h=some xs:=hxs;simp only[COp.run,hx,hxs',hs,zB8];have e1:zAa size m (.slice (some ⟨b,o,f⟩) m m) h=some old:=hold;show∃h',(cond (Nat.ble (Nat.mul (m+(k+1)) bytes) small&&Nat.ble (Nat.mul (m+(k+1)) size) small&&Nat.ble (m+(k+1)) small) _ _)=_∧_;rw[hc];show∃h',(cond (Nat.ble (m+(k+1)) m) _ _)=_∧_;rw[hlt];simp only[cond,e1];rcases hf with rfl|rfl
  ·refine⟨_,rfl,?_⟩;exact⟨rfl,fun i hi _=>by rw[IH.get_new,if_neg (by omega)],⟨Nat.lt_succ_self _,by rw[IH.get_new,if_pos rfl,zb]⟩,fun _=>rfl⟩
  ·cases size with
   |zero=>
    refine⟨_,rfl,?_⟩;exact⟨rfl,fun i hi _=>by rw[IH.get_new,if_neg (by omega)],⟨Nat.lt_succ_self _,by rw[IH.get_new,if_pos rfl,zb]⟩,fun _=>rfl⟩
   |succ j=>
    have hj:Nat.beq (Nat.succ j) (j+1)=true:=Nat.beq_refl _;refine⟨(h.kill b).new (.cells (old++xs)),?_,?_⟩
    ·show cond (Nat.beq (Nat.succ j) (j+1)) _ _=_;rw[hj,zb];rfl
    ·exact⟨rfl,fun i hi hb=>by rw[IH.get_new,if_neg (by show i≠h.next;omega),IH.get_kill,if_neg hb],⟨Nat.lt_succ_self _,by rw[IH.get_new];exact if_pos rfl⟩,fun hl=>by rw[IH.low_new,IH.low_kill];omega⟩
 obtain⟨h',hr,hM⟩:=hrun;exact zQW hn hg hr (hsm h' hM) (next h' hM)
theorem zK7{re:List zx}{e:TypeId}{size bytes k c:Nat}{s x:Operand}{xs:List Value}(hn:Nat.blt d n=true)(hg:gok l g=true)
 (hs:ev l s=.slice none 0 0) (hx:zIV (ev l x)=some (k+1)) (hxs:zAa size (k+1) (ev l x) h=some xs)
 (hm:(k+1)*bytes≤1073741824∧(k+1)*size≤1073741824∧(k+1)≤1073741824)
 (hsm:∀h',Agree h h'→At h' h.next (.cells xs)→h'.next=h.next+1→∀q∈re,∃u h2,q.op.run P (ev ((d,.slice (some ⟨h.next,0,some size⟩) (k+1) (k+1))::l)) h'=some (u,h2)∧∀d',q.dst=some d'→lk ((d,.slice (some ⟨h.next,0,some size⟩) (k+1) (k+1))::l) d'=u)
 (next:∀h',Agree h h'→At h' h.next (.cells xs)→h'.next=h.next+1→OPS P ds rest (act n ((d,.slice (some ⟨h.next,0,some size⟩) (k+1) (k+1))::l) D pm ro) h' K):
 OPS P ds (⟨⟨some d,g,.append e size bytes s x⟩,re⟩::rest) (act n l D pm ro) h K:=by
 have hle:∀{a b:Nat},a≤b→Nat.ble a b=true:=fun h=>by rw[Nat.ble_eq];exact h
 have e0:Nat.add 0 (k+1)=k+1:=Nat.zero_add _;refine zQW hn hg (h':=h.new (.cells xs)) ?_ (hsm _ (zEp _ _) (zLX _ _) rfl) (next _ (zEp _ _) (zLX _ _) rfl);have hxs':zEO size (k+1) (ev l x) h=some xs:=hxs;simp only[COp.run,hx,hxs',hs,zB8,e0];rw[hle (show Nat.mul (k+1) bytes≤small from hm.1),hle (show Nat.mul (k+1) size≤small from hm.2.1),hle (show k+1≤small from hm.2.2)];have e1:zAa size 0 (.slice none 0 0) h=some []:=by
  show(match (0:Nat)with|0=>some ([]:List Value)|_=>none)=_;rfl
 have e2:Nat.ble (k+1) 0=false:=rfl;simp only[Bool.and_self,cond_true,e2,cond_false,e1,zb,List.nil_append]
end
section
variable {P:Program}
variable {ρ:Operand→Value}
variable {B:List Nat} {w0:Wd} {kl kl':List OA} {F:List zJ} {a:zU} {K:KO}
variable {y:zS} {i j m0:Nat} {I:Nat→zU→IH→Prop} {ch:List PanicEntry}
variable {B:List Nat} {w0:Wd} {kl kl':List OA} {F:List zJ} {K:KO} {ds:List Tmp} {rest:List zQ} {n:Nat} {l:List (Nat×Value)} {D:List Deferred} {pm:Option FrameMode} {ro:Option Nat} {d:Nat} {g:Option (Tmp×Bool)}
theorem zSg{re:List zx}{α:Type}{E:Enc α}{e:TypeId}{size bytes b':Nat}{s x:Operand}{v:Value}{xs:List α}{a:α}{y:E.Y}{cs:List Value}{k1 k2:List OA}(hn:Nat.blt d n=true)(hg:gok l g=true)
 (hs:ev l s=v) (hx:ev l x=.slice (some ⟨b',0,some 0⟩) 1 1) (hk:Sel (ap E v xs) kl k1) (hc:Sel (pt b' (.cells cs)) k1 k2) (hp:cs=E.pat a y) (hF:Sub (E.fs a y) F) (hz:E.n=size)
 (hm:(xs.length+1)*bytes≤1073741824∧(xs.length+1)*size≤1073741824∧xs.length+1≤1073741824)
 (hsm:∀ad,Same P re (ev ((d,.slice ad (xs.length+1) (xs.length+1))::l)) ((d,.slice ad (xs.length+1) (xs.length+1))::l) B w0 (ap E (.slice ad (xs.length+1) (xs.length+1)) (xs++[a])::k2) F)
 (r:∀ad,R (fun h=>OPS P ds rest (act n ((d,.slice ad (xs.length+1) (xs.length+1))::l) D pm ro) h K) B w0 (ap E (.slice ad (xs.length+1) (xs.length+1)) (xs++[a])::k2) F):
 R (fun h=>OPS P ds (⟨⟨some d,g,.append e size bytes s x⟩,re⟩::rest) (act n l D pm ro) h K) B w0 kl F:=by
 intro w st;subst hp hz;have hlen:=E.len a y;have st2:St B w0 (ap E v xs::pt b' (.cells (E.pat a y))::k2) F w:=st.selL (.cons hk (.cons hc .nil));have hat:At w.h b' (.cells (E.pat a y)):=st2.at_ (.there .here);have st3:St B w0 (ap E v xs::k2) F w:=(st2.sel (.there .here)).tail;have hfs:∀f∈E.fs a y,f.p w:=fun f hf=>st.facts f (hF.mem f hf);have hread:w.h.readAt b' 0 (1*E.n)=some (E.pat a y):=by
  rw[hat.c.readAt,zAG,zAR,Nat.one_mul,List.drop_zero,if_pos (by omega),← hlen,List.take_length]
 have hx1:zIV (ev l x)=some (0+1):=by rw[hx];rfl
 have hx2:zAa E.n (0+1) (ev l x) w.h=some (E.pat a y):=by rw[hx];exact hread
 -- what lies there afterwards
 have put:∀(w':Wd) (c:Nat) (f:Nat) (cells:List Value),cells.length=xs.length*E.n→(∀(k:Nat) z,xs[k]? =some z→∃y,(∀(j:Nat) u,(E.pat z y)[j]? =some u→cells[k*E.n+j]? =some u)∧∀f∈E.fs z y,f.p w')→(∀f∈E.fs a y,f.p w')→
  (f=0∨f=E.n)→∀S,(pt c (.cells (cells++E.pat a y))).p w' S→(ap E (.slice (some ⟨c,0,some f⟩) (xs.length+1) (xs.length+1)) (xs++[a])).p w' S:=by
  intro w' c f cells h1 h2 h3 h4 S hp;refine .inr ⟨c,0,f,_,by rw[List.length_append];rfl,h4,hp.1,hp.2,by rw[List.length_append,List.length_append,h1,hlen,List.length_singleton,Nat.add_mul,Nat.one_mul,Nat.zero_add],fun k z hk=>?_⟩;by_cases hlt:k<xs.length
  ·rw[List.getElem?_append_left hlt]at hk;obtain⟨y',q1,q2⟩:=h2 k z hk;refine⟨y',fun j u hj=>?_,q2⟩;rw[Nat.zero_add];have:=q1 j u hj;rw[List.getElem?_append_left (List.getElem?_eq_some_iff.1 this).1];exact this
  ·rw[List.getElem?_append_right (by omega)]at hk;have hk0:k=xs.length:=by
    have:=(List.getElem?_eq_some_iff.1 hk).1;simp at this;omega
   subst hk0;simp at hk;subst hk;refine⟨y,fun j u hj=>?_,h3⟩;rw[Nat.zero_add,List.getElem?_append_right (by omega),h1,Nat.add_sub_cancel_left];exact hj
 obtain⟨S,⟨S1,S2,q,q2,e1⟩,hnd,hown⟩:=st3.own;rcases q with⟨rfl,rfl,rfl⟩|⟨b,o,f,cells,rfl,hf,rfl,hb,hcl,hel⟩
 ·have key:∀h',Agree w.h h'→At h' w.h.next (.cells (E.pat a y))→h'.next=w.h.next+1→∃w':Wd,w'.h=h'∧St B w0 (ap E (.slice (some ⟨w.h.next,0,some E.n⟩) (([]:List α).length+1) (([]:List α).length+1)) ([]++[a])::k2) F w':=fun h' ag at1 hnx=>by
   obtain⟨w',rfl,st4⟩:=st3.tail.fresh ag at1 hnx;refine⟨w',rfl,?_⟩;have hle:∀f∈E.fs a y,f.p w':=fun f hf=>st4.facts f (hF.mem f hf);exact st4.turnA' fun S hp=>put w' _ E.n [] (by simp) (fun k z hk=>by cases hk) hle (.inr rfl) S hp
  refine zK7 (c:=0) hn hg hs hx1 hx2 (by simpa using hm) (fun h' ag at1 hnx=>?_) fun h' ag at1 hnx=>?_
  ·obtain⟨w',rfl,st4⟩:=key h' ag at1 hnx;exact hsm _ w' st4
  ·obtain⟨w',rfl,st4⟩:=key h' ag at1 hnx;exact r _ w' st4
 ·have st5:St B w0 (pt b (.cells cells)::k2) F w:=⟨st3.agree,st3.le,st3.zold,⟨S,⟨_,S2,⟨rfl,hb⟩,q2,e1⟩,hnd,hown⟩,st3.facts⟩
  have hbat:At w.h b (.cells cells):=st5.at_ .here;have key:∀h',zId w.h h' b (.cells (cells.drop o++E.pat a y))→∃w':Wd,w'.h=h'∧St B w0 (ap E (.slice (some ⟨w.h.next,0,some E.n⟩) (xs.length+1) (xs.length+1)) (xs++[a])::k2) F w':=fun h' mv=>by
   obtain⟨w',rfl,st4,hwle⟩:=st5.move mv;refine⟨w',rfl,st4.turnA' fun S hp=>?_⟩;have hle:∀f∈E.fs a y,f.p w':=fun f hf=>st4.facts f (hF.mem f hf);refine put w' _ E.n (cells.drop o) (by rw[List.length_drop];omega) (fun k z hk=>?_) hle (.inr rfl) S hp;obtain⟨y',u1,u2⟩:=hel k z hk;exact⟨y',fun j u hj=>by rw[List.getElem?_drop,← Nat.add_assoc];exact u1 j u hj,fun f hf=>f.mono hwle (u2 f hf)⟩
  refine zNp (old:=cells.drop o) (xs:=E.pat a y) hn hg hs hx1 hx2 ?_ (hf.elim (fun e=>.inl (by rw[e])) fun e=>.inr (by rw[e])) hm (fun h' mv=>?_) fun h' mv=>?_
  ·have hdl:(cells.drop o).length=xs.length*E.n:=by rw[List.length_drop];omega
   rw[hbat.c.readAt,zAG,zAR,if_pos (by omega),← hdl,List.take_length]
  ·obtain⟨w',rfl,st4⟩:=key h' mv;exact hsm _ w' st4
  ·obtain⟨w',rfl,st4⟩:=key h' mv;exact r _ w' st4
end
section
variable {P:Program} {B:List Nat} {w0:Wd} {kl kl' klr:List OA} {F:List zJ} {K:KO} {n:Nat} {l:List (Nat×Value)} {D:List Deferred} {pm:Option FrameMode} {ro:Option Nat}
theorem zQb{re:List zx}{α:Type}(E:Enc α){ds:List Tmp}{rest:List zQ}{d:Nat}{g:Option (Tmp×Bool)}{e:TypeId}{size bytes b':Nat}{s x:Operand}{v:Value}{xs:List α}(a:α)(y:E.Y){cs:List Value}{k1 k2:List OA}
 (hm:(xs.length+1)*bytes≤1073741824∧(xs.length+1)*size≤1073741824∧xs.length+1≤1073741824)
 (next:∀ad,R (fun h=>OPS P ds rest (act n ((d,.slice ad (xs.length+1) (xs.length+1))::l) D pm ro) h K) B w0 (ap E (.slice ad (xs.length+1) (xs.length+1)) (xs++[a])::k2) F)
 (hn:Nat.blt d n=true:=by rfl) (hg:gok l g=true:=by rfl)
 (hs:ev l s=v:=by conv=>lhs;whnf) (hx:ev l x=.slice (some ⟨b',0,some 0⟩) 1 1:=by rfl) (hk:autoParam (Sel (ap E v xs) kl k1) zBN._auto_1) (hc:autoParam (Sel (pt b' (.cells cs)) k1 k2) zBN._auto_1) (hp:cs=E.pat a y:=by rfl) (hF:autoParam (Sub (E.fs a y) F) zFn._auto_1) (hz:E.n=size:=by rfl)
 (hsm:∀ad,Same P re (ev ((d,.slice ad (xs.length+1) (xs.length+1))::l)) ((d,.slice ad (xs.length+1) (xs.length+1))::l) B w0 (ap E (.slice ad (xs.length+1) (xs.length+1)) (xs++[a])::k2) F:=by intro _;repeat (first|exact same_nil|refine same_load rfl (by repeat (first|with_reducible exact Sel.here|with_reducible apply Sel.there|with_reducible apply Sel.app)) (by first|exact rfl|(conv=>lhs;whnf)) rfl ?_|refine same_loadF rfl (by(repeat (first|with_reducible exact List.mem_cons_self .. |with_reducible apply List.mem_cons_of_mem));first|done|fail) (by first|exact rfl|(conv=>lhs;whnf)) rfl ?_|refine same_loadFj rfl (by(repeat (first|with_reducible exact List.mem_cons_self .. |with_reducible apply List.mem_cons_of_mem));first|done|fail) (by first|exact rfl|(conv=>lhs;whnf)) rfl ?_|refine same_loadN rfl (by repeat (first|with_reducible exact Sel.here|with_reducible apply Sel.there|with_reducible apply Sel.app)) (by first|exact rfl|(conv=>lhs;whnf)) rfl ?_|refine same_loadNF rfl (by(repeat (first|with_reducible exact List.mem_cons_self .. |with_reducible apply List.mem_cons_of_mem));first|done|fail) (by first|exact rfl|(conv=>lhs;whnf)) rfl ?_|refine same_loadNFj rfl (by(repeat (first|with_reducible exact List.mem_cons_self .. |with_reducible apply List.mem_cons_of_mem));first|done|fail) (by first|exact rfl|(conv=>lhs;whnf)) rfl ?_|refine same_p (by first|((with_reducible apply p_mv);(focus ((conv=>lhs;whnf);(first|done|fail))))|((with_reducible apply p_asg);(focus ((conv=>lhs;whnf);(first|done|fail))))|((with_reducible apply p_len);(focus exact rfl))|((with_reducible apply p_lss);(focus exact rfl);(focus exact rfl))|((with_reducible apply p_leq);(focus exact rfl);(focus exact rfl))|((with_reducible apply p_gtr);(focus exact rfl);(focus exact rfl))|((with_reducible apply p_geq);(focus exact rfl);(focus exact rfl))|((with_reducible apply p_eql);(focus exact rfl);(focus exact rfl))|((with_reducible apply p_neq);(focus exact rfl);(focus exact rfl))|((with_reducible apply p_not);(focus exact rfl))|((with_reducible apply p_pickT);(focus exact rfl);(focus ((conv=>lhs;whnf);(first|done|fail))))|((with_reducible apply p_pickF);(focus exact rfl);(focus ((conv=>lhs;whnf);(first|done|fail))))|((with_reducible apply p_extract);(focus exact rfl);(focus ((conv=>lhs;whnf);(first|done|fail))))|((with_reducible apply p_fieldA);(focus exact rfl))|((with_reducible apply p_field1);(focus exact rfl);(focus ((conv=>lhs;whnf);(first|done|fail))))|((with_reducible apply p_fieldN);(focus exact rfl);(focus ((conv=>lhs;whnf);(first|done|fail))))|((with_reducible apply p_iface);(focus ((conv=>lhs;whnf);(first|done|fail))))|((with_reducible apply p_tassert);(focus exact rfl))|((with_reducible apply p_nilck);(focus exact rfl))|((with_reducible apply p_nilckF);(focus exact rfl))|with_reducible exact p_lenArr|((with_reducible apply p_idxK);(focus exact rfl);(focus exact rfl);(focus exact rfl))|((with_reducible apply p_idxN);(focus exact rfl);(focus exact rfl);(focus ((omega);(first|done|fail))))|((with_reducible apply p_idx);(focus exact rfl);(focus exact rfl);(focus ((omega);(first|done|fail)));(focus ((omega);(first|done|fail))))|((with_reducible apply p_idxArr);(focus exact rfl);(focus exact rfl);(focus ((omega);(first|done|fail)));(focus ((omega);(first|done|fail))))|((with_reducible apply p_add);(focus exact rfl);(focus exact rfl);(focus ((omega);(first|done|fail)));(focus ((omega);(first|done|fail))))|((with_reducible apply p_sub);(focus exact rfl);(focus exact rfl);(focus ((omega);(first|done|fail)));(focus ((omega);(first|done|fail))))|((with_reducible apply p_eqlB);(focus exact rfl);(focus exact rfl);(focus ((first|assumption|kernel_rfl);(first|done|fail))))|((with_reducible apply p_neqB);(focus exact rfl);(focus exact rfl);(focus ((first|assumption|kernel_rfl);(first|done|fail))))|((with_reducible apply p_eqlS);(focus exact rfl);(focus exact rfl))|((with_reducible apply p_neqS);(focus exact rfl);(focus exact rfl))|((with_reducible apply p_mul);(focus exact rfl);(focus exact rfl);(focus ((omega);(first|done|fail)));(focus ((omega);(first|done|fail))))) rfl ?_)):
 R (fun h=>OPS P ds (⟨⟨some d,g,.append e size bytes s x⟩,re⟩::rest) (act n l D pm ro) h K) B w0 kl F:=
 zSg hn hg hs hx hk hc hp hF hz hm hsm next
end
end Go.Ideal
namespace Go.Ideal
variable {P:Program}
section
variable {α κ:Type} [DecidableEq κ] {toV:κ→Value} {E:Enc α}
def mlL(E:Enc α):List (κ×Value)→List (κ×List α)→List OA
 |p::kvs,q::m=>ap E p.2 q.2::mlL E kvs m
 |_,_=>[]
def mlO(E:Enc α)(n:κ):List (κ×Value)→List (κ×List α)→List OA
 |p::kvs,q::m=>if n=p.1 then mlL E kvs m else ap E p.2 q.2::mlO E n kvs m
 |_,_=>[]
def mlA(toV:κ→Value)(E:Enc α)(b:Nat)(m:List (κ×List α)):OA:=
 ⟨fun w S=>∃kvs:List (κ×Value),kvs.map (·.1)=m.map (·.1)∧zAY w (mpA toV b kvs::mlL E kvs m) S,fun a h ⟨kvs,h1,h2⟩=>⟨kvs,h1,zAY.loc a h h2⟩⟩
def mlR(E:Enc α)(n:κ)(kvs:List (κ×Value))(m:List (κ×List α)):OA:=⟨fun w S=>zAY w (mlO E n kvs m) S,fun a h hp=>zAY.loc a h hp⟩
def mlB(E:Enc α)(kvs:List (κ×Value))(m:List (κ×List α)):OA:=⟨fun w S=>zAY w (mlL E kvs m) S,fun a h hp=>zAY.loc a h hp⟩
def fML(E:Enc α)(kvs:List (κ×Value))(m:List (κ×List α)):zJ:=
 ⟨fun w=>∀n v xs,lkp n kvs=some v→lkp n m=some xs→(fSl E v xs).p w,fun a h n v xs h1 h2=>(fSl E v xs).mono a (h n v xs h1 h2)⟩
theorem zGl{β γ:Type}{n:κ}:∀{kvs:List (κ×β)} {m:List (κ×γ)},kvs.map (·.1)=m.map (·.1)→(lkp n kvs=none↔lkp n m=none)
 |[],[],_=>⟨fun _=>rfl,fun _=>rfl⟩
 |(a,u)::kvs,(b,x)::m,h=>by
  rw[List.map_cons,List.map_cons]at h;injection h with h1 h2;have h1:a=b:=h1;subst h1;unfold lkp;by_cases e:n=a
  ·rw[if_pos e,if_pos e];exact⟨fun h=>(nomatch h),fun h=>(nomatch h)⟩
  ·rw[if_neg e,if_neg e];exact zGl h2
 |[],_::_,h=>by cases h
 |_::_,[],h=>by cases h
theorem zJn{n:κ}:∀{kvs:List (κ×Value)} {m:List (κ×List α)},lkp n kvs=none→mlO E n kvs m=mlL E kvs m
 |[],_,_=>by unfold mlO mlL;rfl
 |_::_,[],_=>by unfold mlO mlL;rfl
 |(a,u)::kvs,(b,x)::m,h=>by
  unfold lkp at h;by_cases e:n=a
  ·rw[if_pos e]at h;cases h
  ·rw[if_neg e]at h;unfold mlO mlL;rw[if_neg e,zJn h]
theorem zIy{n:κ}{v:Value}{xs:List α}:∀{kvs:List (κ×Value)} {m:List (κ×List α)},kvs.map (·.1)=m.map (·.1)→lkp n kvs=some v→lkp n m=some xs→Sel (ap E v xs) (mlL E kvs m) (mlO E n kvs m)
 |[],_,_,h,_=>by cases h
 |_::_,[],h,_,_=>by cases h
 |(a,u)::kvs,(b,x)::m,h,h1,h2=>by
  rw[List.map_cons,List.map_cons]at h;injection h with e1 e2;have e1:a=b:=e1;subst e1;unfold lkp at h1 h2;unfold mlL mlO;by_cases e:n=a
  ·rw[if_pos e]at h1 h2⊢;cases h1;cases h2;exact .here
  ·rw[if_neg e]at h1 h2⊢;exact .there (zIy e2 h1 h2)
theorem zMR{n:κ}{v:Value}{xs:List α}:∀{kvs:List (κ×Value)} {m:List (κ×List α)},kvs.map (·.1)=m.map (·.1)→Sel (ap E v xs) (mlL E (upd n v kvs) (upd n xs m)) (mlO E n kvs m)
 |[],[],_=>by unfold upd mlO mlL mlL;exact .here
 |[],_::_,h=>by cases h
 |_::_,[],h=>by cases h
 |(a,u)::kvs,(b,x)::m,h=>by
  rw[List.map_cons,List.map_cons]at h;injection h with e1 e2;have e1:a=b:=e1;subst e1;unfold upd mlO;by_cases e:n=a
  ·rw[if_pos e,if_pos e,if_pos e];rw[show mlL E ((n,v)::kvs) ((n,xs)::m)=ap E v xs::mlL E kvs m from rfl];exact .here
  ·rw[if_neg e,if_neg e,if_neg e];rw[show mlL E ((a,u)::upd n v kvs) ((a,x)::upd n xs m)=ap E u x::mlL E (upd n v kvs) (upd n xs m)from rfl];exact .there (zMR e2)
theorem zJj{β γ:Type}{n:κ}{v:β}{x:γ}:∀{kvs:List (κ×β)} {m:List (κ×γ)},kvs.map (·.1)=m.map (·.1)→(upd n v kvs).map (·.1)=(upd n x m).map (·.1)
 |[],[],_=>rfl
 |[],_::_,h=>by cases h
 |_::_,[],h=>by cases h
 |(a,u)::kvs,(b,y)::m,h=>by
  rw[List.map_cons,List.map_cons]at h;injection h with e1 e2;have e1:a=b:=e1;subst e1;unfold upd;by_cases e:n=a
  ·rw[if_pos e,if_pos e,List.map_cons,List.map_cons,e2]
  ·rw[if_neg e,if_neg e,List.map_cons,List.map_cons,zJj e2]
variable {B:List Nat} {w0:Wd} {kl kl' klr k1 k2:List OA} {F:List zJ} {Q:IH→Prop} {b:Nat} {m:List (κ×List α)}
theorem zTW(E:Enc α)(h:R Q B w0 (mlA toV E b ([]:List (κ×List α))::kl') F)(hk:autoParam (Sel (mpA toV b []) kl kl') zBN._auto_1):R Q B w0 kl F:=
 .perm (fun w S hS=>by
  obtain⟨S',⟨T1,T2,u1,u2,e⟩,hp⟩:=hS.sel hk;exact⟨S',⟨T1,T2,⟨[],rfl,T1,[],u1,rfl,by simp⟩,u2,e⟩,hp⟩) h
theorem zUA(n:κ)(hk:autoParam (Sel (mlA toV E b m) kl kl') zBN._auto_1)
 (h:∀(kvs:List (κ×Value)) (v:Value),kvs.map (·.1)=m.map (·.1)→lkV false (.slice none 0 0) n kvs=v→R Q B w0 (mpA toV b kvs::ap E v ((lkp n m).getD [])::mlR E n kvs m::kl') F):R Q B w0 kl F:=fun w s=>by
 obtain⟨S,⟨S1,S2,⟨kvs,hkeys,T1,T2,u1,u2,e1⟩,q2,e⟩,hnd,hall⟩:=(s.sel hk).own;have key:∃T',zAY w (ap E (lkV false (.slice none 0 0) n kvs) ((lkp n m).getD [])::mlO E n kvs m) T'∧T2.Perm T':=by
  cases hl:lkp n kvs with
  |none=>
   have hm:=(zGl (n:=n) hkeys).1 hl;have e1:lkV false (.slice none 0 0) n kvs=.slice none 0 0:=by unfold lkV;rw[hl];rfl
   rw[e1,hm,zJn hl];exact⟨T2,⟨[],T2,.inl ⟨rfl,rfl,rfl⟩,u2,rfl⟩,.refl _⟩
  |some v=>
   cases hm:lkp n m with
   |none=>rw[(zGl (n:=n) hkeys).2 hm]at hl;cases hl
   |some xs=>
    have e1:lkV false (.slice none 0 0) n kvs=v:=by unfold lkV;rw[hl];rfl
    rw[e1];exact u2.sel (zIy hkeys hl hm)
 obtain⟨T',⟨T3,T4,u3,u4,e3⟩,hp⟩:=key;subst e e1 e3;have hperm:((T1++T2)++S2).Perm (T1++(T3++(T4++S2))):=by
  rw[List.append_assoc];refine List.Perm.append_left T1 ?_;rw[← List.append_assoc];exact List.Perm.append_right S2 hp
 exact h kvs _ hkeys rfl w ⟨s.agree,s.le,s.zold,⟨_,⟨T1,_,u1,⟨T3,_,u3,⟨T4,S2,u4,q2,rfl⟩,rfl⟩,rfl⟩,hperm.nodup hnd,fun i hi=>hall i (hperm.mem_iff.2 hi)⟩,s.facts⟩
theorem zUP(n:κ){kvs:List (κ×Value)}{v:Value}{xs:List α}(hkeys:kvs.map (·.1)=m.map (·.1))(h:R Q B w0 (mlA toV E b (upd n xs m)::klr) F)
 (h1:autoParam (Sel (mpA toV b (upd n v kvs)) kl k1) zBN._auto_1) (h2:autoParam (Sel (ap E v xs) k1 k2) zBN._auto_1) (h3:autoParam (Sel (mlR E n kvs m) k2 klr) zBN._auto_1):R Q B w0 kl F:=
 .perm (fun w S hS=>by
  obtain⟨S1,S2,q1,q2,hp⟩:=hS.selL (.cons h1 (.cons h2 (.cons h3 .nil)));obtain⟨T1,U1,u1,⟨T2,U2,u2,⟨T3,U3,u3,u4,e3⟩,e2⟩,e1⟩:=q1;have u4:U3=[]:=u4;subst u4 e3 e2 e1;obtain⟨V,v1,v2⟩:=zAY.unsel (zMR (E:=E) (n:=n) (v:=v) (xs:=xs) hkeys) (S:=T2++T3) (w:=w) ⟨T2,T3,u2,u3,rfl⟩;refine⟨(T1++V)++S2,⟨T1++V,S2,⟨upd n v kvs,zJj hkeys,⟨T1,V,u1,v1,rfl⟩⟩,q2,rfl⟩,hp.trans ?_⟩;rw[List.append_nil];exact List.Perm.append_right S2 (List.Perm.append_left T1 v2)) h
theorem zTr(h:∀kvs:List (κ×Value),kvs.map (·.1)=m.map (·.1)→R Q B w0 (mpA toV b kvs::mlB E kvs m::kl') F)(hk:autoParam (Sel (mlA toV E b m) kl kl') zBN._auto_1):R Q B w0 kl F:=fun w s=>by
 obtain⟨S,⟨S1,S2,⟨kvs,hkeys,T1,T2,u1,u2,e1⟩,q2,e⟩,hnd,hall⟩:=(s.sel hk).own;subst e e1;refine h kvs hkeys w ⟨s.agree,s.le,s.zold,⟨T1++(T2++S2),⟨T1,_,u1,⟨T2,S2,u2,q2,rfl⟩,rfl⟩,?_,fun i hi=>hall i ?_⟩,s.facts⟩
 ·rw[← List.append_assoc];exact hnd
 ·rw[List.append_assoc];exact hi
theorem zRr{kvs:List (κ×Value)}(hkeys:kvs.map (·.1)=m.map (·.1)):Frz (mlB E kvs m) [fML E kvs m]:=by
 intro w w' S hS hle hh hz f hf;rw[List.mem_singleton.1 hf];have hS:zAY w (mlL E kvs m) S:=hS;clear hf;intro n v xs h1 h2;obtain⟨S',⟨T1,T2,u1,_,e⟩,hp⟩:=hS.sel (zIy hkeys h1 h2);subst e;exact z5 w w' T1 u1 hle hh (fun i hi=>hz i (hp.mem_iff.2 (List.mem_append_left _ hi))) _ (List.mem_singleton.2 rfl)
end
end Go.Ideal
namespace Go.Ideal
variable {P:Program} {B:List Nat} {w0:Wd} {kl kl' klr:List OA} {F:List zJ} {K:KO} {ds:List Tmp} {rest:List zQ} {n:Nat} {l:List (Nat×Value)} {D:List Deferred} {pm:Option FrameMode} {ro:Option Nat} {d:Nat} {g:Option (Tmp×Bool)}
theorem zLu{α:Type}(E:Enc α){x i:Operand}{v:Value}{xss:List (List α)}(k:Nat)(xs:List α){kk:IntKind}{d2:Nat}{g2:Option (Tmp×Bool)}(hz:xss[k]? =some xs)
 (next:∀b o u,R (fun h=>OPS P ds rest (act n ((d2,u)::(d,.pointer (some ⟨b,o,none⟩))::l) D pm ro) h K) B w0 kl (fSl E u xs::F))
 (hn:Nat.blt d n=true:=by rfl) (hg:gok l g=true:=by rfl) (hn2:Nat.blt d2 n=true:=by rfl) (hg2:∀u,gok ((d,u)::l) g2=true:=by intro _;rfl) (hx:ev l x=v:=by conv=>lhs;whnf) (hi:ev l i=.int kk (k:Int):=by rfl)
 (hk:autoParam (Sel (ap (slE E) v xss) kl kl') zBN._auto_1):
 R (fun h=>OPS P ds (⟨⟨some d,g,.idxSl 1 x i⟩,[]⟩::⟨⟨some d2,g2,.load1 (.tmp d)⟩,[]⟩::rest) (act n l D pm ro) h K) B w0 kl F:=by
 intro w s;have s1:=s.sel hk;obtain⟨S,⟨S1,S2,p,p2,e⟩,h2,h3⟩:=s1.own;have hlt:=(List.getElem?_eq_some_iff.1 hz).1;rcases p with⟨h,_⟩|⟨b,o,f,cells,e1,hf,e2,hb,hcl,hel⟩
 ·rw[h]at hz;cases hz
 ·subst e1;obtain⟨y,u1,u2⟩:=hel k xs hz;have hc:cells[o+(k:Int).toNat*1]? =some y:=by
   have:=u1 0 y rfl;simpa[slE]using this
  refine zIz hn hg hx hi (by omega) (by omega) ?_;have hbS:b∈S:=by rw[e,e2];simp
  refine zG8 hn2 (hg2 _) (by show lk _ d=_;simp[lk]) ⟨(h3 b hbS).2.1,hb⟩ hc (next _ _ y w ⟨s.agree,s.le,s.zold,s.own,fun f hf=>?_⟩);rcases List.mem_cons.1 hf with rfl|hf
  ·exact u2 _ (List.mem_singleton.2 rfl)
  ·exact s.facts f hf
end Go.Ideal
namespace Go.Ideal
variable {P:Program} {B:List Nat} {w0:Wd} {kl kl' klr k1 k2:List OA} {F:List zJ} {Q:IH→Prop}
section
variable {β:Type} (A:Value→β→OA)
def zLJ(vs:List Value)(xss:List β):List OA:=(vs.zip xss).map fun p=>A p.1 p.2
def zHN(b:Nat)(xss:List β):OA:=
 ⟨fun w S=>∃vs:List Value,vs.length=xss.length∧zAY w (pt b (.cells vs)::zLJ A vs xss) S,fun a h ⟨vs,h1,h2⟩=>⟨vs,h1,zAY.loc a h h2⟩⟩
def zUw(vs:List Value)(xss:List β)(k:Nat):OA:=
 ⟨fun w S=>zAY w ((zLJ A vs xss).eraseIdx k) S,fun a h hp=>zAY.loc a h hp⟩
theorem zJh{vs:List Value}{xss:List β}{k:Nat}{v:Value}{xs:β}(hv:vs[k]? =some v)(hx:xss[k]? =some xs):(zLJ A vs xss)[k]? =some (A v xs):=by
 simp[zLJ,List.zip,List.getElem?_map,List.getElem?_zipWith,hv,hx]
theorem zP8{b:Nat}{xss:List β}{k:Nat}{xs:β}(hx:xss[k]? =some xs)(hk:autoParam (Sel (zHN A b xss) kl kl') zBN._auto_1)
 (h:∀(vs:List Value) (v:Value),vs.length=xss.length→vs[k]? =some v→R Q B w0 (pt b (.cells vs)::A v xs::zUw A vs xss k::kl') F):R Q B w0 kl F:=fun w s=>by
 obtain⟨S,⟨S1,S2,⟨vs,h1,h2⟩,q2,e⟩,hnd,hall⟩:=(s.sel hk).own;subst e;have hlt:=(List.getElem?_eq_some_iff.1 hx).1;have hv:vs[k]? =some (vs[k]'(by omega)):=List.getElem?_eq_getElem (by omega);refine h vs _ h1 hv w ?_;have hg:(zLJ A vs xss)[k]? =some (A (vs[k]'(by omega)) xs):=zJh A hv hx;obtain⟨T1,T2,u1,u2,e⟩:=h2;obtain⟨T3,⟨T4,T5,u4,u5,e5⟩,u6⟩:=u2.sel (Sel.at hg);subst e5 e;have hperm:((T1++T2)++S2).Perm (T1++(T4++(T5++S2))):=by
  rw[List.append_assoc];refine List.Perm.append_left T1 ?_;rw[← List.append_assoc];exact List.Perm.append_right S2 u6
 exact⟨s.agree,s.le,s.zold,⟨T1++(T4++(T5++S2)),⟨T1,_,u1,⟨T4,_,u4,⟨T5,S2,u5,q2,rfl⟩,rfl⟩,rfl⟩,hperm.nodup hnd,fun i hi=>hall i (hperm.mem_iff.2 hi)⟩,s.facts⟩
theorem zPj{vs:List Value}{xss:List β}{k:Nat}{v:Value}{xs:β}:zLJ A (vs.set k v) (xss.set k xs)=(zLJ A vs xss).set k (A v xs):=by
 apply List.ext_getElem?;intro j;simp only[zLJ,List.getElem?_map,List.getElem?_set,List.zip,List.getElem?_zipWith];by_cases e:k=j
 ·subst e;by_cases h1:k<vs.length
  ·by_cases h2:k<xss.length
   ·simp[h1,h2];omega
   ·simp[h1,h2];omega
  ·simp[h1];omega
 ·simp[e]
theorem zQD{b:Nat}{xss:List β}{vs:List Value}{k:Nat}{v:Value}{xs:β}(hlen:vs.length=xss.length)(hk:k<xss.length)(h1:autoParam (Sel (pt b (.cells (vs.set k v))) kl k1) zBN._auto_1)
 (h2:autoParam (Sel (A v xs) k1 k2) zBN._auto_1) (h3:autoParam (Sel (zUw A vs xss k) k2 klr) zBN._auto_1) (h:R Q B w0 (zHN A b (xss.set k xs)::klr) F):R Q B w0 kl F:=
 .perm (fun w S hS=>by
  obtain⟨S1,S2,q1,q2,hp⟩:=hS.selL (.cons h1 (.cons h2 (.cons h3 .nil)));obtain⟨T1,U1,u1,⟨T2,U2,u2,⟨T3,U3,u3,u4,e3⟩,e2⟩,e1⟩:=q1;have u4:U3=[]:=u4;subst u4 e3 e2 e1;have hl:((zLJ A vs xss).set k (A v xs))[k]? =some (A v xs):=by
   rw[List.getElem?_set,if_pos rfl,if_pos (by simp[zLJ];omega)]
  obtain⟨V,v1,v2⟩:=zAY.unsel (Sel.at hl) (S:=T2++T3) (w:=w) ⟨T2,T3,u2,by rw[zFg];exact u3,rfl⟩;refine⟨(T1++V)++S2,⟨T1++V,S2,⟨vs.set k v,by simp[hlen],⟨T1,V,u1,by rw[zPj];exact v1,rfl⟩⟩,q2,rfl⟩,hp.trans ?_⟩;rw[List.append_nil];exact List.Perm.append_right S2 (List.Perm.append_left T1 v2)) h
theorem zQf{b m:Nat}{v0:Value}{x0:β}(h0:∀w,(A v0 x0).p w [])(hk:autoParam (Sel (pt b (.cells (List.replicate m v0))) kl kl') zBN._auto_1)(h:R Q B w0 (zHN A b (List.replicate m x0)::kl') F):R Q B w0 kl F:=
 .perm (fun w S hS=>by
  obtain⟨S',⟨T1,T2,u1,u2,e⟩,hp⟩:=hS.sel hk;refine⟨S',⟨T1,T2,⟨List.replicate m v0,by simp,⟨T1,[],u1,?_,by simp⟩⟩,u2,e⟩,hp⟩;have:∀m,zAY w (zLJ A (List.replicate m v0) (List.replicate m x0)) []:=by
   intro m;induction m with
   |zero=>rfl
   |succ m ih=>exact⟨[],[],h0 w,ih,rfl⟩
  exact this m) h
theorem zRI{E:Enc β}{b c:Nat}{xss:List β}(fv:Value→E.Y)(hn:E.n=1)(hpat:∀x v,E.pat x (fv v)=[v])(hA:∀v xs,Frz (A v xs) (E.fs xs (fv v)))(hc:xss.length≤c:=by first|exact Nat.le_refl _|omega):Frz (zHN A b xss) [fSl E (.slice (some ⟨b,0,some 0⟩) xss.length c) xss]:=by
 intro w w' S ⟨vs,hlen,T1,T2,⟨h1,h2⟩,u2,e⟩ hle hh hz f hf;subst e;rw[List.mem_singleton.1 hf];refine .inr ⟨b,0,0,c,vs,⟨rfl,hc,.inl rfl⟩,⟨hz b (by rw[h1];simp),.inl (by rw[hh];exact h2)⟩,fun k xs hk=>?_⟩;have hlt:=(List.getElem?_eq_some_iff.1 hk).1;have hv:vs[k]? =some (vs[k]'(by omega)):=List.getElem?_eq_getElem (by omega);have hg:(zLJ A vs xss)[k]? =some (A (vs[k]'(by omega)) xs):=zJh A hv hk;obtain⟨T3,⟨T4,T5,u4,u5,e5⟩,u6⟩:=u2.sel (Sel.at hg);subst e5;refine⟨fv (vs[k]'(by omega)),fun j u hj=>?_,fun g hgm=>?_⟩
 ·rw[hpat]at hj;match j,hj with
  |0,hj=>
   cases hj;show vs[0+k*E.n+0]? =_;rw[hn];simp
 ·exact hA _ _ w w' T4 u4 hle hh (fun i hi=>hz i (List.mem_append_right _ (u6.mem_iff.2 (List.mem_append_left _ hi)))) g hgm
end
def fNZ{α:Type}(v:Value)(xs:List α):zJ:=⟨fun _=>xs=[]→v=.slice none 0 0,fun _ h=>h⟩
def apN{α:Type}(E:Enc α)(v:Value)(xs:List α):OA:=⟨fun w S=>(ap E v xs).p w S∧(xs=[]→v=.slice none 0 0),fun a h hp=>⟨(ap E v xs).loc a h hp.1,hp.2⟩⟩
def slZ{α:Type}(E:Enc α):Enc (List α):=⟨1,Value,fun _ v=>[v],fun xs v=>[fSl E v xs,fNZ v xs],fun _ _=>rfl⟩
theorem zRf{α:Type}{E:Enc α}{v:Value}{xs:List α}:Frz (apN E v xs) [fSl E v xs,fNZ v xs]:=by
 intro w w' S hp hle hh hz f hf;rcases List.mem_cons.1 hf with rfl|hf
 ·exact z5 w w' S hp.1 hle hh hz _ (List.mem_singleton.2 rfl)
 ·rw[List.mem_singleton.1 hf];exact hp.2
theorem zQM{α:Type}(E:Enc α)(v:Value)(xs:List α)(h:(xs=[]→v=.slice none 0 0)→R Q B w0 (ap E v xs::kl') F)(hk:autoParam (Sel (apN E v xs) kl kl') zBN._auto_1):R Q B w0 kl F:=fun w s=>by
 obtain⟨S,⟨S1,S2,q1,q2,e⟩,h2,h3⟩:=(s.sel hk).own;exact h q1.2 w ⟨s.agree,s.le,s.zold,⟨S,⟨S1,S2,q1.1,q2,e⟩,h2,h3⟩,s.facts⟩
theorem zP0{α:Type}(E:Enc α)(v:Value)(xs:List α)(hz:xs=[]→v=.slice none 0 0)(h:R Q B w0 (apN E v xs::kl') F)(hk:autoParam (Sel (ap E v xs) kl kl') zBN._auto_1):R Q B w0 kl F:=fun w s=>
 h w ((s.sel hk).turnA (A:=ap E v xs) fun w S hp=>⟨hp,hz⟩)
theorem zHV{α:Type}{E:Enc α}{v:Value}{xss:List (List α)}{w:Wd}(h:(fSl (slZ E) v xss).p w):(fSl (slE E) v xss).p w:=by
 rcases h with h|⟨i,o,f,c,cells,h1,h2,h3⟩
 ·exact .inl h
 ·refine .inr ⟨i,o,f,c,cells,h1,h2,fun k x hk=>?_⟩;obtain⟨y,q1,q2⟩:=h3 k x hk;exact⟨y,q1,fun f hf=>q2 f (by rw[List.mem_singleton.1 hf];exact List.mem_cons_self ..)⟩
theorem zKC{A A':OA}(e:A=A')(h:R Q B w0 (A'::kl') F)(hk:autoParam (Sel A kl kl') zBN._auto_1):R Q B w0 kl F:=by
 subst e;exact fun w s=>h w (s.sel hk)
theorem St.arAp{α:Type}{E:Enc α}{v:Value}{xys:List (α×E.Y)}{w:Wd}(h0:0<xys.length)(hall:(fAll E xys).p w)(s:St B w0 (ar E v xys::kl') F w):St B w0 (ap E v (xys.map (·.1))::kl') F w:=by
 obtain⟨S,⟨S1,S2,q1,q2,e⟩,h2,h3⟩:=s.own;refine⟨s.agree,s.le,s.zold,⟨S,⟨S1,S2,?_,q2,e⟩,h2,h3⟩,s.facts⟩;rcases q1 with⟨h4,_⟩|⟨b,f,h4,h5,h6,h7⟩
 ·rw[h4]at h0;simp at h0
 ·refine .inr ⟨b,0,f,_,by rw[List.length_map];exact h4,h5,h6,h7,by rw[zCT,List.length_map,Nat.zero_add],fun k x hk=>?_⟩;rw[List.getElem?_map]at hk;cases hp:xys[k]? with
  |none=>rw[hp]at hk;cases hk
  |some p=>
   rw[hp]at hk;cases hk;exact⟨p.2,fun j u hj=>by rw[Nat.zero_add];exact zBE hp hj,fun f hf=>hall p (List.mem_of_getElem? hp) f hf⟩
end Go.Ideal
namespace Go.Ideal
variable {P:Program}
def zOy{α:Type}(P:Program)(vals:α→List Value)(fe:α→List zJ)(fn:Fn)(first cap:List Value)(F:List zJ)(X:List α→Prop):Prop:=
 ∀(S:Type) (inv:S→List OA) (ok:List α→S→Prop) (step:S→α→S×Bool) (s0:S) (yfn:Fn) (y1 y2:List Value) (F':List zJ),ok [] s0→
  (∀vs s x rest,ok vs s→X (vs++x::rest)→(step s x).2=true→ok (vs++[x]) (step s x).1)→
  (∀vs s x rest,ok vs s→X (vs++x::rest)→FnC P yfn (y1++vals x) y2 (inv s) (fe x++F') (fun _:Unit=>.bool (step s x).2) (fun _=>inv (step s x).1) (fun _=>[]) (fun _=>True))→
  FnC P fn (first++[.func yfn ⟨y1⟩ ⟨y2⟩]) cap (inv s0) (F++F') (fun _:List α=>.tuple ⟨[]⟩) (fun xs=>inv (zAf step s0 xs)) (fun _=>[]) X
theorem FnC.facts{Y:Type}{fn:Fn}{args cap:List Value}{kl:List OA}{F F2:List zJ}{val:Y→Value}{kl':Y→List OA}{fs:Y→List zJ}{pr:Y→Prop}(h:FnC P fn args cap kl F val kl' fs pr)(hF:∀f∈F,f∈F2):FnC P fn args cap kl F2 val kl' fs pr:=
 fun B w s=>h B w ⟨s.agree,s.le,s.zold,s.own,fun f hf=>s.facts f (hF f hf)⟩
section
variable {B:List Nat} {w0:Wd} {kl kl' klr:List OA} {F:List zJ} {K:KO} {n:Nat} {l:List (Nat×Value)} {D:List Deferred} {pm:Option FrameMode} {ro:Option Nat}
theorem zOP{S α Z:Type}{f:Operand}{ps:List Tmp}{assign body:zS}{fn:Fn}{first captured:List Value}{vals:α→List Value}{fe:α→List zJ}{F1:List zJ}{X:List α→Prop}(step:S→α→S×Out)(inv:S→List OA)(ok:List α→S→Prop)(s0:S)(h0:ok [] s0)
 (hok:∀vs s x rest,ok vs s→X (vs++x::rest)→(step s x).2=.normal→ok (vs++[x]) (step s x).1) (hit:zOy P vals fe fn first captured F1 X)
 (hf:ev l f=.func fn ⟨first⟩ ⟨captured⟩) (hps:ps.all (fun p=>Nat.blt p n)=true) (hlen:∀x,ps.length=(vals x).length) (hk:SelL (inv s0) kl klr) (hF:Sub F1 F) (hpan:∀s x,zFp (step s x).2)
 (l3:α→Z→List (Nat×Value)) (k3:α→Z→List OA)
 (ha:∀(s:S) (x:α) (lo:Nat) (o:z4) B w0,R (fun h=>EV P assign (act n ((ps.zip (vals x)).reverse++l) [] none (some lo)) h (zSB B w0 n (l3 x) lo o (fun z=>k3 x z++inv s) (fe x++F))) B w0 (pt lo o::inv s) (fe x++F))
 (hb:∀(vs:List α) (s:S) (x:α) (rest:List α) (z:Z) (lo:Nat) (L:zBZ) B w0,ok vs s→X (vs++x::rest)→R (fun h=>EV P body (act n (l3 x z) [] none (some lo)) h (zCt B w0 lo L (fun _:Unit=>(step s x).2) (fun _=>inv (step s x).1) (fun _=>[]) (fun _=>True))) B w0 (pt lo (.loop (zDE L))::(k3 x z++inv s)) (fe x++F))
 (next:∀r xs,X xs→R (fun h=>K (zBu step s0 xs).2 (act n l ({target:=.collected r,args:= #[]}::D) pm none) h) B w0 (inv (zBu step s0 xs).1++(pt r (.defs true)::klr)) F):
 R (fun h=>EV P (.rangeFunc f ps assign body) (act n l D pm none) h K) B w0 kl F:=by
 refine zIZ (Y:=List α) (k1:=inv s0) (F1:=F1++F) (valI:=fun _=>.tuple ⟨[]⟩) (out:=fun xs=>(zBu step s0 xs).2) (k1':=fun xs=>inv (zBu step s0 xs).1) (fs:=fun _=>[]) (pr:=X) hf ?_ hk (hF.app (Sub.refl' F [])) (fun r y hy=>next r y hy);intro lo r;have:=hit (S×Out) (fun so=>pt lo (.loop (zEE ⟨.ready,none,zBV l,n,ps,assign,body,r⟩ so.2))::inv so.1) (fun vs so=>so.2=.normal∧ok vs so.1) (fun so x=>(step so.1 x,isN (step so.1 x).2)) (s0,.normal) (.yield lo) [] [] F ⟨rfl,h0⟩
  (fun vs so x rest ho hx h=>by
    have h:isN (step so.1 x).2=true:=h;have hn:(step so.1 x).2=.normal:=by
     cases e:(step so.1 x).2 with
     |normal=>rfl
     |_=>rw[e]at h;cases h
    exact⟨hn,hok vs so.1 x rest ho.2 hx hn⟩)
  (fun vs so x rest ho hx=>by
    obtain⟨s,o⟩:=so;obtain⟨hn,ho⟩:=ho;have hn:o=.normal:=hn;subst hn;exact zHu (Y:=Unit) (L:=⟨.ready,none,zBV l,n,ps,assign,body,r⟩) (args:=vals x) (k1:=inv s) (out:=fun _=>(step s x).2) (k1':=fun _=>inv (step s x).1) (fs:=fun _=>[]) (pr:=fun _=>True) l (l3 x) (fun z=>k3 x z++inv s) rfl rfl hps (hlen x)
     (fun B w0=>ha s x lo _ B w0) (fun z B w0=>hb vs s x rest z lo _ B w0 ho hx))
 have e:(fun xs:List α=>pt lo (.loop (zEE ⟨.ready,none,zBV l,n,ps,assign,body,r⟩ (zAf (fun(so:S×Out) x=>(step so.1 x,isN (step so.1 x).2)) (s0,.normal) xs).2))::inv (zAf (fun(so:S×Out) x=>(step so.1 x,isN (step so.1 x).2)) (s0,.normal) xs).1)=fun xs=>pt lo (.loop (zEE ⟨.ready,none,zBV l,n,ps,assign,body,r⟩ (zBu step s0 xs).2))::inv (zBu step s0 xs).1:=by
  funext xs
  rw[zDK]
 have h2:FnC P fn (first++[.func (.yield lo) ⟨[]⟩ ⟨[]⟩]) captured (pt lo (.loop ⟨.ready,none,zBV l,n,ps,assign,body,r⟩)::inv s0) (F1++F) (fun _:List α=>.tuple ⟨[]⟩) (fun xs=>pt lo (.loop (zEE ⟨.ready,none,zBV l,n,ps,assign,body,r⟩ (zAf (fun(so:S×Out) x=>(step so.1 x,isN (step so.1 x).2)) (s0,.normal) xs).2))::inv (zAf (fun(so:S×Out) x=>(step so.1 x,isN (step so.1 x).2)) (s0,.normal) xs).1) (fun _=>[]) X:=this;rw[e]at h2;exact h2
theorem zLa{S α Z:Type}{f:Operand}{ps:List Tmp}{assign body:zS}{fn:Fn}{first captured:List Value}{vals:α→List Value}{fe:α→List zJ}{F1:List zJ}{X:List α→Prop}(step:S→α→S×Out)(inv:S→List OA)(ok:List α→S→Prop)(s0:S)(l3:α→Z→List (Nat×Value))(k3:α→Z→List OA)(h0:ok [] s0)
 (hok:∀vs s x rest,ok vs s→X (vs++x::rest)→(step s x).2=.normal→ok (vs++[x]) (step s x).1) (hit:zOy P vals fe fn first captured F1 X)
 (ha:∀(s:S) (x:α) (lo:Nat) (o:z4) B w0,R (fun h=>EV P assign (act n ((ps.zip (vals x)).reverse++l) [] none (some lo)) h (zSB B w0 n (l3 x) lo o (fun z=>k3 x z++inv s) (fe x++F))) B w0 (pt lo o::inv s) (fe x++F))
 (hb:∀(vs:List α) (s:S) (x:α) (rest:List α) (z:Z) (lo:Nat) (L:zBZ) B w0,ok vs s→X (vs++x::rest)→R (fun h=>EV P body (act n (l3 x z) [] none (some lo)) h (zCt B w0 lo L (fun _:Unit=>(step s x).2) (fun _=>inv (step s x).1) (fun _=>[]) (fun _=>True))) B w0 (pt lo (.loop (zDE L))::(k3 x z++inv s)) (fe x++F))
 (next:∀r xs,X xs→R (fun h=>K (zBu step s0 xs).2 (act n l ({target:=.collected r,args:= #[]}::D) pm none) h) B w0 (inv (zBu step s0 xs).1++(pt r (.defs true)::klr)) F)
 (hpan:∀s x,zFp (step s x).2)
 (hf:ev l f=.func fn ⟨first⟩ ⟨captured⟩:=by rfl) (hps:ps.all (fun p=>Nat.blt p n)=true:=by rfl) (hlen:∀x,ps.length=(vals x).length:=by intro _;rfl)
 (hk:autoParam (SelL (inv s0) kl klr) zBX._auto_1) (hF:autoParam (Sub F1 F) zFn._auto_1):
 R (fun h=>EV P (.rangeFunc f ps assign body) (act n l D pm none) h K) B w0 kl F:=
 zOP step inv ok s0 h0 hok hit hf hps hlen hk hF hpan l3 k3 ha hb next
end
theorem zPI{b o:Nat}{cs:List Value}{w:Wd}(m:Nat)(h:(fRaw b o cs).p w):(fRaw b (o+m) (cs.drop m)).p w:=by
 obtain⟨cells,h1,h2⟩:=h;exact⟨cells,h1,fun j u hu=>by rw[List.getElem?_drop]at hu;rw[Nat.add_assoc];exact h2 _ u hu⟩
section
variable {B:List Nat} {w0:Wd} {kl:List OA} {F:List zJ}
theorem zTx{b:Nat}{cs ds:List Value}{Q:IH→Prop}(m:Nat)(hd:cs.drop m=ds)(h:R Q B w0 kl (fRaw b m ds::F))(hf:autoParam (fRaw b 0 cs∈F) zN1._auto_1):R Q B w0 kl F:=
 zX _ (fun w hw=>by have:=zPI m (hw _ hf);rw[Nat.zero_add,hd]at this;exact this) h
theorem zST{α:Type}(E:Enc α){v:Value}{xs:List α}{k:Nat}{x:α}{Q:IH→Prop}(n:Nat)(hn:E.n=n)(hx:xs[k]? =some x)
 (h:∀b o f c y,v=.slice (some ⟨b,o,some f⟩) xs.length c→R Q B w0 kl (fRaw b (o+k*n) (E.pat x y)::(E.fs x y++F))) (hf:autoParam (fSl E v xs∈F) zN1._auto_1):R Q B w0 kl F:=fun w s=>by
 subst hn;rcases s.facts _ hf with⟨h0,_⟩|⟨i,o,f,c,cells,⟨h1,_⟩,h2,h3⟩
 ·rw[h0]at hx;cases hx
 ·obtain⟨y,q1,q2⟩:=h3 k x hx;refine h i o f c y h1 w ⟨s.agree,s.le,s.zold,s.own,fun g hg=>?_⟩;rcases List.mem_cons.1 hg with rfl|hg
  ·exact⟨cells,h2,q1⟩
  ·rcases List.mem_append.1 hg with hg|hg
   ·exact q2 g hg
   ·exact s.facts g hg
end
end Go.Ideal
namespace Go.Ideal
variable {P:Program} {B:List Nat} {w0:Wd} {kl kl' klr:List OA} {F:List zJ} {K:KO} {ds:List Tmp} {rest:List zQ} {n:Nat} {l:List (Nat×Value)} {D:List Deferred} {pm:Option FrameMode} {ro:Option Nat} {d:Nat} {g:Option (Tmp×Bool)}
end Go.Ideal
