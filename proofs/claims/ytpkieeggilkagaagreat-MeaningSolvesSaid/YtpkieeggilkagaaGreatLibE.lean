/-
  Lists compared: of lists, names, symbols, regions, clues, rules.
-/
import Derived.Test.YtpkieeggilkagaaGreatLibA
import Derived.Test.YtpkieeggilkagaaGreatLibD
import Derived.Test.YtpkieeggilkagaaGreatIdealN
set_option linter.unusedSimpArgs false
set_option linter.unusedVariables false
set_option maxRecDepth 10000
set_option maxHeartbeats 2000000
namespace Go.Proofs.YtpkieeggilkagaaGreat
open Go.Ideal Kd
theorem zNg{va vb:Value}{xs ys:List (List Int)}(hal:xs.length<9223372036854775808)(hl:∀l∈xs,l.length<9223372036854775808):FnP Tryz.prog 189 [va,vb,.func (.func 73) #[] #[]] [fSl (slE intE) va xs,fSl (slE intE) vb ys] (.bool (decide (xs=ys))):=by
 refine zE _ (isC 189) fun B w0=>?_;refine go ?_;refine if_d rfl (fun h1=>?_) (fun h1=>?_)
 ·refine go ?_;refine q_fin () (hv:=?_) (hp:=trivial);rw[decide_eq_false (fun e=>h1 (by rw[e]))];rfl
 have hlen:xs.length=ys.length:=by omega
 refine go ?_;refine zH (fun k=>xs.length - k) (fun k:Nat=>[(17,.int .i64 (k:Int))]) (fun _=>[]) (fun _=>[]) (fun k=>k≤xs.length∧∀j,j<k→xs[j]? =ys[j]?) 0 ⟨by omega,fun j hj=>by omega⟩ (body:=?_);rintro k ⟨hkx,hsame⟩;refine go ?_;refine if_d rfl (fun h2=>?_) (fun h2=>?_)
 ·refine go ?_;refine zV (slE intE) (next:=fun _ _ x (vx:Value) hx=>?_);refine go ?_;refine zV (slE intE) (next:=fun _ _ y (vy:Value) hy=>?_);refine go ?_;refine zA (zB2 (xs:=x) (ys:=y) (hl x (List.mem_of_getElem? hx))) (next:=fun _ _=>?_);refine go ?_;refine zJK rfl (fun h3=>?_) (fun h3=>?_)
  ·refine go ?_;refine q_fin () (hv:=?_) (hp:=trivial);rw[decide_eq_false (fun e=>h3 (by rw[e,hy]at hx;cases hx;rfl))];rfl
  refine go ?_;refine zB (k+1) (by omega) ⟨by omega,fun j hj=>?_⟩;by_cases e:j=k
  ·subst e;rw[hx,hy,h3]
  ·exact hsame j (by omega)
 refine go ?_;refine q_fin () (hv:=?_) (hp:=trivial);have:xs=ys:=by
  apply List.ext_getElem?;intro j;by_cases hj:j<k
  ·exact hsame j hj
  ·rw[List.getElem?_eq_none (by omega),List.getElem?_eq_none (by omega)]
 rw[decide_eq_true this];rfl
theorem zHc{va vb:Value}{xs ys:List (List Int)}(hal:xs.length<9223372036854775808)(hl:∀l∈xs,l.length<9223372036854775808):FnP Tryz.prog 145 [va,vb] [fSl (slE intE) va xs,fSl (slE intE) vb ys] (.bool (decide (xs=ys))):=by
 refine zE _ (isC 145) fun B w0=>?_;refine go ?_;refine zA (zNg (xs:=xs) (ys:=ys) hal hl) (next:=fun _ _=>?_);refine go ?_;exact q_fin () (hv:=rfl) (hp:=trivial)
theorem zPH{va vb:Value}{xs ys:List (List (List Int))}(hal:xs.length<9223372036854775808)(hl:∀l∈xs,l.length<9223372036854775808∧∀m∈l,m.length<9223372036854775808):FnP Tryz.prog 146 [va,vb,.func (.func 145) #[] #[]] [fSl (slE (slE intE)) va xs,fSl (slE (slE intE)) vb ys] (.bool (decide (xs=ys))):=by
 refine zE _ (isC 146) fun B w0=>?_;refine go ?_;refine if_d rfl (fun h1=>?_) (fun h1=>?_)
 ·refine go ?_;refine q_fin () (hv:=?_) (hp:=trivial);rw[decide_eq_false (fun e=>h1 (by rw[e]))];rfl
 have hlen:xs.length=ys.length:=by omega
 refine go ?_;refine zH (fun k=>xs.length - k) (fun k:Nat=>[(17,.int .i64 (k:Int))]) (fun _=>[]) (fun _=>[]) (fun k=>k≤xs.length∧∀j,j<k→xs[j]? =ys[j]?) 0 ⟨by omega,fun j hj=>by omega⟩ (body:=?_);rintro k ⟨hkx,hsame⟩;refine go ?_;refine if_d rfl (fun h2=>?_) (fun h2=>?_)
 ·refine go ?_;refine zV (slE (slE intE)) (next:=fun _ _ x (vx:Value) hx=>?_);refine go ?_;refine zV (slE (slE intE)) (next:=fun _ _ y (vy:Value) hy=>?_);refine go ?_;refine zA (zHc (xs:=x) (ys:=y) (hl x (List.mem_of_getElem? hx)).1 (hl x (List.mem_of_getElem? hx)).2) (next:=fun _ _=>?_);refine go ?_;refine zJK rfl (fun h3=>?_) (fun h3=>?_)
  ·refine go ?_;refine q_fin () (hv:=?_) (hp:=trivial);rw[decide_eq_false (fun e=>h3 (by rw[e,hy]at hx;cases hx;rfl))];rfl
  refine go ?_;refine zB (k+1) (by omega) ⟨by omega,fun j hj=>?_⟩;by_cases e:j=k
  ·subst e;rw[hx,hy,h3]
  ·exact hsame j (by omega)
 refine go ?_;refine q_fin () (hv:=?_) (hp:=trivial);have:xs=ys:=by
  apply List.ext_getElem?;intro j;by_cases hj:j<k
  ·exact hsame j hj
  ·rw[List.getElem?_eq_none (by omega),List.getElem?_eq_none (by omega)]
 rw[decide_eq_true this];rfl
theorem zJm{va vb:Value}{xs ys:List ByteArray}(hal:xs.length<9223372036854775808):FnP Tryz.prog 191 [va,vb] [fSl zC0 va xs,fSl zC0 vb ys] (.bool (decide (xs=ys))):=by
 refine zE _ (isC 191) fun B w0=>?_;refine go ?_;refine if_d rfl (fun h1=>?_) (fun h1=>?_)
 ·refine go ?_;refine q_fin () (hv:=?_) (hp:=trivial);rw[decide_eq_false (fun e=>h1 (by rw[e]))];rfl
 have hlen:xs.length=ys.length:=by omega
 refine go ?_;refine zH (fun k=>xs.length - k) (fun k:Nat=>[(13,.int .i64 (k:Int))]) (fun _=>[]) (fun _=>[]) (fun k=>k≤xs.length∧∀j,j<k→xs[j]? =ys[j]?) 0 ⟨by omega,fun j hj=>by omega⟩ (body:=?_);rintro k ⟨hkx,hsame⟩;refine go ?_;refine if_d rfl (fun h2=>?_) (fun h2=>?_)
 ·refine go ?_;refine zV zC0 (next:=fun _ _ x (_:Unit) hx=>?_);refine go ?_;refine zV zC0 (next:=fun _ _ y (_:Unit) hy=>?_);refine go ?_;refine zJK (p:=x=y) (by show Value.bool _=_;rw[zAW]) (fun h3=>?_) (fun h3=>?_)
  ·refine go ?_;refine q_fin () (hv:=?_) (hp:=trivial);rw[decide_eq_false (fun e=>h3 (by rw[e,hy]at hx;cases hx;rfl))];rfl
  refine go ?_;refine zB (k+1) (by omega) ⟨by omega,fun j hj=>?_⟩;by_cases e:j=k
  ·subst e;rw[hx,hy,h3]
  ·exact hsame j (by omega)
 refine go ?_;refine q_fin () (hv:=?_) (hp:=trivial);have:xs=ys:=by
  apply List.ext_getElem?;intro j;by_cases hj:j<k
  ·exact hsame j hj
  ·rw[List.getElem?_eq_none (by omega),List.getElem?_eq_none (by omega)]
 rw[decide_eq_true this];rfl
theorem zTQ(x y:Sym):cellsE [.string x.name,.int .i64 x.value] [.string y.name,.int .i64 y.value]=decide (x=y):=by
 obtain⟨a,b⟩:=x;obtain⟨c,e⟩:=y;show(decide (a=c)&&(decide (b=e)&&true))=_;rw[Bool.and_true,← Bool.decide_and];exact decide_eq_decide.2 ⟨fun h=>by rw[h.1,h.2],fun h=>by cases h;exact⟨rfl,rfl⟩⟩
abbrev zTg(x:Clu):List Value:=[.string x.name,.string x.on,.int .i64 x.family,.int .i64 x.type,.int .i64 x.lo,.int .i64 x.hi]
theorem zTI(x y:Clu):cellsE (zTg x) (zTg y)=decide (x=y):=by
 obtain⟨a1,a2,a3,a4,a5,a6⟩:=x;obtain⟨b1,b2,b3,b4,b5,b6⟩:=y;show(decide (a1=b1)&&(decide (a2=b2)&&(decide (a3=b3)&&(decide (a4=b4)&&(decide (a5=b5)&&(decide (a6=b6)&&true))))))=_;rw[Bool.and_true];simp only[← Bool.decide_and];exact decide_eq_decide.2 ⟨fun h=>by rw[h.1,h.2.1,h.2.2.1,h.2.2.2.1,h.2.2.2.2.1,h.2.2.2.2.2],fun h=>by cases h;exact⟨rfl,rfl,rfl,rfl,rfl,rfl⟩⟩
theorem zTq:∃fs:Array Field,Tryz.prog.underlying 96=some (.struct fs)∧zSa Tryz.prog fs.toList 0 [false,true]=true:=by
 refine⟨Tryz.prog.fieldsOf 96,by kernel_rfl,by kernel_rfl⟩
theorem zUg:∃fs:Array Field,Tryz.prog.underlying 110=some (.struct fs)∧zSa Tryz.prog fs.toList 0 [false,false,true,true,true,true]=true:=by
 refine⟨Tryz.prog.fieldsOf 110,by kernel_rfl,by kernel_rfl⟩
theorem zOU{va vb:Value}{xs ys:List Sym}(hal:xs.length<9223372036854775808):FnP Tryz.prog 192 [va,vb] [fSl zET va xs,fSl zET vb ys] (.bool (decide (xs=ys))):=by
 obtain⟨fs,hu,hrow⟩:=zTq;refine zE _ (isC 192) fun B w0=>?_;refine go ?_;refine if_d rfl (fun h1=>?_) (fun h1=>?_)
 ·refine go ?_;refine q_fin () (hv:=?_) (hp:=trivial);rw[decide_eq_false (fun e=>h1 (by rw[e]))];rfl
 have hlen:xs.length=ys.length:=by omega
 refine go ?_;refine zH (fun k=>xs.length - k) (fun k:Nat=>[(13,.int .i64 (k:Int))]) (fun _=>[]) (fun _=>[]) (fun k=>k≤xs.length∧∀j,j<k→xs[j]? =ys[j]?) 0 ⟨by omega,fun j hj=>by omega⟩ (body:=?_);rintro k ⟨hkx,hsame⟩;refine go ?_;refine if_d rfl (fun h2=>?_) (fun h2=>?_)
 ·refine go ?_;refine zV zET (next:=fun _ _ x (_:Unit) hx=>?_);refine go ?_;refine zV zET (next:=fun _ _ y (_:Unit) hy=>?_);refine go ?_;refine(d_p (v:=.bool (!decide (x=y))) rfl rfl (by rw[← zTQ];exact zQP rfl rfl hu (by kernel_rfl) (by kernel_rfl) (row_of hrow rfl rfl (fun j=>by rw[Nat.zero_add]) (fun j=>by rw[Nat.zero_add])) (by simp[zG,zC,Ideal.cellV]) (by simp[zG,zC,Ideal.cellV]))).h ?_;refine go ?_;refine zJK rfl (fun h3=>?_) (fun h3=>?_)
  ·refine go ?_;refine q_fin () (hv:=?_) (hp:=trivial);rw[decide_eq_false (fun e=>h3 (by rw[e,hy]at hx;cases hx;rfl))];rfl
  refine go ?_;refine zB (k+1) (by omega) ⟨by omega,fun j hj=>?_⟩;by_cases e:j=k
  ·subst e;rw[hx,hy,h3]
  ·exact hsame j (by omega)
 refine go ?_;refine q_fin () (hv:=?_) (hp:=trivial);have:xs=ys:=by
  apply List.ext_getElem?;intro j;by_cases hj:j<k
  ·exact hsame j hj
  ·rw[List.getElem?_eq_none (by omega),List.getElem?_eq_none (by omega)]
 rw[decide_eq_true this];rfl
theorem zOm{va vb:Value}{xs ys:List Clu}(hal:xs.length<9223372036854775808):FnP Tryz.prog 194 [va,vb] [fSl zAS va xs,fSl zAS vb ys] (.bool (decide (xs=ys))):=by
 obtain⟨fs,hu,hrow⟩:=zUg;refine zE _ (isC 194) fun B w0=>?_;refine go ?_;refine if_d rfl (fun h1=>?_) (fun h1=>?_)
 ·refine go ?_;refine q_fin () (hv:=?_) (hp:=trivial);rw[decide_eq_false (fun e=>h1 (by rw[e]))];rfl
 have hlen:xs.length=ys.length:=by omega
 refine go ?_;refine zH (fun k=>xs.length - k) (fun k:Nat=>[(13,.int .i64 (k:Int))]) (fun _=>[]) (fun _=>[]) (fun k=>k≤xs.length∧∀j,j<k→xs[j]? =ys[j]?) 0 ⟨by omega,fun j hj=>by omega⟩ (body:=?_);rintro k ⟨hkx,hsame⟩;refine go ?_;refine if_d rfl (fun h2=>?_) (fun h2=>?_)
 ·refine go ?_;refine zV zAS (next:=fun _ _ x (_:Unit) hx=>?_);refine go ?_;refine zV zAS (next:=fun _ _ y (_:Unit) hy=>?_);refine go ?_;refine(d_p (v:=.bool (!decide (x=y))) rfl rfl (by rw[← zTI];exact zQP rfl rfl hu (by kernel_rfl) (by kernel_rfl) (row_of hrow rfl rfl (fun j=>by rw[Nat.zero_add]) (fun j=>by rw[Nat.zero_add])) (by simp[zG,zC,Ideal.cellV]) (by simp[zG,zC,Ideal.cellV]))).h ?_;refine go ?_;refine zJK rfl (fun h3=>?_) (fun h3=>?_)
  ·refine go ?_;refine q_fin () (hv:=?_) (hp:=trivial);rw[decide_eq_false (fun e=>h3 (by rw[e,hy]at hx;cases hx;rfl))];rfl
  refine go ?_;refine zB (k+1) (by omega) ⟨by omega,fun j hj=>?_⟩;by_cases e:j=k
  ·subst e;rw[hx,hy,h3]
  ·exact hsame j (by omega)
 refine go ?_;refine q_fin () (hv:=?_) (hp:=trivial);have:xs=ys:=by
  apply List.ext_getElem?;intro j;by_cases hj:j<k
  ·exact hsame j hj
  ·rw[List.getElem?_eq_none (by omega),List.getElem?_eq_none (by omega)]
 rw[decide_eq_true this];rfl
end Go.Proofs.YtpkieeggilkagaaGreat
set_option maxHeartbeats 4000000
namespace Go.Proofs.YtpkieeggilkagaaGreat
open Go.Ideal Kd
theorem zOh{x y:Reg}{vx vy:Value}(hl:x.lists.length<9223372036854775808)(hll:∀l∈x.lists,l.length<9223372036854775808):FnP Tryz.prog 188 [.agg ⟨[.string x.name,vx]⟩,.agg ⟨[.string y.name,vy]⟩] [fSl (slE intE) vx x.lists,fSl (slE intE) vy y.lists] (.bool (decide (x=y))):=by
 obtain⟨n1,l1⟩:=x;obtain⟨n2,l2⟩:=y;dsimp only at hl hll⊢;refine zE _ (isC 188) fun B w0=>?_;refine go ?_;intro b2 b3;refine go ?_;first|with_reducible refine g_d (fun h1=>?_) (fun h1=>?_)|with_reducible refine g_n (fun h1=>?_) (fun h1=>?_)|with_reducible refine g_b (fun h1=>?_) (fun h1=>?_)
 ·rw[zAW]at h1;refine go ?_;refine q_fin () (hv:=?_) (hp:=trivial);rw[decide_eq_false (fun e=>of_decide_eq_false h1 (by cases e;rfl))];rfl
 rw[zAW]at h1;have h1:=of_decide_eq_true h1;refine go ?_;refine zA (zNg (xs:=l1) (ys:=l2) hl hll) (next:=fun _ _=>?_);refine go ?_;refine q_fin () (hv:=?_) (hp:=trivial);rw[show decide (Reg.mk n1 l1=Reg.mk n2 l2)=decide (l1=l2)from decide_eq_decide.2 ⟨fun h=>by cases h;rfl,fun h=>by rw[h1,h]⟩];rfl
theorem zPK{x y:Rul}{v1 v2 u1 u2:Value}(hl:x.names.length<9223372036854775808)(hll:x.others.length<9223372036854775808):FnP Tryz.prog 190 [.agg ⟨zCG x v1 v2⟩,.agg ⟨zCG y u1 u2⟩] [fSl zC0 v1 x.names,fSl zC0 v2 x.others,fSl zC0 u1 y.names,fSl zC0 u2 y.others] (.bool (decide (x=y))):=by
 obtain⟨n1,o1,k1,f1,ns1,os1,s1,t1,p1,m1,y1,c1⟩:=x;obtain⟨n2,o2,k2,f2,ns2,os2,s2,t2,p2,m2,y2,c2⟩:=y;dsimp only[zCG]at hl hll⊢;refine zE _ (isC 190) fun B w0=>?_;refine go ?_;intro b2 b3;refine go ?_;refine zA (zJm (xs:=ns1) (ys:=ns2) hl) (next:=fun _ _=>?_);refine go ?_;first|with_reducible refine g_d (fun h1=>?_) (fun h1=>?_)|with_reducible refine g_n (fun h1=>?_) (fun h1=>?_)|with_reducible refine g_b (fun h1=>?_) (fun h1=>?_)
 ·refine go ?_;refine q_fin () (hv:=?_) (hp:=trivial);rw[decide_eq_false (fun e=>h1 (by cases e;rfl))];rfl
 refine go ?_;refine zA (zJm (xs:=os1) (ys:=os2) hll) (next:=fun _ _=>?_);refine go ?_;first|with_reducible refine g_d (fun h2=>?_) (fun h2=>?_)|with_reducible refine g_n (fun h2=>?_) (fun h2=>?_)|with_reducible refine g_b (fun h2=>?_) (fun h2=>?_)
 ·refine go ?_;refine q_fin () (hv:=?_) (hp:=trivial);rw[decide_eq_false (fun e=>h2 (by cases e;rfl))];rfl
 refine go ?_;first|with_reducible refine g_d (fun h3=>?_) (fun h3=>?_)|with_reducible refine g_n (fun h3=>?_) (fun h3=>?_)|with_reducible refine g_b (fun h3=>?_) (fun h3=>?_)
 ·rw[zAW]at h3;refine go ?_;refine q_fin () (hv:=?_) (hp:=trivial);rw[decide_eq_false (fun e=>of_decide_eq_false h3 (by cases e;rfl))];rfl
 rw[zAW]at h3;have h3:=of_decide_eq_true h3;refine go ?_;first|with_reducible refine g_d (fun h4=>?_) (fun h4=>?_)|with_reducible refine g_n (fun h4=>?_) (fun h4=>?_)|with_reducible refine g_b (fun h4=>?_) (fun h4=>?_)
 ·rw[zAW]at h4;refine go ?_;refine q_fin () (hv:=?_) (hp:=trivial);rw[decide_eq_false (fun e=>of_decide_eq_false h4 (by cases e;rfl))];rfl
 rw[zAW]at h4;have h4:=of_decide_eq_true h4;refine go ?_;first|with_reducible refine g_d (fun h5=>?_) (fun h5=>?_)|with_reducible refine g_n (fun h5=>?_) (fun h5=>?_)|with_reducible refine g_b (fun h5=>?_) (fun h5=>?_)
 ·rw[zAW]at h5;refine go ?_;refine q_fin () (hv:=?_) (hp:=trivial);rw[decide_eq_false (fun e=>of_decide_eq_false h5 (by cases e;rfl))];rfl
 rw[zAW]at h5;have h5:=of_decide_eq_true h5;refine go ?_;refine(d_p (v:=.bool (decide ([k1,f1,s1,t1,p1,m1,c1]=[k2,f2,s2,t2,p2,m2,c2]))) rfl rfl (zR0 (n:=7) (e:=3) rfl rfl (by kernel_rfl) (by kernel_rfl) (by kernel_rfl) rfl rfl (by kernel_rfl))).h ?_;refine go ?_;refine q_fin () (hv:=?_) (hp:=trivial);rw[show decide (Rul.mk n1 o1 k1 f1 ns1 os1 s1 t1 p1 m1 y1 c1=Rul.mk n2 o2 k2 f2 ns2 os2 s2 t2 p2 m2 y2 c2)=decide ([k1,f1,s1,t1,p1,m1,c1]=[k2,f2,s2,t2,p2,m2,c2])from decide_eq_decide.2 ⟨fun h=>by cases h;rfl,fun h=>by cases h;rw[h1,h2,h3,h4,h5]⟩];rfl
theorem zN3{va vb:Value}{xs ys:List Reg}(hal:xs.length<9223372036854775808)(hl:∀r∈xs,r.lists.length<9223372036854775808∧∀l∈r.lists,l.length<9223372036854775808):FnP Tryz.prog 193 [va,vb,.func (.func 188) #[] #[]] [fSl zEk va xs,fSl zEk vb ys] (.bool (decide (xs=ys))):=by
 refine zE _ (isC 193) fun B w0=>?_;refine go ?_;refine if_d rfl (fun h1=>?_) (fun h1=>?_)
 ·refine go ?_;refine q_fin () (hv:=?_) (hp:=trivial);rw[decide_eq_false (fun e=>h1 (by rw[e]))];rfl
 have hlen:xs.length=ys.length:=by omega
 refine go ?_;refine zH (fun k=>xs.length - k) (fun k:Nat=>[(17,.int .i64 (k:Int))]) (fun _=>[]) (fun _=>[]) (fun k=>k≤xs.length∧∀j,j<k→xs[j]? =ys[j]?) 0 ⟨by omega,fun j hj=>by omega⟩ (body:=?_);rintro k ⟨hkx,hsame⟩;refine go ?_;refine if_d rfl (fun h2=>?_) (fun h2=>?_)
 ·refine go ?_;refine zV zEk (next:=fun _ _ x (vx:Value) hx=>?_);refine go ?_;intro b8;refine go ?_;refine zV zEk (next:=fun _ _ y (vy:Value) hy=>?_);refine go ?_;intro b9;refine go ?_;refine zA (zOh (x:=x) (y:=y) (vx:=vx) (vy:=vy) (hl x (List.mem_of_getElem? hx)).1 (hl x (List.mem_of_getElem? hx)).2) (next:=fun _ _=>?_);refine go ?_;refine zJK rfl (fun h3=>?_) (fun h3=>?_)
  ·refine go ?_;refine q_fin () (hv:=?_) (hp:=trivial);rw[decide_eq_false (fun e=>h3 (by rw[e,hy]at hx;cases hx;rfl))];rfl
  refine go ?_;refine zB (k+1) (by omega) ⟨by omega,fun j hj=>?_⟩;by_cases e:j=k
  ·subst e;rw[hx,hy,h3]
  ·exact hsame j (by omega)
 refine go ?_;refine q_fin () (hv:=?_) (hp:=trivial);have:xs=ys:=by
  apply List.ext_getElem?;intro j;by_cases hj:j<k
  ·exact hsame j hj
  ·rw[List.getElem?_eq_none (by omega),List.getElem?_eq_none (by omega)]
 rw[decide_eq_true this];rfl
theorem zOc{va vb:Value}{xs ys:List Rul}(hal:xs.length<9223372036854775808)(hl:∀r∈xs,r.names.length<9223372036854775808∧r.others.length<9223372036854775808):FnP Tryz.prog 195 [va,vb,.func (.func 190) #[] #[]] [fSl zn va xs,fSl zn vb ys] (.bool (decide (xs=ys))):=by
 refine zE _ (isC 195) fun B w0=>?_;refine go ?_;refine if_d rfl (fun h1=>?_) (fun h1=>?_)
 ·refine go ?_;refine q_fin () (hv:=?_) (hp:=trivial);rw[decide_eq_false (fun e=>h1 (by rw[e]))];rfl
 have hlen:xs.length=ys.length:=by omega
 refine go ?_;refine zH (fun k=>xs.length - k) (fun k:Nat=>[(17,.int .i64 (k:Int))]) (fun _=>[]) (fun _=>[]) (fun k=>k≤xs.length∧∀j,j<k→xs[j]? =ys[j]?) 0 ⟨by omega,fun j hj=>by omega⟩ (body:=?_);rintro k ⟨hkx,hsame⟩;refine go ?_;refine if_d rfl (fun h2=>?_) (fun h2=>?_)
 ·refine go ?_;refine zV zn (next:=fun _ _ x (vx:Value×Value) hx=>?_);refine go ?_;intro b8;refine go ?_;refine zV zn (next:=fun _ _ y (vy:Value×Value) hy=>?_);refine go ?_;intro b9;refine go ?_;refine zA (zPK (x:=x) (y:=y) (v1:=vx.1) (v2:=vx.2) (u1:=vy.1) (u2:=vy.2) (hl x (List.mem_of_getElem? hx)).1 (hl x (List.mem_of_getElem? hx)).2) (next:=fun _ _=>?_);refine go ?_;refine zJK rfl (fun h3=>?_) (fun h3=>?_)
  ·refine go ?_;refine q_fin () (hv:=?_) (hp:=trivial);rw[decide_eq_false (fun e=>h3 (by rw[e,hy]at hx;cases hx;rfl))];rfl
  refine go ?_;refine zB (k+1) (by omega) ⟨by omega,fun j hj=>?_⟩;by_cases e:j=k
  ·subst e;rw[hx,hy,h3]
  ·exact hsame j (by omega)
 refine go ?_;refine q_fin () (hv:=?_) (hp:=trivial);have:xs=ys:=by
  apply List.ext_getElem?;intro j;by_cases hj:j<k
  ·exact hsame j hj
  ·rw[List.getElem?_eq_none (by omega),List.getElem?_eq_none (by omega)]
 rw[decide_eq_true this];rfl
theorem zF5{x y:Dcl}{h1 s1 r1 c1 u1 h2 s2 r2 c2 u2:Value}(hS:zJL x):FnP Tryz.prog 144 [.agg ⟨zGB x h1 s1 r1 c1 u1⟩,.agg ⟨zGB y h2 s2 r2 c2 u2⟩] (zLE x h1 s1 r1 c1 u1++zLE y h2 s2 r2 c2 u2) (.bool (decide (x=y))):=by
 have e1:=hS.syms;have e2:=hS.regs;have e3:=hS.clus;have e4:=hS.ruls;have e5:=hS.rnames;have e6:=hS.holes;have e7:=hS.regl;clear hS;obtain⟨n1,v1,p1,w1,g1,ho1,sy1,re1,cl1,ru1⟩:=x;obtain⟨n2,v2,p2,w2,g2,ho2,sy2,re2,cl2,ru2⟩:=y;dsimp only at e1 e2 e3 e4 e5 e6 e7;dsimp only[zGB,zLE,List.cons_append,List.nil_append];refine zE _ (isC 144) fun B w0=>?_;refine go ?_;intro b2 b3;refine go ?_;first|with_reducible refine g_d (fun k1=>?_) (fun k1=>?_)|with_reducible refine g_n (fun k1=>?_) (fun k1=>?_)|with_reducible refine g_b (fun k1=>?_) (fun k1=>?_)
 ·rw[zAW]at k1;refine go ?_;refine q_fin () (hv:=?_) (hp:=trivial);rw[decide_eq_false (fun e=>of_decide_eq_false k1 (by cases e;rfl))];rfl
 rw[zAW]at k1;have k1:=of_decide_eq_true k1;refine go ?_;first|with_reducible refine g_d (fun k2=>?_) (fun k2=>?_)|with_reducible refine g_n (fun k2=>?_) (fun k2=>?_)|with_reducible refine g_b (fun k2=>?_) (fun k2=>?_)
 ·refine go ?_;refine q_fin () (hv:=?_) (hp:=trivial);rw[decide_eq_false (fun e=>k2 (by cases e;rfl))];rfl
 refine go ?_;first|with_reducible refine g_d (fun k3=>?_) (fun k3=>?_)|with_reducible refine g_n (fun k3=>?_) (fun k3=>?_)|with_reducible refine g_b (fun k3=>?_) (fun k3=>?_)
 ·refine go ?_;refine q_fin () (hv:=?_) (hp:=trivial);rw[decide_eq_false (fun e=>k3 (by cases e;rfl))];rfl
 refine go ?_;first|with_reducible refine g_d (fun k4=>?_) (fun k4=>?_)|with_reducible refine g_n (fun k4=>?_) (fun k4=>?_)|with_reducible refine g_b (fun k4=>?_) (fun k4=>?_)
 ·refine go ?_;refine q_fin () (hv:=?_) (hp:=trivial);rw[decide_eq_false (fun e=>k4 (by cases e;rfl))];rfl
 refine go ?_;first|with_reducible refine g_d (fun k5=>?_) (fun k5=>?_)|with_reducible refine g_n (fun k5=>?_) (fun k5=>?_)|with_reducible refine g_b (fun k5=>?_) (fun k5=>?_)
 ·refine go ?_;refine q_fin () (hv:=?_) (hp:=trivial);rw[decide_eq_false (fun e=>k5 (by cases e;rfl))];rfl
 refine go ?_;refine zA (zB2 (xs:=ho1) (ys:=ho2) e6) (next:=fun _ _=>?_);refine go ?_;first|with_reducible refine g_d (fun k6=>?_) (fun k6=>?_)|with_reducible refine g_n (fun k6=>?_) (fun k6=>?_)|with_reducible refine g_b (fun k6=>?_) (fun k6=>?_)
 ·refine go ?_;refine q_fin () (hv:=?_) (hp:=trivial);rw[decide_eq_false (fun e=>k6 (by cases e;rfl))];rfl
 refine go ?_;refine zA (zOU (xs:=sy1) (ys:=sy2) (by omega)) (next:=fun _ _=>?_);refine go ?_;first|with_reducible refine g_d (fun k7=>?_) (fun k7=>?_)|with_reducible refine g_n (fun k7=>?_) (fun k7=>?_)|with_reducible refine g_b (fun k7=>?_) (fun k7=>?_)
 ·refine go ?_;refine q_fin () (hv:=?_) (hp:=trivial);rw[decide_eq_false (fun e=>k7 (by cases e;rfl))];rfl
 refine go ?_;refine zA (zN3 (xs:=re1) (ys:=re2) (by omega) e7) (next:=fun _ _=>?_);refine go ?_;first|with_reducible refine g_d (fun k8=>?_) (fun k8=>?_)|with_reducible refine g_n (fun k8=>?_) (fun k8=>?_)|with_reducible refine g_b (fun k8=>?_) (fun k8=>?_)
 ·refine go ?_;refine q_fin () (hv:=?_) (hp:=trivial);rw[decide_eq_false (fun e=>k8 (by cases e;rfl))];rfl
 refine go ?_;refine zA (zOm (xs:=cl1) (ys:=cl2) (by omega)) (next:=fun _ _=>?_);refine go ?_;first|with_reducible refine g_d (fun k9=>?_) (fun k9=>?_)|with_reducible refine g_n (fun k9=>?_) (fun k9=>?_)|with_reducible refine g_b (fun k9=>?_) (fun k9=>?_)
 ·refine go ?_;refine q_fin () (hv:=?_) (hp:=trivial);rw[decide_eq_false (fun e=>k9 (by cases e;rfl))];rfl
 refine go ?_;refine zA (zOc (xs:=ru1) (ys:=ru2) (by omega) e5) (next:=fun _ _=>?_);refine go ?_;refine q_fin () (hv:=?_) (hp:=trivial);rw[show decide (Dcl.mk n1 v1 p1 w1 g1 ho1 sy1 re1 cl1 ru1=Dcl.mk n2 v2 p2 w2 g2 ho2 sy2 re2 cl2 ru2)=decide (ru1=ru2)from decide_eq_decide.2 ⟨fun h=>by cases h;rfl,fun h=>by rw[k1,k2,k3,k4,k5,k6,k7,k8,k9,h]⟩];rfl
end Go.Proofs.YtpkieeggilkagaaGreat
