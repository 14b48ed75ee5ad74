/-
  Lists compared: of lists, names, symbols, regions, clues, rules.
-/
import Derived.Test.YtoohgkkmdnbnfaaGreatDoorLibAA
import Derived.Test.YtoohgkkmdnbnfaaGreatDoorShelf
import Derived.Test.YtoohgkkmdnbnfaaGreatDoorIdealOA
set_option linter.all false
set_option maxRecDepth 10000
set_option maxHeartbeats 2000000
namespace Go.Proofs.YtoohgkkmdnbnfaaGreatDoor
open Go.Ideal Kd
theorem Us{va vb:Value}{xs ys:List (List Int)}(hal:xs.length<9223372036854775808)(hl:∀l∈xs,l.length<9223372036854775808):dz Tryz.prog 157 [va,vb,.func (.func 104) #[] #[]] [ah (aj aa) va xs,ah (aj aa) vb ys] (.bool (decide (xs=ys))):=by
 refine aK _ (aP 157) λB w0=>?_;refine go ?_;refine aA rfl (λh1=>?_) (λh1=>?_)
 ·refine go ?_;refine ae () (hv:=?_) (hp:=trivial);rw[aT (λe=>h1 (by rw[e]))];rfl
 have hlen:xs.length=ys.length:=by omega
 refine go ?_;refine aZ (λk=>xs.length - k) (λk:Nat=>[(17,.int .i64 (k:Int))]) (λ_=>[]) (λ_=>[]) (λk=>k<=xs.length/\∀j,j<k->xs[j]? =ys[j]?) 0 ⟨by omega,λj hj=>by omega⟩ (body:=?_);rintro k ⟨hkx,hsame⟩;refine go ?_;refine aA rfl (λh2=>?_) (λh2=>?_)
 ·refine go ?_;refine bz (aj aa) (next:=λ_ _ x (vx:Value) hx=>?_);refine go ?_;refine bz (aj aa) (next:=λ_ _ y (vy:Value) hy=>?_);refine go ?_;refine ax (Af (xs:=x) (ys:=y) (hl x (bG hx))) (next:=λ_ _=>?_);refine go ?_;refine eU rfl (λh3=>?_) (λh3=>?_)
  ·refine go ?_;refine ae () (hv:=?_) (hp:=trivial);rw[aT (λe=>h3 (by rw[e,hy]at hx;cases hx;rfl))];rfl
  refine go ?_;refine aQ (k+1) (by omega) ⟨by omega,λj hj=>?_⟩;by_cases e:j=k
  ·subst e;rw[hx,hy,h3]
  ·exact hsame j (by omega)
 refine go ?_;refine ae () (hv:=?_) (hp:=trivial);have:xs=ys:=by
  apply jW;intro j;by_cases hj:j<k
  ·exact hsame j hj
  ·rw[iD (by omega),iD (by omega)]
 rw[dZ this];rfl
theorem Ut{va vb:Value}{xs ys:List (List Int)}(hal:xs.length<9223372036854775808)(hl:∀l∈xs,l.length<9223372036854775808):dz Tryz.prog 106 [va,vb] [ah (aj aa) va xs,ah (aj aa) vb ys] (.bool (decide (xs=ys))):=by
 refine aK _ (aP 106) λB w0=>?_;refine go ?_;refine ax (Us (xs:=xs) (ys:=ys) hal hl) (next:=λ_ _=>?_);refine go ?_;exact ae () (hv:=rfl) (hp:=trivial)
theorem ad5{va vb:Value}{xs ys:List (List (List Int))}(hal:xs.length<9223372036854775808)(hl:∀l∈xs,l.length<9223372036854775808/\∀m∈l,m.length<9223372036854775808):dz Tryz.prog 107 [va,vb,.func (.func 106) #[] #[]] [ah (aj (aj aa)) va xs,ah (aj (aj aa)) vb ys] (.bool (decide (xs=ys))):=by
 refine aK _ (aP 107) λB w0=>?_;refine go ?_;refine aA rfl (λh1=>?_) (λh1=>?_)
 ·refine go ?_;refine ae () (hv:=?_) (hp:=trivial);rw[aT (λe=>h1 (by rw[e]))];rfl
 have hlen:xs.length=ys.length:=by omega
 refine go ?_;refine aZ (λk=>xs.length - k) (λk:Nat=>[(17,.int .i64 (k:Int))]) (λ_=>[]) (λ_=>[]) (λk=>k<=xs.length/\∀j,j<k->xs[j]? =ys[j]?) 0 ⟨by omega,λj hj=>by omega⟩ (body:=?_);rintro k ⟨hkx,hsame⟩;refine go ?_;refine aA rfl (λh2=>?_) (λh2=>?_)
 ·refine go ?_;refine bz (aj (aj aa)) (next:=λ_ _ x (vx:Value) hx=>?_);refine go ?_;refine bz (aj (aj aa)) (next:=λ_ _ y (vy:Value) hy=>?_);refine go ?_;refine ax (Ut (xs:=x) (ys:=y) (hl x (bG hx)).1 (hl x (bG hx)).2) (next:=λ_ _=>?_);refine go ?_;refine eU rfl (λh3=>?_) (λh3=>?_)
  ·refine go ?_;refine ae () (hv:=?_) (hp:=trivial);rw[aT (λe=>h3 (by rw[e,hy]at hx;cases hx;rfl))];rfl
  refine go ?_;refine aQ (k+1) (by omega) ⟨by omega,λj hj=>?_⟩;by_cases e:j=k
  ·subst e;rw[hx,hy,h3]
  ·exact hsame j (by omega)
 refine go ?_;refine ae () (hv:=?_) (hp:=trivial);have:xs=ys:=by
  apply jW;intro j;by_cases hj:j<k
  ·exact hsame j hj
  ·rw[iD (by omega),iD (by omega)]
 rw[dZ this];rfl
theorem Uu{va vb:Value}{xs ys:List ByteArray}(hal:xs.length<9223372036854775808):dz Tryz.prog 159 [va,vb] [ah aR va xs,ah aR vb ys] (.bool (decide (xs=ys))):=by
 refine aK _ (aP 159) λB w0=>?_;refine go ?_;refine aA rfl (λh1=>?_) (λh1=>?_)
 ·refine go ?_;refine ae () (hv:=?_) (hp:=trivial);rw[aT (λe=>h1 (by rw[e]))];rfl
 have hlen:xs.length=ys.length:=by omega
 refine go ?_;refine aZ (λk=>xs.length - k) (λk:Nat=>[(13,.int .i64 (k:Int))]) (λ_=>[]) (λ_=>[]) (λk=>k<=xs.length/\∀j,j<k->xs[j]? =ys[j]?) 0 ⟨by omega,λj hj=>by omega⟩ (body:=?_);rintro k ⟨hkx,hsame⟩;refine go ?_;refine aA rfl (λh2=>?_) (λh2=>?_)
 ·refine go ?_;refine bz aR (next:=λ_ _ x (_:Unit) hx=>?_);refine go ?_;refine bz aR (next:=λ_ _ y (_:Unit) hy=>?_);refine go ?_;refine eU (p:=x=y) (by show Value.bool _=_;rw[dY]) (λh3=>?_) (λh3=>?_)
  ·refine go ?_;refine ae () (hv:=?_) (hp:=trivial);rw[aT (λe=>h3 (by rw[e,hy]at hx;cases hx;rfl))];rfl
  refine go ?_;refine aQ (k+1) (by omega) ⟨by omega,λj hj=>?_⟩;by_cases e:j=k
  ·subst e;rw[hx,hy,h3]
  ·exact hsame j (by omega)
 refine go ?_;refine ae () (hv:=?_) (hp:=trivial);have:xs=ys:=by
  apply jW;intro j;by_cases hj:j<k
  ·exact hsame j hj
  ·rw[iD (by omega),iD (by omega)]
 rw[dZ this];rfl
theorem MX(x y:oz):cellsE [.string x.name,.int .i64 x.value] [.string y.name,.int .i64 y.value]=decide (x=y):=by
 obtain⟨a,b⟩:=x;obtain⟨c,e⟩:=y;show(decide (a=c)&&(decide (b=e)&&true))=_;rw[Bool.and_true,<- Bool.decide_and];exact oJ.2 ⟨λh=>by rw[h.1,h.2],λh=>by cases h;exact⟨rfl,rfl⟩⟩
abbrev I5(x:iY):List Value:=[.string x.name,.string x.on,.int .i64 x.family,.int .i64 x.type,.int .i64 x.lo,.int .i64 x.hi]
theorem MZ(x y:iY):cellsE (I5 x) (I5 y)=decide (x=y):=by
 obtain⟨a1,a2,a3,a4,a5,a6⟩:=x;obtain⟨b1,b2,b3,b4,b5,b6⟩:=y;show(decide (a1=b1)&&(decide (a2=b2)&&(decide (a3=b3)&&(decide (a4=b4)&&(decide (a5=b5)&&(decide (a6=b6)&&true))))))=_;rw[Bool.and_true];simp only[<- Bool.decide_and];exact oJ.2 ⟨λh=>by rw[h.1,h.2.1,h.2.2.1,h.2.2.2.1,h.2.2.2.2.1,h.2.2.2.2.2],λh=>by cases h;exact⟨rfl,rfl,rfl,rfl,rfl,rfl⟩⟩
theorem M0:∃fs:Array Field,Tryz.prog.underlying 84=some (.struct fs)/\Fe Tryz.prog fs.toList 0 [false,true]=true:=by
 refine⟨Tryz.prog.fieldsOf 84,by kernel_rfl,by kernel_rfl⟩
theorem M3:∃fs:Array Field,Tryz.prog.underlying 115=some (.struct fs)/\Fe Tryz.prog fs.toList 0 [false,false,true,true,true,true]=true:=by
 refine⟨Tryz.prog.fieldsOf 115,by kernel_rfl,by kernel_rfl⟩
theorem ad6{va vb:Value}{xs ys:List oz}(hal:xs.length<9223372036854775808):dz Tryz.prog 160 [va,vb] [ah fF va xs,ah fF vb ys] (.bool (decide (xs=ys))):=by
 obtain⟨fs,hu,hrow⟩:=M0;refine aK _ (aP 160) λB w0=>?_;refine go ?_;refine aA rfl (λh1=>?_) (λh1=>?_)
 ·refine go ?_;refine ae () (hv:=?_) (hp:=trivial);rw[aT (λe=>h1 (by rw[e]))];rfl
 have hlen:xs.length=ys.length:=by omega
 refine go ?_;refine aZ (λk=>xs.length - k) (λk:Nat=>[(13,.int .i64 (k:Int))]) (λ_=>[]) (λ_=>[]) (λk=>k<=xs.length/\∀j,j<k->xs[j]? =ys[j]?) 0 ⟨by omega,λj hj=>by omega⟩ (body:=?_);rintro k ⟨hkx,hsame⟩;refine go ?_;refine aA rfl (λh2=>?_) (λh2=>?_)
 ·refine go ?_;refine bz fF (next:=λ_ _ x (_:Unit) hx=>?_);refine go ?_;refine bz fF (next:=λ_ _ y (_:Unit) hy=>?_);refine go ?_;refine(eD (v:=.bool (!decide (x=y))) rfl rfl (by rw[<- MX];exact Ca rfl rfl hu (by kernel_rfl) (by kernel_rfl) (row_of hrow rfl rfl (λj=>by rw[eT]) (λj=>by rw[eT])) (by simp[fJ,bQ,Ideal.cellV]) (by simp[fJ,bQ,Ideal.cellV]))).h ?_;refine go ?_;refine eU rfl (λh3=>?_) (λh3=>?_)
  ·refine go ?_;refine ae () (hv:=?_) (hp:=trivial);rw[aT (λe=>h3 (by rw[e,hy]at hx;cases hx;rfl))];rfl
  refine go ?_;refine aQ (k+1) (by omega) ⟨by omega,λj hj=>?_⟩;by_cases e:j=k
  ·subst e;rw[hx,hy,h3]
  ·exact hsame j (by omega)
 refine go ?_;refine ae () (hv:=?_) (hp:=trivial);have:xs=ys:=by
  apply jW;intro j;by_cases hj:j<k
  ·exact hsame j hj
  ·rw[iD (by omega),iD (by omega)]
 rw[dZ this];rfl
theorem ad7{va vb:Value}{xs ys:List iY}(hal:xs.length<9223372036854775808):dz Tryz.prog 162 [va,vb] [ah bM va xs,ah bM vb ys] (.bool (decide (xs=ys))):=by
 obtain⟨fs,hu,hrow⟩:=M3;refine aK _ (aP 162) λB w0=>?_;refine go ?_;refine aA rfl (λh1=>?_) (λh1=>?_)
 ·refine go ?_;refine ae () (hv:=?_) (hp:=trivial);rw[aT (λe=>h1 (by rw[e]))];rfl
 have hlen:xs.length=ys.length:=by omega
 refine go ?_;refine aZ (λk=>xs.length - k) (λk:Nat=>[(13,.int .i64 (k:Int))]) (λ_=>[]) (λ_=>[]) (λk=>k<=xs.length/\∀j,j<k->xs[j]? =ys[j]?) 0 ⟨by omega,λj hj=>by omega⟩ (body:=?_);rintro k ⟨hkx,hsame⟩;refine go ?_;refine aA rfl (λh2=>?_) (λh2=>?_)
 ·refine go ?_;refine bz bM (next:=λ_ _ x (_:Unit) hx=>?_);refine go ?_;refine bz bM (next:=λ_ _ y (_:Unit) hy=>?_);refine go ?_;refine(eD (v:=.bool (!decide (x=y))) rfl rfl (by rw[<- MZ];exact Ca rfl rfl hu (by kernel_rfl) (by kernel_rfl) (row_of hrow rfl rfl (λj=>by rw[eT]) (λj=>by rw[eT])) (by simp[fJ,bQ,Ideal.cellV]) (by simp[fJ,bQ,Ideal.cellV]))).h ?_;refine go ?_;refine eU rfl (λh3=>?_) (λh3=>?_)
  ·refine go ?_;refine ae () (hv:=?_) (hp:=trivial);rw[aT (λe=>h3 (by rw[e,hy]at hx;cases hx;rfl))];rfl
  refine go ?_;refine aQ (k+1) (by omega) ⟨by omega,λj hj=>?_⟩;by_cases e:j=k
  ·subst e;rw[hx,hy,h3]
  ·exact hsame j (by omega)
 refine go ?_;refine ae () (hv:=?_) (hp:=trivial);have:xs=ys:=by
  apply jW;intro j;by_cases hj:j<k
  ·exact hsame j hj
  ·rw[iD (by omega),iD (by omega)]
 rw[dZ this];rfl
end Go.Proofs.YtoohgkkmdnbnfaaGreatDoor
set_option maxHeartbeats 4000000
namespace Go.Proofs.YtoohgkkmdnbnfaaGreatDoor
open Go.Ideal Kd
theorem ad8{x y:mg}{vx vy:Value}(hl:x.lists.length<9223372036854775808)(hll:∀l∈x.lists,l.length<9223372036854775808):dz Tryz.prog 156 [.agg ⟨[.string x.name,vx]⟩,.agg ⟨[.string y.name,vy]⟩] [ah (aj aa) vx x.lists,ah (aj aa) vy y.lists] (.bool (decide (x=y))):=by
 obtain⟨n1,l1⟩:=x;obtain⟨n2,l2⟩:=y;dsimp only at hl hll⊢;refine aK _ (aP 156) λB w0=>?_;refine go ?_;intro b2 b3;refine go ?_;first|with_reducible refine aN (λh1=>?_) (λh1=>?_)|with_reducible refine aM (λh1=>?_) (λh1=>?_)|with_reducible refine aL (λh1=>?_) (λh1=>?_)
 ·rw[dY]at h1;refine go ?_;refine ae () (hv:=?_) (hp:=trivial);rw[aT (λe=>mY h1 (by cases e;rfl))];rfl
 rw[dY]at h1;have h1:=gY h1;refine go ?_;refine ax (Us (xs:=l1) (ys:=l2) hl hll) (next:=λ_ _=>?_);refine go ?_;refine ae () (hv:=?_) (hp:=trivial);rw[show decide (mg.mk n1 l1=mg.mk n2 l2)=decide (l1=l2)from oJ.2 ⟨λh=>by cases h;rfl,λh=>by rw[h1,h]⟩];rfl
theorem ad9{x y:aU}{v1 v2 u1 u2:Value}(hl:x.names.length<9223372036854775808)(hll:x.others.length<9223372036854775808):dz Tryz.prog 158 [.agg ⟨iT x v1 v2⟩,.agg ⟨iT y u1 u2⟩] [ah aR v1 x.names,ah aR v2 x.others,ah aR u1 y.names,ah aR u2 y.others] (.bool (decide (x=y))):=by
 obtain⟨n1,o1,k1,f1,uR,os1,s1,t1,p1,m1,y1,c1⟩:=x;obtain⟨n2,o2,k2,f2,Cq,os2,s2,t2,p2,m2,y2,c2⟩:=y;dsimp only[iT]at hl hll⊢;refine aK _ (aP 158) λB w0=>?_;refine go ?_;intro b2 b3;refine go ?_;refine ax (Uu (xs:=uR) (ys:=Cq) hl) (next:=λ_ _=>?_);refine go ?_;first|with_reducible refine aN (λh1=>?_) (λh1=>?_)|with_reducible refine aM (λh1=>?_) (λh1=>?_)|with_reducible refine aL (λh1=>?_) (λh1=>?_)
 ·refine go ?_;refine ae () (hv:=?_) (hp:=trivial);rw[aT (λe=>h1 (by cases e;rfl))];rfl
 refine go ?_;refine ax (Uu (xs:=os1) (ys:=os2) hll) (next:=λ_ _=>?_);refine go ?_;first|with_reducible refine aN (λh2=>?_) (λh2=>?_)|with_reducible refine aM (λh2=>?_) (λh2=>?_)|with_reducible refine aL (λh2=>?_) (λh2=>?_)
 ·refine go ?_;refine ae () (hv:=?_) (hp:=trivial);rw[aT (λe=>h2 (by cases e;rfl))];rfl
 refine go ?_;first|with_reducible refine aN (λh3=>?_) (λh3=>?_)|with_reducible refine aM (λh3=>?_) (λh3=>?_)|with_reducible refine aL (λh3=>?_) (λh3=>?_)
 ·rw[dY]at h3;refine go ?_;refine ae () (hv:=?_) (hp:=trivial);rw[aT (λe=>mY h3 (by cases e;rfl))];rfl
 rw[dY]at h3;have h3:=gY h3;refine go ?_;first|with_reducible refine aN (λh4=>?_) (λh4=>?_)|with_reducible refine aM (λh4=>?_) (λh4=>?_)|with_reducible refine aL (λh4=>?_) (λh4=>?_)
 ·rw[dY]at h4;refine go ?_;refine ae () (hv:=?_) (hp:=trivial);rw[aT (λe=>mY h4 (by cases e;rfl))];rfl
 rw[dY]at h4;have h4:=gY h4;refine go ?_;first|with_reducible refine aN (λh5=>?_) (λh5=>?_)|with_reducible refine aM (λh5=>?_) (λh5=>?_)|with_reducible refine aL (λh5=>?_) (λh5=>?_)
 ·rw[dY]at h5;refine go ?_;refine ae () (hv:=?_) (hp:=trivial);rw[aT (λe=>mY h5 (by cases e;rfl))];rfl
 rw[dY]at h5;have h5:=gY h5;refine go ?_;refine(eD (v:=.bool (decide ([k1,f1,s1,t1,p1,m1,c1]=[k2,f2,s2,t2,p2,m2,c2]))) rfl rfl (abL (n:=7) (e:=3) rfl rfl (by kernel_rfl) (by kernel_rfl) (by kernel_rfl) rfl rfl (by kernel_rfl))).h ?_;refine go ?_;refine ae () (hv:=?_) (hp:=trivial);rw[show decide (aU.mk n1 o1 k1 f1 uR os1 s1 t1 p1 m1 y1 c1=aU.mk n2 o2 k2 f2 Cq os2 s2 t2 p2 m2 y2 c2)=decide ([k1,f1,s1,t1,p1,m1,c1]=[k2,f2,s2,t2,p2,m2,c2])from oJ.2 ⟨λh=>by cases h;rfl,λh=>by cases h;rw[h1,h2,h3,h4,h5]⟩];rfl
theorem aea{va vb:Value}{xs ys:List mg}(hal:xs.length<9223372036854775808)(hl:∀r∈xs,r.lists.length<9223372036854775808/\∀l∈r.lists,l.length<9223372036854775808):dz Tryz.prog 161 [va,vb,.func (.func 156) #[] #[]] [ah eH va xs,ah eH vb ys] (.bool (decide (xs=ys))):=by
 refine aK _ (aP 161) λB w0=>?_;refine go ?_;refine aA rfl (λh1=>?_) (λh1=>?_)
 ·refine go ?_;refine ae () (hv:=?_) (hp:=trivial);rw[aT (λe=>h1 (by rw[e]))];rfl
 have hlen:xs.length=ys.length:=by omega
 refine go ?_;refine aZ (λk=>xs.length - k) (λk:Nat=>[(17,.int .i64 (k:Int))]) (λ_=>[]) (λ_=>[]) (λk=>k<=xs.length/\∀j,j<k->xs[j]? =ys[j]?) 0 ⟨by omega,λj hj=>by omega⟩ (body:=?_);rintro k ⟨hkx,hsame⟩;refine go ?_;refine aA rfl (λh2=>?_) (λh2=>?_)
 ·refine go ?_;refine bz eH (next:=λ_ _ x (vx:Value) hx=>?_);refine go ?_;intro b8;refine go ?_;refine bz eH (next:=λ_ _ y (vy:Value) hy=>?_);refine go ?_;intro b9;refine go ?_;refine ax (ad8 (x:=x) (y:=y) (vx:=vx) (vy:=vy) (hl x (bG hx)).1 (hl x (bG hx)).2) (next:=λ_ _=>?_);refine go ?_;refine eU rfl (λh3=>?_) (λh3=>?_)
  ·refine go ?_;refine ae () (hv:=?_) (hp:=trivial);rw[aT (λe=>h3 (by rw[e,hy]at hx;cases hx;rfl))];rfl
  refine go ?_;refine aQ (k+1) (by omega) ⟨by omega,λj hj=>?_⟩;by_cases e:j=k
  ·subst e;rw[hx,hy,h3]
  ·exact hsame j (by omega)
 refine go ?_;refine ae () (hv:=?_) (hp:=trivial);have:xs=ys:=by
  apply jW;intro j;by_cases hj:j<k
  ·exact hsame j hj
  ·rw[iD (by omega),iD (by omega)]
 rw[dZ this];rfl
theorem aeb{va vb:Value}{xs ys:List aU}(hal:xs.length<9223372036854775808)(hl:∀r∈xs,r.names.length<9223372036854775808/\r.others.length<9223372036854775808):dz Tryz.prog 163 [va,vb,.func (.func 158) #[] #[]] [ah aY va xs,ah aY vb ys] (.bool (decide (xs=ys))):=by
 refine aK _ (aP 163) λB w0=>?_;refine go ?_;refine aA rfl (λh1=>?_) (λh1=>?_)
 ·refine go ?_;refine ae () (hv:=?_) (hp:=trivial);rw[aT (λe=>h1 (by rw[e]))];rfl
 have hlen:xs.length=ys.length:=by omega
 refine go ?_;refine aZ (λk=>xs.length - k) (λk:Nat=>[(17,.int .i64 (k:Int))]) (λ_=>[]) (λ_=>[]) (λk=>k<=xs.length/\∀j,j<k->xs[j]? =ys[j]?) 0 ⟨by omega,λj hj=>by omega⟩ (body:=?_);rintro k ⟨hkx,hsame⟩;refine go ?_;refine aA rfl (λh2=>?_) (λh2=>?_)
 ·refine go ?_;refine bz aY (next:=λ_ _ x (vx:Value×Value) hx=>?_);refine go ?_;intro b8;refine go ?_;refine bz aY (next:=λ_ _ y (vy:Value×Value) hy=>?_);refine go ?_;intro b9;refine go ?_;refine ax (ad9 (x:=x) (y:=y) (v1:=vx.1) (v2:=vx.2) (u1:=vy.1) (u2:=vy.2) (hl x (bG hx)).1 (hl x (bG hx)).2) (next:=λ_ _=>?_);refine go ?_;refine eU rfl (λh3=>?_) (λh3=>?_)
  ·refine go ?_;refine ae () (hv:=?_) (hp:=trivial);rw[aT (λe=>h3 (by rw[e,hy]at hx;cases hx;rfl))];rfl
  refine go ?_;refine aQ (k+1) (by omega) ⟨by omega,λj hj=>?_⟩;by_cases e:j=k
  ·subst e;rw[hx,hy,h3]
  ·exact hsame j (by omega)
 refine go ?_;refine ae () (hv:=?_) (hp:=trivial);have:xs=ys:=by
  apply jW;intro j;by_cases hj:j<k
  ·exact hsame j hj
  ·rw[iD (by omega),iD (by omega)]
 rw[dZ this];rfl
theorem Uv{x y:bE}{h1 s1 r1 c1 u1 h2 s2 r2 c2 u2:Value}(hS:mq x):dz Tryz.prog 105 [.agg ⟨gF x h1 s1 r1 c1 u1⟩,.agg ⟨gF y h2 s2 r2 c2 u2⟩] (kT x h1 s1 r1 c1 u1++kT y h2 s2 r2 c2 u2) (.bool (decide (x=y))):=by
 have e1:=hS.dP;have e2:=hS.regs;have e3:=hS.jv;have e4:=hS.kG;have e5:=hS.qM;have e6:=hS.holes;have e7:=hS.qN;clear hS;obtain⟨n1,v1,p1,w1,g1,ho1,mD,lS,mE,lT⟩:=x;obtain⟨n2,v2,p2,w2,g2,ho2,qb,oZ,qc,o8⟩:=y;dsimp only at e1 e2 e3 e4 e5 e6 e7;dsimp only[gF,kT,List.cons_append,List.nil_append];refine aK _ (aP 105) λB w0=>?_;refine go ?_;intro b2 b3;refine go ?_;first|with_reducible refine aN (λk1=>?_) (λk1=>?_)|with_reducible refine aM (λk1=>?_) (λk1=>?_)|with_reducible refine aL (λk1=>?_) (λk1=>?_)
 ·rw[dY]at k1;refine go ?_;refine ae () (hv:=?_) (hp:=trivial);rw[aT (λe=>mY k1 (by cases e;rfl))];rfl
 rw[dY]at k1;have k1:=gY k1;refine go ?_;first|with_reducible refine aN (λk2=>?_) (λk2=>?_)|with_reducible refine aM (λk2=>?_) (λk2=>?_)|with_reducible refine aL (λk2=>?_) (λk2=>?_)
 ·refine go ?_;refine ae () (hv:=?_) (hp:=trivial);rw[aT (λe=>k2 (by cases e;rfl))];rfl
 refine go ?_;first|with_reducible refine aN (λk3=>?_) (λk3=>?_)|with_reducible refine aM (λk3=>?_) (λk3=>?_)|with_reducible refine aL (λk3=>?_) (λk3=>?_)
 ·refine go ?_;refine ae () (hv:=?_) (hp:=trivial);rw[aT (λe=>k3 (by cases e;rfl))];rfl
 refine go ?_;first|with_reducible refine aN (λk4=>?_) (λk4=>?_)|with_reducible refine aM (λk4=>?_) (λk4=>?_)|with_reducible refine aL (λk4=>?_) (λk4=>?_)
 ·refine go ?_;refine ae () (hv:=?_) (hp:=trivial);rw[aT (λe=>k4 (by cases e;rfl))];rfl
 refine go ?_;first|with_reducible refine aN (λk5=>?_) (λk5=>?_)|with_reducible refine aM (λk5=>?_) (λk5=>?_)|with_reducible refine aL (λk5=>?_) (λk5=>?_)
 ·refine go ?_;refine ae () (hv:=?_) (hp:=trivial);rw[aT (λe=>k5 (by cases e;rfl))];rfl
 refine go ?_;refine ax (Af (xs:=ho1) (ys:=ho2) e6) (next:=λ_ _=>?_);refine go ?_;first|with_reducible refine aN (λk6=>?_) (λk6=>?_)|with_reducible refine aM (λk6=>?_) (λk6=>?_)|with_reducible refine aL (λk6=>?_) (λk6=>?_)
 ·refine go ?_;refine ae () (hv:=?_) (hp:=trivial);rw[aT (λe=>k6 (by cases e;rfl))];rfl
 refine go ?_;refine ax (ad6 (xs:=mD) (ys:=qb) (by omega)) (next:=λ_ _=>?_);refine go ?_;first|with_reducible refine aN (λk7=>?_) (λk7=>?_)|with_reducible refine aM (λk7=>?_) (λk7=>?_)|with_reducible refine aL (λk7=>?_) (λk7=>?_)
 ·refine go ?_;refine ae () (hv:=?_) (hp:=trivial);rw[aT (λe=>k7 (by cases e;rfl))];rfl
 refine go ?_;refine ax (aea (xs:=lS) (ys:=oZ) (by omega) e7) (next:=λ_ _=>?_);refine go ?_;first|with_reducible refine aN (λk8=>?_) (λk8=>?_)|with_reducible refine aM (λk8=>?_) (λk8=>?_)|with_reducible refine aL (λk8=>?_) (λk8=>?_)
 ·refine go ?_;refine ae () (hv:=?_) (hp:=trivial);rw[aT (λe=>k8 (by cases e;rfl))];rfl
 refine go ?_;refine ax (ad7 (xs:=mE) (ys:=qc) (by omega)) (next:=λ_ _=>?_);refine go ?_;first|with_reducible refine aN (λk9=>?_) (λk9=>?_)|with_reducible refine aM (λk9=>?_) (λk9=>?_)|with_reducible refine aL (λk9=>?_) (λk9=>?_)
 ·refine go ?_;refine ae () (hv:=?_) (hp:=trivial);rw[aT (λe=>k9 (by cases e;rfl))];rfl
 refine go ?_;refine ax (aeb (xs:=lT) (ys:=o8) (by omega) e5) (next:=λ_ _=>?_);refine go ?_;refine ae () (hv:=?_) (hp:=trivial);rw[show decide (bE.mk n1 v1 p1 w1 g1 ho1 mD lS mE lT=bE.mk n2 v2 p2 w2 g2 ho2 qb oZ qc o8)=decide (lT=o8)from oJ.2 ⟨λh=>by cases h;rfl,λh=>by rw[k1,k2,k3,k4,k5,k6,k7,k8,k9,h]⟩];rfl
end Go.Proofs.YtoohgkkmdnbnfaaGreatDoor
namespace Go.Proofs.YtoohgkkmdnbnfaaGreatDoor
open Go.Ideal
noncomputable def M4:=sN Tryz.prog 232
theorem Uw:kZ Tryz.prog 232=some M4:=by kernel_rfl
theorem srt:L8 Tryz.prog 232:=λblk off cap zs w h1 h2 h3=>Any.slices_Sort_int Tryz.lays189 blk off cap zs w h1 h2 h3
end Go.Proofs.YtoohgkkmdnbnfaaGreatDoor
namespace Go.Proofs.YtoohgkkmdnbnfaaGreatDoor
open Go.Ideal Kd
noncomputable def M5:=sN Tryz.prog 228
theorem Ux:kZ Tryz.prog 228=some M5:=by kernel_rfl
noncomputable def M6:=sN Tryz.prog 152
theorem aed:kZ Tryz.prog 152=some M6:=by kernel_rfl
theorem aee{x:Int}:dz Tryz.prog 108 [.int .i64 x] [] (.bool false):=by
 refine aK _ (aP 108) λB w0=>?_;refine go ?_;refine ae () (hv:=?_) (hp:=trivial);rw[aT (λh=>h rfl)];rfl
theorem aef{x:Int}:dz Tryz.prog 262 [.int .i64 x] [] (.bool false):=by
 refine aK _ (aP 262) λB w0=>?_;refine go ?_;refine ae () (hv:=?_) (hp:=trivial);rw[aT (λh=>h rfl)];rfl
theorem aeg{x y:Int}:dz Tryz.prog 261 [.int .i64 x,.int .i64 y] [] (.bool (decide (x<y))):=by
 refine aK _ (aP 261) λB w0=>?_;refine go ?_;refine ax (aee (x:=x)) (next:=λ_ _=>?_);refine go ?_;exact ae () (hv:=rfl) (hp:=trivial)
def M7(xs:List Int)(z:Int)(y:Nat×Bool):Prop:=y.1<=xs.length/\(∀(j:Nat) x,j<y.1->xs[j]? =some x->x<z)/\(∀(j:Nat) x,y.1<=j->xs[j]? =some x->z<=x)/\(y.2=true↔xs[y.1]? =some z)
theorem M7.mem{xs:List Int}{z:Int}{y:Nat×Bool}(h:M7 xs z y)(hs:xs.Pairwise (·<·)):y.2=true↔z∈xs:=by
 obtain⟨h1,h2,h3,h4⟩:=h;rw[h4];refine⟨λh=>bG h,λh=>?_⟩;obtain⟨j,hj⟩:=uk.1 h;have hjl:=(bO.1 hj)
 rcases Nat.lt_trichotomy j y.1 with h5|h5|h5
 ·have:=h2 j z h5 hj;omega
 ·rw[<- h5];exact hj
 ·have hyl:y.1<xs.length:=by have:=hjl.1;omega
  have hy:xs[y.1]? =some xs[y.1]:=cB hyl;have h6:=h3 y.1 _ (bJ _) hy;have h7:=AY.1 hs y.1 j hyl hjl.1 h5;rw[hjl.2]at h7;omega
theorem Uy{v:Value}{xs:List Int}{z:Int}(hl:xs.length<4611686018427387904)(hs:xs.Pairwise (·<=·)):
 bi Tryz.prog (.func 229) [v,.int .i64 z] [] [] [ah aa v xs] (λy:Nat×Bool=>.tuple ⟨[.int .i64 (y.1:Int),.bool y.2]⟩) (λ_=>[]) (λ_=>[]) (M7 xs z):=by
 refine aK _ (aP 229) λB w0=>?_;refine go ?_;refine aZ (λy:Nat×Nat=>y.2 - y.1) (λy=>[(7,.int .i64 (y.1:Int)),(8,.int .i64 (y.2:Int))]) (λ_=>[]) (λ_=>[]) (λy=>y.1<=y.2/\y.2<=xs.length/\(∀(j:Nat) x,j<y.1->xs[j]? =some x->x<z)/\(∀(j:Nat) x,y.2<=j->xs[j]? =some x->z<=x)) (0,xs.length) ⟨cz _,bJ _,λj x hj=>by omega,λj x hj hx=>by have:=(bO.1 hx).1;omega⟩ (body:=?_);rintro⟨a,b⟩ ⟨hab,hb,hlo,hhi⟩;dsimp only at hab hb hlo hhi⊢;refine go ?_;refine aA rfl (λh1=>?_) (λh1=>?_)
 ·have D8:a<=(a+b)>>>1/\(a+b)>>>1<b:=by
   rw[We];omega
  generalize hm:(a+b)>>>1=m at D8;refine go ?_;rw[show(a:Int)+(b:Int)=((a+b:Nat):Int)by omega];refine(eD rfl rfl (yo (k:=.u64) (m:=((a+b:Nat):Int)) (by kernel_rfl:Tryz.prog.underlying 3=some (.int .i64)) (by kernel_rfl) rfl (Mf (by omega)))).h ?_;refine(eD rfl rfl (Sc (a:=a+b) (b:=1) rfl rfl (by omega))).h ?_;rw[hm];refine(eD rfl rfl (yo (k:=.i64) (m:=(m:Int)) (by kernel_rfl:Tryz.prog.underlying 63=some (.int .u64)) (by kernel_rfl) rfl (wrapN (by omega)))).h ?_;refine go ?_;intro _ _ x hx;refine go ?_;refine ax (aeg (x:=x) (y:=z)) (next:=λ_ _=>?_);refine go ?_;have hle:∀(i j:Nat) u v,i<=j->xs[i]? =some u->xs[j]? =some v->u<=v:=by
   intro i j u v hij hu hv;by_cases e:i=j
   ·subst e;rw[hu]at hv;injection hv with hv;omega
   ·exact AY.1 hs i j (bO.1 hu).1 (bO.1 hv).1 (by omega)|>λh=>by
     rw[(bO.1 hu).2,(bO.1 hv).2]at h;exact h
  refine aA rfl (λh2=>?_) (λh2=>?_)
  ·refine go ?_;refine aQ (m+1,b) (by show b - (m+1)<b - a;omega) ⟨by show m+1<=b;omega,hb,λj u hj hu=>?_,hhi⟩;have:=hle j m u x (by show j<=m;have:j<m+1:=hj;omega) hu hx;omega
  ·refine go ?_;refine aQ (a,m) (by show m - a<b - a;omega) ⟨by show a<=m;omega,by show m<=_;omega,hlo,λj u hj hu=>?_⟩;have:=hle m j x u hj hx hu;omega
 have hba:b=a:=by omega
 subst hba;refine go ?_;first|with_reducible refine aN (λh2=>?_) (λh2=>?_)|with_reducible refine aM (λh2=>?_) (λh2=>?_)|with_reducible refine aL (λh2=>?_) (λh2=>?_)
 ·have hn:xs[b]? =none:=iD (by omega);refine go ?_;exact ae (b,false) (hv:=rfl) (hp:=⟨by show b<=_;omega,hlo,hhi,by show false=true↔xs[b]? =some z;rw[hn];simp⟩)
 refine go ?_;intro _ _ x hx;refine go ?_;by_cases hxz:x=z
 ·subst hxz;rw[dZ rfl];refine go ?_;exact ae (b,true) (hv:=rfl) (hp:=⟨by show b<=_;omega,hlo,hhi,by show true=true↔xs[b]? =some x;simp[hx]⟩)
 ·rw[aT hxz];refine go ?_;intro _ _ x2 hx2;refine go ?_;refine ax (aef (x:=x2)) (next:=λ_ _=>?_);refine go ?_;exact ae (b,false) (hv:=rfl) (hp:=⟨by show b<=_;omega,hlo,hhi,by show false=true↔xs[b]? =some z;rw[hx];simp[hxz]⟩)
theorem Uz{v:Value}{az:List (Int×aa.Y)}(hl:az.length<=4096):bi Tryz.prog (.func 228) [v] [] [] [oU aa v az] (λv':Value=>v') (λv'=>[ar aa v' az]) (λ_=>[]) (λ_=>True):=by
 refine aK M5 Ux λB w0=>?_;refine MU (v:=v) (az:=az) aa (λe c ev=>?_) (λe i o f c ev=>?_) (λhne i o f c ev=>?_)
 ·subst e ev;refine go ?_;refine(eD rfl rfl (Ie (e:=3) (by kernel_rfl) rfl)).h ?_;refine go ?_;refine MV aa ?_;exact ae (.slice none 0 0) (hv:=rfl) (hp:=trivial)
 ·subst e ev;refine go ?_;refine(eD rfl rfl (BV (e:=3) (by kernel_rfl) rfl)).h ?_;refine go ?_;intro b;refine go ?_;refine Mc (b:=b) ?_;refine go ?_;refine rU (b:=b) (m:=0) (f:=0) aa (az:=[]) rfl (.inl rfl) ?_ (hk:=ay.here);exact ae (.slice (some ⟨b,0,some 0⟩) 0 0) (hv:=rfl) (hp:=trivial)
 ·subst ev;refine go ?_;refine(eD rfl rfl (BV (e:=3) (by kernel_rfl) rfl)).h ?_;refine go ?_;intro b;refine go ?_;refine Md (b:=b) aa az hne (by omega) (λb'=>?_);refine go ?_;refine rU (b:=b') (m:=az.length) (f:=aa.n) aa (az:=az) rfl (.inr rfl) ?_ (hk:=ay.here);exact ae (.slice (some ⟨b',0,some aa.n⟩) az.length az.length) (hv:=rfl) (hp:=trivial)
abbrev FH:List Value:=[.int .i64 0,.int .i64 0,.int .i64 0,.slice none 0 0,.slice none 0 0]
abbrev iM(g:bA)(vh vc:Value):List Value:=[.int .i64 g.shape,.int .i64 g.w,.int .i64 g.h,vh,vc]
abbrev jy(g:bA)(vh vc:Value):List aH:=[ah aa vh g.holes,ah aa vc g.cells]
structure M8 where
 ok:Bool
 vh:Value
 vc:Value
def uS(s w h:Int)(holes:List Int):bA:=⟨s,w,h,holes,mi w h holes⟩
abbrev mkV(s w h:Int)(holes:List Int)(y:M8):Value:=.tuple ⟨[.agg ⟨cond y.ok (iM (uS s w h holes) y.vh y.vc) FH⟩,.int .i64 (cond y.ok 0 130)]⟩
abbrev oG(s w h:Int)(holes:List Int)(y:M8):List aH:=cond y.ok (jy (uS s w h holes) y.vh y.vc) []
def wK(xs:List Int):Int:=xs.getLast?.getD (-1)
theorem UA(xs:List Int)(x:Int):wK (xs++[x])=x:=by simp[wK]
theorem aeh{xs:List Int}(h:∀x∈xs,0<=x): -1<=wK xs:=by
 unfold wK;cases hx:xs.getLast? with
 |none=>simp
 |some x=>
  have:=h x (List.mem_of_getLast? hx);simp only[uh];omega
theorem UB{xs:List Int}(h:xs.Pairwise (·<·)){a:Int}(ha:a∈xs):a<=wK xs:=by
 unfold wK;cases hx:xs.getLast? with
 |none=>rw[List.getLast?_eq_none_iff]at hx;subst hx;cases ha
 |some x=>
  obtain⟨ys,rfl⟩:=List.getLast?_eq_some_iff.1 hx;simp only[uh];rcases dV.1 ha with h1|h1
  ·have:=(Gp.1 h).2.2 a h1 x (bH.2 rfl);omega
  ·rw[bH.1 h1];exact Int.le_refl _
theorem aei{xs:List Int}{k:Nat}{x:Int}(h:xs.Pairwise (·<·))(hx:xs[k]? =some x)(h0:0<=x):wK (xs.take k)<x:=by
 unfold wK;cases hl:(xs.take k).getLast? with
 |none=>simp only[Option.getD_none];omega
 |some y=>
  simp only[uh];have hy:=List.mem_of_getLast? hl;have hd:xs=xs.take k++x::xs.drop (k+1):=by
   conv=>lhs;rw[<- rq k xs]
   rw[oI (bO.1 hx).1,(bO.1 hx).2]
  rw[hd]at h;exact(Gp.1 h).2.2 y hy x (cZ ..)
theorem M9{s w h:Int}{holes:List Int}{vh:Value}(hw64:jU w)(aej:jU h)(hl:holes.length<4611686018427387904):
 bi Tryz.prog (.func 152) [.int .i64 s,.int .i64 w,.int .i64 h,vh] [] [] [ah aa vh holes] (mkV s w h holes) (λ_=>[]) (oG s w h holes) (λy=>y.ok=true↔nT s w h holes):=by
 have bad:¬nT s w h holes->∀{B:List Nat} {w0:Wd} {kl:List OA} {F:List aH} {l:List (Nat×Value)} {n b:Nat} {bq:List OA},lk l 8=ptr' b->lk l 9=.int .i64 130->ay (pt b (.cells FH)) kl bq->
  R (λh0=>Bw M6 (Go.Ideal.Left B w0 (mkV s w h holes) (λ_=>[]) (oG s w h holes) (λy=>y.ok=true↔nT s w h holes)) .ret (act n l [] none none) h0) B w0 kl F:=by
  intro hno B w0 kl F l n b bq h8 h9 hk;refine QZ (bq:=kl) ⟨false,.nilFunc,.nilFunc⟩ (vs:=[.agg ⟨FH⟩,.int .i64 130]) ?_ rfl ⟨(λe=>by cases e),λe=>absurd e hno⟩ .nil .nil (.inr rfl);show RS l kl [.pM 5 8,.tmp 9] _;exact .pM h8 hk rfl (.tmp h9 .nil)
 refine aK M6 aed λB w0=>?_;refine go ?_;intro b8;refine go ?_;by_cases hsh:s=1\/s=2
 rotate_left
 ·rw[dZ (show s≠1 from λe=>hsh (.inl e))];refine go ?_;rw[dZ (show s≠2 from λe=>hsh (.inr e))];refine go ?_;exact bad (λh=>hsh h.sh) rfl rfl .here
 have hmk:∀sh,(sh=1\/sh=2)->(nT sh w h holes↔nT s w h holes):=λsh e=>⟨λq=>⟨hsh,q.wi,q.he,q.len,q.inc,q.mem⟩,λq=>⟨e,q.wi,q.he,q.len,q.inc,q.mem⟩⟩
 have h22:∀{B:List Nat} {w0:Wd} {kl:List OA} {F:List aH} {K:KO} {ds:List Tmp} {rest:List bT} {n:Nat} {l:List (Nat×Value)} {D:List Deferred},
  R (λh0=>aF Tryz.prog ds rest (act n ((22,.bool false)::(21,.bool false)::l) D none none) h0 K) B w0 kl F->R (λh0=>aF Tryz.prog ds rest (act n ((22,.bool false)::(21,.bool false)::l) D none none) h0 K) B w0 kl F:=λh=>h
 rcases hsh with rfl|rfl;all_goals
  refine go ?_;first|with_reducible refine aN (λa1=>?_) (λa1=>?_)|with_reducible refine aM (λa1=>?_) (λa1=>?_)|with_reducible refine aL (λa1=>?_) (λa1=>?_)
  rotate_left
  ·refine go ?_;exact bad (λq=>by have:=q.wi;omega) rfl rfl .here
  refine go ?_;first|with_reducible refine aN (λa2=>?_) (λa2=>?_)|with_reducible refine aM (λa2=>?_) (λa2=>?_)|with_reducible refine aL (λa2=>?_) (λa2=>?_)
  rotate_left
  ·refine go ?_;exact bad (λq=>by have:=q.wi;omega) rfl rfl .here
  refine go ?_;first|with_reducible refine aN (λa3=>?_) (λa3=>?_)|with_reducible refine aM (λa3=>?_) (λa3=>?_)|with_reducible refine aL (λa3=>?_) (λa3=>?_)
  rotate_left
  ·refine go ?_;exact bad (λq=>by have:=q.he;omega) rfl rfl .here
  refine go ?_;first|with_reducible refine aN (λa4=>?_) (λa4=>?_)|with_reducible refine aM (λa4=>?_) (λa4=>?_)|with_reducible refine aL (λa4=>?_) (λa4=>?_)
  rotate_left
  ·refine go ?_;exact bad (λq=>by have:=q.he;omega) rfl rfl .here
  have hwh:=wy (w:=w) (h:=h) ⟨by omega,by omega⟩ ⟨by omega,by omega⟩;refine go ?_;refine aA rfl (λa5=>?_) (λa5=>?_)
  ·refine go ?_;exact bad (λq=>by have:=q.len;omega) rfl rfl .here
  refine go ?_;refine aZ (λk=>holes.length - k) (λk:Nat=>[(49,.int .i64 (k:Int)),(10,.int .i64 (wK (holes.take k)))]) (λ_=>[]) (λ_=>[]) (λk=>k<=holes.length/\(holes.take k).Pairwise (·<·)/\∀x∈holes.take k,0<=x/\x<w*h) 0 ⟨cz _,by simp,by simp⟩ (body:=?_);rintro k ⟨hk,mo,hmem⟩;refine go ?_;refine aA rfl (λa6=>?_) (λa6=>?_)
  ·refine go ?_;intro _ _ x hx;refine go ?_;have hxm:=bG hx;first|with_reducible refine aN (λa7=>?_) (λa7=>?_)|with_reducible refine aM (λa7=>?_) (λa7=>?_)|with_reducible refine aL (λa7=>?_) (λa7=>?_)
   rotate_left
   ·refine go ?_;exact bad (λq=>by
     have h1:=q.inc;have h2:=q.mem x hxm;have:=aei h1 hx h2.1;omega) rfl rfl .here
   refine go ?_;refine aA rfl (λa8=>?_) (λa8=>?_)
   ·refine go ?_;exact bad (λq=>by have:=q.mem x hxm;omega) rfl rfl .here
   refine go ?_;have htk:holes.take (k+1)=holes.take k++[x]:=by rw[mM,hx];rfl
   refine aQ (k+1) (by omega) ⟨by omega,?_,?_⟩ (hl:=⟨rfl,by rw[htk,UA];rfl,by repeat (first|exact trivial|refine⟨rfl,?_⟩)⟩)
   ·rw[htk,Gp];refine⟨mo,by simp,λa ha b hb=>?_⟩;rw[bH.1 hb];have:=UB mo ha;omega
   ·rw[htk];intro z hz;rcases dV.1 hz with hz|hz
    ·exact hmem z hz
    ·rw[bH.1 hz];have:=aeh (λy hy=>(hmem y hy).1);omega
  have hkl:k=holes.length:=by omega
  subst hkl;rw[bK]at mo hmem;have hok:∀s',(s'=1\/s'=2)->nT s' w h holes:=λs' hs'=>⟨hs',⟨by omega,by omega⟩,⟨by omega,by omega⟩,by omega,mo,hmem⟩
  obtain⟨m,hm⟩:=sG (show 0<=w*h by omega);have FI:mi w h holes=gJ m holes:=by
   unfold mi;rw[hm];rfl
  refine go ?_;refine zU aa vh (λxh hxh=>?_);have hxl:xh.length=holes.length:=by rw[<- hxh,bR]
  refine ax (Uz (az:=xh) (by omega)) (next:=λv1 _=>?_);refine Fb (E:=aa) (v:=v1) (az:=xh) ?_ (λw h p hp f hf=>by cases hf);rw[hxh];refine aS (E:=aa) (v:=v1) (xs:=holes) (by simp) λa1 c1 e1=>?_;subst e1;refine go ?_;rw[hm];refine gI aa ?_;refine aZ (λy:Nat×Option Addr=>m - y.1) (λy=>[(75,.int .i64 (y.1:Int))]) (λy=>[pt b8 (.cells [.int .i64 _,.int .i64 w,.int .i64 h,.slice a1 holes.length c1,.slice y.2 (gJ y.1 holes).length (gJ y.1 holes).length]),ap aa (.slice y.2 (gJ y.1 holes).length (gJ y.1 holes).length) (gJ y.1 holes)]) (λ_=>[]) (λy=>y.1<=m) (0,none) (cz _) (hk:=by repeat (first|exact aI.nil|(apply aI.cons;(focus (repeat (first|exact ay.here|apply ay.there)))))) (body:=?_);rintro⟨k,ad⟩ hk;dsimp only at hk⊢;have hcl:=Ch k holes;refine go ?_;refine aA rfl (λa9=>?_) (λa9=>?_)
  ·refine go ?_;refine ax (Uy (xs:=holes) (z:=(k:Int)) hl (mo.imp (λh=>Int.le_of_lt h))) (next:=λy hy=>?_);have hmm:=hy.mem mo;clear hy;obtain⟨n,b⟩:=y;dsimp only at hmm;refine go ?_;cases b with
   |true=>
    refine go ?_;have e1:gJ (k+1) holes=gJ k holes:=by rw[Iu,if_pos (hmm.1 rfl),gy]
    rw[<- e1];exact aQ (k+1,ad) (by show m - (k+1)<m - k;omega) (by show k+1<=m;omega)
   |false=>
    have hnm:¬(k:Int)∈holes:=λh=>by have:=hmm.2 h;cases this
    have e1:gJ k holes++[(k:Int)]=gJ (k+1) holes:=by rw[Iu,if_neg hnm]
    have e2:(gJ k holes).length+1=(gJ (k+1) holes).length:=by rw[<- e1];simp
    refine go ?_;intro b89;refine go ?_;refine fC aa (xs:=gJ k holes) (k:Int) () (by omega) λad'=>?_;rw[e1,e2];refine go ?_;exact aQ (k+1,ad') (by show m - (k+1)<m - k;omega) (by show k+1<=m;omega)
  have hkm:k=m:=by omega
  subst hkm;refine go ?_;refine bD gH (A:=ap aa (.slice ad (gJ k holes).length (gJ k holes).length) (gJ k holes)) (h:=?_);refine go ?_;refine ae ⟨true,.slice a1 holes.length c1,.slice ad (gJ k holes).length (gJ k holes).length⟩ (hv:=rfl) (hp:=⟨λ_=>hok _ (by first|exact .inl rfl|exact .inr rfl),λ_=>rfl⟩) (hF:=?_);show Sub [ah aa _ holes,ah aa _ (mi w h holes)] _;rw[FI];exact .cons (by simp) (.cons (by simp) .nil)
end Go.Proofs.YtoohgkkmdnbnfaaGreatDoor
namespace Go.Proofs.YtoohgkkmdnbnfaaGreatDoor
open Go.Ideal Kd
structure qd(g:bA):Prop where
 w:jU g.w
 h:jU g.h
 holes:g.holes.length<4611686018427387904
 cells:g.cells.length<4611686018427387904
theorem UC{g:bA}{vh vc:Value}(hS:qd g):
 bi Tryz.prog (.func 230) [.agg ⟨iM g vh vc⟩] [] [] (jy g vh vc) (λe:Int=>.int .i64 e) (λ_=>[]) (λ_=>[]) (λe=>e=0↔fq g):=by
 refine aK _ (aP 230) λB w0=>?_;refine go ?_;intro b1;refine go ?_;refine ax (M9 (s:=g.shape) (w:=g.w) (h:=g.h) (holes:=g.holes) (vh:=vh) hS.w hS.h hS.holes) (next:=λy hy=>?_);obtain⟨ok,v1,v2⟩:=y;cases ok with
 |false=>
  have hno:¬nT g.shape g.w g.h g.holes:=λh=>by have:=hy.2 h;cases this
  dsimp only[mkV,oG,cond,List.nil_append];refine go ?_;intro b3;refine go ?_;exact ae 130 (hv:=rfl) (hp:=⟨(λh=>by cases h),λh=>absurd h.make hno⟩)
 |true=>
  have hmk:=hy.1 rfl;dsimp only[mkV,oG,cond,jy,uS,List.cons_append,List.nil_append];refine go ?_;intro b3;refine go ?_;refine ax (Af (xs:=mi g.w g.h g.holes) (ys:=g.cells) (by
   have:=Ch (g.w*g.h).toNat g.holes;have:=wy hmk.wi hmk.he;unfold mi;omega)) (next:=λ_ _=>?_)
  refine go ?_;refine eU rfl (λh1=>?_) (λh1=>?_)
  ·refine go ?_;exact ae 130 (hv:=rfl) (hp:=⟨(λh=>by cases h),λh=>absurd h.cells.symm h1⟩)
  ·refine go ?_;exact ae 0 (hv:=rfl) (hp:=⟨λ_=>⟨hmk,h1.symm⟩,λ_=>rfl⟩)
abbrev aem(x:Int×(Int×Int)):List Value:=[.int .i64 x.1,zV x.2]
theorem Na{b1:Nat}{g:bA}{vh vc:Value}(hg:fq g):rT Tryz.prog aem (.func 263) [] [ptr' b1] [eG b1 0 (iM g vh vc),ah aa vc g.cells] (λxs=>xs=bB g):=by
 intro S inv ok step s0 uH y1 y2 F' h0 hok hy;have hgl:=hg.len;have FJ:=hg.make.wi;rw[dD,dD,bX];refine aK _ (aP 263) λB w0=>?_;refine go ?_;refine aZ (λy:Nat×S=>g.cells.length - y.1) (λy=>[(10,.int .i64 (y.1:Int))]) (λy=>inv y.2) (λ_=>[]) (λy=>y.1<=g.cells.length/\ok ((bB g).take y.1) y.2/\gT step y.2 ((bB g).drop y.1)=gT step s0 (bB g)) (0,s0) ⟨cz _,h0,rfl⟩ (body:=?_);rintro⟨k,s⟩ ⟨hk,hos,hrun⟩;dsimp only at hk hos hrun⊢;refine go ?_;refine aA rfl (λh1=>?_) (λh1=>?_)
 ·refine go ?_;intro _ _ x hx;have hxb:=hg.cell x (bG hx);have hsp:=wz hx;have hd:(bB g).drop k=((k:Int),mW g x)::(bB g).drop (k+1):=by
   rw[oI (by rw[oC];omega)];congr 1;rw[cB (by rw[oC];omega)]at hsp;exact Option.some.inj hsp
  have hX:(bB g).take k++((k:Int),mW g x)::(bB g).drop (k+1)=bB g:=by rw[<- hd,rq]
  refine go ?_;refine(eD rfl rfl (LC (a:=x) (b:=g.w) rfl rfl (by omega))).h ?_;refine go ?_;have hq:0<=x.tdiv g.w/\x.tdiv g.w<=x:=by
   rw[sI hxb.1];exact⟨JH hxb.1 (by omega),Int.ediv_le_self _ hxb.1⟩
  have hr:0<=x.tmod g.w/\x.tmod g.w<=x:=by
   rw[De hxb.1];refine⟨Int.emod_nonneg _ (by omega),?_⟩;have:=OB x g.w;have h3:0<=g.w*(x/g.w):=Int.mul_nonneg (by omega) (JH hxb.1 (by omega));omega
  refine(eD rfl rfl (HV (a:=x) (b:=g.w) rfl rfl (by omega) (by omega) (by omega))).h ?_;refine go ?_;refine aA rfl (λh2=>?_) (λh2=>?_)
  ·have hso:mW g x=(x.tmod g.w - (x.tdiv g.w).tdiv 2,x.tdiv g.w):=by unfold mW;rw[if_pos h2]
   have hq2:0<=(x.tdiv g.w).tdiv 2/\(x.tdiv g.w).tdiv 2<=x.tdiv g.w:=by
    rw[sI hq.1];omega
   rw[hso]at hX hd;have nX:=hy _ s _ _ hos hX;refine go ?_;refine(eD rfl rfl (HV (a:=x.tdiv g.w) (b:=2) rfl rfl (by omega) (by omega) (by omega))).h ?_;refine go ?_;refine ax nX (next:=λ_ _=>?_);rw[hd,gT]at hrun;refine go ?_;cases hst:step s ((k:Int),_)with
   |mk s' b=>
    have hst:=hst;rw[hst]at hrun;cases b with
    |true=>
     refine go ?_;refine aQ (k+1,s') (by show g.cells.length - (k+1)<g.cells.length - k;omega) ⟨by show k+1<=_;omega,?_,hrun⟩;have:=hok _ s _ _ hos hX (by rw[hst]);rw[hst]at this;rw[show(bB g).take (k+1)=(bB g).take k++[_]from by rw[mM,hsp];rfl];rw[hso];exact this
    |false=>
     refine go ?_;exact ae (bB g) (hv:=rfl) (hp:=rfl) (hk:=by rw[<- hrun];exact aI.all _)
  ·have hso:mW g x=(x.tmod g.w,x.tdiv g.w):=by unfold mW;rw[if_neg h2]
   rw[hso]at hX hd;have nX:=hy _ s _ _ hos hX;refine go ?_;refine ax nX (next:=λ_ _=>?_);rw[hd,gT]at hrun;refine go ?_;cases hst:step s ((k:Int),_)with
   |mk s' b=>
    have hst:=hst;rw[hst]at hrun;cases b with
    |true=>
     refine go ?_;refine aQ (k+1,s') (by show g.cells.length - (k+1)<g.cells.length - k;omega) ⟨by show k+1<=_;omega,?_,hrun⟩;have:=hok _ s _ _ hos hX (by rw[hst]);rw[hst]at this;rw[show(bB g).take (k+1)=(bB g).take k++[_]from by rw[mM,hsp];rfl];rw[hso];exact this
    |false=>
     refine go ?_;exact ae (bB g) (hv:=rfl) (hp:=rfl) (hk:=by rw[<- hrun];exact aI.all _)
 have hkl:k=(bB g).length:=by rw[oC];omega
 rw[hkl,List.drop_length]at hrun;refine go ?_;exact ae (bB g) (hv:=rfl) (hp:=rfl) (hk:=by rw[<- hrun];exact aI.all _)
end Go.Proofs.YtoohgkkmdnbnfaaGreatDoor
namespace Go.Proofs.YtoohgkkmdnbnfaaGreatDoor
open Go.Ideal Kd
theorem Nb:vR (nN Tryz.prog pQ pR):=xL _ _ _ (λf q h v h' hm=>by cases hm)
theorem aen(h:IH)(K:BR):(zl (nN Tryz.prog pQ pR) 1000).call ⟨.func 73,[.int .u64 0],[],none⟩ h K=K (.ok (.int .i64 0)) none h:=by kernel_rfl
theorem aeo:dz Tryz.prog 73 [.int .u64 0] [] (.int .i64 0):=λB w s=>by
 have h2:=aen w.h λr pm h'=> @decide (pm=none/\r=.ok (.int .i64 0)/\h'=w.h) (Classical.propDecidable _);have h1:=Eh Nb (h2.trans (@dZ _ (Classical.propDecidable _) ⟨rfl,rfl,rfl⟩));refine .qF _ h1 λr pm h' hg=>?_;obtain⟨rfl,rfl,rfl⟩:= @gY _ (Classical.propDecidable _) hg;exact⟨rfl,w,(),rfl,s,rfl,trivial⟩
theorem aep{a:Option Addr}{c:Nat}:dz Tryz.prog 293 [.slice a 0 c,.int .i64 0,.int .i64 0] [] (.tuple ⟨[]⟩):=by
 refine aK _ (aP 293) λB w0=>?_;refine go ?_;refine kC ?_;refine go ?_;exact ae () (hv:=rfl) (hp:=trivial)
theorem aeq{a:Option Addr}{c:Nat}:dz Tryz.prog 264 [.slice a 0 c,.int .i64 0,.int .i64 0,.int .i64 0] [] (.tuple ⟨[]⟩):=by
 refine aK _ (aP 264) λB w0=>?_;refine go ?_;refine kC ?_;refine go ?_;refine ax (aep (a:=a) (c:=c)) (next:=λ_ _=>?_);refine go ?_;exact ae () (hv:=rfl) (hp:=trivial)
theorem aer{a:Option Addr}{c:Nat}:dz Tryz.prog 232 [.slice a 0 c] [] (.tuple ⟨[]⟩):=by
 refine aK M4 Uw λB w0=>?_;refine go ?_;refine(eD rfl rfl (yo (k:=.u64) (m:=0) (by kernel_rfl:Tryz.prog.underlying 3=some (.int .i64)) (by kernel_rfl) rfl (by rfl))).h ?_;refine ax aeo (next:=λ_ _=>?_);refine go ?_;refine ax (aeq (a:=a) (c:=c)) (next:=λ_ _=>?_);refine go ?_;exact ae () (hv:=rfl) (hp:=trivial)
theorem aes:∃fn body,Tryz.prog.funcs[232]? =some fn/\fn.body=some body/\fn.name≠ "runtime.NumGoroutine" :=by
 obtain⟨fn,h1,h2⟩:=Nb.fn 232 M4 Uw;have h3:Tryz.prog.funcs[232]? =some fn:=h1;have h4:(fn.name== "runtime.NumGoroutine")=false:=by
  have e:(Tryz.prog.funcs[232]?).map (λf=>f.name== "runtime.NumGoroutine")=some false:=by kernel_rfl
  rw[h3]at e;exact Option.some.inj e
 have h5:fn.body.isSome=true:=by
  have e:(Tryz.prog.funcs[232]?).map (λf=>f.body.isSome)=some true:=by kernel_rfl
  rw[h3]at e;exact Option.some.inj e
 obtain⟨body,hb⟩:=Oo.1 h5;exact⟨fn,body,h3,hb,by simpa using h4⟩
theorem Nc{a:Option Addr}{m:Nat}{zs:List Int}(hm:m=zs.length)(hl:zs.length<4611686018427387904):
 bi Tryz.prog (.func 232) [.slice a m m] [] [ap aa (.slice a m m) zs] [] (λ_:Unit=>.tuple ⟨[]⟩) (λ_=>[ap aa (.slice a m m) (di zs)]) (λ_=>[]) (λ_=>True):=by
 subst hm;obtain⟨fn,body,h1,h2,h3⟩:=aes;by_cases hz:zs=[]
 ·subst hz;have e:di []=[]:=by simp[di]
  rw[e];intro B w s;obtain⟨S1,s1,back⟩:=s.LW (k1:=[]) (bq:=[ap aa (.slice a 0 0) []]) (F1:=[]) .nil .nil;refine .qF _ (aer (a:=a) (c:=0) S1 w s1) ?_;rintro r pm h' ⟨hp,w',y,e1,st,e2,_⟩;exact⟨hp,w',(),e1,back w' _ _ st,e2,trivial⟩
 ·exact abD srt h1 h2 h3 (yX.2 hz) hl
theorem UD:qJ Tryz.prog 265 zV:=abO (e:=3) (by kernel_rfl) (by kernel_rfl) (by kernel_rfl) (λa b=>by kernel_rfl)
theorem Nf{g:bA}{vh vc:Value}:bi Tryz.prog (.func 231) [.agg ⟨iM g vh vc⟩] [] [] (jy g vh vc) (λb:Nat=>.func (.func 263) #[] #[ptr' b]) (λ_=>[]) (λb=>[eG b 0 (iM g vh vc),ah aa vc g.cells]) (λ_=>True):=by
 refine aK _ (aP 231) λB w0=>?_;refine go ?_;intro b1;refine go ?_;refine bD (eO (b:=b1)) (h:=?_);exact ae b1 (hv:=rfl) (hp:=trivial)
def mF(c:Prop)(f:aH):aH:=⟨λw=>c->f.p w,λa h e=>f.mono a (h e)⟩
theorem lU{B:List Nat}{w0:Wd}{kl:List OA}{F:List aH}{Q:IH->Prop}{c:Prop}{f:aH}(hc:¬c)(h:R Q B w0 kl (mF c f::F)):R Q B w0 kl F:=eX (mF c f) (λw _ e=>absurd e hc) h
theorem kX{B:List Nat}{w0:Wd}{kl:List OA}{F:List aH}{Q:IH->Prop}{c:Prop}{f:aH}(hf:f∈F)(h:R Q B w0 kl (mF c f::F)):R Q B w0 kl F:=eX (mF c f) (λw hw _=>hw f hf) h
structure Ng where
 v:Value
 e:Int
abbrev uT(y:Ng):Value:=.tuple ⟨[y.v,.int .i64 y.e]⟩
theorem I6{S α:Type}(f:S->α->S):∀(xs:List α) (s:S),jr (λs x=>(f s x,Out.normal)) s xs=(xs.foldl f s,.normal)
 |[],s=>rfl
 |x::xs,s=>by
  show jr (λs x=>(f s x,Out.normal)) (f s x) xs=_;rw[I6 f xs];rfl
section
variable {P:Program} {B:List Nat} {w0:Wd} {kl kl':List OA} {F:List aH} {Q:IH->Prop}
theorem aet{b:Nat}{cs cs':List Value}(e:cs=cs')(h:R Q B w0 (pt b (.cells cs')::kl') F)(hk:ay (pt b (.cells cs)) kl kl':=by exact gD):R Q B w0 kl F:=by
 subst e;exact λw s=>h w (s.fV hk)
theorem o9{α:Type}{E:Enc α}{v:Value}{xs:List α}(h:∀a,v=.slice a xs.length xs.length->R Q B w0 kl F)(hk:ay (ap E v xs) kl kl':=by exact gD):R Q B w0 kl F:=λw s=>by
 obtain⟨S,⟨S1,S2,q,_⟩,_⟩:=(s.fV hk).own;obtain⟨a,e⟩:=Lx q;exact h a e w s
end
abbrev Ai(b n:Nat):Value:=.slice (some ⟨b,0,some 0⟩) n n
theorem UE{g:bA}{vh vc:Value}(hS:qd g):
 bi Tryz.prog (.func 153) [.agg ⟨iM g vh vc⟩] [] [] (jy g vh vc) uT (λ_=>[]) (λy=>[mF (y.e=0) (ah (rX aa) y.v (bI g))]) (λy=>y.e=0↔fq g):=by
 refine EU _ (aP 153) λB w0=>?_;refine go ?_;intro b1 b2;refine go ?_;refine ax (UC (g:=g) hS) (next:=λe he=>?_);refine go ?_;refine aA rfl (λh1=>?_) (λh1=>?_)
 ·refine go ?_;refine lU (c:=(130:Int)=0) (f:=ah (rX aa) (.slice none 0 0) (bI g)) (by omega) ?_;exact BM ⟨.slice none 0 0,130⟩ (hv:=rfl) (hp:=⟨(λh=>by cases h),λh=>absurd (he.2 h) h1⟩)
 have hg:=he.1 (by omega);have hgl:=hg.len;have hsb:=Iy hg;have hsl:=oC g;refine go ?_;intro b4 b5;refine go ?_;refine Rj (bq:=[pt b4 (.cells Ci),pt b2 (.cells [.slice none 0 0]),pt b1 (.cells (iM g vh vc))]) [] (λ_:Unit=>[]) (λ_=>[pt b5 (.cells [.int .i64 (dQ g:Int)])]) (λ_=>[]) (λ_=>True) (hx:=?_) (hy:=?_)
 ·refine aA rfl (λh2=>?_) (λh2=>?_)
  ·refine go ?_;rw[show(4:Int)=(dQ g:Int)by unfold dQ;rw[if_pos h2];rfl];exact H8 () trivial
  ·refine go ?_;rw[show(6:Int)=(dQ g:Int)by unfold dQ;rw[if_neg h2];rfl];exact H8 () trivial
 intro _ _;refine go ?_;refine ym zV (λbm=>?_);refine go ?_;intro b6;refine go ?_;refine ax (Nf (g:=g) (vh:=vh) (vc:=vc)) (next:=λbs _=>?_);refine go ?_;refine E9 (Z:=Nat) (λ(m:List ((Int×Int)×Value)) (x:Int×(Int×Int))=>(upd x.2 (.int .i64 x.1) m,.normal)) (λm=>[gP zV bm m,pt b6 (.cells [.map (some bm)])]) (λvs m=>m=fu vs) [] _ (λx b8=>[pt b8 (.cells [.int .i64 x.2.1,.int .i64 x.2.2])]) rfl (λvs s x rest hs _ _=>by rw[hs,Mw]) (Na (b1:=bs) (vh:=vh) (vc:=vc) hg) (by intro s x lo o B w0;refine go ?_;intro b8;refine go ?_;exact zT b8 rfl) ?_ ?_ (λ_ _=>trivial)
 ·intro vs s x rest b8 lo L B w0 hs hX;dsimp only[List.cons_append,List.nil_append];refine go ?_;refine vZ UD x.2 (v:=.int .i64 x.1) ?_;refine go ?_;exact uG () rfl trivial trivial
 intro r1 xs hxs;subst hxs;rw[I6 (λ(m:List ((Int×Int)×Value)) (x:Int×(Int×Int))=>upd x.2 (.int .i64 x.1) m)];dsimp only[List.cons_append,List.nil_append];rw[show(bB g).foldl (λ(m:List ((Int×Int)×Value)) (x:Int×(Int×Int))=>upd x.2 (.int .i64 x.1) m) []=fu (bB g)from rfl];refine bD (BS (b:=bm)) (h:=?_);refine bD (eO (b:=b6)) (h:=?_);refine go ?_;refine abf g.cells.length ⟨by omega,by omega,by omega⟩ λbl=>?_;rw[show zeros [.slice none 0 0] g.cells.length=List.replicate g.cells.length (.slice none 0 0)from QC _ _];refine abX (kS aa) (x0:=([]:List Int)) (λw=>⟨.inl ⟨rfl,rfl,rfl⟩,λ_=>rfl⟩) (h:=?_);refine go ?_;refine ax (Nf (g:=g) (vh:=vh) (vc:=vc)) (next:=λbs2 _=>?_);refine go ?_;refine bD (eO (b:=b4)) (h:=?_);refine bD (eO (b:=b5)) (h:=?_);have hml:(eB.take (dQ g)).length=dQ g:=by rw[gM];show min (dQ g) 6=_;have:=zY g;omega
 refine eX (ah Mx (.slice (some ⟨b4,0,some 0⟩) (dQ g) 6) (eB.take (dQ g))) (λw h=>acC (h (eG b4 0 Ci) (cO _ (cZ ..))) (zY g)) ?_;refine E9 (Z:=Nat) (λ(xss:List (List Int)) (x:Int×(Int×Int))=>(xss.set x.1.toNat (lq g x),.normal)) (λxss=>[nE (kS aa) bl xss,pt b2 (.cells [Ai bl g.cells.length])]) (λvs xss=>xss=vs.map (lq g)++List.replicate (g.cells.length - vs.length) []) (List.replicate g.cells.length []) _ (λx b10=>[pt b10 (.cells [.int .i64 x.2.1,.int .i64 x.2.2])]) (by simp) (λvs s x rest hs hX _=>by
  have h1:=Iz hX;rw[hs,h1.1];have:=Tf (A:=vs.map (lq g)) (n:=g.cells.length) (by rw[bR];exact h1.2.1) (lq g x);rw[bR]at this;rw[CY,this,dW,fA];rfl) (Na (b1:=bs2) (vh:=vh) (vc:=vc) hg) (by intro s x lo o B w0;refine go ?_;intro b8;refine go ?_;exact zT b8 rfl) ?_ ?_ (λ_ _=>trivial)
 ·intro vs xss x rest b10 lo L B w0 hs hX;dsimp only[List.cons_append,List.nil_append];obtain⟨hc,hvl,hxm⟩:=Iz hX;have hbx:=hsb x hxm;obtain⟨c,s1,s2⟩:=x;dsimp only at hc hbx;subst hc;have hxk:xss[vs.length]? =some []:=by
   rw[hs,lX (by simp),bR,xe,List.getElem?_replicate,if_pos (by omega)]
  have hxl:xss.length=g.cells.length:=by rw[hs];simp;omega
  refine go ?_;refine(eD rfl rfl (acF (m:=dQ g) rfl rfl (zY g))).h ?_;refine go ?_;refine Cb (A:=nE (kS aa) bl xss) (A':=nE (kS aa) bl (xss.set vs.length (gp (fu (bB g)) (s1,s2) ((eB.take (dQ g)).take 0)))) (congrArg (nE (kS aa) bl) (by
   apply jW;intro i;rw[uZ];by_cases hi:vs.length=i
   ·subst hi;rw[if_pos rfl,if_pos (by omega),hxk];rfl
   ·rw[if_neg hi])) ?_
  refine aZ (λj=>dQ g - j) (λj:Nat=>[(47,.int .i64 (j:Int))]) (λj=>[nE (kS aa) bl (xss.set vs.length (gp (fu (bB g)) (s1,s2) ((eB.take (dQ g)).take j)))]) (λ_=>[]) (λj=>j<=dQ g) 0 (cz _) (body:=?_);intro j hj;refine go ?_;refine aA rfl (λh2=>?_) (λh2=>?_)
  ·refine go ?_;obtain⟨dd,hd⟩:∃dd,(eB.take (dQ g))[j]? =some dd:=⟨_,cB (by omega)⟩
   have hdb:=acD dd (Jy (bG hd));have hdv:ja (jI Ci (j*2)) 2=some [.int .i64 dd.1,.int .i64 dd.2]:=acE (j:=j) (d:=dd) (by rw[pE]at hd;split at hd;exact hd;cases hd)
   have hnr:=acB (fu (bB g)) (s1,s2) ((eB.take (dQ g)).take j) dd;rw[<- bY hd]at hnr;have hnl:=Iw (fu (bB g)) (s1,s2) ((eB.take (dQ g)).take j);have hjm:=zY g;rw[gM]at hnl;obtain⟨d1,d2⟩:=dd;dsimp only at hdb hdv hnr;refine(Lv (o:=0) (j:=j*2) (cs:=Ci) rfl rfl rfl (cO _ (cO _ (cZ ..))) hdv).h ?_;refine go ?_;intro b12;refine go ?_;refine(eD rfl rfl (zF (a:=s1) (b:=d1) rfl rfl (by omega) (by omega))).h ?_;refine go ?_;refine(eD rfl rfl (zF (a:=s2) (b:=d2) rfl rfl (by omega) (by omega))).h ?_;refine go ?_;refine Ul UD (s1+d1,s2+d2) (λv hv hm=>?_) (λhm=>?_)
   ·obtain⟨c,rfl,hc⟩:=Te _ _ hv;rw[hv]at hnr;refine go ?_;refine Sr (kS aa) (b:=bl) (xss:=xss.set vs.length (gp (fu (bB g)) (s1,s2) ((eB.take (dQ g)).take j))) (k:=vs.length) (xs:=gp (fu (bB g)) (s1,s2) ((eB.take (dQ g)).take j)) (by rw[uZ,if_pos rfl,if_pos (by omega)]) (h:=λws v FK hv2=>?_);rw[Df]at FK;refine Sv aa v (gp (fu (bB g)) (s1,s2) ((eB.take (dQ g)).take j)) (λhz=>?_);refine vW (o:=0+vs.length*1) (cs:=ws) v (by rw[eT,Nat.mul_one];exact hv2) ?_;refine go ?_;intro b43;refine go ?_;refine Sg (xs:=gp (fu (bB g)) (s1,s2) ((eB.take (dQ g)).take j)) aa c () (by omega) (next:=λad=>?_);rw[show gp (fu (bB g)) (s1,s2) ((eB.take (dQ g)).take j)++[c]=gp (fu (bB g)) (s1,s2) ((eB.take (dQ g)).take (j+1))from hnr.symm];refine go ?_;refine x9 (o:=0+vs.length*1) (cs:=ws) (v:=.slice ad ((gp (fu (bB g)) (s1,s2) ((eB.take (dQ g)).take j)).length+1) ((gp (fu (bB g)) (s1,s2) ((eB.take (dQ g)).take j)).length+1)) (cs':=ws.set vs.length (.slice ad ((gp (fu (bB g)) (s1,s2) ((eB.take (dQ g)).take j)).length+1) ((gp (fu (bB g)) (s1,s2) ((eB.take (dQ g)).take j)).length+1))) (by rw[eT,Nat.mul_one]) (by omega) ?_;refine Sw aa (.slice ad ((gp (fu (bB g)) (s1,s2) ((eB.take (dQ g)).take j)).length+1) ((gp (fu (bB g)) (s1,s2) ((eB.take (dQ g)).take j)).length+1)) (gp (fu (bB g)) (s1,s2) ((eB.take (dQ g)).take (j+1))) (λe=>by rw[hnr]at e;exact absurd e (by show¬(_++[c]=[]);simp)) ?_;refine Su (kS aa) (b:=bl) (xss:=xss.set vs.length (gp (fu (bB g)) (s1,s2) ((eB.take (dQ g)).take j))) (vs:=ws) (k:=vs.length) (xs:=gp (fu (bB g)) (s1,s2) ((eB.take (dQ g)).take (j+1))) (by rw[Df];exact FK) (by rw[Df];omega) (h:=?_);rw[List.set_set];refine go ?_;exact aQ (j+1) (by omega) (by omega)
   ·rw[qK hm]at hnr;refine go ?_;refine Cb (A:=nE (kS aa) bl (xss.set vs.length (gp (fu (bB g)) (s1,s2) ((eB.take (dQ g)).take j)))) (A':=nE (kS aa) bl (xss.set vs.length (gp (fu (bB g)) (s1,s2) ((eB.take (dQ g)).take (j+1))))) (congrArg (nE (kS aa) bl) ((by rw[hnr];exact congrArg (xss.set vs.length) (gy _).symm))) ?_;exact aQ (j+1) (by omega) (by omega)
  have hjl:j=dQ g:=by omega
  subst hjl;refine Cb (A:=nE (kS aa) bl (xss.set vs.length (gp (fu (bB g)) (s1,s2) ((eB.take (dQ g)).take (dQ g))))) (A':=nE (kS aa) bl (xss.set vs.length (gp (fu (bB g)) (s1,s2) (eB.take (dQ g))))) (congrArg (nE (kS aa) bl) ((congrArg (λz=>xss.set vs.length (gp (fu (bB g)) (s1,s2) z)) (sH (Nat.le_of_eq hml))))) ?_;refine go ?_;refine Sr (kS aa) (b:=bl) (xss:=xss.set vs.length (gp (fu (bB g)) (s1,s2) (eB.take (dQ g)))) (k:=vs.length) (xs:=gp (fu (bB g)) (s1,s2) (eB.take (dQ g))) (by rw[uZ,if_pos rfl,if_pos (by omega)]) (h:=λws v FK hv2=>?_);rw[Df]at FK;refine Sv aa v (gp (fu (bB g)) (s1,s2) (eB.take (dQ g))) (λhz=>?_);refine vW (o:=0+vs.length*1) (cs:=ws) v (by rw[eT,Nat.mul_one];exact hv2) ?_;have hn6:=Iw (fu (bB g)) (s1,s2) (eB.take (dQ g));rw[hml]at hn6;have hjm:=zY g;refine o9 (E:=aa) (v:=v) (xs:=gp (fu (bB g)) (s1,s2) (eB.take (dQ g))) λa hv=>?_;subst hv;refine ax (Nc (a:=a) (zs:=gp (fu (bB g)) (s1,s2) (eB.take (dQ g))) rfl (by omega)) (next:=λ_ _=>?_);refine aet (b:=bl) (cs:=ws) (cs':=ws.set vs.length (.slice a (gp (fu (bB g)) (s1,s2) (eB.take (dQ g))).length (gp (fu (bB g)) (s1,s2) (eB.take (dQ g))).length)) (acG hv2).symm ?_;refine Sw aa (.slice a (gp (fu (bB g)) (s1,s2) (eB.take (dQ g))).length (gp (fu (bB g)) (s1,s2) (eB.take (dQ g))).length) (di (gp (fu (bB g)) (s1,s2) (eB.take (dQ g)))) (λe=>hz (ji.1 (by rw[<- zS,e];rfl))) ?_;refine Su (kS aa) (b:=bl) (xss:=xss.set vs.length (gp (fu (bB g)) (s1,s2) (eB.take (dQ g)))) (vs:=ws) (k:=vs.length) (xs:=di (gp (fu (bB g)) (s1,s2) (eB.take (dQ g)))) (by rw[Df];exact FK) (by rw[Df];omega) (h:=?_);refine Cb (A:=nE (kS aa) bl ((xss.set vs.length (gp (fu (bB g)) (s1,s2) (eB.take (dQ g)))).set vs.length (di (gp (fu (bB g)) (s1,s2) (eB.take (dQ g)))))) (A':=nE (kS aa) bl (xss.set ((vs.length:Int)).toNat (lq g ((vs.length:Int),s1,s2)))) (congrArg (nE (kS aa) bl) ((by rw[List.set_set,CY];rfl))) ?_;refine go ?_;exact uG () rfl trivial trivial
 intro r2 tV aew;subst aew;rw[I6 (λ(xss:List (List Int)) (x:Int×(Int×Int))=>xss.set x.1.toNat (lq g x))];dsimp only[List.cons_append,List.nil_append];rw[show(bB g).foldl (λ(xss:List (List Int)) (x:Int×(Int×Int))=>xss.set x.1.toNat (lq g x)) (List.replicate g.cells.length [])=bI g from acH g];refine bD (abY (A:=kS aa) (E:=rX aa) (b:=bl) (xss:=bI g) (c:=(bI g).length) (λv=>v) rfl (λ_ _=>rfl) (λv xs=>abZ)) (h:=?_);rw[wC];refine go ?_;refine kX (c:=(0:Int)=0) (f:=ah (rX aa) (.slice (some ⟨bl,0,some 0⟩) g.cells.length g.cells.length) (bI g)) (by simp) ?_;exact BM ⟨.slice (some ⟨bl,0,some 0⟩) g.cells.length g.cells.length,0⟩ (hv:=rfl) (hp:=⟨λ_=>hg,λ_=>rfl⟩)
