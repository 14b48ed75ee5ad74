/-
  Lists compared: of lists, names, symbols, regions, clues, rules.
-/
import Derived.Test.YtoohgkkmdnbnfaaGreatDoorLibAB
import Derived.Test.YtoohgkkmdnbnfaaGreatDoorShelf
import Derived.Test.YtoohgkkmdnbnfaaGreatDoorIdealOB
set_option linter.all false
set_option maxRecDepth 10000
set_option maxHeartbeats 2000000
namespace Go.Proofs.YtoohgkkmdnbnfaaGreatDoor
open Go.Ideal Kd
theorem RH{va vb:Value}{xs ys:List (List Int)}(hal:xs.length<9223372036854775808)(hl:∀l∈xs,l.length<9223372036854775808):bY Tryz.prog 157 [va,vb,.func (.func 104) #[] #[]] [ah (aj ae) va xs,ah (aj ae) vb ys] (.bool (decide (xs=ys))):=by
 refine aG _ (aM 157) λB w0=>?_;refine go ?_;refine az rfl (λh1=>?_) (λh1=>?_)
 ·refine go ?_;refine aa () (hv:=?_) (hp:=trivial);rw[aR (λe=>h1 (by rw[e]))];rfl
 have hlen:xs.length=ys.length:=by omega
 refine go ?_;refine aX (λk=>xs.length - k) (λk:Nat=>[(17,.int .i64 (k:Int))]) (λ_=>[]) (λ_=>[]) (λk=>k<=xs.length/\∀j,j<k->xs[j]? =ys[j]?) 0 ⟨by omega,λj hj=>by omega⟩ (body:=?_);rintro k ⟨hkx,hsame⟩;refine go ?_;refine az rfl (λh2=>?_) (λh2=>?_)
 ·refine go ?_;refine aY (aj ae) (next:=λ_ _ x (vx:Value) hx=>?_);refine go ?_;refine aY (aj ae) (next:=λ_ _ y (vy:Value) hy=>?_);refine go ?_;refine ak (y5 (xs:=x) (ys:=y) (hl x (bJ hx))) (next:=λ_ _=>?_);refine go ?_;refine ed rfl (λh3=>?_) (λh3=>?_)
  ·refine go ?_;refine aa () (hv:=?_) (hp:=trivial);rw[aR (λe=>h3 (by rw[e,hy]at hx;cases hx;rfl))];rfl
  refine go ?_;refine aO (k+1) (by omega) ⟨by omega,λj hj=>?_⟩;by_cases e:j=k
  ·subst e;rw[hx,hy,h3]
  ·exact hsame j (by omega)
 refine go ?_;refine aa () (hv:=?_) (hp:=trivial);have:xs=ys:=by
  apply jw;intro j;by_cases hj:j<k
  ·exact hsame j hj
  ·rw[gL (by omega),gL (by omega)]
 rw[eB this];rfl
theorem RI{va vb:Value}{xs ys:List (List Int)}(hal:xs.length<9223372036854775808)(hl:∀l∈xs,l.length<9223372036854775808):bY Tryz.prog 106 [va,vb] [ah (aj ae) va xs,ah (aj ae) vb ys] (.bool (decide (xs=ys))):=by
 refine aG _ (aM 106) λB w0=>?_;refine go ?_;refine ak (RH (xs:=xs) (ys:=ys) hal hl) (next:=λ_ _=>?_);refine go ?_;exact aa () (hv:=rfl) (hp:=trivial)
theorem abp{va vb:Value}{xs ys:List (List (List Int))}(hal:xs.length<9223372036854775808)(hl:∀l∈xs,l.length<9223372036854775808/\∀m∈l,m.length<9223372036854775808):bY Tryz.prog 107 [va,vb,.func (.func 106) #[] #[]] [ah (aj (aj ae)) va xs,ah (aj (aj ae)) vb ys] (.bool (decide (xs=ys))):=by
 refine aG _ (aM 107) λB w0=>?_;refine go ?_;refine az rfl (λh1=>?_) (λh1=>?_)
 ·refine go ?_;refine aa () (hv:=?_) (hp:=trivial);rw[aR (λe=>h1 (by rw[e]))];rfl
 have hlen:xs.length=ys.length:=by omega
 refine go ?_;refine aX (λk=>xs.length - k) (λk:Nat=>[(17,.int .i64 (k:Int))]) (λ_=>[]) (λ_=>[]) (λk=>k<=xs.length/\∀j,j<k->xs[j]? =ys[j]?) 0 ⟨by omega,λj hj=>by omega⟩ (body:=?_);rintro k ⟨hkx,hsame⟩;refine go ?_;refine az rfl (λh2=>?_) (λh2=>?_)
 ·refine go ?_;refine aY (aj (aj ae)) (next:=λ_ _ x (vx:Value) hx=>?_);refine go ?_;refine aY (aj (aj ae)) (next:=λ_ _ y (vy:Value) hy=>?_);refine go ?_;refine ak (RI (xs:=x) (ys:=y) (hl x (bJ hx)).1 (hl x (bJ hx)).2) (next:=λ_ _=>?_);refine go ?_;refine ed rfl (λh3=>?_) (λh3=>?_)
  ·refine go ?_;refine aa () (hv:=?_) (hp:=trivial);rw[aR (λe=>h3 (by rw[e,hy]at hx;cases hx;rfl))];rfl
  refine go ?_;refine aO (k+1) (by omega) ⟨by omega,λj hj=>?_⟩;by_cases e:j=k
  ·subst e;rw[hx,hy,h3]
  ·exact hsame j (by omega)
 refine go ?_;refine aa () (hv:=?_) (hp:=trivial);have:xs=ys:=by
  apply jw;intro j;by_cases hj:j<k
  ·exact hsame j hj
  ·rw[gL (by omega),gL (by omega)]
 rw[eB this];rfl
theorem RJ{va vb:Value}{xs ys:List ByteArray}(hal:xs.length<9223372036854775808):bY Tryz.prog 159 [va,vb] [ah aN va xs,ah aN vb ys] (.bool (decide (xs=ys))):=by
 refine aG _ (aM 159) λB w0=>?_;refine go ?_;refine az rfl (λh1=>?_) (λh1=>?_)
 ·refine go ?_;refine aa () (hv:=?_) (hp:=trivial);rw[aR (λe=>h1 (by rw[e]))];rfl
 have hlen:xs.length=ys.length:=by omega
 refine go ?_;refine aX (λk=>xs.length - k) (λk:Nat=>[(13,.int .i64 (k:Int))]) (λ_=>[]) (λ_=>[]) (λk=>k<=xs.length/\∀j,j<k->xs[j]? =ys[j]?) 0 ⟨by omega,λj hj=>by omega⟩ (body:=?_);rintro k ⟨hkx,hsame⟩;refine go ?_;refine az rfl (λh2=>?_) (λh2=>?_)
 ·refine go ?_;refine aY aN (next:=λ_ _ x (_:Unit) hx=>?_);refine go ?_;refine aY aN (next:=λ_ _ y (_:Unit) hy=>?_);refine go ?_;refine ed (p:=x=y) (by show Value.bool _=_;rw[dQ]) (λh3=>?_) (λh3=>?_)
  ·refine go ?_;refine aa () (hv:=?_) (hp:=trivial);rw[aR (λe=>h3 (by rw[e,hy]at hx;cases hx;rfl))];rfl
  refine go ?_;refine aO (k+1) (by omega) ⟨by omega,λj hj=>?_⟩;by_cases e:j=k
  ·subst e;rw[hx,hy,h3]
  ·exact hsame j (by omega)
 refine go ?_;refine aa () (hv:=?_) (hp:=trivial);have:xs=ys:=by
  apply jw;intro j;by_cases hj:j<k
  ·exact hsame j hj
  ·rw[gL (by omega),gL (by omega)]
 rw[eB this];rfl
theorem KW(x y:nH):cellsE [.string x.name,.int .i64 x.value] [.string y.name,.int .i64 y.value]=decide (x=y):=by
 obtain⟨a,b⟩:=x;obtain⟨c,e⟩:=y;show(decide (a=c)&&(decide (b=e)&&true))=_;rw[Bool.and_true,<- Bool.decide_and];exact mG.2 ⟨λh=>by rw[h.1,h.2],λh=>by cases h;exact⟨rfl,rfl⟩⟩
abbrev Gx(x:iP):List Value:=[.string x.name,.string x.on,.int .i64 x.family,.int .i64 x.type,.int .i64 x.lo,.int .i64 x.hi]
theorem KX(x y:iP):cellsE (Gx x) (Gx y)=decide (x=y):=by
 obtain⟨a1,a2,a3,a4,a5,a6⟩:=x;obtain⟨b1,b2,b3,b4,b5,b6⟩:=y;show(decide (a1=b1)&&(decide (a2=b2)&&(decide (a3=b3)&&(decide (a4=b4)&&(decide (a5=b5)&&(decide (a6=b6)&&true))))))=_;rw[Bool.and_true];simp only[<- Bool.decide_and];exact mG.2 ⟨λh=>by rw[h.1,h.2.1,h.2.2.1,h.2.2.2.1,h.2.2.2.2.1,h.2.2.2.2.2],λh=>by cases h;exact⟨rfl,rfl,rfl,rfl,rfl,rfl⟩⟩
theorem KY:∃fs:Array Field,Tryz.prog.underlying 84=some (.struct fs)/\DN Tryz.prog fs.toList 0 [false,true]=true:=by
 refine⟨Tryz.prog.fieldsOf 84,by kernel_rfl,by kernel_rfl⟩
theorem KZ:∃fs:Array Field,Tryz.prog.underlying 115=some (.struct fs)/\DN Tryz.prog fs.toList 0 [false,false,true,true,true,true]=true:=by
 refine⟨Tryz.prog.fieldsOf 115,by kernel_rfl,by kernel_rfl⟩
theorem abq{va vb:Value}{xs ys:List nH}(hal:xs.length<9223372036854775808):bY Tryz.prog 160 [va,vb] [ah fu va xs,ah fu vb ys] (.bool (decide (xs=ys))):=by
 obtain⟨fs,hu,hrow⟩:=KY;refine aG _ (aM 160) λB w0=>?_;refine go ?_;refine az rfl (λh1=>?_) (λh1=>?_)
 ·refine go ?_;refine aa () (hv:=?_) (hp:=trivial);rw[aR (λe=>h1 (by rw[e]))];rfl
 have hlen:xs.length=ys.length:=by omega
 refine go ?_;refine aX (λk=>xs.length - k) (λk:Nat=>[(13,.int .i64 (k:Int))]) (λ_=>[]) (λ_=>[]) (λk=>k<=xs.length/\∀j,j<k->xs[j]? =ys[j]?) 0 ⟨by omega,λj hj=>by omega⟩ (body:=?_);rintro k ⟨hkx,hsame⟩;refine go ?_;refine az rfl (λh2=>?_) (λh2=>?_)
 ·refine go ?_;refine aY fu (next:=λ_ _ x (_:Unit) hx=>?_);refine go ?_;refine aY fu (next:=λ_ _ y (_:Unit) hy=>?_);refine go ?_;refine(fq (v:=.bool (!decide (x=y))) rfl rfl (by rw[<- KW];exact Ay rfl rfl hu (by kernel_rfl) (by kernel_rfl) (row_of hrow rfl rfl (λj=>by rw[eH]) (λj=>by rw[eH])) (by simp[fw,bH,Ideal.cellV]) (by simp[fw,bH,Ideal.cellV]))).h ?_;refine go ?_;refine ed rfl (λh3=>?_) (λh3=>?_)
  ·refine go ?_;refine aa () (hv:=?_) (hp:=trivial);rw[aR (λe=>h3 (by rw[e,hy]at hx;cases hx;rfl))];rfl
  refine go ?_;refine aO (k+1) (by omega) ⟨by omega,λj hj=>?_⟩;by_cases e:j=k
  ·subst e;rw[hx,hy,h3]
  ·exact hsame j (by omega)
 refine go ?_;refine aa () (hv:=?_) (hp:=trivial);have:xs=ys:=by
  apply jw;intro j;by_cases hj:j<k
  ·exact hsame j hj
  ·rw[gL (by omega),gL (by omega)]
 rw[eB this];rfl
theorem abr{va vb:Value}{xs ys:List iP}(hal:xs.length<9223372036854775808):bY Tryz.prog 162 [va,vb] [ah bC va xs,ah bC vb ys] (.bool (decide (xs=ys))):=by
 obtain⟨fs,hu,hrow⟩:=KZ;refine aG _ (aM 162) λB w0=>?_;refine go ?_;refine az rfl (λh1=>?_) (λh1=>?_)
 ·refine go ?_;refine aa () (hv:=?_) (hp:=trivial);rw[aR (λe=>h1 (by rw[e]))];rfl
 have hlen:xs.length=ys.length:=by omega
 refine go ?_;refine aX (λk=>xs.length - k) (λk:Nat=>[(13,.int .i64 (k:Int))]) (λ_=>[]) (λ_=>[]) (λk=>k<=xs.length/\∀j,j<k->xs[j]? =ys[j]?) 0 ⟨by omega,λj hj=>by omega⟩ (body:=?_);rintro k ⟨hkx,hsame⟩;refine go ?_;refine az rfl (λh2=>?_) (λh2=>?_)
 ·refine go ?_;refine aY bC (next:=λ_ _ x (_:Unit) hx=>?_);refine go ?_;refine aY bC (next:=λ_ _ y (_:Unit) hy=>?_);refine go ?_;refine(fq (v:=.bool (!decide (x=y))) rfl rfl (by rw[<- KX];exact Ay rfl rfl hu (by kernel_rfl) (by kernel_rfl) (row_of hrow rfl rfl (λj=>by rw[eH]) (λj=>by rw[eH])) (by simp[fw,bH,Ideal.cellV]) (by simp[fw,bH,Ideal.cellV]))).h ?_;refine go ?_;refine ed rfl (λh3=>?_) (λh3=>?_)
  ·refine go ?_;refine aa () (hv:=?_) (hp:=trivial);rw[aR (λe=>h3 (by rw[e,hy]at hx;cases hx;rfl))];rfl
  refine go ?_;refine aO (k+1) (by omega) ⟨by omega,λj hj=>?_⟩;by_cases e:j=k
  ·subst e;rw[hx,hy,h3]
  ·exact hsame j (by omega)
 refine go ?_;refine aa () (hv:=?_) (hp:=trivial);have:xs=ys:=by
  apply jw;intro j;by_cases hj:j<k
  ·exact hsame j hj
  ·rw[gL (by omega),gL (by omega)]
 rw[eB this];rfl
end Go.Proofs.YtoohgkkmdnbnfaaGreatDoor
set_option maxHeartbeats 4000000
namespace Go.Proofs.YtoohgkkmdnbnfaaGreatDoor
open Go.Ideal Kd
theorem abt{x y:lc}{vx vy:Value}(hl:x.lists.length<9223372036854775808)(hll:∀l∈x.lists,l.length<9223372036854775808):bY Tryz.prog 156 [.agg ⟨[.string x.name,vx]⟩,.agg ⟨[.string y.name,vy]⟩] [ah (aj ae) vx x.lists,ah (aj ae) vy y.lists] (.bool (decide (x=y))):=by
 obtain⟨n1,l1⟩:=x;obtain⟨n2,l2⟩:=y;dsimp only at hl hll⊢;refine aG _ (aM 156) λB w0=>?_;refine go ?_;intro b2 b3;refine go ?_;first|with_reducible refine aL (λh1=>?_) (λh1=>?_)|with_reducible refine aK (λh1=>?_) (λh1=>?_)|with_reducible refine aI (λh1=>?_) (λh1=>?_)
 ·rw[dQ]at h1;refine go ?_;refine aa () (hv:=?_) (hp:=trivial);rw[aR (λe=>lY h1 (by cases e;rfl))];rfl
 rw[dQ]at h1;have h1:=iB h1;refine go ?_;refine ak (RH (xs:=l1) (ys:=l2) hl hll) (next:=λ_ _=>?_);refine go ?_;refine aa () (hv:=?_) (hp:=trivial);rw[show decide (lc.mk n1 l1=lc.mk n2 l2)=decide (l1=l2)from mG.2 ⟨λh=>by cases h;rfl,λh=>by rw[h1,h]⟩];rfl
theorem abu{x y:bM}{v1 v2 u1 u2:Value}(hl:x.names.length<9223372036854775808)(hll:x.others.length<9223372036854775808):bY Tryz.prog 158 [.agg ⟨kF x v1 v2⟩,.agg ⟨kF y u1 u2⟩] [ah aN v1 x.names,ah aN v2 x.others,ah aN u1 y.names,ah aN u2 y.others] (.bool (decide (x=y))):=by
 obtain⟨n1,o1,k1,f1,tQ,os1,s1,t1,p1,m1,y1,c1⟩:=x;obtain⟨n2,o2,k2,f2,AY,os2,s2,t2,p2,m2,y2,c2⟩:=y;dsimp only[kF]at hl hll⊢;refine aG _ (aM 158) λB w0=>?_;refine go ?_;intro b2 b3;refine go ?_;refine ak (RJ (xs:=tQ) (ys:=AY) hl) (next:=λ_ _=>?_);refine go ?_;first|with_reducible refine aL (λh1=>?_) (λh1=>?_)|with_reducible refine aK (λh1=>?_) (λh1=>?_)|with_reducible refine aI (λh1=>?_) (λh1=>?_)
 ·refine go ?_;refine aa () (hv:=?_) (hp:=trivial);rw[aR (λe=>h1 (by cases e;rfl))];rfl
 refine go ?_;refine ak (RJ (xs:=os1) (ys:=os2) hll) (next:=λ_ _=>?_);refine go ?_;first|with_reducible refine aL (λh2=>?_) (λh2=>?_)|with_reducible refine aK (λh2=>?_) (λh2=>?_)|with_reducible refine aI (λh2=>?_) (λh2=>?_)
 ·refine go ?_;refine aa () (hv:=?_) (hp:=trivial);rw[aR (λe=>h2 (by cases e;rfl))];rfl
 refine go ?_;first|with_reducible refine aL (λh3=>?_) (λh3=>?_)|with_reducible refine aK (λh3=>?_) (λh3=>?_)|with_reducible refine aI (λh3=>?_) (λh3=>?_)
 ·rw[dQ]at h3;refine go ?_;refine aa () (hv:=?_) (hp:=trivial);rw[aR (λe=>lY h3 (by cases e;rfl))];rfl
 rw[dQ]at h3;have h3:=iB h3;refine go ?_;first|with_reducible refine aL (λh4=>?_) (λh4=>?_)|with_reducible refine aK (λh4=>?_) (λh4=>?_)|with_reducible refine aI (λh4=>?_) (λh4=>?_)
 ·rw[dQ]at h4;refine go ?_;refine aa () (hv:=?_) (hp:=trivial);rw[aR (λe=>lY h4 (by cases e;rfl))];rfl
 rw[dQ]at h4;have h4:=iB h4;refine go ?_;first|with_reducible refine aL (λh5=>?_) (λh5=>?_)|with_reducible refine aK (λh5=>?_) (λh5=>?_)|with_reducible refine aI (λh5=>?_) (λh5=>?_)
 ·rw[dQ]at h5;refine go ?_;refine aa () (hv:=?_) (hp:=trivial);rw[aR (λe=>lY h5 (by cases e;rfl))];rfl
 rw[dQ]at h5;have h5:=iB h5;refine go ?_;refine(fq (v:=.bool (decide ([k1,f1,s1,t1,p1,m1,c1]=[k2,f2,s2,t2,p2,m2,c2]))) rfl rfl (Zx (n:=7) (e:=3) rfl rfl (by kernel_rfl) (by kernel_rfl) (by kernel_rfl) rfl rfl (by kernel_rfl))).h ?_;refine go ?_;refine aa () (hv:=?_) (hp:=trivial);rw[show decide (bM.mk n1 o1 k1 f1 tQ os1 s1 t1 p1 m1 y1 c1=bM.mk n2 o2 k2 f2 AY os2 s2 t2 p2 m2 y2 c2)=decide ([k1,f1,s1,t1,p1,m1,c1]=[k2,f2,s2,t2,p2,m2,c2])from mG.2 ⟨λh=>by cases h;rfl,λh=>by cases h;rw[h1,h2,h3,h4,h5]⟩];rfl
theorem abv{va vb:Value}{xs ys:List lc}(hal:xs.length<9223372036854775808)(hl:∀r∈xs,r.lists.length<9223372036854775808/\∀l∈r.lists,l.length<9223372036854775808):bY Tryz.prog 161 [va,vb,.func (.func 156) #[] #[]] [ah dW va xs,ah dW vb ys] (.bool (decide (xs=ys))):=by
 refine aG _ (aM 161) λB w0=>?_;refine go ?_;refine az rfl (λh1=>?_) (λh1=>?_)
 ·refine go ?_;refine aa () (hv:=?_) (hp:=trivial);rw[aR (λe=>h1 (by rw[e]))];rfl
 have hlen:xs.length=ys.length:=by omega
 refine go ?_;refine aX (λk=>xs.length - k) (λk:Nat=>[(17,.int .i64 (k:Int))]) (λ_=>[]) (λ_=>[]) (λk=>k<=xs.length/\∀j,j<k->xs[j]? =ys[j]?) 0 ⟨by omega,λj hj=>by omega⟩ (body:=?_);rintro k ⟨hkx,hsame⟩;refine go ?_;refine az rfl (λh2=>?_) (λh2=>?_)
 ·refine go ?_;refine aY dW (next:=λ_ _ x (vx:Value) hx=>?_);refine go ?_;intro b8;refine go ?_;refine aY dW (next:=λ_ _ y (vy:Value) hy=>?_);refine go ?_;intro b9;refine go ?_;refine ak (abt (x:=x) (y:=y) (vx:=vx) (vy:=vy) (hl x (bJ hx)).1 (hl x (bJ hx)).2) (next:=λ_ _=>?_);refine go ?_;refine ed rfl (λh3=>?_) (λh3=>?_)
  ·refine go ?_;refine aa () (hv:=?_) (hp:=trivial);rw[aR (λe=>h3 (by rw[e,hy]at hx;cases hx;rfl))];rfl
  refine go ?_;refine aO (k+1) (by omega) ⟨by omega,λj hj=>?_⟩;by_cases e:j=k
  ·subst e;rw[hx,hy,h3]
  ·exact hsame j (by omega)
 refine go ?_;refine aa () (hv:=?_) (hp:=trivial);have:xs=ys:=by
  apply jw;intro j;by_cases hj:j<k
  ·exact hsame j hj
  ·rw[gL (by omega),gL (by omega)]
 rw[eB this];rfl
theorem abw{va vb:Value}{xs ys:List bM}(hal:xs.length<9223372036854775808)(hl:∀r∈xs,r.names.length<9223372036854775808/\r.others.length<9223372036854775808):bY Tryz.prog 163 [va,vb,.func (.func 158) #[] #[]] [ah aW va xs,ah aW vb ys] (.bool (decide (xs=ys))):=by
 refine aG _ (aM 163) λB w0=>?_;refine go ?_;refine az rfl (λh1=>?_) (λh1=>?_)
 ·refine go ?_;refine aa () (hv:=?_) (hp:=trivial);rw[aR (λe=>h1 (by rw[e]))];rfl
 have hlen:xs.length=ys.length:=by omega
 refine go ?_;refine aX (λk=>xs.length - k) (λk:Nat=>[(17,.int .i64 (k:Int))]) (λ_=>[]) (λ_=>[]) (λk=>k<=xs.length/\∀j,j<k->xs[j]? =ys[j]?) 0 ⟨by omega,λj hj=>by omega⟩ (body:=?_);rintro k ⟨hkx,hsame⟩;refine go ?_;refine az rfl (λh2=>?_) (λh2=>?_)
 ·refine go ?_;refine aY aW (next:=λ_ _ x (vx:Value×Value) hx=>?_);refine go ?_;intro b8;refine go ?_;refine aY aW (next:=λ_ _ y (vy:Value×Value) hy=>?_);refine go ?_;intro b9;refine go ?_;refine ak (abu (x:=x) (y:=y) (v1:=vx.1) (v2:=vx.2) (u1:=vy.1) (u2:=vy.2) (hl x (bJ hx)).1 (hl x (bJ hx)).2) (next:=λ_ _=>?_);refine go ?_;refine ed rfl (λh3=>?_) (λh3=>?_)
  ·refine go ?_;refine aa () (hv:=?_) (hp:=trivial);rw[aR (λe=>h3 (by rw[e,hy]at hx;cases hx;rfl))];rfl
  refine go ?_;refine aO (k+1) (by omega) ⟨by omega,λj hj=>?_⟩;by_cases e:j=k
  ·subst e;rw[hx,hy,h3]
  ·exact hsame j (by omega)
 refine go ?_;refine aa () (hv:=?_) (hp:=trivial);have:xs=ys:=by
  apply jw;intro j;by_cases hj:j<k
  ·exact hsame j hj
  ·rw[gL (by omega),gL (by omega)]
 rw[eB this];rfl
theorem RN{x y:bq}{h1 s1 r1 c1 u1 h2 s2 r2 c2 u2:Value}(hS:lC x):bY Tryz.prog 105 [.agg ⟨fO x h1 s1 r1 c1 u1⟩,.agg ⟨fO y h2 s2 r2 c2 u2⟩] (j6 x h1 s1 r1 c1 u1++j6 y h2 s2 r2 c2 u2) (.bool (decide (x=y))):=by
 have e1:=hS.dU;have e2:=hS.regs;have e3:=hS.ja;have e4:=hS.ko;have e5:=hS.qc;have e6:=hS.holes;have e7:=hS.qd;clear hS;obtain⟨n1,v1,p1,w1,g1,ho1,lD,kP,lF,kQ⟩:=x;obtain⟨n2,v2,p2,w2,g2,ho2,oQ,nV,oU,nW⟩:=y;dsimp only at e1 e2 e3 e4 e5 e6 e7;dsimp only[fO,j6,List.cons_append,List.nil_append];refine aG _ (aM 105) λB w0=>?_;refine go ?_;intro b2 b3;refine go ?_;first|with_reducible refine aL (λk1=>?_) (λk1=>?_)|with_reducible refine aK (λk1=>?_) (λk1=>?_)|with_reducible refine aI (λk1=>?_) (λk1=>?_)
 ·rw[dQ]at k1;refine go ?_;refine aa () (hv:=?_) (hp:=trivial);rw[aR (λe=>lY k1 (by cases e;rfl))];rfl
 rw[dQ]at k1;have k1:=iB k1;refine go ?_;first|with_reducible refine aL (λk2=>?_) (λk2=>?_)|with_reducible refine aK (λk2=>?_) (λk2=>?_)|with_reducible refine aI (λk2=>?_) (λk2=>?_)
 ·refine go ?_;refine aa () (hv:=?_) (hp:=trivial);rw[aR (λe=>k2 (by cases e;rfl))];rfl
 refine go ?_;first|with_reducible refine aL (λk3=>?_) (λk3=>?_)|with_reducible refine aK (λk3=>?_) (λk3=>?_)|with_reducible refine aI (λk3=>?_) (λk3=>?_)
 ·refine go ?_;refine aa () (hv:=?_) (hp:=trivial);rw[aR (λe=>k3 (by cases e;rfl))];rfl
 refine go ?_;first|with_reducible refine aL (λk4=>?_) (λk4=>?_)|with_reducible refine aK (λk4=>?_) (λk4=>?_)|with_reducible refine aI (λk4=>?_) (λk4=>?_)
 ·refine go ?_;refine aa () (hv:=?_) (hp:=trivial);rw[aR (λe=>k4 (by cases e;rfl))];rfl
 refine go ?_;first|with_reducible refine aL (λk5=>?_) (λk5=>?_)|with_reducible refine aK (λk5=>?_) (λk5=>?_)|with_reducible refine aI (λk5=>?_) (λk5=>?_)
 ·refine go ?_;refine aa () (hv:=?_) (hp:=trivial);rw[aR (λe=>k5 (by cases e;rfl))];rfl
 refine go ?_;refine ak (y5 (xs:=ho1) (ys:=ho2) e6) (next:=λ_ _=>?_);refine go ?_;first|with_reducible refine aL (λk6=>?_) (λk6=>?_)|with_reducible refine aK (λk6=>?_) (λk6=>?_)|with_reducible refine aI (λk6=>?_) (λk6=>?_)
 ·refine go ?_;refine aa () (hv:=?_) (hp:=trivial);rw[aR (λe=>k6 (by cases e;rfl))];rfl
 refine go ?_;refine ak (abq (xs:=lD) (ys:=oQ) (by omega)) (next:=λ_ _=>?_);refine go ?_;first|with_reducible refine aL (λk7=>?_) (λk7=>?_)|with_reducible refine aK (λk7=>?_) (λk7=>?_)|with_reducible refine aI (λk7=>?_) (λk7=>?_)
 ·refine go ?_;refine aa () (hv:=?_) (hp:=trivial);rw[aR (λe=>k7 (by cases e;rfl))];rfl
 refine go ?_;refine ak (abv (xs:=kP) (ys:=nV) (by omega) e7) (next:=λ_ _=>?_);refine go ?_;first|with_reducible refine aL (λk8=>?_) (λk8=>?_)|with_reducible refine aK (λk8=>?_) (λk8=>?_)|with_reducible refine aI (λk8=>?_) (λk8=>?_)
 ·refine go ?_;refine aa () (hv:=?_) (hp:=trivial);rw[aR (λe=>k8 (by cases e;rfl))];rfl
 refine go ?_;refine ak (abr (xs:=lF) (ys:=oU) (by omega)) (next:=λ_ _=>?_);refine go ?_;first|with_reducible refine aL (λk9=>?_) (λk9=>?_)|with_reducible refine aK (λk9=>?_) (λk9=>?_)|with_reducible refine aI (λk9=>?_) (λk9=>?_)
 ·refine go ?_;refine aa () (hv:=?_) (hp:=trivial);rw[aR (λe=>k9 (by cases e;rfl))];rfl
 refine go ?_;refine ak (abw (xs:=kQ) (ys:=nW) (by omega) e5) (next:=λ_ _=>?_);refine go ?_;refine aa () (hv:=?_) (hp:=trivial);rw[show decide (bq.mk n1 v1 p1 w1 g1 ho1 lD kP lF kQ=bq.mk n2 v2 p2 w2 g2 ho2 oQ nV oU nW)=decide (kQ=nW)from mG.2 ⟨λh=>by cases h;rfl,λh=>by rw[k1,k2,k3,k4,k5,k6,k7,k8,k9,h]⟩];rfl
end Go.Proofs.YtoohgkkmdnbnfaaGreatDoor
namespace Go.Proofs.YtoohgkkmdnbnfaaGreatDoor
open Go.Ideal
noncomputable def K3:=rR Tryz.prog 232
theorem RO:kz Tryz.prog 232=some K3:=by kernel_rfl
theorem srt:J4 Tryz.prog 232:=λblk off cap zs w h1 h2 h3=>Any.slices_Sort_int Tryz.lays189 blk off cap zs w h1 h2 h3
end Go.Proofs.YtoohgkkmdnbnfaaGreatDoor
namespace Go.Proofs.YtoohgkkmdnbnfaaGreatDoor
open Go.Ideal Kd
noncomputable def K4:=rR Tryz.prog 228
theorem RP:kz Tryz.prog 228=some K4:=by kernel_rfl
noncomputable def K5:=rR Tryz.prog 152
theorem aby:kz Tryz.prog 152=some K5:=by kernel_rfl
theorem abz{x:Int}:bY Tryz.prog 108 [.int .i64 x] [] (.bool false):=by
 refine aG _ (aM 108) λB w0=>?_;refine go ?_;refine aa () (hv:=?_) (hp:=trivial);rw[aR (λh=>h rfl)];rfl
theorem abA{x:Int}:bY Tryz.prog 262 [.int .i64 x] [] (.bool false):=by
 refine aG _ (aM 262) λB w0=>?_;refine go ?_;refine aa () (hv:=?_) (hp:=trivial);rw[aR (λh=>h rfl)];rfl
theorem abB{x y:Int}:bY Tryz.prog 261 [.int .i64 x,.int .i64 y] [] (.bool (decide (x<y))):=by
 refine aG _ (aM 261) λB w0=>?_;refine go ?_;refine ak (abz (x:=x)) (next:=λ_ _=>?_);refine go ?_;exact aa () (hv:=rfl) (hp:=trivial)
def K6(xs:List Int)(z:Int)(y:Nat×Bool):Prop:=y.1<=xs.length/\(∀(j:Nat) x,j<y.1->xs[j]? =some x->x<z)/\(∀(j:Nat) x,y.1<=j->xs[j]? =some x->z<=x)/\(y.2=true↔xs[y.1]? =some z)
theorem K6.mem{xs:List Int}{z:Int}{y:Nat×Bool}(h:K6 xs z y)(hs:xs.Pairwise (·<·)):y.2=true↔z∈xs:=by
 obtain⟨h1,h2,h3,h4⟩:=h;rw[h4];refine⟨λh=>bJ h,λh=>?_⟩;obtain⟨j,hj⟩:=sQ.1 h;have hjl:=(bT.1 hj)
 rcases Nat.lt_trichotomy j y.1 with h5|h5|h5
 ·have:=h2 j z h5 hj;omega
 ·rw[<- h5];exact hj
 ·have hyl:y.1<xs.length:=by have:=hjl.1;omega
  have hy:xs[y.1]? =some xs[y.1]:=cK hyl;have h6:=h3 y.1 _ (bI _) hy;have h7:=Bq.1 hs y.1 j hyl hjl.1 h5;rw[hjl.2]at h7;omega
theorem RQ{v:Value}{xs:List Int}{z:Int}(hl:xs.length<4611686018427387904)(hs:xs.Pairwise (·<=·)):
 aZ Tryz.prog (.func 229) [v,.int .i64 z] [] [] [ah ae v xs] (λy:Nat×Bool=>.tuple ⟨[.int .i64 (y.1:Int),.bool y.2]⟩) (λ_=>[]) (λ_=>[]) (K6 xs z):=by
 refine aG _ (aM 229) λB w0=>?_;refine go ?_;refine aX (λy:Nat×Nat=>y.2 - y.1) (λy=>[(7,.int .i64 (y.1:Int)),(8,.int .i64 (y.2:Int))]) (λ_=>[]) (λ_=>[]) (λy=>y.1<=y.2/\y.2<=xs.length/\(∀(j:Nat) x,j<y.1->xs[j]? =some x->x<z)/\(∀(j:Nat) x,y.2<=j->xs[j]? =some x->z<=x)) (0,xs.length) ⟨bX _,bI _,λj x hj=>by omega,λj x hj hx=>by have:=(bT.1 hx).1;omega⟩ (body:=?_);rintro⟨a,b⟩ ⟨hab,hb,hlo,hhi⟩;dsimp only at hab hb hlo hhi⊢;refine go ?_;refine az rfl (λh1=>?_) (λh1=>?_)
 ·have Ja:a<=(a+b)>>>1/\(a+b)>>>1<b:=by
   rw[Nat.shiftRight_eq_div_pow];omega
  generalize hm:(a+b)>>>1=m at Ja;refine go ?_;rw[show(a:Int)+(b:Int)=((a+b:Nat):Int)by omega];refine(fq rfl rfl (Ka (k:=.u64) (m:=((a+b:Nat):Int)) (by kernel_rfl:Tryz.prog.underlying 3=some (.int .i64)) (by kernel_rfl) rfl (Zy (by omega)))).h ?_;refine(fq rfl rfl (Zz (a:=a+b) (b:=1) rfl rfl (by omega))).h ?_;rw[hm];refine(fq rfl rfl (Ka (k:=.i64) (m:=(m:Int)) (by kernel_rfl:Tryz.prog.underlying 63=some (.int .u64)) (by kernel_rfl) rfl (wrapN (by omega)))).h ?_;refine go ?_;intro _ _ x hx;refine go ?_;refine ak (abB (x:=x) (y:=z)) (next:=λ_ _=>?_);refine go ?_;have hle:∀(i j:Nat) u v,i<=j->xs[i]? =some u->xs[j]? =some v->u<=v:=by
   intro i j u v hij hu hv;by_cases e:i=j
   ·subst e;rw[hu]at hv;injection hv with hv;omega
   ·exact Bq.1 hs i j (bT.1 hu).1 (bT.1 hv).1 (by omega)|>λh=>by
     rw[(bT.1 hu).2,(bT.1 hv).2]at h;exact h
  refine az rfl (λh2=>?_) (λh2=>?_)
  ·refine go ?_;refine aO (m+1,b) (by show b - (m+1)<b - a;omega) ⟨by show m+1<=b;omega,hb,λj u hj hu=>?_,hhi⟩;have:=hle j m u x (by show j<=m;have:j<m+1:=hj;omega) hu hx;omega
  ·refine go ?_;refine aO (a,m) (by show m - a<b - a;omega) ⟨by show a<=m;omega,by show m<=_;omega,hlo,λj u hj hu=>?_⟩;have:=hle m j x u hj hx hu;omega
 have hba:b=a:=by omega
 subst hba;refine go ?_;first|with_reducible refine aL (λh2=>?_) (λh2=>?_)|with_reducible refine aK (λh2=>?_) (λh2=>?_)|with_reducible refine aI (λh2=>?_) (λh2=>?_)
 ·have hn:xs[b]? =none:=gL (by omega);refine go ?_;exact aa (b,false) (hv:=rfl) (hp:=⟨by show b<=_;omega,hlo,hhi,by show false=true↔xs[b]? =some z;rw[hn];simp⟩)
 refine go ?_;intro _ _ x hx;refine go ?_;by_cases hxz:x=z
 ·subst hxz;rw[eB rfl];refine go ?_;exact aa (b,true) (hv:=rfl) (hp:=⟨by show b<=_;omega,hlo,hhi,by show true=true↔xs[b]? =some x;simp[hx]⟩)
 ·rw[aR hxz];refine go ?_;intro _ _ x2 hx2;refine go ?_;refine ak (abA (x:=x2)) (next:=λ_ _=>?_);refine go ?_;exact aa (b,false) (hv:=rfl) (hp:=⟨by show b<=_;omega,hlo,hhi,by show false=true↔xs[b]? =some z;rw[hx];simp[hxz]⟩)
theorem RU{v:Value}{ax:List (Int×ae.Y)}(hl:ax.length<=4096):aZ Tryz.prog (.func 228) [v] [] [] [nR ae v ax] (λv':Value=>v') (λv'=>[ar ae v' ax]) (λ_=>[]) (λ_=>True):=by
 refine aG K4 RP λB w0=>?_;refine KS (v:=v) (ax:=ax) ae (λe c ev=>?_) (λe i o f c ev=>?_) (λhne i o f c ev=>?_)
 ·subst e ev;refine go ?_;refine(fq rfl rfl (F3 (e:=3) (by kernel_rfl) rfl)).h ?_;refine go ?_;refine KT ae ?_;exact aa (.slice none 0 0) (hv:=rfl) (hp:=trivial)
 ·subst e ev;refine go ?_;refine(fq rfl rfl (Au (e:=3) (by kernel_rfl) rfl)).h ?_;refine go ?_;intro b;refine go ?_;refine J7 (b:=b) ?_;refine go ?_;refine qU (b:=b) (m:=0) (f:=0) ae (ax:=[]) rfl (.inl rfl) ?_ (hk:=ay.here);exact aa (.slice (some ⟨b,0,some 0⟩) 0 0) (hv:=rfl) (hp:=trivial)
 ·subst ev;refine go ?_;refine(fq rfl rfl (Au (e:=3) (by kernel_rfl) rfl)).h ?_;refine go ?_;intro b;refine go ?_;refine J8 (b:=b) ae ax hne (by omega) (λb'=>?_);refine go ?_;refine qU (b:=b') (m:=ax.length) (f:=ae.n) ae (ax:=ax) rfl (.inr rfl) ?_ (hk:=ay.here);exact aa (.slice (some ⟨b',0,some ae.n⟩) ax.length ax.length) (hv:=rfl) (hp:=trivial)
abbrev D6:List Value:=[.int .i64 0,.int .i64 0,.int .i64 0,.slice none 0 0,.slice none 0 0]
abbrev iw(g:bz)(vh vc:Value):List Value:=[.int .i64 g.shape,.int .i64 g.w,.int .i64 g.h,vh,vc]
abbrev iV(g:bz)(vh vc:Value):List aJ:=[ah ae vh g.holes,ah ae vc g.cells]
structure K7 where
 ok:Bool
 vh:Value
 vc:Value
def tT(s w h:Int)(holes:List Int):bz:=⟨s,w,h,holes,lm w h holes⟩
abbrev mkV(s w h:Int)(holes:List Int)(y:K7):Value:=.tuple ⟨[.agg ⟨cond y.ok (iw (tT s w h holes) y.vh y.vc) D6⟩,.int .i64 (cond y.ok 0 130)]⟩
abbrev nJ(s w h:Int)(holes:List Int)(y:K7):List aJ:=cond y.ok (iV (tT s w h holes) y.vh y.vc) []
def vE(xs:List Int):Int:=xs.getLast?.getD (-1)
theorem RV(xs:List Int)(x:Int):vE (xs++[x])=x:=by simp[vE]
theorem abC{xs:List Int}(h:∀x∈xs,0<=x): -1<=vE xs:=by
 unfold vE;cases hx:xs.getLast? with
 |none=>simp
 |some x=>
  have:=h x (List.mem_of_getLast? hx);simp only[vR];omega
theorem RX{xs:List Int}(h:xs.Pairwise (·<·)){a:Int}(ha:a∈xs):a<=vE xs:=by
 unfold vE;cases hx:xs.getLast? with
 |none=>rw[List.getLast?_eq_none_iff]at hx;subst hx;cases ha
 |some x=>
  obtain⟨ys,rfl⟩:=List.getLast?_eq_some_iff.1 hx;simp only[vR];rcases dZ.1 ha with h1|h1
  ·have:=(Hy.1 h).2.2 a h1 x (bG.2 rfl);omega
  ·rw[bG.1 h1];exact Int.le_refl _
theorem abD{xs:List Int}{k:Nat}{x:Int}(h:xs.Pairwise (·<·))(hx:xs[k]? =some x)(h0:0<=x):vE (xs.take k)<x:=by
 unfold vE;cases hl:(xs.take k).getLast? with
 |none=>simp only[Option.getD_none];omega
 |some y=>
  simp only[vR];have hy:=List.mem_of_getLast? hl;have hd:xs=xs.take k++x::xs.drop (k+1):=by
   conv=>lhs;rw[<- uh k xs]
   rw[pz (bT.1 hx).1,(bT.1 hx).2]
  rw[hd]at h;exact(Hy.1 h).2.2 y hy x (dx ..)
theorem K8{s w h:Int}{holes:List Int}{vh:Value}(hw64:jK w)(abE:jK h)(hl:holes.length<4611686018427387904):
 aZ Tryz.prog (.func 152) [.int .i64 s,.int .i64 w,.int .i64 h,vh] [] [] [ah ae vh holes] (mkV s w h holes) (λ_=>[]) (nJ s w h holes) (λy=>y.ok=true↔mU s w h holes):=by
 have bad:¬mU s w h holes->∀{B:List Nat} {w0:Wd} {kl:List OA} {F:List aJ} {l:List (Nat×Value)} {n b:Nat} {bA:List OA},lk l 8=ptr' b->lk l 9=.int .i64 130->ay (pt b (.cells D6)) kl bA->
  R (λh0=>zY K5 (Go.Ideal.Left B w0 (mkV s w h holes) (λ_=>[]) (nJ s w h holes) (λy=>y.ok=true↔mU s w h holes)) .ret (act n l [] none none) h0) B w0 kl F:=by
  intro hno B w0 kl F l n b bA h8 h9 hk;refine O6 (bA:=kl) ⟨false,.nilFunc,.nilFunc⟩ (vs:=[.agg ⟨D6⟩,.int .i64 130]) ?_ rfl ⟨(λe=>by cases e),λe=>absurd e hno⟩ .nil .nil (.inr rfl);show RS l kl [.oG 5 8,.tmp 9] _;exact .oG h8 hk rfl (.tmp h9 .nil)
 refine aG K5 aby λB w0=>?_;refine go ?_;intro b8;refine go ?_;by_cases hsh:s=1\/s=2
 rotate_left
 ·rw[eB (show s≠1 from λe=>hsh (.inl e))];refine go ?_;rw[eB (show s≠2 from λe=>hsh (.inr e))];refine go ?_;exact bad (λh=>hsh h.sh) rfl rfl .here
 have hmk:∀sh,(sh=1\/sh=2)->(mU sh w h holes↔mU s w h holes):=λsh e=>⟨λq=>⟨hsh,q.wi,q.he,q.len,q.inc,q.mem⟩,λq=>⟨e,q.wi,q.he,q.len,q.inc,q.mem⟩⟩
 have h22:∀{B:List Nat} {w0:Wd} {kl:List OA} {F:List aJ} {K:KO} {ds:List Tmp} {rest:List bO} {n:Nat} {l:List (Nat×Value)} {D:List Deferred},
  R (λh0=>aD Tryz.prog ds rest (act n ((22,.bool false)::(21,.bool false)::l) D none none) h0 K) B w0 kl F->R (λh0=>aD Tryz.prog ds rest (act n ((22,.bool false)::(21,.bool false)::l) D none none) h0 K) B w0 kl F:=λh=>h
 rcases hsh with rfl|rfl;all_goals
  refine go ?_;first|with_reducible refine aL (λa1=>?_) (λa1=>?_)|with_reducible refine aK (λa1=>?_) (λa1=>?_)|with_reducible refine aI (λa1=>?_) (λa1=>?_)
  rotate_left
  ·refine go ?_;exact bad (λq=>by have:=q.wi;omega) rfl rfl .here
  refine go ?_;first|with_reducible refine aL (λa2=>?_) (λa2=>?_)|with_reducible refine aK (λa2=>?_) (λa2=>?_)|with_reducible refine aI (λa2=>?_) (λa2=>?_)
  rotate_left
  ·refine go ?_;exact bad (λq=>by have:=q.wi;omega) rfl rfl .here
  refine go ?_;first|with_reducible refine aL (λa3=>?_) (λa3=>?_)|with_reducible refine aK (λa3=>?_) (λa3=>?_)|with_reducible refine aI (λa3=>?_) (λa3=>?_)
  rotate_left
  ·refine go ?_;exact bad (λq=>by have:=q.he;omega) rfl rfl .here
  refine go ?_;first|with_reducible refine aL (λa4=>?_) (λa4=>?_)|with_reducible refine aK (λa4=>?_) (λa4=>?_)|with_reducible refine aI (λa4=>?_) (λa4=>?_)
  rotate_left
  ·refine go ?_;exact bad (λq=>by have:=q.he;omega) rfl rfl .here
  have hwh:=uZ (w:=w) (h:=h) ⟨by omega,by omega⟩ ⟨by omega,by omega⟩;refine go ?_;refine az rfl (λa5=>?_) (λa5=>?_)
  ·refine go ?_;exact bad (λq=>by have:=q.len;omega) rfl rfl .here
  refine go ?_;refine aX (λk=>holes.length - k) (λk:Nat=>[(49,.int .i64 (k:Int)),(10,.int .i64 (vE (holes.take k)))]) (λ_=>[]) (λ_=>[]) (λk=>k<=holes.length/\(holes.take k).Pairwise (·<·)/\∀x∈holes.take k,0<=x/\x<w*h) 0 ⟨bX _,by simp,by simp⟩ (body:=?_);rintro k ⟨hk,lu,hmem⟩;refine go ?_;refine az rfl (λa6=>?_) (λa6=>?_)
  ·refine go ?_;intro _ _ x hx;refine go ?_;have hxm:=bJ hx;first|with_reducible refine aL (λa7=>?_) (λa7=>?_)|with_reducible refine aK (λa7=>?_) (λa7=>?_)|with_reducible refine aI (λa7=>?_) (λa7=>?_)
   rotate_left
   ·refine go ?_;exact bad (λq=>by
     have h1:=q.inc;have h2:=q.mem x hxm;have:=abD h1 hx h2.1;omega) rfl rfl .here
   refine go ?_;refine az rfl (λa8=>?_) (λa8=>?_)
   ·refine go ?_;exact bad (λq=>by have:=q.mem x hxm;omega) rfl rfl .here
   refine go ?_;have htk:holes.take (k+1)=holes.take k++[x]:=by rw[lJ,hx];rfl
   refine aO (k+1) (by omega) ⟨by omega,?_,?_⟩ (hl:=⟨rfl,by rw[htk,RV];rfl,by repeat (first|exact trivial|refine⟨rfl,?_⟩)⟩)
   ·rw[htk,Hy];refine⟨lu,by simp,λa ha b hb=>?_⟩;rw[bG.1 hb];have:=RX lu ha;omega
   ·rw[htk];intro z hz;rcases dZ.1 hz with hz|hz
    ·exact hmem z hz
    ·rw[bG.1 hz];have:=abC (λy hy=>(hmem y hy).1);omega
  have hkl:k=holes.length:=by omega
  subst hkl;rw[bK]at lu hmem;have hok:∀s',(s'=1\/s'=2)->mU s' w h holes:=λs' hs'=>⟨hs',⟨by omega,by omega⟩,⟨by omega,by omega⟩,by omega,lu,hmem⟩
  obtain⟨m,hm⟩:=qy (show 0<=w*h by omega);have D7:lm w h holes=fQ m holes:=by
   unfold lm;rw[hm];rfl
  refine go ?_;refine yQ ae vh (λxh hxh=>?_);have hxl:xh.length=holes.length:=by rw[<- hxh,di]
  refine ak (RU (ax:=xh) (by omega)) (next:=λv1 _=>?_);refine DL (E:=ae) (v:=v1) (ax:=xh) ?_ (λw h p hp f hf=>by cases hf);rw[hxh];refine aT (E:=ae) (v:=v1) (xs:=holes) (by simp) λa1 c1 e1=>?_;subst e1;refine go ?_;rw[hm];refine gq ae ?_;refine aX (λy:Nat×Option Addr=>m - y.1) (λy=>[(75,.int .i64 (y.1:Int))]) (λy=>[pt b8 (.cells [.int .i64 _,.int .i64 w,.int .i64 h,.slice a1 holes.length c1,.slice y.2 (fQ y.1 holes).length (fQ y.1 holes).length]),ap ae (.slice y.2 (fQ y.1 holes).length (fQ y.1 holes).length) (fQ y.1 holes)]) (λ_=>[]) (λy=>y.1<=m) (0,none) (bX _) (hk:=by repeat (first|exact aH.nil|(apply aH.cons;(focus (repeat (first|exact ay.here|apply ay.there)))))) (body:=?_);rintro⟨k,ad⟩ hk;dsimp only at hk⊢;have hcl:=AL k holes;refine go ?_;refine az rfl (λa9=>?_) (λa9=>?_)
  ·refine go ?_;refine ak (RQ (xs:=holes) (z:=(k:Int)) hl (lu.imp (λh=>Int.le_of_lt h))) (next:=λy hy=>?_);have hmm:=hy.mem lu;clear hy;obtain⟨n,b⟩:=y;dsimp only at hmm;refine go ?_;cases b with
   |true=>
    refine go ?_;have e1:fQ (k+1) holes=fQ k holes:=by rw[Gh,if_pos (hmm.1 rfl),gD]
    rw[<- e1];exact aO (k+1,ad) (by show m - (k+1)<m - k;omega) (by show k+1<=m;omega)
   |false=>
    have hnm:¬(k:Int)∈holes:=λh=>by have:=hmm.2 h;cases this
    have e1:fQ k holes++[(k:Int)]=fQ (k+1) holes:=by rw[Gh,if_neg hnm]
    have e2:(fQ k holes).length+1=(fQ (k+1) holes).length:=by rw[<- e1];simp
    refine go ?_;intro b89;refine go ?_;refine fe ae (xs:=fQ k holes) (k:Int) () (by omega) λad'=>?_;rw[e1,e2];refine go ?_;exact aO (k+1,ad') (by show m - (k+1)<m - k;omega) (by show k+1<=m;omega)
  have hkm:k=m:=by omega
  subst hkm;refine go ?_;refine bB gp (A:=ap ae (.slice ad (fQ k holes).length (fQ k holes).length) (fQ k holes)) (h:=?_);refine go ?_;refine aa ⟨true,.slice a1 holes.length c1,.slice ad (fQ k holes).length (fQ k holes).length⟩ (hv:=rfl) (hp:=⟨λ_=>hok _ (by first|exact .inl rfl|exact .inr rfl),λ_=>rfl⟩) (hF:=?_);show Sub [ah ae _ holes,ah ae _ (lm w h holes)] _;rw[D7];exact .cons (by simp) (.cons (by simp) .nil)
end Go.Proofs.YtoohgkkmdnbnfaaGreatDoor
namespace Go.Proofs.YtoohgkkmdnbnfaaGreatDoor
open Go.Ideal Kd
structure oV(g:bz):Prop where
 w:jK g.w
 h:jK g.h
 holes:g.holes.length<4611686018427387904
 cells:g.cells.length<4611686018427387904
theorem RY{g:bz}{vh vc:Value}(hS:oV g):
 aZ Tryz.prog (.func 230) [.agg ⟨iw g vh vc⟩] [] [] (iV g vh vc) (λe:Int=>.int .i64 e) (λ_=>[]) (λ_=>[]) (λe=>e=0↔fV g):=by
 refine aG _ (aM 230) λB w0=>?_;refine go ?_;intro b1;refine go ?_;refine ak (K8 (s:=g.shape) (w:=g.w) (h:=g.h) (holes:=g.holes) (vh:=vh) hS.w hS.h hS.holes) (next:=λy hy=>?_);obtain⟨ok,v1,v2⟩:=y;cases ok with
 |false=>
  have hno:¬mU g.shape g.w g.h g.holes:=λh=>by have:=hy.2 h;cases this
  dsimp only[mkV,nJ,cond,List.nil_append];refine go ?_;intro b3;refine go ?_;exact aa 130 (hv:=rfl) (hp:=⟨(λh=>by cases h),λh=>absurd h.make hno⟩)
 |true=>
  have hmk:=hy.1 rfl;dsimp only[mkV,nJ,cond,iV,tT,List.cons_append,List.nil_append];refine go ?_;intro b3;refine go ?_;refine ak (y5 (xs:=lm g.w g.h g.holes) (ys:=g.cells) (by
   have:=AL (g.w*g.h).toNat g.holes;have:=uZ hmk.wi hmk.he;unfold lm;omega)) (next:=λ_ _=>?_)
  refine go ?_;refine ed rfl (λh1=>?_) (λh1=>?_)
  ·refine go ?_;exact aa 130 (hv:=rfl) (hp:=⟨(λh=>by cases h),λh=>absurd h.cells.symm h1⟩)
  ·refine go ?_;exact aa 0 (hv:=rfl) (hp:=⟨λ_=>⟨hmk,h1.symm⟩,λ_=>rfl⟩)
abbrev abH(x:Int×(Int×Int)):List Value:=[.int .i64 x.1,yR x.2]
theorem K9{b1:Nat}{g:bz}{vh vc:Value}(hg:fV g):qR Tryz.prog abH (.func 263) [] [ptr' b1] [gH b1 0 (iw g vh vc),ah ae vc g.cells] (λxs=>xs=bn g):=by
 intro S inv ok step s0 Ar y1 y2 F' h0 hok hy;have hgl:=hg.len;have D8:=hg.make.wi;rw[eU,eU,dH];refine aG _ (aM 263) λB w0=>?_;refine go ?_;refine aX (λy:Nat×S=>g.cells.length - y.1) (λy=>[(10,.int .i64 (y.1:Int))]) (λy=>inv y.2) (λ_=>[]) (λy=>y.1<=g.cells.length/\ok ((bn g).take y.1) y.2/\jr step y.2 ((bn g).drop y.1)=jr step s0 (bn g)) (0,s0) ⟨bX _,h0,rfl⟩ (body:=?_);rintro⟨k,s⟩ ⟨hk,hos,hrun⟩;dsimp only at hk hos hrun⊢;refine go ?_;refine az rfl (λh1=>?_) (λh1=>?_)
 ·refine go ?_;intro _ _ x hx;have hxb:=hg.cell x (bJ hx);have hsp:=wV hx;have hd:(bn g).drop k=((k:Int),lV g x)::(bn g).drop (k+1):=by
   rw[pz (by rw[oP];omega)];congr 1;rw[cK (by rw[oP];omega)]at hsp;exact Option.some.inj hsp
  have hX:(bn g).take k++((k:Int),lV g x)::(bn g).drop (k+1)=bn g:=by rw[<- hd,uh]
  refine go ?_;refine(fq rfl rfl (JM (a:=x) (b:=g.w) rfl rfl (by omega))).h ?_;refine go ?_;have hq:0<=x.tdiv g.w/\x.tdiv g.w<=x:=by
   rw[rJ hxb.1];exact⟨Hw hxb.1 (by omega),Int.ediv_le_self _ hxb.1⟩
  have hr:0<=x.tmod g.w/\x.tmod g.w<=x:=by
   rw[Bp hxb.1];refine⟨Int.emod_nonneg _ (by omega),?_⟩;have:=MF x g.w;have h3:0<=g.w*(x/g.w):=Int.mul_nonneg (by omega) (Hw hxb.1 (by omega));omega
  refine(fq rfl rfl (FK (a:=x) (b:=g.w) rfl rfl (by omega) (by omega) (by omega))).h ?_;refine go ?_;refine az rfl (λh2=>?_) (λh2=>?_)
  ·have hso:lV g x=(x.tmod g.w - (x.tdiv g.w).tdiv 2,x.tdiv g.w):=by unfold lV;rw[if_pos h2]
   have hq2:0<=(x.tdiv g.w).tdiv 2/\(x.tdiv g.w).tdiv 2<=x.tdiv g.w:=by
    rw[rJ hq.1];omega
   rw[hso]at hX hd;have vF:=hy _ s _ _ hos hX;refine go ?_;refine(fq rfl rfl (FK (a:=x.tdiv g.w) (b:=2) rfl rfl (by omega) (by omega) (by omega))).h ?_;refine go ?_;refine ak vF (next:=λ_ _=>?_);rw[hd,jr]at hrun;refine go ?_;cases hst:step s ((k:Int),_)with
   |mk s' b=>
    have hst:=hst;rw[hst]at hrun;cases b with
    |true=>
     refine go ?_;refine aO (k+1,s') (by show g.cells.length - (k+1)<g.cells.length - k;omega) ⟨by show k+1<=_;omega,?_,hrun⟩;have:=hok _ s _ _ hos hX (by rw[hst]);rw[hst]at this;rw[show(bn g).take (k+1)=(bn g).take k++[_]from by rw[lJ,hsp];rfl];rw[hso];exact this
    |false=>
     refine go ?_;exact aa (bn g) (hv:=rfl) (hp:=rfl) (hk:=by rw[<- hrun];exact aH.all _)
  ·have hso:lV g x=(x.tmod g.w,x.tdiv g.w):=by unfold lV;rw[if_neg h2]
   rw[hso]at hX hd;have vF:=hy _ s _ _ hos hX;refine go ?_;refine ak vF (next:=λ_ _=>?_);rw[hd,jr]at hrun;refine go ?_;cases hst:step s ((k:Int),_)with
   |mk s' b=>
    have hst:=hst;rw[hst]at hrun;cases b with
    |true=>
     refine go ?_;refine aO (k+1,s') (by show g.cells.length - (k+1)<g.cells.length - k;omega) ⟨by show k+1<=_;omega,?_,hrun⟩;have:=hok _ s _ _ hos hX (by rw[hst]);rw[hst]at this;rw[show(bn g).take (k+1)=(bn g).take k++[_]from by rw[lJ,hsp];rfl];rw[hso];exact this
    |false=>
     refine go ?_;exact aa (bn g) (hv:=rfl) (hp:=rfl) (hk:=by rw[<- hrun];exact aH.all _)
 have hkl:k=(bn g).length:=by rw[oP];omega
 rw[hkl,List.drop_length]at hrun;refine go ?_;exact aa (bn g) (hv:=rfl) (hp:=rfl) (hk:=by rw[<- hrun];exact aH.all _)
end Go.Proofs.YtoohgkkmdnbnfaaGreatDoor
namespace Go.Proofs.YtoohgkkmdnbnfaaGreatDoor
open Go.Ideal Kd
theorem La:uM (mJ Tryz.prog oI oJ):=wF _ _ _ (λf q h v h' hm=>by cases hm)
theorem abI(h:IH)(K:BR):(xZ (mJ Tryz.prog oI oJ) 1000).call ⟨.func 73,[.int .u64 0],[],none⟩ h K=K (.ok (.int .i64 0)) none h:=by kernel_rfl
theorem abJ:bY Tryz.prog 73 [.int .u64 0] [] (.int .i64 0):=λB w s=>by
 have h2:=abI w.h λr pm h'=> @decide (pm=none/\r=.ok (.int .i64 0)/\h'=w.h) (Classical.propDecidable _);have h1:=Cy La (h2.trans (@eB _ (Classical.propDecidable _) ⟨rfl,rfl,rfl⟩));refine .qL _ h1 λr pm h' hg=>?_;obtain⟨rfl,rfl,rfl⟩:= @iB _ (Classical.propDecidable _) hg;exact⟨rfl,w,(),rfl,s,rfl,trivial⟩
theorem abK{a:Option Addr}{c:Nat}:bY Tryz.prog 293 [.slice a 0 c,.int .i64 0,.int .i64 0] [] (.tuple ⟨[]⟩):=by
 refine aG _ (aM 293) λB w0=>?_;refine go ?_;refine jT ?_;refine go ?_;exact aa () (hv:=rfl) (hp:=trivial)
theorem abL{a:Option Addr}{c:Nat}:bY Tryz.prog 264 [.slice a 0 c,.int .i64 0,.int .i64 0,.int .i64 0] [] (.tuple ⟨[]⟩):=by
 refine aG _ (aM 264) λB w0=>?_;refine go ?_;refine jT ?_;refine go ?_;refine ak (abK (a:=a) (c:=c)) (next:=λ_ _=>?_);refine go ?_;exact aa () (hv:=rfl) (hp:=trivial)
theorem abM{a:Option Addr}{c:Nat}:bY Tryz.prog 232 [.slice a 0 c] [] (.tuple ⟨[]⟩):=by
 refine aG K3 RO λB w0=>?_;refine go ?_;refine(fq rfl rfl (Ka (k:=.u64) (m:=0) (by kernel_rfl:Tryz.prog.underlying 3=some (.int .i64)) (by kernel_rfl) rfl (by rfl))).h ?_;refine ak abJ (next:=λ_ _=>?_);refine go ?_;refine ak (abL (a:=a) (c:=c)) (next:=λ_ _=>?_);refine go ?_;exact aa () (hv:=rfl) (hp:=trivial)
theorem abN:∃fn body,Tryz.prog.funcs[232]? =some fn/\fn.body=some body/\fn.name≠ "runtime.NumGoroutine" :=by
 obtain⟨fn,h1,h2⟩:=La.fn 232 K3 RO;have h3:Tryz.prog.funcs[232]? =some fn:=h1;have h4:(fn.name== "runtime.NumGoroutine")=false:=by
  have e:(Tryz.prog.funcs[232]?).map (λf=>f.name== "runtime.NumGoroutine")=some false:=by kernel_rfl
  rw[h3]at e;exact Option.some.inj e
 have h5:fn.body.isSome=true:=by
  have e:(Tryz.prog.funcs[232]?).map (λf=>f.body.isSome)=some true:=by kernel_rfl
  rw[h3]at e;exact Option.some.inj e
 obtain⟨body,hb⟩:=Mq.1 h5;exact⟨fn,body,h3,hb,by simpa using h4⟩
theorem Lb{a:Option Addr}{m:Nat}{zs:List Int}(hm:m=zs.length)(hl:zs.length<4611686018427387904):
 aZ Tryz.prog (.func 232) [.slice a m m] [] [ap ae (.slice a m m) zs] [] (λ_:Unit=>.tuple ⟨[]⟩) (λ_=>[ap ae (.slice a m m) (cO zs)]) (λ_=>[]) (λ_=>True):=by
 subst hm;obtain⟨fn,body,h1,h2,h3⟩:=abN;by_cases hz:zs=[]
 ·subst hz;have e:cO []=[]:=by simp[cO]
  rw[e];intro B w s;obtain⟨S1,s1,back⟩:=s.JX (k1:=[]) (bA:=[ap ae (.slice a 0 0) []]) (F1:=[]) .nil .nil;refine .qL _ (abM (a:=a) (c:=0) S1 w s1) ?_;rintro r pm h' ⟨hp,w',y,e1,st,e2,_⟩;exact⟨hp,w',(),e1,back w' _ _ st,e2,trivial⟩
 ·exact Zn srt h1 h2 h3 (xI.2 hz) hl
theorem RZ:p9 Tryz.prog 265 yR:=ZC (e:=3) (by kernel_rfl) (by kernel_rfl) (by kernel_rfl) (λa b=>by kernel_rfl)
theorem Lc{g:bz}{vh vc:Value}:aZ Tryz.prog (.func 231) [.agg ⟨iw g vh vc⟩] [] [] (iV g vh vc) (λb:Nat=>.func (.func 263) #[] #[ptr' b]) (λ_=>[]) (λb=>[gH b 0 (iw g vh vc),ah ae vc g.cells]) (λ_=>True):=by
 refine aG _ (aM 231) λB w0=>?_;refine go ?_;intro b1;refine go ?_;refine bB (fG (b:=b1)) (h:=?_);exact aa b1 (hv:=rfl) (hp:=trivial)
def lG(c:Prop)(f:aJ):aJ:=⟨λw=>c->f.p w,λa h e=>f.mono a (h e)⟩
theorem kR{B:List Nat}{w0:Wd}{kl:List OA}{F:List aJ}{Q:IH->Prop}{c:Prop}{f:aJ}(hc:¬c)(h:R Q B w0 kl (lG c f::F)):R Q B w0 kl F:=eO (lG c f) (λw _ e=>absurd e hc) h
theorem ku{B:List Nat}{w0:Wd}{kl:List OA}{F:List aJ}{Q:IH->Prop}{c:Prop}{f:aJ}(hf:f∈F)(h:R Q B w0 kl (lG c f::F)):R Q B w0 kl F:=eO (lG c f) (λw hw _=>hw f hf) h
structure Ld where
 v:Value
 e:Int
abbrev tV(y:Ld):Value:=.tuple ⟨[y.v,.int .i64 y.e]⟩
theorem Gy{S α:Type}(f:S->α->S):∀(xs:List α) (s:S),lT (λs x=>(f s x,Out.normal)) s xs=(xs.foldl f s,.normal)
 |[],s=>rfl
 |x::xs,s=>by
  show lT (λs x=>(f s x,Out.normal)) (f s x) xs=_;rw[Gy f xs];rfl
section
variable {P:Program} {B:List Nat} {w0:Wd} {kl kl':List OA} {F:List aJ} {Q:IH->Prop}
theorem abO{b:Nat}{cs cs':List Value}(e:cs=cs')(h:R Q B w0 (pt b (.cells cs')::kl') F)(hk:ay (pt b (.cells cs)) kl kl':=by exact gu):R Q B w0 kl F:=by
 subst e;exact λw s=>h w (s.fK hk)
theorem nX{α:Type}{E:Enc α}{v:Value}{xs:List α}(h:∀a,v=.slice a xs.length xs.length->R Q B w0 kl F)(hk:ay (ap E v xs) kl kl':=by exact gu):R Q B w0 kl F:=λw s=>by
 obtain⟨S,⟨S1,S2,q,_⟩,_⟩:=(s.fK hk).own;obtain⟨a,e⟩:=JK q;exact h a e w s
end
abbrev y9(b n:Nat):Value:=.slice (some ⟨b,0,some 0⟩) n n
theorem R3{g:bz}{vh vc:Value}(hS:oV g):
 aZ Tryz.prog (.func 153) [.agg ⟨iw g vh vc⟩] [] [] (iV g vh vc) tV (λ_=>[]) (λy=>[lG (y.e=0) (ah (qX ae) y.v (bD g))]) (λy=>y.e=0↔fV g):=by
 refine FT _ (aM 153) λB w0=>?_;refine go ?_;intro b1 b2;refine go ?_;refine ak (RY (g:=g) hS) (next:=λe he=>?_);refine go ?_;refine az rfl (λh1=>?_) (λh1=>?_)
 ·refine go ?_;refine kR (c:=(130:Int)=0) (f:=ah (qX ae) (.slice none 0 0) (bD g)) (by omega) ?_;exact Dw ⟨.slice none 0 0,130⟩ (hv:=rfl) (hp:=⟨(λh=>by cases h),λh=>absurd (he.2 h) h1⟩)
 have hg:=he.1 (by omega);have hgl:=hg.len;have hsb:=Gj hg;have hsl:=oP g;refine go ?_;intro b4 b5;refine go ?_;refine Pm (bA:=[pt b4 (.cells AO),pt b2 (.cells [.slice none 0 0]),pt b1 (.cells (iw g vh vc))]) [] (λ_:Unit=>[]) (λ_=>[pt b5 (.cells [.int .i64 (dJ g:Int)])]) (λ_=>[]) (λ_=>True) (hx:=?_) (hy:=?_)
 ·refine az rfl (λh2=>?_) (λh2=>?_)
  ·refine go ?_;rw[show(4:Int)=(dJ g:Int)by unfold dJ;rw[if_pos h2];rfl];exact FU () trivial
  ·refine go ?_;rw[show(6:Int)=(dJ g:Int)by unfold dJ;rw[if_neg h2];rfl];exact FU () trivial
 intro _ _;refine go ?_;refine wS yR (λbm=>?_);refine go ?_;intro b6;refine go ?_;refine ak (Lc (g:=g) (vh:=vh) (vc:=vc)) (next:=λbs _=>?_);refine go ?_;refine DJ (Z:=Nat) (λ(m:List ((Int×Int)×Value)) (x:Int×(Int×Int))=>(upd x.2 (.int .i64 x.1) m,.normal)) (λm=>[gy yR bm m,pt b6 (.cells [.map (some bm)])]) (λvs m=>m=eD vs) [] _ (λx b8=>[pt b8 (.cells [.int .i64 x.2.1,.int .i64 x.2.2])]) rfl (λvs s x rest hs _ _=>by rw[hs,Kq]) (K9 (b1:=bs) (vh:=vh) (vc:=vc) hg) (by intro s x lo o B w0;refine go ?_;intro b8;refine go ?_;exact DI b8 rfl) ?_ ?_ (λ_ _=>trivial)
 ·intro vs s x rest b8 lo L B w0 hs hX;dsimp only[List.cons_append,List.nil_append];refine go ?_;refine uU RZ x.2 (v:=.int .i64 x.1) ?_;refine go ?_;exact Am () rfl trivial trivial
 intro r1 xs hxs;subst hxs;rw[Gy (λ(m:List ((Int×Int)×Value)) (x:Int×(Int×Int))=>upd x.2 (.int .i64 x.1) m)];dsimp only[List.cons_append,List.nil_append];rw[show(bn g).foldl (λ(m:List ((Int×Int)×Value)) (x:Int×(Int×Int))=>upd x.2 (.int .i64 x.1) m) []=eD (bn g)from rfl];refine bB (Aq (b:=bm)) (h:=?_);refine bB (fG (b:=b6)) (h:=?_);refine go ?_;refine Y3 g.cells.length ⟨by omega,by omega,by omega⟩ λbl=>?_;rw[show zeros [.slice none 0 0] g.cells.length=List.replicate g.cells.length (.slice none 0 0)from OD _ _];refine ZM (j5 ae) (x0:=([]:List Int)) (λw=>⟨.inl ⟨rfl,rfl,rfl⟩,λ_=>rfl⟩) (h:=?_);refine go ?_;refine ak (Lc (g:=g) (vh:=vh) (vc:=vc)) (next:=λbs2 _=>?_);refine go ?_;refine bB (fG (b:=b4)) (h:=?_);refine bB (fG (b:=b5)) (h:=?_);have hml:(dS.take (dJ g)).length=dJ g:=by rw[gM];show min (dJ g) 6=_;have:=yU g;omega
 refine eO (ah Kt (.slice (some ⟨b4,0,some 0⟩) (dJ g) 6) (dS.take (dJ g))) (λw h=>aal (h (gH b4 0 AO) (dA _ (dx ..))) (yU g)) ?_;refine DJ (Z:=Nat) (λ(xss:List (List Int)) (x:Int×(Int×Int))=>(xss.set x.1.toNat (kL g x),.normal)) (λxss=>[mh (j5 ae) bl xss,pt b2 (.cells [y9 bl g.cells.length])]) (λvs xss=>xss=vs.map (kL g)++List.replicate (g.cells.length - vs.length) []) (List.replicate g.cells.length []) _ (λx b10=>[pt b10 (.cells [.int .i64 x.2.1,.int .i64 x.2.2])]) (by simp) (λvs s x rest hs hX _=>by
  have h1:=Gl hX;rw[hs,h1.1];have:=QO (A:=vs.map (kL g)) (n:=g.cells.length) (by rw[di];exact h1.2.1) (kL g x);rw[di]at this;rw[Ey,this,eX,gB];rfl) (K9 (b1:=bs2) (vh:=vh) (vc:=vc) hg) (by intro s x lo o B w0;refine go ?_;intro b8;refine go ?_;exact DI b8 rfl) ?_ ?_ (λ_ _=>trivial)
 ·intro vs xss x rest b10 lo L B w0 hs hX;dsimp only[List.cons_append,List.nil_append];obtain⟨hc,hvl,hxm⟩:=Gl hX;have hbx:=hsb x hxm;obtain⟨c,s1,s2⟩:=x;dsimp only at hc hbx;subst hc;have hxk:xss[vs.length]? =some []:=by
   rw[hs,mZ (by simp),di,zw,List.getElem?_replicate,if_pos (by omega)]
  have hxl:xss.length=g.cells.length:=by rw[hs];simp;omega
  refine go ?_;refine(fq rfl rfl (aao (m:=dJ g) rfl rfl (yU g))).h ?_;refine go ?_;refine Az (A:=mh (j5 ae) bl xss) (A':=mh (j5 ae) bl (xss.set vs.length (fH (eD (bn g)) (s1,s2) ((dS.take (dJ g)).take 0)))) (congrArg (mh (j5 ae) bl) (by
   apply jw;intro i;rw[ul];by_cases hi:vs.length=i
   ·subst hi;rw[if_pos rfl,if_pos (by omega),hxk];rfl
   ·rw[if_neg hi])) ?_
  refine aX (λj=>dJ g - j) (λj:Nat=>[(47,.int .i64 (j:Int))]) (λj=>[mh (j5 ae) bl (xss.set vs.length (fH (eD (bn g)) (s1,s2) ((dS.take (dJ g)).take j)))]) (λ_=>[]) (λj=>j<=dJ g) 0 (bX _) (body:=?_);intro j hj;refine go ?_;refine az rfl (λh2=>?_) (λh2=>?_)
  ·refine go ?_;obtain⟨dd,hd⟩:∃dd,(dS.take (dJ g))[j]? =some dd:=⟨_,cK (by omega)⟩
   have hdb:=aam dd (G9 (bJ hd));have hdv:iQ (jm AO (j*2)) 2=some [.int .i64 dd.1,.int .i64 dd.2]:=aan (j:=j) (d:=dd) (by rw[qw]at hd;split at hd;exact hd;cases hd)
   have hnr:=aak (eD (bn g)) (s1,s2) ((dS.take (dJ g)).take j) dd;rw[<- bV hd]at hnr;have hnl:=Gi (eD (bn g)) (s1,s2) ((dS.take (dJ g)).take j);have hjm:=yU g;rw[gM]at hnl;obtain⟨d1,d2⟩:=dd;dsimp only at hdb hdv hnr;refine(OY (o:=0) (j:=j*2) (cs:=AO) rfl rfl rfl (dA _ (dA _ (dx ..))) hdv).h ?_;refine go ?_;intro b12;refine go ?_;refine(fq rfl rfl (yG (a:=s1) (b:=d1) rfl rfl (by omega) (by omega))).h ?_;refine go ?_;refine(fq rfl rfl (yG (a:=s2) (b:=d2) rfl rfl (by omega) (by omega))).h ?_;refine go ?_;refine Rz RZ (s1+d1,s2+d2) (λv hv hm=>?_) (λhm=>?_)
   ·obtain⟨c,rfl,hc⟩:=QN _ _ hv;rw[hv]at hnr;refine go ?_;refine Qn (j5 ae) (b:=bl) (xss:=xss.set vs.length (fH (eD (bn g)) (s1,s2) ((dS.take (dJ g)).take j))) (k:=vs.length) (xs:=fH (eD (bn g)) (s1,s2) ((dS.take (dJ g)).take j)) (by rw[ul,if_pos rfl,if_pos (by omega)]) (h:=λws v D9 hv2=>?_);rw[Br]at D9;refine Qp ae v (fH (eD (bn g)) (s1,s2) ((dS.take (dJ g)).take j)) (λhz=>?_);refine uR (o:=0+vs.length*1) (cs:=ws) v (by rw[eH,Nat.mul_one];exact hv2) ?_;refine go ?_;intro b43;refine go ?_;refine Qf (xs:=fH (eD (bn g)) (s1,s2) ((dS.take (dJ g)).take j)) ae c () (by omega) (next:=λad=>?_);rw[show fH (eD (bn g)) (s1,s2) ((dS.take (dJ g)).take j)++[c]=fH (eD (bn g)) (s1,s2) ((dS.take (dJ g)).take (j+1))from hnr.symm];refine go ?_;refine wP (o:=0+vs.length*1) (cs:=ws) (v:=.slice ad ((fH (eD (bn g)) (s1,s2) ((dS.take (dJ g)).take j)).length+1) ((fH (eD (bn g)) (s1,s2) ((dS.take (dJ g)).take j)).length+1)) (cs':=ws.set vs.length (.slice ad ((fH (eD (bn g)) (s1,s2) ((dS.take (dJ g)).take j)).length+1) ((fH (eD (bn g)) (s1,s2) ((dS.take (dJ g)).take j)).length+1))) (by rw[eH,Nat.mul_one]) (by omega) ?_;refine Qq ae (.slice ad ((fH (eD (bn g)) (s1,s2) ((dS.take (dJ g)).take j)).length+1) ((fH (eD (bn g)) (s1,s2) ((dS.take (dJ g)).take j)).length+1)) (fH (eD (bn g)) (s1,s2) ((dS.take (dJ g)).take (j+1))) (λe=>by rw[hnr]at e;exact absurd e (by show¬(_++[c]=[]);simp)) ?_;refine Qo (j5 ae) (b:=bl) (xss:=xss.set vs.length (fH (eD (bn g)) (s1,s2) ((dS.take (dJ g)).take j))) (vs:=ws) (k:=vs.length) (xs:=fH (eD (bn g)) (s1,s2) ((dS.take (dJ g)).take (j+1))) (by rw[Br];exact D9) (by rw[Br];omega) (h:=?_);rw[List.set_set];refine go ?_;exact aO (j+1) (by omega) (by omega)
   ·rw[qa hm]at hnr;refine go ?_;refine Az (A:=mh (j5 ae) bl (xss.set vs.length (fH (eD (bn g)) (s1,s2) ((dS.take (dJ g)).take j)))) (A':=mh (j5 ae) bl (xss.set vs.length (fH (eD (bn g)) (s1,s2) ((dS.take (dJ g)).take (j+1))))) (congrArg (mh (j5 ae) bl) ((by rw[hnr];exact congrArg (xss.set vs.length) (gD _).symm))) ?_;exact aO (j+1) (by omega) (by omega)
  have hjl:j=dJ g:=by omega
  subst hjl;refine Az (A:=mh (j5 ae) bl (xss.set vs.length (fH (eD (bn g)) (s1,s2) ((dS.take (dJ g)).take (dJ g))))) (A':=mh (j5 ae) bl (xss.set vs.length (fH (eD (bn g)) (s1,s2) (dS.take (dJ g))))) (congrArg (mh (j5 ae) bl) ((congrArg (λz=>xss.set vs.length (fH (eD (bn g)) (s1,s2) z)) (rG (Nat.le_of_eq hml))))) ?_;refine go ?_;refine Qn (j5 ae) (b:=bl) (xss:=xss.set vs.length (fH (eD (bn g)) (s1,s2) (dS.take (dJ g)))) (k:=vs.length) (xs:=fH (eD (bn g)) (s1,s2) (dS.take (dJ g))) (by rw[ul,if_pos rfl,if_pos (by omega)]) (h:=λws v D9 hv2=>?_);rw[Br]at D9;refine Qp ae v (fH (eD (bn g)) (s1,s2) (dS.take (dJ g))) (λhz=>?_);refine uR (o:=0+vs.length*1) (cs:=ws) v (by rw[eH,Nat.mul_one];exact hv2) ?_;have hn6:=Gi (eD (bn g)) (s1,s2) (dS.take (dJ g));rw[hml]at hn6;have hjm:=yU g;refine nX (E:=ae) (v:=v) (xs:=fH (eD (bn g)) (s1,s2) (dS.take (dJ g))) λa hv=>?_;subst hv;refine ak (Lb (a:=a) (zs:=fH (eD (bn g)) (s1,s2) (dS.take (dJ g))) rfl (by omega)) (next:=λ_ _=>?_);refine abO (b:=bl) (cs:=ws) (cs':=ws.set vs.length (.slice a (fH (eD (bn g)) (s1,s2) (dS.take (dJ g))).length (fH (eD (bn g)) (s1,s2) (dS.take (dJ g))).length)) (aap hv2).symm ?_;refine Qq ae (.slice a (fH (eD (bn g)) (s1,s2) (dS.take (dJ g))).length (fH (eD (bn g)) (s1,s2) (dS.take (dJ g))).length) (cO (fH (eD (bn g)) (s1,s2) (dS.take (dJ g)))) (λe=>hz (jl.1 (by rw[<- yP,e];rfl))) ?_;refine Qo (j5 ae) (b:=bl) (xss:=xss.set vs.length (fH (eD (bn g)) (s1,s2) (dS.take (dJ g)))) (vs:=ws) (k:=vs.length) (xs:=cO (fH (eD (bn g)) (s1,s2) (dS.take (dJ g)))) (by rw[Br];exact D9) (by rw[Br];omega) (h:=?_);refine Az (A:=mh (j5 ae) bl ((xss.set vs.length (fH (eD (bn g)) (s1,s2) (dS.take (dJ g)))).set vs.length (cO (fH (eD (bn g)) (s1,s2) (dS.take (dJ g)))))) (A':=mh (j5 ae) bl (xss.set ((vs.length:Int)).toNat (kL g ((vs.length:Int),s1,s2)))) (congrArg (mh (j5 ae) bl) ((by rw[List.set_set,Ey];rfl))) ?_;refine go ?_;exact Am () rfl trivial trivial
 intro r2 sK abR;subst abR;rw[Gy (λ(xss:List (List Int)) (x:Int×(Int×Int))=>xss.set x.1.toNat (kL g x))];dsimp only[List.cons_append,List.nil_append];rw[show(bn g).foldl (λ(xss:List (List Int)) (x:Int×(Int×Int))=>xss.set x.1.toNat (kL g x)) (List.replicate g.cells.length [])=bD g from aaq g];refine bB (ZN (A:=j5 ae) (E:=qX ae) (b:=bl) (xss:=bD g) (c:=(bD g).length) (λv=>v) rfl (λ_ _=>rfl) (λv xs=>ZO)) (h:=?_);rw[AP];refine go ?_;refine ku (c:=(0:Int)=0) (f:=ah (qX ae) (.slice (some ⟨bl,0,some 0⟩) g.cells.length g.cells.length) (bD g)) (by simp) ?_;exact Dw ⟨.slice (some ⟨bl,0,some 0⟩) g.cells.length g.cells.length,0⟩ (hv:=rfl) (hp:=⟨λ_=>hg,λ_=>rfl⟩)
