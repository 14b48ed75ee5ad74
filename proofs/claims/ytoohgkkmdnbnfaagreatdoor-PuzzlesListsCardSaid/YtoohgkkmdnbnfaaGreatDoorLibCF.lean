/-
  Lists compared: of lists, names, symbols, regions, clues, rules.
-/
import Derived.Test.YtoohgkkmdnbnfaaGreatDoorLibAF
import Derived.Test.YtoohgkkmdnbnfaaGreatDoorShelf
import Derived.Test.YtoohgkkmdnbnfaaGreatDoorIdealOF
set_option linter.all false
set_option maxRecDepth 10000
set_option maxHeartbeats 2000000
namespace Go.Proofs.YtoohgkkmdnbnfaaGreatDoor
open Go.Ideal Kd
theorem Tz{va vb:Value}{xs ys:List (List Int)}(hal:xs.length<9223372036854775808)(hl:∀l∈xs,l.length<9223372036854775808):dG Tryz.prog 157 [va,vb,.func (.func 104) #[] #[]] [ah (aj aa) va xs,ah (aj aa) vb ys] (.bool (decide (xs=ys))):=by
 refine aK _ (aP 157) λB w0=>?_;refine go ?_;refine az rfl (λh1=>?_) (λh1=>?_)
 ·refine go ?_;refine ae () (hv:=?_) (hp:=trivial);rw[aT (λe=>h1 (by rw[e]))];rfl
 have hlen:xs.length=ys.length:=by omega
 refine go ?_;refine bi (λk=>xs.length - k) (λk:Nat=>[(17,.int .i64 (k:Int))]) (λ_=>[]) (λ_=>[]) (λk=>k<=xs.length/\∀j,j<k->xs[j]? =ys[j]?) 0 ⟨by omega,λj hj=>by omega⟩ (body:=?_);rintro k ⟨hkx,hsame⟩;refine go ?_;refine az rfl (λh2=>?_) (λh2=>?_)
 ·refine go ?_;refine aZ (aj aa) (next:=λ_ _ x (vx:Value) hx=>?_);refine go ?_;refine aZ (aj aa) (next:=λ_ _ y (vy:Value) hy=>?_);refine go ?_;refine ax (zH (xs:=x) (ys:=y) (hl x (bI hx))) (next:=λ_ _=>?_);refine go ?_;refine eO rfl (λh3=>?_) (λh3=>?_)
  ·refine go ?_;refine ae () (hv:=?_) (hp:=trivial);rw[aT (λe=>h3 (by rw[e,hy]at hx;cases hx;rfl))];rfl
  refine go ?_;refine aQ (k+1) (by omega) ⟨by omega,λj hj=>?_⟩;by_cases e:j=k
  ·subst e;rw[hx,hy,h3]
  ·exact hsame j (by omega)
 refine go ?_;refine ae () (hv:=?_) (hp:=trivial);have:xs=ys:=by
  apply ku;intro j;by_cases hj:j<k
  ·exact hsame j hj
  ·rw[iB (by omega),iB (by omega)]
 rw[dZ this];rfl
theorem TA{va vb:Value}{xs ys:List (List Int)}(hal:xs.length<9223372036854775808)(hl:∀l∈xs,l.length<9223372036854775808):dG Tryz.prog 106 [va,vb] [ah (aj aa) va xs,ah (aj aa) vb ys] (.bool (decide (xs=ys))):=by
 refine aK _ (aP 106) λB w0=>?_;refine go ?_;refine ax (Tz (xs:=xs) (ys:=ys) hal hl) (next:=λ_ _=>?_);refine go ?_;exact ae () (hv:=rfl) (hp:=trivial)
theorem ada{va vb:Value}{xs ys:List (List (List Int))}(hal:xs.length<9223372036854775808)(hl:∀l∈xs,l.length<9223372036854775808/\∀m∈l,m.length<9223372036854775808):dG Tryz.prog 107 [va,vb,.func (.func 106) #[] #[]] [ah (aj (aj aa)) va xs,ah (aj (aj aa)) vb ys] (.bool (decide (xs=ys))):=by
 refine aK _ (aP 107) λB w0=>?_;refine go ?_;refine az rfl (λh1=>?_) (λh1=>?_)
 ·refine go ?_;refine ae () (hv:=?_) (hp:=trivial);rw[aT (λe=>h1 (by rw[e]))];rfl
 have hlen:xs.length=ys.length:=by omega
 refine go ?_;refine bi (λk=>xs.length - k) (λk:Nat=>[(17,.int .i64 (k:Int))]) (λ_=>[]) (λ_=>[]) (λk=>k<=xs.length/\∀j,j<k->xs[j]? =ys[j]?) 0 ⟨by omega,λj hj=>by omega⟩ (body:=?_);rintro k ⟨hkx,hsame⟩;refine go ?_;refine az rfl (λh2=>?_) (λh2=>?_)
 ·refine go ?_;refine aZ (aj (aj aa)) (next:=λ_ _ x (vx:Value) hx=>?_);refine go ?_;refine aZ (aj (aj aa)) (next:=λ_ _ y (vy:Value) hy=>?_);refine go ?_;refine ax (TA (xs:=x) (ys:=y) (hl x (bI hx)).1 (hl x (bI hx)).2) (next:=λ_ _=>?_);refine go ?_;refine eO rfl (λh3=>?_) (λh3=>?_)
  ·refine go ?_;refine ae () (hv:=?_) (hp:=trivial);rw[aT (λe=>h3 (by rw[e,hy]at hx;cases hx;rfl))];rfl
  refine go ?_;refine aQ (k+1) (by omega) ⟨by omega,λj hj=>?_⟩;by_cases e:j=k
  ·subst e;rw[hx,hy,h3]
  ·exact hsame j (by omega)
 refine go ?_;refine ae () (hv:=?_) (hp:=trivial);have:xs=ys:=by
  apply ku;intro j;by_cases hj:j<k
  ·exact hsame j hj
  ·rw[iB (by omega),iB (by omega)]
 rw[dZ this];rfl
theorem TB{va vb:Value}{xs ys:List ByteArray}(hal:xs.length<9223372036854775808):dG Tryz.prog 159 [va,vb] [ah aR va xs,ah aR vb ys] (.bool (decide (xs=ys))):=by
 refine aK _ (aP 159) λB w0=>?_;refine go ?_;refine az rfl (λh1=>?_) (λh1=>?_)
 ·refine go ?_;refine ae () (hv:=?_) (hp:=trivial);rw[aT (λe=>h1 (by rw[e]))];rfl
 have hlen:xs.length=ys.length:=by omega
 refine go ?_;refine bi (λk=>xs.length - k) (λk:Nat=>[(13,.int .i64 (k:Int))]) (λ_=>[]) (λ_=>[]) (λk=>k<=xs.length/\∀j,j<k->xs[j]? =ys[j]?) 0 ⟨by omega,λj hj=>by omega⟩ (body:=?_);rintro k ⟨hkx,hsame⟩;refine go ?_;refine az rfl (λh2=>?_) (λh2=>?_)
 ·refine go ?_;refine aZ aR (next:=λ_ _ x (_:Unit) hx=>?_);refine go ?_;refine aZ aR (next:=λ_ _ y (_:Unit) hy=>?_);refine go ?_;refine eO (p:=x=y) (by show Value.bool _=_;rw[dU]) (λh3=>?_) (λh3=>?_)
  ·refine go ?_;refine ae () (hv:=?_) (hp:=trivial);rw[aT (λe=>h3 (by rw[e,hy]at hx;cases hx;rfl))];rfl
  refine go ?_;refine aQ (k+1) (by omega) ⟨by omega,λj hj=>?_⟩;by_cases e:j=k
  ·subst e;rw[hx,hy,h3]
  ·exact hsame j (by omega)
 refine go ?_;refine ae () (hv:=?_) (hp:=trivial);have:xs=ys:=by
  apply ku;intro j;by_cases hj:j<k
  ·exact hsame j hj
  ·rw[iB (by omega),iB (by omega)]
 rw[dZ this];rfl
theorem Mj(x y:nU):cellsE [.string x.name,.int .i64 x.value] [.string y.name,.int .i64 y.value]=decide (x=y):=by
 obtain⟨a,b⟩:=x;obtain⟨c,e⟩:=y;show(decide (a=c)&&(decide (b=e)&&true))=_;rw[Bool.and_true,<- Bool.decide_and];exact og.2 ⟨λh=>by rw[h.1,h.2],λh=>by cases h;exact⟨rfl,rfl⟩⟩
abbrev Ip(x:iP):List Value:=[.string x.name,.string x.on,.int .i64 x.family,.int .i64 x.type,.int .i64 x.lo,.int .i64 x.hi]
theorem Mk(x y:iP):cellsE (Ip x) (Ip y)=decide (x=y):=by
 obtain⟨a1,a2,a3,a4,a5,a6⟩:=x;obtain⟨b1,b2,b3,b4,b5,b6⟩:=y;show(decide (a1=b1)&&(decide (a2=b2)&&(decide (a3=b3)&&(decide (a4=b4)&&(decide (a5=b5)&&(decide (a6=b6)&&true))))))=_;rw[Bool.and_true];simp only[<- Bool.decide_and];exact og.2 ⟨λh=>by rw[h.1,h.2.1,h.2.2.1,h.2.2.2.1,h.2.2.2.2.1,h.2.2.2.2.2],λh=>by cases h;exact⟨rfl,rfl,rfl,rfl,rfl,rfl⟩⟩
theorem Ml:∃fs:Array Field,Tryz.prog.underlying 84=some (.struct fs)/\DY Tryz.prog fs.toList 0 [false,true]=true:=by
 refine⟨Tryz.prog.fieldsOf 84,by kernel_rfl,by kernel_rfl⟩
theorem Mm:∃fs:Array Field,Tryz.prog.underlying 115=some (.struct fs)/\DY Tryz.prog fs.toList 0 [false,false,true,true,true,true]=true:=by
 refine⟨Tryz.prog.fieldsOf 115,by kernel_rfl,by kernel_rfl⟩
theorem adb{va vb:Value}{xs ys:List nU}(hal:xs.length<9223372036854775808):dG Tryz.prog 160 [va,vb] [ah fA va xs,ah fA vb ys] (.bool (decide (xs=ys))):=by
 obtain⟨fs,hu,hrow⟩:=Ml;refine aK _ (aP 160) λB w0=>?_;refine go ?_;refine az rfl (λh1=>?_) (λh1=>?_)
 ·refine go ?_;refine ae () (hv:=?_) (hp:=trivial);rw[aT (λe=>h1 (by rw[e]))];rfl
 have hlen:xs.length=ys.length:=by omega
 refine go ?_;refine bi (λk=>xs.length - k) (λk:Nat=>[(13,.int .i64 (k:Int))]) (λ_=>[]) (λ_=>[]) (λk=>k<=xs.length/\∀j,j<k->xs[j]? =ys[j]?) 0 ⟨by omega,λj hj=>by omega⟩ (body:=?_);rintro k ⟨hkx,hsame⟩;refine go ?_;refine az rfl (λh2=>?_) (λh2=>?_)
 ·refine go ?_;refine aZ fA (next:=λ_ _ x (_:Unit) hx=>?_);refine go ?_;refine aZ fA (next:=λ_ _ y (_:Unit) hy=>?_);refine go ?_;refine(fJ (v:=.bool (!decide (x=y))) rfl rfl (by rw[<- Mj];exact Bt rfl rfl hu (by kernel_rfl) (by kernel_rfl) (row_of hrow rfl rfl (λj=>by rw[fw]) (λj=>by rw[fw])) (by simp[fE,bQ,Ideal.cellV]) (by simp[fE,bQ,Ideal.cellV]))).h ?_;refine go ?_;refine eO rfl (λh3=>?_) (λh3=>?_)
  ·refine go ?_;refine ae () (hv:=?_) (hp:=trivial);rw[aT (λe=>h3 (by rw[e,hy]at hx;cases hx;rfl))];rfl
  refine go ?_;refine aQ (k+1) (by omega) ⟨by omega,λj hj=>?_⟩;by_cases e:j=k
  ·subst e;rw[hx,hy,h3]
  ·exact hsame j (by omega)
 refine go ?_;refine ae () (hv:=?_) (hp:=trivial);have:xs=ys:=by
  apply ku;intro j;by_cases hj:j<k
  ·exact hsame j hj
  ·rw[iB (by omega),iB (by omega)]
 rw[dZ this];rfl
theorem ade{va vb:Value}{xs ys:List iP}(hal:xs.length<9223372036854775808):dG Tryz.prog 162 [va,vb] [ah bJ va xs,ah bJ vb ys] (.bool (decide (xs=ys))):=by
 obtain⟨fs,hu,hrow⟩:=Mm;refine aK _ (aP 162) λB w0=>?_;refine go ?_;refine az rfl (λh1=>?_) (λh1=>?_)
 ·refine go ?_;refine ae () (hv:=?_) (hp:=trivial);rw[aT (λe=>h1 (by rw[e]))];rfl
 have hlen:xs.length=ys.length:=by omega
 refine go ?_;refine bi (λk=>xs.length - k) (λk:Nat=>[(13,.int .i64 (k:Int))]) (λ_=>[]) (λ_=>[]) (λk=>k<=xs.length/\∀j,j<k->xs[j]? =ys[j]?) 0 ⟨by omega,λj hj=>by omega⟩ (body:=?_);rintro k ⟨hkx,hsame⟩;refine go ?_;refine az rfl (λh2=>?_) (λh2=>?_)
 ·refine go ?_;refine aZ bJ (next:=λ_ _ x (_:Unit) hx=>?_);refine go ?_;refine aZ bJ (next:=λ_ _ y (_:Unit) hy=>?_);refine go ?_;refine(fJ (v:=.bool (!decide (x=y))) rfl rfl (by rw[<- Mk];exact Bt rfl rfl hu (by kernel_rfl) (by kernel_rfl) (row_of hrow rfl rfl (λj=>by rw[fw]) (λj=>by rw[fw])) (by simp[fE,bQ,Ideal.cellV]) (by simp[fE,bQ,Ideal.cellV]))).h ?_;refine go ?_;refine eO rfl (λh3=>?_) (λh3=>?_)
  ·refine go ?_;refine ae () (hv:=?_) (hp:=trivial);rw[aT (λe=>h3 (by rw[e,hy]at hx;cases hx;rfl))];rfl
  refine go ?_;refine aQ (k+1) (by omega) ⟨by omega,λj hj=>?_⟩;by_cases e:j=k
  ·subst e;rw[hx,hy,h3]
  ·exact hsame j (by omega)
 refine go ?_;refine ae () (hv:=?_) (hp:=trivial);have:xs=ys:=by
  apply ku;intro j;by_cases hj:j<k
  ·exact hsame j hj
  ·rw[iB (by omega),iB (by omega)]
 rw[dZ this];rfl
end Go.Proofs.YtoohgkkmdnbnfaaGreatDoor
set_option maxHeartbeats 4000000
namespace Go.Proofs.YtoohgkkmdnbnfaaGreatDoor
open Go.Ideal Kd
theorem adf{x y:lS}{vx vy:Value}(hl:x.lists.length<9223372036854775808)(hll:∀l∈x.lists,l.length<9223372036854775808):dG Tryz.prog 156 [.agg ⟨[.string x.name,vx]⟩,.agg ⟨[.string y.name,vy]⟩] [ah (aj aa) vx x.lists,ah (aj aa) vy y.lists] (.bool (decide (x=y))):=by
 obtain⟨n1,l1⟩:=x;obtain⟨n2,l2⟩:=y;dsimp only at hl hll⊢;refine aK _ (aP 156) λB w0=>?_;refine go ?_;intro b2 b3;refine go ?_;first|with_reducible refine aL (λh1=>?_) (λh1=>?_)|with_reducible refine aO (λh1=>?_) (λh1=>?_)|with_reducible refine aM (λh1=>?_) (λh1=>?_)
 ·rw[dU]at h1;refine go ?_;refine ae () (hv:=?_) (hp:=trivial);rw[aT (λe=>mI h1 (by cases e;rfl))];rfl
 rw[dU]at h1;have h1:=gQ h1;refine go ?_;refine ax (Tz (xs:=l1) (ys:=l2) hl hll) (next:=λ_ _=>?_);refine go ?_;refine ae () (hv:=?_) (hp:=trivial);rw[show decide (lS.mk n1 l1=lS.mk n2 l2)=decide (l1=l2)from og.2 ⟨λh=>by cases h;rfl,λh=>by rw[h1,h]⟩];rfl
theorem adg{x y:aS}{v1 v2 u1 u2:Value}(hl:x.names.length<9223372036854775808)(hll:x.others.length<9223372036854775808):dG Tryz.prog 158 [.agg ⟨iM x v1 v2⟩,.agg ⟨iM y u1 u2⟩] [ah aR v1 x.names,ah aR v2 x.others,ah aR u1 y.names,ah aR u2 y.others] (.bool (decide (x=y))):=by
 obtain⟨n1,o1,k1,f1,uF,os1,s1,t1,p1,m1,y1,c1⟩:=x;obtain⟨n2,o2,k2,f2,BJ,os2,s2,t2,p2,m2,y2,c2⟩:=y;dsimp only[iM]at hl hll⊢;refine aK _ (aP 158) λB w0=>?_;refine go ?_;intro b2 b3;refine go ?_;refine ax (TB (xs:=uF) (ys:=BJ) hl) (next:=λ_ _=>?_);refine go ?_;first|with_reducible refine aL (λh1=>?_) (λh1=>?_)|with_reducible refine aO (λh1=>?_) (λh1=>?_)|with_reducible refine aM (λh1=>?_) (λh1=>?_)
 ·refine go ?_;refine ae () (hv:=?_) (hp:=trivial);rw[aT (λe=>h1 (by cases e;rfl))];rfl
 refine go ?_;refine ax (TB (xs:=os1) (ys:=os2) hll) (next:=λ_ _=>?_);refine go ?_;first|with_reducible refine aL (λh2=>?_) (λh2=>?_)|with_reducible refine aO (λh2=>?_) (λh2=>?_)|with_reducible refine aM (λh2=>?_) (λh2=>?_)
 ·refine go ?_;refine ae () (hv:=?_) (hp:=trivial);rw[aT (λe=>h2 (by cases e;rfl))];rfl
 refine go ?_;first|with_reducible refine aL (λh3=>?_) (λh3=>?_)|with_reducible refine aO (λh3=>?_) (λh3=>?_)|with_reducible refine aM (λh3=>?_) (λh3=>?_)
 ·rw[dU]at h3;refine go ?_;refine ae () (hv:=?_) (hp:=trivial);rw[aT (λe=>mI h3 (by cases e;rfl))];rfl
 rw[dU]at h3;have h3:=gQ h3;refine go ?_;first|with_reducible refine aL (λh4=>?_) (λh4=>?_)|with_reducible refine aO (λh4=>?_) (λh4=>?_)|with_reducible refine aM (λh4=>?_) (λh4=>?_)
 ·rw[dU]at h4;refine go ?_;refine ae () (hv:=?_) (hp:=trivial);rw[aT (λe=>mI h4 (by cases e;rfl))];rfl
 rw[dU]at h4;have h4:=gQ h4;refine go ?_;first|with_reducible refine aL (λh5=>?_) (λh5=>?_)|with_reducible refine aO (λh5=>?_) (λh5=>?_)|with_reducible refine aM (λh5=>?_) (λh5=>?_)
 ·rw[dU]at h5;refine go ?_;refine ae () (hv:=?_) (hp:=trivial);rw[aT (λe=>mI h5 (by cases e;rfl))];rfl
 rw[dU]at h5;have h5:=gQ h5;refine go ?_;refine(fJ (v:=.bool (decide ([k1,f1,s1,t1,p1,m1,c1]=[k2,f2,s2,t2,p2,m2,c2]))) rfl rfl (aaZ (n:=7) (e:=3) rfl rfl (by kernel_rfl) (by kernel_rfl) (by kernel_rfl) rfl rfl (by kernel_rfl))).h ?_;refine go ?_;refine ae () (hv:=?_) (hp:=trivial);rw[show decide (aS.mk n1 o1 k1 f1 uF os1 s1 t1 p1 m1 y1 c1=aS.mk n2 o2 k2 f2 BJ os2 s2 t2 p2 m2 y2 c2)=decide ([k1,f1,s1,t1,p1,m1,c1]=[k2,f2,s2,t2,p2,m2,c2])from og.2 ⟨λh=>by cases h;rfl,λh=>by cases h;rw[h1,h2,h3,h4,h5]⟩];rfl
theorem adh{va vb:Value}{xs ys:List lS}(hal:xs.length<9223372036854775808)(hl:∀r∈xs,r.lists.length<9223372036854775808/\∀l∈r.lists,l.length<9223372036854775808):dG Tryz.prog 161 [va,vb,.func (.func 156) #[] #[]] [ah ed va xs,ah ed vb ys] (.bool (decide (xs=ys))):=by
 refine aK _ (aP 161) λB w0=>?_;refine go ?_;refine az rfl (λh1=>?_) (λh1=>?_)
 ·refine go ?_;refine ae () (hv:=?_) (hp:=trivial);rw[aT (λe=>h1 (by rw[e]))];rfl
 have hlen:xs.length=ys.length:=by omega
 refine go ?_;refine bi (λk=>xs.length - k) (λk:Nat=>[(17,.int .i64 (k:Int))]) (λ_=>[]) (λ_=>[]) (λk=>k<=xs.length/\∀j,j<k->xs[j]? =ys[j]?) 0 ⟨by omega,λj hj=>by omega⟩ (body:=?_);rintro k ⟨hkx,hsame⟩;refine go ?_;refine az rfl (λh2=>?_) (λh2=>?_)
 ·refine go ?_;refine aZ ed (next:=λ_ _ x (vx:Value) hx=>?_);refine go ?_;intro b8;refine go ?_;refine aZ ed (next:=λ_ _ y (vy:Value) hy=>?_);refine go ?_;intro b9;refine go ?_;refine ax (adf (x:=x) (y:=y) (vx:=vx) (vy:=vy) (hl x (bI hx)).1 (hl x (bI hx)).2) (next:=λ_ _=>?_);refine go ?_;refine eO rfl (λh3=>?_) (λh3=>?_)
  ·refine go ?_;refine ae () (hv:=?_) (hp:=trivial);rw[aT (λe=>h3 (by rw[e,hy]at hx;cases hx;rfl))];rfl
  refine go ?_;refine aQ (k+1) (by omega) ⟨by omega,λj hj=>?_⟩;by_cases e:j=k
  ·subst e;rw[hx,hy,h3]
  ·exact hsame j (by omega)
 refine go ?_;refine ae () (hv:=?_) (hp:=trivial);have:xs=ys:=by
  apply ku;intro j;by_cases hj:j<k
  ·exact hsame j hj
  ·rw[iB (by omega),iB (by omega)]
 rw[dZ this];rfl
theorem adi{va vb:Value}{xs ys:List aS}(hal:xs.length<9223372036854775808)(hl:∀r∈xs,r.names.length<9223372036854775808/\r.others.length<9223372036854775808):dG Tryz.prog 163 [va,vb,.func (.func 158) #[] #[]] [ah aY va xs,ah aY vb ys] (.bool (decide (xs=ys))):=by
 refine aK _ (aP 163) λB w0=>?_;refine go ?_;refine az rfl (λh1=>?_) (λh1=>?_)
 ·refine go ?_;refine ae () (hv:=?_) (hp:=trivial);rw[aT (λe=>h1 (by rw[e]))];rfl
 have hlen:xs.length=ys.length:=by omega
 refine go ?_;refine bi (λk=>xs.length - k) (λk:Nat=>[(17,.int .i64 (k:Int))]) (λ_=>[]) (λ_=>[]) (λk=>k<=xs.length/\∀j,j<k->xs[j]? =ys[j]?) 0 ⟨by omega,λj hj=>by omega⟩ (body:=?_);rintro k ⟨hkx,hsame⟩;refine go ?_;refine az rfl (λh2=>?_) (λh2=>?_)
 ·refine go ?_;refine aZ aY (next:=λ_ _ x (vx:Value×Value) hx=>?_);refine go ?_;intro b8;refine go ?_;refine aZ aY (next:=λ_ _ y (vy:Value×Value) hy=>?_);refine go ?_;intro b9;refine go ?_;refine ax (adg (x:=x) (y:=y) (v1:=vx.1) (v2:=vx.2) (u1:=vy.1) (u2:=vy.2) (hl x (bI hx)).1 (hl x (bI hx)).2) (next:=λ_ _=>?_);refine go ?_;refine eO rfl (λh3=>?_) (λh3=>?_)
  ·refine go ?_;refine ae () (hv:=?_) (hp:=trivial);rw[aT (λe=>h3 (by rw[e,hy]at hx;cases hx;rfl))];rfl
  refine go ?_;refine aQ (k+1) (by omega) ⟨by omega,λj hj=>?_⟩;by_cases e:j=k
  ·subst e;rw[hx,hy,h3]
  ·exact hsame j (by omega)
 refine go ?_;refine ae () (hv:=?_) (hp:=trivial);have:xs=ys:=by
  apply ku;intro j;by_cases hj:j<k
  ·exact hsame j hj
  ·rw[iB (by omega),iB (by omega)]
 rw[dZ this];rfl
theorem TC{x y:bD}{h1 s1 r1 c1 u1 h2 s2 r2 c2 u2:Value}(hS:lX x):dG Tryz.prog 105 [.agg ⟨gq x h1 s1 r1 c1 u1⟩,.agg ⟨gq y h2 s2 r2 c2 u2⟩] (kG x h1 s1 r1 c1 u1++kG y h2 s2 r2 c2 u2) (.bool (decide (x=y))):=by
 have e1:=hS.dO;have e2:=hS.regs;have e3:=hS.jk;have e4:=hS.kg;have e5:=hS.qx;have e6:=hS.holes;have e7:=hS.qy;clear hS;obtain⟨n1,v1,p1,w1,g1,ho1,lY,lu,lZ,lC⟩:=x;obtain⟨n2,v2,p2,w2,g2,ho2,pI,oJ,pJ,oK⟩:=y;dsimp only at e1 e2 e3 e4 e5 e6 e7;dsimp only[gq,kG,List.cons_append,List.nil_append];refine aK _ (aP 105) λB w0=>?_;refine go ?_;intro b2 b3;refine go ?_;first|with_reducible refine aL (λk1=>?_) (λk1=>?_)|with_reducible refine aO (λk1=>?_) (λk1=>?_)|with_reducible refine aM (λk1=>?_) (λk1=>?_)
 ·rw[dU]at k1;refine go ?_;refine ae () (hv:=?_) (hp:=trivial);rw[aT (λe=>mI k1 (by cases e;rfl))];rfl
 rw[dU]at k1;have k1:=gQ k1;refine go ?_;first|with_reducible refine aL (λk2=>?_) (λk2=>?_)|with_reducible refine aO (λk2=>?_) (λk2=>?_)|with_reducible refine aM (λk2=>?_) (λk2=>?_)
 ·refine go ?_;refine ae () (hv:=?_) (hp:=trivial);rw[aT (λe=>k2 (by cases e;rfl))];rfl
 refine go ?_;first|with_reducible refine aL (λk3=>?_) (λk3=>?_)|with_reducible refine aO (λk3=>?_) (λk3=>?_)|with_reducible refine aM (λk3=>?_) (λk3=>?_)
 ·refine go ?_;refine ae () (hv:=?_) (hp:=trivial);rw[aT (λe=>k3 (by cases e;rfl))];rfl
 refine go ?_;first|with_reducible refine aL (λk4=>?_) (λk4=>?_)|with_reducible refine aO (λk4=>?_) (λk4=>?_)|with_reducible refine aM (λk4=>?_) (λk4=>?_)
 ·refine go ?_;refine ae () (hv:=?_) (hp:=trivial);rw[aT (λe=>k4 (by cases e;rfl))];rfl
 refine go ?_;first|with_reducible refine aL (λk5=>?_) (λk5=>?_)|with_reducible refine aO (λk5=>?_) (λk5=>?_)|with_reducible refine aM (λk5=>?_) (λk5=>?_)
 ·refine go ?_;refine ae () (hv:=?_) (hp:=trivial);rw[aT (λe=>k5 (by cases e;rfl))];rfl
 refine go ?_;refine ax (zH (xs:=ho1) (ys:=ho2) e6) (next:=λ_ _=>?_);refine go ?_;first|with_reducible refine aL (λk6=>?_) (λk6=>?_)|with_reducible refine aO (λk6=>?_) (λk6=>?_)|with_reducible refine aM (λk6=>?_) (λk6=>?_)
 ·refine go ?_;refine ae () (hv:=?_) (hp:=trivial);rw[aT (λe=>k6 (by cases e;rfl))];rfl
 refine go ?_;refine ax (adb (xs:=lY) (ys:=pI) (by omega)) (next:=λ_ _=>?_);refine go ?_;first|with_reducible refine aL (λk7=>?_) (λk7=>?_)|with_reducible refine aO (λk7=>?_) (λk7=>?_)|with_reducible refine aM (λk7=>?_) (λk7=>?_)
 ·refine go ?_;refine ae () (hv:=?_) (hp:=trivial);rw[aT (λe=>k7 (by cases e;rfl))];rfl
 refine go ?_;refine ax (adh (xs:=lu) (ys:=oJ) (by omega) e7) (next:=λ_ _=>?_);refine go ?_;first|with_reducible refine aL (λk8=>?_) (λk8=>?_)|with_reducible refine aO (λk8=>?_) (λk8=>?_)|with_reducible refine aM (λk8=>?_) (λk8=>?_)
 ·refine go ?_;refine ae () (hv:=?_) (hp:=trivial);rw[aT (λe=>k8 (by cases e;rfl))];rfl
 refine go ?_;refine ax (ade (xs:=lZ) (ys:=pJ) (by omega)) (next:=λ_ _=>?_);refine go ?_;first|with_reducible refine aL (λk9=>?_) (λk9=>?_)|with_reducible refine aO (λk9=>?_) (λk9=>?_)|with_reducible refine aM (λk9=>?_) (λk9=>?_)
 ·refine go ?_;refine ae () (hv:=?_) (hp:=trivial);rw[aT (λe=>k9 (by cases e;rfl))];rfl
 refine go ?_;refine ax (adi (xs:=lC) (ys:=oK) (by omega) e5) (next:=λ_ _=>?_);refine go ?_;refine ae () (hv:=?_) (hp:=trivial);rw[show decide (bD.mk n1 v1 p1 w1 g1 ho1 lY lu lZ lC=bD.mk n2 v2 p2 w2 g2 ho2 pI oJ pJ oK)=decide (lC=oK)from og.2 ⟨λh=>by cases h;rfl,λh=>by rw[k1,k2,k3,k4,k5,k6,k7,k8,k9,h]⟩];rfl
end Go.Proofs.YtoohgkkmdnbnfaaGreatDoor
namespace Go.Proofs.YtoohgkkmdnbnfaaGreatDoor
open Go.Ideal
noncomputable def Mo:=tY Tryz.prog 232
theorem TD:mo Tryz.prog 232=some Mo:=by kernel_rfl
theorem srt:Lj Tryz.prog 232:=λblk off cap zs w h1 h2 h3=>Any.slices_Sort_int Tryz.lays189 blk off cap zs w h1 h2 h3
end Go.Proofs.YtoohgkkmdnbnfaaGreatDoor
namespace Go.Proofs.YtoohgkkmdnbnfaaGreatDoor
open Go.Ideal Kd
noncomputable def Mq:=tY Tryz.prog 228
theorem TE:mo Tryz.prog 228=some Mq:=by kernel_rfl
noncomputable def Mr:=tY Tryz.prog 152
theorem adk:mo Tryz.prog 152=some Mr:=by kernel_rfl
theorem adl{x:Int}:dG Tryz.prog 108 [.int .i64 x] [] (.bool false):=by
 refine aK _ (aP 108) λB w0=>?_;refine go ?_;refine ae () (hv:=?_) (hp:=trivial);rw[aT (λh=>h rfl)];rfl
theorem adm{x:Int}:dG Tryz.prog 262 [.int .i64 x] [] (.bool false):=by
 refine aK _ (aP 262) λB w0=>?_;refine go ?_;refine ae () (hv:=?_) (hp:=trivial);rw[aT (λh=>h rfl)];rfl
theorem adn{x y:Int}:dG Tryz.prog 261 [.int .i64 x,.int .i64 y] [] (.bool (decide (x<y))):=by
 refine aK _ (aP 261) λB w0=>?_;refine go ?_;refine ax (adl (x:=x)) (next:=λ_ _=>?_);refine go ?_;exact ae () (hv:=rfl) (hp:=trivial)
def Ms(xs:List Int)(z:Int)(y:Nat×Bool):Prop:=y.1<=xs.length/\(∀(j:Nat) x,j<y.1->xs[j]? =some x->x<z)/\(∀(j:Nat) x,y.1<=j->xs[j]? =some x->z<=x)/\(y.2=true↔xs[y.1]? =some z)
theorem Ms.mem{xs:List Int}{z:Int}{y:Nat×Bool}(h:Ms xs z y)(hs:xs.Pairwise (·<·)):y.2=true↔z∈xs:=by
 obtain⟨h1,h2,h3,h4⟩:=h;rw[h4];refine⟨λh=>bI h,λh=>?_⟩;obtain⟨j,hj⟩:=tQ.1 h;have hjl:=(bN.1 hj)
 rcases Nat.lt_trichotomy j y.1 with h5|h5|h5
 ·have:=h2 j z h5 hj;omega
 ·rw[<- h5];exact hj
 ·have hyl:y.1<xs.length:=by have:=hjl.1;omega
  have hy:xs[y.1]? =some xs[y.1]:=cz hyl;have h6:=h3 y.1 _ (bP _) hy;have h7:=yJ.1 hs y.1 j hyl hjl.1 h5;rw[hjl.2]at h7;omega
theorem TF{v:Value}{xs:List Int}{z:Int}(hl:xs.length<4611686018427387904)(hs:xs.Pairwise (·<=·)):
 bz Tryz.prog (.func 229) [v,.int .i64 z] [] [] [ah aa v xs] (λy:Nat×Bool=>.tuple ⟨[.int .i64 (y.1:Int),.bool y.2]⟩) (λ_=>[]) (λ_=>[]) (Ms xs z):=by
 refine aK _ (aP 229) λB w0=>?_;refine go ?_;refine bi (λy:Nat×Nat=>y.2 - y.1) (λy=>[(7,.int .i64 (y.1:Int)),(8,.int .i64 (y.2:Int))]) (λ_=>[]) (λ_=>[]) (λy=>y.1<=y.2/\y.2<=xs.length/\(∀(j:Nat) x,j<y.1->xs[j]? =some x->x<z)/\(∀(j:Nat) x,y.2<=j->xs[j]? =some x->z<=x)) (0,xs.length) ⟨cB _,bP _,λj x hj=>by omega,λj x hj hx=>by have:=(bN.1 hx).1;omega⟩ (body:=?_);rintro⟨a,b⟩ ⟨hab,hb,hlo,hhi⟩;dsimp only at hab hb hlo hhi⊢;refine go ?_;refine az rfl (λh1=>?_) (λh1=>?_)
 ·have Dj:a<=(a+b)>>>1/\(a+b)>>>1<b:=by
   rw[Vm];omega
  generalize hm:(a+b)>>>1=m at Dj;refine go ?_;rw[show(a:Int)+(b:Int)=((a+b:Nat):Int)by omega];refine(fJ rfl rfl (DZ (k:=.u64) (m:=((a+b:Nat):Int)) (by kernel_rfl:Tryz.prog.underlying 3=some (.int .i64)) (by kernel_rfl) rfl (Rt (by omega)))).h ?_;refine(fJ rfl rfl (Ru (a:=a+b) (b:=1) rfl rfl (by omega))).h ?_;rw[hm];refine(fJ rfl rfl (DZ (k:=.i64) (m:=(m:Int)) (by kernel_rfl:Tryz.prog.underlying 63=some (.int .u64)) (by kernel_rfl) rfl (wrapN (by omega)))).h ?_;refine go ?_;intro _ _ x hx;refine go ?_;refine ax (adn (x:=x) (y:=z)) (next:=λ_ _=>?_);refine go ?_;have hle:∀(i j:Nat) u v,i<=j->xs[i]? =some u->xs[j]? =some v->u<=v:=by
   intro i j u v hij hu hv;by_cases e:i=j
   ·subst e;rw[hu]at hv;injection hv with hv;omega
   ·exact yJ.1 hs i j (bN.1 hu).1 (bN.1 hv).1 (by omega)|>λh=>by
     rw[(bN.1 hu).2,(bN.1 hv).2]at h;exact h
  refine az rfl (λh2=>?_) (λh2=>?_)
  ·refine go ?_;refine aQ (m+1,b) (by show b - (m+1)<b - a;omega) ⟨by show m+1<=b;omega,hb,λj u hj hu=>?_,hhi⟩;have:=hle j m u x (by show j<=m;have:j<m+1:=hj;omega) hu hx;omega
  ·refine go ?_;refine aQ (a,m) (by show m - a<b - a;omega) ⟨by show a<=m;omega,by show m<=_;omega,hlo,λj u hj hu=>?_⟩;have:=hle m j x u hj hx hu;omega
 have hba:b=a:=by omega
 subst hba;refine go ?_;first|with_reducible refine aL (λh2=>?_) (λh2=>?_)|with_reducible refine aO (λh2=>?_) (λh2=>?_)|with_reducible refine aM (λh2=>?_) (λh2=>?_)
 ·have hn:xs[b]? =none:=iB (by omega);refine go ?_;exact ae (b,false) (hv:=rfl) (hp:=⟨by show b<=_;omega,hlo,hhi,by show false=true↔xs[b]? =some z;rw[hn];simp⟩)
 refine go ?_;intro _ _ x hx;refine go ?_;by_cases hxz:x=z
 ·subst hxz;rw[dZ rfl];refine go ?_;exact ae (b,true) (hv:=rfl) (hp:=⟨by show b<=_;omega,hlo,hhi,by show true=true↔xs[b]? =some x;simp[hx]⟩)
 ·rw[aT hxz];refine go ?_;intro _ _ x2 hx2;refine go ?_;refine ax (adm (x:=x2)) (next:=λ_ _=>?_);refine go ?_;exact ae (b,false) (hv:=rfl) (hp:=⟨by show b<=_;omega,hlo,hhi,by show false=true↔xs[b]? =some z;rw[hx];simp[hxz]⟩)
theorem TG{v:Value}{aJ:List (Int×aa.Y)}(hl:aJ.length<=4096):bz Tryz.prog (.func 228) [v] [] [] [rz aa v aJ] (λv':Value=>v') (λv'=>[ar aa v' aJ]) (λ_=>[]) (λ_=>True):=by
 refine aK Mq TE λB w0=>?_;refine Mg (v:=v) (aJ:=aJ) aa (λe c ev=>?_) (λe i o f c ev=>?_) (λhne i o f c ev=>?_)
 ·subst e ev;refine go ?_;refine(fJ rfl rfl (G5 (e:=3) (by kernel_rfl) rfl)).h ?_;refine go ?_;refine Mh aa ?_;exact ae (.slice none 0 0) (hv:=rfl) (hp:=trivial)
 ·subst e ev;refine go ?_;refine(fJ rfl rfl (Bp (e:=3) (by kernel_rfl) rfl)).h ?_;refine go ?_;intro b;refine go ?_;refine Lr (b:=b) ?_;refine go ?_;refine sO (b:=b) (m:=0) (f:=0) aa (aJ:=[]) rfl (.inl rfl) ?_ (hk:=ay.here);exact ae (.slice (some ⟨b,0,some 0⟩) 0 0) (hv:=rfl) (hp:=trivial)
 ·subst ev;refine go ?_;refine(fJ rfl rfl (Bp (e:=3) (by kernel_rfl) rfl)).h ?_;refine go ?_;intro b;refine go ?_;refine Ls (b:=b) aa aJ hne (by omega) (λb'=>?_);refine go ?_;refine sO (b:=b') (m:=aJ.length) (f:=aa.n) aa (aJ:=aJ) rfl (.inr rfl) ?_ (hk:=ay.here);exact ae (.slice (some ⟨b',0,some aa.n⟩) aJ.length aJ.length) (hv:=rfl) (hp:=trivial)
abbrev Em:List Value:=[.int .i64 0,.int .i64 0,.int .i64 0,.slice none 0 0,.slice none 0 0]
abbrev iI(g:bq)(vh vc:Value):List Value:=[.int .i64 g.shape,.int .i64 g.w,.int .i64 g.h,vh,vc]
abbrev je(g:bq)(vh vc:Value):List aF:=[ah aa vh g.holes,ah aa vc g.cells]
structure Mt where
 ok:Bool
 vh:Value
 vc:Value
def uG(s w h:Int)(holes:List Int):bq:=⟨s,w,h,holes,lU w h holes⟩
abbrev mkV(s w h:Int)(holes:List Int)(y:Mt):Value:=.tuple ⟨[.agg ⟨cond y.ok (iI (uG s w h holes) y.vh y.vc) Em⟩,.int .i64 (cond y.ok 0 130)]⟩
abbrev nX(s w h:Int)(holes:List Int)(y:Mt):List aF:=cond y.ok (je (uG s w h holes) y.vh y.vc) []
def ww(xs:List Int):Int:=xs.getLast?.getD (-1)
theorem TH(xs:List Int)(x:Int):ww (xs++[x])=x:=by simp[ww]
theorem ado{xs:List Int}(h:∀x∈xs,0<=x): -1<=ww xs:=by
 unfold ww;cases hx:xs.getLast? with
 |none=>simp
 |some x=>
  have:=h x (List.mem_of_getLast? hx);simp only[tK];omega
theorem TI{xs:List Int}(h:xs.Pairwise (·<·)){a:Int}(ha:a∈xs):a<=ww xs:=by
 unfold ww;cases hx:xs.getLast? with
 |none=>rw[List.getLast?_eq_none_iff]at hx;subst hx;cases ha
 |some x=>
  obtain⟨ys,rfl⟩:=List.getLast?_eq_some_iff.1 hx;simp only[tK];rcases dX.1 ha with h1|h1
  ·have:=(Jg.1 h).2.2 a h1 x (bH.2 rfl);omega
  ·rw[bH.1 h1];exact Int.le_refl _
theorem adp{xs:List Int}{k:Nat}{x:Int}(h:xs.Pairwise (·<·))(hx:xs[k]? =some x)(h0:0<=x):ww (xs.take k)<x:=by
 unfold ww;cases hl:(xs.take k).getLast? with
 |none=>simp only[Option.getD_none];omega
 |some y=>
  simp only[tK];have hy:=List.mem_of_getLast? hl;have hd:xs=xs.take k++x::xs.drop (k+1):=by
   conv=>lhs;rw[<- rT k xs]
   rw[oQ (bN.1 hx).1,(bN.1 hx).2]
  rw[hd]at h;exact(Jg.1 h).2.2 y hy x (dL ..)
theorem Mv{s w h:Int}{holes:List Int}{vh:Value}(hw64:jU w)(adq:jU h)(hl:holes.length<4611686018427387904):
 bz Tryz.prog (.func 152) [.int .i64 s,.int .i64 w,.int .i64 h,vh] [] [] [ah aa vh holes] (mkV s w h holes) (λ_=>[]) (nX s w h holes) (λy=>y.ok=true↔nG s w h holes):=by
 have bad:¬nG s w h holes->∀{B:List Nat} {w0:Wd} {kl:List OA} {F:List aF} {l:List (Nat×Value)} {n b:Nat} {bn:List OA},lk l 8=ptr' b->lk l 9=.int .i64 130->ay (pt b (.cells Em)) kl bn->
  R (λh0=>AV Mr (Go.Ideal.Left B w0 (mkV s w h holes) (λ_=>[]) (nX s w h holes) (λy=>y.ok=true↔nG s w h holes)) .ret (act n l [] none none) h0) B w0 kl F:=by
  intro hno B w0 kl F l n b bn h8 h9 hk;refine Qv (bn:=kl) ⟨false,.nilFunc,.nilFunc⟩ (vs:=[.agg ⟨Em⟩,.int .i64 130]) ?_ rfl ⟨(λe=>by cases e),λe=>absurd e hno⟩ .nil .nil (.inr rfl);show RS l kl [.oZ 5 8,.tmp 9] _;exact .oZ h8 hk rfl (.tmp h9 .nil)
 refine aK Mr adk λB w0=>?_;refine go ?_;intro b8;refine go ?_;by_cases hsh:s=1\/s=2
 rotate_left
 ·rw[dZ (show s≠1 from λe=>hsh (.inl e))];refine go ?_;rw[dZ (show s≠2 from λe=>hsh (.inr e))];refine go ?_;exact bad (λh=>hsh h.sh) rfl rfl .here
 have hmk:∀sh,(sh=1\/sh=2)->(nG sh w h holes↔nG s w h holes):=λsh e=>⟨λq=>⟨hsh,q.wi,q.he,q.len,q.inc,q.mem⟩,λq=>⟨e,q.wi,q.he,q.len,q.inc,q.mem⟩⟩
 have h22:∀{B:List Nat} {w0:Wd} {kl:List OA} {F:List aF} {K:KO} {ds:List Tmp} {rest:List bR} {n:Nat} {l:List (Nat×Value)} {D:List Deferred},
  R (λh0=>aD Tryz.prog ds rest (act n ((22,.bool false)::(21,.bool false)::l) D none none) h0 K) B w0 kl F->R (λh0=>aD Tryz.prog ds rest (act n ((22,.bool false)::(21,.bool false)::l) D none none) h0 K) B w0 kl F:=λh=>h
 rcases hsh with rfl|rfl;all_goals
  refine go ?_;first|with_reducible refine aL (λa1=>?_) (λa1=>?_)|with_reducible refine aO (λa1=>?_) (λa1=>?_)|with_reducible refine aM (λa1=>?_) (λa1=>?_)
  rotate_left
  ·refine go ?_;exact bad (λq=>by have:=q.wi;omega) rfl rfl .here
  refine go ?_;first|with_reducible refine aL (λa2=>?_) (λa2=>?_)|with_reducible refine aO (λa2=>?_) (λa2=>?_)|with_reducible refine aM (λa2=>?_) (λa2=>?_)
  rotate_left
  ·refine go ?_;exact bad (λq=>by have:=q.wi;omega) rfl rfl .here
  refine go ?_;first|with_reducible refine aL (λa3=>?_) (λa3=>?_)|with_reducible refine aO (λa3=>?_) (λa3=>?_)|with_reducible refine aM (λa3=>?_) (λa3=>?_)
  rotate_left
  ·refine go ?_;exact bad (λq=>by have:=q.he;omega) rfl rfl .here
  refine go ?_;first|with_reducible refine aL (λa4=>?_) (λa4=>?_)|with_reducible refine aO (λa4=>?_) (λa4=>?_)|with_reducible refine aM (λa4=>?_) (λa4=>?_)
  rotate_left
  ·refine go ?_;exact bad (λq=>by have:=q.he;omega) rfl rfl .here
  have hwh:=vS (w:=w) (h:=h) ⟨by omega,by omega⟩ ⟨by omega,by omega⟩;refine go ?_;refine az rfl (λa5=>?_) (λa5=>?_)
  ·refine go ?_;exact bad (λq=>by have:=q.len;omega) rfl rfl .here
  refine go ?_;refine bi (λk=>holes.length - k) (λk:Nat=>[(49,.int .i64 (k:Int)),(10,.int .i64 (ww (holes.take k)))]) (λ_=>[]) (λ_=>[]) (λk=>k<=holes.length/\(holes.take k).Pairwise (·<·)/\∀x∈holes.take k,0<=x/\x<w*h) 0 ⟨cB _,by simp,by simp⟩ (body:=?_);rintro k ⟨hk,lV,hmem⟩;refine go ?_;refine az rfl (λa6=>?_) (λa6=>?_)
  ·refine go ?_;intro _ _ x hx;refine go ?_;have hxm:=bI hx;first|with_reducible refine aL (λa7=>?_) (λa7=>?_)|with_reducible refine aO (λa7=>?_) (λa7=>?_)|with_reducible refine aM (λa7=>?_) (λa7=>?_)
   rotate_left
   ·refine go ?_;exact bad (λq=>by
     have h1:=q.inc;have h2:=q.mem x hxm;have:=adp h1 hx h2.1;omega) rfl rfl .here
   refine go ?_;refine az rfl (λa8=>?_) (λa8=>?_)
   ·refine go ?_;exact bad (λq=>by have:=q.mem x hxm;omega) rfl rfl .here
   refine go ?_;have htk:holes.take (k+1)=holes.take k++[x]:=by rw[l9,hx];rfl
   refine aQ (k+1) (by omega) ⟨by omega,?_,?_⟩ (hl:=⟨rfl,by rw[htk,TH];rfl,by repeat (first|exact trivial|refine⟨rfl,?_⟩)⟩)
   ·rw[htk,Jg];refine⟨lV,by simp,λa ha b hb=>?_⟩;rw[bH.1 hb];have:=TI lV ha;omega
   ·rw[htk];intro z hz;rcases dX.1 hz with hz|hz
    ·exact hmem z hz
    ·rw[bH.1 hz];have:=ado (λy hy=>(hmem y hy).1);omega
  have hkl:k=holes.length:=by omega
  subst hkl;rw[bK]at lV hmem;have hok:∀s',(s'=1\/s'=2)->nG s' w h holes:=λs' hs'=>⟨hs',⟨by omega,by omega⟩,⟨by omega,by omega⟩,by omega,lV,hmem⟩
  obtain⟨m,hm⟩:=tO (show 0<=w*h by omega);have En:lU w h holes=gB m holes:=by
   unfold lU;rw[hm];rfl
  refine go ?_;refine Lp aa vh (λxh hxh=>?_);have hxl:xh.length=holes.length:=by rw[<- hxh,bU]
  refine ax (TG (aJ:=xh) (by omega)) (next:=λv1 _=>?_);refine GZ (E:=aa) (v:=v1) (aJ:=xh) ?_ (λw h p hp f hf=>by cases hf);rw[hxh];refine aV (E:=aa) (v:=v1) (xs:=holes) (by simp) λa1 c1 e1=>?_;subst e1;refine go ?_;rw[hm];refine gz aa ?_;refine bi (λy:Nat×Option Addr=>m - y.1) (λy=>[(75,.int .i64 (y.1:Int))]) (λy=>[pt b8 (.cells [.int .i64 _,.int .i64 w,.int .i64 h,.slice a1 holes.length c1,.slice y.2 (gB y.1 holes).length (gB y.1 holes).length]),ap aa (.slice y.2 (gB y.1 holes).length (gB y.1 holes).length) (gB y.1 holes)]) (λ_=>[]) (λy=>y.1<=m) (0,none) (cB _) (hk:=by repeat (first|exact aH.nil|(apply aH.cons;(focus (repeat (first|exact ay.here|apply ay.there)))))) (body:=?_);rintro⟨k,ad⟩ hk;dsimp only at hk⊢;have hcl:=BC k holes;refine go ?_;refine az rfl (λa9=>?_) (λa9=>?_)
  ·refine go ?_;refine ax (TF (xs:=holes) (z:=(k:Int)) hl (lV.imp (λh=>Int.le_of_lt h))) (next:=λy hy=>?_);have hmm:=hy.mem lV;clear hy;obtain⟨n,b⟩:=y;dsimp only at hmm;refine go ?_;cases b with
   |true=>
    refine go ?_;have e1:gB (k+1) holes=gB k holes:=by rw[Ht,if_pos (hmm.1 rfl),gK]
    rw[<- e1];exact aQ (k+1,ad) (by show m - (k+1)<m - k;omega) (by show k+1<=m;omega)
   |false=>
    have hnm:¬(k:Int)∈holes:=λh=>by have:=hmm.2 h;cases this
    have e1:gB k holes++[(k:Int)]=gB (k+1) holes:=by rw[Ht,if_neg hnm]
    have e2:(gB k holes).length+1=(gB (k+1) holes).length:=by rw[<- e1];simp
    refine go ?_;intro b89;refine go ?_;refine eY aa (xs:=gB k holes) (k:Int) () (by omega) λad'=>?_;rw[e1,e2];refine go ?_;exact aQ (k+1,ad') (by show m - (k+1)<m - k;omega) (by show k+1<=m;omega)
  have hkm:k=m:=by omega
  subst hkm;refine go ?_;refine bC gy (A:=ap aa (.slice ad (gB k holes).length (gB k holes).length) (gB k holes)) (h:=?_);refine go ?_;refine ae ⟨true,.slice a1 holes.length c1,.slice ad (gB k holes).length (gB k holes).length⟩ (hv:=rfl) (hp:=⟨λ_=>hok _ (by first|exact .inl rfl|exact .inr rfl),λ_=>rfl⟩) (hF:=?_);show Sub [ah aa _ holes,ah aa _ (lU w h holes)] _;rw[En];exact .cons (by simp) (.cons (by simp) .nil)
end Go.Proofs.YtoohgkkmdnbnfaaGreatDoor
namespace Go.Proofs.YtoohgkkmdnbnfaaGreatDoor
open Go.Ideal Kd
structure pK(g:bq):Prop where
 w:jU g.w
 h:jU g.h
 holes:g.holes.length<4611686018427387904
 cells:g.cells.length<4611686018427387904
theorem TJ{g:bq}{vh vc:Value}(hS:pK g):
 bz Tryz.prog (.func 230) [.agg ⟨iI g vh vc⟩] [] [] (je g vh vc) (λe:Int=>.int .i64 e) (λ_=>[]) (λ_=>[]) (λe=>e=0↔eP g):=by
 refine aK _ (aP 230) λB w0=>?_;refine go ?_;intro b1;refine go ?_;refine ax (Mv (s:=g.shape) (w:=g.w) (h:=g.h) (holes:=g.holes) (vh:=vh) hS.w hS.h hS.holes) (next:=λy hy=>?_);obtain⟨ok,v1,v2⟩:=y;cases ok with
 |false=>
  have hno:¬nG g.shape g.w g.h g.holes:=λh=>by have:=hy.2 h;cases this
  dsimp only[mkV,nX,cond,List.nil_append];refine go ?_;intro b3;refine go ?_;exact ae 130 (hv:=rfl) (hp:=⟨(λh=>by cases h),λh=>absurd h.make hno⟩)
 |true=>
  have hmk:=hy.1 rfl;dsimp only[mkV,nX,cond,je,uG,List.cons_append,List.nil_append];refine go ?_;intro b3;refine go ?_;refine ax (zH (xs:=lU g.w g.h g.holes) (ys:=g.cells) (by
   have:=BC (g.w*g.h).toNat g.holes;have:=vS hmk.wi hmk.he;unfold lU;omega)) (next:=λ_ _=>?_)
  refine go ?_;refine eO rfl (λh1=>?_) (λh1=>?_)
  ·refine go ?_;exact ae 130 (hv:=rfl) (hp:=⟨(λh=>by cases h),λh=>absurd h.cells.symm h1⟩)
  ·refine go ?_;exact ae 0 (hv:=rfl) (hp:=⟨λ_=>⟨hmk,h1.symm⟩,λ_=>rfl⟩)
abbrev adt(x:Int×(Int×Int)):List Value:=[.int .i64 x.1,zy x.2]
theorem Mw{b1:Nat}{g:bq}{vh vc:Value}(hg:eP g):ry Tryz.prog adt (.func 263) [] [ptr' b1] [eB b1 0 (iI g vh vc),ah aa vc g.cells] (λxs=>xs=bA g):=by
 intro S inv ok step s0 uq y1 y2 F' h0 hok hy;have hgl:=hg.len;have Eo:=hg.make.wi;rw[dF,dF,bY];refine aK _ (aP 263) λB w0=>?_;refine go ?_;refine bi (λy:Nat×S=>g.cells.length - y.1) (λy=>[(10,.int .i64 (y.1:Int))]) (λy=>inv y.2) (λ_=>[]) (λy=>y.1<=g.cells.length/\ok ((bA g).take y.1) y.2/\gM step y.2 ((bA g).drop y.1)=gM step s0 (bA g)) (0,s0) ⟨cB _,h0,rfl⟩ (body:=?_);rintro⟨k,s⟩ ⟨hk,hos,hrun⟩;dsimp only at hk hos hrun⊢;refine go ?_;refine az rfl (λh1=>?_) (λh1=>?_)
 ·refine go ?_;intro _ _ x hx;have hxb:=hg.cell x (bI hx);have hsp:=vT hx;have hd:(bA g).drop k=((k:Int),mG g x)::(bA g).drop (k+1):=by
   rw[oQ (by rw[nV];omega)];congr 1;rw[cz (by rw[nV];omega)]at hsp;exact Option.some.inj hsp
  have hX:(bA g).take k++((k:Int),mG g x)::(bA g).drop (k+1)=bA g:=by rw[<- hd,rT]
  refine go ?_;refine(fJ rfl rfl (KZ (a:=x) (b:=g.w) rfl rfl (by omega))).h ?_;refine go ?_;have hq:0<=x.tdiv g.w/\x.tdiv g.w<=x:=by
   rw[rW hxb.1];exact⟨Jf hxb.1 (by omega),Int.ediv_le_self _ hxb.1⟩
  have hr:0<=x.tmod g.w/\x.tmod g.w<=x:=by
   rw[Cr hxb.1];refine⟨Int.emod_nonneg _ (by omega),?_⟩;have:=NR x g.w;have h3:0<=g.w*(x/g.w):=Int.mul_nonneg (by omega) (Jf hxb.1 (by omega));omega
  refine(fJ rfl rfl (GK (a:=x) (b:=g.w) rfl rfl (by omega) (by omega) (by omega))).h ?_;refine go ?_;refine az rfl (λh2=>?_) (λh2=>?_)
  ·have hso:mG g x=(x.tmod g.w - (x.tdiv g.w).tdiv 2,x.tdiv g.w):=by unfold mG;rw[if_pos h2]
   have hq2:0<=(x.tdiv g.w).tdiv 2/\(x.tdiv g.w).tdiv 2<=x.tdiv g.w:=by
    rw[rW hq.1];omega
   rw[hso]at hX hd;have nK:=hy _ s _ _ hos hX;refine go ?_;refine(fJ rfl rfl (GK (a:=x.tdiv g.w) (b:=2) rfl rfl (by omega) (by omega) (by omega))).h ?_;refine go ?_;refine ax nK (next:=λ_ _=>?_);rw[hd,gM]at hrun;refine go ?_;cases hst:step s ((k:Int),_)with
   |mk s' b=>
    have hst:=hst;rw[hst]at hrun;cases b with
    |true=>
     refine go ?_;refine aQ (k+1,s') (by show g.cells.length - (k+1)<g.cells.length - k;omega) ⟨by show k+1<=_;omega,?_,hrun⟩;have:=hok _ s _ _ hos hX (by rw[hst]);rw[hst]at this;rw[show(bA g).take (k+1)=(bA g).take k++[_]from by rw[l9,hsp];rfl];rw[hso];exact this
    |false=>
     refine go ?_;exact ae (bA g) (hv:=rfl) (hp:=rfl) (hk:=by rw[<- hrun];exact aH.all _)
  ·have hso:mG g x=(x.tmod g.w,x.tdiv g.w):=by unfold mG;rw[if_neg h2]
   rw[hso]at hX hd;have nK:=hy _ s _ _ hos hX;refine go ?_;refine ax nK (next:=λ_ _=>?_);rw[hd,gM]at hrun;refine go ?_;cases hst:step s ((k:Int),_)with
   |mk s' b=>
    have hst:=hst;rw[hst]at hrun;cases b with
    |true=>
     refine go ?_;refine aQ (k+1,s') (by show g.cells.length - (k+1)<g.cells.length - k;omega) ⟨by show k+1<=_;omega,?_,hrun⟩;have:=hok _ s _ _ hos hX (by rw[hst]);rw[hst]at this;rw[show(bA g).take (k+1)=(bA g).take k++[_]from by rw[l9,hsp];rfl];rw[hso];exact this
    |false=>
     refine go ?_;exact ae (bA g) (hv:=rfl) (hp:=rfl) (hk:=by rw[<- hrun];exact aH.all _)
 have hkl:k=(bA g).length:=by rw[nV];omega
 rw[hkl,List.drop_length]at hrun;refine go ?_;exact ae (bA g) (hv:=rfl) (hp:=rfl) (hk:=by rw[<- hrun];exact aH.all _)
end Go.Proofs.YtoohgkkmdnbnfaaGreatDoor
namespace Go.Proofs.YtoohgkkmdnbnfaaGreatDoor
open Go.Ideal Kd
theorem Mx:vF (nu Tryz.prog o9 pg):=xq _ _ _ (λf q h v h' hm=>by cases hm)
theorem adu(h:IH)(K:BR):(yU (nu Tryz.prog o9 pg) 1000).call ⟨.func 73,[.int .u64 0],[],none⟩ h K=K (.ok (.int .i64 0)) none h:=by kernel_rfl
theorem adv:dG Tryz.prog 73 [.int .u64 0] [] (.int .i64 0):=λB w s=>by
 have h2:=adu w.h λr pm h'=> @decide (pm=none/\r=.ok (.int .i64 0)/\h'=w.h) (Classical.propDecidable _);have h1:=Du Mx (h2.trans (@dZ _ (Classical.propDecidable _) ⟨rfl,rfl,rfl⟩));refine .qj _ h1 λr pm h' hg=>?_;obtain⟨rfl,rfl,rfl⟩:= @gQ _ (Classical.propDecidable _) hg;exact⟨rfl,w,(),rfl,s,rfl,trivial⟩
theorem adw{a:Option Addr}{c:Nat}:dG Tryz.prog 293 [.slice a 0 c,.int .i64 0,.int .i64 0] [] (.tuple ⟨[]⟩):=by
 refine aK _ (aP 293) λB w0=>?_;refine go ?_;refine oD ?_;refine go ?_;exact ae () (hv:=rfl) (hp:=trivial)
theorem adx{a:Option Addr}{c:Nat}:dG Tryz.prog 264 [.slice a 0 c,.int .i64 0,.int .i64 0,.int .i64 0] [] (.tuple ⟨[]⟩):=by
 refine aK _ (aP 264) λB w0=>?_;refine go ?_;refine oD ?_;refine go ?_;refine ax (adw (a:=a) (c:=c)) (next:=λ_ _=>?_);refine go ?_;exact ae () (hv:=rfl) (hp:=trivial)
theorem ady{a:Option Addr}{c:Nat}:dG Tryz.prog 232 [.slice a 0 c] [] (.tuple ⟨[]⟩):=by
 refine aK Mo TD λB w0=>?_;refine go ?_;refine(fJ rfl rfl (DZ (k:=.u64) (m:=0) (by kernel_rfl:Tryz.prog.underlying 3=some (.int .i64)) (by kernel_rfl) rfl (by rfl))).h ?_;refine ax adv (next:=λ_ _=>?_);refine go ?_;refine ax (adx (a:=a) (c:=c)) (next:=λ_ _=>?_);refine go ?_;exact ae () (hv:=rfl) (hp:=trivial)
theorem adz:∃fn body,Tryz.prog.funcs[232]? =some fn/\fn.body=some body/\fn.name≠ "runtime.NumGoroutine" :=by
 obtain⟨fn,h1,h2⟩:=Mx.fn 232 Mo TD;have h3:Tryz.prog.funcs[232]? =some fn:=h1;have h4:(fn.name== "runtime.NumGoroutine")=false:=by
  have e:(Tryz.prog.funcs[232]?).map (λf=>f.name== "runtime.NumGoroutine")=some false:=by kernel_rfl
  rw[h3]at e;exact Option.some.inj e
 have h5:fn.body.isSome=true:=by
  have e:(Tryz.prog.funcs[232]?).map (λf=>f.body.isSome)=some true:=by kernel_rfl
  rw[h3]at e;exact Option.some.inj e
 obtain⟨body,hb⟩:=NH.1 h5;exact⟨fn,body,h3,hb,by simpa using h4⟩
theorem MB{a:Option Addr}{m:Nat}{zs:List Int}(hm:m=zs.length)(hl:zs.length<4611686018427387904):
 bz Tryz.prog (.func 232) [.slice a m m] [] [ap aa (.slice a m m) zs] [] (λ_:Unit=>.tuple ⟨[]⟩) (λ_=>[ap aa (.slice a m m) (cK zs)]) (λ_=>[]) (λ_=>True):=by
 subst hm;obtain⟨fn,body,h1,h2,h3⟩:=adz;by_cases hz:zs=[]
 ·subst hz;have e:cK []=[]:=by simp[cK]
  rw[e];intro B w s;obtain⟨S1,s1,back⟩:=s.Ld (k1:=[]) (bn:=[ap aa (.slice a 0 0) []]) (F1:=[]) .nil .nil;refine .qj _ (ady (a:=a) (c:=0) S1 w s1) ?_;rintro r pm h' ⟨hp,w',y,e1,st,e2,_⟩;exact⟨hp,w',(),e1,back w' _ _ st,e2,trivial⟩
 ·exact aaQ srt h1 h2 h3 (Ci.2 hz) hl
theorem TK:qo Tryz.prog 265 zy:=aa2 (e:=3) (by kernel_rfl) (by kernel_rfl) (by kernel_rfl) (λa b=>by kernel_rfl)
theorem MC{g:bq}{vh vc:Value}:bz Tryz.prog (.func 231) [.agg ⟨iI g vh vc⟩] [] [] (je g vh vc) (λb:Nat=>.func (.func 263) #[] #[ptr' b]) (λ_=>[]) (λb=>[eB b 0 (iI g vh vc),ah aa vc g.cells]) (λ_=>True):=by
 refine aK _ (aP 231) λB w0=>?_;refine go ?_;intro b1;refine go ?_;refine bC (eH (b:=b1)) (h:=?_);exact ae b1 (hv:=rfl) (hp:=trivial)
def l5(c:Prop)(f:aF):aF:=⟨λw=>c->f.p w,λa h e=>f.mono a (h e)⟩
theorem lD{B:List Nat}{w0:Wd}{kl:List OA}{F:List aF}{Q:IH->Prop}{c:Prop}{f:aF}(hc:¬c)(h:R Q B w0 kl (l5 c f::F)):R Q B w0 kl F:=fu (l5 c f) (λw _ e=>absurd e hc) h
theorem kJ{B:List Nat}{w0:Wd}{kl:List OA}{F:List aF}{Q:IH->Prop}{c:Prop}{f:aF}(hf:f∈F)(h:R Q B w0 kl (l5 c f::F)):R Q B w0 kl F:=fu (l5 c f) (λw hw _=>hw f hf) h
structure ME where
 v:Value
 e:Int
abbrev uH(y:ME):Value:=.tuple ⟨[y.v,.int .i64 y.e]⟩
theorem Iq{S α:Type}(f:S->α->S):∀(xs:List α) (s:S),jc (λs x=>(f s x,Out.normal)) s xs=(xs.foldl f s,.normal)
 |[],s=>rfl
 |x::xs,s=>by
  show jc (λs x=>(f s x,Out.normal)) (f s x) xs=_;rw[Iq f xs];rfl
section
variable {P:Program} {B:List Nat} {w0:Wd} {kl kl':List OA} {F:List aF} {Q:IH->Prop}
theorem adA{b:Nat}{cs cs':List Value}(e:cs=cs')(h:R Q B w0 (pt b (.cells cs')::kl') F)(hk:ay (pt b (.cells cs)) kl kl':=by exact gH):R Q B w0 kl F:=by
 subst e;exact λw s=>h w (s.gF hk)
theorem oL{α:Type}{E:Enc α}{v:Value}{xs:List α}(h:∀a,v=.slice a xs.length xs.length->R Q B w0 kl F)(hk:ay (ap E v xs) kl kl':=by exact gH):R Q B w0 kl F:=λw s=>by
 obtain⟨S,⟨S1,S2,q,_⟩,_⟩:=(s.gF hk).own;obtain⟨a,e⟩:=KX q;exact h a e w s
end
abbrev zK(b n:Nat):Value:=.slice (some ⟨b,0,some 0⟩) n n
theorem TL{g:bq}{vh vc:Value}(hS:pK g):
 bz Tryz.prog (.func 153) [.agg ⟨iI g vh vc⟩] [] [] (je g vh vc) uH (λ_=>[]) (λy=>[l5 (y.e=0) (ah (rD aa) y.v (bG g))]) (λy=>y.e=0↔eP g):=by
 refine DK _ (aP 153) λB w0=>?_;refine go ?_;intro b1 b2;refine go ?_;refine ax (TJ (g:=g) hS) (next:=λe he=>?_);refine go ?_;refine az rfl (λh1=>?_) (λh1=>?_)
 ·refine go ?_;refine lD (c:=(130:Int)=0) (f:=ah (rD aa) (.slice none 0 0) (bG g)) (by omega) ?_;exact Bh ⟨.slice none 0 0,130⟩ (hv:=rfl) (hp:=⟨(λh=>by cases h),λh=>absurd (he.2 h) h1⟩)
 have hg:=he.1 (by omega);have hgl:=hg.len;have hsb:=Hw hg;have hsl:=nV g;refine go ?_;intro b4 b5;refine go ?_;refine QL (bn:=[pt b4 (.cells BD),pt b2 (.cells [.slice none 0 0]),pt b1 (.cells (iI g vh vc))]) [] (λ_:Unit=>[]) (λ_=>[pt b5 (.cells [.int .i64 (dP g:Int)])]) (λ_=>[]) (λ_=>True) (hx:=?_) (hy:=?_)
 ·refine az rfl (λh2=>?_) (λh2=>?_)
  ·refine go ?_;rw[show(4:Int)=(dP g:Int)by unfold dP;rw[if_pos h2];rfl];exact GU () trivial
  ·refine go ?_;rw[show(6:Int)=(dP g:Int)by unfold dP;rw[if_neg h2];rfl];exact GU () trivial
 intro _ _;refine go ?_;refine xO zy (λbm=>?_);refine go ?_;intro b6;refine go ?_;refine ax (MC (g:=g) (vh:=vh) (vc:=vc)) (next:=λbs _=>?_);refine go ?_;refine DV (Z:=Nat) (λ(m:List ((Int×Int)×Value)) (x:Int×(Int×Int))=>(upd x.2 (.int .i64 x.1) m,.normal)) (λm=>[gI zy bm m,pt b6 (.cells [.map (some bm)])]) (λvs m=>m=eT vs) [] _ (λx b8=>[pt b8 (.cells [.int .i64 x.2.1,.int .i64 x.2.2])]) rfl (λvs s x rest hs _ _=>by rw[hs,LM]) (Mw (b1:=bs) (vh:=vh) (vc:=vc) hg) (by intro s x lo o B w0;refine go ?_;intro b8;refine go ?_;exact zw b8 rfl) ?_ ?_ (λ_ _=>trivial)
 ·intro vs s x rest b8 lo L B w0 hs hX;dsimp only[List.cons_append,List.nil_append];refine go ?_;refine vO TK x.2 (v:=.int .i64 x.1) ?_;refine go ?_;exact uo () rfl trivial trivial
 intro r1 xs hxs;subst hxs;rw[Iq (λ(m:List ((Int×Int)×Value)) (x:Int×(Int×Int))=>upd x.2 (.int .i64 x.1) m)];dsimp only[List.cons_append,List.nil_append];rw[show(bA g).foldl (λ(m:List ((Int×Int)×Value)) (x:Int×(Int×Int))=>upd x.2 (.int .i64 x.1) m) []=eT (bA g)from rfl];refine bC (Bn (b:=bm)) (h:=?_);refine bC (eH (b:=b6)) (h:=?_);refine go ?_;refine aau g.cells.length ⟨by omega,by omega,by omega⟩ λbl=>?_;rw[show zeros [.slice none 0 0] g.cells.length=List.replicate g.cells.length (.slice none 0 0)from P9 _ _];refine abd (kF aa) (x0:=([]:List Int)) (λw=>⟨.inl ⟨rfl,rfl,rfl⟩,λ_=>rfl⟩) (h:=?_);refine go ?_;refine ax (MC (g:=g) (vh:=vh) (vc:=vc)) (next:=λbs2 _=>?_);refine go ?_;refine bC (eH (b:=b4)) (h:=?_);refine bC (eH (b:=b5)) (h:=?_);have hml:(dW.take (dP g)).length=dP g:=by rw[iy];show min (dP g) 6=_;have:=zA g;omega
 refine fu (ah LP (.slice (some ⟨b4,0,some 0⟩) (dP g) 6) (dW.take (dP g))) (λw h=>abH (h (eB b4 0 BD) (dI _ (dL ..))) (zA g)) ?_;refine DV (Z:=Nat) (λ(xss:List (List Int)) (x:Int×(Int×Int))=>(xss.set x.1.toNat (kP g x),.normal)) (λxss=>[mR (kF aa) bl xss,pt b2 (.cells [zK bl g.cells.length])]) (λvs xss=>xss=vs.map (kP g)++List.replicate (g.cells.length - vs.length) []) (List.replicate g.cells.length []) _ (λx b10=>[pt b10 (.cells [.int .i64 x.2.1,.int .i64 x.2.2])]) (by simp) (λvs s x rest hs hX _=>by
  have h1:=Hy hX;rw[hs,h1.1];have:=Sc (A:=vs.map (kP g)) (n:=g.cells.length) (by rw[bU];exact h1.2.1) (kP g x);rw[bU]at this;rw[Cj,this,dY,gD];rfl) (Mw (b1:=bs2) (vh:=vh) (vc:=vc) hg) (by intro s x lo o B w0;refine go ?_;intro b8;refine go ?_;exact zw b8 rfl) ?_ ?_ (λ_ _=>trivial)
 ·intro vs xss x rest b10 lo L B w0 hs hX;dsimp only[List.cons_append,List.nil_append];obtain⟨hc,hvl,hxm⟩:=Hy hX;have hbx:=hsb x hxm;obtain⟨c,s1,s2⟩:=x;dsimp only at hc hbx;subst hc;have hxk:xss[vs.length]? =some []:=by
   rw[hs,qG (by simp),bU,Ae,List.getElem?_replicate,if_pos (by omega)]
  have hxl:xss.length=g.cells.length:=by rw[hs];simp;omega
  refine go ?_;refine(fJ rfl rfl (abK (m:=dP g) rfl rfl (zA g))).h ?_;refine go ?_;refine Bu (A:=mR (kF aa) bl xss) (A':=mR (kF aa) bl (xss.set vs.length (fU (eT (bA g)) (s1,s2) ((dW.take (dP g)).take 0)))) (congrArg (mR (kF aa) bl) (by
   apply ku;intro i;rw[uM];by_cases hi:vs.length=i
   ·subst hi;rw[if_pos rfl,if_pos (by omega),hxk];rfl
   ·rw[if_neg hi])) ?_
  refine bi (λj=>dP g - j) (λj:Nat=>[(47,.int .i64 (j:Int))]) (λj=>[mR (kF aa) bl (xss.set vs.length (fU (eT (bA g)) (s1,s2) ((dW.take (dP g)).take j)))]) (λ_=>[]) (λj=>j<=dP g) 0 (cB _) (body:=?_);intro j hj;refine go ?_;refine az rfl (λh2=>?_) (λh2=>?_)
  ·refine go ?_;obtain⟨dd,hd⟩:∃dd,(dW.take (dP g))[j]? =some dd:=⟨_,cz (by omega)⟩
   have hdb:=abI dd (NC (bI hd));have hdv:iT (jw BD (j*2)) 2=some [.int .i64 dd.1,.int .i64 dd.2]:=abJ (j:=j) (d:=dd) (by rw[tL]at hd;split at hd;exact hd;cases hd)
   have hnr:=abG (eT (bA g)) (s1,s2) ((dW.take (dP g)).take j) dd;rw[<- bX hd]at hnr;have hnl:=Hu (eT (bA g)) (s1,s2) ((dW.take (dP g)).take j);have hjm:=zA g;rw[iy]at hnl;obtain⟨d1,d2⟩:=dd;dsimp only at hdb hdv hnr;refine(KW (o:=0) (j:=j*2) (cs:=BD) rfl rfl rfl (dI _ (dI _ (dL ..))) hdv).h ?_;refine go ?_;intro b12;refine go ?_;refine(fJ rfl rfl (A9 (a:=s1) (b:=d1) rfl rfl (by omega) (by omega))).h ?_;refine go ?_;refine(fJ rfl rfl (A9 (a:=s2) (b:=d2) rfl rfl (by omega) (by omega))).h ?_;refine go ?_;refine Tt TK (s1+d1,s2+d2) (λv hv hm=>?_) (λhm=>?_)
   ·obtain⟨c,rfl,hc⟩:=Sb _ _ hv;rw[hv]at hnr;refine go ?_;refine RH (kF aa) (b:=bl) (xss:=xss.set vs.length (fU (eT (bA g)) (s1,s2) ((dW.take (dP g)).take j))) (k:=vs.length) (xs:=fU (eT (bA g)) (s1,s2) ((dW.take (dP g)).take j)) (by rw[uM,if_pos rfl,if_pos (by omega)]) (h:=λws v Ep hv2=>?_);rw[Cs]at Ep;refine RJ aa v (fU (eT (bA g)) (s1,s2) ((dW.take (dP g)).take j)) (λhz=>?_);refine vL (o:=0+vs.length*1) (cs:=ws) v (by rw[fw,Nat.mul_one];exact hv2) ?_;refine go ?_;intro b43;refine go ?_;refine Rw (xs:=fU (eT (bA g)) (s1,s2) ((dW.take (dP g)).take j)) aa c () (by omega) (next:=λad=>?_);rw[show fU (eT (bA g)) (s1,s2) ((dW.take (dP g)).take j)++[c]=fU (eT (bA g)) (s1,s2) ((dW.take (dP g)).take (j+1))from hnr.symm];refine go ?_;refine xL (o:=0+vs.length*1) (cs:=ws) (v:=.slice ad ((fU (eT (bA g)) (s1,s2) ((dW.take (dP g)).take j)).length+1) ((fU (eT (bA g)) (s1,s2) ((dW.take (dP g)).take j)).length+1)) (cs':=ws.set vs.length (.slice ad ((fU (eT (bA g)) (s1,s2) ((dW.take (dP g)).take j)).length+1) ((fU (eT (bA g)) (s1,s2) ((dW.take (dP g)).take j)).length+1))) (by rw[fw,Nat.mul_one]) (by omega) ?_;refine RN aa (.slice ad ((fU (eT (bA g)) (s1,s2) ((dW.take (dP g)).take j)).length+1) ((fU (eT (bA g)) (s1,s2) ((dW.take (dP g)).take j)).length+1)) (fU (eT (bA g)) (s1,s2) ((dW.take (dP g)).take (j+1))) (λe=>by rw[hnr]at e;exact absurd e (by show¬(_++[c]=[]);simp)) ?_;refine RI (kF aa) (b:=bl) (xss:=xss.set vs.length (fU (eT (bA g)) (s1,s2) ((dW.take (dP g)).take j))) (vs:=ws) (k:=vs.length) (xs:=fU (eT (bA g)) (s1,s2) ((dW.take (dP g)).take (j+1))) (by rw[Cs];exact Ep) (by rw[Cs];omega) (h:=?_);rw[List.set_set];refine go ?_;exact aQ (j+1) (by omega) (by omega)
   ·rw[qp hm]at hnr;refine go ?_;refine Bu (A:=mR (kF aa) bl (xss.set vs.length (fU (eT (bA g)) (s1,s2) ((dW.take (dP g)).take j)))) (A':=mR (kF aa) bl (xss.set vs.length (fU (eT (bA g)) (s1,s2) ((dW.take (dP g)).take (j+1))))) (congrArg (mR (kF aa) bl) ((by rw[hnr];exact congrArg (xss.set vs.length) (gK _).symm))) ?_;exact aQ (j+1) (by omega) (by omega)
  have hjl:j=dP g:=by omega
  subst hjl;refine Bu (A:=mR (kF aa) bl (xss.set vs.length (fU (eT (bA g)) (s1,s2) ((dW.take (dP g)).take (dP g))))) (A':=mR (kF aa) bl (xss.set vs.length (fU (eT (bA g)) (s1,s2) (dW.take (dP g))))) (congrArg (mR (kF aa) bl) ((congrArg (λz=>xss.set vs.length (fU (eT (bA g)) (s1,s2) z)) (uO (Nat.le_of_eq hml))))) ?_;refine go ?_;refine RH (kF aa) (b:=bl) (xss:=xss.set vs.length (fU (eT (bA g)) (s1,s2) (dW.take (dP g)))) (k:=vs.length) (xs:=fU (eT (bA g)) (s1,s2) (dW.take (dP g))) (by rw[uM,if_pos rfl,if_pos (by omega)]) (h:=λws v Ep hv2=>?_);rw[Cs]at Ep;refine RJ aa v (fU (eT (bA g)) (s1,s2) (dW.take (dP g))) (λhz=>?_);refine vL (o:=0+vs.length*1) (cs:=ws) v (by rw[fw,Nat.mul_one];exact hv2) ?_;have hn6:=Hu (eT (bA g)) (s1,s2) (dW.take (dP g));rw[hml]at hn6;have hjm:=zA g;refine oL (E:=aa) (v:=v) (xs:=fU (eT (bA g)) (s1,s2) (dW.take (dP g))) λa hv=>?_;subst hv;refine ax (MB (a:=a) (zs:=fU (eT (bA g)) (s1,s2) (dW.take (dP g))) rfl (by omega)) (next:=λ_ _=>?_);refine adA (b:=bl) (cs:=ws) (cs':=ws.set vs.length (.slice a (fU (eT (bA g)) (s1,s2) (dW.take (dP g))).length (fU (eT (bA g)) (s1,s2) (dW.take (dP g))).length)) (abL hv2).symm ?_;refine RN aa (.slice a (fU (eT (bA g)) (s1,s2) (dW.take (dP g))).length (fU (eT (bA g)) (s1,s2) (dW.take (dP g))).length) (cK (fU (eT (bA g)) (s1,s2) (dW.take (dP g)))) (λe=>hz (jI.1 (by rw[<- zu,e];rfl))) ?_;refine RI (kF aa) (b:=bl) (xss:=xss.set vs.length (fU (eT (bA g)) (s1,s2) (dW.take (dP g)))) (vs:=ws) (k:=vs.length) (xs:=cK (fU (eT (bA g)) (s1,s2) (dW.take (dP g)))) (by rw[Cs];exact Ep) (by rw[Cs];omega) (h:=?_);refine Bu (A:=mR (kF aa) bl ((xss.set vs.length (fU (eT (bA g)) (s1,s2) (dW.take (dP g)))).set vs.length (cK (fU (eT (bA g)) (s1,s2) (dW.take (dP g)))))) (A':=mR (kF aa) bl (xss.set ((vs.length:Int)).toNat (kP g ((vs.length:Int),s1,s2)))) (congrArg (mR (kF aa) bl) ((by rw[List.set_set,Cj];rfl))) ?_;refine go ?_;exact uo () rfl trivial trivial
 intro r2 xs2 adD;subst adD;rw[Iq (λ(xss:List (List Int)) (x:Int×(Int×Int))=>xss.set x.1.toNat (kP g x))];dsimp only[List.cons_append,List.nil_append];rw[show(bA g).foldl (λ(xss:List (List Int)) (x:Int×(Int×Int))=>xss.set x.1.toNat (kP g x)) (List.replicate g.cells.length [])=bG g from abM g];refine bC (abe (A:=kF aa) (E:=rD aa) (b:=bl) (xss:=bG g) (c:=(bG g).length) (λv=>v) rfl (λ_ _=>rfl) (λv xs=>abf)) (h:=?_);rw[vV];refine go ?_;refine kJ (c:=(0:Int)=0) (f:=ah (rD aa) (.slice (some ⟨bl,0,some 0⟩) g.cells.length g.cells.length) (bG g)) (by simp) ?_;exact Bh ⟨.slice (some ⟨bl,0,some 0⟩) g.cells.length g.cells.length,0⟩ (hv:=rfl) (hp:=⟨λ_=>hg,λ_=>rfl⟩)
