/-
  Lists compared: of lists, names, symbols, regions, clues, rules.
-/
import Derived.Test.YtoohgkkmdnbnfaaGreatDoorLibAD
import Derived.Test.YtoohgkkmdnbnfaaGreatDoorShelf
import Derived.Test.YtoohgkkmdnbnfaaGreatDoorIdealOD
set_option linter.all false
set_option maxRecDepth 10000
set_option maxHeartbeats 2000000
namespace Go.Proofs.YtoohgkkmdnbnfaaGreatDoor
open Go.Ideal Kd
theorem TU{va vb:Value}{xs ys:List (List Int)}(hal:xs.length<9223372036854775808)(hl:∀l∈xs,l.length<9223372036854775808):cK Tryz.prog 157 [va,vb,.func (.func 104) #[] #[]] [ah (aj aa) va xs,ah (aj aa) vb ys] (.bool (decide (xs=ys))):=by
 refine aI _ (aO 157) λB w0=>?_;refine go ?_;refine ay rfl (λh1=>?_) (λh1=>?_)
 ·refine go ?_;refine ae () (hv:=?_) (hp:=trivial);rw[aU (λe=>h1 (by rw[e]))];rfl
 have hlen:xs.length=ys.length:=by omega
 refine go ?_;refine aZ (λk=>xs.length - k) (λk:Nat=>[(17,.int .i64 (k:Int))]) (λ_=>[]) (λ_=>[]) (λk=>k<=xs.length/\∀j,j<k->xs[j]? =ys[j]?) 0 ⟨by omega,λj hj=>by omega⟩ (body:=?_);rintro k ⟨hkx,hsame⟩;refine go ?_;refine ay rfl (λh2=>?_) (λh2=>?_)
 ·refine go ?_;refine bi (aj aa) (next:=λ_ _ x (vx:Value) hx=>?_);refine go ?_;refine bi (aj aa) (next:=λ_ _ y (vy:Value) hy=>?_);refine go ?_;refine ax (zT (xs:=x) (ys:=y) (hl x (bH hx))) (next:=λ_ _=>?_);refine go ?_;refine eF rfl (λh3=>?_) (λh3=>?_)
  ·refine go ?_;refine ae () (hv:=?_) (hp:=trivial);rw[aU (λe=>h3 (by rw[e,hy]at hx;cases hx;rfl))];rfl
  refine go ?_;refine aP (k+1) (by omega) ⟨by omega,λj hj=>?_⟩;by_cases e:j=k
  ·subst e;rw[hx,hy,h3]
  ·exact hsame j (by omega)
 refine go ?_;refine ae () (hv:=?_) (hp:=trivial);have:xs=ys:=by
  apply kE;intro j;by_cases hj:j<k
  ·exact hsame j hj
  ·rw[iH (by omega),iH (by omega)]
 rw[dS this];rfl
theorem TV{va vb:Value}{xs ys:List (List Int)}(hal:xs.length<9223372036854775808)(hl:∀l∈xs,l.length<9223372036854775808):cK Tryz.prog 106 [va,vb] [ah (aj aa) va xs,ah (aj aa) vb ys] (.bool (decide (xs=ys))):=by
 refine aI _ (aO 106) λB w0=>?_;refine go ?_;refine ax (TU (xs:=xs) (ys:=ys) hal hl) (next:=λ_ _=>?_);refine go ?_;exact ae () (hv:=rfl) (hp:=trivial)
theorem adm{va vb:Value}{xs ys:List (List (List Int))}(hal:xs.length<9223372036854775808)(hl:∀l∈xs,l.length<9223372036854775808/\∀m∈l,m.length<9223372036854775808):cK Tryz.prog 107 [va,vb,.func (.func 106) #[] #[]] [ah (aj (aj aa)) va xs,ah (aj (aj aa)) vb ys] (.bool (decide (xs=ys))):=by
 refine aI _ (aO 107) λB w0=>?_;refine go ?_;refine ay rfl (λh1=>?_) (λh1=>?_)
 ·refine go ?_;refine ae () (hv:=?_) (hp:=trivial);rw[aU (λe=>h1 (by rw[e]))];rfl
 have hlen:xs.length=ys.length:=by omega
 refine go ?_;refine aZ (λk=>xs.length - k) (λk:Nat=>[(17,.int .i64 (k:Int))]) (λ_=>[]) (λ_=>[]) (λk=>k<=xs.length/\∀j,j<k->xs[j]? =ys[j]?) 0 ⟨by omega,λj hj=>by omega⟩ (body:=?_);rintro k ⟨hkx,hsame⟩;refine go ?_;refine ay rfl (λh2=>?_) (λh2=>?_)
 ·refine go ?_;refine bi (aj (aj aa)) (next:=λ_ _ x (vx:Value) hx=>?_);refine go ?_;refine bi (aj (aj aa)) (next:=λ_ _ y (vy:Value) hy=>?_);refine go ?_;refine ax (TV (xs:=x) (ys:=y) (hl x (bH hx)).1 (hl x (bH hx)).2) (next:=λ_ _=>?_);refine go ?_;refine eF rfl (λh3=>?_) (λh3=>?_)
  ·refine go ?_;refine ae () (hv:=?_) (hp:=trivial);rw[aU (λe=>h3 (by rw[e,hy]at hx;cases hx;rfl))];rfl
  refine go ?_;refine aP (k+1) (by omega) ⟨by omega,λj hj=>?_⟩;by_cases e:j=k
  ·subst e;rw[hx,hy,h3]
  ·exact hsame j (by omega)
 refine go ?_;refine ae () (hv:=?_) (hp:=trivial);have:xs=ys:=by
  apply kE;intro j;by_cases hj:j<k
  ·exact hsame j hj
  ·rw[iH (by omega),iH (by omega)]
 rw[dS this];rfl
theorem TW{va vb:Value}{xs ys:List ByteArray}(hal:xs.length<9223372036854775808):cK Tryz.prog 159 [va,vb] [ah aT va xs,ah aT vb ys] (.bool (decide (xs=ys))):=by
 refine aI _ (aO 159) λB w0=>?_;refine go ?_;refine ay rfl (λh1=>?_) (λh1=>?_)
 ·refine go ?_;refine ae () (hv:=?_) (hp:=trivial);rw[aU (λe=>h1 (by rw[e]))];rfl
 have hlen:xs.length=ys.length:=by omega
 refine go ?_;refine aZ (λk=>xs.length - k) (λk:Nat=>[(13,.int .i64 (k:Int))]) (λ_=>[]) (λ_=>[]) (λk=>k<=xs.length/\∀j,j<k->xs[j]? =ys[j]?) 0 ⟨by omega,λj hj=>by omega⟩ (body:=?_);rintro k ⟨hkx,hsame⟩;refine go ?_;refine ay rfl (λh2=>?_) (λh2=>?_)
 ·refine go ?_;refine bi aT (next:=λ_ _ x (_:Unit) hx=>?_);refine go ?_;refine bi aT (next:=λ_ _ y (_:Unit) hy=>?_);refine go ?_;refine eF (p:=x=y) (by show Value.bool _=_;rw[dW]) (λh3=>?_) (λh3=>?_)
  ·refine go ?_;refine ae () (hv:=?_) (hp:=trivial);rw[aU (λe=>h3 (by rw[e,hy]at hx;cases hx;rfl))];rfl
  refine go ?_;refine aP (k+1) (by omega) ⟨by omega,λj hj=>?_⟩;by_cases e:j=k
  ·subst e;rw[hx,hy,h3]
  ·exact hsame j (by omega)
 refine go ?_;refine ae () (hv:=?_) (hp:=trivial);have:xs=ys:=by
  apply kE;intro j;by_cases hj:j<k
  ·exact hsame j hj
  ·rw[iH (by omega),iH (by omega)]
 rw[dS this];rfl
theorem MI(x y:ol):cellsE [.string x.name,.int .i64 x.value] [.string y.name,.int .i64 y.value]=decide (x=y):=by
 obtain⟨a,b⟩:=x;obtain⟨c,e⟩:=y;show(decide (a=c)&&(decide (b=e)&&true))=_;rw[Bool.and_true,<- Bool.decide_and];exact nU.2 ⟨λh=>by rw[h.1,h.2],λh=>by cases h;exact⟨rfl,rfl⟩⟩
abbrev IM(x:iR):List Value:=[.string x.name,.string x.on,.int .i64 x.family,.int .i64 x.type,.int .i64 x.lo,.int .i64 x.hi]
theorem MJ(x y:iR):cellsE (IM x) (IM y)=decide (x=y):=by
 obtain⟨a1,a2,a3,a4,a5,a6⟩:=x;obtain⟨b1,b2,b3,b4,b5,b6⟩:=y;show(decide (a1=b1)&&(decide (a2=b2)&&(decide (a3=b3)&&(decide (a4=b4)&&(decide (a5=b5)&&(decide (a6=b6)&&true))))))=_;rw[Bool.and_true];simp only[<- Bool.decide_and];exact nU.2 ⟨λh=>by rw[h.1,h.2.1,h.2.2.1,h.2.2.2.1,h.2.2.2.2.1,h.2.2.2.2.2],λh=>by cases h;exact⟨rfl,rfl,rfl,rfl,rfl,rfl⟩⟩
theorem MK:∃fs:Array Field,Tryz.prog.underlying 84=some (.struct fs)/\Ec Tryz.prog fs.toList 0 [false,true]=true:=by
 refine⟨Tryz.prog.fieldsOf 84,by kernel_rfl,by kernel_rfl⟩
theorem ML:∃fs:Array Field,Tryz.prog.underlying 115=some (.struct fs)/\Ec Tryz.prog fs.toList 0 [false,false,true,true,true,true]=true:=by
 refine⟨Tryz.prog.fieldsOf 115,by kernel_rfl,by kernel_rfl⟩
theorem adn{va vb:Value}{xs ys:List ol}(hal:xs.length<9223372036854775808):cK Tryz.prog 160 [va,vb] [ah fq va xs,ah fq vb ys] (.bool (decide (xs=ys))):=by
 obtain⟨fs,hu,hrow⟩:=MK;refine aI _ (aO 160) λB w0=>?_;refine go ?_;refine ay rfl (λh1=>?_) (λh1=>?_)
 ·refine go ?_;refine ae () (hv:=?_) (hp:=trivial);rw[aU (λe=>h1 (by rw[e]))];rfl
 have hlen:xs.length=ys.length:=by omega
 refine go ?_;refine aZ (λk=>xs.length - k) (λk:Nat=>[(13,.int .i64 (k:Int))]) (λ_=>[]) (λ_=>[]) (λk=>k<=xs.length/\∀j,j<k->xs[j]? =ys[j]?) 0 ⟨by omega,λj hj=>by omega⟩ (body:=?_);rintro k ⟨hkx,hsame⟩;refine go ?_;refine ay rfl (λh2=>?_) (λh2=>?_)
 ·refine go ?_;refine bi fq (next:=λ_ _ x (_:Unit) hx=>?_);refine go ?_;refine bi fq (next:=λ_ _ y (_:Unit) hy=>?_);refine go ?_;refine(fJ (v:=.bool (!decide (x=y))) rfl rfl (by rw[<- MI];exact BD rfl rfl hu (by kernel_rfl) (by kernel_rfl) (row_of hrow rfl rfl (λj=>by rw[fD]) (λj=>by rw[fD])) (by simp[fH,bR,Ideal.cellV]) (by simp[fH,bR,Ideal.cellV]))).h ?_;refine go ?_;refine eF rfl (λh3=>?_) (λh3=>?_)
  ·refine go ?_;refine ae () (hv:=?_) (hp:=trivial);rw[aU (λe=>h3 (by rw[e,hy]at hx;cases hx;rfl))];rfl
  refine go ?_;refine aP (k+1) (by omega) ⟨by omega,λj hj=>?_⟩;by_cases e:j=k
  ·subst e;rw[hx,hy,h3]
  ·exact hsame j (by omega)
 refine go ?_;refine ae () (hv:=?_) (hp:=trivial);have:xs=ys:=by
  apply kE;intro j;by_cases hj:j<k
  ·exact hsame j hj
  ·rw[iH (by omega),iH (by omega)]
 rw[dS this];rfl
theorem ado{va vb:Value}{xs ys:List iR}(hal:xs.length<9223372036854775808):cK Tryz.prog 162 [va,vb] [ah bM va xs,ah bM vb ys] (.bool (decide (xs=ys))):=by
 obtain⟨fs,hu,hrow⟩:=ML;refine aI _ (aO 162) λB w0=>?_;refine go ?_;refine ay rfl (λh1=>?_) (λh1=>?_)
 ·refine go ?_;refine ae () (hv:=?_) (hp:=trivial);rw[aU (λe=>h1 (by rw[e]))];rfl
 have hlen:xs.length=ys.length:=by omega
 refine go ?_;refine aZ (λk=>xs.length - k) (λk:Nat=>[(13,.int .i64 (k:Int))]) (λ_=>[]) (λ_=>[]) (λk=>k<=xs.length/\∀j,j<k->xs[j]? =ys[j]?) 0 ⟨by omega,λj hj=>by omega⟩ (body:=?_);rintro k ⟨hkx,hsame⟩;refine go ?_;refine ay rfl (λh2=>?_) (λh2=>?_)
 ·refine go ?_;refine bi bM (next:=λ_ _ x (_:Unit) hx=>?_);refine go ?_;refine bi bM (next:=λ_ _ y (_:Unit) hy=>?_);refine go ?_;refine(fJ (v:=.bool (!decide (x=y))) rfl rfl (by rw[<- MJ];exact BD rfl rfl hu (by kernel_rfl) (by kernel_rfl) (row_of hrow rfl rfl (λj=>by rw[fD]) (λj=>by rw[fD])) (by simp[fH,bR,Ideal.cellV]) (by simp[fH,bR,Ideal.cellV]))).h ?_;refine go ?_;refine eF rfl (λh3=>?_) (λh3=>?_)
  ·refine go ?_;refine ae () (hv:=?_) (hp:=trivial);rw[aU (λe=>h3 (by rw[e,hy]at hx;cases hx;rfl))];rfl
  refine go ?_;refine aP (k+1) (by omega) ⟨by omega,λj hj=>?_⟩;by_cases e:j=k
  ·subst e;rw[hx,hy,h3]
  ·exact hsame j (by omega)
 refine go ?_;refine ae () (hv:=?_) (hp:=trivial);have:xs=ys:=by
  apply kE;intro j;by_cases hj:j<k
  ·exact hsame j hj
  ·rw[iH (by omega),iH (by omega)]
 rw[dS this];rfl
end Go.Proofs.YtoohgkkmdnbnfaaGreatDoor
set_option maxHeartbeats 4000000
namespace Go.Proofs.YtoohgkkmdnbnfaaGreatDoor
open Go.Ideal Kd
theorem adp{x y:lX}{vx vy:Value}(hl:x.lists.length<9223372036854775808)(hll:∀l∈x.lists,l.length<9223372036854775808):cK Tryz.prog 156 [.agg ⟨[.string x.name,vx]⟩,.agg ⟨[.string y.name,vy]⟩] [ah (aj aa) vx x.lists,ah (aj aa) vy y.lists] (.bool (decide (x=y))):=by
 obtain⟨n1,l1⟩:=x;obtain⟨n2,l2⟩:=y;dsimp only at hl hll⊢;refine aI _ (aO 156) λB w0=>?_;refine go ?_;intro b2 b3;refine go ?_;first|with_reducible refine aN (λh1=>?_) (λh1=>?_)|with_reducible refine aM (λh1=>?_) (λh1=>?_)|with_reducible refine aK (λh1=>?_) (λh1=>?_)
 ·rw[dW]at h1;refine go ?_;refine ae () (hv:=?_) (hp:=trivial);rw[aU (λe=>mQ h1 (by cases e;rfl))];rfl
 rw[dW]at h1;have h1:=gX h1;refine go ?_;refine ax (TU (xs:=l1) (ys:=l2) hl hll) (next:=λ_ _=>?_);refine go ?_;refine ae () (hv:=?_) (hp:=trivial);rw[show decide (lX.mk n1 l1=lX.mk n2 l2)=decide (l1=l2)from nU.2 ⟨λh=>by cases h;rfl,λh=>by rw[h1,h]⟩];rfl
theorem adq{x y:aQ}{v1 v2 u1 u2:Value}(hl:x.names.length<9223372036854775808)(hll:x.others.length<9223372036854775808):cK Tryz.prog 158 [.agg ⟨iQ x v1 v2⟩,.agg ⟨iQ y u1 u2⟩] [ah aT v1 x.names,ah aT v2 x.others,ah aT u1 y.names,ah aT u2 y.others] (.bool (decide (x=y))):=by
 obtain⟨n1,o1,k1,f1,uM,os1,s1,t1,p1,m1,y1,c1⟩:=x;obtain⟨n2,o2,k2,f2,BU,os2,s2,t2,p2,m2,y2,c2⟩:=y;dsimp only[iQ]at hl hll⊢;refine aI _ (aO 158) λB w0=>?_;refine go ?_;intro b2 b3;refine go ?_;refine ax (TW (xs:=uM) (ys:=BU) hl) (next:=λ_ _=>?_);refine go ?_;first|with_reducible refine aN (λh1=>?_) (λh1=>?_)|with_reducible refine aM (λh1=>?_) (λh1=>?_)|with_reducible refine aK (λh1=>?_) (λh1=>?_)
 ·refine go ?_;refine ae () (hv:=?_) (hp:=trivial);rw[aU (λe=>h1 (by cases e;rfl))];rfl
 refine go ?_;refine ax (TW (xs:=os1) (ys:=os2) hll) (next:=λ_ _=>?_);refine go ?_;first|with_reducible refine aN (λh2=>?_) (λh2=>?_)|with_reducible refine aM (λh2=>?_) (λh2=>?_)|with_reducible refine aK (λh2=>?_) (λh2=>?_)
 ·refine go ?_;refine ae () (hv:=?_) (hp:=trivial);rw[aU (λe=>h2 (by cases e;rfl))];rfl
 refine go ?_;first|with_reducible refine aN (λh3=>?_) (λh3=>?_)|with_reducible refine aM (λh3=>?_) (λh3=>?_)|with_reducible refine aK (λh3=>?_) (λh3=>?_)
 ·rw[dW]at h3;refine go ?_;refine ae () (hv:=?_) (hp:=trivial);rw[aU (λe=>mQ h3 (by cases e;rfl))];rfl
 rw[dW]at h3;have h3:=gX h3;refine go ?_;first|with_reducible refine aN (λh4=>?_) (λh4=>?_)|with_reducible refine aM (λh4=>?_) (λh4=>?_)|with_reducible refine aK (λh4=>?_) (λh4=>?_)
 ·rw[dW]at h4;refine go ?_;refine ae () (hv:=?_) (hp:=trivial);rw[aU (λe=>mQ h4 (by cases e;rfl))];rfl
 rw[dW]at h4;have h4:=gX h4;refine go ?_;first|with_reducible refine aN (λh5=>?_) (λh5=>?_)|with_reducible refine aM (λh5=>?_) (λh5=>?_)|with_reducible refine aK (λh5=>?_) (λh5=>?_)
 ·rw[dW]at h5;refine go ?_;refine ae () (hv:=?_) (hp:=trivial);rw[aU (λe=>mQ h5 (by cases e;rfl))];rfl
 rw[dW]at h5;have h5:=gX h5;refine go ?_;refine(fJ (v:=.bool (decide ([k1,f1,s1,t1,p1,m1,c1]=[k2,f2,s2,t2,p2,m2,c2]))) rfl rfl (abl (n:=7) (e:=3) rfl rfl (by kernel_rfl) (by kernel_rfl) (by kernel_rfl) rfl rfl (by kernel_rfl))).h ?_;refine go ?_;refine ae () (hv:=?_) (hp:=trivial);rw[show decide (aQ.mk n1 o1 k1 f1 uM os1 s1 t1 p1 m1 y1 c1=aQ.mk n2 o2 k2 f2 BU os2 s2 t2 p2 m2 y2 c2)=decide ([k1,f1,s1,t1,p1,m1,c1]=[k2,f2,s2,t2,p2,m2,c2])from nU.2 ⟨λh=>by cases h;rfl,λh=>by cases h;rw[h1,h2,h3,h4,h5]⟩];rfl
theorem adr{va vb:Value}{xs ys:List lX}(hal:xs.length<9223372036854775808)(hl:∀r∈xs,r.lists.length<9223372036854775808/\∀l∈r.lists,l.length<9223372036854775808):cK Tryz.prog 161 [va,vb,.func (.func 156) #[] #[]] [ah eG va xs,ah eG vb ys] (.bool (decide (xs=ys))):=by
 refine aI _ (aO 161) λB w0=>?_;refine go ?_;refine ay rfl (λh1=>?_) (λh1=>?_)
 ·refine go ?_;refine ae () (hv:=?_) (hp:=trivial);rw[aU (λe=>h1 (by rw[e]))];rfl
 have hlen:xs.length=ys.length:=by omega
 refine go ?_;refine aZ (λk=>xs.length - k) (λk:Nat=>[(17,.int .i64 (k:Int))]) (λ_=>[]) (λ_=>[]) (λk=>k<=xs.length/\∀j,j<k->xs[j]? =ys[j]?) 0 ⟨by omega,λj hj=>by omega⟩ (body:=?_);rintro k ⟨hkx,hsame⟩;refine go ?_;refine ay rfl (λh2=>?_) (λh2=>?_)
 ·refine go ?_;refine bi eG (next:=λ_ _ x (vx:Value) hx=>?_);refine go ?_;intro b8;refine go ?_;refine bi eG (next:=λ_ _ y (vy:Value) hy=>?_);refine go ?_;intro b9;refine go ?_;refine ax (adp (x:=x) (y:=y) (vx:=vx) (vy:=vy) (hl x (bH hx)).1 (hl x (bH hx)).2) (next:=λ_ _=>?_);refine go ?_;refine eF rfl (λh3=>?_) (λh3=>?_)
  ·refine go ?_;refine ae () (hv:=?_) (hp:=trivial);rw[aU (λe=>h3 (by rw[e,hy]at hx;cases hx;rfl))];rfl
  refine go ?_;refine aP (k+1) (by omega) ⟨by omega,λj hj=>?_⟩;by_cases e:j=k
  ·subst e;rw[hx,hy,h3]
  ·exact hsame j (by omega)
 refine go ?_;refine ae () (hv:=?_) (hp:=trivial);have:xs=ys:=by
  apply kE;intro j;by_cases hj:j<k
  ·exact hsame j hj
  ·rw[iH (by omega),iH (by omega)]
 rw[dS this];rfl
theorem ads{va vb:Value}{xs ys:List aQ}(hal:xs.length<9223372036854775808)(hl:∀r∈xs,r.names.length<9223372036854775808/\r.others.length<9223372036854775808):cK Tryz.prog 163 [va,vb,.func (.func 158) #[] #[]] [ah aY va xs,ah aY vb ys] (.bool (decide (xs=ys))):=by
 refine aI _ (aO 163) λB w0=>?_;refine go ?_;refine ay rfl (λh1=>?_) (λh1=>?_)
 ·refine go ?_;refine ae () (hv:=?_) (hp:=trivial);rw[aU (λe=>h1 (by rw[e]))];rfl
 have hlen:xs.length=ys.length:=by omega
 refine go ?_;refine aZ (λk=>xs.length - k) (λk:Nat=>[(17,.int .i64 (k:Int))]) (λ_=>[]) (λ_=>[]) (λk=>k<=xs.length/\∀j,j<k->xs[j]? =ys[j]?) 0 ⟨by omega,λj hj=>by omega⟩ (body:=?_);rintro k ⟨hkx,hsame⟩;refine go ?_;refine ay rfl (λh2=>?_) (λh2=>?_)
 ·refine go ?_;refine bi aY (next:=λ_ _ x (vx:Value×Value) hx=>?_);refine go ?_;intro b8;refine go ?_;refine bi aY (next:=λ_ _ y (vy:Value×Value) hy=>?_);refine go ?_;intro b9;refine go ?_;refine ax (adq (x:=x) (y:=y) (v1:=vx.1) (v2:=vx.2) (u1:=vy.1) (u2:=vy.2) (hl x (bH hx)).1 (hl x (bH hx)).2) (next:=λ_ _=>?_);refine go ?_;refine eF rfl (λh3=>?_) (λh3=>?_)
  ·refine go ?_;refine ae () (hv:=?_) (hp:=trivial);rw[aU (λe=>h3 (by rw[e,hy]at hx;cases hx;rfl))];rfl
  refine go ?_;refine aP (k+1) (by omega) ⟨by omega,λj hj=>?_⟩;by_cases e:j=k
  ·subst e;rw[hx,hy,h3]
  ·exact hsame j (by omega)
 refine go ?_;refine ae () (hv:=?_) (hp:=trivial);have:xs=ys:=by
  apply kE;intro j;by_cases hj:j<k
  ·exact hsame j hj
  ·rw[iH (by omega),iH (by omega)]
 rw[dS this];rfl
theorem TY{x y:bF}{h1 s1 r1 c1 u1 h2 s2 r2 c2 u2:Value}(hS:l6 x):cK Tryz.prog 105 [.agg ⟨gD x h1 s1 r1 c1 u1⟩,.agg ⟨gD y h2 s2 r2 c2 u2⟩] (kM x h1 s1 r1 c1 u1++kM y h2 s2 r2 c2 u2) (.bool (decide (x=y))):=by
 have e1:=hS.dO;have e2:=hS.regs;have e3:=hS.jm;have e4:=hS.kz;have e5:=hS.qE;have e6:=hS.holes;have e7:=hS.qF;clear hS;obtain⟨n1,v1,p1,w1,g1,ho1,l7,lI,l8,lJ⟩:=x;obtain⟨n2,v2,p2,w2,g2,ho2,pR,oQ,pU,oU⟩:=y;dsimp only at e1 e2 e3 e4 e5 e6 e7;dsimp only[gD,kM,List.cons_append,List.nil_append];refine aI _ (aO 105) λB w0=>?_;refine go ?_;intro b2 b3;refine go ?_;first|with_reducible refine aN (λk1=>?_) (λk1=>?_)|with_reducible refine aM (λk1=>?_) (λk1=>?_)|with_reducible refine aK (λk1=>?_) (λk1=>?_)
 ·rw[dW]at k1;refine go ?_;refine ae () (hv:=?_) (hp:=trivial);rw[aU (λe=>mQ k1 (by cases e;rfl))];rfl
 rw[dW]at k1;have k1:=gX k1;refine go ?_;first|with_reducible refine aN (λk2=>?_) (λk2=>?_)|with_reducible refine aM (λk2=>?_) (λk2=>?_)|with_reducible refine aK (λk2=>?_) (λk2=>?_)
 ·refine go ?_;refine ae () (hv:=?_) (hp:=trivial);rw[aU (λe=>k2 (by cases e;rfl))];rfl
 refine go ?_;first|with_reducible refine aN (λk3=>?_) (λk3=>?_)|with_reducible refine aM (λk3=>?_) (λk3=>?_)|with_reducible refine aK (λk3=>?_) (λk3=>?_)
 ·refine go ?_;refine ae () (hv:=?_) (hp:=trivial);rw[aU (λe=>k3 (by cases e;rfl))];rfl
 refine go ?_;first|with_reducible refine aN (λk4=>?_) (λk4=>?_)|with_reducible refine aM (λk4=>?_) (λk4=>?_)|with_reducible refine aK (λk4=>?_) (λk4=>?_)
 ·refine go ?_;refine ae () (hv:=?_) (hp:=trivial);rw[aU (λe=>k4 (by cases e;rfl))];rfl
 refine go ?_;first|with_reducible refine aN (λk5=>?_) (λk5=>?_)|with_reducible refine aM (λk5=>?_) (λk5=>?_)|with_reducible refine aK (λk5=>?_) (λk5=>?_)
 ·refine go ?_;refine ae () (hv:=?_) (hp:=trivial);rw[aU (λe=>k5 (by cases e;rfl))];rfl
 refine go ?_;refine ax (zT (xs:=ho1) (ys:=ho2) e6) (next:=λ_ _=>?_);refine go ?_;first|with_reducible refine aN (λk6=>?_) (λk6=>?_)|with_reducible refine aM (λk6=>?_) (λk6=>?_)|with_reducible refine aK (λk6=>?_) (λk6=>?_)
 ·refine go ?_;refine ae () (hv:=?_) (hp:=trivial);rw[aU (λe=>k6 (by cases e;rfl))];rfl
 refine go ?_;refine ax (adn (xs:=l7) (ys:=pR) (by omega)) (next:=λ_ _=>?_);refine go ?_;first|with_reducible refine aN (λk7=>?_) (λk7=>?_)|with_reducible refine aM (λk7=>?_) (λk7=>?_)|with_reducible refine aK (λk7=>?_) (λk7=>?_)
 ·refine go ?_;refine ae () (hv:=?_) (hp:=trivial);rw[aU (λe=>k7 (by cases e;rfl))];rfl
 refine go ?_;refine ax (adr (xs:=lI) (ys:=oQ) (by omega) e7) (next:=λ_ _=>?_);refine go ?_;first|with_reducible refine aN (λk8=>?_) (λk8=>?_)|with_reducible refine aM (λk8=>?_) (λk8=>?_)|with_reducible refine aK (λk8=>?_) (λk8=>?_)
 ·refine go ?_;refine ae () (hv:=?_) (hp:=trivial);rw[aU (λe=>k8 (by cases e;rfl))];rfl
 refine go ?_;refine ax (ado (xs:=l8) (ys:=pU) (by omega)) (next:=λ_ _=>?_);refine go ?_;first|with_reducible refine aN (λk9=>?_) (λk9=>?_)|with_reducible refine aM (λk9=>?_) (λk9=>?_)|with_reducible refine aK (λk9=>?_) (λk9=>?_)
 ·refine go ?_;refine ae () (hv:=?_) (hp:=trivial);rw[aU (λe=>k9 (by cases e;rfl))];rfl
 refine go ?_;refine ax (ads (xs:=lJ) (ys:=oU) (by omega) e5) (next:=λ_ _=>?_);refine go ?_;refine ae () (hv:=?_) (hp:=trivial);rw[show decide (bF.mk n1 v1 p1 w1 g1 ho1 l7 lI l8 lJ=bF.mk n2 v2 p2 w2 g2 ho2 pR oQ pU oU)=decide (lJ=oU)from nU.2 ⟨λh=>by cases h;rfl,λh=>by rw[k1,k2,k3,k4,k5,k6,k7,k8,k9,h]⟩];rfl
end Go.Proofs.YtoohgkkmdnbnfaaGreatDoor
namespace Go.Proofs.YtoohgkkmdnbnfaaGreatDoor
open Go.Ideal
noncomputable def MM:=uj Tryz.prog 232
theorem TZ:mF Tryz.prog 232=some MM:=by kernel_rfl
theorem srt:LM Tryz.prog 232:=λblk off cap zs w h1 h2 h3=>Any.slices_Sort_int Tryz.lays189 blk off cap zs w h1 h2 h3
end Go.Proofs.YtoohgkkmdnbnfaaGreatDoor
namespace Go.Proofs.YtoohgkkmdnbnfaaGreatDoor
open Go.Ideal Kd
noncomputable def MN:=uj Tryz.prog 228
theorem T9:mF Tryz.prog 228=some MN:=by kernel_rfl
noncomputable def MO:=uj Tryz.prog 152
theorem adu:mF Tryz.prog 152=some MO:=by kernel_rfl
theorem adv{x:Int}:cK Tryz.prog 108 [.int .i64 x] [] (.bool false):=by
 refine aI _ (aO 108) λB w0=>?_;refine go ?_;refine ae () (hv:=?_) (hp:=trivial);rw[aU (λh=>h rfl)];rfl
theorem adw{x:Int}:cK Tryz.prog 262 [.int .i64 x] [] (.bool false):=by
 refine aI _ (aO 262) λB w0=>?_;refine go ?_;refine ae () (hv:=?_) (hp:=trivial);rw[aU (λh=>h rfl)];rfl
theorem adx{x y:Int}:cK Tryz.prog 261 [.int .i64 x,.int .i64 y] [] (.bool (decide (x<y))):=by
 refine aI _ (aO 261) λB w0=>?_;refine go ?_;refine ax (adv (x:=x)) (next:=λ_ _=>?_);refine go ?_;exact ae () (hv:=rfl) (hp:=trivial)
def MP(xs:List Int)(z:Int)(y:Nat×Bool):Prop:=y.1<=xs.length/\(∀(j:Nat) x,j<y.1->xs[j]? =some x->x<z)/\(∀(j:Nat) x,y.1<=j->xs[j]? =some x->z<=x)/\(y.2=true↔xs[y.1]? =some z)
theorem MP.mem{xs:List Int}{z:Int}{y:Nat×Bool}(h:MP xs z y)(hs:xs.Pairwise (·<·)):y.2=true↔z∈xs:=by
 obtain⟨h1,h2,h3,h4⟩:=h;rw[h4];refine⟨λh=>bH h,λh=>?_⟩;obtain⟨j,hj⟩:=tY.1 h;have hjl:=(bP.1 hj)
 rcases Nat.lt_trichotomy j y.1 with h5|h5|h5
 ·have:=h2 j z h5 hj;omega
 ·rw[<- h5];exact hj
 ·have hyl:y.1<xs.length:=by have:=hjl.1;omega
  have hy:xs[y.1]? =some xs[y.1]:=cO hyl;have h6:=h3 y.1 _ (bQ _) hy;have h7:=CB.1 hs y.1 j hyl hjl.1 h5;rw[hjl.2]at h7;omega
theorem Ua{v:Value}{xs:List Int}{z:Int}(hl:xs.length<4611686018427387904)(hs:xs.Pairwise (·<=·)):
 bn Tryz.prog (.func 229) [v,.int .i64 z] [] [] [ah aa v xs] (λy:Nat×Bool=>.tuple ⟨[.int .i64 (y.1:Int),.bool y.2]⟩) (λ_=>[]) (λ_=>[]) (MP xs z):=by
 refine aI _ (aO 229) λB w0=>?_;refine go ?_;refine aZ (λy:Nat×Nat=>y.2 - y.1) (λy=>[(7,.int .i64 (y.1:Int)),(8,.int .i64 (y.2:Int))]) (λ_=>[]) (λ_=>[]) (λy=>y.1<=y.2/\y.2<=xs.length/\(∀(j:Nat) x,j<y.1->xs[j]? =some x->x<z)/\(∀(j:Nat) x,y.2<=j->xs[j]? =some x->z<=x)) (0,xs.length) ⟨bY _,bQ _,λj x hj=>by omega,λj x hj hx=>by have:=(bP.1 hx).1;omega⟩ (body:=?_);rintro⟨a,b⟩ ⟨hab,hb,hlo,hhi⟩;dsimp only at hab hb hlo hhi⊢;refine go ?_;refine ay rfl (λh1=>?_) (λh1=>?_)
 ·have Du:a<=(a+b)>>>1/\(a+b)>>>1<b:=by
   rw[VG];omega
  generalize hm:(a+b)>>>1=m at Du;refine go ?_;rw[show(a:Int)+(b:Int)=((a+b:Nat):Int)by omega];refine(fJ rfl rfl (Ed (k:=.u64) (m:=((a+b:Nat):Int)) (by kernel_rfl:Tryz.prog.underlying 3=some (.int .i64)) (by kernel_rfl) rfl (RY (by omega)))).h ?_;refine(fJ rfl rfl (RZ (a:=a+b) (b:=1) rfl rfl (by omega))).h ?_;rw[hm];refine(fJ rfl rfl (Ed (k:=.i64) (m:=(m:Int)) (by kernel_rfl:Tryz.prog.underlying 63=some (.int .u64)) (by kernel_rfl) rfl (wrapN (by omega)))).h ?_;refine go ?_;intro _ _ x hx;refine go ?_;refine ax (adx (x:=x) (y:=z)) (next:=λ_ _=>?_);refine go ?_;have hle:∀(i j:Nat) u v,i<=j->xs[i]? =some u->xs[j]? =some v->u<=v:=by
   intro i j u v hij hu hv;by_cases e:i=j
   ·subst e;rw[hu]at hv;injection hv with hv;omega
   ·exact CB.1 hs i j (bP.1 hu).1 (bP.1 hv).1 (by omega)|>λh=>by
     rw[(bP.1 hu).2,(bP.1 hv).2]at h;exact h
  refine ay rfl (λh2=>?_) (λh2=>?_)
  ·refine go ?_;refine aP (m+1,b) (by show b - (m+1)<b - a;omega) ⟨by show m+1<=b;omega,hb,λj u hj hu=>?_,hhi⟩;have:=hle j m u x (by show j<=m;have:j<m+1:=hj;omega) hu hx;omega
  ·refine go ?_;refine aP (a,m) (by show m - a<b - a;omega) ⟨by show a<=m;omega,by show m<=_;omega,hlo,λj u hj hu=>?_⟩;have:=hle m j x u hj hx hu;omega
 have hba:b=a:=by omega
 subst hba;refine go ?_;first|with_reducible refine aN (λh2=>?_) (λh2=>?_)|with_reducible refine aM (λh2=>?_) (λh2=>?_)|with_reducible refine aK (λh2=>?_) (λh2=>?_)
 ·have hn:xs[b]? =none:=iH (by omega);refine go ?_;exact ae (b,false) (hv:=rfl) (hp:=⟨by show b<=_;omega,hlo,hhi,by show false=true↔xs[b]? =some z;rw[hn];simp⟩)
 refine go ?_;intro _ _ x hx;refine go ?_;by_cases hxz:x=z
 ·subst hxz;rw[dS rfl];refine go ?_;exact ae (b,true) (hv:=rfl) (hp:=⟨by show b<=_;omega,hlo,hhi,by show true=true↔xs[b]? =some x;simp[hx]⟩)
 ·rw[aU hxz];refine go ?_;intro _ _ x2 hx2;refine go ?_;refine ax (adw (x:=x2)) (next:=λ_ _=>?_);refine go ?_;exact ae (b,false) (hv:=rfl) (hp:=⟨by show b<=_;omega,hlo,hhi,by show false=true↔xs[b]? =some z;rw[hx];simp[hxz]⟩)
theorem Ub{v:Value}{aL:List (Int×aa.Y)}(hl:aL.length<=4096):bn Tryz.prog (.func 228) [v] [] [] [rH aa v aL] (λv':Value=>v') (λv'=>[ar aa v' aL]) (λ_=>[]) (λ_=>True):=by
 refine aI MN T9 λB w0=>?_;refine MF (v:=v) (aL:=aL) aa (λe c ev=>?_) (λe i o f c ev=>?_) (λhne i o f c ev=>?_)
 ·subst e ev;refine go ?_;refine(fJ rfl rfl (Hy (e:=3) (by kernel_rfl) rfl)).h ?_;refine go ?_;refine MG aa ?_;exact ae (.slice none 0 0) (hv:=rfl) (hp:=trivial)
 ·subst e ev;refine go ?_;refine(fJ rfl rfl (BA (e:=3) (by kernel_rfl) rfl)).h ?_;refine go ?_;intro b;refine go ?_;refine LV (b:=b) ?_;refine go ?_;refine sW (b:=b) (m:=0) (f:=0) aa (aL:=[]) rfl (.inl rfl) ?_ (hk:=az.here);exact ae (.slice (some ⟨b,0,some 0⟩) 0 0) (hv:=rfl) (hp:=trivial)
 ·subst ev;refine go ?_;refine(fJ rfl rfl (BA (e:=3) (by kernel_rfl) rfl)).h ?_;refine go ?_;intro b;refine go ?_;refine LW (b:=b) aa aL hne (by omega) (λb'=>?_);refine go ?_;refine sW (b:=b') (m:=aL.length) (f:=aa.n) aa (aL:=aL) rfl (.inr rfl) ?_ (hk:=az.here);exact ae (.slice (some ⟨b',0,some aa.n⟩) aL.length aL.length) (hv:=rfl) (hp:=trivial)
abbrev Ew:List Value:=[.int .i64 0,.int .i64 0,.int .i64 0,.slice none 0 0,.slice none 0 0]
abbrev iO(g:bC)(vh vc:Value):List Value:=[.int .i64 g.shape,.int .i64 g.w,.int .i64 g.h,vh,vc]
abbrev jq(g:bC)(vh vc:Value):List aF:=[ah aa vh g.holes,ah aa vc g.cells]
structure MQ where
 ok:Bool
 vh:Value
 vc:Value
def uN(s w h:Int)(holes:List Int):bC:=⟨s,w,h,holes,lZ w h holes⟩
abbrev mkV(s w h:Int)(holes:List Int)(y:MQ):Value:=.tuple ⟨[.agg ⟨cond y.ok (iO (uN s w h holes) y.vh y.vc) Ew⟩,.int .i64 (cond y.ok 0 130)]⟩
abbrev oq(s w h:Int)(holes:List Int)(y:MQ):List aF:=cond y.ok (jq (uN s w h holes) y.vh y.vc) []
def wE(xs:List Int):Int:=xs.getLast?.getD (-1)
theorem Uc(xs:List Int)(x:Int):wE (xs++[x])=x:=by simp[wE]
theorem ady{xs:List Int}(h:∀x∈xs,0<=x): -1<=wE xs:=by
 unfold wE;cases hx:xs.getLast? with
 |none=>simp
 |some x=>
  have:=h x (List.mem_of_getLast? hx);simp only[tT];omega
theorem Ud{xs:List Int}(h:xs.Pairwise (·<·)){a:Int}(ha:a∈xs):a<=wE xs:=by
 unfold wE;cases hx:xs.getLast? with
 |none=>rw[List.getLast?_eq_none_iff]at hx;subst hx;cases ha
 |some x=>
  obtain⟨ys,rfl⟩:=List.getLast?_eq_some_iff.1 hx;simp only[tT];rcases dZ.1 ha with h1|h1
  ·have:=(JA.1 h).2.2 a h1 x (bI.2 rfl);omega
  ·rw[bI.1 h1];exact Int.le_refl _
theorem adz{xs:List Int}{k:Nat}{x:Int}(h:xs.Pairwise (·<·))(hx:xs[k]? =some x)(h0:0<=x):wE (xs.take k)<x:=by
 unfold wE;cases hl:(xs.take k).getLast? with
 |none=>simp only[Option.getD_none];omega
 |some y=>
  simp only[tT];have hy:=List.mem_of_getLast? hl;have hd:xs=xs.take k++x::xs.drop (k+1):=by
   conv=>lhs;rw[<- r9 k xs]
   rw[pg (bP.1 hx).1,(bP.1 hx).2]
  rw[hd]at h;exact(JA.1 h).2.2 y hy x (dM ..)
theorem MS{s w h:Int}{holes:List Int}{vh:Value}(hw64:j3 w)(adA:j3 h)(hl:holes.length<4611686018427387904):
 bn Tryz.prog (.func 152) [.int .i64 s,.int .i64 w,.int .i64 h,vh] [] [] [ah aa vh holes] (mkV s w h holes) (λ_=>[]) (oq s w h holes) (λy=>y.ok=true↔nL s w h holes):=by
 have bad:¬nL s w h holes->∀{B:List Nat} {w0:Wd} {kl:List OA} {F:List aF} {l:List (Nat×Value)} {n b:Nat} {bB:List OA},lk l 8=ptr' b->lk l 9=.int .i64 130->az (pt b (.cells Ew)) kl bB->
  R (λh0=>Bd MO (Go.Ideal.Left B w0 (mkV s w h holes) (λ_=>[]) (oq s w h holes) (λy=>y.ok=true↔nL s w h holes)) .ret (act n l [] none none) h0) B w0 kl F:=by
  intro hno B w0 kl F l n b bB h8 h9 hk;refine QO (bB:=kl) ⟨false,.nilFunc,.nilFunc⟩ (vs:=[.agg ⟨Ew⟩,.int .i64 130]) ?_ rfl ⟨(λe=>by cases e),λe=>absurd e hno⟩ .nil .nil (.inr rfl);show RS l kl [.pE 5 8,.tmp 9] _;exact .pE h8 hk rfl (.tmp h9 .nil)
 refine aI MO adu λB w0=>?_;refine go ?_;intro b8;refine go ?_;by_cases hsh:s=1\/s=2
 rotate_left
 ·rw[dS (show s≠1 from λe=>hsh (.inl e))];refine go ?_;rw[dS (show s≠2 from λe=>hsh (.inr e))];refine go ?_;exact bad (λh=>hsh h.sh) rfl rfl .here
 have hmk:∀sh,(sh=1\/sh=2)->(nL sh w h holes↔nL s w h holes):=λsh e=>⟨λq=>⟨hsh,q.wi,q.he,q.len,q.inc,q.mem⟩,λq=>⟨e,q.wi,q.he,q.len,q.inc,q.mem⟩⟩
 have h22:∀{B:List Nat} {w0:Wd} {kl:List OA} {F:List aF} {K:KO} {ds:List Tmp} {rest:List bT} {n:Nat} {l:List (Nat×Value)} {D:List Deferred},
  R (λh0=>aD Tryz.prog ds rest (act n ((22,.bool false)::(21,.bool false)::l) D none none) h0 K) B w0 kl F->R (λh0=>aD Tryz.prog ds rest (act n ((22,.bool false)::(21,.bool false)::l) D none none) h0 K) B w0 kl F:=λh=>h
 rcases hsh with rfl|rfl;all_goals
  refine go ?_;first|with_reducible refine aN (λa1=>?_) (λa1=>?_)|with_reducible refine aM (λa1=>?_) (λa1=>?_)|with_reducible refine aK (λa1=>?_) (λa1=>?_)
  rotate_left
  ·refine go ?_;exact bad (λq=>by have:=q.wi;omega) rfl rfl .here
  refine go ?_;first|with_reducible refine aN (λa2=>?_) (λa2=>?_)|with_reducible refine aM (λa2=>?_) (λa2=>?_)|with_reducible refine aK (λa2=>?_) (λa2=>?_)
  rotate_left
  ·refine go ?_;exact bad (λq=>by have:=q.wi;omega) rfl rfl .here
  refine go ?_;first|with_reducible refine aN (λa3=>?_) (λa3=>?_)|with_reducible refine aM (λa3=>?_) (λa3=>?_)|with_reducible refine aK (λa3=>?_) (λa3=>?_)
  rotate_left
  ·refine go ?_;exact bad (λq=>by have:=q.he;omega) rfl rfl .here
  refine go ?_;first|with_reducible refine aN (λa4=>?_) (λa4=>?_)|with_reducible refine aM (λa4=>?_) (λa4=>?_)|with_reducible refine aK (λa4=>?_) (λa4=>?_)
  rotate_left
  ·refine go ?_;exact bad (λq=>by have:=q.he;omega) rfl rfl .here
  have hwh:=wh (w:=w) (h:=h) ⟨by omega,by omega⟩ ⟨by omega,by omega⟩;refine go ?_;refine ay rfl (λa5=>?_) (λa5=>?_)
  ·refine go ?_;exact bad (λq=>by have:=q.len;omega) rfl rfl .here
  refine go ?_;refine aZ (λk=>holes.length - k) (λk:Nat=>[(49,.int .i64 (k:Int)),(10,.int .i64 (wE (holes.take k)))]) (λ_=>[]) (λ_=>[]) (λk=>k<=holes.length/\(holes.take k).Pairwise (·<·)/\∀x∈holes.take k,0<=x/\x<w*h) 0 ⟨bY _,by simp,by simp⟩ (body:=?_);rintro k ⟨hk,l5,hmem⟩;refine go ?_;refine ay rfl (λa6=>?_) (λa6=>?_)
  ·refine go ?_;intro _ _ x hx;refine go ?_;have hxm:=bH hx;first|with_reducible refine aN (λa7=>?_) (λa7=>?_)|with_reducible refine aM (λa7=>?_) (λa7=>?_)|with_reducible refine aK (λa7=>?_) (λa7=>?_)
   rotate_left
   ·refine go ?_;exact bad (λq=>by
     have h1:=q.inc;have h2:=q.mem x hxm;have:=adz h1 hx h2.1;omega) rfl rfl .here
   refine go ?_;refine ay rfl (λa8=>?_) (λa8=>?_)
   ·refine go ?_;exact bad (λq=>by have:=q.mem x hxm;omega) rfl rfl .here
   refine go ?_;have htk:holes.take (k+1)=holes.take k++[x]:=by rw[mo,hx];rfl
   refine aP (k+1) (by omega) ⟨by omega,?_,?_⟩ (hl:=⟨rfl,by rw[htk,Uc];rfl,by repeat (first|exact trivial|refine⟨rfl,?_⟩)⟩)
   ·rw[htk,JA];refine⟨l5,by simp,λa ha b hb=>?_⟩;rw[bI.1 hb];have:=Ud l5 ha;omega
   ·rw[htk];intro z hz;rcases dZ.1 hz with hz|hz
    ·exact hmem z hz
    ·rw[bI.1 hz];have:=ady (λy hy=>(hmem y hy).1);omega
  have hkl:k=holes.length:=by omega
  subst hkl;rw[bK]at l5 hmem;have hok:∀s',(s'=1\/s'=2)->nL s' w h holes:=λs' hs'=>⟨hs',⟨by omega,by omega⟩,⟨by omega,by omega⟩,by omega,l5,hmem⟩
  obtain⟨m,hm⟩:=qf (show 0<=w*h by omega);have Ex:lZ w h holes=gG m holes:=by
   unfold lZ;rw[hm];rfl
  refine go ?_;refine LU aa vh (λxh hxh=>?_);have hxl:xh.length=holes.length:=by rw[<- hxh,cz]
  refine ax (Ub (aL:=xh) (by omega)) (next:=λv1 _=>?_);refine Hw (E:=aa) (v:=v1) (aL:=xh) ?_ (λw h p hp f hf=>by cases hf);rw[hxh];refine aS (E:=aa) (v:=v1) (xs:=holes) (by simp) λa1 c1 e1=>?_;subst e1;refine go ?_;rw[hm];refine fZ aa ?_;refine aZ (λy:Nat×Option Addr=>m - y.1) (λy=>[(75,.int .i64 (y.1:Int))]) (λy=>[pt b8 (.cells [.int .i64 _,.int .i64 w,.int .i64 h,.slice a1 holes.length c1,.slice y.2 (gG y.1 holes).length (gG y.1 holes).length]),ap aa (.slice y.2 (gG y.1 holes).length (gG y.1 holes).length) (gG y.1 holes)]) (λ_=>[]) (λy=>y.1<=m) (0,none) (bY _) (hk:=by repeat (first|exact aG.nil|(apply aG.cons;(focus (repeat (first|exact az.here|apply az.there)))))) (body:=?_);rintro⟨k,ad⟩ hk;dsimp only at hk⊢;have hcl:=BK k holes;refine go ?_;refine ay rfl (λa9=>?_) (λa9=>?_)
  ·refine go ?_;refine ax (Ua (xs:=holes) (z:=(k:Int)) hl (l5.imp (λh=>Int.le_of_lt h))) (next:=λy hy=>?_);have hmm:=hy.mem l5;clear hy;obtain⟨n,b⟩:=y;dsimp only at hmm;refine go ?_;cases b with
   |true=>
    refine go ?_;have e1:gG (k+1) holes=gG k holes:=by rw[Ie,if_pos (hmm.1 rfl),gN]
    rw[<- e1];exact aP (k+1,ad) (by show m - (k+1)<m - k;omega) (by show k+1<=m;omega)
   |false=>
    have hnm:¬(k:Int)∈holes:=λh=>by have:=hmm.2 h;cases this
    have e1:gG k holes++[(k:Int)]=gG (k+1) holes:=by rw[Ie,if_neg hnm]
    have e2:(gG k holes).length+1=(gG (k+1) holes).length:=by rw[<- e1];simp
    refine go ?_;intro b89;refine go ?_;refine eO aa (xs:=gG k holes) (k:Int) () (by omega) λad'=>?_;rw[e1,e2];refine go ?_;exact aP (k+1,ad') (by show m - (k+1)<m - k;omega) (by show k+1<=m;omega)
  have hkm:k=m:=by omega
  subst hkm;refine go ?_;refine bA fV (A:=ap aa (.slice ad (gG k holes).length (gG k holes).length) (gG k holes)) (h:=?_);refine go ?_;refine ae ⟨true,.slice a1 holes.length c1,.slice ad (gG k holes).length (gG k holes).length⟩ (hv:=rfl) (hp:=⟨λ_=>hok _ (by first|exact .inl rfl|exact .inr rfl),λ_=>rfl⟩) (hF:=?_);show Sub [ah aa _ holes,ah aa _ (lZ w h holes)] _;rw[Ex];exact .cons (by simp) (.cons (by simp) .nil)
end Go.Proofs.YtoohgkkmdnbnfaaGreatDoor
namespace Go.Proofs.YtoohgkkmdnbnfaaGreatDoor
open Go.Ideal Kd
structure pV(g:bC):Prop where
 w:j3 g.w
 h:j3 g.h
 holes:g.holes.length<4611686018427387904
 cells:g.cells.length<4611686018427387904
theorem Ue{g:bC}{vh vc:Value}(hS:pV g):
 bn Tryz.prog (.func 230) [.agg ⟨iO g vh vc⟩] [] [] (jq g vh vc) (λe:Int=>.int .i64 e) (λ_=>[]) (λ_=>[]) (λe=>e=0↔fw g):=by
 refine aI _ (aO 230) λB w0=>?_;refine go ?_;intro b1;refine go ?_;refine ax (MS (s:=g.shape) (w:=g.w) (h:=g.h) (holes:=g.holes) (vh:=vh) hS.w hS.h hS.holes) (next:=λy hy=>?_);obtain⟨ok,v1,v2⟩:=y;cases ok with
 |false=>
  have hno:¬nL g.shape g.w g.h g.holes:=λh=>by have:=hy.2 h;cases this
  dsimp only[mkV,oq,cond,List.nil_append];refine go ?_;intro b3;refine go ?_;exact ae 130 (hv:=rfl) (hp:=⟨(λh=>by cases h),λh=>absurd h.make hno⟩)
 |true=>
  have hmk:=hy.1 rfl;dsimp only[mkV,oq,cond,jq,uN,List.cons_append,List.nil_append];refine go ?_;intro b3;refine go ?_;refine ax (zT (xs:=lZ g.w g.h g.holes) (ys:=g.cells) (by
   have:=BK (g.w*g.h).toNat g.holes;have:=wh hmk.wi hmk.he;unfold lZ;omega)) (next:=λ_ _=>?_)
  refine go ?_;refine eF rfl (λh1=>?_) (λh1=>?_)
  ·refine go ?_;exact ae 130 (hv:=rfl) (hp:=⟨(λh=>by cases h),λh=>absurd h.cells.symm h1⟩)
  ·refine go ?_;exact ae 0 (hv:=rfl) (hp:=⟨λ_=>⟨hmk,h1.symm⟩,λ_=>rfl⟩)
abbrev adD(x:Int×(Int×Int)):List Value:=[.int .i64 x.1,zI x.2]
theorem MU{b1:Nat}{g:bC}{vh vc:Value}(hg:fw g):rG Tryz.prog adD (.func 263) [] [ptr' b1] [eH b1 0 (iO g vh vc),ah aa vc g.cells] (λxs=>xs=bE g):=by
 intro S inv ok step s0 uB y1 y2 F' h0 hok hy;have hgl:=hg.len;have Ey:=hg.make.wi;rw[dD,dD,bZ];refine aI _ (aO 263) λB w0=>?_;refine go ?_;refine aZ (λy:Nat×S=>g.cells.length - y.1) (λy=>[(10,.int .i64 (y.1:Int))]) (λy=>inv y.2) (λ_=>[]) (λy=>y.1<=g.cells.length/\ok ((bE g).take y.1) y.2/\gQ step y.2 ((bE g).drop y.1)=gQ step s0 (bE g)) (0,s0) ⟨bY _,h0,rfl⟩ (body:=?_);rintro⟨k,s⟩ ⟨hk,hos,hrun⟩;dsimp only at hk hos hrun⊢;refine go ?_;refine ay rfl (λh1=>?_) (λh1=>?_)
 ·refine go ?_;intro _ _ x hx;have hxb:=hg.cell x (bH hx);have hsp:=wm hx;have hd:(bE g).drop k=((k:Int),mK g x)::(bE g).drop (k+1):=by
   rw[pg (by rw[oN];omega)];congr 1;rw[cO (by rw[oN];omega)]at hsp;exact Option.some.inj hsp
  have hX:(bE g).take k++((k:Int),mK g x)::(bE g).drop (k+1)=bE g:=by rw[<- hd,r9]
  refine go ?_;refine(fJ rfl rfl (Lp (a:=x) (b:=g.w) rfl rfl (by omega))).h ?_;refine go ?_;have hq:0<=x.tdiv g.w/\x.tdiv g.w<=x:=by
   rw[sj hxb.1];exact⟨Jz hxb.1 (by omega),Int.ediv_le_self _ hxb.1⟩
  have hr:0<=x.tmod g.w/\x.tmod g.w<=x:=by
   rw[Cz hxb.1];refine⟨Int.emod_nonneg _ (by omega),?_⟩;have:=Ol x g.w;have h3:0<=g.w*(x/g.w):=Int.mul_nonneg (by omega) (Jz hxb.1 (by omega));omega
  refine(fJ rfl rfl (G8 (a:=x) (b:=g.w) rfl rfl (by omega) (by omega) (by omega))).h ?_;refine go ?_;refine ay rfl (λh2=>?_) (λh2=>?_)
  ·have hso:mK g x=(x.tmod g.w - (x.tdiv g.w).tdiv 2,x.tdiv g.w):=by unfold mK;rw[if_pos h2]
   have hq2:0<=(x.tdiv g.w).tdiv 2/\(x.tdiv g.w).tdiv 2<=x.tdiv g.w:=by
    rw[sj hq.1];omega
   rw[hso]at hX hd;have nO:=hy _ s _ _ hos hX;refine go ?_;refine(fJ rfl rfl (G8 (a:=x.tdiv g.w) (b:=2) rfl rfl (by omega) (by omega) (by omega))).h ?_;refine go ?_;refine ax nO (next:=λ_ _=>?_);rw[hd,gQ]at hrun;refine go ?_;cases hst:step s ((k:Int),_)with
   |mk s' b=>
    have hst:=hst;rw[hst]at hrun;cases b with
    |true=>
     refine go ?_;refine aP (k+1,s') (by show g.cells.length - (k+1)<g.cells.length - k;omega) ⟨by show k+1<=_;omega,?_,hrun⟩;have:=hok _ s _ _ hos hX (by rw[hst]);rw[hst]at this;rw[show(bE g).take (k+1)=(bE g).take k++[_]from by rw[mo,hsp];rfl];rw[hso];exact this
    |false=>
     refine go ?_;exact ae (bE g) (hv:=rfl) (hp:=rfl) (hk:=by rw[<- hrun];exact aG.all _)
  ·have hso:mK g x=(x.tmod g.w,x.tdiv g.w):=by unfold mK;rw[if_neg h2]
   rw[hso]at hX hd;have nO:=hy _ s _ _ hos hX;refine go ?_;refine ax nO (next:=λ_ _=>?_);rw[hd,gQ]at hrun;refine go ?_;cases hst:step s ((k:Int),_)with
   |mk s' b=>
    have hst:=hst;rw[hst]at hrun;cases b with
    |true=>
     refine go ?_;refine aP (k+1,s') (by show g.cells.length - (k+1)<g.cells.length - k;omega) ⟨by show k+1<=_;omega,?_,hrun⟩;have:=hok _ s _ _ hos hX (by rw[hst]);rw[hst]at this;rw[show(bE g).take (k+1)=(bE g).take k++[_]from by rw[mo,hsp];rfl];rw[hso];exact this
    |false=>
     refine go ?_;exact ae (bE g) (hv:=rfl) (hp:=rfl) (hk:=by rw[<- hrun];exact aG.all _)
 have hkl:k=(bE g).length:=by rw[oN];omega
 rw[hkl,List.drop_length]at hrun;refine go ?_;exact ae (bE g) (hv:=rfl) (hp:=rfl) (hk:=by rw[<- hrun];exact aG.all _)
end Go.Proofs.YtoohgkkmdnbnfaaGreatDoor
namespace Go.Proofs.YtoohgkkmdnbnfaaGreatDoor
open Go.Ideal Kd
theorem MV:vN (nE Tryz.prog pG pI):=xD _ _ _ (λf q h v h' hm=>by cases hm)
theorem adE(h:IH)(K:BR):(y9 (nE Tryz.prog pG pI) 1000).call ⟨.func 73,[.int .u64 0],[],none⟩ h K=K (.ok (.int .i64 0)) none h:=by kernel_rfl
theorem adF:cK Tryz.prog 73 [.int .u64 0] [] (.int .i64 0):=λB w s=>by
 have h2:=adE w.h λr pm h'=> @decide (pm=none/\r=.ok (.int .i64 0)/\h'=w.h) (Classical.propDecidable _);have h1:=DI MV (h2.trans (@dS _ (Classical.propDecidable _) ⟨rfl,rfl,rfl⟩));refine .qy _ h1 λr pm h' hg=>?_;obtain⟨rfl,rfl,rfl⟩:= @gX _ (Classical.propDecidable _) hg;exact⟨rfl,w,(),rfl,s,rfl,trivial⟩
theorem adG{a:Option Addr}{c:Nat}:cK Tryz.prog 293 [.slice a 0 c,.int .i64 0,.int .i64 0] [] (.tuple ⟨[]⟩):=by
 refine aI _ (aO 293) λB w0=>?_;refine go ?_;refine oJ ?_;refine go ?_;exact ae () (hv:=rfl) (hp:=trivial)
theorem adH{a:Option Addr}{c:Nat}:cK Tryz.prog 264 [.slice a 0 c,.int .i64 0,.int .i64 0,.int .i64 0] [] (.tuple ⟨[]⟩):=by
 refine aI _ (aO 264) λB w0=>?_;refine go ?_;refine oJ ?_;refine go ?_;refine ax (adG (a:=a) (c:=c)) (next:=λ_ _=>?_);refine go ?_;exact ae () (hv:=rfl) (hp:=trivial)
theorem adI{a:Option Addr}{c:Nat}:cK Tryz.prog 232 [.slice a 0 c] [] (.tuple ⟨[]⟩):=by
 refine aI MM TZ λB w0=>?_;refine go ?_;refine(fJ rfl rfl (Ed (k:=.u64) (m:=0) (by kernel_rfl:Tryz.prog.underlying 3=some (.int .i64)) (by kernel_rfl) rfl (by rfl))).h ?_;refine ax adF (next:=λ_ _=>?_);refine go ?_;refine ax (adH (a:=a) (c:=c)) (next:=λ_ _=>?_);refine go ?_;exact ae () (hv:=rfl) (hp:=trivial)
theorem adJ:∃fn body,Tryz.prog.funcs[232]? =some fn/\fn.body=some body/\fn.name≠ "runtime.NumGoroutine" :=by
 obtain⟨fn,h1,h2⟩:=MV.fn 232 MM TZ;have h3:Tryz.prog.funcs[232]? =some fn:=h1;have h4:(fn.name== "runtime.NumGoroutine")=false:=by
  have e:(Tryz.prog.funcs[232]?).map (λf=>f.name== "runtime.NumGoroutine")=some false:=by kernel_rfl
  rw[h3]at e;exact Option.some.inj e
 have h5:fn.body.isSome=true:=by
  have e:(Tryz.prog.funcs[232]?).map (λf=>f.body.isSome)=some true:=by kernel_rfl
  rw[h3]at e;exact Option.some.inj e
 obtain⟨body,hb⟩:=Oa.1 h5;exact⟨fn,body,h3,hb,by simpa using h4⟩
theorem MW{a:Option Addr}{m:Nat}{zs:List Int}(hm:m=zs.length)(hl:zs.length<4611686018427387904):
 bn Tryz.prog (.func 232) [.slice a m m] [] [ap aa (.slice a m m) zs] [] (λ_:Unit=>.tuple ⟨[]⟩) (λ_=>[ap aa (.slice a m m) (dn zs)]) (λ_=>[]) (λ_=>True):=by
 subst hm;obtain⟨fn,body,h1,h2,h3⟩:=adJ;by_cases hz:zs=[]
 ·subst hz;have e:dn []=[]:=by simp[dn]
  rw[e];intro B w s;obtain⟨S1,s1,back⟩:=s.LF (k1:=[]) (bB:=[ap aa (.slice a 0 0) []]) (F1:=[]) .nil .nil;refine .qy _ (adI (a:=a) (c:=0) S1 w s1) ?_;rintro r pm h' ⟨hp,w',y,e1,st,e2,_⟩;exact⟨hp,w',(),e1,back w' _ _ st,e2,trivial⟩
 ·exact aba srt h1 h2 h3 (Cv.2 hz) hl
theorem Uf:qB Tryz.prog 265 zI:=abo (e:=3) (by kernel_rfl) (by kernel_rfl) (by kernel_rfl) (λa b=>by kernel_rfl)
theorem MX{g:bC}{vh vc:Value}:bn Tryz.prog (.func 231) [.agg ⟨iO g vh vc⟩] [] [] (jq g vh vc) (λb:Nat=>.func (.func 263) #[] #[ptr' b]) (λ_=>[]) (λb=>[eH b 0 (iO g vh vc),ah aa vc g.cells]) (λ_=>True):=by
 refine aI _ (aO 231) λB w0=>?_;refine go ?_;intro b1;refine go ?_;refine bA (eD (b:=b1)) (h:=?_);exact ae b1 (hv:=rfl) (hp:=trivial)
def l9(c:Prop)(f:aF):aF:=⟨λw=>c->f.p w,λa h e=>f.mono a (h e)⟩
theorem lK{B:List Nat}{w0:Wd}{kl:List OA}{F:List aF}{Q:IH->Prop}{c:Prop}{f:aF}(hc:¬c)(h:R Q B w0 kl (l9 c f::F)):R Q B w0 kl F:=eT (l9 c f) (λw _ e=>absurd e hc) h
theorem kQ{B:List Nat}{w0:Wd}{kl:List OA}{F:List aF}{Q:IH->Prop}{c:Prop}{f:aF}(hf:f∈F)(h:R Q B w0 kl (l9 c f::F)):R Q B w0 kl F:=eT (l9 c f) (λw hw _=>hw f hf) h
structure MZ where
 v:Value
 e:Int
abbrev uO(y:MZ):Value:=.tuple ⟨[y.v,.int .i64 y.e]⟩
theorem IP{S α:Type}(f:S->α->S):∀(xs:List α) (s:S),ji (λs x=>(f s x,Out.normal)) s xs=(xs.foldl f s,.normal)
 |[],s=>rfl
 |x::xs,s=>by
  show ji (λs x=>(f s x,Out.normal)) (f s x) xs=_;rw[IP f xs];rfl
section
variable {P:Program} {B:List Nat} {w0:Wd} {kl kl':List OA} {F:List aF} {Q:IH->Prop}
theorem adK{b:Nat}{cs cs':List Value}(e:cs=cs')(h:R Q B w0 (pt b (.cells cs')::kl') F)(hk:az (pt b (.cells cs)) kl kl':=by exact gK):R Q B w0 kl F:=by
 subst e;exact λw s=>h w (s.gI hk)
theorem oV{α:Type}{E:Enc α}{v:Value}{xs:List α}(h:∀a,v=.slice a xs.length xs.length->R Q B w0 kl F)(hk:az (ap E v xs) kl kl':=by exact gK):R Q B w0 kl F:=λw s=>by
 obtain⟨S,⟨S1,S2,q,_⟩,_⟩:=(s.gI hk).own;obtain⟨a,e⟩:=Ll q;exact h a e w s
end
abbrev zW(b n:Nat):Value:=.slice (some ⟨b,0,some 0⟩) n n
theorem Ug{g:bC}{vh vc:Value}(hS:pV g):
 bn Tryz.prog (.func 153) [.agg ⟨iO g vh vc⟩] [] [] (jq g vh vc) uO (λ_=>[]) (λy=>[l9 (y.e=0) (ah (rO aa) y.v (bJ g))]) (λy=>y.e=0↔fw g):=by
 refine DZ _ (aO 153) λB w0=>?_;refine go ?_;intro b1 b2;refine go ?_;refine ax (Ue (g:=g) hS) (next:=λe he=>?_);refine go ?_;refine ay rfl (λh1=>?_) (λh1=>?_)
 ·refine go ?_;refine lK (c:=(130:Int)=0) (f:=ah (rO aa) (.slice none 0 0) (bJ g)) (by omega) ?_;exact Br ⟨.slice none 0 0,130⟩ (hv:=rfl) (hp:=⟨(λh=>by cases h),λh=>absurd (he.2 h) h1⟩)
 have hg:=he.1 (by omega);have hgl:=hg.len;have hsb:=Ih hg;have hsl:=oN g;refine go ?_;intro b4 b5;refine go ?_;refine Ra (bB:=[pt b4 (.cells BL),pt b2 (.cells [.slice none 0 0]),pt b1 (.cells (iO g vh vc))]) [] (λ_:Unit=>[]) (λ_=>[pt b5 (.cells [.int .i64 (dQ g:Int)])]) (λ_=>[]) (λ_=>True) (hx:=?_) (hy:=?_)
 ·refine ay rfl (λh2=>?_) (λh2=>?_)
  ·refine go ?_;rw[show(4:Int)=(dQ g:Int)by unfold dQ;rw[if_pos h2];rfl];exact Hq () trivial
  ·refine go ?_;rw[show(6:Int)=(dQ g:Int)by unfold dQ;rw[if_neg h2];rfl];exact Hq () trivial
 intro _ _;refine go ?_;refine xW zI (λbm=>?_);refine go ?_;intro b6;refine go ?_;refine ax (MX (g:=g) (vh:=vh) (vc:=vc)) (next:=λbs _=>?_);refine go ?_;refine Ea (Z:=Nat) (λ(m:List ((Int×Int)×Value)) (x:Int×(Int×Int))=>(upd x.2 (.int .i64 x.1) m,.normal)) (λm=>[gL zI bm m,pt b6 (.cells [.map (some bm)])]) (λvs m=>m=eX vs) [] _ (λx b8=>[pt b8 (.cells [.int .i64 x.2.1,.int .i64 x.2.2])]) rfl (λvs s x rest hs _ _=>by rw[hs,Mh]) (MU (b1:=bs) (vh:=vh) (vc:=vc) hg) (by intro s x lo o B w0;refine go ?_;intro b8;refine go ?_;exact zG b8 rfl) ?_ ?_ (λ_ _=>trivial)
 ·intro vs s x rest b8 lo L B w0 hs hX;dsimp only[List.cons_append,List.nil_append];refine go ?_;refine vW Uf x.2 (v:=.int .i64 x.1) ?_;refine go ?_;exact uA () rfl trivial trivial
 intro r1 xs hxs;subst hxs;rw[IP (λ(m:List ((Int×Int)×Value)) (x:Int×(Int×Int))=>upd x.2 (.int .i64 x.1) m)];dsimp only[List.cons_append,List.nil_append];rw[show(bE g).foldl (λ(m:List ((Int×Int)×Value)) (x:Int×(Int×Int))=>upd x.2 (.int .i64 x.1) m) []=eX (bE g)from rfl];refine bA (Bw (b:=bm)) (h:=?_);refine bA (eD (b:=b6)) (h:=?_);refine go ?_;refine aaO g.cells.length ⟨by omega,by omega,by omega⟩ λbl=>?_;rw[show zeros [.slice none 0 0] g.cells.length=List.replicate g.cells.length (.slice none 0 0)from Qs _ _];refine abz (kL aa) (x0:=([]:List Int)) (λw=>⟨.inl ⟨rfl,rfl,rfl⟩,λ_=>rfl⟩) (h:=?_);refine go ?_;refine ax (MX (g:=g) (vh:=vh) (vc:=vc)) (next:=λbs2 _=>?_);refine go ?_;refine bA (eD (b:=b4)) (h:=?_);refine bA (eD (b:=b5)) (h:=?_);have hml:(dY.take (dQ g)).length=dQ g:=by rw[gW];show min (dQ g) 6=_;have:=zM g;omega
 refine eT (ah Mi (.slice (some ⟨b4,0,some 0⟩) (dQ g) 6) (dY.take (dQ g))) (λw h=>ab1 (h (eH b4 0 BL) (dJ _ (dM ..))) (zM g)) ?_;refine Ea (Z:=Nat) (λ(xss:List (List Int)) (x:Int×(Int×Int))=>(xss.set x.1.toNat (kV g x),.normal)) (λxss=>[mZ (kL aa) bl xss,pt b2 (.cells [zW bl g.cells.length])]) (λvs xss=>xss=vs.map (kV g)++List.replicate (g.cells.length - vs.length) []) (List.replicate g.cells.length []) _ (λx b10=>[pt b10 (.cells [.int .i64 x.2.1,.int .i64 x.2.2])]) (by simp) (λvs s x rest hs hX _=>by
  have h1:=Ii hX;rw[hs,h1.1];have:=SG (A:=vs.map (kV g)) (n:=g.cells.length) (by rw[cz];exact h1.2.1) (kV g x);rw[cz]at this;rw[Am,this,eB,gH];rfl) (MU (b1:=bs2) (vh:=vh) (vc:=vc) hg) (by intro s x lo o B w0;refine go ?_;intro b8;refine go ?_;exact zG b8 rfl) ?_ ?_ (λ_ _=>trivial)
 ·intro vs xss x rest b10 lo L B w0 hs hX;dsimp only[List.cons_append,List.nil_append];obtain⟨hc,hvl,hxm⟩:=Ii hX;have hbx:=hsb x hxm;obtain⟨c,s1,s2⟩:=x;dsimp only at hc hbx;subst hc;have hxk:xss[vs.length]? =some []:=by
   rw[hs,qN (by simp),cz,Aq,List.getElem?_replicate,if_pos (by omega)]
  have hxl:xss.length=g.cells.length:=by rw[hs];simp;omega
  refine go ?_;refine(fJ rfl rfl (ab4 (m:=dQ g) rfl rfl (zM g))).h ?_;refine go ?_;refine BF (A:=mZ (kL aa) bl xss) (A':=mZ (kL aa) bl (xss.set vs.length (gq (eX (bE g)) (s1,s2) ((dY.take (dQ g)).take 0)))) (congrArg (mZ (kL aa) bl) (by
   apply kE;intro i;rw[uV];by_cases hi:vs.length=i
   ·subst hi;rw[if_pos rfl,if_pos (by omega),hxk];rfl
   ·rw[if_neg hi])) ?_
  refine aZ (λj=>dQ g - j) (λj:Nat=>[(47,.int .i64 (j:Int))]) (λj=>[mZ (kL aa) bl (xss.set vs.length (gq (eX (bE g)) (s1,s2) ((dY.take (dQ g)).take j)))]) (λ_=>[]) (λj=>j<=dQ g) 0 (bY _) (body:=?_);intro j hj;refine go ?_;refine ay rfl (λh2=>?_) (λh2=>?_)
  ·refine go ?_;obtain⟨dd,hd⟩:∃dd,(dY.take (dQ g))[j]? =some dd:=⟨_,cO (by omega)⟩
   have hdb:=ab2 dd (NY (bH hd));have hdv:iY (jE BL (j*2)) 2=some [.int .i64 dd.1,.int .i64 dd.2]:=ab3 (j:=j) (d:=dd) (by rw[tV]at hd;split at hd;exact hd;cases hd)
   have hnr:=ab0 (eX (bE g)) (s1,s2) ((dY.take (dQ g)).take j) dd;rw[<- bU hd]at hnr;have hnl:=Ig (eX (bE g)) (s1,s2) ((dY.take (dQ g)).take j);have hjm:=zM g;rw[gW]at hnl;obtain⟨d1,d2⟩:=dd;dsimp only at hdb hdv hnr;refine(Lj (o:=0) (j:=j*2) (cs:=BL) rfl rfl rfl (dJ _ (dJ _ (dM ..))) hdv).h ?_;refine go ?_;intro b12;refine go ?_;refine(fJ rfl rfl (Bh (a:=s1) (b:=d1) rfl rfl (by omega) (by omega))).h ?_;refine go ?_;refine(fJ rfl rfl (Bh (a:=s2) (b:=d2) rfl rfl (by omega) (by omega))).h ?_;refine go ?_;refine TN Uf (s1+d1,s2+d2) (λv hv hm=>?_) (λhm=>?_)
   ·obtain⟨c,rfl,hc⟩:=SF _ _ hv;rw[hv]at hnr;refine go ?_;refine Sc (kL aa) (b:=bl) (xss:=xss.set vs.length (gq (eX (bE g)) (s1,s2) ((dY.take (dQ g)).take j))) (k:=vs.length) (xs:=gq (eX (bE g)) (s1,s2) ((dY.take (dQ g)).take j)) (by rw[uV,if_pos rfl,if_pos (by omega)]) (h:=λws v Ez hv2=>?_);rw[CE]at Ez;refine Sg aa v (gq (eX (bE g)) (s1,s2) ((dY.take (dQ g)).take j)) (λhz=>?_);refine vT (o:=0+vs.length*1) (cs:=ws) v (by rw[fD,Nat.mul_one];exact hv2) ?_;refine go ?_;intro b43;refine go ?_;refine R4 (xs:=gq (eX (bE g)) (s1,s2) ((dY.take (dQ g)).take j)) aa c () (by omega) (next:=λad=>?_);rw[show gq (eX (bE g)) (s1,s2) ((dY.take (dQ g)).take j)++[c]=gq (eX (bE g)) (s1,s2) ((dY.take (dQ g)).take (j+1))from hnr.symm];refine go ?_;refine xS (o:=0+vs.length*1) (cs:=ws) (v:=.slice ad ((gq (eX (bE g)) (s1,s2) ((dY.take (dQ g)).take j)).length+1) ((gq (eX (bE g)) (s1,s2) ((dY.take (dQ g)).take j)).length+1)) (cs':=ws.set vs.length (.slice ad ((gq (eX (bE g)) (s1,s2) ((dY.take (dQ g)).take j)).length+1) ((gq (eX (bE g)) (s1,s2) ((dY.take (dQ g)).take j)).length+1))) (by rw[fD,Nat.mul_one]) (by omega) ?_;refine Si aa (.slice ad ((gq (eX (bE g)) (s1,s2) ((dY.take (dQ g)).take j)).length+1) ((gq (eX (bE g)) (s1,s2) ((dY.take (dQ g)).take j)).length+1)) (gq (eX (bE g)) (s1,s2) ((dY.take (dQ g)).take (j+1))) (λe=>by rw[hnr]at e;exact absurd e (by show¬(_++[c]=[]);simp)) ?_;refine Sd (kL aa) (b:=bl) (xss:=xss.set vs.length (gq (eX (bE g)) (s1,s2) ((dY.take (dQ g)).take j))) (vs:=ws) (k:=vs.length) (xs:=gq (eX (bE g)) (s1,s2) ((dY.take (dQ g)).take (j+1))) (by rw[CE];exact Ez) (by rw[CE];omega) (h:=?_);rw[List.set_set];refine go ?_;exact aP (j+1) (by omega) (by omega)
   ·rw[qC hm]at hnr;refine go ?_;refine BF (A:=mZ (kL aa) bl (xss.set vs.length (gq (eX (bE g)) (s1,s2) ((dY.take (dQ g)).take j)))) (A':=mZ (kL aa) bl (xss.set vs.length (gq (eX (bE g)) (s1,s2) ((dY.take (dQ g)).take (j+1))))) (congrArg (mZ (kL aa) bl) ((by rw[hnr];exact congrArg (xss.set vs.length) (gN _).symm))) ?_;exact aP (j+1) (by omega) (by omega)
  have hjl:j=dQ g:=by omega
  subst hjl;refine BF (A:=mZ (kL aa) bl (xss.set vs.length (gq (eX (bE g)) (s1,s2) ((dY.take (dQ g)).take (dQ g))))) (A':=mZ (kL aa) bl (xss.set vs.length (gq (eX (bE g)) (s1,s2) (dY.take (dQ g))))) (congrArg (mZ (kL aa) bl) ((congrArg (λz=>xss.set vs.length (gq (eX (bE g)) (s1,s2) z)) (uX (Nat.le_of_eq hml))))) ?_;refine go ?_;refine Sc (kL aa) (b:=bl) (xss:=xss.set vs.length (gq (eX (bE g)) (s1,s2) (dY.take (dQ g)))) (k:=vs.length) (xs:=gq (eX (bE g)) (s1,s2) (dY.take (dQ g))) (by rw[uV,if_pos rfl,if_pos (by omega)]) (h:=λws v Ez hv2=>?_);rw[CE]at Ez;refine Sg aa v (gq (eX (bE g)) (s1,s2) (dY.take (dQ g))) (λhz=>?_);refine vT (o:=0+vs.length*1) (cs:=ws) v (by rw[fD,Nat.mul_one];exact hv2) ?_;have hn6:=Ig (eX (bE g)) (s1,s2) (dY.take (dQ g));rw[hml]at hn6;have hjm:=zM g;refine oV (E:=aa) (v:=v) (xs:=gq (eX (bE g)) (s1,s2) (dY.take (dQ g))) λa hv=>?_;subst hv;refine ax (MW (a:=a) (zs:=gq (eX (bE g)) (s1,s2) (dY.take (dQ g))) rfl (by omega)) (next:=λ_ _=>?_);refine adK (b:=bl) (cs:=ws) (cs':=ws.set vs.length (.slice a (gq (eX (bE g)) (s1,s2) (dY.take (dQ g))).length (gq (eX (bE g)) (s1,s2) (dY.take (dQ g))).length)) (ab5 hv2).symm ?_;refine Si aa (.slice a (gq (eX (bE g)) (s1,s2) (dY.take (dQ g))).length (gq (eX (bE g)) (s1,s2) (dY.take (dQ g))).length) (dn (gq (eX (bE g)) (s1,s2) (dY.take (dQ g)))) (λe=>hz (jM.1 (by rw[<- zF,e];rfl))) ?_;refine Sd (kL aa) (b:=bl) (xss:=xss.set vs.length (gq (eX (bE g)) (s1,s2) (dY.take (dQ g)))) (vs:=ws) (k:=vs.length) (xs:=dn (gq (eX (bE g)) (s1,s2) (dY.take (dQ g)))) (by rw[CE];exact Ez) (by rw[CE];omega) (h:=?_);refine BF (A:=mZ (kL aa) bl ((xss.set vs.length (gq (eX (bE g)) (s1,s2) (dY.take (dQ g)))).set vs.length (dn (gq (eX (bE g)) (s1,s2) (dY.take (dQ g)))))) (A':=mZ (kL aa) bl (xss.set ((vs.length:Int)).toNat (kV g ((vs.length:Int),s1,s2)))) (congrArg (mZ (kL aa) bl) ((by rw[List.set_set,Am];rfl))) ?_;refine go ?_;exact uA () rfl trivial trivial
 intro r2 xs2 adN;subst adN;rw[IP (λ(xss:List (List Int)) (x:Int×(Int×Int))=>xss.set x.1.toNat (kV g x))];dsimp only[List.cons_append,List.nil_append];rw[show(bE g).foldl (λ(xss:List (List Int)) (x:Int×(Int×Int))=>xss.set x.1.toNat (kV g x)) (List.replicate g.cells.length [])=bJ g from ab6 g];refine bA (abA (A:=kL aa) (E:=rO aa) (b:=bl) (xss:=bJ g) (c:=(bJ g).length) (λv=>v) rfl (λ_ _=>rfl) (λv xs=>abB)) (h:=?_);rw[xZ];refine go ?_;refine kQ (c:=(0:Int)=0) (f:=ah (rO aa) (.slice (some ⟨bl,0,some 0⟩) g.cells.length g.cells.length) (bJ g)) (by simp) ?_;exact Br ⟨.slice (some ⟨bl,0,some 0⟩) g.cells.length g.cells.length,0⟩ (hv:=rfl) (hp:=⟨λ_=>hg,λ_=>rfl⟩)
