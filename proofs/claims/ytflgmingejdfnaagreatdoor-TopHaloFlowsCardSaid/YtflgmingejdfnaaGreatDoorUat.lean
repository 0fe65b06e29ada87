import Derived.Test.YtflgmingejdfnaaGreatDoorUas
import Derived.Test.YtflgmingejdfnaaGreatDoorUar
set_option linter.all false
set_option maxRecDepth 100000
open Bool renaming and_self→wi,false_and→xA,not_false→yI,true_and→xv
open Int renaming reduceEq→vn
open List renaming append_assoc→xo,append_nil→wg,drop→xz,drop_drop→vH,drop_eq_getElem_cons→yT,drop_left'→uW,drop_zero→yj,length_cons→yy,length_drop→wA,length_nil→yG,length_pos_iff→uM,length_take→yS,map_append→xt,replicate→yz,set_append_right→tN,take_append_drop→xT,take_of_length_le→yK
open Nat renaming add_comm→yaY,add_mul→wZ,add_zero→yZ,beq_refl→xq,ble_eq_true_of_le→yu,div_add_mod→wC,div_eq_of_lt→wR,div_lt_iff_lt_mul→wH,eq_zero_or_pos→xu,le_trans→xp,lt_of_le_of_lt→xR,lt_of_lt_of_le→yL,mod_eq_of_lt→yP,mod_lt→xD,mul_add→xH,mul_add_div→ybc,mul_add_mod→ybd,mul_assoc→xn,mul_comm→xQ,mul_le_mul_left→yQ,mul_le_mul_right→y5,mul_lt_mul''→uS,mul_lt_mul_of_pos_right→wL,mul_mod_mul_right→tY,mul_one→yi,mul_zero→xO,pos_of_ne_zero→yaA,pow_add→wJ,pow_le_pow_right→xk,pow_succ→xj,reduceAdd→yb,reduceEqDiff→ya,reduceLeDiff→ye,two_pow_pos→wS,zero_add→yd,zero_mul→ybT
namespace VE
section
open Go (IntKind)
def WN (v:AV) (m:Nat):Prop:=∃l,bO v l/\lo 18446744073709551616 l/\gU l/\bv 18446744073709551616 l=m
def apz (i:Nat) (q:List Nat) (x:Nat):(yz (i+1) 0++q).set i x=yz i 0++x::q:=by
 rw [List.replicate_succ',xo]
 simp_all
def Od {b:Nat} {l:List Nat} {i:Nat} (h:i<l.length):bv b (l.drop i)=l.getD i 0+b*bv b (l.drop (i+1)):=by
 rw [yT h,gd h];rfl
def UD {v w:AV} {x y:List Nat} (hv:bO v x) (hw:bO w y) (hp:Hp):result hp (.aw [v,w])=some (.aw [v,w]):=by
 rcases hv with ⟨rfl,_⟩ | ⟨e,rfl⟩<;>rcases hw with ⟨rfl,_⟩ | ⟨e',rfl⟩<;>rfl
def arS {hp:Hp} {id n l h:Nat} {pu ex:Bool} {cs:List AV} {tm:Env} {x y:X} (hg:ap hp id=some (.cells true pu ex 1 cs)) (hx:de tm 0 (some x)=some l) (hy:de tm n (some y)=some h) (h1:l<h) (h2:h<=n):
  fT hp (.sl 1) (.ak id 0 n) tm (some x) (some y)=some (.ak id l (h-l)):=by
 simp only [fT,hg,hx,hy,yu (Nat.le_of_lt h1),yu h2,xq,wi,ym,cP (Nat.ne_of_lt h1),xA,yD,yd,yi]
def acs {hp:Hp} {id n h:Nat} {pu ex:Bool} {cs:List AV} {tm:Env} {y:X} (hg:ap hp id=some (.cells true pu ex 1 cs)) (hy:de tm n (some y)=some h) (h1:0<h) (h2:h<=n):
  fT hp (.sl 1) (.ak id 0 n) tm none (some y)=some (.ak id 0 h):=by
 have hx:de tm 0 none=some 0:=rfl;simp only [fT,hg,hx,hy,yu (Nat.zero_le h),yu h2,xq,wi,ym,cP (show (0:Nat)≠h by omega),xA,yD,ybT,yZ,Nat.sub_zero]
def ag3 (P:aI) (L:Lib) (f:cT) (hp:Hp) (ct n:Nat) (xs:List AV):dR P L f hp ct .heap (.fn (.f n) [] []) xs=iS P L f hp ct n xs:=by
 simp only [dR,List.nil_append,wg]
section
variable {P:aI} {L:Lib}
def auE (h:Wd P L) {v w:AV} {x:List Nat} (hv:bO v x) (hx:lo 18446744073709551616 x) (lx:x.length<=99999999999) {d:Nat} (hw:bO w [d]) (gN:0<d) (XW:d<18446744073709551616) {n:Nat} (hn:n=x.length):
  ∀k s,(∃(i r:Nat) (q:List Nat),bA [0,1,6,7,8] s=⟨[(0,v),(1,w),(6,.ak 0 0 n),(7,uc r),(8,aa ((i:Int)-1))],[(0,.cells true true true 1 ((yz i 0++q).map uc))],1,0⟩/\i=k/\i+q.length=n/\lo 18446744073709551616 q/\r<d/\bv 18446744073709551616 (x.drop i)=bv 18446744073709551616 q*d+r)->
   ∃ex s',D P L (.loop [0,1,6,7,8] JV) s=some (ex,s')/\∃tm r q,s'=⟨tm,[(0,.cells true true true 1 (q.map uc))],1,0⟩/\ex= .exit 0/\ab tm 6= .ak 0 0 n/\ab tm 7=uc r/\q.length=n/\lo 18446744073709551616 q/\r<d/\bv 18446744073709551616 x=bv 18446744073709551616 q*d+r:=by
 refine cg (I:=fun k s=>∃(i r:Nat) (q:List Nat),s=⟨[(0,v),(1,w),(6,.ak 0 0 n),(7,uc r),(8,aa ((i:Int)-1))],[(0,.cells true true true 1 ((yz i 0++q).map uc))],1,0⟩/\i=k/\i+q.length=n/\lo 18446744073709551616 q/\r<d/\bv 18446744073709551616 (x.drop i)=bv 18446744073709551616 q*d+r)
  (Q:=fun ex s'=>∃tm r q,s'=⟨tm,[(0,.cells true true true 1 (q.map uc))],1,0⟩/\ex= .exit 0/\ab tm 6= .ak 0 0 n/\ab tm 7=uc r/\q.length=n/\lo 18446744073709551616 q/\r<d/\bv 18446744073709551616 x=bv 18446744073709551616 q*d+r) ?_
 rintro k s ⟨i,r,q,rfl,rfl,hlen,bt,hr,aR⟩
 cases i with
 | zero=>
  right
  simp only [go_sem,ya,JV,show ¬(0:Int)<=((0:Nat):Int)-1 by omega];exact ⟨_,_,rfl,by simp,_,r,q,rfl,rfl,by simp only [go_sem,ya],by simp only [go_sem,ya],by omega,bt,hr,by simpa using aR⟩
 | succ i=>
  left
  have gx:=gY (show 0<18446744073709551616 by decide) hx i;have e1:=hv.aY (i:=i) (by omega);have e2:=hw.aY (i:=0) (by simp);have iO:=Od (b:=18446744073709551616) (l:=x) (i:=i) (by omega);rw [show ([d]:List Nat).getD 0 0=d from rfl] at e2;generalize x.getD i 0=a at*
  have e3:=ahN (P:=P) (L:=L) h.ahS h.Ld hr gx XW;have fS:=wC (r*18446744073709551616+a) d;have rL:=xD (r*18446744073709551616+a) gN;have pz:(r*18446744073709551616+a)/d<18446744073709551616:=by
   refine (wH gN).2 ?_;omega
  generalize (r*18446744073709551616+a)/d=q1 at*
  generalize (r*18446744073709551616+a)%d=r1 at*
  have bh:=fun (hp:Hp) (ct:Nat)=>lI (hp:=hp) (ct:=ct) (id:=0) (v:=q1) (ex:=true) (l:=yz (i+1) 0++q) (o:=i) (by simp;omega)
  simp only [go_sem,ya,yi,JV,show ((i+1:Nat):Int)-1=(i:Int) by omega,show (0:Int)<=(i:Int) by omega,e1,e2,e3,dH 0 0 (show i<n by omega),yd,bh,apz];refine ⟨_,i,rfl,by omega,i,r1,q1::q,?_,rfl,by simp;omega,Nr.2 ⟨F6.2 pz,bt⟩,rL,?_⟩
  ·rw [wrap64 (by omega) (by omega)];simp only [go_sem,ya,yb,av,az hv.pu,aE _ hv.pu,az hw.pu,aE _ hw.pu]<;>rfl
  ·rw [iO,aR];simp only [bv];rw [wZ,xH,<-xn 18446744073709551616];rw [xQ d q1] at fS;omega
def ano {s u u1:Nat} (hs:s<64) (hu:u<18446744073709551616):u/2^s<18446744073709551616/\(0<s->u/2^s|||(u1*2^(64-s)%18446744073709551616)<18446744073709551616)/\
  (if 0<s then (u/2^s|||(u1*2^(64-s)%18446744073709551616)) else u/2^s)*2^s+u%2^s=u+18446744073709551616*(u1%2^s):=by
 have e:18446744073709551616=2^s*2^(64-s):=by rw [<-wJ,show s+(64-s)=64 by omega]
 have h1:u1*2^(64-s)%18446744073709551616=(u1%2^s)*2^(64-s):=by rw [e,tY]
 have hp:=wS s;have h2:u/2^s<2^(64-s):=by
  refine (wH hp).2 ?_
  grind
 have h3:u/2^s|||(u1*2^(64-s)%18446744073709551616)=(u1%2^s)*2^(64-s)+u/2^s:=by rw [h1,Nat.or_comm,UC h2]
 have h4:(u1%2^s)*2^(64-s)+u/2^s<18446744073709551616:=by
  have:=y5 (2^(64-s)) (show u1%2^s+1<=2^s from xD _ hp)
  grind
 have h5:=Nat.mod_add_div u (2^s)
 grind
def auF {us qs:List Nat} {n la m s:Nat} (hs:s<64) (lu:us.length=la) (gu:lo 18446744073709551616 us) (hn:n<la) (Mm:la<=100000000000):
  ∀k st,(∃(i:Nat) (rs:List Nat),bA [9,11,12,13,96,97] st=⟨[(9,aa s),(11,.ak 0 0 la),(12,aa n),(13,.ak 1 0 m),(96,aa n),(97,aa i)],H2 qs (rs++us.drop i),2,0⟩/\i+k=n/\rs.length=i/\lo 18446744073709551616 rs/\bv 18446744073709551616 rs*2^s+us.getD 0 0%2^s=bv 18446744073709551616 (us.take i)+18446744073709551616^i*(us.getD i 0%2^s))->
   ∃ex st',D P L (.loop [9,11,12,13,96,97] FU) st=some (ex,st')/\∃tm rs,st'=⟨tm,H2 qs (rs++us.drop n),2,0⟩/\ex= .exit 4/\ab tm 11= .ak 0 0 la/\ab tm 12=aa n/\ab tm 13= .ak 1 0 m/\rs.length=n/\lo 18446744073709551616 rs/\bv 18446744073709551616 rs*2^s+us.getD 0 0%2^s=bv 18446744073709551616 (us.take n)+18446744073709551616^n*(us.getD n 0%2^s):=by
 refine cg (I:=fun k st=>∃(i:Nat) (rs:List Nat),st=⟨[(9,aa s),(11,.ak 0 0 la),(12,aa n),(13,.ak 1 0 m),(96,aa n),(97,aa i)],H2 qs (rs++us.drop i),2,0⟩/\i+k=n/\rs.length=i/\lo 18446744073709551616 rs/\bv 18446744073709551616 rs*2^s+us.getD 0 0%2^s=bv 18446744073709551616 (us.take i)+18446744073709551616^i*(us.getD i 0%2^s))
  (Q:=fun ex st'=>∃tm rs,st'=⟨tm,H2 qs (rs++us.drop n),2,0⟩/\ex= .exit 4/\ab tm 11= .ak 0 0 la/\ab tm 12=aa n/\ab tm 13= .ak 1 0 m/\rs.length=n/\lo 18446744073709551616 rs/\bv 18446744073709551616 rs*2^s+us.getD 0 0%2^s=bv 18446744073709551616 (us.take n)+18446744073709551616^n*(us.getD n 0%2^s)) ?_
 rintro k st ⟨i,rs,rfl,hk,lr,gr,aR⟩;by_cases hi:i<n
 ·left
  have dJ:(0:Nat)<18446744073709551616:=by decide
  have g0:=gY dJ gu i;have g1:=gY dJ gu (i+1);have d0:us.drop i=us.getD i 0::us.getD (i+1) 0::us.drop (i+2):=by
   rw [yT (show i<us.length by omega),yT (show i+1<us.length by omega),gd,gd]
  have eM:=jM (b:=18446744073709551616) (l:=us) i;have mH:∀r,r<18446744073709551616->r*2^s+us.getD i 0%2^s=us.getD i 0+18446744073709551616*(us.getD (i+1) 0%2^s)->lo 18446744073709551616 (rs++[r])/\bv 18446744073709551616 (rs++[r])*2^s+us.getD 0 0%2^s=bv 18446744073709551616 (us.take (i+1))+18446744073709551616^(i+1)*(us.getD (i+1) 0%2^s):=fun r h1 h2=>by
   refine ⟨Nr.2 ⟨gr,F6.2 h1⟩,?_⟩;rw [sL,B8,lr,eM,wZ,xj,xn,xn];have e2:=congrArg (fun t=>18446744073709551616^i*t) h2;simp only [xH] at e2;generalize 18446744073709551616^i*(r*2^s)=p1 at*
   generalize 18446744073709551616^i*(us.getD i 0%2^s)=p2 at*
   generalize 18446744073709551616^i*us.getD i 0=p3 at*
   generalize 18446744073709551616^i*(18446744073709551616*(us.getD (i+1) 0%2^s))=p4 at*
   omega
  have VX:us.drop (i+1)=us.getD (i+1) 0::us.drop (i+2):=by
   rw [yT (show i+1<us.length by omega),gd]
  generalize us.getD i 0=a at*
  obtain ⟨c,hc⟩:∃c,c=us.getD (i+1) 0:=⟨_,rfl⟩;rw [<-hc] at g1 d0 VX mH;generalize us.drop (i+2)=dr at*
  rw [d0];obtain ⟨n1,n2,n3⟩:=ano (u1:=c) hs g0;have o1:=Lc .i64 a (s:=s) (by omega);have o2:=Lb .i64 c (s:=64-s) (by omega);have o3:binOp .sub (.int .i64 64) (aa s)=some (aa (64-s:Nat)):=by
   rw [N9,wrap64 (by omega) (by omega)];congr 2;omega
  have o4:=XN n1 (xD (c*2^(64-s)) dJ);have sa:∀z y,(rs++z::y).set i a=rs++a::y:=fun z y=>by rw [tN _ _ (by omega),lr];simp
  have e0:∀z y,xz i ((rs++z::y).map uc)=uc z::y.map uc:=fun z y=>by
   rw [xt,uW (by simp [lr])];rfl
  have e1:∀z y u,xz (i+1) ((rs++z::y::u).map uc)=uc y::u.map uc:=fun z y u=>by
   rw [show rs++z::y::u=(rs++[z])++y::u by simp,xt,uW (by simp [lr])];rfl
  have Ho:∀(hp:Hp) (ct x z:Nat) (y:List Nat),fu hp ct 0 i 1 [.int .u64 (x:Int)] (some (.cells true true true 1 ((rs++z::y).map uc)))=some (.aw [],bf hp 0 (.cells true true true 1 ((rs++x::y).map uc)),ct):=fun hp ct x z y=>by
   rw [lI (by simp;omega),tN _ _ (by omega),lr];simp
  by_cases h0:0<s
  ·rw [yF h0] at n3;obtain ⟨f1,f2⟩:=mH _ (n2 h0) n3;generalize a/2^s=a1 at*
   generalize a1|||(c*2^(64-s)%18446744073709551616)=r at*
   simp only [go_sem,ya,yi,FU,H2,show (i:Int)<(n:Int) by omega,dH 0 0 (show i<la by omega),yd,e0,o1,Ho,show (0:Int)<(s:Int) by omega,show (i:Int)+1=((i+1:Nat):Int) from rfl,wrapN (n:=i+1) (by omega),show ((i+1:Nat):Int)<(la:Int) by omega,dH 0 0 (show i+1<la by omega),e1,o3,o2,o4];refine ⟨_,k-1,rfl,by omega,i+1,rs++[r],by simp only [go_sem,ya,yb,av];rw [VX];simp,by omega,by simp [lr],f1,by rw [<-hc];exact f2⟩
  ·rw [yr h0] at n3;obtain ⟨f1,f2⟩:=mH _ n1 n3;generalize a/2^s=a1 at*
   simp only [go_sem,ya,yi,FU,H2,show (i:Int)<(n:Int) by omega,dH 0 0 (show i<la by omega),yd,e0,o1,Ho,show ¬(0:Int)<(s:Int) by omega,show (i:Int)+1=((i+1:Nat):Int) from rfl,wrapN (n:=i+1) (by omega)];refine ⟨_,k-1,rfl,by omega,i+1,rs++[a1],by simp only [go_sem,ya,yb,av];rw [VX];simp,by omega,by simp [lr],f1,by rw [<-hc];exact f2⟩
 ·right
  have:i=n:=by omega
  subst this;simp only [go_sem,ya,FU,H2,show ¬(i:Int)<(i:Int) by omega];exact ⟨_,_,rfl,by simp,_,rs,rfl,rfl,by simp only [go_sem,ya],by simp only [go_sem,ya],by simp only [go_sem,ya],lr,gr,aR⟩
end
end
section
open Go (IntKind)
def abu {b p A V bu bq0 U0 pre:Nat} (h1:bu=pre+p*A) (h2:bu+bq0*V=U0):(pre+p*(A%V))+(bq0+p*(A/V))*V=U0:=by
 have fS:=wC A V
 grind
def awp (hp:Hp) (ct:Nat) (ex:Bool) (sz n:Nat) (cs:List AV):own hp ct (.cR ex sz n cs)=(.ak ct 0 n,(ct,.cells true true ex sz cs)::hp,ct+1):=rfl
section
variable {P:aI} {L:Lib}
def auG (h:Wd P L) {w:AV} {vs:List Nat} (hw:bO w vs) (gv:lo 18446744073709551616 vs) {n la m:Nat} (lv:vs.length=n) (eQ:2<=n) (Qr:n<=la) (Mm:la<=99999999999) (hm:m=la-n+1) (eN:0<vs.getD (n-1) 0) {s U0:Nat}:
  ∀k st,(∃(j:Nat) (us qs:List Nat),bA [9,10,11,12,13,14] st=⟨[(9,aa s),(10,w),(11,.ak 0 0 (la+1)),(12,aa n),(13,.ak 1 0 m),(14,aa ((j:Int)-1))],H2 qs us,2,0⟩/\j=k/\j<=m/\us.length=la+1/\qs.length=m/\lo 18446744073709551616 us/\lo 18446744073709551616 qs/\(∀i,i<j->qs.getD i 0=0)/\
    bv 18446744073709551616 us+bv 18446744073709551616 qs*bv 18446744073709551616 vs=U0/\bv 18446744073709551616 (us.drop j)<bv 18446744073709551616 vs)->
   ∃ex st',D P L (.loop [9,10,11,12,13,14] JW) st=some (ex,st')/\∃tm us qs,st'=⟨tm,H2 qs us,2,0⟩/\ex= .exit 2/\ab tm 9=aa s/\ab tm 11= .ak 0 0 (la+1)/\ab tm 12=aa n/\ab tm 13= .ak 1 0 m/\us.length=la+1/\qs.length=m/\lo 18446744073709551616 us/\lo 18446744073709551616 qs/\
    bv 18446744073709551616 us+bv 18446744073709551616 qs*bv 18446744073709551616 vs=U0/\bv 18446744073709551616 us<bv 18446744073709551616 vs:=by
 refine cg (I:=fun k st=>∃(j:Nat) (us qs:List Nat),st=⟨[(9,aa s),(10,w),(11,.ak 0 0 (la+1)),(12,aa n),(13,.ak 1 0 m),(14,aa ((j:Int)-1))],H2 qs us,2,0⟩/\j=k/\j<=m/\us.length=la+1/\qs.length=m/\lo 18446744073709551616 us/\lo 18446744073709551616 qs/\(∀i,i<j->qs.getD i 0=0)/\
    bv 18446744073709551616 us+bv 18446744073709551616 qs*bv 18446744073709551616 vs=U0/\bv 18446744073709551616 (us.drop j)<bv 18446744073709551616 vs)
  (Q:=fun ex st'=>∃tm us qs,st'=⟨tm,H2 qs us,2,0⟩/\ex= .exit 2/\ab tm 9=aa s/\ab tm 11= .ak 0 0 (la+1)/\ab tm 12=aa n/\ab tm 13= .ak 1 0 m/\us.length=la+1/\qs.length=m/\lo 18446744073709551616 us/\lo 18446744073709551616 qs/\
    bv 18446744073709551616 us+bv 18446744073709551616 qs*bv 18446744073709551616 vs=U0/\bv 18446744073709551616 us<bv 18446744073709551616 vs) ?_
 rintro k st ⟨j,us,qs,rfl,rfl,hj,lu,lq,gu,gq,hz,aR,oV⟩
 cases j with
 | zero=>
  right
  simp only [go_sem,ya,JW,H2,show ¬(0:Int)<=((0:Nat):Int)-1 by omega];exact ⟨_,_,rfl,by simp,_,us,qs,rfl,rfl,by simp only [go_sem,ya],by simp only [go_sem,ya],by simp only [go_sem,ya],by simp only [go_sem,ya],lu,lq,gu,gq,aR,by simpa using oV⟩
 | succ j=>
  left
  have dJ:(0:Nat)<18446744073709551616:=by decide
  obtain ⟨pre,fC⟩:∃p,p=us.take j:=⟨_,rfl⟩;obtain ⟨x,hx⟩:∃p,p=(us.drop j).take (n+1):=⟨_,rfl⟩;obtain ⟨post,hJ⟩:∃p,p=us.drop (j+(n+1)):=⟨_,rfl⟩;have lp:pre.length=j:=by rw [fC,yS];omega
  have lx:x.length=n+1:=by rw [hx,yS,wA];omega
  have lf:us=pre++x++post:=by
   rw [fC,hx,hJ,<-vH,xo,xT,xT]
  have gx:lo 18446744073709551616 x:=by rw [hx];exact B0 (adX gu _) _
  have VY:lo 18446744073709551616 pre:=by rw [fC];exact B0 gu _
  have awq:lo 18446744073709551616 post:=by rw [hJ];exact adX gu _
  have hA:bv 18446744073709551616 (us.drop j)=us.getD j 0+18446744073709551616*bv 18446744073709551616 (us.drop (j+1)):=Od (by omega);have hgj:=gY dJ gu j;have HE:us.drop j=x++post:=by rw [hJ,hx,<-vH,xT]
  have By:bv 18446744073709551616 (us.drop j)=bv 18446744073709551616 x+18446744073709551616^(n+1)*bv 18446744073709551616 post:=by rw [HE,sL,lx]
  have Mk:=nm gv;rw [lv] at Mk;have bm:bv 18446744073709551616 (us.drop j)<18446744073709551616*bv 18446744073709551616 vs:=by omega
  have hp0:bv 18446744073709551616 post=0:=by
   rcases xu (bv 18446744073709551616 post) with e | e
   ·exact e
   ·have h1:=yQ (18446744073709551616^(n+1)) e;rw [yi,xj] at h1;rw [xj] at By;omega
  rw [hp0,xO,yZ] at By;have hl:gQ x vs n (vs.getD (n-1) 0) (vs.getD (n-2) 0) (x.getD n 0) (x.getD (n-1) 0) (x.getD (n-2) 0):=
   ⟨eQ,by omega,lx,lv,gx,gv,rfl,rfl,rfl,rfl,rfl,eN,by rw [<-By];exact bm⟩
  have P5:=hl.digit;obtain ⟨x',e1,XX,Q8,Mn⟩:=axT h hw hl (pre:=pre) (post:=post) (qs:=qs);rw [lp,<-lf] at e1;have XY:bv 18446744073709551616 us=bv 18446744073709551616 pre+18446744073709551616^j*bv 18446744073709551616 x:=by
   have:=Jx (b:=18446744073709551616) us j (by omega)
   rw [By,<-fC] at this;exact this
  have VZ:bv 18446744073709551616 (pre++x'++post)=bv 18446744073709551616 pre+18446744073709551616^j*bv 18446744073709551616 x':=by
   rw [xo,sL,sL,hp0,xO,yZ,lp]
  have bf:=oK (b:=18446744073709551616) (l:=qs) (i:=j) (x:=bv 18446744073709551616 x/bv 18446744073709551616 vs) (by omega);rw [hz j (by omega),xO,yZ] at bf;have mH:=abu (b:=0) XY aR;have bh:=fun (hp:Hp) (ct:Nat)=>lI (hp:=hp) (ct:=ct) (id:=1) (v:=bv 18446744073709551616 x/bv 18446744073709551616 vs) (ex:=true) (l:=qs) (o:=j) (by omega)
  have sn:0<bv 18446744073709551616 vs:=by omega
  have rL:=xD (bv 18446744073709551616 x) sn;have mK:∀tm (x y:X),de tm 0 (some x)=some j->de tm (la+1) (some y)=some (j+n+1)->fT (H2 qs us) (.sl 1) (.ak 0 0 (la+1)) tm (some x) (some y)=some (.ak 0 j (n+1)):=fun tm x y h1 h2=>by
   rw [arS (cs:=us.map uc) (pu:=true) (ex:=true) rfl h1 h2 (by omega) (by omega),show j+n+1-j=n+1 by omega]
  simp only [go_sem,ya,yi,JW,H2,show ((j+1:Nat):Int)-1=(j:Int) by omega,show (0:Int)<=(j:Int) by omega,show (j:Int)+(n:Int)=((j+n:Nat):Int) from rfl,wrapN (n:=j+n) (by omega),show ((j+n:Nat):Int)+1=((j+n+1:Nat):Int) from rfl,wrapN (n:=j+n+1) (by omega),mK,eh,ag3,e1,dH 1 0 (show j<m by omega),yd,bh];refine ⟨_,j,rfl,by omega,j,pre++x'++post,qs.set j (bv 18446744073709551616 x/bv 18446744073709551616 vs),?_,rfl,by omega,by rw [pO,lp,XX,hJ,wA];omega,by simp [lq],Nr.2 ⟨Nr.2 ⟨VY,Q8⟩,awq⟩,nh gq P5,fun i hi=>by rw [pN (by omega)];exact hz i (by omega),?_,?_⟩
  ·rw [wrap64 (by omega) (by omega)];simp only [go_sem,ya,yb,av,az hw.pu,aE _ hw.pu]<;>rfl
  ·rw [VZ,Mn,bf];exact mH
  ·rw [xo,uW lp,sL,hp0,xO,yZ,Mn];exact rL
def awr {l:List Nat} {n:Nat} (h:l.length=n+1):18446744073709551616^n*l.getD n 0<=bv 18446744073709551616 l:=by
 have:=jM (b:=18446744073709551616) (l:=l) n
 grind
def oW {m K:Nat} {l:List Nat} (hn:gU l) (hv:bv 18446744073709551616 l=m) (h:m<18446744073709551616^K):l.length<=K:=amB (b:=18446744073709551616) (by decide) hn (by rw [hv];exact h)
def auH (h:Wd P L) {v w:AV} {x:List Nat} {d:Nat} (hv:bO v x) (hw:bO w [d]) (gx:lo 18446744073709551616 x) (lx:x.length<=90000000000) (gN:0<d) (XW:d<18446744073709551616) (ec:af P L 158 [v,w] (aa (eE (bv 18446744073709551616 x) d))) (hc:d<=bv 18446744073709551616 x):
  ∃q r,af P L 137 [v,w] (.aw [q,r])/\WN q (bv 18446744073709551616 x/d)/\WN r (bv 18446744073709551616 x%d):=by
 have eR:¬eE (bv 18446744073709551616 x) d<0:=by unfold eE;rw [yr (by omega)];split<;>decide
 obtain ⟨n,hn⟩:∃n,n=x.length:=⟨_,rfl⟩;have main:∃r l,(∀c:Nat->AV->AV->Option AV,True)/\r<d/\l.length=n/\lo 18446744073709551616 l/\bv 18446744073709551616 x=bv 18446744073709551616 l*d+r/\
   ∃q1 r1,bO q1 (eI l)/\bO r1 (eI [r])/\af P L 137 [v,w] (.aw [q1,r1]):=by
  unfold af;rw [aq h.VW]
  simp only [go_sem,ya,KK,hv.len,hv.ah,hw.len,hw.ah,ec,eR,yy,yG,yd,show ((1:Nat):Int)=(1:Int) from rfl,<-hn,Et (n:=n) _ (by omega)];generalize hq:D P L (.loop [0,1,6,7,8] JV) _=q;obtain ⟨ex,s,rfl,tm,r,l,rfl,rfl,t6,t7,rW,bt,hr,aR⟩:=bV hq (auE (P:=P) (L:=L) h hv gx (by omega) hw gN XW hn n) ⟨n,0,[],by
   rw [wrap64 (by omega) (by omega),wg]
   simp only [go_sem,ya,yb,av,az hv.pu,aE _ hv.pu,az hw.pu,aE _ hw.pu]<;>rfl,rfl,rfl,Oo,gN,by rw [List.drop_eq_nil_of_le (by omega)];simp [bv]⟩
  have hf:=nS true l;rw [rW] at hf;obtain ⟨q1,e1,fa⟩:=CH h.nC hf (by omega);obtain ⟨r1,e2,bS⟩:=CH h.nC (nS true [r]) (by simp);simp only [yy,yG,yd,List.map_cons,List.map_nil] at e2;refine ⟨r,l,fun _=>trivial,hr,rW,bt,aR,q1,r1,fa,bS,?_⟩
  simp only [go_sem,ya,yb,Nat.reduceLT,ye,yi,av,t6,t7,CG _ (n:=n) (l:=l) rW true,e1,fa.shut,e2,bS.shut];exact UD fa bS _
 obtain ⟨r,l,_,hr,rW,bt,aR,q1,r1,fa,bS,e⟩:=main;have hq:bv 18446744073709551616 l=bv 18446744073709551616 x/d:=by
  rw [aR,xQ,ybc gN,wR hr,yZ]
 have hm:r=bv 18446744073709551616 x%d:=by
  rw [aR,xQ,ybd,yP hr]
 exact ⟨q1,r1,e,⟨_,fa,BW bt,BV _,by rw [BU,hq]⟩,⟨_,bS,BW (F6.2 (by omega)),BV _,by rw [BU,B8,hm]⟩⟩
def auI (h:Wd P L) {v w:AV} {x y:List Nat} (hv:bO v x) (hw:bO w y) (gx:lo 18446744073709551616 x) (gy:lo 18446744073709551616 y) (nx:gU x) (ny:gU y) (lx:x.length<=90000000000) (ly:2<=y.length) (ec:af P L 158 [v,w] (aa (eE (bv 18446744073709551616 x) (bv 18446744073709551616 y)))) (hc:bv 18446744073709551616 y<=bv 18446744073709551616 x):
  ∃q r,af P L 137 [v,w] (.aw [q,r])/\WN q (bv 18446744073709551616 x/bv 18446744073709551616 y)/\WN r (bv 18446744073709551616 x%bv 18446744073709551616 y):=by
 have dJ:(0:Nat)<18446744073709551616:=by decide
 have eR:¬eE (bv 18446744073709551616 x) (bv 18446744073709551616 y)<0:=by unfold eE;rw [yr (by omega)];split<;>decide
 have hyx:y.length<=x.length:=by
  by_cases hh:x.length<y.length
  ·have:=N8 (b:=18446744073709551616) (by decide) gx ny hh;omega
  ·omega
 obtain ⟨n,hn⟩:∃n,n=y.length:=⟨_,rfl⟩;obtain ⟨la,Mm⟩:∃la,la=x.length:=⟨_,rfl⟩;have Cn:=NM ny (fun e=>by subst e;simp at ly);have E0:=gY dJ gy (y.length-1);have XZ:=hw.aY (i:=y.length-1) (by omega);have mQ:=awr (l:=y) (n:=n-1) (by omega);rw [<-hn] at Cn E0 XZ;obtain ⟨top,oV⟩:∃top,y.getD (n-1) 0=top:=⟨_,rfl⟩;rw [oV] at Cn E0 XZ mQ;have elz:=afN (P:=P) (f:=D P L) h.Ld E0;obtain ⟨z1,z2,z3⟩:=Tm (yaA Cn) E0;generalize 64-ff 64 top=s at*
 obtain ⟨ov,ev,lov,gov,vov⟩:=ahO h.ahT hw gy (by omega) z1;obtain ⟨ou,eu,lou,gou,vou⟩:=ahO h.ahT hv gx (by omega) z1;obtain ⟨v',X0,eZ⟩:=CH h.nC (nS true ov) (by omega);rw [lov,<-hn] at X0;rw [<-hn] at ev;rw [<-Mm] at eu lou;have jE:=wS s;obtain ⟨vs,Bc⟩:∃vs,vs=eI ov:=⟨_,rfl⟩;rw [<-Bc] at eZ;have E1:lo 18446744073709551616 vs:=by rw [Bc];exact BW gov
 have Mo:gU vs:=by rw [Bc];exact BV _
 have z6:bv 18446744073709551616 vs=bv 18446744073709551616 y*2^s:=by rw [Bc,BU,vov]
 have hyW:bv 18446744073709551616 y*2^s<18446744073709551616^n:=by
  have e:18446744073709551616=2^(64-s)*2^s:=by rw [<-wJ,show 64-s+s=64 by omega]
  have e1:=jM (b:=18446744073709551616) (l:=y) (n-1);rw [show n-1+1=n by omega,yK (by omega),oV] at e1;have e2:=nm (B0 gy (n-1));rw [yS,Nat.min_eq_left (by omega)] at e2;have e3:top<2^(64-s):=Nat.lt_of_mul_lt_mul_right (a:=2^s) (Nat.lt_of_lt_of_eq z3 e);have e4:=y5 (2^s) (show top+1<=2^(64-s) from e3);rw [<-e] at e4;have e5:bv 18446744073709551616 y<18446744073709551616^(n-1)*(top+1):=by rw [xH,yi];omega
  have e6:=wL e5 jE;rw [xn] at e6;have e7:=yQ (18446744073709551616^(n-1)) e4;rw [<-xj,show (n-1).succ=n by omega] at e7;exact yL e6 e7
 have axU:18446744073709551616^(n-1)*2^s<=bv 18446744073709551616 vs:=by
  rw [z6];refine y5 _ (xp ?_ mQ)
  have:=yQ (18446744073709551616^(n-1)) (show 1<=top by omega)
  omega
 have Bz:vs.length=n:=by
  have h1:vs.length<=n:=by
   refine oW Mo z6 ?_;exact hyW
  have h2:¬vs.length<n:=fun hh=>by
   have e1:=nm E1;have e2:18446744073709551616^vs.length<=18446744073709551616^(n-1):=xk dJ (by omega);have e3:=y5 (2^s) mQ;rw [xn,<-z6] at e3;have e4:=yQ (18446744073709551616^(n-1)) (show 1<=top*2^s by omega);omega
  omega
 have eN:0<vs.getD (n-1) 0:=by
  have:=NM Mo (fun e=>by rw [e] at Bz;simp at Bz;omega)
  rw [Bz] at this;exact yaA this
 obtain ⟨m,hm⟩:∃m,m=la-n+1:=⟨_,rfl⟩;have Vb:bv 18446744073709551616 (ou.drop m)<bv 18446744073709551616 vs:=by
  have e1:=Jx (b:=18446744073709551616) ou m (by omega);have e2:=nm gx;rw [<-Mm] at e2;have e3:=wL e2 jE;rw [<-vou] at e3;have e4:18446744073709551616^la=18446744073709551616^m*18446744073709551616^(n-1):=by rw [<-wJ];congr 1;omega
  rw [e4,xn] at e3;have e5:18446744073709551616^m*bv 18446744073709551616 (ou.drop m)<18446744073709551616^m*(18446744073709551616^(n-1)*2^s):=by omega
  exact yL (Nat.lt_of_mul_lt_mul_left e5) axU
 have e1y:(y.length:Int)-1=((n-1:Nat):Int):=by omega
 have axV:((la:Nat):Int)-(n:Int)=((m-1:Nat):Int):=by omega
 have jz:∃tm us qs rs,(us.length=la+1/\qs.length=m/\lo 18446744073709551616 us/\lo 18446744073709551616 qs/\bv 18446744073709551616 us+bv 18446744073709551616 qs*bv 18446744073709551616 vs=bv 18446744073709551616 x*2^s/\bv 18446744073709551616 us<bv 18446744073709551616 vs/\
   rs.length=n/\lo 18446744073709551616 rs/\bv 18446744073709551616 rs*2^s+us.getD 0 0%2^s=bv 18446744073709551616 (us.take n)+18446744073709551616^n*(us.getD n 0%2^s))/\ab tm 0=v/\
   ∃q1 r1,bO q1 (eI qs)/\bO r1 (eI rs)/\af P L 137 [v,w] (.aw [q1,r1]):=by
  unfold af at ec ev eu X0;unfold af;rw [aq h.VW];have hfo:=CG (n:=n+1) (l:=ov) (hp:=[]) (by omega) true
  simp only [go_sem,ya,yb,KK,hv.len,hv.ah,hw.len,hw.ah,ec,eR,show ¬(y.length:Int)=1 by omega,e1y,wrapN (n:=n-1) (by omega),XZ,elz,ev,awp,CG _ (n:=n+1) (l:=ov) (by omega) true,X0,eZ.len,eZ.shut,eu,Bz,<-Mm,axV,wrapN (n:=m-1) (by omega),show ((m-1:Nat):Int)+1=(m:Int) by omega,wrapN (n:=m) (by omega),Et (n:=m) _ (by omega)];generalize mT:D P L (.loop [9,10,11,12,13,14] JW) _=qq;obtain ⟨ex,st,rfl,tm,us,qs,rfl,rfl,t9,t11,t12,t13,Q9,Rc,HF,X1,aR,bm⟩:=bV mT (auG (P:=P) (L:=L) h eZ E1 Bz (by omega) (by omega) (by omega) hm eN (s:=s) (U0:=bv 18446744073709551616 x*2^s) m) ⟨m,ou,yz m 0,by
   rw [show ((m-1:Nat):Int)=(m:Int)-1 by omega]
   simp only [go_sem,ya,yb,av,az eZ.pu,aE _ eZ.pu]<;>rfl,rfl,Nat.le_refl _,lou,by simp,gou,F7 dJ m,fun i _=>DH m i,by rw [F9,ybT,yZ,vou],Vb⟩
  simp only [go_sem,ya,yb,av,t9,t11,t12,t13];generalize Ev:D P L (.loop [9,11,12,13,96,97] FU) _=XR;obtain ⟨ex,st,rfl,oZ,rs,rfl,rfl,t11,t12,t13,X2,X3,P6⟩:=bV Ev (auF (P:=P) (L:=L) (qs:=qs) (m:=m) (la:=la+1) (n:=n) z1 Q9 HF (by omega) (by omega) n) ⟨0,[],by simp only [go_sem,ya,yb,av]<;>rfl,by omega,rfl,Oo,by simp [bv]⟩
  have mK:∀(hp:Hp) tm (y:X),ap hp 0=some (.cells true true true 1 ((rs++us.drop n).map uc))->de tm (la+1) (some y)=some n->fT hp (.sl 1) (.ak 0 0 (la+1)) tm none (some y)=some (.ak 0 0 n):=fun hp tm y h1 h2=>acs h1 h2 (by omega) (by omega)
  have Mq:=nS true qs;rw [Rc] at Mq;obtain ⟨q1,f1,fa⟩:=CH h.nC Mq (by omega);have eM:(rs++us.drop n).take n=rs:=by rw [List.take_append_of_le_length (by omega),yK (by omega)]
  have Mr:∃e,∀hp:Hp,mJ 0 n (some (true,1,(rs++us.drop n).map uc,hp))=some (.aO e n (rs.map uc),hp):=by
   refine ⟨true&&Nat.blt 0 1&&Nat.beq n ((rs++us.drop n).map uc).length,fun hp=>?_⟩;simp only [mJ,yd,yi,slice,yj,<-List.map_take,eM];rw [yu (by simp;omega)];rfl
  obtain ⟨e,Mr⟩:=Mr;have ig:=nS e rs;rw [X2] at ig;obtain ⟨r1,f2,bS⟩:=CH h.nC ig (by omega);unfold af at f1 f2;refine ⟨[(0,v)],us,qs,rs,⟨Q9,Rc,HF,X1,aR,bm,X2,X3,P6⟩,rfl,q1,r1,fa,bS,?_⟩
  simp only [go_sem,ya,yb,av,t11,t12,t13,CG _ (n:=m) (l:=qs) Rc true,f1,fa.shut,mK,eh,Mr,f2,bS.shut];exact UD fa bS _
 obtain ⟨tm,us,qs,rs,⟨Q9,Rc,HF,X1,aR,bm,X2,X3,P6⟩,_,q1,r1,fa,bS,e⟩:=jz;have jk:0<bv 18446744073709551616 y:=by
  have:=yQ (18446744073709551616^(n-1)) (show 1<=top by omega)
  have:=Nat.pow_pos (n:=n-1) dJ
  omega
 rw [z6] at aR bm;have Lf:bv 18446744073709551616 qs=bv 18446744073709551616 x/bv 18446744073709551616 y:=by
  rw [<-Nat.mul_div_mul_right _ _ jE,<-aR,yaY,xQ,ybc (Nat.mul_pos jk jE),wR bm,yZ]
 have Re:bv 18446744073709551616 us=(bv 18446744073709551616 x%bv 18446744073709551616 y)*2^s:=by
  rw [<-tY,<-aR,yaY,xQ (bv _ qs),ybd,yP bm]
 have lf:=Jx (b:=18446744073709551616) us n (by omega);have gN:bv 18446744073709551616 (us.drop n)=0:=by
  rcases xu (bv 18446744073709551616 (us.drop n)) with h0 | h0
  ·exact h0
  ·have:=yQ (18446744073709551616^n) h0
   omega
 have hun:us.getD n 0=0:=by
  have:=Od (b:=18446744073709551616) (l:=us) (i:=n) (by omega)
  omega
 rw [gN,xO,yZ] at lf;have C6:us.getD 0 0%2^s=0:=by
  have e1:=Od (b:=18446744073709551616) (l:=us) (i:=0) (by omega);rw [yj,Re] at e1;have e2:18446744073709551616=2^s*2^(64-s):=by rw [<-wJ,show s+(64-s)=64 by omega]
  have e3:(us.getD 0 0+18446744073709551616*bv 18446744073709551616 (us.drop (0+1)))%2^s=us.getD 0 0%2^s:=by
   conv=>lhs;rw [e2,xn]
   exact Nat.add_mul_mod_self_left _ _ _
  rw [<-e3,<-e1,Nat.mul_mod_left]
 rw [hun,C6,Nat.zero_mod,xO,yZ,yZ,<-lf,Re] at P6;have ag4:bv 18446744073709551616 rs=bv 18446744073709551616 x%bv 18446744073709551616 y:=Nat.eq_of_mul_eq_mul_right jE P6;exact ⟨q1,r1,e,⟨_,fa,BW X1,BV _,by rw [BU,Lf]⟩,⟨_,bS,BW X3,BV _,by rw [BU,ag4]⟩⟩
def ahW (h:Wd P L) {v w:AV} {a b K:Nat} (hv:WN v a) (hw:WN w b) (hb:0<b) (ha:a<18446744073709551616^K) (hbK:b<18446744073709551616^K) (hK:K<=90000000000):
  ∃q r,af P L 137 [v,w] (.aw [q,r])/\WN q (a/b)/\WN r (a%b):=by
 obtain ⟨x,HG,gx,nx,vx⟩:=hv;obtain ⟨y,Rg,gy,ny,vy⟩:=hw;have lx:x.length<=90000000000:=xp (oW nx vx ha) hK;have ly:y.length<=90000000000:=xp (oW ny vy hbK) hK;have ec:=ahJ h.ahU HG Rg gx gy nx ny (by omega) (by omega);subst vx;subst vy;by_cases hc:bv 18446744073709551616 x<bv 18446744073709551616 y
 ·have eR:eE (bv 18446744073709551616 x) (bv 18446744073709551616 y)= -1:=by unfold eE;rw [yF hc]
  rw [eR] at ec;refine ⟨.ae,v,?_,⟨[],Ai,Oo,rfl,by rw [wR hc];rfl⟩,⟨x,HG,gx,nx,by rw [yP hc]⟩⟩
  unfold af;rw [aq h.VW];simp only [go_sem,ya,KK,HG.ah,Rg.ah,ec,show (-1:Int)<0 by decide];exact UD Ai HG _
 ·rcases (show y.length=0\/y.length=1\/2<=y.length by omega) with h0 | h1 | h2
  ·rw [List.eq_nil_of_length_eq_zero h0] at hb;simp [bv] at hb
  ·obtain ⟨d,rfl⟩:∃d,y=[d]:=by
    cases y with
    | nil=>simp at h1
    | cons d r=>cases r with
     | nil=>exact ⟨d,rfl⟩
     | cons e r=>simp at h1
   exact auH h HG Rg gx lx hb (F6.1 gy) ec (by omega)
  ·exact auI h HG Rg gx gy nx ny lx h2 ec (by omega)
end
end
section
open Go (IntKind)
def kN (v:AV) (n:Int):Prop:=∃w l,v= .agg [.bool (decide (n<0)),w]/\bq w l/\dg l/\nz l/\dv l=n.natAbs
def jQ {l:List Int} {k:Nat} (hd:dg l) (hn:nz l) (h:dv l<1000000000^k):l.length<=k:=by
 by_cases h0:l=[]
 ·grind
 ·have h1:=OT hn hd h0;have h2:1000000000^(l.length-1)<1000000000^k:=xR h1 h;have h3:=(Nat.pow_lt_pow_iff_right (show 1<1000000000 by decide)).1 h2;omega
def fB {hp:Hp} {ct id:Nat} {a b x y:AV} (h1:bE a=true) (h2:bE b=true) (p1:aS a=true) (p2:aS b=true):
  fu hp ct id 0 2 [a,b] (some (.cells true true true 2 [x,y]))=some (.aw [],bf hp id (.cells true true true 2 [a,b]),ct):=by
 rw [lj (by rfl) (by simp) (by simp [cf,h1,h2])];simp [aK,p1,p2,over]
section
variable {P:aI} {L:Lib}
def cL (neg:Bool) (m:Nat):Int:=if neg=true then -(m:Int) else m
def rM (h:Has P L 294 CA) (dj:Has P L 300 mI) (neg:Bool) {v:AV} {l:List Int} (hv:bq v l) (hd:dg l) (hl:l.length<=20000000000):
  ∃r,af P L 294 [.bool neg,v] r/\kN r (cL neg (dv l)):=by
 obtain ⟨w,e1,hw,gO⟩:=CF dj hv hl;have qZ:=Af l;have Db:=FJ l;have mr:=BT hd;have hc:(neg&&decide ((0:Int)<((eH l).length:Nat)))=decide (cL neg (dv l)<0):=by
  unfold cL
  cases neg with
  | false=>simp
  | true=>
   simp only [xv,yV];by_cases h0:eH l=[]
   ·rw [h0] at qZ ⊢;simp only [dv] at qZ;simp [<-qZ]
   ·have h1:0<(eH l).length:=uM.2 h0;have h2:0<dv l:=by
     rw [<-qZ];rcases xu (dv (eH l)) with h | h
     ·exact absurd (adV Db mr h) h0
     ·exact h
    rw [xi (by omega),xi (by omega)]
 refine ⟨.agg [.bool (decide (cL neg (dv l)<0)),w],?_,w,eH l,rfl,hw,mr,Db,?_⟩
 ·rw [<-hc];unfold af at e1 ⊢;rw [aq h]
  cases neg with
  | false=>
   simp only [go_sem,ya,yb,ye,CA,aG,hv.ah,e1,hw.pu,hw.shut,hw.one,hw.cells,fB];rcases hw with ⟨rfl,_⟩ | ⟨e,rfl⟩<;>rfl
  | true=>
   simp only [go_sem,ya,yb,ye,CA,aG,hv.ah,e1,hw.len,hw.pu,hw.shut,hw.one,hw.cells,fB];rcases hw with ⟨rfl,_⟩ | ⟨e,rfl⟩<;>rfl
 ·rw [qZ];unfold cL;split<;>omega
def ahX (h:Has P L 298 PR) (iY:Has P L 294 CA) (dj:Has P L 300 mI) {v:AV} {n:Int} {K:Nat} (hK:K<=20000000000) (hv:kN v n) (hn:n.natAbs<1000000000^K):∃r,af P L 298 [v] r/\kN r (-n):=by
 obtain ⟨w,l,rfl,hw,hd,hz,qZ⟩:=hv;obtain ⟨r,e1,hr⟩:=rM iY dj (!decide (n<0)) hw hd (xp (jQ hd hz (by rw [qZ];exact hn)) hK)
 have e:cL (!decide (n<0)) (dv l)= -n:=by
  rw [qZ];unfold cL;by_cases h0:n<0
  ·simp [h0];omega
  ·simp [h0];omega
 rw [e] at hr;obtain ⟨w2,l2,rfl,iz,et,jh,A2⟩:=hr;refine ⟨_,?_,w2,l2,rfl,iz,et,jh,A2⟩;unfold af at e1 ⊢;rw [aq h];simp only [go_sem,ya,yb,PR,aG,hw.pu,hw.ah,hw.one,iz.pu,iz.one,aZ,yd,cC,e1,fB,bB];rcases iz with ⟨rfl,_⟩ | ⟨e,rfl⟩<;>rfl
end
end
section
open Go (IntKind)
def cZ (s:Int) (w:AV) (z:Int):Prop:=
 (w= .ae/\s=z/\-9223372036854775808<=z/\z<9223372036854775808)\/
 (∃e l,w= .aO e l.length (l.map uc)/\lo 18446744073709551616 l/\gU l/\bv 18446744073709551616 l=z.natAbs/\s=(if z<0 then -1 else 1)/\9223372036854775808<=z.natAbs)
def cO (v:AV) (z:Int):Prop:=∃s w,v= .agg [aa s,w]/\cZ s w z
def Bd (k:Nat) (z:Int):Prop:=z.natAbs<2^k
def Ca (k:Nat):2^k<=18446744073709551616^k:=Nat.pow_le_pow_left (by decide) k
def Bd.mono {k m:Nat} {z:Int} (h:Bd k z) (hk:k<=m):Bd m z:=yL h (xk (by decide) hk)
def Bd.neg {k:Nat} {z:Int} (h:Bd k z):Bd k (-z):=by unfold Bd at h ⊢;rwa [Int.natAbs_neg]
def Bd.add {k m:Nat} {a b:Int} (ha:Bd k a) (hb:Bd m b):Bd (max k m+1) (a+b):=by
 have h1:Bd (max k m) a:=ha.mono (by omega);have h2:Bd (max k m) b:=hb.mono (by omega);unfold Bd at h1 h2 ⊢
 grind
def Bd.sub {k m:Nat} {a b:Int} (ha:Bd k a) (hb:Bd m b):Bd (max k m+1) (a-b):=by
 rw [Int.sub_eq_add_neg];exact ha.add hb.neg
def Bd.mul {k m:Nat} {a b:Int} (ha:Bd k a) (hb:Bd m b):Bd (k+m) (a*b):=by
 unfold Bd at*
 rw [Int.natAbs_mul,wJ];exact uS ha hb
def Bd.le {k:Nat} {a b:Int} (hb:Bd k b) (h:a.natAbs<=b.natAbs):Bd k a:=xR h hb
def WN.pos {v:AV} {m:Nat} (h:WN v m) (h0:0<m):∃e l,v= .aO e l.length (l.map uc)/\l≠[]/\lo 18446744073709551616 l/\gU l/\bv 18446744073709551616 l=m:=by
 obtain ⟨l,hv,g,n,hb⟩:=h;have hl:l≠[]:=fun e=>by subst e;simp [bv] at hb;omega
 rcases hv with ⟨_,e⟩ | ⟨e,rfl⟩
 ·simp_all
 ·exact ⟨e,l,by simp,hl,g,n,hb⟩
def WN.zero {v:AV} (h:WN v 0):∃n,im [] 1 v=some (.int .i64 n)/\n=0:=by
 obtain ⟨l,hv,g,n,hb⟩:=h
 have:=aoD (b:=18446744073709551616) (by decide) n hb
 subst this;exact ⟨_,hv.len,rfl⟩
def WN.aA {v:AV} {m:Nat} (h:WN v m):∃l,bO v l/\lo 18446744073709551616 l/\gU l/\bv 18446744073709551616 l=m:=h
def oL (e:Bool) (n:Nat) (cs:List AV):iV .sl (.aO e n cs) .ae=some false:=rfl
def hZ:iV .sl .ae .ae=some true:=rfl
def Oe (hp:Hp) (ct id:Nat) (a:Int) (e:Bool) (n:Nat) (cs:List AV) (x y:AV):fu hp ct id 0 2 [.int .i64 a,.aO e n cs] (some (.cells true true true 2 [x,y]))=some (.aw [],bf hp id (.cells true true true 2 [.int .i64 a,.aO e n cs]),ct):=fB rfl rfl rfl rfl
def sR {tm:Env} {a x y:AV} {r:List (Nat×Nat×X)} (h:bE a=true):iG tm [x,y] 0 1 [a] r=fill tm [a,y] r:=ad4 (by simp) h
def cZ.pK {z:Int} (h1: -9223372036854775808<=z) (h2:z<9223372036854775808):cO (.agg [aa z,.ae]) z:=⟨z,.ae,rfl,.inl ⟨rfl,rfl,h1,h2⟩⟩
def cZ.cA {s:Int} {w:AV} {z:Int} (h:cZ s w z):(s<0↔z<0)/\(s=0↔z=0)/\-9223372036854775808<=s/\s<9223372036854775808:=by
 rcases h with ⟨_,rfl,h1,h2⟩ | ⟨e,l,_,_,_,_,rfl,h1⟩
 ·grind
 ·grind
section
variable {P:aI} {L:Lib}
structure Nu (P:aI) (L:Lib):Prop extends Wd P L where
 P7:Has P L 117 KH
 Er:Has P L 142 AT
 V1:Has P L 136 KJ
 Lg:Has P L 145 AU
 oc:Has P L 146 zj
 qu:Has P L 147 rK
 A0:Has P L 163 zk
 axW:Has P L 118 Ek
 V2:Has P L 119 c119
 axX:Has P L 156 VF
 Ew:Has P L 100 kH
 nB:Has P L 164 iJ
 GU:Has P L 148 Em
 K8:Has P L 130 El
def Ey (h:Nu P L) {z:Int} (h1: -9223372036854775808<=z) (h2:z<9223372036854775808):af P L 117 [aa z] (.agg [aa z,.ae])/\cO (.agg [aa z,.ae]) z:=⟨n117 h.P7 z,cZ.pK h1 h2⟩
def V3 (h:Nu P L) {n:Int} (h1: -9223372036854775808<=n) (h2:n<9223372036854775808):af P L 142 [aa n] (uc n.natAbs):=by
 unfold af;rw [aq h.Er];by_cases h0:n<0
 ·have e:IntKind.wrap .u64 (IntKind.wrap .i64 (0-n))=(n.natAbs:Int):=by
   by_cases hm:n= -9223372036854775808
   ·subst hm;rfl
   ·rw [wrap64 (by omega) (by omega),OZ];omega
  simp only [go_sem,ya,AT,h0,Ov,e]
 ·have e:IntKind.wrap .u64 n=(n.natAbs:Int):=by rw [OZ];omega
  simp only [go_sem,ya,AT,h0,Ov,e]
def A3 (h:Nu P L) {s:Int} {w:AV} {z:Int} (hz:cZ s w z):∃r,af P L 136 [.agg [aa s,w]] (.aw [.bool (decide (z<0)),r])/\WN (bN r) z.natAbs:=by
 rcases hz with ⟨rfl,rfl,h1,h2⟩ | ⟨e,l,rfl,g,n,hb,hs,h1⟩
 ·by_cases h0:s=0
  ·subst h0;refine ⟨.ae,?_,[],Ai,Oo,rfl,rfl⟩;unfold af;rw [aq h.V1];simp only [go_sem,ya,yb,KJ,aG,aZ,yd,cC,hZ,DW,Int.reduceLT];rfl
  ·have e1:=V3 h h1 h2;refine ⟨.cR true 1 1 [uc s.natAbs],?_,[s.natAbs],nS true [s.natAbs],F6.2 (by omega),Fs (by omega) [],B8 _⟩;unfold af;rw [aq h.V1];simp only [go_sem,ya,yb,ye,yi,KJ,aG,aZ,yd,cC,hZ,DW,h0,e1];rfl
 ·have fQ:decide (s<0)=decide (z<0):=by rw [hs];split<;>simp<;>omega
  refine ⟨.aO e l.length (l.map uc),?_,l,nS e l,g,n,hb⟩;unfold af;rw [aq h.V1];simp only [go_sem,ya,yb,KJ,aG,aZ,yd,cC,oL,DW,fQ];rfl
def abv {d:Nat} (h:d<=9223372036854775807):IntKind.wrap .i64 (d:Int)=d:=wrapN (by omega)
def Ez (h:Nu P L) (neg:Bool) {w:AV} {m K:Nat} (hw:WN w m) (hm:m<18446744073709551616^K) (hK:K<=90000000000):∃r,af P L 145 [.bool neg,w] r/\cO r (cL neg m):=by
 obtain ⟨l,hu,g,n,hb⟩:=hw;have rW:l.length<=90000000000:=xp (oW n hb hm) hK;by_cases h0:l=[]
 ·subst h0
  have:m=0:=by rw [<-hb];rfl
  subst this;have e:cL neg 0=0:=by unfold cL;cases neg<;>rfl
  rw [e];refine ⟨.agg [aa 0,.ae],?_,cZ.pK (by decide) (by decide)⟩;unfold af;rw [aq h.Lg];simp only [go_sem,ya,yb,AU,aG,hu.len,yG,show (((0:Nat):Nat):Int)=0 from rfl,iT];rfl
 ·have mM:0<l.length:=uM.2 h0;by_cases h1:l.length=1/\l.getD 0 0<=9223372036854775807
  ·obtain ⟨h1,h2⟩:=h1;obtain ⟨d,rfl⟩:∃d,l=[d]:=by
    cases l with
    | nil=>simp at h1
    | cons d r=>cases r with
     | nil=>exact ⟨d,rfl⟩
     | cons e r=>simp at h1
   have h2:d<=9223372036854775807:=h2;rw [B8] at hb;subst hb;have ex:=hu.aY (i:=0) (by simp);rw [show ([d]:List Nat).getD 0 0=d from rfl] at ex;have hlen:∀hp,im hp 1 w=some (.int .i64 1):=fun hp=>hu.len
   cases neg with
   | true=>
    refine ⟨.agg [aa (0-(d:Int)),.ae],?_,?_⟩
    ·unfold af;rw [aq h.Lg]
     simp only [go_sem,ya,yb,ye,AU,aG,hlen,vn,ex,show (d:Int)<=9223372036854775807 by omega,Ge,abv h2,wrap64 (n:=0-(d:Int)) (by omega) (by omega),iT];rfl
    ·have:cL true d=0-(d:Int):=by unfold cL;simp
     rw [this];exact cZ.pK (by omega) (by omega)
   | false=>
    refine ⟨.agg [aa (d:Int),.ae],?_,?_⟩
    ·unfold af;rw [aq h.Lg];simp only [go_sem,ya,yb,ye,AU,aG,hlen,vn,ex,show (d:Int)<=9223372036854775807 by omega,Ge,abv h2,iT];rfl
    ·have:cL false d=(d:Int):=by unfold cL;simp
     rw [this];exact cZ.pK (by omega) (by omega)
  ·have Ms:9223372036854775808<=m:=by
    rw [<-hb];by_cases h2:l.length=1
    ·obtain ⟨d,rfl⟩:∃d,l=[d]:=by
      cases l with
      | nil=>simp at h2
      | cons d r=>cases r with
       | nil=>exact ⟨d,rfl⟩
       | cons e r=>simp at h2
     have:¬d<=9223372036854775807:=fun hd=>h1 ⟨h2,hd⟩
     rw [B8];omega
    ·have h3:=Oq (b:=18446744073709551616) (by decide) n h0;have h4:18446744073709551616^1<=18446744073709551616^(l.length-1):=xk (by decide) (by omega);rw [Nat.pow_one] at h4;omega
   have di:∃e,w= .aO e l.length (l.map uc):=by
    rcases hu with ⟨rfl,hh⟩ | ⟨e,rfl⟩
    ·simp at hh;exact absurd hh h0
    ·exact ⟨e,by simp⟩
   obtain ⟨e,rfl⟩:=di;have ex:=hu.aY (i:=0) mM;have first:(decide ((l.length:Int)=1)=true/\¬((l.getD 0 0:Nat):Int)<=9223372036854775807)\/decide ((l.length:Int)=1)=false:=by
    by_cases h2:l.length=1
    ·left;refine ⟨by simp;omega,fun hd=>h1 ⟨h2,by omega⟩⟩
    ·right;simp;omega
   cases neg with
   | true=>
    refine ⟨.agg [aa (-1),.aO e l.length (l.map uc)],?_,-1,_,rfl,.inr ⟨e,l,rfl,g,n,by rw [hb];unfold cL;simp,by unfold cL;simp;omega,by unfold cL;simp;omega⟩⟩
    unfold af;rw [aq h.Lg];rcases first with ⟨f1,f2⟩ | f1
    ·simp only [go_sem,ya,yb,ye,AU,aG,show ¬(l.length:Int)=0 by omega,f1,f2,ex,sR,Oe];rfl
    ·simp only [go_sem,ya,yb,ye,AU,aG,show ¬(l.length:Int)=0 by omega,f1,sR,Oe];rfl
   | false=>
    refine ⟨.agg [aa 1,.aO e l.length (l.map uc)],?_,1,_,rfl,.inr ⟨e,l,rfl,g,n,by rw [hb];unfold cL;simp,by unfold cL;simp,by unfold cL;simp;omega⟩⟩
    unfold af;rw [aq h.Lg];rcases first with ⟨f1,f2⟩ | f1
    ·simp only [go_sem,ya,yb,ye,AU,aG,show ¬(l.length:Int)=0 by omega,f1,f2,ex,sR,Oe];rfl
    ·simp only [go_sem,ya,yb,ye,AU,aG,show ¬(l.length:Int)=0 by omega,f1,sR,Oe];rfl
end
end
section
open Go (IntKind)
def bP:VC->VC
 | .seq a _=>a
 | c=>c
def apA {a b:Int} {x y:Nat} (ha:a.natAbs=x) (hb:b.natAbs=y) (h:decide (a<0)=decide (b<0)):cL (decide (a<0)) (x+y)=a+b:=by
 unfold cL
 grind
def acu {a b:Int} {m:Nat} (hm:m+b.natAbs=a.natAbs) (h:¬decide (a<0)=decide (b<0)):cL (decide (a<0)) m=a+b:=by
 unfold cL
 grind
def apB {a:Int}:cL (!decide (a<0)) a.natAbs= -a:=by
 unfold cL
 grind
def acv {a b:Int}:cL (decide (a<0) !=decide (b<0)) (a.natAbs*b.natAbs)=a*b:=by
 unfold cL
 grind
def nn {s:Int} {w:AV} {l:List Nat} (h:bO w l) (hp:Hp):result hp (.agg [aa s,w])=some (.agg [aa s,w]):=by
 rcases h with ⟨rfl,_⟩ | ⟨e,rfl⟩<;>rfl
def ep {s:Int} {w:AV} {l:List Nat} (h:bO w l) (hp:Hp) (ct id:Nat) (x y:AV):fu hp ct id 0 2 [.int .i64 s,w] (some (.cells true true true 2 [x,y]))=some (.aw [],bf hp id (.cells true true true 2 [.int .i64 s,w]),ct):=fB rfl h.one rfl h.pu
def cZ.aA {s:Int} {w:AV} {z:Int} (h:cZ s w z):∃l,bO w l:=by
 rcases h with ⟨rfl,_⟩ | ⟨e,l,rfl,_⟩
 ·exact ⟨[],Ai⟩
 ·exact ⟨l,nS e l⟩
def ag5 (hp:Hp) (sz:Nat) (ag:Bool):AV->Option AV
 | .ptr id o=>Q3 sz ag o (ap hp id)
 | .bi cs=>eY sz ag cs
 | _=>none
def dB (tm:Env) (hp:Hp) (ct base i sz:Nat) (ag:Bool):results1 ⟨tm,hp,ct,base⟩ (.cell i sz ag)=ag5 hp sz ag (ab tm i):=by
 rfl
def dD (hp:Hp) (sz:Nat) (ag:Bool) (id o:Nat):ag5 hp sz ag (.ptr id o)=Q3 sz ag o (ap hp id):=rfl
section
variable {P:aI} {L:Lib}
def GY (h:Nu P L) {v:AV} {z:Int} (hv:cO v z):af P L 146 [v] (aa (cA z)):=by
 obtain ⟨s,w,rfl,hn⟩:=hv;obtain ⟨l,hu⟩:=hn.aA;have e:cA s=cA z:=by
  obtain ⟨h1,h2,_⟩:=hn.cA;unfold cA;by_cases h0:z<0
  ·rw [yF h0,yF (h1.2 h0)]
  ·by_cases h3:z=0
   ·rw [yr (fun h=>h0 (h1.1 h)),yF (h2.2 h3),yr h0,yF h3]
   ·rw [yr (fun h=>h0 (h1.1 h)),yr (fun h=>h3 (h2.1 h)),yr h0,yr h3]
 unfold af;rw [aq h.oc];simp only [go_sem,ya,yb,zj,aG,hu.pu,hu.one,aZ,yd,Ux,Gd,Ti,FB,afL,e]
def GZ (h:Nu P L) {v:AV} {z:Int} {K:Nat} (hv:cO v z) (hz:Bd K z) (hK:K<=90000000000):∃r,af P L 147 [v] r/\cO r (-z):=by
 obtain ⟨s,w,rfl,hn⟩:=hv;obtain ⟨p,e1,hp⟩:=A3 h hn;obtain ⟨lp,ix,_⟩:=hp.aA;obtain ⟨r,e2,hr⟩:=Ez h (!decide (z<0)) hp (yL hz (Ca K)) hK;rw [apB] at hr;have bW:=hr;obtain ⟨s',w',rfl,lE⟩:=hr;obtain ⟨l',jG⟩:=lE.aA;rcases hn with ⟨rfl,rfl,h1,h2⟩ | ⟨e,l0,rfl,g,n,hb,hs,h1⟩
 ·by_cases h0:s= -9223372036854775808
  ·refine ⟨_,?_,bW⟩;unfold af;rw [aq h.qu];simp only [go_sem,ya,yb,rK,aG,aZ,yd,cC,hZ,dA,h0];rw [h0] at e1 e2;simp only [go_sem,ya,bZ,bl,e1,e2,ix.ah,bB,dB,dD,bZ,yj,nn jG,ep jG]
  ·refine ⟨.agg [aa (-s),.ae],?_,cZ.pK (by omega) (by omega)⟩;unfold af;rw [aq h.qu]
   simp only [go_sem,ya,yb,rK,aG,aZ,yd,cC,hZ,dA,h0,wrap64 (n:=0-s) (by omega) (by omega),iT,sR];rw [Int.zero_sub];rfl
 ·refine ⟨_,?_,bW⟩;unfold af;rw [aq h.qu];simp only [go_sem,ya,yb,rK,aG,aZ,yd,cC,oL,dA,bZ,bl,e1,e2,ix.ah,bB,dB,dD,bZ,yj,nn jG,ep jG]
def ahY (h:Nu P L) {v:AV} {z:Int} {K:Nat} (hv:cO v z) (hz:Bd K z) (hK:K<=90000000000):∃r,af P L 163 [v] r/\cO r (z.natAbs:Nat):=by
 have eZ:=hv;obtain ⟨s,w,rfl,hn⟩:=hv;obtain ⟨l,hu⟩:=hn.aA;have HI:=hn.cA.1;by_cases h0:z<0
 ·obtain ⟨r,e1,hr⟩:=GZ h eZ hz hK;rw [show -z=(z.natAbs:Int) by omega] at hr;have bW:=hr;obtain ⟨s',w',rfl,lE⟩:=hr;obtain ⟨l',jG⟩:=lE.aA;refine ⟨_,?_,bW⟩;unfold af;rw [aq h.A0];simp only [go_sem,ya,yb,zk,aG,hu.pu,hu.ah,hu.one,aZ,yd,HI.2 h0,bZ,bl,e1,bB,dB,dD,bZ,yj,nn jG,ep jG]
 ·rw [show ((z.natAbs:Nat):Int)=z by omega];refine ⟨_,?_,eZ⟩;unfold af;rw [aq h.A0];simp only [go_sem,ya,yb,zk,aG,hu.pu,hu.one,aZ,yd,show ¬s<0 from fun h=>h0 (HI.1 h),bZ,dB,dD,bZ,yj,nn hu,ep hu]
def auJ (h:Nu P L) {s1 s2:Int} {w1 w2:AV} {a b:Int} {K:Nat} (ha:cZ s1 w1 a) (hb:cZ s2 w2 b) (ka:Bd K a) (kb:Bd K b) (hK:K<=40000000000):
  ∃r,cO r (a+b)/\∀tm,ab tm 2= .ptr 0 0->ab tm 3= .ptr 1 0->ab tm 4= .ptr 2 0->ia [.cell 4 2 true] (D P L (aD (aD c119.body)) ⟨tm,[(2,.cells true true true 2 [.int .i64 0,.ae]),(1,.cells true true true 2 [aa s2,w2]),(0,.cells true true true 2 [aa s1,w1])],3,0⟩)=some r:=by
 obtain ⟨l1,u1⟩:=ha.aA;obtain ⟨l2,u2⟩:=hb.aA;obtain ⟨p,e1,hp⟩:=A3 h ha;obtain ⟨q,e2,hq⟩:=A3 h hb;obtain ⟨lp,ix,gp,np,vp⟩:=hp.aA;obtain ⟨lq,pC,gq,nq,vq⟩:=hq.aA;have Dc:=yL ka (Ca K);have HJ:=yL kb (Ca K);have llp:lp.length<=40000000000:=xp (oW np vp Dc) hK;have llq:lq.length<=40000000000:=xp (oW nq vq HJ) hK;by_cases hs:decide (a<0)=decide (b<0)
 ·obtain ⟨o,oB,e3,ho,oA,no,vo⟩:=axD h.axO h.nC h.ib ix pC gp gq (by omega) (by omega);obtain ⟨r,e4,hr⟩:=Ez h (decide (a<0)) ⟨oB,ho,oA,no,vo⟩ (K:=K+1) (by rw [vp,vq,xj];omega) (by omega);rw [apA vp.symm vq.symm hs] at hr;have bW:=hr;obtain ⟨s',w',rfl,lE⟩:=hr;obtain ⟨l',jG⟩:=lE.aA;refine ⟨_,bW,fun tm t2 t3 t4=>?_⟩;simp only [go_sem,ya,c119,aD,t2,t3,bZ,bl,u1.ah,u2.ah,e1,e2,ix.ah,pC.ah,dA,n7,hs,tG];rw [hs] at e4;simp only [go_sem,ya,t4,e3,ho.ah,ho.shut,e4,bB,dB,dD,bZ,yj,nn jG,ep jG]
 ·have Mt:(decide (a<0)==decide (b<0))=false:=by simpa using hs
  have e3:=ahJ h.ahU ix pC gp gq np nq (by omega) (by omega);rw [vp,vq] at e3;by_cases hc:b.natAbs<=a.natAbs
  ·obtain ⟨o,oB,e4,ho,oA,no,vo⟩:=ahK h.ahV h.nC h.zt ix pC gp gq nq (by omega) (by rw [vp,vq];exact hc)
   rw [vp,vq] at vo;obtain ⟨r,e5,hr⟩:=Ez h (decide (a<0)) ⟨oB,ho,oA,no,rfl⟩ (K:=K) (by omega) (by omega);rw [acu vo hs] at hr;have bW:=hr;obtain ⟨s',w',rfl,lE⟩:=hr;obtain ⟨l',jG⟩:=lE.aA;have eR:(0:Int)<=eE a.natAbs b.natAbs:=by unfold eE;rw [yr (by omega)];split<;>decide
   refine ⟨_,bW,fun tm t2 t3 t4=>?_⟩;simp only [go_sem,ya,c119,aD,t2,t3,t4,bZ,bl,u1.ah,u2.ah,e1,e2,ix.ah,pC.ah,dA,n7,Mt,e3,eR,e4,ho.ah,ho.shut,e5,bB,dB,dD,bZ,yj,nn jG,ep jG]
  ·obtain ⟨o,oB,e4,ho,oA,no,vo⟩:=ahK h.ahV h.nC h.zt pC ix gq gp np (by omega) (by rw [vp,vq];omega);rw [vp,vq] at vo;obtain ⟨r,e5,hr⟩:=Ez h (decide (b<0)) ⟨oB,ho,oA,no,rfl⟩ (K:=K) (by omega) (by omega);rw [acu vo (fun e=>hs e.symm),Int.add_comm] at hr;have bW:=hr;obtain ⟨s',w',rfl,lE⟩:=hr;obtain ⟨l',jG⟩:=lE.aA;have eR:¬(0:Int)<=eE a.natAbs b.natAbs:=by unfold eE;rw [yF (by omega)];decide
   refine ⟨_,bW,fun tm t2 t3 t4=>?_⟩;simp only [go_sem,ya,c119,aD,t2,t3,t4,bZ,bl,u1.ah,u2.ah,e1,e2,ix.ah,pC.ah,dA,n7,Mt,e3,eR,e4,ho.ah,ho.shut,e5,bB,dB,dD,bZ,yj,nn jG,ep jG]
def Lh (h:Nu P L) {v w:AV} {a b:Int} {K:Nat} (hv:cO v a) (hw:cO w b) (ka:Bd K a) (kb:Bd K b) (hK:K<=40000000000):∃r,af P L 119 [v,w] r/\cO r (a+b):=by
 obtain ⟨s1,w1,rfl,h1⟩:=hv;obtain ⟨s2,w2,rfl,h2⟩:=hw;obtain ⟨l2,u2⟩:=h2.aA;obtain ⟨r,hr,tail⟩:=auJ h h1 h2 ka kb hK;have fin:∀tm,ab tm 2= .ptr 0 0->ab tm 3= .ptr 1 0->ab tm 4= .ptr 2 0->
   D P L (.seq (bP c119.body) (bP (aD c119.body))) ⟨[(0,.agg [aa s1,w1]),(1,.agg [aa s2,w2])],[],0,0⟩=some (.normal,⟨tm,[(2,.cells true true true 2 [.int .i64 0,.ae]),(1,.cells true true true 2 [aa s2,w2]),(0,.cells true true true 2 [aa s1,w1])],3,0⟩)->af P L 119 [.agg [aa s1,w1],.agg [aa s2,w2]] r:=fun tm t2 t3 t4 e=>by
  unfold af;rw [aq h.V2];show ia [.cell 4 2 true] (D P L (.seq (bP c119.body) (.seq (bP (aD c119.body)) (aD (aD c119.body)))) ⟨[(0,.agg [aa s1,w1]),(1,.agg [aa s2,w2])],[],0,0⟩)=_
  have e2:D P L (.seq (bP c119.body) (.seq (bP (aD c119.body)) (aD (aD c119.body)))) ⟨[(0,.agg [aa s1,w1]),(1,.agg [aa s2,w2])],[],0,0⟩=qc P L (D P L (.seq (bP c119.body) (bP (aD c119.body))) ⟨[(0,.agg [aa s1,w1]),(1,.agg [aa s2,w2])],[],0,0⟩) (aD (aD c119.body)):=by
   rw [kE,kE]
   cases D P L (bP c119.body) ⟨[(0,.agg [aa s1,w1]),(1,.agg [aa s2,w2])],[],0,0⟩ with
   | none=>rfl
   | some q=>
    obtain ⟨ex,st⟩:=q
    cases ex with
    | normal=>rw [gG,gG,kE]
    | ret=>rfl
    | exit id=>rfl
  rw [e2,e,gG];exact tail tm t2 t3 t4
 rcases h1 with ⟨rfl,rfl,a1,a2⟩ | ⟨e,l,rfl,ga,na,va,sa,a1⟩
 ·rcases h2 with ⟨rfl,rfl,b1,b2⟩ | ⟨e,l,rfl,gb,nb,vb,sb,b1⟩
  ·by_cases iN: -9223372036854775808<=s1+s2/\s1+s2<9223372036854775808
   ·refine ⟨.agg [aa (s1+s2),.ae],?_,cZ.pK iN.1 iN.2⟩;have e:decide (s1<s1+s2)=decide (0<s2):=by
     by_cases h:0<s2
     ·simp only [h,yq];exact xi (by omega)
     ·simp only [h,yp];exact yR (by omega)
    unfold af;rw [aq h.V2]
    simp only [go_sem,ya,yb,c119,aG,iT,hZ,dA,n7,aZ,yd,cC,wrap64 (n:=s1+s2) iN.1 iN.2,e,tG,sR];rfl
   ·have e:(decide (s1<IntKind.wrap .i64 (s1+s2))==decide (0<s2))=false:=by
     have hw:(9223372036854775808<=s1+s2/\IntKind.wrap .i64 (s1+s2)=s1+s2-18446744073709551616)\/(s1+s2< -9223372036854775808/\IntKind.wrap .i64 (s1+s2)=s1+s2+18446744073709551616):=by
      simp only [IntKind.wrap,IntKind.bits,IntKind.signed,xv]
      split<;>rename_i h<;>simp at h<;>omega
     by_cases h0:0<s2
     ·rw [xi h0,yR (by omega)];rfl
     ·rw [yR h0,xi (by omega)];rfl
    refine ⟨r,fin _ ?_ ?_ ?_ (by simp only [go_sem,ya,yb,bP,aD,c119,aG,hZ,dA,n7,aZ,yd,cC,e]<;>rfl),hr⟩<;>simp only [go_sem,ya]
  ·refine ⟨r,fin _ ?_ ?_ ?_ (by simp only [go_sem,ya,yb,bP,aD,c119,aG,hZ,oL,dA,aZ,yd,cC]<;>rfl),hr⟩<;>simp only [go_sem,ya]
 ·refine ⟨r,fin _ ?_ ?_ ?_ (by simp only [go_sem,ya,yb,bP,aD,c119,aG,u2.pu,u2.one,oL,dA,aZ,yd,cC]<;>rfl),hr⟩<;>simp only [go_sem,ya]
end
end
section
open Go (IntKind)
def DC {P:aI} {L:Lib} (a b c:VC) (s:St):D P L (.seq a (.seq b c)) s=qc P L (D P L (.seq a b) s) c:=by
 rw [kE,kE]
 cases D P L a s with
 | none=>rfl
 | some q=>
  obtain ⟨ex,st⟩:=q
  cases ex with
  | normal=>rw [gG,gG,kE]
  | ret=>rfl
  | exit id=>rfl
def afQ {s s':Int} {w w':AV} {l l':List Nat} (h:bO w l) (h':bO w' l') (hp:Hp):result hp (.aw [.agg [aa s,w],.agg [aa s',w']])=some (.aw [.agg [aa s,w],.agg [aa s',w']]):=by
 rcases h with ⟨rfl,_⟩ | ⟨e,rfl⟩<;>rcases h' with ⟨rfl,_⟩ | ⟨e',rfl⟩<;>rfl
def P8 (tm:Env) (hp:Hp) (ct:Nat) (rs:List (Nat×Bool×Nat)) (sz:Nat) (p:AV) (new:List AV):gM:=match p with | .ptr id o=>bif pQ tm id rs then fu hp ct id o sz new (ap hp id) else none | _=>none
def P9 (id:Nat):AV->Bool | .ptr j _=> !Nat.beq j id | .bi _=>true | _=>false
def AB {P:aI} {L:Lib} (f:cT) (tm:Env) (hp:Hp) (ct:Nat) (rs:List (Nat×Bool×Nat)) (sz:Nat) (x v:X):bC P L f tm hp ct (.jf rs sz x v)=P8 tm hp ct rs sz (aC tm x) (cellsOf (aC tm v)):=by
 simp only [bC,P8]
 cases hx:aC tm x with
 | ptr id o=>
  rw [ack,hx,agV]
 | _=>rfl
def AD {tm:Env} {hp:Hp} {ct:Nat} {rs:List (Nat×Bool×Nat)} {sz id o:Nat} {new:List AV} (h:pQ tm id rs=true):P8 tm hp ct rs sz (.ptr id o) new=fu hp ct id o sz new (ap hp id):=by
 simp only [P8,h,ym]
def Ap (tm:Env) (id:Nat):pQ tm id []=true:=(rfl)
def Aj (tm:Env) (id sz x:Nat) (ag:Bool) (r:List (Nat×Bool×Nat)):pQ tm id ((sz,ag,x)::r)=(P9 id (ab tm x)&&pQ tm id r):=by
 simp only [pQ,P9]
 grind
def AE {id j o:Nat} (h:j≠id):P9 id (.ptr j o)=true:=by simp only [P9,cP h,yI]
section
variable {P:aI} {L:Lib}
def ahZ (h:Nu P L) {v w:AV} {a b:Int} {K:Nat} (hv:cO v a) (hw:cO w b) (ka:Bd K a) (kb:Bd K b) (hK:K<=40000000000):∃r,af P L 156 [v,w] r/\cO r (a-b):=by
 obtain ⟨n,e1,hn⟩:=GZ h hw kb (by omega);obtain ⟨r,e2,hr⟩:=Lh h hv hn ka kb.neg hK;have bW:=hr;obtain ⟨s1,w1,rfl,h1⟩:=hv;obtain ⟨s2,w2,rfl,h2⟩:=hw;obtain ⟨s3,w3,rfl,h3⟩:=hn;obtain ⟨s4,w4,rfl,h4⟩:=hr;obtain ⟨l1,u1⟩:=h1.aA;obtain ⟨l2,u2⟩:=h2.aA;obtain ⟨l3,u3⟩:=h3.aA;obtain ⟨l4,u4⟩:=h4.aA;refine ⟨_,?_,bW⟩;unfold af;rw [aq h.axX];simp only [go_sem,ya,yb,VF,aG,u1.pu,u1.ah,u1.one,u2.pu,u2.ah,u2.one,u3.ah,bl,e1,e2,bB,dB,dD,bZ,yj,nn u4,ep u4]
def ah0 (h:Nu P L) {v w:AV} {a b:Int} {K:Nat} (hv:cO v a) (hw:cO w b) (ka:Bd K a) (kb:Bd K b) (hK:K<=40000000000):af P L 118 [v,w] (aa (cA (a-b))):=by
 obtain ⟨d,e1,hd⟩:=ahZ h hv hw ka kb hK;have e2:=GY h hd;obtain ⟨s1,w1,rfl,h1⟩:=hv;obtain ⟨s2,w2,rfl,h2⟩:=hw;obtain ⟨s3,w3,rfl,h3⟩:=hd;obtain ⟨l2,u2⟩:=h2.aA;obtain ⟨l3,u3⟩:=h3.aA;unfold af;rw [aq h.axW];rcases h1 with ⟨rfl,rfl,a1,a2⟩ | ⟨e,l,rfl,ga,na,va,sa,a1⟩
 ·rcases h2 with ⟨rfl,rfl,b1,b2⟩ | ⟨e,l,rfl,gb,nb,vb,sb,b1⟩
  ·by_cases c1:s1<s2
   ·rw [show cA (s1-s2)= -1 by unfold cA;rw [yF (by omega)]];simp only [go_sem,ya,yb,Ek,aG,hZ,dA,aZ,yd,cC,c1]
   ·by_cases c2:s2<s1
    ·rw [show cA (s1-s2)=1 by unfold cA;rw [yr (by omega),yr (by omega)]];simp only [go_sem,ya,yb,Ek,aG,hZ,dA,aZ,yd,cC,c1,c2]
    ·rw [show cA (s1-s2)=0 by unfold cA;rw [yr (by omega),yF (by omega)]];simp only [go_sem,ya,yb,Ek,aG,hZ,dA,aZ,yd,cC,c1,c2]
  ·simp only [go_sem,ya,yb,Ek,aG,hZ,oL,dA,aZ,yd,cC,bZ,bl,e1,e2,u3.ah,bB]
 ·simp only [go_sem,ya,yb,Ek,aG,u2.pu,u2.ah,u2.one,oL,dA,aZ,yd,cC,bZ,bl,e1,e2,u3.ah,bB]
def auK (h:Nu P L) {s1 s2:Int} {w1 w2:AV} {a b:Int} {K:Nat} (ha:cZ s1 w1 a) (hb:cZ s2 w2 b) (ka:Bd K a) (kb:Bd K b) (hK:K<=40000000000):
  ∃r,cO r (a*b)/\∀tm,ab tm 2= .ptr 0 0->ab tm 3= .ptr 1 0->ab tm 4= .ptr 2 0->ia [.cell 4 2 true] (D P L (aD (aD kH.body)) ⟨tm,[(2,.cells true true true 2 [.int .i64 0,.ae]),(1,.cells true true true 2 [aa s2,w2]),(0,.cells true true true 2 [aa s1,w1])],3,0⟩)=some r:=by
 obtain ⟨l1,u1⟩:=ha.aA;obtain ⟨l2,u2⟩:=hb.aA;obtain ⟨p,e1,hp⟩:=A3 h ha;obtain ⟨q,e2,hq⟩:=A3 h hb;obtain ⟨lp,ix,gp,np,vp⟩:=hp.aA;obtain ⟨lq,pC,gq,nq,vq⟩:=hq.aA;have Dc:=yL ka (Ca K);have HJ:=yL kb (Ca K);have llp:lp.length<=40000000000:=xp (oW np vp Dc) hK;have llq:lq.length<=40000000000:=xp (oW nq vq HJ) hK;obtain ⟨o,oB,e3,ho,oA,no,vo⟩:=axG h.axP h.nC h.me h.ib ix pC gp gq (by omega) (by omega);obtain ⟨r,e4,hr⟩:=Ez h (decide (a<0) !=decide (b<0)) ⟨oB,ho,oA,no,vo⟩ (K:=K+K) (by rw [vp,vq,wJ];exact uS Dc HJ) (by omega)
 rw [vp,vq,acv] at hr;have bW:=hr;obtain ⟨s',w',rfl,lE⟩:=hr;obtain ⟨l',jG⟩:=lE.aA;refine ⟨_,bW,fun tm t2 t3 t4=>?_⟩;have zK:∀x y:Bool,K5 true (some (x==y))=some (.bool (x !=y)):=fun x y=>by cases x<;>cases y<;>rfl
 simp only [go_sem,ya,kH,aD,t2,t3,t4,bZ,bl,u1.ah,u2.ah,e1,e2,ix.ah,pC.ah,n7,zK,e3,ho.ah,ho.shut,e4,bB,dB,dD,bZ,yj,nn jG,ep jG]
def apC {a b:Int} {m:Nat} (h:a.natAbs*b.natAbs=m):a*b=if (decide (a<0)==decide (b<0))=true then (m:Int) else 0-(m:Int):=by
 have:=acv (a:=a) (b:=b)
 rw [h] at this;unfold cL at this
 cases hd:(decide (a<0)==decide (b<0)) with
 | true=>simp only [bne,hd,Bool.not_true,Bool.false_eq_true,yN] at this;exact this.symm
 | false=>simp only [bne,hd,yI,yV] at this;rw [yr (by decide)];omega
def zx (h:Nu P L) {v w:AV} {a b:Int} {K:Nat} (hv:cO v a) (hw:cO w b) (ka:Bd K a) (kb:Bd K b) (hK:K<=40000000000):∃r,af P L 100 [v,w] r/\cO r (a*b):=by
 obtain ⟨s1,w1,rfl,h1⟩:=hv;obtain ⟨s2,w2,rfl,h2⟩:=hw;obtain ⟨l1,u1⟩:=h1.aA;obtain ⟨l2,u2⟩:=h2.aA;obtain ⟨r,hr,tail⟩:=auK h h1 h2 ka kb hK;have fin:∀tm,ab tm 2= .ptr 0 0->ab tm 3= .ptr 1 0->ab tm 4= .ptr 2 0->
   D P L (.seq (bP kH.body) (bP (aD kH.body))) ⟨[(0,.agg [aa s1,w1]),(1,.agg [aa s2,w2])],[],0,0⟩=some (.normal,⟨tm,[(2,.cells true true true 2 [.int .i64 0,.ae]),(1,.cells true true true 2 [aa s2,w2]),(0,.cells true true true 2 [aa s1,w1])],3,0⟩)->af P L 100 [.agg [aa s1,w1],.agg [aa s2,w2]] r:=fun tm t2 t3 t4 e=>by
  unfold af;rw [aq h.Ew];show ia [.cell 4 2 true] (D P L (.seq (bP kH.body) (.seq (bP (aD kH.body)) (aD (aD kH.body)))) ⟨[(0,.agg [aa s1,w1]),(1,.agg [aa s2,w2])],[],0,0⟩)=_
  rw [DC,e,gG];exact tail tm t2 t3 t4
 rcases h1 with ⟨rfl,rfl,a1,a2⟩ | ⟨e,l,rfl,ga,na,va,sa,a1⟩
 ·rcases h2 with ⟨rfl,rfl,b1,b2⟩ | ⟨e,l,rfl,gb,nb,vb,sb,b1⟩
  ·have f1:=V3 h a1 a2;have f2:=V3 h b1 b2;have f3:=Ow (P:=P) (f:=D P L) h.me (x:=s1.natAbs) (y:=s2.natAbs) (by omega) (by omega);obtain ⟨m,hm⟩:∃m,s1.natAbs*s2.natAbs=m:=⟨_,rfl⟩;rw [hm] at f3;have pc:=apC hm;by_cases iN:m<=9223372036854775807
   ·rw [wR (by omega),yP (by omega)] at f3;rw [show (uc 0)=AV.int .u64 0 from rfl] at f3;by_cases hs:(decide (s1<0)==decide (s2<0))=true
    ·rw [yF hs] at pc;refine ⟨.agg [aa (m:Int),.ae],?_,by rw [pc];exact cZ.pK (by omega) (by omega)⟩
     unfold af;rw [aq h.Ew]
     simp only [go_sem,ya,yb,kH,aG,iT,hZ,dA,DW,n7,aZ,yd,cC,f1,f2,f3,show (m:Int)<=9223372036854775807 by omega,hs,Ge,wrap64 (n:=(m:Int)) (by omega) (by omega),sR];rfl
    ·rw [yr hs] at pc;refine ⟨.agg [aa (0-(m:Int)),.ae],?_,by rw [pc];exact cZ.pK (by omega) (by omega)⟩
     unfold af;rw [aq h.Ew]
     simp only [go_sem,ya,yb,kH,aG,iT,hZ,dA,DW,n7,aZ,yd,cC,f1,f2,f3,show (m:Int)<=9223372036854775807 by omega,hs,Ge,wrap64 (n:=(m:Int)) (by omega) (by omega),wrap64 (n:=0-(m:Int)) (by omega) (by omega),sR];rfl
   ·by_cases sA:m/18446744073709551616=0
    ·rw [sA,yP (by omega)] at f3;rw [show (uc 0)=AV.int .u64 0 from rfl] at f3;refine ⟨r,fin _ ?_ ?_ ?_ (by simp only [go_sem,ya,yb,bP,aD,kH,aG,hZ,dA,aZ,yd,cC,f1,f2,f3,show ¬(m:Int)<=9223372036854775807 by omega]<;>rfl),hr⟩<;>simp only [go_sem,ya]
    ·obtain ⟨q,hq⟩:∃q,q=m/18446744073709551616:=⟨_,rfl⟩;rw [<-hq] at f3 sA;refine ⟨r,fin _ ?_ ?_ ?_ (by simp only [go_sem,ya,yb,bP,aD,kH,aG,hZ,dA,aZ,yd,cC,f1,f2,f3,show ¬(q:Int)=0 by omega]<;>rfl),hr⟩<;>simp only [go_sem,ya]
  ·refine ⟨r,fin _ ?_ ?_ ?_ (by simp only [go_sem,ya,yb,bP,aD,kH,aG,hZ,oL,dA,aZ,yd,cC]<;>rfl),hr⟩<;>simp only [go_sem,ya]
 ·refine ⟨r,fin _ ?_ ?_ ?_ (by simp only [go_sem,ya,yb,bP,aD,kH,aG,u2.pu,u2.one,oL,dA,aZ,yd,cC]<;>rfl),hr⟩<;>simp only [go_sem,ya]
end
end
end VE
