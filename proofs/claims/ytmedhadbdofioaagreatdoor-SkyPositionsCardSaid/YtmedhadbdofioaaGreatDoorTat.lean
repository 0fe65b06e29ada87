import Derived.Test.YtmedhadbdofioaaGreatDoorTas
import Derived.Test.YtmedhadbdofioaaGreatDoorTaq
set_option linter.all false
set_option maxRecDepth 100000
open Bool renaming and_self→wp,false_and→wr,not_false→yF,true_and→wA
open Int renaming reduceEq→vN
open List renaming append_assoc→xp,append_nil→wc,drop→xm,drop_drop→wX,drop_eq_getElem_cons→yL,drop_left'→uG,drop_zero→yj,length_cons→yr,length_drop→xS,length_nil→yE,length_pos_iff→uv,length_take→yT,map_append→xC,replicate→yz,set_append_right→th,take_append_drop→xN,take_of_length_le→yM
open Nat renaming add_comm→yaj,add_mul→wj,add_zero→yX,beq_refl→xq,ble_eq_true_of_le→yv,div_add_mod→wq,div_eq_of_lt→wH,div_lt_iff_lt_mul→wz,eq_zero_or_pos→xo,le_trans→xj,lt_of_le_of_lt→wJ,lt_of_lt_of_le→yN,mod_eq_of_lt→yP,mod_lt→xy,mul_add→xt,mul_add_div→yao,mul_add_mod→yap,mul_assoc→xk,mul_comm→xE,mul_le_mul_left→yS,mul_le_mul_right→yW,mul_lt_mul''→yah,mul_lt_mul_of_pos_right→wD,mul_mod_mul_right→tx,mul_one→yh,mul_zero→xF,pos_of_ne_zero→rg,pow_add→wC,pow_le_pow_right→xP,pow_succ→xg,reduceAdd→yb,reduceEqDiff→ya,reduceLeDiff→ye,two_pow_pos→wG,zero_add→yd,zero_le→yal,zero_mul→ybc
namespace VE
section
open Go (IntKind)
def WN (v:AV) (m:Nat):Prop:=∃l,bJ v l/\lo 18446744073709551616 l/\gL l/\bv 18446744073709551616 l=m
def anR (i:Nat) (q:List Nat) (x:Nat):(yz (i+1) 0++q).set i x=yz i 0++x::q:=by
 rw [List.replicate_succ',xp]
 simp_all
def MR {b:Nat} {l:List Nat} {i:Nat} (h:i<l.length):bv b (l.drop i)=l.getD i 0+b*bv b (l.drop (i+1)):=by
 rw [yL h,gd h];rfl
def SQ {v w:AV} {x y:List Nat} (hv:bJ v x) (hw:bJ w y) (hp:Hp):result hp (.ap [v,w])=some (.ap [v,w]):=by
 rcases hv with ⟨rfl,_⟩ | ⟨e,rfl⟩<;>rcases hw with ⟨rfl,_⟩ | ⟨e',rfl⟩<;>rfl
def ap9 {hp:Hp} {id n l h:Nat} {pu ex:Bool} {cs:List AV} {tm:Env} {x y:X} (hg:ak hp id=some (.cells true pu ex 1 cs)) (hx:cP tm 0 (some x)=some l) (hy:cP tm n (some y)=some h) (h1:l<h) (h2:h<=n):
  fL hp (.sl 1) (.an id 0 n) tm (some x) (some y)=some (.an id l (h-l)):=by
 simp only [fL,hg,hx,hy,yv (Nat.le_of_lt h1),yv h2,xq,wp,ym,cG (Nat.ne_of_lt h1),wr,yA,yd,yh]
def aaN {hp:Hp} {id n h:Nat} {pu ex:Bool} {cs:List AV} {tm:Env} {y:X} (hg:ak hp id=some (.cells true pu ex 1 cs)) (hy:cP tm n (some y)=some h) (h1:0<h) (h2:h<=n):
  fL hp (.sl 1) (.an id 0 n) tm none (some y)=some (.an id 0 h):=by
 have hx:cP tm 0 none=some 0:=rfl;simp only [fL,hg,hx,hy,yv (yal h),yv h2,xq,wp,ym,cG (show (0:Nat)≠h by omega),wr,yA,ybc,yX,Nat.sub_zero]
def afb (P:aG) (L:Lib) (f:cK) (hp:Hp) (ct n:Nat) (xs:List AV):dF P L f hp ct .heap (.fn (.f n) [] []) xs=iH P L f hp ct n xs:=by
 simp only [dF,List.nil_append,wc]
section
variable {P:aG} {L:Lib}
def asw (h:Wd P L) {v w:AV} {x:List Nat} (hv:bJ v x) (hx:lo 18446744073709551616 x) (lx:x.length<=99999999999) {d:Nat} (hw:bJ w [d]) (iE:0<d) (WH:d<18446744073709551616) {n:Nat} (hn:n=x.length):
  ∀k s,(∃(i r:Nat) (q:List Nat),bD [0,1,6,7,8] s=⟨[(0,v),(1,w),(6,.an 0 0 n),(7,uc r),(8,aa ((i:Int)-1))],[(0,.cells true true true 1 ((yz i 0++q).map uc))],1,0⟩/\i=k/\i+q.length=n/\lo 18446744073709551616 q/\r<d/\bv 18446744073709551616 (x.drop i)=bv 18446744073709551616 q*d+r)->
   ∃ex s',D P L (.loop [0,1,6,7,8] IA) s=some (ex,s')/\∃tm r q,s'=⟨tm,[(0,.cells true true true 1 (q.map uc))],1,0⟩/\ex= .exit 0/\af tm 6= .an 0 0 n/\af tm 7=uc r/\q.length=n/\lo 18446744073709551616 q/\r<d/\bv 18446744073709551616 x=bv 18446744073709551616 q*d+r:=by
 refine cg (I:=fun k s=>∃(i r:Nat) (q:List Nat),s=⟨[(0,v),(1,w),(6,.an 0 0 n),(7,uc r),(8,aa ((i:Int)-1))],[(0,.cells true true true 1 ((yz i 0++q).map uc))],1,0⟩/\i=k/\i+q.length=n/\lo 18446744073709551616 q/\r<d/\bv 18446744073709551616 (x.drop i)=bv 18446744073709551616 q*d+r)
  (Q:=fun ex s'=>∃tm r q,s'=⟨tm,[(0,.cells true true true 1 (q.map uc))],1,0⟩/\ex= .exit 0/\af tm 6= .an 0 0 n/\af tm 7=uc r/\q.length=n/\lo 18446744073709551616 q/\r<d/\bv 18446744073709551616 x=bv 18446744073709551616 q*d+r) ?_
 rintro k s ⟨i,r,q,rfl,rfl,hlen,bq,hr,aQ⟩
 cases i with
 | zero=>
  right
  simp only [go_sem,ya,IA,show ¬(0:Int)<=((0:Nat):Int)-1 by omega];exact ⟨_,_,rfl,by simp,_,r,q,rfl,rfl,by simp only [go_sem,ya],by simp only [go_sem,ya],by omega,bq,hr,by simpa using aQ⟩
 | succ i=>
  left
  have gx:=gP (show 0<18446744073709551616 by decide) hx i;have e1:=hv.bk (i:=i) (by omega);have e2:=hw.bk (i:=0) (by simp);have jm:=MR (b:=18446744073709551616) (l:=x) (i:=i) (by omega);rw [show ([d]:List Nat).getD 0 0=d from rfl] at e2;generalize x.getD i 0=a at*
  have e3:=afP (P:=P) (L:=L) h.afU h.JZ hr gx WH;have eO:=wq (r*18446744073709551616+a) d;have pc:=xy (r*18446744073709551616+a) iE;have ol:(r*18446744073709551616+a)/d<18446744073709551616:=by
   refine (wz iE).2 ?_;omega
  generalize (r*18446744073709551616+a)/d=q1 at*
  generalize (r*18446744073709551616+a)%d=r1 at*
  have aX:=fun (hp:Hp) (ct:Nat)=>kI (hp:=hp) (ct:=ct) (id:=0) (v:=q1) (ex:=true) (l:=yz (i+1) 0++q) (o:=i) (by simp;omega)
  simp only [go_sem,ya,yh,IA,show ((i+1:Nat):Int)-1=(i:Int) by omega,show (0:Int)<=(i:Int) by omega,e1,e2,e3,dj 0 0 (show i<n by omega),yd,aX,anR];refine ⟨_,i,rfl,by omega,i,r1,q1::q,?_,rfl,by simp;omega,L8.2 ⟨EK.2 ol,bq⟩,pc,?_⟩
  ·rw [wrap64 (by omega) (by omega)];simp only [go_sem,ya,yb,ay,aJ hv.pu,aO _ hv.pu,aJ hw.pu,aO _ hw.pu]<;>rfl
  ·rw [jm,aQ];simp only [bv];rw [wj,xt,<-xk 18446744073709551616];rw [xE d q1] at eO;omega
def alC {s u u1:Nat} (hs:s<64) (hu:u<18446744073709551616):u/2^s<18446744073709551616/\(0<s->u/2^s|||(u1*2^(64-s)%18446744073709551616)<18446744073709551616)/\
  (if 0<s then (u/2^s|||(u1*2^(64-s)%18446744073709551616)) else u/2^s)*2^s+u%2^s=u+18446744073709551616*(u1%2^s):=by
 have e:18446744073709551616=2^s*2^(64-s):=by rw [<-wC,show s+(64-s)=64 by omega]
 have h1:u1*2^(64-s)%18446744073709551616=(u1%2^s)*2^(64-s):=by rw [e,tx]
 have hp:=wG s;have h2:u/2^s<2^(64-s):=by
  refine (wz hp).2 ?_
  grind
 have h3:u/2^s|||(u1*2^(64-s)%18446744073709551616)=(u1%2^s)*2^(64-s)+u/2^s:=by rw [h1,Nat.or_comm,SP h2]
 have h4:(u1%2^s)*2^(64-s)+u/2^s<18446744073709551616:=by
  have:=yW (2^(64-s)) (show u1%2^s+1<=2^s from xy _ hp)
  grind
 have h5:=Nat.mod_add_div u (2^s)
 grind
def asx {us qs:List Nat} {n la m s:Nat} (hs:s<64) (lu:us.length=la) (gu:lo 18446744073709551616 us) (hn:n<la) (K4:la<=100000000000):
  ∀k st,(∃(i:Nat) (rs:List Nat),bD [9,11,12,13,96,97] st=⟨[(9,aa s),(11,.an 0 0 la),(12,aa n),(13,.an 1 0 m),(96,aa n),(97,aa i)],H2 qs (rs++us.drop i),2,0⟩/\i+k=n/\rs.length=i/\lo 18446744073709551616 rs/\bv 18446744073709551616 rs*2^s+us.getD 0 0%2^s=bv 18446744073709551616 (us.take i)+18446744073709551616^i*(us.getD i 0%2^s))->
   ∃ex st',D P L (.loop [9,11,12,13,96,97] EB) st=some (ex,st')/\∃tm rs,st'=⟨tm,H2 qs (rs++us.drop n),2,0⟩/\ex= .exit 4/\af tm 11= .an 0 0 la/\af tm 12=aa n/\af tm 13= .an 1 0 m/\rs.length=n/\lo 18446744073709551616 rs/\bv 18446744073709551616 rs*2^s+us.getD 0 0%2^s=bv 18446744073709551616 (us.take n)+18446744073709551616^n*(us.getD n 0%2^s):=by
 refine cg (I:=fun k st=>∃(i:Nat) (rs:List Nat),st=⟨[(9,aa s),(11,.an 0 0 la),(12,aa n),(13,.an 1 0 m),(96,aa n),(97,aa i)],H2 qs (rs++us.drop i),2,0⟩/\i+k=n/\rs.length=i/\lo 18446744073709551616 rs/\bv 18446744073709551616 rs*2^s+us.getD 0 0%2^s=bv 18446744073709551616 (us.take i)+18446744073709551616^i*(us.getD i 0%2^s))
  (Q:=fun ex st'=>∃tm rs,st'=⟨tm,H2 qs (rs++us.drop n),2,0⟩/\ex= .exit 4/\af tm 11= .an 0 0 la/\af tm 12=aa n/\af tm 13= .an 1 0 m/\rs.length=n/\lo 18446744073709551616 rs/\bv 18446744073709551616 rs*2^s+us.getD 0 0%2^s=bv 18446744073709551616 (us.take n)+18446744073709551616^n*(us.getD n 0%2^s)) ?_
 rintro k st ⟨i,rs,rfl,hk,lr,gr,aQ⟩;by_cases hi:i<n
 ·left
  have ej:(0:Nat)<18446744073709551616:=by decide
  have g0:=gP ej gu i;have g1:=gP ej gu (i+1);have d0:us.drop i=us.getD i 0::us.getD (i+1) 0::us.drop (i+2):=by
   rw [yL (show i<us.length by omega),yL (show i+1<us.length by omega),gd,gd]
  have eF:=jv (b:=18446744073709551616) (l:=us) i;have lS:∀r,r<18446744073709551616->r*2^s+us.getD i 0%2^s=us.getD i 0+18446744073709551616*(us.getD (i+1) 0%2^s)->lo 18446744073709551616 (rs++[r])/\bv 18446744073709551616 (rs++[r])*2^s+us.getD 0 0%2^s=bv 18446744073709551616 (us.take (i+1))+18446744073709551616^(i+1)*(us.getD (i+1) 0%2^s):=fun r h1 h2=>by
   refine ⟨L8.2 ⟨gr,EK.2 h1⟩,?_⟩;rw [rh,zk,lr,eF,wj,xg,xk,xk];have e2:=congrArg (fun t=>18446744073709551616^i*t) h2;simp only [xt] at e2;generalize 18446744073709551616^i*(r*2^s)=p1 at*
   generalize 18446744073709551616^i*(us.getD i 0%2^s)=p2 at*
   generalize 18446744073709551616^i*us.getD i 0=p3 at*
   generalize 18446744073709551616^i*(18446744073709551616*(us.getD (i+1) 0%2^s))=p4 at*
   omega
  have Uz:us.drop (i+1)=us.getD (i+1) 0::us.drop (i+2):=by
   rw [yL (show i+1<us.length by omega),gd]
  generalize us.getD i 0=a at*
  obtain ⟨c,hc⟩:∃c,c=us.getD (i+1) 0:=⟨_,rfl⟩;rw [<-hc] at g1 d0 Uz lS;generalize us.drop (i+2)=dr at*
  rw [d0];obtain ⟨n1,n2,n3⟩:=alC (u1:=c) hs g0;have o1:=JY .i64 a (s:=s) (by omega);have o2:=JX .i64 c (s:=64-s) (by omega);have o3:binOp .sub (.int .i64 64) (aa s)=some (aa (64-s:Nat)):=by
   rw [MO,wrap64 (by omega) (by omega)];congr 2;omega
  have o4:=Ww n1 (xy (c*2^(64-s)) ej);have sa:∀z y,(rs++z::y).set i a=rs++a::y:=fun z y=>by rw [th _ _ (by omega),lr];simp
  have e0:∀z y,xm i ((rs++z::y).map uc)=uc z::y.map uc:=fun z y=>by
   rw [xC,uG (by simp [lr])];rfl
  have e1:∀z y u,xm (i+1) ((rs++z::y::u).map uc)=uc y::u.map uc:=fun z y u=>by
   rw [show rs++z::y::u=(rs++[z])++y::u by simp,xC,uG (by simp [lr])];rfl
  have Ai:∀(hp:Hp) (ct x z:Nat) (y:List Nat),eM hp ct 0 i 1 [.int .u64 (x:Int)] (some (.cells true true true 1 ((rs++z::y).map uc)))=some (.ap [],aW hp 0 (.cells true true true 1 ((rs++x::y).map uc)),ct):=fun hp ct x z y=>by
   rw [kI (by simp;omega),th _ _ (by omega),lr];simp
  by_cases h0:0<s
  ·rw [yI h0] at n3;obtain ⟨f1,f2⟩:=lS _ (n2 h0) n3;generalize a/2^s=a1 at*
   generalize a1|||(c*2^(64-s)%18446744073709551616)=r at*
   simp only [go_sem,ya,yh,EB,H2,show (i:Int)<(n:Int) by omega,dj 0 0 (show i<la by omega),yd,e0,o1,Ai,show (0:Int)<(s:Int) by omega,show (i:Int)+1=((i+1:Nat):Int) from rfl,wrapN (n:=i+1) (by omega),show ((i+1:Nat):Int)<(la:Int) by omega,dj 0 0 (show i+1<la by omega),e1,o3,o2,o4];refine ⟨_,k-1,rfl,by omega,i+1,rs++[r],by simp only [go_sem,ya,yb,ay];rw [Uz];simp,by omega,by simp [lr],f1,by rw [<-hc];exact f2⟩
  ·rw [yB h0] at n3;obtain ⟨f1,f2⟩:=lS _ n1 n3;generalize a/2^s=a1 at*
   simp only [go_sem,ya,yh,EB,H2,show (i:Int)<(n:Int) by omega,dj 0 0 (show i<la by omega),yd,e0,o1,Ai,show ¬(0:Int)<(s:Int) by omega,show (i:Int)+1=((i+1:Nat):Int) from rfl,wrapN (n:=i+1) (by omega)];refine ⟨_,k-1,rfl,by omega,i+1,rs++[a1],by simp only [go_sem,ya,yb,ay];rw [Uz];simp,by omega,by simp [lr],f1,by rw [<-hc];exact f2⟩
 ·right
  have:i=n:=by omega
  subst this;simp only [go_sem,ya,EB,H2,show ¬(i:Int)<(i:Int) by omega];exact ⟨_,_,rfl,by simp,_,rs,rfl,rfl,by simp only [go_sem,ya],by simp only [go_sem,ya],by simp only [go_sem,ya],lr,gr,aQ⟩
end
end
section
open Go (IntKind)
def ZO {b p A V bu bq0 U0 pre:Nat} (h1:bu=pre+p*A) (h2:bu+bq0*V=U0):(pre+p*(A%V))+(bq0+p*(A/V))*V=U0:=by
 have eO:=wq A V;have e:=congrArg (fun t=>p*t) eO;simp only [xt] at e;rw [wj,xk,xE (A/V) V];generalize p*(V*(A/V))=a at*
 generalize p*(A%V)=c at*
 generalize p*A=d at*
 omega
def aur (hp:Hp) (ct:Nat) (ex:Bool) (sz n:Nat) (cs:List AV):own hp ct (.cJ ex sz n cs)=(.an ct 0 n,(ct,.cells true true ex sz cs)::hp,ct+1):=rfl
section
variable {P:aG} {L:Lib}
def asy (h:Wd P L) {w:AV} {vs:List Nat} (hw:bJ w vs) (gv:lo 18446744073709551616 vs) {n la m:Nat} (lv:vs.length=n) (eH:2<=n) (Pn:n<=la) (K4:la<=99999999999) (hm:m=la-n+1) (eG:0<vs.getD (n-1) 0) {s U0:Nat}:
  ∀k st,(∃(j:Nat) (us qs:List Nat),bD [9,10,11,12,13,14] st=⟨[(9,aa s),(10,w),(11,.an 0 0 (la+1)),(12,aa n),(13,.an 1 0 m),(14,aa ((j:Int)-1))],H2 qs us,2,0⟩/\j=k/\j<=m/\us.length=la+1/\qs.length=m/\lo 18446744073709551616 us/\lo 18446744073709551616 qs/\(∀i,i<j->qs.getD i 0=0)/\
    bv 18446744073709551616 us+bv 18446744073709551616 qs*bv 18446744073709551616 vs=U0/\bv 18446744073709551616 (us.drop j)<bv 18446744073709551616 vs)->
   ∃ex st',D P L (.loop [9,10,11,12,13,14] IB) st=some (ex,st')/\∃tm us qs,st'=⟨tm,H2 qs us,2,0⟩/\ex= .exit 2/\af tm 9=aa s/\af tm 11= .an 0 0 (la+1)/\af tm 12=aa n/\af tm 13= .an 1 0 m/\us.length=la+1/\qs.length=m/\lo 18446744073709551616 us/\lo 18446744073709551616 qs/\
    bv 18446744073709551616 us+bv 18446744073709551616 qs*bv 18446744073709551616 vs=U0/\bv 18446744073709551616 us<bv 18446744073709551616 vs:=by
 refine cg (I:=fun k st=>∃(j:Nat) (us qs:List Nat),st=⟨[(9,aa s),(10,w),(11,.an 0 0 (la+1)),(12,aa n),(13,.an 1 0 m),(14,aa ((j:Int)-1))],H2 qs us,2,0⟩/\j=k/\j<=m/\us.length=la+1/\qs.length=m/\lo 18446744073709551616 us/\lo 18446744073709551616 qs/\(∀i,i<j->qs.getD i 0=0)/\
    bv 18446744073709551616 us+bv 18446744073709551616 qs*bv 18446744073709551616 vs=U0/\bv 18446744073709551616 (us.drop j)<bv 18446744073709551616 vs)
  (Q:=fun ex st'=>∃tm us qs,st'=⟨tm,H2 qs us,2,0⟩/\ex= .exit 2/\af tm 9=aa s/\af tm 11= .an 0 0 (la+1)/\af tm 12=aa n/\af tm 13= .an 1 0 m/\us.length=la+1/\qs.length=m/\lo 18446744073709551616 us/\lo 18446744073709551616 qs/\
    bv 18446744073709551616 us+bv 18446744073709551616 qs*bv 18446744073709551616 vs=U0/\bv 18446744073709551616 us<bv 18446744073709551616 vs) ?_
 rintro k st ⟨j,us,qs,rfl,rfl,hj,lu,lq,gu,gq,hz,aQ,nQ⟩
 cases j with
 | zero=>
  right
  simp only [go_sem,ya,IB,H2,show ¬(0:Int)<=((0:Nat):Int)-1 by omega];exact ⟨_,_,rfl,by simp,_,us,qs,rfl,rfl,by simp only [go_sem,ya],by simp only [go_sem,ya],by simp only [go_sem,ya],by simp only [go_sem,ya],lu,lq,gu,gq,aQ,by simpa using nQ⟩
 | succ j=>
  left
  have ej:(0:Nat)<18446744073709551616:=by decide
  obtain ⟨pre,fp⟩:∃p,p=us.take j:=⟨_,rfl⟩;obtain ⟨x,hx⟩:∃p,p=(us.drop j).take (n+1):=⟨_,rfl⟩;obtain ⟨post,gQ⟩:∃p,p=us.drop (j+(n+1)):=⟨_,rfl⟩;have lp:pre.length=j:=by rw [fp,yT];omega
  have lx:x.length=n+1:=by rw [hx,yT,xS];omega
  have kq:us=pre++x++post:=by
   rw [fp,hx,gQ,<-wX,xp,xN,xN]
  have gx:lo 18446744073709551616 x:=by rw [hx];exact A0 (abK gu _) _
  have UA:lo 18446744073709551616 pre:=by rw [fp];exact A0 gu _
  have aus:lo 18446744073709551616 post:=by rw [gQ];exact abK gu _
  have hA:bv 18446744073709551616 (us.drop j)=us.getD j 0+18446744073709551616*bv 18446744073709551616 (us.drop (j+1)):=MR (by omega);have hgj:=gP ej gu j;have F9:us.drop j=x++post:=by rw [gQ,hx,<-wX,xN]
  have Ay:bv 18446744073709551616 (us.drop j)=bv 18446744073709551616 x+18446744073709551616^(n+1)*bv 18446744073709551616 post:=by rw [F9,rh,lx]
  have K2:=mz gv;rw [lv] at K2;have bi:bv 18446744073709551616 (us.drop j)<18446744073709551616*bv 18446744073709551616 vs:=by omega
  have hp0:bv 18446744073709551616 post=0:=by
   rcases xo (bv 18446744073709551616 post) with e | e
   ·exact e
   ·have h1:=yS (18446744073709551616^(n+1)) e;rw [yh,xg] at h1;rw [xg] at Ay;omega
  rw [hp0,xF,yX] at Ay;have hl:gI x vs n (vs.getD (n-1) 0) (vs.getD (n-2) 0) (x.getD n 0) (x.getD (n-1) 0) (x.getD (n-2) 0):=
   ⟨eH,by omega,lx,lv,gx,gv,rfl,rfl,rfl,rfl,rfl,eG,by rw [<-Ay];exact bi⟩
  have OO:=hl.digit;obtain ⟨x',e1,WI,P7,K5⟩:=avP h hw hl (pre:=pre) (post:=post) (qs:=qs);rw [lp,<-kq] at e1;have WJ:bv 18446744073709551616 us=bv 18446744073709551616 pre+18446744073709551616^j*bv 18446744073709551616 x:=by
   have:=H0 (b:=18446744073709551616) us j (by omega)
   rw [Ay,<-fp] at this;exact this
  have UB:bv 18446744073709551616 (pre++x'++post)=bv 18446744073709551616 pre+18446744073709551616^j*bv 18446744073709551616 x':=by
   rw [xp,rh,rh,hp0,xF,yX,lp]
  have aW:=nG (b:=18446744073709551616) (l:=qs) (i:=j) (x:=bv 18446744073709551616 x/bv 18446744073709551616 vs) (by omega);rw [hz j (by omega),xF,yX] at aW;have lS:=ZO (b:=0) WJ aQ;have aX:=fun (hp:Hp) (ct:Nat)=>kI (hp:=hp) (ct:=ct) (id:=1) (v:=bv 18446744073709551616 x/bv 18446744073709551616 vs) (ex:=true) (l:=qs) (o:=j) (by omega)
  have qS:0<bv 18446744073709551616 vs:=by omega
  have pc:=xy (bv 18446744073709551616 x) qS;have lj:∀tm (x y:X),cP tm 0 (some x)=some j->cP tm (la+1) (some y)=some (j+n+1)->fL (H2 qs us) (.sl 1) (.an 0 0 (la+1)) tm (some x) (some y)=some (.an 0 j (n+1)):=fun tm x y h1 h2=>by
   rw [ap9 (cs:=us.map uc) (pu:=true) (ex:=true) rfl h1 h2 (by omega) (by omega),show j+n+1-j=n+1 by omega]
  simp only [H2] at lj e1
  simp only [go_sem,ya,yh,IB,H2,show ((j+1:Nat):Int)-1=(j:Int) by omega,show (0:Int)<=(j:Int) by omega,show (j:Int)+(n:Int)=((j+n:Nat):Int) from rfl,wrapN (n:=j+n) (by omega),show ((j+n:Nat):Int)+1=((j+n+1:Nat):Int) from rfl,wrapN (n:=j+n+1) (by omega),lj,dQ,afb,e1,dj 1 0 (show j<m by omega),yd,aX];refine ⟨_,j,rfl,by omega,j,pre++x'++post,qs.set j (bv 18446744073709551616 x/bv 18446744073709551616 vs),?_,rfl,by omega,by rw [oI,lp,WI,gQ,xS];omega,by simp [lq],L8.2 ⟨L8.2 ⟨UA,P7⟩,aus⟩,mr gq OO,fun i hi=>by rw [oH (by omega)];exact hz i (by omega),?_,?_⟩
  ·rw [wrap64 (by omega) (by omega)];simp only [go_sem,ya,yb,ay,aJ hw.pu,aO _ hw.pu]<;>rfl
  ·rw [UB,K5,aW];exact lS
  ·rw [xp,uG lp,rh,hp0,xF,yX,K5];exact pc
def aut {l:List Nat} {n:Nat} (h:l.length=n+1):18446744073709551616^n*l.getD n 0<=bv 18446744073709551616 l:=by
 have:=jv (b:=18446744073709551616) (l:=l) n
 rw [yM (by omega)] at this;omega
def nR {m K:Nat} {l:List Nat} (hn:gL l) (hv:bv 18446744073709551616 l=m) (h:m<18446744073709551616^K):l.length<=K:=akO (b:=18446744073709551616) (by decide) hn (by rw [hv];exact h)
def asz (h:Wd P L) {v w:AV} {x:List Nat} {d:Nat} (hv:bJ v x) (hw:bJ w [d]) (gx:lo 18446744073709551616 x) (lx:x.length<=90000000000) (iE:0<d) (WH:d<18446744073709551616) (ec:ae P L 158 [v,w] (aa (eb (bv 18446744073709551616 x) d))) (hc:d<=bv 18446744073709551616 x):
  ∃q r,ae P L 137 [v,w] (.ap [q,r])/\WN q (bv 18446744073709551616 x/d)/\WN r (bv 18446744073709551616 x%d):=by
 have eh:¬eb (bv 18446744073709551616 x) d<0:=by unfold eb;rw [yB (by omega)];split<;>decide
 obtain ⟨n,hn⟩:∃n,n=x.length:=⟨_,rfl⟩;have hlen:∀hp:Hp,iI hp 1 w=some (.int .i64 1):=fun hp=>hw.len
 have main:∃r l,(∀c:Nat->AV->AV->Option AV,True)/\r<d/\l.length=n/\lo 18446744073709551616 l/\bv 18446744073709551616 x=bv 18446744073709551616 l*d+r/\
   ∃q1 r1,bJ q1 (ew l)/\bJ r1 (ew [r])/\ae P L 137 [v,w] (.ap [q1,r1]):=by
  unfold ae at ec;unfold ae;rw [av h.Uy]
  simp only [go_sem,ya,Js,hv.len,hv.ah,hw.len,hw.ah,ec,eh,yr,yE,yd,show ((1:Nat):Int)=(1:Int) from rfl,<-hn,Df (n:=n) _ (by omega)];generalize hq:D P L (.loop [0,1,6,7,8] IA) _=q;obtain ⟨ex,s,rfl,tm,r,l,rfl,rfl,t6,t7,pE,bq,hr,aQ⟩:=bP hq (asw (P:=P) (L:=L) h hv gx (by omega) hw iE WH hn n) ⟨n,0,[],by
   rw [wrap64 (by omega) (by omega),wc]
   simp only [go_sem,ya,yb,ay,aJ hv.pu,aO _ hv.pu,aJ hw.pu,aO _ hw.pu]<;>rfl,rfl,rfl,M4,iE,by rw [List.drop_eq_nil_of_le (by omega)];simp [bv]⟩
  have hf:=mT true l;rw [pE] at hf;obtain ⟨q1,e1,eN⟩:=BB h.mI hf (by omega);obtain ⟨r1,e2,cp⟩:=BB h.mI (mT true [r]) (by simp);unfold ae at e1 e2;simp only [yr,yE,yd,List.map_cons,List.map_nil] at e2;refine ⟨r,l,fun _=>trivial,hr,pE,bq,aQ,q1,r1,eN,cp,?_⟩
  simp only [go_sem,ya,yb,Nat.reduceLT,ye,yh,ay,t6,t7,BA _ (n:=n) (l:=l) pE true,e1,eN.shut,e2,cp.shut];exact SQ eN cp _
 obtain ⟨r,l,_,hr,pE,bq,aQ,q1,r1,eN,cp,e⟩:=main;have hq:bv 18446744073709551616 l=bv 18446744073709551616 x/d:=by
  rw [aQ,xE,yao iE,wH hr,yX]
 have hm:r=bv 18446744073709551616 x%d:=by
  rw [aQ,xE,yap,yP hr]
 exact ⟨q1,r1,e,⟨_,eN,AX bq,AW _,by rw [AU,hq]⟩,⟨_,cp,AX (EK.2 (by omega)),AW _,by rw [AU,zk,hm]⟩⟩
def asA (h:Wd P L) {v w:AV} {x y:List Nat} (hv:bJ v x) (hw:bJ w y) (gx:lo 18446744073709551616 x) (gy:lo 18446744073709551616 y) (nx:gL x) (ny:gL y) (lx:x.length<=90000000000) (ly:2<=y.length) (ec:ae P L 158 [v,w] (aa (eb (bv 18446744073709551616 x) (bv 18446744073709551616 y)))) (hc:bv 18446744073709551616 y<=bv 18446744073709551616 x):
  ∃q r,ae P L 137 [v,w] (.ap [q,r])/\WN q (bv 18446744073709551616 x/bv 18446744073709551616 y)/\WN r (bv 18446744073709551616 x%bv 18446744073709551616 y):=by
 have ej:(0:Nat)<18446744073709551616:=by decide
 have eh:¬eb (bv 18446744073709551616 x) (bv 18446744073709551616 y)<0:=by unfold eb;rw [yB (by omega)];split<;>decide
 have hyx:y.length<=x.length:=by
  by_cases hh:x.length<y.length
  ·have:=MN (b:=18446744073709551616) (by decide) gx ny hh;omega
  ·omega
 obtain ⟨n,hn⟩:∃n,n=y.length:=⟨_,rfl⟩;obtain ⟨la,K4⟩:∃la,la=x.length:=⟨_,rfl⟩;have Bk:=Mr ny (fun e=>by subst e;simp at ly);have DI:=gP ej gy (y.length-1);have WK:=hw.bk (i:=y.length-1) (by omega);have lW:=aut (l:=y) (n:=n-1) (by omega);rw [<-hn] at Bk DI WK;obtain ⟨top,nQ⟩:∃top,y.getD (n-1) 0=top:=⟨_,rfl⟩;rw [nQ] at Bk DI WK lW;have elz:=adB (P:=P) (f:=D P L) h.JZ DI;obtain ⟨z1,z2,z3⟩:=R0 (rg Bk) DI;generalize 64-eS 64 top=s at*
 obtain ⟨ov,ev,lov,gov,vov⟩:=afQ h.afV hw gy (by omega) z1;obtain ⟨ou,eu,lou,gou,vou⟩:=afQ h.afV hv gx (by omega) z1;obtain ⟨v',WL,eL⟩:=BB h.mI (mT true ov) (by omega);rw [lov,<-hn] at WL;rw [<-hn] at ev;rw [<-K4] at eu lou;have jl:=wG s;obtain ⟨vs,Aa⟩:∃vs,vs=ew ov:=⟨_,rfl⟩;rw [<-Aa] at eL;have DJ:lo 18446744073709551616 vs:=by rw [Aa];exact AX gov
 have K6:gL vs:=by rw [Aa];exact AW _
 have sJ:bv 18446744073709551616 vs=bv 18446744073709551616 y*2^s:=by rw [Aa,AU,vov]
 have hyW:bv 18446744073709551616 y*2^s<18446744073709551616^n:=by
  have e:18446744073709551616=2^(64-s)*2^s:=by rw [<-wC,show 64-s+s=64 by omega]
  have e1:=jv (b:=18446744073709551616) (l:=y) (n-1);rw [show n-1+1=n by omega,yM (by omega),nQ] at e1;have e2:=mz (A0 gy (n-1));rw [yT,Nat.min_eq_left (by omega)] at e2;have e3:top<2^(64-s):=Nat.lt_of_mul_lt_mul_right (a:=2^s) (Nat.lt_of_lt_of_eq z3 e);have e4:=yW (2^s) (show top+1<=2^(64-s) from e3);rw [<-e] at e4;have e5:bv 18446744073709551616 y<18446744073709551616^(n-1)*(top+1):=by rw [xt,yh];omega
  have e6:=wD e5 jl;rw [xk] at e6;have e7:=yS (18446744073709551616^(n-1)) e4;rw [<-xg,show (n-1).succ=n by omega] at e7;exact yN e6 e7
 have avQ:18446744073709551616^(n-1)*2^s<=bv 18446744073709551616 vs:=by
  rw [sJ];refine yW _ (xj ?_ lW)
  have:=yS (18446744073709551616^(n-1)) (show 1<=top by omega)
  omega
 have Az:vs.length=n:=by
  have h1:vs.length<=n:=by
   refine nR K6 sJ ?_;exact hyW
  have h2:¬vs.length<n:=fun hh=>by
   have e1:=mz DJ;have e2:18446744073709551616^vs.length<=18446744073709551616^(n-1):=xP ej (by omega);have e3:=yW (2^s) lW;rw [xk,<-sJ] at e3;have e4:=yS (18446744073709551616^(n-1)) (show 1<=top*2^s by omega);omega
  omega
 have eG:0<vs.getD (n-1) 0:=by
  have:=Mr K6 (fun e=>by rw [e] at Az;simp at Az;omega)
  rw [Az] at this;exact rg this
 obtain ⟨m,hm⟩:∃m,m=la-n+1:=⟨_,rfl⟩;have Tm:bv 18446744073709551616 (ou.drop m)<bv 18446744073709551616 vs:=by
  have e1:=H0 (b:=18446744073709551616) ou m (by omega);have e2:=mz gx;rw [<-K4] at e2;have e3:=wD e2 jl;rw [<-vou] at e3;have e4:18446744073709551616^la=18446744073709551616^m*18446744073709551616^(n-1):=by rw [<-wC];congr 1;omega
  rw [e4,xk] at e3;have e5:18446744073709551616^m*bv 18446744073709551616 (ou.drop m)<18446744073709551616^m*(18446744073709551616^(n-1)*2^s):=by omega
  exact yN (Nat.lt_of_mul_lt_mul_left e5) avQ
 have e1y:(y.length:Int)-1=((n-1:Nat):Int):=by omega
 have avR:((la:Nat):Int)-(n:Int)=((m-1:Nat):Int):=by omega
 have je:∃tm us qs rs,(us.length=la+1/\qs.length=m/\lo 18446744073709551616 us/\lo 18446744073709551616 qs/\bv 18446744073709551616 us+bv 18446744073709551616 qs*bv 18446744073709551616 vs=bv 18446744073709551616 x*2^s/\bv 18446744073709551616 us<bv 18446744073709551616 vs/\
   rs.length=n/\lo 18446744073709551616 rs/\bv 18446744073709551616 rs*2^s+us.getD 0 0%2^s=bv 18446744073709551616 (us.take n)+18446744073709551616^n*(us.getD n 0%2^s))/\af tm 0=v/\
   ∃q1 r1,bJ q1 (ew qs)/\bJ r1 (ew rs)/\ae P L 137 [v,w] (.ap [q1,r1]):=by
  unfold ae at ec ev eu WL;unfold ae;rw [av h.Uy];have hfo:=BA (n:=n+1) (l:=ov) (hp:=[]) (by omega) true
  simp only [go_sem,ya,yb,Js,hv.len,hv.ah,hw.len,hw.ah,ec,eh,show ¬(y.length:Int)=1 by omega,e1y,wrapN (n:=n-1) (by omega),WK,elz,ev,aur,BA _ (n:=n+1) (l:=ov) (by omega) true,WL,eL.len,eL.shut,eu,Az,<-K4,avR,wrapN (n:=m-1) (by omega),show ((m-1:Nat):Int)+1=(m:Int) by omega,wrapN (n:=m) (by omega),Df (n:=m) _ (by omega)];generalize mQ:D P L (.loop [9,10,11,12,13,14] IB) _=qq;obtain ⟨ex,st,rfl,tm,us,qs,rfl,rfl,t9,t11,t12,t13,P8,P9,Ga,WM,aQ,bi⟩:=bP mQ (asy (P:=P) (L:=L) h eL DJ Az (by omega) (by omega) (by omega) hm eG (s:=s) (U0:=bv 18446744073709551616 x*2^s) m) ⟨m,ou,yz m 0,by
   rw [show ((m-1:Nat):Int)=(m:Int)-1 by omega]
   simp only [go_sem,ya,yb,ay,aJ eL.pu,aO _ eL.pu]<;>rfl,rfl,Nat.le_refl _,lou,by simp,gou,EL ej m,fun i _=>Cv m i,by rw [EM,ybc,yX,vou],Tm⟩
  simp only [go_sem,ya,yb,ay,t9,t11,t12,t13];generalize Dh:D P L (.loop [9,11,12,13,96,97] EB) _=WA;obtain ⟨ex,st,rfl,jh,rs,rfl,rfl,t11,t12,t13,WO,WQ,OP⟩:=bP Dh (asx (P:=P) (L:=L) (qs:=qs) (m:=m) (la:=la+1) (n:=n) z1 P8 Ga (by omega) (by omega) n) ⟨0,[],by simp only [go_sem,ya,yb,ay]<;>rfl,by omega,rfl,M4,by simp [bv]⟩
  have lj:∀(hp:Hp) tm (y:X),ak hp 0=some (.cells true true true 1 ((rs++us.drop n).map uc))->cP tm (la+1) (some y)=some n->fL hp (.sl 1) (.an 0 0 (la+1)) tm none (some y)=some (.an 0 0 n):=fun hp tm y h1 h2=>aaN h1 h2 (by omega) (by omega)
  have K7:=mT true qs;rw [P9] at K7;obtain ⟨q1,f1,eN⟩:=BB h.mI K7 (by omega);have eF:(rs++us.drop n).take n=rs:=by rw [List.take_append_of_le_length (by omega),yM (by omega)]
  have K8:∃e,∀hp:Hp,lU 0 n (some (true,1,(rs++us.drop n).map uc,hp))=some (.aE e n (rs.map uc),hp):=by
   refine ⟨true&&Nat.blt 0 1&&Nat.beq n ((rs++us.drop n).map uc).length,fun hp=>?_⟩;simp only [lU,yd,yh,slice,yj,<-List.map_take,eF];rw [yv (by simp;omega)];rfl
  obtain ⟨e,K8⟩:=K8;have gZ:=mT e rs;rw [WO] at gZ;obtain ⟨r1,f2,cp⟩:=BB h.mI gZ (by omega);unfold ae at f1 f2;refine ⟨[(0,v)],us,qs,rs,⟨P8,P9,Ga,WM,aQ,bi,WO,WQ,OP⟩,rfl,q1,r1,eN,cp,?_⟩
  simp only [go_sem,ya,yb,ay,t11,t12,t13,BA _ (n:=m) (l:=qs) P9 true,f1,eN.shut,lj,dQ,K8,f2,cp.shut];exact SQ eN cp _
 obtain ⟨tm,us,qs,rs,⟨P8,P9,Ga,WM,aQ,bi,WO,WQ,OP⟩,_,q1,r1,eN,cp,e⟩:=je;have iV:0<bv 18446744073709551616 y:=by
  have:=yS (18446744073709551616^(n-1)) (show 1<=top by omega)
  have:=Nat.pow_pos (n:=n-1) ej
  omega
 rw [sJ] at aQ bi;have J0:bv 18446744073709551616 qs=bv 18446744073709551616 x/bv 18446744073709551616 y:=by
  rw [<-Nat.mul_div_mul_right _ _ jl,<-aQ,yaj,xE,yao (Nat.mul_pos iV jl),wH bi,yX]
 have Qa:bv 18446744073709551616 us=(bv 18446744073709551616 x%bv 18446744073709551616 y)*2^s:=by
  rw [<-tx,<-aQ,yaj,xE (bv _ qs),yap,yP bi]
 have kq:=H0 (b:=18446744073709551616) us n (by omega);have iE:bv 18446744073709551616 (us.drop n)=0:=by
  rcases xo (bv 18446744073709551616 (us.drop n)) with h0 | h0
  ·exact h0
  ·have:=yS (18446744073709551616^n) h0
   omega
 have hun:us.getD n 0=0:=by
  have:=MR (b:=18446744073709551616) (l:=us) (i:=n) (by omega)
  omega
 rw [iE,xF,yX] at kq;have BX:us.getD 0 0%2^s=0:=by
  have e1:=MR (b:=18446744073709551616) (l:=us) (i:=0) (by omega);rw [yj,Qa] at e1;have e2:18446744073709551616=2^s*2^(64-s):=by rw [<-wC,show s+(64-s)=64 by omega]
  have e3:(us.getD 0 0+18446744073709551616*bv 18446744073709551616 (us.drop (0+1)))%2^s=us.getD 0 0%2^s:=by
   conv=>lhs;rw [e2,xk]
   exact Nat.add_mul_mod_self_left _ _ _
  rw [<-e3,<-e1,Nat.mul_mod_left]
 rw [hun,BX,Nat.zero_mod,xF,yX,yX,<-kq,Qa] at OP;have afc:bv 18446744073709551616 rs=bv 18446744073709551616 x%bv 18446744073709551616 y:=Nat.eq_of_mul_eq_mul_right jl OP;exact ⟨q1,r1,e,⟨_,eN,AX WM,AW _,by rw [AU,J0]⟩,⟨_,cp,AX WQ,AW _,by rw [AU,afc]⟩⟩
def afY (h:Wd P L) {v w:AV} {a b K:Nat} (hv:WN v a) (hw:WN w b) (hb:0<b) (ha:a<18446744073709551616^K) (hbK:b<18446744073709551616^K) (hK:K<=90000000000):
  ∃q r,ae P L 137 [v,w] (.ap [q,r])/\WN q (a/b)/\WN r (a%b):=by
 obtain ⟨x,Gb,gx,nx,vx⟩:=hv;obtain ⟨y,Qb,gy,ny,vy⟩:=hw;have lx:x.length<=90000000000:=xj (nR nx vx ha) hK;have ly:y.length<=90000000000:=xj (nR ny vy hbK) hK;have ec:=afL h.afW Gb Qb gx gy nx ny (by omega) (by omega);subst vx;subst vy;by_cases hc:bv 18446744073709551616 x<bv 18446744073709551616 y
 ·have eh:eb (bv 18446744073709551616 x) (bv 18446744073709551616 y)= -1:=by unfold eb;rw [yI hc]
  rw [eh] at ec;refine ⟨.ab,v,?_,⟨[],sQ,M4,rfl,by rw [wH hc];rfl⟩,⟨x,Gb,gx,nx,by rw [yP hc]⟩⟩
  unfold ae at ec;unfold ae;rw [av h.Uy];simp only [go_sem,ya,Js,Gb.ah,Qb.ah,ec,show (-1:Int)<0 by decide];exact SQ sQ Gb _
 ·rcases (show y.length=0\/y.length=1\/2<=y.length by omega) with h0 | h1 | h2
  ·rw [List.eq_nil_of_length_eq_zero h0] at hb;simp [bv] at hb
  ·obtain ⟨d,rfl⟩:∃d,y=[d]:=by
    cases y with
    | nil=>simp at h1
    | cons d r=>cases r with
     | nil=>exact ⟨d,rfl⟩
     | cons e r=>simp at h1
   rw [zk] at*
   exact asz h Gb Qb gx lx hb (EK.1 gy) ec (by omega)
  ·exact asA h Gb Qb gx gy nx ny lx h2 ec (by omega)
end
end
section
open Go (IntKind)
def iW (v:AV) (n:Int):Prop:=∃w l,v= .agg [.bool (decide (n<0)),w]/\br w l/\dg l/\nz l/\dv l=n.natAbs
def ix {l:List Int} {k:Nat} (hd:dg l) (hn:nz l) (h:dv l<1000000000^k):l.length<=k:=by
 by_cases h0:l=[]
 ·subst h0;exact yal _
 ·have h1:=NA hn hd h0;have h2:1000000000^(l.length-1)<1000000000^k:=wJ h1 h;have h3:=(Nat.pow_lt_pow_iff_right (show 1<1000000000 by decide)).1 h2;omega
def de {hp:Hp} {ct id:Nat} {a b x y:AV} (h1:bm a=true) (h2:bm b=true) (p1:aR a=true) (p2:aR b=true):
  eM hp ct id 0 2 [a,b] (some (.cells true true true 2 [x,y]))=some (.ap [],aW hp id (.cells true true true 2 [a,b]),ct):=by
 rw [jb (by rfl) (by simp) (by simp [bK,h1,h2])];simp [aH,p1,p2,over]
section
variable {P:aG} {L:Lib}
def ck (neg:Bool) (m:Nat):Int:=if neg=true then -(m:Int) else m
def nS (h:Has P L 294 Bu) (cR:Has P L 300 lT) (neg:Bool) {v:AV} {l:List Int} (hv:br v l) (hd:dg l) (hl:l.length<=20000000000):
  ∃r,ae P L 294 [.bool neg,v] r/\iW r (ck neg (dv l)):=by
 obtain ⟨w,e1,hw,fS⟩:=Bz cR hv hl;have pP:=sP l;have B2:=Eo l;have nt:=AT hd;have hc:(neg&&decide ((0:Int)<((et l).length:Nat)))=decide (ck neg (dv l)<0):=by
  unfold ck
  cases neg with
  | false=>simp
  | true=>
   simp only [wA,y5];by_cases h0:et l=[]
   ·rw [h0] at pP ⊢;simp only [dv] at pP;simp [<-pP]
   ·have h1:0<(et l).length:=uv.2 h0;have h2:0<dv l:=by
     rw [<-pP];rcases xo (dv (et l)) with h | h
     ·exact absurd (Sc B2 nt h) h0
     ·exact h
    rw [xh (by omega),xh (by omega)]
 refine ⟨.agg [.bool (decide (ck neg (dv l)<0)),w],?_,w,et l,rfl,hw,nt,B2,?_⟩
 ·rw [<-hc];unfold ae at e1 ⊢;rw [av h]
  cases neg with
  | false=>
   rw [wr];simp only [go_sem,ya,yb,ye,Bu,aB,hv.ah,e1,hw.pu,hw.shut,hw.one,hw.cells,de];rcases hw with ⟨rfl,_⟩ | ⟨e,rfl⟩<;>rfl
  | true=>
   rw [wA];simp only [go_sem,ya,yb,ye,Bu,aB,hv.ah,e1,hw.len,hw.pu,hw.shut,hw.one,hw.cells,de];rcases hw with ⟨rfl,_⟩ | ⟨e,rfl⟩<;>rfl
 ·rw [pP];unfold ck;split<;>omega
def afZ (h:Has P L 298 Ot) (ie:Has P L 294 Bu) (cR:Has P L 300 lT) {v:AV} {n:Int} {K:Nat} (hK:K<=20000000000) (hv:iW v n) (hn:n.natAbs<1000000000^K):∃r,ae P L 298 [v] r/\iW r (-n):=by
 obtain ⟨w,l,rfl,hw,hd,hz,pP⟩:=hv;obtain ⟨r,e1,hr⟩:=nS ie cR (!decide (n<0)) hw hd (xj (ix hd hz (by rw [pP];exact hn)) hK)
 have e:ck (!decide (n<0)) (dv l)= -n:=by
  rw [pP];unfold ck;by_cases h0:n<0
  ·simp [h0];omega
  ·simp [h0];omega
 rw [e] at hr;obtain ⟨w2,l2,rfl,im,dU,iS,zT⟩:=hr;refine ⟨_,?_,w2,l2,rfl,im,dU,iS,zT⟩;unfold ae at e1 ⊢;rw [av h];simp only [go_sem,ya,yb,Ot,aB,hw.pu,hw.ah,hw.one,im.pu,im.one,aV,yd,bU,e1,de,bl];rcases im with ⟨rfl,_⟩ | ⟨e,rfl⟩<;>rfl
end
end
section
open Go (IntKind)
def cN (s:Int) (w:AV) (z:Int):Prop:=
 (w= .ab/\s=z/\-9223372036854775808<=z/\z<9223372036854775808)\/
 (∃e l,w= .aE e l.length (l.map uc)/\lo 18446744073709551616 l/\gL l/\bv 18446744073709551616 l=z.natAbs/\s=(if z<0 then -1 else 1)/\9223372036854775808<=z.natAbs)
def cL (v:AV) (z:Int):Prop:=∃s w,v= .agg [aa s,w]/\cN s w z
def Bd (k:Nat) (z:Int):Prop:=z.natAbs<2^k
def zm (k:Nat):2^k<=18446744073709551616^k:=Nat.pow_le_pow_left (by decide) k
def Bd.mono {k m:Nat} {z:Int} (h:Bd k z) (hk:k<=m):Bd m z:=yN h (xP (by decide) hk)
def Bd.neg {k:Nat} {z:Int} (h:Bd k z):Bd k (-z):=by unfold Bd at h ⊢;rwa [Int.natAbs_neg]
def Bd.add {k m:Nat} {a b:Int} (ha:Bd k a) (hb:Bd m b):Bd (max k m+1) (a+b):=by
 have h1:Bd (max k m) a:=ha.mono (by omega);have h2:Bd (max k m) b:=hb.mono (by omega);unfold Bd at h1 h2 ⊢
 grind
def Bd.sub {k m:Nat} {a b:Int} (ha:Bd k a) (hb:Bd m b):Bd (max k m+1) (a-b):=by
 rw [Int.sub_eq_add_neg];exact ha.add hb.neg
def Bd.mul {k m:Nat} {a b:Int} (ha:Bd k a) (hb:Bd m b):Bd (k+m) (a*b):=by
 unfold Bd at*
 rw [Int.natAbs_mul,wC];exact yah ha hb
def Bd.le {k:Nat} {a b:Int} (hb:Bd k b) (h:a.natAbs<=b.natAbs):Bd k a:=wJ h hb
def WN.pos {v:AV} {m:Nat} (h:WN v m) (h0:0<m):∃e l,v= .aE e l.length (l.map uc)/\l≠[]/\lo 18446744073709551616 l/\gL l/\bv 18446744073709551616 l=m:=by
 obtain ⟨l,hv,g,n,hb⟩:=h;have hl:l≠[]:=fun e=>by subst e;simp [bv] at hb;omega
 rcases hv with ⟨_,e⟩ | ⟨e,rfl⟩
 ·simp_all
 ·exact ⟨e,l,by simp,hl,g,n,hb⟩
def WN.zero {v:AV} (h:WN v 0):∃n,iI [] 1 v=some (.int .i64 n)/\n=0:=by
 obtain ⟨l,hv,g,n,hb⟩:=h
 have:=amS (b:=18446744073709551616) (by decide) n hb
 subst this;exact ⟨_,hv.len,rfl⟩
def WN.az {v:AV} {m:Nat} (h:WN v m):∃l,bJ v l/\lo 18446744073709551616 l/\gL l/\bv 18446744073709551616 l=m:=h
def nH (e:Bool) (n:Nat) (cs:List AV):gH .sl (.aE e n cs) .ab=some false:=rfl
def gS:gH .sl .ab .ab=some true:=rfl
def MS (hp:Hp) (ct id:Nat) (a:Int) (e:Bool) (n:Nat) (cs:List AV) (x y:AV):eM hp ct id 0 2 [.int .i64 a,.aE e n cs] (some (.cells true true true 2 [x,y]))=some (.ap [],aW hp id (.cells true true true 2 [.int .i64 a,.aE e n cs]),ct):=de rfl rfl rfl rfl
def rm {tm:Env} {a x y:AV} {r:List (Nat×Nat×X)} (h:bm a=true):gB tm [x,y] 0 1 [a] r=fill tm [a,y] r:=abR (by simp) h
def cN.oE {z:Int} (h1: -9223372036854775808<=z) (h2:z<9223372036854775808):cL (.agg [aa z,.ab]) z:=⟨z,.ab,rfl,.inl ⟨rfl,rfl,h1,h2⟩⟩
def cN.cf {s:Int} {w:AV} {z:Int} (h:cN s w z):(s<0↔z<0)/\(s=0↔z=0)/\-9223372036854775808<=s/\s<9223372036854775808:=by
 rcases h with ⟨_,rfl,h1,h2⟩ | ⟨e,l,_,_,_,_,rfl,h1⟩
 ·grind
 ·grind
section
variable {P:aG} {L:Lib}
structure Nu (P:aG) (L:Lib):Prop extends Wd P L where
 avS:Has P L 117 N8
 avT:Has P L 142 Oa
 UC:Has P L 136 Jr
 J3:Has P L 145 zJ
 oX:Has P L 146 zK
 rP:Has P L 147 rJ
 Dc:Has P L 163 zL
 avU:Has P L 118 C4
 af0:Has P L 119 c119
 avV:Has P L 156 TX
 OQ:Has P L 100 mG
 nN:Has P L 164 iM
 OJ:Has P L 148 Fh
 Ut:Has P L 130 Ff
def Di (h:Nu P L) {z:Int} (h1: -9223372036854775808<=z) (h2:z<9223372036854775808):ae P L 117 [aa z] (.agg [aa z,.ab])/\cL (.agg [aa z,.ab]) z:=⟨n117 h.avS z,cN.oE h1 h2⟩
def UD (h:Nu P L) {n:Int} (h1: -9223372036854775808<=n) (h2:n<9223372036854775808):ae P L 142 [aa n] (uc n.natAbs):=by
 unfold ae;rw [av h.avT];by_cases h0:n<0
 ·have e:IntKind.wrap .u64 (IntKind.wrap .i64 (0-n))=(n.natAbs:Int):=by
   by_cases hm:n= -9223372036854775808
   ·subst hm;rfl
   ·rw [wrap64 (by omega) (by omega),NF];omega
  simp only [go_sem,ya,Oa,h0,adu,e]
 ·have e:IntKind.wrap .u64 n=(n.natAbs:Int):=by rw [NF];omega
  simp only [go_sem,ya,Oa,h0,adu,e]
def zU (h:Nu P L) {s:Int} {w:AV} {z:Int} (hz:cN s w z):∃r,ae P L 136 [.agg [aa s,w]] (.ap [.bool (decide (z<0)),r])/\WN (bT r) z.natAbs:=by
 rcases hz with ⟨rfl,rfl,h1,h2⟩ | ⟨e,l,rfl,g,n,hb,hs,h1⟩
 ·by_cases h0:s=0
  ·subst h0;refine ⟨.ab,?_,[],sQ,M4,rfl,rfl⟩;unfold ae;rw [av h.UC];simp only [go_sem,ya,yb,Jr,aB,aV,yd,bU,gS,IU,Int.reduceLT];rfl
  ·have e1:=UD h h1 h2;refine ⟨.cJ true 1 1 [uc s.natAbs],?_,[s.natAbs],mT true [s.natAbs],EK.2 (by omega),Eb (by omega) [],zk _⟩;unfold ae;rw [av h.UC];simp only [go_sem,ya,yb,ye,yh,Jr,aB,aV,yd,bU,gS,IU,h0,e1];rfl
 ·have ji:decide (s<0)=decide (z<0):=by rw [hs];split<;>simp<;>omega
  refine ⟨.aE e l.length (l.map uc),?_,l,mT e l,g,n,hb⟩;unfold ae;rw [av h.UC];simp only [go_sem,ya,yb,Jr,aB,aV,yd,bU,nH,IU,ji];rfl
def ZP {d:Nat} (h:d<=9223372036854775807):IntKind.wrap .i64 (d:Int)=d:=wrapN (by omega)
def Dj (h:Nu P L) (neg:Bool) {w:AV} {m K:Nat} (hw:WN w m) (hm:m<18446744073709551616^K) (hK:K<=90000000000):∃r,ae P L 145 [.bool neg,w] r/\cL r (ck neg m):=by
 obtain ⟨l,hu,g,n,hb⟩:=hw;have pE:l.length<=90000000000:=xj (nR n hb hm) hK;by_cases h0:l=[]
 ·subst h0
  have:m=0:=by rw [<-hb];rfl
  subst this;have e:ck neg 0=0:=by unfold ck;cases neg<;>rfl
  rw [e];refine ⟨.agg [aa 0,.ab],?_,cN.oE (by decide) (by decide)⟩;unfold ae;rw [av h.J3];simp only [go_sem,ya,yb,zJ,aB,hu.len,yE,show (((0:Nat):Nat):Int)=0 from rfl,jw];rfl
 ·have kE:0<l.length:=uv.2 h0;by_cases h1:l.length=1/\l.getD 0 0<=9223372036854775807
  ·obtain ⟨h1,h2⟩:=h1;obtain ⟨d,rfl⟩:∃d,l=[d]:=by
    cases l with
    | nil=>simp at h1
    | cons d r=>cases r with
     | nil=>exact ⟨d,rfl⟩
     | cons e r=>simp at h1
   have h2:d<=9223372036854775807:=h2;rw [zk] at hb;subst hb;have ex:=hu.bk (i:=0) (by simp);rw [show ([d]:List Nat).getD 0 0=d from rfl] at ex;have hlen:∀hp,iI hp 1 w=some (.int .i64 1):=fun hp=>hu.len
   cases neg with
   | true=>
    refine ⟨.agg [aa (0-(d:Int)),.ab],?_,?_⟩
    ·unfold ae;rw [av h.J3]
     simp only [go_sem,ya,yb,ye,zJ,aB,hlen,vN,ex,show (d:Int)<=9223372036854775807 by omega,M8,ZP h2,wrap64 (n:=0-(d:Int)) (by omega) (by omega),jw];rfl
    ·have:ck true d=0-(d:Int):=by unfold ck;simp
     rw [this];exact cN.oE (by omega) (by omega)
   | false=>
    refine ⟨.agg [aa (d:Int),.ab],?_,?_⟩
    ·unfold ae;rw [av h.J3];simp only [go_sem,ya,yb,ye,zJ,aB,hlen,vN,ex,show (d:Int)<=9223372036854775807 by omega,M8,ZP h2,jw];rfl
    ·have:ck false d=(d:Int):=by unfold ck;simp
     rw [this];exact cN.oE (by omega) (by omega)
  ·have K9:9223372036854775808<=m:=by
    rw [<-hb];by_cases h2:l.length=1
    ·obtain ⟨d,rfl⟩:∃d,l=[d]:=by
      cases l with
      | nil=>simp at h2
      | cons d r=>cases r with
       | nil=>exact ⟨d,rfl⟩
       | cons e r=>simp at h2
     have:¬d<=9223372036854775807:=fun hd=>h1 ⟨h2,hd⟩
     rw [zk];omega
    ·have h3:=M5 (b:=18446744073709551616) (by decide) n h0;have h4:18446744073709551616^1<=18446744073709551616^(l.length-1):=xP (by decide) (by omega);rw [Nat.pow_one] at h4;omega
   have cX:∃e,w= .aE e l.length (l.map uc):=by
    rcases hu with ⟨rfl,hh⟩ | ⟨e,rfl⟩
    ·simp at hh;exact absurd hh h0
    ·exact ⟨e,by simp⟩
   obtain ⟨e,rfl⟩:=cX;have ex:=hu.bk (i:=0) kE;have first:(decide ((l.length:Int)=1)=true/\¬((l.getD 0 0:Nat):Int)<=9223372036854775807)\/decide ((l.length:Int)=1)=false:=by
    by_cases h2:l.length=1
    ·left;refine ⟨by simp;omega,fun hd=>h1 ⟨h2,by omega⟩⟩
    ·right;simp;omega
   cases neg with
   | true=>
    refine ⟨.agg [aa (-1),.aE e l.length (l.map uc)],?_,-1,_,rfl,.inr ⟨e,l,rfl,g,n,by rw [hb];unfold ck;simp,by unfold ck;simp;omega,by unfold ck;simp;omega⟩⟩
    unfold ae;rw [av h.J3];rcases first with ⟨f1,f2⟩ | f1
    ·simp only [go_sem,ya,yb,ye,zJ,aB,show ¬(l.length:Int)=0 by omega,f1,f2,ex,rm,MS];rfl
    ·simp only [go_sem,ya,yb,ye,zJ,aB,show ¬(l.length:Int)=0 by omega,f1,rm,MS];rfl
   | false=>
    refine ⟨.agg [aa 1,.aE e l.length (l.map uc)],?_,1,_,rfl,.inr ⟨e,l,rfl,g,n,by rw [hb];unfold ck;simp,by unfold ck;simp,by unfold ck;simp;omega⟩⟩
    unfold ae;rw [av h.J3];rcases first with ⟨f1,f2⟩ | f1
    ·simp only [go_sem,ya,yb,ye,zJ,aB,show ¬(l.length:Int)=0 by omega,f1,f2,ex,rm,MS];rfl
    ·simp only [go_sem,ya,yb,ye,zJ,aB,show ¬(l.length:Int)=0 by omega,f1,rm,MS];rfl
end
end
section
open Go (IntKind)
def bC:VC->VC
 | .seq a _=>a
 | c=>c
def anS {a b:Int} {x y:Nat} (ha:a.natAbs=x) (hb:b.natAbs=y) (h:decide (a<0)=decide (b<0)):ck (decide (a<0)) (x+y)=a+b:=by
 unfold ck
 grind
def aaO {a b:Int} {m:Nat} (hm:m+b.natAbs=a.natAbs) (h:¬decide (a<0)=decide (b<0)):ck (decide (a<0)) m=a+b:=by
 unfold ck
 grind
def anT {a:Int}:ck (!decide (a<0)) a.natAbs= -a:=by
 unfold ck
 grind
def aaP {a b:Int}:ck (decide (a<0) !=decide (b<0)) (a.natAbs*b.natAbs)=a*b:=by
 unfold ck
 grind
def mB {s:Int} {w:AV} {l:List Nat} (h:bJ w l) (hp:Hp):result hp (.agg [aa s,w])=some (.agg [aa s,w]):=by
 rcases h with ⟨rfl,_⟩ | ⟨e,rfl⟩<;>rfl
def dS {s:Int} {w:AV} {l:List Nat} (h:bJ w l) (hp:Hp) (ct id:Nat) (x y:AV):eM hp ct id 0 2 [.int .i64 s,w] (some (.cells true true true 2 [x,y]))=some (.ap [],aW hp id (.cells true true true 2 [.int .i64 s,w]),ct):=de rfl h.one rfl h.pu
def cN.az {s:Int} {w:AV} {z:Int} (h:cN s w z):∃l,bJ w l:=by
 rcases h with ⟨rfl,_⟩ | ⟨e,l,rfl,_⟩
 ·exact ⟨[],sQ⟩
 ·exact ⟨l,mT e l⟩
def afd (hp:Hp) (sz:Nat) (ag:Bool):AV->Option AV
 | .ptr id o=>P2 sz ag o (ak hp id)
 | .aI cs=>dO sz ag cs
 | _=>none
def dc (tm:Env) (hp:Hp) (ct base i sz:Nat) (ag:Bool):results1 ⟨tm,hp,ct,base⟩ (.cell i sz ag)=afd hp sz ag (af tm i):=by
 rfl
def dd (hp:Hp) (sz:Nat) (ag:Bool) (id o:Nat):afd hp sz ag (.ptr id o)=P2 sz ag o (ak hp id):=rfl
section
variable {P:aG} {L:Lib}
def Fz (h:Nu P L) {v:AV} {z:Int} (hv:cL v z):ae P L 146 [v] (aa (cf z)):=by
 obtain ⟨s,w,rfl,hn⟩:=hv;obtain ⟨l,hu⟩:=hn.az;have e:cf s=cf z:=by
  obtain ⟨h1,h2,_⟩:=hn.cf;unfold cf;by_cases h0:z<0
  ·rw [yI h0,yI (h1.2 h0)]
  ·by_cases h3:z=0
   ·rw [yB (fun h=>h0 (h1.1 h)),yI (h2.2 h3),yB h0,yI h3]
   ·rw [yB (fun h=>h0 (h1.1 h)),yB (fun h=>h3 (h2.1 h)),yB h0,yB h3]
 unfold ae;rw [av h.oX];simp only [go_sem,ya,yb,zK,aB,hu.pu,hu.one,aV,yd,SM,EP,RX,Ei,adt,e]
def FA (h:Nu P L) {v:AV} {z:Int} {K:Nat} (hv:cL v z) (hz:Bd K z) (hK:K<=90000000000):∃r,ae P L 147 [v] r/\cL r (-z):=by
 obtain ⟨s,w,rfl,hn⟩:=hv;obtain ⟨p,e1,hp⟩:=zU h hn;obtain ⟨lp,ij,_⟩:=hp.az;obtain ⟨r,e2,hr⟩:=Dj h (!decide (z<0)) hp (yN hz (zm K)) hK;rw [anT] at hr;have bX:=hr;obtain ⟨s',w',rfl,kF⟩:=hr;obtain ⟨l',jo⟩:=kF.az;rcases hn with ⟨rfl,rfl,h1,h2⟩ | ⟨e,l0,rfl,g,n,hb,hs,h1⟩
 ·by_cases h0:s= -9223372036854775808
  ·refine ⟨_,?_,bX⟩;unfold ae;rw [av h.rP];simp only [go_sem,ya,yb,rJ,aB,aV,yd,bU,gS,cQ,h0];rw [h0] at e1 e2;simp only [go_sem,ya,bZ,aZ,e1,e2,ij.ah,bl,dc,dd,bZ,yj,mB jo,dS jo]
  ·refine ⟨.agg [aa (-s),.ab],?_,cN.oE (by omega) (by omega)⟩;unfold ae;rw [av h.rP]
   simp only [go_sem,ya,yb,rJ,aB,aV,yd,bU,gS,cQ,h0,wrap64 (n:=0-s) (by omega) (by omega),jw,rm];rw [Int.zero_sub];rfl
 ·refine ⟨_,?_,bX⟩;unfold ae;rw [av h.rP];simp only [go_sem,ya,yb,rJ,aB,aV,yd,bU,nH,cQ,bZ,aZ,e1,e2,ij.ah,bl,dc,dd,bZ,yj,mB jo,dS jo]
def af1 (h:Nu P L) {v:AV} {z:Int} {K:Nat} (hv:cL v z) (hz:Bd K z) (hK:K<=90000000000):∃r,ae P L 163 [v] r/\cL r (z.natAbs:Nat):=by
 have eL:=hv;obtain ⟨s,w,rfl,hn⟩:=hv;obtain ⟨l,hu⟩:=hn.az;have Gc:=hn.cf.1;by_cases h0:z<0
 ·obtain ⟨r,e1,hr⟩:=FA h eL hz hK;rw [show -z=(z.natAbs:Int) by omega] at hr;have bX:=hr;obtain ⟨s',w',rfl,kF⟩:=hr;obtain ⟨l',jo⟩:=kF.az;refine ⟨_,?_,bX⟩;unfold ae;rw [av h.Dc];simp only [go_sem,ya,yb,zL,aB,hu.pu,hu.ah,hu.one,aV,yd,Gc.2 h0,bZ,aZ,e1,bl,dc,dd,bZ,yj,mB jo,dS jo]
 ·rw [show ((z.natAbs:Nat):Int)=z by omega];refine ⟨_,?_,eL⟩;unfold ae;rw [av h.Dc];simp only [go_sem,ya,yb,zL,aB,hu.pu,hu.one,aV,yd,show ¬s<0 from fun h=>h0 (Gc.1 h),bZ,dc,dd,bZ,yj,mB hu,dS hu]
def asB (h:Nu P L) {s1 s2:Int} {w1 w2:AV} {a b:Int} {K:Nat} (ha:cN s1 w1 a) (hb:cN s2 w2 b) (ka:Bd K a) (kb:Bd K b) (hK:K<=40000000000):
  ∃r,cL r (a+b)/\∀tm,af tm 2= .ptr 0 0->af tm 3= .ptr 1 0->af tm 4= .ptr 2 0->fJ [.cell 4 2 true] (D P L (ax (ax c119.body)) ⟨tm,[(2,.cells true true true 2 [.int .i64 0,.ab]),(1,.cells true true true 2 [aa s2,w2]),(0,.cells true true true 2 [aa s1,w1])],3,0⟩)=some r:=by
 obtain ⟨l1,u1⟩:=ha.az;obtain ⟨l2,u2⟩:=hb.az;obtain ⟨p,e1,hp⟩:=zU h ha;obtain ⟨q,e2,hq⟩:=zU h hb;obtain ⟨lp,ij,gp,np,vp⟩:=hp.az;obtain ⟨lq,om,gq,nq,vq⟩:=hq.az;have B3:=yN ka (zm K);have Gd:=yN kb (zm K);have llp:lp.length<=40000000000:=xj (nR np vp B3) hK;have llq:lq.length<=40000000000:=xj (nR nq vq Gd) hK;by_cases hs:decide (a<0)=decide (b<0)
 ·obtain ⟨o,ns,e3,ho,nn,no,vo⟩:=avz h.avK h.mI h.gT ij om gp gq (by omega) (by omega);obtain ⟨r,e4,hr⟩:=Dj h (decide (a<0)) ⟨ns,ho,nn,no,vo⟩ (K:=K+1) (by rw [vp,vq,xg];omega) (by omega);rw [anS vp.symm vq.symm hs] at hr;have bX:=hr;obtain ⟨s',w',rfl,kF⟩:=hr;obtain ⟨l',jo⟩:=kF.az;refine ⟨_,bX,fun tm t2 t3 t4=>?_⟩;simp only [go_sem,ya,c119,ax,t2,t3,bZ,aZ,u1.ah,u2.ah,e1,e2,ij.ah,om.ah,cQ,oS,hs,uh];rw [hs] at e4;simp only [go_sem,ya,t4,e3,ho.ah,ho.shut,e4,bl,dc,dd,bZ,yj,mB jo,dS jo]
 ·have La:(decide (a<0)==decide (b<0))=false:=by simpa using hs
  have e3:=afL h.afW ij om gp gq np nq (by omega) (by omega);rw [vp,vq] at e3;by_cases hc:b.natAbs<=a.natAbs
  ·obtain ⟨o,ns,e4,ho,nn,no,vo⟩:=afM h.afX h.mI h.rQ ij om gp gq nq (by omega) (by rw [vp,vq];exact hc)
   rw [vp,vq] at vo;obtain ⟨r,e5,hr⟩:=Dj h (decide (a<0)) ⟨ns,ho,nn,no,rfl⟩ (K:=K) (by omega) (by omega);rw [aaO vo hs] at hr;have bX:=hr;obtain ⟨s',w',rfl,kF⟩:=hr;obtain ⟨l',jo⟩:=kF.az;have eh:(0:Int)<=eb a.natAbs b.natAbs:=by unfold eb;rw [yB (by omega)];split<;>decide
   refine ⟨_,bX,fun tm t2 t3 t4=>?_⟩;simp only [go_sem,ya,c119,ax,t2,t3,t4,bZ,aZ,u1.ah,u2.ah,e1,e2,ij.ah,om.ah,cQ,oS,La,e3,eh,e4,ho.ah,ho.shut,e5,bl,dc,dd,bZ,yj,mB jo,dS jo]
  ·obtain ⟨o,ns,e4,ho,nn,no,vo⟩:=afM h.afX h.mI h.rQ om ij gq gp np (by omega) (by rw [vp,vq];omega);rw [vp,vq] at vo;obtain ⟨r,e5,hr⟩:=Dj h (decide (b<0)) ⟨ns,ho,nn,no,rfl⟩ (K:=K) (by omega) (by omega);rw [aaO vo (fun e=>hs e.symm),Int.add_comm] at hr;have bX:=hr;obtain ⟨s',w',rfl,kF⟩:=hr;obtain ⟨l',jo⟩:=kF.az;have eh:¬(0:Int)<=eb a.natAbs b.natAbs:=by unfold eb;rw [yI (by omega)];decide
   refine ⟨_,bX,fun tm t2 t3 t4=>?_⟩;simp only [go_sem,ya,c119,ax,t2,t3,t4,bZ,aZ,u1.ah,u2.ah,e1,e2,ij.ah,om.ah,cQ,oS,La,e3,eh,e4,ho.ah,ho.shut,e5,bl,dc,dd,bZ,yj,mB jo,dS jo]
def J4 (h:Nu P L) {v w:AV} {a b:Int} {K:Nat} (hv:cL v a) (hw:cL w b) (ka:Bd K a) (kb:Bd K b) (hK:K<=40000000000):∃r,ae P L 119 [v,w] r/\cL r (a+b):=by
 obtain ⟨s1,w1,rfl,h1⟩:=hv;obtain ⟨s2,w2,rfl,h2⟩:=hw;obtain ⟨l2,u2⟩:=h2.az;obtain ⟨r,hr,tail⟩:=asB h h1 h2 ka kb hK;have fin:∀tm,af tm 2= .ptr 0 0->af tm 3= .ptr 1 0->af tm 4= .ptr 2 0->
   D P L (.seq (bC c119.body) (bC (ax c119.body))) ⟨[(0,.agg [aa s1,w1]),(1,.agg [aa s2,w2])],[],0,0⟩=some (.normal,⟨tm,[(2,.cells true true true 2 [.int .i64 0,.ab]),(1,.cells true true true 2 [aa s2,w2]),(0,.cells true true true 2 [aa s1,w1])],3,0⟩)->ae P L 119 [.agg [aa s1,w1],.agg [aa s2,w2]] r:=fun tm t2 t3 t4 e=>by
  unfold ae;rw [av h.af0];show fJ [.cell 4 2 true] (D P L (.seq (bC c119.body) (.seq (bC (ax c119.body)) (ax (ax c119.body)))) ⟨[(0,.agg [aa s1,w1]),(1,.agg [aa s2,w2])],[],0,0⟩)=_
  have e2:D P L (.seq (bC c119.body) (.seq (bC (ax c119.body)) (ax (ax c119.body)))) ⟨[(0,.agg [aa s1,w1]),(1,.agg [aa s2,w2])],[],0,0⟩=mA P L (D P L (.seq (bC c119.body) (bC (ax c119.body))) ⟨[(0,.agg [aa s1,w1]),(1,.agg [aa s2,w2])],[],0,0⟩) (ax (ax c119.body)):=by
   rw [iK,iK]
   cases D P L (bC c119.body) ⟨[(0,.agg [aa s1,w1]),(1,.agg [aa s2,w2])],[],0,0⟩ with
   | none=>rfl
   | some q=>
    obtain ⟨ex,st⟩:=q
    cases ex with
    | normal=>rw [fu,fu,iK]
    | ret=>rfl
    | exit id=>rfl
  rw [e2,e,fu];exact tail tm t2 t3 t4
 rcases h1 with ⟨rfl,rfl,a1,a2⟩ | ⟨e,l,rfl,ga,na,va,sa,a1⟩
 ·rcases h2 with ⟨rfl,rfl,b1,b2⟩ | ⟨e,l,rfl,gb,nb,vb,sb,b1⟩
  ·by_cases ik: -9223372036854775808<=s1+s2/\s1+s2<9223372036854775808
   ·refine ⟨.agg [aa (s1+s2),.ab],?_,cN.oE ik.1 ik.2⟩;have e:decide (s1<s1+s2)=decide (0<s2):=by
     by_cases h:0<s2
     ·simp only [h,yq];exact xh (by omega)
     ·simp only [h,yo];exact yR (by omega)
    unfold ae;rw [av h.af0]
    simp only [go_sem,ya,yb,c119,aB,jw,gS,cQ,oS,aV,yd,bU,wrap64 (n:=s1+s2) ik.1 ik.2,e,uh,rm];rfl
   ·have e:(decide (s1<IntKind.wrap .i64 (s1+s2))==decide (0<s2))=false:=by
     have hw:(9223372036854775808<=s1+s2/\IntKind.wrap .i64 (s1+s2)=s1+s2-18446744073709551616)\/(s1+s2< -9223372036854775808/\IntKind.wrap .i64 (s1+s2)=s1+s2+18446744073709551616):=by
      simp only [IntKind.wrap,IntKind.bits,IntKind.signed,wA]
      split<;>rename_i h<;>simp at h<;>omega
     by_cases h0:0<s2
     ·rw [xh h0,yR (by omega)];rfl
     ·rw [yR h0,xh (by omega)];rfl
    refine ⟨r,fin _ ?_ ?_ ?_ (by simp only [go_sem,ya,yb,bC,ax,c119,aB,gS,cQ,oS,aV,yd,bU,e]<;>rfl),hr⟩<;>simp only [go_sem,ya]
  ·refine ⟨r,fin _ ?_ ?_ ?_ (by simp only [go_sem,ya,yb,bC,ax,c119,aB,gS,nH,cQ,aV,yd,bU]<;>rfl),hr⟩<;>simp only [go_sem,ya]
 ·refine ⟨r,fin _ ?_ ?_ ?_ (by simp only [go_sem,ya,yb,bC,ax,c119,aB,u2.pu,u2.one,nH,cQ,aV,yd,bU]<;>rfl),hr⟩<;>simp only [go_sem,ya]
end
end
section
open Go (IntKind)
def Cr {P:aG} {L:Lib} (a b c:VC) (s:St):D P L (.seq a (.seq b c)) s=mA P L (D P L (.seq a b) s) c:=by
 rw [iK,iK]
 cases D P L a s with
 | none=>rfl
 | some q=>
  obtain ⟨ex,st⟩:=q
  cases ex with
  | normal=>rw [fu,fu,iK]
  | ret=>rfl
  | exit id=>rfl
def adE {s s':Int} {w w':AV} {l l':List Nat} (h:bJ w l) (h':bJ w' l') (hp:Hp):result hp (.ap [.agg [aa s,w],.agg [aa s',w']])=some (.ap [.agg [aa s,w],.agg [aa s',w']]):=by
 rcases h with ⟨rfl,_⟩ | ⟨e,rfl⟩<;>rcases h' with ⟨rfl,_⟩ | ⟨e',rfl⟩<;>rfl
def OR (tm:Env) (hp:Hp) (ct:Nat) (rs:List (Nat×Bool×Nat)) (sz:Nat) (p:AV) (new:List AV):gD:=match p with | .ptr id o=>bif oK tm id rs then eM hp ct id o sz new (ak hp id) else none | _=>none
def OS (id:Nat):AV->Bool | .ptr j _=> !Nat.beq j id | .aI _=>true | _=>false
def Nb {P:aG} {L:Lib} (f:cK) (tm:Env) (hp:Hp) (ct:Nat) (rs:List (Nat×Bool×Nat)) (sz:Nat) (x v:X):bw P L f tm hp ct (.jA rs sz x v)=OR tm hp ct rs sz (aA tm x) (cellsOf (aA tm v)):=by
 simp only [bw,OR]
 cases hx:aA tm x with
 | ptr id o=>
  rw [aaD,hx,ae2]
 | _=>rfl
def Nc {tm:Env} {hp:Hp} {ct:Nat} {rs:List (Nat×Bool×Nat)} {sz id o:Nat} {new:List AV} (h:oK tm id rs=true):OR tm hp ct rs sz (.ptr id o) new=eM hp ct id o sz new (ak hp id):=by
 simp only [OR,h,ym]
def MT (tm:Env) (id:Nat):oK tm id []=true:=(rfl)
def Mw (tm:Env) (id sz x:Nat) (ag:Bool) (r:List (Nat×Bool×Nat)):oK tm id ((sz,ag,x)::r)=(OS id (af tm x)&&oK tm id r):=by
 simp only [oK,OS]
 grind
def Nf {id j o:Nat} (h:j≠id):OS id (.ptr j o)=true:=by simp only [OS,cG h,yF]
section
variable {P:aG} {L:Lib}
def af2 (h:Nu P L) {v w:AV} {a b:Int} {K:Nat} (hv:cL v a) (hw:cL w b) (ka:Bd K a) (kb:Bd K b) (hK:K<=40000000000):∃r,ae P L 156 [v,w] r/\cL r (a-b):=by
 obtain ⟨n,e1,hn⟩:=FA h hw kb (by omega);obtain ⟨r,e2,hr⟩:=J4 h hv hn ka kb.neg hK;have bX:=hr;obtain ⟨s1,w1,rfl,h1⟩:=hv;obtain ⟨s2,w2,rfl,h2⟩:=hw;obtain ⟨s3,w3,rfl,h3⟩:=hn;obtain ⟨s4,w4,rfl,h4⟩:=hr;obtain ⟨l1,u1⟩:=h1.az;obtain ⟨l2,u2⟩:=h2.az;obtain ⟨l3,u3⟩:=h3.az;obtain ⟨l4,u4⟩:=h4.az;refine ⟨_,?_,bX⟩;unfold ae;rw [av h.avV];simp only [go_sem,ya,yb,TX,aB,u1.pu,u1.ah,u1.one,u2.pu,u2.ah,u2.one,u3.ah,aZ,e1,e2,bl,dc,dd,bZ,yj,mB u4,dS u4]
def af3 (h:Nu P L) {v w:AV} {a b:Int} {K:Nat} (hv:cL v a) (hw:cL w b) (ka:Bd K a) (kb:Bd K b) (hK:K<=40000000000):ae P L 118 [v,w] (aa (cf (a-b))):=by
 obtain ⟨d,e1,hd⟩:=af2 h hv hw ka kb hK;have e2:=Fz h hd;obtain ⟨s1,w1,rfl,h1⟩:=hv;obtain ⟨s2,w2,rfl,h2⟩:=hw;obtain ⟨s3,w3,rfl,h3⟩:=hd;obtain ⟨l2,u2⟩:=h2.az;obtain ⟨l3,u3⟩:=h3.az;unfold ae;rw [av h.avU];rcases h1 with ⟨rfl,rfl,a1,a2⟩ | ⟨e,l,rfl,ga,na,va,sa,a1⟩
 ·rcases h2 with ⟨rfl,rfl,b1,b2⟩ | ⟨e,l,rfl,gb,nb,vb,sb,b1⟩
  ·by_cases c1:s1<s2
   ·rw [show cf (s1-s2)= -1 by unfold cf;rw [yI (by omega)]];simp only [go_sem,ya,yb,C4,aB,gS,cQ,aV,yd,bU,c1]
   ·by_cases c2:s2<s1
    ·rw [show cf (s1-s2)=1 by unfold cf;rw [yB (by omega),yB (by omega)]];simp only [go_sem,ya,yb,C4,aB,gS,cQ,aV,yd,bU,c1,c2]
    ·rw [show cf (s1-s2)=0 by unfold cf;rw [yB (by omega),yI (by omega)]];simp only [go_sem,ya,yb,C4,aB,gS,cQ,aV,yd,bU,c1,c2]
  ·simp only [go_sem,ya,yb,C4,aB,gS,nH,cQ,aV,yd,bU,bZ,aZ,e1,e2,u3.ah,bl]
 ·simp only [go_sem,ya,yb,C4,aB,u2.pu,u2.ah,u2.one,nH,cQ,aV,yd,bU,bZ,aZ,e1,e2,u3.ah,bl]
def asC (h:Nu P L) {s1 s2:Int} {w1 w2:AV} {a b:Int} {K:Nat} (ha:cN s1 w1 a) (hb:cN s2 w2 b) (ka:Bd K a) (kb:Bd K b) (hK:K<=40000000000):
  ∃r,cL r (a*b)/\∀tm,af tm 2= .ptr 0 0->af tm 3= .ptr 1 0->af tm 4= .ptr 2 0->fJ [.cell 4 2 true] (D P L (ax (ax mG.body)) ⟨tm,[(2,.cells true true true 2 [.int .i64 0,.ab]),(1,.cells true true true 2 [aa s2,w2]),(0,.cells true true true 2 [aa s1,w1])],3,0⟩)=some r:=by
 obtain ⟨l1,u1⟩:=ha.az;obtain ⟨l2,u2⟩:=hb.az;obtain ⟨p,e1,hp⟩:=zU h ha;obtain ⟨q,e2,hq⟩:=zU h hb;obtain ⟨lp,ij,gp,np,vp⟩:=hp.az;obtain ⟨lq,om,gq,nq,vq⟩:=hq.az;have B3:=yN ka (zm K);have Gd:=yN kb (zm K);have llp:lp.length<=40000000000:=xj (nR np vp B3) hK;have llq:lq.length<=40000000000:=xj (nR nq vq Gd) hK;obtain ⟨o,ns,e3,ho,nn,no,vo⟩:=avC h.avL h.mI h.mJ h.gT ij om gp gq (by omega) (by omega);obtain ⟨r,e4,hr⟩:=Dj h (decide (a<0) !=decide (b<0)) ⟨ns,ho,nn,no,vo⟩ (K:=K+K) (by rw [vp,vq,wC];exact yah B3 Gd) (by omega)
 rw [vp,vq,aaP] at hr;have bX:=hr;obtain ⟨s',w',rfl,kF⟩:=hr;obtain ⟨l',jo⟩:=kF.az;refine ⟨_,bX,fun tm t2 t3 t4=>?_⟩;have sd:∀x y:Bool,JR true (some (x==y))=some (.bool (x !=y)):=fun x y=>by cases x<;>cases y<;>rfl
 simp only [go_sem,ya,mG,ax,t2,t3,t4,bZ,aZ,u1.ah,u2.ah,e1,e2,ij.ah,om.ah,oS,sd,e3,ho.ah,ho.shut,e4,bl,dc,dd,bZ,yj,mB jo,dS jo]
def anU {a b:Int} {m:Nat} (h:a.natAbs*b.natAbs=m):a*b=if (decide (a<0)==decide (b<0))=true then (m:Int) else 0-(m:Int):=by
 have:=aaP (a:=a) (b:=b)
 rw [h] at this;unfold ck at this
 cases hd:(decide (a<0)==decide (b<0)) with
 | true=>simp only [bne,hd,Bool.not_true,Bool.false_eq_true,yO] at this;exact this.symm
 | false=>simp only [bne,hd,yF,y5] at this;rw [yB (by decide)];omega
def rS (h:Nu P L) {v w:AV} {a b:Int} {K:Nat} (hv:cL v a) (hw:cL w b) (ka:Bd K a) (kb:Bd K b) (hK:K<=40000000000):∃r,ae P L 100 [v,w] r/\cL r (a*b):=by
 obtain ⟨s1,w1,rfl,h1⟩:=hv;obtain ⟨s2,w2,rfl,h2⟩:=hw;obtain ⟨l1,u1⟩:=h1.az;obtain ⟨l2,u2⟩:=h2.az;obtain ⟨r,hr,tail⟩:=asC h h1 h2 ka kb hK;have fin:∀tm,af tm 2= .ptr 0 0->af tm 3= .ptr 1 0->af tm 4= .ptr 2 0->
   D P L (.seq (bC mG.body) (bC (ax mG.body))) ⟨[(0,.agg [aa s1,w1]),(1,.agg [aa s2,w2])],[],0,0⟩=some (.normal,⟨tm,[(2,.cells true true true 2 [.int .i64 0,.ab]),(1,.cells true true true 2 [aa s2,w2]),(0,.cells true true true 2 [aa s1,w1])],3,0⟩)->ae P L 100 [.agg [aa s1,w1],.agg [aa s2,w2]] r:=fun tm t2 t3 t4 e=>by
  unfold ae;rw [av h.OQ];show fJ [.cell 4 2 true] (D P L (.seq (bC mG.body) (.seq (bC (ax mG.body)) (ax (ax mG.body)))) ⟨[(0,.agg [aa s1,w1]),(1,.agg [aa s2,w2])],[],0,0⟩)=_
  rw [Cr,e,fu];exact tail tm t2 t3 t4
 rcases h1 with ⟨rfl,rfl,a1,a2⟩ | ⟨e,l,rfl,ga,na,va,sa,a1⟩
 ·rcases h2 with ⟨rfl,rfl,b1,b2⟩ | ⟨e,l,rfl,gb,nb,vb,sb,b1⟩
  ·have f1:=UD h a1 a2;have f2:=UD h b1 b2;have f3:=M9 (P:=P) (f:=D P L) h.mJ (x:=s1.natAbs) (y:=s2.natAbs) (by omega) (by omega);obtain ⟨m,hm⟩:∃m,s1.natAbs*s2.natAbs=m:=⟨_,rfl⟩;rw [hm] at f3;have n5:=anU hm;by_cases ik:m<=9223372036854775807
   ·rw [wH (by omega),yP (by omega)] at f3;rw [show (uc 0)=AV.int .u64 0 from rfl] at f3;by_cases hs:(decide (s1<0)==decide (s2<0))=true
    ·rw [yI hs] at n5;refine ⟨.agg [aa (m:Int),.ab],?_,by rw [n5];exact cN.oE (by omega) (by omega)⟩
     unfold ae;rw [av h.OQ]
     simp only [go_sem,ya,yb,mG,aB,jw,gS,cQ,IU,oS,aV,yd,bU,f1,f2,f3,show (m:Int)<=9223372036854775807 by omega,hs,M8,wrap64 (n:=(m:Int)) (by omega) (by omega),rm];rfl
    ·rw [yB hs] at n5;refine ⟨.agg [aa (0-(m:Int)),.ab],?_,by rw [n5];exact cN.oE (by omega) (by omega)⟩
     unfold ae;rw [av h.OQ]
     simp only [go_sem,ya,yb,mG,aB,jw,gS,cQ,IU,oS,aV,yd,bU,f1,f2,f3,show (m:Int)<=9223372036854775807 by omega,hs,M8,wrap64 (n:=(m:Int)) (by omega) (by omega),wrap64 (n:=0-(m:Int)) (by omega) (by omega),rm];rfl
   ·by_cases qV:m/18446744073709551616=0
    ·rw [qV,yP (by omega)] at f3;rw [show (uc 0)=AV.int .u64 0 from rfl] at f3;refine ⟨r,fin _ ?_ ?_ ?_ (by simp only [go_sem,ya,yb,bC,ax,mG,aB,gS,cQ,aV,yd,bU,f1,f2,f3,show ¬(m:Int)<=9223372036854775807 by omega]<;>rfl),hr⟩<;>simp only [go_sem,ya]
    ·obtain ⟨q,hq⟩:∃q,q=m/18446744073709551616:=⟨_,rfl⟩;rw [<-hq] at f3 qV;refine ⟨r,fin _ ?_ ?_ ?_ (by simp only [go_sem,ya,yb,bC,ax,mG,aB,gS,cQ,aV,yd,bU,f1,f2,f3,show ¬(q:Int)=0 by omega]<;>rfl),hr⟩<;>simp only [go_sem,ya]
  ·refine ⟨r,fin _ ?_ ?_ ?_ (by simp only [go_sem,ya,yb,bC,ax,mG,aB,gS,nH,cQ,aV,yd,bU]<;>rfl),hr⟩<;>simp only [go_sem,ya]
 ·refine ⟨r,fin _ ?_ ?_ ?_ (by simp only [go_sem,ya,yb,bC,ax,mG,aB,u2.pu,u2.one,nH,cQ,aV,yd,bU]<;>rfl),hr⟩<;>simp only [go_sem,ya]
end
end
end VE
