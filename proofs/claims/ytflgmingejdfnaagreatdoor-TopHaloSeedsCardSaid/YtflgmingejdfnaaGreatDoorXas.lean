import Derived.Test.YtflgmingejdfnaaGreatDoorXar
set_option linter.all false
set_option maxRecDepth 100000
open Int renaming le_of_lt→vP,mul_add→vS,mul_le_mul_of_nonneg_left→wg,mul_nonneg→ve,natCast_add→wF,natCast_mul→xA,natCast_nonneg→ug,ofNat_eq_natCast→u9,ofNat_lt→vl,pow_pos→yaO,pow_succ→vO,tdiv_eq_ediv_of_nonneg→xu,tmod_eq_emod_of_nonneg→yT,toNat_natCast→wo
open Int.ofNat renaming inj→th
open List renaming append_assoc→xg,drop_drop→wV,drop_eq_getElem_cons→yO,drop_eq_nil_of_le→yZ,getD_eq_getElem?_getD→xk,getElem?_eq_getElem→xP,length_cons→yz,length_drop→wA,length_nil→y5,length_take→yK,replicate→yx,set_eq_of_length_le→uv,take_append_drop→xV,take_of_length_le→yI,take_set→uy
open Nat renaming add_zero→xS,div_add_mod→ud,div_lt_iff_lt_mul→uS,eq_zero_or_pos→xp,le_of_lt_succ→um,min_eq_left→xJ,mod_lt→vh,mul_add→xY,mul_comm→uR,mul_le_mul→xO,mul_le_mul_left→xq,mul_one→yh,mul_zero→vD,pow_succ→xy,reduceAdd→yc,reduceEqDiff→ya,reduceLT→yj,zero_add→yy
namespace VE
section
open Go (IntKind)
def adU (i:Nat) (q:List Int) (x:Int):(yx (i+1) (0:Int)++q).set i x=yx i 0++x::q:=by
 rw [List.replicate_succ',xg,List.set_append_right _ _ (by simp)]
 simp
section
variable {P:aA} {L:Lib}
def agC {v:AV} {a:List Int} (hv:aX v a) (ha:dg a) (la:a.length<=20000000000) {d:Nat} (h0:0<d) (h1:d<1000000000):
  ∀k s,(∃(j r:Nat) (q:List Int),bw [0,1,6,7,8] s=⟨[(0,v),(1,aa d),(6,.aq 0 0 a.length),(7,aa r),(8,aa ((j:Int)-1))],[(0,.cells true true true 1 ((yx j (0:Int)++q).map aa))],1,0⟩/\j=k/\j+q.length=a.length/\r<d/\dg q/\dv (a.drop j)=d*dv q+r)->
   ∃ex s',D P L (.loop [0,1,6,7,8] Bw) s=some (ex,s')/\∃tm r q,s'=⟨tm,[(0,.cells true true true 1 (q.map aa))],1,0⟩/\ex= .exit 0/\ah tm 6= .aq 0 0 a.length/\ah tm 7=aa (r:Nat)/\q.length=a.length/\r<d/\dg q/\dv a=d*dv q+r:=by
 refine cG (I:=fun k s=>∃(j r:Nat) (q:List Int),s=⟨[(0,v),(1,aa d),(6,.aq 0 0 a.length),(7,aa r),(8,aa ((j:Int)-1))],[(0,.cells true true true 1 ((yx j (0:Int)++q).map aa))],1,0⟩/\j=k/\j+q.length=a.length/\r<d/\dg q/\dv (a.drop j)=d*dv q+r)
  (Q:=fun ex s'=>∃tm r q,s'=⟨tm,[(0,.cells true true true 1 (q.map aa))],1,0⟩/\ex= .exit 0/\ah tm 6= .aq 0 0 a.length/\ah tm 7=aa (r:Nat)/\q.length=a.length/\r<d/\dg q/\dv a=d*dv q+r) ?_
 rintro k s ⟨j,r,q,rfl,rfl,hl,hr,hd,bC⟩
 cases j with
 | zero=>
  right
  simp only [go_sem,ya,Bw,show ¬(0:Int)<=((0:Nat):Int)-1 by omega];exact ⟨_,_,rfl,by simp,_,r,q,rfl,rfl,by simp only [go_sem,ya],by simp only [go_sem,ya],by omega,hr,hd,bC⟩
 | succ i=>
  left
  have hi:i<a.length:=by omega
  obtain ⟨x,hx⟩:∃x,x=a.getD i 0:=⟨_,rfl⟩;have e1:=lK hv hi;have gx:=gb ha i;rw [<-hx] at e1 gx;obtain ⟨t,ht⟩:∃t:Nat,t=r*1000000000+x.toNat:=⟨_,rfl⟩;have og:(r:Int)*1000000000+x=(t:Int):=by omega
  have iH:t<d*1000000000:=by
   omega
  have ja:t/d<1000000000:=(uS h0).2 (by rw [uR];exact iH)
  have bG:t%d<d:=vh _ h0;have e2:((t:Nat):Int).tdiv d=((t/d:Nat):Int):=by rw [xu (by omega)];rfl
  have e3:((t:Nat):Int).tmod d=((t%d:Nat):Int):=by rw [yT (by omega)];rfl
  have VJ:(yx (i+1) (0:Int)++q).length=a.length:=by simp;omega
  have aQ:=fun (hp:Hp) (ct id:Nat) (ex:Bool)=>p7 (hp:=hp) (ct:=ct) (id:=id) (ex:=ex) (v:=((t/d:Nat):Int)) (l:=yx (i+1) (0:Int)++q) (o:=i) (by rw [VJ];exact hi)
  simp only [adU] at aQ
  simp only [go_sem,ya,yh,Bw,show ((i+1:Nat):Int)-1=(i:Int) by omega,show (0:Int)<=(i:Int) by omega,wrap64 (n:=(r:Int)*1000000000) (by omega) (by omega),e1,og,wrapN (n:=t) (by omega),er _ _ _ (show (d:Int)≠0 by omega),dw _ _ _ (show (d:Int)≠0 by omega),e2,e3,wrapN (n:=t/d) (by omega),fL 0 0 (show i<a.length from hi),yy,aQ]
  refine ⟨_,i,rfl,by omega,i,t%d,((t/d:Nat):Int)::q,?_,rfl,by simp;omega,bG,(fc (a:=[((t/d:Nat):Int)]) (b:=q)).2 ⟨iP.2 ⟨ug _,vl.2 ja⟩,hd⟩,?_⟩
  ·rw [wrap64 (by omega) (by omega)];simp only [go_sem,ya,yc,aJ,aP hv.pu,aS _ hv.pu]<;>rfl
  ·have iJ:a.drop i=x::a.drop (i+1):=by
    rw [yO hi,hx];simp [xk,xP hi]
   rw [iJ];simp only [dv,bC,wo];have e:=ud t d;rw [xY,xY d,Nat.mul_left_comm 1000000000 d];omega
def Ut (h:Has P L 299 pw) (cU:Has P L 300 jn) {v:AV} {a:List Int} (hv:aX v a) (ha:dg a) (la:a.length<=20000000000) {d:Nat} (h0:0<d) (h1:d<1000000000):
  ∃r q,an P L 299 [v,aa d] (.ay [r,aa (dv a%d:Nat)])/\aX r q/\shut r=r/\bg r=r/\dg q/\nz q/\dv q=dv a/d:=by
 obtain ⟨n,hn⟩:∃n,n=a.length:=⟨_,rfl⟩;have bW:∀ct:Nat,py ct 1 8 [.int .i64 0] (some n) (some n)=some (.aq ct 0 n,.cells true true true 1 ((yx n (0:Int)).map aa)):=fun ct=>by
  rw [By (sz:=1) (by omega) (by omega) (by rfl) (by rfl),Hk];rfl
 unfold an;rw [aT h];simp only [go_sem,ya,yc,pw,hv.len,<-hn,bW];generalize hq:D P L (.loop [0,1,6,7,8] Bw) _=q;obtain ⟨ex,s,rfl,tm,r,qs,rfl,rfl,t6,t7,hlen,hr,hd,bC⟩:=cm hq (agC (P:=P) (L:=L) hv ha la h0 h1 a.length) ⟨a.length,0,[],by
  rw [wrap64 (by omega) (by omega),List.append_nil,<-hn]
  simp only [go_sem,ya,yc,aJ,aP hv.pu,aS _ hv.pu]<;>rfl,rfl,by simp,h0,rfl,by rw [yZ (Nat.le_refl _)];simp [dv]⟩
 have jQ:=fM true qs;rw [hlen] at jQ;obtain ⟨w,e1,hw,mc⟩:=zP cU jQ (by omega);have jW:dv a/d=dv qs/\dv a%d=r:=(Nat.div_mod_unique h0).2 ⟨by omega,hr⟩;refine ⟨w,di qs,?_,hw,mc,hw.bg,qG hd,A9 qs,by rw [qF,jW.1]⟩;have iL:∀hp:Hp,kI 0 a.length (some (true,1,qs.map aa,hp))=some (.aC true a.length (qs.map aa),hp):=fun hp=>jz true (by simp [hlen]) (by decide)
 rw [jW.2];simp only [go_sem,ya,yc,aJ,t6,t7,iL,e1,mc];rcases hw with ⟨rfl,_⟩ | ⟨e,rfl⟩<;>rfl
end
end
section
open Go (IntKind)
section
variable {P:aA} {L:Lib}
def PO {l:List Int} (hd:dg l) (hn:nz l) (h:dv l<1000000000):l.length<=1:=iv hd hn (by simpa using h)
def ajr (h:Has P L 289 mJ) (mK:Has P L 296 nS) (kM:Has P L 299 pw) (cU:Has P L 300 jn) {v w:AV} {a b:List Int} (hv:aX v a) (hw:aX w b) (ha:dg a) (hb:dg b) (na:nz a) (nb:nz b) (la:a.length<=20000000000) (lb:b.length<=1) (h0:0<dv b):
  ∃q r lq lr,an P L 289 [v,w] (.ay [q,r])/\aX q lq/\aX r lr/\dg lq/\nz lq/\dg lr/\nz lr/\dv lq=dv a/dv b/\dv lr=dv a%dv b:=by
 have ec:=Uq mK hv hw ha hb na nb la (by omega);by_cases hc:dv a<dv b
 ·have gS:iC (dv a) (dv b)= -1:=by unfold iC;rw [yS hc]
  rw [gS] at ec;refine ⟨.ab,v,[],a,?_,oP,hv,rfl,rfl,ha,na,?_,?_⟩
  ·unfold an;rw [aT h];simp only [go_sem,ya,mJ,hv.aE,hw.aE,ec,show (-1:Int)<0 by decide];rcases hv with ⟨rfl,_⟩ | ⟨e,rfl⟩<;>rfl
  ·rw [Nat.div_eq_of_lt hc];rfl
  ·rw [Nat.mod_eq_of_lt hc]
 ·have gS:¬iC (dv a) (dv b)<0:=by unfold iC;rw [yD hc];split<;>decide
  have kU:b.length=1:=by
   rcases xp b.length with e | e
   ·rw [List.eq_nil_of_length_eq_zero e] at h0;simp [dv] at h0
   ·omega
  obtain ⟨x,rfl⟩:∃x,b=[x]:=by
   cases b with
   | nil=>simp at kU
   | cons x r=>cases r with
    | nil=>exact ⟨x,rfl⟩
    | cons y r=>simp at kU
  have gx:=iP.1 hb;obtain ⟨d,hd⟩:∃d:Nat,x=d:=⟨x.toNat,by omega⟩;subst hd;have hdd:dv [((d:Nat):Int)]=d:=by simp [dv]
  rw [hdd] at h0 hc gS ec ⊢;obtain ⟨q,lq,e1,hq,hqs,ajs,dq,nq,vq⟩:=Ut kM cU hv ha la h0 (by omega);have amH:dv a%d<d:=vh _ h0;generalize dv a%d=m at*
  obtain ⟨r,e2,hr,Ak⟩:=zP cU (fM true [(m:Int)]) (by simp);refine ⟨q,r,lq,di [(m:Int)],?_,hq,hr,dq,nq,qG (iP.2 (by omega)),A9 _,vq,by rw [qF];simp [dv]⟩;have e3:=hw.a7 (i:=0) (by simp);simp only [yz,y5,yy,List.map_cons,List.map_nil,List.getElem_cons_zero] at e2 e3;unfold an;rw [aT h];simp only [go_sem,ya,yc,yj,Nat.reduceLeDiff,yh,mJ,hv.aE,hw.len,hw.aE,ec,gS,yz,y5,show ((1:Nat):Int)=(1:Int) from rfl,yE,e3,e1,ajs,e2,Ak];rcases hq with ⟨rfl,_⟩ | ⟨e,rfl⟩<;>rcases hr with ⟨rfl,_⟩ | ⟨e',rfl⟩<;>rfl
end
end
section
open Go (IntKind)
def sv:List Int->Int
 | []=>0
 | a::r=>a+1000000000*sv r
def Nw:∀(a b:List Int),sv (a++b)=sv a+1000000000^a.length*sv b
 | [],b=>by simp [sv]
 | x::a,b=>by
  simp only [List.cons_append,sv,Nw a b,yz,vO,vS]
  grind
def agD (x:Int):sv [x]=x:=by simp [sv]
def zg:∀{l:List Int} {i:Nat} {x:Int},i<l.length->sv (l.set i x)=sv l+1000000000^i*(x-l.getD i 0)
 | [],i,x,h=>by simp at h
 | a::l,0,x,_=>by simp [sv];omega
 | a::l,i+1,x,h=>by
  have ih:=zg (l:=l) (i:=i) (x:=x) (by simpa using h);simp only [List.set_cons_succ,sv,List.getD_cons_succ,ih,vO,vS]
  grind
def Eo {l:List Int} (i:Nat):sv (l.take (i+1))=sv (l.take i)+1000000000^i*l.getD i 0:=by
 by_cases h:i<l.length
 ·rw [List.take_succ_eq_append_getElem h,Nw,yK,xJ (by omega),agD]
  grind
 ·rw [yI (by omega),yI (by omega),abQ (by omega),Int.mul_zero,Int.add_zero]
def nL:∀{l:List Int},dg l->sv l=dv l
 | [],_=>rfl
 | a::l,h=>by
  obtain ⟨h1,h2⟩:=fc.1 (show dg ([a]++l) from h);have h1:=iP.1 h1;simp only [sv,dv,nL h2,wF,xA];omega
section
variable {pre x post:List Int} {i:Nat}
def jG:(pre++x++post).length=pre.length+x.length+post.length:=by grind
def o5 (h:i<x.length):(pre++x++post).getD (pre.length+i) 0=x.getD i 0:=by grind
def EB (a:Int) (h:i<x.length):(pre++x++post).set (pre.length+i) a=pre++x.set i a++post:=by simp_all
end
def RA {l:List Int} {i m:Nat} {x:Int} (h:i≠m):(l.set i x).getD m 0=l.getD m 0:=by simp_all
def ZP {l:List Int} {i:Nat} {x:Int} (h:i<l.length):(l.set i x).getD i 0=x:=by simp_all
abbrev H3 (q u:List Int) (f:Int):Hp:=[(2,.cells true true true 1 (q.map aa)),(1,.cells true true false 1 (u.map aa)),(0,.cells false true true 1 [aa f])]
def D6 {live:List Nat} {tm:Env} {ct:Nat} {a b c:List AV} (ht:gK 3 (cz tm live)) (hl:(dB (cz tm live)).length<100000):
  bw live ⟨tm,[(2,.cells true true true 1 a),(1,.cells true true false 1 b),(0,.cells false true true 1 c)],ct,3⟩=⟨cz tm live,[(2,.cells true true true 1 a),(1,.cells true true false 1 b),(0,.cells false true true 1 c)],3,3⟩:=
 G0 ht ⟨by omega,.inl rfl,by omega,.inl rfl,by omega,.inl rfl,trivial⟩ (by
  have:b7 3 [(2,Obj.cells true true true 1 a),(1,Obj.cells true true false 1 b),(0,Obj.cells false true true 1 c)]=[]:=rfl
  rw [this,y5,xS];exact hl)
structure ep (x vs:List Int) (n v1 v2 u0 u1 u2:Nat):Prop where
 n2:2<=n
 nb:n<=20000000000
 lx:x.length=n+1
 lv:vs.length=n
 gx:dg x
 gv:dg vs
 eI:vs.getD (n-1) 0=(v1:Int)
 cR:vs.getD (n-2) 0=(v2:Int)
 h0:x.getD n 0=(u0:Int)
 h1:x.getD (n-1) 0=(u1:Int)
 h2:x.getD (n-2) 0=(u2:Int)
 pos:0<v1
 lt:dv x<1000000000*dv vs
section
variable {x vs:List Int} {n v1 v2 u0 u1 u2:Nat}
def ep.KS (h:ep x vs n v1 v2 u0 u1 u2):v1<1000000000:=by have:=gb h.gv (n-1);rw [h.eI] at this;omega
def ep.Aj (h:ep x vs n v1 v2 u0 u1 u2):v2<1000000000:=by have:=gb h.gv (n-2);rw [h.cR] at this;omega
def ep.KT (h:ep x vs n v1 v2 u0 u1 u2):u0<1000000000:=by have:=gb h.gx n;rw [h.h0] at this;omega
def ep.Gq (h:ep x vs n v1 v2 u0 u1 u2):u1<1000000000:=by have:=gb h.gx (n-1);rw [h.h1] at this;omega
def ep.Gr (h:ep x vs n v1 v2 u0 u1 u2):u2<1000000000:=by have:=gb h.gx (n-2);rw [h.h2] at this;omega
def ep.parts (h:ep x vs n v1 v2 u0 u1 u2):∃p vr ur,dv vs=(v1*1000000000+v2)*p+vr/\vr<p/\dv x=((u0*1000000000+u1)*1000000000+u2)*p+ur/\ur<p:=by
 obtain ⟨m,hm⟩:∃m,n=m+2:=⟨n-2,by have:=h.n2;omega⟩;subst hm;have e1:=oU (l:=vs) (m+1);have e2:=oU (l:=vs) m;have f0:=oU (l:=x) (m+2);have f1:=oU (l:=x) (m+1);have f2:=oU (l:=x) m;have eI:vs.getD (m+1) 0=(v1:Int):=h.eI;have cR:vs.getD m 0=(v2:Int):=h.cR;have h0:x.getD (m+2) 0=(u0:Int):=h.h0;have h1:x.getD (m+1) 0=(u1:Int):=h.h1;have h2:x.getD m 0=(u2:Int):=h.h2
 rw [yI (by have:=h.lv;omega),eI,e2,cR] at e1
 rw [yI (by have:=h.lx;omega),h0,f1,h1,f2,h2] at f0;simp only [wo] at e1 f0;have g1:=iy (qM h.gv m)
 rw [yK,xJ (by have:=h.lv;omega)] at g1;have g2:=iy (qM h.gx m)
 rw [yK,xJ (by have:=h.lx;omega)] at g2;refine ⟨1000000000^m,_,_,?_,g1,?_,g2⟩
 ·rw [e1,xy,ahW]
 ·rw [f0,show 1000000000^(m+2)=1000000000^m*1000000000*1000000000 by rw [xy,xy],xy,ahX]
def ep.down (h:ep x vs n v1 v2 u0 u1 u2) {t r:Nat} (ht:t*v1+r=u0*1000000000+u1) (hr:r*1000000000+u2<t*v2):dv x/dv vs<=t-1:=by
 obtain ⟨p,vr,ur,h1,h2,h3,h4⟩:=h.parts;exact Mv h1 h3 h4 ht hr
def ep.stop (h:ep x vs n v1 v2 u0 u1 u2) {t r:Nat} (iH:t<1000000000) (ht:t*v1+r=u0*1000000000+u1) (hr:1000000000<=r\/t*v2<=r*1000000000+u2):t<=dv x/dv vs+1:=by
 obtain ⟨p,vr,ur,h1,h2,h3,h4⟩:=h.parts;exact Nj (by decide) h1 h2 h3 h.pos h.Aj iH ht hr
def ep.first (h:ep x vs n v1 v2 u0 u1 u2):dv x/dv vs<=(u0*1000000000+u1)/v1:=by
 obtain ⟨p,vr,ur,h1,h2,h3,h4⟩:=h.parts;exact LS h1 h3 h4 h.Gr h.pos
def ep.top (h:ep x vs n v1 v2 u0 u1 u2):u0<=v1:=by
 obtain ⟨p,vr,ur,h1,h2,h3,h4⟩:=h.parts;exact Nk h1 h3 h2 h.Aj h.lt
def ep.digit (h:ep x vs n v1 v2 u0 u1 u2):dv x/dv vs<1000000000:=by
 refine (uS ?_).2 h.lt;rcases xp (dv vs) with h0 | h0
 ·have:=h.lt;rw [h0] at this;simp at this
 ·exact h0
def ep.small (h:ep x vs n v1 v2 u0 u1 u2) {t r:Nat} (ht:t*v1+r=u0*1000000000+u1) (hb:1000000000<=t):r<1000000000:=by
 have h1:=h.top;have h2:=h.Gq;have h3:=Nat.mul_le_mul_right v1 hb
 grind
end
def ajt {r u:Nat} (hr:r<1000000000) (hu:u<1000000000):r*1000000000<9223372036854775808/\r*1000000000+u<9223372036854775808:=by omega
section
variable {P:aA} {L:Lib}
def adV {w:AV} {x vs pre post qs:List Int} {f:Int} (hw:aX w vs) {n v1 v2 u0 u1 u2 M:Nat} (hl:ep x vs n v1 v2 u0 u1 u2) (hM:M=pre.length+x.length+post.length) (C0:M<=50000000000):
  ∀k s,(∃t r:Nat,bw [0,1,2,7,9,10] s=⟨[(0,.aq 1 0 M),(1,w),(2,aa pre.length),(7,aa n),(9,aa t),(10,aa r)],H3 qs (pre++x++post) f,3,3⟩/\t*v1+r=u0*1000000000+u1/\r<1000000000/\dv x/dv vs<=t/\t=k)->
   ∃ex s',D P L (.loop [0,1,2,7,9,10] oX) s=some (ex,s')/\∃tm ct t,s'=⟨tm,H3 qs (pre++x++post) f,ct,3⟩/\((ex= .exit 0/\ah tm 9=aa (t:Nat))\/(ex= .ret/\ah tm 6=aa (t:Nat)))/\ct=3/\t<1000000000/\dv x/dv vs<=t/\t<=dv x/dv vs+1:=by
 refine cG (I:=fun k s=>∃t r:Nat,s=⟨[(0,.aq 1 0 M),(1,w),(2,aa pre.length),(7,aa n),(9,aa t),(10,aa r)],H3 qs (pre++x++post) f,3,3⟩/\t*v1+r=u0*1000000000+u1/\r<1000000000/\dv x/dv vs<=t/\t=k)
  (Q:=fun ex s'=>∃tm ct t,s'=⟨tm,H3 qs (pre++x++post) f,ct,3⟩/\((ex= .exit 0/\ah tm 9=aa (t:Nat))\/(ex= .ret/\ah tm 6=aa (t:Nat)))/\ct=3/\t<1000000000/\dv x/dv vs<=t/\t<=dv x/dv vs+1) ?_
 rintro k s ⟨t,r,rfl,ht,hr,hQ,rfl⟩;have eC:=hl.n2;have CI:=hl.nb;have hlx:=hl.lx;have aju:=hl.KS;have ajv:=hl.Aj;have ajw:=hl.Gr;have ajx:=hl.KT;have ajy:=hl.Gq;have pD:=hl.pos;have Al:=lK hw (i:=n-2) (by have:=hl.lv;omega);have eJ:=lK hw (i:=n-1) (by have:=hl.lv;omega);rw [hl.cR] at Al;rw [hl.eI] at eJ;have Am:=mC (l:=pre++x++post) (o:=pre.length+(n-2)) (by rw [jG];omega);rw [o5 (by omega),hl.h2] at Am;have KV:(n:Int)-2=((n-2:Nat):Int):=by omega
 have An:(n:Int)-1=((n-1:Nat):Int):=by omega
 have C1:(pre.length:Int)+(n:Int)=((pre.length+n:Nat):Int):=rfl;have KW:((pre.length+n:Nat):Int)-2=((pre.length+(n-2):Nat):Int):=by omega
 have amI:t<=1000000000000000000:=by
  have:=xq t pD
  omega
 have amJ:t*1<=t*v1:=xq t pD;obtain ⟨KX,KY⟩:=ajt hr ajw;by_cases Ah:1000000000<=t\/r*1000000000+u2<t*v2
 ·have KZ:0<t:=by
   rcases xp t with h0 | h0
   ·subst h0;omega
   ·exact h0
  have h1:(t-1)*v1+(r+v1)=u0*1000000000+u1:=by
   obtain ⟨p,rfl⟩:∃p,t=p+1:=⟨t-1,by omega⟩;rw [Nat.add_mul,Nat.one_mul] at ht;rw [Nat.add_sub_cancel];omega
  have Ao:dv x/dv vs<=t-1:=by
   rcases Ah with h | h
   ·have:=hl.digit;generalize dv x/dv vs=q at*;omega
   ·exact hl.down ht h
  have Gt:((t:Nat):Int)-1=((t-1:Nat):Int):=by omega
  have stop:1000000000<=r+v1->t-1<1000000000/\t-1<=dv x/dv vs+1:=fun hb=>by
   have aU:t-1<1000000000:=by
    by_cases pQ:1000000000<=t-1
    ·have:=hl.small h1 pQ;omega
    ·omega
   exact ⟨aU,hl.stop aU h1 (.inl hb)⟩
  by_cases hb:1000000000<=t
  ·by_cases dA:1000000000<=r+v1
   ·right
    obtain ⟨s1,s2⟩:=stop dA
    simp only [go_sem,ya,oX,H3,show (1000000000:Int)<=(t:Int) by omega,Gt,wrapN (n:=t-1) (by omega),An,wrapN (n:=n-1) (by omega),eJ,show (r:Int)+(v1:Int)=((r+v1:Nat):Int) from rfl,wrapN (n:=r+v1) (by omega),show (1000000000:Int)<=((r+v1:Nat):Int) by omega];exact ⟨_,_,rfl,by simp,_,_,t-1,rfl,.inr ⟨rfl,by simp only [go_sem]⟩,rfl,s1,Ao,s2⟩
   ·left
    simp only [go_sem,ya,oX,H3,show (1000000000:Int)<=(t:Int) by omega,Gt,wrapN (n:=t-1) (by omega),An,wrapN (n:=n-1) (by omega),eJ,show (r:Int)+(v1:Int)=((r+v1:Nat):Int) from rfl,wrapN (n:=r+v1) (by omega),show ¬(1000000000:Int)<=((r+v1:Nat):Int) by omega];refine ⟨_,t-1,rfl,by omega,t-1,r+v1,?_,h1,by omega,Ao,rfl⟩;rw [D6 (by simp only [go_sem,ya,yj,EA,IX,En,D5,mi hw.pu,and_true]) (by simp only [go_sem,ya,yc,yj,aP hw.pu])];simp only [go_sem,ya]
  ·have lX:=xO (show t<=999999999 by omega) (show v2<=999999999 by omega);have JO:r*1000000000+u2<t*v2:=Ah.resolve_left hb;obtain ⟨m,hm⟩:∃m,t*v2=m:=⟨_,rfl⟩;have em:(t:Int)*(v2:Int)=(m:Int):=by rw [<-hm,xA]
   rw [hm] at JO lX;have Gu:(r:Int)*1000000000=((r*1000000000:Nat):Int):=by omega
   have Gv:((r*1000000000:Nat):Int)+(u2:Int)=((r*1000000000+u2:Nat):Int):=rfl;by_cases dA:1000000000<=r+v1
   ·right
    obtain ⟨s1,s2⟩:=stop dA
    simp only [go_sem,ya,yh,oX,H3,show ¬(1000000000:Int)<=(t:Int) by omega,KV,wrapN (n:=n-2) (by omega),Al,em,wrapN (n:=m) (by omega),Gu,wrapN KX,C1,wrapN (n:=pre.length+n) (by omega),KW,wrapN (n:=pre.length+(n-2)) (by omega),fL 1 0 (show pre.length+(n-2)<M by omega),yy,Am,Gv,wrapN KY,show ((r*1000000000+u2:Nat):Int)<(m:Int) from vl.2 JO,Gt,wrapN (n:=t-1) (by omega),An,wrapN (n:=n-1) (by omega),eJ,show (r:Int)+(v1:Int)=((r+v1:Nat):Int) from rfl,wrapN (n:=r+v1) (by omega),show (1000000000:Int)<=((r+v1:Nat):Int) by omega];exact ⟨_,_,rfl,by simp,_,_,t-1,rfl,.inr ⟨rfl,by simp only [go_sem]⟩,rfl,s1,Ao,s2⟩
   ·left
    simp only [go_sem,ya,yh,oX,H3,show ¬(1000000000:Int)<=(t:Int) by omega,KV,wrapN (n:=n-2) (by omega),Al,em,wrapN (n:=m) (by omega),Gu,wrapN KX,C1,wrapN (n:=pre.length+n) (by omega),KW,wrapN (n:=pre.length+(n-2)) (by omega),fL 1 0 (show pre.length+(n-2)<M by omega),yy,Am,Gv,wrapN KY,show ((r*1000000000+u2:Nat):Int)<(m:Int) from vl.2 JO,Gt,wrapN (n:=t-1) (by omega),An,wrapN (n:=n-1) (by omega),eJ,show (r:Int)+(v1:Int)=((r+v1:Nat):Int) from rfl,wrapN (n:=r+v1) (by omega),show ¬(1000000000:Int)<=((r+v1:Nat):Int) by omega];refine ⟨_,t-1,rfl,by omega,t-1,r+v1,?_,h1,by omega,Ao,rfl⟩;rw [D6 (by simp only [go_sem,ya,yj,EA,IX,En,D5,mi hw.pu,and_true]) (by simp only [go_sem,ya,yc,yj,aP hw.pu])];simp only [go_sem,ya]
 ·right
  have iH:t<1000000000:=Nat.lt_of_not_le fun e=>Ah (.inl e)
  have lX:=xO (show t<=999999999 from um iH) (show v2<=999999999 from um ajv);have JP:t*v2<=r*1000000000+u2:=Nat.le_of_not_lt fun e=>Ah (.inr e)
  have ah4:=hl.stop iH ht (.inr JP);obtain ⟨m,hm⟩:∃m,t*v2=m:=⟨_,rfl⟩;have em:(t:Int)*(v2:Int)=(m:Int):=by rw [<-hm,xA]
  rw [hm] at JP lX;have Gu:(r:Int)*1000000000=((r*1000000000:Nat):Int):=by omega
  have Gv:((r*1000000000:Nat):Int)+(u2:Int)=((r*1000000000+u2:Nat):Int):=rfl
  simp only [go_sem,ya,yh,oX,H3,show ¬(1000000000:Int)<=(t:Int) by omega,KV,wrapN (n:=n-2) (by omega),Al,em,wrapN (n:=m) (by omega),Gu,wrapN KX,C1,wrapN (n:=pre.length+n) (by omega),KW,wrapN (n:=pre.length+(n-2)) (by omega),fL 1 0 (show pre.length+(n-2)<M by omega),yy,Am,Gv,wrapN KY,show ¬((r*1000000000+u2:Nat):Int)<(m:Int) from fun e=>Nat.not_lt_of_le JP (vl.1 e)];exact ⟨_,_,rfl,by simp,_,_,t,rfl,.inl ⟨rfl,by simp only [go_sem,ya]⟩,rfl,iH,hQ,ah4⟩
def ah5 (h:Has P L 301 nT) {w:AV} {x vs pre post qs:List Int} {f:Int} (hw:aX w vs) {n v1 v2 u0 u1 u2 M:Nat} (hl:ep x vs n v1 v2 u0 u1 u2) (hM:M=pre.length+x.length+post.length) (C0:M<=50000000000):
  ∃t:Nat,fA P L (D P L) (H3 qs (pre++x++post) f) 3 301 [.aq 1 0 M,w,aa pre.length]=some (aa t,H3 qs (pre++x++post) f,3)/\t<1000000000/\dv x/dv vs<=t/\t<=dv x/dv vs+1:=by
 have eC:=hl.n2;have CI:=hl.nb;have hlx:=hl.lx;have VU:below 3 w:=mi hw.pu;have aju:=hl.KS;have ajx:=hl.KT;have ajy:=hl.Gq;have pD:=hl.pos;have eJ:=lK hw (i:=n-1) (by have:=hl.lv;omega);rw [hl.eI] at eJ;have Gw:=mC (l:=pre++x++post) (o:=pre.length+n) (by rw [jG];omega);rw [o5 (by omega),hl.h0] at Gw;have Gx:=mC (l:=pre++x++post) (o:=pre.length+(n-1)) (by rw [jG];omega);rw [o5 (by omega),hl.h1] at Gx;have An:(n:Int)-1=((n-1:Nat):Int):=by omega
 have C1:(pre.length:Int)+(n:Int)=((pre.length+n:Nat):Int):=rfl;have pn1:((pre.length+n:Nat):Int)-1=((pre.length+(n-1):Nat):Int):=by omega
 obtain ⟨m,hm⟩:∃m,m=u0*1000000000+u1:=⟨_,rfl⟩;have em:(u0:Int)*1000000000=((u0*1000000000:Nat):Int):=by omega
 have em2:((u0*1000000000:Nat):Int)+(u1:Int)=(m:Int):=by omega
 have jW:=ud m v1;have Cl:=vh m pD;have RB:=hl.first;rw [<-hm] at RB;have anq:m/v1<=m:=Nat.div_le_self _ _;have oq:IntKind.wrap .i64 ((m:Int).tdiv (v1:Int))=((m/v1:Nat):Int):=by
  rw [xu (by omega),<-Int.natCast_ediv,wrapN (by omega)]
 have or':(m:Int).tmod (v1:Int)=((m%v1:Nat):Int):=by rw [yT (by omega),<-Int.natCast_emod]
 rw [uR] at jW;generalize m/v1=q0 at*
 generalize m%v1=r0 at*
 have Ci:∃ex tm t,D P L nT.body ⟨eE 0 [.aq 1 0 M,w,aa pre.length],H3 qs (pre++x++post) f,3,3⟩=some (ex,⟨tm,H3 qs (pre++x++post) f,3,3⟩)/\(ex= .normal\/ex= .ret)/\ah tm 6=aa (t:Nat)/\t<1000000000/\dv x/dv vs<=t/\t<=dv x/dv vs+1:=by
  simp only [go_sem,ya,yh,nT,H3,hw.len,hl.lv,C1,wrapN (n:=pre.length+n) (by omega),fL 1 0 (show pre.length+n<M by omega),yy,Gw,em,wrapN (n:=u0*1000000000) (by omega),pn1,wrapN (n:=pre.length+(n-1)) (by omega),fL 1 0 (show pre.length+(n-1)<M by omega),Gx,em2,wrapN (n:=m) (by omega),An,wrapN (n:=n-1) (by omega),eJ,er _ _ _ (show (v1:Int)≠0 by omega),dw _ _ _ (show (v1:Int)≠0 by omega),oq,or'];generalize Gy:D P L (.loop [0,1,2,7,9,10] oX) _=qq;obtain ⟨ex,s,rfl,tm,ct,t,rfl,zJ,rfl,g1,g2,g3⟩:=cm Gy (adV (P:=P) (L:=L) (qs:=qs) (f:=f) hw hl hM C0 q0) ⟨q0,r0,by
   rw [D6 (by simp only [go_sem,ya,yj,EA,IX,En,D5,VU,and_true]) (by simp only [go_sem,ya,yc,yj,aP hw.pu])]
   simp only [go_sem,ya],by omega,by omega,RB,rfl⟩
  rcases zJ with ⟨rfl,h9⟩ | ⟨rfl,h6⟩
  ·simp only [go_sem,yj,H3,D6,EA,En,D5,h9,and_self];exact ⟨_,_,t,rfl,.inr rfl,by simp only [go_sem],g1,g2,g3⟩
  ·simp only [go_sem];exact ⟨_,_,t,rfl,.inr rfl,h6,g1,g2,g3⟩
 obtain ⟨ex,tm,t,g1,g2,g3,g4,g5,g6⟩:=Ci;exact ⟨t,sX h g1 g2 (by show fe _ [RV.t 6]=_;rw [Cd,BU,g3]),g4,g5,g6⟩
end
end
section
open Go (IntKind)
def ajz {t v bo:Int} (ht:0<=t/\t<1000000000) (hv:0<=v/\v<1000000000) (hb:0<=bo/\bo<1000000000):0<=t*v/\t*v<=999999998000000001/\0<=t*v+bo/\t*v+bo<=999999999000000000:=by
 have h1:=ve ht.1 hv.1;have h2:=Int.mul_le_mul (show t<=999999999 by omega) (show v<=999999999 by omega) hv.1 (by decide);omega
def ajA {x p:Int} (hx:0<=x/\x<1000000000) (hp:0<=p/\p<=999999999000000000):
  (x-p.tmod 1000000000<0->0<=x-p.tmod 1000000000+1000000000/\x-p.tmod 1000000000+1000000000<1000000000/\0<=p.tdiv 1000000000+1/\p.tdiv 1000000000+1<1000000000/\x-p.tmod 1000000000+1000000000+p=x+1000000000*(p.tdiv 1000000000+1))/\
  (¬x-p.tmod 1000000000<0->x-p.tmod 1000000000<1000000000/\0<=p.tdiv 1000000000/\p.tdiv 1000000000<1000000000/\x-p.tmod 1000000000+p=x+1000000000*p.tdiv 1000000000):=by grind
def II {l:List Int} (h:dg l) {i:Nat} {z:Int} (hz:0<=z/\z<1000000000):dg (l.set i z):=Ey h hz
def adW {b p z q v bo Ap x X Y S:Int} (h2:z+(q*v+bo)=x+b*Ap) (h3:Y+q*X=S+p*bo):(Y+p*(z-x))+q*(X+p*v)=S+p*b*Ap:=by grind
section
variable {P:aA} {L:Lib}
def adX {w:AV} {x vs pre post qs:List Int} {f:Int} (hw:aX w vs) {n M m:Nat} (lv:vs.length=n) (hM:M=pre.length+(n+1)+post.length) (C0:M<=50000000000) (gv:dg vs) {t:Int} (ht:0<=t/\t<1000000000):
  ∀k s,(∃(i:Nat) (bo:Int) (y:List Int),bw [8,9,10,11,12,13,14,15,16] s=⟨[(8,.aq 0 0 1),(9,w),(10,aa n),(11,.aq 1 0 M),(12,.aq 2 0 m),(13,aa pre.length),(14,aa t),(15,aa bo),(16,aa i)],H3 qs (pre++y++post) f,3,0⟩/\i+k=n/\y.length=n+1/\dg y/\(0<=bo/\bo<1000000000)/\
    sv y+t*sv (vs.take i)=sv x+1000000000^i*bo)->
   ∃ex s',D P L (.loop [8,9,10,11,12,13,14,15,16] zd) s=some (ex,s')/\∃tm bo y,s'=⟨tm,H3 qs (pre++y++post) f,3,0⟩/\ex= .exit 4/\ah tm 8= .aq 0 0 1/\ah tm 9=w/\ah tm 10=aa n/\ah tm 11= .aq 1 0 M/\ah tm 12= .aq 2 0 m/\ah tm 13=aa pre.length/\ah tm 14=aa t/\ah tm 15=aa bo/\y.length=n+1/\dg y/\(0<=bo/\bo<1000000000)/\
    sv y+t*sv vs=sv x+1000000000^n*bo:=by
 refine cG (I:=fun k s=>∃(i:Nat) (bo:Int) (y:List Int),s=⟨[(8,.aq 0 0 1),(9,w),(10,aa n),(11,.aq 1 0 M),(12,.aq 2 0 m),(13,aa pre.length),(14,aa t),(15,aa bo),(16,aa i)],H3 qs (pre++y++post) f,3,0⟩/\i+k=n/\y.length=n+1/\dg y/\(0<=bo/\bo<1000000000)/\
    sv y+t*sv (vs.take i)=sv x+1000000000^i*bo)
  (Q:=fun ex s'=>∃tm bo y,s'=⟨tm,H3 qs (pre++y++post) f,3,0⟩/\ex= .exit 4/\ah tm 8= .aq 0 0 1/\ah tm 9=w/\ah tm 10=aa n/\ah tm 11= .aq 1 0 M/\ah tm 12= .aq 2 0 m/\ah tm 13=aa pre.length/\ah tm 14=aa t/\ah tm 15=aa bo/\y.length=n+1/\dg y/\(0<=bo/\bo<1000000000)/\
    sv y+t*sv vs=sv x+1000000000^n*bo) ?_
 rintro k s ⟨i,bo,y,rfl,hk,ly,gy,K0,bC⟩;by_cases hi:i<n
 ·left
  have Gz:=gb gv i;have C2:=gb gy i;have ev:=lK hw (i:=i) (by omega);have ey:=mC (l:=pre++y++post) (o:=pre.length+i) (by rw [jG];omega);rw [o5 (by omega)] at ey;have iV:=Eo (l:=vs) i;obtain ⟨a,ha⟩:∃a,a=vs.getD i 0:=⟨_,rfl⟩;obtain ⟨d,hd⟩:∃d,d=y.getD i 0:=⟨_,rfl⟩;rw [<-ha] at Gz ev iV;rw [<-hd] at C2 ey;obtain ⟨p1,p2,p3,p4⟩:=ajz ht Gz K0;obtain ⟨s1,s2⟩:=ajA C2 ⟨p3,p4⟩;have fm:(i:Int)+(pre.length:Int)=((pre.length+i:Nat):Int):=by omega
  have aQ:=fun (hp:Hp) (ct:Nat) (z:Int)=>p7 (hp:=hp) (ct:=ct) (id:=1) (v:=z) (ex:=false) (l:=pre++y++post) (o:=pre.length+i) (by rw [jG];omega)
  have rP:=fun z=>EB (pre:=pre) (x:=y) (post:=post) (i:=i) z (by omega)
  have aW:=fun z=>zg (l:=y) (i:=i) (x:=z) (by omega)
  rw [<-hd] at aW;obtain ⟨pr,pL⟩:∃pr,pr=t*a+bo:=⟨_,rfl⟩;obtain ⟨dm,jW⟩:∃dm,pr.tmod 1000000000=dm:=⟨_,rfl⟩;obtain ⟨dq,GA⟩:∃dq,pr.tdiv 1000000000=dq:=⟨_,rfl⟩;have anr:0<=dm/\dm<1000000000:=by rw [<-jW,yT (by omega)];omega
  have ans:0<=dq/\dq<1000000000:=by rw [<-GA,xu (by omega)];omega
  rw [<-pL,jW,GA] at s1 s2;have key:∀z Ap,z+(t*a+bo)=d+1000000000*Ap->sv (y.set i z)+t*sv (vs.take (i+1))=sv x+1000000000^(i+1)*Ap:=fun z Ap h=>by
   rw [aW,iV,vO];exact adW h bC
  rw [<-pL] at key;by_cases fq:d-dm<0
  ·obtain ⟨q1,q2,q3,q4,q5⟩:=s1 fq;have kk:=key _ _ q5;obtain ⟨dr,iJ⟩:∃dr,d-dm=dr:=⟨_,rfl⟩;rw [iJ] at fq kk q1 q2
   simp only [go_sem,ya,yh,zd,H3,show (i:Int)<(n:Int) by omega,ev,wrap64 (n:=t*a) (by omega) (by omega),<-pL,wrap64 (n:=pr) (by omega) (by omega),fm,wrapN (n:=pre.length+i) (by omega),fL 1 0 (show pre.length+i<M by omega),yy,ey,dw _ _ _ (show (1000000000:Int)≠0 by decide),er _ _ _ (show (1000000000:Int)≠0 by decide),jW,GA,iJ,wrap64 (n:=dr) (by omega) (by omega),wrap64 (n:=dq) (by omega) (by omega),fq,wrap64 (n:=dr+1000000000) (by omega) (by omega),wrap64 (n:=dq+1) (by omega) (by omega),aQ,rP];refine ⟨_,k-1,rfl,by omega,i+1,dq+1,y.set i (dr+1000000000),?_,by omega,by simp [ly],II gy ⟨q1,q2⟩,⟨q3,q4⟩,kk⟩;rw [wrap64 (by omega) (by omega)];simp only [go_sem,ya,yc,aJ,aP hw.pu,aS _ hw.pu]<;>rfl
  ·obtain ⟨q2,q3,q4,q5⟩:=s2 fq;have kk:=key _ _ q5;obtain ⟨dr,iJ⟩:∃dr,d-dm=dr:=⟨_,rfl⟩;rw [iJ] at fq kk q2
   simp only [go_sem,ya,yh,zd,H3,show (i:Int)<(n:Int) by omega,ev,wrap64 (n:=t*a) (by omega) (by omega),<-pL,wrap64 (n:=pr) (by omega) (by omega),fm,wrapN (n:=pre.length+i) (by omega),fL 1 0 (show pre.length+i<M by omega),yy,ey,dw _ _ _ (show (1000000000:Int)≠0 by decide),er _ _ _ (show (1000000000:Int)≠0 by decide),jW,GA,iJ,wrap64 (n:=dr) (by omega) (by omega),wrap64 (n:=dq) (by omega) (by omega),fq,aQ,rP];refine ⟨_,k-1,rfl,by omega,i+1,dq,y.set i dr,?_,by omega,by simp [ly],II gy ⟨by omega,q2⟩,⟨q3,q4⟩,kk⟩;rw [wrap64 (by omega) (by omega)];simp only [go_sem,ya,yc,aJ,aP hw.pu,aS _ hw.pu]<;>rfl
 ·right
  have:i=n:=by omega
  subst this;rw [yI (by omega)] at bC;simp only [go_sem,ya,zd,H3,show ¬(i:Int)<(i:Int) by omega];exact ⟨_,_,rfl,by simp,_,bo,y,rfl,rfl,by simp only [go_sem,ya],by simp only [go_sem,ya],by simp only [go_sem,ya],by simp only [go_sem,ya],by simp only [go_sem,ya],by simp only [go_sem,ya],by simp only [go_sem,ya],by simp only [go_sem,ya],ly,gy,K0,bC⟩
def adY {b p z v c c' x X Y S:Int} (h2:z+b*c'=x+v+c) (h3:Y+p*c=S+X):(Y+p*(z-x))+p*b*c'=S+(X+p*v):=by grind
def adZ {w:AV} {y0 vs pre post qs:List Int} {f:Int} (hw:aX w vs) {n M m:Nat} (lv:vs.length=n) (hM:M=pre.length+(n+1)+post.length) (C0:M<=50000000000) (gv:dg vs) {t top:Int}:
  ∀k s,(∃(i:Nat) (c:Int) (y:List Int),bw [8,9,10,11,12,13,14,19,20] s=⟨[(8,.aq 0 0 1),(9,w),(10,aa n),(11,.aq 1 0 M),(12,.aq 2 0 m),(13,aa pre.length),(14,aa t),(19,aa c),(20,aa i)],H3 qs (pre++y++post) f,3,0⟩/\i+k=n/\y.length=n+1/\dg (y.take n)/\y.getD n 0=top/\(0<=c/\c<=1)/\
    sv y+1000000000^i*c=sv y0+sv (vs.take i))->
   ∃ex s',D P L (.loop [8,9,10,11,12,13,14,19,20] Bq) s=some (ex,s')/\∃tm c y,s'=⟨tm,H3 qs (pre++y++post) f,3,0⟩/\ex= .exit 6/\ah tm 8= .aq 0 0 1/\ah tm 9=w/\ah tm 10=aa n/\ah tm 11= .aq 1 0 M/\ah tm 12= .aq 2 0 m/\ah tm 13=aa pre.length/\ah tm 14=aa t/\ah tm 19=aa c/\y.length=n+1/\dg (y.take n)/\y.getD n 0=top/\(0<=c/\c<=1)/\
    sv y+1000000000^n*c=sv y0+sv vs:=by
 refine cG (I:=fun k s=>∃(i:Nat) (c:Int) (y:List Int),s=⟨[(8,.aq 0 0 1),(9,w),(10,aa n),(11,.aq 1 0 M),(12,.aq 2 0 m),(13,aa pre.length),(14,aa t),(19,aa c),(20,aa i)],H3 qs (pre++y++post) f,3,0⟩/\i+k=n/\y.length=n+1/\dg (y.take n)/\y.getD n 0=top/\(0<=c/\c<=1)/\
    sv y+1000000000^i*c=sv y0+sv (vs.take i))
  (Q:=fun ex s'=>∃tm c y,s'=⟨tm,H3 qs (pre++y++post) f,3,0⟩/\ex= .exit 6/\ah tm 8= .aq 0 0 1/\ah tm 9=w/\ah tm 10=aa n/\ah tm 11= .aq 1 0 M/\ah tm 12= .aq 2 0 m/\ah tm 13=aa pre.length/\ah tm 14=aa t/\ah tm 19=aa c/\y.length=n+1/\dg (y.take n)/\y.getD n 0=top/\(0<=c/\c<=1)/\
    sv y+1000000000^n*c=sv y0+sv vs) ?_
 rintro k s ⟨i,c,y,rfl,hk,ly,gy,rQ,hc,bC⟩;by_cases hi:i<n
 ·left
  have Gz:=gb gv i;have C2:=gb gy i;have e0:(y.take n).getD i 0=y.getD i 0:=by
   simp [xk,hi]
  rw [e0] at C2;have ev:=lK hw (i:=i) (by omega);have ey:=mC (l:=pre++y++post) (o:=pre.length+i) (by rw [jG];omega);rw [o5 (by omega)] at ey;have iV:=Eo (l:=vs) i;obtain ⟨a,ha⟩:∃a,a=vs.getD i 0:=⟨_,rfl⟩;obtain ⟨d,hd⟩:∃d,d=y.getD i 0:=⟨_,rfl⟩;rw [<-ha] at Gz ev iV;rw [<-hd] at C2 ey;have fm:(i:Int)+(pre.length:Int)=((pre.length+i:Nat):Int):=by omega
  have aW:=fun z=>zg (l:=y) (i:=i) (x:=z) (by omega)
  rw [<-hd] at aW;have Cl:(d+a+c).tmod 1000000000=(d+a+c)%1000000000:=yT (by omega);have hdiv:(d+a+c).tdiv 1000000000=(d+a+c)/1000000000:=xu (by omega);obtain ⟨z,hz⟩:∃z,z=(d+a+c)%1000000000:=⟨_,rfl⟩;obtain ⟨c',K1⟩:∃z,z=(d+a+c)/1000000000:=⟨_,rfl⟩;have J4:z+1000000000*c'=d+a+c:=by omega
  rw [<-hz] at Cl;rw [<-K1] at hdiv;have aQ:=fun (hp:Hp) (ct:Nat)=>p7 (hp:=hp) (ct:=ct) (id:=1) (v:=z) (ex:=false) (l:=pre++y++post) (o:=pre.length+i) (by rw [jG];omega)
  have rP:=EB (pre:=pre) (x:=y) (post:=post) (i:=i) z (by omega)
  simp only [go_sem,ya,yh,Bq,H3,show (i:Int)<(n:Int) by omega,ev,fm,wrapN (n:=pre.length+i) (by omega),fL 1 0 (show pre.length+i<M by omega),yy,ey,wrap64 (n:=d+a) (by omega) (by omega),wrap64 (n:=d+a+c) (by omega) (by omega),dw _ _ _ (show (1000000000:Int)≠0 by decide),er _ _ _ (show (1000000000:Int)≠0 by decide),Cl,hdiv,wrap64 (n:=c') (by omega) (by omega),aQ,rP];refine ⟨_,k-1,rfl,by omega,i+1,c',y.set i z,?_,by omega,by simp [ly],?_,by rw [RA (by omega)];exact rQ,⟨by omega,by omega⟩,?_⟩
  ·rw [wrap64 (by omega) (by omega)];simp only [go_sem,ya,yc,aJ,aP hw.pu,aS _ hw.pu]<;>rfl
  ·rw [uy];exact II gy ⟨by omega,by omega⟩
  ·rw [aW,iV,vO];exact adY J4 bC
 ·right
  have:i=n:=by omega
  subst this;rw [yI (show vs.length<=i by omega)] at bC;simp only [go_sem,ya,Bq,H3,show ¬(i:Int)<(i:Int) by omega];exact ⟨_,_,rfl,by simp,_,c,y,rfl,rfl,by simp only [go_sem,ya],by simp only [go_sem,ya],by simp only [go_sem,ya],by simp only [go_sem,ya],by simp only [go_sem,ya],by simp only [go_sem,ya],by simp only [go_sem,ya],by simp only [go_sem,ya],ly,gy,rQ,hc,bC⟩
def ad0 {A V t:Nat} {y:List Int} {n:Nat} (hV:0<V) (ly:y.length=n+1) (gy:dg (y.take n)) (h:sv y=(A:Int)-t*V) (h1:A/V<=t) (h2:t<=A/V+1):
  (¬y.getD n 0<0->t=A/V/\sv y=((A%V:Nat):Int))/\(y.getD n 0<0->t=A/V+1/\sv y+V=((A%V:Nat):Int)):=by
 have jW:=ud A V;have hm:=vh A hV;have iV:=Eo (l:=y) n;rw [yI (by omega),nL gy] at iV;have Uu:=iy gy;have hp:(0:Int)<1000000000^n:=yaO (by decide);generalize y.getD n 0=top at*
 generalize A/V=Q at*
 have hq:t=Q\/t=Q+1:=by omega
 constructor
 ·intro h0;have h3:0<=(1000000000:Int)^n*top:=ve (vP hp) (by omega);rcases hq with rfl | rfl
  ·grind
  ·grind
 ·intro h0;have h3:(1000000000:Int)^n*top<=-(1000000000^n):=by
   have:=wg (show top<=-1 by omega) (vP hp)
   grind
  rcases hq with rfl | rfl
  ·grind
  ·grind
def Ov {y:List Int} {n:Nat} (ly:y.length=n+1) (gy:dg (y.take n)) (h0:0<=sv y) (h1:sv y<1000000000^n):y.getD n 0=0/\dg y/\sv y=dv y:=by
 have iV:=Eo (l:=y) n;rw [yI (by omega),nL gy] at iV;have Uu:=iy gy;rw [yK,xJ (by omega)] at Uu;have hp:(0:Int)<1000000000^n:=yaO (by decide);have zq:((1000000000^n:Nat):Int)=(1000000000:Int)^n:=by simp
 have amK:(dv (y.take n):Int)<1000000000^n:=by omega
 have ht:y.getD n 0=0:=by
  generalize y.getD n 0=top at*
  rcases Int.lt_trichotomy top 0 with h | h | h
  ·have:=wg (show top<=-1 by omega) (vP hp)
   grind
  ·grind
  ·have:=wg (show 1<=top by omega) (vP hp)
   grind
 have hg:dg y:=by
  have e:y=y.take n++[0]:=by
   have h1:y=y.take n++y.drop n:=(xV n y).symm;have h2:y.drop n=[0]:=by
    rw [yO (by omega),yZ (by omega)]
    grind
   grind
  rw [e];exact fc.2 ⟨gy,iP.2 ⟨by decide,by decide⟩⟩
 exact ⟨ht,hg,nL hg⟩
end
end
section
open Go (IntKind)
def ad1 {l:List Int} {i:Nat} (h:i<l.length):dv (l.drop i)=(l.getD i 0).toNat+1000000000*dv (l.drop (i+1)):=by
 rw [yO h]
 have:l[i]=l.getD i 0:=by simp_all
 rw [this];rfl
def Im (l:List Int) (i:Nat) (h:i<=l.length):dv l=dv (l.take i)+1000000000^i*dv (l.drop i):=by
 conv=>lhs;rw [<-xV i l]
 rw [jy,yK,xJ h]
def ad2 {sx sy sV:Int} {p:Int} {bo t:Int} {yn z:Int} {VV:Int} (h1:sy+t*sV=sx+p*bo) (h2:VV=sy+p*(z-yn)) (h3:z=yn-bo):VV=sx-t*sV:=by grind
section
variable {P:aA} {L:Lib}
def ad3 (lP:Has P L 301 nT) {w:AV} {vs:List Int} {f:Int} (hw:aX w vs) (gv:dg vs) {n M m:Nat} (lv:vs.length=n) (eC:2<=n) (hnM:n<M) (C0:M<=20000000000) (hm:m=M-n) (eI:0<vs.getD (n-1) 0) {U0:Nat}:
  ∀k st,(∃(j:Nat) (us qs:List Int),bw [8,9,10,11,12,13] st=⟨[(8,.aq 0 0 1),(9,w),(10,aa n),(11,.aq 1 0 M),(12,.aq 2 0 m),(13,aa ((j:Int)-1))],H3 qs us f,3,0⟩/\j=k/\j<=m/\us.length=M/\qs.length=m/\dg us/\dg qs/\(∀i,i<j->qs.getD i 0=0)/\
    dv us+dv qs*dv vs=U0/\dv (us.drop j)<dv vs)->
   ∃ex st',D P L (.loop [8,9,10,11,12,13] Br) st=some (ex,st')/\∃tm us qs,st'=⟨tm,H3 qs us f,3,0⟩/\ex= .exit 2/\ah tm 8= .aq 0 0 1/\ah tm 10=aa n/\ah tm 11= .aq 1 0 M/\ah tm 12= .aq 2 0 m/\us.length=M/\qs.length=m/\dg us/\dg qs/\
    dv us+dv qs*dv vs=U0/\dv us<dv vs:=by
 refine cG (I:=fun k st=>∃(j:Nat) (us qs:List Int),st=⟨[(8,.aq 0 0 1),(9,w),(10,aa n),(11,.aq 1 0 M),(12,.aq 2 0 m),(13,aa ((j:Int)-1))],H3 qs us f,3,0⟩/\j=k/\j<=m/\us.length=M/\qs.length=m/\dg us/\dg qs/\(∀i,i<j->qs.getD i 0=0)/\
    dv us+dv qs*dv vs=U0/\dv (us.drop j)<dv vs)
  (Q:=fun ex st'=>∃tm us qs,st'=⟨tm,H3 qs us f,3,0⟩/\ex= .exit 2/\ah tm 8= .aq 0 0 1/\ah tm 10=aa n/\ah tm 11= .aq 1 0 M/\ah tm 12= .aq 2 0 m/\us.length=M/\qs.length=m/\dg us/\dg qs/\
    dv us+dv qs*dv vs=U0/\dv us<dv vs) ?_
 rintro k st ⟨j,us,qs,rfl,rfl,hj,lu,lq,gu,gq,hz,bC,rQ⟩
 cases j with
 | zero=>
  right
  simp only [go_sem,ya,Br,H3,show ¬(0:Int)<=((0:Nat):Int)-1 by omega];exact ⟨_,_,rfl,by simp,_,us,qs,rfl,rfl,by simp only [go_sem,ya],by simp only [go_sem,ya],by simp only [go_sem,ya],by simp only [go_sem,ya],lu,lq,gu,gq,bC,by simpa using rQ⟩
 | succ j=>
  left
  obtain ⟨pre,fm⟩:∃p,p=us.take j:=⟨_,rfl⟩;obtain ⟨x,hx⟩:∃p,p=(us.drop j).take (n+1):=⟨_,rfl⟩;obtain ⟨post,fP⟩:∃p,p=us.drop (j+(n+1)):=⟨_,rfl⟩;have lp:pre.length=j:=by rw [fm,yK];omega
  have lx:x.length=n+1:=by rw [hx,yK,wA];omega
  have VW:M=pre.length+(n+1)+post.length:=by rw [lp,fP,wA];omega
  have jF:us=pre++x++post:=by
   rw [fm,hx,fP,<-wV,xg,xV,xV]
  have gpo:dg post:=by
   have:=gu;rw [jF] at this;exact (fc.1 this).2
  have VX:=by have:=gu;rw [jF] at this;exact (fc.1 this).1
  have gx:dg x:=(fc.1 VX).2;have ajB:dg pre:=(fc.1 VX).1;have hA:=ad1 (l:=us) (i:=j) (by omega);have hgj:=gb gu j;have hdx:us.drop j=x++post:=by rw [fP,hx,<-wV,xV]
  have GB:dv (us.drop j)=dv x+1000000000^(n+1)*dv post:=by rw [hdx,jy,lx]
  have hVn:=iy gv;rw [lv] at hVn;have aU:dv (us.drop j)<1000000000*dv vs:=by omega
  have hp0:dv post=0:=by
   rcases xp (dv post) with e | e
   ·exact e
   ·have h1:=xq (1000000000^(n+1)) e;rw [yh,xy] at h1;rw [xy] at GB;omega
  rw [hp0,vD,xS] at GB;have C3:=fun (l:List Int) (hl:dg l) (i:Nat)=>gb hl i
  obtain ⟨v1,eJ⟩:∃v:Nat,vs.getD (n-1) 0=v:=⟨(vs.getD (n-1) 0).toNat,by have:=C3 vs gv (n-1);omega⟩;obtain ⟨v2,Al⟩:∃v:Nat,vs.getD (n-2) 0=v:=⟨(vs.getD (n-2) 0).toNat,by have:=C3 vs gv (n-2);omega⟩;obtain ⟨u0,Gw⟩:∃v:Nat,x.getD n 0=v:=⟨(x.getD n 0).toNat,by have:=C3 x gx n;omega⟩;obtain ⟨u1,Gx⟩:∃v:Nat,x.getD (n-1) 0=v:=⟨(x.getD (n-1) 0).toNat,by have:=C3 x gx (n-1);omega⟩;obtain ⟨u2,Am⟩:∃v:Nat,x.getD (n-2) 0=v:=⟨(x.getD (n-2) 0).toNat,by have:=C3 x gx (n-2);omega⟩;have hl:ep x vs n v1 v2 u0 u1 u2:=⟨eC,by omega,lx,lv,gx,gv,eJ,Al,Gw,Gx,Am,by omega,by rw [<-GB];exact aU⟩
  have ajC:=hl.digit;have ow:0<dv vs:=by omega
  have Cl:=vh (dv x) ow;obtain ⟨t,e1,FX,Kr,ht3⟩:=ah5 (P:=P) (L:=L) lP hw hl (pre:=pre) (post:=post) (qs:=qs) (f:=f) (M:=M) (by omega) (by omega);rw [<-jF,lp] at e1;have hbu:dv us=dv pre+1000000000^j*dv x:=by
   have:=Im us j (by omega)
   rw [GB,<-fm] at this;exact this
  have ajD:∀y,dv (pre++y++post)=dv pre+1000000000^j*dv y:=fun y=>by
   rw [xg,jy,jy,hp0,vD,xS,lp]
  have mF:=ZN (b:=0) hbu bC;have VU:below 3 w:=mi hw.pu;have aW:=zg (l:=qs) (i:=j) (x:=((dv x/dv vs:Nat):Int)) (by omega);have VY:dg (qs.set j ((dv x/dv vs:Nat):Int)):=Ey gq ⟨ug _,vl.2 ajC⟩;rw [hz j (by omega),Int.sub_zero,nL gq,nL VY] at aW;have aW:dv (qs.set j ((dv x/dv vs:Nat):Int))=dv qs+1000000000^j*(dv x/dv vs):=by
   have zq:((1000000000^j*(dv x/dv vs):Nat):Int)=(1000000000:Int)^j*((dv x/dv vs:Nat):Int):=by rw [xA];simp
   rw [<-zq] at aW;exact th (by rw [u9,u9,aW,wF])
  have fin:∀(s':St) (x':List Int),bw [8,9,10,11,12,13] s'=⟨[(8,.aq 0 0 1),(9,w),(10,aa n),(11,.aq 1 0 M),(12,.aq 2 0 m),(13,aa ((j:Int)-1))],H3 (qs.set j ((dv x/dv vs:Nat):Int)) (pre++x'++post) f,3,0⟩->x'.length=n+1->dg x'->sv x'=((dv x%dv vs:Nat):Int)->
    ∃(j':Nat) (us qs:List Int),bw [8,9,10,11,12,13] s'=⟨[(8,.aq 0 0 1),(9,w),(10,aa n),(11,.aq 1 0 M),(12,.aq 2 0 m),(13,aa ((j':Int)-1))],H3 qs us f,3,0⟩/\j'=j/\j'<=m/\us.length=M/\qs.length=m/\dg us/\dg qs/\(∀i,i<j'->qs.getD i 0=0)/\dv us+dv qs*dv vs=U0/\dv (us.drop j')<dv vs:=fun s' x' hc lx' VZ V1=>by
   have Uv:dv x'=dv x%dv vs:=by rw [nL VZ] at V1;exact th V1
   refine ⟨j,_,_,hc,rfl,by omega,by rw [jG,lx'];omega,by simp [lq],fc.2 ⟨fc.2 ⟨ajB,VZ⟩,gpo⟩,VY,fun i hi=>by rw [RA (by omega)];exact hz i (by omega),?_,?_⟩
   ·rw [ajD,Uv,aW];exact mF
   ·rw [xg,List.drop_left' lp,jy,hp0,vD,xS,Uv];exact Cl
  have Uw:=fun (z:Int) (hp:Hp) (ct:Nat)=>p7 (hp:=hp) (ct:=ct) (id:=2) (v:=z) (ex:=true) (l:=qs) (o:=j) (by omega)
  have svx:=nL gx;have V2:=nL gv;simp only [H3] at e1;simp only [go_sem,ya,Br,H3,show ((j+1:Nat):Int)-1=(j:Int) by omega,show (0:Int)<=(j:Int) by omega,ahY,e1];generalize Gy:D P L (.loop [8,9,10,11,12,13,14,15,16] zd) _=qq;obtain ⟨ex,s,rfl,tm,bo,y,rfl,rfl,t8,t9,t10,t11,t12,t13,t14,t15,ly,gy,K0,hv⟩:=cm Gy (adX (P:=P) (L:=L) (x:=x) (pre:=pre) (post:=post) (qs:=qs) (f:=f) (m:=m) (M:=M) hw lv VW (by omega) gv (t:=t) (by omega) n) ⟨0,0,x,by
   rw [jF,lp]
   simp only [go_sem,ya,yc,aJ,aP hw.pu,aS _ hw.pu]<;>rfl,by omega,lx,gx,by omega,by simp [sv]⟩
  rw [lp] at t13;have hyn:=gb gy n;have K2:=mC (l:=pre++y++post) (o:=pre.length+n) (by rw [jG];omega);rw [o5 (by omega),lp] at K2;obtain ⟨z,K3⟩:∃z,z=y.getD n 0-bo:=⟨_,rfl⟩;have zy:=fun (hp:Hp) (ct:Nat)=>p7 (hp:=hp) (ct:=ct) (id:=1) (v:=z) (ex:=false) (l:=pre++y++post) (o:=j+n) (by rw [jG];omega)
  have rP:=EB (pre:=pre) (x:=y) (post:=post) (i:=n) z (by omega);rw [lp] at rP;rw [rP] at zy;have pO:=zg (l:=y) (i:=n) (x:=z) (by omega);have Fe:=ad2 hv pO K3;have GC:(y.set n z).length=n+1:=by simp [ly]
  have K4:dg ((y.set n z).take n):=by
   have:(y.set n z).take n=y.take n:=by rw [uy,uv (by simp;omega)]
   rw [this];exact qM gy n
  rw [svx,V2] at Fe;obtain ⟨s0,s1⟩:=ad0 ow GC K4 Fe Kr ht3;have eg:(y.set n z).getD n 0=z:=ZP (by omega);rw [eg] at s0 s1;have K5:=mC (l:=pre++y.set n z++post) (o:=pre.length+n) (by rw [jG];omega);rw [o5 (by omega),lp,eg] at K5;generalize y.set n z=y1 at*
  have hpn:((10^9:Int))=1000000000:=by decide
  by_cases fq:z<0
  ·obtain ⟨f1,f2⟩:=s1 fq
   simp only [go_sem,ya,yc,yh,aJ,aP hw.pu,aS _ hw.pu,t8,t9,t10,t11,t12,t13,t14,t15,show (j:Int)+(n:Int)=((j+n:Nat):Int) from rfl,wrapN (n:=j+n) (by omega),fL 1 0 (show j+n<M by omega),yy,K2,<-K3,wrap64 (n:=z) (by omega) (by omega),zy,K5,fq];generalize ajE:D P L (.loop [8,9,10,11,12,13,14,19,20] Bq) _=qq2;obtain ⟨ex,s,rfl,mN,c,y2,rfl,rfl,t8,t9,t10,t11,t12,t13,t14,t19,ly2,gy2,SF,hc,cR⟩:=cm ajE (adZ (P:=P) (L:=L) (y0:=y1) (pre:=pre) (post:=post) (qs:=qs) (f:=f) (m:=m) (M:=M) (t:=(t:Int)-1) (top:=z) hw lv VW (by omega) gv n) ⟨0,0,y1,by
    rw [lp,wrap64 (n:=(t:Int)-1) (by omega) (by omega)]
    simp only [go_sem,ya,yc,aJ,aP hw.pu,aS _ hw.pu]<;>rfl,by omega,GC,K4,eg,by omega,by simp [sv]⟩
   rw [lp] at t13;have Ux:=mC (l:=pre++y2++post) (o:=pre.length+n) (by rw [jG];omega);rw [o5 (by omega),lp,SF] at Ux;have Uy:=fun (hp:Hp) (ct:Nat)=>p7 (hp:=hp) (ct:=ct) (id:=1) (v:=z+c) (ex:=false) (l:=pre++y2++post) (o:=j+n) (by rw [jG];omega)
   have SG:=EB (pre:=pre) (x:=y2) (post:=post) (i:=n) (z+c) (by omega);rw [lp] at SG;rw [SG] at Uy;have z6:=zg (l:=y2) (i:=n) (x:=z+c) (by omega);rw [SF,show z+c-z=c by omega,cR,V2,f2] at z6;have V3:(y2.set n (z+c)).length=n+1:=by simp [ly2]
   have gy3:dg ((y2.set n (z+c)).take n):=by
    have:(y2.set n (z+c)).take n=y2.take n:=by rw [uy,uv (by simp;omega)]
    rw [this];exact gy2
   have K6:((dv x%dv vs:Nat):Int)<1000000000^n:=by
    have zq:((1000000000^n:Nat):Int)=(1000000000:Int)^n:=by simp
    rw [<-zq];omega
   obtain ⟨g1,g2,g3⟩:=Ov V3 gy3 (by rw [z6];omega) (by rw [z6];exact K6)
   generalize y2.set n (z+c)=y3 at*
   have ft:(t:Int)-1=((dv x/dv vs:Nat):Int):=by rw [f1];omega
   simp only [go_sem,ya,yc,yh,aJ,aP hw.pu,aS _ hw.pu,t8,t9,t10,t11,t12,t13,t14,t19,show (j:Int)+(n:Int)=((j+n:Nat):Int) from rfl,wrapN (n:=j+n) (by omega),fL 1 0 (show j+n<M by omega),yy,Ux,wrap64 (n:=z+c) (by omega) (by omega),Uy,fL 2 0 (show j<m by omega),Uw];rw [ft];refine ⟨_,j,rfl,by omega,fin _ y3 ?_ V3 g2 z6⟩;rw [wrap64 (by omega) (by omega)];simp only [go_sem,ya,yc,aJ,aP hw.pu,aS _ hw.pu]<;>rfl
  ·obtain ⟨f1,f2⟩:=s0 fq;have K6:((dv x%dv vs:Nat):Int)<1000000000^n:=by
    have zq:((1000000000^n:Nat):Int)=(1000000000:Int)^n:=by simp
    rw [<-zq];omega
   obtain ⟨g1,g2,g3⟩:=Ov GC K4 (by rw [f2];omega) (by rw [f2];exact K6)
   simp only [go_sem,ya,yc,yh,aJ,aP hw.pu,aS _ hw.pu,t8,t9,t10,t11,t12,t13,t14,t15,show (j:Int)+(n:Int)=((j+n:Nat):Int) from rfl,wrapN (n:=j+n) (by omega),fL 1 0 (show j+n<M by omega),yy,K2,<-K3,wrap64 (n:=z) (by omega) (by omega),zy,K5,fq,fL 2 0 (show j<m by omega),Uw];rw [f1];refine ⟨_,j,rfl,by omega,fin _ y1 ?_ GC g2 f2⟩;rw [wrap64 (by omega) (by omega)];simp only [go_sem,ya,yc,aJ,aP hw.pu,aS _ hw.pu]<;>rfl
end
end
section
open Go (IntKind)
section
variable {P:aA} {L:Lib}
def agE (h:Has P L 292 nR) {n:Nat} (hn:n<1000000000):an P L 292 [aa n,aa 9] (.str (fV 9 n)):=by
 have key:=cG (P:=P) (L:=L) (live:=[0,1,5]) (a:=jD)
  (I:=fun k st=>∃(m:Nat) (s:List Nat),st=⟨[(0,aa m),(1,aa 9),(5,.str s)],[],0,0⟩/\s.length+k=9/\m<10^k/\fV 9 n=fV k m++s)
  (Q:=fun ex st=>∃tm ct,st=⟨tm,[],ct,0⟩/\ex= .exit 0/\ah tm 5= .str (fV 9 n)) ?_
 ·unfold an;rw [aT h];simp only [go_sem,nR];generalize hq:D P L (.loop [0,1,5] jD) _=q;obtain ⟨ex,st,rfl,tm,ct,rfl,rfl,h2⟩:=cm hq (key 9) ⟨n,[],by simp only [go_sem,ya,aJ]<;>rfl,rfl,by omega,by simp⟩
  simp only [go_sem,aJ,h2]
 ·rintro k st ⟨m,s,rfl,hk,hm,hs⟩
  cases k with
  | zero=>
   right
   have GD:m=0:=by simpa using hm
   subst GD;simp only [go_sem,ya,jD,show ¬(0:Int)<((0:Nat):Int) by omega,show ¬((s.length:Nat):Int)<9 by omega];refine ⟨_,_,rfl,by simp,_,_,rfl,rfl,?_⟩;rw [hs];rfl
  | succ k=>
   left
   have hr:((m:Int)).tmod 10=((m%10:Nat):Int):=by rw [yT (by omega)];rfl
   have hq:((m:Int)).tdiv 10=((m/10:Nat):Int):=by rw [xu (by omega)];rfl
   have hd:=MA (r:=m%10) (by omega);have CA:m<10000000000:=Nat.lt_of_lt_of_le hm (by simpa using Nat.pow_le_pow_right (show 0<10 by decide) (show k+1<=10 by omega));have fin:∃s',D P L jD ⟨[(0,aa m),(1,aa 9),(5,.str s)],[],0,0⟩=some (.normal,s')/\bw [0,1,5] s'=⟨[(0,aa (m/10:Nat)),(1,aa 9),(5,.str ([48+m%10]++s))],[],0,0⟩:=by
    by_cases hc:(0:Int)<m
    ·simp only [go_sem,ya,yc,jD,hc,dw _ _ _ (show (10:Int)≠0 by decide),er _ _ _ (show (10:Int)≠0 by decide),hr,hq,wrapN (n:=m%10+1) (by omega),wrap64 (n:=((m/10:Nat):Int)) (by omega) (by omega),dN,dF,show ((m%10:Nat):Int)+1=((m%10+1:Nat):Int) from rfl,hd,fN (a:=[48+m%10]) (b:=s) (by simp;omega)];exact ⟨_,rfl,by simp only [go_sem,ya,aJ]⟩
    ·simp only [go_sem,ya,yc,jD,hc,show ((s.length:Nat):Int)<9 by omega,dw _ _ _ (show (10:Int)≠0 by decide),er _ _ _ (show (10:Int)≠0 by decide),hr,hq,wrapN (n:=m%10+1) (by omega),wrap64 (n:=((m/10:Nat):Int)) (by omega) (by omega),dN,dF,show ((m%10:Nat):Int)+1=((m%10+1:Nat):Int) from rfl,hd,fN (a:=[48+m%10]) (b:=s) (by simp;omega)];exact ⟨_,rfl,by simp only [go_sem,ya,aJ]⟩
   obtain ⟨s',f1,f2⟩:=fin;exact ⟨s',k,f1,by omega,m/10,_,f2,by simp;omega,by rw [xy] at hm;omega,by rw [hs];simp [fV]⟩
end
end
section
open Go (IntKind)
def last_pos {l:List Int} (hd:dg l) (hn:nz l) (h:0<l.length):0<l.getD (l.length-1) 0:=by
 rcases snoc l with rfl | ⟨m,a,rfl⟩
 ·grind
 ·have e:(m++[a]).getD ((m++[a]).length-1) 0=a:=by simp_all
  have ha:=iP.1 (fc.1 hd).2;by_cases h0:a=0
  ·subst h0
   have:=DI m
   have e:=congrArg List.length hn;rw [AI] at e
   grind
  ·omega
section
variable {P:aA} {L:Lib}
def agF (kL:Has P L 292 nR) {neg:Bool} {w:AV} {l:List Int} (hw:aX w l) (hd:dg l) (hn:nz l) (hl:l.length<=20000000000):
  ∀k s,(∃(j:Nat) (t:List Nat),bw [1,3,4] s=⟨[(1,.ptr 0 0),(3,.str t),(4,aa ((j:Int)-1))],[(0,.cells true true true 2 [.bool neg,w])],1,0⟩/\j=k/\j<l.length/\0<dv (l.drop j)/\t=az (dv (l.drop j))/\t.length<=9*(l.length-j))->
   ∃ex s',D P L (.loop [1,3,4] Bo) s=some (ex,s')/\∃tm,s'=⟨tm,[(0,.cells true true true 2 [.bool neg,w])],1,0⟩/\ex= .exit 0/\ah tm 1= .ptr 0 0/\ah tm 3= .str (az (dv l))/\(az (dv l)).length<=180000000000:=by
 refine cG (I:=fun k s=>∃(j:Nat) (t:List Nat),s=⟨[(1,.ptr 0 0),(3,.str t),(4,aa ((j:Int)-1))],[(0,.cells true true true 2 [.bool neg,w])],1,0⟩/\j=k/\j<l.length/\0<dv (l.drop j)/\t=az (dv (l.drop j))/\t.length<=9*(l.length-j))
  (Q:=fun ex s'=>∃tm,s'=⟨tm,[(0,.cells true true true 2 [.bool neg,w])],1,0⟩/\ex= .exit 0/\ah tm 1= .ptr 0 0/\ah tm 3= .str (az (dv l))/\(az (dv l)).length<=180000000000) ?_
 rintro k s ⟨j,t,rfl,rfl,hj,pD,ht,htl⟩
 cases j with
 | zero=>
  right
  rw [List.drop_zero] at ht;simp only [go_sem,ya,Bo,show ¬(0:Int)<=((0:Nat):Int)-1 by omega];exact ⟨_,_,rfl,by simp,_,rfl,rfl,by simp only [go_sem,ya],by rw [<-ht];simp only [go_sem,ya],by rw [<-ht];omega⟩
 | succ i=>
  left
  have hi:i<l.length:=by omega
  obtain ⟨x,hx⟩:∃x,x=l.getD i 0:=⟨_,rfl⟩;have e1:=lK hw hi;have gx:=gb hd i;rw [<-hx] at e1 gx;obtain ⟨m,rfl⟩:∃m:Nat,x=m:=⟨x.toNat,by omega⟩;have e2:=agE kL (n:=m) (by omega);unfold an at e2;have hlp:=Ig 9 m;have iJ:dv (l.drop i)=dv (l.drop (i+1))*10^9+m:=by
   have:l.drop i=(m:Int)::l.drop (i+1):=by
    rw [yO hi,hx];simp [xk,xP hi]
   rw [this];simp only [dv,wo];omega
  have ajF:az (dv (l.drop i))=t++fV 9 m:=by
   rw [iJ,Ih 9 _ m pD (by omega),ht]
  simp only [go_sem,ya,Bo,show ((i+1:Nat):Int)-1=(i:Int) by omega,show (0:Int)<=(i:Int) by omega,dE,yy,gk,e1,e2,fN (a:=t) (b:=fV 9 m) (by omega)];refine ⟨_,i,rfl,by omega,i,t++fV 9 m,?_,rfl,by omega,by omega,ajF.symm,by simp;omega⟩;rw [wrap64 (by omega) (by omega)];simp only [go_sem,ya,yc,aJ]<;>rfl
def JQ (h:Has P L 282 B7) (kL:Has P L 292 nR) {v:AV} {n:Int} {K:Nat} (hK:K<=18000000000) (hv:iK v n) (hn:n.natAbs<1000000000^K):an P L 282 [v] (.str (bz n))/\(bz n).length<=180000000001:=by
 obtain ⟨w,l,rfl,hw,hd,hz,lj⟩:=hv;have hl:=Nat.le_trans (iv hd hz (by rw [lj];exact hn)) hK
 by_cases h0:l=[]
 ·subst h0;have iE:n=0:=by simp [dv] at lj;omega
  subst iE;refine ⟨?_,by decide⟩;unfold an;rw [aT h];simp only [go_sem,ya,yc,B7,b9,hw.len,hw.pu,hw.one,dE,yy,gk,y5,show ((0:Nat):Int)=(0:Int) from rfl,yE];rfl
 ·have pD:0<l.length:=List.length_pos_iff.2 h0;obtain ⟨x,hx⟩:∃x,x=l.getD (l.length-1) 0:=⟨_,rfl⟩;have e1:=lK hw (show l.length-1<l.length by omega);have gx:=gb hd (l.length-1);have gp:=last_pos hd hz pD;rw [<-hx] at e1 gx gp;obtain ⟨m,rfl⟩:∃m:Nat,x=m:=⟨x.toNat,by omega⟩;have e2:=JH kL (n:=m) (by omega);have iJ:dv (l.drop (l.length-1))=m:=by
   rw [yO (show l.length-1<l.length by omega),yZ (by omega)]
   have:l[l.length-1]=(m:Int):=by rw [hx];simp [xk,xP (show l.length-1<l.length by omega)]
   simp [dv,this]
  have h9:(az m).length<=9:=oR (k:=8) (by omega);have fin:∀neg:Bool,cf P L (D P L) 282 [.agg [.bool neg,w]]=some (.str ((if neg=true then [45] else [])++az (dv l)))/\(az (dv l)).length<=180000000000:=fun neg=>by
   rw [aT h]
   simp only [go_sem,ya,yc,B7,b9,hw.len,hw.pu,hw.one,dE,yy,gk,show ¬(l.length:Int)=0 by omega,show (l.length:Int)-1=((l.length-1:Nat):Int) by omega,wrapN (n:=l.length-1) (by omega),e1,e2];generalize hq:D P L (.loop [1,3,4] Bo) _=q;obtain ⟨ex,s,rfl,tm,rfl,rfl,t1,t3,hlen⟩:=cm hq (agF (P:=P) (L:=L) kL (neg:=neg) hw hd hz (by omega) (l.length-1)) ⟨l.length-1,az m,by
    rw [show (l.length:Int)-2=((l.length-1:Nat):Int)-1 by omega,wrap64 (by omega) (by omega)]
    simp only [go_sem,ya,yc,aJ]<;>rfl,rfl,by omega,by rw [iJ];omega,by rw [iJ],by omega⟩
   refine ⟨?_,hlen⟩
   cases neg with
   | true=>
    simp only [go_sem,ya,aJ,t1,t3,dE,yy,fN (a:=[45]) (b:=az (dv l)) (by simp;omega),yQ]
   | false=>
    simp only [go_sem,ya,aJ,t1,t3,dE,yy];rfl
  obtain ⟨f1,f2⟩:=fin (decide (n<0));rw [lj] at f1 f2;simp only [yaR] at f1;rw [oL] at f1;refine ⟨f1,?_⟩;rw [<-oL]
  split<;>simp<;>omega
structure Rb (P:aA) (L:Lib):Prop where
 ant:Has P L 262 TN
 rO:Has P L 272 B6
 Uz:Has P L 274 Fo
 UA:Has P L 275 Fp
 ajG:Has P L 277 rK
 ajH:Has P L 280 jK
 UB:Has P L 281 Ft
 JR:Has P L 282 B7
 UC:Has P L 288 Fu
 Cm:Has P L 289 mJ
 nX:Has P L 290 zI
 JI:Has P L 291 B9
 kL:Has P L 292 nR
 jq:Has P L 293 pq
 jo:Has P L 294 rL
 anu:Has P L 295 TW
 mK:Has P L 296 nS
 UD:Has P L 298 Fv
 kM:Has P L 299 pw
 cU:Has P L 300 jn
 anv:Has P L 302 TY
structure V4 (P:aA) (L:Lib):Prop extends Rb P L where
 anw:Has P L 264 TO
 anx:Has P L 268 TP
 anz:Has P L 271 TQ
 ajI:Has P L 276 kH
 UE:Has P L 278 Fs
 anA:Has P L 279 TR
 anB:Has P L 297 TX
structure Ra (P:aA) (L:Lib):Prop extends V4 P L where
 UF:Has P L 267 B5
end
end
end VE
