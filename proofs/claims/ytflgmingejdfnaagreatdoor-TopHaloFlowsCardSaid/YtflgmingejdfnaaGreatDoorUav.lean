import Derived.Test.YtflgmingejdfnaaGreatDoorUau
import Derived.Test.YtflgmingejdfnaaGreatDoorUaq
import Derived.Test.YtflgmingejdfnaaGreatDoorUap
import Derived.Test.YtflgmingejdfnaaGreatDoorUak
import Derived.Test.YtflgmingejdfnaaGreatDoorUat
set_option linter.all false
set_option maxRecDepth 100000
open Bool renaming and_eq_true→yg,and_self→wi,false_and→xA,false_eq_true→yA,false_or→vI,not_false→yI,not_true→yM,true_and→xv,true_or→yaM
open Int renaming natAbs_natCast→wk
open List renaming append_assoc→xo,append_nil→wg,drop_eq_getElem_cons→yT,drop_eq_nil_of_le→xh,drop_zero→yj,eq_nil_of_length_eq_zero→yH,length_append→yO,length_cons→yy,length_drop→wA,length_map→xm,length_nil→yG,length_take→yS,map_append→xt,take_of_length_le→yK
open Nat renaming add_zero→yZ,beq→yx,ble→yE,blt→yJ,gcd→wj,le_of_ble_eq_true→yC,le_refl→yB,le_trans→xp,lt_of_lt_of_le→yL,mul_one→yi,mul_zero→xO,pow_add→wJ,pow_le_pow_left→yan,pow_le_pow_right→xk,pow_mul→uX,pow_succ→xj,reduceAdd→yb,reduceEqDiff→ya,reduceLT→yt,reduceLeDiff→ye,reduceMul→xK,zero_add→yd
open Option.some renaming injEq→yc
namespace VE
section
open Go (IntKind)
def JM (n:Nat):10^n<=2^(4*n):=by
 rw [uX];exact yan (by decide) n
def SL {b:Nat} {r:List Nat} (h:dO (b::r)=true):48<=b/\b<=57:=by
 simp only [dO,yg] at h
 simp_all
section
variable {P:aI} {L:Lib}
def afU (h:Tx P L) {ds:List Nat} {N:Nat} (hD:df ds 0=some N) (hl:ds.length<=4000000000) {neg:Bool} {o1 o2:AV}:
  ∀m st,(∃(pre rest:List Nat) (a:Nat) (s:Int) (w:AV),bA [0,2,3,4] st=⟨[(0,.str rest),(2,.ptr 0 0),(3,.bool neg),(4,.ptr 1 0)],[(1,.cells true true true 2 [aa s,w]),(0,.cells true true true 2 [o1,o2])],2,0⟩/\ds=pre++rest/\df pre 0=some a/\cZ s w a/\rest.length=m)->
   ∃ex st',D P L (.loop [0,2,3,4] FT) st=some (ex,st')/\∃tm s w,st'=⟨tm,[(1,.cells true true true 2 [aa s,w]),(0,.cells true true true 2 [o1,o2])],2,0⟩/\ex= .exit 0/\ab tm 2= .ptr 0 0/\ab tm 3= .bool neg/\ab tm 4= .ptr 1 0/\cZ s w N:=by
 refine cg (I:=fun m st=>∃(pre rest:List Nat) (a:Nat) (s:Int) (w:AV),st=⟨[(0,.str rest),(2,.ptr 0 0),(3,.bool neg),(4,.ptr 1 0)],[(1,.cells true true true 2 [aa s,w]),(0,.cells true true true 2 [o1,o2])],2,0⟩/\ds=pre++rest/\df pre 0=some a/\cZ s w a/\rest.length=m)
  (Q:=fun ex st'=>∃tm s w,st'=⟨tm,[(1,.cells true true true 2 [aa s,w]),(0,.cells true true true 2 [o1,o2])],2,0⟩/\ex= .exit 0/\ab tm 2= .ptr 0 0/\ab tm 3= .bool neg/\ab tm 4= .ptr 1 0/\cZ s w N) ?_
 rintro m st ⟨pre,rest,a,s,w,rfl,BA,fC,hn,rfl⟩;obtain ⟨l1,u1⟩:=hn.aA;have nt:=hD;rw [BA,JA,fC] at nt;have nt:df rest a=some N:=nt;have hlen:pre.length+rest.length<=4000000000:=by rw [BA,yO] at hl;exact hl
 by_cases h0:rest.length=0
 ·right
  have hr:rest=[]:=yH h0;subst hr
  have:a=N:=by simpa [df] using nt
  subst this;simp only [go_sem,FT,yG,show ¬(0:Int)<((0:Nat):Int) by omega];exact ⟨_,_,rfl,by simp,_,s,w,rfl,rfl,by simp only [go_sem,ya],by simp only [go_sem,ya],by simp only [go_sem,ya],hn⟩
 ·left
  obtain ⟨n,Bk⟩:∃n,n=min 18 rest.length:=⟨_,rfl⟩;have ahu:(if (rest.length:Int)<18 then (rest.length:Int) else 18)=(n:Int):=by split<;>omega
  have jE:rest.take n++rest.drop n=rest:=List.take_append_drop n rest;obtain ⟨a',EK⟩:∃a',df (rest.take n) a=some a':=by
   rw [<-jE,JA] at nt
   cases hq:df (rest.take n) a with
   | none=>rw [hq] at nt;cases nt
   | some a'=>exact ⟨a',rfl⟩
  obtain ⟨v,hv⟩:∃v,df (rest.take n) 0=some v:=by
   have:∀(l:List Nat) (x y b:Nat),df l x=some y->∃z,df l b=some z:=by
    intro l
    induction l with
    | nil=>intro x y b _;exact ⟨b,rfl⟩
    | cons c l ih=>
     intro x y b hh;simp only [df] at hh ⊢
     cases hb:(yE 48 c&&yE c 57) with
     | false=>rw [hb] at hh;cases hh
     | true=>rw [hb] at hh;exact ih _ _ _ hh
   exact this _ _ _ 0 EK
  have aia:=apD (a:=a) hv;have Ye:(rest.take n).length=n:=by rw [yS];omega
  rw [Ye,EK,yc] at aia;have Wg:=TW hv;rw [Ye] at Wg;have aCs:v<1000000000000000000:=yL Wg (xk (n:=10) (by decide) (show n<=18 by omega));have e1:=arU (P:=P) h.Wc (f:=D P L) (s:=rest.take n) (by omega) (by omega) hv;obtain ⟨t1,t2⟩:=Ey h.toNu (z:=10) (by decide) (by decide);obtain ⟨t3,t4⟩:=Ey h.toNu (z:=(v:Int)) (by omega) (by omega);obtain ⟨p,e2,hp⟩:=ax7 h.toNu h.Wf t2 (K:=4) (k:=n) (by unfold Bd;decide) (by omega) (by omega)
  have halt:=TW fC;have ba:Bd (4*pre.length) (a:Int):=yL halt (JM _);have bp:Bd (4*n+1) ((10:Int)^n):=Bd.pow (k:=4) (by unfold Bd;decide) n
  obtain ⟨q,e3,hq⟩:=zx h.toNu (v:= .agg [aa s,w]) ⟨s,w,rfl,hn⟩ hp (K:=4*pre.length+4*n+1) (ba.mono (by omega)) (bp.mono (by omega)) (by omega);have bv':Bd (4*n) (v:Int):=yL Wg (JM _);obtain ⟨r,e4,hr⟩:=Lh h.toNu hq t4 (K:=4*pre.length+4*n+1) ((ba.mul bp).mono (by omega)) (bv'.mono (by omega)) (by omega);have aR:(a:Int)*10^n+(v:Int)=(a':Int):=by
   rw [aia]
   simp
  rw [aR] at hr;obtain ⟨s2,w2,rfl,h2⟩:=hp;obtain ⟨s3,w3,rfl,h3⟩:=hq;obtain ⟨s4,w4,rfl,h4⟩:=hr;obtain ⟨l2,u2⟩:=h2.aA;obtain ⟨l3,u3⟩:=h3.aA;obtain ⟨l4,u4⟩:=h4.aA;have un:=Ai;have c1:iK rest (some 0) (some n)=some (.str (rest.take n)):=by rw [mz (by omega) (by omega),yj]
  have c2:iK rest (some n) (some rest.length)=some (.str (rest.drop n)):=by rw [mz (by omega) (by omega),List.take_length]
  simp only [go_sem,ya,FT,show (0:Int)<(rest.length:Nat) by omega,Ux,Ti,ahu,fg,fw,eh,c1,c2,e1,bZ,t1,t3,bl,u1.ah,u2.ah,u3.ah,un.ah,e2,e3,e4,bB,bZ,yj,ep u4];refine ⟨_,(rest.drop n).length,rfl,by rw [wA];omega,pre++rest.take n,rest.drop n,a',s4,w4,by simp only [go_sem,ya,yb,av],by rw [xo,jE];exact BA,by rw [JA,fC];exact EK,h4,rfl⟩
def SM {b:Nat} {r:List Nat} (h:48<=b):hO [45] (b::r)=false:=by
 show (yx 45 b&&true)=false
 rw [cP (by omega)];rfl
def Ll (h:Tx P L) {z:Int} (hz:(aW z).length<=4000000000):∃r,af P L 110 [.str (aW z)] r/\cO r z:=by
 have hN:=sN z.natAbs;have un:=Ai;have Bg:(an z.natAbs).length<=4000000000:=by
  by_cases h0:z<0
  ·rw [kS h0] at hz;simp at hz;omega
  ·rw [<-nO,yr h0] at hz;simpa using hz
 have ba:Bd (4*(an z.natAbs).length) (z.natAbs:Int):=yL (TW hN) (JM _);by_cases h0:z<0
 ·have hs:aW z=45::an z.natAbs:=kS h0;have e1:bY P L (D P L) 152 [.str (45::an z.natAbs),.str [45]]=some (.bool true):=by rw [iP h.ah7];rfl
  have e2:bY P L (D P L) 153 [.str (45::an z.natAbs),.str [45]]=some (.str (an z.natAbs)):=by rw [iP h.Wb];rfl
  have jz:∃s w r,af P L 110 [.str (aW z)] r/\cZ s w (z.natAbs:Int)/\af P L 147 [.agg [aa s,w]] r/\cO r (-(z.natAbs:Int)):=by
   rw [hs];unfold af;rw [aq h.ah9];simp only [go_sem,ya,yb,Py,aG,e1,e2,un.pu,un.one,ep un];generalize hq:D P L (.loop [0,2,3,4] FT) _=q;obtain ⟨ex,st,rfl,tm,s,w,rfl,rfl,t2,t3,t4,h5⟩:=bV hq (afU (P:=P) (L:=L) h hN Bg (neg:=true) (o1:= .int .i64 0) (o2:= .ae) (an z.natAbs).length) ⟨[],an z.natAbs,0,0,.ae,by simp only [go_sem,ya,yb,av]<;>rfl,rfl,rfl,.inl ⟨rfl,rfl,by decide,by decide⟩,rfl⟩
   obtain ⟨l5,u5⟩:=h5.aA;obtain ⟨r,e3,hr⟩:=GZ h.toNu (v:= .agg [aa s,w]) ⟨s,w,rfl,h5⟩ (K:=4*(an z.natAbs).length) ba (by omega);have bW:=hr;obtain ⟨s6,w6,rfl,h6⟩:=hr;obtain ⟨l6,u6⟩:=h6.aA;refine ⟨s,w,_,?_,h5,e3,bW⟩;simp only [go_sem,ya,yb,av,t2,t3,t4,bZ,bl,u5.ah,e3,bB,dB,dD,bZ,yj,nn u6,ep u6]
  obtain ⟨s,w,r,g1,_,_,g2⟩:=jz;rw [show -((z.natAbs:Nat):Int)=z by omega] at g2;exact ⟨r,g1,g2⟩
 ·have hs:aW z=an z.natAbs:=by rw [<-nO,yr h0];rfl
  obtain ⟨b,r0,hb,jY,hb2⟩:=Fx z.natAbs;have e1:bY P L (D P L) 152 [.str (an z.natAbs),.str [45]]=some (.bool false):=by
   rw [iP h.ah7,hb];show some (AV.bool (hO [45] (b::r0)))=_
   rw [SM jY]
  have e2:bY P L (D P L) 153 [.str (an z.natAbs),.str [45]]=some (.str (an z.natAbs)):=by
   rw [iP h.Wb,hb];show some (AV.str (bif hO [45] (b::r0) then _ else _))=_
   rw [SM jY];rfl
  have jz:∃s w,af P L 110 [.str (aW z)] (.agg [aa s,w])/\cZ s w (z.natAbs:Int):=by
   rw [hs];unfold af;rw [aq h.ah9];simp only [go_sem,ya,yb,Py,aG,e1,e2,un.pu,un.one,ep un];generalize hq:D P L (.loop [0,2,3,4] FT) _=q;obtain ⟨ex,st,rfl,tm,s,w,rfl,rfl,t2,t3,t4,h5⟩:=bV hq (afU (P:=P) (L:=L) h hN Bg (neg:=false) (o1:= .int .i64 0) (o2:= .ae) (an z.natAbs).length) ⟨[],an z.natAbs,0,0,.ae,by simp only [go_sem,ya,yb,av]<;>rfl,rfl,rfl,.inl ⟨rfl,rfl,by decide,by decide⟩,rfl⟩
   obtain ⟨l5,u5⟩:=h5.aA;refine ⟨s,w,?_,h5⟩;simp only [go_sem,ya,yb,av,t2,t3,t4,bZ,dB,dD,bZ,yj,nn u5,ep u5]
  obtain ⟨s,w,g1,g2⟩:=jz;rw [show ((z.natAbs:Nat):Int)=z by omega] at g2;exact ⟨_,g1,s,w,rfl,g2⟩
def Jt (b:Nat) (r:List Nat) (c:Nat):hO [c] (b::r)=yx c b:=by
 show (yx c b&&true)=_
 grind
def Z0:∀(l r:List Nat) (k:Nat),(∀x,x∈l->x≠47)->nf [47] (l++47::r) k=some (k+l.length)
 | [],r,k,_=>by
  show (bif hO [47] (47::r) then some k else _)=_
  rw [Jt];rfl
 | b::l,r,k,h=>by
  show (bif hO [47] (b::(l++47::r)) then some k else nf [47] (l++47::r) (k+1))=_
  rw [Jt,cP (fun e=>h b (by simp) e.symm),yD,Z0 l r (k+1) (fun x hx=>h x (by simp [hx])),yy]
  grind
def index_none:∀(l:List Nat) (k:Nat),(∀x,x∈l->x≠47)->nf [47] l k=none
 | [],k,_=>rfl
 | b::l,k,h=>by
  show (bif hO [47] (b::l) then some k else nf [47] l (k+1))=_
  rw [Jt,cP (fun e=>h b (by simp) e.symm),yD,index_none l (k+1) (fun x hx=>h x (by simp [hx]))]
def acA:∀{l:List Nat},dO l=true->∀x,x∈l->48<=x/\x<=57
 | [],_,x,hx=>by simp at hx
 | b::l,h,x,hx=>by
  have h1:=SL h;simp only [dO,yg] at h;rcases List.mem_cons.1 hx with rfl | hx
  ·grind
  ·exact acA h.2 x hx
def akl (z:Int):∀x,x∈aW z->x≠47:=fun x hx=>by
 rw [<-nO] at hx;rcases List.mem_append.1 hx with h | h
 ·grind
 ·have:=acA (Ac _) x h;omega
def m62 (h:Tx P L) {a:Rat} (hl:(RT a).length<4000000000):∃r,af P L 62 [.str (RT a)] r/\cK r a:=by
 have Hi:=akl a.num;unfold RT at hl ⊢;by_cases hd:a.den=1
 ·rw [yF hd,wg] at hl ⊢;obtain ⟨p,e1,hp⟩:=Ll h (z:=a.num) (by omega);obtain ⟨r,e2,hr⟩:=Li h.toFr' hp;rw [<-TU a hd] at hr;have bW:=hr;obtain ⟨s1,w1,rfl,h1⟩:=hp;obtain ⟨s2,w2,s3,w3,rfl,h2,h3⟩:=hr;obtain ⟨l1,u1⟩:=h1.aA;obtain ⟨l2,u2⟩:=h2.aA;obtain ⟨l3,u3⟩:=h3.aA;have e0:bY P L (D P L) 109 [.str (aW a.num),.str [47]]=some (.aw [.str (aW a.num),.str [],.bool false]):=by
   rw [iP h.We];show (bif yJ (aW a.num).length 4294967281 then (match nf [47] (aW a.num) 0 with | some i=>_ | none=>some (AV.aw [.str (aW a.num),.str [],.bool false])) else none)=_
   rw [lk (by omega),index_none _ _ Hi];rfl
  refine ⟨_,?_,bW⟩;unfold af;rw [aq h.Rk];simp only [go_sem,ya,yb,QR,aG,e0,e1,bB,u1.ah,bl,e2,lZ u2 u3,dB,dD,yj,gL,mD u2 u3]
 ·rw [yr hd] at hl ⊢;simp only [yO,yy] at hl;obtain ⟨p,e1,hp⟩:=Ll h (z:=a.num) (by omega);obtain ⟨q,e2,hq⟩:=Ll h (z:=(a.den:Int)) (by rw [lJ];omega);rw [lJ] at e2;obtain ⟨s1,w1,rfl,h1⟩:=hp;obtain ⟨s2,w2,rfl,h2⟩:=hq;obtain ⟨l1,u1⟩:=h1.aA;obtain ⟨l2,u2⟩:=h2.aA;have e0:bY P L (D P L) 109 [.str (aW a.num++47::an a.den),.str [47]]=some (.aw [.str (aW a.num),.str (an a.den),.bool true]):=by
   rw [iP h.We];show (bif yJ (aW a.num++47::an a.den).length 4294967281 then (match nf [47] (aW a.num++47::an a.den) 0 with | some i=>some (AV.aw [.str ((aW a.num++47::an a.den).take i),.str ((aW a.num++47::an a.den).drop (i+1)),.bool true]) | none=>_) else none)=_
   rw [lk (by simp;omega),Z0 _ _ _ Hi];simp only [yd,ym,List.take_left];rw [show (aW a.num).length+1=(aW a.num++[47]).length by simp,show aW a.num++47::an a.den=(aW a.num++[47])++an a.den by simp,List.drop_left]
  refine ⟨.agg [aa s1,w1,aa s2,w2],?_,s1,w1,s2,w2,rfl,h1,h2⟩;unfold af;rw [aq h.Rk];simp only [go_sem,ya,yb,QR,aG,e0,e1,e2,bB,u1.one,u2.one,FN,FO,lZ u1 u2,dB,dD,yj,gL,mD u1 u2]
end
end
section
open Go (IntKind)
def dX (p:List Nat):Bool:=dO p&&(match p with | []=>false | b::r=> !(yx b 48)||r.isEmpty)
def fP (p:List Nat):Nat:=(df p 0).getD 0
def nD (neg:Bool) (t:List Nat):Int:=
 if dX (t.take (cr t))=false\/(neg=true/\t.take (cr t)=[48]) then 1
 else if cr t<t.length/\(dX (t.drop (cr t+1))=false\/t.drop (cr t+1)=[48]\/t.drop (cr t+1)=[49]) then 1
 else if 600<cr t\/600<t.length-cr t-1 then 4
 else if cr t<t.length/\wj (fP (t.take (cr t))) (fP (t.drop (cr t+1)))≠1 then 1
 else 0
def aX:List Nat->Int
 | []=>nD false []
 | b::t=>if b=45 then nD true t else nD false (b::t)
def acB:∀{p:List Nat} (a:Nat),dO p=true->∃n,df p a=some n
 | [],a,_=>⟨a,rfl⟩
 | b::r,a,h=>by
  have h':=h;simp only [dO,yg] at h';obtain ⟨n,hn⟩:=acB (p:=r) (10*a+(b-48)) h'.2;exact ⟨n,by simp only [df,h'.1.1,h'.1.2,wi,ym];exact hn⟩
def Fy:∀(k:Nat) {p:List Nat},p.length=k->dX p=true->an (fP p)=p:=by
 intro k
 induction k with
 | zero=>intro p hl h;rw [yH hl] at h;simp [dX] at h
 | succ k ih=>
  intro p hl h;rcases snoc p with rfl | ⟨m,a,rfl⟩
  ·grind
  ·simp only [dX,yg,MW] at h;obtain ⟨⟨h1,h2⟩,h3⟩:=h;simp only [dO,yg] at h2;have ha1:=yC h2.1.1;have ha2:=yC h2.1.2;obtain ⟨n,hn⟩:=acB 0 h1;have hv:fP (m++[a])=10*n+(a-48):=by
    unfold fP;rw [JA,hn];simp only [Option.bind_some,df,h2.1.1,h2.1.2,wi,ym,Option.getD_some]
   cases m with
   | nil=>
    have:n=0:=by simpa [df] using hn.symm
    rw [hv,oD (by omega)]
    simp;omega
   | cons b r=>
    have hd:dX (b::r)=true:=by
     simp only [dX,h1,xv]
     cases r with
     | nil=>simp
     | cons c r=>simp at h3 ⊢;exact h3
    have hm:=ih (p:=b::r) (by simpa using hl) hd;have hnv:fP (b::r)=n:=by unfold fP;rw [hn];rfl
    rw [hnv] at hm;have mP:n≠0:=fun e=>by
     rw [oD (by omega)] at hm
     simp_all
    rw [hv,pJ (by omega),show (10*n+(a-48))/10=n by omega,show 48+(10*n+(a-48))%10=a by omega,hm]
def Zu (t:List Nat):cr t<t.length->t=t.take (cr t)++47::t.drop (cr t+1):=by
 induction t with
 | nil=>simp
 | cons b r ih=>
  intro h;simp only [cr] at h ⊢
  grind
def abw {n:Int} {d:Nat} (hd:0<d) (hg:wj n.natAbs d=1):∃r:Rat,r.num=n/\r.den=d:=⟨⟨n,d,by omega,hg⟩,rfl,rfl⟩
def auU {s:List Nat} (h:aX s=0):∃r:Rat,s=RT r/\(an r.num.natAbs).length<=600/\(an r.den).length<=600:=by
 have key:∀(neg:Bool) (t:List Nat),nD neg t=0->∃r:Rat,(if neg=true then [45] else [])++t=RT r/\(an r.num.natAbs).length<=600/\(an r.den).length<=600:=by
  intro neg t h;unfold nD at h
  split at h
  ·grind
  rename_i h1
  split at h
  ·grind
  rename_i h2
  split at h
  ·grind
  rename_i h3
  split at h
  ·grind
  rename_i h4;have hle:=Jr t;have hp:dX (t.take (cr t))=true:=by
   cases hb:dX (t.take (cr t)) with
   | true=>rfl
   | false=>exact absurd (.inl hb) h1
  have sB:=Fy _ rfl hp;generalize hn:fP (t.take (cr t))=n at*
  have awt:neg=true->n≠0:=fun hh e=>by
   subst e;exact h1 (.inr ⟨hh,by rw [<-sB];rfl⟩)
  have hint:(if neg=true then [45] else [])++an n=aW (if neg=true then -(n:Int) else n):=by
   cases neg with
   | true=>
    have:=awt rfl
    simp only [yV];rw [kS (by omega)]
    simp
   | false=>simp [lJ]
  have Wh:(if neg=true then -(n:Int) else n).natAbs=n:=by split<;>omega
  have hln:(an n).length<=600:=by rw [sB,yS];omega
  by_cases hs:cr t<t.length
  ·have hq:dX (t.drop (cr t+1))=true:=by
    cases hb:dX (t.drop (cr t+1)) with
    | true=>rfl
    | false=>exact absurd ⟨hs,.inl hb⟩ h2
   have pD:=Fy _ rfl hq;have hg:wj n (fP (t.drop (cr t+1)))=1:=by
    grind
   have lf:=Zu t hs;have Mz:(t.drop (cr t+1)).length<=600:=by rw [wA];omega
   rw [<-pD] at lf Mz;have gN:fP (t.drop (cr t+1))≠0:=fun e=>by
    rw [e] at pD;exact h2 ⟨hs,.inr (.inl (by rw [<-pD];rfl))⟩
   have jW:fP (t.drop (cr t+1))≠1:=fun e=>by
    rw [e] at pD;exact h2 ⟨hs,.inr (.inr (by rw [<-pD];rfl))⟩
   generalize fP (t.drop (cr t+1))=d at*
   obtain ⟨r,bS,dQ⟩:=abw (n:=if neg=true then -(n:Int) else n) (d:=d) (by omega) (by rw [Wh];exact hg)
   refine ⟨r,?_,by rw [bS,Wh];exact hln,by rw [dQ];exact Mz⟩
   unfold RT;rw [bS,dQ,yr jW,<-hint,xo]
   congr 1
   rw [sB];exact lf
  ·have ht:t.take (cr t)=t:=yK (by omega);rw [ht] at sB;obtain ⟨r,bS,dQ⟩:=abw (n:=if neg=true then -(n:Int) else n) (d:=1) (by omega) (Nat.gcd_one_right _);refine ⟨r,?_,by rw [bS,Wh];exact hln,by rw [dQ];decide⟩
   unfold RT;rw [bS,dQ,yF rfl,<-hint,wg,sB]
 cases s with
 | nil=>exact absurd h (by decide)
 | cons b t=>
  simp only [aX] at h
  split at h
  ·rename_i hb;subst hb;exact key true t h
  ·exact key false (b::t) h
end
section
namespace Nd
structure Ord (n:Nat) (l:List Int):Prop where
 len:l.length=n
 qG:∀a,a<n->0<=l.getD a 0/\l.getD a 0<n
 inj:∀a b,a<n->b<n->l.getD a 0=l.getD b 0->a=b
end Nd
end
section
namespace Nd
open Go (IntKind)
section
variable {P:aI} {L:Lib}
abbrev af (P:aI) (L:Lib) (f:Nat) (vals:List AV) (r:AV):Prop:=bY P L (D P L) f vals=some r
def A5 (h:Has P L 124 GH) (b:Bool) (n:Int):af P L 124 [.bool b,aa n] (aa (if b=true then n else 0)):=by
 unfold af;rw [aq h]
 cases b with
 | true=>simp only [go_sem,ya,GH,yV]
 | false=>simp only [go_sem,ya,GH];rfl
def ax8 (h:Has P L 125 PB) {v:AV} {l:List Int} (hv:bq v l) (hl:l.length<=1000000):af P L 125 [v] (aa (bn l)):=by
 unfold af;rw [aq h];simp only [go_sem,ya,PB,hv.len];have key:=Jz (P:=P) (L:=L) (live:=[5,6,7]) (a:=Ol)
  (I:=fun k s=>∃tm ct i,s=⟨tm,[],ct,0⟩/\ab tm 5=v/\ab tm 6=aa l.length/\ab tm 7=aa (i:Nat)/\i+k=l.length/\bn (l.drop i)=bn l)
  (Q:=fun ex s=>∃tm,s=⟨tm,[],0,0⟩/\((ex= .ret/\ab tm 2=aa (bn l))\/(ex= .exit 0/\bn l=0))) ?_ l.length
 ·generalize hq:D P L (.loop [5,6,7] Ol) _=q;obtain ⟨ex,s,rfl,tm,rfl,h2⟩:=bV hq key ⟨_,_,0,rfl,rfl,rfl,rfl,by omega,rfl⟩;rcases h2 with ⟨rfl,h2⟩ | ⟨rfl,h2⟩
  ·simp only [go_sem,h2]
  ·rw [h2];simp only [go_sem]
 ·rintro k s ⟨tm,ct,i,rfl,h5,h6,h7,hk,hf⟩;rw [MU (by simp only [go_sem,h5,h6,h7,hv.pu])];simp only [go_sem,ya,h5,h6,h7,Ol];by_cases hi:i<l.length
  ·have cu:(i:Int)<l.length:=by omega
   rw [R0 hi] at hf;by_cases hz:l[i]=0
   ·left
    simp only [go_sem,ya,cu,hv.aY hi,hz];refine ⟨_,k-1,rfl,by omega,_,_,i+1,rfl,?_⟩;rw [wrap64 (by omega) (by omega)];rw [yF hz] at hf;simp only [go_sem,ya];exact ⟨trivial,trivial,rfl,by omega,hf⟩
   ·right
    simp only [go_sem,ya,cu,hv.aY hi,hz];rw [yr hz] at hf;refine ⟨_,_,rfl,by simp,_,rfl,.inl ⟨rfl,?_⟩⟩;simp only [go_sem,hf]
  ·right
   have cu:¬(i:Int)<l.length:=by omega
   simp only [go_sem,cu];refine ⟨_,_,rfl,by simp,_,rfl,.inr ⟨rfl,?_⟩⟩;rw [<-hf,xh (by omega)];rfl
end
end Nd
end
section
open Go (IntKind)
def acC (i:Nat):GG i [48,49,50,51,52,53,54,55,56,57]=(yE 48 i&&yE i 57):=by
 by_cases h:48<=i/\i<=57
 ·obtain ⟨h1,h2⟩:=h;obtain ⟨k,rfl⟩:∃k,i=48+k:=⟨i-48,by omega⟩;rcases (show k=0\/k=1\/k=2\/k=3\/k=4\/k=5\/k=6\/k=7\/k=8\/k=9 by omega) with rfl | rfl | rfl | rfl | rfl | rfl | rfl | rfl | rfl | rfl<;>rfl
 ·have e:(yE 48 i&&yE i 57)=false:=by
   cases h1:yE 48 i with
   | false=>rfl
   | true=>
    cases h2:yE i 57 with
    | false=>rfl
    | true=>exact absurd ⟨yC h1,yC h2⟩ h
  rw [e];have ne:∀c,48<=c->c<=57->yx c i=false:=fun c h1 h2=>cP (by omega)
  simp only [GG,ne 48 (by decide) (by decide),ne 49 (by decide) (by decide),ne 50 (by decide) (by decide),ne 51 (by decide) (by decide),ne 52 (by decide) (by decide),ne 53 (by decide) (by decide),ne 54 (by decide) (by decide),ne 55 (by decide) (by decide),ne 56 (by decide) (by decide),ne 57 (by decide) (by decide),yD]
def SN:∀l:List Nat,lT [48,49,50,51,52,53,54,55,56,57] l=[]↔dO l=true
 | []=>by simp [lT,dO]
 | b::r=>by
  simp only [lT,dO,acC]
  cases hb:(yE 48 b&&yE b 57) with
  | true=>simp only [ym,xv];exact SN r
  | false=>simp
def NR:∀l:List Nat,dO l.reverse=dO l
 | []=>rfl
 | b::r=>by rw [List.reverse_cons,MW,NR r];simp [dO,Bool.and_comm]
def ZA:∀l:List Nat,dO l=false->dO (lT [48,49,50,51,52,53,54,55,56,57] l)=false
 | [],h=>by simp [dO] at h
 | b::r,h=>by
  simp only [lT,acC]
  cases hb:(yE 48 b&&yE b 57) with
  | true=>
   simp only [dO,hb,xv] at h;exact ZA r h
  | false=>simp only [yD];exact h
def apH (p:List Nat):cN (lT [48,49,50,51,52,53,54,55,56,57] (lT [48,49,50,51,52,53,54,55,56,57] p.reverse).reverse) []=dO p:=by
 cases hd:dO p with
 | true=>
  have h1:=(SN p.reverse).2 (by rw [NR];exact hd)
  rw [h1];rfl
 | false=>
  have h1:=ZA p.reverse (by rw [NR];exact hd)
  have h2:dO (lT [48,49,50,51,52,53,54,55,56,57] p.reverse).reverse=false:=by rw [NR];exact h1
  cases hq:lT [48,49,50,51,52,53,54,55,56,57] (lT [48,49,50,51,52,53,54,55,56,57] p.reverse).reverse with
  | nil=>have:=(SN _).1 hq;rw [h2] at this;exact absurd this (by decide)
  | cons b r=>rfl
def ZB:∀(t:List Nat) (k:Nat),nf [47] t k=if cr t<t.length then some (k+cr t) else none
 | [],k=>by simp [nf,hO,cr]
 | b::r,k=>by
  by_cases hb:b=47
  ·subst hb;have e:cr (47::r)=0:=by simp [cr]
   rw [e,yF (by simp)];rfl
  ·have e:cr (b::r)=cr r+1:=by simp [cr,hb]
   have hp:hO [47] (b::r)=false:=by rw [Jt];exact cP (fun e=>hb e.symm)
   rw [e,nf,hp,yD,ZB r (k+1)]
   grind
def Aq (a b:List Nat):binOp .neq (.str a) (.str b)=some (.bool (!(cN a b))):=rfl
structure Ck (P:aI) (L:Lib):Prop extends Tx P L where
 ax9:L.pure 128=some M9
 aya:L.pure 162=some trimS
 h86:Has P L 86 fK
 EA:Has P L 124 GH
 ayb:Has P L 125 PB
 ayc:Has P L 129 GI
section
variable {P:aI} {L:Lib}
def A5 (h:Has P L 124 GH) (b:Bool) (n:Int):af P L 124 [.bool b,aa n] (aa (if b=true then n else 0)):=Nd.A5 h b n
def aib (h:Ck P L) {p:List Nat} (hl:p.length<=4000000000):af P L 129 [.str p] (.bool (dX p)):=by
 have e1:bY P L (D P L) 162 [.str p,.str [48,49,50,51,52,53,54,55,56,57]]=some (.str (lT [48,49,50,51,52,53,54,55,56,57] (lT [48,49,50,51,52,53,54,55,56,57] p.reverse).reverse)):=by
  rw [iP h.aya];show (bif FR [48,49,50,51,52,53,54,55,56,57]&&(yJ p.length 4294967281&&yJ 10 4294967281) then _ else none)=_
  rw [lk (by omega)];rfl
 have e2:=apH p;unfold af;rw [aq h.ayc]
 match p,e1,e2 with
 | [],_,_=>
  simp only [go_sem,ya,GI,Aq,show cN [] []=true from rfl,yM];rfl
 | b::r,e1,e2=>
  have hI:nX 0 (.str (b::r))=some (.int .u8 (b:Nat)):=rfl;have h0:cN (b::r) []=false:=rfl;have hd:dX (b::r)=(dO (b::r)&&(!(yx b 48)||r.isEmpty)):=rfl;rw [hd]
  cases mr:dO (b::r) with
  | false=>
   rw [mr] at e2;simp only [go_sem,ya,GI,Aq,h0,yI,e1,iQ,e2,xA]
  | true=>
   rw [mr] at e2;by_cases hb:b=48
   ·subst hb;have e3:cN (48::r) [48]=r.isEmpty:=by
     cases r with
     | nil=>rfl
     | cons c r=>rfl
    have Xf:nX 0 (.str (48::r))=some (.int .u8 48):=rfl;simp only [go_sem,ya,GI,Aq,h0,yI,e1,iQ,e2,Xf,yq,yM,e3];rfl
   ·have:yx b 48=false:=cP hb
    rw [this];simp only [go_sem,ya,GI,Aq,h0,yI,e1,iQ,e2,hI,show ¬((b:Nat):Int)=48 by omega,yp,yI];rfl
def ayd (h:Ck P L) (s:List Nat):bY P L (D P L) 128 [.str s,.str [45]]=some (if s.head? =some 45 then .aw [.str s.tail,.bool true] else .aw [.str s,.bool false]):=by
 rw [iP h.ax9];show some (bif hO [45] s then AV.aw [.str (s.drop 1),.bool true] else .aw [.str s,.bool false])=_
 cases s with
 | nil=>rfl
 | cons b r=>
  by_cases hb:b=45
  ·subst hb;rfl
  ·have:hO [45] (b::r)=false:=by rw [Jt];exact cP (fun e=>hb e.symm)
   grind
def aye (h:Ck P L) {t:List Nat} (hl:t.length<=4000000000):bY P L (D P L) 109 [.str t,.str [47]]=some (.aw [.str (t.take (cr t)),.str (t.drop (cr t+1)),.bool (decide (cr t<t.length))]):=by
 rw [iP h.We];show (bif yJ t.length 4294967281 then (match nf [47] t 0 with | some i=>some (AV.aw [.str (t.take i),.str (t.drop (i+1)),.bool true]) | none=>some (AV.aw [.str t,.str [],.bool false])) else none)=_
 rw [lk (by omega),ZB];by_cases hs:cr t<t.length
 ·grind
 ·rw [yr hs,yR hs,yK (by omega),xh (by omega)];rfl
def alO {P:aI} {L:Lib} (a b c d:VC) (s:St):D P L (.seq a (.seq b (.seq c d))) s=qc P L (D P L (.seq a (.seq b c)) s) d:=by
 have e:=DC (P:=P) (L:=L) b c d;rw [kE,kE]
 cases D P L a s with
 | none=>rfl
 | some q=>
  obtain ⟨ex,st⟩:=q
  cases ex with
  | normal=>rw [gG,gG];exact e st
  | ret=>rfl
  | exit id=>rfl
def ant {P:aI} {L:Lib} (a b c d f:VC) (s:St):D P L (.seq a (.seq b (.seq c (.seq d f)))) s=qc P L (D P L (.seq a (.seq b (.seq c d))) s) f:=by
 have e:=alO (P:=P) (L:=L) b c d f;rw [kE,kE]
 cases D P L a s with
 | none=>rfl
 | some q=>
  obtain ⟨ex,st⟩:=q
  cases ex with
  | normal=>rw [gG,gG];exact e st
  | ret=>rfl
  | exit id=>rfl
def Og {a b:List Nat} (h:a=b):cN a b=true:=by
 subst h
 induction a with
 | nil=>rfl
 | cons x a ih=>simp [cN,ih]
def TY {a b:List Nat} (h:a≠b):cN a b=false:=by
 cases hb:cN a b with
 | false=>rfl
 | true=>
  exact absurd (by
   clear h;revert b
   induction a with
   | nil=>intro b hb;cases b with | nil=>rfl | cons y b=>simp [cN] at hb
   | cons x a ih=>
    intro b hb
    cases b with
    | nil=>simp [cN] at hb
    | cons y b=>
     simp only [cN,yg] at hb
     rw [Nat.eq_of_beq_eq_true hb.1,ih hb.2]) h
def awu (h:Ck P L) {p q:List Nat} {ok found:Bool} (lp:p.length<=1000000000) (lq:q.length<=1000000000) (jI:ok=true->dX p=true/\(found=true->dX q=true)) {tm:Env} (t5:ab tm 5= .str p) (t6:ab tm 6= .str q) (t7:ab tm 7= .bool found) (t8:ab tm 8= .bool ok):
  ia [.t 2] (D P L (aD (aD (aD (aD (aD fK.body))))) ⟨tm,[],0,0⟩)=some (aa (
   if ok=false then 1
   else if 600<p.length\/600<q.length then 4
   else if found=true/\wj (fP p) (fP q)≠1 then 1
   else 0)):=by
 have w1:=A5 h.EA (!ok) 1;have Rl:∀a b:Int,af P L 125 [.aO true 2 [aa a,aa b]] (aa (bn [a,b])):=fun a b=>Nd.ax8 h.ayb (fN true [a,b]) (by simp)
 cases ok with
 | false=>
  have f1:=Rl 1 0;have f2:=Rl 1 4;have w2:=A5 h.EA false 4;have w3:=A5 h.EA true 4;simp only [yI,yV,yA,yN] at w1 w2 w3;rw [show bn [1,0]=1 by decide] at f1;rw [show bn [1,4]=1 by decide] at f2;unfold af at w1 w2 w3 f1 f2;by_cases h1:600<p.length
  ·simp only [go_sem,ya,yb,yt,ye,yi,fK,aD,show ¬(1:Int)=0 by decide,yI,t5,t8,yI,w1,show (600:Int)<(p.length:Int) by omega,yq,w3,f2,yp]
   simp
  ·by_cases h2:600<q.length
   ·simp only [go_sem,ya,yb,yt,ye,yi,fK,aD,show ¬(1:Int)=0 by decide,yI,t5,t6,t8,yI,w1,show ¬(600:Int)<(p.length:Int) by omega,show (600:Int)<(q.length:Int) by omega,yq,yp,w3,f2]
    simp
   ·simp only [go_sem,ya,yb,yt,ye,yi,fK,aD,show ¬(1:Int)=0 by decide,yI,t5,t6,t8,yI,w1,show ¬(600:Int)<(p.length:Int) by omega,show ¬(600:Int)<(q.length:Int) by omega,yp,w2,f1]
    simp
 | true=>
  obtain ⟨hp,hq⟩:=jI rfl;have f1:=Rl 0 0;have f2:=Rl 0 4;have w2:=A5 h.EA false 4;have w3:=A5 h.EA true 4;have w4:=A5 h.EA false 1;have w5:=A5 h.EA true 1;simp only [yM,yV,yA,yN] at w1 w2 w3 w4 w5;rw [show bn [0,0]=0 by decide] at f1;rw [show bn [0,4]=4 by decide] at f2;unfold af at w1 w2 w3 w4 w5 f1 f2;rw [yr (by decide)];by_cases h1:600<p.length
  ·rw [yF (.inl h1)];simp only [go_sem,ya,yb,yt,ye,yi,fK,aD,show ¬(4:Int)=0 by decide,yI,t5,t8,yM,w1,show (600:Int)<(p.length:Int) by omega,yq,w3,f2,yp]
  ·by_cases h2:600<q.length
   ·rw [yF (.inr h2)];simp only [go_sem,ya,yb,yt,ye,yi,fK,aD,show ¬(4:Int)=0 by decide,yI,t5,t6,t8,yM,w1,show ¬(600:Int)<(p.length:Int) by omega,show (600:Int)<(q.length:Int) by omega,yq,yp,w3,f2]
   ·rw [yr (by omega)]
    cases found with
    | false=>
     rw [yr (by simp)];simp only [go_sem,ya,yb,yt,ye,yi,fK,aD,t5,t6,t7,t8,yM,w1,show ¬(600:Int)<(p.length:Int) by omega,show ¬(600:Int)<(q.length:Int) by omega,yq,yp,w2,f1]
    | true=>
     have sB:=Fy _ rfl hp;have pD:=Fy _ rfl (hq rfl);generalize fP p=n at*
     generalize fP q=d at*
     subst sB;subst pD;obtain ⟨M,hM⟩:∃M:Nat,M=2400:=⟨_,rfl⟩;have bd:∀{m:Nat},(an m).length<=600->Bd M (m:Int):=fun {m} hm=>by
      have h1:=JL m;have h2:=JM (an m).length;have h3:(2:Nat)^(4*(an m).length)<=2^M:=xk (by decide) (by omega);unfold Bd;rw [wk];exact yL h1 (xp h2 h3)
     obtain ⟨x,e1,hx⟩:=Ll h.toTx (z:=(n:Int)) (by rw [lJ];omega);obtain ⟨y,e2,hy⟩:=Ll h.toTx (z:=(d:Int)) (by rw [lJ];omega);rw [lJ] at e1 e2;have kn:=bd (m:=n) (by omega);have kd:=bd (m:=d) (by omega);obtain ⟨g,e3,hg⟩:=ah4 h.toNu hx hy kn kd (by omega);obtain ⟨e4,CU⟩:=Ey h.toNu (z:=1) (by decide) (by decide);have kg:Bd M ((Int.gcd (n:Int) (d:Int):Nat):Int):=by
      rcases Nat.eq_zero_or_pos d with h0 | h0
      ·subst h0;simpa using kn
      ·exact kd.le (by have:=Nat.gcd_le_right n h0;simpa using this)
     have e5:=ah0 h.toNu hg CU (K:=M) kg (by unfold Bd;exact Nat.one_lt_two_pow (by omega)) (by omega)
     have ayf:Int.gcd (n:Int) (d:Int)=wj n d:=rfl;rw [ayf] at e5;obtain ⟨xs,xw,rfl,E4⟩:=hx;obtain ⟨ys,yw,rfl,z8⟩:=hy;obtain ⟨gs,gw,rfl,BB⟩:=hg;obtain ⟨l1,u1⟩:=E4.aA;obtain ⟨l2,u2⟩:=z8.aA;obtain ⟨l3,u3⟩:=BB.aA;by_cases iM:wj n d=1
     ·rw [yr (by simp [iM])];have hs:cA (((wj n d:Nat):Int)-1)=0:=by rw [iM];rfl
      rw [hs] at e5;simp only [go_sem,ya,yb,yt,ye,yi,fK,aD,t5,t6,t7,t8,yM,w1,show ¬(600:Int)<((an n).length:Int) by omega,show ¬(600:Int)<((an d).length:Int) by omega,yq,yp,w2,f1,e1,e2,u1.ah,u2.ah,u3.ah,bB,bl,e3,e4,e5]
     ·rw [yF ⟨rfl,iM⟩];obtain ⟨c,hc,mq⟩:∃c,cA (((wj n d:Nat):Int)-1)=c/\c≠0:=⟨_,rfl,fun e=>iM (by
       unfold cA at e
       split at e
       ·exact absurd e (by decide)
       ·split at e
        ·omega
        ·exact absurd e (by decide))⟩
      rw [hc] at e5;simp only [go_sem,ya,yb,yt,ye,yi,fK,aD,yI,t5,t6,t7,t8,yM,w1,show ¬(600:Int)<((an n).length:Int) by omega,show ¬(600:Int)<((an d).length:Int) by omega,yq,yp,w2,f1,e1,e2,u1.ah,u2.ah,u3.ah,bB,bl,e3,e4,e5,mq,yI,w5]
def Ro (h:Ck P L) {s:List Nat} (hl:s.length<=1000000000):af P L 86 [.str s] (aa (aX s)):=by
 have key:∀(neg:Bool) (t:List Nat),t.length<=1000000000->bY P L (D P L) 128 [.str s,.str [45]]=some (.aw [.str t,.bool neg])->af P L 86 [.str s] (aa (nD neg t)):=by
  intro neg t hl e0;have e1:=aye h (t:=t) (by omega);obtain ⟨k,hk⟩:∃k,k=cr t:=⟨_,rfl⟩;have Yf:k<=t.length:=by rw [hk];exact Jr t
  have e2:=aib h (p:=t.take k) (by rw [yS];omega);have e3:=aib h (p:=t.drop (k+1)) (by rw [wA];omega);have lp:(t.take k).length=k:=by rw [yS];omega
  have lq:(t.drop (k+1)).length=t.length-k-1:=by rw [wA];omega
  unfold nD;rw [<-hk] at e1 ⊢;generalize hp:t.take k=p at*
  generalize hq:t.drop (k+1)=q at*
  obtain ⟨De,zC⟩:∃ok:Bool,ok=(dX p&&(!neg|| !(cN p [48]))):=⟨_,rfl⟩;obtain ⟨ok,jI⟩:∃ok:Bool,ok=(De&&(!(decide (k<t.length))||(dX q&&(!(cN q [48])&& !(cN q [49]))))):=⟨_,rfl⟩
  have P1:(if dX p=false\/(neg=true/\p=[48]) then 1
    else if k<t.length/\(dX q=false\/q=[48]\/q=[49]) then 1
    else if 600<k\/600<t.length-k-1 then 4
    else if k<t.length/\wj (fP p) (fP q)≠1 then 1 else 0:Int)=(if ok=false then 1
    else if 600<p.length\/600<q.length then 4
    else if decide (k<t.length)=true/\wj (fP p) (fP q)≠1 then 1
    else 0):=by
   rw [lp,lq];have a1:(dX p=false\/(neg=true/\p=[48]))↔De=false:=by
    rw [zC];cases dX p<;>cases neg<;>simp
    by_cases e:p=[48]
    ·simp [e,Og]
    ·simp [e,TY e]
   have a2:ok=false↔(De=false\/(k<t.length/\(dX q=false\/q=[48]\/q=[49]))):=by
    rw [jI];by_cases hs:k<t.length
    ·simp only [hs,yq,yM,vI,uN];cases De<;>cases dX q<;>simp
     by_cases e:q=[48]
     ·simp [e,Og]
     ·by_cases e':q=[49]
      ·simp [e',Og]
      ·simp [e,e',TY e,TY e']
    ·simp [hs]
   by_cases h1:De=false
   ·rw [yF (a1.2 h1),yF (a2.2 (.inl h1))]
   ·rw [yr (fun e=>h1 (a1.1 e))];by_cases h2:k<t.length/\(dX q=false\/q=[48]\/q=[49])
    ·rw [yF h2,yF (a2.2 (.inr h2))]
    ·rw [yr h2,yr (fun e=>(a2.1 e).elim h1 h2)];simp only [wN]
  rw [P1];have ayg:ok=true->dX p=true/\(decide (k<t.length)=true->dX q=true):=fun e=>by
   rw [jI,yg] at e;obtain ⟨e1,e2⟩:=e;rw [zC,yg] at e1;refine ⟨e1.1,fun hs=>?_⟩;rw [hs,yM,vI,yg] at e2;exact e2.1
  have tail:∀tm,ab tm 5= .str p->ab tm 6= .str q->ab tm 7= .bool (decide (k<t.length))->ab tm 8= .bool ok->ia [.t 2] (D P L (aD (aD (aD (aD (aD fK.body))))) ⟨tm,[],0,0⟩)=_:=fun tm t5 t6 t7 t8=>
   awu h (by omega) (by omega) ayg t5 t6 t7 t8
  have mid:∀tm,ab tm 5= .str p->ab tm 6= .str q->ab tm 7= .bool (decide (k<t.length))->ab tm 8= .bool De->
    ∃tm',D P L (bP (aD (aD (aD (aD fK.body))))) ⟨tm,[],0,0⟩=some (.normal,⟨tm',[],0,0⟩)/\ab tm' 5= .str p/\ab tm' 6= .str q/\ab tm' 7= .bool (decide (k<t.length))/\ab tm' 8= .bool ok:=fun tm t5 t6 t7 t8=>by
   unfold af at e3;by_cases hs:k<t.length
   ·rw [xi hs] at t7 jI ⊢;simp only [yM,vI] at jI
    cases De with
    | false=>
     rw [xA] at jI;subst jI;refine ⟨_,by simp only [go_sem,ya,fK,bP,aD,t7,t8]<;>rfl,?_⟩
     simp only [go_sem,ya,t5,t6,t7,uN]
    | true=>
     rw [xv] at jI
     cases hd:dX q with
     | false=>
      rw [hd] at e3 jI;rw [xA] at jI;subst jI;refine ⟨_,by simp only [go_sem,ya,fK,bP,aD,t6,t7,t8,e3]<;>rfl,?_⟩
      simp only [go_sem,ya,t5,t6,t7,uN]
     | true=>
      rw [hd] at e3 jI;rw [xv] at jI
      cases j0:cN q [48] with
      | true=>
       rw [j0,yM,xA] at jI;subst jI;refine ⟨_,by simp only [go_sem,ya,fK,bP,aD,t6,t7,t8,e3,Aq,j0,yM]<;>rfl,?_⟩
       simp only [go_sem,ya,t5,t6,t7,uN]
      | false=>
       rw [j0,yI,xv] at jI;subst jI;refine ⟨_,by simp only [go_sem,ya,fK,bP,aD,t6,t7,t8,e3,Aq,j0,yI]<;>rfl,?_⟩
       simp only [go_sem,ya,t5,t6,t7,uN]
   ·rw [yR hs] at t7 jI ⊢;simp only [yI,yaM,Bool.and_true] at jI;subst jI;refine ⟨_,by simp only [go_sem,fK,bP,aD,t7]<;>rfl,?_⟩
    simp only [go_sem,ya,t5,t6,t7,t8,uN]
  have fin:∀tm,ab tm 5= .str p->ab tm 6= .str q->ab tm 7= .bool (decide (k<t.length))->ab tm 8= .bool De->
    D P L (.seq (bP fK.body) (.seq (bP (aD fK.body)) (.seq (bP (aD (aD fK.body))) (bP (aD (aD (aD fK.body))))))) ⟨[(0,.str s)],[],0,0⟩=some (.normal,⟨tm,[],0,0⟩)->af P L 86 [.str s] _:=fun tm t5 t6 t7 t8 e=>by
   obtain ⟨tm',e',f5,f6,f7,f8⟩:=mid tm t5 t6 t7 t8;unfold af;rw [aq h.h86];show ia [.t 2] (D P L (.seq (bP fK.body) (.seq (bP (aD fK.body)) (.seq (bP (aD (aD fK.body))) (.seq (bP (aD (aD (aD fK.body)))) (.seq (bP (aD (aD (aD (aD fK.body))))) (aD (aD (aD (aD (aD fK.body)))))))))) ⟨[(0,.str s)],[],0,0⟩)=_
   rw [ant,e,gG,kE,e',gG];exact tail tm' f5 f6 f7 f8
  unfold af at e2
  cases hd:dX p with
  | false=>
   rw [hd] at e2 zC;rw [xA] at zC;subst zC;refine fin _ ?_ ?_ ?_ ?_ (by simp only [go_sem,ya,fK,bP,aD,e0,e1,e2]<;>rfl)<;>simp only [go_sem,ya]
  | true=>
   rw [hd] at e2 zC
   cases neg with
   | false=>
    simp only [yI,yaM] at zC;subst zC;refine fin _ ?_ ?_ ?_ ?_ (by simp only [go_sem,ya,fK,bP,aD,e0,e1,e2,yI]<;>rfl)<;>simp only [go_sem,ya]
   | true=>
    simp only [yM,vI] at zC;subst zC;refine fin _ ?_ ?_ ?_ ?_ (by simp only [go_sem,ya,fK,bP,aD,e0,e1,e2,yM,Aq]<;>rfl)<;>simp only [go_sem,ya]
 unfold aX;have e0:=ayd h s
 cases s with
 | nil=>exact key false [] (by simp) e0
 | cons b r=>
  by_cases hb:b=45
  ·subst hb;exact key true r (by simp at hl;omega) e0
  ·simp only [hb,yN];rw [yr (by simpa using hb)] at e0;exact key false (b::r) hl e0
end
end
section
open Go (IntKind)
def LN (z:Int):Bool:=decide (600<(an z.natAbs).length)
def LG (r:Rat):Bool:=LN r.num||LN (r.den:Int)
def Sm {m B k:Nat} (hB:B<=3*k) (hk:0<k) (h:m<2^B):(an m).length<=k:=by
 obtain ⟨j,rfl⟩:∃j,k=j+1:=⟨k-1,by omega⟩;refine sO (yL h (xp (xk (by decide) hB) ?_));rw [uX];exact yan (by decide) _
def TZ:∀f n:Nat,ff f n<=f
 | 0,_=>yB _
 | f+1,n=>by
  unfold ff
  cases yx n 0 with
  | true=>exact Nat.zero_le _
  | false=>have:=TZ f (n/2);simp only [yD];omega
def auV {P:aI} {L:Lib} {f:cT} (h:L.pure 175=some JS) {x:Nat} (hx:x<18446744073709551616):bY P L f 175 [uc x]=some (aa (ff 64 x:Nat)):=by
 rw [iP h];show (bif yJ x 18446744073709551616 then _ else none)=_
 rw [lk hx];rfl
def arW {V n top low:Nat} (hn:0<n) (h0:0<top) (ht:top<18446744073709551616) (hV:V=low+18446744073709551616^(n-1)*top) (hl:low<18446744073709551616^(n-1)):V<2^(64*(n-1)+ff 64 top):=by
 obtain ⟨l1,l2,l3⟩:=Tm h0 ht;have hle:=TZ 64 top;have h1:top<2^ff 64 top:=by
  have e:(18446744073709551616:Nat)=2^ff 64 top*2^(64-ff 64 top):=by rw [<-wJ,show ff 64 top+(64-ff 64 top)=64 by omega]
  rw [e] at l3;exact Nat.lt_of_mul_lt_mul_right l3
 have h3:=Nat.mul_le_mul_left (18446744073709551616^(n-1)) (show top+1<=2^ff 64 top from h1);rw [wJ,uX]
 grind
section
variable {P:aI} {L:Lib}
def apI (K:Nat):2^K<=18446744073709551616^(K/64+1):=by
 rw [show (18446744073709551616:Nat)=2^64 from rfl,<-uX];exact xk (by decide) (by omega)
def awv (h:Tx P L) {v:AV} {z:Int} {K:Nat} (hv:cO v z) (hz:Bd K z) (hK:K<=4000000000):∃B:Nat,af P L 172 [v] (aa B)/\z.natAbs<2^B/\B<=K+64:=by
 obtain ⟨s,w,rfl,hn⟩:=hv;obtain ⟨l,u⟩:=hn.aA;obtain ⟨r,e1,hr⟩:=A3 h.toNu hn;obtain ⟨ws,hw,g,nz',hb⟩:=hr;have hl:ws.length<=K/64+1:=oW nz' hb (yL hz (apI K));unfold af at e1 ⊢;by_cases h0:ws=[]
 ·subst h0;have mS:z.natAbs=0:=by rw [<-hb];rfl
  refine ⟨0,?_,by rw [mS];decide,by omega⟩
  rw [aq h.ah8];simp only [go_sem,ya,yb,PH,aG,bZ,bl,u.pu,u.ah,u.one,e1,hw.len,yG,show ((0:Nat):Int)=0 from rfl,yq]
 ·have hp:0<ws.length:=List.length_pos_iff.2 h0;have Cn:=NM nz' h0;have E0:=gY (show 0<18446744073709551616 by decide) g (ws.length-1);have ei:=hw.aY (i:=ws.length-1) (by omega);have eM:=jM (b:=18446744073709551616) (l:=ws) (ws.length-1);have Lm:=nm (B0 g (ws.length-1));rw [yS,Nat.min_eq_left (by omega)] at Lm;rw [show ws.length-1+1=ws.length by omega,yK (yB _)] at eM;generalize ws.getD (ws.length-1) 0=top at*
  have e2:=auV (P:=P) (f:=D P L) h.ax2 E0;have hle:=TZ 64 top;have ag7:=arW hp (Nat.pos_of_ne_zero Cn) E0 eM Lm;rw [hb] at ag7;refine ⟨64*(ws.length-1)+ff 64 top,?_,ag7,by omega⟩;rw [aq h.ah8]
  simp only [go_sem,ya,yb,PH,aG,bZ,bl,u.pu,u.ah,u.one,e1,hw.len,show ¬(ws.length:Int)=0 by omega,show (ws.length:Int)-1=((ws.length-1:Nat):Int) by omega,wrapN (n:=ws.length-1) (by omega),show (64:Int)*((ws.length-1:Nat):Int)=((64*(ws.length-1):Nat):Int) by omega,wrapN (n:=64*(ws.length-1)) (by omega),ei,e2,show ((64*(ws.length-1):Nat):Int)+((ff 64 top:Nat):Int)=((64*(ws.length-1)+ff 64 top:Nat):Int) from rfl,wrapN (n:=64*(ws.length-1)+ff 64 top) (by omega)]
def ayh (h:Tx P L) {v:AV} {z:Int} {K:Nat} (hv:cO v z) (hz:Bd K z) (hK:K<=4000000000):∃B:Nat,af P L 172 [v] (aa B)/\z.natAbs<2^B/\B<=300000000000:=by
 obtain ⟨B,h1,h2,h3⟩:=awv h hv hz hK;exact ⟨B,h1,h2,by omega⟩
def anu (z:Int):(if hO [45] (aW z)=true then (aW z).drop 1 else aW z)=an z.natAbs:=by
 by_cases h:z<0
 ·rw [kS h];rfl
 ·obtain ⟨m,rfl⟩:∃m:Nat,z=m:=⟨z.toNat,by omega⟩;rw [lJ];obtain ⟨b,r,hb,h1,_⟩:=Fx m;rw [wk,hb,SM h1];rfl
def aic (h:Tx P L) {v:AV} {z:Int} {K:Nat} (hv:cO v z) (hz:Bd K z) (hK:K<=4000000000):af P L 151 [v] (.bool (LN z)):=by
 obtain ⟨B,e1,hB,hBb⟩:=ayh h hv hz hK;have e2:=Yb h hv hz hK;obtain ⟨s,w,rfl,hn⟩:=hv;obtain ⟨l,u⟩:=hn.aA;have e3:bY P L (D P L) 153 [.str (aW z),.str [45]]=some (.str (an z.natAbs)):=by
  rw [iP h.Wb,<-anu];show some (AV.str (bif hO [45] (aW z) then (aW z).drop 1 else aW z))=_
  cases hO [45] (aW z)<;>rfl
 unfold af at e1 e2 ⊢;rw [aq h.ax3];unfold LN;by_cases h1:1800<B
 ·simp only [go_sem,ya,yb,PD,aG,bZ,bl,u.pu,u.ah,u.one,e1,show (1800:Int)<(B:Int) by omega,yq,e2,e3];by_cases h2:600<(an z.natAbs).length
  ·rw [xi h2,xi (by omega)]
  ·rw [yR h2,yR (by omega)]
 ·have h2:=Sm (k:=600) (by omega) (by decide) hB;rw [yR (by omega)];simp only [go_sem,ya,yb,PD,aG,bZ,bl,u.pu,u.ah,u.one,e1,show ¬(1800:Int)<(B:Int) by omega,yp]
def Wi (h:Tx P L) {v:AV} {a:Rat} {K:Nat} (hv:cK v a) (ka:Hq K a) (hK:K<=4000000000):af P L 107 [v] (.bool (LG a)):=by
 obtain ⟨s1,w1,s2,w2,rfl,h1,h2⟩:=hv;have e1:=aic h ⟨s1,w1,rfl,h1⟩ ka.1 hK;have e2:=aic h ⟨s2,w2,rfl,h2⟩ ka.2 hK;obtain ⟨l1,u1⟩:=h1.aA;obtain ⟨l2,u2⟩:=h2.aA;unfold af at e1 e2 ⊢;rw [aq h.ax4];unfold LG
 cases hb:LN a.num with
 | true=>
  rw [hb] at e1;simp only [go_sem,ya,yb,Px,aG,aZ,yd,bZ,bl,u1.pu,u1.ah,u1.one,u2.pu,u2.one,e1];rfl
 | false=>
  rw [hb] at e1;simp only [go_sem,ya,yb,Px,aG,aZ,yd,show List.drop 2 [aa s1,w1,aa s2,w2]=[aa s2,w2] from rfl,bZ,bl,u1.pu,u1.ah,u1.one,u2.pu,u2.ah,u2.one,e1,e2];rfl
end
end
section
open Go (IntKind)
def anv (p s:Nat):p*(s%1000000000)+p*1000000000*(s/1000000000)=p*s:=by
 rw [Nat.mul_assoc,<-Nat.mul_add,Nat.mod_add_div]
def JB {l:List Int} {i:Nat} (h:l.length<=i):l.getD i 0=0:=by simp_all
def apJ {a b out:List Int} {i c:Nat} {x y:Int} (hx:x=a.getD i 0) (hy:y=b.getD i 0) (h1:0<=x) (h2:0<=y) (hl:out.length=i) (hv:dv out+1000000000^i*c=dv (a.take i)+dv (b.take i)):
  dv (out++[(((x.toNat+y.toNat+c)%1000000000:Nat):Int)])+1000000000^(i+1)*((x.toNat+y.toNat+c)/1000000000)=dv (a.take (i+1))+dv (b.take (i+1)):=by
 rw [pM,pM,mX,hl,<-hx,<-hy];simp only [dv,Int.toNat_natCast,xO,yZ,xj]
 have:=anv (1000000000^i) (x.toNat+y.toNat+c)
 grind
section
variable {P:aI} {L:Lib}
def auW (od:Has P L 302 zp) {v w:AV} {a b:List Int} (hv:bq v a) (hw:bq w b) (ha:dg a) (hb:dg b) {N:Nat} (la:a.length<=N) (lb:b.length<=N) (lN:N<=20000000000):
  ∀k s,(∃(i c:Nat) (out:List Int),2*(N-i)+c=k/\out.length=i/\c<=1/\dg out/\dv out+1000000000^i*c=dv (a.take i)+dv (b.take i)/\i<=N+1/\(i<=N\/c=0)/\
    ((i=0/\bA [0,1,5,6,7] s=⟨[(0,v),(1,w),(5,.ae),(6,aa c),(7,aa i)],[],0,0⟩)\/
    (0<i/\bA [0,1,5,6,7] s=⟨[(0,v),(1,w),(5,.ak 0 0 i),(6,aa c),(7,aa i)],[(0,.cells true true false 1 (out.map aa))],1,0⟩)))->
   ∃ex s',D P L (.loop [0,1,5,6,7] pU) s=some (ex,s')/\∃tm out,ex= .exit 0/\dg out/\dv out=dv a+dv b/\out.length<=N+1/\((out=[]/\ab tm 5= .ae/\s'=⟨tm,[],0,0⟩)\/(0<out.length/\ab tm 5= .ak 0 0 out.length/\s'=⟨tm,[(0,.cells true true false 1 (out.map aa))],1,0⟩)):=by
 refine cg (I:=fun k s=>∃(i c:Nat) (out:List Int),2*(N-i)+c=k/\out.length=i/\c<=1/\dg out/\dv out+1000000000^i*c=dv (a.take i)+dv (b.take i)/\i<=N+1/\(i<=N\/c=0)/\
    ((i=0/\s=⟨[(0,v),(1,w),(5,.ae),(6,aa c),(7,aa i)],[],0,0⟩)\/
    (0<i/\s=⟨[(0,v),(1,w),(5,.ak 0 0 i),(6,aa c),(7,aa i)],[(0,.cells true true false 1 (out.map aa))],1,0⟩)))
  (Q:=fun ex s'=>∃tm out,ex= .exit 0/\dg out/\dv out=dv a+dv b/\out.length<=N+1/\((out=[]/\ab tm 5= .ae/\s'=⟨tm,[],0,0⟩)\/(0<out.length/\ab tm 5= .ak 0 0 out.length/\s'=⟨tm,[(0,.cells true true false 1 (out.map aa))],1,0⟩))) ?_
 rintro k s ⟨i,c,out,hk,hlen,hc,mr,aR,hi,Hg,hs⟩;have e1:=VU od hv i;have e2:=VU od hw i;unfold af at e1 e2;have ga:=iD ha i;have gb:=iD hb i;by_cases zW:i<a.length\/i<b.length\/0<c
 ·left
  obtain ⟨x,hx⟩:∃x,x=a.getD i 0:=⟨_,rfl⟩;obtain ⟨y,hy⟩:∃y,y=b.getD i 0:=⟨_,rfl⟩;rw [<-hx] at e1 ga;rw [<-hy] at e2 gb;have lW:=apJ (c:=c) hx hy ga.1 gb.1 hlen aR;obtain ⟨s0,fQ⟩:∃s0,s0=x.toNat+y.toNat+c:=⟨_,rfl⟩;rw [<-fQ] at lW;have zD:x+y+(c:Int)=(s0:Int):=by omega
  have hs9:s0<2000000000:=by omega
  have hr:((s0:Nat):Int).tmod 1000000000=((s0%1000000000:Nat):Int):=by rw [Int.tmod_eq_emod_of_nonneg (by omega)];rfl
  have hq:((s0:Nat):Int).tdiv 1000000000=((s0/1000000000:Nat):Int):=by rw [Int.tdiv_eq_ediv_of_nonneg (by omega)];rfl
  have oz:s0/1000000000<=1:=by omega
  have aww:2*(N-(i+1))+s0/1000000000<k:=by
   by_cases hm:i<N
   ·omega
   ·have:c=1:=by omega
    have Bu:x=0:=by rw [hx];exact JB (by omega)
    have jk:y=0:=by rw [hy];exact JB (by omega)
    subst Bu;subst jk
    have:s0=1:=by rw [fQ,this];rfl
    subst this;omega
  have rN:dg (out++[((s0%1000000000:Nat):Int)]):=ik.2 ⟨mr,lP.2 (by omega)⟩;have Vc:(out++[((s0%1000000000:Nat):Int)]).length=i+1:=by simp [hlen]
  have ayi:i+1<=N\/s0/1000000000=0:=by
   by_cases hm:i<N
   ·exact .inl hm
   ·right
    have:c=1:=by omega
    have Bu:x=0:=by rw [hx];exact JB (by omega)
    have jk:y=0:=by rw [hy];exact JB (by omega)
    subst Bu;subst jk
    have:s0=1:=by rw [fQ,this];rfl
    subst this;rfl
  have fin:∃s',D P L pU s=some (.normal,s')/\bA [0,1,5,6,7] s'=⟨[(0,v),(1,w),(5,.ak 0 0 (i+1)),(6,aa (s0/1000000000:Nat)),(7,aa (i+1:Nat))],[(0,.cells true true false 1 ((out++[((s0%1000000000:Nat):Int)]).map aa))],1,0⟩:=by
   have three:((i:Int)<a.length)\/(¬(i:Int)<a.length/\(i:Int)<b.length)\/(¬(i:Int)<a.length/\¬(i:Int)<b.length/\(0:Int)<c):=by omega
   rcases three with t1 | ⟨t1,t2⟩ | ⟨t1,t2,t3⟩
   ·rcases hs with ⟨h0,rfl⟩ | ⟨h0,rfl⟩
    ·subst h0;have jA:out=[]:=yH hlen;subst jA
     simp only [go_sem,ya,yb,xK,yt,ye,yi,pU,hv.len,hv.ah,hw.ah,t1,e1,e2,wrap64 (n:=x+y) (by omega) (by omega),zD,wrap64 (n:=(s0:Int)) (by omega) (by omega),dK _ _ _ (show (1000000000:Int)≠0 by decide),eU _ _ _ (show (1000000000:Int)≠0 by decide),hr,hq,wrap64 (n:=((s0/1000000000:Nat):Int)) (by omega) (by omega),ki];refine ⟨_,rfl,?_⟩;rw [wrap64 (by omega) (by omega)];simp only [go_sem,ya,yb,av,az hv.pu,aE _ hv.pu,az hw.pu,aE _ hw.pu]<;>rfl
    ·simp only [go_sem,ya,yb,ye,yi,pU,hv.len,hv.ah,hw.ah,t1,e1,e2,wrap64 (n:=x+y) (by omega) (by omega),zD,wrap64 (n:=(s0:Int)) (by omega) (by omega),dK _ _ _ (show (1000000000:Int)≠0 by decide),hr]
     rw [jN (ex:=false) (pu:=true) (cs:=out.map aa) (by simp only [go_sem,ya]) (by rw [xm,hlen,yi]) (by omega) (by omega) (by decide) (by simp only [go_sem])]
     simp only [go_sem,ya,yb,eU _ _ _ (show (1000000000:Int)≠0 by decide),hq,wrap64 (n:=((s0/1000000000:Nat):Int)) (by omega) (by omega)];refine ⟨_,rfl,?_⟩;rw [wrap64 (by omega) (by omega),xt];simp only [go_sem,ya,yb,av,az hv.pu,aE _ hv.pu,az hw.pu,aE _ hw.pu]<;>rfl
   ·rcases hs with ⟨h0,rfl⟩ | ⟨h0,rfl⟩
    ·subst h0;have jA:out=[]:=yH hlen;subst jA
     simp only [go_sem,ya,yb,xK,yt,ye,yi,pU,hv.len,hv.ah,hw.len,hw.ah,t1,t2,e1,e2,wrap64 (n:=x+y) (by omega) (by omega),zD,wrap64 (n:=(s0:Int)) (by omega) (by omega),dK _ _ _ (show (1000000000:Int)≠0 by decide),eU _ _ _ (show (1000000000:Int)≠0 by decide),hr,hq,wrap64 (n:=((s0/1000000000:Nat):Int)) (by omega) (by omega),ki];refine ⟨_,rfl,?_⟩;rw [wrap64 (by omega) (by omega)];simp only [go_sem,ya,yb,av,az hv.pu,aE _ hv.pu,az hw.pu,aE _ hw.pu]<;>rfl
    ·simp only [go_sem,ya,yb,ye,yi,pU,hv.len,hv.ah,hw.len,hw.ah,t1,t2,e1,e2,wrap64 (n:=x+y) (by omega) (by omega),zD,wrap64 (n:=(s0:Int)) (by omega) (by omega),dK _ _ _ (show (1000000000:Int)≠0 by decide),hr]
     rw [jN (ex:=false) (pu:=true) (cs:=out.map aa) (by simp only [go_sem,ya]) (by rw [xm,hlen,yi]) (by omega) (by omega) (by decide) (by simp only [go_sem])]
     simp only [go_sem,ya,yb,eU _ _ _ (show (1000000000:Int)≠0 by decide),hq,wrap64 (n:=((s0/1000000000:Nat):Int)) (by omega) (by omega)];refine ⟨_,rfl,?_⟩;rw [wrap64 (by omega) (by omega),xt];simp only [go_sem,ya,yb,av,az hv.pu,aE _ hv.pu,az hw.pu,aE _ hw.pu]<;>rfl
   ·rcases hs with ⟨h0,rfl⟩ | ⟨h0,rfl⟩
    ·subst h0;have jA:out=[]:=yH hlen;subst jA
     simp only [go_sem,ya,yb,xK,yt,ye,yi,pU,hv.len,hv.ah,hw.len,hw.ah,t1,t2,t3,e1,e2,wrap64 (n:=x+y) (by omega) (by omega),zD,wrap64 (n:=(s0:Int)) (by omega) (by omega),dK _ _ _ (show (1000000000:Int)≠0 by decide),eU _ _ _ (show (1000000000:Int)≠0 by decide),hr,hq,wrap64 (n:=((s0/1000000000:Nat):Int)) (by omega) (by omega),ki];refine ⟨_,rfl,?_⟩;rw [wrap64 (by omega) (by omega)];simp only [go_sem,ya,yb,av,az hv.pu,aE _ hv.pu,az hw.pu,aE _ hw.pu]<;>rfl
    ·simp only [go_sem,ya,yb,ye,yi,pU,hv.len,hv.ah,hw.len,hw.ah,t1,t2,t3,e1,e2,wrap64 (n:=x+y) (by omega) (by omega),zD,wrap64 (n:=(s0:Int)) (by omega) (by omega),dK _ _ _ (show (1000000000:Int)≠0 by decide),hr]
     rw [jN (ex:=false) (pu:=true) (cs:=out.map aa) (by simp only [go_sem,ya]) (by rw [xm,hlen,yi]) (by omega) (by omega) (by decide) (by simp only [go_sem])]
     simp only [go_sem,ya,yb,eU _ _ _ (show (1000000000:Int)≠0 by decide),hq,wrap64 (n:=((s0/1000000000:Nat):Int)) (by omega) (by omega)];refine ⟨_,rfl,?_⟩;rw [wrap64 (by omega) (by omega),xt];simp only [go_sem,ya,yb,av,az hv.pu,aE _ hv.pu,az hw.pu,aE _ hw.pu]<;>rfl
  obtain ⟨s',f1,f2⟩:=fin;exact ⟨s',_,f1,aww,i+1,s0/1000000000,_,rfl,Vc,oz,rN,lW,by omega,ayi,.inr ⟨by omega,f2⟩⟩
 ·right
  have mq:c=0:=by omega
  subst mq;rw [xO,yZ,yK (by omega),yK (by omega)] at aR;rcases hs with ⟨h0,rfl⟩ | ⟨h0,rfl⟩
  ·simp only [go_sem,ya,pU,hv.len,hw.len,show ¬(i:Int)<a.length by omega,show ¬(i:Int)<b.length by omega,show ¬(0:Int)<((0:Nat):Int) by omega];exact ⟨_,_,rfl,by simp,_,out,rfl,mr,aR,by omega,.inl ⟨yH (by omega),by simp only [go_sem,ya],rfl⟩⟩
  ·simp only [go_sem,ya,pU,hv.len,hw.len,show ¬(i:Int)<a.length by omega,show ¬(i:Int)<b.length by omega,show ¬(0:Int)<((0:Nat):Int) by omega];exact ⟨_,_,rfl,by simp,_,out,rfl,mr,aR,by omega,.inr ⟨by omega,by rw [hlen];simp only [go_sem,ya],rfl⟩⟩
def ayj (h:Has P L 295 KX) (od:Has P L 302 zp) {v w:AV} {a b:List Int} (hv:bq v a) (hw:bq w b) (ha:dg a) (hb:dg b) (la:a.length<=20000000000) (lb:b.length<=20000000000):
  ∃r out,af P L 295 [v,w] r/\bq (shut r) out/\dg out/\dv out=dv a+dv b/\out.length<=max a.length b.length+1:=by
 have jz:∃out,af P L 295 [v,w] (if out=[] then .ae else .cR false 1 out.length (out.map aa))/\dg out/\dv out=dv a+dv b/\out.length<=max a.length b.length+1:=by
  unfold af;rw [aq h];simp only [go_sem,KX];generalize hq:D P L (.loop [0,1,5,6,7] pU) _=q;obtain ⟨ex,s,rfl,tm,out,rfl,hd,aR,hl,hs⟩:=bV hq (auW (P:=P) (L:=L) od hv hw ha hb (N:=max a.length b.length) (by omega) (by omega) (by omega) (2*(max a.length b.length))) ⟨0,0,[],by omega,rfl,by omega,rfl,by simp [dv],by omega,.inr rfl,.inl ⟨rfl,by simp only [go_sem,ya,av,az hv.pu,aE _ hv.pu,az hw.pu,aE _ hw.pu]<;>rfl⟩⟩
  refine ⟨out,?_,hd,aR,hl⟩;rcases hs with ⟨h0,h5,rfl⟩ | ⟨h0,h5,rfl⟩
  ·rw [yF h0];simp only [go_sem,av,h5]
  ·rw [yr (by intro e;subst e;simp at h0)];simp only [go_sem,yb,av,h5];exact Sh (Jy _ _ _) (by simp) (by decide)
 obtain ⟨out,g1,g2,g3,g4⟩:=jz;refine ⟨_,out,g1,?_,g2,g3,g4⟩
 split
 ·rename_i e;subst e;exact rk
 ·exact fN false out
end
end
section
open Go (IntKind)
section
variable {P:aI} {L:Lib}
def Wj (h:Has P L 296 zo) {v w:AV} {a b:List Int} (hv:bq v a) (hw:bq w b) (ha:dg a) (hb:dg b) (na:nz a) (nb:nz b) (la:a.length<=20000000000) (lb:b.length<=20000000000):
  af P L 296 [v,w] (aa (eE (dv a) (dv b))):=by
 unfold af;rw [aq h];by_cases hlen:a.length=b.length
 ·have key:=cg (P:=P) (L:=L) (live:=[0,1,5]) (a:=DR)
   (I:=fun k st=>∃j:Nat,st=⟨[(0,v),(1,w),(5,aa ((j:Int)-1))],[],0,0⟩/\j<=a.length/\j=k/\a.drop j=b.drop j)
   (Q:=fun ex st=>∃tm ct,st=⟨tm,[],ct,0⟩/\((ex= .ret/\ab tm 4=aa (eE (dv a) (dv b)))\/(ex= .exit 0/\a=b))) ?_
  ·simp only [go_sem,ya,zo,hv.len,hw.len,show (a.length:Int)=b.length by omega];generalize hq:D P L (.loop [0,1,5] DR) _=q;obtain ⟨ex,st,rfl,tm,ct,rfl,h2⟩:=bV hq (key a.length) ⟨a.length,by
    rw [wrap64 (by omega) (by omega)];rw [hlen]
    simp only [go_sem,ya,av,az hv.pu,aE _ hv.pu,az hw.pu,aE _ hw.pu]<;>rfl,yB _,rfl,by rw [xh (yB _),xh (by omega)]⟩
   rcases h2 with ⟨rfl,h2⟩ | ⟨rfl,h2⟩
   ·simp only [go_sem,h2]
   ·simp only [go_sem,av];subst h2;simp [eE]
  ·rintro k st ⟨j,rfl,hj,rfl,he⟩
   cases j with
   | zero=>
    right
    simp only [go_sem,ya,DR,show ¬(0:Int)<=((0:Nat):Int)-1 by omega];exact ⟨_,_,rfl,by simp,_,_,rfl,.inr ⟨rfl,by simpa using he⟩⟩
   | succ i=>
    have h1:i<a.length:=by omega
    have h2:i<b.length:=by omega
    have Hl:=adW ha hb h1 h2 he;have bm:=adW hb ha h2 h1 he.symm;by_cases c1:a[i]<b[i]
    ·right
     simp only [go_sem,ya,DR,show ((i+1:Nat):Int)-1=(i:Int) by omega,show (0:Int)<=(i:Int) by omega,hv.aY h1,hw.aY h2,c1];refine ⟨_,_,rfl,by simp,_,_,rfl,.inl ⟨rfl,?_⟩⟩;simp only [go_sem];unfold eE;rw [yF (Hl c1)]
    ·by_cases c2:b[i]<a[i]
     ·right
      simp only [go_sem,ya,DR,show ((i+1:Nat):Int)-1=(i:Int) by omega,show (0:Int)<=(i:Int) by omega,hv.aY h1,hw.aY h2,c1,c2];refine ⟨_,_,rfl,by simp,_,_,rfl,.inl ⟨rfl,?_⟩⟩;simp only [go_sem];unfold eE;rw [yr (by omega),yF (by omega)]
     ·left
      simp only [go_sem,ya,DR,show ((i+1:Nat):Int)-1=(i:Int) by omega,show (0:Int)<=(i:Int) by omega,hv.aY h1,hw.aY h2,c1,c2];refine ⟨_,i,rfl,by omega,i,?_,by omega,rfl,?_⟩
      ·rw [wrap64 (by omega) (by omega)];simp only [go_sem,ya,av,az hv.pu,aE _ hv.pu,az hw.pu,aE _ hw.pu]<;>rfl
      ·rw [yT h1,yT h2,he,show a[i]=b[i] by omega]
 ·by_cases c1:a.length<b.length
  ·have:=Ur ha nb hb c1
   simp only [go_sem,ya,zo,hv.len,hw.len,show ¬(a.length:Int)=b.length by omega,show (a.length:Int)<b.length by omega];unfold eE;rw [yF this]
  ·have:=Ur hb na ha (show b.length<a.length by omega)
   simp only [go_sem,ya,zo,hv.len,hw.len,show ¬(a.length:Int)=b.length by omega,show ¬(a.length:Int)<b.length by omega];unfold eE;rw [yr (by omega),yF this]
def apK {a b out:List Int} {i c:Nat} {x y z:Int} {c':Nat} (hx:x=a.getD i 0) (hy:y=b.getD i 0) (h1:0<=x) (h2:0<=y) (h3:0<=z) (hz:z=x-y-c+1000000000*c') (hl:out.length=i) (hv:dv out+dv (b.take i)=dv (a.take i)+1000000000^i*c):
  dv (out++[z])+dv (b.take (i+1))=dv (a.take (i+1))+1000000000^(i+1)*c':=by
 rw [pM,pM,mX,hl,<-hx,<-hy];simp only [dv,xO,yZ,xj];have e:z.toNat+y.toNat+c=x.toNat+1000000000*c':=by omega
 grind
end
end
section
open Go (IntKind)
section
variable {P:aI} {L:Lib}
def auX (od:Has P L 302 zp) {v w:AV} {a b:List Int} (hv:bq v a) (hw:bq w b) (ha:dg a) (hb:dg b) (la:a.length<=20000000000) (hle:dv b<=dv a) (BC:b.length<=a.length):
  ∀k s,(∃(i c:Nat) (out:List Int),i+k=a.length/\out.length=i/\c<=1/\dg out/\dv out+dv (b.take i)=dv (a.take i)+1000000000^i*c/\
    ((i=0/\bA [0,1,5,6,7] s=⟨[(0,v),(1,w),(5,.ae),(6,aa c),(7,aa i)],[],0,0⟩)\/
    (0<i/\bA [0,1,5,6,7] s=⟨[(0,v),(1,w),(5,.ak 0 0 i),(6,aa c),(7,aa i)],[(0,.cells true true false 1 (out.map aa))],1,0⟩)))->
   ∃ex s',D P L (.loop [0,1,5,6,7] sU) s=some (ex,s')/\∃tm out,ex= .exit 0/\dg out/\dv out+dv b=dv a/\out.length<=20000000000/\((out=[]/\ab tm 5= .ae/\s'=⟨tm,[],0,0⟩)\/(0<out.length/\ab tm 5= .ak 0 0 out.length/\s'=⟨tm,[(0,.cells true true false 1 (out.map aa))],1,0⟩)):=by
 refine cg (I:=fun k s=>∃(i c:Nat) (out:List Int),i+k=a.length/\out.length=i/\c<=1/\dg out/\dv out+dv (b.take i)=dv (a.take i)+1000000000^i*c/\
    ((i=0/\s=⟨[(0,v),(1,w),(5,.ae),(6,aa c),(7,aa i)],[],0,0⟩)\/
    (0<i/\s=⟨[(0,v),(1,w),(5,.ak 0 0 i),(6,aa c),(7,aa i)],[(0,.cells true true false 1 (out.map aa))],1,0⟩)))
  (Q:=fun ex s'=>∃tm out,ex= .exit 0/\dg out/\dv out+dv b=dv a/\out.length<=20000000000/\((out=[]/\ab tm 5= .ae/\s'=⟨tm,[],0,0⟩)\/(0<out.length/\ab tm 5= .ak 0 0 out.length/\s'=⟨tm,[(0,.cells true true false 1 (out.map aa))],1,0⟩))) ?_
 rintro k s ⟨i,c,out,hk,hlen,hc,mr,aR,hs⟩;have e2:=VU od hw i;unfold af at e2;have ga:=iD ha i;have gb:=iD hb i;by_cases zW:i<a.length
 ·left
  obtain ⟨x,hx⟩:∃x,x=a.getD i 0:=⟨_,rfl⟩;obtain ⟨y,hy⟩:∃y,y=b.getD i 0:=⟨_,rfl⟩;have E4:a[i]=x:=by rw [hx];simp [List.getD_eq_getElem?_getD,List.getElem?_eq_getElem zW]
  have e1:=hv.aY zW;rw [E4] at e1;rw [<-hx] at ga;rw [<-hy] at e2 gb;obtain ⟨z,c',hz,oz,mS,mN,Ea⟩:∃(z:Int) (c':Nat),z=x-y-c+1000000000*c'/\c'<=1/\0<=z/\z<1000000000/\((x-y-c<0/\c'=1)\/(¬x-y-c<0/\c'=0)):=by
   by_cases h:x-y-c<0
   ·exact ⟨x-y-c+1000000000,1,by omega,by omega,by omega,by omega,.inl ⟨h,rfl⟩⟩
   ·exact ⟨x-y-c,0,by omega,by omega,by omega,by omega,.inr ⟨h,rfl⟩⟩
  have lW:=apK hx hy ga.1 gb.1 mS hz hlen aR;have rN:dg (out++[z]):=ik.2 ⟨mr,lP.2 ⟨mS,mN⟩⟩;have Vc:(out++[z]).length=i+1:=by simp [hlen]
  have fin:∃s',D P L sU s=some (.normal,s')/\bA [0,1,5,6,7] s'=⟨[(0,v),(1,w),(5,.ak 0 0 (i+1)),(6,aa c'),(7,aa (i+1:Nat))],[(0,.cells true true false 1 ((out++[z]).map aa))],1,0⟩:=by
   rcases Ea with ⟨fY,rfl⟩ | ⟨fY,rfl⟩
   ·have fZ:x-y-c+1000000000=z:=by omega
    rcases hs with ⟨h0,rfl⟩ | ⟨h0,rfl⟩
    ·subst h0;have jA:out=[]:=yH hlen;subst jA
     simp only [go_sem,ya,yb,xK,yt,ye,yi,sU,hv.len,hw.ah,show ((0:Nat):Int)<a.length by omega,e1,e2,wrap64 (n:=x-y) (by omega) (by omega),wrap64 (n:=x-y-(c:Int)) (by omega) (by omega),fY,fZ,wrap64 (n:=z) (by omega) (by omega),ki];refine ⟨_,rfl,?_⟩;rw [wrap64 (by omega) (by omega)];simp only [go_sem,ya,yb,av,az hv.pu,aE _ hv.pu,az hw.pu,aE _ hw.pu]<;>rfl
    ·simp only [go_sem,ya,yb,ye,yi,sU,hv.len,hw.ah,show (i:Int)<a.length by omega,e1,e2,wrap64 (n:=x-y) (by omega) (by omega),wrap64 (n:=x-y-(c:Int)) (by omega) (by omega),fY,fZ,wrap64 (n:=z) (by omega) (by omega)]
     rw [jN (ex:=false) (pu:=true) (cs:=out.map aa) (by simp only [go_sem,ya]) (by rw [xm,hlen,yi]) (by omega) (by omega) (by decide) (by simp only [go_sem])];simp only [go_sem,ya,yb];refine ⟨_,rfl,?_⟩;rw [wrap64 (by omega) (by omega),xt];simp only [go_sem,ya,yb,av,az hv.pu,aE _ hv.pu,az hw.pu,aE _ hw.pu]<;>rfl
   ·have fZ:x-y-c=z:=by omega
    have fY:¬z<0:=by omega
    rcases hs with ⟨h0,rfl⟩ | ⟨h0,rfl⟩
    ·subst h0;have jA:out=[]:=yH hlen;subst jA
     simp only [go_sem,ya,yb,xK,yt,ye,yi,sU,hv.len,hw.ah,show ((0:Nat):Int)<a.length by omega,e1,e2,wrap64 (n:=x-y) (by omega) (by omega),fZ,wrap64 (n:=z) (by omega) (by omega),fY,ki];refine ⟨_,rfl,?_⟩;rw [wrap64 (by omega) (by omega)];simp only [go_sem,ya,yb,av,az hv.pu,aE _ hv.pu,az hw.pu,aE _ hw.pu]<;>rfl
    ·simp only [go_sem,ya,yb,ye,yi,sU,hv.len,hw.ah,show (i:Int)<a.length by omega,e1,e2,wrap64 (n:=x-y) (by omega) (by omega),fZ,wrap64 (n:=z) (by omega) (by omega),fY]
     rw [jN (ex:=false) (pu:=true) (cs:=out.map aa) (by simp only [go_sem,ya]) (by rw [xm,hlen,yi]) (by omega) (by omega) (by decide) (by simp only [go_sem])];simp only [go_sem,ya,yb];refine ⟨_,rfl,?_⟩;rw [wrap64 (by omega) (by omega),xt];simp only [go_sem,ya,yb,av,az hv.pu,aE _ hv.pu,az hw.pu,aE _ hw.pu]<;>rfl
  obtain ⟨s',f1,f2⟩:=fin;exact ⟨s',k-1,f1,by omega,i+1,c',_,by omega,Vc,oz,rN,lW,.inr ⟨by omega,f2⟩⟩
 ·right
  have ag8:dv out+dv b=dv a:=by
   rw [yK (by omega),yK (by omega)] at aR;have bm:=kD mr;rw [hlen] at bm;rcases (show c=0\/c=1 by omega) with rfl | rfl
   ·omega
   ·omega
  rcases hs with ⟨h0,rfl⟩ | ⟨h0,rfl⟩
  ·simp only [go_sem,ya,sU,hv.len,show ¬(i:Int)<a.length by omega];exact ⟨_,_,rfl,by simp,_,out,rfl,mr,ag8,by omega,.inl ⟨yH (by omega),by simp only [go_sem,ya],rfl⟩⟩
  ·simp only [go_sem,ya,sU,hv.len,show ¬(i:Int)<a.length by omega];exact ⟨_,_,rfl,by simp,_,out,rfl,mr,ag8,by omega,.inr ⟨by omega,by rw [hlen];simp only [go_sem,ya],rfl⟩⟩
def aid (h:Has P L 297 KY) (od:Has P L 302 zp) (dj:Has P L 300 mI) {v w:AV} {a b:List Int} (hv:bq v a) (hw:bq w b) (ha:dg a) (hb:dg b) (na:nz a) (nb:nz b) (la:a.length<=20000000000) (hle:dv b<=dv a):
  ∃r out,af P L 297 [v,w] r/\bq r out/\shut r=r/\dg out/\nz out/\dv out+dv b=dv a:=by
 have BC:b.length<=a.length:=by
  by_cases h:a.length<b.length
  ·have:=Ur ha nb hb h;omega
  ·omega
 unfold af;rw [aq h];simp only [go_sem,KY];generalize hq:D P L (.loop [0,1,5,6,7] sU) _=q;obtain ⟨ex,s,rfl,tm,out,rfl,hd,aR,hl,hs⟩:=bV hq (auX (P:=P) (L:=L) od hv hw ha hb la hle BC a.length) ⟨0,0,[],by omega,rfl,by omega,rfl,by simp [dv],.inl ⟨rfl,by simp only [go_sem,ya,av,az hv.pu,aE _ hv.pu,az hw.pu,aE _ hw.pu]<;>rfl⟩⟩
 have mO:=fN false out;rcases hs with ⟨h0,h5,rfl⟩ | ⟨h0,h5,rfl⟩
 ·subst h0;obtain ⟨r,e1,hr,gO⟩:=CF dj (v:= .ae) (l:=[]) rk (by simp);refine ⟨r,eH [],?_,hr,gO,rfl,rfl,by rw [Af];exact aR⟩
  simp only [go_sem,av,h5,e1,gO,hr.dM]
 ·obtain ⟨r,e1,hr,gO⟩:=CF dj mO hl;refine ⟨r,eH out,?_,hr,gO,BT hd,FJ out,by rw [Af];exact aR⟩
  have ig:∀hp:Hp,mJ 0 out.length (some (false,1,out.map aa,hp))=some (.aO false out.length (out.map aa),hp):=fun hp=>my false (by simp) (by decide)
  simp only [go_sem,yb,av,h5,ig,e1,gO,hr.dM]
end
end
end VE
