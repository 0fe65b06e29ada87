import Derived.Test.YtflgmingejdfnaaGreatDoorXav
import Derived.Test.YtflgmingejdfnaaGreatDoorXal
import Derived.Test.YtflgmingejdfnaaGreatDoorXap
import Derived.Test.YtflgmingejdfnaaGreatDoorXao
import Derived.Test.YtflgmingejdfnaaGreatDoorXan
set_option linter.all false
set_option maxRecDepth 100000
open Bool renaming not_true→y9
open Decidable renaming not_not→uF
open Int renaming add_zero→wL,tdiv_eq_ediv_of_nonneg→xu,tmod_eq_emod_of_nonneg→yT
open List renaming getD_eq_getElem?_getD→xk,length_append→yW,length_cons→yz,map_nil→wU,mem_map→wB,take_zero→tY
open Nat renaming mul_one→yh,reduceAdd→yc,reduceEqDiff→ya,reduceLT→yj,reduceLeDiff→yd,reduceMul→yo
open Rat renaming div_def→yaM
namespace VE
section
open Go (IntKind)
structure G3 (P:aA) (L:Lib):Prop where
 r:Rn P L
 st:Dd P L
 d:Wp P L
 h3:Has P L 3 c3
 h6:Has P L 6 c6
 n8:Has P L 10 iY
 gU:Has P L 20 CL
 h21:Has P L 21 F0
 gE:Has P L 30 ol
 GL:Has P L 58 Gc
 KP:Has P L 59 CR
 JU:Has P L 265 Fm
 zT:Has P L 480 po
 air:an P L 481 [] (.bool true)
def Yp {key:Int} {w:List Int}:jd key 3 w=jd key 6 w:=by
 unfold jd;rw [yD (show ¬((3:Int)<1\/(16:Int)<3) by decide),yD (show ¬((6:Int)<1\/(16:Int)<6) by decide)]
def OL:∀{l:List (List Int)},jM l=false->∀r,r∈l->bA (-1000) 1000 r=false
 | x::l,h,r,hr=>by
  rw [jM,Bool.or_eq_false_iff] at h;rcases List.mem_cons.1 hr with rfl | hr
  ·exact h.1
  ·exact OL h.2 r hr
def aeh {n:Nat} {f:Nat->Nat->Int} (h0:0<n) (h1:n<=16) (ho:jM (dK n f)=false):cF (dK n f)=0:=by
 unfold cF;rw [gY,yD (by omega),yD (by omega)]
 refine HP fun r hr=>⟨?_,fun x hx=>by
  obtain ⟨i,hi,rfl⟩:=List.getElem_of_mem hx
  exact sQ (OL ho r hr) i hi⟩
 simp only [dK,wB] at hr;obtain ⟨i,_,rfl⟩:=hr
 simp
def OM {key:Int} {w:List Int} {n:Nat} {i:Nat} (hn:0<n):eF key w (i/n*n+i%n)=eF key w i:=by
 rw [Nat.mul_comm,Nat.div_add_mod]
def kN (k:List (List Int)) (j i:Nat):Int:=a8 (fun i=>kv k j i) i
def mD (k:List (List Int)) (j:Nat):Int:=a8 (fun j=>kN k j k.length) j
def RN {k:List (List Int)} (hs:cy k.length (-100) 100 k=0) (j i:Nat): -(100*(i:Int))<=kN k j i/\kN k j i<=100*i:=AJ (fun i=>lA hs (by decide) j i) i
def P2 {k:List (List Int)} (hs:cy k.length (-100) 100 k=0) (hl:k.length<=3) (j:Nat): -(300*(j:Int))<=mD k j/\mD k j<=300*j:=AJ (fun j=>by have:=RN hs j k.length;omega) j
section
variable {P:aA} {L:Lib}
def agR {u v w:AV} {s t:List (List Int)} (hs:bK v s) (ht:bK w t) (pu:aG u=true) (s3:s.length=3) (sr:∀i (hi:i<s.length),s[i].length=3) (t6:t.length=6) (tr:∀i (hi:i<t.length),t[i].length=6) (he:∀i,i<9->kv s (i/3) (i%3)=kv t (i/6) (i%6)):
  ∀d st,(∃i:Nat,i+d=9/\bw [2,7,9,93] st=⟨[(2,u),(7,v),(9,w),(93,aa i)],[],0,0⟩)->
   ∃ex s',D P L (.loop [2,7,9,93] s8) st=some (ex,s')/\∃tm ct,s'=⟨tm,[],ct,0⟩/\ex= .exit 0/\ah tm 2=u/\ah tm 7=v:=by
 refine cG (I:=fun d st=>∃i:Nat,i+d=9/\st=⟨[(2,u),(7,v),(9,w),(93,aa i)],[],0,0⟩)
  (Q:=fun ex s'=>∃tm ct,s'=⟨tm,[],ct,0⟩/\ex= .exit 0/\ah tm 2=u/\ah tm 7=v) ?_
 rintro d st ⟨i,hd,rfl⟩;by_cases hi:i<9
 ·left
  have a1:i/3<s.length:=by omega
  have a2:i%3<s[i/3].length:=by rw [sr];omega
  have b1:i/6<t.length:=by omega
  have b2:i%6<t[i/6].length:=by rw [tr];omega
  obtain ⟨rv,rest,e1,e2⟩:=hs.a7 a1;obtain ⟨dJ,Jh,e3,e4⟩:=ht.a7 b1;have e5:=e1.a7 a2;have e6:=e3.a7 b2;rw [oY a1 a2] at e5;rw [oY b1 b2,<-he i hi] at e6;have q1:(i:Int).tdiv 3=((i/3:Nat):Int):=by rw [xu (by omega)];rfl
  have q2:(i:Int).tmod 3=((i%3:Nat):Int):=by rw [yT (by omega)];rfl
  have q3:(i:Int).tdiv 6=((i/6:Nat):Int):=by rw [xu (by omega)];rfl
  have q4:(i:Int).tmod 6=((i%6:Nat):Int):=by rw [yT (by omega)];rfl
  generalize kv s (i/3) (i%3)=x at*
  simp only [go_sem,ya,yc,yo,yj,yd,yh,s8,show (i:Int)<9 by omega,yE,er _ _ _ (show (3:Int)≠0 by decide),dw _ _ _ (show (3:Int)≠0 by decide),er _ _ _ (show (6:Int)≠0 by decide),dw _ _ _ (show (6:Int)≠0 by decide),q1,q2,q3,q4,wrap64 (n:=((i/3:Nat):Int)) (by omega) (by omega),wrap64 (n:=((i/6:Nat):Int)) (by omega) (by omega),e2,e4,e5,e6];refine ⟨_,d-1,rfl,by omega,i+1,by omega,?_⟩
  rw [show (i:Int)+1=((i+1:Nat):Int) from rfl,wrapN (n:=i+1) (by omega)];simp only [go_sem,ya,yc,yo,yj,yd,yh,aJ,aP pu,aS _ pu,aP hs.pu,aS _ hs.pu,aP ht.pu,aS _ ht.pu]<;>rfl
 ·right
  have:i=9:=by omega
  subst this;simp only [go_sem,ya,yc,yo,yj,yd,yh,s8,show ¬((9:Nat):Int)<9 by decide,yF];exact ⟨_,_,rfl,by simp,_,_,rfl,rfl,by simp only [go_sem,ya,yc,yo,yj,yd,yh],by simp only [go_sem,ya,yc,yo,yj,yd,yh]⟩
def agS {v rv:AV} {k:List (List Int)} {kw:AV} (hv:bK kw k) (pv:aG v=true) (m3:k.length<=3) (hs:cy k.length (-100) 100 k=0) {j:Nat} (hj:j<k.length) (hr:aX rv k[j]) (mt wt:List Nat) {T:Int} (hT: -1000<=T/\T<=1000):
  ∀d st,(∃i:Nat,i+d=k.length/\bw [7,20,22,24,179,180,181,185,186,187] st=⟨[(7,v),(20,.str mt),(22,.str wt),(24,aa (T+kN k j i)),(179,kw),(180,aa k.length),(181,aa j),(185,rv),(186,aa k.length),(187,aa i)],[],0,0⟩)->
   ∃ex s',D P L (.loop [7,20,22,24,179,180,181,185,186,187] Bk) st=some (ex,s')/\∃tm ct,s'=⟨tm,[],ct,0⟩/\ex= .exit 4/\ah tm 7=v/\ah tm 20= .str mt/\ah tm 22= .str wt/\ah tm 24=aa (T+kN k j k.length)/\ah tm 179=kw/\ah tm 180=aa k.length/\ah tm 181=aa j:=by
 refine cG (I:=fun d st=>∃i:Nat,i+d=k.length/\st=⟨[(7,v),(20,.str mt),(22,.str wt),(24,aa (T+kN k j i)),(179,kw),(180,aa k.length),(181,aa j),(185,rv),(186,aa k.length),(187,aa i)],[],0,0⟩)
  (Q:=fun ex s'=>∃tm ct,s'=⟨tm,[],ct,0⟩/\ex= .exit 4/\ah tm 7=v/\ah tm 20= .str mt/\ah tm 22= .str wt/\ah tm 24=aa (T+kN k j k.length)/\ah tm 179=kw/\ah tm 180=aa k.length/\ah tm 181=aa j) ?_
 rintro d st ⟨i,hd,rfl⟩;have KL:=(jx hs j hj).1;by_cases hi:i<k.length
 ·left
  have e1:=hr.a7 (show i<k[j].length by omega);rw [oY hj (by omega)] at e1;have b1:=RN hs j i;have b2:=lA hs (by decide) j i;have ajW:T+kN k j i+kv k j i=T+kN k j (i+1):=Int.add_assoc _ _ _
  simp only [go_sem,ya,yc,yo,yj,yd,yh,Bk,show (i:Int)<k.length by omega,e1,ajW,wrap64 (n:=T+kN k j (i+1)) (by omega) (by omega)];refine ⟨_,d-1,rfl,by omega,i+1,by omega,?_⟩
  rw [show (i:Int)+1=((i+1:Nat):Int) from rfl,wrapN (n:=i+1) (by omega)];simp only [go_sem,ya,yc,yo,yj,yd,yh,aJ,aP pv,aS _ pv,aP hv.pu,aS _ hv.pu,aP hr.pu,aS _ hr.pu]<;>rfl
 ·right
  have:i=k.length:=by omega
  subst this;simp only [go_sem,ya,yc,yo,yj,yd,yh,Bk,show ¬(k.length:Int)<k.length by omega]
  exact ⟨_,_,rfl,by simp,_,_,rfl,rfl,by simp only [go_sem,ya,yc,yo,yj,yd,yh],by simp only [go_sem,ya,yc,yo,yj,yd,yh],by simp only [go_sem,ya,yc,yo,yj,yd,yh],by simp only [go_sem,ya,yc,yo,yj,yd,yh],by simp only [go_sem,ya,yc,yo,yj,yd,yh],by simp only [go_sem,ya,yc,yo,yj,yd,yh],by simp only [go_sem,ya,yc,yo,yj,yd,yh]⟩
def agT {v:AV} {k:List (List Int)} {kw:AV} (hv:bK kw k) (pv:aG v=true) (m3:k.length<=3) (hs:cy k.length (-100) 100 k=0) (mt wt:List Nat):
  ∀d st,(∃j:Nat,j+d=k.length/\bw [7,20,22,24,179,180,181] st=⟨[(7,v),(20,.str mt),(22,.str wt),(24,aa (mD k j)),(179,kw),(180,aa k.length),(181,aa j)],[],0,0⟩)->
   ∃ex s',D P L (.loop [7,20,22,24,179,180,181] Bl) st=some (ex,s')/\∃tm ct,s'=⟨tm,[],ct,0⟩/\ex= .exit 2/\ah tm 7=v/\ah tm 20= .str mt/\ah tm 22= .str wt/\ah tm 24=aa (fG k):=by
 refine cG (I:=fun d st=>∃j:Nat,j+d=k.length/\st=⟨[(7,v),(20,.str mt),(22,.str wt),(24,aa (mD k j)),(179,kw),(180,aa k.length),(181,aa j)],[],0,0⟩)
  (Q:=fun ex s'=>∃tm ct,s'=⟨tm,[],ct,0⟩/\ex= .exit 2/\ah tm 7=v/\ah tm 20= .str mt/\ah tm 22= .str wt/\ah tm 24=aa (fG k)) ?_
 rintro d st ⟨j,hd,rfl⟩;by_cases hj:j<k.length
 ·left
  obtain ⟨rv,rest,e1,e2⟩:=hv.a7 hj;have KL:=(jx hs j hj).1;have b1:=P2 hs m3 j;simp only [go_sem,ya,yc,yo,yj,yd,yh,Bl,show (j:Int)<k.length by omega,e2,e1.len,e1.pu,e1.aE,e1.shut,e1.bg,e1.bF,e1.one,e1.cells,KL];generalize hq:D P L (.loop [7,20,22,24,179,180,181,185,186,187] Bk) _=q';obtain ⟨ex,st,rfl,tm,ct,rfl,rfl,t7,t20,t22,t24,t179,t180,t181⟩:=cm hq (agS (P:=P) (L:=L) hv pv m3 hs hj e1 mt wt (T:=mD k j) (by omega) k.length) ⟨0,by omega,by
   rw [show mD k j+kN k j 0=mD k j from wL _]
   simp only [go_sem,ya,yc,yo,yj,yd,yh,aJ,aP pv,aS _ pv,aP hv.pu,aS _ hv.pu,aP e1.pu,aS _ e1.pu]<;>rfl⟩
  rw [show mD k j+kN k j k.length=mD k (j+1) from rfl] at t24;simp only [go_sem,ya,yc,yo,yj,yd,yh,aJ,t7,t20,t22,t24,t179,t180,t181,aP pv,aS _ pv,aP hv.pu,aS _ hv.pu];refine ⟨_,d-1,rfl,by omega,j+1,by omega,?_⟩
  rw [show (j:Int)+1=((j+1:Nat):Int) from rfl,wrapN (n:=j+1) (by omega)];simp only [go_sem,ya,yc,yo,yj,yd,yh,aJ,aP pv,aS _ pv,aP hv.pu,aS _ hv.pu]<;>rfl
 ·right
  have:j=k.length:=by omega
  subst this;simp only [go_sem,ya,yc,yo,yj,yd,yh,Bl,show ¬(k.length:Int)<k.length by omega];exact ⟨_,_,rfl,by simp,_,_,rfl,rfl,by simp only [go_sem,ya,yc,yo,yj,yd,yh],by simp only [go_sem,ya,yc,yo,yj,yd,yh],by simp only [go_sem,ya,yc,yo,yj,yd,yh],by simp only [go_sem,ya,yc,yo,yj,yd,yh]<;>rfl⟩
def agU {v:AV} {s:List (List Int)} (hv:bK v s) (h5:s.length<=5) {r:Nat} {rv:AV} {l:List Int} (hl:aX rv l) (hl5:l.length<=5) (hb:∀c (hc:c<l.length),-1000<=l[c]/\l[c]<=1000) (mt wt:List Nat) (S:Int) {o:List AV}:
  ∀d st,(∃c:Nat,bw [7,20,22,24,29,32,196,197,198,202,203,204] st=⟨[(7,v),(20,.str mt),(22,.str wt),(24,aa S),(29,jV o),(32,oA o (ed (dV l c))),(196,v),(197,aa s.length),(198,aa r),(202,rv),(203,aa l.length),(204,aa c)],jb o (ed (dV l c)),ma o (ed (dV l c)),0⟩/\c+d=l.length)->
   ∃ex s',D P L (.loop [7,20,22,24,29,32,196,197,198,202,203,204] za) st=some (ex,s')/\∃tm ct,s'=⟨tm,jb o (ed (dV l l.length)),ct,0⟩/\ex= .exit 8/\ah tm 7=v/\ah tm 20= .str mt/\ah tm 22= .str wt/\ah tm 24=aa S/\ah tm 29=jV o/\ah tm 32=oA o (ed (dV l l.length))/\ah tm 196=v/\ah tm 197=aa s.length/\ah tm 198=aa r:=by
 refine cG (I:=fun d st=>∃c:Nat,st=⟨[(7,v),(20,.str mt),(22,.str wt),(24,aa S),(29,jV o),(32,oA o (ed (dV l c))),(196,v),(197,aa s.length),(198,aa r),(202,rv),(203,aa l.length),(204,aa c)],jb o (ed (dV l c)),ma o (ed (dV l c)),0⟩/\c+d=l.length)
  (Q:=fun ex s'=>∃tm ct,s'=⟨tm,jb o (ed (dV l l.length)),ct,0⟩/\ex= .exit 8/\ah tm 7=v/\ah tm 20= .str mt/\ah tm 22= .str wt/\ah tm 24=aa S/\ah tm 29=jV o/\ah tm 32=oA o (ed (dV l l.length))/\ah tm 196=v/\ah tm 197=aa s.length/\ah tm 198=aa r) ?_
 rintro d st ⟨c,rfl,Wn⟩;by_cases hc:c<l.length
 ·left
  have hx:=hl.a7 hc;have hbc:=hb c hc;have hlen:(ed (dV l c)).length=c:=P0 (by omega)
  suffices hh:∃s',D P L za ⟨[(7,v),(20,.str mt),(22,.str wt),(24,aa S),(29,jV o),(32,oA o (ed (dV l c))),(196,v),(197,aa s.length),(198,aa r),(202,rv),(203,aa l.length),(204,aa c)],jb o (ed (dV l c)),ma o (ed (dV l c)),0⟩=some (Ex.normal,s')/\bw [7,20,22,24,29,32,196,197,198,202,203,204] s'=⟨[(7,v),(20,.str mt),(22,.str wt),(24,aa S),(29,jV o),(32,oA o (ed (dV l (c+1)))),(196,v),(197,aa s.length),(198,aa r),(202,rv),(203,aa l.length),(204,aa ((c+1:Nat):Int))],jb o (ed (dV l (c+1))),ma o (ed (dV l (c+1))),0⟩ by
   obtain ⟨s',e1,e2⟩:=hh;exact ⟨s',d-1,e1,by omega,c+1,e2,by omega⟩
  rw [aip hc];generalize ed (dV l c)=q at hlen;generalize l[c]=x at hx hbc;cases o<;>cases q
  all_goals
   try simp only [yz] at hlen
   simp only [go_sem,ya,yc,yo,yj,yd,yh,za,kD,kE,kF,kg,kh,ki,kj,km,ko,kq,ku,kx,ky,hl.len,hl.pu,hl.aE,hl.shut,hl.bg,hl.bF,hl.one,hl.cells,show (c:Int)<l.length by omega,hx,Int.zero_sub,wrap64 (n:= -x) (by omega) (by omega),mq]
   first
    | (rw [mr (ex:=false) (pu:=true) (sz:=1) (by simp only [go_sem,ya,yc,yo,yj,yd,yh];rfl) (by simp) (by omega) (by omega) (by decide) (by simp only [go_sem,ya,yc,yo,yj,yd,yh])];simp only [go_sem,ya,yc,yo,yj,yd,yh])
    | skip
   refine ⟨_,rfl,?_⟩
   rw [show (c:Int)+1=((c+1:Nat):Int) from rfl,wrapN (n:=c+1) (by omega)];simp only [go_sem,ya,yc,yo,yj,yd,yh,aJ,aP hv.pu,aS _ hv.pu,aP hl.pu,aS _ hl.pu,kD,kE,kF,kg,kh,ki,kj,km,ko,kq,ku,kx,ky,yW]<;>rfl
 ·right
  have:c=l.length:=by omega
  subst this;simp only [go_sem,ya,yc,yo,yj,yd,yh,za,hl.len,hl.pu,hl.aE,hl.shut,hl.bg,hl.bF,hl.one,hl.cells,show ¬(l.length:Int)<l.length by omega]
  exact ⟨_,_,rfl,by simp,_,_,rfl,rfl,by simp only [go_sem,ya,yc,yo,yj,yd,yh],by simp only [go_sem,ya,yc,yo,yj,yd,yh],by simp only [go_sem,ya,yc,yo,yj,yd,yh],by simp only [go_sem,ya,yc,yo,yj,yd,yh],by simp only [go_sem,ya,yc,yo,yj,yd,yh],by simp only [go_sem,ya,yc,yo,yj,yd,yh],by simp only [go_sem,ya,yc,yo,yj,yd,yh],by simp only [go_sem,ya,yc,yo,yj,yd,yh],by simp only [go_sem,ya,yc,yo,yj,yd,yh]⟩
def agV {v:AV} {s:List (List Int)} (hv:bK v s) (hz:cF s=0) (h5:s.length<=5) (mt wt:List Nat) (S:Int):
  ∀d st,(∃r:Nat,bw [7,20,22,24,29,196,197,198] st=⟨[(7,v),(20,.str mt),(22,.str wt),(24,aa S),(29,jV (eO s r)),(196,v),(197,aa s.length),(198,aa r)],jb (eO s r) [],ma (eO s r) [],0⟩/\r+d=s.length)->
   ∃ex s',D P L (.loop [7,20,22,24,29,196,197,198] Bm) st=some (ex,s')/\∃tm ct,s'=⟨tm,jb (eO s s.length) [],ct,0⟩/\ex= .exit 6/\ah tm 7=v/\ah tm 20= .str mt/\ah tm 22= .str wt/\ah tm 24=aa S/\ah tm 29=jV (eO s s.length):=by
 refine cG (I:=fun d st=>∃r:Nat,st=⟨[(7,v),(20,.str mt),(22,.str wt),(24,aa S),(29,jV (eO s r)),(196,v),(197,aa s.length),(198,aa r)],jb (eO s r) [],ma (eO s r) [],0⟩/\r+d=s.length)
  (Q:=fun ex s'=>∃tm ct,s'=⟨tm,jb (eO s s.length) [],ct,0⟩/\ex= .exit 6/\ah tm 7=v/\ah tm 20= .str mt/\ah tm 22= .str wt/\ah tm 24=aa S/\ah tm 29=jV (eO s s.length)) ?_
 obtain ⟨a1,a2,a3⟩:=oE hz;rintro d st ⟨r,rfl,gT⟩;by_cases hr:r<s.length
 ·obtain ⟨rv,rest,bG,dA⟩:=hv.a7 hr;obtain ⟨rl,ro⟩:=jx a3 r hr;simp only [go_sem,ya,yc,yo,yj,yd,yh,Bm,hv.len,hv.pu,hv.aE,hv.shut,hv.bg,hv.bF,hv.one,hv.cells,show (r:Int)<s.length by omega,dA,bG.len,bG.pu,bG.aE,bG.shut,bG.bg,bG.bF,bG.one,bG.cells];generalize hq:D P L (.loop [7,20,22,24,29,32,196,197,198,202,203,204] za) _=q';obtain ⟨ex,st,rfl,tm,ct,rfl,rfl,g7,g20,g22,g24,Df,Aw,UQ,UR,US⟩:=cm hq (agU (P:=P) (L:=L) hv h5 (r:=r) bG (by omega) (fun c hc=>by have:=lA a3 (by decide) r c;rw [oY hr hc];exact this) mt wt S (o:=eO s r) s[r].length) ⟨0,by
   generalize eO s r=o;simp only [dV,tY,wU,ed]
   cases o<;>simp only [go_sem,ya,yc,yo,yj,yd,yh,aJ,kD,kE,kF,kg,kh,ki,kj,km,ko,kq,ku,kx,ky,aP hv.pu,aS _ hv.pu,aP bG.pu,aS _ bG.pu]<;>rfl,by omega⟩
  left
  have hlen:(eO s r).length=r:=aee (by omega);have ie:(ed (dV s[r] s[r].length)).length=s[r].length:=P0 (Nat.le_refl _);have KM:kJ (s[r].map fun x=> -x)= .aC false s[r].length (ed (dV s[r] s[r].length)):=by rw [aed];simp [kJ,ed]
  suffices hh:∃s',_=some (Ex.normal,s')/\bw [7,20,22,24,29,196,197,198] s'=⟨[(7,v),(20,.str mt),(22,.str wt),(24,aa S),(29,jV (eO s (r+1))),(196,v),(197,aa s.length),(198,aa ((r+1:Nat):Int))],jb (eO s (r+1)) [],ma (eO s (r+1)) [],0⟩ by
   obtain ⟨s',e1,e2⟩:=hh;exact ⟨s',d-1,e1,by omega,r+1,e2,by omega⟩
  rw [aiq hr,KM];generalize Gy:ed (dV s[r] s[r].length)=q at ie Aw;generalize hoo:eO s r=o at hlen Df Aw;rw [rl] at ie ⊢;cases o<;>cases q
  ·simp at ie;omega
  ·simp only [kD,kE,kF,kg,kh,ki,kj,km,ko,kq,ku,kx,ky] at Df Aw
   try simp only [yz] at hlen ie
   simp only [go_sem,ya,yc,yo,yj,yd,yh,kD,kE,kF,kg,kh,ki,kj,km,ko,kq,ku,kx,ky,aJ,g7,g20,g22,g24,Df,Aw,UQ,UR,US,aP hv.pu,aS _ hv.pu,mq,ie,jz];refine ⟨_,rfl,?_⟩
   rw [show (r:Int)+1=((r+1:Nat):Int) from rfl,wrapN (n:=r+1) (by omega)];simp only [go_sem,ya,yc,yo,yj,yd,yh,aJ,aP hv.pu,aS _ hv.pu,kD,kE,kF,kg,kh,ki,kj,km,ko,kq,ku,kx,ky,yW,ie]<;>rfl
  ·simp at ie;omega
  ·simp only [kD,kE,kF,kg,kh,ki,kj,km,ko,kq,ku,kx,ky] at Df Aw
   try simp only [yz] at hlen ie
   simp only [go_sem,ya,yc,yo,yj,yd,yh,kD,kE,kF,kg,kh,ki,kj,km,ko,kq,ku,kx,ky,aJ,g7,g20,g22,g24,Df,Aw,UQ,UR,US,aP hv.pu,aS _ hv.pu,mq,ie,jz]
   rw [mr (ex:=false) (pu:=true) (sz:=1) (by simp only [go_sem,ya,yc,yo,yj,yd,yh];rfl) (by simp) (by omega) (by omega) (by decide) (by simp only [go_sem,ya,yc,yo,yj,yd,yh])]
   simp only [go_sem,ya,yc,yo,yj,yd,yh];refine ⟨_,rfl,?_⟩
   rw [show (r:Int)+1=((r+1:Nat):Int) from rfl,wrapN (n:=r+1) (by omega)];simp only [go_sem,ya,yc,yo,yj,yd,yh,aJ,aP hv.pu,aS _ hv.pu,kD,kE,kF,kg,kh,ki,kj,km,ko,kq,ku,kx,ky,yW,ie]<;>rfl
 ·right
  have:r=s.length:=by omega
  subst this;simp only [go_sem,ya,yc,yo,yj,yd,yh,Bm,hv.len,hv.pu,hv.aE,hv.shut,hv.bg,hv.bF,hv.one,hv.cells,show ¬(s.length:Int)<s.length by omega];exact ⟨_,_,rfl,by simp,_,_,rfl,rfl,by simp only [go_sem,ya,yc,yo,yj,yd,yh],by simp only [go_sem,ya,yc,yo,yj,yd,yh],by simp only [go_sem,ya,yc,yo,yj,yd,yh],by simp only [go_sem,ya,yc,yo,yj,yd,yh],by simp only [go_sem,ya,yc,yo,yj,yd,yh]⟩
end
end
section
open Go (IntKind)
def SR {n:Nat} {f:Nat->Nat->Int} {r c:Nat} (hr:r<n) (hc:c<n):kv (dK n f) r c=f c r:=by
 unfold kv;rw [xk,xk,List.getElem?_eq_getElem (show r<(dK n f).length by rw [gY];exact hr),Option.getD_some,sW hr,List.getElem?_map,List.getElem?_range hc]
 rfl
def aei {key:Int} {w:List Int} (ho:bA 0 1000 w=false) (h0:b6 w≠0) (hl:w.length<=33) (k:Nat): -1000<=eF key w k/\eF key w k<=1000:=by
 have h1:=(sL ho).1;have h2:=Int.emod_nonneg (mB key (k+1)) h0;have h3:=Int.emod_lt_of_pos (mB key (k+1)) (show 0<b6 w by omega);have h4:=Ok h3 h2;unfold eF;omega
section
variable {P:aA} {L:Lib}
def WT (h:G3 P L) {w kw:AV} {l:List Int} {k:List (List Int)} (hw:aX w l) (hk:bK kw k) (key:Int):an P L 480 [aa key,w,kw] (.bool true):=by
 have ea:=h.air;have Ax:=s6 h.h6 h.gE hw key 6;have FH:=s10 h.n8 h.gE hk;unfold an at ea Ax FH;by_cases g1:9<l.length
 ·unfold an;rw [aT h.zT];simp only [go_sem,ya,yc,yo,yj,yd,yh,po,hw.len,hw.pu,hw.aE,hw.shut,hw.bg,hw.bF,hw.one,hw.cells,hk.len,hk.pu,hk.aE,hk.shut,hk.bg,hk.bF,hk.one,hk.cells,ea,show (9:Int)<(l.length:Int) by omega]
 by_cases g2:jd key 6 l≠0
 ·unfold an;rw [aT h.zT];simp only [go_sem,ya,yc,yo,yj,yd,yh,po,hw.len,hw.pu,hw.aE,hw.shut,hw.bg,hw.bF,hw.one,hw.cells,hk.len,hk.pu,hk.aE,hk.shut,hk.bg,hk.bF,hk.one,hk.cells,ea,Ax,show ¬(9:Int)<(l.length:Int) by omega,g2]
 have g2:jd key 6 l=0:=uF.1 g2;by_cases g3:3<k.length
 ·unfold an;rw [aT h.zT];simp only [go_sem,ya,yc,yo,yj,yd,yh,po,hw.len,hw.pu,hw.aE,hw.shut,hw.bg,hw.bF,hw.one,hw.cells,hk.len,hk.pu,hk.aE,hk.shut,hk.bg,hk.bF,hk.one,hk.cells,ea,Ax,show ¬(9:Int)<(l.length:Int) by omega,g2,show (3:Int)<(k.length:Int) by omega]
 by_cases g4:jY k≠0
 ·unfold an;rw [aT h.zT];simp only [go_sem,ya,yc,yo,yj,yd,yh,po,hw.len,hw.pu,hw.aE,hw.shut,hw.bg,hw.bF,hw.one,hw.cells,hk.len,hk.pu,hk.aE,hk.shut,hk.bg,hk.bF,hk.one,hk.cells,ea,Ax,FH,show ¬(9:Int)<(l.length:Int) by omega,g2,show ¬(3:Int)<(k.length:Int) by omega,g4]
 have g4:jY k=0:=uF.1 g4;obtain ⟨⟨ky1,ky2⟩,lw,anZ,lo,ajX⟩:=W2 g2;obtain ⟨kp,k5,an0,Lk⟩:=LC g4;have db:=aei (key:=key) lo ajX lw;obtain ⟨n3,hn3,_,_,GN⟩:=(s5 h.d hw (by omega) key 3).2 (by rw [Yp];exact g2)
 obtain ⟨n6,hn6,_,_,GO⟩:=(s5 h.d hw (by omega) key 6).2 g2;obtain rfl:n3=3:=by omega
 obtain rfl:n6=6:=by omega
 have hS:bK (eS (fun c r=>aa (eF key l (r*3+c))) 3) (dK 3 (fun c r=>eF key l (r*3+c))):=qZ (n:=3) (fun c r=>eF key l (r*3+c));have hB:bK (eS (fun c r=>aa (eF key l (r*6+c))) 6) (dK 6 (fun c r=>eF key l (r*6+c))):=qZ (n:=6) (fun c r=>eF key l (r*6+c));have zS:cF (dK 3 (fun c r=>eF key l (r*3+c)))=0:=Bb (by decide) (by decide) (fun c r=>db _);have zB:cF (dK 6 (fun c r=>eF key l (r*6+c)))=0:=Bb (by decide) (by decide) (fun c r=>db _);have lS:(dK 3 (fun c r=>eF key l (r*3+c))).length=3:=gY _ _;have lB:(dK 6 (fun c r=>eF key l (r*6+c))).length=6:=gY _ _;have he:∀i,i<9->kv (dK 3 (fun c r=>eF key l (r*3+c))) (i/3) (i%3)=kv (dK 6 (fun c r=>eF key l (r*6+c))) (i/6) (i%6):=fun i hi=>by
  rw [SR (by omega) (by omega),SR (by omega) (by omega),OM (by decide),OM (by decide)]
 generalize eS (fun c r=>aa (eF key l (r*3+c))) 3=v at*
 generalize eS (fun c r=>aa (eF key l (r*6+c))) 6=u at*
 generalize dK 3 (fun c r=>eF key l (r*3+c))=s at*
 generalize dK 6 (fun c r=>eF key l (r*6+c))=t at*
 have Wy:(s.length:Int)=3:=by omega
 have Wz:(t.length:Int)=6:=by omega
 have cS:=q8 hS zS;have cB:=q8 hB zB;obtain ⟨a1,a2,a3⟩:=oE zS;have Dg:=s3 h.h3 h.gE hS;have Dh:=s3 h.h3 h.gE hB;rw [zS] at Dg;rw [zB] at Dh;have hl:s.length<=1000000:=by omega
 have hr:∀i (hi:i<s.length),s[i].length<=1000000:=fun i hi=>by rw [cS.row i hi];exact hl
 have pX:k.length<=1000000:=by omega
 have dj:∀i (hi:i<k.length),k[i].length<=1000000:=fun i hi=>by rw [(jx Lk i hi).1];exact pX
 have f0:=agR (P:=P) (L:=L) hS hB hk.pu lS (fun i hi=>by rw [cS.row i hi,lS]) lB (fun i hi=>by rw [cB.row i hi,lB]) he 9;have e9:=(s9 h.d.toSmP hS hk hl hr pX dj).2 (by rw [zS,g4];rfl)
 cases mH:jM (ze s k s.length s.length) with
 | true=>
  rw [mH,yS rfl] at e9;unfold an at GN GO Dg Dh e9 ⊢;rw [aT h.zT];simp only [go_sem,ya,yc,yo,yj,yd,yh,po,hw.len,hw.pu,hw.aE,hw.shut,hw.bg,hw.bF,hw.one,hw.cells,hk.len,hk.pu,hk.aE,hk.shut,hk.bg,hk.bF,hk.one,hk.cells,hS.len,hS.pu,hS.aE,hS.shut,hS.bg,hS.bF,hS.one,hS.cells,hB.len,hB.pu,hB.aE,hB.shut,hB.bg,hB.bF,hB.one,hB.cells,Wy,Wz,yE,y9,ea,Ax,FH,show ¬(9:Int)<(l.length:Int) by omega,g2,show ¬(3:Int)<(k.length:Int) by omega,g4,GN,GO,Dg,Dh,wL,show IntKind.wrap .i64 0=0 from rfl];generalize hq:D P L (.loop [2,7,9,93] s8) _=q
  obtain ⟨ex,st,rfl,tm,ct,rfl,rfl,t2,t7⟩:=cm hq f0 ⟨0,by omega,by simp only [go_sem,ya,yc,yo,yj,yd,yh,aJ,aP hk.pu,aS _ hk.pu,aP hS.pu,aS _ hS.pu,aP hB.pu,aS _ hB.pu]<;>rfl⟩
  simp only [go_sem,ya,yc,yo,yj,yd,yh,aJ,t2,t7,aP hk.pu,aS _ hk.pu,aP hS.pu,aS _ hS.pu,hk.len,hk.pu,hk.aE,hk.shut,hk.bg,hk.bF,hk.one,hk.cells,hS.len,hS.pu,hS.aE,hS.shut,hS.bg,hS.bF,hS.one,hS.cells,e9,ea,Int.reduceEq,yE,yF]
 | false=>
  rw [mH,yD (by decide)] at e9;have hM:bK (eS (fun c r=>aa (gI s k c r)) s.length) (fw s k):=qZ (n:=s.length) (fun c r=>gI s k c r);have zM:cF (fw s k)=0:=aeh a1 a2 mH;generalize eS (fun c r=>aa (gI s k c r)) s.length=M at*
  have cM:=q8 hM zM;have lM:(fw s k).length=s.length:=gY _ _;have sh:Da P L:={toSmP:=h.d.toSmP,gU:=h.gU,GK:=h.st.GK,GL:=h.GL,jv:=h.d.jv};have F1:de 1=0:=by decide
  have F2:de 2=0:=by decide
  have UT:=(Wr sh hM (by omega) (fun i hi=>by rw [cM.row i hi,lM];omega) 1 2).2 (by rw [zM,F1,F2];rfl)
  have hA:bK (eS (fun c r=>aa (bB (fw s k) (c-1) (r-2))) (fw s k).length) (dP (fw s k) 1 2):=qZ (n:=(fw s k).length) (fun c r=>bB (fw s k) (c-1) (r-2));generalize eS (fun c r=>aa (bB (fw s k) (c-1) (r-2))) (fw s k).length=A at*
  have UU:=(Wr sh hS hl hr 1 2).2 (by rw [zS,F1,F2];rfl)
  have hb:bK (eS (fun c r=>aa (bB s (c-1) (r-2))) s.length) (dP s 1 2):=qZ (n:=s.length) (fun c r=>bB s (c-1) (r-2));have zb:cF (dP s 1 2)=0:=Bb a1 a2 (fun c r=>cS.cI _ _);generalize eS (fun c r=>aa (bB s (c-1) (r-2))) s.length=b at*
  have lb:(dP s 1 2).length=s.length:=DQ 1 2;have cb:=q8 hb zb;have WA:=aio (s:=s) (k:=k) a1 1 2;have Ll:=(s9 h.d.toSmP hb hk (by omega) (fun i hi=>by rw [cb.row i hi,lb];omega) pX dj).2 (by rw [zb,g4];rfl)
  have ais:jM (ze (dP s 1 2) k (dP s 1 2).length (dP s 1 2).length)=false:=by
   show jM (fw (dP s 1 2) k)=false
   rw [WA];refine OK fun r hr x hx=>?_
   simp only [dP,dK,wB] at hr;obtain ⟨i,_,rfl⟩:=hr;obtain ⟨j,_,rfl⟩:=wB.1 hx;exact cM.cI _ _
  rw [ais,yD (by decide)] at Ll;have hC:bK (eS (fun c r=>aa (gI (dP s 1 2) k c r)) (dP s 1 2).length) (fw (dP s 1 2) k):=qZ (n:=(dP s 1 2).length) (fun c r=>gI (dP s 1 2) k c r);generalize eS (fun c r=>aa (gI (dP s 1 2) k c r)) (dP s 1 2).length=Cc at*
  have WB:=s21 h.h21 h.KP hA hC (by rw [DQ,lM];exact hl) (fun i hi=>by
   have zA:cF (dP (fw s k) 1 2)=0:=Bb (by rw [lM];exact a1) (by rw [lM];exact a2) (fun c r=>cM.cI _ _)
   rw [(q8 hA zA).row i hi,DQ,lM];exact hl) WA.symm
  have m1:=Ww h.st hS zS;have m2:=Ww h.st hM zM;have aM:bY (fw s k)=bY s:=by unfold bY;rw [lM]
  rw [aM,agQ a1] at m2;have hAr:=sN a1 a2;have bk:=P2 Lk (by omega) k.length;change -(300*(k.length:Int))<=fG k/\fG k<=300*(k.length:Int) at bk
  have b1:(cJ s).natAbs<=256000:=(ajV a1 a2 a3).2.2;have bks:(fG k*cJ s).natAbs<1099511627776:=by
   rw [Int.natAbs_mul]
   have:(fG k).natAbs*(cJ s).natAbs<=900*256000:=Nat.mul_le_mul (by omega) b1
   omega
  have k1:Hq 80 ((cJ s:Rat)/(bY s:Rat)):=SQ (by omega) (by omega);have k2:Hq 80 (((fG k*cJ s:Int):Rat)/(bY s:Rat)):=SQ bks (by omega);have l1:=IZ k1;have l2:=IZ k2;have c1:=UL h.r.toRm (s:=fD (cJ s) (bY s)) (by unfold fD;omega);have c2:=UL h.r.toRm (s:=fD (fG k*cJ s) (bY s)) (by unfold fD;omega);rw [show gV (fD (cJ s) (bY s))=0 from RI k1 (by decide)] at c1;rw [show gV (fD (fG k*cJ s) (bY s))=0 from RI k2 (by decide)] at c2;have kk:Hq 40 (fG k:Rat):=I0 (by omega);have n1:=aid h.r.toRm h.JU (n:=fG k) (by omega);have n2:=aif h.r kk k1 (by decide);have hmul:(fG k:Rat)*((cJ s:Rat)/(bY s:Rat))=((fG k*cJ s:Int):Rat)/(bY s:Rat):=by
   rw [Rat.intCast_mul (fG k),yaM,yaM,Rat.mul_assoc]
  rw [hmul] at n2;change an P L 267 [_,.str (fD (cJ s) (bY s))] (.str (fD (fG k*cJ s) (bY s))) at n2
  have hN:=agt false (iD s);have zN:=aeg zS;rw [sR] at hN;have d1:=Wv h.st hS zS (a:=1) (b:=1) (by decide) (by decide);have d2:=Wv h.st hN zN (a:=1) (b:=1) (by decide) (by decide);have aN:bY (iD s)=bY s:=by unfold bY;rw [sR]
  rw [aN,ab4] at d2;have hlen:((iD s).map kJ).length=s.length:=by rw [List.length_map,sR]
  have f2:=agT (P:=P) (L:=L) hk hS.pu (by omega) Lk (fD (cJ s) (bY s)) (fD (fG k*cJ s) (bY s)) k.length;have f4:=agV (P:=P) (L:=L) hS zS (by omega) (fD (cJ s) (bY s)) (fD (fG k*cJ s) (bY s)) (fG k) s.length;rw [aef] at f4;generalize fD (nY s 1 1) (bY s)=td at*
  generalize fD (cJ s) (bY s)=lT at*
  generalize fD (fG k*cJ s) (bY s)=tn at*
  generalize RT (fG k:Rat)=tk at*
  generalize (iD s).map kJ=o at*
  unfold an at GN GO Dg Dh e9 UT UU Ll WB m1 m2 c1 c2 n1 n2 d1 d2 ⊢;rw [aT h.zT];simp only [go_sem,ya,yc,yo,yj,yd,yh,po,hw.len,hw.pu,hw.aE,hw.shut,hw.bg,hw.bF,hw.one,hw.cells,hk.len,hk.pu,hk.aE,hk.shut,hk.bg,hk.bF,hk.one,hk.cells,hS.len,hS.pu,hS.aE,hS.shut,hS.bg,hS.bF,hS.one,hS.cells,hB.len,hB.pu,hB.aE,hB.shut,hB.bg,hB.bF,hB.one,hB.cells,Wy,Wz,yE,y9,ea,Ax,FH,show ¬(9:Int)<(l.length:Int) by omega,g2,show ¬(3:Int)<(k.length:Int) by omega,g4,GN,GO,Dg,Dh,wL,show IntKind.wrap .i64 0=0 from rfl];generalize hq:D P L (.loop [2,7,9,93] s8) _=q
  obtain ⟨ex,st,rfl,tm,ct,rfl,rfl,t2,t7⟩:=cm hq f0 ⟨0,by omega,by simp only [go_sem,ya,yc,yo,yj,yd,yh,aJ,aP hk.pu,aS _ hk.pu,aP hS.pu,aS _ hS.pu,aP hB.pu,aS _ hB.pu]<;>rfl⟩
  simp only [go_sem,ya,yc,yo,yj,yd,yh,aJ,t2,t7,aP hk.pu,aS _ hk.pu,aP hS.pu,aS _ hS.pu,hk.len,hk.pu,hk.aE,hk.shut,hk.bg,hk.bF,hk.one,hk.cells,hS.len,hS.pu,hS.aE,hS.shut,hS.bg,hS.bF,hS.one,hS.cells,hM.len,hM.pu,hM.aE,hM.shut,hM.bg,hM.bF,hM.one,hM.cells,hA.len,hA.pu,hA.aE,hA.shut,hA.bg,hA.bF,hA.one,hA.cells,hb.len,hb.pu,hb.aE,hb.shut,hb.bg,hb.bF,hb.one,hb.cells,hC.len,hC.pu,hC.aE,hC.shut,hC.bg,hC.bF,hC.one,hC.cells,e9,UT,UU,Ll,m1,m2,WB,c1,c2,wL,show IntKind.wrap .i64 0=0 from rfl,y9];generalize hq:D P L (.loop [7,20,22,24,179,180,181] Bl) _=q;obtain ⟨ex,st,rfl,tm,ct,rfl,rfl,t7,t20,t22,t24⟩:=cm hq f2 ⟨0,by omega,by
   rw [show mD k 0=0 from rfl]
   simp only [go_sem,ya,yc,yo,yj,yd,yh,aJ,aP hk.pu,aS _ hk.pu,aP hS.pu,aS _ hS.pu]<;>rfl⟩
  simp only [go_sem,ya,yc,yo,yj,yd,yh,aJ,t7,t20,t22,t24,aP hk.pu,aS _ hk.pu,aP hS.pu,aS _ hS.pu,hS.len,hS.pu,hS.aE,hS.shut,hS.bg,hS.bF,hS.one,hS.cells];generalize hq:D P L (.loop [7,20,22,24,29,196,197,198] Bm) _=q;obtain ⟨ex,st,rfl,tm,ct,rfl,rfl,t7,t20,t22,t24,t29⟩:=cm hq f4 ⟨0,by
   simp only [eO,tY,wU]
   simp only [go_sem,ya,yc,yo,yj,yd,yh,aJ,kD,kE,kF,kg,kh,ki,kj,km,ko,kq,ku,kx,ky,aP hS.pu,aS _ hS.pu]<;>rfl,by omega⟩
  cases o with
  | nil=>simp at hlen;omega
  | cons x o=>
   simp only [kD,kE,kF,kg,kh,ki,kj,km,ko,kq,ku,kx,ky] at t29 ⊢;simp only [yz] at hlen;simp only [go_sem,ya,yc,yo,yj,yd,yh,aJ,kD,kE,kF,kg,kh,ki,kj,km,ko,kq,ku,kx,ky,aP hS.pu,aS _ hS.pu,hS.len,hS.pu,hS.aE,hS.shut,hS.bg,hS.bF,hS.one,hS.cells,t7,t20,t22,t24,t29,hlen,jz,d1,d2,n1,n2,ea,mu,ZR,wL,show IntKind.wrap .i64 0=0 from rfl,yE]
end
end
section
open Go (IntKind)
abbrev AK:List Ty:=[.int .i64,EZ,PK]
def WK {P:aA} {L:Lib} (h:G3 P L) {ls:List (List AV)} (hs:gr iZ AK ls):an P L 480 (BV AK ls) (.bool true):=by
 obtain ⟨_,_,_,rfl,h1,h2,h3⟩:=af5 hs;obtain ⟨a,rfl,ha⟩:=h1;obtain ⟨w,l,rfl,hw⟩:=Oe h2;obtain ⟨kw,k,rfl,hk⟩:=X0 h3;exact WT h hw hk a
end
section
namespace J2
open Go Go.Proofs
def T:List (Tr au):=[.n 481 [.o 7 [] (.bool true)] .l .l]
def L1:VE.Lib:=Fw VE.aI T 1000
def lw:G3 VE.prog L1:=by
 repeat' (first | rfl | constructor)
section
variable {W:World} {m:Int} (hm:W.cell? ⟨2,0,none⟩=some (.int .i64 m)) (ht:Go.Lib.TabIs Tryz.prog W "internal/strconv.uint64pow10" .u64 Go.Lib.pow10Tab)
include hm ht
def linked:dX ((J1.O W).oT L1):=by
 have hO:=J1.acI hm ht;have hT:cZ (J1.O W) T:=cZ.cons (Tr.hY (ib.one (Vz.holds hO rfl rfl)) Tr.gi Tr.gi) cZ.nil;exact O7 hO hT 1000
def law {ls:List (List AV)} (hs:gr iZ AK ls):dO (J1.O W) 480 (BV AK ls) (.bool true):=by
 obtain ⟨k,hk⟩:=afh (WK lw hs);exact sound (linked hm ht) hk
end
end J2
end
end VE
