import Derived.Test.YtflgmingejdfnaaGreatDoorVaz
import Derived.Test.YtflgmingejdfnaaGreatDoorVal
import Derived.Test.YtflgmingejdfnaaGreatDoorVaq
import Derived.Test.YtflgmingejdfnaaGreatDoorVas
set_option linter.all false
set_option maxRecDepth 100000
open Bool renaming and_eq_true→yf,and_self→ve,and_true→tj,not_true→yK
open Int renaming cast_ofNat_Int→yar,emod_nonneg→wW,toNat_natCast→wC
open List renaming append_assoc→xu,cons_append→y8,drop→xv,drop_zero→yj,getElem_mem→ta,length_cons→yv,length_nil→yF,length_take→yT,map_append→xq,mem_cons→wo,nil_append→xS,not_mem_nil→uG,range→xh,range_succ→tu,replicate→yA,take_succ_eq_append_getElem→wj
open Nat renaming add_mul→wG,beq→yr,beq_refl→xo,mul_one→yi,one_lt_two_pow→vj,reduceAdd→yb,reduceEqDiff→ya,reduceLeDiff→yg,reduceMul→xR,zero_add→yd
open Rat renaming den_intCast→wg,floor_def→ybv,mul_comm→vA,num_intCast→wA,one_mul→uz
namespace VE
section
open Go (IntKind)
def QL:List AV->List Rat->Prop
 | [],[]=>True
 | a::b::c::d::r,x::l=>cB (.agg [a,b,c,d]) x/\QL r l
 | _,_=>False
def QL.nil:QL [] []:=trivial
def QL.cons {a b c d:AV} {r:List AV} {x:Rat} {l:List Rat} (h1:cB (.agg [a,b,c,d]) x) (h2:QL r l):QL (a::b::c::d::r) (x::l):=⟨h1,h2⟩
def QL.inv {cs:List AV} {x:Rat} {l:List Rat} (h:QL cs (x::l)):∃a b c d r,cs=a::b::c::d::r/\cB (.agg [a,b,c,d]) x/\QL r l:=by
 match cs,h with
 | a::b::c::d::r,h=>exact ⟨a,b,c,d,r,rfl,h.1,h.2⟩
def QL.Ju {cs:List AV} (h:QL cs []):cs=[]:=by
 match cs,h with
 | [],_=>rfl
 | [_],h=>exact h.elim
 | [_,_],h=>exact h.elim
 | [_,_,_],h=>exact h.elim
 | _::_::_::_::_,h=>exact h.elim
def QL.len:∀{l:List Rat} {cs:List AV},QL cs l->cs.length=l.length*4
 | [],_,h=>by rw [h.Ju];rfl
 | x::l,cs,h=>by
  obtain ⟨a,b,c,d,r,rfl,_,h2⟩:=h.inv
  have:=h2.len
  grind
def F4.Po {c1 c2 c3 c4:AV} (g:F4 c1 c2 c3 c4):aS c1=true/\aS c2=true/\aS c3=true/\aS c4=true:=by
 have:=g.pu
 simpa only [aS,aJ,tj,yf] using this
def cB.f4 {a b c d:AV} {x:Rat} (h:cB (.agg [a,b,c,d]) x):F4 a b c d:=by
 obtain ⟨_,_,_,_,e,g⟩:=h.gen
 grind
def QL.pu:∀{l:List Rat} {cs:List AV},QL cs l->aJ cs=true
 | [],_,h=>by rw [h.Ju];rfl
 | x::l,cs,h=>by
  obtain ⟨a,b,c,d,r,rfl,h1,h2⟩:=h.inv;obtain ⟨p1,p2,p3,p4⟩:=h1.f4.Po;simp only [aJ,p1,p2,p3,p4,h2.pu,ve]
def QL.one:∀{l:List Rat} {cs:List AV},QL cs l->bQ cs=true
 | [],_,h=>by rw [h.Ju];rfl
 | x::l,cs,h=>by
  obtain ⟨a,b,c,d,r,rfl,h1,h2⟩:=h.inv;have g:=h1.f4;simp only [bQ,g.o1,g.o2,g.o3,g.o4,h2.one,ve]
def QL.dH:∀{l m:List Rat} {cs ds:List AV},QL cs l->QL ds m->QL (cs++ds) (l++m)
 | [],m,cs,ds,h,k=>by rw [h.Ju];exact k
 | x::l,m,cs,ds,h,k=>by
  obtain ⟨a,b,c,d,r,rfl,h1,h2⟩:=h.inv;exact ⟨h1,h2.dH k⟩
def QL.snoc {l:List Rat} {x:Rat} {cs:List AV} {a b c d:AV} (h:QL cs l) (k:cB (.agg [a,b,c,d]) x):QL (cs++[a,b,c,d]) (l++[x]):=h.dH ⟨k,trivial⟩
def QL.get:∀{l:List Rat} {cs:List AV} {i:Nat},QL cs l->∀(hi:i<l.length),∃a b c d r,cs.drop (i*4)=a::b::c::d::r/\cB (.agg [a,b,c,d]) l[i]
 | [],_,i,_,hi=>absurd hi (Nat.not_lt_zero i)
 | x::l,cs,0,h,hi=>by
  obtain ⟨a,b,c,d,r,rfl,h1,_⟩:=h.inv
  grind
 | x::l,cs,i+1,h,hi=>by
  obtain ⟨a,b,c,d,r,rfl,_,h2⟩:=h.inv;obtain ⟨a',b',c',d',r',e,k⟩:=h2.get (i:=i) (by simpa using hi)
  grind
def jh (v:AV) (l:List Rat):Prop:=(v= .ab/\l=[])\/∃e cs,v= .aE e l.length cs/\QL cs l
section
variable {v:AV} {l:List Rat} {hp:Hp}
def jh.len (h:jh v l) {hp:Hp}:gK hp 1 v=some (.int .i64 (l.length:Nat)):=by
 rcases h with ⟨rfl,rfl⟩ | ⟨e,cs,rfl,h⟩<;>rfl
def jh.pu (h:jh v l):aS v=true:=by
 rcases h with ⟨rfl,rfl⟩ | ⟨e,cs,rfl,h⟩<;>rfl
def jh.ai (h:jh v l) (n:Nat) {hp:Hp}:freeze (n+1) hp v=some (v,hp):=by
 rcases h with ⟨rfl,rfl⟩ | ⟨e,cs,rfl,h⟩<;>rfl
def jh.shut (h:jh v l):shut v=v:=by
 rcases h with ⟨rfl,rfl⟩ | ⟨e,cs,rfl,h⟩<;>rfl
def jh.bO (h:jh v l):bO v=v:=by
 rcases h with ⟨rfl,rfl⟩ | ⟨e,cs,rfl,h⟩<;>rfl
def jh.dn (h:jh v l) {hp:Hp}:result hp v=some v:=by
 rcases h with ⟨rfl,rfl⟩ | ⟨e,cs,rfl,h⟩<;>rfl
def jh.one (h:jh v l):bA v=true:=by
 rcases h with ⟨rfl,rfl⟩ | ⟨e,cs,rfl,h⟩<;>rfl
def jh.cells (h:jh v l):cellsOf v=[v]:=by
 rcases h with ⟨rfl,rfl⟩ | ⟨e,cs,rfl,h⟩<;>rfl
def jh.bj (h:jh v l) {i:Nat} (hi:i<l.length):∃a b c d r,gZ 4 i v=some (.aF (a::b::c::d::r))/\cB (.agg [a,b,c,d]) l[i]:=by
 rcases h with ⟨rfl,rfl⟩ | ⟨e,cs,rfl,h⟩
 ·grind
 ·obtain ⟨a,b,c,d,r,e1,e2⟩:=h.get hi;refine ⟨a,b,c,d,r,?_,e2⟩;rw [LU e _ hi,e1]
def ani {cs:List AV} (e:Bool) (h:QL cs l):jh (.aE e l.length cs) l:= .inr ⟨e,cs,rfl,h⟩
end
def asc {tm:Env} {a b c d x0 x1 x2 x3:AV} {r:List (Nat×Nat×X)} (h1:bA a=true) (h2:bA b=true) (h3:bA c=true) (h4:bA d=true):hJ tm [x0,x1,x2,x3] 0 4 [a,b,c,d] r=fill tm [a,b,c,d] r:=by
 rw [mL (by rfl) (by simp) (by simp [bQ,h1,h2,h3,h4])];rfl
def aeP (eY pu ex:Bool) (a b c d:AV):Vg 0 1 4 (some (.cells eY pu ex 4 [a,b,c,d]))=some (1,[a,b,c,d]):=rfl
def av0 (hp:Hp) (cs:List AV):iK hp 4 true (.aF cs)=eX 4 true cs:=rfl
def qd (s:Rat) (l:List Rat):Rat:=l.foldl (·+·) s
def ak0 {s:Rat} {l:List Rat} {i:Nat} (h:i<l.length):qd s (l.take (i+1))=qd s (l.take i)+l[i]:=by
 rw [wj h];simp only [qd,List.foldl_append,List.foldl_cons,List.foldl_nil]
def RU {K:Nat}:∀{l:List Rat} {s:Rat} {M:Nat},Hq M s->(∀x,x∈l->Hq K x)->Hq (M+l.length*(K+1)) (qd s l)
 | [],s,M,hs,_=>by simpa [qd] using hs
 | x::l,s,M,hs,hl=>by
  have:=RU (l:=l) (hs.add (hl x List.mem_cons_self)) (fun y hy=>hl y (List.mem_cons_of_mem _ hy))
  refine Hq.mono (m:=M+(x::l).length*(K+1)) this ?_;simp only [yv,wG];omega
def apI {K M:Nat} {l:List Rat} {s:Rat} (hs:Hq M s) (hl:∀x,x∈l->Hq K x) (i:Nat):Hq (M+l.length*(K+1)) (qd s (l.take i)):=
 (RU hs (fun x hx=>hl x (List.mem_of_mem_take hx))).mono (by rw [yT];have:=Nat.mul_le_mul_right (K+1) (Nat.min_le_right i l.length);omega)
end
section
open Go (IntKind)
section
variable {P:aK} {L:Lib}
def av1 (Bu:Has P L 150 EQ) {v:AV} {z:Int} (hv:cD v z) (h1: -9223372036854775808<z) (h2:z<9223372036854775808):ae P L 150 [v] (.aq [aa z,.bool true]):=by
 obtain ⟨s,w,rfl,hn⟩:=hv;rcases hn with ⟨rfl,rfl,_,_⟩ | ⟨e,l,rfl,g,n,hb,hs,h3⟩
 ·unfold ae;rw [av Bu];simp only [go_sem,ya,yb,EQ,aH,bg,yd,bY,gC,dw];rfl
 ·omega
def QS {a:Rat} {K:Nat} (h:Hq K a) (hK:1<=K):Hq K ((a.floor:Int):Rat):=by
 refine ⟨?_,?_⟩
 ·exact h.1.le (by
   rw [wA,ybv]
   exact Int.natAbs_ediv_le_natAbs _ _)
 ·rw [wg];exact vj (by omega)
def ak1 (n:Int) {s:Int} (hs:0<s):((n:Rat)-(s:Rat)*(((n:Rat)/(s:Rat)).floor:Int))=((n%s:Int):Rat):=by
 have h1:(n:Rat)/(s:Rat)=Rat.divInt n s:=(Rat.divInt_eq_div n s).symm;have h2:((n:Rat)/(s:Rat)).floor=n/s:=by
  rw [h1];obtain ⟨p1,p2⟩:=G1 (a:=n) hs;have hg:=HP (a:=n) hs;rw [ybv,p1,p2];have e1:=acR n s;have e2:=acS n s;show dh n s/dl n s=n/s
  have e3:=Int.mul_ediv_mul_of_pos (dh n s) (dl n s) hg
  grind
 rw [h2,Int.emod_def]
 grind
def af1 (h:Fr' P L) (E7:Has P L 103 IM) (Bu:Has P L 150 EQ) {v:AV} {a:Rat} {s:Int} {K:Nat} (hv:cB v a) (ka:Hq K a) (Wp:100<=K) (hK:K<=1000000000) (iy:0<s) (hs:s<1000000):
  ∃f,ae P L 103 [v,aa s] (.aq [aa (a.floor%s),f])/\cB f (a-(a.floor:Int)):=by
 obtain ⟨p,e1,hp⟩:=afz h hv ka (by omega);obtain ⟨w,e2,hw⟩:=Jl h hp;obtain ⟨n,e3,hn⟩:=Ds h (z:=s) (by omega) (by omega);have kf:=QS ka (by omega);have Up:s.natAbs<2^64:=by omega
 have ks:Hq K (s:Rat):=⟨by rw [wA];exact Nat.lt_of_lt_of_le Up (Nat.pow_le_pow_right (by decide) (by omega)),by rw [wg];exact vj (by omega)⟩
 have av2:(s:Rat)≠0:=fun e=>by
  have:=congrArg Rat.num e
  have:s=0:=this
  omega
 obtain ⟨d,e4,hd⟩:=m70 h hw hn av2 kf ks (by omega);have kd:=kf.div ks;obtain ⟨g,e5,hg⟩:=afz h hd kd (by omega);obtain ⟨gw,e6,hgw⟩:=Jl h hg;have kg:=QS kd (by omega);obtain ⟨mu,e7,hmu⟩:=sA h hn hgw (ks.mono (show K<=K+K by omega)) kg (by omega);obtain ⟨r,e8,hr⟩:=Km h hw hmu (kf.mono (show K<=K+(K+K) by omega)) (ks.mul kg) (by omega);rw [ak1 _ iy] at hr;obtain ⟨f,e9,hf⟩:=Km h hv hw ka kf (by omega);have p9:=wW a.floor (show s≠0 by omega);have azA:=Int.emod_lt_of_pos a.floor iy;refine ⟨f,?_,hf⟩;obtain ⟨v1,v2,v3,v4,rfl,gv⟩:=hv.gen;obtain ⟨w1,w2,w3,w4,rfl,gw'⟩:=hw.gen;obtain ⟨n1,n2,n3,n4,rfl,gn⟩:=hn.gen;obtain ⟨d1,d2,d3,d4,rfl,gd⟩:=hd.gen;obtain ⟨x1,x2,x3,x4,rfl,gx⟩:=hgw.gen;obtain ⟨y1,y2,y3,y4,rfl,gy⟩:=hmu.gen;obtain ⟨f1,f2,f3,f4,rfl,gf⟩:=hf.gen;obtain ⟨ps,pw,rfl,ao⟩:=hp;obtain ⟨gs,gw2,rfl,Dy⟩:=hg;obtain ⟨lp,up⟩:=ao.aw;obtain ⟨lg,ug⟩:=Dy.aw
 obtain ⟨r1,r2,r3,r4,BI,cw,fh⟩:=hr;subst BI;obtain ⟨l1,u1⟩:=cw.aw;obtain ⟨l2,u2⟩:=fh.aw;rw [wA] at cw;have Ap:=av1 (P:=P) (L:=L) Bu ⟨r1,r2,rfl,cw⟩ (by omega) (by omega);unfold ae at e1 e2 e3 e4 e5 e6 e7 e8 e9 Ap ⊢;rw [av E7];simp only [go_sem,ya,yb,IM,gv.bx,gv.ai,gw'.ai,gn.ai,gd.ai,gx.ai,gy.ai,bk,up.ai,ug.ai,u1.ai,aH,bg,yd,lm,fa,e1,e2,e3,e4,e5,e6,e7,e8,e9,Ap,bE,gw'.st,kL u1 u2,gf.st,db,de,yj];have av3:∀i:Int,AN [aa i,AV.agg [f1,f2,f3,f4]]=some []:=fun i=>by
  simp only [AN,gf.pu,Ej,ym]
 have gH:∀(hp:Hp) (i:Int),qW deep hp [aa i,AV.agg [f1,f2,f3,f4]]=some ([aa i,AV.agg [f1,f2,f3,f4]],hp):=fun hp i=>by
  have e1:oC deep hp (aa i)=some (aa i,hp):=rfl;have e2:oC deep hp (.agg [f1,f2,f3,f4])=some (.agg [f1,f2,f3,f4],hp):=gf.ai 980 hp;simp only [qW,e1,e2]
 simp only [result,av3,gH]
end
end
section
open Go (IntKind)
section
variable {P:aK} {L:Lib}
def Ro {hs hh x dx:Rat} {K:Nat} (ks:Hq K hs) (kh:Hq K hh) (kx:Hq K x) (kd:Hq K dx):Hq (5*K+10) (jN hs hh*x+hh*dx):=
 (((Qk ks kh).mul kx).add (kh.mul kd)).mono (by omega)
end
end
section
open Go (IntKind)
def atH (a b c d:List Nat):im (.ag [2,2]) (fZ a b) (fZ c d)=some (cI a c&&cI b d):=by
 show dN [2,2] [.str a,.str b] [.str c,.str d]=_
 simp only [dN]
 grind
section
variable {P:aK} {L:Lib}
end
end
section
open Go (IntKind)
section
variable {P:aK} {L:Lib}
def NX (h:Rm P L) (nP:Has P L 338 Bi) {a:Rat} {K:Nat} (ka:Hq K a) (hK:K<=8000000000):ae P L 338 [.str (RT a)] (.bool (decide (a.den=1))):=by
 have hl:=Eo ka;have e0:=CV h.zF (s:=RT a) (by omega);unfold ae at e0 ⊢;rw [av nP];by_cases hd:a.den=1
 ·have hs:bN (RT a)=(RT a).length:=by
   unfold RT;rw [yJ hd]
   have:=B7 a.num []
   rw [this];simp [bN]
  rw [hs] at e0;simp only [go_sem,ya,Bi,e0,hd,yq]
 ·have hs:bN (RT a)<(RT a).length:=by
   unfold RT;rw [yz hd,B7];simp [bN]
  rw [yM hd];simp only [go_sem,ya,Bi,e0,show ¬((bN (RT a):Nat):Int)=((RT a).length:Int) by omega,yp]
end
end
section
open Go (IntKind)
section
variable {P:aK} {L:Lib}
def av4 (h:Rm P L) (zO:Has P L 340 Bj) (nP:Has P L 338 Bi) {n:Nat} (hn:n<1000000000):ae P L 340 [.str (RT ((n:Int):Rat))] (.aq [aa n,.bool true]):=by
 have kz:Hq 40 ((n:Int):Rat):=⟨by rw [wA];unfold Bd;omega,by rw [wg];unfold Bd;omega⟩;have e0:=NX h nP kz (by omega);rw [show ((n:Int):Rat).den=1 from wg ..,yV rfl] at e0;have hl:(an n).length<=9:=om (k:=8) (by omega);obtain ⟨x,e1,hx⟩:=NV h.toRb (n:=(n:Int)) (by simp;omega);rw [ac6] at e0 ⊢;rw [jK] at e0 e1 ⊢;obtain ⟨w,l,rfl,hw,hd,hz,hv⟩:=hx;rw [Int.natAbs_natCast] at hv;have nh:l.length<=1:=L4 hd hz (by omega);have fK:decide ((n:Int)<0)=false:=yM (by omega);rw [fK] at e1;unfold ae at e0 e1 ⊢;rw [av zO]
 match l,nh,hw,hv,hd with
 | [],_,hw,hv,hd=>
  have h0:n=0:=by rw [<-hv];rfl
  subst h0;simp only [go_sem,ya,yb,Bj,e0,yK,show ¬(20:Int)<((an 0).length:Int) by decide,aH,e1,bE,hw.len,hw.pu,hw.one,fe,bg,yd,bY,yF,show ((0:Nat):Int)-1= -1 from rfl,show IntKind.wrap .i64 (-1)= -1 from rfl,Cw,aD,Ma,show ¬(0:Int)<=-1 by decide];rfl
 | [d],_,hw,hv,hd=>
  have gd:=jO.1 hd;have n8:d=(n:Int):=by simp [dv] at hv;omega
  subst n8;have ei:=hw.bj (i:=0) (by simp);simp only [List.getElem_cons_zero] at ei
  simp only [go_sem,ya,yb,Bj,e0,yK,show ¬(20:Int)<((an n).length:Int) by omega,aH,e1,bE,hw.len,hw.pu,hw.one,fe,bg,yd,bY,yv,yF,show ((1:Nat):Int)-1=0 from rfl,show IntKind.wrap .i64 0=0 from rfl,Cw,aD,Ma,show (0:Int)<=0 by decide,yq,ei,yp,show ¬(9223372036:Int)<0 by decide,show ¬(0:Int)< -9223372036 by decide,show ¬(0:Int)=9223372036 by decide,show ¬(0:Int)= -9223372036 by decide,Int.zero_mul,Int.zero_add,wrapN (n:=n) (by omega),show (0:Int)-1= -1 from rfl,show IntKind.wrap .i64 (-1)= -1 from rfl,show ¬(0:Int)<=-1 by decide];rfl
end
end
section
open Go (IntKind)
def zP (sc f o w:Rat) (fr:Int):Rat:=sc*f+1*o+(fr:Rat)*w
def asd {sc f o w:Rat} {fr:Int} {K J:Nat} (ks:Hq K sc) (kf:Hq J f) (ko:Hq K o) (kw:Hq K w) (gH:fr.natAbs<2^64) (hK:100<=K):Hq (4*K+J+100) (zP sc f o w fr):=by
 have qH:Hq 64 (fr:Rat):=⟨by rw [wA];exact gH,by rw [wg];exact vj (by omega)⟩
 exact (((ks.mul kf).add (rM.mul ko)).add (qH.mul kw)).mono (by omega)
section
variable {P:aK} {L:Lib}
end
end
section
open Go (IntKind)
section
variable {P:aK} {L:Lib}
def av5 (h:Sp P L) (TX:Has P L 116 M9) {scr st:AV} (o1:bA scr=true) (p1:aS scr=true) (o2:bA st=true) (p2:aS st=true) {dx dy s hh sc ox oy wx wy x y:List Nat} {fr:Int} (cdx:aX dx=0) (cdy:aX dy=0) (cs:aX s=0) (ch:aX hh=0) (GS:aX sc=0) (Wq:aX ox=0) (Wr:aX oy=0) (Ws:aX wx=0) (Wt:aX wy=0) (cx:aX x=0) (cy:aX y=0) (Dd: -9223372036854775808<=fr) (iC:fr<9223372036854775808):
  ∃r,ae P L 116 [.agg [scr,.str hh,.str sc,st,.str ox,.str oy,.str wx,.str wy],iE dx dy s,fZ x y,aa fr] r/\
   lS r (zP (aG sc) (jN (aG s) (aG hh)*aG x+aG hh*aG dx) (aG ox) (aG wx) fr) (zP (aG sc) (jN (aG s) (aG hh)*aG y+aG hh*aG dy) (aG oy) (aG wy) fr):=by
 have H:=fun {t:List Nat} (c:aX t=0)=>jo c (Nat.le_refl 2400)
 obtain ⟨M,hM⟩:∃M,M=100000:=⟨_,rfl⟩;obtain ⟨a,e1,ha⟩:=zN h ch;obtain ⟨b,e2,hb⟩:=m64 h cdx cdy cs cx cy ha (H ch) (by omega);obtain ⟨c,e3,hc⟩:=zN h GS;have Wu:=Ro (H cs) (H ch) (H cx) (H cdx);have Wv:=Ro (H cs) (H ch) (H cy) (H cdy);obtain ⟨d,e4,hd⟩:=Kx h hb hc (Wu.mono (show 5*2400+10<=M by omega)) (Wv.mono (by omega)) ((H GS).mono (by omega)) (by omega);rw [vA _ (aG sc),vA _ (aG sc)] at hd;obtain ⟨o,e5,ho⟩:=GR h Wq Wr;obtain ⟨f,e6,hf⟩:=NW h hd ho (((H GS).mul Wu).mono (show 2400+(5*2400+10)<=M by omega)) (((H GS).mul Wv).mono (by omega)) ((H Wq).mono (by omega)) ((H Wr).mono (by omega)) (by omega);obtain ⟨g,e7,hg⟩:=GR h Ws Wt;obtain ⟨i,e8,hi⟩:=Ds h.toFr' Dd iC;have qH:Hq 64 (fr:Rat):=⟨by rw [wA];unfold Bd;omega,by rw [wg];exact vj (by omega)⟩
 obtain ⟨j,e9,hj⟩:=Kx h hg hi ((H Ws).mono (show 2400<=M by omega)) ((H Wt).mono (by omega)) (qH.mono (by omega)) (by omega);rw [vA _ (fr:Rat),vA _ (fr:Rat)] at hj;obtain ⟨r,Ap,hr⟩:=NW h hf hj ((((H GS).mul Wu).add (H Wq)).mono (show 2400+(5*2400+10)+2400+1<=M by omega)) ((((H GS).mul Wv).add (H Wr)).mono (by omega)) ((qH.mul (H Ws)).mono (by omega)) ((qH.mul (H Wt)).mono (by omega)) (by omega);have bX:=hr;refine ⟨r,?_,by unfold zP;rw [uz,uz];exact bX⟩
 obtain ⟨a1,a2,a3,a4,rfl,ga⟩:=ha.gen;obtain ⟨b1,b2,b3,b4,b5,b6,b7,b8,rfl,gb⟩:=hb.gen;obtain ⟨c1,c2,c3,c4,rfl,gc⟩:=hc.gen;obtain ⟨d1,d2,d3,d4,d5,d6,d7,d8,rfl,gd⟩:=hd.gen;obtain ⟨k1,k2,k3,k4,k5,k6,k7,k8,rfl,gk⟩:=ho.gen;obtain ⟨f1,f2,f3,f4,f5,f6,f7,f8,rfl,gf⟩:=hf.gen;obtain ⟨g1,g2,g3,g4,g5,g6,g7,g8,rfl,gg⟩:=hg.gen;obtain ⟨i1,i2,i3,i4,rfl,gi⟩:=hi.gen;obtain ⟨j1,j2,j3,j4,j5,j6,j7,j8,rfl,gj⟩:=hj.gen;obtain ⟨r1,r2,r3,r4,r5,r6,r7,r8,rfl,gr⟩:=hr.gen;have dd2:∀a b c d e f g i:AV,xv 2 [a,b,c,d,e,f,g,i]=[c,d,e,f,g,i]:=fun _ _ _ _ _ _ _ _=>rfl
 have dd6:∀a b c d e f g i:AV,xv 6 [a,b,c,d,e,f,g,i]=[g,i]:=fun _ _ _ _ _ _ _ _=>rfl
 unfold ae at e1 e2 e3 e4 e5 e6 e7 e8 e9 Ap ⊢;rw [av TX];simp only [go_sem,ya,yb,M9,bk,aH,o1,p1,o2,p2,bg,yd,bY,dd2,mN,dd6,fa,jt,A9,ga.ai,gb.ai,gc.ai,gd.ai,gk.ai,gf.ai,gg.ai,gi.ai,gj.ai,e1,e2,e3,e4,e5,e6,e7,e8,e9,Ap,bE,gd.st,gr.st,db,de,yj,gr.dn]
end
end
section
open Go (IntKind)
def qI (x:Rat):Rat:=x-(x.floor:Int)
def MO {x:Rat} {K:Nat} (h:Hq K x) (hK:1<=K):Hq (2*K+1) (qI x):=(h.sub (QS h hK)).mono (by omega)
section
variable {P:aK} {L:Lib}
end
end
section
open Go (IntKind)
def anj {tm:Env} {a:AV} {r:List (Nat×Nat×X)} {x0 x1 x2 x3 x4 x5 x6 x7 x8 x9:AV} (h1:bA a=true):hJ tm [x0,x1,x2,x3,x4,x5,x6,x7,x8,x9] 0 1 [a] r=fill tm [a,x1,x2,x3,x4,x5,x6,x7,x8,x9] r:=by
 rw [mL (by rfl) (by simp) (by simp [bQ,h1])];rfl
def ank {tm:Env} {a:AV} {r:List (Nat×Nat×X)} {x0 x1 x2 x3 x4 x5 x6 x7 x8 x9:AV} (h1:bA a=true):hJ tm [x0,x1,x2,x3,x4,x5,x6,x7,x8,x9] 1 1 [a] r=fill tm [x0,a,x2,x3,x4,x5,x6,x7,x8,x9] r:=by
 rw [mL (by rfl) (by simp) (by simp [bQ,h1])];rfl
def anl {tm:Env} {a b c d:AV} {r:List (Nat×Nat×X)} {x0 x1 x2 x3 x4 x5 x6 x7 x8 x9:AV} (h1:bA a=true) (h2:bA b=true) (h3:bA c=true) (h4:bA d=true):hJ tm [x0,x1,x2,x3,x4,x5,x6,x7,x8,x9] 2 4 [a,b,c,d] r=fill tm [x0,x1,a,b,c,d,x6,x7,x8,x9] r:=by
 rw [mL (by rfl) (by simp) (by simp [bQ,h1,h2,h3,h4])];rfl
def anm {tm:Env} {a b c d:AV} {r:List (Nat×Nat×X)} {x0 x1 x2 x3 x4 x5 x6 x7 x8 x9:AV} (h1:bA a=true) (h2:bA b=true) (h3:bA c=true) (h4:bA d=true):hJ tm [x0,x1,x2,x3,x4,x5,x6,x7,x8,x9] 6 4 [a,b,c,d] r=fill tm [x0,x1,x2,x3,x4,x5,a,b,c,d] r:=by
 rw [mL (by rfl) (by simp) (by simp [bQ,h1,h2,h3,h4])];rfl
def ED (v:AV) (i j:Int) (f g:Rat):Prop:=∃c1 c2 c3 c4 d1 d2 d3 d4,v= .agg [aa i,aa j,c1,c2,c3,c4,d1,d2,d3,d4]/\cB (.agg [c1,c2,c3,c4]) f/\cB (.agg [d1,d2,d3,d4]) g
section
variable {P:aK} {L:Lib}
def m55 (h:Fr' P L) (Kr:Has P L 55 OA) (E7:Has P L 103 IM) (Bu:Has P L 150 EQ) {v:AV} {x y:Rat} {s:Int} {K:Nat} (hv:lS v x y) (kx:Hq K x) (ky:Hq K y) (Wp:100<=K) (hK:K<=1000000000) (iy:0<s) (hs:s<1000000):
  ∃r,ae P L 55 [v,aa s] r/\ED r (x.floor%s) (y.floor%s) (qI x) (qI y):=by
 obtain ⟨s1,w1,s2,w2,s3,w3,s4,w4,rfl,h1,h2,h3,h4⟩:=hv;obtain ⟨f,e1,hf⟩:=af1 h E7 Bu (v:= .agg [aa s1,w1,aa s2,w2]) (a:=x) ⟨s1,w1,s2,w2,rfl,h1,h2⟩ kx Wp hK iy hs;obtain ⟨g,e2,hg⟩:=af1 h E7 Bu (v:= .agg [aa s3,w3,aa s4,w4]) (a:=y) ⟨s3,w3,s4,w4,rfl,h3,h4⟩ ky Wp hK iy hs;have nS:=hf;have Dy:=hg;obtain ⟨c1,c2,c3,c4,rfl,gf⟩:=hf.gen;obtain ⟨d1,d2,d3,d4,rfl,gg⟩:=hg.gen;obtain ⟨l1,u1⟩:=h1.aw;obtain ⟨l2,u2⟩:=h2.aw;obtain ⟨l3,u3⟩:=h3.aw;obtain ⟨l4,u4⟩:=h4.aw;refine ⟨_,?_,c1,c2,c3,c4,d1,d2,d3,d4,rfl,nS,Dy⟩;have p1:=gf.pu;have p2:=gg.pu;simp only [aS,aJ,tj,yf] at p1 p2;obtain ⟨Ww,Wx,Wy,Wz⟩:=p1;obtain ⟨WA,WB,WC,WD⟩:=p2
 have bf:∀(hp:Hp) (ct id:Nat) (i j:Int) (x0 x1 x2 x3 x4 x5 x6 x7 x8 x9:AV),fy hp ct id 0 10 [aa i,aa j,c1,c2,c3,c4,d1,d2,d3,d4] (some (.cells true true true 10 [x0,x1,x2,x3,x4,x5,x6,x7,x8,x9]))=some (.aq [],aY hp id (.cells true true true 10 [aa i,aa j,c1,c2,c3,c4,d1,d2,d3,d4]),ct):=fun hp ct id i j x0 x1 x2 x3 x4 x5 x6 x7 x8 x9=>by
  rw [mj (by rfl) (by simp) (by simp [bQ,HN,gf.o1,gf.o2,gf.o3,gf.o4,gg.o1,gg.o2,gg.o3,gg.o4])];simp [aJ,Ej,Ww,Wx,Wy,Wz,WA,WB,WC,WD,over]
 have rE:∀(hp:Hp) (i j:Int),result hp (.agg [aa i,aa j,c1,c2,c3,c4,d1,d2,d3,d4])=some (.agg [aa i,aa j,c1,c2,c3,c4,d1,d2,d3,d4]):=fun hp i j=>by
  have e:freeze (980+20) hp (.agg [aa i,aa j,c1,c2,c3,c4,d1,d2,d3,d4])=some (.agg [aa i,aa j,c1,c2,c3,c4,d1,d2,d3,d4],hp):=
   bk _ _ (by simp only [go_sem,yb,gf.z1,gf.z2,gf.z3,gf.z4,gg.z1,gg.z2,gg.z3,gg.z4])
  show (match freeze (980+20) hp (.agg [aa i,aa j,c1,c2,c3,c4,d1,d2,d3,d4]) with | some (v',_)=>some v' | none=>none)=_
  rw [e]
 unfold ae at e1 e2 ⊢;rw [av Kr];simp only [go_sem,ya,yb,OA,aH,bk,u1.pu,u1.ai,u1.one,u2.pu,u2.ai,u2.one,u3.pu,u3.ai,u3.one,u4.pu,u4.ai,u4.one,bg,yd,mN,lm,e1,e2,gf.st,gg.st,anj,ank,anl,anm,gf.o1,gf.o2,gf.o3,gf.o4,gg.o1,gg.o2,gg.o3,gg.o4,bf,db,de,yj];exact rE _ _ _
end
end
section
open Go (IntKind)
def pG (f g:Rat):List Rat:=[(1-f)*(1-g),f*(1-g),(1-f)*g,f*g]
def IsW (v:AV) (f g:Rat):Prop:=∃cs,v= .agg cs/\QL cs (pG f g)
def ac9 {f g:Rat} {K:Nat} (kf:Hq K f) (kg:Hq K g):∀x,x∈pG f g->Hq (2*K+6) x:=by
 intro x hx;have ku:=rM.sub kf;have kv:=rM.sub kg;simp only [pG,wo,uG,ybx] at hx;rcases hx with rfl | rfl | rfl | rfl
 ·exact (ku.mul kv).mono (by omega)
 ·exact (kf.mul kv).mono (by omega)
 ·exact (ku.mul kg).mono (by omega)
 ·exact (kf.mul kg).mono (by omega)
section
variable {tm:Env} {a b c d:AV} {r:List (Nat×Nat×X)} {x0 x1 x2 x3 x4 x5 x6 x7 x8 x9 xa xb xc xd xe xf:AV}
def ann (h1:bA a=true) (h2:bA b=true) (h3:bA c=true) (h4:bA d=true):hJ tm [x0,x1,x2,x3,x4,x5,x6,x7,x8,x9,xa,xb,xc,xd,xe,xf] 0 4 [a,b,c,d] r=fill tm [a,b,c,d,x4,x5,x6,x7,x8,x9,xa,xb,xc,xd,xe,xf] r:=by
 rw [mL (by rfl) (by simp) (by simp [bQ,h1,h2,h3,h4])];rfl
def ano (h1:bA a=true) (h2:bA b=true) (h3:bA c=true) (h4:bA d=true):hJ tm [x0,x1,x2,x3,x4,x5,x6,x7,x8,x9,xa,xb,xc,xd,xe,xf] 4 4 [a,b,c,d] r=fill tm [x0,x1,x2,x3,a,b,c,d,x8,x9,xa,xb,xc,xd,xe,xf] r:=by
 rw [mL (by rfl) (by simp) (by simp [bQ,h1,h2,h3,h4])];rfl
def anp (h1:bA a=true) (h2:bA b=true) (h3:bA c=true) (h4:bA d=true):hJ tm [x0,x1,x2,x3,x4,x5,x6,x7,x8,x9,xa,xb,xc,xd,xe,xf] 8 4 [a,b,c,d] r=fill tm [x0,x1,x2,x3,x4,x5,x6,x7,a,b,c,d,xc,xd,xe,xf] r:=by
 rw [mL (by rfl) (by simp) (by simp [bQ,h1,h2,h3,h4])];rfl
def anq (h1:bA a=true) (h2:bA b=true) (h3:bA c=true) (h4:bA d=true):hJ tm [x0,x1,x2,x3,x4,x5,x6,x7,x8,x9,xa,xb,xc,xd,xe,xf] 12 4 [a,b,c,d] r=fill tm [x0,x1,x2,x3,x4,x5,x6,x7,x8,x9,xa,xb,a,b,c,d] r:=by
 rw [mL (by rfl) (by simp) (by simp [bQ,h1,h2,h3,h4])];rfl
end
def ase {cs:List AV} (hl:cs.length=16) (ho:bQ cs=true) (ao:aJ cs=true) (hp:Hp) (ct id:Nat) (x0 x1 x2 x3 x4 x5 x6 x7 x8 x9 xa xb xc xd xe xf:AV):fy hp ct id 0 16 cs (some (.cells true true true 16 [x0,x1,x2,x3,x4,x5,x6,x7,x8,x9,xa,xb,xc,xd,xe,xf]))=some (.aq [],aY hp id (.cells true true true 16 cs),ct):=by
 rw [mj hl (by simp) ho,ao]
 match cs,hl with
 | [_,_,_,_,_,_,_,_,_,_,_,_,_,_,_,_],_=>rfl
def abg:∀{l:List Rat} {cs:List AV},QL cs l->∀(n:Nat) (hp:Hp),cN (n+l.length*4+2) hp cs=some (cs,hp)
 | [],_,h,n,hp=>by rw [h.Ju];rfl
 | x::l,cs,h,n,hp=>by
  obtain ⟨a,b,c,d,r,rfl,h1,h2⟩:=h.inv;have g:=h1.f4;have e:=abg h2 n hp;rw [show n+(x::l).length*4+2=n+l.length*4+2+1+1+1+1 by simp only [yv];omega];simp only [go_sem,g.z1,g.z2,g.z3,g.z4,e]
def QL.ai {l:List Rat} {cs:List AV} (h:QL cs l) {n:Nat} (hn:l.length*4+3<=n) (hp:Hp):freeze n hp (.agg cs)=some (.agg cs,hp):=by
 obtain ⟨m,rfl⟩:∃m,n=m+l.length*4+3:=⟨n-(l.length*4+3),by omega⟩;exact bk _ _ (abg h m hp)
def QL.dn {l:List Rat} {cs:List AV} (h:QL cs l) (hl:l.length<=200) (hp:Hp):result hp (.agg cs)=some (.agg cs):=by
 show (match freeze 1000 hp (.agg cs) with | some (v',_)=>some v' | none=>none)=_
 rw [h.ai (by omega)]
def ED.gen {v:AV} {i j:Int} {f g:Rat} (h:ED v i j f g):∃c1 c2 c3 c4 d1 d2 d3 d4,v= .agg [aa i,aa j,c1,c2,c3,c4,d1,d2,d3,d4]/\cB (.agg [c1,c2,c3,c4]) f/\cB (.agg [d1,d2,d3,d4]) g/\(∀ct:Nat,Bl ct 10 [aa i,aa j,c1,c2,c3,c4,d1,d2,d3,d4]=some (.ptr ct 0,.cells true true true 10 [aa i,aa j,c1,c2,c3,c4,d1,d2,d3,d4]))/\∀(n:Nat) (hp:Hp),freeze (n+20) hp (.agg [aa i,aa j,c1,c2,c3,c4,d1,d2,d3,d4])=some (.agg [aa i,aa j,c1,c2,c3,c4,d1,d2,d3,d4],hp):=by
 obtain ⟨c1,c2,c3,c4,d1,d2,d3,d4,rfl,hf,hg⟩:=h;have gf:=hf.f4;have gg:=hg.f4;obtain ⟨Ww,Wx,Wy,Wz⟩:=gf.Po;obtain ⟨WA,WB,WC,WD⟩:=gg.Po;refine ⟨c1,c2,c3,c4,d1,d2,d3,d4,rfl,hf,hg,fun ct=>?_,fun n hp=>bk _ _ (by simp only [go_sem,gf.z1,gf.z2,gf.z3,gf.z4,gg.z1,gg.z2,gg.z3,gg.z4])⟩;rw [aH (by rfl) (by simp [bQ,HN,gf.o1,gf.o2,gf.o3,gf.o4,gg.o1,gg.o2,gg.o3,gg.o4])];simp [aJ,Ej,Ww,Wx,Wy,Wz,WA,WB,WC,WD]
def RW (a b c d e f g h i j:AV):eX 10 true [a,b,c,d,e,f,g,h,i,j]=some (.agg [a,b,c,d,e,f,g,h,i,j]):=rfl
def anr (a b c d e f g h i j:AV):xv 2 [a,b,c,d,e,f,g,h,i,j]=[c,d,e,f,g,h,i,j]:=rfl
def ans (a b c d e f g h i j:AV):xv 6 [a,b,c,d,e,f,g,h,i,j]=[g,h,i,j]:=rfl
def ant (a b c d e f g h i j:AV):xv 1 [a,b,c,d,e,f,g,h,i,j]=[b,c,d,e,f,g,h,i,j]:=rfl
structure Vl (P:aK) (L:Lib):Prop extends Fr' P L where
 Kr:Has P L 55 OA
 VX:Has P L 56 UU
 E7:Has P L 103 IM
 TY:Has P L 104 M3
 TZ:Has P L 105 M4
 Ua:Has P L 106 M5
 rF:Has P L 134 CP
 Bu:Has P L 150 EQ
section
variable {P:aK} {L:Lib}
def av6 (h:Fr' P L) (TY:Has P L 104 M3) {v:AV} {i j:Int} {f g:Rat} {K:Nat} (hv:ED v i j f g) (kf:Hq K f) (kg:Hq K g) (hK:K<=1000000000):∃r,ae P L 104 [v] r/\IsW r f g:=by
 obtain ⟨c1,c2,c3,c4,d1,d2,d3,d4,rfl,hf,hg,bx,_⟩:=hv.gen;have k1:Hq (K+4) (1:Rat):=rM.mono (by omega);have WE:Hq (K+4) f:=kf.mono (by omega);have WG:Hq (K+4) g:=kg.mono (by omega);have ku:Hq (K+4) (1-f):=(rM.sub kf).mono (by omega);have kv:Hq (K+4) (1-g):=(rM.sub kg).mono (by omega);obtain ⟨o,e1,ho⟩:=Ds h (z:=1) (by omega) (by omega);have kV:cB o 1:=ho;obtain ⟨u,e2,hu⟩:=Km h kV hf k1 WE (by omega);obtain ⟨w,e3,hw⟩:=Km h kV hg k1 WG (by omega);obtain ⟨r1,e4,q1⟩:=sA h hu hw ku kv (by omega);obtain ⟨r2,e5,q2⟩:=sA h hf hw WE kv (by omega);obtain ⟨r3,e6,q3⟩:=sA h hu hg ku WG (by omega);obtain ⟨r4,e7,q4⟩:=sA h hf hg WE WG (by omega);have gf:=hf.f4;have gg:=hg.f4;obtain ⟨o1,o2,o3,o4,rfl,go⟩:=ho.gen;obtain ⟨u1,u2,u3,u4,rfl,gu⟩:=hu.gen;obtain ⟨w1,w2,w3,w4,rfl,gw⟩:=hw.gen;obtain ⟨x1,x2,x3,x4,rfl,gx⟩:=q1.gen;obtain ⟨y1,y2,y3,y4,rfl,gy⟩:=q2.gen
 obtain ⟨z1,z2,z3,z4,rfl,gz⟩:=q3.gen;obtain ⟨t1,t2,t3,t4,rfl,gt⟩:=q4.gen;have hq:QL [x1,x2,x3,x4,y1,y2,y3,y4,z1,z2,z3,z4,t1,t2,t3,t4] (pG f g):=⟨q1,q2,q3,q4,trivial⟩;have bf:=ase (by rfl) hq.one hq.pu;refine ⟨_,?_,_,rfl,hq⟩;unfold ae at e1 e2 e3 e4 e5 e6 e7 ⊢;rw [av TY];simp only [go_sem,ya,yb,M3,bx,aH,bg,yd,anr,ans,lm,e1,e2,e3,e4,e5,e6,e7,bE,go.st,gu.st,gw.st,go.ai,gu.ai,gw.ai,gf.ai,gg.ai,gx.o1,gx.o2,gx.o3,gx.o4,gy.o1,gy.o2,gy.o3,gy.o4,gz.o1,gz.o2,gz.o3,gz.o4,gt.o1,gt.o2,gt.o3,gt.o4,ann,ano,anp,anq,bf,db,de,yj];exact hq.dn (by simp [pG]) _
def av7 (TZ:Has P L 105 M4) (rF:Has P L 134 CP) {v:AV} {i j:Int} {f g:Rat} {k:Int} {n:Int} (hv:ED v i j f g) (hi:0<=i/\i<n) (hj:0<=j/\j<n) (hk:0<=k/\k<4) (hn:0<n) (jZ:n<=1000000):ae P L 105 [v,aa k,aa n] (.aq [aa ((i+k%2)%n),aa ((j+k/2)%n)]):=by
 obtain ⟨c1,c2,c3,c4,d1,d2,d3,d4,rfl,hf,hg,bx,_⟩:=hv.gen;have e1:=NE rF (n:=i+k%2) hn jZ;have e2:=NE rF (n:=j+k/2) hn jZ;have r1:k.tmod 2=k%2:=Int.tmod_eq_emod_of_nonneg hk.1;have r2:k.tdiv 2=k/2:=Int.tdiv_eq_ediv_of_nonneg hk.1;unfold ae at e1 e2 ⊢;rw [av TZ]
 simp only [go_sem,ya,M4,bx,bg,yd,ant,yj,eD _ _ _ (show (2:Int)≠0 by decide),fq _ _ _ (show (2:Int)≠0 by decide),r1,r2,wrap64 (n:=k/2) (by omega) (by omega),wrap64 (n:=i+k%2) (by omega) (by omega),wrap64 (n:=j+k/2) (by omega) (by omega),e1,e2];rfl
def av8 (h:Fr' P L) (Ua:Has P L 106 M5) {v w:AV} {s:Rat} {l:List Rat} {K M:Nat} (hv:cB v s) (hw:jh w l) (ks:Hq M s) (kl:∀x,x∈l->Hq K x) (hl:l.length<=1000000) (hK:M+l.length*(K+1)+K<=1000000000):∃r,ae P L 106 [v,w,.fn (.f 74) [] []] r/\cB r (qd s l):=by
 have key:=cC (P:=P) (L:=L) (live:=[2,3,6,9,10,11]) (a:=HX)
  (I:=fun k st=>∃i:Nat,i+k=l.length/\∃c1 c2 c3 c4,cB (.agg [c1,c2,c3,c4]) (qd s (l.take i))/\st=⟨[(2,.fn (.f 74) [] []),(3,.ptr 0 0),(6,.ptr 1 0),(9,w),(10,aa l.length),(11,aa i)],[(1,.cells true true true 4 [.int .i64 0,.ab,.int .i64 0,.ab]),(0,.cells true true true 4 [c1,c2,c3,c4])],2,0⟩)
  (Q:=fun ex st=>∃tm hp ct c1 c2 c3 c4,cB (.agg [c1,c2,c3,c4]) (qd s l)/\st=⟨tm,hp,ct,0⟩/\ex= .exit 0/\af tm 3= .ptr 0 0/\af tm 6= .ptr 1 0/\ap hp 0=some (.cells true true true 4 [c1,c2,c3,c4])/\ap hp 1=some (.cells true true true 4 [.int .i64 0,.ab,.int .i64 0,.ab])) ?_
 ·have eF:=hv;obtain ⟨v1,v2,v3,v4,rfl,gv⟩:=hv.gen;unfold ae;rw [av Ua];simp only [go_sem,ya,yb,M5,gv.bx,aH,hw.len];generalize hq:D P L (.loop [2,3,6,9,10,11] HX) _=q;obtain ⟨ex,st,rfl,tm,hp,ct,c1,c2,c3,c4,h1,rfl,rfl,t3,t6,g0,g1⟩:=cd hq (key l.length) ⟨0,by omega,v1,v2,v3,v4,by simpa [qd] using eF,by simp only [go_sem,ya,yb,aD,aM hw.pu,aQ _ hw.pu]<;>rfl⟩
  have g:=h1.f4;refine ⟨_,?_,h1⟩;simp only [go_sem,ya,yb,aD,t3,t6,g0,g1,lm,g.st,db,de,yj];exact g.dn _
 ·rintro k st ⟨i,hk,c1,c2,c3,c4,hs,rfl⟩;by_cases hi:i<l.length
  ·left
   obtain ⟨a,b,c,d,r,e1,hx⟩:=hw.bj hi;obtain ⟨y,e2,hy⟩:=O8 h hs hx (K:=M+l.length*(K+1)+K) ((apI ks kl i).mono (by omega)) ((kl _ (ta hi)).mono (by omega)) (by omega);rw [<-ak0 hi] at hy;have sB:=hy;obtain ⟨y1,y2,y3,y4,rfl,gy⟩:=hy.gen;have gs:=hs.f4;have gx:=hx.f4;simp only [go_sem,ya,yb,HX,show (i:Int)<l.length by omega,e1,av0,lm,aH,gx.st,e2,gs.ai,gx.ai,gy.st,bE,yj];refine ⟨_,k-1,rfl,by omega,i+1,by omega,y1,y2,y3,y4,sB,?_⟩;rw [wrap64 (by omega) (by omega)];simp only [go_sem,ya,yb,aD,aM hw.pu,aQ _ hw.pu]<;>rfl
  ·right
   simp only [go_sem,ya,HX,show ¬(i:Int)<l.length by omega];rw [List.take_of_length_le (by omega)] at hs;exact ⟨_,_,rfl,by simp,_,_,_,c1,c2,c3,c4,hs,rfl,rfl,by simp only [go_sem,ya],by simp only [go_sem,ya],by simp only [go_sem,ya],by simp only [go_sem]⟩
def mW (s:List (List Int)) (i j:Int) (k:Int):Rat:=((dE s (i+k%2) (j+k/2):Int):Rat)
def lJ (s:List (List Int)) (i j:Int) (f g:Rat):List Rat:=[(1-f)*(1-g)*mW s i j 0,f*(1-g)*mW s i j 1,(1-f)*g*mW s i j 2,f*g*mW s i j 3]
def NY (s:List (List Int)) (i j:Int) (f g:Rat):Rat:=qd 0 (lJ s i j f g)
def anu (s:List (List Int)) (i j:Int) (f g:Rat):∀(k:Nat) (hk:k<4),(lJ s i j f g)[k]'hk=(pG f g)[k]'hk*mW s i j (k:Int)
 | 0,_=>rfl
 | 1,_=>rfl
 | 2,_=>rfl
 | 3,_=>rfl
 | k+4,hk=>absurd hk (by omega)
structure GU (v:AV) (s:List (List Int)) (n:Nat):Prop where
 is:cK v s
 len:s.length=n
 pos:0<n
 le:n<=16
 row:∀i (hi:i<s.length),s[i].length=n
 sq:eR n (-1000) 1000 s=0
def GU.cell {v:AV} {s:List (List Int)} {n:Nat} (h:GU v s n) (c r:Int):∃q rest Sh,gZ 1 (r%n).toNat v=some (.aF (q::rest))/\gZ 1 (c%n).toNat q=some (.aF (aa (dE s c r)::Sh)):=by
 obtain ⟨h1,h2,h3⟩:=QF h.len h.pos h.row c r;obtain ⟨q,rest,eG,nk⟩:=h.is.bj h1;exact ⟨q,rest,_,nk,by rw [h3];exact eG.bj h2⟩
def GU.cV {v:AV} {s:List (List Int)} {n:Nat} (h:GU v s n) (c r:Int): -1000<=dE s c r/\dE s c r<=1000:=KG h.sq (by decide) c r
def Zc {s:List (List Int)} {n:Nat} (hn:s.length=n) (c r c' r':Int) (hc:c%n=c'%n) (hr:r%n=r'%n):dE s c r=dE s c' r':=by
 unfold dE;rw [hn,hc,hr]
def HR {s:List (List Int)} {i j k:Int} (h:∀c r,-1000<=dE s c r/\dE s c r<=1000):Hq 64 (mW s i j k):=by
 have:=h (i+k%2) (j+k/2)
 unfold mW;exact ⟨by rw [wA];unfold Bd;omega,by rw [wg];exact vj (by omega)⟩
def abh {s:List (List Int)} {i j:Int} {f g:Rat} {K:Nat} (h:∀c r,-1000<=dE s c r/\dE s c r<=1000) (kf:Hq K f) (kg:Hq K g):∀x,x∈lJ s i j f g->Hq (2*K+70) x:=by
 intro x hx;have hw:=ac9 kf kg;simp only [lJ,wo,uG,ybx] at hx;rcases hx with rfl | rfl | rfl | rfl
 ·exact ((hw _ (by simp [pG])).mul (HR h)).mono (by omega)
 ·exact ((hw _ (by simp [pG])).mul (HR h)).mono (by omega)
 ·exact ((hw _ (by simp [pG])).mul (HR h)).mono (by omega)
 ·exact ((hw _ (by simp [pG])).mul (HR h)).mono (by omega)
def QL.zT {cs:List AV} {l:List Rat} (h:QL cs l) {k n:Nat} (hl:l.length=n) (hk:k<n):∃a b c d,Ir n 4 true k (.agg cs)=some (.agg [a,b,c,d])/\cB (.agg [a,b,c,d]) (l[k]'(by omega)):=by
 obtain ⟨a,b,c,d,r,e,hq⟩:=h.get (i:=k) (by omega);refine ⟨a,b,c,d,?_,hq⟩;show (bif Nat.blt k n then eX 4 true (cs.drop (k*4)) else none)=_
 rw [jR hk,e];rfl
def m56 (h:Vl P L) {v w:AV} {s:List (List Int)} {n:Nat} {i j:Int} {f g:Rat} {K:Nat} (hv:ED v i j f g) (hw:GU w s n) (hi:0<=i/\i<n) (hj:0<=j/\j<n) (kf:Hq K f) (kg:Hq K g) (hK:K<=10000000):
  ∃r,ae P L 56 [v,w] r/\cB r (NY s i j f g):=by
 obtain ⟨W,eW,hW⟩:=av6 h.toFr' h.TY hv kf kg (by omega);obtain ⟨c1,c2,c3,c4,d1,d2,d3,d4,rfl,hf,hg,bx,fz⟩:=hv.gen;obtain ⟨cs,rfl,qh⟩:=hW;have hS:=hw.is;have hn:=hw.len;have n0:=hw.pos;have n1:=hw.le;have kp:=abh (i:=i) (j:=j) hw.cV kf kg;have kw:=ac9 kf kg;have pW:aS (.agg cs)=true:=by simp only [aS,qh.pu]
 have key:=cC (P:=P) (L:=L) (live:=[1,2,4,5,11,12]) (a:=EA)
  (I:=fun k st=>∃m:Nat,m+k=4/\((m=0/\st=⟨[(1,w),(2,.ptr 0 0),(4,.ptr 1 0),(5,.ab),(11,.agg cs),(12,aa m)],[(1,.cells true true true 4 [.int .i64 0,.ab,.int .i64 0,.ab]),(0,.cells true true true 10 [aa i,aa j,c1,c2,c3,c4,d1,d2,d3,d4])],2,0⟩)\/
   (0<m/\∃ps,QL ps ((lJ s i j f g).take m)/\st=⟨[(1,w),(2,.ptr 0 0),(4,.ptr 1 0),(5,.ak 2 0 m),(11,.agg cs),(12,aa m)],[(2,.cells true true false 4 ps),(1,.cells true true true 4 [.int .i64 0,.ab,.int .i64 0,.ab]),(0,.cells true true true 10 [aa i,aa j,c1,c2,c3,c4,d1,d2,d3,d4])],3,0⟩)))
  (Q:=fun ex st=>∃tm hp ct ps,QL ps (lJ s i j f g)/\st=⟨tm,hp,ct,0⟩/\ex= .exit 0/\af tm 4= .ptr 1 0/\af tm 5= .ak 2 0 4/\ap hp 1=some (.cells true true true 4 [.int .i64 0,.ab,.int .i64 0,.ab])/\ap hp 2=some (.cells true true false 4 ps)) ?_
 ·unfold ae at eW ⊢;rw [av h.VX];simp only [go_sem,ya,yb,UU,bx,aH,RW,fz,eW,bE,yj];generalize hq:D P L (.loop [1,2,4,5,11,12] EA) _=q;obtain ⟨ex,st,rfl,tm,hp,ct,ps,fg,rfl,rfl,t4,t5,g1,g2⟩:=cd hq (key 4) ⟨0,by omega,.inl ⟨rfl,by simp only [go_sem,ya,yb,aD,aM hS.pu,aQ _ hS.pu,aM pW,aQ _ pW]<;>rfl⟩⟩
  have hl4:ps.length=4*4:=by rw [fg.len];rfl
  obtain ⟨z,e1,hz⟩:=Ds h.toFr' (z:=0) (by omega) (by omega);have ia:cB z 0:=hz;have iz:=hz;obtain ⟨z1,z2,z3,z4,rfl,gz⟩:=hz.gen;obtain ⟨r,e2,hr⟩:=av8 h.toFr' h.Ua (K:=2*K+70) (M:=2) ia (w:= .aE false 4 ps) (ani false fg) TU kp (by simp [lJ]) (by simp only [lJ,yv,yF];omega);have bX:=hr;obtain ⟨r1,r2,r3,r4,rfl,gr⟩:=hr.gen;refine ⟨_,?_,bX⟩;unfold ae at e1 e2;simp only [go_sem,ya,yb,aD,t4,t5,g1,g2,e1,gz.ai,oh false hl4 (show 0<4 by decide),e2,bE,gr.st,db,de,yj];exact gr.dn _
 ·rintro k st ⟨m,hk,bf⟩;by_cases hm:m<4
  ·left
   obtain ⟨a,b,c,d,e1,hx⟩:=qh.zT (n:=4) rfl hm;have e2:=av7 h.TZ h.rF hv (k:=(m:Int)) (n:=n) hi hj (by omega) (by omega) (by omega);obtain ⟨q,rest,Sh,e3,e4⟩:=hw.cell (i+(m:Int)%2) (j+(m:Int)/2);have hb:=hw.cV (i+(m:Int)%2) (j+(m:Int)/2);obtain ⟨z,e5,hz⟩:=Ds h.toFr' (z:=dE s (i+(m:Int)%2) (j+(m:Int)/2)) (by omega) (by omega);obtain ⟨y,e6,hy⟩:=sA h.toFr' hx hz (K:=2*K+70) ((kw _ (ta _)).mono (by omega)) ((HR (i:=i) (j:=j) (k:=(m:Int)) hw.cV).mono (by omega)) (by omega);have a1:=wW (i+(m:Int)%2) (show (n:Int)≠0 by omega);have a2:=wW (j+(m:Int)/2) (show (n:Int)≠0 by omega);have sB:=hy;obtain ⟨y1,y2,y3,y4,rfl,gy⟩:=hy.gen;obtain ⟨z1,z2,z3,z4,rfl,gz⟩:=hz.gen;have gx:=hx.f4;have bz:∀q,hJ q [AV.int .i64 0,.ab,.int .i64 0,.ab] 0 4 [y1,y2,y3,y4] []=fill q [y1,y2,y3,y4] []:=fun q=>asc gy.o1 gy.o2 gy.o3 gy.o4
   have hpg:(lJ s i j f g)[m]'(by simp [lJ];omega)=(pG f g)[m]'hm*mW s i j (m:Int):=anu _ _ _ _ _ m hm;have ep:(lJ s i j f g).take (m+1)=(lJ s i j f g).take m++[(pG f g)[m]'hm*mW s i j (m:Int)]:=by rw [wj (by simp [lJ];omega),hpg]
   unfold mW at ep;unfold ae at e2 e5 e6;obtain ⟨WH,WI,WJ,WK⟩:=gy.Po;have pY:aJ [y1,y2,y3,y4]=true:=by simp only [aJ,WH,WI,WJ,WK,ve]
   rcases bf with ⟨h0,rfl⟩ | ⟨h0,ps,fg,rfl⟩
   ·subst h0;simp only [go_sem,ya,yb,xR,Nat.reduceLT,yg,EA,show ((0:Nat):Int)<4 by omega,yq,qS (show (0:Int)<=((0:Nat):Int) by omega),wC,e1,aH,gx.st,RW,lm,fz,hn,hS.len,e2,AJ,qS a1,qS a2,e3,e4,e5,gx.ai,gz.ai,e6,bz,WH,WI,WJ,WK,ve,aeP,bE,yj,lY];refine ⟨_,k-1,rfl,by omega,1,by omega,.inr ⟨by omega,[y1,y2,y3,y4],?_,?_⟩⟩
    ·rw [ep];exact ⟨sB,trivial⟩
    ·rw [wrap64 (by omega) (by omega)];simp only [go_sem,ya,yb,aD,aM hS.pu,aQ _ hS.pu,aM pW,aQ _ pW]<;>rfl
   ·simp only [go_sem,ya,yb,xR,EA,show (m:Int)<4 by omega,yq,qS (show (0:Int)<=m by omega),wC,e1,aH,gx.st,RW,lm,fz,hn,hS.len,e2,AJ,qS a1,qS a2,e3,e4,e5,gx.ai,gz.ai,e6,bz,WH,WI,WJ,WK,ve,aeP,bE,yj]
    rw [lk (ex:=false) (pu:=true) (cs:=ps) (by simp only [go_sem,ya]) (by rw [fg.len,yT,Nat.min_eq_left (by simp [lJ];omega)]) (by omega) (by omega) (by decide) (by simp only [go_sem,gy.o1,gy.o2,gy.o3,gy.o4])];simp only [go_sem,ya,yb,pY];refine ⟨_,k-1,rfl,by omega,m+1,by omega,.inr ⟨by omega,ps++[y1,y2,y3,y4],?_,?_⟩⟩
    ·rw [ep];exact fg.snoc sB
    ·rw [wrap64 (by omega) (by omega)];simp only [go_sem,ya,yb,aD,aM hS.pu,aQ _ hS.pu,aM pW,aQ _ pW]<;>rfl
  ·right
   have h4:m=4:=by omega
   subst h4;rcases bf with ⟨h0,rfl⟩ | ⟨h0,ps,fg,rfl⟩
   ·exact absurd h0 (by decide)
   ·simp only [go_sem,ya,EA,show ¬((4:Nat):Int)<4 by decide,yp];exact ⟨_,_,rfl,by simp,_,_,_,ps,fg,rfl,rfl,by simp only [go_sem,ya],by simp only [go_sem,ya]<;>rfl,by simp only [go_sem,ya],by simp only [go_sem]⟩
end
end
section
open Go (IntKind)
section
variable {P:aK} {L:Lib}
def Sr (tm:Env) (hp:Hp) (rs:List (Nat×Bool×Nat)) (q:fQ):fQ:=match q with | some (v,ao,bh)=>bif pN tm hp ao rs then some (v,ao,bh) else none | none=>none
def anv {f:cJ} {tm:Env} {hp:Hp} {ct:Nat} (rs:List (Nat×Bool×Nat)) (g:X) (xs:List X):bt P L f tm hp ct (.gY rs g xs)=Sr tm hp rs (dC P L f hp ct .dyn (az tm g) (dD tm xs)):=rfl
def apJ {tm:Env} {hp ao:Hp} {rs:List (Nat×Bool×Nat)} {v:AV} {bh:Nat} (h:pN tm hp ao rs=true):Sr tm hp rs (some (v,ao,bh))=some (v,ao,bh):=by
 simp only [Sr,h,ym]
section
variable {b n R st:Nat} {fnv:AV} {H:Hp} {rs:List (List AV)}
def ak2:ap (bF (b+5) rs++cA b n R fnv st H) b=some (.cells true true true 1 [.int .i64 n]):=by
 rw [qK (by omega)];simp only [cA,ap,cE (show b+4≠b by omega),cE (show b+3≠b by omega),cE (show b+2≠b by omega),cE (show b+1≠b by omega),xo,yB,ym]
def ak3:ap (bF (b+5) rs++cA b n R fnv st H) (b+1)=some (.cells true (aS fnv) true 1 [fnv]):=by
 rw [qK (by omega)];simp only [cA,ap,cE (show b+4≠b+1 by omega),cE (show b+3≠b+1 by omega),cE (show b+2≠b+1 by omega),xo,yB,ym]
def Ql:ap (bF (b+5) rs++cA b n R fnv st H) (b+2)=some (.cells true (yr R 0) true 1 (fJ (b+5) n R)):=by
 rw [qK (by omega)];simp only [cA,ap,cE (show b+4≠b+2 by omega),cE (show b+3≠b+2 by omega),xo,yB,ym]
def Qm:ap (bF (b+5) rs++cA b n R fnv st H) (b+3)=some (.cells true false true 1 [.ak (b+2) 0 n]):=by
 rw [qK (by omega)];simp only [cA,ap,cE (show b+4≠b+3 by omega),xo,yB,ym]
def Lc:ap (bF (b+5) rs++cA b n R fnv st H) (b+4)=some (.lp (gG b n fnv) [12,13] zh pQ st .none):=by
 rw [qK (by omega)];simp only [cA,ap,xo,ym]
def Zd {st':Nat}:aY (bF (b+5) rs++cA b n R fnv st H) (b+4) (.lp (gG b n fnv) [12,13] zh pQ st' .none)=bF (b+5) rs++cA b n R fnv st' H:=by
 rw [Pt (by omega)];simp only [cA,aY,xo,ym]
def ak4:aY (bF (b+5) rs++cA b n R fnv st H) (b+2) (.cells true false true 1 (fJ (b+5) n (R+1)))=bF (b+5) rs++cA b n (R+1) fnv st H:=by
 rw [Pt (by omega)];simp only [cA,aY,cE (show b+4≠b+2 by omega),cE (show b+3≠b+2 by omega),xo,yB,ym,cE (Nat.succ_ne_zero R)]
def anw {cs:List AV} {old:Hp} {ct:Nat} (h:ct=b+5+rs.length):(ct,Obj.cells true true true 1 cs)::(bF (b+5) rs++old)=bF (b+5) (cs::rs)++old:=by
 subst h;rfl
def anx {cs:List AV} {old:Hp} {x:Nat} (h:x=b+5+rs.length):ap (bF (b+5) (cs::rs)++old) x=some (.cells true true true 1 cs):=by
 subst h;simp only [bF,y8,Hx]
def anz {cs dK:List AV} {old:Hp} {x:Nat} (h:x=b+5+rs.length):aY (bF (b+5) (cs::rs)++old) x (.cells true true true 1 dK)=bF (b+5) (dK::rs)++old:=by
 subst h;simp only [bF,y8,ZU]
end
def Ze {B n r:Nat}:(fJ B n (r+1)).drop r= .ak (B+r) 0 n::yA (n-(r+1)) .ab:=by
 unfold fJ;rw [tu,xq,xu,List.drop_left' (by simp)];rfl
def Ym {b n r c:Nat} (hr:r<n) (hc:c<n) {fnv v:AV} {H H':Hp} {cur:List AV} {prev:List (List AV)} (hp:prev.length=r) (azR:cur.length=n) (er:bA v=true) (cZ:aS v=true) {tm:Env} {ct base:Nat}
  (h3:af tm 3= .ptr (b+1) 0) (h5:af tm 5= .ptr (b+3) 0) (h6:af tm 6=aa c) (h7:af tm 7=aa r)
  (ix:dC P L (D P L) (bF (b+5) (cur::prev)++cA b n (r+1) fnv 1 H) ct .dyn fnv [aa c,aa r]=some (v,bF (b+5) (cur::prev)++cA b n (r+1) fnv 1 H',ct)):
  ∃tm',D P L (.aV [⟨some 21,none,.ld 1 false (.t 5)⟩,⟨some 22,none,.cg (.t 7)⟩,⟨some 23,none,.bj 1 (.t 21) (.t 22)⟩,⟨some 24,none,.ld 1 false (.t 23)⟩,⟨some 25,none,.cg (.t 6)⟩,⟨some 26,none,.ld 1 false (.t 3)⟩,
   ⟨some 27,none,.cg (.t 6)⟩,⟨some 28,none,.cg (.t 7)⟩,⟨some 29,none,.gY [(1,false,5),(1,false,23)] (.t 26) [(.t 27),(.t 28)]⟩,⟨some 30,none,.bj 1 (.t 24) (.t 25)⟩,⟨none,none,.st 1 (.t 30) (.t 29)⟩])
   ⟨tm,bF (b+5) (cur::prev)++cA b n (r+1) fnv 1 H,ct,base⟩=some (.normal,⟨tm',bF (b+5) (over c [v] cur::prev)++cA b n (r+1) fnv 1 H',ct,base⟩):=by
 have hl:∀H,ap (bF (b+5) (cur::prev)++cA b n (r+1) fnv 1 H) (b+5+r)=some (.cells true true true 1 cur):=fun H=>anx (by omega)
 have hs:∀H X,aY (bF (b+5) (cur::prev)++cA b n (r+1) fnv 1 H) (b+5+r) (.cells true true true 1 X)=bF (b+5) (X::prev)++cA b n (r+1) fnv 1 H:=fun H X=>anz (by omega)
 have Mm:cellsOf v=[v]:=by cases v<;>simp_all [cellsOf,bA]
 have bf:∀H,fy (bF (b+5) (cur::prev)++cA b n (r+1) fnv 1 H) ct (b+5+r) c 1 [v] (some (.cells true true true 1 cur))=some (.aq [],aY (bF (b+5) (cur::prev)++cA b n (r+1) fnv 1 H) (b+5+r) (.cells true true true 1 (over c [v] cur)),ct):=fun H=>by
  rw [mj (sz:=1) (by rfl) (by omega) (by simp [bQ,er])];simp [aJ,cZ]
 simp only [go_sem,ya,yi,h3,h5,h6,h7,Qm,Ql,ak3,dd _ _ hr,yd,Ze,anv,ix];rw [apJ]
 ·simp only [go_sem,ya,yi,dd _ _ hc,yd,Mm,hl,bf,hs];exact ⟨_,rfl⟩
 ·simp only [pN];simp only [go_sem,ya,h5,Qm,Ql,Ze,MT,xo]
def aij {b n r c:Nat} (hr:r<n) (hc:c<n) (ie:n<=1000) {fnv:AV} (hf:bA fnv=true) {val:Nat->Nat->AV} (er:bA (val c r)=true) (cZ:aS (val c r)=true) {H H':Hp} {prev rs:List (List AV)} (hp:prev.length=r)
  (GO:rs=if c=0 then prev else kS (.int .i64 0) val n r c::prev)
  (ix:∀cur,dC P L (D P L) (bF (b+5) (cur::prev)++cA b n (r+1) fnv 1 H) (b+5+(r+1)) .dyn fnv [aa c,aa r]=some (val c r,bF (b+5) (cur::prev)++cA b n (r+1) fnv 1 H',b+5+(r+1))):
  iT (D P L) (bF (b+5) rs++cA b n rs.length fnv 0 H) (b+5+rs.length) (b+4) [aa c,aa r]=
   some (.bool true,bF (b+5) (kS (.int .i64 0) val n r (c+1)::prev)++cA b n (r+1) fnv 0 H',b+5+(r+1)):=by
 have Mm:cellsOf fnv=[fnv]:=by cases fnv<;>simp_all [cellsOf,bA]
 have hb:∃tm',D P L pQ ⟨(7,aa r)::(6,aa c)::(13,aa r)::(12,aa c)::gG b n fnv,bF (b+5) rs++cA b n rs.length fnv 1 H,b+5+rs.length,b+5+rs.length⟩=
   some (.normal,⟨tm',bF (b+5) (kS (.int .i64 0) val n r (c+1)::prev)++cA b n (r+1) fnv 1 H',b+5+(r+1),b+5+rs.length⟩):=by
  by_cases h0:c=0
  ·subst h0;rw [yJ rfl] at GO;subst GO;have bf:∀H,fy (bF (b+5) (yA n (.int .i64 0)::rs)++cA b n r fnv 1 H) (b+5+r+1) (b+2) r 1 [.ak (b+5+r) 0 n] (some (.cells true (yr r 0) true 1 (fJ (b+5) n r)))=
     some (.aq [],bF (b+5) (yA n (.int .i64 0)::rs)++cA b n (r+1) fnv 1 H,b+5+r+1):=fun H=>by
    rw [mj (sz:=1) (by rfl) (by rw [amV (by omega)];omega) (by rfl),akF hr];simp only [X8,acI,Bool.false_and,Bool.and_false,ak4]
   obtain ⟨tm',h2⟩:=Ym (P:=P) (L:=L) (b:=b) (c:=0) hr hc (cur:=yA n (.int .i64 0)) (prev:=rs) hp (by simp) er cZ (H:=H) (H':=H') (ct:=b+5+r+1) (base:=b+5+r) (fnv:=fnv)
    (tm:=(20,.ptr (b+2) r)::(19,.ak (b+5+r) 0 n)::(18,.int .i64 n)::(17,aa r)::(16,.ak (b+2) 0 n)::(15,.bool true)::(14,aa ((0:Nat):Int))::(7,aa r)::(6,aa ((0:Nat):Int))::(13,aa r)::(12,aa ((0:Nat):Int))::gG b n fnv)
    (by rfl) (by rfl) (by rfl) (by rfl) (ix _)
   refine ⟨tm',?_⟩;simp only [hp];unfold pQ;rw [Sa,jy,jy,R9]
   simp only [go_sem,ya,yi,gG,Qm,ak2,dd _ _ hr,yd,yar,Ek (ct:=b+5+r) (sz:=1) (by':=8) (l:=n) (z:=[.int .i64 0]) (by omega) (by omega) rfl rfl,QN]
   rw [anw (rs:=rs) (ct:=b+5+r) (by omega),Ql,bf];simp only [aa8,aem,aa7,acE,fM];simp only [gG,yar] at h2;rw [h2,Q2,<-Y3 hc,akH];rfl
  ·rw [yz h0] at GO;subst GO;obtain ⟨tm',h2⟩:=Ym (P:=P) (L:=L) (b:=b) (c:=c) hr hc (cur:=kS (.int .i64 0) val n r c) (prev:=prev) hp (amW (by omega)) er cZ (H:=H) (H':=H') (ct:=b+5+(r+1)) (base:=b+5+(r+1)) (fnv:=fnv)
    (tm:=(15,.bool false)::(14,aa c)::(7,aa r)::(6,aa c)::(13,aa r)::(12,aa c)::gG b n fnv)
    (by rfl) (by rfl) (by rfl) (by rfl) (ix _)
   refine ⟨tm',?_⟩;simp only [yv,hp];unfold pQ;rw [Sa,jy,jy,R9];simp only [gG] at h2 ⊢;simp only [go_sem,ya,show ¬(c:Int)=0 by omega];simp only [go_sem,ya] at h2;rw [h2,Q2,Y3 hc]
 obtain ⟨tm',hb⟩:=hb;have hlen:b+5+(r+1)=b+5+(kS (.int .i64 0) val n r (c+1)::prev).length:=by rw [yv,hp]
 rw [Z0 (Lc) (tm':=(13,aa r)::(12,aa c)::gG b n fnv) rfl (s1:=⟨(7,aa r)::(6,aa c)::(13,aa r)::(12,aa c)::gG b n fnv,bF (b+5) rs++cA b n rs.length fnv 0 H,b+5+rs.length,b+5+rs.length⟩) (by unfold zh;simp only [go_sem,ya]) Lc
  (by simp only [Zd];exact hb) Lc,Zd]
end
end
section
open Go (IntKind)
section
variable {P:aK} {L:Lib}
structure Il (P:aK) (L:Lib) (b n:Nat) (fnv:AV) (val:Nat->Nat->AV) (Hs:Nat->Hp):Prop where
 n1:n<=1000
 zp:∀k,MJ b fnv (Hs k)
 one:∀c r,bA (val c r)=true
 pu:∀c r,aS (val c r)=true
 call:∀c r,c<n->r<n->∀(ff:Hp) (ct:Nat),(∀p,p∈ff->b<=p.1)->b<=ct->jr ct ct ff->(du ct ff).length<=5000->dC P L (D P L) (ff++Hs (r*n+c)) ct .dyn fnv [aa c,aa r]=some (val c r,ff++Hs (r*n+c+1),ct)
def iH (val:Nat->Nat->AV) (n r c:Nat):List (List AV):=if c=0 then eS val n r else kS (.int .i64 0) val n r c::eS val n r
def ajb {val:Nat->Nat->AV} {n r c:Nat}:(iH val n r c).length=if c=0 then r else r+1:=by
 unfold iH;split<;>simp [AD]
def aik {val:Nat->Nat->AV} {n r c:Nat}:iH val n r (c+1)=kS (.int .i64 0) val n r (c+1)::eS val n r:=by
 simp [iH]
def ail {val:Nat->Nat->AV} {n r:Nat} (hn:0<n):iH val n r n=eS val n (r+1):=by
 rw [iH,yz (by omega),akG];rfl
def aim {val:Nat->Nat->AV} {n r:Nat}:iH val n r 0=eS val n r:=by simp [iH]
def Zf {B:Nat}:∀{rs:List (List AV)} (p:Nat×Obj),p∈bF B rs->B<=p.1
 | [],p,h=>by simp [bF] at h
 | c::r,p,h=>by
  rcases wo.1 h with rfl | h
  ·show B<=B+r.length;omega
  ·exact Zf p h
def aaj {b n R st:Nat} {fnv:AV} {H:Hp} {rs:List (List AV)}:bF (b+5) rs++cA b n R fnv st H=(bF (b+5) rs++cA b n R fnv st [])++H:=by
 rw [xu];rfl
def anA {b n R st:Nat} {fnv:AV} {rs:List (List AV)} (p:Nat×Obj) (h:p∈bF (b+5) rs++cA b n R fnv st []):b<=p.1:=by
 rcases List.mem_append.1 h with h | h
 ·have:=Zf p h;omega
 ·simp only [cA,wo,uG,ybx] at h;rcases h with rfl | rfl | rfl | rfl | rfl<;>simp
def ajc {b n R st:Nat} (hR:R<=n) {fnv:AV} {H:Hp} (ho:MJ b fnv H) {rs:List (List AV)} (hl:rs.length=R):jr (b+5+R) (b+5+R) (bF (b+5) rs++cA b n R fnv st []):=by
 have NJ:jq (b+4) (gG b n fnv):=by
  have:=DM (show b<=b+4 by omega) ho.fv
  refine ⟨⟨trivial,trivial,trivial⟩,trivial,show b+3<b+4 by omega,show b+2<b+4 by omega,trivial,trivial,show b+1<b+4 by omega,show b<b+4 by omega,trivial,this,trivial⟩
 refine PU (XC (by omega)) ⟨by omega,KL (by omega) NJ,by omega,.inr ⟨show b+2<_ by omega,trivial⟩,by omega,.inr Yh,by omega,.inr ⟨DM (by omega) ho.fv,trivial⟩,by omega,.inl rfl,trivial⟩
def ak5 {b n R st ct:Nat} (hR:R<=n) (hn:n<=1000) (fE:b+5<=ct) {fnv:AV} {H:Hp} (ho:MJ b fnv H) {rs:List (List AV)}:(du ct (bF (b+5) rs++cA b n R fnv st [])).length<=5000:=by
 have auG:(fb (gG b n fnv)).length<=1010:=by
  have:=ho.fl
  simp [gG,fb,refs,eI];omega
 have Fe:(fc (.cells true (aS fnv) true 1 [fnv])).length<=1000:=by
  cases aS fnv with
  | true=>simp [fc]
  | false=>simp [fc,eI];exact ho.fl
 have hol:(fc (.cells true (yr R 0) true 1 (fJ (b+5) n R))).length<=1000:=by
  cases hq:yr R 0 with
  | true=>simp [fc]
  | false=>simp only [fc,yB,Y4,List.length_range'];omega
 rw [PE,W7,xS];simp only [cA,du,gX (show b+4<ct by omega),gX (show b+3<ct by omega),gX (show b+2<ct by omega),gX (show b+1<ct by omega),gX (show b<ct by omega),ym,List.length_append,yF];have h3:(fc (.cells true false true 1 [AV.ak (b+2) 0 n])).length=1:=rfl;have h0:(fc (.cells true true true 1 [AV.int .i64 n])).length=0:=rfl;have h4:(fc (.lp (gG b n fnv) [12,13] zh pQ st .none)).length=(fb (gG b n fnv)).length:=rfl;rw [h3,h0,h4];omega
def ak6 {b n:Nat} {fnv:AV} {val:Nat->Nat->AV} {Hs:Nat->Hp} (hf:Il P L b n fnv val Hs) {r:Nat} (hr:r<n):
  ∀d st,(∃c:Nat,bH [0,1,3,5,6,9,10] st=⟨[(0,.fn (.y (b+4)) [] []),(1,.aF [.int .i64 n]),(3,aa r),(5,aa n),(6,aa r),(9,aa n),(10,aa c)],bF (b+5) (iH val n r c)++cA b n (iH val n r c).length fnv 0 (Hs (r*n+c)),b+5+(iH val n r c).length,b+5⟩/\c+d=n)->
   ∃ex s',D P L (.loop [0,1,3,5,6,9,10] sY) st=some (ex,s')/\∃tm ct,s'=⟨tm,bF (b+5) (iH val n r n)++cA b n (iH val n r n).length fnv 0 (Hs (r*n+n)),ct,b+5⟩/\ex= .exit 2/\af tm 0= .fn (.y (b+4)) [] []/\af tm 1= .aF [.int .i64 n]/\af tm 5=aa n/\af tm 6=aa r:=by
 have n1:=hf.n1
 refine cC (I:=fun d st=>∃c:Nat,st=⟨[(0,.fn (.y (b+4)) [] []),(1,.aF [.int .i64 n]),(3,aa r),(5,aa n),(6,aa r),(9,aa n),(10,aa c)],bF (b+5) (iH val n r c)++cA b n (iH val n r c).length fnv 0 (Hs (r*n+c)),b+5+(iH val n r c).length,b+5⟩/\c+d=n)
  (Q:=fun ex s'=>∃tm ct,s'=⟨tm,bF (b+5) (iH val n r n)++cA b n (iH val n r n).length fnv 0 (Hs (r*n+n)),ct,b+5⟩/\ex= .exit 2/\af tm 0= .fn (.y (b+4)) [] []/\af tm 1= .aF [.int .i64 n]/\af tm 5=aa n/\af tm 6=aa r) ?_
 rintro d st ⟨c,rfl,hcd⟩;by_cases hc:c<n
 ·left
  have Im:=aij (P:=P) (L:=L) (b:=b) hr hc n1 (hf.zp 0).one (hf.one c r) (hf.pu c r) (H:=Hs (r*n+c)) (H':=Hs (r*n+c+1)) (prev:=eS val n r) (rs:=iH val n r c) (AD val n r) rfl (fun cur=>by
   have hl:(cur::eS val n r).length=r+1:=by rw [yv,AD]
   rw [aaj,hf.call c r hc hr _ _ anA (by omega) (ajc (by omega) (hf.zp 0) hl) (ak5 (by omega) n1 (by omega) (hf.zp 0)),<-aaj])
  have zg:∀(xs:List AV) (hp:Hp) (ct:Nat),dC P L (D P L) hp ct .heap (.fn (.y (b+4)) [] []) xs=iT (D P L) hp ct (b+4) xs:=fun _ _ _=>rfl
  simp only [go_sem,ya,sY,show (c:Int)<n by omega,zg,Im,show (c:Int)+1=((c+1:Nat):Int) from rfl,wrapN (n:=c+1) (by omega)];refine ⟨_,d-1,rfl,by omega,c+1,?_,by omega⟩;rw [<-aik];have hlen:(iH val n r (c+1)).length=r+1:=by rw [ajb,yz (by omega)]
  have jC:=fun (tm:Env) (ct:Nat)=>G0 (tm:=tm) (ct:=ct) (b:=b) (n:=n) (st:=0) (live:=[0,1,3,5,6,9,10]) (rs:=iH val n r (c+1)) (hf.zp (r*n+c+1)) (by omega) n1
  simp only [hlen] at jC ⊢;rw [jC]
  ·simp only [go_sem,ya];rfl
  ·simp only [go_sem,ya];exact ⟨⟨by omega,rfl,rfl⟩,trivial,trivial,trivial,trivial,trivial,trivial,trivial⟩
  ·simp only [go_sem,ya,yb,yg]
 ·right
  have:c=n:=by omega
  subst this;simp only [go_sem,ya,sY,show ¬(c:Int)<c by omega];refine ⟨_,_,rfl,by simp,_,_,rfl,rfl,?_⟩;simp only [go_sem,ya]
  simp
def ajd {b n:Nat} (hn:0<n) {fnv:AV} {val:Nat->Nat->AV} {Hs:Nat->Hp} (hf:Il P L b n fnv val Hs):
  ∀d st,(∃r:Nat,bH [0,1,5,6] st=⟨[(0,.fn (.y (b+4)) [] []),(1,.aF [.int .i64 n]),(5,aa n),(6,aa r)],bF (b+5) (eS val n r)++cA b n (eS val n r).length fnv 0 (Hs (r*n)),b+5+(eS val n r).length,b+5⟩/\r+d=n)->
   ∃ex s',D P L (.loop [0,1,5,6] sZ) st=some (ex,s')/\∃tm ct,s'=⟨tm,bF (b+5) (eS val n n)++cA b n (eS val n n).length fnv 0 (Hs (n*n)),ct,b+5⟩/\ex= .exit 0:=by
 have n1:=hf.n1
 refine cC (I:=fun d st=>∃r:Nat,st=⟨[(0,.fn (.y (b+4)) [] []),(1,.aF [.int .i64 n]),(5,aa n),(6,aa r)],bF (b+5) (eS val n r)++cA b n (eS val n r).length fnv 0 (Hs (r*n)),b+5+(eS val n r).length,b+5⟩/\r+d=n)
  (Q:=fun ex s'=>∃tm ct,s'=⟨tm,bF (b+5) (eS val n n)++cA b n (eS val n n).length fnv 0 (Hs (n*n)),ct,b+5⟩/\ex= .exit 0) ?_
 rintro d st ⟨r,rfl,kW⟩;by_cases hr:r<n
 ·left
  have hlen:(eS val n r).length=r:=AD val n r;have CF:(eS val n (r+1)).length=r+1:=AD val n (r+1);have jC:=fun (tm:Env) (ct:Nat)=>G0 (tm:=tm) (ct:=ct) (b:=b) (n:=n) (st:=0) (live:=[0,1,3,5,6,9,10]) (rs:=eS val n r) (hf.zp (r*n)) (by omega) n1
  have EE:=fun (tm:Env) (ct:Nat) (live:List Nat)=>G0 (tm:=tm) (ct:=ct) (live:=live) (b:=b) (n:=n) (st:=0) (rs:=eS val n (r+1)) (hf.zp ((r+1)*n)) (by omega) n1
  simp only [hlen] at jC;simp only [CF] at EE;simp only [go_sem,ya,sZ,show (r:Int)<n by omega,hlen];generalize hq:D P L (.loop [0,1,3,5,6,9,10] sY) _=q;obtain ⟨ex,st,rfl,tm,ct,rfl,rfl,g0,g1,g5,g6⟩:=cd hq (ak6 hf hr n) ⟨0,by
   simp only [aim,hlen,Nat.add_zero];rw [jC]
   ·simp only [go_sem,ya];rfl
   ·simp only [go_sem,ya];exact ⟨⟨by omega,rfl,rfl⟩,trivial,trivial,trivial,trivial,trivial,trivial,trivial⟩
   ·simp only [go_sem,ya,yb,yg],by omega⟩
  simp only [ail hn,CF,show r*n+n=(r+1)*n by rw [wG,Nat.one_mul]];rw [HL,fM,I8,EE]
  ·simp only [go_sem,ya,g0,g1,g5,g6,show (r:Int)+1=((r+1:Nat):Int) from rfl,wrapN (n:=r+1) (by omega)];refine ⟨_,d-1,rfl,by omega,r+1,?_,by omega⟩;rw [CF,EE]
   ·simp only [go_sem,ya]
   ·simp only [go_sem,ya];exact ⟨⟨by omega,rfl,rfl⟩,trivial,trivial,trivial,trivial⟩
   ·simp only [go_sem,ya,yb,yg]
  ·simp only [go_sem,g0,g1,g5,g6];exact ⟨⟨by omega,rfl,rfl⟩,trivial,trivial,trivial,trivial⟩
  ·simp only [go_sem,yb,yg,g0,g1,g5,g6]
 ·right
  have:r=n:=by omega
  subst this;simp only [go_sem,ya,sZ,show ¬(r:Int)<r by omega];exact ⟨_,_,rfl,by simp,_,_,rfl,rfl⟩
structure BuT (P:aK) (L:Lib):Prop where
 Pe:Has P L 40 JU
 h96:Has P L 96 U6
 NZ:Has P L 133 EO
def s96 (h:BuT P L) (n:Int):bR P L (D P L) 96 [aa n]=some (.fn (.f 133) [] [.aF [aa n]]):=by
 rw [av h.h96];simp only [go_sem,ya,yb,U6];rfl
def jD (b n:Nat) (fnv:AV) (val:Nat->Nat->AV) (H:Hp):Hp:=
 bF (b+5) (eS val n n)++(b+3,.cells true false true 1 [.ak (b+2) 0 n])::(b+2,.cells true false true 1 (fJ (b+5) n n))::(b+1,.cells true (aS fnv) true 1 [fnv])::(b,.cells true true true 1 [.int .i64 n])::H
def Zg {x:Nat}:∀{H:Hp},(∀p,p∈H->p.1≠x)->dz H x=H
 | [],_=>rfl
 | (id,o)::r,h=>by
  rw [dz,cE (h (id,o) (by simp)),yB,Zg (fun p hp=>h p (by simp [hp]))]
def Zh (h:BuT P L) {b n:Nat} (hn:0<n) {fnv:AV} {val:Nat->Nat->AV} {Hs:Nat->Hp} (hf:Il P L b n fnv val Hs) (hb:∀p,p∈Hs (n*n)->p.1<b):
  ∃tm ct,D P L JU.body ⟨[(0,aa n),(1,fnv)],Hs 0,b,b⟩=some (.ret,⟨tm,jD b n fnv val (Hs (n*n)),ct,b⟩)/\af tm 4= .ak (b+2) 0 n:=by
 have n1:=hf.n1;have fH:=(hf.zp 0).one;have Mm:cellsOf fnv=[fnv]:=by cases fnv<;>simp_all [cellsOf,bA]
 have av9:∀ct,zE ct 1 24 [.ab] (some n) (some n)=some (.ak ct 0 n,.cells true true true 1 (yA n .ab)):=fun ct=>by
  rw [Ek (sz:=1) (by omega) (by omega) rfl rfl,QN];rfl
 have atI:fJ (b+5) n 0=yA n .ab:=by simp [fJ]
 have inner:∃tm ct,D P L EO.body ⟨fp 0 [.fn (.y (b+4)) [] [],.aF [.int .i64 n]],(b+4,.lp (gG b n fnv) [12,13] zh pQ 0 .none)::(b+3,.cells true false true 1 [.ak (b+2) 0 n])::(b+2,.cells true true true 1 (yA n .ab))::(b+1,.cells true (aS fnv) true 1 [fnv])::(b,.cells true true true 1 [.int .i64 n])::Hs 0,b+5,b+5⟩=
   some (.normal,⟨tm,bF (b+5) (eS val n n)++cA b n n fnv 0 (Hs (n*n)),ct,b+5⟩):=by
  have bf:(b+4,Obj.lp (gG b n fnv) [12,13] zh pQ 0 .none)::(b+3,.cells true false true 1 [.ak (b+2) 0 n])::(b+2,.cells true true true 1 (yA n .ab))::(b+1,.cells true (aS fnv) true 1 [fnv])::(b,.cells true true true 1 [.int .i64 n])::Hs 0=
    bF (b+5) []++cA b n 0 fnv 0 (Hs 0):=by
   simp only [bF,xS,cA,atI];rfl
  rw [bf];simp only [go_sem,ya,EO];generalize hq:D P L (.loop [0,1,5,6] sZ) _=q;have jC:=fun (tm:Env) (ct:Nat) (live:List Nat)=>G0 (tm:=tm) (ct:=ct) (live:=live) (b:=b) (n:=n) (st:=0) (rs:=[]) (hf.zp 0) (by simp) n1
  simp only [yF] at jC;obtain ⟨ex,st,rfl,tm,ct,rfl,rfl⟩:=cd hq (ajd hn hf n) ⟨0,by
   simp only [eS,yF,Nat.zero_mul];rw [jC]
   ·simp only [go_sem,ya];rfl
   ·simp only [go_sem,ya];exact ⟨⟨by omega,rfl,rfl⟩,trivial,trivial,trivial,trivial⟩
   ·simp only [go_sem,ya,yb,yg],by omega⟩
  have hlen:(eS val n n).length=n:=AD val n n;have EE:=fun (tm:Env) (ct:Nat) (live:List Nat)=>G0 (tm:=tm) (ct:=ct) (live:=live) (b:=b) (n:=n) (st:=0) (rs:=eS val n n) (hf.zp (n*n)) (by omega) n1
  simp only [hlen] at EE ⊢;simp only [go_sem];rw [EE]
  ·exact ⟨_,_,rfl⟩
  ·simp only [go_sem]
   trivial
  ·simp only [go_sem,yg]
 obtain ⟨tm,ct,inner⟩:=inner;have GV:=aez (P:=P) (L:=L) (f:= .t 11) (ps:=[12,13]) (as_:=zh) (body:=pQ)
  (s:=⟨gG b n fnv,(b+3,.cells true false true 1 [.ak (b+2) 0 n])::(b+2,.cells true true true 1 (yA n .ab))::(b+1,.cells true (aS fnv) true 1 [fnv])::(b,.cells true true true 1 [.int .i64 n])::Hs 0,b+4,b⟩)
  (n:=133) (first:=[]) (cap:=[.aF [.int .i64 n]]) rfl h.NZ.heap (D1 h.NZ inner (.inl rfl) rfl) Lc (by decide)
 have UK:dz (bF (b+5) (eS val n n)++cA b n n fnv 0 (Hs (n*n))) (b+4)=jD b n fnv val (Hs (n*n)):=by
  rw [W6 (by omega),jD]
  simp only [cA,dz,xo,ym,cE (show b+3≠b+4 by omega),cE (show b+2≠b+4 by omega),cE (show b+1≠b+4 by omega),cE (show b≠b+4 by omega),yB,
   Zg (fun p hp=>by have:=hb p hp;omega:∀p,p∈Hs (n*n)->p.1≠b+4),cE (show n≠0 by omega)]
 have hg3:ap (jD b n fnv val (Hs (n*n))) (b+3)=some (.cells true false true 1 [.ak (b+2) 0 n]):=by
  rw [jD,qK (by omega),ap,xo,ym]
 simp only [gG] at GV;simp only [go_sem,ya,yb,JU,Mm,aeq fH,av9,s96 h,Nat.add_assoc,GV,show ¬b+1=b by omega,show ¬b+2=b by omega,show ¬b+3=b by omega];simp only [go_sem,UK,hg3];exact ⟨_,_,rfl,by simp only [go_sem]⟩
def aje {hp:Hp} {id i:Nat} {o:Obj}:ap (aY hp id o) i=if id=i then (if (ap hp id).isSome then some o else none) else ap hp i:=by
 induction hp with
 | nil=>simp [aY,ap]
 | cons x r ih=>
  obtain ⟨j,q⟩:=x;simp only [aY];by_cases hj:j=id
  ·subst hj;simp only [xo,ym,ap];by_cases hi:j=i
   ·subst hi;simp
   ·simp [cE hi,hi]
  ·simp only [cE hj,yB];rw [ap,ih];by_cases hi:j=i
   ·subst hi
    have:¬id=j:=fun h=>hj h.symm
    simp [xo,this,ap]
   ·simp [cE hi,ap,cE hj]
def aak {B n:Nat} {row:Nat->List AV} (hlen:∀i,(row i).length=n):∀(l:List Nat) (k:Nat) (hp:Hp),l.length+3<=k->(∀i,i∈l->∃rw,ap hp (B+i)=some (.cells rw true true 1 (row i)))->
  ∃ao,cN k hp (l.map fun i=> .ak (B+i) 0 n)=some (l.map fun i=> .aE true n (row i),ao)
 | [],0,hp,hk,_=>by simp at hk
 | [],k+1,hp,_,_=>⟨hp,rfl⟩
 | i::l,0,hp,hk,_=>by simp at hk
 | i::l,1,hp,hk,_=>by simp at hk
 | i::l,2,hp,hk,_=>by simp at hk
 | i::l,k+3,hp,hk,h=>by
  simp only [yv] at hk;obtain ⟨rw,h1⟩:=h i (by simp);have hf:freeze (k+2) hp (.ak (B+i) 0 n)=some (.aE true n (row i),bif rw then aY hp (B+i) (.cells false true true 1 (row i)) else hp):=by
   rw [Q4,Q5,h1]
   cases rw with
   | true=>rw [acJ,oh true (by rw [hlen,yi]) (by decide)];rfl
   | false=>rw [acK,oh true (by rw [hlen,yi]) (by decide)];rfl
  obtain ⟨ao,h2⟩:=aak hlen l (k+2) (bif rw then aY hp (B+i) (.cells false true true 1 (row i)) else hp) (by omega) (fun j hj=>by
   obtain ⟨eY,h3⟩:=h j (by simp [hj])
   cases rw with
   | false=>exact ⟨eY,h3⟩
   | true=>
    simp only [ym,aje,h1,Option.isSome_some,y7];by_cases e:B+i=B+j
    ·have:i=j:=by omega
     subst this;exact ⟨false,by rw [yJ rfl]⟩
    ·exact ⟨eY,by rw [yz e,h3]⟩)
  exact ⟨ao,by rw [List.map_cons,YV,hf,acH,h2];rfl⟩
def lK (val:Nat->Nat->AV) (n:Nat):AV:= .aE true n ((xh n).map fun r=> .aE true n ((xh n).map fun c=>val c r))
def Zi {val:Nat->Nat->AV} {n:Nat}:∀r,(eS val n r).reverse=(xh r).map fun r=>(xh n).map fun c=>val c r
 | 0=>rfl
 | r+1=>by rw [eS,List.reverse_cons,Zi r,tu,xq];rfl
def Zj {b n k:Nat} (hn:0<n) (ie:n<=900) {fnv:AV} {val:Nat->Nat->AV} {H:Hp} (hk:903<k):∃ao,freeze (k+2) (jD b n fnv val H) (.ak (b+2) 0 n)=some (lK val n,ao):=by
 have mE:ap (jD b n fnv val H) (b+2)=some (.cells true false true 1 (fJ (b+5) n n)):=by
  rw [jD,qK (by omega),ap,cE (by omega),yB,ap,xo,ym]
 have EI:fJ (b+5) n n=(xh n).map fun i=> .ak (b+5+i) 0 n:=by simp [fJ]
 have hlen:(eS val n n).length=n:=AD val n n;obtain ⟨ao,h1⟩:=aak (B:=b+5) (n:=n) (row:=fun r=>(xh n).map fun c=>val c r) (fun i=>by simp) (xh n) k (jD b n fnv val H) (by simp;omega) (fun i hi=>by
  have cz:i<n:=List.mem_range.1 hi;refine ⟨true,?_⟩;rw [jD,Qg (by omega)]
  simp only [Zi,List.getElem_map,List.getElem_range])
 rw [Q4,Q5,mE];have hq:Jb k (b+2) (jD b n fnv val H) (some (.cells true false true 1 (fJ (b+5) n n)))=some (true,1,(xh n).map fun r=> .aE true n ((xh n).map fun c=>val c r),aY ao (b+2) (.cells false false true 1 (fJ (b+5) n n))):=by
  simp only [Jb,yB,EI,h1]
 rw [hq,oh true (by simp) (by decide)];exact ⟨_,rfl⟩
def ak7 {b n:Nat} (hn:0<n) (ie:n<=900) {fnv:AV} {val:Nat->Nat->AV} {H:Hp}:result (jD b n fnv val H) (.ak (b+2) 0 n)=some (lK val n):=by
 have mE:ap (jD b n fnv val H) (b+2)=some (.cells true false true 1 (fJ (b+5) n n)):=by
  rw [jD,qK (by omega),ap,cE (by omega),yB,ap,xo,ym]
 obtain ⟨ao,h⟩:=Zj (b:=b) (k:=998) hn ie (fnv:=fnv) (val:=val) (H:=H) (by omega);simp only [result,oC,mE,deep,h]
def ak8 {b n:Nat} (hn:0<n) (ie:n<=900) {fnv:AV} {val:Nat->Nat->AV} {H:Hp} {k:IntKind} {x:Int}:result (jD b n fnv val H) (.aq [.ak (b+2) 0 n,.int k x])=some (.aq [lK val n,.int k x]):=by
 have mE:ap (jD b n fnv val H) (b+2)=some (.cells true false true 1 (fJ (b+5) n n)):=by
  rw [jD,qK (by omega),ap,cE (by omega),yB,ap,xo,ym]
 obtain ⟨ao,h⟩:=Zj (b:=b) (k:=998) hn ie (fnv:=fnv) (val:=val) (H:=H) (by omega);have h1:AN [.ak (b+2) 0 n,.int k x]=some [b+2]:=rfl;simp only [result,h1,qW,oC,mE,deep,h];rfl
end
end
end VE
