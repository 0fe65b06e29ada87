import Derived.Test.YtflgmingejdfnaaGreatDoorVbb
import Derived.Test.YtflgmingejdfnaaGreatDoorVba
import Derived.Test.YtflgmingejdfnaaGreatDoorVau
import Derived.Test.YtflgmingejdfnaaGreatDoorVaw
import Derived.Test.YtflgmingejdfnaaGreatDoorVao
import Derived.Test.YtflgmingejdfnaaGreatDoorVav
set_option linter.all false
set_option maxRecDepth 100000
open Bool renaming and_eq_true→yf,false_and→xA,false_eq_true→yC,not_false→yI,not_true→yK,true_and→xt
open Int renaming add_zero→tf,emod_add_emod→vT,emod_lt_of_pos→wZ,emod_nonneg→wW,emod_sub_emod→yaD,natAbs_natCast→xW,natAbs_neg→uV,neg_mul→ybL,toNat_of_nonneg→uO,zero_sub→tE
open List renaming all_cons→yad,drop→xv,drop_zero→yj,getElem_map→uH,getElem_mem→ta,length_cons→yv,length_map→xx,length_nil→yF,map_cons→y9,map_nil→wM,mem_cons_of_mem→wk,mem_cons_self→wJ,mem_map→vS,range→xh
open Nat renaming mul_one→yi,not_lt_zero→uo,reduceAdd→yb,reduceEqDiff→ya,reduceLT→yy,reduceLeDiff→yg,zero_add→yd
open Rat renaming add_assoc→yby,den_intCast→wg,floor_le→ybE,intCast_add→wL,intCast_lt_intCast→tI,intCast_mul→tR,intCast_neg→yaR,lt_floor_add_one→tZ,num_intCast→wA,one_mul→uz
namespace VE
section
open Go (IntKind)
def aap {lo hi:Int}:∀{l:List Int},(∀x,x∈l->lo<=x/\x<=hi)->df lo hi l=false
 | [],_=>rfl
 | a::r,h=>by
  have:=h a wJ
  rw [df,yz (by omega)];exact aap fun x hx=>h x (wk _ hx)
def Zn {n:Nat} {lo hi:Int}:∀{l:List (List Int)},(∀r,r∈l->r.length=n/\∀x,x∈r->lo<=x/\x<=hi)->eR n lo hi l=0
 | [],_=>rfl
 | r::l,h=>by
  have h1:=h r wJ;rw [eR,yz (by simp [h1.1]),aap h1.2,yz (by decide)];exact Zn fun q hq=>h q (wk _ hq)
def apO {n:Nat} {f:Nat->Nat->Int} (h0:0<n) (h1:n<=16) (hf:∀c r,-1000<=f c r/\f c r<=1000):fo (Ag n f)=0:=by
 unfold fo;rw [sQ,yz (by omega),yz (by omega)];refine Zn fun r hr=>?_
 obtain ⟨i,_,rfl⟩:=vS.1 hr;refine ⟨by simp,fun x hx=>?_⟩;obtain ⟨j,_,rfl⟩:=vS.1 hx;exact hf j i
def mX (s:List (List Int)) (a b:Int):List (List Int):=Ag s.length (fun c r=>dE s ((c:Int)-a) ((r:Int)-b))
def ajg {s:List (List Int)} (h0:0<s.length) (a b c r:Int):dE (mX s a b) c r=dE s (c-a) (r-b):=by
 have hl:(mX s a b).length=s.length:=sQ _ _;have hr:∀i (hi:i<(mX s a b).length),(mX s a b)[i].length=s.length:=fun i hi=>by
  have e:(mX s a b)[i]'hi=(xh s.length).map fun c:Nat=>dE s ((c:Int)-a) ((i:Int)-b):=LV (n:=s.length) (f:=fun c r=>dE s ((c:Int)-a) ((r:Int)-b)) (by rw [hl] at hi;exact hi)
  rw [e];simp
 obtain ⟨h1,h2,h3⟩:=QF hl h0 hr c r;rw [h3];have a1:=wW r (show (s.length:Int)≠0 by omega);have a2:=wZ r (show (0:Int)<s.length by omega);have b1:=wW c (show (s.length:Int)≠0 by omega);have b2:=wZ c (show (0:Int)<s.length by omega);have e:(mX s a b)[(r%s.length).toNat]'h1=(xh s.length).map fun c:Nat=>dE s ((c:Int)-a) (((r%s.length).toNat:Int)-b):=LV (n:=s.length) (f:=fun c r=>dE s ((c:Int)-a) ((r:Int)-b)) (by omega)
 have e2:((mX s a b)[(r%s.length).toNat]'h1)[(c%s.length).toNat]'h2=dE s (((c%s.length).toNat:Int)-a) (((r%s.length).toNat:Int)-b):=by
  simp only [e,uH,List.getElem_range]
 rw [e2,uO a1,uO b1];refine Zc rfl _ _ _ _ ?_ ?_
 ·rw [yaD]
 ·rw [yaD]
def Pu (x:Rat) (a:Int):(x+(a:Rat)).floor=x.floor+a:=by
 have h1:(x.floor:Rat)<=x:=ybE x;have h2:x<(x.floor:Rat)+1:=by
  have:=tZ x
  rwa [wL] at this
 apply Int.le_antisymm
 ·have h3:((x+(a:Rat)).floor:Rat)<=x+a:=ybE _;have h4:((x+(a:Rat)).floor:Rat)<((x.floor+a+1:Int):Rat):=by
   rw [wL,wL]
   have:((1:Int):Rat)=1:=rfl
   rw [this];grind
  have:=tI.1 h4
  omega
 ·have h4:(x+(a:Rat))<(((x+(a:Rat)).floor+1:Int):Rat):=by
   exact tZ (x+(a:Rat))
  have h5:((x.floor+a:Int):Rat)<(((x+(a:Rat)).floor+1:Int):Rat):=by
   rw [wL] at*
   grind
  have:=tI.1 h5
  omega
def Yo (x:Rat) (a:Int):qI (x+(a:Rat))=qI x:=by
 unfold qI;rw [Pu,wL];grind
def ajh {s:List (List Int)} (h0:0<s.length) (x y:Rat) (a b:Int):C4 s (x+(a:Rat)) (y+(b:Rat))=C4 (mX s (-a) (-b)) x y:=by
 have hl:(mX s (-a) (-b)).length=s.length:=sQ _ _;have hc:∀k:Int,mW s ((x+(a:Rat)).floor%s.length) ((y+(b:Rat)).floor%s.length) k=mW (mX s (-a) (-b)) (x.floor%s.length) (y.floor%s.length) k:=fun k=>by
  unfold mW;rw [ajg h0,Pu,Pu]
  congr 1
  refine Zc rfl _ _ _ _ ?_ ?_
  ·rw [vT,show x.floor%s.length+k%2 - -a=x.floor%s.length+(k%2+a) by omega,vT]
   congr 1;omega
  ·rw [vT,show y.floor%s.length+k/2 - -b=y.floor%s.length+(k/2+b) by omega,vT]
   congr 1;omega
 unfold C4 NY lJ;rw [hl,Yo,Yo,hc,hc,hc,hc]
section
variable {P:aK} {L:Lib}
def atL (h:Rm P L) (zO:Has P L 340 Bj) (nP:Has P L 338 Bi) {n:Nat} (h0:0<n) (hn:n<1000000000):ae P L 340 [.str (RT ((-(n:Int):Int):Rat))] (.aq [aa (-(n:Int)),.bool true]):=by
 have kz:Hq 40 ((-(n:Int):Int):Rat):=⟨by rw [wA];unfold Bd;omega,by rw [wg];unfold Bd;omega⟩;have e0:=NX h nP kz (by omega);rw [show ((-(n:Int):Int):Rat).den=1 from wg ..,yV rfl] at e0;have hl:(an n).length<=9:=om (k:=8) (by omega);obtain ⟨x,e1,hx⟩:=NV h.toRb (n:= -(n:Int)) (by simp;omega);rw [ac6] at e0 ⊢;have hS:aW (-(n:Int))=45::an n:=by
  rw [<-lW,yJ (by omega),uV,xW];rfl
 rw [hS] at e0 e1 ⊢;have Ph:¬(20:Int)<(((an n).length+1:Nat):Int):=by omega
 obtain ⟨w,l,rfl,hw,hd,hz,hv⟩:=hx;rw [uV,xW] at hv;have nh:l.length<=1:=L4 hd hz (by omega);have fK:decide (-(n:Int)<0)=true:=yV (by omega);rw [fK] at e1;unfold ae at e0 e1 ⊢;rw [av zO]
 match l,nh,hw,hv,hd with
 | [],_,hw,hv,hd=>
  exact absurd hv (by simp [dv];omega)
 | [d],_,hw,hv,hd=>
  have gd:=jO.1 hd;have n8:d=(n:Int):=by simp [dv] at hv;omega
  subst n8;have ei:=hw.bj (i:=0) (by simp);simp only [List.getElem_cons_zero] at ei
  simp only [go_sem,ya,yb,Bj,e0,yK,Ph,aH,e1,bE,hw.len,hw.pu,hw.one,fe,bg,yd,bY,yv,yF,show ((1:Nat):Int)-1=0 from rfl,show IntKind.wrap .i64 0=0 from rfl,Cw,aD,Ma,show (0:Int)<=0 by decide,yq,ei,yp,show ¬(9223372036:Int)<0 by decide,show ¬(0:Int)< -9223372036 by decide,show ¬(0:Int)=9223372036 by decide,show ¬(0:Int)= -9223372036 by decide,Int.zero_mul,Int.zero_add,show (0:Int)-(n:Int)= -(n:Int) by omega,wrap64 (n:= -(n:Int)) (by omega) (by omega),show (0:Int)-1= -1 from rfl,show IntKind.wrap .i64 (-1)= -1 from rfl,show ¬(0:Int)<=-1 by decide];rfl
def aeQ (h:Rm P L) (zO:Has P L 340 Bj) (nP:Has P L 338 Bi) {n:Int} (hn:n.natAbs<1000000000):ae P L 340 [.str (RT (n:Rat))] (.aq [aa n,.bool true]):=by
 by_cases h0:0<=n
 ·have:=av4 h zO nP (n:=n.natAbs) hn
  rwa [show ((n.natAbs:Nat):Int)=n by omega] at this
 ·have:=atL h zO nP (n:=n.natAbs) (by omega) hn
  rwa [show -((n.natAbs:Nat):Int)=n by omega] at this
end
end
section
open Go (IntKind)
section
variable {P:aK} {L:Lib}
def awf (h:S0 P L) (h3:Has P L 3 c3) (Af:Has P L 30 BK) (Ue:Has P L 335 Nv) {w:AV} {s:List (List Int)} (hw:cK w s) {hh sc st ox oy wx wy:List Nat} (l1:hh.length<=1000000000) (l2:sc.length<=1000000000) (l3:st.length<=1000000000) (l4:ox.length<=1000000000) (l5:oy.length<=1000000000) (l6:wx.length<=1000000000) (l7:wy.length<=1000000000):
  ae P L 335 [dU w hh sc st ox oy wx wy] (aa (jW s hh sc st ox oy wx wy)):=by
 have e1:=s3 h3 Af hw;have e2:=af0 h l1;have e3:=afZ h l2 1;have e4:=Js h.toRm l3;have e5:=TV h l4 l5;have e6:=TV h l6 l7;have e7:=s42 h.Pf (fN true [fo s,jg hh 0,jg sc 1,aX st,bm [aX ox,aX oy],bm [aX wx,aX wy]]) (by simp);simp only [yv,yF,yd,yb,y9,wM] at e7;have o1:=hw.one;have p1:=hw.pu;have d2:∀a b c d e f g i:AV,xv 2 [a,b,c,d,e,f,g,i]=[c,d,e,f,g,i]:=fun _ _ _ _ _ _ _ _=>rfl
 have d3:∀a b c d e f g i:AV,xv 3 [a,b,c,d,e,f,g,i]=[d,e,f,g,i]:=fun _ _ _ _ _ _ _ _=>rfl
 have d6:∀a b c d e f g i:AV,xv 6 [a,b,c,d,e,f,g,i]=[g,i]:=fun _ _ _ _ _ _ _ _=>rfl
 unfold ae at e1 e2 e3 e4 e5 e6 e7 ⊢;rw [av Ue];unfold dU;simp only [go_sem,ya,yb,yy,yg,yi,Nv,aH,o1,p1,hw.ai,bg,yd,bY,d2,d3,mN,d6,fa,bk,yj,e1,e2,e3,e4,e5,e6,e7];rfl
def af6 (GN:Has P L 21 JQ) (BN:Has P L 59 Fp) (N2:Has P L 363 Nw) {v w:AV} {s:List (List Int)} (hv:cK v s) (hw:cK w s) (hl:s.length<=1000000) (hr:∀i (hi:i<s.length),s[i].length<=1000000) (hh sc st ox oy wx wy:List Nat):
  ae P L 363 [dU v hh sc st ox oy wx wy,dU w hh sc st ox oy wx wy] (.bool true):=by
 have e1:=s21 GN BN hv hw hl hr rfl;have o1:=hv.one;have p1:=hv.pu;have o2:=hw.one;have p2:=hw.pu;have d2:∀a b c d e f g i:AV,xv 2 [a,b,c,d,e,f,g,i]=[c,d,e,f,g,i]:=fun _ _ _ _ _ _ _ _=>rfl
 have d3:∀a b c d e f g i:AV,xv 3 [a,b,c,d,e,f,g,i]=[d,e,f,g,i]:=fun _ _ _ _ _ _ _ _=>rfl
 have d6:∀a b c d e f g i:AV,xv 6 [a,b,c,d,e,f,g,i]=[g,i]:=fun _ _ _ _ _ _ _ _=>rfl
 unfold ae at e1 ⊢;rw [av N2];unfold dU;simp only [go_sem,ya,yb,Nw,aH,o1,p1,o2,p2,hv.ai,hw.ai,bg,yd,bY,d2,d3,mN,d6,fa,yj,e1,iW,Ho,atH,dw,Bool.and_self]
end
end
section
open Go (IntKind)
section
variable {P:aK} {L:Lib}
def N3 (a b c d e f g i:AV):xv 2 [a,b,c,d,e,f,g,i]=[c,d,e,f,g,i]:=rfl
def N4 (a b c d e f g i:AV):xv 3 [a,b,c,d,e,f,g,i]=[d,e,f,g,i]:=rfl
def Jw (a b c d e f g i:AV):xv 6 [a,b,c,d,e,f,g,i]=[g,i]:=rfl
def Jx (a b c d e f:AV):xv 3 [a,b,c,d,e,f]=[d,e,f]:=rfl
def jn (a b c d e f g i:AV):eX 8 true [a,b,c,d,e,f,g,i]=some (.agg [a,b,c,d,e,f,g,i]):=rfl
end
end
section
open Go (IntKind)
def et (k:Nat) (v:AV) (ps:List (List AV)):Prop:=((v= .ab/\ps=[])\/∃e,v= .aE e ps.length ps.flatten)/\∀p,p∈ps->p.length=k
section
variable {k:Nat} {v:AV} {ps:List (List AV)} {hp:Hp}
def et.len (h:et k v ps) {hp:Hp}:gK hp 1 v=some (.int .i64 (ps.length:Nat)):=by
 rcases h.1 with ⟨rfl,rfl⟩ | ⟨e,rfl⟩<;>rfl
def et.pu (h:et k v ps):aS v=true:=by
 rcases h.1 with ⟨rfl,rfl⟩ | ⟨e,rfl⟩<;>rfl
def et.ai (h:et k v ps) (n:Nat) {hp:Hp}:freeze (n+1) hp v=some (v,hp):=by
 rcases h.1 with ⟨rfl,rfl⟩ | ⟨e,rfl⟩<;>rfl
def et.shut (h:et k v ps):shut v=v:=by
 rcases h.1 with ⟨rfl,rfl⟩ | ⟨e,rfl⟩<;>rfl
def et.bO (h:et k v ps):bO v=v:=by
 rcases h.1 with ⟨rfl,rfl⟩ | ⟨e,rfl⟩<;>rfl
def et.dn (h:et k v ps) {hp:Hp}:result hp v=some v:=by
 rcases h.1 with ⟨rfl,rfl⟩ | ⟨e,rfl⟩<;>rfl
def et.one (h:et k v ps):bA v=true:=by
 rcases h.1 with ⟨rfl,rfl⟩ | ⟨e,rfl⟩<;>rfl
def et.cells (h:et k v ps):cellsOf v=[v]:=by
 rcases h.1 with ⟨rfl,rfl⟩ | ⟨e,rfl⟩<;>rfl
def Zo:∀{ps:List (List AV)} {i:Nat},(∀p,p∈ps->p.length=k)->∀(hi:i<ps.length),∃rest,ps.flatten.drop (i*k)=ps[i]++rest
 | [],i,_,hi=>absurd hi (uo i)
 | p::ps,0,h,_=>⟨ps.flatten,by simp⟩
 | p::ps,i+1,h,hi=>by
  obtain ⟨rest,e⟩:=Zo (ps:=ps) (i:=i) (fun q hq=>h q (wk _ hq)) (by simpa using hi);refine ⟨rest,?_⟩;rw [show (i+1)*k=p.length+i*k by rw [h p wJ,Nat.add_mul];omega,List.flatten_cons,<-List.drop_drop,List.drop_left,e];rfl
def et.bj (h:et k v ps) {i:Nat} (hi:i<ps.length):∃rest,gZ k i v=some (.aF (ps[i]++rest)):=by
 obtain ⟨rest,e⟩:=Zo h.2 hi;refine ⟨rest,?_⟩;rcases h.1 with ⟨rfl,rfl⟩ | ⟨b,rfl⟩
 ·exact absurd hi (uo i)
 ·rw [LU b _ hi,e]
end
abbrev qJ:=List Nat×List Nat
def plC (p:qJ):List AV:=[.str p.1,.str p.2]
def jS (v:AV) (l:List qJ):Prop:=et 2 v (l.map plC)
structure Lay where
 w:AV
 s:List (List Int)
 hh:List Nat
 sc:List Nat
 st:List Nat
 ox:List Nat
 oy:List Nat
 wx:List Nat
 wy:List Nat
def Lay.cs (a:Lay):List AV:=[a.w,.str a.hh,.str a.sc,.str a.st,.str a.ox,.str a.oy,.str a.wx,.str a.wy]
def Lay.T (a:Lay):AV:=dU a.w a.hh a.sc a.st a.ox a.oy a.wx a.wy
noncomputable def Lay.E (a:Lay):Int:=jW a.s a.hh a.sc a.st a.ox a.oy a.wx a.wy
def iZ (v:AV) (l:List Lay):Prop:=et 8 v (l.map Lay.cs)/\∀a,a∈l->cK a.w a.s
section
variable {v:AV} {hp:Hp}
def jS.len {l:List qJ} (h:jS v l) {hp:Hp}:gK hp 1 v=some (.int .i64 (l.length:Nat)):=by
 have:=et.len (hp:=hp) h;rwa [xx] at this
def jS.pu {l:List qJ} (h:jS v l):aS v=true:=et.pu h
def jS.ai {l:List qJ} (h:jS v l) (n:Nat) {hp:Hp}:freeze (n+1) hp v=some (v,hp):=et.ai h n
def jS.shut {l:List qJ} (h:jS v l):VE.shut v=v:=et.shut h
def jS.bO {l:List qJ} (h:jS v l):VE.bO v=v:=et.bO h
def jS.dn {l:List qJ} (h:jS v l) {hp:Hp}:result hp v=some v:=et.dn h
def jS.one {l:List qJ} (h:jS v l):bA v=true:=et.one h
def jS.cells {l:List qJ} (h:jS v l):cellsOf v=[v]:=et.cells h
def jS.bj {l:List qJ} (h:jS v l) {i:Nat} (hi:i<l.length):∃rest,gZ 2 i v=some (.aF (.str l[i].1:: .str l[i].2::rest)):=by
 obtain ⟨rest,e⟩:=et.bj h (i:=i) (by simpa using hi);refine ⟨rest,?_⟩;rw [e,uH];rfl
def iZ.len {l:List Lay} (h:iZ v l) {hp:Hp}:gK hp 1 v=some (.int .i64 (l.length:Nat)):=by
 have:=et.len (hp:=hp) h.1;rwa [xx] at this
def iZ.pu {l:List Lay} (h:iZ v l):aS v=true:=et.pu h.1
def iZ.ai {l:List Lay} (h:iZ v l) (n:Nat) {hp:Hp}:freeze (n+1) hp v=some (v,hp):=et.ai h.1 n
def iZ.shut {l:List Lay} (h:iZ v l):VE.shut v=v:=et.shut h.1
def iZ.bO {l:List Lay} (h:iZ v l):VE.bO v=v:=et.bO h.1
def iZ.dn {l:List Lay} (h:iZ v l) {hp:Hp}:result hp v=some v:=et.dn h.1
def iZ.one {l:List Lay} (h:iZ v l):bA v=true:=et.one h.1
def iZ.cells {l:List Lay} (h:iZ v l):cellsOf v=[v]:=et.cells h.1
def iZ.bj {l:List Lay} (h:iZ v l) {i:Nat} (hi:i<l.length):∃rest,gZ 8 i v=some (.aF (l[i].w:: .str l[i].hh:: .str l[i].sc:: .str l[i].st:: .str l[i].ox:: .str l[i].oy:: .str l[i].wx:: .str l[i].wy::rest)):=by
 obtain ⟨rest,e⟩:=et.bj h.1 (i:=i) (by simpa using hi);refine ⟨rest,?_⟩;rw [e,uH];rfl
def iZ.get {l:List Lay} (h:iZ v l) {i:Nat} (hi:i<l.length):cK l[i].w l[i].s:=h.2 _ (ta hi)
end
def Io {w:AV} {s:List (List Int)} (hw:cK w s) (hp:Hp) (ct id:Nat) (a b c d e f g:List Nat) (x0 x1 x2 x3 x4 x5 x6 x7:AV):fy hp ct id 0 8 [w,.str a,.str b,.str c,.str d,.str e,.str f,.str g] (some (.cells true true true 8 [x0,x1,x2,x3,x4,x5,x6,x7]))=some (.aq [],aY hp id (.cells true true true 8 [w,.str a,.str b,.str c,.str d,.str e,.str f,.str g]),ct):=by
 rw [mj (by rfl) (by simp) (by simp [bQ,hw.one,Q3])];simp [aJ,hw.pu,over,aS]
end
section
open Go (IntKind)
structure LwFlowB (P:aK) (L:Lib):Prop where
 s:S0 P L
 rp:Rp P L
 p:Lp P L
 h3:Has P L 3 c3
 Af:Has P L 30 BK
 TW:Has P L 309 EU
 Jt:Has P L 315 I3
 Ue:Has P L 335 Nv
 Uf:Has P L 357 EV
 Bv:Has P L 358 EW
 kT:Has P L 359 oQ
 E9:Has P L 361 Bk
 Jv:Has P L 362 EX
 Ug:Has P L 364 Nx
 Ud:Has P L 365 I4
structure Ru (P:aK) (L:Lib):Prop extends LwFlowB P L where
 Kp:Has P L 14 Aa
 GN:Has P L 21 JQ
 BN:Has P L 59 Fp
 nP:Has P L 338 Bi
 zO:Has P L 340 Bj
 C5:Has P L 360 zC
 N2:Has P L 363 Nw
 atM:ae P L 1 [] (.bool true)
noncomputable def N5 (s:List (List Int)) (hh sc st ox oy wx wy:List Nat):Bool:=
 decide (s.length<=5)&&(decide (fo s=0)&&((cO 6 hh&&(cO 6 sc&&cO 6 st))&&((cO 6 ox&&cO 6 oy)&&((cO 6 wx&&cO 6 wy)&&decide (jW s hh sc st ox oy wx wy=0)))))
section
variable {P:aK} {L:Lib}
def N6 (h:Rm P L) (Bv:Has P L 358 EW) (kT:Has P L 359 oQ) {x y:List Nat} (hx:x.length<9223372036854775808) (hy:y.length<9223372036854775808):ae P L 358 [fZ x y,aa 6] (.bool (cO 6 x&&cO 6 y)):=by
 have e1:=N1 h kT hx;have e2:=N1 h kT hy;unfold ae at e1 e2 ⊢;rw [av Bv];cases h1:cO 6 x<;>rw [h1] at e1
 ·simp only [go_sem,ya,yb,EW,aH,bg,yd,e1,xA]
 ·simp only [go_sem,ya,yb,EW,aH,bg,yd,bY,e1,e2,xt]
def awg (h:S0 P L) (Uf:Has P L 357 EV) (Bv:Has P L 358 EW) (kT:Has P L 359 oQ) {x y s:List Nat} (hx:x.length<9223372036854775808) (hy:y.length<9223372036854775808) (hs:s.length<9223372036854775808):ae P L 357 [iE x y s,aa 6] (.bool (cO 6 x&&cO 6 y&&(cO 6 s&&decide (zo x y s=0)))):=by
 have e1:=N6 h.toRm Bv kT hx hy;have e2:=N1 h.toRm kT hs;unfold ae at e1 e2 ⊢;rw [av Uf];cases h1:(cO 6 x&&cO 6 y)<;>rw [h1] at e1
 ·simp only [go_sem,ya,yb,EV,aH,bg,yd,fa,bk,e1,xA]
 ·cases h2:cO 6 s<;>rw [h2] at e2
  ·simp only [go_sem,ya,yb,EV,aH,bg,yd,D4,fa,bk,e1,e2,xA,xt]
  ·rw [yf] at h1;obtain ⟨l1,_⟩:=kD h1.1;obtain ⟨l2,_⟩:=kD h1.2;obtain ⟨l3,_⟩:=kD h2;have e3:=avS h (x:=x) (y:=y) (s:=s) (by omega) (by omega) (by omega);unfold ae at e3;rw [show bm [bm [aX x,aX y],jg s 0]=zo x y s from rfl] at e3;simp only [go_sem,ya,yb,EV,aH,bg,yd,D4,fa,jt,bk,e1,e2,e3,xt]
def awh (h:Rm P L) (kT:Has P L 359 oQ) (Ug:Has P L 364 Nx) {v:AV} {l:List (List Nat)} (hv:iR v l) (hl:l.length<=3) (hs:∀s,s∈l->s.length<9223372036854775808):ae P L 364 [v,aa 3,aa 6] (.bool (l.all (cO 6))):=by
 have key:=cC (P:=P) (L:=L) (live:=[0,2,7]) (a:=Ef)
  (I:=fun k st=>∃i:Nat,i+k=l.length/\(l.drop i).all (cO 6)=l.all (cO 6)/\st=⟨[(0,v),(2,aa 6),(7,aa i)],[],0,0⟩)
  (Q:=fun ex st=>∃tm hp ct,st=⟨tm,hp,ct,0⟩/\((ex= .ret/\af tm 6= .bool false/\l.all (cO 6)=false)\/(ex= .exit 0/\l.all (cO 6)=true))) ?_
 ·unfold ae;rw [av Ug];simp only [go_sem,ya,Nx,hv.len,show ¬(3:Int)<l.length by omega,yp];generalize hq:D P L (.loop [0,2,7] Ef) _=q;obtain ⟨ex,st,rfl,tm,hp,ct,rfl,h2⟩:=cd hq (key l.length) ⟨0,by omega,rfl,by simp only [go_sem,ya,aD,aM hv.pu,aQ _ hv.pu]<;>rfl⟩
  rcases h2 with ⟨rfl,h3,h4⟩ | ⟨rfl,h4⟩
  ·rw [h4];simp only [go_sem,h3]
  ·rw [h4];simp only [go_sem,aD]
 ·rintro k st ⟨i,hk,hf,rfl⟩;by_cases hi:i<l.length
  ·have e2:=N1 h kT (hs _ (ta hi));unfold ae at e2;have hd:(l.drop i).all (cO 6)=(cO 6 l[i]&&(l.drop (i+1)).all (cO 6)):=by rw [List.drop_eq_getElem_cons hi,yad]
   rw [hd] at hf
   cases hb:cO 6 l[i] with
   | false=>
    right
    rw [hb] at e2;simp only [go_sem,ya,Ef,hv.len,show (i:Int)<l.length by omega,hv.bj hi,e2];refine ⟨_,_,rfl,by simp,_,_,_,rfl,.inl ⟨rfl,by simp only [go_sem],?_⟩⟩;rw [<-hf,hb,xA]
   | true=>
    left
    rw [hb] at e2;simp only [go_sem,ya,Ef,hv.len,show (i:Int)<l.length by omega,hv.bj hi,e2];rw [hb,xt] at hf;refine ⟨_,k-1,rfl,by omega,i+1,by omega,hf,?_⟩;rw [wrap64 (by omega) (by omega)];simp only [go_sem,ya,aD,aM hv.pu,aQ _ hv.pu]<;>rfl
  ·right
   simp only [go_sem,ya,Ef,hv.len,show ¬(i:Int)<l.length by omega];refine ⟨_,_,rfl,by simp,_,_,_,rfl,.inr ⟨rfl,?_⟩⟩;rw [<-hf,List.drop_eq_nil_of_le (by omega)];rfl
def awi (h:LwFlowB P L) {w:AV} {s:List (List Int)} (hw:cK w s) {hh sc st ox oy wx wy:List Nat} (b1:hh.length<9223372036854775808) (b2:sc.length<9223372036854775808) (b3:st.length<9223372036854775808) (b4:ox.length<9223372036854775808) (b5:oy.length<9223372036854775808) (b6:wx.length<9223372036854775808) (b7:wy.length<9223372036854775808):
  ae P L 361 [dU w hh sc st ox oy wx wy,aa 5,aa 6] (.bool (N5 s hh sc st ox oy wx wy)):=by
 have e1:=s3 h.h3 h.Af hw;have e2:=awh h.s.toRm h.kT h.Ug (abf true [hh,sc,st]) (by simp) (fun t ht=>by
  simp at ht
  rcases ht with rfl | rfl | rfl<;>omega)
 simp only [yv,yF,yd,yb,y9,wM,yad,List.all_nil,Bool.and_true] at e2;have e3:=N6 h.s.toRm h.Bv h.kT b4 b5;have e4:=N6 h.s.toRm h.Bv h.kT b6 b7;have o1:=hw.one;have p1:=hw.pu;have zR:∀a b c d e f g i:AV,xv 1 [a,b,c,d,e,f,g,i]=[b,c,d,e,f,g,i]:=fun _ _ _ _ _ _ _ _=>rfl
 unfold N5;unfold fZ at e3 e4;unfold ae at e1 e2 e3 e4;by_cases hl:s.length<=5
 ·rw [yV hl,xt];by_cases hc:fo s=0
  ·rw [yV hc,xt];rw [hc] at e1;cases f1:(cO 6 hh&&(cO 6 sc&&cO 6 st))<;>rw [f1] at e2
   ·unfold ae dU;rw [av h.E9];simp only [go_sem,ya,yb,yy,yg,yi,Bk,aH,o1,p1,hw.len,hw.ai,show ¬(5:Int)<s.length by omega,bg,yd,zR,N3,N4,yj,e1,yq,yp,e2,yK,yI,xA]
   ·cases f2:(cO 6 ox&&cO 6 oy)<;>rw [f2] at e3
    ·unfold ae dU;rw [av h.E9];simp only [go_sem,ya,yb,yy,yg,yi,Bk,aH,o1,p1,hw.len,hw.ai,show ¬(5:Int)<s.length by omega,bg,yd,zR,N3,N4,mN,fa,bk,yj,e1,yq,yp,e2,e3,yK,yI,xA,xt]
    ·cases f3:(cO 6 wx&&cO 6 wy)<;>rw [f3] at e4
     ·unfold ae dU;rw [av h.E9];simp only [go_sem,ya,yb,yy,yg,yi,Bk,aH,o1,p1,hw.len,hw.ai,show ¬(5:Int)<s.length by omega,bg,yd,zR,N3,N4,mN,Jw,fa,bk,yj,e1,yq,yp,e2,e3,e4,yK,yI,xA,xt]
     ·simp only [yf] at f1 f2 f3;obtain ⟨l1,_⟩:=kD f1.1;obtain ⟨l2,_⟩:=kD f1.2.1;obtain ⟨l3,_⟩:=kD f1.2.2;obtain ⟨l4,_⟩:=kD f2.1;obtain ⟨l5,_⟩:=kD f2.2;obtain ⟨l6,_⟩:=kD f3.1;obtain ⟨l7,_⟩:=kD f3.2;have e5:=awf h.s h.h3 h.Af h.Ue hw (hh:=hh) (sc:=sc) (st:=st) (ox:=ox) (oy:=oy) (wx:=wx) (wy:=wy) (by omega) (by omega) (by omega) (by omega) (by omega) (by omega) (by omega);unfold dU at e5 ⊢;unfold ae at e5 ⊢;rw [av h.E9];simp only [go_sem,ya,yb,yy,yg,yi,Bk,aH,o1,p1,hw.len,hw.ai,show ¬(5:Int)<s.length by omega,bg,yd,zR,N3,N4,mN,Jw,jn,fa,bk,yj,e1,yq,yp,e2,e3,e4,e5,yK,xt]
  ·rw [yM hc,xA];unfold ae dU;rw [av h.E9];simp only [go_sem,ya,yb,Bk,aH,o1,p1,hw.len,hw.ai,show ¬(5:Int)<s.length by omega,bg,yd,yj,e1,hc,yp,yI]
 ·rw [yM hl,xA];unfold ae dU;rw [av h.E9];simp only [go_sem,ya,yb,Bk,aH,o1,p1,hw.len,show (5:Int)<s.length by omega,bg,yd,yj,yq]
def MQ (h:LwFlowB P L) {w:AV} {s:List (List Int)} (hw:cK w s) (hl:s.length<=1000000) (hr:∀i (hi:i<s.length),s[i].length<=1000000) {hh sc st ox oy wx wy:List Nat} {fr:Int} (l1:hh.length<=1000000000) (l2:sc.length<=1000000000) (l3:st.length<=1000000000) (l4:ox.length<=1000000000) (l5:oy.length<=1000000000) (l6:wx.length<=1000000000) (l7:wy.length<=1000000000)
  (hE:jW s hh sc st ox oy wx wy=0) (hF:eE fr=0) (k1:LG (aG ox+(fr:Rat)*aG wx)=false) (k2:LG (aG oy+(fr:Rat)*aG wy)=false):
  ∃w',cK w' s/\ae P L 362 [dU w hh sc st ox oy wx wy,aa fr] (.aq [dU w' hh sc st (RT (aG ox+(fr:Rat)*aG wx)) (RT (aG oy+(fr:Rat)*aG wy)) wx wy,aa 0]):=by
 refine (awc h.p h.Jv h.Ud hw hl hr l1 l2 l3 l4 l5 l6 l7).2 ?_;unfold GY;have hz:bm [0,0]=0:=rfl;rw [hE,hF];simp only [hz,tB,wO,yR,k1,k2,Bool.or_false,yC]
def MR (h:LwFlowB P L) {w:AV} {s:List (List Int)} (hw:cK w s) (hl:s.length<=1000000) (hr:∀i (hi:i<s.length),s[i].length<=1000000) {hh sc st ox oy wx wy dx dy sh x y:List Nat} {fr:Int} (l1:hh.length<=1000000000) (l2:sc.length<=1000000000) (l3:st.length<=1000000000) (l4:ox.length<=1000000000) (l5:oy.length<=1000000000) (l6:wx.length<=1000000000) (l7:wy.length<=1000000000) (l8:dx.length<=1000000000) (l9:dy.length<=1000000000) (la:sh.length<=1000000000) (lb:x.length<=1000000000) (lc:y.length<=1000000000)
  (hF:qg s hh sc st ox oy wx wy dx dy sh x y fr=0) (hb:rh (aG sh) (aG hh)=true) (hL:LG (lT s hh sc st ox oy wx wy dx dy sh x y fr)=false):
  ae P L 24 [dU w hh sc st ox oy wx wy,iE dx dy sh,fZ x y,aa fr] (.aq [.str (RT (lT s hh sc st ox oy wx wy dx dy sh x y fr)),aa 0]):=by
 have e:=m24 h.p hw hl hr (fr:=fr) l1 l2 l3 l4 l5 l6 l7 l8 l9 la lb lc;have hR:zQ s hh sc st ox oy wx wy dx dy sh x y fr=0:=by unfold zQ;rw [hF,hb];rfl
 unfold Uc E8 at e;rw [hR] at e;simp only [tB,wO,yR,hL,yC] at e;exact e
end
def QU {r:Rat} {K:Nat} (h:Hq K r) (hK:K<=1800):(RT r).length<=1202:=by
 obtain ⟨h1,h2⟩:=Ep h hK
 have:=apB r.num r.den
 rw [show TT r.num r.den=RT r from rfl] at this;omega
end
section
open Go (IntKind)
section
variable {P:aK} {L:Lib}
def a14 (Kp:Has P L 14 Aa) (a b:List Nat):ae P L 14 [.str a,.str b] (fZ a b):=by
 unfold ae;rw [av Kp];simp only [go_sem,ya,yb,yg,Aa,aH,fe];rfl
end
end
section
open Go (IntKind)
def Fa:cO 6 [48]=true/\aG [48]=0:=by
 have h:aG [48]=0:=by
  have:=Su TU (by decide)
  rwa [afY] at this
 refine ⟨?_,h⟩;unfold cO;rw [h];decide
section
variable {P:aK} {L:Lib} {dx dy s x y ox oy:List Nat} {fr p:Int}
end
end
section
open Go (IntKind)
def R0 (id o:Nat):Et 2 1 0 (.ptr id o)=some (.ptr id o):=rfl
def R1 (id o:Nat):Et 2 1 1 (.ptr id o)=some (.ptr id (o+1)):=rfl
def af7 (a b c d e f g i:AV):xv 7 [a,b,c,d,e,f,g,i]=[i]:=rfl
def abl {z:Int}: -99<=z.tmod 100/\z.tmod 100<=99:=by
 have h2:z.tmod 100<100:=Int.tmod_lt_of_pos z (by decide);have h3: -100<z.tmod 100:=Int.lt_tmod_of_pos z (by decide);omega
def abm {s:List Nat} (h:cO 6 s=true):(aG s).num.natAbs<=999999:=by
 unfold cO at h;simp only [yf,wN] at h;have h1:=D0 (aG s).num.natAbs;have h2:10^(an (aG s).num.natAbs).length<=10^6:=Nat.pow_le_pow_right (by decide) h.2.2.1;omega
def aaq {r:Rat} (h:r.den=1):r=((r.num:Int):Rat):=Rat.ext (by rw [wA]) (by rw [wg,h])
def Zp {n u:Int} (h1:n.natAbs<=99) (h2:u.natAbs<=999999): -99000000<=-n*u/\-n*u<=99000000:=by
 have h3:(-n*u).natAbs<=99*999999:=by
  rw [Int.natAbs_mul,uV];exact Nat.mul_le_mul h1 h2
 omega
def aar {s t:List (List Int)} {hh sc st ox oy wx wy ax ay vx vy:List Nat} (h:jW s hh sc st ox oy wx wy=0) (h1:fo t=0) (h2:aX ax=0) (h3:aX ay=0) (h4:aX vx=0) (h5:aX vy=0):jW t hh sc st ax ay vx vy=0:=by
 unfold jW at h ⊢;simp only [KM,K1,wF] at h ⊢;exact ⟨h1,h.2.1,h.2.2.1,h.2.2.2.1,⟨h2,h3⟩,h4,h5⟩
def LD {s:List (List Int)} {hh sc st ox oy wx wy dx dy sh x y:List Nat} {fr:Int} (h1:jW s hh sc st ox oy wx wy=0) (h2:zo dx dy sh=0) (h3:aX x=0) (h4:aX y=0) (h5: -999999999<=fr/\fr<=999999999):qg s hh sc st ox oy wx wy dx dy sh x y fr=0:=by
 have h6:eE fr=0:=by unfold eE;rw [yz (by omega)]
 unfold qg;rw [h1,h2,h3,h4,h6];rfl
def Zq {hh sc o w o' w' d sh x:List Nat} {fr fr':Int} (h:1*aG o+(fr:Rat)*aG w=1*aG o'+(fr':Rat)*aG w'):jX hh sc o w d sh x fr=jX hh sc o' w' d sh x fr':=by
 unfold jX zP;rw [yby,h,<-yby]
section
variable {P:aK} {L:Lib}
def ala (h:Ru P L) {w:AV} {s:List (List Int)} (hw:cK w s) {hh sc st ox oy wx wy dx dy sh x y:List Nat} {fr f0 f1:Int} (b1:hh.length<9223372036854775808) (b2:sc.length<9223372036854775808) (b3:st.length<9223372036854775808) (b4:ox.length<9223372036854775808) (b5:oy.length<9223372036854775808) (b6:wx.length<9223372036854775808) (b7:wy.length<9223372036854775808) (b8:dx.length<9223372036854775808) (b9:dy.length<9223372036854775808) (ba:sh.length<9223372036854775808) (bb:x.length<9223372036854775808) (bc:y.length<9223372036854775808) (B1: -128<=f0/\f0<128) (Dd: -128<=f1/\f1<128):
  ae P L 360 [dU w hh sc st ox oy wx wy,.agg [.str dx,.str dy,.str sh,.str x,.str y,aa fr],.agg [.int .i8 f0,.int .i8 f1]] (.bool true):=by
 have ea:=h.atM;have sC:=awi h.toLwFlowB hw b1 b2 b3 b4 b5 b6 b7;have sD:=awg h.s h.Uf h.Bv h.kT b8 b9 ba;have Ar:=N6 h.s.toRm h.Bv h.kT bb bc;have o1:=hw.one;have p1:=hw.pu;have zR:∀a b c d e f g i:AV,xv 1 [a,b,c,d,e,f,g,i]=[b,c,d,e,f,g,i]:=fun _ _ _ _ _ _ _ _=>rfl
 unfold fZ at Ar;unfold iE at sD;unfold ae at ea sC sD Ar
 cases g1:N5 s hh sc st ox oy wx wy with
 | false=>
  rw [g1] at sC;unfold dU at*
  unfold ae;rw [av h.C5];simp only [go_sem,ya,yb,zC,aH,o1,p1,hw.ai,jn,bk,yj,ea,sC,yK,yI]
 | true=>
  rw [g1] at sC
  cases g2:(cO 6 dx&&cO 6 dy&&(cO 6 sh&&decide (zo dx dy sh=0))) with
  | false=>
   rw [g2] at sD;unfold dU at*
   unfold ae;rw [av h.C5];simp only [go_sem,ya,yb,zC,aH,o1,p1,hw.ai,jn,jt,bg,yd,bk,yj,ea,sC,sD,yK,yI]
  | true=>
   rw [g2] at sD
   cases g3:(cO 6 x&&cO 6 y) with
   | false=>
    rw [g3] at Ar;unfold dU at*
    unfold ae;rw [av h.C5];simp only [go_sem,ya,yb,zC,aH,o1,p1,hw.ai,jn,jt,fa,Jx,bg,yd,bk,yj,ea,sC,sD,Ar,yK,yI]
   | true=>
    rw [g3] at Ar;unfold N5 at g1;simp only [yf,wN] at g1 g2 g3;obtain ⟨j1,j2,⟨j3,j4,j5⟩,⟨j6,j7⟩,⟨j8,j9⟩,jl⟩:=g1;obtain ⟨⟨ja,jb⟩,jc,js⟩:=g2;obtain ⟨jd,je⟩:=g3;have As:=avU h.rp h.TW h.Jt (x:=dx) (y:=dy) (kD jc).2.2 (kD j3).2.2 (by decide);rw [<-(sK (kD jc).2.1).1,<-(sK (kD j3).2.1).1] at As;unfold iE at As;unfold ae at As
    cases g4:rh (aG sh) (aG hh) with
    | false=>
     rw [g4] at As;unfold dU at*
     unfold ae;rw [av h.C5];simp only [go_sem,ya,yb,zC,aH,o1,p1,hw.ai,jn,jt,fa,Jx,zR,bg,yd,bk,yj,ea,sC,sD,Ar,As,yK,yI]
    | true=>
     rw [g4] at As;have K:=fun {t:List Nat} (c:cO 6 t=true)=>(kD c).2.2
     have C:=fun {t:List Nat} (c:cO 6 t=true)=>(kD c).2.1
     have Ln:=fun {t:List Nat} (c:cO 6 t=true)=>show t.length<=1000000000 from by have:=(kD c).1;omega
     have R:=fun {t:List Nat} (c:cO 6 t=true)=>(sK (C c)).1
     have hS:=Mn hw j2;have hl:s.length<=1000000:=by omega
     have hr:∀i (hi:i<s.length),s[i].length<=1000000:=fun i hi=>by rw [hS.row i hi];exact hl
     obtain ⟨m1,m2⟩:=abl (z:=f0);obtain ⟨n1,n2⟩:=abl (z:=f1);generalize hm:f0.tmod 100=m at*
     generalize hn:f1.tmod 100=n at*
     have kI:∀z:Int,-999<=z->z<=999->Hq 10 (z:Rat):=fun z h1 h2=>⟨by rw [wA];unfold Bd;omega,by rw [wg];decide⟩
     have kO:∀{o v:List Nat},cO 6 o=true->cO 6 v=true->∀z:Int,-999<=z->z<=999->Hq 60 (aG o+(z:Rat)*aG v):=fun ho hv z h1 h2=>((K ho).add ((kI z h1 h2).mul (K hv))).mono (by omega)
     have F:∀z:Int,-999<=z->z<=999->eE z=0:=fun z h1 h2=>by unfold eE;rw [yz (by omega)]
     obtain ⟨wa,DB,x1⟩:=MQ h.toLwFlowB hw hl hr (fr:=m) (Ln j3) (Ln j4) (Ln j5) (Ln j6) (Ln j7) (Ln j8) (Ln j9) jl (F m (by omega) (by omega)) (oN (kO j6 j8 m (by omega) (by omega)) (by decide)) (oN (kO j7 j9 m (by omega) (by omega)) (by decide));have WU:=kO j6 j8 m (by omega) (by omega);have WV:=kO j7 j9 m (by omega) (by omega);have cax:=RY WU (by decide);have cay:=RY WV (by decide);have rax:=Su WU (by decide);have ray:=Su WV (by decide);have lax:=QU WU (by decide);have lay:=QU WV (by decide);have WW:=aar jl j2 cax cay (C j8) (C j9);have q1:aG (RT (aG ox+(m:Rat)*aG wx))+(n:Rat)*aG wx=aG ox+((m+n:Int):Rat)*aG wx:=by rw [rax,wL];grind
     have q2:aG (RT (aG oy+(m:Rat)*aG wy))+(n:Rat)*aG wy=aG oy+((m+n:Int):Rat)*aG wy:=by rw [ray,wL];grind
     have q3:aG (RT (aG ox+(m:Rat)*aG wx))+((-m:Int):Rat)*aG wx=aG ox:=by rw [rax,yaR];grind
     have q4:aG (RT (aG oy+(m:Rat)*aG wy))+((-m:Int):Rat)*aG wy=aG oy:=by rw [ray,yaR];grind
     have kbx:=kO j6 j8 (m+n) (by omega) (by omega);have kby:=kO j7 j9 (m+n) (by omega) (by omega);obtain ⟨wb,Ky,x2⟩:=MQ h.toLwFlowB DB hl hr (fr:=n) (Ln j3) (Ln j4) (Ln j5) (by omega) (by omega) (Ln j8) (Ln j9) WW (F n (by omega) (by omega)) (by rw [q1];exact oN kbx (by decide)) (by rw [q2];exact oN kby (by decide))
     rw [q1,q2] at x2;obtain ⟨wc,BJ,x3⟩:=MQ h.toLwFlowB hw hl hr (fr:=m+n) (Ln j3) (Ln j4) (Ln j5) (Ln j6) (Ln j7) (Ln j8) (Ln j9) jl (F (m+n) (by omega) (by omega)) (oN kbx (by decide)) (oN kby (by decide));obtain ⟨wd,Kz,x4⟩:=MQ h.toLwFlowB DB hl hr (fr:= -m) (Ln j3) (Ln j4) (Ln j5) (by omega) (by omega) (Ln j8) (Ln j9) WW (F (-m) (by omega) (by omega)) (by rw [q3];exact oN (K j6) (by decide)) (by rw [q4];exact oN (K j7) (by decide))
     rw [q3,q4,<-R j6,<-R j7] at x4;have x5:=af6 h.GN h.BN h.N2 Ky BJ hl hr hh sc st (RT (aG ox+((m+n:Int):Rat)*aG wx)) (RT (aG oy+((m+n:Int):Rat)*aG wy)) wx wy;have x6:=af6 h.GN h.BN h.N2 Kz hw hl hr hh sc st ox oy wx wy;have hph:∀{u:List (List Int)} {o1 o2 v1 v2:List Nat} {fr:Int},fo u=0->Hq 60 (aG o1)->Hq 60 (aG o2)->cO 6 v1=true->cO 6 v2=true-> -500<=fr->fr<=500->Hq 700 (lT u hh sc st o1 o2 v1 v2 dx dy sh x y fr):=fun hu k1 k2 c1 c2 r1 r2=>by
      obtain ⟨u1,u2,u3⟩:=G2 hu;exact ((K j5).mul (apN (fun c r=>KG u3 (by decide) c r) (abk (K j4) k1 (K c1) (K jc) (K j3) (K jd) (K ja) (by omega)) (abk (K j4) k2 (K c2) (K jc) (K j3) (K je) (K jb) (by omega)))).mono (by omega)
     have e12:lT s hh sc st (RT (aG ox+(m:Rat)*aG wx)) (RT (aG oy+(m:Rat)*aG wy)) wx wy dx dy sh x y n=lT s hh sc st ox oy wx wy dx dy sh x y (m+n):=by
      unfold lT
      rw [Zq (o:=RT (aG ox+(m:Rat)*aG wx)) (o':=ox) (w':=wx) (fr':=m+n) (by rw [uz,uz];exact q1),Zq (o:=RT (aG oy+(m:Rat)*aG wy)) (o':=oy) (w':=wy) (fr':=m+n) (by rw [uz,uz];exact q2)]
     have kp:=hph (u:=s) (o1:=ox) (o2:=oy) (v1:=wx) (v2:=wy) (fr:=m+n) j2 ((K j6).mono (by omega)) ((K j7).mono (by omega)) j8 j9 (by omega) (by omega);have x7:=MR h.toLwFlowB DB hl hr (fr:=n) (Ln j3) (Ln j4) (Ln j5) (by omega) (by omega) (Ln j8) (Ln j9) (Ln ja) (Ln jb) (Ln jc) (Ln jd) (Ln je) (LD WW js (C jd) (C je) (by omega)) g4 (by rw [e12];exact oN kp (by decide))
     rw [e12] at x7;have x8:=MR h.toLwFlowB hw hl hr (fr:=m+n) (Ln j3) (Ln j4) (Ln j5) (Ln j6) (Ln j7) (Ln j8) (Ln j9) (Ln ja) (Ln jb) (Ln jc) (Ln jd) (Ln je) (LD jl js (C jd) (C je) (by omega)) g4 (oN kp (by decide));have lp:=QU kp (by decide);have x9:=Js h.s.toRm (s:=RT (lT s hh sc st ox oy wx wy dx dy sh x y (m+n))) (by omega);rw [RY kp (by decide)] at x9;generalize lT s hh sc st ox oy wx wy dx dy sh x y (m+n)=ph at*
     have y1:=NX h.s.toRm h.nP (K j8) (by decide);have y2:=NX h.s.toRm h.nP (K j9) (by decide);rw [<-R j8] at y1;rw [<-R j9] at y2;have w1:∀a b c d e f g:List Nat,(∀(hp:Hp) (ct id:Nat) (x0 x1 x2 x3 x4 x5 x6 x7:AV),True)->True:=fun _ _ _ _ _ _ _ _=>trivial
     have sa:=Io DB;have sb:=Io Ky;have WX:=Io BJ;have sd:=Io Kz;have sw:=Io hw;have WY:mY (.toInt .i64) (.int .i8 f0)=some (.int .i64 f0):=by
      show some (AV.int .i64 (IntKind.wrap .i64 f0))=_
      rw [wrap64 (by omega) (by omega)]
     have WZ:mY (.toInt .i64) (.int .i8 f1)=some (.int .i64 f1):=by
      show some (AV.int .i64 (IntKind.wrap .i64 f1))=_
      rw [wrap64 (by omega) (by omega)]
     unfold dU iE fZ at*
     unfold ae at x1 x2 x3 x4 x5 x6 x7 x8 x9 y1 y2;by_cases W0:(aG wx).den=1
     ·rw [yV W0] at y1;by_cases W1:(aG wy).den=1
      ·rw [yV W1] at y2;have hx:=aaq W0;have hy:=aaq W1;have nx:=abm j8;have ny:=abm j9;have y3:=aeQ h.s.toRm h.zO h.nP (n:=(aG wx).num) (by omega);have y4:=aeQ h.s.toRm h.zO h.nP (n:=(aG wy).num) (by omega);rw [<-hx,<-R j8] at y3;rw [<-hy,<-R j9] at y4;have kq:=hph (u:=s) (o1:=ox) (o2:=oy) (v1:=wx) (v2:=wy) (fr:=n) j2 ((K j6).mono (by omega)) ((K j7).mono (by omega)) j8 j9 (by omega) (by omega);have z1:=MR h.toLwFlowB hw hl hr (fr:=n) (Ln j3) (Ln j4) (Ln j5) (Ln j6) (Ln j7) (Ln j8) (Ln j9) (Ln ja) (Ln jb) (Ln jc) (Ln jd) (Ln je) (LD jl js (C jd) (C je) (by omega)) g4 (oN kq (by decide));have hpx:jX hh sc ox wx dx sh x n=jX hh sc ox [48] dx sh x 5+((n*(aG wx).num:Int):Rat):=by
        unfold jX zP;rw [Fa.2,tR,<-hx];grind
       have hpy:jX hh sc oy wy dy sh y n=jX hh sc oy [48] dy sh y 5+((n*(aG wy).num:Int):Rat):=by
        unfold jX zP;rw [Fa.2,tR,<-hy];grind
       have Wl:lT (mX s (-n*(aG wx).num) (-n*(aG wy).num)) hh sc st ox oy [48] [48] dx dy sh x y 5=lT s hh sc st ox oy wx wy dx dy sh x y n:=by
        unfold lT;rw [hpx,hpy,ajh hS.pos,ybL,ybL]
       obtain ⟨u1,u2⟩:=Zp (n:=n) (u:=(aG wx).num) (by omega) nx;obtain ⟨v1,v2⟩:=Zp (n:=n) (u:=(aG wy).num) (by omega) ny;generalize hU: -n*(aG wx).num=U at*
       generalize hV: -n*(aG wy).num=V at*
       have Fo:bm [fo s,eE U,eE V]=0:=by
        rw [j2,show eE U=0 by unfold eE;rw [yz (by omega)],show eE V=0 by unfold eE;rw [yz (by omega)]];rfl
       have z2:=(s20 h.p.toShP hw hl hr U V).2 Fo;have hT:cK (lK (fun c r=>aa (dE s (c-U) (r-V))) s.length) (mX s U V):=RX (n:=s.length) (fun c r=>dE s (c-U) (r-V));have hcT:fo (mX s U V)=0:=apO hS.pos hS.le (fun c r=>hS.cV _ _);generalize lK (fun c r=>aa (dE s (c-U) (r-V))) s.length=T at*
       have hST:=Mn hT hcT;have hlT:(mX s U V).length=s.length:=sQ _ _;have z3:=MR h.toLwFlowB hT (by omega) (fun i hi=>by rw [hST.row i hi];omega) (fr:=5) (Ln j3) (Ln j4) (Ln j5) (Ln j6) (Ln j7) (Ln Fa.1) (Ln Fa.1) (Ln ja) (Ln jb) (Ln jc) (Ln jd) (Ln je) (LD (aar jl hcT (C j6) (C j7) (C Fa.1) (C Fa.1)) js (C jd) (C je) (by omega)) g4 (by rw [Wl];exact oN kq (by decide))
       rw [Wl] at z3;generalize lT s hh sc st ox oy wx wy dx dy sh x y n=pn at*
       have z4:=a14 h.Kp [48] [48];have oT:=hT.one;have pT:=hT.pu;have lM:∀(hp:Hp) (ct id:Nat) (x0:AV) (b c d e f g i:List Nat),fy hp ct id 0 1 [T] (some (.cells true true true 8 [x0,.str b,.str c,.str d,.str e,.str f,.str g,.str i]))=some (.aq [],aY hp id (.cells true true true 8 [T,.str b,.str c,.str d,.str e,.str f,.str g,.str i]),ct):=fun hp ct id x0 b c d e f g i=>by
        rw [mj (by rfl) (by simp) (by simp [bQ,oT])];simp [aJ,pT,over]
       have hs6:∀(hp:Hp) (ct id:Nat) (u v:List Nat) (x0 x1 x2 x3 x4 x5 x6 x7:AV),fy hp ct id 6 2 [.str u,.str v] (some (.cells true true true 8 [x0,x1,x2,x3,x4,x5,x6,x7]))=some (.aq [],aY hp id (.cells true true true 8 [x0,x1,x2,x3,x4,x5,.str u,.str v]),ct):=fun hp ct id u v x0 x1 x2 x3 x4 x5 x6 x7=>by
        rw [mj (by rfl) (by simp) (by rfl)];rfl
       unfold dU iE fZ at z1 z3;unfold fZ at z4;unfold ae at y3 y4 z1 z2 z3 z4;unfold ae;rw [av h.C5]
       simp only [go_sem,ya,yb,zC,aH,o1,p1,hw.ai,DB.ai,Ky.ai,BJ.ai,Kz.ai,hT.ai,hT.bO,hT.cells,jn,jt,fa,Jx,zR,Jw,af7,bY,bg,yd,bk,yj,ea,sC,sD,Ar,As,yK,R0,R1,WY,WZ,eD _ _ _ (show (100:Int)≠0 by decide),hm,hn,AJ,bE,sa,sb,WX,sd,sw,x1,x2,wrap64 (n:=m+n) (by omega) (by omega),x3,tE,wrap64 (n:= -m) (by omega) (by omega),x4,tf,show IntKind.wrap .i64 0=0 from rfl,yq,x5,x6,x7,x8,qY,iW,Ho,x9,y1,y2,y3,y4,wrap64 (n:= -n) (by omega) (by omega),hU,hV,wrap64 (n:=U) (by omega) (by omega),wrap64 (n:=V) (by omega) (by omega),z1,z2,z3,z4,lM,hs6]
      ·rw [yM W1] at y2;unfold ae;rw [av h.C5]
       simp only [go_sem,ya,yb,zC,aH,o1,p1,hw.ai,DB.ai,Ky.ai,BJ.ai,Kz.ai,jn,jt,fa,Jx,zR,Jw,af7,bY,bg,yd,bk,yj,ea,sC,sD,Ar,As,yK,yI,R0,R1,WY,WZ,eD _ _ _ (show (100:Int)≠0 by decide),hm,hn,AJ,sa,sb,WX,sd,x1,x2,wrap64 (n:=m+n) (by omega) (by omega),x3,tE,wrap64 (n:= -m) (by omega) (by omega),x4,tf,show IntKind.wrap .i64 0=0 from rfl,yq,x5,x6,x7,x8,qY,Ho,x9,y1,y2]
     ·rw [yM W0] at y1;unfold ae;rw [av h.C5]
      simp only [go_sem,ya,yb,zC,aH,o1,p1,hw.ai,DB.ai,Ky.ai,BJ.ai,Kz.ai,jn,jt,fa,Jx,zR,Jw,bY,bg,yd,bk,yj,ea,sC,sD,Ar,As,yK,yI,R0,R1,WY,WZ,eD _ _ _ (show (100:Int)≠0 by decide),hm,hn,AJ,sa,sb,WX,sd,x1,x2,wrap64 (n:=m+n) (by omega) (by omega),x3,tE,wrap64 (n:= -m) (by omega) (by omega),x4,tf,show IntKind.wrap .i64 0=0 from rfl,yq,x5,x6,x7,x8,qY,Ho,x9,y1]
end
end
section
open Go (IntKind)
abbrev Ip:List Ty:=[ac1,au9,.ar 2 (.int .i8)]
def aji {P:aK} {L:Lib} (h:Ru P L) {ls:List (List AV)} (hs:jU kA Ip ls):ae P L 360 (IF Ip ls) (.bool true):=by
 obtain ⟨_,_,_,rfl,h1,h2,⟨ps,hp,rfl,hq⟩⟩:=arV hs;obtain ⟨w,s,a,b,c,d,e,f,g,rfl,hw,ha,hb,hc,hd,he,hf,hg⟩:=akT h1;obtain ⟨_,_,rfl,k1,_,_,rfl,k2,_,_,rfl,⟨fr,rfl,_⟩,rfl⟩:=h2;obtain ⟨dx,dy,sh,rfl,b1,b2,b3⟩:=am9 k1;obtain ⟨x,y,rfl,b4,b5⟩:=La k2;have bd:∀p:Int,(Go.Lit.int .i8 p).wf=true-> -128<=p/\p<128:=fun p hp=>by
  simp only [Go.Lit.wf,yf,wN] at hp;have h1:IntKind.i8.min= -128:=rfl;have h2:IntKind.i8.max=127:=rfl;rw [h1,h2] at hp;omega
 match ps,hp with
 | [p,q],_=>
  obtain ⟨n,rfl,hn⟩:=hq _ (wJ);obtain ⟨m,rfl,hm⟩:=hq _ (wk _ wJ);exact ala h hw ha hb hc hd he hf hg b1 b2 b3 b4 b5 (bd n hn) (bd m hm)
end
section
namespace J2
open Go Go.Proofs
def T:List (Tr aC):=[.n 1 [.o 7 [] (.bool true)] .l .l]
def L0:VE.Lib:=RR VE.aU 99 L2
def L1:VE.Lib:=Ny L0 T 1000
def nu:Nu VE.prog VE.aU:=by
 repeat' (first | rfl | constructor)
def lw:Ru VE.prog L1:=by
 repeat' (first | rfl | constructor)
section
variable {W:World} {m:Int} (hm:W.cell? ⟨2,0,none⟩=some (.int .i64 m)) (ht:Go.Lib.TabIs Tryz.prog W "internal/strconv.uint64pow10" .u64 Go.Lib.pow10Tab)
include hm ht
def linked:eH ((J1.O W).sP L1):=by
 have hO:=J1.aoe hm ht;have hs:=akP hO nu rfl rfl rfl ⟨rfl,rfl,rfl⟩ (fn:=Tryz.f185) (c:=Br) Tryz.func185 rfl rfl trivial am6;have hT:eL (J1.O W) T:=eL.cons (Tr.kJ (kQ.one (VK1.holds hO rfl rfl)) Tr.jv Tr.jv) eL.nil;exact aaN (akQ hO hs) hT 1000
def law {ls:List (List AV)} (hs:jU kA Ip ls):eN (J1.O W) 360 (IF Ip ls) (.bool true):=by
 obtain ⟨k,hk⟩:=acD (aji lw hs);exact sound (linked hm ht) hk
end
end J2
end
end VE
