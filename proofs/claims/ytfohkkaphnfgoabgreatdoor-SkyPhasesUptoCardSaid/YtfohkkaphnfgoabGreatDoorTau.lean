import Derived.Test.YtfohkkaphnfgoabGreatDoorTat
import Derived.Test.YtfohkkaphnfgoabGreatDoorTaq
import Derived.Test.YtfohkkaphnfgoabGreatDoorTas
import Derived.Test.YtfohkkaphnfgoabGreatDoorTao
import Derived.Test.YtfohkkaphnfgoabGreatDoorTak
import Derived.Test.YtfohkkaphnfgoabGreatDoorTap
set_option linter.all false
set_option maxRecDepth 100000
open Bool renaming and_eq_true→yf,and_self→wB,and_true→uv,false_and→wA,not_false→yG,not_true→yK,true_and→wh
open Int renaming reduceEq→vN
open List renaming all_cons→vX,all_eq_true→yaa,all_nil→tn,drop→xo,drop_eq_getElem_cons→yJ,drop_eq_nil_of_le→yP,drop_zero→yi,eq_nil_of_length_eq_zero→yD,getElem_mem→xr,length_cons→yu,length_map→yY,length_nil→yA,map_append→xy,map_cons→yS,map_nil→xH,mem_cons→wg,mem_cons_of_mem→wv,mem_cons_self→vj,mem_map→vc,nil_append→xW,take_of_length_le→yE,take_succ_eq_append_getElem→yT,take_zero→uB
open Nat renaming le_refl→yv,mul_one→yj,reduceAdd→yb,reduceEqDiff→ya,reduceLT→yq,reduceLeDiff→yh,reduceMul→xt,zero_add→yd
namespace VE
section
open Go (IntKind)
section
variable {P:aI} {L:Lib}
def au9 (h:S0 P L) (h3:Has P L 3 c3) (ni:Has P L 30 qX) (Jk:Has P L 335 IK) {w:AV} {s:List (List Int)} (hw:eS w s) {hh sc st ox oy wx wy:List Nat} (l1:hh.length<=1000000000) (l2:sc.length<=1000000000) (l3:st.length<=1000000000) (l4:ox.length<=1000000000) (l5:oy.length<=1000000000) (l6:wx.length<=1000000000) (l7:wy.length<=1000000000):
  ae P L 335 [kV w hh sc st ox oy wx wy] (aa (EQ s hh sc st ox oy wx wy)):=by
 have e1:=s3 h3 ni hw;have e2:=aeo h l1;have e3:=aen h l2 1;have e4:=Tj h.toRm l3;have e5:=Je h l4 l5;have e6:=Je h l6 l7;have e7:=UL h.zg (fb true [nE s,iF hh 0,iF sc 1,aU st,bj [aU ox,aU oy],bj [aU wx,aU wy]]) (by simp);simp only [yu,yA,yd,yb,yS,xH] at e7;have o1:=hw.one;have p1:=hw.pu;have d2:∀a b c d e f g i:AV,xo 2 [a,b,c,d,e,f,g,i]=[c,d,e,f,g,i]:=fun _ _ _ _ _ _ _ _=>rfl
 have d3:∀a b c d e f g i:AV,xo 3 [a,b,c,d,e,f,g,i]=[d,e,f,g,i]:=fun _ _ _ _ _ _ _ _=>rfl
 have d6:∀a b c d e f g i:AV,xo 6 [a,b,c,d,e,f,g,i]=[g,i]:=fun _ _ _ _ _ _ _ _=>rfl
 unfold ae at e1 e2 e3 e4 e5 e6 e7 ⊢;rw [au Jk];unfold kV;simp only [go_sem,ya,yb,yq,yh,yj,IK,aG,o1,p1,hw.af,aZ,yd,bX,d2,d3,BC,d6,dX,aY,yi,e1,e2,e3,e4,e5,e6,e7];rfl
def asm (v a b c d e f u:AV) (r:List AV):over 6 [v] (a::b::c::d::e::f::u::r)=a::b::c::d::e::f::v::r:=rfl
def ava (h2:Has P L 2 c2) (qH:Has P L 305 Cm) (Jl:Has P L 327 EC) {w:AV} {s:List (List Int)} (hw:eS w s) {n:Nat} {hh sc st ox oy wx wy:List Nat} (l1:hh.length<9223372036854775808) (l2:sc.length<9223372036854775808) (l3:st.length<9223372036854775808) (l4:ox.length<9223372036854775808) (l5:oy.length<9223372036854775808) (l6:wx.length<9223372036854775808) (l7:wy.length<9223372036854775808):
  ae P L 327 [kV w hh sc st ox oy wx wy,aa n] (.bool (nP n s&&ff [hh,sc,st,ox,oy,wx,wy])):=by
 have e1:=s2 h2 hw (n:=n);have e2:=NA qH (BB true [hh,sc,st,ox,oy,wx,wy]) (by simp) (fun t ht=>by
  simp at ht
  rcases ht with rfl | rfl | rfl | rfl | rfl | rfl | rfl<;>omega)
 simp only [yu,yA,yd,yb,yS,xH] at e2;have o1:=hw.one;have p1:=hw.pu;have d2:∀a b c d e f g i:AV,xo 2 [a,b,c,d,e,f,g,i]=[c,d,e,f,g,i]:=fun _ _ _ _ _ _ _ _=>rfl
 have d3:∀a b c d e f g i:AV,xo 3 [a,b,c,d,e,f,g,i]=[d,e,f,g,i]:=fun _ _ _ _ _ _ _ _=>rfl
 have d5:∀a b c d e f g i:AV,xo 5 [a,b,c,d,e,f,g,i]=[f,g,i]:=fun _ _ _ _ _ _ _ _=>rfl
 have d6:∀a b c d e f g i:AV,xo 6 [a,b,c,d,e,f,g,i]=[g,i]:=fun _ _ _ _ _ _ _ _=>rfl
 have d7:∀a b c d e f g i:AV,xo 7 [a,b,c,d,e,f,g,i]=[i]:=fun _ _ _ _ _ _ _ _=>rfl
 unfold ae at e1 e2 ⊢;rw [au Jl];unfold kV;cases hs:nP n s<;>rw [hs] at e1
 ·simp only [go_sem,ya,yb,EC,aG,o1,p1,hw.af,aZ,yd,yi,e1,wA]
 ·simp only [go_sem,ya,yb,yq,yh,yj,EC,aG,o1,p1,hw.af,aZ,yd,bX,d2,d3,BC,d5,d6,d7,yi,e1,asm,e2,wh]
structure Rz (P:aI) (L:Lib):Prop extends Sr0 P L,Ar P L where
 h3:Has P L 3 c3
 ni:Has P L 30 qX
 Tq:Has P L 333 M6
 Jk:Has P L 335 IK
structure Ry (P:aI) (L:Lib):Prop extends Rz P L,Av P L where
 avb:Has P L 376 So
def asn (h:Rz P L) {w:AV} {s:List (List Int)} (hw:eS w s) {hh sc st ox oy wx wy dx dy sh x y:List Nat} {fr:Int} (k:qd s hh sc st ox oy wx wy dx dy sh x y fr):
  ae P L 333 [kV w hh sc st ox oy wx wy,fa dx dy sh,iL x y,aa fr] (lY (pk hh sc ox wx dx sh x fr) (pk hh sc oy wy dy sh y fr)):=by
 have hf:=PK k.fr;have H:=fun {t:List Nat} (c:aU t=0)=>jK c (yv 2400)
 have R:=fun {t:List Nat} (c:aU t=0)=>(zJ c).1
 have e1:=auM h.toSr0 h.qG h.Tq (st:= .str st) (fr:=fr) hw.one hw.pu rfl rfl (H k.dx) (H k.dy) (H k.sh) (H k.hh) (H k.sc) (H k.ox) (H k.oy) (H k.wx) (H k.wy) (H k.x) (H k.y) (by omega) (by omega) (by omega) (by omega);unfold lY at e1;rw [<-R k.dx,<-R k.dy,<-R k.sh,<-R k.hh,<-R k.sc,<-R k.ox,<-R k.oy,<-R k.wx,<-R k.wy,<-R k.x,<-R k.y] at e1;exact e1
def avc (h:Ry P L) {w:AV} {s:List (List Int)} (hw:eS w s) {hh sc st ox oy wx wy dx dy sh x y:List Nat} {fr:Int} (k:qd s hh sc st ox oy wx wy dx dy sh x y fr):
  ae P L 376 [kV w hh sc st ox oy wx wy,fa dx dy sh,iL x y,aa fr] (.str (RT (Kq s hh sc st ox oy wx wy dx dy sh x y fr))):=by
 have hS:=abt hw k.scr;have e1:=asn h.toRz hw k;have e2:=auU h.toAv hS k.kX k.kY (by omega) (by omega);have kv:=Q9 (fun c r=>hS.cI c r) k.kX k.kY (by omega);have e3:=qc h.toRn (jK k.st (yv 2400)) kv (by omega);rw [<-(zJ k.st).1] at e3;have o1:=hw.one;have p1:=hw.pu;have d3:∀a b c d e f g i:AV,xo 3 [a,b,c,d,e,f,g,i]=[d,e,f,g,i]:=fun _ _ _ _ _ _ _ _=>rfl
 have VT:∀a b c d e f g i:AV,eY 8 true [a,b,c,d,e,f,g,i]=some (.agg [a,b,c,d,e,f,g,i]):=fun _ _ _ _ _ _ _ _=>rfl
 unfold Kq;unfold ae at e1 e2 e3 ⊢;rw [au h.avb];unfold kV fa iL at*
 unfold lY at*
 simp only [go_sem,ya,yb,So,aG,o1,p1,hw.af,aZ,yd,d3,VT,dX,fc,aY,yi,e1,bm,e2,e3]
end
end
section
open Go (IntKind)
def DI (n:Nat) (l:List Lay):Bool:=if 3<l.length/\l.length<=4\/6<l.length then false else l.all fun a=>nP n a.s&&ff [a.hh,a.sc,a.st,a.ox,a.oy,a.wx,a.wy]
def DJ (n:Nat) (l:List fR):Bool:=if n<l.length/\l.length<=256\/258<l.length then false else l.all fun p=>ff [p.1,p.2]
structure Lay.NJ (a:Lay):Prop where
 hh:a.hh.length<9223372036854775808
 sc:a.sc.length<9223372036854775808
 st:a.st.length<9223372036854775808
 ox:a.ox.length<9223372036854775808
 oy:a.oy.length<9223372036854775808
 wx:a.wx.length<9223372036854775808
 wy:a.wy.length<9223372036854775808
def Y0 {α:Type} {p:α->Bool} {l:List α} {i:Nat} (h:i<l.length):(l.drop i).all p=(p l[i]&&(l.drop (i+1)).all p):=by
 rw [yJ h,vX]
def Wb {α:Type} {f:α->Int} {l:List α} {i:Nat} (h:i<l.length):bj ((l.drop i).map f)=if f l[i]=0 then bj ((l.drop (i+1)).map f) else f l[i]:=by
 rw [yJ h,yS,bj]
section
variable {P:aI} {L:Lib}
def avd (h:Has P L 321 M5) {v:AV} {l:List Lay} (hv:fq v l) (hl:l.length<=1500000):∃r,ae P L 321 [v] r/\fq (shut r) l:=by
 have h8:∀{m:List Lay},∀p,p∈m.map Lay.cs->p.length=8:=fun {m} p hp=>by
  obtain ⟨a,_,rfl⟩:=vc.1 hp;rfl
 have key:=eh (P:=P) (L:=L) (live:=[0,3,6,7]) (a:=BP)
  (I:=fun k st=>∃i:Nat,i+k=l.length/\((i=0/\st=⟨[(0,v),(3,.ab),(6,aa l.length),(7,aa i)],[],0,0⟩)\/
   (0<i/\st=⟨[(0,v),(3,.aE 0 0 i),(6,aa l.length),(7,aa i)],[(0,.cells true true false 8 ((l.take i).map Lay.cs).flatten)],1,0⟩)))
  (Q:=fun ex st=>∃tm hp ct,st=⟨tm,hp,ct,0⟩/\ex= .exit 0/\((l.length=0/\aj tm 3= .ab)\/(0<l.length/\aj tm 3= .aE 0 0 l.length/\aw hp 0=some (.cells true true false 8 (l.map Lay.cs).flatten)))) ?_
 ·unfold ae;rw [au h];simp only [go_sem,ya,M5,hv.len];generalize hq:D P L (.loop [0,3,6,7] BP) _=q;obtain ⟨ex,st,rfl,tm,hp,ct,rfl,rfl,h2⟩:=bI hq (key l.length) ⟨0,by omega,.inl ⟨rfl,by simp only [go_sem,ya,ao,aA hv.pu,aF _ hv.pu]<;>rfl⟩⟩
  rcases h2 with ⟨h2,h3⟩ | ⟨h2,h3,h4⟩
  ·refine ⟨.ab,by simp only [go_sem,ao,h3],?_⟩;rw [yD h2];exact ⟨Qb,fun _ h=>by cases h⟩
  ·refine ⟨.cp false 8 l.length (l.map Lay.cs).flatten,?_,?_,hv.2⟩
   ·simp only [go_sem,yb,ao,h3,h4];exact zA (rH _ _ _) (by rw [PL h8,yY]) (by decide)
   ·have:=QD (k:=8) false (h8 (m:=l))
    rwa [yY] at this
 ·rintro k st ⟨i,hk,aR⟩;by_cases hi:i<l.length
  ·have bU:(i:Int)<l.length:=by omega
   obtain ⟨rest,e1⟩:=hv.a8 hi;have hS:=hv.get hi;have bz:∀q,fG q [.ab,.str [],.str [],.str [],.str [],.str [],.str [],.str []] 0 8 [l[i].w,.str l[i].hh,.str l[i].sc,.str l[i].st,.str l[i].ox,.str l[i].oy,.str l[i].wx,.str l[i].wy] []=fill q [l[i].w,.str l[i].hh,.str l[i].sc,.str l[i].st,.str l[i].ox,.str l[i].oy,.str l[i].wx,.str l[i].wy] []:=fun q=>by
    rw [jb (by rfl) (by simp) (by simp [bL,hS.one,Qm])];rfl
   have pY:aK [l[i].w,.str l[i].hh,.str l[i].sc,.str l[i].st,.str l[i].ox,.str l[i].oy,.str l[i].wx,.str l[i].wy]=true:=by simp [aK,hS.pu,aX]
   have at8:∀(eH pu ex:Bool) (a b c d e f g i:AV),Oy 0 1 8 (some (.cells eH pu ex 8 [a,b,c,d,e,f,g,i]))=some (1,[a,b,c,d,e,f,g,i]):=fun _ _ _ _ _ _ _ _ _ _ _=>rfl
   left
   rcases aR with ⟨h0,rfl⟩ | ⟨h0,rfl⟩
   ·subst h0;simp only [go_sem,ya,yb,xt,yq,yh,BP,show ((0:Nat):Int)<l.length from bU,e1,pn,bz,hS.pu,wB,at8,ix];refine ⟨_,k-1,rfl,by omega,1,by omega,.inr ⟨by omega,?_⟩⟩;rw [wrap64 (by omega) (by omega),yT hi];simp only [go_sem,ya,yb,ao,aA hv.pu,aF _ hv.pu,uB,xW]<;>rfl
   ·have hlen:((l.take i).map Lay.cs).flatten.length=i*8:=by rw [PL h8,yY,List.length_take,Nat.min_eq_left (by omega)]
    simp only [go_sem,ya,yb,xt,BP,bU,e1,pn,bz,hS.pu,wB,at8]
    rw [hZ (ex:=false) (pu:=true) (cs:=((l.take i).map Lay.cs).flatten) (by simp only [go_sem,ya]) hlen (by omega) (by omega) (by decide) (by simp only [go_sem,hS.one])];simp only [go_sem,ya,yb,pY];refine ⟨_,k-1,rfl,by omega,i+1,by omega,.inr ⟨by omega,?_⟩⟩;rw [wrap64 (by omega) (by omega),yT hi,xy,List.flatten_append];simp only [go_sem,ya,yb,ao,aA hv.pu,aF _ hv.pu,yS,xH,List.flatten_cons,List.flatten_nil,List.append_nil]<;>rfl
  ·right
   rcases aR with ⟨h0,rfl⟩ | ⟨h0,rfl⟩
   ·simp only [go_sem,ya,BP,show ¬(i:Int)<l.length by omega];refine ⟨_,_,rfl,by simp,_,_,_,rfl,rfl,.inl ⟨by omega,?_⟩⟩;simp only [go_sem,ya]
   ·simp only [go_sem,ya,BP,show ¬(i:Int)<l.length by omega];refine ⟨_,_,rfl,by simp,_,_,_,rfl,rfl,.inr ⟨by omega,?_,?_⟩⟩
    ·simp only [go_sem,ya];rw [show i=l.length by omega]
    ·simp only [go_sem];rw [yE (by omega)]
def ave (h:Has P L 322 Cn) (h2:Has P L 2 c2) (qH:Has P L 305 Cm) (Jl:Has P L 327 EC) {v:AV} {l:List Lay} (hv:fq v l) (hf:∀a,a∈l->a.NJ) (n:Nat):ae P L 322 [v,aa n] (.bool (DI n l)):=by
 unfold DI;by_cases hc:3<l.length/\l.length<=4\/6<l.length
 ·rw [yL hc];unfold ae;rw [au h];by_cases h3:3<l.length
  ·by_cases h4:l.length<=4
   ·simp only [go_sem,ya,Cn,hv.len,show (3:Int)<l.length by omega,show (l.length:Int)<=4 by omega,yo]
   ·simp only [go_sem,ya,Cn,hv.len,show (3:Int)<l.length by omega,show ¬(l.length:Int)<=4 by omega,yo,yp,show (6:Int)<l.length by omega]
  ·omega
 ·rw [yF hc];have key:=eh (P:=P) (L:=L) (live:=[0,1,5]) (a:=BQ)
   (I:=fun k st=>∃i:Nat,i+k=l.length/\((l.drop i).all fun a=>nP n a.s&&ff [a.hh,a.sc,a.st,a.ox,a.oy,a.wx,a.wy])=(l.all fun a=>nP n a.s&&ff [a.hh,a.sc,a.st,a.ox,a.oy,a.wx,a.wy])/\st=⟨[(0,v),(1,aa n),(5,aa i)],[],0,0⟩)
   (Q:=fun ex st=>∃tm hp ct,st=⟨tm,hp,ct,0⟩/\((ex= .ret/\aj tm 4= .bool false/\(l.all fun a=>nP n a.s&&ff [a.hh,a.sc,a.st,a.ox,a.oy,a.wx,a.wy])=false)\/(ex= .exit 0/\(l.all fun a=>nP n a.s&&ff [a.hh,a.sc,a.st,a.ox,a.oy,a.wx,a.wy])=true))) ?_
  ·unfold ae;rw [au h];have g1:¬(6:Int)<l.length:=by omega
   by_cases h3:3<l.length
   ·simp only [go_sem,ya,Cn,hv.len,show (3:Int)<l.length by omega,show ¬(l.length:Int)<=4 by omega,g1,yo,yp];generalize hq:D P L (.loop [0,1,5] BQ) _=q;obtain ⟨ex,st,rfl,tm,hp,ct,rfl,h2⟩:=bI hq (key l.length) ⟨0,by omega,rfl,by simp only [go_sem,ya,ao,aA hv.pu,aF _ hv.pu]<;>rfl⟩
    rcases h2 with ⟨rfl,h3,h4⟩ | ⟨rfl,h4⟩
    ·rw [h4];simp only [go_sem,h3]
    ·rw [h4];simp only [go_sem,ao]
   ·simp only [go_sem,ya,Cn,hv.len,show ¬(3:Int)<l.length by omega,g1,yp];generalize hq:D P L (.loop [0,1,5] BQ) _=q;obtain ⟨ex,st,rfl,tm,hp,ct,rfl,h2⟩:=bI hq (key l.length) ⟨0,by omega,rfl,by simp only [go_sem,ya,ao,aA hv.pu,aF _ hv.pu]<;>rfl⟩
    rcases h2 with ⟨rfl,h3,h4⟩ | ⟨rfl,h4⟩
    ·rw [h4];simp only [go_sem,h3]
    ·rw [h4];simp only [go_sem,ao]
  ·rintro k st ⟨i,hk,eb,rfl⟩;by_cases hi:i<l.length
   ·obtain ⟨rest,e1⟩:=hv.a8 hi;have hS:=hv.get hi;have hn:=hf _ (xr hi);have e2:=ava h2 qH Jl hS (n:=n) hn.hh hn.sc hn.st hn.ox hn.oy hn.wx hn.wy;unfold kV at e2;unfold ae at e2;rw [Y0 hi] at eb
    cases hb:(nP n l[i].s&&ff [l[i].hh,l[i].sc,l[i].st,l[i].ox,l[i].oy,l[i].wx,l[i].wy]) with
    | false=>
     right
     rw [hb] at e2;simp only [go_sem,ya,BQ,hv.len,show (i:Int)<l.length by omega,e1,pn,aY,hS.af,e2];refine ⟨_,_,rfl,by simp,_,_,_,rfl,.inl ⟨rfl,by simp only [go_sem],?_⟩⟩;rw [<-eb,hb,wA]
    | true=>
     left
     rw [hb] at e2;simp only [go_sem,ya,BQ,hv.len,show (i:Int)<l.length by omega,e1,pn,aY,hS.af,e2];rw [hb,wh] at eb;refine ⟨_,k-1,rfl,by omega,i+1,by omega,eb,?_⟩;rw [wrap64 (by omega) (by omega)];simp only [go_sem,ya,ao,aA hv.pu,aF _ hv.pu]<;>rfl
   ·right
    simp only [go_sem,ya,BQ,hv.len,show ¬(i:Int)<l.length by omega];refine ⟨_,_,rfl,by simp,_,_,_,rfl,.inr ⟨rfl,?_⟩⟩;rw [<-eb,yP (by omega)];rfl
end
end
section
open Go (IntKind)
def Xh:∀{ps:List (List AV)},(∀p,p∈ps->ir LX p)->∃l:List Lay,ps=l.map Lay.cs/\(∀a,a∈l->eS a.w a.s)/\∀a,a∈l->a.NJ
 | [],_=>⟨[],rfl,(fun _ h=>by cases h),(fun _ h=>by cases h)⟩
 | p::ps,h=>by
  obtain ⟨w,s,a,b,c,d,e,f,g,rfl,hw,ha,hb,hc,hd,he,hf,hg⟩:=ajo (h p vj);obtain ⟨l,h1,h2,h3⟩:=Xh (ps:=ps) (fun q hq=>h q (wv _ hq));refine ⟨⟨w,s,a,b,c,d,e,f,g⟩::l,by rw [h1];rfl,fun q hq=>?_,fun q hq=>?_⟩
  ·rcases wg.1 hq with rfl | hq
   ·exact hw
   ·exact h2 q hq
  ·rcases wg.1 hq with rfl | hq
   ·exact ⟨ha,hb,hc,hd,he,hf,hg⟩
   ·exact h3 q hq
def Xi:∀{ps:List (List AV)},(∀p,p∈ps->ir zX p)->∃l:List fR,ps=l.map Gx/\∀p,p∈l->p.1.length<9223372036854775808/\p.2.length<9223372036854775808
 | [],_=>⟨[],rfl,(fun _ h=>by cases h)⟩
 | p::ps,h=>by
  obtain ⟨x,y,rfl,hx,hy⟩:=GV (h p vj);obtain ⟨l,h1,h2⟩:=Xi (ps:=ps) (fun q hq=>h q (wv _ hq));refine ⟨(x,y)::l,by rw [h1];rfl,fun q hq=>?_⟩
  rcases wg.1 hq with rfl | hq
  ·exact ⟨hx,hy⟩
  ·exact h2 q hq
def an6 {l:List AV} (h:ir (.sl LX) l):∃(v:AV) (m:List Lay),l=[v]/\fq v m/\∀a,a∈m->a.NJ:=by
 rcases h with rfl | ⟨x,ps,rfl,h⟩
 ·exact ⟨_,[],rfl,⟨Qb,(fun _ h=>by cases h)⟩,(fun _ h=>by cases h)⟩
 ·obtain ⟨m,rfl,h2,h3⟩:=Xh h
  exact ⟨_,m,rfl,⟨QD x (fun p hp=>by obtain ⟨a,_,rfl⟩:=vc.1 hp;rfl),h2⟩,h3⟩
def an7 {l:List AV} (h:ir (.sl zX) l):∃(v:AV) (m:List fR),l=[v]/\jT v m/\∀p,p∈m->p.1.length<9223372036854775808/\p.2.length<9223372036854775808:=by
 rcases h with rfl | ⟨x,ps,rfl,h⟩
 ·exact ⟨_,[],rfl,Qb,fun _ h=>by cases h⟩
 ·obtain ⟨m,rfl,h2⟩:=Xi h
  exact ⟨_,m,rfl,QD x (fun p hp=>by obtain ⟨a,_,rfl⟩:=vc.1 hp;rfl),h2⟩
end
section
open Go (IntKind)
section
variable {P:aI} {L:Lib}
def avf (h:S0 P L) (h3:Has P L 3 c3) (ni:Has P L 30 qX) (Jk:Has P L 335 IK) (NK:Has P L 328 II) {v:AV} {l:List Lay} (hv:fq v l) (hl:l.length<=1000000) (hf:∀a,a∈l->a.Fit):ae P L 328 [v] (aa (jA l)):=by
 unfold jA;by_cases hc:4<l.length
 ·rw [yL hc];unfold ae;rw [au NK];simp only [go_sem,ya,II,hv.len,show (4:Int)<l.length by omega,yo]
 ·rw [yF hc];have key:=eh (P:=P) (L:=L) (live:=[0,3]) (a:=DX)
   (I:=fun k st=>∃i:Nat,i+k=l.length/\bj ((l.drop i).map Lay.E)=bj (l.map Lay.E)/\st=⟨[(0,v),(3,aa i)],[],0,0⟩)
   (Q:=fun ex st=>∃tm hp ct,st=⟨tm,hp,ct,0⟩/\((ex= .ret/\aj tm 2=aa (bj (l.map Lay.E)))\/(ex= .exit 0/\bj (l.map Lay.E)=0))) ?_
  ·unfold ae;rw [au NK];simp only [go_sem,ya,II,hv.len,show ¬(4:Int)<l.length by omega,yp];generalize hq:D P L (.loop [0,3] DX) _=q;obtain ⟨ex,st,rfl,tm,hp,ct,rfl,h2⟩:=bI hq (key l.length) ⟨0,by omega,rfl,by simp only [go_sem,ya,ao,aA hv.pu,aF _ hv.pu]<;>rfl⟩
   rcases h2 with ⟨rfl,h3⟩ | ⟨rfl,h4⟩
   ·simp only [go_sem,h3]
   ·rw [h4];simp only [go_sem,ao]
  ·rintro k st ⟨i,hk,eb,rfl⟩;by_cases hi:i<l.length
   ·obtain ⟨rest,e1⟩:=hv.a8 hi;have hS:=hv.get hi;have ft:=hf _ (xr hi);have e2:ae P L 335 [.agg l[i].cs] (aa l[i].E):=au9 h h3 ni Jk hS ft.hh ft.sc ft.st ft.ox ft.oy ft.wx ft.wy;unfold ae Lay.cs at e2;rw [Wb hi] at eb;by_cases hb:Lay.E l[i]=0
    ·left
     rw [yL hb] at eb;rw [hb] at e2;simp only [go_sem,ya,DX,hv.len,show (i:Int)<l.length by omega,e1,pn,aY,hS.af,e2];refine ⟨_,k-1,rfl,by omega,i+1,by omega,eb,?_⟩;rw [wrap64 (by omega) (by omega)];simp only [go_sem,ya,ao,aA hv.pu,aF _ hv.pu]<;>rfl
    ·right
     rw [yF hb] at eb;simp only [go_sem,ya,DX,hv.len,show (i:Int)<l.length by omega,e1,pn,aY,hS.af,e2,hb,yp,yG];exact ⟨_,_,rfl,by simp,_,_,_,rfl,.inl ⟨rfl,by rw [<-eb];simp only [go_sem]⟩⟩
   ·right
    simp only [go_sem,ya,DX,hv.len,show ¬(i:Int)<l.length by omega];refine ⟨_,_,rfl,by simp,_,_,_,rfl,.inr ⟨rfl,?_⟩⟩;rw [<-eb,yP (by omega)];rfl
def avg (h:S0 P L) (NL:Has P L 330 IJ) {v:AV} {l:List fR} (hv:jT v l) (hl:l.length<=1000000) (hf:∀p,p∈l->p.1.length<=1000000000/\p.2.length<=1000000000):ae P L 330 [v] (aa (po l)):=by
 unfold po;by_cases hc:256<l.length
 ·rw [yL hc];unfold ae;rw [au NL];simp only [go_sem,ya,IJ,hv.len,show (256:Int)<l.length by omega,yo]
 ·rw [yF hc];have key:=eh (P:=P) (L:=L) (live:=[0,3]) (a:=DY)
   (I:=fun k st=>∃i:Nat,i+k=l.length/\bj ((l.drop i).map Bk)=bj (l.map Bk)/\st=⟨[(0,v),(3,aa i)],[],0,0⟩)
   (Q:=fun ex st=>∃tm hp ct,st=⟨tm,hp,ct,0⟩/\((ex= .ret/\aj tm 2=aa (bj (l.map Bk)))\/(ex= .exit 0/\bj (l.map Bk)=0))) ?_
  ·unfold ae;rw [au NL];simp only [go_sem,ya,IJ,hv.len,show ¬(256:Int)<l.length by omega,yp];generalize hq:D P L (.loop [0,3] DY) _=q;obtain ⟨ex,st,rfl,tm,hp,ct,rfl,h2⟩:=bI hq (key l.length) ⟨0,by omega,rfl,by simp only [go_sem,ya,ao,aA hv.pu,aF _ hv.pu]<;>rfl⟩
   rcases h2 with ⟨rfl,h3⟩ | ⟨rfl,h4⟩
   ·simp only [go_sem,h3]
   ·rw [h4];simp only [go_sem,ao]
  ·rintro k st ⟨i,hk,eb,rfl⟩;by_cases hi:i<l.length
   ·obtain ⟨rest,e1⟩:=hv.a8 hi;have ft:=hf _ (xr hi);have e2:ae P L 308 [iL l[i].1 l[i].2] (aa (Bk l[i])):=Je h ft.1 ft.2;rw [Wb hi] at eb;by_cases hb:Bk l[i]=0
    ·left
     rw [yL hb] at eb;rw [hb] at e2;simp only [go_sem,ya,DY,hv.len,show (i:Int)<l.length by omega,e1,AL,aY,e2];refine ⟨_,k-1,rfl,by omega,i+1,by omega,eb,?_⟩;rw [wrap64 (by omega) (by omega)];simp only [go_sem,ya,ao,aA hv.pu,aF _ hv.pu]<;>rfl
    ·right
     rw [yF hb] at eb;simp only [go_sem,ya,DY,hv.len,show (i:Int)<l.length by omega,e1,AL,aY,e2,hb,yp,yG];exact ⟨_,_,rfl,by simp,_,_,_,rfl,.inl ⟨rfl,by rw [<-eb];simp only [go_sem]⟩⟩
   ·right
    simp only [go_sem,ya,DY,hv.len,show ¬(i:Int)<l.length by omega];refine ⟨_,_,rfl,by simp,_,_,_,rfl,.inr ⟨rfl,?_⟩⟩;rw [<-eb,yP (by omega)];rfl
def avh (h:Has P L 372 Cp) (qH:Has P L 305 Cm) {v:AV} {l:List fR} (hv:jT v l) (hf:∀p,p∈l->p.1.length<9223372036854775808/\p.2.length<9223372036854775808):ae P L 372 [v,aa 6] (.bool (DJ 6 l)):=by
 unfold DJ;have key:=fun (hl:l.length<=1000000)=>eh (P:=P) (L:=L) (live:=[0,5]) (a:=BS)
   (I:=fun k st=>∃i:Nat,i+k=l.length/\((l.drop i).all fun p=>ff [p.1,p.2])=(l.all fun p=>ff [p.1,p.2])/\st=⟨[(0,v),(5,aa i)],[],0,0⟩)
   (Q:=fun ex st=>∃tm hp ct,st=⟨tm,hp,ct,0⟩/\((ex= .ret/\aj tm 4= .bool false/\(l.all fun p=>ff [p.1,p.2])=false)\/(ex= .exit 0/\(l.all fun p=>ff [p.1,p.2])=true))) (by
   rintro k st ⟨i,hk,eb,rfl⟩;by_cases hi:i<l.length
   ·obtain ⟨rest,e1⟩:=hv.a8 hi;have hn:=hf _ (xr hi);have e2:=NA qH (BB true [l[i].1,l[i].2]) (by simp) (fun t ht=>by
     simp at ht;rcases ht with rfl | rfl
     ·exact hn.1
     ·exact hn.2)
    simp only [yu,yA,yd,yb,yS,xH] at e2;have o0:∀cs:List AV,z6 0 (.aO cs)=some (.aO cs):=fun _=>rfl
    have o1:∀(a:AV) (cs:List AV),z6 1 (.aO (a::cs))=some (.aO cs):=fun _ _=>rfl
    rw [Y0 hi] at eb
    cases hb:ff [l[i].1,l[i].2] with
    | false=>
     right
     rw [hb] at e2;simp only [go_sem,ya,yb,yq,yh,yj,BS,hv.len,show (i:Int)<l.length by omega,e1,o0,o1,e2];refine ⟨_,_,rfl,by simp,_,_,_,rfl,.inl ⟨rfl,by simp only [go_sem],?_⟩⟩;rw [<-eb,hb,wA]
    | true=>
     left
     rw [hb] at e2;simp only [go_sem,ya,yb,yq,yh,yj,BS,hv.len,show (i:Int)<l.length by omega,e1,o0,o1,e2];rw [hb,wh] at eb;refine ⟨_,k-1,rfl,by omega,i+1,by omega,eb,?_⟩;rw [wrap64 (by omega) (by omega)];simp only [go_sem,ya,ao,aA hv.pu,aF _ hv.pu]<;>rfl
   ·right
    simp only [go_sem,ya,BS,hv.len,show ¬(i:Int)<l.length by omega];refine ⟨_,_,rfl,by simp,_,_,_,rfl,.inr ⟨rfl,?_⟩⟩
    rw [<-eb,yP (by omega)];rfl)
 by_cases hc:6<l.length/\l.length<=256\/258<l.length
 ·rw [yL hc];unfold ae;rw [au h];by_cases h3:6<l.length
  ·by_cases h4:l.length<=256
   ·simp only [go_sem,ya,Cp,hv.len,show (6:Int)<l.length by omega,show (l.length:Int)<=256 by omega,yo]
   ·simp only [go_sem,ya,Cp,hv.len,show (6:Int)<l.length by omega,show ¬(l.length:Int)<=256 by omega,yo,yp,show (258:Int)<l.length by omega]
  ·omega
 ·rw [yF hc];unfold ae;rw [au h];have g1:¬(258:Int)<l.length:=by omega
  by_cases h3:6<l.length
  ·simp only [go_sem,ya,Cp,hv.len,show (6:Int)<l.length by omega,show ¬(l.length:Int)<=256 by omega,g1,yo,yp];generalize hq:D P L (.loop [0,5] BS) _=q;obtain ⟨ex,st,rfl,tm,hp,ct,rfl,h2⟩:=bI hq (key (by omega) l.length) ⟨0,by omega,rfl,by simp only [go_sem,ya,ao,aA hv.pu,aF _ hv.pu]<;>rfl⟩
   rcases h2 with ⟨rfl,h3,h4⟩ | ⟨rfl,h4⟩
   ·rw [h4];simp only [go_sem,h3]
   ·rw [h4];simp only [go_sem,ao]
  ·simp only [go_sem,ya,Cp,hv.len,show ¬(6:Int)<l.length by omega,g1,yp];generalize hq:D P L (.loop [0,5] BS) _=q;obtain ⟨ex,st,rfl,tm,hp,ct,rfl,h2⟩:=bI hq (key (by omega) l.length) ⟨0,by omega,rfl,by simp only [go_sem,ya,ao,aA hv.pu,aF _ hv.pu]<;>rfl⟩
   rcases h2 with ⟨rfl,h3,h4⟩ | ⟨rfl,h4⟩
   ·rw [h4];simp only [go_sem,h3]
   ·rw [h4];simp only [go_sem,ao]
def aeu (h:Ry P L) (ER:Has P L 374 IP) {v:AV} {l:List Lay} (hv:fq v l) (hl:l.length<=4) {dx dy sh x y:List Nat} {fr:Int} (OZ:aU sh=0) (ok:∀a,a∈l->a.Ok dx dy sh x y fr):
  ae P L 374 [v,fa dx dy sh,iL x y,aa fr] (.str (RT (mL l dx dy sh x y fr))):=by
 have ks:=fun i=>V3 (b:=Lay.low sh) AI (fun a ha=>Ia (ok a ha)) i
 have key:=eh (P:=P) (L:=L) (live:=[0,3,5,6,9,10]) (a:=D0)
  (I:=fun k st=>∃i:Nat,i+k=l.length/\st=⟨[(0,v),(3,aa fr),(5,.ptr 0 0),(6,.ptr 1 0),(9,.str (RT (kE (Lay.low sh) (Lay.ph dx dy sh x y fr) 0 (l.take i)))),(10,aa i)],[(1,.cells true true true 2 [.str x,.str y]),(0,.cells true true true 3 [.str dx,.str dy,.str sh])],2,0⟩)
  (Q:=fun ex st=>∃tm hp ct,st=⟨tm,hp,ct,0⟩/\ex= .exit 0/\aj tm 9= .str (RT (mL l dx dy sh x y fr))) ?_
 ·unfold ae;rw [au ER];simp only [go_sem,ya,yb,IP,aG];generalize hq:D P L (.loop [0,3,5,6,9,10] D0) _=q;obtain ⟨ex,st,rfl,tm,hp,ct,rfl,rfl,t9⟩:=bI hq (key l.length) ⟨0,by omega,by rw [uB,show kE (Lay.low sh) (Lay.ph dx dy sh x y fr) 0 []=0 from rfl,Tl];simp only [go_sem,ya,yb,ao,aA hv.pu,aF _ hv.pu]<;>rfl⟩
  simp only [go_sem,ao,t9]
 ·rintro k st ⟨i,hk,rfl⟩;by_cases hi:i<l.length
  ·left
   obtain ⟨rest,e1⟩:=hv.a8 hi;have hS:=hv.get hi;have eN:=ok _ (xr hi);have e3:=auF h.toSr0.toRp h.toSr0.Tm h.toSr0.Jd (x:=dx) (y:=dy) (jK OZ (yv 2400)) (jK eN.hh (yv 2400)) (by decide);rw [show B0 (bC sh) (bC l[i].hh)=Lay.low sh l[i] from rfl,<-(zJ OZ).1,<-(zJ eN.hh).1] at e3;have aR:=Xg (b:=Lay.low sh) (f:=Lay.ph dx dy sh x y fr) (s:=0) hi;have o1:∀(a:AV) (cs:List AV),z6 1 (.aO (a::cs))=some (.aO cs):=fun _ _=>rfl
   cases hb:Lay.low sh l[i] with
   | false=>
    rw [hb] at e3 aR;simp only [go_sem,ya,D0,hv.len,show (i:Int)<l.length by omega,e1,o1,yi,fc,aY,e3];refine ⟨_,k-1,rfl,by omega,i+1,by omega,?_⟩;rw [wrap64 (by omega) (by omega),aR];simp only [go_sem,ya,yb,ao,aA hv.pu,aF _ hv.pu]<;>rfl
   | true=>
    rw [hb] at e3 aR;have e4:=avc h hS eN;have e5:=H9 h.toSr0.toRp (ks i) (Ia eN) (by omega);have e5:ae P L 264 [.str (RT (kE (Lay.low sh) (Lay.ph dx dy sh x y fr) 0 (l.take i))),.str (RT (Lay.ph dx dy sh x y fr l[i]))] (.str (RT (kE (Lay.low sh) (Lay.ph dx dy sh x y fr) 0 (l.take (i+1))))):=by rw [aR];exact e5
    have e4:ae P L 376 [kV l[i].w l[i].hh l[i].sc l[i].st l[i].ox l[i].oy l[i].wx l[i].wy,fa dx dy sh,iL x y,aa fr] (.str (RT (Lay.ph dx dy sh x y fr l[i]))):=e4;unfold kV fa iL at e4;simp only [go_sem,ya,D0,hv.len,show (i:Int)<l.length by omega,e1,o1,yi,fc,dX,pn,aY,hS.af,e3,e4,e5];refine ⟨_,k-1,rfl,by omega,i+1,by omega,?_⟩;rw [wrap64 (by omega) (by omega)];simp only [go_sem,ya,yb,ao,aA hv.pu,aF _ hv.pu]<;>rfl
  ·right
   simp only [go_sem,ya,D0,hv.len,show ¬(i:Int)<l.length by omega];exact ⟨_,_,rfl,by simp,_,_,_,rfl,rfl,by simp only [go_sem,ya];rw [yE (by omega)];rfl⟩
def avi (h:Ry P L) (ER:Has P L 374 IP) (TE:Has P L 375 M8) {v w:AV} {l:List Lay} (hv:fq v l) (hl:l.length<=4) {dx dy sh:List Nat} {pl:List fR} {fr:Int} (hw:jT w pl) (iX:pl.length<=1000000) (OZ:aU sh=0) (ok:∀p,p∈pl->∀a,a∈l->a.Ok dx dy sh p.1 p.2 fr):
  ∃r,ae P L 375 [v,fa dx dy sh,w,aa fr] r/\fP (shut r) ((gD l dx dy sh pl fr).map RT):=by
 have key:=eh (P:=P) (L:=L) (live:=[0,2,3,5,9,10]) (a:=BT)
  (I:=fun k st=>∃i:Nat,i+k=pl.length/\((i=0/\st=⟨[(0,v),(2,w),(3,aa fr),(5,.ptr 0 0),(9,.ab),(10,aa i)],[(0,.cells true true true 3 [.str dx,.str dy,.str sh])],1,0⟩)\/
   (0<i/\st=⟨[(0,v),(2,w),(3,aa fr),(5,.ptr 0 0),(9,.aE 1 0 i),(10,aa i)],[(1,.cells true true false 1 (((gD l dx dy sh (pl.take i) fr).map RT).map .str)),(0,.cells true true true 3 [.str dx,.str dy,.str sh])],2,0⟩)))
  (Q:=fun ex st=>∃tm hp ct,st=⟨tm,hp,ct,0⟩/\ex= .exit 0/\((pl.length=0/\aj tm 9= .ab)\/(0<pl.length/\aj tm 9= .aE 1 0 pl.length/\aw hp 1=some (.cells true true false 1 (((gD l dx dy sh pl fr).map RT).map .str))))) ?_
 ·unfold ae;rw [au TE];simp only [go_sem,ya,yb,M8,aG];generalize hq:D P L (.loop [0,2,3,5,9,10] BT) _=q;obtain ⟨ex,st,rfl,tm,hp,ct,rfl,rfl,h2⟩:=bI hq (key pl.length) ⟨0,by omega,.inl ⟨rfl,by simp only [go_sem,ya,yb,ao,aA hv.pu,aF _ hv.pu,aA hw.pu,aF _ hw.pu]<;>rfl⟩⟩
  rcases h2 with ⟨h2,h3⟩ | ⟨h2,h3,h4⟩
  ·refine ⟨.ab,by simp only [go_sem,ao,h3],?_⟩;rw [yD h2];exact lh
  ·refine ⟨.cp false 1 pl.length (((gD l dx dy sh pl fr).map RT).map .str),?_,?_⟩
   ·simp only [go_sem,yb,ao,h3,h4];exact zA (rH _ _ _) (by simp [gD]) (by decide)
   ·have:=BB false ((gD l dx dy sh pl fr).map RT)
    simp only [yY,gD] at this ⊢;exact this
 ·rintro k st ⟨i,hk,aR⟩;by_cases hi:i<pl.length
  ·have bU:(i:Int)<pl.length:=by omega
   obtain ⟨rest,e1⟩:=hw.a8 hi;have e2:=aeu h ER hv hl OZ (ok _ (xr hi));have hs:((gD l dx dy sh (pl.take (i+1)) fr).map RT).map AV.str=((gD l dx dy sh (pl.take i) fr).map RT).map AV.str++[.str (RT (mL l dx dy sh pl[i].1 pl[i].2 fr))]:=by
    rw [yT hi];simp only [gD,xy,yS,xH]
   left
   rcases aR with ⟨h0,rfl⟩ | ⟨h0,rfl⟩
   ·subst h0;simp only [go_sem,ya,yb,xt,yq,yh,yj,BT,hv.af,hw.len,show ((0:Nat):Int)<pl.length from bU,e1,AL,fc,yi,aY,e2,ix];refine ⟨_,k-1,rfl,by omega,1,by omega,.inr ⟨by omega,?_⟩⟩;rw [wrap64 (by omega) (by omega),hs];simp only [go_sem,ya,yb,ao,aA hv.pu,aF _ hv.pu,aA hw.pu,aF _ hw.pu,uB,gD,xH,xW]<;>rfl
   ·have hlen:(((gD l dx dy sh (pl.take i) fr).map RT).map AV.str).length=i:=by simp [gD];omega
    simp only [go_sem,ya,yb,yh,yj,BT,hv.af,hw.len,bU,e1,AL,fc,yi,aY,e2]
    rw [hZ (ex:=false) (pu:=true) (cs:=((gD l dx dy sh (pl.take i) fr).map RT).map .str) (by simp only [go_sem,ya]) (by rw [hlen,yj]) (by omega) (by omega) (by decide) (by simp only [go_sem])];simp only [go_sem,ya,yb];refine ⟨_,k-1,rfl,by omega,i+1,by omega,.inr ⟨by omega,?_⟩⟩;rw [wrap64 (by omega) (by omega),hs];simp only [go_sem,ya,yb,ao,aA hv.pu,aF _ hv.pu,aA hw.pu,aF _ hw.pu]<;>rfl
  ·right
   rcases aR with ⟨h0,rfl⟩ | ⟨h0,rfl⟩
   ·simp only [go_sem,ya,BT,hw.len,show ¬(i:Int)<pl.length by omega];refine ⟨_,_,rfl,by simp,_,_,_,rfl,rfl,.inl ⟨by omega,?_⟩⟩;simp only [go_sem,ya]
   ·simp only [go_sem,ya,BT,hw.len,show ¬(i:Int)<pl.length by omega];refine ⟨_,_,rfl,by simp,_,_,_,rfl,rfl,.inr ⟨by omega,?_,?_⟩⟩
    ·simp only [go_sem,ya];rw [show i=pl.length by omega]
    ·simp only [go_sem];rw [yE (by omega)]
def a29 (h:Has P L 29 JF) {v w:AV} {l:List (List Nat)} (hv:fP v l) (hw:fP w l) (hl:l.length<=1000000):ae P L 29 [v,w] (.bool true):=by
 have key:=eh (P:=P) (L:=L) (live:=[0,1,5]) (a:=H0)
  (I:=fun k st=>∃i:Nat,st=⟨[(0,v),(1,w),(5,aa i)],[],0,0⟩/\i+k=l.length)
  (Q:=fun ex st=>∃tm hp ct,st=⟨tm,hp,ct,0⟩/\ex= .exit 0) ?_
 ·unfold ae;rw [au h];simp only [go_sem,ya,JF,hv.len,hw.len,yo,yK];generalize hq:D P L (.loop [0,1,5] H0) _=q;obtain ⟨ex,st,rfl,tm,hp,ct,rfl,rfl⟩:=bI hq (key l.length) ⟨0,by simp only [go_sem,ya,ao,aA hv.pu,aF _ hv.pu,aA hw.pu,aF _ hw.pu]<;>rfl,by omega⟩
  simp only [go_sem,ao]
 ·rintro k st ⟨i,rfl,hk⟩;by_cases hi:i<l.length
  ·left
   simp only [go_sem,ya,H0,hv.len,show (i:Int)<l.length by omega,hv.a8 hi,hw.a8 hi,pO,KW,yK];refine ⟨_,k-1,rfl,by omega,i+1,?_,by omega⟩;rw [wrap64 (by omega) (by omega)];simp only [go_sem,ya,ao,aA hv.pu,aF _ hv.pu,aA hw.pu,aF _ hw.pu]<;>rfl
  ·right
   simp only [go_sem,ya,H0,hv.len,show ¬(i:Int)<l.length by omega];exact ⟨_,_,rfl,by simp,_,_,_,rfl,rfl⟩
def ZV (h:Has P L 345 Au) {e:Int} (he:e≠0):ae P L 345 [.ab,aa e,aa e,.ab] (.bool true):=by
 unfold ae;rw [au h];simp only [go_sem,ya,Au,he,yp,yG,yo]
def an8 (hr:Rl P L) (h:Has P L 345 Au) (AH:Has P L 316 EB) {w:AV} {l:List Rat} {K:Nat} (hw:fP w (l.map RT)) (hl:l.length<=1000000) (hk:∀x,x∈l->Hq K x) (hK:K<=4000000000) (ha:l.any LG=true):ae P L 345 [.ab,aa 4,aa 0,w] (.bool true):=by
 have e1:=ac4 hr AH hw hl hk hK;rw [ha,yL rfl] at e1;unfold ae at e1 ⊢;rw [au h];simp only [go_sem,ya,Au,hw.af,yo,e1,vN,yp,yG]
def aqI (hr:Rl P L) (h:Has P L 345 Au) (AH:Has P L 316 EB) (Kf:Has P L 29 JF) {v w:AV} {l:List Rat} {K:Nat} (hv:fP v (l.map RT)) (hw:fP w (l.map RT)) (hl:l.length<=1000000) (hk:∀x,x∈l->Hq K x) (hK:K<=4000000000) (ha:l.any LG=false):ae P L 345 [v,aa 0,aa 0,w] (.bool true):=by
 have e1:=ac4 hr AH hw hl hk hK;rw [ha,yF (by decide)] at e1;have e2:=a29 Kf hv hw (by simpa using hl);unfold ae at e1 e2 ⊢;rw [au h];simp only [go_sem,ya,Au,hv.af,hw.af,yo,e1,e2,yK]
end
end
section
open Go (IntKind)
section
variable {P:aI} {L:Lib}
def Ak (hp:Hp) (ct id:Nat) (a b c:List Nat) (x y z:AV):fM hp ct id 0 3 [.str a,.str b,.str c] (some (.cells true true true 3 [x,y,z]))=some (.aq [],bh hp id (.cells true true true 3 [.str a,.str b,.str c]),ct):=by
 rw [nV (by rfl) (by simp) (by rfl)];rfl
def aqJ {a b c:List Nat} (h:ff [a,b,c]=true):a.length<=40/\b.length<=40/\c.length<=40:=by
 simp only [ff,vX,tn,uv,yf,wW] at h;exact h
end
end
section
open Go (IntKind)
section
variable {P:aI} {L:Lib}
def avj (TF:Has P L 258 MT) (ni:Has P L 30 qX) (n:Int):ae P L 258 [aa n] (aa (iQ n)):=by
 have e:=UK ni n (-999999999) 999999999;unfold ae at e ⊢;rw [au TF];simp only [go_sem,ya,MT,e,iQ]
def ahK (h:Has P L 255 Ci) {e:Int} (he:e≠0):ae P L 255 [.str [],aa e,aa e,.str []] (.bool true):=by
 unfold ae;rw [au h];simp only [go_sem,ya,Ci,he,yp,yG,iz,show cE [] []=true from rfl,yo]
def ahL (hr:Rl P L) (h:Has P L 255 Ci) {a:Rat} {K:Nat} (ka:Hq K a) (hK:K<=4000000000):∃u e,CC a= .aq [.str u,aa e]/\ae P L 255 [.str u,aa e,aa 0,.str (RT a)] (.bool true):=by
 have e1:=ac3 hr ka hK;unfold CC;unfold ae at e1 ⊢;cases hL:LG a<;>rw [hL] at e1<;>simp only [Bool.false_eq_true,y8,xh] at e1
 ·refine ⟨_,_,rfl,?_⟩;rw [au h];simp only [go_sem,ya,Ci,e1,yo,yK,iz,KW]
 ·refine ⟨_,_,rfl,?_⟩;rw [au h];simp only [go_sem,ya,Ci,e1,vN,yo,yp,yG,iz,KW]
end
end
section
open Go (IntKind)
section
variable {P:aI} {L:Lib}
def ES (a b c d e f:AV):xo 3 [a,b,c,d,e,f]=[d,e,f]:=rfl
def ET (a b c d e f:AV):xo 4 [a,b,c,d,e,f]=[e,f]:=rfl
def NM (a b c d e f:AV):xo 5 [a,b,c,d,e,f]=[f]:=rfl
end
end
section
open Go (IntKind)
def Wc:∀{s:List (List Int)},oL s=true->∀i (hi:i<s.length),s[i].length<=18
 | [],_,i,hi=>absurd hi (Nat.not_lt_zero _)
 | r::s,h,i,hi=>by
  simp only [oL] at h
  split at h
  ·grind
  ·cases i with
   | zero=>simp only [List.getElem_cons_zero];omega
   | succ i=>simp only [List.getElem_cons_succ];exact Wc h i (by simpa using hi)
def ajz {n:Nat} {s:List (List Int)} (h:nP n s=true):s.length<=18/\∀i (hi:i<s.length),s[i].length<=18:=by
 unfold nP at h
 split at h
 ·grind
 ·exact ⟨by omega,Wc h⟩
def abv {a b:List Nat} (h:ff [a,b]=true):a.length<=40/\b.length<=40:=by
 simp only [ff,vX,tn,uv,yf,wW] at h;exact h
def aqK {a b c d e f g:List Nat} (h:ff [a,b,c,d,e,f,g]=true):a.length<=40/\b.length<=40/\c.length<=40/\d.length<=40/\e.length<=40/\f.length<=40/\g.length<=40:=by
 simp only [ff,vX,tn,uv,yf,wW] at h;exact h
section
variable {P:aI} {L:Lib}
end
end
section
open Go (IntKind)
structure Qd (P:aI) (L:Lib):Prop where
 r:Ry P L
 p:Lq P L
 h2:Has P L 2 c2
 ru:Has P L 11 hJ
 Kf:Has P L 29 JF
 aev:Has P L 255 Ci
 TF:Has P L 258 MT
 AH:Has P L 316 EB
 avk:Has P L 321 M5
 avl:Has P L 322 Cn
 Jl:Has P L 327 EC
 NK:Has P L 328 II
 NL:Has P L 330 IJ
 NN:Has P L 345 Au
 Jj:Has P L 367 EF
 Ji:Has P L 368 IL
 TD:Has P L 369 IM
 qI:Has P L 370 Co
 AM:Has P L 371 qv
 avm:Has P L 372 Cp
 NI:Has P L 373 IN
 ER:Has P L 374 IP
 TE:Has P L 375 M8
 aso:ae P L 1 [] (.bool true)
def ajA (a b c d:Int):bj [bj [a,b],c,d]=bj [a,b,c,d]:=by
 simp only [bj];by_cases h1:a=0<;>by_cases h2:b=0<;>simp [h1,h2]
def ahM {n:Nat} {l:List Lay} (h:DI n l=true):l.length<=6/\∀a,a∈l->a.Fit:=by
 unfold DI at h
 split at h
 ·cases h
 ·rename_i hc;refine ⟨by omega,fun a ha=>?_⟩
  have:=yaa.1 h a ha
  obtain ⟨h1,h2⟩:=Bool.and_eq_true_iff.1 this;obtain ⟨s1,s2⟩:=ajz h1;obtain ⟨l1,l2,l3,l4,l5,l6,l7⟩:=aqK h2
  exact ⟨by omega,fun i hi=>by have:=s2 i hi;omega,by omega,by omega,by omega,by omega,by omega,by omega,by omega⟩
def ahN {n:Nat} {l:List fR} (hn:n<=1000) (h:DJ n l=true):l.length<=1000/\∀p,p∈l->p.1.length<=40/\p.2.length<=40:=by
 unfold DJ at h
 split at h
 ·cases h
 ·rename_i hc;refine ⟨by omega,fun p hp=>?_⟩;exact abv (yaa.1 h p hp)
section
variable {P:aI} {L:Lib}
def ahO (h:Qd P L) {v w:AV} {l:List Lay} {pl:List fR} (hv:fq v l) (hlen:∀a,a∈l->a.NJ) (iW:l.length<=1500000) (hw:jT w pl) (avn:∀p,p∈pl->p.1.length<9223372036854775808/\p.2.length<9223372036854775808) {dx dy sh x y:List Nat} {fr:Int} (b8:dx.length<9223372036854775808) (b9:dy.length<9223372036854775808) (ba:sh.length<9223372036854775808) (bb:x.length<9223372036854775808) (bc:y.length<9223372036854775808):
  ae P L 371 [v,.agg [.str dx,.str dy,.str sh,.str x,.str y,aa fr],w] (.bool true):=by
 have ea:=h.aso;obtain ⟨r,e0,hr⟩:=avd h.avk hv iW;have nC:=ave h.avl h.h2 h.r.toSr0.qH h.Jl hr hlen 5;have nC:ae P L 322 [shut r,.int .i64 5] (.bool (DI 5 l)):=nC;have rA:=auD h.r.toSr0 b8 b9 ba;have rB:=NA h.r.toSr0.qH (BB true [x,y]) (by simp) (fun t ht=>by
  simp at ht
  rcases ht with rfl | rfl<;>omega)
 simp only [yu,yA,yd,yb,yS,xH] at rB;have rC:=avh h.avm h.r.toSr0.qH hw avn;have rC:ae P L 372 [w,.int .i64 6] (.bool (DJ 6 pl)):=rC;unfold ae at ea e0 nC rA rB rC
 cases jo:DI 5 l with
 | false=>
  rw [jo] at nC;unfold ae;rw [au h.AM];simp only [go_sem,ya,yb,qv,aZ,yd,fc,aG,hv.af,hr.af,e0,Ak,yi,ea,yK,nC,yG]
 | true=>
  rw [jo] at nC
  cases Fg:ff [dx,dy,sh] with
  | false=>
   rw [Fg] at rA;unfold ae;rw [au h.AM];simp only [go_sem,ya,yb,qv,aZ,yd,fc,aY,aG,hv.af,hr.af,e0,Ak,yi,ea,yK,nC,rA,yG]
  | true=>
   rw [Fg] at rA
   cases VV:ff [x,y] with
   | false=>
    rw [VV] at rB;unfold ae;rw [au h.AM];simp only [go_sem,ya,yb,yq,yh,yj,qv,aZ,yd,ES,ET,fc,aY,aG,hv.af,hr.af,e0,Ak,yi,ea,yK,nC,rA,rB,yG]
   | true=>
    rw [VV] at rB
    cases VW:DJ 6 pl with
    | false=>
     rw [VW] at rC;unfold ae;rw [au h.AM];simp only [go_sem,ya,yb,yq,yh,yj,qv,aZ,yd,ES,ET,fc,aY,aG,hv.af,hw.af,hr.af,e0,Ak,yi,ea,yK,nC,rA,rB,rC,yG]
    | true=>
     rw [VW] at rC;obtain ⟨hl,Cb⟩:=ahM jo;obtain ⟨iX,JV⟩:=ahN (by omega) VW;obtain ⟨l8,l9,la⟩:=aqJ Fg;obtain ⟨lb,lc⟩:=abv VV;have aew:∀p,p∈pl->p.1.length<=1000000000/\p.2.length<=1000000000:=fun p hp=>by have:=JV p hp;omega
     have e1:=avf h.r.toS0 h.r.h3 h.r.ni h.r.Jk h.NK hr (by omega) Cb;have e2:=auC h.r.toS0 (x:=dx) (y:=dy) (s:=sh) (by omega) (by omega) (by omega);rw [show bj [bj [aU dx,aU dy],iF sh 0]=jS dx dy sh from rfl] at e2;have e3:=Je h.r.toS0 (x:=x) (y:=y) (by omega) (by omega);have e4:=avj h.TF h.r.ni fr;have e5:=avg h.r.toS0 h.NL hw (by omega) aew;have s2:=UM h.ru h.r.zg (fb true [jA l,jS dx dy sh]) (by simp);have s3:=UM h.ru h.r.zg (fb true [bj [jA l,jS dx dy sh],bj [aU x,aU y],iQ fr]) (by simp);have s4:=UM h.ru h.r.zg (fb true [bj [jA l,jS dx dy sh],po pl,iQ fr]) (by simp);rw [ajA] at s3 s4;rw [show bj [jA l,jS dx dy sh,bj [aU x,aU y],iQ fr]=nB l dx dy sh x y fr from rfl] at s3
     rw [show bj [jA l,jS dx dy sh,po pl,iQ fr]=mo l dx dy sh pl fr from rfl] at s4;simp only [yu,yA,yd,yb,yS,xH] at s2 s3 s4;have f1:∃u e,ae P L 373 [v,fa dx dy sh,iL x y,aa fr] (.aq [.str u,aa e])/\
       (nB l dx dy sh x y fr≠0->u=[]/\e=nB l dx dy sh x y fr)/\
       (nB l dx dy sh x y fr=0->ae P L 374 [shut r,fa dx dy sh,iL x y,aa fr] (.str (RT (mL l dx dy sh x y fr)))/\ae P L 255 [.str u,aa e,aa 0,.str (RT (mL l dx dy sh x y fr))] (.bool true)):=by
      have k:=au6 h.p h.qI h.NI hv (by omega) Cb (dx:=dx) (dy:=dy) (sh:=sh) (x:=x) (y:=y) (fr:=fr) (by omega) (by omega) (by omega) (by omega) (by omega);by_cases h0:nB l dx dy sh x y fr=0
      ·obtain ⟨k1,k2⟩:=abu h0;have Dh:=h0;unfold nB at Dh;simp only [Bn,Du,wi] at Dh;obtain ⟨u,e,k3,k4⟩:=ahL h.r.toSr0.toRl h.aev (Lk k2 k1) (by decide);rw [yF (by simp [h0]),k3] at k;exact ⟨u,e,k,fun c=>absurd h0 c,fun _=>⟨aeu h.r h.ER hr k1 (Qa Dh.2.1).2.2.1 k2,k4⟩⟩
      ·rw [yL h0] at k;exact ⟨_,_,k,fun _=>⟨rfl,rfl⟩,fun c=>absurd c h0⟩
     have f2:∃q e m,fP q m/\ae P L 367 [v,fa dx dy sh,w,aa fr] (.aq [q,aa e])/\
       (mo l dx dy sh pl fr≠0->q= .ab/\e=mo l dx dy sh pl fr)/\
       (mo l dx dy sh pl fr=0->∃t n,fP (shut t) n/\ae P L 375 [shut r,fa dx dy sh,w,aa fr] t/\ae P L 345 [q,aa e,aa 0,shut t] (.bool true)):=by
      obtain ⟨k1,k2⟩:=au8 h.p h.Jj h.Ji h.TD h.qI hv (by omega) Cb (dx:=dx) (dy:=dy) (sh:=sh) (pl:=pl) (fr:=fr) hw (by omega) aew (by omega) (by omega) (by omega);by_cases h0:mo l dx dy sh pl fr=0
      ·obtain ⟨k3,k4⟩:=k2 h0;obtain ⟨j1,j2,j3⟩:=ZU h0;have Dh:=h0;unfold mo at Dh;simp only [Bn,Du,wi] at Dh;obtain ⟨t,e6,ht⟩:=avi h.r h.ER h.TE hr j1 (dx:=dx) (dy:=dy) (fr:=fr) hw (by omega) (Qa Dh.2.1).2.2.1 j3;have kk:∀q,q∈gD l dx dy sh pl fr->Hq 2000000 q:=fun q hq=>by
        obtain ⟨p,hp,rfl⟩:=vc.1 hq;exact Lk (j3 p hp) j1
       have hn:(gD l dx dy sh pl fr).length<=1000000:=by simp [gD];omega
       cases ha:(gD l dx dy sh pl fr).any LG with
       | true=>
        exact ⟨.ab,4,[],lh,k3 ha,fun c=>absurd h0 c,fun _=>⟨t,_,ht,e6,an8 h.r.toSr0.toRl h.NN h.AH ht hn kk (by decide) ha⟩⟩
       | false=>
        obtain ⟨q,hq,k5⟩:=k4 ha;exact ⟨q,0,_,hq,k5,fun c=>absurd h0 c,fun _=>⟨t,_,ht,e6,aqI h.r.toSr0.toRl h.NN h.AH h.Kf hq ht hn kk (by decide) ha⟩⟩
      ·exact ⟨.ab,_,[],lh,k1 h0,fun _=>⟨rfl,rfl⟩,fun c=>absurd c h0⟩
     obtain ⟨u,z1,g1,g2,g3⟩:=f1;obtain ⟨q,z2,m,hq,g4,g5,g6⟩:=f2;unfold fa iL at*
     unfold ae at e1 e2 e3 e4 e5 s2 s3 s4 g1 g4 ⊢;by_cases h1:nB l dx dy sh x y fr=0
     ·obtain ⟨y1,y2⟩:=g3 h1;rw [h1] at s3;unfold ae at y1 y2;by_cases h2:mo l dx dy sh pl fr=0
      ·obtain ⟨t,n,ht,y3,y4⟩:=g6 h2;rw [h2] at s4;unfold ae at y3 y4;rw [au h.AM];simp only [go_sem,ya,yb,yq,yh,yj,qv,aZ,yd,ES,ET,NM,fc,dX,aY,aG,hv.af,hw.af,hr.af,hq.af,hq.bT,ht.af,e0,Ak,yi,ea,yK,nC,rA,rB,rC,g1,Bu,g4,e1,e2,s2,e3,e4,s3,yo,y1,y2,e5,s4,y3,y4]
      ·obtain ⟨rfl,rfl⟩:=g5 h2;have y3:=ZV h.NN h2;unfold ae at y3;rw [au h.AM];simp only [go_sem,ya,yb,yq,yh,yj,qv,aZ,yd,ES,ET,NM,fc,dX,aY,aG,hv.af,hw.af,hr.af,e0,Ak,yi,ea,yK,nC,rA,rB,rC,yG,g1,Bu,g4,e1,e2,s2,e3,e4,s3,yo,yp,y1,y2,e5,s4,h2,y3]
     ·obtain ⟨rfl,rfl⟩:=g2 h1;have y2:=ahK h.aev h1;unfold ae at y2;by_cases h2:mo l dx dy sh pl fr=0
      ·obtain ⟨t,n,ht,y3,y4⟩:=g6 h2;rw [h2] at s4;unfold ae at y3 y4;rw [au h.AM];simp only [go_sem,ya,yb,yq,yh,yj,qv,aZ,yd,ES,ET,NM,fc,dX,aY,aG,hv.af,hw.af,hr.af,hq.af,hq.bT,ht.af,e0,Ak,yi,ea,yK,nC,rA,rB,rC,yG,g1,Bu,g4,e1,e2,s2,e3,e4,s3,yo,yp,h1,y2,e5,s4,y3,y4]
      ·obtain ⟨rfl,rfl⟩:=g5 h2;have y3:=ZV h.NN h2;unfold ae at y3;rw [au h.AM];simp only [go_sem,ya,yb,yq,yh,yj,qv,aZ,yd,ES,ET,NM,fc,dX,aY,aG,hv.af,hw.af,hr.af,e0,Ak,yi,ea,yK,nC,rA,rB,rC,yG,g1,Bu,g4,e1,e2,s2,e3,e4,s3,yp,h1,y2,e5,s4,h2,y3]
end
end
section
open Go (IntKind)
abbrev zP:List Ty:=[.sl LX,atM,.sl zX]
def agT {P:aI} {L:Lib} (h:Qd P L) {ls:List (List AV)} (hs:mO ir zP ls) (hB:∀x k cs,(Ai zP ls).head? =some (.aH x k cs)->k<=1048576):ae P L 371 (Ai zP ls) (.bool true):=by
 obtain ⟨_,_,_,rfl,h1,h2,h3⟩:=aql hs;obtain ⟨v,m,rfl,hv,hm⟩:=an6 h1;obtain ⟨w,pl,rfl,hw,iX⟩:=an7 h3;obtain ⟨_,_,rfl,k1,_,_,rfl,k2,_,_,rfl,⟨fr,rfl,_⟩,rfl⟩:=h2;obtain ⟨dx,dy,sh,rfl,b1,b2,b3⟩:=alv k1;obtain ⟨x,y,rfl,b4,b5⟩:=GV k2;have hl:m.length<=1500000:=by
  rcases hv.1.1 with ⟨_,e⟩ | ⟨b,e⟩
  ·have:=congrArg List.length e
   simp only [yY,yA] at this;omega
  ·have:=hB b (m.map Lay.cs).length (m.map Lay.cs).flatten (by rw [<-e];rfl)
   rw [yY] at this;omega
 exact ahO h hv hm hl hw iX b1 b2 b3 b4 b5
end
section
namespace J2
open Go Go.Proofs
def T:List (Tr aC):=[.n 1 [.o 7 [] (.bool true)] .l .l]
def L0:VE.Lib:=Q2 VE.aT 99 LI
def L1:VE.Lib:=M9 L0 T 1000
def nu:Nu VE.prog VE.aT:=by
 repeat' (first | rfl | constructor)
def lw:Qd VE.prog L1:=by
 repeat' (first | rfl | constructor)
section
variable {W:World} {m:Int} (hm:W.cell? ⟨2,0,none⟩=some (.int .i64 m)) (ht:Go.Lib.TabIs Tryz.prog W "internal/strconv.uint64pow10" .u64 Go.Lib.pow10Tab)
include hm ht
def linked:ej ((J1.O W).rO L1):=by
 have hO:=J1.ams hm ht;have hs:=ajk hO nu rfl rfl rfl ⟨rfl,rfl,rfl⟩ (fn:=Tryz.f143) (c:=AE) Tryz.func143 rfl rfl trivial als;have hT:et (J1.O W) T:=et.cons (Tr.jP (jX.one (VK1.holds hO rfl rfl)) Tr.je Tr.je) et.nil;exact Zm (ajl hO hs) hT 1000
def law {ls:List (List AV)} (hs:mO ir zP ls) (hB:∀x k cs,(Ai zP ls).head? =some (.aH x k cs)->k<=1048576):ez (J1.O W) 371 (Ai zP ls) (.bool true):=by
 obtain ⟨k,hk⟩:=aa7 (agT lw hs hB);exact sound (linked hm ht) hk
end
end J2
end
section
open Go
def an9 {H:Type} {P:Program} {n:Nat} {t e:TypeId} {d:DataW H} {x:Bool} {k:Nat} {cs:List AV} (hu:P.underlying t=some (.slice e)) (h:jx P (n+1) t d= .aH x k cs):∃el sp,d= .slice el sp/\k=el.length:=by
 unfold jx at h;rw [hu] at h;simp only at h
 cases d with
 | slice el sp=>
  simp only [cz,hu,List.headD_cons,AV.aH.injEq] at h;exact ⟨el,sp,rfl,h.2.1.symm⟩
 | nil=>simp [cz,hu] at h
 | lit l=>cases l<;>simp [cz,hu] at h
 | ptr d=>simp [cz,hu] at h
 | agg parts=>simp [cz,hu] at h
 | iface t d=>simp [cz,hu] at h
 | map entries=>simp [cz,hu] at h
 | held hh=>simp [cz,hu] at h
end
end VE
