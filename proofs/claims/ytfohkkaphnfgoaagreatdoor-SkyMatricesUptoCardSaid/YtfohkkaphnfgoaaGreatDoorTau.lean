import Derived.Test.YtfohkkaphnfgoaaGreatDoorTat
import Derived.Test.YtfohkkaphnfgoaaGreatDoorTas
import Derived.Test.YtfohkkaphnfgoaaGreatDoorTao
set_option linter.all false
set_option maxRecDepth 100000
open Bool renaming and_eq_true→ye,and_self→wv,and_true→uj,false_or→wX,not_false→yI,not_true→yJ
open Int renaming emod_eq_of_lt→yap,emod_lt_of_pos→we,emod_nonneg→wm,mul_le_mul→uQ,mul_nonneg→uz,natCast_mul→xL,toNat_natCast→xp,toNat_of_nonneg→uX
open List renaming all_cons→uR,all_nil→tE,any_append→tD,any_cons→tu,any_eq_true→yao,drop→xg,drop_eq_nil_of_le→yT,drop_zero→yg,eq_nil_of_length_eq_zero→yD,flatten_append→uM,flatten_cons→xT,foldl_append→yaf,foldl_cons→yaq,foldl_nil→td,getD_eq_getElem?_getD→xK,getElem?_eq_getElem→wo,getElem_map→vW,getElem_mem→yR,length_append→yW,length_cons→yC,length_map→yL,length_take→yQ,map_append→xq,map_cons→yV,mem_cons_of_mem→xS,mem_cons_self→wA,mem_map→wb,mem_of_mem_take→vH,nil_append→xM,replicate→yG,take_of_length_le→yp,take_succ_eq_append_getElem→yB,take_zero→vD
open Nat renaming add_mul→xH,beq→yv,ble→yE,ble_eq_true_of_le→yx,le_refl→yr,min_eq_left→xX,mul_le_mul→xB,mul_one→yh,reduceAdd→yb,reduceEqDiff→ya,reduceLT→yt,reduceLeDiff→yi,reduceMul→xj,zero_add→yd
open Option renaming getD_some→wU
open Rat renaming zero_mul→ybw
namespace VE
section
open Go (IntKind)
noncomputable def JX (dx dy sh x y:List Nat) (fr:Int) (p:Int×(Int->Rat)) (a:Lay):Int×(Int->Rat):=
 (p.1+(a.s.length:Int)*a.s.length,
  iK (if Lay.low sh a=true then im p.2 p.1 a.s.length ((fk a.hh a.sc a.ox a.wx dx sh x fr).floor%a.s.length) ((fk a.hh a.sc a.oy a.wy dy sh y fr).floor%a.s.length) (gZ (fk a.hh a.sc a.ox a.wx dx sh x fr)) (gZ (fk a.hh a.sc a.oy a.wy dy sh y fr)) 4 else p.2) p.1 (bf a.st) (a.s.length*a.s.length))
noncomputable def dK (dx dy sh x y:List Nat) (fr:Int) (l:List Lay):Int×(Int->Rat):=l.foldl (JX dx dy sh x y fr) (0,fun _=>0)
def M2 {dx dy sh x y:List Nat} {fr:Int} {l:List Lay} {i:Nat} (h:i<l.length):dK dx dy sh x y fr (l.take (i+1))=JX dx dy sh x y fr (dK dx dy sh x y fr (l.take i)) l[i]:=by
 rw [yB h];simp only [dK,yaf,yaq,td]
def ab2 {dx dy sh x y:List Nat} {fr:Int} {l:List Lay} (h:∀a,a∈l->a.s.length<=16):∀i,i<=l.length->0<=(dK dx dy sh x y fr (l.take i)).1/\(dK dx dy sh x y fr (l.take i)).1<=256*(i:Int)
 | 0,_=>by simp [dK]
 | i+1,hi=>by
  have ih:=ab2 (dx:=dx) (dy:=dy) (sh:=sh) (x:=x) (y:=y) (fr:=fr) h i (by omega);rw [M2 (by omega)];have h1:=h _ (yR (show i<l.length by omega));have h2:l[i].s.length*l[i].s.length<=16*16:=xB h1 h1;show 0<=(dK dx dy sh x y fr (l.take i)).1+(l[i].s.length:Int)*l[i].s.length/\_
  show _/\(dK dx dy sh x y fr (l.take i)).1+((l[i].s.length*l[i].s.length:Nat):Int)<=_
  omega
def Gy (sc pc:List AV) (E:gA):Hp:=[(2,.mp true (jr E) (dW E)),(1,.cells true true true 2 pc),(0,.cells true true true 3 sc)]
def aqk {i j:Int} {f g:Rat} {c1 c2 c3 c4 d1 d2 d3 d4:AV} (h:DB (.agg [aa i,aa j,c1,c2,c3,c4,d1,d2,d3,d4]) i j f g) (hp:Hp) (ct id:Nat) (x0 x1 x2 x3 x4 x5 x6 x7 x8 x9:AV):fE hp ct id 0 10 [aa i,aa j,c1,c2,c3,c4,d1,d2,d3,d4] (some (.cells true true true 10 [x0,x1,x2,x3,x4,x5,x6,x7,x8,x9]))=some (.au [],bg hp id (.cells true true true 10 [aa i,aa j,c1,c2,c3,c4,d1,d2,d3,d4]),ct):=by
 obtain ⟨_,_,_,_,_,_,_,_,XY,hf,hg⟩:=h;obtain ⟨rfl,rfl,rfl,rfl,rfl,rfl,rfl,rfl⟩:=by simpa using XY
 have gf:=hf.f4;have gg:=hg.f4;obtain ⟨Mb,Mc,Me,Mf⟩:=gf.EG;obtain ⟨Mg,Mh,Mi,Mj⟩:=gg.EG;rw [mD (by rfl) (by simp) (by simp [bO,Fa,gf.o1,gf.o2,gf.o3,gf.o4,gg.o1,gg.o2,gg.o3,gg.o4])];simp [aH,Di,Mb,Mc,Me,Mf,Mg,Mh,Mi,Mj,over]
section
variable {P:aG} {L:Lib}
def auU (h:Lp P L) {v:AV} {l:List Lay} (hv:dh v l) (hl:l.length<=4) {dx dy sh x y:List Nat} {fr:Int} (ok:∀a,a∈l->a.Ok dx dy sh x y fr) (nG:Int):
  ∀d s,(∃(i:Nat) (E:gA),i+d=l.length/\iG E (2+i*400000) (dK dx dy sh x y fr (l.take i)).2/\aH (dW E)=true/\aT [3,4,6,7,11,12,32,33,34] s=⟨[(3,aa fr),(4,aa nG),(6,.ptr 0 0),(7,.ptr 1 0),(11,.map 2),(12,aa (dK dx dy sh x y fr (l.take i)).1),(32,v),(33,aa l.length),(34,aa i)],Gy [.str dx,.str dy,.str sh] [.str x,.str y] E,3,0⟩)->
   ∃ex s',D P L (.loop [3,4,6,7,11,12,32,33,34] FV) s=some (ex,s')/\∃tm ct E,s'=⟨tm,Gy [.str dx,.str dy,.str sh] [.str x,.str y] E,ct,0⟩/\iG E 1700000 (dK dx dy sh x y fr l).2/\aH (dW E)=true/\ex= .exit 0/\ah tm 4=aa nG/\ah tm 11= .map 2:=by
 intro dq sq;generalize bw:aT [3,4,6,7,11,12,32,33,34] sq=s0;revert bw s0 sq dq;apply dn;rintro d s ⟨i,E,hid,hM,fg,rfl⟩;by_cases hi:i<l.length
 ·left
  obtain ⟨rest,e1⟩:=hv.aZ hi;have hI:=hv.get hi;have bY:=ok _ (yR hi);have hS:=TJ hI bY.scr;have n0:=hS.pos;have n1:=hS.le;have bfr:=ab2 (dx:=dx) (dy:=dy) (sh:=sh) (x:=x) (y:=y) (fr:=fr) (l:=l) (fun a ha=>(TJ (hv.2 a ha) (ok a ha).scr).le) i (by omega);have hf:=Sa bY.fr;obtain ⟨a,e2,ha⟩:=Aq h.toSp bY.hh;have e3:=m63 h.toSp (x:=dx) (y:=dy) bY.sh ha (ki bY.hh (yr 2400)) (by decide);rw [show Dp (bf sh) (bf l[i].hh)=Lay.low sh l[i] from rfl] at e3;have aP:=M2 (dx:=dx) (dy:=dy) (sh:=sh) (x:=x) (y:=y) (fr:=fr) hi;have h3:(l[i].s.length:Int)*l[i].s.length=((l[i].s.length*l[i].s.length:Nat):Int):=(xL _ _).symm;have h2:l[i].s.length*l[i].s.length<=16*16:=xB n1 n1
  have bB:(dK dx dy sh x y fr (l.take (i+1))).1=(dK dx dy sh x y fr (l.take i)).1+((l[i].s.length*l[i].s.length:Nat):Int):=by rw [aP,<-h3];rfl
  obtain ⟨a1,a2,a3,a4,rfl,ga⟩:=ha.gen;have o1:=hI.one;have p1:=hI.pu;unfold jX at e3;unfold ae at e2 e3;have fin:∀(E1:gA) (C1:Int->Rat) (B1:Nat),iG E1 B1 C1->aH (dW E1)=true->2<=B1->B1+2400<=2+(i+1)*400000->(dK dx dy sh x y fr (l.take (i+1))).2=iK C1 (dK dx dy sh x y fr (l.take i)).1 (bf l[i].st) (l[i].s.length*l[i].s.length)->∀s1,aT [3,4,6,7,11,12,14,15,32,33,34,89,90] s1=⟨[(3,aa fr),(4,aa nG),(6,.ptr 0 0),(7,.ptr 1 0),(11,.map 2),(12,aa (dK dx dy sh x y fr (l.take i)).1),(14,.ptr 3 0),(15,aa l[i].s.length),(32,v),(33,aa l.length),(34,aa i),(89,aa ((l[i].s.length*l[i].s.length:Nat):Int)),(90,aa ((0:Nat):Int))],qC [.str dx,.str dy,.str sh] [.str x,.str y] [l[i].w,.str l[i].hh,.str l[i].sc,.str l[i].st,.str l[i].ox,.str l[i].oy,.str l[i].wx,.str l[i].wy] E1,4,0⟩->
    ∃ex s',D P L (.loop [3,4,6,7,11,12,14,15,32,33,34,89,90] Bu) s1=some (ex,s')/\∃tm ct E,s'=⟨tm,qC [.str dx,.str dy,.str sh] [.str x,.str y] [l[i].w,.str l[i].hh,.str l[i].sc,.str l[i].st,.str l[i].ox,.str l[i].oy,.str l[i].wx,.str l[i].wy] E,ct,0⟩/\iG E (2+(i+1)*400000) (dK dx dy sh x y fr (l.take (i+1))).2/\aH (dW E)=true/\ex= .exit 4/\ah tm 3=aa fr/\ah tm 4=aa nG/\ah tm 6= .ptr 0 0/\ah tm 7= .ptr 1 0/\ah tm 11= .map 2/\ah tm 12=aa (dK dx dy sh x y fr (l.take i)).1/\ah tm 15=aa l[i].s.length/\ah tm 32=v/\ah tm 33=aa l.length/\ah tm 34=aa i:=by
   intro E1 C1 B1 Q2 hp hB hB2 hC s1 lW;obtain ⟨ex,s',q1,tm,ct,E2,q2,q3,q⟩:=auT h.toSp (n:=(l[i].s.length:Int)) (N:=l[i].s.length*l[i].s.length) (B:=B1) h3 (by omega) (fr:=(dK dx dy sh x y fr (l.take i)).1) (by omega) hB (by omega) (fun q=>Q2.bd hB q) fr nG (a1:= .str dx) (a2:= .str dy) (a3:= .str sh) (p1:= .str x) (p2:= .str y) (l0:=l[i].w) (l1:= .str l[i].hh) (l2:= .str l[i].sc) (l4:= .str l[i].ox) (l5:= .str l[i].oy) (l6:= .str l[i].wx) (l7:= .str l[i].wy) bY.st (lv:=v) l.length i hv.pu (l[i].s.length*l[i].s.length) s1 ⟨0,E1,by omega,by rw [asW];exact Q2.mono (by omega),hp,lW⟩
   exact ⟨ex,s',q1,tm,ct,E2,q2,by rw [hC];exact q3.mono hB2,q⟩
  cases hb:Lay.low sh l[i] with
  | false=>
   rw [hb] at e3;have hC:(dK dx dy sh x y fr (l.take (i+1))).2=iK (dK dx dy sh x y fr (l.take i)).2 (dK dx dy sh x y fr (l.take i)).1 (bf l[i].st) (l[i].s.length*l[i].s.length):=by
    rw [aP];unfold JX;rw [hb];rfl
   have f1:=fin E _ (2+i*400000) hM fg (by omega) (by rw [xH];omega) hC
   simp only [go_sem,ya,yb,FV,Gy,show (i:Int)<l.length by omega,e1,nI,aK,Bm hI,hI.len,aV,yd,bX,yg,jI,a8,e2,bC,ga.af,e3,h3,wrap64 (n:=((l[i].s.length*l[i].s.length:Nat):Int)) (by omega) (by omega)];generalize hq:D P L (.loop [3,4,6,7,11,12,14,15,32,33,34,89,90] Bu) _=q;obtain ⟨ex,st,rfl,tm,ct,E2,rfl,X0,eJ,rfl,t3,t4,t6,t7,t11,t12,t15,t32,t33,t34⟩:=bD hq f1 (by simp only [go_sem,ya,yb,an,qC,jE,jF,kj,jZ fg,kq _ fg,ak hv.pu,ao _ hv.pu]<;>rfl)
   simp only [go_sem,ya,yb,an,qC,jE,jF,kj,jZ eJ,kq _ eJ,ak hv.pu,ao _ hv.pu,t3,t4,t6,t7,t11,t12,t15,t32,t33,t34,h3,wrap64 (n:=((l[i].s.length*l[i].s.length:Nat):Int)) (by omega) (by omega),<-bB];refine ⟨_,d-1,rfl,by omega,i+1,E2,by omega,X0,eJ,?_⟩
   rw [show (i:Int)+1=((i+1:Nat):Int) from rfl,wrapN (n:=i+1) (by omega),wrap64 (by omega) (by omega)];simp only [go_sem,ya,yb,an,jE,jF,kj,jZ eJ,kq _ eJ,ak hv.pu,ao _ hv.pu]<;>rfl
  | true=>
   rw [hb] at e3;obtain ⟨b,e4,Qx⟩:=axi h.toSp h.VU (scr:=l[i].w) (st:= .str l[i].st) (fr:=fr) o1 p1 rfl rfl bY.dx bY.dy bY.sh bY.hh bY.sc bY.ox bY.oy bY.wx bY.wy bY.x bY.y (by omega) (by omega);obtain ⟨c,e5,hc⟩:=m55 h.toVl.toFr' h.L4 h.Gv h.BV (s:=(l[i].s.length:Int)) Qx bY.kX bY.kY (by omega) (by omega) (by omega) (by omega);have q1:=wm (fk l[i].hh l[i].sc l[i].ox l[i].wx dx sh x fr).floor (show (l[i].s.length:Int)≠0 by omega);have q2:=we (fk l[i].hh l[i].sc l[i].ox l[i].wx dx sh x fr).floor (show (0:Int)<l[i].s.length by omega);have q3:=wm (fk l[i].hh l[i].sc l[i].oy l[i].wy dy sh y fr).floor (show (l[i].s.length:Int)≠0 by omega);have q4:=we (fk l[i].hh l[i].sc l[i].oy l[i].wy dy sh y fr).floor (show (0:Int)<l[i].s.length by omega);have kf:=BB bY.kX (by omega);have kg:=BB bY.kY (by omega)
   obtain ⟨W,e6,hW⟩:=axl h.toVl.toFr' h.VV hc kf kg (by omega);obtain ⟨cs,rfl,nN⟩:=hW;have mZ:=hc;obtain ⟨b1',b2,b3,b4,b5,b6,b7,b8,rfl,gb⟩:=Qx.gen;obtain ⟨c1,c2,c3,c4,d1,d2,d3,d4,rfl,_,_,bx,fz⟩:=hc.gen;have hC:(dK dx dy sh x y fr (l.take (i+1))).2=iK (im (dK dx dy sh x y fr (l.take i)).2 (dK dx dy sh x y fr (l.take i)).1 l[i].s.length ((fk l[i].hh l[i].sc l[i].ox l[i].wx dx sh x fr).floor%l[i].s.length) ((fk l[i].hh l[i].sc l[i].oy l[i].wy dy sh y fr).floor%l[i].s.length) (gZ (fk l[i].hh l[i].sc l[i].ox l[i].wx dx sh x fr)) (gZ (fk l[i].hh l[i].sc l[i].oy l[i].wy dy sh y fr)) 4) (dK dx dy sh x y fr (l.take i)).1 (bf l[i].st) (l[i].s.length*l[i].s.length):=by
    rw [aP];unfold JX;rw [hb];rfl
   have pW:aU (.agg cs)=true:=by simp only [aU,nN.pu]
   have f0:=auS h.toVl mZ ⟨q1,q2⟩ ⟨q3,q4⟩ (by omega) (fr:=(dK dx dy sh x y fr (l.take i)).1) (by omega) kf kg (B:=2+i*400000) (by omega) nN (C:=(dK dx dy sh x y fr (l.take i)).2) fr nG (a1:= .str dx) (a2:= .str dy) (a3:= .str sh) (p1:= .str x) (p2:= .str y) (l0:=l[i].w) (l1:= .str l[i].hh) (l2:= .str l[i].sc) (l3:= .str l[i].st) (l4:= .str l[i].ox) (l5:= .str l[i].oy) (l6:= .str l[i].wx) (l7:= .str l[i].wy) (lv:=v) l.length i hv.pu rfl 4;have sr:=aqk mZ;unfold jX qw at e4;unfold ae at e4 e5 e6;simp only [go_sem,ya,yb,FV,Gy,show (i:Int)<l.length by omega,e1,nI,aK,Bm hI,hI.len,hI.af,aV,yd,bX,yg,jI,gF,FN,TI,a8,e2,bC,ga.af,e3,e4,gb.af,e5,sr,fz,e6];generalize hq:D P L (.loop [3,4,6,7,11,12,14,15,16,32,33,34,54,55] FU) _=q
   obtain ⟨ex,st,rfl,tm,ct,E1,rfl,rfl,Q2,KY,rfl,t3,t4,t6,t7,t11,t12,t14,t15,t32,t33,t34⟩:=bD hq f0 ⟨0,E,by omega,by simpa [im] using hM,fg,by simp only [go_sem,ya,yb,an,Cy,jE,jF,kj,jZ fg,kq _ fg,ak hv.pu,ao _ hv.pu,ak pW,ao _ pW]<;>rfl⟩
   have f1:=fin E1 _ (2+i*400000+352036) (Q2.mono (by omega)) KY (by omega) (by rw [xH];omega) hC
   simp only [go_sem,ya,yb,an,Cy,jE,jF,kj,jZ KY,kq _ KY,ak hv.pu,ao _ hv.pu,t3,t4,t6,t7,t11,t12,t14,t15,t32,t33,t34,h3,wrap64 (n:=((l[i].s.length*l[i].s.length:Nat):Int)) (by omega) (by omega)];generalize hq:D P L (.loop [3,4,6,7,11,12,14,15,32,33,34,89,90] Bu) _=q;obtain ⟨ex,st,rfl,tm,ct,E2,rfl,X0,eJ,rfl,t3,t4,t6,t7,t11,t12,t15,t32,t33,t34⟩:=bD hq f1 (by simp only [go_sem,ya,yb,an,qC,jE,jF,kj,jZ KY,kq _ KY,ak hv.pu,ao _ hv.pu]<;>rfl)
   simp only [go_sem,ya,yb,an,qC,jE,jF,kj,jZ eJ,kq _ eJ,ak hv.pu,ao _ hv.pu,t3,t4,t6,t7,t11,t12,t15,t32,t33,t34,h3,wrap64 (n:=((l[i].s.length*l[i].s.length:Nat):Int)) (by omega) (by omega),<-bB];refine ⟨_,d-1,rfl,by omega,i+1,E2,by omega,X0,eJ,?_⟩
   rw [show (i:Int)+1=((i+1:Nat):Int) from rfl,wrapN (n:=i+1) (by omega),wrap64 (by omega) (by omega)];simp only [go_sem,ya,yb,an,jE,jF,kj,jZ eJ,kq _ eJ,ak hv.pu,ao _ hv.pu]<;>rfl
 ·right
  have h4:i=l.length:=by omega
  subst h4;rw [yp (yr _)] at hM;simp only [go_sem,ya,FV,show ¬(l.length:Int)<l.length by omega,yk];exact ⟨_,_,rfl,by simp,_,_,E,rfl,hM.mono (by omega),fg,rfl,by simp only [go_sem,ya],by simp only [go_sem,ya]⟩
end
end
section
open Go (IntKind)
def nK (C:Int->Rat) (n:Nat):List Rat:=(List.range n).map fun q:Nat=>C (q:Int)
def adF (C:Int->Rat) (n:Nat):nK C (n+1)=nK C n++[C (n:Int)]:=by simp [nK,List.range_succ]
def CR (C:Int->Rat) (n:Nat):(nK C n).length=n:=by simp [nK]
section
variable {P:aG} {L:Lib}
def auV (h:Fr' P L) {E:gA} {B:Nat} {C:Int->Rat} (hM:iG E B C) (fg:aH (dW E)=true) {N:Nat} (zx:0<N) (hN:N<=1000000):
  ∀d s,(∃t:Nat,t+d=N/\((t=0/\aT [11,27,118,119] s=⟨[(11,.map 0),(27,.ab),(118,aa N),(119,aa t)],[(0,.mp true (jr E) (dW E))],1,0⟩)\/(0<t/\∃ps,QL ps (nK C t)/\aT [11,27,118,119] s=⟨[(11,.map 0),(27,.aC 1 0 t),(118,aa N),(119,aa t)],[(1,.cells true true false 4 ps),(0,.mp true (jr E) (dW E))],2,0⟩)))->
   ∃ex s',D P L (.loop [11,27,118,119] Bv) s=some (ex,s')/\∃tm hp ct ps,QL ps (nK C N)/\s'=⟨tm,hp,ct,0⟩/\ex= .exit 6/\ah tm 27= .aC 1 0 N/\az hp 1=some (.cells true true false 4 ps):=by
 intro dq sq;generalize bw:aT [11,27,118,119] sq=s0;revert bw s0 sq dq;apply dn;rintro d s ⟨t,htd,aP⟩;by_cases ht:t<N
 ·left
  have mE:=hM (t:Int);obtain ⟨z,e1,hz⟩:=LW h (z:=0) (by omega) (by omega);obtain ⟨y1,y2,y3,y4,hy⟩:∃y1 y2 y3 y4,cp (.agg [y1,y2,y3,y4]) (C (t:Int))/\((fK E t=none/\ae P L 69 [aa 0] (.agg [y1,y2,y3,y4]))\/fK E t=some (.agg [y1,y2,y3,y4])):=by
   cases hg:fK E t with
   | none=>
    rw [hg] at mE;obtain ⟨z1,z2,z3,z4,rfl,gz⟩:=hz.gen;exact ⟨z1,z2,z3,z4,by rw [show C (t:Int)=0 from mE];exact hz,.inl ⟨rfl,e1⟩⟩
   | some u=>
    rw [hg] at mE;obtain ⟨hu,-⟩:=mE;obtain ⟨u1,u2,u3,u4,rfl,gu⟩:=hu.gen;exact ⟨u1,u2,u3,u4,hu,.inr rfl⟩
  obtain ⟨hy,oM⟩:=hy;have gy:=hy.f4;have zt:=hy;have bz:∀q,fZ q [AV.int .i64 0,.ab,.int .i64 0,.ab] 0 4 [y1,y2,y3,y4] []=fill q [y1,y2,y3,y4] []:=fun q=>asT gy.o1 gy.o2 gy.o3 gy.o4
  obtain ⟨Mm,Mn,Mo,Mq⟩:=gy.EG;have pY:aH [y1,y2,y3,y4]=true:=by simp only [aH,Mm,Mn,Mo,Mq,wv]
  rcases aP with ⟨h0,rfl⟩ | ⟨h0,ps,eW,rfl⟩
  ·subst h0;have hk:kW [(0,.mp true (jr E) (dW E))] (aa ((0:Nat):Int)) (.map 0)=some (fK E ((0:Nat):Int)):=NQ _ rfl;rcases oM with ⟨hg,e2⟩ | hg
   ·simp only [hg] at hk;unfold ae at e2
    simp only [go_sem,ya,yb,xj,yt,yi,Bv,show ((0:Nat):Int)<N by omega,ym,Bn (n:=((0:Nat):Int)),OC hk,aK,Q1,e2,bC,gy.st,jH,bz,Mm,Mn,Mo,Mq,wv,OA,yg,gC];refine ⟨_,d-1,rfl,by omega,1,by omega,.inr ⟨by omega,[y1,y2,y3,y4],by show QL _ [C ((0:Nat):Int)];exact ⟨zt,trivial⟩,?_⟩⟩
    rw [wrap64 (by omega) (by omega)];simp only [go_sem,ya,yb,an,jE,jF,kj,jZ fg,kq _ fg]<;>rfl
   ·simp only [hg] at hk
    simp only [go_sem,ya,yb,xj,yt,yi,Bv,show ((0:Nat):Int)<N by omega,ym,Bn (n:=((0:Nat):Int)),OB hk,aK,gy.st,jH,bz,Mm,Mn,Mo,Mq,wv,OA,yg,gC];refine ⟨_,d-1,rfl,by omega,1,by omega,.inr ⟨by omega,[y1,y2,y3,y4],by show QL _ [C ((0:Nat):Int)];exact ⟨zt,trivial⟩,?_⟩⟩
    rw [wrap64 (by omega) (by omega)];simp only [go_sem,ya,yb,an,jE,jF,kj,jZ fg,kq _ fg]<;>rfl
  ·have hk:kW [(1,.cells true true false 4 ps),(0,.mp true (jr E) (dW E))] (aa (t:Int)) (.map 0)=some (fK E (t:Int)):=NQ _ rfl;have fm:ps.length=t*4:=by rw [eW.len,CR]
   rcases oM with ⟨hg,e2⟩ | hg
   ·simp only [hg] at hk;unfold ae at e2
    simp only [go_sem,ya,yb,xj,Bv,show (t:Int)<N by omega,ym,Bn (n:=(t:Int)),OC hk,aK,Q1,e2,bC,gy.st,jH,bz,Mm,Mn,Mo,Mq,wv,OA,yg]
    rw [fV (ex:=false) (pu:=true) (cs:=ps) (by simp only [go_sem,ya]) (by omega) (by omega) (by omega) (by decide) (by simp only [go_sem,gy.o1,gy.o2,gy.o3,gy.o4])];simp only [go_sem,ya,yb,pY];refine ⟨_,d-1,rfl,by omega,t+1,by omega,.inr ⟨by omega,ps++[y1,y2,y3,y4],by rw [adF];exact eW.snoc zt,?_⟩⟩
    rw [show (t:Int)+1=((t+1:Nat):Int) from rfl,wrapN (n:=t+1) (by omega)];simp only [go_sem,ya,yb,an,jE,jF,kj,jZ fg,kq _ fg]<;>rfl
   ·simp only [hg] at hk
    simp only [go_sem,ya,yb,xj,Bv,show (t:Int)<N by omega,ym,Bn (n:=(t:Int)),OB hk,aK,gy.st,jH,bz,Mm,Mn,Mo,Mq,wv,OA,yg]
    rw [fV (ex:=false) (pu:=true) (cs:=ps) (by simp only [go_sem,ya]) (by omega) (by omega) (by omega) (by decide) (by simp only [go_sem,gy.o1,gy.o2,gy.o3,gy.o4])];simp only [go_sem,ya,yb,pY];refine ⟨_,d-1,rfl,by omega,t+1,by omega,.inr ⟨by omega,ps++[y1,y2,y3,y4],by rw [adF];exact eW.snoc zt,?_⟩⟩
    rw [show (t:Int)+1=((t+1:Nat):Int) from rfl,wrapN (n:=t+1) (by omega)];simp only [go_sem,ya,yb,an,jE,jF,kj,jZ fg,kq _ fg]<;>rfl
 ·right
  have h4:t=N:=by omega
  subst h4;rcases aP with ⟨h0,rfl⟩ | ⟨h0,ps,eW,rfl⟩
  ·omega
  ·simp only [go_sem,ya,Bv,show ¬(t:Int)<t by omega,yk];exact ⟨_,_,rfl,by simp,_,_,_,ps,eW,rfl,rfl,by simp only [go_sem,ya],by simp only [go_sem]⟩
def m82 (h:Lp P L) (EI:Has P L 82 GP) {v:AV} {l:List Lay} (hv:dh v l) (hl:l.length<=4) {dx dy sh x y:List Nat} {fr:Int} (ok:∀a,a∈l->a.Ok dx dy sh x y fr) {N:Nat} (zx:0<N) (hN:N<=1000000):
  ∃ps,ae P L 82 [v,jX dx dy sh,qw x y,aa fr,aa N] (.bW false 4 N ps)/\QL ps (nK (dK dx dy sh x y fr l).2 N):=by
 unfold jX qw;unfold ae;rw [ay EI];simp only [go_sem,ya,yb,GP,aK,adk,hv.len];generalize hq:D P L (.loop [3,4,6,7,11,12,32,33,34] FV) _=q;obtain ⟨ex,st,rfl,tm,ct,E,rfl,hM,fg,rfl,t4,t11⟩:=bD hq (auU h hv hl ok (N:Int) l.length) ⟨0,[],by omega,by simpa [dK] using (iG.nil (K:=2)),rfl,by
  simp only [vD,dK,td]
  simp only [go_sem,ya,an,Gy,jE,jF,ak hv.pu,ao _ hv.pu]<;>rfl⟩
 simp only [go_sem,ya,yb,an,Gy,jE,jF,kj,jZ fg,kq _ fg,t4,t11];generalize hq:D P L (.loop [11,27,118,119] Bv) _=q;obtain ⟨ex,st,rfl,tm,hp,ct,ps,eW,rfl,rfl,t27,g1⟩:=bD hq (auV h.toVl.toFr' hM fg zx hN N) ⟨0,by omega,.inl ⟨rfl,by simp only [go_sem,ya,yb,an,jE,jF,kj,jZ fg,kq _ fg]<;>rfl⟩⟩
 refine ⟨ps,?_,eW⟩;simp only [go_sem,yb,an,t27,g1];exact oX (nd _ _ _) (by rw [eW.len,CR]) (by decide)
end
end
section
open Go (IntKind)
abbrev cU:=List Nat×List Nat×List Nat
def sQ (p:cU):List AV:=[.str p.1,.str p.2.1,.str p.2.2]
def er (v:AV) (l:List cU):Prop:=cO 3 v (l.map sQ)
def TL (hp:Hp) (ct id:Nat) (a b c:List Nat) (x y z:AV):fE hp ct id 0 3 [.str a,.str b,.str c] (some (.cells true true true 3 [x,y,z]))=some (.au [],bg hp id (.cells true true true 3 [.str a,.str b,.str c]),ct):=by
 rw [mD (by rfl) (by simp) (by rfl)];rfl
section
variable {v:AV}
def er.len {l:List cU} (h:er v l) {hp:Hp}:ia hp 1 v=some (.int .i64 (l.length:Nat)):=by
 have:=cO.len (hp:=hp) h;rwa [yL] at this
def er.pu {l:List cU} (h:er v l):aU v=true:=cO.pu h
def er.af {l:List cU} (h:er v l) (n:Nat) {hp:Hp}:freeze (n+1) hp v=some (v,hp):=cO.af h n
def er.shut {l:List cU} (h:er v l):VE.shut v=v:=cO.shut h
def er.bG {l:List cU} (h:er v l):VE.bG v=v:=cO.bG h
def er.dw {l:List cU} (h:er v l) {hp:Hp}:result hp v=some v:=cO.dw h
def er.one {l:List cU} (h:er v l):bm v=true:=cO.one h
def er.cells {l:List cU} (h:er v l):cellsOf v=[v]:=cO.cells h
def er.aZ {l:List cU} (h:er v l) {i:Nat} (hi:i<l.length):∃rest,hZ 3 i v=some (.aQ (.str l[i].1:: .str l[i].2.1:: .str l[i].2.2::rest)):=by
 obtain ⟨rest,e⟩:=cO.aZ h (i:=i) (by simpa using hi);refine ⟨rest,?_⟩;rw [e,vW];rfl
end
section
variable {P:aG} {L:Lib}
def m79 (h:Has P L 79 Qe) {v:AV} {l:List Lay} (hv:dh v l) (hl:l.length<=1000000) {g:Nat} {cap:List AV} (hc:aH cap=true) (hz:∀(n:Nat) (hp:Hp),cC (n+900) hp cap=some (cap,hp)) {f:Lay->Int} (hg:∀a,a∈l->ae P L g (.agg (Lay.cs a)::cap) (aa (f a))):
  ∃r,ae P L 79 [v,.fn (.f g) [] cap] r/\bl (shut r) (l.map f):=by
 have pf:aU (.fn (.f g) [] cap)=true:=by simp [aU,aH,hc]
 have key:=eF (P:=P) (L:=L) (live:=[1,5,8,9,10]) (a:=Dx)
  (I:=fun k st=>∃i:Nat,i+k=l.length/\((i=0/\st=⟨[(1,.fn (.f g) [] cap),(5,.ab),(8,v),(9,aa l.length),(10,aa i)],[],0,0⟩)\/
   (0<i/\st=⟨[(1,.fn (.f g) [] cap),(5,.aC 0 0 i),(8,v),(9,aa l.length),(10,aa i)],[(0,.cells true true false 1 (((l.take i).map f).map aa))],1,0⟩)))
  (Q:=fun ex st=>∃tm hp ct,st=⟨tm,hp,ct,0⟩/\ex= .exit 0/\((l.length=0/\ah tm 5= .ab)\/(0<l.length/\ah tm 5= .aC 0 0 l.length/\az hp 0=some (.cells true true false 1 ((l.map f).map aa))))) ?_
 ·unfold ae;rw [ay h];simp only [go_sem,ya,Qe,hv.len];generalize hq:D P L (.loop [1,5,8,9,10] Dx) _=q;obtain ⟨ex,st,rfl,tm,hp,ct,rfl,rfl,h2⟩:=bD hq (key l.length) ⟨0,by omega,.inl ⟨rfl,by simp only [go_sem,ya,an,ak hv.pu,ao _ hv.pu,ak pf,ao _ pf]<;>rfl⟩⟩
  rcases h2 with ⟨h2,h3⟩ | ⟨h2,h3,h4⟩
  ·refine ⟨.ab,by simp only [go_sem,an,h3],?_⟩;rw [yD h2];exact nf
  ·refine ⟨.bW false 1 l.length ((l.map f).map aa),?_,?_⟩
   ·simp only [go_sem,yb,an,h3,h4];exact oX (nd _ _ _) (by simp) (by decide)
   ·have:=fy false (l.map f)
    rwa [yL] at this
 ·rintro k st ⟨i,hk,aP⟩;by_cases hi:i<l.length
  ·have bL:(i:Int)<l.length:=by omega
   obtain ⟨rest,e1⟩:=hv.aZ hi;have e2:=hg _ (yR hi);have hS:=hv.get hi;unfold ae Lay.cs at e2;left
   rcases aP with ⟨h0,rfl⟩ | ⟨h0,rfl⟩
   ·subst h0;simp only [go_sem,ya,yb,xj,yt,yi,yh,Dx,show ((0:Nat):Int)<l.length from bL,e1,nI,aK,Bm hS,FN,yg,a8,hS.af,hz,e2,gC];refine ⟨_,k-1,rfl,by omega,1,by omega,.inr ⟨by omega,?_⟩⟩;rw [wrap64 (by omega) (by omega),yB hi];simp only [go_sem,ya,yb,an,ak hv.pu,ao _ hv.pu,ak pf,ao _ pf,vD,xM]<;>rfl
   ·have hlen:(((l.take i).map f).map aa).length=i:=by simp;omega
    simp only [go_sem,ya,yb,yi,yh,Dx,bL,e1,nI,aK,Bm hS,FN,yg,a8,hS.af,hz,e2]
    rw [fV (ex:=false) (pu:=true) (cs:=((l.take i).map f).map aa) (by simp only [go_sem,ya]) (by rw [hlen,yh]) (by omega) (by omega) (by decide) (by simp only [go_sem])];simp only [go_sem,ya,yb];refine ⟨_,k-1,rfl,by omega,i+1,by omega,.inr ⟨by omega,?_⟩⟩;rw [wrap64 (by omega) (by omega),yB hi];simp only [go_sem,ya,yb,an,ak hv.pu,ao _ hv.pu,ak pf,ao _ pf,xq]<;>rfl
  ·right
   rcases aP with ⟨h0,rfl⟩ | ⟨h0,rfl⟩
   ·simp only [go_sem,ya,Dx,show ¬(i:Int)<l.length by omega];refine ⟨_,_,rfl,by simp,_,_,_,rfl,rfl,.inl ⟨by omega,?_⟩⟩;simp only [go_sem,ya]
   ·simp only [go_sem,ya,Dx,show ¬(i:Int)<l.length by omega];refine ⟨_,_,rfl,by simp,_,_,_,rfl,rfl,.inr ⟨by omega,?_,?_⟩⟩
    ·simp only [go_sem,ya];rw [show i=l.length by omega]
    ·simp only [go_sem];rw [yp (by omega)]
def m77 (h:Has P L 77 Qd) {v:AV} {l:List cU} (hv:er v l) (hl:l.length<=1000000) {g:Nat} {cap:List AV} (hc:aH cap=true) (hz:∀(n:Nat) (hp:Hp),cC (n+900) hp cap=some (cap,hp)) {f:cU->Int} (hg:∀a,a∈l->ae P L g (.agg (sQ a)::cap) (aa (f a))):
  ∃r,ae P L 77 [v,.fn (.f g) [] cap] r/\bl (shut r) (l.map f):=by
 have pf:aU (.fn (.f g) [] cap)=true:=by simp [aU,aH,hc]
 have key:=eF (P:=P) (L:=L) (live:=[1,5,8,9,10]) (a:=Dw)
  (I:=fun k st=>∃i:Nat,i+k=l.length/\((i=0/\st=⟨[(1,.fn (.f g) [] cap),(5,.ab),(8,v),(9,aa l.length),(10,aa i)],[],0,0⟩)\/
   (0<i/\st=⟨[(1,.fn (.f g) [] cap),(5,.aC 0 0 i),(8,v),(9,aa l.length),(10,aa i)],[(0,.cells true true false 1 (((l.take i).map f).map aa))],1,0⟩)))
  (Q:=fun ex st=>∃tm hp ct,st=⟨tm,hp,ct,0⟩/\ex= .exit 0/\((l.length=0/\ah tm 5= .ab)\/(0<l.length/\ah tm 5= .aC 0 0 l.length/\az hp 0=some (.cells true true false 1 ((l.map f).map aa))))) ?_
 ·unfold ae;rw [ay h];simp only [go_sem,ya,Qd,hv.len];generalize hq:D P L (.loop [1,5,8,9,10] Dw) _=q;obtain ⟨ex,st,rfl,tm,hp,ct,rfl,rfl,h2⟩:=bD hq (key l.length) ⟨0,by omega,.inl ⟨rfl,by simp only [go_sem,ya,an,ak hv.pu,ao _ hv.pu,ak pf,ao _ pf]<;>rfl⟩⟩
  rcases h2 with ⟨h2,h3⟩ | ⟨h2,h3,h4⟩
  ·refine ⟨.ab,by simp only [go_sem,an,h3],?_⟩;rw [yD h2];exact nf
  ·refine ⟨.bW false 1 l.length ((l.map f).map aa),?_,?_⟩
   ·simp only [go_sem,yb,an,h3,h4];exact oX (nd _ _ _) (by simp) (by decide)
   ·have:=fy false (l.map f)
    rwa [yL] at this
 ·rintro k st ⟨i,hk,aP⟩;by_cases hi:i<l.length
  ·have bL:(i:Int)<l.length:=by omega
   obtain ⟨rest,e1⟩:=hv.aZ hi;have e2:=hg _ (yR hi);unfold ae sQ at e2;left
   rcases aP with ⟨h0,rfl⟩ | ⟨h0,rfl⟩
   ·subst h0;simp only [go_sem,ya,yb,xj,yt,yi,yh,Dw,show ((0:Nat):Int)<l.length from bL,e1,ru,aK,TL,jI,yg,a8,hz,e2,gC];refine ⟨_,k-1,rfl,by omega,1,by omega,.inr ⟨by omega,?_⟩⟩;rw [wrap64 (by omega) (by omega),yB hi];simp only [go_sem,ya,yb,an,ak hv.pu,ao _ hv.pu,ak pf,ao _ pf,vD,xM]<;>rfl
   ·have hlen:(((l.take i).map f).map aa).length=i:=by simp;omega
    simp only [go_sem,ya,yb,yi,yh,Dw,bL,e1,ru,aK,TL,jI,yg,a8,hz,e2]
    rw [fV (ex:=false) (pu:=true) (cs:=((l.take i).map f).map aa) (by simp only [go_sem,ya]) (by rw [hlen,yh]) (by omega) (by omega) (by decide) (by simp only [go_sem])];simp only [go_sem,ya,yb];refine ⟨_,k-1,rfl,by omega,i+1,by omega,.inr ⟨by omega,?_⟩⟩;rw [wrap64 (by omega) (by omega),yB hi];simp only [go_sem,ya,yb,an,ak hv.pu,ao _ hv.pu,ak pf,ao _ pf,xq]<;>rfl
  ·right
   rcases aP with ⟨h0,rfl⟩ | ⟨h0,rfl⟩
   ·simp only [go_sem,ya,Dw,show ¬(i:Int)<l.length by omega];refine ⟨_,_,rfl,by simp,_,_,_,rfl,rfl,.inl ⟨by omega,?_⟩⟩;simp only [go_sem,ya]
   ·simp only [go_sem,ya,Dw,show ¬(i:Int)<l.length by omega];refine ⟨_,_,rfl,by simp,_,_,_,rfl,rfl,.inr ⟨by omega,?_,?_⟩⟩
    ·simp only [go_sem,ya];rw [show i=l.length by omega]
    ·simp only [go_sem];rw [yp (by omega)]
end
end
section
open Go (IntKind)
def Tc {l:List Int} (hb:∀x,x∈l->0<=x/\x<=1000000):∀i,i<=l.length->0<=gG (l.take i)/\gG (l.take i)<=1000000*(i:Int)
 | 0,_=>by simp [gG]
 | i+1,hi=>by
  have ih:=Tc hb i (by omega);have h1:=hb _ (yR (show i<l.length by omega));rw [MW (by omega)];omega
def iq (l:List Lay):Int:=gG (l.map fun a=>(a.s.length:Int)*a.s.length)
section
variable {P:aG} {L:Lib}
def m81 (h:Has P L 81 Lw) {a b:Int} (hb: -9223372036854775808<=a+b/\a+b<9223372036854775808):ae P L 81 [aa a,aa b] (aa (a+b)):=by
 unfold ae;rw [ay h]
 simp only [go_sem,ya,Lw,wrap64 (n:=a+b) (by omega) (by omega)]
def m80 (h:Has P L 80 Qf) {a:Lay} (hS:dU a.w a.s) (hl:a.s.length<=1000):ae P L 80 [.agg a.cs] (aa ((a.s.length:Int)*a.s.length)):=by
 have o1:=hS.one;have p1:=hS.pu;have h3:(a.s.length:Int)*a.s.length=((a.s.length*a.s.length:Nat):Int):=(xL _ _).symm;have h2:a.s.length*a.s.length<=1000*1000:=xB hl hl;unfold Lay.cs ae;rw [ay h]
 simp only [go_sem,ya,yb,Qf,aK,o1,p1,hS.len,aV,yd,yg,h3,wrap64 (n:=((a.s.length*a.s.length:Nat):Int)) (by omega) (by omega)]
def m37 (Ii:Has P L 37 P7) (Q3:Has P L 81 Lw) {w:AV} {l:List Int} (hw:bl w l) (hb:∀x,x∈l->0<=x/\x<=1000000) (hl:l.length<=1000):ae P L 37 [aa 0,w,.fn (.f 81) [] []] (aa (gG l)):=by
 have key:=eF (P:=P) (L:=L) (live:=[0,2,9,10,11]) (a:=JQ)
  (I:=fun k s=>∃i:Nat,i+k=l.length/\s=⟨[(0,aa (gG (l.take i))),(2,.fn (.f 81) [] []),(9,w),(10,aa l.length),(11,aa i)],[],0,0⟩)
  (Q:=fun ex s=>∃tm hp ct,s=⟨tm,hp,ct,0⟩/\ex= .exit 0/\ah tm 0=aa (gG l)) ?_
 ·unfold ae;rw [ay Ii];simp only [go_sem,ya,P7,hw.len];generalize hq:D P L (.loop [0,2,9,10,11] JQ) _=q;obtain ⟨ex,s,rfl,tm,hp,ct,rfl,rfl,t0⟩:=bD hq (key l.length) ⟨0,by omega,by
   rw [show gG (l.take 0)=0 from rfl]
   simp only [go_sem,ya,an,ak hw.pu,ao _ hw.pu]<;>rfl⟩
  simp only [go_sem,an,t0]
 ·rintro k s ⟨i,hk,rfl⟩;have bi:=Tc hb i (by omega);by_cases hi:i<l.length
  ·left
   have b2:=hb _ (yR hi);have e1:=m81 Q3 (a:=gG (l.take i)) (b:=l[i]) (by omega);rw [<-MW hi] at e1;unfold ae at e1;simp only [go_sem,ya,JQ,show (i:Int)<l.length by omega,hw.aZ hi,e1];refine ⟨_,k-1,rfl,by omega,i+1,by omega,?_⟩;rw [wrap64 (by omega) (by omega)];simp only [go_sem,ya,an,ak hw.pu,ao _ hw.pu]<;>rfl
  ·right
   simp only [go_sem,ya,JQ,show ¬(i:Int)<l.length by omega];rw [yp (by omega)];exact ⟨_,_,rfl,by simp,_,_,_,rfl,rfl,by simp only [go_sem,ya]⟩
end
end
section
open Go (IntKind)
def mO:List AV->AV
 | []=> .ab
 | _::r=> .aC 0 0 (r.length+1)
def mP:List AV->AV
 | []=> .ptr 0 0
 | _::_=> .ptr 1 0
def mH (sc:List AV):List AV->Hp
 | []=>[(0,.cells true true true 3 sc)]
 | a::r=>[(1,.cells true true true 3 sc),(0,.cells true true false 1 (a::r))]
def mC:List AV->Nat
 | []=>1
 | _::_=>2
def nH:List AV->Hp
 | []=>[]
 | a::r=>[(0,.cells true true false 1 (a::r))]
def nC:List AV->Nat
 | []=>0
 | _::_=>1
def di.snoc {α β:Type} {p:α->β->Prop}:∀{l:List α} {m:List β} {a:α} {b:β},di p l m->p a b->di p (l++[a]) (m++[b])
 | [],[],_,_,_,h=>⟨h,trivial⟩
 | _::_,_::_,_,_,h,k=>⟨h.1,di.snoc h.2 k⟩
noncomputable def fC (l:List Lay) (fr:Int) (N:Nat) (s:cU) (p:cV):List Rat:=nK (dK s.1 s.2.1 s.2.2 p.1 p.2 fr l).2 N
section
variable {P:aG} {L:Lib}
def auW (h:Lq P L) (EI:Has P L 82 GP) {v w sv:AV} {l:List Lay} (hv:dh v l) (hl:l.length<=4) {s:cU} {pl:List cV} (hw:eT w pl) (fm:pl.length<=256) (Q4:aU sv=true) {fr:Int} (ok:∀p,p∈pl->∀a,a∈l->a.Ok s.1 s.2.1 s.2.2 p.1 p.2 fr) {N:Nat} (zx:0<N) (hN:N<=64) (hK:∀p,p∈pl->∀q,Hq 1700000 ((dK s.1 s.2.1 s.2.2 p.1 p.2 fr l).2 q)) (ns i:Int) {M0:List (List (List Nat))} (Hb:M0.length<=100000):
  ∀d st,(∃(k:Nat) (rows:List AV),k+d=pl.length/\di cN rows (M0++(pl.take k).map fun p=>(fC l fr N s p).map RT)/\((pl.take k).any fun p=>(fC l fr N s p).any LG)=false/\aT [0,2,3,11,12,14,69,70,71,75,76,77] st=⟨[(0,v),(2,w),(3,aa fr),(11,aa N),(12,mO rows),(14,mP rows),(69,sv),(70,aa ns),(71,aa i),(75,w),(76,aa pl.length),(77,aa k)],mH [.str s.1,.str s.2.1,.str s.2.2] rows,mC rows,0⟩)->
   ∃ex s',D P L (.loop [0,2,3,11,12,14,69,70,71,75,76,77] Dv) st=some (ex,s')/\∃tm hp ct,s'=⟨tm,hp,ct,0⟩/\
    ((ex= .ret/\ah tm 8= .ab/\ah tm 9=aa 4/\(pl.any fun p=>(fC l fr N s p).any LG)=true)\/
     (ex= .exit 2/\(pl.any fun p=>(fC l fr N s p).any LG)=false/\∃rows,di cN rows (M0++pl.map fun p=>(fC l fr N s p).map RT)/\hp=mH [.str s.1,.str s.2.1,.str s.2.2] rows/\ct=mC rows/\ah tm 0=v/\ah tm 2=w/\ah tm 3=aa fr/\ah tm 11=aa N/\ah tm 12=mO rows/\ah tm 69=sv/\ah tm 70=aa ns/\ah tm 71=aa i)):=by
 intro dq sq;generalize bw:aT [0,2,3,11,12,14,69,70,71,75,76,77] sq=s0;revert bw s0 sq dq;apply dn;rintro d st ⟨k,rows,hkd,hR,D4,rfl⟩;by_cases hk:k<pl.length
 ·obtain ⟨rest,e1⟩:=hw.aZ hk;have mJ:=yR hk;obtain ⟨ps,e2,eW⟩:=m82 h.toLp EI hv hl (ok _ mJ) zx (show N<=1000000 by omega);have hF:il (.aJ false N ps) (fC l fr N s pl[k]):=by
   have:=anO false eW
   rwa [CR] at this
  have hRk:∀x,x∈fC l fr N s pl[k]->Hq 1700000 x:=fun x hx=>by
   simp only [fC,nK,wb] at hx;obtain ⟨q,_,rfl⟩:=hx;exact hK _ mJ _
  obtain ⟨r1,r2⟩:=m83 h.Q0 h.V1 h.V2 h.KW h.toLp.toSp.toTx hF (by rw [show (fC l fr N s pl[k]).length=N from CR _ _];omega) hRk (by decide);have hlen:=hR.len;have Qw:rows.length<=200000:=by
   rw [hlen,yW,yL,yQ];omega
  unfold jX qw at e2;unfold ae at e2 r1 r2;have s2:∀(hp:Hp) (ct id:Nat) (x y:List Nat) (u v:AV),fE hp ct id 0 2 [.str x,.str y] (some (.cells true true true 2 [u,v]))=some (.au [],bg hp id (.cells true true true 2 [.str x,.str y]),ct):=fun hp ct id x y u v=>by
   rw [mD (by rfl) (by simp) (by rfl)];rfl
  cases hL:(fC l fr N s pl[k]).any LG with
  | true=>
   right
   have e3:=r1 hL;have hA:(pl.any fun p=>(fC l fr N s p).any LG)=true:=yao.2 ⟨_,mJ,hL⟩;cases rows
   all_goals
    simp only [mO,mP,mH,mC];simp only [go_sem,ya,yb,Dv,hv.af,show (k:Int)<pl.length by omega,e1,BX,aK,s2,jI,gF,yg,a8,e2,E3,hF.af,e3,rV,Int.reduceEq,ym,yk];exact ⟨_,_,rfl,by simp,_,_,_,rfl,.inl ⟨rfl,by simp only [go_sem,ya],by simp only [go_sem],hA⟩⟩
  | false=>
   left
   obtain ⟨rv,oV,e3⟩:=r2 hL;have hA:((pl.take (k+1)).any fun p=>(fC l fr N s p).any LG)=false:=by
    rw [yB hk,tD,D4,wX,tu,hL];rfl
   have oW:di cN (rows++[rv]) (M0++(pl.take (k+1)).map fun p=>(fC l fr N s p).map RT):=by
    rw [yB hk,xq,<-List.append_assoc];exact hR.snoc oV
   have pr:=oV.pu;have or1:=oV.one;cases rows
   ·simp only [mO,mP,mH,mC];simp only [go_sem,ya,yb,xj,yt,yi,yh,Dv,hv.af,show (k:Int)<pl.length by omega,e1,BX,aK,s2,jI,gF,yg,a8,e2,E3,hF.af,e3,rV,oV.pu,oV.af,oV.bG,oV.one,oV.cells,ym,gC];refine ⟨_,d-1,rfl,by omega,k+1,_,by omega,oW,hA,?_⟩
    rw [show (k:Int)+1=((k+1:Nat):Int) from rfl,wrapN (n:=k+1) (by omega)];simp only [go_sem,ya,yb,an,xM,ak hv.pu,ao _ hv.pu,ak hw.pu,ao _ hw.pu,ak Q4,ao _ Q4]<;>rfl
   ·rename_i a r;simp only [mO,mP,mH,mC];simp only [yC] at Qw;simp only [go_sem,ya,yb,yi,yh,Dv,hv.af,show (k:Int)<pl.length by omega,e1,BX,aK,s2,jI,gF,yg,a8,e2,E3,hF.af,e3,rV,oV.pu,oV.af,oV.bG,oV.one,oV.cells,ym]
    rw [fV (ex:=false) (pu:=true) (sz:=1) (by simp only [go_sem,ya];rfl) (by simp) (by omega) (by omega) (by decide) (by simp only [go_sem,or1])]
    simp only [go_sem,ya,yb,pr];refine ⟨_,d-1,rfl,by omega,k+1,_,by omega,oW,hA,?_⟩
    rw [show (k:Int)+1=((k+1:Nat):Int) from rfl,wrapN (n:=k+1) (by omega)];simp only [go_sem,ya,yb,an,List.cons_append,yW,ak hv.pu,ao _ hv.pu,ak hw.pu,ao _ hw.pu,ak Q4,ao _ Q4]<;>rfl
 ·right
  have oF:k=pl.length:=by omega
  subst oF;rw [yp (yr _)] at hR D4;cases rows
  all_goals
   simp only [mO,mP,mH,mC];simp only [go_sem,ya,Dv,show ¬(pl.length:Int)<pl.length by omega,yk];exact ⟨_,_,rfl,by simp,_,_,_,rfl,.inr ⟨rfl,D4,_,hR,rfl,rfl,by simp only [go_sem,ya],by simp only [go_sem,ya],by simp only [go_sem,ya],by simp only [go_sem,ya],by simp only [go_sem,ya]<;>rfl,by simp only [go_sem,ya],by simp only [go_sem,ya],by simp only [go_sem,ya]⟩⟩
end
end
section
open Go (IntKind)
noncomputable def Ns (l:List Lay) (fr:Int) (N:Nat) (pl:List cV) (s:cU):List (List (List Nat)):=pl.map fun p=>(fC l fr N s p).map RT
noncomputable def gE (l:List Lay) (fr:Int) (N:Nat) (sl:List cU) (pl:List cV):List (List (List Nat)):=(sl.map (Ns l fr N pl)).flatten
noncomputable def pE (l:List Lay) (fr:Int) (N:Nat) (pl:List cV) (s:cU):Bool:=pl.any fun p=>(fC l fr N s p).any LG
def Z5 {l:List Lay} {fr:Int} {N:Nat} {sl:List cU} {pl:List cV} {i:Nat} (h:i<sl.length):gE l fr N (sl.take (i+1)) pl=gE l fr N (sl.take i) pl++Ns l fr N pl sl[i]:=by
 unfold gE;rw [yB h,xq,uM]
 simp
def CG {l:List Lay} {fr:Int} {N:Nat} {pl:List cV}:∀{sl:List cU},(gE l fr N sl pl).length=sl.length*pl.length
 | []=>by simp [gE]
 | s::sl=>by
  have ih:=CG (l:=l) (fr:=fr) (N:=N) (pl:=pl) (sl:=sl);unfold gE at ih ⊢;rw [yV,xT,yW,ih,yC,xH];simp [Ns];omega
section
variable {P:aG} {L:Lib}
def auX (h:Lq P L) (EI:Has P L 82 GP) {v w sv:AV} {l:List Lay} (hv:dh v l) (hl:l.length<=4) {sl:List cU} {pl:List cV} (hs:er sv sl) (nP:sl.length<=6) (hw:eT w pl) (fm:pl.length<=256) {fr:Int} (ok:∀s,s∈sl->∀p,p∈pl->∀a,a∈l->a.Ok s.1 s.2.1 s.2.2 p.1 p.2 fr) {N:Nat} (zx:0<N) (hN:N<=64) (hK:∀s,s∈sl->∀p,p∈pl->∀q,Hq 1700000 ((dK s.1 s.2.1 s.2.2 p.1 p.2 fr l).2 q)):
  ∀d st,(∃(i:Nat) (rows:List AV),i+d=sl.length/\di cN rows (gE l fr N (sl.take i) pl)/\((sl.take i).any (pE l fr N pl))=false/\aT [0,2,3,11,12,69,70,71] st=⟨[(0,v),(2,w),(3,aa fr),(11,aa N),(12,mO rows),(69,sv),(70,aa sl.length),(71,aa i)],nH rows,nC rows,0⟩)->
   ∃ex s',D P L (.loop [0,2,3,11,12,69,70,71] FT) st=some (ex,s')/\∃tm hp ct,s'=⟨tm,hp,ct,0⟩/\
    ((ex= .ret/\ah tm 8= .ab/\ah tm 9=aa 4/\sl.any (pE l fr N pl)=true)\/
     (ex= .exit 0/\sl.any (pE l fr N pl)=false/\∃rows,di cN rows (gE l fr N sl pl)/\hp=nH rows/\ah tm 12=mO rows)):=by
 intro dq sq;generalize bw:aT [0,2,3,11,12,69,70,71] sq=s0;revert bw s0 sq dq;apply dn;rintro d st ⟨i,rows,hid,hR,D4,rfl⟩;by_cases hi:i<sl.length
 ·obtain ⟨rest,e1⟩:=hs.aZ hi;have mJ:=yR hi;have Hb:(gE l fr N (sl.take i) pl).length<=100000:=by
   rw [CG,yQ]
   have:=xB (show min i sl.length<=6 by omega) fm
   omega
  have key:=auW h EI hv hl (s:=sl[i]) hw fm hs.pu (ok _ mJ) zx hN (hK _ mJ) sl.length i Hb pl.length;have aP:∀st',aT [0,2,3,11,12,14,69,70,71,75,76,77] st'=⟨[(0,v),(2,w),(3,aa fr),(11,aa N),(12,mO rows),(14,mP rows),(69,sv),(70,aa sl.length),(71,aa i),(75,w),(76,aa pl.length),(77,aa ((0:Nat):Int))],mH [.str sl[i].1,.str sl[i].2.1,.str sl[i].2.2] rows,mC rows,0⟩->_:=fun st' V3=>key st' ⟨0,rows,by omega,by simpa using hR,by simp,V3⟩
  have main:∀(q:Option (Ex×St)),(∃ex s',q=some (ex,s')/\∃tm hp ct,s'=⟨tm,hp,ct,0⟩/\((ex= .ret/\ah tm 8= .ab/\ah tm 9=aa 4/\(pl.any fun p=>(fC l fr N sl[i] p).any LG)=true)\/(ex= .exit 2/\(pl.any fun p=>(fC l fr N sl[i] p).any LG)=false/\∃qZ,di cN qZ (gE l fr N (sl.take i) pl++pl.map fun p=>(fC l fr N sl[i] p).map RT)/\hp=mH [.str sl[i].1,.str sl[i].2.1,.str sl[i].2.2] qZ/\ct=mC qZ/\ah tm 0=v/\ah tm 2=w/\ah tm 3=aa fr/\ah tm 11=aa N/\ah tm 12=mO qZ/\ah tm 69=sv/\ah tm 70=aa sl.length/\ah tm 71=aa i)))->
    (∃s' k',iQ P L (mB 1 (iQ P L (mB 2 q) (.kp [0,2,3,11,12,69,70,71]))) (.aM [qa 99 71 1,qm 71 99])=some (.normal,s')/\k'<d/\∃(i:Nat) (rows:List AV),i+k'=sl.length/\di cN rows (gE l fr N (sl.take i) pl)/\((sl.take i).any (pE l fr N pl))=false/\aT [0,2,3,11,12,69,70,71] s'=⟨[(0,v),(2,w),(3,aa fr),(11,aa N),(12,mO rows),(69,sv),(70,aa sl.length),(71,aa i)],nH rows,nC rows,0⟩)\/
    (∃ex s',iQ P L (mB 1 (iQ P L (mB 2 q) (.kp [0,2,3,11,12,69,70,71]))) (.aM [qa 99 71 1,qm 71 99])=some (ex,s')/\ex≠.normal/\∃tm hp ct,s'=⟨tm,hp,ct,0⟩/\((ex= .ret/\ah tm 8= .ab/\ah tm 9=aa 4/\sl.any (pE l fr N pl)=true)\/(ex= .exit 0/\sl.any (pE l fr N pl)=false/\∃rows,di cN rows (gE l fr N sl pl)/\hp=nH rows/\ah tm 12=mO rows))):=by
   rintro q ⟨ex,s',rfl,tm,hp,ct,rfl,hq⟩;rcases hq with ⟨rfl,t8,t9,hA⟩ | ⟨rfl,hA,qZ,oW,rfl,rfl,t0,t2,t3,t11,t12,t69,t70,t71⟩
   ·right
    simp only [go_sem];exact ⟨_,_,rfl,by simp,_,_,_,rfl,.inl ⟨rfl,t8,t9,yao.2 ⟨_,mJ,hA⟩⟩⟩
   ·left
    have hA':((sl.take (i+1)).any (pE l fr N pl))=false:=by
     rw [yB hi,tD,D4,wX,tu,List.any_nil,Bool.or_false];exact hA
    have Mr:di cN qZ (gE l fr N (sl.take (i+1)) pl):=by rw [Z5 hi];exact oW
    cases qZ with
    | nil=>
     simp only [mO,mH,mC] at t12 ⊢;simp only [go_sem,ya,an,t0,t2,t3,t11,t12,t69,t70,t71,ak hv.pu,ao _ hv.pu,ak hw.pu,ao _ hw.pu,ak hs.pu,ao _ hs.pu];refine ⟨_,d-1,rfl,by omega,i+1,[],by omega,Mr,hA',?_⟩
     rw [show (i:Int)+1=((i+1:Nat):Int) from rfl,wrapN (n:=i+1) (by omega)];simp only [go_sem,ya,an,nH,nC,ak hv.pu,ao _ hv.pu,ak hw.pu,ao _ hw.pu,ak hs.pu,ao _ hs.pu]<;>rfl
    | cons a r=>
     simp only [mO,mH,mC] at t12 ⊢;simp only [go_sem,ya,yb,an,t0,t2,t3,t11,t12,t69,t70,t71,ak hv.pu,ao _ hv.pu,ak hw.pu,ao _ hw.pu,ak hs.pu,ao _ hs.pu];refine ⟨_,d-1,rfl,by omega,i+1,a::r,by omega,Mr,hA',?_⟩
     rw [show (i:Int)+1=((i+1:Nat):Int) from rfl,wrapN (n:=i+1) (by omega)];simp only [go_sem,ya,yb,an,nH,nC,ak hv.pu,ao _ hv.pu,ak hw.pu,ao _ hw.pu,ak hs.pu,ao _ hs.pu]<;>rfl
  cases rows
  all_goals
   simp only [mO,nH,nC] at*
   simp only [go_sem,ya,yb,FT,hw.len,show (i:Int)<sl.length by omega,e1,ru,aK,TL];generalize hq:D P L (.loop [0,2,3,11,12,14,69,70,71,75,76,77] Dv) _=q;refine main q ?_;rw [<-hq];refine aP _ ?_;simp only [go_sem,ya,yb,an,mP,mH,mC,ak hv.pu,ao _ hv.pu,ak hw.pu,ao _ hw.pu,ak hs.pu,ao _ hs.pu]<;>rfl
 ·right
  have bL:i=sl.length:=by omega
  subst bL;rw [yp (yr _)] at hR D4;cases rows
  all_goals
   simp only [mO,nH,nC];simp only [go_sem,ya,FT,show ¬(sl.length:Int)<sl.length by omega,yk];exact ⟨_,_,rfl,by simp,_,_,_,rfl,.inr ⟨rfl,D4,_,hR,rfl,by simp only [go_sem,ya]<;>rfl⟩⟩
end
end
section
open Go (IntKind)
def Z6 {k:Nat}:∀{ps:List (List AV)} {m:Nat},(∀p,p∈ps->p.length=k)->ps.flatten.take (m*k)=(ps.take m).flatten
 | [],m,_=>by simp
 | p::ps,0,_=>by simp
 | p::ps,m+1,h=>by
  have ih:=Z6 (ps:=ps) (m:=m) (fun q hq=>h q (xS _ hq));have hp:=h p wA;rw [xT,List.take_succ_cons,xT,<-ih,List.take_append,show (m+1)*k=p.length+m*k by rw [hp,xH];omega,yp (by omega),Nat.add_sub_cancel_left]
def auY {k:Nat} {v:AV} {ps:List (List AV)} (h:cO k v ps) {m:Nat} (hm:m<=ps.length):∃v',cO k v' (ps.take m)/\∀(hp:Hp) (tm:Env) (x:X),dE (aA tm x)=some m->fh hp (.sl k) v tm none (some x)=some v':=by
 obtain ⟨h1,h2⟩:=h;rcases h1 with ⟨rfl,rfl⟩ | ⟨e,rfl⟩
 ·have:m=0:=by simpa using hm
  subst this;refine ⟨.ab,⟨.inl ⟨rfl,rfl⟩,fun p hp=>by simp at hp⟩,fun hp tm x hx=>?_⟩;show (match cP tm 0 none,cP tm 0 (some x) with | some 0,some 0=>some AV.ab | _,_=>none)=_
  rw [show cP tm 0 (some x)=some 0 from hx];rfl
 ·have hs:∀p,p∈ps.take m->p.length=k:=fun p hp=>h2 p (vH hp)
  have hlen:(ps.take m).length=m:=by rw [yQ];omega
  refine ⟨.aJ (e&&yv m ps.length) m (slice (0*k) ((m-0)*k) ps.flatten),?_,fun hp tm x hx=>?_⟩
  rotate_left
  ·show (match cP tm 0 none,cP tm ps.length (some x) with
    | some l,some h=>bif yE l h&&yE h ps.length then some (AV.aJ (e&&yv h ps.length) (h-l) (slice (l*k) ((h-l)*k) ps.flatten)) else none
    | _,_=>none)=_
   rw [show cP tm ps.length (some x)=some m from hx];show (bif yE 0 m&&yE m ps.length then _ else _)=_
   rw [yx (Nat.zero_le m),yx hm];rfl
  ·have:=Fg (e&&yv m ps.length) hs
   rw [hlen,<-Z6 h2] at this;simpa [slice] using this
def aql {v:AV} {sl:List cU} (h:er v sl) {m:Nat} (hm:m<=sl.length):∃v',er v' (sl.take m)/\∀(hp:Hp) (tm:Env) (x:X),dE (aA tm x)=some m->fh hp (.sl 3) v tm none (some x)=some v':=by
 obtain ⟨v',h1,h2⟩:=auY h (m:=m) (by simpa using hm);exact ⟨v',by unfold er;rw [List.map_take];exact h1,h2⟩
noncomputable def rN (s:cU):Int:=Oz s.1 s.2.1 s.2.2
noncomputable def nL (l:List Lay) (sl:List cU) (pl:List cV) (fr:Int):Int:=
 bn [bn [if l.length=0 then 12 else 0,nJ l,if sl.length=0 then 12 else 0,if 6<sl.length then 5 else 0],bn ((sl.take 6).map rN),if pl.length=0 then 12 else 0,sP pl,nm fr]
def I8 {l:List Lay} {sl:List cU} {pl:List cV} {fr:Int} (h:nL l sl pl fr=0):0<l.length/\l.length<=4/\0<sl.length/\sl.length<=6/\pl.length<=256/\0<pl.length/\(∀s,s∈sl->rN s=0)/\(∀a,a∈l->a.E=0)/\∀s,s∈sl->∀p,p∈pl->∀a,a∈l->a.Ok s.1 s.2.1 s.2.2 p.1 p.2 fr:=by
 unfold nL at h;simp only [MC,RL,wL] at h;obtain ⟨⟨h1,h2,h3,h4⟩,h5,h6,h7,h8⟩:=h;have n1:l.length≠0:=by intro q;rw [yH q] at h1;exact absurd h1 (by decide)
 have n3:sl.length≠0:=by intro q;rw [yH q] at h3;exact absurd h3 (by decide)
 have n4:sl.length<=6:=by
  by_cases q:6<sl.length
  ·rw [yH q] at h4;exact absurd h4 (by decide)
  ·omega
 have n6:pl.length≠0:=by intro q;rw [yH q] at h6;exact absurd h6 (by decide)
 rw [yp n4] at h5;have hs:=MQ h5;obtain ⟨l4,la⟩:=abX h2;obtain ⟨p4,pa⟩:=aqh h7;exact ⟨by omega,l4,by omega,n4,p4,by omega,hs,la,fun s lJ p hp=>auP h2 (hs s lJ) (pa p hp).1 (pa p hp).2 h8⟩
section
variable {P:aG} {L:Lib}
structure Mtx (P:aG) (L:Lib):Prop extends Lq P L where
 Ih:Has P L 26 Ei
 Ii:Has P L 37 P7
 h77:Has P L 77 Qd
 h79:Has P L 79 Qe
 h80:Has P L 80 Qf
 Q3:Has P L 81 Lw
 EI:Has P L 82 GP
end
end
section
open Go (IntKind)
def adG {C:Int->Rat} {fr n i j:Int} {f g:Rat} {K B:Nat} (kf:Hq K f) (kg:Hq K g) (hC:∀q,Hq B (C q)):∀(m:Nat),m<=4->∀q,Hq (B+m*(2*K+7)) (im C fr n i j f g m q)
 | 0,_,q=>(hC q).mono (by omega)
 | m+1,hm,q=>by
  have ih:=adG (fr:=fr) (n:=n) (i:=i) (j:=j) kf kg hC m (by omega) q;have kw:Hq (2*K+6) (gB f g m):=by
   unfold gB;rw [xK,wo (show m<(qB f g).length from by show m<4;omega),wU];exact N3 kf kg _ (yR _)
  show Hq _ (if q=eL fr n i j m then gB f g m+im C fr n i j f g m q else im C fr n i j f g m q)
  rw [xH]
  split
  ·exact (kw.add ih).mono (by omega)
  ·exact ih.mono (by omega)
def asX {C:Int->Rat} {fr:Int} {S:Rat} {t B M:Nat} (hS:Hq M S) (hC:∀q,Hq B (C q)) (q:Int):Hq (B+M) (iK C fr S t q):=by
 unfold iK
 split
 ·exact (hC q).mul hS
 ·exact (hC q).mono (by omega)
def N4 {l:List Lay} {dx dy sh x y:List Nat} {fr:Int} (hl:l.length<=4) (ok:∀a,a∈l->a.Ok dx dy sh x y fr):∀i,i<=l.length->∀q,Hq (2+i*400000) ((dK dx dy sh x y fr (l.take i)).2 q)
 | 0,_,q=>by show Hq _ (0:Rat);exact PK.mono (by omega)
 | i+1,hi,q=>by
  have ih:=N4 hl ok i (by omega);rw [M2 (by omega)];have bY:=ok _ (yR (show i<l.length by omega));have kf:=BB bY.kX (by omega);have kg:=BB bY.kY (by omega)
  refine (asX (B:=2+i*400000+4*(2*(2*22000+1)+7)) (ki bY.st (yr 2400)) (fun q=>?_) q).mono (by rw [xH];omega)
  split
  ·exact adG kf kg ih 4 (yr 4) q
  ·exact (ih q).mono (by omega)
def N5 {l:List Lay} (h:∀a,a∈l->0<a.s.length/\a.s.length<=16) (hl:0<l.length) (h4:l.length<=4):0<iq l/\iq l<=1024:=by
 have hb:∀x,x∈(l.map fun a=>(a.s.length:Int)*a.s.length)->1<=x/\x<=256:=fun x hx=>by
  obtain ⟨a,ha,rfl⟩:=wb.1 hx;obtain ⟨h1,h2⟩:=h a ha;have e:(a.s.length:Int)*a.s.length=((a.s.length*a.s.length:Nat):Int):=(xL _ _).symm;have h3:a.s.length*a.s.length<=16*16:=xB h2 h2;have h5:1*1<=a.s.length*a.s.length:=xB h1 h1;omega
 unfold iq;generalize hm:(l.map fun a=>(a.s.length:Int)*a.s.length)=m at hb;have lm:m.length=l.length:=by grind
 have key:∀(m:List Int),(∀x,x∈m->1<=x/\x<=256)->(m.length:Int)<=gG m/\gG m<=256*m.length:=fun m=>by
  induction m with
  | nil=>intro _;simp [gG]
  | cons a r ih=>
   intro hb;have h1:=hb a wA;have h2:=ih (fun x hx=>hb x (xS _ hx));simp only [gG,yC];omega
 grind
section
variable {P:aG} {L:Lib}
def m26 (h:Mtx P L) {v w sv:AV} {l:List Lay} {sl:List cU} {pl:List cV} {fr:Int} (hv:dh v l) (hl:l.length<=1000000) (hf:∀a,a∈l->a.Fit) (hs:er sv sl) (nP:sl.length<=1000000) (rO:∀s,s∈sl->s.1.length<=1000000000/\s.2.1.length<=1000000000/\s.2.2.length<=1000000000) (hw:eT w pl) (fm:pl.length<=1000000) (rG:∀p,p∈pl->p.1.length<=1000000000/\p.2.length<=1000000000):
  (nL l sl pl fr≠0->ae P L 26 [v,sv,w,aa fr] (.au [.ab,aa (nL l sl pl fr)]))/\
  (nL l sl pl fr=0->(64<iq l\/64<sl.length*pl.length)->ae P L 26 [v,sv,w,aa fr] (.au [.ab,aa 22]))/\
  (nL l sl pl fr=0->iq l<=64->sl.length*pl.length<=64->
   (sl.any (pE l fr (iq l).toNat pl)=true->ae P L 26 [v,sv,w,aa fr] (.au [.ab,aa 4]))/\
   (sl.any (pE l fr (iq l).toNat pl)=false->∃rows,di cN rows (gE l fr (iq l).toNat sl pl)/\ae P L 26 [v,sv,w,aa fr] (.au [.bW false 1 rows.length rows,aa 0]))):=by
 have e1:=qh h.toLp.toSp.jV (decide ((l.length:Int)=0)) 12;have e2:=m76 h.toLp h.XW h.VY hv hl hf;have e3:=qh h.toLp.toSp.jV (decide ((sl.length:Int)=0)) 12;have e4:=qh h.toLp.toSp.jV (decide ((6:Int)<sl.length)) 5;have X1:∀a b c d:Int,ae P L 33 [.aJ true 4 [.int .i64 a,.int .i64 b,.int .i64 c,.int .i64 d]] (aa (bn [a,b,c,d])):=fun a b c d=>zk h.toLp.toSp.oL (fy true [a,b,c,d]) (by simp)
 have hf5:∀a b c d e:Int,ae P L 33 [.aJ true 5 [.int .i64 a,.int .i64 b,.int .i64 c,.int .i64 d,.int .i64 e]] (aa (bn [a,b,c,d,e])):=fun a b c d e=>zk h.toLp.toSp.oL (fy true [a,b,c,d,e]) (by simp)
 have BE:(if (6:Int)<(sl.length:Int) then (6:Int) else sl.length)=((min sl.length 6:Nat):Int):=by split<;>omega
 obtain ⟨sv',lJ,iV⟩:=aql hs (m:=min sl.length 6) (by omega);have eK:sl.take (min sl.length 6)=sl.take 6:=by
  by_cases q:sl.length<=6
  ·rw [xX q,yp (yr _),yp q]
  ·rw [Nat.min_eq_right (by omega)]
 rw [eK] at lJ;have lt6:(sl.take 6).length<=6:=by rw [yQ];omega
 obtain ⟨r,e6,hr⟩:=m77 h.h77 lJ (by omega) (g:=60) (cap:=[]) rfl (fun _ _=>rfl) (f:=rN) (fun s X2=>m60 h.toLp.toSp (rO s (vH X2)).1 (rO s (vH X2)).2.1 (rO s (vH X2)).2.2);have e7:=zk h.toLp.toSp.oL hr (by rw [yL];omega);have e8:=qh h.toLp.toSp.jV (decide ((pl.length:Int)=0)) 12;have e9:=m78 h.toLp.toSp h.XX h.VZ hw fm rG;have eA:=s51 h.toLp.Xu h.toLp.L3 h.toLp.toSp.jV fr;have cz:∀{n:Nat} {a:Int},(if decide ((n:Int)=0)=true then a else 0)=if n=0 then a else 0:=fun {n a}=>by
  by_cases q:n=0
  ·rw [yH q,yH (by simp [q])]
  ·rw [yA q,yA (by simp [q])]
 have c6:(if decide ((6:Int)<sl.length)=true then (5:Int) else 0)=if 6<sl.length then 5 else 0:=by
  by_cases q:6<sl.length
  ·rw [yH q,yH (by simp;omega)]
  ·rw [yA q,yA (by simp;omega)]
 rw [cz] at e1 e3 e8;rw [c6] at e4;have e5:=X1 (if l.length=0 then 12 else 0) (nJ l) (if sl.length=0 then 12 else 0) (if 6<sl.length then 5 else 0);have eB:=hf5 (bn [if l.length=0 then 12 else 0,nJ l,if sl.length=0 then 12 else 0,if 6<sl.length then 5 else 0]) (bn ((sl.take 6).map rN)) (if pl.length=0 then 12 else 0) (sP pl) (nm fr);change ae P L 33 [_] (aa (nL l sl pl fr)) at eB
 generalize (if l.length=0 then (12:Int) else 0)=g1 at*
 generalize (if sl.length=0 then (12:Int) else 0)=g2 at*
 generalize (if 6<sl.length then (5:Int) else 0)=g3 at*
 generalize (if pl.length=0 then (12:Int) else 0)=g4 at*
 generalize bn [g1,nJ l,g2,g3]=g5 at*
 unfold ae at e1 e2 e3 e4 e5 e6 e7 e8 e9 eA eB;refine ⟨fun hE=>?_,fun hE hX=>?_,fun hE h1 h2=>?_⟩
 ·unfold ae;rw [ay h.Ih];simp only [go_sem,ya,yb,yt,yi,yh,Ei,hv.len,hv.af,hs.len,hw.len,hw.af,e1,e2,e3,e4,e5,Dj,CP,BE,FK,iV,kN (show (0:Int)<=((min sl.length 6:Nat):Int) by omega),xp,lJ.af,e6,hr.af,e7,e8,e9,eA,eB,hE]
 ·obtain ⟨l0,l4,s0,CA,p6,p0,Q5,hle,bY⟩:=I8 hE;have lV:∀a,a∈l->0<a.s.length/\a.s.length<=16:=fun a ha=>by
   obtain ⟨a1,a2,_⟩:=CD (Ff (hle a ha)).1;exact ⟨a1,a2⟩
  have X3:=N5 lV l0 l4;obtain ⟨r2,f1,ep⟩:=m79 h.h79 hv hl (g:=80) (cap:=[]) rfl (fun _ _=>rfl) (f:=fun a=>(a.s.length:Int)*a.s.length) (fun a ha=>m80 h.h80 (hv.2 a ha) (by have:=(lV a ha).2;omega));have f2:=m37 h.Ii h.Q3 ep (fun x hx=>by
   obtain ⟨a,ha,rfl⟩:=wb.1 hx;obtain ⟨q1,q2⟩:=lV a ha;have e:(a.s.length:Int)*a.s.length=((a.s.length*a.s.length:Nat):Int):=(xL _ _).symm;have h3:a.s.length*a.s.length<=16*16:=xB q2 q2
   omega) (by rw [yL];omega)
  change ae P L 37 [_,_,_] (aa (iq l)) at f2
  have BC:(sl.length:Int)*pl.length=((sl.length*pl.length:Nat):Int):=(xL _ _).symm;have Hc:sl.length*pl.length<=6*256:=xB CA p6;unfold ae at f1 f2 ⊢;rw [ay h.Ih];by_cases hN:64<iq l
  ·simp only [go_sem,ya,yb,yt,yi,yh,Ei,hv.len,hv.af,hs.len,hw.len,hw.af,e1,e2,e3,e4,e5,Dj,CP,BE,FK,iV,kN (show (0:Int)<=((min sl.length 6:Nat):Int) by omega),xp,lJ.af,e6,hr.af,e7,e8,e9,eA,eB,hE,f1,ep.af,f2,hN,ym]
  ·have hX:64<sl.length*pl.length:=by omega
   simp only [go_sem,ya,yb,yt,yi,yh,Ei,hv.len,hv.af,hs.len,hw.len,hw.af,e1,e2,e3,e4,e5,Dj,CP,BE,FK,iV,kN (show (0:Int)<=((min sl.length 6:Nat):Int) by omega),xp,lJ.af,e6,hr.af,e7,e8,e9,eA,eB,hE,f1,ep.af,f2,hN,yk,BC,wrap64 (n:=((sl.length*pl.length:Nat):Int)) (by omega) (by omega),show (64:Int)<((sl.length*pl.length:Nat):Int) by omega,ym]
 ·obtain ⟨l0,l4,s0,CA,p6,p0,Q5,hle,bY⟩:=I8 hE;have lV:∀a,a∈l->0<a.s.length/\a.s.length<=16:=fun a ha=>by
   obtain ⟨a1,a2,_⟩:=CD (Ff (hle a ha)).1;exact ⟨a1,a2⟩
  have X3:=N5 lV l0 l4;obtain ⟨r2,f1,ep⟩:=m79 h.h79 hv hl (g:=80) (cap:=[]) rfl (fun _ _=>rfl) (f:=fun a=>(a.s.length:Int)*a.s.length) (fun a ha=>m80 h.h80 (hv.2 a ha) (by have:=(lV a ha).2;omega));have f2:=m37 h.Ii h.Q3 ep (fun x hx=>by
   obtain ⟨a,ha,rfl⟩:=wb.1 hx;obtain ⟨q1,q2⟩:=lV a ha;have e:(a.s.length:Int)*a.s.length=((a.s.length*a.s.length:Nat):Int):=(xL _ _).symm;have h3:a.s.length*a.s.length<=16*16:=xB q2 q2
   omega) (by rw [yL];omega)
  change ae P L 37 [_,_,_] (aa (iq l)) at f2
  have BC:(sl.length:Int)*pl.length=((sl.length*pl.length:Nat):Int):=(xL _ _).symm;obtain ⟨N,hN⟩:∃N:Nat,iq l=N:=⟨(iq l).toNat,(uX (by omega)).symm⟩;rw [hN,xp];rw [hN] at f2;have key:=auX h.toLq h.EI hv l4 hs CA hw p6 bY (N:=N) (by omega) (by omega) (fun s hs p hp q=>by
   have:=N4 l4 (bY s hs p hp) l.length (yr _) q
   rw [yp (yr _)] at this
   exact this.mono (by omega)) sl.length
  unfold ae at f1 f2;constructor
  ·intro hA;unfold ae;rw [ay h.Ih]
   simp only [go_sem,ya,yb,yt,yi,yh,Ei,hv.len,hv.af,hs.len,hw.len,hw.af,e1,e2,e3,e4,e5,Dj,CP,BE,FK,iV,kN (show (0:Int)<=((min sl.length 6:Nat):Int) by omega),xp,lJ.af,e6,hr.af,e7,e8,e9,eA,eB,hE,f1,ep.af,f2,show ¬(64:Int)<(N:Int) by omega,yk,BC,wrap64 (n:=((sl.length*pl.length:Nat):Int)) (by omega) (by omega),show ¬(64:Int)<((sl.length*pl.length:Nat):Int) by omega];generalize hq:D P L (.loop [0,2,3,11,12,69,70,71] FT) _=q;obtain ⟨ex,st,rfl,tm,hp,ct,rfl,hd⟩:=bD hq key ⟨0,[],by omega,by simpa [gE] using (show di cN [] [] from trivial),by simp,by simp only [go_sem,ya,an,mO,nH,nC,ak hv.pu,ao _ hv.pu,ak hw.pu,ao _ hw.pu,ak hs.pu,ao _ hs.pu]<;>rfl⟩
   rcases hd with ⟨rfl,t8,t9,_⟩ | ⟨rfl,hB,_⟩
   ·simp only [go_sem,t8,t9]
   ·rw [hA] at hB;cases hB
  ·intro hA;unfold ae;rw [ay h.Ih]
   simp only [go_sem,ya,yb,yt,yi,yh,Ei,hv.len,hv.af,hs.len,hw.len,hw.af,e1,e2,e3,e4,e5,Dj,CP,BE,FK,iV,kN (show (0:Int)<=((min sl.length 6:Nat):Int) by omega),xp,lJ.af,e6,hr.af,e7,e8,e9,eA,eB,hE,f1,ep.af,f2,show ¬(64:Int)<(N:Int) by omega,yk,BC,wrap64 (n:=((sl.length*pl.length:Nat):Int)) (by omega) (by omega),show ¬(64:Int)<((sl.length*pl.length:Nat):Int) by omega];generalize hq:D P L (.loop [0,2,3,11,12,69,70,71] FT) _=q;obtain ⟨ex,st,rfl,tm,hp,ct,rfl,hd⟩:=bD hq key ⟨0,[],by omega,by simpa [gE] using (show di cN [] [] from trivial),by simp,by simp only [go_sem,ya,an,mO,nH,nC,ak hv.pu,ao _ hv.pu,ak hw.pu,ao _ hw.pu,ak hs.pu,ao _ hs.pu]<;>rfl⟩
   rcases hd with ⟨_,_,_,hB⟩ | ⟨rfl,_,rows,hR,rfl,t12⟩
   ·rw [hA] at hB;cases hB
   ·refine ⟨rows,hR,?_⟩;have hlen:=hR.len;rw [CG] at hlen;have sO:0<sl.length*pl.length:=Nat.mul_pos s0 p0
    cases rows with
    | nil=>simp at hlen;omega
    | cons a r=>
     simp only [go_sem,ya,yb,an,t12];exact aiF (nd _ _ _) (by simp) (by decide)
end
end
section
open Go (IntKind)
section
variable {P:aG} {L:Lib}
def axA (h:S0 P L) (h3:Has P L 3 c3) (mX:Has P L 30 rC) (D3:Has P L 335 Gk) (Gz:Has P L 328 Gi) {v:AV} {l:List Lay} (hv:dh v l) (hl:l.length<=1000000) (hf:∀a,a∈l->a.Fit):ae P L 328 [v] (aa (nJ l)):=by
 unfold nJ;by_cases hc:4<l.length
 ·rw [yH hc];unfold ae;rw [ay Gz];simp only [go_sem,ya,Gi,hv.len,show (4:Int)<l.length by omega,ym]
 ·rw [yA hc];have key:=eF (P:=P) (L:=L) (live:=[0,3]) (a:=FC)
   (I:=fun k st=>∃i:Nat,i+k=l.length/\bn ((l.drop i).map Lay.E)=bn (l.map Lay.E)/\st=⟨[(0,v),(3,aa i)],[],0,0⟩)
   (Q:=fun ex st=>∃tm hp ct,st=⟨tm,hp,ct,0⟩/\((ex= .ret/\ah tm 2=aa (bn (l.map Lay.E)))\/(ex= .exit 0/\bn (l.map Lay.E)=0))) ?_
  ·unfold ae;rw [ay Gz];simp only [go_sem,ya,Gi,hv.len,show ¬(4:Int)<l.length by omega,yk];generalize hq:D P L (.loop [0,3] FC) _=q;obtain ⟨ex,st,rfl,tm,hp,ct,rfl,h2⟩:=bD hq (key l.length) ⟨0,by omega,rfl,by simp only [go_sem,ya,an,ak hv.pu,ao _ hv.pu]<;>rfl⟩
   rcases h2 with ⟨rfl,h3⟩ | ⟨rfl,h4⟩
   ·simp only [go_sem,h3]
   ·rw [h4];simp only [go_sem,an]
  ·rintro k st ⟨i,hk,et,rfl⟩;by_cases hi:i<l.length
   ·obtain ⟨rest,e1⟩:=hv.aZ hi;have hS:=hv.get hi;have ft:=hf _ (yR hi);have e2:ae P L 335 [.agg l[i].cs] (aa l[i].E):=axv h h3 mX D3 hS ft.hh ft.sc ft.st ft.ox ft.oy ft.wx ft.wy;unfold ae Lay.cs at e2;rw [Rh hi] at et;by_cases hb:Lay.E l[i]=0
    ·left
     rw [yH hb] at et;rw [hb] at e2;simp only [go_sem,ya,FC,hv.len,show (i:Int)<l.length by omega,e1,nI,a8,hS.af,e2];refine ⟨_,k-1,rfl,by omega,i+1,by omega,et,?_⟩;rw [wrap64 (by omega) (by omega)];simp only [go_sem,ya,an,ak hv.pu,ao _ hv.pu]<;>rfl
    ·right
     rw [yA hb] at et;simp only [go_sem,ya,FC,hv.len,show (i:Int)<l.length by omega,e1,nI,a8,hS.af,e2,hb,yk,yI];exact ⟨_,_,rfl,by simp,_,_,_,rfl,.inl ⟨rfl,by rw [<-et];simp only [go_sem]⟩⟩
   ·right
    simp only [go_sem,ya,FC,hv.len,show ¬(i:Int)<l.length by omega];refine ⟨_,_,rfl,by simp,_,_,_,rfl,.inr ⟨rfl,?_⟩⟩;rw [<-et,yT (by omega)];rfl
def axB (h:S0 P L) (GA:Has P L 330 Gj) {v:AV} {l:List cV} (hv:eT v l) (hl:l.length<=1000000) (hf:∀p,p∈l->p.1.length<=1000000000/\p.2.length<=1000000000):ae P L 330 [v] (aa (sP l)):=by
 unfold sP;by_cases hc:256<l.length
 ·rw [yH hc];unfold ae;rw [ay GA];simp only [go_sem,ya,Gj,hv.len,show (256:Int)<l.length by omega,ym]
 ·rw [yA hc];have key:=eF (P:=P) (L:=L) (live:=[0,3]) (a:=FE)
   (I:=fun k st=>∃i:Nat,i+k=l.length/\bn ((l.drop i).map Cx)=bn (l.map Cx)/\st=⟨[(0,v),(3,aa i)],[],0,0⟩)
   (Q:=fun ex st=>∃tm hp ct,st=⟨tm,hp,ct,0⟩/\((ex= .ret/\ah tm 2=aa (bn (l.map Cx)))\/(ex= .exit 0/\bn (l.map Cx)=0))) ?_
  ·unfold ae;rw [ay GA];simp only [go_sem,ya,Gj,hv.len,show ¬(256:Int)<l.length by omega,yk];generalize hq:D P L (.loop [0,3] FE) _=q;obtain ⟨ex,st,rfl,tm,hp,ct,rfl,h2⟩:=bD hq (key l.length) ⟨0,by omega,rfl,by simp only [go_sem,ya,an,ak hv.pu,ao _ hv.pu]<;>rfl⟩
   rcases h2 with ⟨rfl,h3⟩ | ⟨rfl,h4⟩
   ·simp only [go_sem,h3]
   ·rw [h4];simp only [go_sem,an]
  ·rintro k st ⟨i,hk,et,rfl⟩;by_cases hi:i<l.length
   ·obtain ⟨rest,e1⟩:=hv.aZ hi;have ft:=hf _ (yR hi);have e2:ae P L 308 [qw l[i].1 l[i].2] (aa (Cx l[i])):=PL h ft.1 ft.2;rw [Rh hi] at et;by_cases hb:Cx l[i]=0
    ·left
     rw [yH hb] at et;rw [hb] at e2;simp only [go_sem,ya,FE,hv.len,show (i:Int)<l.length by omega,e1,BX,a8,e2];refine ⟨_,k-1,rfl,by omega,i+1,by omega,et,?_⟩;rw [wrap64 (by omega) (by omega)];simp only [go_sem,ya,an,ak hv.pu,ao _ hv.pu]<;>rfl
    ·right
     rw [yA hb] at et;simp only [go_sem,ya,FE,hv.len,show (i:Int)<l.length by omega,e1,BX,a8,e2,hb,yk,yI];exact ⟨_,_,rfl,by simp,_,_,_,rfl,.inl ⟨rfl,by rw [<-et];simp only [go_sem]⟩⟩
   ·right
    simp only [go_sem,ya,FE,hv.len,show ¬(i:Int)<l.length by omega];refine ⟨_,_,rfl,by simp,_,_,_,rfl,.inr ⟨rfl,?_⟩⟩;rw [<-et,yT (by omega)];rfl
def a29 (h:Has P L 29 Lm) {v w:AV} {l:List (List Nat)} (hv:cN v l) (hw:cN w l) (hl:l.length<=1000000):ae P L 29 [v,w] (.bool true):=by
 have key:=eF (P:=P) (L:=L) (live:=[0,1,5]) (a:=JP)
  (I:=fun k st=>∃i:Nat,st=⟨[(0,v),(1,w),(5,aa i)],[],0,0⟩/\i+k=l.length)
  (Q:=fun ex st=>∃tm hp ct,st=⟨tm,hp,ct,0⟩/\ex= .exit 0) ?_
 ·unfold ae;rw [ay h];simp only [go_sem,ya,Lm,hv.len,hw.len,ym,yJ];generalize hq:D P L (.loop [0,1,5] JP) _=q;obtain ⟨ex,st,rfl,tm,hp,ct,rfl,rfl⟩:=bD hq (key l.length) ⟨0,by simp only [go_sem,ya,an,ak hv.pu,ao _ hv.pu,ak hw.pu,ao _ hw.pu]<;>rfl,by omega⟩
  simp only [go_sem,an]
 ·rintro k st ⟨i,rfl,hk⟩;by_cases hi:i<l.length
  ·left
   simp only [go_sem,ya,JP,hv.len,show (i:Int)<l.length by omega,hv.aZ hi,hw.aZ hi,rX,Z2,yJ];refine ⟨_,k-1,rfl,by omega,i+1,?_,by omega⟩;rw [wrap64 (by omega) (by omega)];simp only [go_sem,ya,an,ak hv.pu,ao _ hv.pu,ak hw.pu,ao _ hw.pu]<;>rfl
  ·right
   simp only [go_sem,ya,JP,hv.len,show ¬(i:Int)<l.length by omega];exact ⟨_,_,rfl,by simp,_,_,_,rfl,rfl⟩
end
end
section
open Go (IntKind)
section
variable {P:aG} {L:Lib}
def asY {a b c:List Nat} (h:iF [a,b,c]=true):a.length<=40/\b.length<=40/\c.length<=40:=by
 simp only [iF,uR,tE,uj,ye,vd] at h;exact h
end
end
section
open Go (IntKind)
section
variable {P:aG} {L:Lib}
def axC (KZ:Has P L 258 Kh) (mX:Has P L 30 rC) (n:Int):ae P L 258 [aa n] (aa (nm n)):=by
 have e:=WZ mX n (-999999999) 999999999;unfold ae at e ⊢;rw [ay KZ];simp only [go_sem,ya,Kh,e,nm]
end
end
section
open Go (IntKind)
def Yh:∀{s:List (List Int)},qI s=true->∀i (hi:i<s.length),s[i].length<=18
 | [],_,i,hi=>absurd hi (Nat.not_lt_zero _)
 | r::s,h,i,hi=>by
  simp only [qI] at h
  split at h
  ·grind
  ·cases i with
   | zero=>simp only [List.getElem_cons_zero];omega
   | succ i=>simp only [List.getElem_cons_succ];exact Yh h i (by simpa using hi)
def alJ {n:Nat} {s:List (List Int)} (h:pD n s=true):s.length<=18/\∀i (hi:i<s.length),s[i].length<=18:=by
 unfold pD at h
 split at h
 ·grind
 ·exact ⟨by omega,Yh h⟩
def asZ {a b:List Nat} (h:iF [a,b]=true):a.length<=40/\b.length<=40:=by
 simp only [iF,uR,tE,uj,ye,vd] at h;exact h
def as0 {a b c d e f g:List Nat} (h:iF [a,b,c,d,e,f,g]=true):a.length<=40/\b.length<=40/\c.length<=40/\d.length<=40/\e.length<=40/\f.length<=40/\g.length<=40:=by
 simp only [iF,uR,tE,uj,ye,vd] at h;exact h
section
variable {P:aG} {L:Lib}
end
end
section
open Go (IntKind)
def TM (cs:List AV):Dr 0 (.aQ cs)=some (.aQ cs):=rfl
noncomputable def GB (l:List cU):Int:=if l.length=0 then 12 else if 6<l.length then 5 else bn (l.map rN)
def an5 {l:List Lay} {sl:List cU} {pl:List cV} {fr:Int}:bn [bn [if l.length=0 then 12 else 0,nJ l,GB sl,if pl.length=0 then 12 else 0],sP pl,nm fr]=nL l sl pl fr:=by
 unfold nL GB;simp only [bn];by_cases h1:sl.length=0
 ·grind
 ·by_cases h2:6<sl.length
  ·grind
  ·rw [yp (show sl.length<=6 by omega)]
   grind
section
variable {P:aG} {L:Lib}
def agz (h:Has P L 324 Kw) {v:AV} {l:List cU} (hv:er v l) (hl:l.length<=1500000):∃r,ae P L 324 [v] r/\er (shut r) l:=by
 have h8:∀{m:List cU},∀p,p∈m.map sQ->p.length=3:=fun {m} p hp=>by
  obtain ⟨a,_,rfl⟩:=wb.1 hp;rfl
 have key:=eF (P:=P) (L:=L) (live:=[0,3,6,7]) (a:=Dd)
  (I:=fun k st=>∃i:Nat,i+k=l.length/\((i=0/\st=⟨[(0,v),(3,.ab),(6,aa l.length),(7,aa i)],[],0,0⟩)\/
   (0<i/\st=⟨[(0,v),(3,.aC 0 0 i),(6,aa l.length),(7,aa i)],[(0,.cells true true false 3 ((l.take i).map sQ).flatten)],1,0⟩)))
  (Q:=fun ex st=>∃tm hp ct,st=⟨tm,hp,ct,0⟩/\ex= .exit 0/\((l.length=0/\ah tm 3= .ab)\/(0<l.length/\ah tm 3= .aC 0 0 l.length/\az hp 0=some (.cells true true false 3 (l.map sQ).flatten)))) ?_
 ·unfold ae;rw [ay h];simp only [go_sem,ya,Kw,hv.len];generalize hq:D P L (.loop [0,3,6,7] Dd) _=q;obtain ⟨ex,st,rfl,tm,hp,ct,rfl,rfl,h2⟩:=bD hq (key l.length) ⟨0,by omega,.inl ⟨rfl,by simp only [go_sem,ya,an,ak hv.pu,ao _ hv.pu]<;>rfl⟩⟩
  rcases h2 with ⟨h2,h3⟩ | ⟨h2,h3,h4⟩
  ·refine ⟨.ab,by simp only [go_sem,an,h3],?_⟩;rw [yD h2];exact IX
  ·refine ⟨.bW false 3 l.length (l.map sQ).flatten,?_,?_⟩
   ·simp only [go_sem,yb,an,h3,h4];exact oX (nd _ _ _) (by rw [IN h8,yL]) (by decide)
   ·have:=Fg (k:=3) false (h8 (m:=l))
    rwa [yL] at this
 ·rintro k st ⟨i,hk,aP⟩;by_cases hi:i<l.length
  ·have bL:(i:Int)<l.length:=by omega
   obtain ⟨rest,e1⟩:=hv.aZ hi;have bz:∀q,fZ q [.str [],.str [],.str []] 0 3 [.str l[i].1,.str l[i].2.1,.str l[i].2.2] []=fill q [.str l[i].1,.str l[i].2.1,.str l[i].2.2] []:=fun q=>by
    rw [jw (by rfl) (by simp) (by rfl)];rfl
   have pY:aH [AV.str l[i].1,.str l[i].2.1,.str l[i].2.2]=true:=rfl;have at8:∀(eQ pu ex:Bool) (a b c:AV),LH 0 1 3 (some (.cells eQ pu ex 3 [a,b,c]))=some (1,[a,b,c]):=fun _ _ _ _ _ _=>rfl
   left
   rcases aP with ⟨h0,rfl⟩ | ⟨h0,rfl⟩
   ·subst h0;simp only [go_sem,ya,yb,xj,yt,yi,Dd,show ((0:Nat):Int)<l.length from bL,e1,ru,bz,wv,at8,gC];refine ⟨_,k-1,rfl,by omega,1,by omega,.inr ⟨by omega,?_⟩⟩;rw [wrap64 (by omega) (by omega),yB hi];simp only [go_sem,ya,yb,an,ak hv.pu,ao _ hv.pu,vD,xM]<;>rfl
   ·have hlen:((l.take i).map sQ).flatten.length=i*3:=by rw [IN h8,yL,yQ,xX (by omega)]
    simp only [go_sem,ya,yb,xj,Dd,bL,e1,ru,bz,wv,at8]
    rw [fV (ex:=false) (pu:=true) (cs:=((l.take i).map sQ).flatten) (by simp only [go_sem,ya]) hlen (by omega) (by omega) (by decide) (by simp only [go_sem])];simp only [go_sem,ya,yb,pY];refine ⟨_,k-1,rfl,by omega,i+1,by omega,.inr ⟨by omega,?_⟩⟩;rw [wrap64 (by omega) (by omega),yB hi,xq,uM];simp only [go_sem,ya,yb,an,ak hv.pu,ao _ hv.pu,yV,List.map_nil,xT,List.flatten_nil,List.append_nil]<;>rfl
  ·right
   rcases aP with ⟨h0,rfl⟩ | ⟨h0,rfl⟩
   ·simp only [go_sem,ya,Dd,show ¬(i:Int)<l.length by omega];refine ⟨_,_,rfl,by simp,_,_,_,rfl,rfl,.inl ⟨by omega,?_⟩⟩;simp only [go_sem,ya]
   ·simp only [go_sem,ya,Dd,show ¬(i:Int)<l.length by omega];refine ⟨_,_,rfl,by simp,_,_,_,rfl,rfl,.inr ⟨by omega,?_,?_⟩⟩
    ·simp only [go_sem,ya];rw [show i=l.length by omega]
    ·simp only [go_sem];rw [yp (by omega)]
def axD (h:S0 P L) (D5:Has P L 329 DP) {v:AV} {l:List cU} (hv:er v l) (hf:∀s,s∈l->s.1.length<=1000000000/\s.2.1.length<=1000000000/\s.2.2.length<=1000000000):ae P L 329 [v] (aa (GB l)):=by
 unfold GB;by_cases hz:l.length=0
 ·rw [yH hz];unfold ae;rw [ay D5];simp only [go_sem,ya,DP,hv.len,show (l.length:Int)=0 by omega,ym]
 rw [yA hz];by_cases hc:6<l.length
 ·rw [yH hc];unfold ae;rw [ay D5];simp only [go_sem,ya,DP,hv.len,show ¬(l.length:Int)=0 by omega,show (6:Int)<l.length by omega,ym,yk]
 ·rw [yA hc];have key:=eF (P:=P) (L:=L) (live:=[0,3]) (a:=FD)
   (I:=fun k st=>∃i:Nat,i+k=l.length/\bn ((l.drop i).map rN)=bn (l.map rN)/\st=⟨[(0,v),(3,aa i)],[],0,0⟩)
   (Q:=fun ex st=>∃tm hp ct,st=⟨tm,hp,ct,0⟩/\((ex= .ret/\ah tm 2=aa (bn (l.map rN)))\/(ex= .exit 0/\bn (l.map rN)=0))) ?_
  ·unfold ae;rw [ay D5];simp only [go_sem,ya,DP,hv.len,show ¬(l.length:Int)=0 by omega,show ¬(6:Int)<l.length by omega,yk];generalize hq:D P L (.loop [0,3] FD) _=q;obtain ⟨ex,st,rfl,tm,hp,ct,rfl,h2⟩:=bD hq (key l.length) ⟨0,by omega,rfl,by simp only [go_sem,ya,an,ak hv.pu,ao _ hv.pu]<;>rfl⟩
   rcases h2 with ⟨rfl,h3⟩ | ⟨rfl,h4⟩
   ·simp only [go_sem,h3]
   ·rw [h4];simp only [go_sem,an]
  ·rintro k st ⟨i,hk,et,rfl⟩;by_cases hi:i<l.length
   ·obtain ⟨rest,e1⟩:=hv.aZ hi;have ft:=hf _ (yR hi);have e2:ae P L 306 [jX l[i].1 l[i].2.1 l[i].2.2] (aa (rN l[i])):=aw7 h ft.1 ft.2.1 ft.2.2;rw [Rh hi] at et;by_cases hb:rN l[i]=0
    ·left
     rw [yH hb] at et;rw [hb] at e2;simp only [go_sem,ya,FD,hv.len,show (i:Int)<l.length by omega,e1,ru,a8,e2];refine ⟨_,k-1,rfl,by omega,i+1,by omega,et,?_⟩;rw [wrap64 (by omega) (by omega)];simp only [go_sem,ya,an,ak hv.pu,ao _ hv.pu]<;>rfl
    ·right
     rw [yA hb] at et;simp only [go_sem,ya,FD,hv.len,show (i:Int)<l.length by omega,e1,ru,a8,e2,hb,yk,yI];exact ⟨_,_,rfl,by simp,_,_,_,rfl,.inl ⟨rfl,by rw [<-et];simp only [go_sem]⟩⟩
   ·right
    simp only [go_sem,ya,FD,hv.len,show ¬(i:Int)<l.length by omega];refine ⟨_,_,rfl,by simp,_,_,_,rfl,.inr ⟨rfl,?_⟩⟩;rw [<-et,yT (by omega)];rfl
def agA (pT:Has P L 331 BJ) {v:AV} {l:List Lay} (hv:dh v l) (hl:l.length<=1000) (hb:∀a,a∈l->a.s.length<=1000):ae P L 331 [v] (aa (iq l)):=by
 have bb:∀x,x∈(l.map fun a=>(a.s.length:Int)*a.s.length)->0<=x/\x<=1000000:=fun x hx=>by
  obtain ⟨a,ha,rfl⟩:=wb.1 hx;have e:(a.s.length:Int)*a.s.length=((a.s.length*a.s.length:Nat):Int):=(xL _ _).symm;have h3:a.s.length*a.s.length<=1000*1000:=xB (hb a ha) (hb a ha);omega
 have ml:(l.map fun a=>(a.s.length:Int)*a.s.length).length=l.length:=yL _;have key:=eF (P:=P) (L:=L) (live:=[0,3,4]) (a:=Jx)
  (I:=fun k s=>∃i:Nat,i+k=l.length/\s=⟨[(0,v),(3,aa (gG ((l.map fun a=>(a.s.length:Int)*a.s.length).take i))),(4,aa i)],[],0,0⟩)
  (Q:=fun ex s=>∃tm hp ct,s=⟨tm,hp,ct,0⟩/\ex= .exit 0/\ah tm 3=aa (iq l)) ?_
 ·unfold ae;rw [ay pT];simp only [go_sem,BJ];generalize hq:D P L (.loop [0,3,4] Jx) _=q;obtain ⟨ex,s,rfl,tm,hp,ct,rfl,rfl,t3⟩:=bD hq (key l.length) ⟨0,by omega,by
   simp only [go_sem,ya,an,ak hv.pu,ao _ hv.pu]<;>rfl⟩
  simp only [go_sem,an,t3]
 ·rintro k s ⟨i,hk,rfl⟩;have bi:=Tc bb i (by omega);by_cases hi:i<l.length
  ·left
   obtain ⟨rest,e1⟩:=hv.aZ hi;have hS:=hv.get hi;have b2:=bb _ (yR (show i<(l.map fun a=>(a.s.length:Int)*a.s.length).length by omega));have e3:(l.map fun a=>(a.s.length:Int)*a.s.length)[i]'(by omega)=(l[i].s.length:Int)*l[i].s.length:=vW _;have hs:=MW (l:=l.map fun a=>(a.s.length:Int)*a.s.length) (i:=i) (by omega);rw [e3] at hs
   simp only [go_sem,ya,Jx,hv.len,show (i:Int)<l.length by omega,e1,TM,hS.len,wrap64 (n:=(l[i].s.length:Int)*l[i].s.length) (by omega) (by omega),<-hs];refine ⟨_,k-1,rfl,by omega,i+1,by omega,?_⟩;rw [wrap64 (by omega) (by omega),wrap64 (by omega) (by omega)];simp only [go_sem,ya,an,ak hv.pu,ao _ hv.pu]<;>rfl
  ·right
   simp only [go_sem,ya,Jx,hv.len,show ¬(i:Int)<l.length by omega];rw [yp (by omega)];exact ⟨_,_,rfl,by simp,_,_,_,rfl,rfl,by simp only [go_sem,ya];rfl⟩
def axE (As:Has P L 332 DQ) {n:Nat} (h0:0<n) (hn:n<=1000000):ae P L 332 [aa n] (.bW false 1 n ((yG n [48]).map .str)):=by
 have key:=eF (P:=P) (L:=L) (live:=[0,3,4]) (a:=FF)
  (I:=fun k s=>∃i:Nat,i+k=n/\((i=0/\s=⟨[(0,aa n),(3,.ab),(4,aa i)],[],0,0⟩)\/(0<i/\s=⟨[(0,aa n),(3,.aC 0 0 i),(4,aa i)],[(0,.cells true true false 1 ((yG i [48]).map .str))],1,0⟩)))
  (Q:=fun ex s=>∃tm hp ct,s=⟨tm,hp,ct,0⟩/\ex= .exit 0/\ah tm 3= .aC 0 0 n/\az hp 0=some (.cells true true false 1 ((yG n [48]).map .str))) ?_
 ·unfold ae;rw [ay As];simp only [go_sem,DQ];generalize hq:D P L (.loop [0,3,4] FF) _=q;obtain ⟨ex,s,rfl,tm,hp,ct,rfl,rfl,t3,g0⟩:=bD hq (key n) ⟨0,by omega,.inl ⟨rfl,by simp only [go_sem,ya,an]<;>rfl⟩⟩
  simp only [go_sem,yb,an,t3,g0];exact oX (nd _ _ _) (by simp) (by decide)
 ·rintro k s ⟨i,hk,aP⟩;by_cases hi:i<n
  ·left
   have eH:(yG (i+1) [48]).map AV.str=(yG i [48]).map AV.str++[.str [48]]:=by rw [List.replicate_succ',xq];rfl
   rcases aP with ⟨Q6,rfl⟩ | ⟨Q6,rfl⟩
   ·subst Q6;simp only [go_sem,ya,yb,xj,yt,yi,yh,FF,show ((0:Nat):Int)<n by omega,gC];refine ⟨_,k-1,rfl,by omega,1,by omega,.inr ⟨by omega,?_⟩⟩;rw [wrap64 (by omega) (by omega)];simp only [go_sem,ya,yb,an]<;>rfl
   ·simp only [go_sem,ya,yb,yi,yh,FF,show (i:Int)<n by omega]
    rw [fV (ex:=false) (pu:=true) (cs:=(yG i [48]).map .str) (by simp only [go_sem,ya]) (by simp) (by omega) (by omega) (by decide) (by simp only [go_sem])];simp only [go_sem,ya,yb];refine ⟨_,k-1,rfl,by omega,i+1,by omega,.inr ⟨by omega,?_⟩⟩;rw [wrap64 (by omega) (by omega),eH];simp only [go_sem,ya,yb,an]<;>rfl
  ·right
   have:i=n:=by omega
   subst this;rcases aP with ⟨Q6,rfl⟩ | ⟨Q6,rfl⟩
   ·omega
   ·simp only [go_sem,ya,FF,show ¬(i:Int)<i by omega];exact ⟨_,_,rfl,by simp,_,_,_,rfl,rfl,by simp only [go_sem,ya],by simp only [go_sem]⟩
end
end
section
open Go (IntKind)
def gh (C:Int->Rat) (fr n i j:Int) (f g S:Rat):Nat->Int->Rat
 | 0,q=>C q
 | m+1,q=>if q=eL fr n i j m then gh C fr n i j f g S m q+S*gB f g m else gh C fr n i j f g S m q
noncomputable def ir (C:Int->Rat) (N:Nat):List (List Nat):=(nK C N).map RT
def A7 (C:Int->Rat) (N:Nat):(ir C N).length=N:=by unfold ir;rw [yL,CR]
def SF (C:Int->Rat) {N k:Nat} (h:k<N):(ir C N)[k]'(by rw [A7];exact h)=RT (C (k:Int)):=by simp [ir,nK]
def an6 {C C':Int->Rat} {N k:Nat} (hk:k<N) (h:∀q:Int,q≠k->C' q=C q):(ir C N).set k (RT (C' (k:Int)))=ir C' N:=by
 apply List.ext_getElem
 ·rw [List.length_set,A7,A7]
 ·intro i h1 h2;rw [A7] at h2;rw [List.getElem_set,SF C' h2];by_cases hi:k=i
  ·grind
  ·rw [yA hi,SF C h2,h i (by omega)]
def alK (C:Int->Rat) {N k:Nat} (h:k<N):∃r,((ir C N).map AV.str).drop k= .str (RT (C (k:Int)))::r:=by
 refine ⟨((ir C N).map AV.str).drop (k+1),?_⟩;rw [List.drop_eq_getElem_cons (by rw [yL,A7];exact h),vW,SF C h]
def OE (id m:Nat) (h:m<4):JE 4 3 m (.ptr id 0)=some (.ptr id (0+m*3)):=by
 show (bif Nat.blt m 4 then _ else _)=_
 rw [jM h];rfl
def dk1 (x0 x1 x2 x3 x4 x5 x6 x7 x8 x9 dN dO:AV):xg 1 [x0,x1,x2,x3,x4,x5,x6,x7,x8,x9,dN,dO]=[x1,x2,x3,x4,x5,x6,x7,x8,x9,dN,dO]:=rfl
def dk2 (x0 x1 x2 x3 x4 x5 x6 x7 x8 x9 dN dO:AV):xg 2 [x0,x1,x2,x3,x4,x5,x6,x7,x8,x9,dN,dO]=[x2,x3,x4,x5,x6,x7,x8,x9,dN,dO]:=rfl
def dk3 (x0 x1 x2 x3 x4 x5 x6 x7 x8 x9 dN dO:AV):xg 3 [x0,x1,x2,x3,x4,x5,x6,x7,x8,x9,dN,dO]=[x3,x4,x5,x6,x7,x8,x9,dN,dO]:=rfl
def dk4 (x0 x1 x2 x3 x4 x5 x6 x7 x8 x9 dN dO:AV):xg 4 [x0,x1,x2,x3,x4,x5,x6,x7,x8,x9,dN,dO]=[x4,x5,x6,x7,x8,x9,dN,dO]:=rfl
def dk5 (x0 x1 x2 x3 x4 x5 x6 x7 x8 x9 dN dO:AV):xg 5 [x0,x1,x2,x3,x4,x5,x6,x7,x8,x9,dN,dO]=[x5,x6,x7,x8,x9,dN,dO]:=rfl
def dk6 (x0 x1 x2 x3 x4 x5 x6 x7 x8 x9 dN dO:AV):xg 6 [x0,x1,x2,x3,x4,x5,x6,x7,x8,x9,dN,dO]=[x6,x7,x8,x9,dN,dO]:=rfl
def dk7 (x0 x1 x2 x3 x4 x5 x6 x7 x8 x9 dN dO:AV):xg 7 [x0,x1,x2,x3,x4,x5,x6,x7,x8,x9,dN,dO]=[x7,x8,x9,dN,dO]:=rfl
def dk8 (x0 x1 x2 x3 x4 x5 x6 x7 x8 x9 dN dO:AV):xg 8 [x0,x1,x2,x3,x4,x5,x6,x7,x8,x9,dN,dO]=[x8,x9,dN,dO]:=rfl
def dk9 (x0 x1 x2 x3 x4 x5 x6 x7 x8 x9 dN dO:AV):xg 9 [x0,x1,x2,x3,x4,x5,x6,x7,x8,x9,dN,dO]=[x9,dN,dO]:=rfl
def axF (x0 x1 x2 x3 x4 x5 x6 x7 x8 x9 dN dO:AV):xg 10 [x0,x1,x2,x3,x4,x5,x6,x7,x8,x9,dN,dO]=[dN,dO]:=rfl
def axG (x0 x1 x2 x3 x4 x5 x6 x7 x8 x9 dN dO:AV):xg 11 [x0,x1,x2,x3,x4,x5,x6,x7,x8,x9,dN,dO]=[dO]:=rfl
def fG (a:AV) (r:List AV):fD 1 false (a::r)=some a:=rfl
def qH (row lc rc:List AV):List AV->Hp
 | []=>[(2,.cells true true true 12 rc),(1,.cells true true true 8 lc),(0,.cells true true false 1 row)]
 | a::r=>[(3,.cells true true true 12 rc),(2,.cells true true true 8 lc),(1,.cells true true false 1 row),(0,.cells true true false 1 (a::r))]
section
variable {P:aG} {L:Lib}
def as3 (h:Rn P L) {fr n i j:Int} {f g:Rat} {K B N:Nat} (hi:0<=i/\i<n) (hj:0<=j/\j<n) (hn:n<=1000) (fF:0<=fr/\fr<=1000000) (hN:fr+n*n<=N) (hN':N<=2000000) (kf:Hq K f) (kg:Hq K g) (hK:B+8*K+20000<=1000000000)
  {C:Int->Rat} (hC:∀q,Hq B (C q)) {st:List Nat} (Im:a6 st=0) {l0:AV} {l1 l2 l4 l5 l6 l7:List Nat} (o0:bm l0=true) (p0:aU l0=true) {v sv w:AV} (pv:aU v=true) (ps:aU sv=true) (pw:aU w=true) (Cz si pi li:Int) (rows:List AV):
  ∀d s,(∃m:Nat,m+d=4/\aT [0,1,2,3,9,10,11,12,13,14,15,16,17,18] s=⟨[(0,v),(1,sv),(2,w),(3,aa Cz),(9,mO rows),(10,aa si),(11,aa pi),(12,.aC (nC rows) 0 N),(13,aa fr),(14,aa li),(15,.ptr (nC rows+1) 0),(16,aa n),(17,.ptr (nC rows+2) 0),(18,aa m)],
    qH ((ir (gh C fr n i j f g (bf st) m) N).map .str) [l0,.str l1,.str l2,.str st,.str l4,.str l5,.str l6,.str l7] [aa i,aa j,.str (RT ((1-f)*(1-g))),aa ((i+1)%n),aa j,.str (RT (f*(1-g))),aa i,aa ((j+1)%n),.str (RT ((1-f)*g)),aa ((i+1)%n),aa ((j+1)%n),.str (RT (f*g))] rows,nC rows+3,0⟩)->
   ∃ex s',D P L (.loop [0,1,2,3,9,10,11,12,13,14,15,16,17,18] Bi) s=some (ex,s')/\∃tm hp ct,s'=⟨tm,hp,ct,0⟩/\ex= .exit 6/\hp=qH ((ir (gh C fr n i j f g (bf st) 4) N).map .str) [l0,.str l1,.str l2,.str st,.str l4,.str l5,.str l6,.str l7] [aa i,aa j,.str (RT ((1-f)*(1-g))),aa ((i+1)%n),aa j,.str (RT (f*(1-g))),aa i,aa ((j+1)%n),.str (RT ((1-f)*g)),aa ((i+1)%n),aa ((j+1)%n),.str (RT (f*g))] rows/\ah tm 0=v/\ah tm 1=sv/\ah tm 2=w/\ah tm 3=aa Cz/\ah tm 9=mO rows/\ah tm 10=aa si/\ah tm 11=aa pi/\ah tm 12= .aC (nC rows) 0 N/\ah tm 13=aa fr/\ah tm 14=aa li/\ah tm 16=aa n:=by
 intro dq sq;generalize bw:aT [0,1,2,3,9,10,11,12,13,14,15,16,17,18] sq=s0;revert bw s0 sq dq;apply dn;rintro d s ⟨m,K6,rfl⟩;by_cases hm:m<4
 ·left
  have nn:n*n<=1000*1000:=uQ hn hn (by omega) (by omega);have e0:i%n=i:=yap hi.1 hi.2;have e1:j%n=j:=yap hj.1 hj.2;have cb:=OD (fr:=fr) (i:=i) (j:=j) (n:=n) (by omega) hn fF.1 m;obtain ⟨q,hq⟩:∃q:Nat,eL fr n i j m=q:=⟨(eL fr n i j m).toNat,(uX (by omega)).symm⟩;have EJ:q<N:=by omega
  obtain ⟨r,hr⟩:=alK (gh C fr n i j f g (bf st) m) EJ;have kw:Hq (2*K+6) (gB f g m):=by
   unfold gB;rw [xK,wo (show m<(qB f g).length from hm),wU];exact N3 kf kg _ (yR _)
  have kS:=ki Im (yr 2400);have kR:∀m,m<=4->∀q,Hq (B+m*(2400+(2*K+7))) (gh C fr n i j f g (bf st) m q):=fun m=>by
   induction m with
   | zero=>intro _ q;exact (hC q).mono (by omega)
   | succ m ih=>
    intro hm q;have ih:=ih (by omega) q;have kw:Hq (2*K+6) (gB f g m):=by
     unfold gB;rw [xK,wo (show m<(qB f g).length from by show m<4;omega),wU];exact N3 kf kg _ (yR _)
    show Hq _ (if q=eL fr n i j m then gh C fr n i j f g (bf st) m q+bf st*gB f g m else gh C fr n i j f g (bf st) m q)
    rw [xH]
    split
    ·exact (ih.add (kS.mul kw)).mono (by omega)
    ·exact ih.mono (by omega)
  have mb:m*(2400+(2*K+7))<=3*(2400+(2*K+7)):=Nat.mul_le_mul_right _ (by omega);have f1:=z6 h kS kw (by omega);rw [<-(A6 Im).1] at f1;have f2:=Ow h.toRp (kR m (by omega) (q:Int)) (kS.mul kw) (by omega);have hC':gh C fr n i j f g (bf st) (m+1) (q:Int)=gh C fr n i j f g (bf st) m q+bf st*gB f g m:=yH hq.symm;have QS:=an6 (C:=gh C fr n i j f g (bf st) m) (C':=gh C fr n i j f g (bf st) (m+1)) EJ (fun x hx=>yA (by rw [hq];exact hx))
  rw [hC'] at QS;have CB:∀(hp:Hp) (ct id:Nat),fE hp ct id q 1 [.str (RT (gh C fr n i j f g (bf st) m (q:Int)+bf st*gB f g m))] (some (.cells true true false 1 ((ir (gh C fr n i j f g (bf st) m) N).map .str)))=some (.au [],bg hp id (.cells true true false 1 ((ir (gh C fr n i j f g (bf st) (m+1)) N).map .str)),ct):=fun hp ct id=>by
   rw [XB (by rw [A7];exact EJ),QS]
  have Q7:∀a b c d e f g i:AV,xg 3 [a,b,c,d,e,f,g,i]=[d,e,f,g,i]:=fun _ _ _ _ _ _ _ _=>rfl
  have ldr:∀u:List Nat,fD 1 false (.str u::r)=some (.str u):=fun _=>rfl
  generalize gh C fr n i j f g (bf st) m (q:Int)=A at*
  generalize (ir (gh C fr n i j f g (bf st) m) N).map AV.str=R0 at*
  unfold ae at f1 f2;have r1:=wm (i+1) (show n≠0 by omega);have r2:=we (i+1) (show 0<n by omega);have r3:=wm (j+1) (show n≠0 by omega);have r4:=we (j+1) (show 0<n by omega);have jn:0<=j*n/\j*n<=1000000:=⟨uz hj.1 (by omega),by have:=uQ (show j<=1000 by omega) hn (by omega) (by omega);omega⟩;have jn1:0<=(j+1)%n*n/\(j+1)%n*n<=1000000:=⟨uz r3 (by omega),by have:=uQ (show (j+1)%n<=1000 by omega) hn (by omega) (by omega);omega⟩;obtain rfl | rfl | rfl | rfl:m=0\/m=1\/m=2\/m=3:=by omega
  ·have bK:fr+j*n+i=(q:Int):=by rw [<-hq];unfold eL;simp [e0,e1]
   have w0:gB f g 0=(1-f)*(1-g):=rfl;rw [w0] at f1 f2 CB;cases rows
   all_goals
    simp only [mO,nC,qH]
    simp only [go_sem,ya,yb,xj,yh,Bi,show (((0:Nat):Int)<4) by decide,ym,kN (show (0:Int)<=((0:Nat):Int) by decide),xp,OE _ _ (show 0<4 by decide),aV,yd,dk1,dk2,yg,fG,wrap64 (n:=j*n) (by omega) (by omega),wrap64 (n:=fr+j*n) (by omega) (by omega),bK,wrap64 (n:=(q:Int)) (by omega) (by omega),kN (show (0:Int)<=(q:Int) by omega),cW _ _ EJ,yh,hr,Q7,f1,f2,CB];refine ⟨_,d-1,rfl,by omega,1,by omega,?_⟩;rw [wrap64 (by omega) (by omega)];simp only [go_sem,ya,yb,an,ak pv,ao _ pv,ak ps,ao _ ps,ak pw,ao _ pw]<;>rfl
  ·have bK:fr+j*n+(i+1)%n=(q:Int):=by rw [<-hq];unfold eL;simp [e1]
   have w0:gB f g 1=f*(1-g):=rfl;rw [w0] at f1 f2 CB;cases rows
   all_goals
    simp only [mO,nC,qH]
    simp only [go_sem,ya,yb,xj,yh,Bi,show (((1:Nat):Int)<4) by decide,ym,kN (show (0:Int)<=((1:Nat):Int) by decide),xp,OE _ _ (show 1<4 by decide),aV,yd,dk4,dk5,dk3,fG,wrap64 (n:=j*n) (by omega) (by omega),wrap64 (n:=fr+j*n) (by omega) (by omega),bK,wrap64 (n:=(q:Int)) (by omega) (by omega),kN (show (0:Int)<=(q:Int) by omega),cW _ _ EJ,yh,hr,Q7,f1,f2,CB];refine ⟨_,d-1,rfl,by omega,2,by omega,?_⟩;rw [wrap64 (by omega) (by omega)];simp only [go_sem,ya,yb,an,ak pv,ao _ pv,ak ps,ao _ ps,ak pw,ao _ pw]<;>rfl
  ·have bK:fr+(j+1)%n*n+i=(q:Int):=by rw [<-hq];unfold eL;simp [e0]
   have w0:gB f g 2=(1-f)*g:=rfl;rw [w0] at f1 f2 CB;cases rows
   all_goals
    simp only [mO,nC,qH]
    simp only [go_sem,ya,yb,xj,yh,Bi,show (((2:Nat):Int)<4) by decide,ym,kN (show (0:Int)<=((2:Nat):Int) by decide),xp,OE _ _ (show 2<4 by decide),aV,yd,dk7,dk8,dk6,fG,wrap64 (n:=(j+1)%n*n) (by omega) (by omega),wrap64 (n:=fr+(j+1)%n*n) (by omega) (by omega),bK,wrap64 (n:=(q:Int)) (by omega) (by omega),kN (show (0:Int)<=(q:Int) by omega),cW _ _ EJ,yh,hr,Q7,f1,f2,CB];refine ⟨_,d-1,rfl,by omega,3,by omega,?_⟩;rw [wrap64 (by omega) (by omega)];simp only [go_sem,ya,yb,an,ak pv,ao _ pv,ak ps,ao _ ps,ak pw,ao _ pw]<;>rfl
  ·have bK:fr+(j+1)%n*n+(i+1)%n=(q:Int):=by rw [<-hq];unfold eL;simp []
   have w0:gB f g 3=f*g:=rfl;rw [w0] at f1 f2 CB;cases rows
   all_goals
    simp only [mO,nC,qH]
    simp only [go_sem,ya,yb,xj,yh,Bi,show (((3:Nat):Int)<4) by decide,ym,kN (show (0:Int)<=((3:Nat):Int) by decide),xp,OE _ _ (show 3<4 by decide),aV,yd,axF,axG,dk9,fG,wrap64 (n:=(j+1)%n*n) (by omega) (by omega),wrap64 (n:=fr+(j+1)%n*n) (by omega) (by omega),bK,wrap64 (n:=(q:Int)) (by omega) (by omega),kN (show (0:Int)<=(q:Int) by omega),cW _ _ EJ,yh,hr,Q7,f1,f2,CB];refine ⟨_,d-1,rfl,by omega,4,by omega,?_⟩;rw [wrap64 (by omega) (by omega)];simp only [go_sem,ya,yb,an,ak pv,ao _ pv,ak ps,ao _ ps,ak pw,ao _ pw]<;>rfl
 ·right
  have h4:m=4:=by omega
  subst h4;cases rows
  all_goals
   simp only [mO,nC,qH];simp only [go_sem,ya,yb,Bi,show ¬((4:Nat):Int)<4 by decide,yk];exact ⟨_,_,rfl,by simp,_,_,_,rfl,rfl,rfl,by simp only [go_sem,ya],by simp only [go_sem,ya],by simp only [go_sem,ya],by simp only [go_sem,ya],by simp only [go_sem,ya],by simp only [go_sem,ya],by simp only [go_sem,ya],by simp only [go_sem,ya],by simp only [go_sem,ya],by simp only [go_sem,ya],by simp only [go_sem,ya]⟩
end
end
section
noncomputable def JY (dx dy sh x y:List Nat) (fr:Int) (p:Int×(Int->Rat)) (a:Lay):Int×(Int->Rat):=
 (p.1+(a.s.length:Int)*a.s.length,
  if Lay.low sh a=true then gh p.2 p.1 a.s.length ((fk a.hh a.sc a.ox a.wx dx sh x fr).floor%a.s.length) ((fk a.hh a.sc a.oy a.wy dy sh y fr).floor%a.s.length) (gZ (fk a.hh a.sc a.ox a.wx dx sh x fr)) (gZ (fk a.hh a.sc a.oy a.wy dy sh y fr)) (bf a.st) 4 else p.2)
noncomputable def fS (dx dy sh x y:List Nat) (fr:Int) (l:List Lay):Int×(Int->Rat):=l.foldl (JY dx dy sh x y fr) (0,fun _=>0)
def Sc {dx dy sh x y:List Nat} {fr:Int} {l:List Lay} {i:Nat} (h:i<l.length):fS dx dy sh x y fr (l.take (i+1))=JY dx dy sh x y fr (fS dx dy sh x y fr (l.take i)) l[i]:=by
 rw [yB h];simp only [fS,yaf,yaq,td]
section
variable {C:Int->Rat} {fr n i j:Int} {f g S:Rat}
def SG (hn:0<n) (gW:n<=1000) (h0:0<=fr) {q:Int} (hq:q<fr\/fr+n*n<=q):∀m,im C fr n i j f g m q=C q
 | 0=>rfl
 | m+1=>by
  have cb:=OD (fr:=fr) (i:=i) (j:=j) hn gW h0 m;show (if q=eL fr n i j m then gB f g m+im C fr n i j f g m q else im C fr n i j f g m q)=_
  rw [yA (by omega),SG hn gW h0 hq m]
def aa0 (hn:0<n) (gW:n<=1000) (h0:0<=fr) {q:Int} (hq:q<fr\/fr+n*n<=q):∀m,gh C fr n i j f g S m q=C q
 | 0=>rfl
 | m+1=>by
  have cb:=OD (fr:=fr) (i:=i) (j:=j) hn gW h0 m;show (if q=eL fr n i j m then gh C fr n i j f g S m q+S*gB f g m else gh C fr n i j f g S m q)=_
  rw [yA (by omega),aa0 hn gW h0 hq m]
def aa1 {q:Int} (hC:C q=0):∀m,im C fr n i j f g m q*S=gh C fr n i j f g S m q
 | 0=>by show C q*S=C q;rw [hC,ybw]
 | m+1=>by
  have ih:=aa1 hC m;show (if q=eL fr n i j m then gB f g m+im C fr n i j f g m q else im C fr n i j f g m q)*S=(if q=eL fr n i j m then gh C fr n i j f g S m q+S*gB f g m else gh C fr n i j f g S m q)
  split
  ·rw [Rat.add_mul,ih,Rat.mul_comm (gB f g m) S,Rat.add_comm]
  ·exact ih
end
def run_eq {dx dy sh x y:List Nat} {fr:Int} {l:List Lay} (h:∀a,a∈l->0<a.s.length/\a.s.length<=16):∀k,k<=l.length->fS dx dy sh x y fr (l.take k)=dK dx dy sh x y fr (l.take k)/\0<=(dK dx dy sh x y fr (l.take k)).1/\∀q,(dK dx dy sh x y fr (l.take k)).1<=q->(dK dx dy sh x y fr (l.take k)).2 q=0
 | 0,_=>⟨rfl,Int.le_refl 0,fun _ _=>rfl⟩
 | k+1,hk=>by
  obtain ⟨e,h0,hz⟩:=run_eq (dx:=dx) (dy:=dy) (sh:=sh) (x:=x) (y:=y) (fr:=fr) h k (by omega);rw [Sc (by omega),M2 (by omega),e];obtain ⟨n0,n1⟩:=h _ (yR (show k<l.length by omega));generalize dK dx dy sh x y fr (l.take k)=p at*
  generalize l[k]=a at*
  have hN:((a.s.length*a.s.length:Nat):Int)=(a.s.length:Int)*a.s.length:=xL _ _;have hNp:0<=(a.s.length:Int)*a.s.length:=uz (by omega) (by omega);unfold JY JX;generalize (fk a.hh a.sc a.ox a.wx dx sh x fr).floor%(a.s.length:Int)=i;generalize (fk a.hh a.sc a.oy a.wy dy sh y fr).floor%(a.s.length:Int)=j;generalize gZ (fk a.hh a.sc a.ox a.wx dx sh x fr)=f;generalize gZ (fk a.hh a.sc a.oy a.wy dy sh y fr)=g;generalize bf a.st=S;refine ⟨Prod.ext rfl (funext fun q=>?_),by show 0<=p.1+_;omega,fun q hq=>?_⟩
  ·show (if Lay.low sh a=true then gh p.2 p.1 a.s.length i j f g S 4 else p.2) q=iK (if Lay.low sh a=true then im p.2 p.1 a.s.length i j f g 4 else p.2) p.1 S (a.s.length*a.s.length) q
   unfold iK;rw [hN];by_cases hr:p.1<=q/\q<p.1+(a.s.length:Int)*a.s.length
   ·rw [yH hr]
    split
    ·exact (aa1 (hz q hr.1) 4).symm
    ·rw [hz q hr.1,ybw]
   ·rw [yA hr]
    split
    ·rw [SG (by omega) (by omega) h0 (by omega),aa0 (by omega) (by omega) h0 (by omega)]
    ·rfl
  ·have bK:p.1+(a.s.length:Int)*a.s.length<=q:=hq;show iK _ p.1 S (a.s.length*a.s.length) q=0
   unfold iK;rw [hN,yA (by omega)]
   split
   ·rw [SG (by omega) (by omega) h0 (by omega)];exact hz q (by omega)
   ·exact hz q (by omega)
end
end VE
