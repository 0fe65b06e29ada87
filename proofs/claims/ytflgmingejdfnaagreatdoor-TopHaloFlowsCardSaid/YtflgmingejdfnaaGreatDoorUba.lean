import Derived.Test.YtflgmingejdfnaaGreatDoorUaz
import Derived.Test.YtflgmingejdfnaaGreatDoorUay
import Derived.Test.YtflgmingejdfnaaGreatDoorUak
import Derived.Test.YtflgmingejdfnaaGreatDoorUal
import Derived.Test.YtflgmingejdfnaaGreatDoorUau
set_option linter.all false
set_option maxRecDepth 100000
open Bool renaming false_and→xA,false_eq_true→yA,not_false→yI,true_and→xv
open Int renaming emod_lt_of_pos→wE,emod_nonneg→wO,emod_sub_emod→yaQ,natAbs_natCast→wk,reduceEq→vn,tdiv_eq_ediv_of_nonneg→xE,tmod_eq_emod_of_nonneg→y9,toNat_of_nonneg→xV
open List renaming append_nil→wg,cons_append→yW,drop→xz,drop_left→tW,drop_zero→yj,ext_getElem→yaG,getElem_map→uf,getElem_range→yaq,length_cons→yy,length_map→xm,length_nil→yG,map_cons→y8,map_nil→wq,mem_cons_of_mem→wI,mem_cons_self→vL,mem_map→vv,range→xg
open List.cons renaming injEq→tS
open Nat renaming le_refl→yB,lt_of_lt_of_le→yL,mul_lt_mul''→uS,mul_one→yi,mul_pos→yaK,not_lt_zero→ua,pow_add→wJ,pow_le_pow_right→xk,pow_succ→xj,reduceAdd→yb,reduceEqDiff→ya,reduceLT→yt,reduceLeDiff→ye,zero_add→yd
open Option.some renaming inj→vj
open Rat renaming add_mul→yah,den_intCast→vR,divInt_eq_div→yaP,intCast_add→ybe,intCast_mul→ybf,intCast_natCast→vc,mul_comm→wU,natCast_eq_zero_iff→tH,num_intCast→vh,sub_eq_add_neg→tj
namespace VE
section
open Go (IntKind)
section
variable {P:aI} {L:Lib}
def sF {s:List (List Int)} (h:dz s=0):0<s.length/\s.length<=16/\dT s.length (-1000) 1000 s=0:=by
 unfold dz at h
 grind
def ZC {s:List (List Int)} (h:pH s=0):0<s.length/\s.length<=5/\s.length%2=1/\dT s.length (-100) 100 s=0:=by
 unfold pH at h
 grind
def abH {n:Nat}:∀{l:List (List Int)},(∀r,r∈l->r.length=n)->dT n (-1000) 1000 l=if oT l=true then 3 else 0
 | [],_=>rfl
 | r::l,h=>by
  have ih:=abH (l:=l) (fun r hr=>h r (by simp [hr]));have h1:=h r (by simp);simp only [dT,h1,uZ,wD,yN,oT,ih]
  grind
def Cd {n:Nat} (f:Nat->Nat->Int):bU (gS (fun c r=>aa (f c r)) n) (fL n f):=by
 have h1:gS (fun c r=>aa (f c r)) n= .aO true n ((xg n).map fun r=> .aO true n (((xg n).map fun c=>f c r).map aa)):=by
  simp only [gS,List.map_map];rfl
 refine ⟨(xg n).map fun r=> .aO true n (((xg n).map fun c=>f c r).map aa),?_,?_⟩
 ·rw [h1]
  have:=FK true ((xg n).map fun r=>AV.aO true n (((xg n).map fun c=>f c r).map aa))
  grind
 ·have:∀m:List Nat,jy bq (m.map fun r=>AV.aO true n (((xg n).map fun c=>f c r).map aa)) (m.map fun r=>(xg n).map fun c=>f c r):=by
   intro m
   induction m with
   | nil=>trivial
   | cons r m ih=>
    refine ⟨?_,ih⟩
    have:=fN true ((xg n).map fun c=>f c r)
    grind
  exact this _
def s9 (h:SmP P L) {v w:AV} {s k:List (List Int)} (hv:bU v s) (hw:bU w k) (hl:s.length<=1000000) (hr:∀i (hi:i<s.length),s[i].length<=1000000) (CZ:k.length<=1000000) (bW:∀i (hi:i<k.length),k[i].length<=1000000):
  (bn [dz s,pH k]≠0->af P L 9 [v,w] (.aw [.ae,aa (bn [dz s,pH k])]))/\
  (bn [dz s,pH k]=0->af P L 9 [v,w] (if oT (Gc s k s.length s.length)=true then .aw [.ae,aa 4] else .aw [gS (fun c r=>aa (kW s k c r)) s.length,aa 0])):=by
 have e4:=s4 h.toSq hv hl hr;have YX:=XL h.toSq hw CZ bW (m:=100) (by decide) (by decide);have BE:∀a b c d e:Int,af P L 33 [.aO true 5 [.int .i64 a,.int .i64 b,.int .i64 c,.int .i64 d,.int .i64 e]] (aa (bn [a,b,c,d,e])):=fun a b c d e=>qV h.nK (fN true [a,b,c,d,e]) (by simp)
 have et:(2:Int)≠0:=by decide
 have pk:(k.length:Int).tmod 2=(k.length%2:Nat):=by rw [y9 (by omega)];rfl
 have ow:(k.length:Int).tdiv 2=(k.length/2:Nat):=by rw [xE (by omega)];rfl
 have hE:bn [dz s,if decide ((k.length:Int)=0)=true then 12 else 0,if decide ((5:Int)<k.length)=true then 5 else 0,if decide (((k.length%2:Nat):Int)=0)=true then 2 else 0,dT k.length (-100) 100 k]=bn [dz s,pH k]:=by
  unfold pH;by_cases h1:k.length=0
  ·simp [h1,bn]
  ·by_cases h2:5<k.length
   ·simp [h1,h2,bn,show (5:Int)<k.length by omega]
   ·by_cases h3:k.length%2=0
    ·simp only [h1,h2,h3,bn,show ¬(k.length:Int)=0 by omega,show ¬(5:Int)<k.length by omega,show ((0:Nat):Int)=0 from rfl,yp,yq,yA,yN,yV]
     split<;>simp_all
    ·simp only [h1,h2,h3,bn,show ¬(k.length:Int)=0 by omega,show ¬(5:Int)<k.length by omega,show ¬((k.length%2:Nat):Int)=0 by omega,yp,yA,yN,yV]
 unfold af at e4 YX BE ⊢;constructor
 ·intro ew;rw [aq h.h9];simp only [go_sem,ya,yb,yt,ye,yi,c9,hv.pu,hv.ah,hv.one,hv.cells,hw.len,hw.pu,hw.ah,hw.one,hw.cells,e4,YX,BE,nJ h.fF,dK _ _ _ et,pk,hE,ew]
 ·intro h0;have fQ:dz s=0:=by
   simp only [bn] at h0
   split at h0
   ·assumption
   ·assumption
  have LK:pH k=0:=by
   simp only [bn,fQ,yV] at h0
   split at h0
   ·assumption
   ·assumption
  obtain ⟨a1,a2,a3⟩:=sF fQ;obtain ⟨b1,b2,b3,b4⟩:=ZC LK;have HO:=Tw h.toBuT a1 (by omega) (g:=41) (cap:=[.bi [w],.bi [v],.bi [aa (k.length/2:Nat)]]) (val:=fun c r=>aa (kW s k c r)) (by rfl) (fun _ _=>rfl) (fun _ _=>rfl) (fun _ _=>rfl) (fun c r hc hr=>s41 h hv hw rfl a1 a2 a3 rfl b1 b2 b4 hc hr);have hT:=Cd (n:=s.length) (fun c r=>kW s k c r);have aiy:=XL h.toSq hT (by rw [lL];omega) (fun i hi=>by
   rw [lL] at hi;rw [FL hi];simp;omega) (m:=1000) (by decide) (by decide)
  rw [lL,show fL s.length (fun c r=>kW s k c r)=Gc s k s.length s.length from rfl,abH (fun r hr=>by
   simp only [Gc,vv] at hr;obtain ⟨i,_,rfl⟩:=hr
   simp [anb])] at aiy
  rw [aq h.h9]
  simp only [go_sem,ya,yb,yt,ye,yi,c9,hv.len,hv.pu,hv.ah,hv.one,hv.cells,hw.len,hw.pu,hw.ah,hw.one,hw.cells,e4,YX,BE,nJ h.fF,dK _ _ _ et,pk,hE,h0,eU _ _ _ et,ow,wrapN (n:=k.length/2) (by omega),HO,hT.ah,hT.shut,aiy]
  cases hb:oT (Gc s k s.length s.length) with
  | true=>simp only [go_sem,ya,yV,vn]
  | false=>simp only [go_sem,ya,yA,yN,gS]
def Ny {b x:Nat} {H:Hp} (hx:x<b):∀{fG:Hp},(∀p,p∈fG->b<=p.1)->ap (fG++H) x=ap H x
 | [],_=>rfl
 | (id,o)::r,h=>by
  have:=h (id,o) (by simp)
  simp only [yW];rw [ap,cP (by simp only at this;omega),yD,Ny hx (fun p hp=>h p (by simp [hp]))]
def abI {b x:Nat} {H:Hp} {o':Obj} (hx:x<b):∀{fG:Hp},(∀p,p∈fG->b<=p.1)->bf (fG++H) x o'=fG++bf H x o'
 | [],_=>rfl
 | (id,o)::r,h=>by
  have:=h (id,o) (by simp)
  simp only [yW];rw [bf,cP (by simp only at this;omega),yD,abI hx (fun p hp=>h p (by simp [hp]))]
def kP (v:AV) (w:List Int) (junk:List AV) (x:Int):Hp:=[(3,.cells true true true 1 [aa x]),(2,.cells true true true 1 [aa (cI w)]),(1,.cells false true true 1 junk),(0,.cells true true true 1 [v])]
def abJ {v:AV} {w:List Int} {junk:List AV} {x:Int} {B:Nat} (h:4<=B):jP B B (kP v w junk x):=⟨by omega,.inl rfl,by omega,.inl rfl,by omega,.inl rfl,by omega,.inl rfl,trivial⟩
def acJ {v:AV} {w:List Int} {junk:List AV} {x:Int} {B:Nat}:dC B (kP v w junk x)=[]:=by
 simp only [kP,dC,fA,ym,List.nil_append]
 grind
def s39 (h:Has P L 39 LZ) {v:AV} {w:List Int} (hv:bq v w) (hw:w.length<=33) (ho:cw 0 1000 w=false) (hs:0<cI w) {junk:List AV} {x:Int} (hx:0<=x/\x<=2147483646) (c r:Int) {fG:Hp} {ct:Nat} (hm:∀p,p∈fG->4<=p.1) (fI:4<=ct)
  (hb:jP ct ct fG) (hr:(dC ct fG).length<=5000):
  dR P L (D P L) (fG++kP v w junk x) ct .dyn (.fn (.f 39) [] [.ptr 3 0,.ptr 2 0,.ptr 0 0]) [aa c,aa r]=some (aa ((qd w (n5 x%cI w):Int)-(w.length/2:Nat)),fG++kP v w junk (n5 x),ct):=by
 have HP:=ZT x;have rZ:(39373*x).tmod 2147483647=n5 x:=by rw [y9 (by omega)];rfl
 have pk:(n5 x).tmod (cI w)=n5 x%cI w:=by rw [y9 (by omega)]
 have jW:(2147483647:Int)≠0:=by decide
 have et:cI w≠0:=by omega
 have LD:(2:Int)≠0:=by decide
 have ow:(w.length:Int).tdiv 2=(w.length/2:Nat):=by rw [xE (by omega)];rfl
 generalize ht:n5 x%cI w=t at pk ⊢;have Yj:0<=t:=by rw [<-ht];exact wO _ et
 have QA:t<cI w:=by rw [<-ht];exact wE _ hs
 have hp:=acn QA Yj;have g0:∀x,ap (fG++kP v w junk x) 0=some (.cells true true true 1 [v]):=fun x=>Ny (by omega) hm
 have g2:∀x,ap (fG++kP v w junk x) 2=some (.cells true true true 1 [aa (cI w)]):=fun x=>Ny (by omega) hm
 have g3:∀x,ap (fG++kP v w junk x) 3=some (.cells true true true 1 [aa x]):=fun x=>Ny (by omega) hm
 have s3:∀x y,bf (fG++kP v w junk x) 3 (.cells true true true 1 [.int .i64 y])=fG++kP v w junk y:=fun x y=>abI (by omega) hm
 have kI:∀(live:List Nat) (tm:Env) (x:Int) (bj:Nat),kA ct (dE tm live)->(fo (dE tm live)).length<=1000->bA live ⟨tm,fG++kP v w junk x,bj,ct⟩=⟨dE tm live,fG++kP v w junk x,ct,ct⟩:=fun live tm x bj h1 h2=>
  MZ h1 (Sl hb (abJ fI)) (by rw [R3,acJ,wg];omega)
 have key:=cg (P:=P) (L:=L) (live:=[4,8,9,18,19,20]) (a:=Ku)
  (I:=fun k st=>∃i:Nat,st=⟨[(4,.ptr 0 0),(8,aa (t-cI (w.take i))),(9,aa 0),(18,v),(19,aa w.length),(20,aa i)],fG++kP v w junk (n5 x),ct,ct⟩/\i+k=w.length/\∀j,j<i->cI (w.take (j+1))<=t)
  (Q:=fun ex st=>∃tm bj,st=⟨tm,fG++kP v w junk (n5 x),bj,ct⟩/\ex= .exit 0/\ab tm 9=aa ((qd w t:Int)-(w.length/2:Nat))) ?_
 ·have hnp:aK ([]++([aa c,aa r]++[AV.ptr 3 0,.ptr 2 0,.ptr 0 0]))=false:=rfl;simp only [dR,hnp,yD];have fW:∃tm,D P L LZ.body ⟨fM 0 ([]++([aa c,aa r]++[AV.ptr 3 0,.ptr 2 0,.ptr 0 0])),fG++kP v w junk x,ct,ct⟩=some (.ret,⟨tm,fG++kP v w junk (n5 x),ct,ct⟩)/\ab tm 7=aa ((qd w t:Int)-(w.length/2:Nat)):=by
   simp only [go_sem,ya,LZ,hv.len,g0,g2,g3,s3,wrap64 (n:=39373*x) (by omega) (by omega),dK _ _ _ jW,rZ,dK _ _ _ et,pk];generalize hq:D P L (.loop [4,8,9,18,19,20] Ku) _=q;obtain ⟨ex,st,rfl,tm,bj,rfl,rfl,h9⟩:=bV hq (key w.length) ⟨0,by
    rw [kI]
    ·simp only [go_sem,ya,List.take_zero,cI,Int.sub_zero];rfl
    ·simp only [go_sem,ya];exact ⟨by show 0<ct;omega,trivial,trivial,mv hv.pu,trivial,trivial,trivial⟩
    ·simp only [go_sem,ya,yb,ye,az hv.pu],by omega,fun j hj=>absurd hj (by omega)⟩
   rw [JJ,gG,K4,kI]
   ·simp only [go_sem,h9];exact ⟨_,rfl,by simp only [go_sem]⟩
   ·simp only [go_sem,h9];exact ⟨trivial,trivial⟩
   ·simp only [go_sem,ye,h9]
  obtain ⟨tm,fW,h7⟩:=fW;exact DI h fW (.inr rfl) (by show gX _ [.t 7]=_;rw [GS,Gw,h7])
 ·rintro k st ⟨i,rfl,hk,hj⟩;have hi:i<w.length:=by
   by_cases hc:i<w.length
   ·exact hc
   ·exfalso
    have:=hj (i-1) (by omega)
    rw [List.take_of_length_le (by omega)] at this;omega
  have jY:=BM (Jp ho i);have mU:=BM ho;have hg:=BS ho i hi;by_cases h1:t-cI (w.take i)<w[i]
  ·right
   simp only [go_sem,ya,Ku,hv.len,show (i:Int)<w.length by omega,hv.aY hi,h1,g0,eU _ _ _ LD,ow,wrapN (n:=w.length/2) (by omega),wrap64 (n:=(i:Int)-(w.length/2:Nat)) (by omega) (by omega)];refine ⟨_,_,rfl,by simp,_,_,rfl,rfl,?_⟩;rw [apr hi hj (by rw [sK hi];omega)];simp only [go_sem]
  ·left
   simp only [go_sem,ya,Ku,show (i:Int)<w.length by omega,hv.aY hi,h1,wrap64 (n:=t-cI (w.take i)-w[i]) (by omega) (by omega),show (i:Int)+1=((i+1:Nat):Int) from rfl,wrapN (n:=i+1) (by omega)];refine ⟨_,k-1,rfl,by omega,i+1,?_,by omega,?_⟩
   ·rw [kI]
    ·rw [sK hi];simp only [go_sem,ya,Int.sub_sub]
    ·simp only [go_sem,ya];exact ⟨by show 0<ct;omega,trivial,trivial,mv hv.pu,trivial,trivial,trivial⟩
    ·simp only [go_sem,ya,yb,ye,az hv.pu]
   ·intro j ol;by_cases e:j=i
    ·subst e;rw [sK hi];omega
    ·exact hj j (by omega)
structure DrP (P:aI) (L:Lib):Prop extends SmP P L where
 h5:Has P L 5 c5
 lH:Has P L 34 Bm
 YY:Has P L 35 QE
 YZ:Has P L 36 QF
 Y0:Has P L 37 QG
 Me:Has P L 38 LY
 Y1:Has P L 39 LZ
def alT {l:List Int}:bn (l.map fun x=>if x<0\/1000<x then 3 else 0)=if cw 0 1000 l=true then 3 else 0:=by
 induction l with
 | nil=>rfl
 | cons a r ih=>
  simp only [y8,bn,cw,ih]
  grind
def s5 (h:DrP P L) {v:AV} {w:List Int} (hv:bq v w) (hl:w.length<=1000000) (key side:Int):
  (nP key side w≠0->af P L 5 [aa key,aa side,v] (.aw [.ae,aa (nP key side w)]))/\
  (nP key side w=0->∃n:Nat,side=n/\0<n/\n<=16/\af P L 5 [aa key,aa side,v] (.aw [gS (fun c r=>aa (gZ key w (r*n+c))) n,aa 0])):=by
 have BE:∀a b c d e:Int,af P L 33 [.aO true 5 [.int .i64 a,.int .i64 b,.int .i64 c,.int .i64 d,.int .i64 e]] (aa (bn [a,b,c,d,e])):=fun a b c d e=>qV h.nK (fN true [a,b,c,d,e]) (by simp)
 have et:(2:Int)≠0:=by decide
 have pk:(w.length:Int).tmod 2=(w.length%2:Nat):=by rw [y9 (by omega)];rfl
 obtain ⟨r35,RB,i35⟩:=s35 h.YY hv hl (g:=36) (f:=fun x=>if x<0\/1000<x then 3 else 0) (fun x=>s36 h.YZ h.lH h.fF x);have E5:=qV h.nK i35 (by simpa using hl);rw [alT] at E5;have hE:bn [if key<1\/2147483646<key then 3 else 0,if side<1\/16<side then 3 else 0,if decide ((w.length:Int)=0)=true then 12 else 0,if decide ((33:Int)<w.length)=true then 5 else 0,if decide (((w.length%2:Nat):Int)=0)=true then 2 else 0]=
   if key<1\/2147483646<key then 3 else if side<1\/16<side then 3 else if w.length=0 then 12 else if 33<w.length then 5 else if w.length%2=0 then 2 else 0:=by
  by_cases h1:key<1\/2147483646<key
  ·simp [h1,bn]
  ·by_cases h2:side<1\/16<side
   ·simp [h1,h2,bn]
   ·by_cases h3:w.length=0
    ·simp [h1,h2,h3,bn]
    ·by_cases h4:33<w.length
     ·simp [h1,h2,h3,h4,bn,show (33:Int)<w.length by omega]
     ·by_cases h5:w.length%2=0
      ·simp [h1,h2,h3,h4,h5,bn,show ¬(33:Int)<w.length by omega]
      ·simp only [h1,h2,h3,h4,h5,bn,show ¬(33:Int)<w.length by omega,show ¬(w.length:Int)=0 by omega,show ¬((w.length%2:Nat):Int)=0 by omega,yp,yA,yN,yV]
 unfold af at BE RB E5 ⊢;generalize HQ:(if key<1\/2147483646<key then (3:Int) else if side<1\/16<side then 3 else if w.length=0 then 12 else if 33<w.length then 5 else if w.length%2=0 then 2 else 0)=E at hE;have zE:nP key side w=if E≠0 then E else if cw 0 1000 w=true then 3 else if cI w=0 then 6 else 0:=by
  rw [<-HQ];unfold nP;by_cases h1:key<1\/2147483646<key
  ·simp [h1]
  ·by_cases h2:side<1\/16<side
   ·simp [h1,h2]
   ·by_cases h3:w.length=0
    ·simp [h1,h2,h3]
    ·by_cases h4:33<w.length
     ·simp [h1,h2,h3,h4]
     ·by_cases h5:w.length%2=0
      ·simp [h1,h2,h3,h4,h5]
      ·simp [h1,h2,h3,h4,h5]
 have aCz:∀hp,freeze 998 hp (.fn (.f 36) [] [])=some (.fn (.f 36) [] [],hp):=fun hp=>by simp only [go_sem]
 by_cases h0:E≠0
 ·rw [yF h0] at zE;rw [zE];refine ⟨fun _=>?_,fun h=>absurd h h0⟩;rw [aq h.h5];simp only [go_sem,ya,yb,yt,ye,yi,c5,hv.len,hv.pu,hv.one,hv.cells,Hz h.lH h.fF,nJ h.fF,dK _ _ _ et,pk,BE,hE,h0]
 ·rw [yr h0] at zE;have RC:E=0:=by omega
  by_cases h1:cw 0 1000 w=true
  ·rw [yF h1] at zE E5;rw [zE];refine ⟨fun _=>?_,fun h=>absurd h (by decide)⟩;rw [aq h.h5];simp only [go_sem,ya,yb,yt,ye,yi,c5,hv.len,hv.pu,hv.ah,hv.one,hv.cells,Hz h.lH h.fF,nJ h.fF,dK _ _ _ et,pk,BE,hE,RC,RB,i35.ah,E5,vn]
  ·rw [yr h1] at zE E5;have ho:cw 0 1000 w=false:=by simpa using h1
   have af1:(1<=key/\key<=2147483646)/\(1<=side/\side<=16)/\w.length<=33:=by
    rw [RC] at HQ;by_cases g1:key<1\/2147483646<key
    ·simp [g1] at HQ
    ·by_cases g2:side<1\/16<side
     ·simp [g1,g2] at HQ
     ·by_cases g3:w.length=0
      ·simp [g1,g2,g3] at HQ
      ·by_cases g4:33<w.length
       ·simp [g1,g2,g3,g4] at HQ
       ·omega
   have Y2:=s37 h.Y0 h.Me hv af1.2.2 ho;unfold af at Y2;by_cases h2:cI w=0
   ·rw [yF h2] at zE;rw [zE];refine ⟨fun _=>?_,fun h=>absurd h (by decide)⟩;rw [aq h.h5];simp only [go_sem,ya,yb,yt,ye,yi,c5,hv.len,hv.pu,hv.ah,hv.one,hv.cells,Hz h.lH h.fF,nJ h.fF,dK _ _ _ et,pk,BE,hE,RC,RB,i35.ah,E5,Y2,h2]
   ·rw [yr h2] at zE;rw [zE];refine ⟨fun h=>absurd rfl h,fun _=>?_⟩;have hb:=BM ho;obtain ⟨n,rfl⟩:∃n:Nat,side=n:=⟨side.toNat,by omega⟩;refine ⟨n,rfl,by omega,by omega,?_⟩;rw [aq h.h5];simp only [go_sem,ya,yb,yt,ye,yi,c5,hv.len,hv.pu,hv.ah,hv.one,hv.cells,Hz h.lH h.fF,nJ h.fF,dK _ _ _ et,pk,BE,hE,RC,RB,i35.ah,E5,Y2,h2];generalize hj:[AV.int .i64 (if key<1\/2147483646<key then 3 else 0),_,_,_,_]=junk;have hf:Kj P L 4 n (.fn (.f 39) [] [.ptr 3 0,.ptr 2 0,.ptr 0 0]) (fun c r=>aa (gZ key w (r*n+c))) (fun k=>kP v w junk (zd key k)):=by
     refine ⟨by omega,fun k=>⟨⟨trivial,show 3<4 by omega,show 2<4 by omega,show 0<4 by omega,trivial⟩,by simp [refs,eV],rfl,abJ (yB 4),fun B=>by rw [acJ];simp⟩,fun _ _=>rfl,fun _ _=>rfl,fun c r hc hr fG ct hm fI hb Dm=>?_⟩
     have hx:=akU (key:=key) (by omega) (r*n+c)
     have:=s39 (P:=P) (L:=L) h.Y1 hv af1.2.2 ho (by omega) (junk:=junk) hx c r hm fI hb Dm
     rw [this];unfold gZ;rw [alH]
    obtain ⟨tm,ct,HO,h4⟩:=abD (P:=P) (L:=L) h.toBuT (b:=4) (n:=n) (by omega) hf (fun p hp=>by
     simp only [kP,List.mem_cons,List.not_mem_nil,ybO] at hp
     rcases hp with rfl | rfl | rfl | rfl<;>simp)
    have AI:dR P L (D P L) [(3,.cells true true true 1 [.int .i64 key]),(2,.cells true true true 1 [.int .i64 (cI w)]),(1,.cells false true true 1 junk),(0,.cells true true true 1 [v])] 4 .heap (.fn (.f 40) [] []) [aa n,.fn (.f 39) [] [.ptr 3 0,.ptr 2 0,.ptr 0 0]]=
      some (.ak (4+2) 0 n,kJ 4 n (.fn (.f 39) [] [.ptr 3 0,.ptr 2 0,.ptr 0 0]) (fun c r=>aa (gZ key w (r*n+c))) (kP v w junk (zd key (n*n))),ct):=
     DI (vals:=[aa n,.fn (.f 39) [] [.ptr 3 0,.ptr 2 0,.ptr 0 0]]) h.Rz HO (.inr rfl) (by show gX _ [.t 4]=_;rw [GS,Gw,h4])
    rw [AI]
    simp only [go_sem,ya,yb,anI (b:=4) (n:=n) (by omega) (by omega)]
end
end
section
open Go (IntKind)
section
variable {P:aI} {L:Lib}
structure MI (P:aI) (L:Lib):Prop extends SmP P L where
 jZ:Has P L 20 LW
 Dn:Has P L 51 QM
 HR:Has P L 58 QQ
 lH:Has P L 34 Bm
def dd (n:Int):Int:=if n< -999999999\/999999999<n then 3 else 0
def RD (h:Has P L 51 QM) (lH:Has P L 34 Bm) (fF:Has P L 31 Bl) (n:Int):af P L 51 [aa n] (aa (dd n)):=by
 unfold af;rw [aq h];simp only [go_sem,ya,QM,Hz lH fF,dd]
def s58 (h:MI P L) {v:AV} {s:List (List Int)} (hv:bU v s) {n:Nat} (hn:s.length=n) (h0:0<n) (hl:n<=16) (hr:∀i (hi:i<s.length),s[i].length=n) {a b:Int} (ha:dd a=0) (hb:dd b=0) {c r:Nat} (hc:c<n) (bW:r<n):
  af P L 58 [aa c,aa r,.bi [v],.bi [aa a],.bi [aa b]] (aa (bQ s (c-a) (r-b))):=by
 have ha: -999999999<=a/\a<=999999999:=by unfold dd at ha;split at ha<;>omega
 have hb: -999999999<=b/\b<=999999999:=by unfold dd at hb;split at hb<;>omega
 have MJ:=XM h.MH h.oS hv hn h0 (by omega) hr (c-a) (r-b);unfold af at MJ ⊢;rw [aq h.HR]
 simp only [go_sem,ya,QQ,hv.ah,wrap64 (n:=(c:Int)-a) (by omega) (by omega),wrap64 (n:=(r:Int)-b) (by omega) (by omega),MJ]
def s20 (h:MI P L) {v:AV} {s:List (List Int)} (hv:bU v s) (hl:s.length<=1000000) (hr:∀i (hi:i<s.length),s[i].length<=1000000) (a b:Int):
  (bn [dz s,dd a,dd b]≠0->af P L 20 [v,aa a,aa b] (.aw [.ae,aa (bn [dz s,dd a,dd b])]))/\
  (bn [dz s,dd a,dd b]=0->af P L 20 [v,aa a,aa b] (.aw [gS (fun c r=>aa (bQ s (c-a) (r-b))) s.length,aa 0])):=by
 have e4:=s4 h.toSq hv hl hr;have E6:∀a b c:Int,af P L 33 [.aO true 3 [.int .i64 a,.int .i64 b,.int .i64 c]] (aa (bn [a,b,c])):=fun a b c=>qV h.nK (fN true [a,b,c]) (by simp)
 have E7:=fun n=>RD h.Dn h.lH h.fF n
 unfold af at e4 E6 E7 ⊢;constructor
 ·intro ew;rw [aq h.jZ];simp only [go_sem,ya,yb,yt,ye,yi,LW,hv.pu,hv.ah,hv.one,hv.cells,e4,E7,E6,ew]
 ·intro h0;have fQ:dz s=0:=by
   simp only [bn] at h0
   split at h0
   ·assumption
   ·assumption
  have MK:dd a=0:=by
   simp only [bn,fQ,yV] at h0
   split at h0
   ·assumption
   ·assumption
  have dJ:dd b=0:=by
   simp only [bn,fQ,MK,yV] at h0
   split at h0
   ·assumption
   ·assumption
  obtain ⟨a1,a2,a3⟩:=sF fQ;have HO:=Tw h.toBuT a1 (by omega) (g:=58) (cap:=[.bi [v],.bi [aa a],.bi [aa b]]) (val:=fun c r=>aa (bQ s (c-a) (r-b))) (by simp [aK,aS]) (fun _ _=>rfl) (fun _ _=>rfl) (fun _ _=>rfl) (fun c r hc hr=>s58 h hv rfl a1 a2 (fun i hi=>(oE a3 i hi).1) MK dJ hc hr);unfold af at HO;rw [aq h.jZ];simp only [go_sem,ya,yb,yt,ye,yi,LW,hv.len,hv.pu,hv.ah,hv.one,hv.cells,e4,E7,E6,h0,HO,gS]
end
end
section
open Go (IntKind)
def FC {a b:Nat} (h:an a=an b):a=b:=by
 have h1:=sN a;rw [h,sN b] at h1;exact (vj h1).symm
def aed:∀(k n:Nat),n<k->n≠0->∃b r,an n=b::r/\b≠48
 | 0,n,h,_=>absurd h (ua n)
 | k+1,n,h,h0=>by
  by_cases h1:n<10
  ·exact ⟨48+n,[],oD h1,by omega⟩
  ·obtain ⟨b,r,e,hb⟩:=aed k (n/10) (by omega) (by omega);exact ⟨b,r++[48+n%10],by rw [pJ (by omega),e];rfl,hb⟩
def acK (n:Nat):dX (an n)=true:=by
 unfold dX;rw [Ac,xv];by_cases h0:n=0
 ·subst h0;decide
 ·obtain ⟨b,r,e,hb⟩:=aed (n+1) n (by omega) h0;rw [e]
  have:Nat.beq b 48=false:=by
   cases hq:Nat.beq b 48 with
   | false=>rfl
   | true=>exact absurd (Nat.eq_of_beq_eq_true hq) hb
  simp [this]
def acL (n:Nat):fP (an n)=n:=by unfold fP;rw [sN];rfl
def NV {z:Int} (h:¬z<0):aW z=an z.natAbs:=by
 obtain ⟨m,rfl⟩:∃m:Nat,z=m:=⟨z.toNat,by omega⟩;rw [lJ,wk]
def Pa (r:Rat):RT r=aW r.num++ju r.den:=rfl
def acM (r:Rat):cr (RT r)=(aW r.num).length:=by rw [Pa,I9,Si];rfl
def af2 {r:Rat} (h1:(an r.num.natAbs).length<=600) (h2:(an r.den).length<=600):aX (RT r)=0:=by
 have key:∀neg:Bool,(neg=true->r.num.natAbs≠0)->nD neg (an r.num.natAbs++ju r.den)=0:=by
  intro neg fY;have hco:Nat.gcd r.num.natAbs r.den=1:=r.reduced;have gN:r.den≠0:=r.den_nz;generalize r.num.natAbs=m at*
  generalize r.den=d at*
  have hs:cr (an m++ju d)=(an m).length:=by rw [I8 _ (Ac m),Si];rfl
  have c1:¬((true=false)\/(neg=true/\an m=[48])):=by
   rintro (h | ⟨h,h'⟩)
   ·cases h
   ·exact fY h (FC (h'.trans (by decide)))
  unfold nD;rw [hs,List.take_left,acK,yr c1];by_cases hd:d=1
  ·have hr:ju d=[]:=yF hd;rw [hr,wg,yr (by omega),yr (by omega),yr (by omega)]
  ·have hr:ju d=47::an d:=yr hd;have iO:(an m++ju d).drop ((an m).length+1)=an d:=by
    rw [hr,show an m++47::an d=(an m++[47])++an d by simp,show (an m).length+1=(an m++[47]).length by simp,tW]
   have hl:(an m++ju d).length=(an m).length+1+(an d).length:=by rw [hr];simp;omega
   rw [iO,hl,acK,acL,acL];have n0:an d≠[48]:=fun e=>gN (FC (e.trans (by decide)))
   have n1:an d≠[49]:=fun e=>hd (FC (e.trans (by decide)))
   rw [yr (by simp [n0,n1]),yr (by omega),yr (by simp [hco])]
 rw [Pa];by_cases h0:r.num<0
 ·rw [kS h0];show (if 45=45 then nD true (an r.num.natAbs++ju r.den) else nD false (45::(an r.num.natAbs++ju r.den)))=0
  rw [yF rfl];exact key true (fun _=>by omega)
 ·rw [NV h0];have k:=key false (fun h=>by cases h);have hp:=rn r.num.natAbs;have mr:=Ac r.num.natAbs
  cases hq:an r.num.natAbs with
  | nil=>rw [hq] at hp;simp at hp
  | cons b t=>
   rw [hq] at k mr
   have:=SL mr
   show (if b=45 then nD true (t++ju r.den) else nD false (b::(t++ju r.den)))=0
   rw [yr (by omega)];exact k
def ap5 {a b:Int} (h:aW a=aW b):a=b:=by
 have hd:∀{z w:Int},z<0->¬w<0->aW z≠aW w:=by
  intro z w h1 h2 e;rw [kS h1,NV h2] at e
  have:=Ac w.natAbs
  rw [<-e] at this
  have:=SL this
  omega
 by_cases h1:a<0<;>by_cases h2:b<0
 ·rw [kS h1,kS h2,tS] at h
  have:=FC h.2
  omega
 ·exact absurd h (hd h1 h2)
 ·exact absurd h.symm (hd h2 h1)
 ·rw [NV h1,NV h2] at h
  have:=FC h
  omega
def avf {a b:Rat} (h:RT a=RT b):a=b:=by
 have hs:=acM a;rw [h,acM b] at hs;rw [Pa,Pa] at h;obtain ⟨h1,h2⟩:=List.append_inj h hs.symm;refine Rat.ext (ap5 h1) ?_;have hp:∀n,an n≠[]:=fun n e=>by have:=rn n;rw [e] at this;simp at this
 unfold ju at h2;by_cases ha:a.den=1<;>by_cases hb:b.den=1
 ·rw [ha,hb]
 ·rw [yF ha,yr hb] at h2;cases h2
 ·rw [yr ha,yF hb] at h2;cases h2
 ·rw [yr ha,yr hb,tS] at h2;exact FC h2.2
def ap6 {r:Rat} (h1:(an r.num.natAbs).length<=600) (h2:(an r.den).length<=600):aB (RT r)=r:=(avf (DD (af2 h1 h2)).1).symm
def Gi {r:Rat} {K:Nat} (h:Hq K r) (hK:K<=1800):(an r.num.natAbs).length<=600/\(an r.den).length<=600:=by
 refine ⟨Sm (B:=K) hK (by decide) h.1,Sm (B:=K) hK (by decide) ?_⟩
 have:=h.2
 unfold Bd at this
 rwa [wk] at this
def Ce {r:Rat} {K:Nat} (h:Hq K r) (hK:K<=1800):aX (RT r)=0:=af2 (Gi h hK).1 (Gi h hK).2
def Ec {r:Rat} {K:Nat} (h:Hq K r) (hK:K<=1800):aB (RT r)=r:=ap6 (Gi h hK).1 (Gi h hK).2
def Cr {r:Rat} {K:Nat} (h:Hq K r) (hK:K<=1800):LG r=false:=by
 obtain ⟨h1,h2⟩:=Gi h hK;unfold LG LN;rw [wk,yR (by omega),yR (by omega)];rfl
noncomputable def dh (k:Nat) (s:List Nat):Bool:=decide (s.length<=2*k+2)&&(decide (aX s=0)&&(decide ((an (aB s).num.natAbs).length<=k)&&decide ((an (aB s).den).length<=k)))
def Uh {s:List Nat} (h:dh 6 s=true):s.length<=14/\aX s=0/\Hq 24 (aB s):=by
 unfold dh at h;simp only [Bool.and_eq_true,wN] at h;obtain ⟨h1,h2,h3,h4⟩:=h
 exact ⟨by omega,h2,Nw (k:=6) (by omega) (by omega),Nw (z:=((aB s).den:Int)) (k:=6) (by rw [wk];omega) (by omega)⟩
section
variable {P:aI} {L:Lib}
def awK (h:Rm P L) (mi:Has P L 359 qj) {k:Nat} (hk:k<=1000) {s:List Nat} (hs:s.length<9223372036854775808):af P L 359 [.str s,aa k] (.bool (dh k s)):=by
 unfold af dh;rw [aq mi];by_cases h1:s.length<=2*k+2
 ·have e1:=G3 h (s:=s) (by omega);unfold af at e1;rw [xi (show s.length<=2*k+2 from h1),xv];by_cases h2:aX s=0
  ·rw [h2] at e1;obtain ⟨hR,_⟩:=DD h2;have kr:=kj h2 (yB 2400);obtain ⟨e2,e3,e4⟩:=asd h kr (by omega);rw [<-hR] at e2 e4;have l1:=Oi kr.1;have l2:=Oi kr.2;rw [wk] at l2;rw [xi h2,xv];by_cases h3:(an (aB s).num.natAbs).length<=k
   ·rw [xi h3,xv];by_cases h4:(an (aB s).den).length<=k
    ·rw [xi h4]
     simp only [go_sem,ya,qj,wrap64 (n:=2*(k:Int)) (by omega) (by omega),wrap64 (n:=2*(k:Int)+2) (by omega) (by omega),yq,show (s.length:Int)<=2*(k:Int)+2 by omega,e1,e2,e3,e4,show ((an (aB s).num.natAbs).length:Int)<=(k:Int) by omega,show ((an (aB s).den).length:Int)<=(k:Int) by omega]
    ·rw [yR h4]
     simp only [go_sem,ya,qj,wrap64 (n:=2*(k:Int)) (by omega) (by omega),wrap64 (n:=2*(k:Int)+2) (by omega) (by omega),yq,show (s.length:Int)<=2*(k:Int)+2 by omega,e1,e2,e3,e4,show ((an (aB s).num.natAbs).length:Int)<=(k:Int) by omega,show ¬((an (aB s).den).length:Int)<=(k:Int) by omega,yp]
   ·rw [yR h3,xA]
    simp only [go_sem,ya,qj,wrap64 (n:=2*(k:Int)) (by omega) (by omega),wrap64 (n:=2*(k:Int)+2) (by omega) (by omega),yq,show (s.length:Int)<=2*(k:Int)+2 by omega,e1,e2,e3,show ¬((an (aB s).num.natAbs).length:Int)<=(k:Int) by omega,yp]
  ·rw [yR h2,xA];have W4:¬aX s=0:=h2
   simp only [go_sem,ya,qj,wrap64 (n:=2*(k:Int)) (by omega) (by omega),wrap64 (n:=2*(k:Int)+2) (by omega) (by omega),yq,show (s.length:Int)<=2*(k:Int)+2 by omega,e1,W4,yp]
 ·rw [yR (show ¬s.length<=2*k+2 from h1),xA]
  simp only [go_sem,ya,qj,wrap64 (n:=2*(k:Int)) (by omega) (by omega),wrap64 (n:=2*(k:Int)+2) (by omega) (by omega),show ¬(s.length:Int)<=2*(k:Int)+2 by omega,yp]
end
end
section
open Go (IntKind)
section
variable {P:aI} {L:Lib}
def G7 (a:Rat):AV:=if LG a=true then .aw [.str [],aa 4] else .aw [.str (RT a),aa 0]
end
end
section
open Go (IntKind)
def Qe (s:List (List Int)) (x y:Rat):Rat:=WA s (x.floor%s.length) (y.floor%s.length) (Dl x) (Dl y)
def asj {s:List (List Int)} {i j:Int} {f g:Rat} {K:Nat} (h:∀c r,-1000<=bQ s c r/\bQ s c r<=1000) (kf:Hq K f) (kg:Hq K g):Hq (8*K+300) (WA s i j f g):=
 (UF (G4.mono (yB _)) (aec (i:=i) (j:=j) h kf kg)).mono (by simp only [nE,yy,yG];omega)
def af3 {s:List (List Int)} {x y:Rat} {K:Nat} (h:∀c r,-1000<=bQ s c r/\bQ s c r<=1000) (kx:Hq K x) (ky:Hq K y) (hK:1<=K):Hq (16*K+400) (Qe s x y):=
 (asj h (O9 kx hK) (O9 ky hK)).mono (by omega)
section
variable {P:aI} {L:Lib}
end
end
section
open Go (IntKind)
def sY {w:AV} {s:List (List Int)} (hw:bU w s) (h:dz s=0):HN w s s.length:=by
 obtain ⟨a1,a2,a3⟩:=sF h;exact ⟨hw,rfl,a1,a2,fun i hi=>(oE a3 i hi).1,a3⟩
def eF (w:AV) (hh sc st ox oy wx wy:List Nat):AV:= .agg [w,.str hh,.str sc,.str st,.str ox,.str oy,.str wx,.str wy]
noncomputable def lC (s:List (List Int)) (hh sc st ox oy wx wy:List Nat):Int:=bn [dz s,iZ hh 0,iZ sc 1,aX st,bn [aX ox,aX oy],bn [aX wx,aX wy]]
def M1 {a:Int} {l:List Int}:bn (a::l)=0↔a=0/\bn l=0:=by
 simp only [bn]
 grind
def Nj:bn []=0:=rfl
def Oj {s:List (List Int)} {hh sc st ox oy wx wy:List Nat} (h:lC s hh sc st ox oy wx wy=0):dz s=0/\(aX hh=0/\0<=cA (aB hh).num)/\(aX sc=0/\1<=cA (aB sc).num)/\aX st=0/\(aX ox=0/\aX oy=0)/\aX wx=0/\aX wy=0:=by
 unfold lC at h;simp only [M1,Nj,wF] at h;obtain ⟨h1,h2,h3,h4,⟨h5,h6⟩,h7,h8⟩:=h;exact ⟨h1,Uc h2,Uc h3,h4,⟨h5,h6⟩,h7,h8⟩
noncomputable def rQ (s:List (List Int)) (hh sc st ox oy wx wy dx dy sh x y:List Nat) (fr:Int):Int:=bn [lC s hh sc st ox oy wx wy,rF dx dy sh,bn [aX x,aX y],dd fr]
noncomputable def A7 (s:List (List Int)) (hh sc st ox oy wx wy dx dy sh x y:List Nat) (fr:Int):Int:=
 if rQ s hh sc st ox oy wx wy dx dy sh x y fr≠0 then rQ s hh sc st ox oy wx wy dx dy sh x y fr else if pV (aB sh) (aB hh)=true then 0 else 31
noncomputable def nF (hh sc o w d sh x:List Nat) (fr:Int):Rat:=EB (aB sc) (jO (aB sh) (aB hh)*aB x+aB hh*aB d) (aB o) (aB w) fr
structure Lp (P:aI) (L:Lib):Prop extends Sp P L,Vl P L,MI P L where
 Y3:Has P L 24 QD
 Y4:Has P L 57 QP
 Y5:Has P L 66 QU
 Y6:Has P L 67 Xw
 ay6:Has P L 115 VB
 Ww:Has P L 116 PA
section
variable {P:aI} {L:Lib}
def aiz (h:Lp P L) {w:AV} {s:List (List Int)} (hw:bU w s) (hl:s.length<=1000000) (hr:∀i (hi:i<s.length),s[i].length<=1000000) {hh sc st ox oy wx wy:List Nat} (l1:hh.length<=1000000000) (l2:sc.length<=1000000000) (l3:st.length<=1000000000) (l4:ox.length<=1000000000) (l5:oy.length<=1000000000) (l6:wx.length<=1000000000) (l7:wy.length<=1000000000):
  af P L 115 [eF w hh sc st ox oy wx wy] (aa (lC s hh sc st ox oy wx wy)):=by
 have e1:=s4 h.toSq hw hl hr;have e2:=Yx h.toSp l1 0;have e3:=Yx h.toSp l2 1;have e4:=Ro h.toCk l3;have e5:=Rx h.toSp l4 l5;have e6:=Rx h.toSp l6 l7;have e7:=qV h.toSp.nK (fN true [dz s,iZ hh 0,iZ sc 1,aX st,bn [aX ox,aX oy],bn [aX wx,aX wy]]) (by simp);simp only [yy,yG,yd,yb,y8,wq] at e7;have o1:=hw.one;have p1:=hw.pu;have d2:∀a b c d e f g i:AV,xz 2 [a,b,c,d,e,f,g,i]=[c,d,e,f,g,i]:=fun _ _ _ _ _ _ _ _=>rfl
 have d3:∀a b c d e f g i:AV,xz 3 [a,b,c,d,e,f,g,i]=[d,e,f,g,i]:=fun _ _ _ _ _ _ _ _=>rfl
 have d6:∀a b c d e f g i:AV,xz 6 [a,b,c,d,e,f,g,i]=[g,i]:=fun _ _ _ _ _ _ _ _=>rfl
 unfold af at e1 e2 e3 e4 e5 e6 e7 ⊢;rw [aq h.ay6];unfold eF;simp only [go_sem,ya,yb,yt,ye,yi,VB,aG,o1,p1,hw.ah,aZ,yd,cC,d2,d3,nT,d6,fy,bl,yj,e1,e2,e3,e4,e5,e6,e7];rfl
def m66 (h:Lp P L) {w:AV} {s:List (List Int)} (hw:bU w s) (hl:s.length<=1000000) (hr:∀i (hi:i<s.length),s[i].length<=1000000) {hh sc st ox oy wx wy dx dy sh x y:List Nat} {fr:Int} (l1:hh.length<=1000000000) (l2:sc.length<=1000000000) (l3:st.length<=1000000000) (l4:ox.length<=1000000000) (l5:oy.length<=1000000000) (l6:wx.length<=1000000000) (l7:wy.length<=1000000000) (l8:dx.length<=1000000000) (l9:dy.length<=1000000000) (la:sh.length<=1000000000) (lb:x.length<=1000000000) (lc:y.length<=1000000000):
  af P L 66 [eF w hh sc st ox oy wx wy,jm dx dy sh,gF x y,aa fr] (aa (A7 s hh sc st ox oy wx wy dx dy sh x y fr)):=by
 have e1:=aiz h hw hl hr l1 l2 l3 l4 l5 l6 l7;have e2:=m60 h.toSp l8 l9 la;have e3:=Rx h.toSp lb lc;have e4:=RD h.Dn h.lH h.toSp.fF fr;have e5:=qV h.toSp.nK (fN true [lC s hh sc st ox oy wx wy,rF dx dy sh,bn [aX x,aX y],dd fr]) (by simp);simp only [yy,yG,yd,yb,y8,wq] at e5;rw [show bn [lC s hh sc st ox oy wx wy,rF dx dy sh,bn [aX x,aX y],dd fr]=rQ s hh sc st ox oy wx wy dx dy sh x y fr from rfl] at e5;rw [show bn [bn [aX dx,aX dy],iZ sh 0]=rF dx dy sh from rfl] at e2;have o1:=hw.one;have p1:=hw.pu;have kQ:∀a b c d e f g i:AV,eY 8 true [a,b,c,d,e,f,g,i]=some (.agg [a,b,c,d,e,f,g,i]):=fun _ _ _ _ _ _ _ _=>rfl
 unfold af at e1 e2 e3 e4 e5 ⊢;rw [aq h.Y5];unfold A7;by_cases h0:rQ s hh sc st ox oy wx wy dx dy sh x y fr=0
 ·rw [yr (by simp [h0])];have h1:=h0;unfold rQ at h1;simp only [M1,Nj,wF] at h1;obtain ⟨h2,h3,⟨h4,h5⟩,h6⟩:=h1;obtain ⟨q1,⟨q2,_⟩,_⟩:=Oj h2;obtain ⟨q3,q4,q5,_⟩:=acG h3;obtain ⟨v,e6,hv⟩:=A6 h.toSp q2;have e7:=m63 h.toSp (x:=dx) (y:=dy) q5 hv (kj q2 (yB 2400)) (by decide);have e8:=nJ h.toSp.fF (!(pV (aB sh) (aB hh))) 31;obtain ⟨v1,v2,v3,v4,rfl,gv⟩:=hv.gen;rw [h0] at e5;unfold eF jm gF at*
  simp only [go_sem,ya,yb,yt,ye,yi,QU,aG,o1,p1,hw.ah,aZ,yd,cC,kQ,fy,lh,bl,yj,e1,e2,e3,e4,e5,e6,bB,gv.ah,e7,e8];cases pV (aB sh) (aB hh)<;>rfl
 ·rw [yF h0];unfold eF jm gF at*
  simp only [go_sem,ya,yb,yt,ye,yi,QU,aG,o1,p1,hw.ah,yd,kQ,fy,lh,bl,yj,e1,e2,e3,e4,e5,h0,yp,yI]
structure Ed (s:List (List Int)) (hh sc st ox oy wx wy dx dy sh x y:List Nat) (fr:Int):Prop where
 scr:dz s=0
 hh:aX hh=0
 sc:aX sc=0
 st:aX st=0
 ox:aX ox=0
 oy:aX oy=0
 wx:aX wx=0
 wy:aX wy=0
 dx:aX dx=0
 dy:aX dy=0
 sh:aX sh=0
 x:aX x=0
 y:aX y=0
 fr:dd fr=0
def asl {s:List (List Int)} {hh sc st ox oy wx wy dx dy sh x y:List Nat} {fr:Int} (h0:rQ s hh sc st ox oy wx wy dx dy sh x y fr=0):Ed s hh sc st ox oy wx wy dx dy sh x y fr:=by
 unfold rQ at h0;simp only [M1,Nj,wF] at h0;obtain ⟨h2,h3,⟨h4,h5⟩,h6⟩:=h0;obtain ⟨q1,⟨q2,_⟩,⟨q3,_⟩,q4,⟨q5,q6⟩,q7,q8⟩:=Oj h2;obtain ⟨r1,r2,r3,_⟩:=acG h3;exact ⟨q1,q2,q3,q4,q5,q6,q7,q8,r1,r2,r3,h4,h5,h6⟩
def SS {n:Int} (h:dd n=0): -999999999<=n/\n<=999999999:=by
 unfold dd at h;split at h<;>omega
def aee {hh sc o w d sh x:List Nat} {fr:Int} (h1:aX hh=0) (h2:aX sc=0) (h3:aX o=0) (h4:aX w=0) (h5:aX d=0) (h6:aX sh=0) (h7:aX x=0) (h8:dd fr=0):Hq 22000 (nF hh sc o w d sh x fr):=by
 have:=SS h8
 have H:=fun {t:List Nat} (c:aX t=0)=>kj c (yB 2400)
 exact (avd (H h2) (Ug (H h6) (H h1) (H h7) (H h5)) (H h3) (H h4) (by omega) (by omega)).mono (by omega)
def Ed.kX {s:List (List Int)} {hh sc st ox oy wx wy dx dy sh x y:List Nat} {fr:Int} (h:Ed s hh sc st ox oy wx wy dx dy sh x y fr):Hq 22000 (nF hh sc ox wx dx sh x fr):=aee h.hh h.sc h.ox h.wx h.dx h.sh h.x h.fr
def Ed.kY {s:List (List Int)} {hh sc st ox oy wx wy dx dy sh x y:List Nat} {fr:Int} (h:Ed s hh sc st ox oy wx wy dx dy sh x y fr):Hq 22000 (nF hh sc oy wy dy sh y fr):=aee h.hh h.sc h.oy h.wy h.dy h.sh h.y h.fr
noncomputable def nN (s:List (List Int)) (hh sc st ox oy wx wy dx dy sh x y:List Nat) (fr:Int):Rat:=aB st*Qe s (nF hh sc ox wx dx sh x fr) (nF hh sc oy wy dy sh y fr)
def awL {s:List (List Int)} {hh sc st ox oy wx wy dx dy sh x y:List Nat} {fr:Int} (k:Ed s hh sc st ox oy wx wy dx dy sh x y fr):Hq 400000 (nN s hh sc st ox oy wx wy dx dy sh x y fr):=by
 obtain ⟨a1,a2,a3⟩:=sF k.scr;exact ((kj k.st (yB 2400)).mul (af3 (fun c r=>Fj a3 (by decide) c r) k.kX k.kY (by omega))).mono (by omega)
def m67 (h:Lp P L) {w:AV} {s:List (List Int)} (hw:bU w s) {hh sc st ox oy wx wy dx dy sh x y:List Nat} {fr:Int} (k:Ed s hh sc st ox oy wx wy dx dy sh x y fr):
  ∃r,af P L 67 [eF w hh sc st ox oy wx wy,jm dx dy sh,gF x y,aa fr] r/\cK r (nN s hh sc st ox oy wx wy dx dy sh x y fr):=by
 have hS:=sY hw k.scr;have hf:=SS k.fr;have o1:=hw.one;have p1:=hw.pu;have n0:=hS.pos;have n1:=hS.le;obtain ⟨a,e1,ha⟩:=A6 h.toSp k.st;obtain ⟨b,e2,hb⟩:=ay1 h.toSp h.Ww (scr:=w) (st:= .str st) (fr:=fr) o1 p1 rfl rfl k.dx k.dy k.sh k.hh k.sc k.ox k.oy k.wx k.wy k.x k.y (by omega) (by omega);obtain ⟨c,e3,hc⟩:=m55 h.toVl.toFr' h.MG h.G5 h.CJ (s:=(s.length:Int)) hb k.kX k.kY (by omega) (by omega) (by omega) (by omega);have q1:=wO (nF hh sc ox wx dx sh x fr).floor (show (s.length:Int)≠0 by omega);have q2:=wE (nF hh sc ox wx dx sh x fr).floor (show (0:Int)<s.length by omega);have q3:=wO (nF hh sc oy wy dy sh y fr).floor (show (s.length:Int)≠0 by omega);have q4:=wE (nF hh sc oy wy dy sh y fr).floor (show (0:Int)<s.length by omega)
 obtain ⟨d,e4,hd⟩:=m56 h.toVl hc hS ⟨q1,q2⟩ ⟨q3,q4⟩ (O9 k.kX (by omega)) (O9 k.kY (by omega)) (by omega);have kv:=af3 (fun c r=>hS.de c r) k.kX k.kY (by omega);obtain ⟨e,e5,he⟩:=z7 h.toVl.toFr' ha hd (K:=400000) ((kj k.st (yB 2400)).mono (by omega)) (kv.mono (by omega)) (by omega);have W8:=he;refine ⟨e,?_,W8⟩;obtain ⟨a1,a2,a3,a4,rfl,ga⟩:=ha.gen;obtain ⟨b1,b2,b3,b4,b5,b6,b7,b8,rfl,gb⟩:=hb.gen;obtain ⟨c1,c2,c3,c4,c5,c6,c7,c8,rfl,_,_,_,fz⟩:=hc.gen;obtain ⟨d1,d2,d3,d4,rfl,gd⟩:=hd.gen;obtain ⟨f1,f2,f3,f4,rfl,ge⟩:=he.gen;have d3':∀a b c d e f g i:AV,xz 3 [a,b,c,d,e,f,g,i]=[d,e,f,g,i]:=fun _ _ _ _ _ _ _ _=>rfl
 have kQ:∀a b c d e f g i:AV,eY 8 true [a,b,c,d,e,f,g,i]=some (.agg [a,b,c,d,e,f,g,i]):=fun _ _ _ _ _ _ _ _=>rfl
 unfold af at e1 e2 e3 e4 e5 ⊢;rw [aq h.Y6];unfold eF jm gF at*
 simp only [go_sem,ya,yb,Xw,aG,o1,p1,hw.len,hw.ah,aZ,yd,kQ,d3',fy,lh,bl,yj,e1,bB,ga.ah,e2,gb.ah,e3,fz,e4,gd.ah,e5,ge.st,dB,dD];exact ge.dM _
def m57 (h:Lp P L) {v:AV} {a:Rat} {K:Nat} (hv:cK v a) (ka:Hq K a) (hK:K<=4000000000):af P L 57 [v] (G7 a):=by
 have e1:=Wi h.toSp.toTx hv ka hK;have e2:=Yc h.toSp.toTx hv ka hK;obtain ⟨s1,w1,s2,w2,rfl,h1,h2⟩:=hv;obtain ⟨l1,u1⟩:=h1.aA;obtain ⟨l2,u2⟩:=h2.aA;unfold G7;unfold af at e1 e2 ⊢;rw [aq h.Y4];cases hL:LG a<;>rw [hL] at e1
 ·simp only [go_sem,ya,yb,QP,aG,gL,bl,u1.pu,u1.ah,u1.one,u2.pu,u2.ah,u2.one,e1,e2,yA,yN];rfl
 ·simp only [go_sem,ya,yb,QP,aG,gL,bl,u1.pu,u1.ah,u1.one,u2.pu,u2.ah,u2.one,e1,yV];rfl
def avg (a:Rat):∃u e,G7 a= .aw [.str u,aa e]:=by unfold G7;split<;>exact ⟨_,_,rfl⟩
noncomputable def WB (s:List (List Int)) (hh sc st ox oy wx wy dx dy sh x y:List Nat) (fr:Int):AV:=
 if A7 s hh sc st ox oy wx wy dx dy sh x y fr≠0 then .aw [.str [],aa (A7 s hh sc st ox oy wx wy dx dy sh x y fr)] else G7 (nN s hh sc st ox oy wx wy dx dy sh x y fr)
def asm {s:List (List Int)} {hh sc st ox oy wx wy dx dy sh x y:List Nat} {fr:Int} (h0:A7 s hh sc st ox oy wx wy dx dy sh x y fr=0):rQ s hh sc st ox oy wx wy dx dy sh x y fr=0/\pV (aB sh) (aB hh)=true:=by
 unfold A7 at h0
 grind
section
variable (h:Lp P L) {w:AV} {s:List (List Int)} (hw:bU w s) (hl:s.length<=1000000) (hr:∀i (hi:i<s.length),s[i].length<=1000000) {hh sc st ox oy wx wy dx dy sh x y:List Nat} {fr:Int} (l1:hh.length<=1000000000) (l2:sc.length<=1000000000) (l3:st.length<=1000000000) (l4:ox.length<=1000000000) (l5:oy.length<=1000000000) (l6:wx.length<=1000000000) (l7:wy.length<=1000000000) (l8:dx.length<=1000000000) (l9:dy.length<=1000000000) (la:sh.length<=1000000000) (lb:x.length<=1000000000) (lc:y.length<=1000000000)
include h hw hl hr l1 l2 l3 l4 l5 l6 l7 l8 l9 la lb lc
def m24:af P L 24 [eF w hh sc st ox oy wx wy,jm dx dy sh,gF x y,aa fr] (WB s hh sc st ox oy wx wy dx dy sh x y fr):=by
 have e1:=m66 h hw hl hr (fr:=fr) l1 l2 l3 l4 l5 l6 l7 l8 l9 la lb lc;have o1:=hw.one;have p1:=hw.pu;have kQ:∀a b c d e f g i:AV,eY 8 true [a,b,c,d,e,f,g,i]=some (.agg [a,b,c,d,e,f,g,i]):=fun _ _ _ _ _ _ _ _=>rfl
 unfold af at e1 ⊢;rw [aq h.Y3];unfold WB;by_cases h0:A7 s hh sc st ox oy wx wy dx dy sh x y fr=0
 ·rw [yr (by simp [h0])];have k:=asl (asm h0).1;obtain ⟨a,e2,ha⟩:=m67 h hw k;have e3:=m57 h ha (awL k) (by decide);obtain ⟨u,z,hu⟩:=avg (nN s hh sc st ox oy wx wy dx dy sh x y fr);rw [hu] at e3 ⊢;rw [h0] at e1;obtain ⟨a1,a2,a3,a4,rfl,ga⟩:=ha.gen;unfold eF jm gF at*
  simp only [go_sem,ya,yb,QD,aG,o1,p1,hw.ah,yd,kQ,fy,lh,bl,yj,e1,e2,bB,ga.ah,e3];rfl
 ·rw [yF h0];unfold eF jm gF at*
  simp only [go_sem,ya,yb,QD,aG,o1,p1,hw.ah,yd,kQ,fy,lh,bl,yj,e1,h0,yp,yI];rfl
end
end
end
section
open Go (IntKind)
def af4 {s:List (List Int)} {n:Nat} (hn:s.length=n) (hr:∀i (hi:i<s.length),s[i].length=n):fL n (fun c r=>kv s r c)=s:=by
 apply yaG
 ·rw [lL,hn]
 ·intro i h1 h2;rw [FL (by omega)];apply yaG
  ·grind
  ·intro j h3 h4;simp only [uf,yaq];exact (AA h2 h4).symm
def ak4 {cs:List AV} (hp:Hp) (k:IntKind) (b:Int) (ix:aK cs=true) (hf:freeze 1000 hp (.agg cs)=some (.agg cs,hp)):result hp (.aw [.agg cs,.int k b])=some (.aw [.agg cs,.int k b]):=by
 have e1:B2 [.agg cs,.int k b]=some []:=by
  show (bif aS (.agg cs) then B2 [.int k b] else none)=_
  rw [show aS (.agg cs)=true by simp only [aS,ix]];rfl
 have e2:pP deep hp (.agg cs)=some (.agg cs,hp):=hf;simp only [result,e1,sP,e2];rfl
noncomputable def HS (s:List (List Int)) (hh sc st ox oy wx wy:List Nat) (fr:Int):Int:=
 if bn [lC s hh sc st ox oy wx wy,dd fr]≠0 then bn [lC s hh sc st ox oy wx wy,dd fr]
 else if (LG (aB ox+(fr:Rat)*aB wx)||LG (aB oy+(fr:Rat)*aB wy))=true then 4 else 0
section
variable {P:aI} {L:Lib}
def ay7 (h:Has P L 365 K1) {v:AV} {s:List (List Int)} (hv:bU v s) {n:Nat} (hn:s.length=n) (hr:∀i (hi:i<s.length),s[i].length=n) {c r:Nat} (hc:c<n) (bW:r<n) (q:List AV):af P L 365 [aa c,aa r,.bi (v::q)] (aa (kv s r c)):=by
 have h1:r<s.length:=by omega
 have h2:c<s[r].length:=by rw [hr];exact hc
 obtain ⟨a,rest,ha,hb⟩:=hv.aY h1;have hk:=AA h1 h2;have hd:∀(l:List AV),Gm 0 (.bi l)=some (.bi l):=fun _=>rfl
 unfold af;rw [aq h];simp only [go_sem,ya,K1,hd,sM (show (0:Int)<=r by omega),sM (show (0:Int)<=c by omega),Int.toNat_natCast,hb,ha.aY h2,hk]
def ay8 (h:Lp P L) (Lx:Has P L 362 GR) (WC:Has P L 365 K1) {w:AV} {s:List (List Int)} (hw:bU w s) (hl:s.length<=1000000) (hr:∀i (hi:i<s.length),s[i].length<=1000000) {hh sc st ox oy wx wy:List Nat} {fr:Int} (l1:hh.length<=1000000000) (l2:sc.length<=1000000000) (l3:st.length<=1000000000) (l4:ox.length<=1000000000) (l5:oy.length<=1000000000) (l6:wx.length<=1000000000) (l7:wy.length<=1000000000):
  (HS s hh sc st ox oy wx wy fr≠0->af P L 362 [eF w hh sc st ox oy wx wy,aa fr] (.aw [eF .ae [] [] [] [] [] [] [],aa (HS s hh sc st ox oy wx wy fr)]))/\
  (HS s hh sc st ox oy wx wy fr=0->∃w',bU w' s/\af P L 362 [eF w hh sc st ox oy wx wy,aa fr] (.aw [eF w' hh sc st (RT (aB ox+(fr:Rat)*aB wx)) (RT (aB oy+(fr:Rat)*aB wy)) wx wy,aa 0])):=by
 have e1:=aiz h hw hl hr l1 l2 l3 l4 l5 l6 l7;have e2:=RD h.Dn h.lH h.toSp.fF fr;have e3:=qV h.toSp.nK (fN true [lC s hh sc st ox oy wx wy,dd fr]) (by simp);simp only [yy,yG,yd,yb,y8,wq] at e3;have o1:=hw.one;have p1:=hw.pu;have kQ:∀a b c d e f g i:AV,eY 8 true [a,b,c,d,e,f,g,i]=some (.agg [a,b,c,d,e,f,g,i]):=fun _ _ _ _ _ _ _ _=>rfl
 have d6:∀a b c d e f g i:AV,xz 6 [a,b,c,d,e,f,g,i]=[g,i]:=fun _ _ _ _ _ _ _ _=>rfl
 have Y7:∀(v:AV) (_:bE v=true) (_:aS v=true) (hp:Hp) (ct id:Nat) (a b c d e f g:List Nat) (x0 x1 x2 x3 x4 x5 x6 x7:AV),fu hp ct id 0 8 [v,.str a,.str b,.str c,.str d,.str e,.str f,.str g] (some (.cells true true true 8 [x0,x1,x2,x3,x4,x5,x6,x7]))=some (.aw [],bf hp id (.cells true true true 8 [v,.str a,.str b,.str c,.str d,.str e,.str f,.str g]),ct):=fun v o2 p2 hp ct id a b c d e f g x0 x1 x2 x3 x4 x5 x6 x7=>by
  rw [lj (by rfl) (by simp) (by simp [cf,o2,TO])];simp [aK,p2,over,aS]
 have aiA:=Y7 .ae rfl rfl;have ay9:=Y7 w o1 p1;have hs4:∀(hp:Hp) (ct id:Nat) (u v:List Nat) (x0 x1 x2 x3 x4 x5 x6 x7:AV),fu hp ct id 4 2 [.str u,.str v] (some (.cells true true true 8 [x0,x1,x2,x3,x4,x5,x6,x7]))=some (.aw [],bf hp id (.cells true true true 8 [x0,x1,x2,x3,.str u,.str v,x6,x7]),ct):=fun hp ct id u v x0 x1 x2 x3 x4 x5 x6 x7=>by
  rw [lj (by rfl) (by simp) (by rfl)];rfl
 unfold af at e1 e2 e3;by_cases h0:bn [lC s hh sc st ox oy wx wy,dd fr]=0
 ·obtain ⟨hE,hF⟩:=Uf.1 h0;obtain ⟨q1,_,_,_,⟨q5,q6⟩,q7,q8⟩:=Oj hE;have hS:=sY hw q1;have hf:=SS hF;have H:=fun {t:List Nat} (c:aX t=0)=>(kj c (yB 2400)).mono (show 2400<=10000 by omega)
  obtain ⟨a,e4,ha⟩:=HL h.toSp q5 q6;obtain ⟨b,e5,hb⟩:=HL h.toSp q7 q8;obtain ⟨f,e6,nG⟩:=E3 h.toVl.toFr' (z:=fr) (by omega) (by omega);have sC:Hq 64 (fr:Rat):=⟨by rw [vh];unfold Bd;omega,by rw [vR];unfold Bd;exact Nat.one_lt_two_pow (by omega)⟩
  obtain ⟨c,e7,hc⟩:=MF h.toSp hb nG (H q7) (H q8) (sC.mono (by omega)) (by omega);have k1:=sC.mul (kj q7 (yB 2400));have k2:=sC.mul (kj q8 (yB 2400));rw [wU _ (fr:Rat),wU _ (fr:Rat)] at hc;obtain ⟨d,e8,hd⟩:=Qd h.toSp ha hc (H q5) (H q6) (k1.mono (by omega)) (k2.mono (by omega)) (by omega);have e9:=m65 h.toSp hd (((kj q5 (yB 2400)).add k1).mono (show _<=10000 by omega)) (((kj q6 (yB 2400)).add k2).mono (by omega)) (by omega);obtain ⟨a1,a2,a3,a4,a5,a6,a7,a8,rfl,ga⟩:=ha.gen;obtain ⟨b1,b2,b3,b4,b5,b6,b7,b8,rfl,gb⟩:=hb.gen;obtain ⟨f1,f2,f3,f4,rfl,gf⟩:=nG.gen;obtain ⟨c1,c2,c3,c4,c5,c6,c7,c8,rfl,gc⟩:=hc.gen;obtain ⟨d1,d2,d3,d4,d5,d6',d7,d8,rfl,gd⟩:=hd.gen;rw [h0] at e3;unfold HS;rw [yr (by simp [h0])];unfold af at e4 e5 e6 e7 e8 e9
  cases hL:(LG (aB ox+(fr:Rat)*aB wx)||LG (aB oy+(fr:Rat)*aB wy)) with
  | true=>
   rw [hL,yF rfl] at e9;rw [yF rfl];refine ⟨fun _=>?_,fun ew=>absurd ew (by decide)⟩;unfold af;rw [aq Lx];unfold eF gF at*
   simp only [go_sem,ya,yb,yt,ye,yi,GR,aG,o1,p1,hw.ah,aZ,yd,kQ,nT,d6,fy,bl,yj,e1,e2,e3,e4,e5,e6,e7,e8,ga.ah,gb.ah,gf.ah,gc.ah,gd.ah,e9,bB,DB,fB,show ¬(4:Int)=0 by decide,yp,yI,aiA];rfl
  | false=>
   rw [hL,yr (by decide)] at e9;rw [yr (by decide)];refine ⟨fun ew=>absurd rfl ew,fun _=>?_⟩;have ek:=Tw h.toBuT hS.pos (by have:=hS.le;omega) (g:=365) (cap:=[.bi [w,.str hh,.str sc,.str st,.str ox,.str oy,.str wx,.str wy]]) (val:=fun c r=>aa (kv s r c)) (by simp [aK,aS]) (fun _ _=>rfl) (fun _ _=>rfl) (fun _ _=>rfl) (fun c r hc hr=>ay7 WC hw rfl hS.row hc hr _);have hT:bU (gS (fun c r=>aa (kv s r c)) s.length) s:=by
    have:=Cd (n:=s.length) (fun c r=>kv s r c)
    rwa [af4 rfl hS.row] at this
   generalize gS (fun c r=>aa (kv s r c)) s.length=T at*
   refine ⟨T,hT,?_⟩;have o2:=hT.one;have p2:=hT.pu;have Cu:∀(hp:Hp) (ct id:Nat) (x0:AV) (b c d e f g i:List Nat),fu hp ct id 0 1 [T] (some (.cells true true true 8 [x0,.str b,.str c,.str d,.str e,.str f,.str g,.str i]))=some (.aw [],bf hp id (.cells true true true 8 [T,.str b,.str c,.str d,.str e,.str f,.str g,.str i]),ct):=fun hp ct id x0 b c d e f g i=>by
    rw [lj (by rfl) (by simp) (by simp [cf,o2])];simp [aK,p2,over]
   have aza:=Y7 T o2 p2;have zq:∀(hp:Hp) (a b c d e f g:List Nat),freeze 1000 hp (.agg [T,.str a,.str b,.str c,.str d,.str e,.str f,.str g])=some (.agg [T,.str a,.str b,.str c,.str d,.str e,.str f,.str g],hp):=fun hp a b c d e f g=>by
    rw [show 1000=980+19+1 by rfl,bl _ _ (by simp only [go_sem,yb,hT.ah])]
   unfold af at ek ⊢;rw [aq Lx];unfold eF gF Yq at*
   simp only [go_sem,ya,yb,yt,ye,yi,GR,aG,o1,p1,hw.len,hw.ah,hT.shut,hT.cells,aZ,yd,kQ,nT,d6,fy,bl,yj,e1,e2,e3,e4,e5,e6,e7,e8,ga.ah,gb.ah,gf.ah,gc.ah,gd.ah,e9,bB,DB,fB,ay9,hs4,ek,Cu,aza,dB,dD];exact ak4 _ _ _ (by simp [aK,p2,aS]) (zq _ _ _ _ _ _ _ _)
 ·unfold HS;rw [yF h0];refine ⟨fun _=>?_,fun ew=>absurd ew h0⟩;unfold af;rw [aq Lx];unfold eF at*
  simp only [go_sem,ya,yb,yt,ye,yi,GR,aG,o1,p1,hw.ah,yd,kQ,bl,yj,e1,e2,e3,h0,yp,yI,aiA];rfl
end
end
section
open Go (IntKind)
def iA (d k:Nat) (a:Rat):Prop:=∃z:Int,a*(d:Rat)=(z:Rat)/\z.natAbs<2^k
def iA.add {d k m:Nat} {a b:Rat} (ha:iA d k a) (hb:iA d m b):iA d (max k m+1) (a+b):=by
 obtain ⟨z,e1,h1⟩:=ha;obtain ⟨y,e2,h2⟩:=hb;refine ⟨z+y,by rw [yah,e1,e2,ybe],?_⟩;have a1:2^k<=2^(max k m):=xk (by decide) (Nat.le_max_left k m);have a2:2^m<=2^(max k m):=xk (by decide) (Nat.le_max_right k m);have a3:2^(max k m+1)=2^(max k m)*2:=xj 2 (max k m);generalize 2^(max k m)=M at*
 generalize 2^k=A at*
 generalize 2^m=B at*
 omega
def iA.mul {d e k m:Nat} {a b:Rat} (ha:iA d k a) (hb:iA e m b):iA (d*e) (k+m) (a*b):=by
 obtain ⟨z,e1,h1⟩:=ha;obtain ⟨y,e2,h2⟩:=hb;refine ⟨z*y,?_,?_⟩
 ·rw [Rat.natCast_mul,ybf,<-e1,<-e2];grind
 ·rw [Int.natAbs_mul,wJ];exact uS h1 h2
def iA.int {c:Int} {k:Nat} (h:c.natAbs<2^k):iA 1 k (c:Rat):=⟨c,by grind,h⟩
def iA.mono {d k m:Nat} {a:Rat} (h:iA d k a) (hk:k<=m):iA d m a:=by
 obtain ⟨z,e,h1⟩:=h;exact ⟨z,e,yL h1 (xk (by decide) hk)⟩
def iA.zero (d:Nat):iA d 0 0:=⟨0,by grind,by decide⟩
def iA.Hq {d k:Nat} {a:Rat} (h:iA d k a) (h0:0<d) (hd:d<2^k):Hq k a:=by
 obtain ⟨z,e,h1⟩:=h;have gN:(d:Rat)≠0:=by
  intro c
  have:=tH.1 c
  omega
 have ha:a=Rat.divInt z (d:Int):=by
  rw [yaP,<-e,vc,Rat.div_def,Rat.mul_assoc,Rat.mul_inv_cancel _ gN,Rat.mul_one]
 obtain ⟨p1,p2⟩:=I4 (a:=z) (b:=(d:Int)) (by omega);have hn:a.num=bM z d:=by rw [ha,p1];rfl
 have Bw:(a.den:Int)=bT z d:=by rw [ha,p2];rfl
 have b1:=Ag z d;have b2:=Ah z d;refine ⟨?_,?_⟩
 ·unfold Bd;rw [hn];omega
 ·unfold Bd;rw [Bw];omega
def UH {x:Rat} {K:Nat} (h:Hq K x):iA x.den K (Dl x):=by
 have hd:=h.2;unfold Bd at hd;have h0:0<x.den:=x.den_pos;refine ⟨x.num%x.den,?_,?_⟩
 ·unfold Dl;have ew:((x.den:Int):Rat)≠0:=by
   rw [vc];intro c;have:=tH.1 c;omega
  have e0:(x.num:Rat)/((x.den:Int):Rat)=x:=by rw [<-yaP];exact Rat.num_divInt_den x
  have e1:x*(x.den:Rat)=(x.num:Rat):=by
   have:=Rat.div_mul_cancel (a:=(x.num:Rat)) ew
   rwa [e0,vc] at this
  have e2:=Int.mul_ediv_add_emod x.num x.den;rw [tj,yah,e1,Rat.floor_def];have e3:((x.num%x.den:Int):Rat)=(x.num:Rat)-(x.den:Rat)*((x.num/x.den:Int):Rat):=by
   conv=>rhs;rw [<-e2]
   rw [ybe,ybf,vc];grind
  rw [e3];grind
 ·have m1:=wO x.num (show (x.den:Int)≠0 by omega);have m2:=wE x.num (show (0:Int)<x.den by omega);omega
def aaK {x:Rat} {K:Nat} (h:Hq K x):iA x.den (K+1) (1-Dl x):=by
 obtain ⟨z,e,h1⟩:=UH h;have hd:=h.2;unfold Bd at hd;refine ⟨(x.den:Int)-z,?_,?_⟩
 ·rw [tj,yah,Rat.one_mul,Rat.intCast_sub,<-e,vc];grind
 ·have a3:2^(K+1)=2^K*2:=xj 2 K;generalize 2^(K+1)=A at*
  generalize 2^K=B at*
  omega
def ap7 {s:List (List Int)} {i j k:Int} (h:∀c r,-1000<=bQ s c r/\bQ s c r<=1000):iA 1 10 (rG s i j k):=by
 have:=h (i+k%2) (j+k/2)
 exact iA.int (by omega)
def asn {s:List (List Int)} {x y:Rat} {K:Nat} (h:∀c r,-1000<=bQ s c r/\bQ s c r<=1000) (kx:Hq K x) (ky:Hq K y):Hq (2*K+20) (Qe s x y):=by
 have f:=(UH kx).mono (show K<=K+1 by omega);have u:=aaK kx;have g:=(UH ky).mono (show K<=K+1 by omega);have v:=aaK ky;have c:=fun i j k=>ap7 (i:=i) (j:=j) (k:=k) h
 have p0:=(u.mul v).mul (c (x.floor%s.length) (y.floor%s.length) 0);have p1:=(f.mul v).mul (c (x.floor%s.length) (y.floor%s.length) 1);have p2:=(u.mul g).mul (c (x.floor%s.length) (y.floor%s.length) 2);have p3:=(f.mul g).mul (c (x.floor%s.length) (y.floor%s.length) 3);have hx:=kx.2;have hy:=ky.2;unfold Bd at hx hy;have h1:0<x.den:=x.den_pos;have h2:0<y.den:=y.den_pos;have t:iA (x.den*y.den*1) (2*K+20) (Qe s x y):=by
  have:=((((iA.zero (x.den*y.den*1)).add p0).add p1).add p2).add p3
  exact iA.mono (k:=_) this (by omega)
 refine t.Hq (yaK (yaK h1 h2) (by decide)) ?_;rw [yi];have q:x.den*y.den<2^K*2^K:=uS (by omega) (by omega);rw [<-wJ] at q;exact yL q (xk (by decide) (by omega))
def aef {sc o w hs hh x dx:Rat} {fr:Int} (k1:Hq 24 sc) (k2:Hq 60 o) (k3:Hq 24 w) (k4:Hq 24 hs) (k5:Hq 24 hh) (k6:Hq 24 x) (k7:Hq 24 dx) (hf:fr.natAbs<2^9):Hq 260 (EB sc (jO hs hh*x+hh*dx) o w fr):=by
 have sC:Hq 9 (fr:Rat):=⟨by rw [vh];exact hf,by rw [vR];decide⟩
 have ks:=SO k4 k5;exact (((k1.mul ((ks.mul k6).add (k5.mul k7))).add (qC.mul k2)).add (sC.mul k3)).mono (by omega)
end
section
open Go (IntKind)
def acN {lo hi:Int}:∀{l:List Int},(∀x,x∈l->lo<=x/\x<=hi)->cw lo hi l=false
 | [],_=>rfl
 | a::r,h=>by
  have:=h a vL
  rw [cw,yr (by omega)];exact acN fun x hx=>h x (wI _ hx)
def SU {n:Nat} {lo hi:Int}:∀{l:List (List Int)},(∀r,r∈l->r.length=n/\∀x,x∈r->lo<=x/\x<=hi)->dT n lo hi l=0
 | [],_=>rfl
 | r::l,h=>by
  have h1:=h r vL;rw [dT,yr (by simp [h1.1]),acN h1.2,yr (by decide)];exact SU fun q hq=>h q (wI _ hq)
def JO {n:Nat} {f:Nat->Nat->Int} (h0:0<n) (h1:n<=16) (hf:∀c r,-1000<=f c r/\f c r<=1000):dz (fL n f)=0:=by
 unfold dz;rw [lL,yr (by omega),yr (by omega)];refine SU fun r hr=>?_
 obtain ⟨i,_,rfl⟩:=vv.1 hr;refine ⟨by simp,fun x hx=>?_⟩;obtain ⟨j,_,rfl⟩:=vv.1 hx;exact hf j i
def fU (s:List (List Int)) (a b:Int):List (List Int):=fL s.length (fun c r=>bQ s ((c:Int)-a) ((r:Int)-b))
def alU {s:List (List Int)} (h0:0<s.length) (a b c r:Int):bQ (fU s a b) c r=bQ s (c-a) (r-b):=by
 have hl:(fU s a b).length=s.length:=lL _ _;have hr:∀i (hi:i<(fU s a b).length),(fU s a b)[i].length=s.length:=fun i hi=>by
  have e:(fU s a b)[i]'hi=(xg s.length).map fun c:Nat=>bQ s ((c:Int)-a) ((i:Int)-b):=FL (n:=s.length) (f:=fun c r=>bQ s ((c:Int)-a) ((r:Int)-b)) (by rw [hl] at hi;exact hi)
  rw [e];simp
 obtain ⟨h1,h2,h3⟩:=Th hl h0 hr c r;rw [h3];have a1:=wO r (show (s.length:Int)≠0 by omega);have a2:=wE r (show (0:Int)<s.length by omega);have b1:=wO c (show (s.length:Int)≠0 by omega);have b2:=wE c (show (0:Int)<s.length by omega);have e:(fU s a b)[(r%s.length).toNat]'h1=(xg s.length).map fun c:Nat=>bQ s ((c:Int)-a) (((r%s.length).toNat:Int)-b):=FL (n:=s.length) (f:=fun c r=>bQ s ((c:Int)-a) ((r:Int)-b)) (by omega)
 have e2:((fU s a b)[(r%s.length).toNat]'h1)[(c%s.length).toNat]'h2=bQ s (((c%s.length).toNat:Int)-a) (((r%s.length).toNat:Int)-b):=by
  simp only [e,uf,yaq]
 rw [e2,xV a1,xV b1];refine SP rfl _ _ _ _ ?_ ?_
 ·rw [yaQ]
 ·rw [yaQ]
section
variable {P:aI} {L:Lib}
end
end
section
open Go (IntKind)
section
variable {P:aI} {L:Lib}
def azb (h:S0 P L) (h3:Has P L 3 c3) (gV:Has P L 30 sf) (WD:Has P L 335 PS) {w:AV} {s:List (List Int)} (hw:bU w s) {hh sc st ox oy wx wy:List Nat} (l1:hh.length<=1000000000) (l2:sc.length<=1000000000) (l3:st.length<=1000000000) (l4:ox.length<=1000000000) (l5:oy.length<=1000000000) (l6:wx.length<=1000000000) (l7:wy.length<=1000000000):
  af P L 335 [eF w hh sc st ox oy wx wy] (aa (lC s hh sc st ox oy wx wy)):=by
 have e1:=s3 h3 gV hw;have e2:=aiw h l1;have e3:=aiv h l2 1;have e4:=G3 h.toRm l3;have e5:=Wu h l4 l5;have e6:=Wu h l6 l7;have e7:=s42 h.Rv (fN true [dz s,iZ hh 0,iZ sc 1,aX st,bn [aX ox,aX oy],bn [aX wx,aX wy]]) (by simp);simp only [yy,yG,yd,yb,y8,wq] at e7;have o1:=hw.one;have p1:=hw.pu;have d2:∀a b c d e f g i:AV,xz 2 [a,b,c,d,e,f,g,i]=[c,d,e,f,g,i]:=fun _ _ _ _ _ _ _ _=>rfl
 have d3:∀a b c d e f g i:AV,xz 3 [a,b,c,d,e,f,g,i]=[d,e,f,g,i]:=fun _ _ _ _ _ _ _ _=>rfl
 have d6:∀a b c d e f g i:AV,xz 6 [a,b,c,d,e,f,g,i]=[g,i]:=fun _ _ _ _ _ _ _ _=>rfl
 unfold af at e1 e2 e3 e4 e5 e6 e7 ⊢;rw [aq WD];unfold eF;simp only [go_sem,ya,yb,yt,ye,yi,PS,aG,o1,p1,hw.ah,aZ,yd,cC,d2,d3,nT,d6,fy,bl,yj,e1,e2,e3,e4,e5,e6,e7];rfl
def azc (E8:Has P L 21 Hu) (Bq:Has P L 59 EP) (WE:Has P L 363 PT) {v w:AV} {s:List (List Int)} (hv:bU v s) (hw:bU w s) (hl:s.length<=1000000) (hr:∀i (hi:i<s.length),s[i].length<=1000000) (hh sc st ox oy wx wy:List Nat):
  af P L 363 [eF v hh sc st ox oy wx wy,eF w hh sc st ox oy wx wy] (.bool true):=by
 have e1:=s21 E8 Bq hv hw hl hr rfl;have o1:=hv.one;have p1:=hv.pu;have o2:=hw.one;have p2:=hw.pu;have d2:∀a b c d e f g i:AV,xz 2 [a,b,c,d,e,f,g,i]=[c,d,e,f,g,i]:=fun _ _ _ _ _ _ _ _=>rfl
 have d3:∀a b c d e f g i:AV,xz 3 [a,b,c,d,e,f,g,i]=[d,e,f,g,i]:=fun _ _ _ _ _ _ _ _=>rfl
 have d6:∀a b c d e f g i:AV,xz 6 [a,b,c,d,e,f,g,i]=[g,i]:=fun _ _ _ _ _ _ _ _=>rfl
 unfold af at e1 ⊢;rw [aq WE];unfold eF;simp only [go_sem,ya,yb,PT,aG,o1,p1,o2,p2,hv.ah,hw.ah,aZ,yd,cC,d2,d3,nT,d6,fy,yj,e1,iQ,Fz,awI,dA,Bool.and_self]
end
end
section
open Go (IntKind)
section
variable {P:aI} {L:Lib}
def G8 (a b c d e f g i:AV):xz 2 [a,b,c,d,e,f,g,i]=[c,d,e,f,g,i]:=rfl
def Qf (a b c d e f g i:AV):xz 3 [a,b,c,d,e,f,g,i]=[d,e,f,g,i]:=rfl
def Qg (a b c d e f g i:AV):xz 6 [a,b,c,d,e,f,g,i]=[g,i]:=rfl
def kQ (a b c d e f g i:AV):eY 8 true [a,b,c,d,e,f,g,i]=some (.agg [a,b,c,d,e,f,g,i]):=rfl
end
end
section
open Go (IntKind)
def eO (k:Nat) (v:AV) (ps:List (List AV)):Prop:=((v= .ae/\ps=[])\/∃e,v= .aO e ps.length ps.flatten)/\∀p,p∈ps->p.length=k
section
variable {k:Nat} {v:AV} {ps:List (List AV)} {hp:Hp}
def eO.len (h:eO k v ps) {hp:Hp}:im hp 1 v=some (.int .i64 (ps.length:Nat)):=by
 rcases h.1 with ⟨rfl,rfl⟩ | ⟨e,rfl⟩<;>rfl
def eO.pu (h:eO k v ps):aS v=true:=by
 rcases h.1 with ⟨rfl,rfl⟩ | ⟨e,rfl⟩<;>rfl
def eO.ah (h:eO k v ps) (n:Nat) {hp:Hp}:freeze (n+1) hp v=some (v,hp):=by
 rcases h.1 with ⟨rfl,rfl⟩ | ⟨e,rfl⟩<;>rfl
def eO.shut (h:eO k v ps):shut v=v:=by
 rcases h.1 with ⟨rfl,rfl⟩ | ⟨e,rfl⟩<;>rfl
def eO.bN (h:eO k v ps):bN v=v:=by
 rcases h.1 with ⟨rfl,rfl⟩ | ⟨e,rfl⟩<;>rfl
def eO.dM (h:eO k v ps) {hp:Hp}:result hp v=some v:=by
 rcases h.1 with ⟨rfl,rfl⟩ | ⟨e,rfl⟩<;>rfl
def eO.one (h:eO k v ps):bE v=true:=by
 rcases h.1 with ⟨rfl,rfl⟩ | ⟨e,rfl⟩<;>rfl
def eO.cells (h:eO k v ps):cellsOf v=[v]:=by
 rcases h.1 with ⟨rfl,rfl⟩ | ⟨e,rfl⟩<;>rfl
def abK:∀{ps:List (List AV)} {i:Nat},(∀p,p∈ps->p.length=k)->∀(hi:i<ps.length),∃rest,ps.flatten.drop (i*k)=ps[i]++rest
 | [],i,_,hi=>absurd hi (ua i)
 | p::ps,0,h,_=>⟨ps.flatten,by simp⟩
 | p::ps,i+1,h,hi=>by
  obtain ⟨rest,e⟩:=abK (ps:=ps) (i:=i) (fun q hq=>h q (wI _ hq)) (by simpa using hi);refine ⟨rest,?_⟩;rw [show (i+1)*k=p.length+i*k by rw [h p vL,Nat.add_mul];omega,List.flatten_cons,<-List.drop_drop,tW,e];rfl
def eO.aY (h:eO k v ps) {i:Nat} (hi:i<ps.length):∃rest,iF k i v=some (.bi (ps[i]++rest)):=by
 obtain ⟨rest,e⟩:=abK h.2 hi;refine ⟨rest,?_⟩;rcases h.1 with ⟨rfl,rfl⟩ | ⟨b,rfl⟩
 ·exact absurd hi (ua i)
 ·rw [Oa b _ hi,e]
end
abbrev sD:=List Nat×List Nat
def plC (p:sD):List AV:=[.str p.1,.str p.2]
def ll (v:AV) (l:List sD):Prop:=eO 2 v (l.map plC)
structure Lay where
 w:AV
 s:List (List Int)
 hh:List Nat
 sc:List Nat
 st:List Nat
 ox:List Nat
 oy:List Nat
 wx:List Nat
 wy:List Nat
def Lay.cs (a:Lay):List AV:=[a.w,.str a.hh,.str a.sc,.str a.st,.str a.ox,.str a.oy,.str a.wx,.str a.wy]
def Lay.T (a:Lay):AV:=eF a.w a.hh a.sc a.st a.ox a.oy a.wx a.wy
noncomputable def Lay.E (a:Lay):Int:=lC a.s a.hh a.sc a.st a.ox a.oy a.wx a.wy
def jR (v:AV) (l:List Lay):Prop:=eO 8 v (l.map Lay.cs)/\∀a,a∈l->bU a.w a.s
section
variable {v:AV} {hp:Hp}
def ll.len {l:List sD} (h:ll v l) {hp:Hp}:im hp 1 v=some (.int .i64 (l.length:Nat)):=by
 have:=eO.len (hp:=hp) h;rwa [xm] at this
def ll.pu {l:List sD} (h:ll v l):aS v=true:=eO.pu h
def ll.ah {l:List sD} (h:ll v l) (n:Nat) {hp:Hp}:freeze (n+1) hp v=some (v,hp):=eO.ah h n
def ll.shut {l:List sD} (h:ll v l):VE.shut v=v:=eO.shut h
def ll.bN {l:List sD} (h:ll v l):VE.bN v=v:=eO.bN h
def ll.dM {l:List sD} (h:ll v l) {hp:Hp}:result hp v=some v:=eO.dM h
def ll.one {l:List sD} (h:ll v l):bE v=true:=eO.one h
def ll.cells {l:List sD} (h:ll v l):cellsOf v=[v]:=eO.cells h
def ll.aY {l:List sD} (h:ll v l) {i:Nat} (hi:i<l.length):∃rest,iF 2 i v=some (.bi (.str l[i].1:: .str l[i].2::rest)):=by
 obtain ⟨rest,e⟩:=eO.aY h (i:=i) (by simpa using hi);refine ⟨rest,?_⟩;rw [e,uf];rfl
def jR.len {l:List Lay} (h:jR v l) {hp:Hp}:im hp 1 v=some (.int .i64 (l.length:Nat)):=by
 have:=eO.len (hp:=hp) h.1;rwa [xm] at this
def jR.pu {l:List Lay} (h:jR v l):aS v=true:=eO.pu h.1
def jR.ah {l:List Lay} (h:jR v l) (n:Nat) {hp:Hp}:freeze (n+1) hp v=some (v,hp):=eO.ah h.1 n
def jR.shut {l:List Lay} (h:jR v l):VE.shut v=v:=eO.shut h.1
def jR.bN {l:List Lay} (h:jR v l):VE.bN v=v:=eO.bN h.1
def jR.dM {l:List Lay} (h:jR v l) {hp:Hp}:result hp v=some v:=eO.dM h.1
def jR.one {l:List Lay} (h:jR v l):bE v=true:=eO.one h.1
def jR.cells {l:List Lay} (h:jR v l):cellsOf v=[v]:=eO.cells h.1
def jR.aY {l:List Lay} (h:jR v l) {i:Nat} (hi:i<l.length):∃rest,iF 8 i v=some (.bi (l[i].w:: .str l[i].hh:: .str l[i].sc:: .str l[i].st:: .str l[i].ox:: .str l[i].oy:: .str l[i].wx:: .str l[i].wy::rest)):=by
 obtain ⟨rest,e⟩:=eO.aY h.1 (i:=i) (by simpa using hi);refine ⟨rest,?_⟩;rw [e,uf];rfl
def jR.get {l:List Lay} (h:jR v l) {i:Nat} (hi:i<l.length):bU l[i].w l[i].s:=h.2 _ (List.getElem_mem hi)
end
def UI {w:AV} {s:List (List Int)} (hw:bU w s) (hp:Hp) (ct id:Nat) (a b c d e f g:List Nat) (x0 x1 x2 x3 x4 x5 x6 x7:AV):fu hp ct id 0 8 [w,.str a,.str b,.str c,.str d,.str e,.str f,.str g] (some (.cells true true true 8 [x0,x1,x2,x3,x4,x5,x6,x7]))=some (.aw [],bf hp id (.cells true true true 8 [w,.str a,.str b,.str c,.str d,.str e,.str f,.str g]),ct):=by
 rw [lj (by rfl) (by simp) (by simp [cf,hw.one,TO])];simp [aK,hw.pu,over,aS]
end
section
open Go (IntKind)
structure LwFlowB (P:aI) (L:Lib):Prop where
 s:S0 P L
 rp:Rp P L
 p:Lp P L
 h3:Has P L 3 c3
 gV:Has P L 30 sf
 Wv:Has P L 309 GO
 Lu:Has P L 315 K0
 WD:Has P L 335 PS
 WG:Has P L 357 GP
 CK:Has P L 358 GQ
 mi:Has P L 359 qj
 G9:Has P L 361 CC
 Lx:Has P L 362 GR
 WH:Has P L 364 PU
 WC:Has P L 365 K1
section
variable {P:aI} {L:Lib}
def ahk (h:LwFlowB P L) {w:AV} {s:List (List Int)} (hw:bU w s) (hl:s.length<=1000000) (hr:∀i (hi:i<s.length),s[i].length<=1000000) {hh sc st ox oy wx wy:List Nat} {fr:Int} (l1:hh.length<=1000000000) (l2:sc.length<=1000000000) (l3:st.length<=1000000000) (l4:ox.length<=1000000000) (l5:oy.length<=1000000000) (l6:wx.length<=1000000000) (l7:wy.length<=1000000000)
  (hE:lC s hh sc st ox oy wx wy=0) (hF:dd fr=0) (k1:LG (aB ox+(fr:Rat)*aB wx)=false) (k2:LG (aB oy+(fr:Rat)*aB wy)=false):
  ∃w',bU w' s/\af P L 362 [eF w hh sc st ox oy wx wy,aa fr] (.aw [eF w' hh sc st (RT (aB ox+(fr:Rat)*aB wx)) (RT (aB oy+(fr:Rat)*aB wy)) wx wy,aa 0]):=by
 refine (ay8 h.p h.Lx h.WC hw hl hr l1 l2 l3 l4 l5 l6 l7).2 ?_;unfold HS;have hz:bn [0,0]=0:=rfl;rw [hE,hF];simp only [hz,uZ,wD,yN,k1,k2,Bool.or_false,yA]
def Pb (h:LwFlowB P L) {w:AV} {s:List (List Int)} (hw:bU w s) (hl:s.length<=1000000) (hr:∀i (hi:i<s.length),s[i].length<=1000000) {hh sc st ox oy wx wy dx dy sh x y:List Nat} {fr:Int} (l1:hh.length<=1000000000) (l2:sc.length<=1000000000) (l3:st.length<=1000000000) (l4:ox.length<=1000000000) (l5:oy.length<=1000000000) (l6:wx.length<=1000000000) (l7:wy.length<=1000000000) (l8:dx.length<=1000000000) (l9:dy.length<=1000000000) (la:sh.length<=1000000000) (lb:x.length<=1000000000) (lc:y.length<=1000000000)
  (hF:rQ s hh sc st ox oy wx wy dx dy sh x y fr=0) (hb:pV (aB sh) (aB hh)=true) (hL:LG (nN s hh sc st ox oy wx wy dx dy sh x y fr)=false):
  af P L 24 [eF w hh sc st ox oy wx wy,jm dx dy sh,gF x y,aa fr] (.aw [.str (RT (nN s hh sc st ox oy wx wy dx dy sh x y fr)),aa 0]):=by
 have e:=m24 h.p hw hl hr (fr:=fr) l1 l2 l3 l4 l5 l6 l7 l8 l9 la lb lc;have hR:A7 s hh sc st ox oy wx wy dx dy sh x y fr=0:=by unfold A7;rw [hF,hb];rfl
 unfold WB G7 at e;rw [hR] at e;simp only [uZ,wD,yN,hL,yA] at e;exact e
end
def FD {r:Rat} {K:Nat} (h:Hq K r) (hK:K<=1800):(RT r).length<=1202:=by
 obtain ⟨h1,h2⟩:=Gi h hK
 have:=asb r.num r.den
 rw [show TT r.num r.den=RT r from rfl] at this;omega
end
end VE
