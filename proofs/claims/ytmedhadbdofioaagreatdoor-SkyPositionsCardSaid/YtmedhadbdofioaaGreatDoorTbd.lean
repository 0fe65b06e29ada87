import Derived.Test.YtmedhadbdofioaaGreatDoorTbc
import Derived.Test.YtmedhadbdofioaaGreatDoorTba
import Derived.Test.YtmedhadbdofioaaGreatDoorTak
import Derived.Test.YtmedhadbdofioaaGreatDoorTal
import Derived.Test.YtmedhadbdofioaaGreatDoorTbb
import Derived.Test.YtmedhadbdofioaaGreatDoorTau
set_option linter.all false
set_option maxRecDepth 100000
open Bool renaming false_eq_true→yD,not_false→yF
open Int renaming emod_lt_of_pos→we,emod_nonneg→xM,reduceEq→vN,tdiv_eq_ediv_of_nonneg→xK,tmod_eq_emod_of_nonneg→xn,toNat_natCast→xI
open List renaming cons_append→y7,drop→xm,drop_drop→wX,drop_zero→yj,getElem_mem→vM,length_cons→yr,length_nil→yE,map_cons→yU,map_nil→xU,range→xi
open Nat renaming le_refl→yC,mul_one→yh,one_lt_two_pow→wB,reduceAdd→yb,reduceEqDiff→ya,reduceLT→yt,reduceLeDiff→ye,zero_add→yd
open Rat renaming den_intCast→wt,mul_comm→wL,num_intCast→xY
namespace VE
section
open Go (IntKind)
section
variable {P:aG} {L:Lib}
def QB {s:List (List Int)} (h:jX s=0):0<s.length/\s.length<=16/\fB s.length (-1000) 1000 s=0:=by
 unfold jX at h
 grind
def aiE {s:List (List Int)} (h:AP s=0):0<s.length/\s.length<=5/\s.length%2=1/\fB s.length (-100) 100 s=0:=by
 unfold AP at h
 grind
def Z5 {n:Nat}:∀{l:List (List Int)},(∀r,r∈l->r.length=n)->fB n (-1000) 1000 l=if JU l=true then 3 else 0
 | [],_=>rfl
 | r::l,h=>by
  have ih:=Z5 (l:=l) (fun r hr=>h r (by simp [hr]));have h1:=h r (by simp);simp only [fB,h1,tJ,wQ,yO,JU,ih]
  grind
def adO {n:Nat} (f:Nat->Nat->Int):cF (ph (fun c r=>aa (f c r)) n) (DE n f):=by
 have h1:ph (fun c r=>aa (f c r)) n= .aE true n ((xi n).map fun r=> .aE true n (((xi n).map fun c=>f c r).map aa)):=by
  simp only [ph,List.map_map];rfl
 refine ⟨(xi n).map fun r=> .aE true n (((xi n).map fun c=>f c r).map aa),?_,?_⟩
 ·rw [h1]
  have:=Ik true ((xi n).map fun r=>AV.aE true n (((xi n).map fun c=>f c r).map aa))
  grind
 ·have:∀m:List Nat,li br (m.map fun r=>AV.aE true n (((xi n).map fun c=>f c r).map aa)) (m.map fun r=>(xi n).map fun c=>f c r):=by
   intro m
   induction m with
   | nil=>trivial
   | cons r m ih=>
    refine ⟨?_,ih⟩
    have:=fm true ((xi n).map fun c=>f c r)
    grind
  exact this _
def s9 (h:Qt P L) {v w:AV} {s k:List (List Int)} (hv:cF v s) (hw:cF w k) (hl:s.length<=1000000) (hr:∀i (hi:i<s.length),s[i].length<=1000000) (Ky:k.length<=1000000) (bX:∀i (hi:i<k.length),k[i].length<=1000000):
  (bj [jX s,AP k]≠0->ae P L 9 [v,w] (.ap [.ab,aa (bj [jX s,AP k])]))/\
  (bj [jX s,AP k]=0->ae P L 9 [v,w] (if JU (M7 s k s.length s.length)=true then .ap [.ab,aa 4] else .ap [ph (fun c r=>aa (sY s k c r)) s.length,aa 0])):=by
 have e4:=s4 h.toSq hv hl hr;have XE:=Wu h.toSq hw Ky bX (m:=100) (by decide) (by decide);have AE:∀a b c d e:Int,ae P L 33 [.aE true 5 [.int .i64 a,.int .i64 b,.int .i64 c,.int .i64 d,.int .i64 e]] (aa (bj [a,b,c,d,e])):=fun a b c d e=>sC h.og (fm true [a,b,c,d,e]) (by simp)
 have dU:(2:Int)≠0:=by decide
 have od:(k.length:Int).tmod 2=(k.length%2:Nat):=by rw [xn (by omega)];rfl
 have lF:(k.length:Int).tdiv 2=(k.length/2:Nat):=by rw [xK (by omega)];rfl
 have hE:bj [jX s,if decide ((k.length:Int)=0)=true then 12 else 0,if decide ((5:Int)<k.length)=true then 5 else 0,if decide (((k.length%2:Nat):Int)=0)=true then 2 else 0,fB k.length (-100) 100 k]=bj [jX s,AP k]:=by
  unfold AP;by_cases h1:k.length=0
  ·simp [h1,bj]
  ·by_cases h2:5<k.length
   ·simp [h1,h2,bj,show (5:Int)<k.length by omega]
   ·by_cases h3:k.length%2=0
    ·simp only [h1,h2,h3,bj,show ¬(k.length:Int)=0 by omega,show ¬(5:Int)<k.length by omega,show ((0:Nat):Int)=0 from rfl,yo,yq,yD,yO,y5]
     split<;>simp_all
    ·simp only [h1,h2,h3,bj,show ¬(k.length:Int)=0 by omega,show ¬(5:Int)<k.length by omega,show ¬((k.length%2:Nat):Int)=0 by omega,yo,yD,yO,y5]
 unfold ae at e4 XE AE ⊢;constructor
 ·intro eK;rw [av h.h9];simp only [go_sem,ya,yb,yt,ye,yh,c9,hv.pu,hv.ah,hv.one,hv.cells,hw.len,hw.pu,hw.ah,hw.one,hw.cells,e4,XE,AE,mO h.fK,er _ _ _ dU,od,hE,eK]
 ·intro h0;have ji:jX s=0:=by
   simp only [bj] at h0
   split at h0
   ·assumption
   ·assumption
  have Kt:AP k=0:=by
   simp only [bj,ji,y5] at h0
   split at h0
   ·assumption
   ·assumption
  obtain ⟨a1,a2,a3⟩:=QB ji;obtain ⟨b1,b2,b3,b4⟩:=aiE Kt;have XF:=aa6 h.toBuT a1 (by omega) (g:=41) (cap:=[.aI [w],.aI [v],.aI [aa (k.length/2:Nat)]]) (val:=fun c r=>aa (sY s k c r)) (by rfl) (fun _ _=>rfl) (fun _ _=>rfl) (fun _ _=>rfl) (fun c r hc hr=>s41 h hv hw rfl a1 a2 a3 rfl b1 b2 b4 hc hr);have hT:=adO (n:=s.length) (fun c r=>sY s k c r);have agM:=Wu h.toSq hT (by rw [Im];omega) (fun i hi=>by
   rw [Im] at hi;rw [abS hi];simp;omega) (m:=1000) (by decide) (by decide)
  rw [Im,show DE s.length (fun c r=>sY s k c r)=M7 s k s.length s.length from rfl,Z5 (fun r hr=>by
   simp only [M7,List.mem_map] at hr;obtain ⟨i,_,rfl⟩:=hr
   simp [alq])] at agM
  rw [av h.h9]
  simp only [go_sem,ya,yb,yt,ye,yh,c9,hv.len,hv.pu,hv.ah,hv.one,hv.cells,hw.len,hw.pu,hw.ah,hw.one,hw.cells,e4,XE,AE,mO h.fK,er _ _ _ dU,od,hE,h0,eU _ _ _ dU,lF,wrapN (n:=k.length/2) (by omega),XF,hT.ah,hT.shut,agM]
  cases hb:JU (M7 s k s.length s.length) with
  | true=>simp only [go_sem,ya,y5,vN]
  | false=>simp only [go_sem,ya,yD,yO,ph]
def Mc {b x:Nat} {H:Hp} (hx:x<b):∀{fC:Hp},(∀p,p∈fC->b<=p.1)->ak (fC++H) x=ak H x
 | [],_=>rfl
 | (id,o)::r,h=>by
  have:=h (id,o) (by simp)
  simp only [y7];rw [ak,cG (by simp only at this;omega),yA,Mc hx (fun p hp=>h p (by simp [hp]))]
def Z6 {b x:Nat} {H:Hp} {o':Obj} (hx:x<b):∀{fC:Hp},(∀p,p∈fC->b<=p.1)->aW (fC++H) x o'=fC++aW H x o'
 | [],_=>rfl
 | (id,o)::r,h=>by
  have:=h (id,o) (by simp)
  simp only [y7];rw [aW,cG (by simp only at this;omega),yA,Z6 hx (fun p hp=>h p (by simp [hp]))]
def jW (v:AV) (w:List Int) (junk:List AV) (x:Int):Hp:=[(3,.cells true true true 1 [aa x]),(2,.cells true true true 1 [aa (dK w)]),(1,.cells false true true 1 junk),(0,.cells true true true 1 [v])]
def Z7 {v:AV} {w:List Int} {junk:List AV} {x:Int} {B:Nat} (h:4<=B):jH B B (jW v w junk x):=⟨by omega,.inl rfl,by omega,.inl rfl,by omega,.inl rfl,by omega,.inl rfl,trivial⟩
def aa7 {v:AV} {w:List Int} {junk:List AV} {x:Int} {B:Nat}:dz B (jW v w junk x)=[]:=by
 simp only [jW,dz,fA,ym,List.nil_append]
 grind
def s39 (h:Has P L 39 KJ) {v:AV} {w:List Int} (hv:br v w) (hw:w.length<=33) (ho:dB 0 1000 w=false) (hs:0<dK w) {junk:List AV} {x:Int} (hx:0<=x/\x<=2147483646) (c r:Int) {fC:Hp} {ct:Nat} (hm:∀p,p∈fC->4<=p.1) (fR:4<=ct)
  (hb:jH ct ct fC) (hr:(dz ct fC).length<=5000):
  dF P L (D P L) (fC++jW v w junk x) ct .dyn (.fn (.f 39) [] [.ptr 3 0,.ptr 2 0,.ptr 0 0]) [aa c,aa r]=some (aa ((oR w (nc x%dK w):Int)-(w.length/2:Nat)),fC++jW v w junk (nc x),ct):=by
 have XG:=Yi x;have qO:(39373*x).tmod 2147483647=nc x:=by rw [xn (by omega)];rfl
 have od:(nc x).tmod (dK w)=nc x%dK w:=by rw [xn (by omega)]
 have jB:(2147483647:Int)≠0:=by decide
 have dU:dK w≠0:=by omega
 have Kp:(2:Int)≠0:=by decide
 have lF:(w.length:Int).tdiv 2=(w.length/2:Nat):=by rw [xK (by omega)];rfl
 generalize ht:nc x%dK w=t at od ⊢;have Xj:0<=t:=by rw [<-ht];exact xM _ dU
 have Pw:t<dK w:=by rw [<-ht];exact we _ hs
 have hp:=anH Pw Xj;have g0:∀x,ak (fC++jW v w junk x) 0=some (.cells true true true 1 [v]):=fun x=>Mc (by omega) hm
 have g2:∀x,ak (fC++jW v w junk x) 2=some (.cells true true true 1 [aa (dK w)]):=fun x=>Mc (by omega) hm
 have g3:∀x,ak (fC++jW v w junk x) 3=some (.cells true true true 1 [aa x]):=fun x=>Mc (by omega) hm
 have s3:∀x y,aW (fC++jW v w junk x) 3 (.cells true true true 1 [.int .i64 y])=fC++jW v w junk y:=fun x y=>Z6 (by omega) hm
 have jS:∀(live:List Nat) (tm:Env) (x:Int) (bg:Nat),jG ct (df tm live)->(fy (df tm live)).length<=1000->bD live ⟨tm,fC++jW v w junk x,bg,ct⟩=⟨df tm live,fC++jW v w junk x,ct,ct⟩:=fun live tm x bg h1 h2=>
  LI h1 (QZ hb (Z7 fR)) (by rw [QJ,aa7,List.append_nil];omega)
 have key:=cg (P:=P) (L:=L) (live:=[4,8,9,18,19,20]) (a:=Jc)
  (I:=fun k st=>∃i:Nat,st=⟨[(4,.ptr 0 0),(8,aa (t-dK (w.take i))),(9,aa 0),(18,v),(19,aa w.length),(20,aa i)],fC++jW v w junk (nc x),ct,ct⟩/\i+k=w.length/\∀j,j<i->dK (w.take (j+1))<=t)
  (Q:=fun ex st=>∃tm bg,st=⟨tm,fC++jW v w junk (nc x),bg,ct⟩/\ex= .exit 0/\af tm 9=aa ((oR w t:Int)-(w.length/2:Nat))) ?_
 ·have hnp:aH ([]++([aa c,aa r]++[AV.ptr 3 0,.ptr 2 0,.ptr 0 0]))=false:=rfl;simp only [dF,hnp,yA];have fN:∃tm,D P L KJ.body ⟨fG 0 ([]++([aa c,aa r]++[AV.ptr 3 0,.ptr 2 0,.ptr 0 0])),fC++jW v w junk x,ct,ct⟩=some (.ret,⟨tm,fC++jW v w junk (nc x),ct,ct⟩)/\af tm 7=aa ((oR w t:Int)-(w.length/2:Nat)):=by
   simp only [go_sem,ya,KJ,hv.len,g0,g2,g3,s3,wrap64 (n:=39373*x) (by omega) (by omega),er _ _ _ jB,qO,er _ _ _ dU,od];generalize hq:D P L (.loop [4,8,9,18,19,20] Jc) _=q;obtain ⟨ex,st,rfl,tm,bg,rfl,rfl,h9⟩:=bP hq (key w.length) ⟨0,by
    rw [jS]
    ·simp only [go_sem,ya,List.take_zero,dK,Int.sub_zero];rfl
    ·simp only [go_sem,ya];exact ⟨by show 0<ct;omega,trivial,trivial,mg hv.pu,trivial,trivial,trivial⟩
    ·simp only [go_sem,ya,yb,ye,aJ hv.pu],by omega,fun j hj=>absurd hj (by omega)⟩
   rw [Ij,fu,JQ,jS]
   ·simp only [go_sem,h9];exact ⟨_,rfl,by simp only [go_sem]⟩
   ·simp only [go_sem,h9];exact ⟨trivial,trivial⟩
   ·simp only [go_sem,ye,h9]
  obtain ⟨tm,fN,h7⟩:=fN;exact Er h fN (.inr rfl) (by show gN _ [.t 7]=_;rw [Fv,E2,h7])
 ·rintro k st ⟨i,rfl,hk,hj⟩;have hi:i<w.length:=by
   by_cases hc:i<w.length
   ·exact hc
   ·exfalso
    have:=hj (i-1) (by omega)
    rw [List.take_of_length_le (by omega)] at this;omega
  have ff:=LV (Rr ho i);have gF:=LV ho;have hg:=HY ho i hi;by_cases h1:t-dK (w.take i)<w[i]
  ·right
   simp only [go_sem,ya,Jc,hv.len,show (i:Int)<w.length by omega,hv.bk hi,h1,g0,eU _ _ _ Kp,lF,wrapN (n:=w.length/2) (by omega),wrap64 (n:=(i:Int)-(w.length/2:Nat)) (by omega) (by omega)];refine ⟨_,_,rfl,by simp,_,_,rfl,rfl,?_⟩;rw [anG hi hj (by rw [Cm hi];omega)];simp only [go_sem]
  ·left
   simp only [go_sem,ya,Jc,show (i:Int)<w.length by omega,hv.bk hi,h1,wrap64 (n:=t-dK (w.take i)-w[i]) (by omega) (by omega),show (i:Int)+1=((i+1:Nat):Int) from rfl,wrapN (n:=i+1) (by omega)];refine ⟨_,k-1,rfl,by omega,i+1,?_,by omega,?_⟩
   ·rw [jS]
    ·rw [Cm hi];simp only [go_sem,ya,Int.sub_sub]
    ·simp only [go_sem,ya];exact ⟨by show 0<ct;omega,trivial,trivial,mg hv.pu,trivial,trivial,trivial⟩
    ·simp only [go_sem,ya,yb,ye,aJ hv.pu]
   ·intro j qK;by_cases e:j=i
    ·subst e;rw [Cm hi];omega
    ·exact hj j (by omega)
structure DrP (P:aG) (L:Lib):Prop extends Qt P L where
 h5:Has P L 5 c5
 nm:Has P L 34 Am
 WZ:Has P L 35 PA
 W0:Has P L 36 PB
 W1:Has P L 37 PC
 KW:Has P L 38 KI
 W2:Has P L 39 KJ
def aj8 {l:List Int}:bj (l.map fun x=>if x<0\/1000<x then 3 else 0)=if dB 0 1000 l=true then 3 else 0:=by
 induction l with
 | nil=>rfl
 | cons a r ih=>
  simp only [yU,bj,dB,ih]
  grind
def s5 (h:DrP P L) {v:AV} {w:List Int} (hv:br v w) (hl:w.length<=1000000) (key side:Int):
  (HZ key side w≠0->ae P L 5 [aa key,aa side,v] (.ap [.ab,aa (HZ key side w)]))/\
  (HZ key side w=0->∃n:Nat,side=n/\0<n/\n<=16/\ae P L 5 [aa key,aa side,v] (.ap [ph (fun c r=>aa (M6 key w (r*n+c))) n,aa 0])):=by
 have AE:∀a b c d e:Int,ae P L 33 [.aE true 5 [.int .i64 a,.int .i64 b,.int .i64 c,.int .i64 d,.int .i64 e]] (aa (bj [a,b,c,d,e])):=fun a b c d e=>sC h.og (fm true [a,b,c,d,e]) (by simp)
 have dU:(2:Int)≠0:=by decide
 have od:(w.length:Int).tmod 2=(w.length%2:Nat):=by rw [xn (by omega)];rfl
 obtain ⟨r35,Qu,i35⟩:=s35 h.WZ hv hl (g:=36) (f:=fun x=>if x<0\/1000<x then 3 else 0) (fun x=>s36 h.W0 h.nm h.fK x);have DX:=sC h.og i35 (by simpa using hl);rw [aj8] at DX;have hE:bj [if key<1\/2147483646<key then 3 else 0,if side<1\/16<side then 3 else 0,if decide ((w.length:Int)=0)=true then 12 else 0,if decide ((33:Int)<w.length)=true then 5 else 0,if decide (((w.length%2:Nat):Int)=0)=true then 2 else 0]=
   if key<1\/2147483646<key then 3 else if side<1\/16<side then 3 else if w.length=0 then 12 else if 33<w.length then 5 else if w.length%2=0 then 2 else 0:=by
  by_cases h1:key<1\/2147483646<key
  ·simp [h1,bj]
  ·by_cases h2:side<1\/16<side
   ·simp [h1,h2,bj]
   ·by_cases h3:w.length=0
    ·simp [h1,h2,h3,bj]
    ·by_cases h4:33<w.length
     ·simp [h1,h2,h3,h4,bj,show (33:Int)<w.length by omega]
     ·by_cases h5:w.length%2=0
      ·simp [h1,h2,h3,h4,h5,bj,show ¬(33:Int)<w.length by omega]
      ·simp only [h1,h2,h3,h4,h5,bj,show ¬(33:Int)<w.length by omega,show ¬(w.length:Int)=0 by omega,show ¬((w.length%2:Nat):Int)=0 by omega,yo,yD,yO,y5]
 unfold ae at AE Qu DX ⊢;generalize Hm:(if key<1\/2147483646<key then (3:Int) else if side<1\/16<side then 3 else if w.length=0 then 12 else if 33<w.length then 5 else if w.length%2=0 then 2 else 0)=E at hE;have rV:HZ key side w=if E≠0 then E else if dB 0 1000 w=true then 3 else if dK w=0 then 6 else 0:=by
  rw [<-Hm];unfold HZ;by_cases h1:key<1\/2147483646<key
  ·simp [h1]
  ·by_cases h2:side<1\/16<side
   ·simp [h1,h2]
   ·by_cases h3:w.length=0
    ·simp [h1,h2,h3]
    ·by_cases h4:33<w.length
     ·simp [h1,h2,h3,h4]
     ·by_cases h5:w.length%2=0
      ·simp [h1,h2,h3,h4,h5]
      ·simp [h1,h2,h3,h4,h5]
 have aA9:∀hp,freeze 998 hp (.fn (.f 36) [] [])=some (.fn (.f 36) [] [],hp):=fun hp=>by simp only [go_sem]
 by_cases h0:E≠0
 ·rw [yI h0] at rV;rw [rV];refine ⟨fun _=>?_,fun h=>absurd h h0⟩;rw [av h.h5];simp only [go_sem,ya,yb,yt,ye,yh,c5,hv.len,hv.pu,hv.one,hv.cells,F1 h.nm h.fK,mO h.fK,er _ _ _ dU,od,AE,hE,h0]
 ·rw [yB h0] at rV;have Qv:E=0:=by omega
  by_cases h1:dB 0 1000 w=true
  ·rw [yI h1] at rV DX;rw [rV];refine ⟨fun _=>?_,fun h=>absurd h (by decide)⟩;rw [av h.h5];simp only [go_sem,ya,yb,yt,ye,yh,c5,hv.len,hv.pu,hv.ah,hv.one,hv.cells,F1 h.nm h.fK,mO h.fK,er _ _ _ dU,od,AE,hE,Qv,Qu,i35.ah,DX,vN]
  ·rw [yB h1] at rV DX;have ho:dB 0 1000 w=false:=by simpa using h1
   have adP:(1<=key/\key<=2147483646)/\(1<=side/\side<=16)/\w.length<=33:=by
    rw [Qv] at Hm;by_cases g1:key<1\/2147483646<key
    ·simp [g1] at Hm
    ·by_cases g2:side<1\/16<side
     ·simp [g1,g2] at Hm
     ·by_cases g3:w.length=0
      ·simp [g1,g2,g3] at Hm
      ·by_cases g4:33<w.length
       ·simp [g1,g2,g3,g4] at Hm
       ·omega
   have XH:=s37 h.W1 h.KW hv adP.2.2 ho;unfold ae at XH;by_cases h2:dK w=0
   ·rw [yI h2] at rV;rw [rV];refine ⟨fun _=>?_,fun h=>absurd h (by decide)⟩;rw [av h.h5];simp only [go_sem,ya,yb,yt,ye,yh,c5,hv.len,hv.pu,hv.ah,hv.one,hv.cells,F1 h.nm h.fK,mO h.fK,er _ _ _ dU,od,AE,hE,Qv,Qu,i35.ah,DX,XH,h2]
   ·rw [yB h2] at rV;rw [rV];refine ⟨fun h=>absurd rfl h,fun _=>?_⟩;have hb:=LV ho;obtain ⟨n,rfl⟩:∃n:Nat,side=n:=⟨side.toNat,by omega⟩;refine ⟨n,rfl,by omega,by omega,?_⟩;rw [av h.h5];simp only [go_sem,ya,yb,yt,ye,yh,c5,hv.len,hv.pu,hv.ah,hv.one,hv.cells,F1 h.nm h.fK,mO h.fK,er _ _ _ dU,od,AE,hE,Qv,Qu,i35.ah,DX,XH,h2];generalize hj:[AV.int .i64 (if key<1\/2147483646<key then 3 else 0),_,_,_,_]=junk;have hf:IY P L 4 n (.fn (.f 39) [] [.ptr 3 0,.ptr 2 0,.ptr 0 0]) (fun c r=>aa (M6 key w (r*n+c))) (fun k=>jW v w junk (Bi key k)):=by
     refine ⟨by omega,fun k=>⟨⟨trivial,show 3<4 by omega,show 2<4 by omega,show 0<4 by omega,trivial⟩,by simp [refs,eQ],rfl,Z7 (yC 4),fun B=>by rw [aa7];simp⟩,fun _ _=>rfl,fun _ _=>rfl,fun c r hc hr fC ct hm fR hb Hl=>?_⟩
     have hx:=ai3 (key:=key) (by omega) (r*n+c)
     have:=s39 (P:=P) (L:=L) h.W2 hv adP.2.2 ho (by omega) (junk:=junk) hx c r hm fR hb Hl
     rw [this];unfold M6;rw [ajO]
    obtain ⟨tm,ct,XF,h4⟩:=Z2 (P:=P) (L:=L) h.toBuT (b:=4) (n:=n) (by omega) hf (fun p hp=>by
     simp only [jW,List.mem_cons,List.not_mem_nil,yaW] at hp
     rcases hp with rfl | rfl | rfl | rfl<;>simp)
    have zt:dF P L (D P L) [(3,.cells true true true 1 [.int .i64 key]),(2,.cells true true true 1 [.int .i64 (dK w)]),(1,.cells false true true 1 junk),(0,.cells true true true 1 [v])] 4 .heap (.fn (.f 40) [] []) [aa n,.fn (.f 39) [] [.ptr 3 0,.ptr 2 0,.ptr 0 0]]=
      some (.an (4+2) 0 n,jT 4 n (.fn (.f 39) [] [.ptr 3 0,.ptr 2 0,.ptr 0 0]) (fun c r=>aa (M6 key w (r*n+c))) (jW v w junk (Bi key (n*n))),ct):=
     Er (vals:=[aa n,.fn (.f 39) [] [.ptr 3 0,.ptr 2 0,.ptr 0 0]]) h.Qj XF (.inr rfl) (by show gN _ [.t 4]=_;rw [Fv,E2,h4])
    rw [zt]
    simp only [go_sem,ya,yb,al0 (b:=4) (n:=n) (by omega) (by omega)]
end
end
section
open Go (IntKind)
section
variable {P:aG} {L:Lib}
structure ShP (P:aG) (L:Lib):Prop extends Qt P L where
 mP:Has P L 20 c20
 Qk:Has P L 51 PE
 h58:Has P L 58 c58
 nm:Has P L 34 Am
def hO (n:Int):Int:=if n< -999999999\/999999999<n then 3 else 0
def s51 (h:Has P L 51 PE) (nm:Has P L 34 Am) (fK:Has P L 31 Al) (n:Int):ae P L 51 [aa n] (aa (hO n)):=by
 unfold ae;rw [av h];simp only [go_sem,ya,PE,F1 nm fK,hO]
end
end
section
open Go (IntKind)
section
variable {P:aG} {L:Lib}
def Dn (a:Rat):AV:=if LG a=true then .ap [.str [],aa 4] else .ap [.str (RT a),aa 0]
end
end
section
open Go (IntKind)
def Pa (s:List (List Int)) (x y:Rat):Rat:=O8 s (x.floor%s.length) (y.floor%s.length) (aS x) (aS y)
def aqB {s:List (List Int)} {i j:Int} {f g:Rat} {K:Nat} (h:∀c r,-1000<=iz s c r/\iz s c r<=1000) (kf:Hq K f) (kg:Hq K g):Hq (8*K+300) (O8 s i j f g):=
 (SY (Kc.mono (yC _)) (Sy (i:=i) (j:=j) h kf kg)).mono (by simp only [iO,yr,yE];omega)
def SZ {s:List (List Int)} {x y:Rat} {K:Nat} (h:∀c r,-1000<=iz s c r/\iz s c r<=1000) (kx:Hq K x) (ky:Hq K y) (hK:1<=K):Hq (16*K+400) (Pa s x y):=
 (aqB h (nf kx hK) (nf ky hK)).mono (by omega)
structure Av (P:aG) (L:Lib):Prop extends Ar P L where
 axg:Has P L 377 Uk
def lH (n:Int) (x y:Rat) (k:Int):Int:=(x.floor%n+k%2)%n
def lI (n:Int) (x y:Rat) (k:Int):Int:=(y.floor%n+k/2)%n
def gl (n:Int) (x y:Rat):List AV:=[aa (lH n x y 0),aa (lI n x y 0),.str (RT ((1-aS x)*(1-aS y))),aa (lH n x y 1),aa (lI n x y 1),.str (RT (aS x*(1-aS y))),
  aa (lH n x y 2),aa (lI n x y 2),.str (RT ((1-aS x)*aS y)),aa (lH n x y 3),aa (lI n x y 3),.str (RT (aS x*aS y))]
def Z8 (n:Int) (x y:Rat):MZ n x y= .agg (gl n x y):=by
 unfold MZ gl lH lI
 simp_all
def Sz (n:Int) (x y:Rat):∀{k:Nat},(hk:k<4)->∃r,(gl n x y).drop (k*3)=aa (lH n x y k)::aa (lI n x y k):: .str (RT ((cV (aS x) (aS y))[k]'hk))::r
 | 0,_=>⟨_,rfl⟩
 | 1,_=>⟨_,rfl⟩
 | 2,_=>⟨_,rfl⟩
 | 3,_=>⟨_,rfl⟩
 | k+4,hk=>absurd hk (by omega)
section
variable {P:aG} {L:Lib}
def Is {k:Nat} (hk:k<4) (id:Nat):I2 4 3 k (.ptr id 0)=some (.ptr id (k*3)):=by
 show (bif Nat.blt k 4 then some (AV.ptr id (0+k*3)) else none)=_
 rw [jM hk,yd];rfl
def atb {l:List AV} {k:Nat} {a:AV} {r:List AV} (h:l.drop k=a::r):l.drop (k+1)=r:=by
 rw [<-wX,h];rfl
def S3 {l:List AV} {k:Nat} {a b:AV} {r:List AV} (h:l.drop k=a::b::r):l.drop (k+2)=r:=by
 rw [<-wX,h];rfl
def axh (h:Av P L) {w:AV} {s:List (List Int)} {n:Nat} {x y:Rat} {K:Nat} (hw:Cc w s n) (kx:Hq K x) (ky:Hq K y) (nv:100<=K) (hK:K<=10000000):ae P L 377 [w,gh x y] (.str (RT (Pa s x y))):=by
 have hn:=hw.len;have n0:=hw.pos;have n1:=hw.le;have hS:=hw.is;have e0:=agI h.toAr kx ky nv (by omega) (n:=n) (by omega) (by omega);rw [Z8] at e0;have kf:=nf kx (by omega);have kg:=nf ky (by omega);have kw:=IW kf kg;have kp:=Sy (i:=x.floor%n) (j:=y.floor%n) hw.cP kf kg;have ks:=fun m=>ab1 (Kc.mono (yC _)) kp m
 have pl:(iO s (x.floor%n) (y.floor%n) (aS x) (aS y)).length=4:=rfl;rw [pl] at ks;have key:=cg (P:=P) (L:=L) (live:=[0,5,6,7]) (a:=IS)
  (I:=fun k st=>∃m:Nat,m+k=4/\st=⟨[(0,w),(5,.ptr 0 0),(6,.str (RT (mL 0 ((iO s (x.floor%n) (y.floor%n) (aS x) (aS y)).take m)))),(7,aa m)],[(0,.cells true true true 12 (gl n x y))],1,0⟩)
  (Q:=fun ex st=>∃tm hp ct,st=⟨tm,hp,ct,0⟩/\ex= .exit 0/\af tm 6= .str (RT (mL 0 (iO s (x.floor%n) (y.floor%n) (aS x) (aS y))))) ?_
 ·unfold ae at e0 ⊢;rw [av h.axg];simp only [go_sem,ya,yb,Uk,aZ,aB,dl,hS.len,hn,e0,gl,ET];generalize hq:D P L (.loop [0,5,6,7] IS) _=q;obtain ⟨ex,st,rfl,tm,hp,ct,rfl,rfl,t6⟩:=bP hq (key 4) ⟨0,by omega,by simp only [go_sem,ya,yb,ay,aJ hS.pu,aO _ hS.pu]<;>rfl⟩
  simp only [go_sem,ay,t6];unfold Pa O8;rw [hn]
 ·rintro k st ⟨m,hk,rfl⟩;by_cases hm:m<4
  ·left
   obtain ⟨r,hr⟩:=Sz n x y hm;obtain ⟨q,rest,NE,e3,e4⟩:=hw.cell (x.floor%n+(m:Int)%2) (y.floor%n+(m:Int)/2);have hb:=hw.cP (x.floor%n+(m:Int)%2) (y.floor%n+(m:Int)/2);have e5:=NK h.toRm h.qG (n:=iz s (x.floor%n+(m:Int)%2) (y.floor%n+(m:Int)/2)) (by omega);have e6:ae P L 267 [.str (RT ((cV (aS x) (aS y))[m]'hm)),.str (RT (mC s (x.floor%n) (y.floor%n) (m:Int)))] (.str (RT ((cV (aS x) (aS y))[m]'hm*mC s (x.floor%n) (y.floor%n) (m:Int)))):=rF h.toRn (kw _ (vM (show m<(cV (aS x) (aS y)).length from hm))) (Cy (i:=x.floor%n) (j:=y.floor%n) (k:=(m:Int)) hw.cP) (by omega);have e7:=NM h.toRp (ks m) ((kw _ (vM (show m<(cV (aS x) (aS y)).length from hm))).mul (Cy (i:=x.floor%n) (j:=y.floor%n) (k:=(m:Int)) hw.cP)) (by omega)
   have hp:(iO s (x.floor%n) (y.floor%n) (aS x) (aS y))[m]'(by rw [pl];exact hm)=(cV (aS x) (aS y))[m]'hm*mC s (x.floor%n) (y.floor%n) (m:Int):=aa3 _ _ _ _ _ m hm
   have hs:=ZW (s:=0) (l:=iO s (x.floor%n) (y.floor%n) (aS x) (aS y)) (i:=m) (by rw [pl];exact hm)
   rw [hp] at hs;have e7:ae P L 264 [.str (RT (mL 0 ((iO s (x.floor%n) (y.floor%n) (aS x) (aS y)).take m))),.str (RT ((cV (aS x) (aS y))[m]'hm*mC s (x.floor%n) (y.floor%n) (m:Int)))] (.str (RT (mL 0 ((iO s (x.floor%n) (y.floor%n) (aS x) (aS y)).take (m+1))))):=by rw [hs];exact e7
   have a1:=xM (x.floor%n+(m:Int)%2) (show (n:Int)≠0 by omega);have a2:=xM (y.floor%n+(m:Int)/2) (show (n:Int)≠0 by omega);unfold mC at e6 e7;simp only [go_sem,ya,IS,show (m:Int)<4 by omega,Is hm,jY (show (0:Int)<=m by omega),xI,aV,Nat.add_zero,hr,atb hr,S3 hr,lH,lI,jY a1,jY a2,e3,e4,e5,e6,e7];refine ⟨_,k-1,rfl,by omega,m+1,by omega,?_⟩;rw [wrap64 (by omega) (by omega)];simp only [go_sem,ya,yb,ay,aJ hS.pu,aO _ hS.pu]<;>rfl
  ·right
   have:m=4:=by omega
   subst this;simp only [go_sem,ya,IS,show ¬((4:Nat):Int)<4 by decide,yo];exact ⟨_,_,rfl,by simp,_,_,_,rfl,rfl,by simp only [go_sem,ya]<;>rfl⟩
end
end
section
open Go (IntKind)
def I0 {w:AV} {s:List (List Int)} (hw:cF w s) (h:jX s=0):Cc w s s.length:=by
 obtain ⟨a1,a2,a3⟩:=QB h;exact ⟨hw,rfl,a1,a2,fun i hi=>(HO a3 i hi).1,a3⟩
def cM (w:AV) (hh sc st ox oy wx wy:List Nat):AV:= .agg [w,.str hh,.str sc,.str st,.str ox,.str oy,.str wx,.str wy]
noncomputable def iP (s:List (List Int)) (hh sc st ox oy wx wy:List Nat):Int:=bj [jX s,jg hh 0,jg sc 1,aY st,bj [aY ox,aY oy],bj [aY wx,aY wy]]
def Hx {a:Int} {l:List Int}:bj (a::l)=0↔a=0/\bj l=0:=by
 simp only [bj]
 grind
def HE:bj []=0:=rfl
def It {s:List (List Int)} {hh sc st ox oy wx wy:List Nat} (h:iP s hh sc st ox oy wx wy=0):jX s=0/\(aY hh=0/\0<=cf (aM hh).num)/\(aY sc=0/\1<=cf (aM sc).num)/\aY st=0/\(aY ox=0/\aY oy=0)/\aY wx=0/\aY wy=0:=by
 unfold iP at h;simp only [Hx,HE,wi] at h;obtain ⟨h1,h2,h3,h4,⟨h5,h6⟩,h7,h8⟩:=h;exact ⟨h1,Su h2,Su h3,h4,⟨h5,h6⟩,h7,h8⟩
noncomputable def kC (s:List (List Int)) (hh sc st ox oy wx wy dx dy sh x y:List Nat) (fr:Int):Int:=bj [iP s hh sc st ox oy wx wy,qw dx dy sh,bj [aY x,aY y],hO fr]
noncomputable def du (s:List (List Int)) (hh sc st ox oy wx wy dx dy sh x y:List Nat) (fr:Int):Int:=
 if kC s hh sc st ox oy wx wy dx dy sh x y fr≠0 then kC s hh sc st ox oy wx wy dx dy sh x y fr else if zn (aM sh) (aM hh)=true then 0 else 31
noncomputable def cS (hh sc o w d sh x:List Nat) (fr:Int):Rat:=pg (aM sc) (fw (aM sh) (aM hh)*aM x+aM hh*aM d) (aM o) (aM w) fr
structure Lp (P:aG) (L:Lib):Prop extends Sp P L,Vl P L,ShP P L where
 WY:Has P L 24 Pz
 W7:Has P L 57 PG
 Xb:Has P L 66 PK
 Xc:Has P L 67 V7
 axi:Has P L 115 TV
 Ki:Has P L 116 N7
section
variable {P:aG} {L:Lib}
def Vd (h:Lp P L) {w:AV} {s:List (List Int)} (hw:cF w s) (hl:s.length<=1000000) (hr:∀i (hi:i<s.length),s[i].length<=1000000) {hh sc st ox oy wx wy:List Nat} (l1:hh.length<=1000000000) (l2:sc.length<=1000000000) (l3:st.length<=1000000000) (l4:ox.length<=1000000000) (l5:oy.length<=1000000000) (l6:wx.length<=1000000000) (l7:wy.length<=1000000000):
  ae P L 115 [cM w hh sc st ox oy wx wy] (aa (iP s hh sc st ox oy wx wy)):=by
 have e1:=s4 h.toSq hw hl hr;have e2:=Xr h.toSp l1 0;have e3:=Xr h.toSp l2 1;have e4:=Qn h.toCk l3;have e5:=Qp h.toSp l4 l5;have e6:=Qp h.toSp l6 l7;have e7:=sC h.toSp.og (fm true [jX s,jg hh 0,jg sc 1,aY st,bj [aY ox,aY oy],bj [aY wx,aY wy]]) (by simp);simp only [yr,yE,yd,yb,yU,xU] at e7;have o1:=hw.one;have p1:=hw.pu;have d2:∀a b c d e f g i:AV,xm 2 [a,b,c,d,e,f,g,i]=[c,d,e,f,g,i]:=fun _ _ _ _ _ _ _ _=>rfl
 have d3:∀a b c d e f g i:AV,xm 3 [a,b,c,d,e,f,g,i]=[d,e,f,g,i]:=fun _ _ _ _ _ _ _ _=>rfl
 have d6:∀a b c d e f g i:AV,xm 6 [a,b,c,d,e,f,g,i]=[g,i]:=fun _ _ _ _ _ _ _ _=>rfl
 unfold ae at e1 e2 e3 e4 e5 e6 e7 ⊢;rw [av h.axi];unfold cM;simp only [go_sem,ya,yb,yt,ye,yh,TV,aB,o1,p1,hw.ah,aV,yd,bU,d2,d3,jE,d6,dl,aZ,yj,e1,e2,e3,e4,e5,e6,e7];rfl
def XI (h:Lp P L) {w:AV} {s:List (List Int)} (hw:cF w s) (hl:s.length<=1000000) (hr:∀i (hi:i<s.length),s[i].length<=1000000) {hh sc st ox oy wx wy dx dy sh x y:List Nat} {fr:Int} (l1:hh.length<=1000000000) (l2:sc.length<=1000000000) (l3:st.length<=1000000000) (l4:ox.length<=1000000000) (l5:oy.length<=1000000000) (l6:wx.length<=1000000000) (l7:wy.length<=1000000000) (l8:dx.length<=1000000000) (l9:dy.length<=1000000000) (la:sh.length<=1000000000) (lb:x.length<=1000000000) (lc:y.length<=1000000000):
  ae P L 66 [cM w hh sc st ox oy wx wy,fj dx dy sh,dI x y,aa fr] (aa (du s hh sc st ox oy wx wy dx dy sh x y fr)):=by
 have e1:=Vd h hw hl hr l1 l2 l3 l4 l5 l6 l7;have e2:=m60 h.toSp l8 l9 la;have e3:=Qp h.toSp lb lc;have e4:=s51 h.Qk h.nm h.toSp.fK fr;have e5:=sC h.toSp.og (fm true [iP s hh sc st ox oy wx wy,qw dx dy sh,bj [aY x,aY y],hO fr]) (by simp);simp only [yr,yE,yd,yb,yU,xU] at e5;rw [show bj [iP s hh sc st ox oy wx wy,qw dx dy sh,bj [aY x,aY y],hO fr]=kC s hh sc st ox oy wx wy dx dy sh x y fr from rfl] at e5;rw [show bj [bj [aY dx,aY dy],jg sh 0]=qw dx dy sh from rfl] at e2;have o1:=hw.one;have p1:=hw.pu;have fk:∀a b c d e f g i:AV,dO 8 true [a,b,c,d,e,f,g,i]=some (.agg [a,b,c,d,e,f,g,i]):=fun _ _ _ _ _ _ _ _=>rfl
 unfold ae at e1 e2 e3 e4 e5 ⊢;rw [av h.Xb];unfold du;by_cases h0:kC s hh sc st ox oy wx wy dx dy sh x y fr=0
 ·rw [yB (by simp [h0])];have h1:=h0;unfold kC at h1;simp only [Hx,HE,wi] at h1;obtain ⟨h2,h3,⟨h4,h5⟩,h6⟩:=h1;obtain ⟨q1,⟨q2,_⟩,_⟩:=It h2;obtain ⟨q3,q4,q5,_⟩:=aa2 h3;obtain ⟨v,e6,hv⟩:=zZ h.toSp q2;have e7:=m63 h.toSp (x:=dx) (y:=dy) q5 hv (iG q2 (yC 2400)) (by decide);have e8:=mO h.toSp.fK (!(zn (aM sh) (aM hh))) 31;obtain ⟨v1,v2,v3,v4,rfl,gv⟩:=hv.gen;rw [h0] at e5;unfold cM fj dI at*
  simp only [go_sem,ya,yb,yt,ye,yh,PK,aB,o1,p1,hw.ah,aV,yd,bU,fk,dl,fU,aZ,yj,e1,e2,e3,e4,e5,e6,bl,gv.ah,e7,e8];cases zn (aM sh) (aM hh)<;>rfl
 ·rw [yI h0];unfold cM fj dI at*
  simp only [go_sem,ya,yb,yt,ye,yh,PK,aB,o1,p1,hw.ah,yd,fk,dl,fU,aZ,yj,e1,e2,e3,e4,e5,h0,yo,yF]
structure zG (s:List (List Int)) (hh sc st ox oy wx wy dx dy sh x y:List Nat) (fr:Int):Prop where
 scr:jX s=0
 hh:aY hh=0
 sc:aY sc=0
 st:aY st=0
 ox:aY ox=0
 oy:aY oy=0
 wx:aY wx=0
 wy:aY wy=0
 dx:aY dx=0
 dy:aY dy=0
 sh:aY sh=0
 x:aY x=0
 y:aY y=0
 fr:hO fr=0
def A1 {s:List (List Int)} {hh sc st ox oy wx wy dx dy sh x y:List Nat} {fr:Int} (h0:kC s hh sc st ox oy wx wy dx dy sh x y fr=0):zG s hh sc st ox oy wx wy dx dy sh x y fr:=by
 unfold kC at h0;simp only [Hx,HE,wi] at h0;obtain ⟨h2,h3,⟨h4,h5⟩,h6⟩:=h0;obtain ⟨q1,⟨q2,_⟩,⟨q3,_⟩,q4,⟨q5,q6⟩,q7,q8⟩:=It h2;obtain ⟨r1,r2,r3,_⟩:=aa2 h3;exact ⟨q1,q2,q3,q4,q5,q6,q7,q8,r1,r2,r3,h4,h5,h6⟩
def AR {n:Int} (h:hO n=0): -999999999<=n/\n<=999999999:=by
 unfold hO at h;split at h<;>omega
def ab3 {hh sc o w d sh x:List Nat} {fr:Int} (h1:aY hh=0) (h2:aY sc=0) (h3:aY o=0) (h4:aY w=0) (h5:aY d=0) (h6:aY sh=0) (h7:aY x=0) (h8:hO fr=0):Hq 22000 (cS hh sc o w d sh x fr):=by
 have:=AR h8
 have H:=fun {t:List Nat} (c:aY t=0)=>iG c (yC 2400)
 exact (as9 (H h2) (Sx (H h6) (H h1) (H h7) (H h5)) (H h3) (H h4) (by omega) (by omega)).mono (by omega)
def zG.kX {s:List (List Int)} {hh sc st ox oy wx wy dx dy sh x y:List Nat} {fr:Int} (h:zG s hh sc st ox oy wx wy dx dy sh x y fr):Hq 22000 (cS hh sc ox wx dx sh x fr):=ab3 h.hh h.sc h.ox h.wx h.dx h.sh h.x h.fr
def zG.kY {s:List (List Int)} {hh sc st ox oy wx wy dx dy sh x y:List Nat} {fr:Int} (h:zG s hh sc st ox oy wx wy dx dy sh x y fr):Hq 22000 (cS hh sc oy wy dy sh y fr):=ab3 h.hh h.sc h.oy h.wy h.dy h.sh h.y h.fr
noncomputable def Cd (s:List (List Int)) (hh sc st ox oy wx wy dx dy sh x y:List Nat) (fr:Int):Rat:=aM st*Pa s (cS hh sc ox wx dx sh x fr) (cS hh sc oy wy dy sh y fr)
def afp {s:List (List Int)} {hh sc st ox oy wx wy dx dy sh x y:List Nat} {fr:Int} (k:zG s hh sc st ox oy wx wy dx dy sh x y fr):Hq 400000 (Cd s hh sc st ox oy wx wy dx dy sh x y fr):=by
 obtain ⟨a1,a2,a3⟩:=QB k.scr;exact ((iG k.st (yC 2400)).mul (SZ (fun c r=>QH a3 (by decide) c r) k.kX k.kY (by omega))).mono (by omega)
def m67 (h:Lp P L) {w:AV} {s:List (List Int)} (hw:cF w s) {hh sc st ox oy wx wy dx dy sh x y:List Nat} {fr:Int} (k:zG s hh sc st ox oy wx wy dx dy sh x y fr):
  ∃r,ae P L 67 [cM w hh sc st ox oy wx wy,fj dx dy sh,dI x y,aa fr] r/\cE r (Cd s hh sc st ox oy wx wy dx dy sh x y fr):=by
 have hS:=I0 hw k.scr;have hf:=AR k.fr;have o1:=hw.one;have p1:=hw.pu;have n0:=hS.pos;have n1:=hS.le;obtain ⟨a,e1,ha⟩:=zZ h.toSp k.st;obtain ⟨b,e2,hb⟩:=Va h.toSp h.Ki (scr:=w) (st:= .str st) (fr:=fr) o1 p1 rfl rfl k.dx k.dy k.sh k.hh k.sc k.ox k.oy k.wx k.wy k.x k.y (by omega) (by omega);obtain ⟨c,e3,hc⟩:=m55 h.toVl.toFr' h.He h.Dm h.z6 (s:=(s.length:Int)) hb k.kX k.kY (by omega) (by omega) (by omega) (by omega);have q1:=xM (cS hh sc ox wx dx sh x fr).floor (show (s.length:Int)≠0 by omega);have q2:=we (cS hh sc ox wx dx sh x fr).floor (show (0:Int)<s.length by omega);have q3:=xM (cS hh sc oy wy dy sh y fr).floor (show (s.length:Int)≠0 by omega);have q4:=we (cS hh sc oy wy dy sh y fr).floor (show (0:Int)<s.length by omega)
 obtain ⟨d,e4,hd⟩:=m56 h.toVl hc hS ⟨q1,q2⟩ ⟨q3,q4⟩ (nf k.kX (by omega)) (nf k.kY (by omega)) (by omega);have kv:=SZ (fun c r=>hS.cP c r) k.kX k.kY (by omega);obtain ⟨e,e5,he⟩:=sK h.toVl.toFr' ha hd (K:=400000) ((iG k.st (yC 2400)).mono (by omega)) (kv.mono (by omega)) (by omega);have VJ:=he;refine ⟨e,?_,VJ⟩;obtain ⟨a1,a2,a3,a4,rfl,ga⟩:=ha.gen;obtain ⟨b1,b2,b3,b4,b5,b6,b7,b8,rfl,gb⟩:=hb.gen;obtain ⟨c1,c2,c3,c4,c5,c6,c7,c8,rfl,_,_,_,fz⟩:=hc.gen;obtain ⟨d1,d2,d3,d4,rfl,gd⟩:=hd.gen;obtain ⟨f1,f2,f3,f4,rfl,ge⟩:=he.gen;have d3':∀a b c d e f g i:AV,xm 3 [a,b,c,d,e,f,g,i]=[d,e,f,g,i]:=fun _ _ _ _ _ _ _ _=>rfl
 have fk:∀a b c d e f g i:AV,dO 8 true [a,b,c,d,e,f,g,i]=some (.agg [a,b,c,d,e,f,g,i]):=fun _ _ _ _ _ _ _ _=>rfl
 unfold ae at e1 e2 e3 e4 e5 ⊢;rw [av h.Xc];unfold cM fj dI at*
 simp only [go_sem,ya,yb,V7,aB,o1,p1,hw.len,hw.ah,aV,yd,fk,d3',dl,fU,aZ,yj,e1,bl,ga.ah,e2,gb.ah,e3,fz,e4,gd.ah,e5,ge.st,dc,dd];exact ge.dT _
def m57 (h:Lp P L) {v:AV} {a:Rat} {K:Nat} (hv:cE v a) (ka:Hq K a) (hK:K<=4000000000):ae P L 57 [v] (Dn a):=by
 have e1:=OW h.toSp.toTx hv ka hK;have e2:=Qf h.toSp.toTx hv ka hK;obtain ⟨s1,w1,s2,w2,rfl,h1,h2⟩:=hv;obtain ⟨l1,u1⟩:=h1.az;obtain ⟨l2,u2⟩:=h2.az;unfold Dn;unfold ae at e1 e2 ⊢;rw [av h.W7];cases hL:LG a<;>rw [hL] at e1
 ·simp only [go_sem,ya,yb,PG,aB,hZ,aZ,u1.pu,u1.ah,u1.one,u2.pu,u2.ah,u2.one,e1,e2,yD,yO];rfl
 ·simp only [go_sem,ya,yb,PG,aB,hZ,aZ,u1.pu,u1.ah,u1.one,u2.pu,u2.ah,u2.one,e1,y5];rfl
def atc (a:Rat):∃u e,Dn a= .ap [.str u,aa e]:=by unfold Dn;split<;>exact ⟨_,_,rfl⟩
noncomputable def Ve (s:List (List Int)) (hh sc st ox oy wx wy dx dy sh x y:List Nat) (fr:Int):AV:=
 if du s hh sc st ox oy wx wy dx dy sh x y fr≠0 then .ap [.str [],aa (du s hh sc st ox oy wx wy dx dy sh x y fr)] else Dn (Cd s hh sc st ox oy wx wy dx dy sh x y fr)
def Ev {s:List (List Int)} {hh sc st ox oy wx wy dx dy sh x y:List Nat} {fr:Int} (h0:du s hh sc st ox oy wx wy dx dy sh x y fr=0):kC s hh sc st ox oy wx wy dx dy sh x y fr=0/\zn (aM sh) (aM hh)=true:=by
 unfold du at h0
 grind
section
variable (h:Lp P L) {w:AV} {s:List (List Int)} (hw:cF w s) (hl:s.length<=1000000) (hr:∀i (hi:i<s.length),s[i].length<=1000000) {hh sc st ox oy wx wy dx dy sh x y:List Nat} {fr:Int} (l1:hh.length<=1000000000) (l2:sc.length<=1000000000) (l3:st.length<=1000000000) (l4:ox.length<=1000000000) (l5:oy.length<=1000000000) (l6:wx.length<=1000000000) (l7:wy.length<=1000000000) (l8:dx.length<=1000000000) (l9:dy.length<=1000000000) (la:sh.length<=1000000000) (lb:x.length<=1000000000) (lc:y.length<=1000000000)
include h hw hl hr l1 l2 l3 l4 l5 l6 l7 l8 l9 la lb lc
def m24:ae P L 24 [cM w hh sc st ox oy wx wy,fj dx dy sh,dI x y,aa fr] (Ve s hh sc st ox oy wx wy dx dy sh x y fr):=by
 have e1:=XI h hw hl hr (fr:=fr) l1 l2 l3 l4 l5 l6 l7 l8 l9 la lb lc;have o1:=hw.one;have p1:=hw.pu;have fk:∀a b c d e f g i:AV,dO 8 true [a,b,c,d,e,f,g,i]=some (.agg [a,b,c,d,e,f,g,i]):=fun _ _ _ _ _ _ _ _=>rfl
 unfold ae at e1 ⊢;rw [av h.WY];unfold Ve;by_cases h0:du s hh sc st ox oy wx wy dx dy sh x y fr=0
 ·rw [yB (by simp [h0])];have k:=A1 (Ev h0).1;obtain ⟨a,e2,ha⟩:=m67 h hw k;have e3:=m57 h ha (afp k) (by decide);obtain ⟨u,z,hu⟩:=atc (Cd s hh sc st ox oy wx wy dx dy sh x y fr);rw [hu] at e3 ⊢;rw [h0] at e1;obtain ⟨a1,a2,a3,a4,rfl,ga⟩:=ha.gen;unfold cM fj dI at*
  simp only [go_sem,ya,yb,Pz,aB,o1,p1,hw.ah,yd,fk,dl,fU,aZ,yj,e1,e2,bl,ga.ah,e3];rfl
 ·rw [yI h0];unfold cM fj dI at*
  simp only [go_sem,ya,yb,Pz,aB,o1,p1,hw.ah,yd,fk,dl,fU,aZ,yj,e1,h0,yo,yF];rfl
end
end
end
section
open Go (IntKind)
section
variable {P:aG} {L:Lib}
def axj (h:S0 P L) (h3:Has P L 3 c3) (pL:Has P L 30 Ak) (Vf:Has P L 335 Ow) {w:AV} {s:List (List Int)} (hw:cF w s) {hh sc st ox oy wx wy:List Nat} (l1:hh.length<=1000000000) (l2:sc.length<=1000000000) (l3:st.length<=1000000000) (l4:ox.length<=1000000000) (l5:oy.length<=1000000000) (l6:wx.length<=1000000000) (l7:wy.length<=1000000000):
  ae P L 335 [cM w hh sc st ox oy wx wy] (aa (iP s hh sc st ox oy wx wy)):=by
 have e1:=s3 h3 pL hw;have e2:=agC h l1;have e3:=agB h l2 1;have e4:=U3 h.toRm l3;have e5:=Kf h l4 l5;have e6:=Kf h l6 l7;have e7:=Wq h.sD (fm true [jX s,jg hh 0,jg sc 1,aY st,bj [aY ox,aY oy],bj [aY wx,aY wy]]) (by simp);simp only [yr,yE,yd,yb,yU,xU] at e7;have o1:=hw.one;have p1:=hw.pu;have d2:∀a b c d e f g i:AV,xm 2 [a,b,c,d,e,f,g,i]=[c,d,e,f,g,i]:=fun _ _ _ _ _ _ _ _=>rfl
 have d3:∀a b c d e f g i:AV,xm 3 [a,b,c,d,e,f,g,i]=[d,e,f,g,i]:=fun _ _ _ _ _ _ _ _=>rfl
 have d6:∀a b c d e f g i:AV,xm 6 [a,b,c,d,e,f,g,i]=[g,i]:=fun _ _ _ _ _ _ _ _=>rfl
 unfold dI at e5 e6;unfold ae at e1 e2 e3 e4 e5 e6 e7 ⊢;rw [av Vf];unfold cM;simp only [go_sem,ya,yb,yt,ye,yh,Ow,aB,o1,p1,hw.ah,aV,yd,bU,d2,d3,jE,d6,dl,aZ,yj,e1,e2,e3,e4,e5,e6,e7];rfl
def auN (v a b c d e f u:AV) (r:List AV):over 6 [v] (a::b::c::d::e::f::u::r)=a::b::c::d::e::f::v::r:=rfl
def axk (h2:Has P L 2 c2) (Kd:Has P L 305 JG) (Vg:Has P L 327 JJ) {w:AV} {s:List (List Int)} (hw:cF w s) {n:Nat} {hh sc st ox oy wx wy:List Nat} (l1:hh.length<9223372036854775808) (l2:sc.length<9223372036854775808) (l3:st.length<9223372036854775808) (l4:ox.length<9223372036854775808) (l5:oy.length<9223372036854775808) (l6:wx.length<9223372036854775808) (l7:wy.length<9223372036854775808):
  ae P L 327 [cM w hh sc st ox oy wx wy,aa n] (.bool (A8 n s&&jO [hh,sc,st,ox,oy,wx,wy])):=by
 have e1:=s2 h2 hw (n:=n);have e2:=U4 Kd (Cx true [hh,sc,st,ox,oy,wx,wy]) (by simp) (fun t ht=>by
  simp at ht
  rcases ht with rfl | rfl | rfl | rfl | rfl | rfl | rfl<;>omega)
 simp only [yr,yE,yd,yb,yU,xU] at e2;have o1:=hw.one;have p1:=hw.pu;have d2:∀a b c d e f g i:AV,xm 2 [a,b,c,d,e,f,g,i]=[c,d,e,f,g,i]:=fun _ _ _ _ _ _ _ _=>rfl
 have d3:∀a b c d e f g i:AV,xm 3 [a,b,c,d,e,f,g,i]=[d,e,f,g,i]:=fun _ _ _ _ _ _ _ _=>rfl
 have d5:∀a b c d e f g i:AV,xm 5 [a,b,c,d,e,f,g,i]=[f,g,i]:=fun _ _ _ _ _ _ _ _=>rfl
 have d6:∀a b c d e f g i:AV,xm 6 [a,b,c,d,e,f,g,i]=[g,i]:=fun _ _ _ _ _ _ _ _=>rfl
 have d7:∀a b c d e f g i:AV,xm 7 [a,b,c,d,e,f,g,i]=[i]:=fun _ _ _ _ _ _ _ _=>rfl
 unfold ae at e1 e2 ⊢;rw [av Vg];unfold cM;cases hs:A8 n s<;>rw [hs] at e1
 ·simp only [go_sem,ya,yb,JJ,aB,o1,p1,hw.ah,aV,yd,yj,e1,Bool.false_and]
 ·simp only [go_sem,ya,yb,yt,ye,yh,JJ,aB,o1,p1,hw.ah,aV,yd,bU,d2,d3,jE,d5,d6,d7,yj,e1,auN,e2,Bool.true_and]
def Vh (DO:Has P L 21 KG) (Ap:Has P L 59 FP) (Kj:Has P L 363 Oy) {v w:AV} {s:List (List Int)} (hv:cF v s) (hw:cF w s) (hl:s.length<=1000000) (hr:∀i (hi:i<s.length),s[i].length<=1000000) (hh sc st ox oy wx wy:List Nat):
  ae P L 363 [cM v hh sc st ox oy wx wy,cM w hh sc st ox oy wx wy] (.bool true):=by
 have e1:=s21 DO Ap hv hw hl hr rfl;have o1:=hv.one;have p1:=hv.pu;have o2:=hw.one;have p2:=hw.pu;have d2:∀a b c d e f g i:AV,xm 2 [a,b,c,d,e,f,g,i]=[c,d,e,f,g,i]:=fun _ _ _ _ _ _ _ _=>rfl
 have d3:∀a b c d e f g i:AV,xm 3 [a,b,c,d,e,f,g,i]=[d,e,f,g,i]:=fun _ _ _ _ _ _ _ _=>rfl
 have d6:∀a b c d e f g i:AV,xm 6 [a,b,c,d,e,f,g,i]=[g,i]:=fun _ _ _ _ _ _ _ _=>rfl
 unfold ae at e1 ⊢;rw [av Kj];unfold cM;simp only [go_sem,ya,yb,Oy,aB,o1,p1,o2,p2,hv.ah,hw.ah,aV,yd,bU,d2,d3,jE,d6,dl,yj,e1,iF,HV,NP,cQ,Bool.and_self]
structure Ry (P:aG) (L:Lib):Prop extends Sr0 P L,Av P L where
 h3:Has P L 3 c3
 pL:Has P L 30 Ak
 U9:Has P L 333 Ov
 Vf:Has P L 335 Ow
 axl:Has P L 376 Uj
def afq (h:Ry P L) {w:AV} {s:List (List Int)} (hw:cF w s) {hh sc st ox oy wx wy dx dy sh x y:List Nat} {fr:Int} (k:zG s hh sc st ox oy wx wy dx dy sh x y fr):
  ae P L 333 [cM w hh sc st ox oy wx wy,fj dx dy sh,dI x y,aa fr] (gh (cS hh sc ox wx dx sh x fr) (cS hh sc oy wy dy sh y fr)):=by
 have hf:=AR k.fr;have H:=fun {t:List Nat} (c:aY t=0)=>iG c (yC 2400)
 have R:=fun {t:List Nat} (c:aY t=0)=>(sR c).1
 have e1:=axc h.toSr0 h.qG h.U9 (st:= .str st) (fr:=fr) hw.one hw.pu rfl rfl (H k.dx) (H k.dy) (H k.sh) (H k.hh) (H k.sc) (H k.ox) (H k.oy) (H k.wx) (H k.wy) (H k.x) (H k.y) (by omega) (by omega) (by omega) (by omega);unfold gh at e1;rw [<-R k.dx,<-R k.dy,<-R k.sh,<-R k.hh,<-R k.sc,<-R k.ox,<-R k.oy,<-R k.wx,<-R k.wy,<-R k.x,<-R k.y] at e1;exact e1
def axm (h:Ry P L) {w:AV} {s:List (List Int)} (hw:cF w s) {hh sc st ox oy wx wy dx dy sh x y:List Nat} {fr:Int} (k:zG s hh sc st ox oy wx wy dx dy sh x y fr):
  ae P L 376 [cM w hh sc st ox oy wx wy,fj dx dy sh,dI x y,aa fr] (.str (RT (Cd s hh sc st ox oy wx wy dx dy sh x y fr))):=by
 have hS:=I0 hw k.scr;have e1:=afq h hw k;have e2:=axh h.toAv hS k.kX k.kY (by omega) (by omega);have kv:=SZ (fun c r=>hS.cP c r) k.kX k.kY (by omega);have e3:=rF h.toRn (iG k.st (yC 2400)) kv (by omega);rw [<-(sR k.st).1] at e3;have o1:=hw.one;have p1:=hw.pu;have d3:∀a b c d e f g i:AV,xm 3 [a,b,c,d,e,f,g,i]=[d,e,f,g,i]:=fun _ _ _ _ _ _ _ _=>rfl
 have fk:∀a b c d e f g i:AV,dO 8 true [a,b,c,d,e,f,g,i]=some (.agg [a,b,c,d,e,f,g,i]):=fun _ _ _ _ _ _ _ _=>rfl
 unfold Cd;unfold ae at e1 e2 e3 ⊢;rw [av h.axl];unfold cM fj dI at*
 unfold gh at*
 simp only [go_sem,ya,yb,Uj,aB,o1,p1,hw.ah,aV,yd,d3,fk,dl,fU,aZ,yj,e1,bl,e2,e3]
def axn (h:Ry P L) (Vi:Has P L 381 Oz) {w:AV} {s:List (List Int)} (hw:cF w s) {hh sc st ox oy wx wy:List Nat} {fr:Int} (hE:iP s hh sc st ox oy wx wy=0) (hF:hO fr=0):
  ae P L 381 [cM w hh sc st ox oy wx wy,aa fr] (cM w hh sc st (RT (aM ox+(fr:Rat)*aM wx)) (RT (aM oy+(fr:Rat)*aM wy)) wx wy):=by
 obtain ⟨_,_,_,_,⟨q5,q6⟩,q7,q8⟩:=It hE;have hf:=AR hF;have H:=fun {t:List Nat} (c:aY t=0)=>iG c (yC 2400)
 have R:=fun {t:List Nat} (c:aY t=0)=>(sR c).1
 have me:Hq 64 (fr:Rat):=⟨by rw [xY];unfold Bd;omega,by rw [wt];unfold Bd;exact wB (by omega)⟩
 have e1:=NK h.toRm h.qG (n:=fr) (by omega);have e2:=Kg h.toSr0 (H q5) (H q6) me (H q7) (H q8) (by omega);unfold gh at e2;rw [<-R q5,<-R q6,<-R q7,<-R q8] at e2;have o1:=hw.one;have p1:=hw.pu;have d6:∀a b c d e f g i:AV,xm 6 [a,b,c,d,e,f,g,i]=[g,i]:=fun _ _ _ _ _ _ _ _=>rfl
 have fk:∀a b c d e f g i:AV,dO 8 true [a,b,c,d,e,f,g,i]=some (.agg [a,b,c,d,e,f,g,i]):=fun _ _ _ _ _ _ _ _=>rfl
 have XJ:∀(hp:Hp) (ct id:Nat) (u v:List Nat) (x0 x1 x2 x3 x4 x5 x6 x7:AV),eM hp ct id 4 2 [.str u,.str v] (some (.cells true true true 8 [x0,x1,x2,x3,x4,x5,x6,x7]))=some (.ap [],aW hp id (.cells true true true 8 [x0,x1,x2,x3,.str u,.str v,x6,x7]),ct):=fun hp ct id u v x0 x1 x2 x3 x4 x5 x6 x7=>by
  rw [jb (by rfl) (by simp) (by rfl)];rfl
 have pR:∀(hp:Hp) (ct id:Nat) (a b c d e f g:List Nat) (x0 x1 x2 x3 x4 x5 x6 x7:AV),eM hp ct id 0 8 [w,.str a,.str b,.str c,.str d,.str e,.str f,.str g] (some (.cells true true true 8 [x0,x1,x2,x3,x4,x5,x6,x7]))=some (.ap [],aW hp id (.cells true true true 8 [w,.str a,.str b,.str c,.str d,.str e,.str f,.str g]),ct):=fun hp ct id a b c d e f g x0 x1 x2 x3 x4 x5 x6 x7=>by
  rw [jb (by rfl) (by simp) (by simp [bK,o1,Il])];simp [aH,p1,over,aR]
 have oW:∀(hp:Hp) (a b c d e f g:List Nat),result hp (.agg [w,.str a,.str b,.str c,.str d,.str e,.str f,.str g])=some (.agg [w,.str a,.str b,.str c,.str d,.str e,.str f,.str g]):=fun hp a b c d e f g=>by
  show (match freeze (980+20) hp (.agg [w,.str a,.str b,.str c,.str d,.str e,.str f,.str g]) with | some (v',_)=>some v' | none=>none)=_
  rw [aZ _ _ (by simp only [go_sem,yb,hw.ah])]
 unfold ae at e1 e2 ⊢;rw [av Vi];unfold cM at*
 simp only [go_sem,ya,yb,Oz,aB,o1,p1,aV,yd,jE,d6,fk,dl,aZ,yj,e1,e2,bl,XJ,pR,dc,dd];exact oW _ _ _ _ _ _ _ _
end
end
section
open Go (IntKind)
def atd (a b:Rat):∃u v e,FE a b= .ap [.agg [.str u,.str v],aa e]:=by unfold FE;split<;>exact ⟨_,_,_,rfl⟩
noncomputable def Vj (s:List (List Int)) (hh sc st ox oy wx wy dx dy sh x y:List Nat) (fr:Int):AV:=
 if du s hh sc st ox oy wx wy dx dy sh x y fr≠0 then .ap [dI [] [],aa (du s hh sc st ox oy wx wy dx dy sh x y fr)] else FE (cS hh sc ox wx dx sh x fr) (cS hh sc oy wy dy sh y fr)
def z12:List AV:=[.int .i64 0,.int .i64 0,.str [],.int .i64 0,.int .i64 0,.str [],.int .i64 0,.int .i64 0,.str [],.int .i64 0,.int .i64 0,.str []]
def Dp (n:Int) (x y:Rat) (m:Nat):List AV:=(gl n x y).take (m*3)++z12.drop (m*3)
def aqC (n:Int) (x y:Rat):∀{m:Nat} (hm:m<4),over (m*3) [aa (lH n x y m),aa (lI n x y m),.str (RT ((cV (aS x) (aS y))[m]'hm))] (Dp n x y m)=Dp n x y (m+1)
 | 0,_=>rfl
 | 1,_=>rfl
 | 2,_=>rfl
 | 3,_=>rfl
 | m+4,hm=>absurd hm (by omega)
def aow (n:Int) (x y:Rat):∀{m:Nat},m<=4->(Dp n x y m).length=12
 | 0,_=>rfl
 | 1,_=>rfl
 | 2,_=>rfl
 | 3,_=>rfl
 | 4,_=>rfl
 | m+5,hm=>absurd hm (by omega)
def aqD {n:Int} {x y:Rat} {m:Nat} (hm:m<4) (hp:Hp) (ct id:Nat):eM hp ct id (m*3) 3 [aa (lH n x y m),aa (lI n x y m),.str (RT ((cV (aS x) (aS y))[m]'hm))] (some (.cells true true true 12 (Dp n x y m)))=some (.ap [],aW hp id (.cells true true true 12 (Dp n x y (m+1))),ct):=by
 rw [jb (by rfl) (by rw [aow n x y (by omega)];omega) (by rfl),aqC];rfl
noncomputable def Vk (s:List (List Int)) (hh sc st ox oy wx wy dx dy sh x y:List Nat) (fr:Int):AV:=
 if du s hh sc st ox oy wx wy dx dy sh x y fr≠0 then .ap [.agg z12,aa (du s hh sc st ox oy wx wy dx dy sh x y fr)]
 else if (cV (aS (cS hh sc ox wx dx sh x fr)) (aS (cS hh sc oy wy dy sh y fr))).any LG=true then .ap [.agg z12,aa 4]
 else .ap [.agg (gl s.length (cS hh sc ox wx dx sh x fr) (cS hh sc oy wy dy sh y fr)),aa 0]
section
variable {P:aG} {L:Lib}
def al2 (h:Lp P L) {w:AV} {s:List (List Int)} (hS:Cc w s s.length) {X Y:Rat} {K:Nat} (kX:Hq K X) (kY:Hq K Y) (nv:100<=K) (hK:K<=10000000) {hh sc st ox oy wx wy:List Nat} {cs:List AV} (jj:QL cs (cV (aS X) (aS Y))) {c1 c2 c3 c4 d1 d2 d3 d4:AV}
  (agN:Bo (.agg [aa (X.floor%s.length),aa (Y.floor%s.length),c1,c2,c3,c4,d1,d2,d3,d4]) (X.floor%s.length) (Y.floor%s.length) (aS X) (aS Y)) {q:Option (Ex×St)} {Ai:St} (hq:D P L (.loop [4,8,11,12,36,37] CI) Ai=q)
  (h0:bD [4,8,11,12,36,37] Ai=⟨[(4,.ptr 0 0),(8,.ptr 1 0),(11,.ptr 2 0),(12,.ptr 3 0),(36,.agg cs),(37,aa ((0:Nat):Int))],[(3,.cells true true true 12 (Dp s.length X Y 0)),(2,.cells true true true 10 [aa (X.floor%s.length),aa (Y.floor%s.length),c1,c2,c3,c4,d1,d2,d3,d4]),(1,.cells true true true 12 z12),(0,.cells true true true 8 [w,.str hh,.str sc,.str st,.str ox,.str oy,.str wx,.str wy])],4,0⟩):
  ∃ex tm hp ct,q=some (ex,⟨tm,hp,ct,0⟩)/\((ex= .ret/\(cV (aS X) (aS Y)).any LG=true/\af tm 8= .ptr 1 0/\ak hp 1=some (.cells true true true 12 z12)/\af tm 9=aa 4)\/
   (ex= .exit 0/\(cV (aS X) (aS Y)).any LG=false/\af tm 8= .ptr 1 0/\af tm 12= .ptr 3 0/\ak hp 1=some (.cells true true true 12 z12)/\ak hp 3=some (.cells true true true 12 (gl s.length X Y)))):=by
 have hw:=hS.is;have n0:=hS.pos;have n1:=hS.le;have kw:=IW (nf kX (by omega)) (nf kY (by omega));have pW:aR (.agg cs)=true:=by simp only [aR,jj.pu]
 have q1:=xM X.floor (show (s.length:Int)≠0 by omega);have q2:=we X.floor (show (0:Int)<s.length by omega);have q3:=xM Y.floor (show (s.length:Int)≠0 by omega);have q4:=we Y.floor (show (0:Int)<s.length by omega);have auO:=agN;obtain ⟨_,_,_,_,_,_,_,_,he,hf,hg,bx,fz⟩:=auO.gen;simp only [AV.agg.injEq,List.cons.injEq,wi] at he;obtain ⟨_,_,rfl,rfl,rfl,rfl,rfl,rfl,rfl,rfl⟩:=he;have key:=cg (P:=P) (L:=L) (live:=[4,8,11,12,36,37]) (a:=CI)
  (I:=fun k st'=>∃m:Nat,m+k=4/\(∀j (hj:j<4),j<m->LG ((cV (aS X) (aS Y))[j]'hj)=false)/\st'=⟨[(4,.ptr 0 0),(8,.ptr 1 0),(11,.ptr 2 0),(12,.ptr 3 0),(36,.agg cs),(37,aa m)],[(3,.cells true true true 12 (Dp s.length X Y m)),(2,.cells true true true 10 [aa (X.floor%s.length),aa (Y.floor%s.length),c1,c2,c3,c4,d1,d2,d3,d4]),(1,.cells true true true 12 z12),(0,.cells true true true 8 [w,.str hh,.str sc,.str st,.str ox,.str oy,.str wx,.str wy])],4,0⟩)
  (Q:=fun ex st'=>∃tm hp ct,st'=⟨tm,hp,ct,0⟩/\((ex= .ret/\(cV (aS X) (aS Y)).any LG=true/\af tm 8= .ptr 1 0/\ak hp 1=some (.cells true true true 12 z12)/\af tm 9=aa 4)\/
   (ex= .exit 0/\(cV (aS X) (aS Y)).any LG=false/\af tm 8= .ptr 1 0/\af tm 12= .ptr 3 0/\ak hp 1=some (.cells true true true 12 z12)/\ak hp 3=some (.cells true true true 12 (gl s.length X Y))))) ?_
 ·obtain ⟨ex,st',rfl,tm,hp,ct,rfl,hQ⟩:=bP hq (key 4) ⟨0,by omega,fun j _ hj=>absurd hj (by omega),h0⟩;exact ⟨ex,tm,hp,ct,rfl,hQ⟩
 ·rintro k st' ⟨m,hk,gW,rfl⟩;by_cases hm:m<4
  ·obtain ⟨a,b,c,d,e1,hx⟩:=jj.qJ (n:=4) rfl hm;have e2:=agK h.O7 h.toVl.rO agN (k:=(m:Int)) (n:=s.length) ⟨q1,q2⟩ ⟨q3,q4⟩ (by omega) (by omega) (by omega);have rI:(cV (aS X) (aS Y))[m]'hm∈cV (aS X) (aS Y):=vM _;have e3:=OW h.toSp.toTx hx (kw _ rI) (by omega);have e4:=Qf h.toSp.toTx hx (kw _ rI) (by omega);have gx:=hx.f4
   cases hL:LG ((cV (aS X) (aS Y))[m]'hm) with
   | true=>
    right
    have Ce:ae P L 107 [.agg [a,b,c,d]] (.bool true):=by rw [<-hL];exact e3
    simp only [go_sem,ya,yb,CI,show (m:Int)<4 by omega,yq,jY (show (0:Int)<=m by omega),xI,e1,aB,gx.st,kA,gx.ah,yj,Ce,z12,ET];refine ⟨_,_,rfl,by simp,_,_,_,rfl,.inl ⟨rfl,List.any_eq_true.2 ⟨_,rI,hL⟩,by simp only [go_sem,ya],by simp only [go_sem,ya],by simp only [go_sem]⟩⟩
   | false=>
    left
    have Ce:ae P L 107 [.agg [a,b,c,d]] (.bool false):=by rw [<-hL];exact e3
    have e4':ae P L 46 [.agg [a,b,c,d]] (.str (RT ((cV (aS X) (aS Y))[m]'hm))):=e4;have aX:=aqD (n:=s.length) (x:=X) (y:=Y) hm;unfold lH lI at aX;simp only [go_sem,ya,yb,ye,CI,show (m:Int)<4 by omega,yq,jY (show (0:Int)<=m by omega),xI,e1,aB,gx.st,kA,IX,fz,gx.ah,yj,aV,yd,Ce,hw.len,e2,Cq,e4',Is hm,aX];refine ⟨_,k-1,rfl,by omega,m+1,by omega,fun j hj hjm=>?_,?_⟩
    ·by_cases Vm:j<m
     ·exact gW j hj Vm
     ·have:j=m:=by omega
      subst this;exact hL
    ·rw [wrap64 (by omega) (by omega)];simp only [go_sem,ya,yb,ay,aJ pW,aO _ pW]<;>rfl
  ·right
   have h4:m=4:=by omega
   subst h4;have Vn:(cV (aS X) (aS Y)).any LG=false:=by
    have a0:LG ((1-aS X)*(1-aS Y))=false:=gW 0 (by omega) (by omega);have a1:LG (aS X*(1-aS Y))=false:=gW 1 (by omega) (by omega);have a2:LG ((1-aS X)*aS Y)=false:=gW 2 (by omega) (by omega);have a3:LG (aS X*aS Y)=false:=gW 3 (by omega) (by omega);simp only [cV,List.any_cons,List.any_nil,a0,a1,a2,a3,Bool.or_self]
   simp only [go_sem,ya,CI,show ¬((4:Nat):Int)<4 by decide,yo];exact ⟨_,_,rfl,by simp,_,_,_,rfl,.inr ⟨rfl,Vn,by simp only [go_sem,ya],by simp only [go_sem,ya],by simp only [go_sem,ya],by simp only [go_sem]<;>rfl⟩⟩
end
section
variable {P:aG} {L:Lib}
section
variable (h:Lp P L) {w:AV} {s:List (List Int)} (hw:cF w s) (hl:s.length<=1000000) (hr:∀i (hi:i<s.length),s[i].length<=1000000) {hh sc st ox oy wx wy dx dy sh x y:List Nat} {fr:Int} (l1:hh.length<=1000000000) (l2:sc.length<=1000000000) (l3:st.length<=1000000000) (l4:ox.length<=1000000000) (l5:oy.length<=1000000000) (l6:wx.length<=1000000000) (l7:wy.length<=1000000000) (l8:dx.length<=1000000000) (l9:dy.length<=1000000000) (la:sh.length<=1000000000) (lb:x.length<=1000000000) (lc:y.length<=1000000000)
include h hw hl hr l1 l2 l3 l4 l5 l6 l7 l8 l9 la lb lc
def axo (Vo:Has P L 379 JL):ae P L 379 [cM w hh sc st ox oy wx wy,fj dx dy sh,dI x y,aa fr] (Vj s hh sc st ox oy wx wy dx dy sh x y fr):=by
 have e1:=XI h hw hl hr (fr:=fr) l1 l2 l3 l4 l5 l6 l7 l8 l9 la lb lc;have o1:=hw.one;have p1:=hw.pu;have fk:∀a b c d e f g i:AV,dO 8 true [a,b,c,d,e,f,g,i]=some (.agg [a,b,c,d,e,f,g,i]):=fun _ _ _ _ _ _ _ _=>rfl
 unfold ae at e1 ⊢;rw [av Vo];unfold Vj;by_cases h0:du s hh sc st ox oy wx wy dx dy sh x y fr=0
 ·rw [yB (by simp [h0])];have k:=A1 (Ev h0).1;have hf:=AR k.fr;obtain ⟨b,e2,hb⟩:=Va h.toSp h.Ki (scr:=w) (st:= .str st) (fr:=fr) o1 p1 rfl rfl k.dx k.dy k.sh k.hh k.sc k.ox k.oy k.wx k.wy k.x k.y (by omega) (by omega);have e3:=m65 h.toSp hb k.kX k.kY (by decide);rw [show (if (LG (pg (aM sc) (fw (aM sh) (aM hh)*aM x+aM hh*aM dx) (aM ox) (aM wx) fr)||LG (pg (aM sc) (fw (aM sh) (aM hh)*aM y+aM hh*aM dy) (aM oy) (aM wy) fr))=true then AV.ap [dI [] [],aa 4] else .ap [gh (pg (aM sc) (fw (aM sh) (aM hh)*aM x+aM hh*aM dx) (aM ox) (aM wx) fr) (pg (aM sc) (fw (aM sh) (aM hh)*aM y+aM hh*aM dy) (aM oy) (aM wy) fr),aa 0])=FE (cS hh sc ox wx dx sh x fr) (cS hh sc oy wy dy sh y fr) from rfl] at e3
  obtain ⟨u,v,z,hu⟩:=atd (cS hh sc ox wx dx sh x fr) (cS hh sc oy wy dy sh y fr);rw [hu] at e3 ⊢;rw [h0] at e1;obtain ⟨b1,b2,b3,b4,b5,b6,b7,b8,rfl,gb⟩:=hb.gen;unfold cM fj dI at*
  simp only [go_sem,ya,yb,JL,aB,o1,p1,hw.ah,yd,fk,dl,fU,aZ,yj,e1,e2,bl,gb.ah,e3,de];rfl
 ·rw [yI h0];unfold cM fj dI at*
  simp only [go_sem,ya,yb,JL,aB,o1,p1,hw.ah,yd,fk,dl,fU,aZ,yj,e1,h0,yo,yF,de];rfl
def axp (Vp:Has P L 380 JM):ae P L 380 [cM w hh sc st ox oy wx wy,fj dx dy sh,dI x y,aa fr] (Vk s hh sc st ox oy wx wy dx dy sh x y fr):=by
 have e1:=XI h hw hl hr (fr:=fr) l1 l2 l3 l4 l5 l6 l7 l8 l9 la lb lc;have o1:=hw.one;have p1:=hw.pu;have fk:∀a b c d e f g i:AV,dO 8 true [a,b,c,d,e,f,g,i]=some (.agg [a,b,c,d,e,f,g,i]):=fun _ _ _ _ _ _ _ _=>rfl
 unfold ae at e1 ⊢;rw [av Vp];unfold Vk;by_cases h0:du s hh sc st ox oy wx wy dx dy sh x y fr=0
 ·rw [yB (by simp [h0])];have k:=A1 (Ev h0).1;have hf:=AR k.fr;have hS:=I0 hw k.scr;have n0:=hS.pos;have n1:=hS.le;obtain ⟨b,e2,hb⟩:=Va h.toSp h.Ki (scr:=w) (st:= .str st) (fr:=fr) o1 p1 rfl rfl k.dx k.dy k.sh k.hh k.sc k.ox k.oy k.wx k.wy k.x k.y (by omega) (by omega);obtain ⟨c,e3,hc⟩:=m55 h.toVl.toFr' h.He h.Dm h.z6 (s:=(s.length:Int)) hb k.kX k.kY (by omega) (by omega) (by omega) (by omega);obtain ⟨W,e4,hW⟩:=agJ h.toVl.toFr' h.O6 hc (nf k.kX (by omega)) (nf k.kY (by omega)) (by omega);have e3:ae P L 55 [b,aa s.length] c:=e3;change Bo c ((cS hh sc ox wx dx sh x fr).floor%s.length) ((cS hh sc oy wy dy sh y fr).floor%s.length) (aS (cS hh sc ox wx dx sh x fr)) (aS (cS hh sc oy wy dy sh y fr)) at hc
  change IsW W (aS (cS hh sc ox wx dx sh x fr)) (aS (cS hh sc oy wy dy sh y fr)) at hW
  have kX:=k.kX;have kY:=k.kY;generalize cS hh sc ox wx dx sh x fr=X at*
  generalize cS hh sc oy wy dy sh y fr=Y at*
  rw [h0] at e1;have ma:=hc;obtain ⟨b1,b2,b3,b4,b5,b6,b7,b8,rfl,gb⟩:=hb.gen;obtain ⟨c1,c2,c3,c4,c5,c6,c7,c8,rfl,sn,gU,bx,fz⟩:=hc.gen;have gf:=sn.f4;have gg:=gU.f4;obtain ⟨Lm,Ln,Lo,Lq⟩:=gf.Hh;obtain ⟨Lr,Ls,Lt,Lu⟩:=gg.Hh;have aX:∀(hp:Hp) (ct id:Nat) (i j:Int) (x0 x1 x2 x3 x4 x5 x6 x7 x8 x9:AV),eM hp ct id 0 10 [aa i,aa j,c1,c2,c3,c4,c5,c6,c7,c8] (some (.cells true true true 10 [x0,x1,x2,x3,x4,x5,x6,x7,x8,x9]))=some (.ap [],aW hp id (.cells true true true 10 [aa i,aa j,c1,c2,c3,c4,c5,c6,c7,c8]),ct):=fun hp ct id i j x0 x1 x2 x3 x4 x5 x6 x7 x8 x9=>by
   rw [jb (by rfl) (by simp) (by simp [bK,Ep,gf.o1,gf.o2,gf.o3,gf.o4,gg.o1,gg.o2,gg.o3,gg.o4])];simp [aH,CM,Lm,Ln,Lo,Lq,Lr,Ls,Lt,Lu,over]
  obtain ⟨cs,rfl,jj⟩:=hW;have pW:aR (.agg cs)=true:=by simp only [aR,jj.pu]
  unfold cM fj dI at*
  simp only [go_sem,ya,yb,JM,aB,o1,p1,hw.len,hw.ah,aV,yd,fk,dl,fU,IX,aZ,yj,e1,e2,bl,gb.ah,e3,fz,aX,e4];generalize hq:D P L (.loop [4,8,11,12,36,37] CI) _=q;obtain ⟨ex,tm,hp,ct,rfl,hQ⟩:=al2 h hS kX kY (by omega) (by omega) (hh:=hh) (sc:=sc) (st:=st) (ox:=ox) (oy:=oy) (wx:=wx) (wy:=wy) jj ma hq (by simp only [go_sem,ya,yb,ay,aJ pW,aO _ pW]<;>rfl)
  rcases hQ with ⟨rfl,ha,t8,g1,t9⟩ | ⟨rfl,ha,t8,t12,g1,g3⟩
  ·rw [yI ha];simp only [go_sem,t8,t9,g1,dc,dd,yj,z12];rfl
  ·rw [yB (by rw [ha];decide)]
   have axq:dO 12 true (gl s.length X Y)=some (.agg (gl s.length X Y)):=rfl;simp only [go_sem,ya,yb,ay,t8,t12,g1,g3,yj,axq];simp only [go_sem,ya,gl,z12,ET,dc,dd];rfl
 ·rw [yI h0];unfold cM fj dI at*
  simp only [go_sem,ya,yb,JM,aB,o1,p1,hw.ah,yd,fk,dl,fU,aZ,yj,e1,h0,yo,yF,ET];rfl
end
end
end
section
open Go (IntKind)
def ate {s:List (List Int)} {n:Nat} (hn:s.length=n) (hr:∀i (hi:i<s.length),s[i].length=n):DE n (fun c r=>kv s r c)=s:=by
 apply List.ext_getElem
 ·rw [Im,hn]
 ·intro i h1 h2;rw [abS (by omega)];apply List.ext_getElem
  ·simp [hr i h2]
  ·intro j h3 h4;simp only [List.getElem_map,List.getElem_range];exact (SL h2 h4).symm
def ajc {cs:List AV} (hp:Hp) (k:IntKind) (b:Int) (ij:aH cs=true) (hf:freeze 1000 hp (.agg cs)=some (.agg cs,hp)):result hp (.ap [.agg cs,.int k b])=some (.ap [.agg cs,.int k b]):=by
 have e1:A2 [.agg cs,.int k b]=some []:=by
  show (bif aR (.agg cs) then A2 [.int k b] else none)=_
  rw [show aR (.agg cs)=true by simp only [aR,ij]];rfl
 have e2:oJ deep hp (.agg cs)=some (.agg cs,hp):=hf;simp only [result,e1,rk,e2];rfl
noncomputable def jr (s:List (List Int)) (hh sc st ox oy wx wy:List Nat) (fr:Int):Int:=
 if bj [iP s hh sc st ox oy wx wy,hO fr]≠0 then bj [iP s hh sc st ox oy wx wy,hO fr]
 else if (LG (aM ox+(fr:Rat)*aM wx)||LG (aM oy+(fr:Rat)*aM wy))=true then 4 else 0
section
variable {P:aG} {L:Lib}
def axr (h:Has P L 365 JK) {v:AV} {s:List (List Int)} (hv:cF v s) {n:Nat} (hn:s.length=n) (hr:∀i (hi:i<s.length),s[i].length=n) {c r:Nat} (hc:c<n) (bX:r<n) (q:List AV):ae P L 365 [aa c,aa r,.aI (v::q)] (aa (kv s r c)):=by
 have h1:r<s.length:=by omega
 have h2:c<s[r].length:=by rw [hr];exact hc
 obtain ⟨a,rest,ha,hb⟩:=hv.bk h1;have hk:=SL h1 h2;have hd:∀(l:List AV),EV 0 (.aI l)=some (.aI l):=fun _=>rfl
 unfold ae;rw [av h];simp only [go_sem,ya,JK,hd,jY (show (0:Int)<=r by omega),jY (show (0:Int)<=c by omega),xI,hb,ha.bk h2,hk]
def axs (h:Lp P L) (Kk:Has P L 362 Ft) (Vq:Has P L 365 JK) {w:AV} {s:List (List Int)} (hw:cF w s) (hl:s.length<=1000000) (hr:∀i (hi:i<s.length),s[i].length<=1000000) {hh sc st ox oy wx wy:List Nat} {fr:Int} (l1:hh.length<=1000000000) (l2:sc.length<=1000000000) (l3:st.length<=1000000000) (l4:ox.length<=1000000000) (l5:oy.length<=1000000000) (l6:wx.length<=1000000000) (l7:wy.length<=1000000000):
  (jr s hh sc st ox oy wx wy fr≠0->ae P L 362 [cM w hh sc st ox oy wx wy,aa fr] (.ap [cM .ab [] [] [] [] [] [] [],aa (jr s hh sc st ox oy wx wy fr)]))/\
  (jr s hh sc st ox oy wx wy fr=0->∃w',cF w' s/\ae P L 362 [cM w hh sc st ox oy wx wy,aa fr] (.ap [cM w' hh sc st (RT (aM ox+(fr:Rat)*aM wx)) (RT (aM oy+(fr:Rat)*aM wy)) wx wy,aa 0])):=by
 have e1:=Vd h hw hl hr l1 l2 l3 l4 l5 l6 l7;have e2:=s51 h.Qk h.nm h.toSp.fK fr;have e3:=sC h.toSp.og (fm true [iP s hh sc st ox oy wx wy,hO fr]) (by simp);simp only [yr,yE,yd,yb,yU,xU] at e3;have o1:=hw.one;have p1:=hw.pu;have fk:∀a b c d e f g i:AV,dO 8 true [a,b,c,d,e,f,g,i]=some (.agg [a,b,c,d,e,f,g,i]):=fun _ _ _ _ _ _ _ _=>rfl
 have d6:∀a b c d e f g i:AV,xm 6 [a,b,c,d,e,f,g,i]=[g,i]:=fun _ _ _ _ _ _ _ _=>rfl
 have pR:∀(v:AV) (_:bm v=true) (_:aR v=true) (hp:Hp) (ct id:Nat) (a b c d e f g:List Nat) (x0 x1 x2 x3 x4 x5 x6 x7:AV),eM hp ct id 0 8 [v,.str a,.str b,.str c,.str d,.str e,.str f,.str g] (some (.cells true true true 8 [x0,x1,x2,x3,x4,x5,x6,x7]))=some (.ap [],aW hp id (.cells true true true 8 [v,.str a,.str b,.str c,.str d,.str e,.str f,.str g]),ct):=fun v o2 p2 hp ct id a b c d e f g x0 x1 x2 x3 x4 x5 x6 x7=>by
  rw [jb (by rfl) (by simp) (by simp [bK,o2,Il])];simp [aH,p2,over,aR]
 have agO:=pR .ab rfl rfl;have Vr:=pR w o1 p1;have XJ:∀(hp:Hp) (ct id:Nat) (u v:List Nat) (x0 x1 x2 x3 x4 x5 x6 x7:AV),eM hp ct id 4 2 [.str u,.str v] (some (.cells true true true 8 [x0,x1,x2,x3,x4,x5,x6,x7]))=some (.ap [],aW hp id (.cells true true true 8 [x0,x1,x2,x3,.str u,.str v,x6,x7]),ct):=fun hp ct id u v x0 x1 x2 x3 x4 x5 x6 x7=>by
  rw [jb (by rfl) (by simp) (by rfl)];rfl
 unfold ae at e1 e2 e3;by_cases h0:bj [iP s hh sc st ox oy wx wy,hO fr]=0
 ·obtain ⟨hE,hF⟩:=Eu.1 h0;obtain ⟨q1,_,_,_,⟨q5,q6⟩,q7,q8⟩:=It hE;have hS:=I0 hw q1;have hf:=AR hF;have H:=fun {t:List Nat} (c:aY t=0)=>(iG c (yC 2400)).mono (show 2400<=10000 by omega)
  obtain ⟨a,e4,ha⟩:=Hg h.toSp q5 q6;obtain ⟨b,e5,hb⟩:=Hg h.toSp q7 q8;obtain ⟨f,e6,n7⟩:=DL h.toVl.toFr' (z:=fr) (by omega) (by omega);have me:Hq 64 (fr:Rat):=⟨by rw [xY];unfold Bd;omega,by rw [wt];unfold Bd;exact wB (by omega)⟩
  obtain ⟨c,e7,hc⟩:=Lk h.toSp hb n7 (H q7) (H q8) (me.mono (by omega)) (by omega);have k1:=me.mul (iG q7 (yC 2400));have k2:=me.mul (iG q8 (yC 2400));rw [wL _ (fr:Rat),wL _ (fr:Rat)] at hc;obtain ⟨d,e8,hd⟩:=O4 h.toSp ha hc (H q5) (H q6) (k1.mono (by omega)) (k2.mono (by omega)) (by omega);have e9:=m65 h.toSp hd (((iG q5 (yC 2400)).add k1).mono (show _<=10000 by omega)) (((iG q6 (yC 2400)).add k2).mono (by omega)) (by omega);obtain ⟨a1,a2,a3,a4,a5,a6,a7,a8,rfl,ga⟩:=ha.gen;obtain ⟨b1,b2,b3,b4,b5,b6,b7,b8,rfl,gb⟩:=hb.gen;obtain ⟨f1,f2,f3,f4,rfl,gf⟩:=n7.gen;obtain ⟨c1,c2,c3,c4,c5,c6,c7,c8,rfl,gc⟩:=hc.gen;obtain ⟨d1,d2,d3,d4,d5,d6',d7,d8,rfl,gd⟩:=hd.gen;rw [h0] at e3;unfold jr;rw [yB (by simp [h0])];unfold ae at e4 e5 e6 e7 e8 e9
  cases hL:(LG (aM ox+(fr:Rat)*aM wx)||LG (aM oy+(fr:Rat)*aM wy)) with
  | true=>
   rw [hL,yI rfl] at e9;rw [yI rfl];refine ⟨fun _=>?_,fun eK=>absurd eK (by decide)⟩;unfold ae;rw [av Kk];unfold cM dI at*
   simp only [go_sem,ya,yb,yt,ye,yh,Ft,aB,o1,p1,hw.ah,aV,yd,fk,jE,d6,dl,aZ,yj,e1,e2,e3,e4,e5,e6,e7,e8,ga.ah,gb.ah,gf.ah,gc.ah,gd.ah,e9,bl,Cq,de,show ¬(4:Int)=0 by decide,yo,yF,agO];rfl
  | false=>
   rw [hL,yB (by decide)] at e9;rw [yB (by decide)];refine ⟨fun eK=>absurd rfl eK,fun _=>?_⟩;have ek:=aa6 h.toBuT hS.pos (by have:=hS.le;omega) (g:=365) (cap:=[.aI [w,.str hh,.str sc,.str st,.str ox,.str oy,.str wx,.str wy]]) (val:=fun c r=>aa (kv s r c)) (by simp [aH,aR]) (fun _ _=>rfl) (fun _ _=>rfl) (fun _ _=>rfl) (fun c r hc hr=>axr Vq hw rfl hS.row hc hr _);have hT:cF (ph (fun c r=>aa (kv s r c)) s.length) s:=by
    have:=adO (n:=s.length) (fun c r=>kv s r c)
    rwa [ate rfl hS.row] at this
   generalize ph (fun c r=>aa (kv s r c)) s.length=T at*
   refine ⟨T,hT,?_⟩;have o2:=hT.one;have p2:=hT.pu;have Br:∀(hp:Hp) (ct id:Nat) (x0:AV) (b c d e f g i:List Nat),eM hp ct id 0 1 [T] (some (.cells true true true 8 [x0,.str b,.str c,.str d,.str e,.str f,.str g,.str i]))=some (.ap [],aW hp id (.cells true true true 8 [T,.str b,.str c,.str d,.str e,.str f,.str g,.str i]),ct):=fun hp ct id x0 b c d e f g i=>by
    rw [jb (by rfl) (by simp) (by simp [bK,o2])];simp [aH,p2,over]
   have axt:=pR T o2 p2;have oW:∀(hp:Hp) (a b c d e f g:List Nat),freeze 1000 hp (.agg [T,.str a,.str b,.str c,.str d,.str e,.str f,.str g])=some (.agg [T,.str a,.str b,.str c,.str d,.str e,.str f,.str g],hp):=fun hp a b c d e f g=>by
    rw [show 1000=980+19+1 by rfl,aZ _ _ (by simp only [go_sem,yb,hT.ah])]
   unfold ae at ek ⊢;rw [av Kk];unfold cM dI gh at*
   simp only [go_sem,ya,yb,yt,ye,yh,Ft,aB,o1,p1,hw.len,hw.ah,hT.shut,hT.cells,aV,yd,fk,jE,d6,dl,aZ,yj,e1,e2,e3,e4,e5,e6,e7,e8,ga.ah,gb.ah,gf.ah,gc.ah,gd.ah,e9,bl,Cq,de,Vr,XJ,ek,Br,axt,dc,dd];exact ajc _ _ _ (by simp [aH,p2,aR]) (oW _ _ _ _ _ _ _ _)
 ·unfold jr;rw [yI h0];refine ⟨fun _=>?_,fun eK=>absurd eK h0⟩;unfold ae;rw [av Kk];unfold cM at*
  simp only [go_sem,ya,yb,yt,ye,yh,Ft,aB,o1,p1,hw.ah,yd,fk,aZ,yj,e1,e2,e3,h0,yo,yF,agO];rfl
end
end
section
open Go (IntKind)
section
variable {P:aG} {L:Lib}
def auP (hp:Hp) (ct id:Nat) (a b c:List Nat) (x y z:AV):eM hp ct id 0 3 [.str a,.str b,.str c] (some (.cells true true true 3 [x,y,z]))=some (.ap [],aW hp id (.cells true true true 3 [.str a,.str b,.str c]),ct):=by
 rw [jb (by rfl) (by simp) (by rfl)];rfl
def atf {a b c:List Nat} (h:jO [a,b,c]=true):a.length<=40/\b.length<=40/\c.length<=40:=by
 simp only [jO,List.all_cons,List.all_nil,Bool.and_true,Bool.and_eq_true,wP] at h;exact h
end
end
end VE
