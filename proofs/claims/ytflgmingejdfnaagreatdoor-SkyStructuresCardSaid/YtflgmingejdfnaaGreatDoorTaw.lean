import Derived.Test.YtflgmingejdfnaaGreatDoorTav
import Derived.Test.YtflgmingejdfnaaGreatDoorTau
import Derived.Test.YtflgmingejdfnaaGreatDoorTar
import Derived.Test.YtflgmingejdfnaaGreatDoorTaq
import Derived.Test.YtflgmingejdfnaaGreatDoorTak
import Derived.Test.YtflgmingejdfnaaGreatDoorTal
import Derived.Test.YtflgmingejdfnaaGreatDoorTap
import Derived.Test.YtflgmingejdfnaaGreatDoorTao
import Derived.Test.YtflgmingejdfnaaGreatDoorTan
set_option linter.all false
set_option maxRecDepth 100000
open Bool renaming not_true→yQ
open Int renaming add_zero→vI,mul_pos→wT,natAbs_mul→xi,zero_sub→yaL
open List renaming length_append→yW,length_cons→yx,length_map→yL,map_append→xm,map_cons→yP,map_nil→wc,take_length→wK,take_succ_eq_append_getElem→wF,take_zero→tV
open Nat renaming le_refl→yC,min_eq_left→xX,mul_le_mul→yX,mul_one→yv,reduceAdd→yc,reduceEqDiff→ya,reduceLT→yV,reduceLeDiff→ym,reduceMul→xR
open Rat renaming den_intCast→yac,div_def→wH,intCast_inj→yad,num_intCast→yab
namespace VE
section
open Go (IntKind)
structure Ay (P:aF) (L:Lib):Prop where
 r:Rn P L
 st:LC P L
 hZ:Has P L 20 rX
 GS:Has P L 58 Gb
 h3:Has P L 3 c3
 C0:Has P L 30 rY
 rM:Has P L 254 nO
 FH:Has P L 261 B1
 Kf:Has P L 265 Fj
 Kg:Has P L 266 Fk
 Cs:Has P L 283 B8
 aiW:aj P L 1 [] (.bool true)
noncomputable def fD (k A:Int):List Nat:=RT ((k:Rat)/(A:Rat))
def IU {k A:Int} (hA:0<A):fO k A=fD k A:=by unfold fD;rw [<-IP hA,Rat.divInt_eq_div]
def Jc {z:Int} (h:z.natAbs<1099511627776):Hq 40 (z:Rat):=⟨by rw [yab];unfold Bd;omega,by rw [yac];decide⟩
def BU {k A:Int} (h1:k.natAbs<1099511627776) (h2:A.natAbs<1099511627776):Hq 80 ((k:Rat)/(A:Rat)):=(Jc h1).div (Jc h2)
def U3 (A:Int):fD 0 A=[48]:=by
 unfold fD;rw [show ((0:Int):Rat)=0 from rfl,wH,Rat.zero_mul,akt]
def acy {s:List (List Int)} {n:Nat} (hs:dZ n (-1000) 1000 s=0) (a b:Int) (c r:Nat): -4000000<=sdiff s a b c r/\sdiff s a b c r<=4000000:=by
 have b1:=mf hs (by decide) r c;have b2:=Dl hs (by decide) ((c:Int)+a) ((r:Int)+b)
 exact sJ (a:=2000) (b:=2000) (x:=bk s (c+a) (r+b)-kv s r c) (y:=bk s (c+a) (r+b)-kv s r c) (by omega) (by omega)
def Jd {s:List (List Int)} (h0:s.length<=16) (hs:dZ s.length (-1000) 1000 s=0) (a b:Int): -1024000000<=di s a b/\di s a b<=1024000000:=by
 have:=qt h0 (b:=4000000) (by decide) (by decide) (val:=sdiff s a b) (fun c r _ _=>acy hs a b c r)
 exact this
section
variable {P:aF} {L:Lib}
def Au (h:StB P L) {v:AV} {s:List (List Int)} (hv:cf v s) (hz:cV s=0) {a b:Int} (ha: -999999999<=a/\a<=999999999) (hb: -999999999<=b/\b<=999999999):aj P L 18 [v,ab a,ab b] (.aw [.str (fD (di s a b) (aP s)),ab 0]):=by
 have hS:=Bx hv hz;have hl:s.length<=1000000:=by have:=hS.le;omega
 have hr:∀i (hi:i<s.length),s[i].length<=1000000:=fun i hi=>by rw [hS.row i hi];exact hl
 have e:=n18 h hv hl hr a b;have c0:cu [cV s,cL a,cL b]=0:=by
  rw [hz,show cL a=0 by unfold cL;rw [yE (by omega)],show cL b=0 by unfold cL;rw [yE (by omega)]];rfl
 rw [yS c0,c0,IU (nf hS.pos hS.le).1] at e;exact e
def LD (h:StB P L) {v:AV} {s:List (List Int)} (hv:cf v s) (hz:cV s=0):aj P L 16 [v] (.aw [.str (fD (bO s) (aP s)),ab 0]):=by
 have hS:=Bx hv hz;have hl:s.length<=1000000:=by have:=hS.le;omega
 have hr:∀i (hi:i<s.length),s[i].length<=1000000:=fun i hi=>by rw [hS.row i hi];exact hl
 have e:=n16 h hv hl hr;rw [yS hz,hz,IU (nf hS.pos hS.le).1] at e;exact e
def OS {s:List (List Int)} (h:0<aP s):0<et s:=wT h (wT h h)
def LF (h:LC P L) {v:AV} {s:List (List Int)} (hv:cf v s) (hz:cV s=0):aj P L 17 [v] (.aw [.str (fD (eE s) (et s)),ab 0]):=by
 have hS:=Bx hv hz;have hl:s.length<=1000000:=by have:=hS.le;omega
 have hr:∀i (hi:i<s.length),s[i].length<=1000000:=fun i hi=>by rw [hS.row i hi];exact hl
 have e:=n17 h hv hl hr;rw [yS hz,hz,IU (OS (nf hS.pos hS.le).1)] at e;exact e
abbrev pD (s:List (List Int)) (r c:Nat):Int:=bF (fun c=>di s (c:Int) (r:Int)) c
def U4 {s:List (List Int)} (h0:s.length<=16) (hs:dZ s.length (-1000) 1000 s=0) (r:Nat) {c:Nat} (hc:c<=5): -5120000000<=pD s r c/\pD s r c<=5120000000:=by
 have:=oO (b:=1024000000) (by decide) (n:=c) (f:=fun c=>di s (c:Int) (r:Int)) (fun k _=>Jd h0 hs _ _) c (yC c)
 unfold pD;omega
abbrev pR (s:List (List Int)) (r:Nat):Int:=bF (fun r=>pD s r s.length) r
def U5 {s:List (List Int)} (h0:s.length<=5) (hs:dZ s.length (-1000) 1000 s=0) {r:Nat} (hr:r<=5): -25600000000<=pR s r/\pR s r<=25600000000:=by
 have:=oO (b:=5120000000) (by decide) (n:=r) (f:=fun r=>pD s r s.length) (fun k _=>U4 (by omega) hs k h0) r (yC r)
 unfold pR;omega
def ahh (h:Ay P L) {v:AV} {s:List (List Int)} (hv:cf v s) (hz:cV s=0) (h5:s.length<=5) {r:Nat} (hr:r<s.length) (mt wt:List Nat) {T:Int} (hT: -25600000000<=T/\T<=25600000000):
  ∀d st,(∃c:Nat,bA [0,7,16,18,28,29,222,223,226,227] st=⟨[(0,v),(7,ab s.length),(16,.str mt),(18,.str wt),(28,.str (fD (T+pD s r c) (aP s))),(29,ab r),(222,ab s.length),(223,ab r),(226,ab s.length),(227,ab c)],[],0,0⟩/\c+d=s.length)->
   ∃ex s',D P L (.loop [0,7,16,18,28,29,222,223,226,227] sX) st=some (ex,s')/\∃tm ct,s'=⟨tm,[],ct,0⟩/\ex= .exit 2/\ah tm 0=v/\ah tm 7=ab s.length/\ah tm 16= .str mt/\ah tm 18= .str wt/\ah tm 28= .str (fD (T+pD s r s.length) (aP s))/\ah tm 222=ab s.length/\ah tm 223=ab r:=by
 refine dt (I:=fun d st=>∃c:Nat,st=⟨[(0,v),(7,ab s.length),(16,.str mt),(18,.str wt),(28,.str (fD (T+pD s r c) (aP s))),(29,ab r),(222,ab s.length),(223,ab r),(226,ab s.length),(227,ab c)],[],0,0⟩/\c+d=s.length)
  (Q:=fun ex s'=>∃tm ct,s'=⟨tm,[],ct,0⟩/\ex= .exit 2/\ah tm 0=v/\ah tm 7=ab s.length/\ah tm 16= .str mt/\ah tm 18= .str wt/\ah tm 28= .str (fD (T+pD s r s.length) (aP s))/\ah tm 222=ab s.length/\ah tm 223=ab r) ?_
 have hS:=Bx hv hz;obtain ⟨a1,a2,a3⟩:=lX hz;have hA:=nf hS.pos hS.le;rintro d st ⟨c,rfl,LA⟩;by_cases hc:c<s.length
 ·left
  have e1:=Au h.st.toStB hv hz (a:=(c:Int)) (b:=(r:Int)) (by omega) (by omega);have bD:=Jd (s:=s) (by omega) a3 (c:Int) (r:Int);have bP:=U4 (s:=s) (by omega) a3 r (c:=c) (by omega);have k1:Hq 80 (((T+pD s r c:Int):Rat)/(aP s:Rat)):=BU (by omega) (by omega);have k2:Hq 80 ((di s (c:Int) (r:Int):Rat)/(aP s:Rat)):=BU (by omega) (by omega);have l2:=qQ k2;have e2:=UY h.r.toRm (s:=RT ((di s (c:Int) (r:Int):Rat)/(aP s:Rat))) (by omega);rw [ED k2 (by decide)] at e2;have e3:=aiM h.r.toRp k1 k2 (by decide);have ph:((T+pD s r c:Int):Rat)/(aP s:Rat)+(di s (c:Int) (r:Int):Rat)/(aP s:Rat)=((T+pD s r (c+1):Int):Rat)/(aP s:Rat):=by
   rw [show T+pD s r (c+1)=T+pD s r c+di s (c:Int) (r:Int) from (Int.add_assoc _ _ _).symm,Rat.intCast_add (T+pD s r c),wH,wH,wH,Rat.add_mul]
  rw [ph] at e3;change aj P L 263 [.str (fD (di s (c:Int) (r:Int)) (aP s))] _ at e2
  change aj P L 264 [.str (fD (T+pD s r c) (aP s)),.str (fD (di s (c:Int) (r:Int)) (aP s))] (.str (fD (T+pD s r (c+1)) (aP s))) at e3
  unfold aj at e1 e2 e3
  suffices hh:∃s',D P L sX ⟨[(0,v),(7,ab s.length),(16,.str mt),(18,.str wt),(28,.str (fD (T+pD s r c) (aP s))),(29,ab r),(222,ab s.length),(223,ab r),(226,ab s.length),(227,ab c)],[],0,0⟩=some (Ex.normal,s')/\bA [0,7,16,18,28,29,222,223,226,227] s'=⟨[(0,v),(7,ab s.length),(16,.str mt),(18,.str wt),(28,.str (fD (T+pD s r (c+1)) (aP s))),(29,ab r),(222,ab s.length),(223,ab r),(226,ab s.length),(227,ab ((c+1:Nat):Int))],[],0,0⟩ by
   obtain ⟨s',q1,q2⟩:=hh;exact ⟨s',d-1,q1,by omega,c+1,q2,by omega⟩
  generalize fD (T+pD s r c) (aP s)=x at*
  generalize fD (T+pD s r (c+1)) (aP s)=y at*
  generalize fD (di s (c:Int) (r:Int)) (aP s)=z at*
  simp only [go_sem,ya,sX,hv.aE,show (c:Int)<s.length by omega,e1,e2,e3];refine ⟨_,rfl,?_⟩
  rw [show (c:Int)+1=((c+1:Nat):Int) from rfl,wrapN (n:=c+1) (by omega)];simp only [go_sem,ya,aM,a6 hv.pu,bc _ hv.pu]<;>rfl
 ·right
  have:c=s.length:=by omega
  subst this;simp only [go_sem,ya,sX,show ¬(s.length:Int)<s.length by omega];exact ⟨_,_,rfl,by simp,_,_,rfl,rfl,by simp only [go_sem,ya],by simp only [go_sem,ya],by simp only [go_sem,ya],by simp only [go_sem,ya],by simp only [go_sem,ya],by simp only [go_sem,ya],by simp only [go_sem,ya]⟩
def ahi (h:Ay P L) {v:AV} {s:List (List Int)} (hv:cf v s) (hz:cV s=0) (h5:s.length<=5) (mt wt:List Nat):
  ∀d st,(∃r:Nat,bA [0,7,16,18,28,222,223] st=⟨[(0,v),(7,ab s.length),(16,.str mt),(18,.str wt),(28,.str (fD (pR s r) (aP s))),(222,ab s.length),(223,ab r)],[],0,0⟩/\r+d=s.length)->
   ∃ex s',D P L (.loop [0,7,16,18,28,222,223] Bg) st=some (ex,s')/\∃tm ct,s'=⟨tm,[],ct,0⟩/\ex= .exit 0/\ah tm 0=v/\ah tm 7=ab s.length/\ah tm 16= .str mt/\ah tm 18= .str wt/\ah tm 28= .str (fD (pR s s.length) (aP s)):=by
 refine dt (I:=fun d st=>∃r:Nat,st=⟨[(0,v),(7,ab s.length),(16,.str mt),(18,.str wt),(28,.str (fD (pR s r) (aP s))),(222,ab s.length),(223,ab r)],[],0,0⟩/\r+d=s.length)
  (Q:=fun ex s'=>∃tm ct,s'=⟨tm,[],ct,0⟩/\ex= .exit 0/\ah tm 0=v/\ah tm 7=ab s.length/\ah tm 16= .str mt/\ah tm 18= .str wt/\ah tm 28= .str (fD (pR s s.length) (aP s))) ?_
 obtain ⟨a1,a2,a3⟩:=lX hz;rintro d st ⟨r,rfl,gN⟩;by_cases hr:r<s.length
 ·left
  simp only [go_sem,ya,Bg,show (r:Int)<s.length by omega];generalize hq:D P L (.loop [0,7,16,18,28,29,222,223,226,227] sX) _=q';obtain ⟨ex,st,rfl,tm,ct,rfl,rfl,g0,g7,g16,g18,WX,aky,akz⟩:=cW hq (ahh h hv hz h5 hr mt wt (T:=pR s r) (U5 h5 a3 (by omega)) s.length) ⟨0,by
   rw [show pR s r+pD s r 0=pR s r from vI _]
   simp only [go_sem,ya,aM,a6 hv.pu,bc _ hv.pu]<;>rfl,by omega⟩
  rw [show pR s r+pD s r s.length=pR s (r+1) from rfl] at WX;simp only [go_sem,ya,aM,g0,g7,g16,g18,WX,aky,akz,a6 hv.pu,bc _ hv.pu];refine ⟨_,d-1,rfl,by omega,r+1,?_,by omega⟩
  rw [show (r:Int)+1=((r+1:Nat):Int) from rfl,wrapN (n:=r+1) (by omega)];simp only [go_sem,ya,aM,a6 hv.pu,bc _ hv.pu]<;>rfl
 ·right
  have:r=s.length:=by omega
  subst this;simp only [go_sem,ya,Bg,show ¬(s.length:Int)<s.length by omega];exact ⟨_,_,rfl,by simp,_,_,rfl,rfl,by simp only [go_sem,ya],by simp only [go_sem,ya],by simp only [go_sem,ya],by simp only [go_sem,ya],by simp only [go_sem,ya]⟩
def dW (l:List Int) (c:Nat):List Int:=(l.take c).map fun x=> -x
def aiX {l:List Int} {c:Nat} (hc:c<l.length):eh (dW l (c+1))=eh (dW l c)++[ab (-l[c])]:=by
 unfold dW eh;rw [wF hc];simp only [xm,yP,wc]
def PN {l:List Int} {c:Nat} (hc:c<=l.length):(eh (dW l c)).length=c:=by
 simp [eh,dW,xX hc]
def aeD (l:List Int):dW l l.length=l.map fun x=> -x:=by unfold dW;rw [wK]
def ahj {v:AV} {s:List (List Int)} (hv:cf v s) (h5:s.length<=5) {r:Nat} {rv:AV} {l:List Int} (hl:aX rv l) (hl5:l.length<=5) (hb:∀c (hc:c<l.length),-1000<=l[c]/\l[c]<=1000) (mt wt:List Nat) {o:List AV}:
  ∀d st,(∃c:Nat,bA [0,16,18,33,35,259,260,266,267,268] st=⟨[(0,v),(16,.str mt),(18,.str wt),(33,j9 o),(35,og o (eh (dW l c))),(259,ab s.length),(260,ab r),(266,rv),(267,ab l.length),(268,ab c)],jj o (eh (dW l c)),lT o (eh (dW l c)),0⟩/\c+d=l.length)->
   ∃ex s',D P L (.loop [0,16,18,33,35,259,260,266,267,268] sY) st=some (ex,s')/\∃tm ct,s'=⟨tm,jj o (eh (dW l l.length)),ct,0⟩/\ex= .exit 6/\ah tm 0=v/\ah tm 16= .str mt/\ah tm 18= .str wt/\ah tm 33=j9 o/\ah tm 35=og o (eh (dW l l.length))/\ah tm 259=ab s.length/\ah tm 260=ab r:=by
 refine dt (I:=fun d st=>∃c:Nat,st=⟨[(0,v),(16,.str mt),(18,.str wt),(33,j9 o),(35,og o (eh (dW l c))),(259,ab s.length),(260,ab r),(266,rv),(267,ab l.length),(268,ab c)],jj o (eh (dW l c)),lT o (eh (dW l c)),0⟩/\c+d=l.length)
  (Q:=fun ex s'=>∃tm ct,s'=⟨tm,jj o (eh (dW l l.length)),ct,0⟩/\ex= .exit 6/\ah tm 0=v/\ah tm 16= .str mt/\ah tm 18= .str wt/\ah tm 33=j9 o/\ah tm 35=og o (eh (dW l l.length))/\ah tm 259=ab s.length/\ah tm 260=ab r) ?_
 rintro d st ⟨c,rfl,LA⟩;by_cases hc:c<l.length
 ·left
  have hx:=hl.bt hc;have hbc:=hb c hc;have hlen:(eh (dW l c)).length=c:=PN (by omega)
  suffices hh:∃s',D P L sY ⟨[(0,v),(16,.str mt),(18,.str wt),(33,j9 o),(35,og o (eh (dW l c))),(259,ab s.length),(260,ab r),(266,rv),(267,ab l.length),(268,ab c)],jj o (eh (dW l c)),lT o (eh (dW l c)),0⟩=some (Ex.normal,s')/\bA [0,16,18,33,35,259,260,266,267,268] s'=⟨[(0,v),(16,.str mt),(18,.str wt),(33,j9 o),(35,og o (eh (dW l (c+1)))),(259,ab s.length),(260,ab r),(266,rv),(267,ab l.length),(268,ab ((c+1:Nat):Int))],jj o (eh (dW l (c+1))),lT o (eh (dW l (c+1))),0⟩ by
   obtain ⟨s',e1,e2⟩:=hh;exact ⟨s',d-1,e1,by omega,c+1,e2,by omega⟩
  rw [aiX hc];generalize eh (dW l c)=q at hlen;generalize l[c]=x at hx hbc;cases o<;>cases q
  all_goals
   try simp only [yx] at hlen
   simp only [go_sem,ya,yc,xR,yV,ym,yv,sY,EY,zi,SW,Rc,Re,I6,Bu,Rg,Rh,I7,Eu,agO,agP,show (c:Int)<l.length by omega,hx,yaL,wrap64 (n:= -x) (by omega) (by omega),jH]
   first
    | (rw [jn (ex:=false) (pu:=true) (sz:=1) (by simp only [go_sem,ya];rfl) (by simp) (by omega) (by omega) (by decide) (by simp only [go_sem])];simp only [go_sem,ya,yc])
    | skip
   refine ⟨_,rfl,?_⟩
   rw [show (c:Int)+1=((c+1:Nat):Int) from rfl,wrapN (n:=c+1) (by omega)];simp only [go_sem,ya,yc,aM,a6 hv.pu,bc _ hv.pu,a6 hl.pu,bc _ hl.pu,yW]<;>rfl
 ·right
  have:c=l.length:=by omega
  subst this;simp only [go_sem,ya,sY,show ¬(l.length:Int)<l.length by omega];exact ⟨_,_,rfl,by simp,_,_,rfl,rfl,by simp only [go_sem,ya],by simp only [go_sem,ya],by simp only [go_sem,ya],by simp only [go_sem,ya],by simp only [go_sem,ya],by simp only [go_sem,ya],by simp only [go_sem,ya]⟩
def eT (s:List (List Int)) (r:Nat):List AV:=((s.take r).map fun l=>l.map fun x=> -x).map kG
def aiY {s:List (List Int)} {r:Nat} (hr:r<s.length):eT s (r+1)=eT s r++[kG (s[r].map fun x=> -x)]:=by
 unfold eT;rw [wF hr];simp only [xm,yP,wc]
def aeE {s:List (List Int)} {r:Nat} (hr:r<=s.length):(eT s r).length=r:=by simp [eT,xX hr]
def aeF (s:List (List Int)):eT s s.length=(gn s).map kG:=by unfold eT gn;rw [wK]
def ahk {v:AV} {s:List (List Int)} (hv:cf v s) (hz:cV s=0) (h5:s.length<=5) (mt wt:List Nat):
  ∀d st,(∃r:Nat,bA [0,16,18,33,259,260] st=⟨[(0,v),(16,.str mt),(18,.str wt),(33,j9 (eT s r)),(259,ab s.length),(260,ab r)],jj (eT s r) [],lT (eT s r) [],0⟩/\r+d=s.length)->
   ∃ex s',D P L (.loop [0,16,18,33,259,260] Bh) st=some (ex,s')/\∃tm ct,s'=⟨tm,jj (eT s s.length) [],ct,0⟩/\ex= .exit 4/\ah tm 16= .str mt/\ah tm 18= .str wt/\ah tm 33=j9 (eT s s.length):=by
 refine dt (I:=fun d st=>∃r:Nat,st=⟨[(0,v),(16,.str mt),(18,.str wt),(33,j9 (eT s r)),(259,ab s.length),(260,ab r)],jj (eT s r) [],lT (eT s r) [],0⟩/\r+d=s.length)
  (Q:=fun ex s'=>∃tm ct,s'=⟨tm,jj (eT s s.length) [],ct,0⟩/\ex= .exit 4/\ah tm 16= .str mt/\ah tm 18= .str wt/\ah tm 33=j9 (eT s s.length)) ?_
 obtain ⟨a1,a2,a3⟩:=lX hz;rintro d st ⟨r,rfl,gN⟩;by_cases hr:r<s.length
 ·obtain ⟨rv,rest,cz,eH⟩:=hv.bt hr;obtain ⟨rl,ro⟩:=mc a3 r hr;simp only [go_sem,ya,Bh,show (r:Int)<s.length by omega,eH,cz.len];generalize hq:D P L (.loop [0,16,18,33,35,259,260,266,267,268] sY) _=q';obtain ⟨ex,st,rfl,tm,ct,rfl,rfl,g0,g16,g18,Df,Av,U6,U7⟩:=cW hq (ahj (P:=P) (L:=L) hv h5 (r:=r) cz (by omega) (fun c hc=>by have:=mf a3 (by decide) r c;rw [s7 hr hc];exact this) mt wt (o:=eT s r) s[r].length) ⟨0,by
   generalize eT s r=o;simp only [dW,tV,wc,eh]
   cases o<;>simp only [go_sem,ya,yc,aM,EY,zi,SW,I6,Bu,I7,Eu,a6 hv.pu,bc _ hv.pu,a6 cz.pu,bc _ cz.pu]<;>rfl,by omega⟩
  left
  have hlen:(eT s r).length=r:=aeE (by omega);have jc:(eh (dW s[r] s[r].length)).length=s[r].length:=PN (yC _);have K5:kG (s[r].map fun x=> -x)= .aB false s[r].length (eh (dW s[r] s[r].length)):=by rw [aeD];simp [kG,eh]
  suffices hh:∃s',_=some (Ex.normal,s')/\bA [0,16,18,33,259,260] s'=⟨[(0,v),(16,.str mt),(18,.str wt),(33,j9 (eT s (r+1))),(259,ab s.length),(260,ab ((r+1:Nat):Int))],jj (eT s (r+1)) [],lT (eT s (r+1)) [],0⟩ by
   obtain ⟨s',e1,e2⟩:=hh;exact ⟨s',d-1,e1,by omega,r+1,e2,by omega⟩
  rw [aiY hr,K5];generalize GH:eh (dW s[r] s[r].length)=q at jc Av;generalize hoo:eT s r=o at hlen Df Av;rw [rl] at jc ⊢;cases o<;>cases q
  ·simp at jc;omega
  ·simp only [EY,Rc] at Df Av
   try simp only [yx] at hlen jc
   simp only [go_sem,ya,yc,xR,yV,ym,yv,zi,Bu,Rg,Eu,aM,g0,g16,g18,Df,Av,U6,U7,a6 hv.pu,bc _ hv.pu,jH,jc,jl];refine ⟨_,rfl,?_⟩
   rw [show (r:Int)+1=((r+1:Nat):Int) from rfl,wrapN (n:=r+1) (by omega)];simp only [go_sem,ya,yc,aM,a6 hv.pu,bc _ hv.pu]<;>rfl
  ·simp at jc;omega
  ·simp only [zi,Re] at Df Av
   try simp only [yx] at hlen jc
   simp only [go_sem,ya,yc,yV,ym,yv,zi,Bu,Rh,Eu,aM,g0,g16,g18,Df,Av,U6,U7,a6 hv.pu,bc _ hv.pu,jc,jl]
   rw [jn (ex:=false) (pu:=true) (sz:=1) (by simp only [go_sem,ya];rfl) (by simp) (by omega) (by omega) (by decide) (by simp only [go_sem])]
   simp only [go_sem,ya,yc];refine ⟨_,rfl,?_⟩
   rw [show (r:Int)+1=((r+1:Nat):Int) from rfl,wrapN (n:=r+1) (by omega)];simp only [go_sem,ya,yc,aM,a6 hv.pu,bc _ hv.pu,yW]<;>rfl
 ·right
  have:r=s.length:=by omega
  subst this;simp only [go_sem,ya,Bh,show ¬(s.length:Int)<s.length by omega];exact ⟨_,_,rfl,by simp,_,_,rfl,rfl,by simp only [go_sem,ya],by simp only [go_sem,ya],by simp only [go_sem,ya]⟩
end
end
section
open Go (IntKind)
def acz {s:List (List Int)} {n:Nat} (h:∀i (hi:i<s.length),s[i].length=n):∀i (hi:i<(gn s).length),(gn s)[i].length=n:=fun i hi=>by
 unfold gn at hi ⊢;rw [yL] at hi;rw [List.getElem_map,yL];exact h i hi
def aeG {s:List (List Int)} (h:cV s=0):cV (gn s)=0:=by
 obtain ⟨a1,a2,a3⟩:=lX h
 rw [<-ahe (s:=gn s) sL (acz fun i hi=>(mc a3 i hi).1)]
 exact PJ a1 a2 (fun c r=>by have:=mf a3 (by decide) r c;rw [Jb];omega)
def all_eq {S1 S2 A:Int} (hA:0<A):((2*(A*S2)-2*(S1*S1):Int):Rat)/(A:Rat)/(A:Rat)=2*(((S2*(A*A)-S1*S1*A:Int):Rat)/((A*(A*A):Int):Rat)):=by
 have h0:(A:Rat)≠0:=by
  intro h
  have:A=0:=yad.1 h
  omega
 simp only [Rat.intCast_sub,Rat.intCast_mul]
 grind
def Rz {a:Rat} (h:0<=a):¬eR a.num<0:=by
 have h1:0<=a.num:=Rat.num_nonneg.2 h;unfold eR
 split
 ·omega
 ·split<;>omega
def RA {k A:Int} (hk:0<=k) (hA:0<A):0<=(k:Rat)/(A:Rat):=by
 rw [wH];exact Rat.mul_nonneg (Rat.intCast_nonneg.2 hk) (Rat.le_of_lt (Rat.inv_pos.2 (Rat.intCast_pos.2 hA)))
def aeH {s:List (List Int)} (hA:0<aP s):0<=eE s:=by
 have h1:=OQ (s:=s);have h2:0<=bT s.length (fun a b=>di s (a:Int) (b:Int)):=Ry (fun c r=>PL _ _);rw [h1] at h2;have h3:0<=aP s*eD s-bO s*bO s:=by omega
 have h4:=Int.mul_nonneg h3 (Int.le_of_lt hA);have e:eE s=(aP s*eD s-bO s*bO s)*aP s:=by
  unfold eE;generalize aP s=A;generalize bO s=x;generalize eD s=y
  grind
 rw [e];exact h4
def akA {s:List (List Int)} (h0:0<s.length) (h1:s.length<=16) (hs:dZ s.length (-1000) 1000 s=0):(eE s).natAbs<2^50/\(et s).natAbs<2^50/\(bO s).natAbs<=256000:=by
 have b1:=qt h1 (b:=1000) (by decide) (by decide) (val:=fun c r=>kv s r c) (fun c r _ _=>mf hs (by decide) r c);have b2:=qt h1 (b:=1000000) (by decide) (by decide) (val:=fun c r=>kv s r c*kv s r c) (fun c r _ _=>sJ (a:=1000) (b:=1000) (mf hs (by decide) r c) (mf hs (by decide) r c));change -(1000*256)<=bO s/\bO s<=1000*256 at b1
 change -(1000000*256)<=eD s/\eD s<=1000000*256 at b2
 have ba:=nf h0 h1;have n1:(bO s).natAbs<=256000:=by omega
 have n2:(eD s).natAbs<=256000000:=by omega
 have n3:(aP s).natAbs<=256:=by omega
 have m11:(bO s*bO s).natAbs<=65536000000:=by rw [xi];exact yX n1 n1
 have De:(aP s*aP s).natAbs<=65536:=by rw [xi];exact yX n3 n3
 have x1:(eD s*(aP s*aP s)).natAbs<=256000000*65536:=by rw [xi];exact yX n2 De
 have x2:(bO s*bO s*aP s).natAbs<=65536000000*256:=by rw [xi];exact yX m11 n3
 have x3:(et s).natAbs<=256*65536:=by unfold et;rw [xi];exact yX n3 De
 have:=Int.natAbs_sub_le (eD s*(aP s*aP s)) (bO s*bO s*aP s)
 refine ⟨?_,by omega,n1⟩;unfold eE;omega
section
variable {P:aF} {L:Lib}
def W9 (h:Ay P L) {v:AV} {s:List (List Int)} (hv:cf v s) (a b:Int):aj P L 254 [v,ab a,ab b] (.bool true):=by
 have ea:=h.aiW;have sr:=s3 h.h3 h.C0 hv;unfold aj at ea sr;by_cases g1:5<s.length
 ·unfold aj;rw [aR h.rM];simp only [go_sem,ya,nO,hv.len,ea,yQ,show (5:Int)<(s.length:Int) by omega]
 have g1:s.length<=5:=by omega
 by_cases g2:cV s≠0
 ·unfold aj;rw [aR h.rM];simp only [go_sem,ya,nO,hv.len,hv.aE,ea,sr,yQ,show ¬(5:Int)<(s.length:Int) by omega,g2]
 have g2:cV s=0:=Decidable.not_not.1 g2;by_cases g3:a< -20
 ·unfold aj;rw [aR h.rM];simp only [go_sem,ya,nO,hv.len,hv.aE,ea,sr,yQ,show ¬(5:Int)<(s.length:Int) by omega,g2,g3]
 by_cases g4:20<a
 ·unfold aj;rw [aR h.rM];simp only [go_sem,ya,nO,hv.len,hv.aE,ea,sr,yQ,show ¬(5:Int)<(s.length:Int) by omega,g2,g3,g4]
 by_cases g5:b< -20
 ·unfold aj;rw [aR h.rM];simp only [go_sem,ya,nO,hv.len,hv.aE,ea,sr,yQ,show ¬(5:Int)<(s.length:Int) by omega,g2,g3,g4,g5]
 by_cases g6:20<b
 ·unfold aj;rw [aR h.rM];simp only [go_sem,ya,nO,hv.len,hv.aE,ea,sr,yQ,show ¬(5:Int)<(s.length:Int) by omega,g2,g3,g4,g5,g6]
 have hS:=Bx hv g2;obtain ⟨a1,a2,a3⟩:=lX g2;have hA:=nf a1 a2;have hV:=OS hA.1;obtain ⟨bn,bd,b1⟩:=akA a1 a2 a3;have hl:s.length<=1000000:=by omega
 have hr:∀i (hi:i<s.length),s[i].length<=1000000:=fun i hi=>by rw [hS.row i hi];exact hl
 have e1:=Au h.st.toStB hv g2 (a:=a) (b:=b) (by omega) (by omega);have e2:=Au h.st.toStB hv g2 (a:= -a) (b:= -b) (by omega) (by omega);rw [acu] at e2;have e3:=Au h.st.toStB hv g2 (a:=a+(s.length:Int)) (b:=b-2*(s.length:Int)) (by omega) (by omega);rw [acw] at e3;have e4:=Au h.st.toStB hv g2 (a:=3*(s.length:Int)) (b:= -(s.length:Int)) (by omega) (by omega);rw [ahg,U3] at e4;have e5:=LD h.st.toStB hv g2;have e6:=LF h.st hv g2;have rX:cu [cV s,cL a,cL b]=0:=by
  rw [g2,show cL a=0 by unfold cL;rw [yE (by omega)],show cL b=0 by unfold cL;rw [yE (by omega)]];rfl
 have e7:=(s20 {toSmP:=h.st.toSmP,hZ:=h.hZ,GR:=h.st.GR,GS:=h.GS,Ar:=h.st.Ar} hv hl hr a b).2 rX;have hT:cf (mF (fun c r=>ab (bk s (c-a) (r-b))) s.length) (iH s a b):=ahc (n:=s.length) (fun c r=>bk s (c-a) (r-b));have GV:cV (iH s a b)=0:=PJ hS.pos hS.le (fun c r=>hS.cR _ _);generalize mF (fun c r=>ab (bk s (c-a) (r-b))) s.length=T at*
 have f1:=LD h.st.toStB hT GV;have f2:=LF h.st hT GV;have f3:=Au h.st.toStB hT GV (a:=a) (b:=b) (by omega) (by omega);have GW:aP (iH s a b)=aP s:=by unfold aP;rw [AS]
 have hTv:eE (iH s a b)=eE s:=by unfold eE;rw [GW,PM a1,aeB a1]
 have hTd:et (iH s a b)=et s:=by unfold et;rw [GW]
 rw [GW,PM a1] at f1;rw [hTv,hTd] at f2;rw [GW,aeC a1] at f3;have f4:=s3 h.h3 h.C0 hT;rw [GV] at f4;have bD:=Jd a2 a3 a b;have k1:Hq 80 ((di s a b:Rat)/(aP s:Rat)):=BU (by omega) (by omega);have k2:Hq 80 ((bO s:Rat)/(aP s:Rat)):=BU (by omega) (by omega);have U8:∀{z:Int},z.natAbs<2^50->Hq 50 (z:Rat):=fun h=>⟨by rw [yab];exact h,by rw [yac];decide⟩
 have k3:Hq 100 ((eE s:Rat)/(et s:Rat)):=(U8 bn).div (U8 bd);have l1:=qQ k1;have l2:=qQ k2;have l3:=qQ k3;have q1:=aiP h.r.toRm h.FH (aez true [fD (di s a b) (aP s),fD (bO s) (aP s),fD (eE s) (et s)]) (by simp) (fun t ht=>by simp only [List.mem_cons,List.not_mem_nil,or_false] at ht;unfold fD at ht;rcases ht with rfl | rfl | rfl<;>omega)
 have c1:dV (fD (di s a b) (aP s))=0:=ED k1 (by decide);have c2:dV (fD (bO s) (aP s))=0:=ED k2 (by decide);have c3:dV (fD (eE s) (et s))=0:=ED k3 (by decide);simp only [yx,List.length_nil,Nat.zero_add,yc,yP,wc,c1,c2,c3,show cu [0,0,0]=0 from rfl] at q1;have q2:=Jy h.r.toRm k1 (by decide);have q3:=Jy h.r.toRm k3 (by decide);have n2:=Rz (RA (PL (s:=s) a b) hA.1);have n3:=Rz (RA (aeH hA.1) hV);change aj P L 262 [.str (fD (di s a b) (aP s))] _ at q2
 change aj P L 262 [.str (fD (eE s) (et s))] _ at q3
 generalize eR ((di s a b:Rat)/(aP s:Rat)).num=sg1 at*
 generalize eR ((eE s:Rat)/(et s:Rat)).num=sg2 at*
 have WY:pR s s.length=2*(aP s*eD s)-2*(bO s*bO s):=OQ;have bR:=U5 g1 a3 (r:=s.length) g1;have k4:Hq 80 ((pR s s.length:Rat)/(aP s:Rat)):=BU (by omega) (by omega);have k5:Hq 40 (aP s:Rat):=Jc (by omega);have LG:(aP s:Rat)≠0:=by
  intro h
  have:aP s=0:=yad.1 h
  omega
 have q4:=aiJ h.r.toRm h.Kf (n:=aP s) (by omega);have q5:=aiO h.r h.Kg h.Cs k4 k5 (by decide) LG;have q6:=Td h.r (show Hq 2 (2:Rat) from ⟨by unfold Bd;decide,by unfold Bd;decide⟩) k3 (by decide)
 rw [aku] at q6;rw [WY,all_eq hA.1] at q5;change aj P L 266 [.str (fD _ (aP s)),_] _ at q5
 rw [<-WY] at q5;change aj P L 267 [_,.str (fD (eE s) (et s))] _ at q6
 have q7:=aiL h.r.toRp k2 (by decide);change aj P L 268 [.str (fD (bO s) (aP s))] _ at q7
 have hN:=agN false (gn s);have WZ:=aeG g2;rw [sL] at hN;have r1:=LD h.st.toStB hN WZ;have r2:=LF h.st hN WZ;have LH:aP (gn s)=aP s:=by unfold aP;rw [sL]
 have hNv:eE (gn s)=eE s:=by unfold eE;rw [LH,OR,acx,Int.neg_mul_neg]
 have hNd:et (gn s)=et s:=by unfold et;rw [LH]
 have hNm:fD (bO (gn s)) (aP (gn s))=RT (-((bO s:Rat)/(aP s:Rat))):=by
  unfold fD;rw [LH,OR,Rat.intCast_neg,wH,wH,Rat.neg_mul]
 rw [hNm] at r1;rw [hNv,hNd] at r2;have hlen:((gn s).map kG).length=s.length:=by rw [yL,sL]
 have mm:=ahi h hv g2 g1 (fD (bO s) (aP s)) (fD (eE s) (et s));have mn:=ahk (P:=P) (L:=L) hv g2 g1 (fD (bO s) (aP s)) (fD (eE s) (et s));rw [aeF] at mn;have p0:fD (pR s 0) (aP s)=[48]:=U3 _;generalize fD (pR s s.length) (aP s)=tx at*
 generalize RT (2*((eE s:Rat)/(et s:Rat)))=ty at*
 generalize RT (-((bO s:Rat)/(aP s:Rat)))=tn at*
 generalize RT (aP s:Rat)=tA at*
 generalize fD (di s a b) (aP s)=td at*
 generalize fD (bO s) (aP s)=lJ at*
 generalize fD (eE s) (et s)=tv at*
 generalize (gn s).map kG=o at*
 unfold aj at e1 e2 e3 e4 e5 e6 e7 f1 f2 f3 f4 q1 q2 q3 q4 q5 q6 q7 r1 r2 ⊢;rw [aR h.rM]
 simp only [go_sem,ya,yc,yV,ym,yv,nO,hv.len,hv.aE,hT.len,hT.aE,hT.bW,ea,sr,yQ,show ¬(5:Int)<(s.length:Int) by omega,g2,g3,g4,g5,g6,e1,yaL,wrap64 (n:= -a) (by omega) (by omega),wrap64 (n:= -b) (by omega) (by omega),e2,wrap64 (n:=a+(s.length:Int)) (by omega) (by omega),wrap64 (n:=2*(s.length:Int)) (by omega) (by omega),wrap64 (n:=b-2*(s.length:Int)) (by omega) (by omega),e3,wrap64 (n:=3*(s.length:Int)) (by omega) (by omega),wrap64 (n:= -(s.length:Int)) (by omega) (by omega),e4,e5,e6,e7,vI,show IntKind.wrap .i64 0=0 from rfl,yz,yD,q1,q2,q3,n2,n3,PB,HL,f4,AS,f1,f2,f3];generalize hq:D P L (.loop [0,7,16,18,28,222,223] Bg) _=q';obtain ⟨ex,st,rfl,tm,ct,rfl,rfl,t0,t7,t16,t18,t28⟩:=cW hq (mm s.length) ⟨0,by
  rw [p0]
  simp only [go_sem,ya,aM,a6 hv.pu,bc _ hv.pu]<;>rfl,by omega⟩
 simp only [go_sem,ya,aM,a6 hv.pu,bc _ hv.pu,hv.len,t0,t7,t16,t18,t28,show (s.length:Int)*(s.length:Int)=aP s from rfl,wrap64 (n:=aP s) (by omega) (by omega),q4,q5,q6,PB,HL];generalize hq:D P L (.loop [0,16,18,33,259,260] Bh) _=q';obtain ⟨ex,st,rfl,tm,ct,rfl,rfl,t16,t18,t33⟩:=cW hq (mn s.length) ⟨0,by
  simp only [eT,tV,wc]
  simp only [go_sem,ya,aM,EY,I6,I7,a6 hv.pu,bc _ hv.pu]<;>rfl,by omega⟩
 cases o with
 | nil=>simp at hlen;omega
 | cons x o=>
  simp only [zi,Bu] at t33 ⊢;simp only [yx] at hlen;simp only [go_sem,ya,yc,yV,yv,aM,t16,t18,t33,hlen,jl,r1,r2,q7,jJ,HL,vI,show IntKind.wrap .i64 0=0 from rfl,yz]
end
end
section
open Go (IntKind)
abbrev AE:List Ty:=[Px,.int .i64,.int .i64]
def W5 {P:aF} {L:Lib} (h:Ay P L) {ls:List (List AV)} (hs:gJ ji AE ls):aj P L 254 (BO AE ls) (.bool true):=by
 obtain ⟨_,_,_,rfl,h1,h2,h3⟩:=agq hs;obtain ⟨w,s,rfl,hw⟩:=Yl h1;obtain ⟨a,rfl,ha⟩:=h2;obtain ⟨b,rfl,hb⟩:=h3;exact W9 h hw a b
end
section
namespace J2
open Go Go.Proofs
def T:List (Tr av):=[.n 1 [.o 7 [] (.bool true)] .l .l]
def L1:VE.Lib:=Fu VE.aK T 1000
def lw:Ay VE.prog L1:=by
 repeat' (first | rfl | constructor)
section
variable {W:World} {m:Int} (hm:W.cell? ⟨2,0,none⟩=some (.int .i64 m)) (ht:Go.Lib.TabIs Tryz.prog W "internal/strconv.uint64pow10" .u64 Go.Lib.pow10Tab)
include hm ht
def linked:ek ((J1.O W).oI L1):=by
 have hO:=J1.ac9 hm ht;have hT:dw (J1.O W) T:=dw.cons (Tr.iq (iw.one (VR.holds hO rfl rfl)) Tr.gE Tr.gE) dw.nil;exact Pd hO hT 1000
def law {ls:List (List AV)} (hs:gJ ji AE ls):dQ (J1.O W) 254 (BO AE ls) (.bool true):=by
 obtain ⟨k,hk⟩:=afB (W5 lw hs);exact sound (linked hm ht) hk
end
end J2
end
end VE
