import Derived.Test.YtpdlhopnhojpjaaGreatDoorTaj
import Derived.Test.YtpdlhopnhojpjaaGreatDoorTag
set_option linter.all false
set_option maxRecDepth 100000
open BitVec renaming ofInt→xV,ofInt_natCast→uS,ofNat→uR,toNat_ofNat→vP
open Bool renaming and_eq_true→yi,and_self→wm,false_and→wE,false_eq_true→yN
open Go renaming IntKind→xc
open Int renaming natCast_mul→vA,toNat_natCast→wq
open List renaming append_assoc→xm,append_nil→xT,cons_append→xr,drop→vh,drop_drop→vS,drop_eq_getElem_cons→yP,drop_eq_nil_of_le→xe,drop_left'→uP,drop_zero→yL,filter_cons→ybe,filter_eq_nil_iff→yak,getD_eq_getElem?_getD→yM,length_append→yG,length_cons→yy,length_drop→we,length_nil→yO,length_reverse→yaD,length_take→yI,map_append→xg,map_take→yab,mem_append→xL,mem_singleton→xu,nil_append→xp,range'→wo,range'_succ→vT,replicate→yf,reverse_cons→yaT,set_append_right→yar,take_append_drop→xZ,take_length→xJ,take_of_length_le→yC,take_succ_eq_append_getElem→yT
open Nat renaming add_comm→yaP,add_mul→wS,add_sub_cancel→tS,add_zero→y7,beq→yz,beq_refl→ve,ble→yK,ble_eq_true_of_le→yx,blt→yQ,div_add_mod→wg,div_eq_of_lt→vc,div_le_self→vM,div_lt_iff_lt_mul→wv,eq_zero_or_pos→xB,le_of_ble_eq_true→yB,le_of_lt→tp,le_refl→yq,le_trans→xv,lt_of_le_of_lt→wY,lt_of_lt_of_le→yV,min_eq_left→xt,mod_add_div→tL,mod_eq_of_lt→yY,mod_lt→xH,mul_add→xK,mul_add_div→tM,mul_add_mod→tN,mul_assoc→xx,mul_comm→xO,mul_div_mul_right→uW,mul_le_mul→xU,mul_le_mul_left→y8,mul_le_mul_right→yS,mul_lt_mul_of_pos_right→wT,mul_mod_mul_right→vY,mul_one→yh,mul_zero→xM,or_comm→ycc,pos_of_ne_zero→yaU,pow_add→wZ,pow_le_pow_right→xh,pow_succ→xi,pow_zero→ybR,reduceAdd→yd,reduceEqDiff→ya,reduceLT→yJ,reduceMul→xj,two_pow_pos→wU,zero_add→yg,zero_le→uJ,zero_mul→yag
namespace VE
open Go (IntKind)
def TT (n:Int) (d:Nat):List Nat:=aY n++(if d=1 then [] else 47::aD d)
def asy {a b:Int} (hb:0<b):qS a b=TT (dC a b) (dK a b).toNat:=by
 have h:=Jj (a:=a) hb;unfold qS TT;by_cases h1:dK a b=1
 ·grind
 ·rw [yo h1,yo (by omega)];obtain ⟨m,hm⟩:∃m:Nat,dK a b=m:=⟨(dK a b).toNat,by omega⟩;rw [hm,xm];rfl
def z6 (n:Nat):0<(aD n).length:=by
 by_cases h:n<10
 ·rw [qc h];simp
 ·rw [rJ h];simp
def JF:∀(n:Nat),n<10^(aD n).length:=by
 intro n
 induction n using Nat.strongRecOn with
 | _ n ih=>
  by_cases h:n<10
  ·rw [qc h];simpa using h
  ·have:=ih (n/10) (by omega)
   rw [rJ h,yG,List.length_singleton,xi];omega
def abq {n:Nat} (h:(aD n).length<=9):n<1000000000:=
 yV (JF n) (by simpa using xh (show 0<10 by decide) h)
def Fw (n:Nat):∃b r,aD n=b::r/\48<=b/\b<=57:=by
 cases hq:aD n with
 | nil=>have:=z6 n;rw [hq] at this;simp at this
 | cons b r=>
  have:=Ja n
  rw [hq] at this;simp only [dw,yi] at this
  simp_all
section
variable {P:aM} {L:Lib}
def Ej (s:List Nat):n7 0 (.str (45::s))=some (.int .u8 45):=rfl
def Ur (q:Bool) (n:Int) (d:Nat):AV:=if q=true then .az [aa n,aa d,.bool true] else .az [aa 0,aa 0,.bool false]
def AD (d:Nat):List Nat:=if d=1 then [] else 47::aD d
def amN (d:Nat):bY (AD d)=0:=by unfold AD;split<;>rfl
def ay3 (h:Has P L 276 qR) (Ct:Has P L 272 Lh) (AR:Has P L 290 GN) {n:Int} {d:Nat} (hl:(TT n d).length<=20000000000):
  ∃q:Bool,aj P L 276 [.str (TT n d)] (Ur q n d)/\(q=true->n.natAbs<1000000000/\d<1000000000):=by
 generalize hs:TT n d=s at hl;by_cases nK:20<s.length
 ·refine ⟨false,?_,fun h=>by cases h⟩;unfold aj;rw [aI h];simp only [go_sem,ya,qR,show (20:Int)<s.length by omega];rfl
 ·have hu:∃u,u=aD n.natAbs++AD d:=⟨_,rfl⟩;obtain ⟨u,hu⟩:=hu;have hK:∃K,K=(aD n.natAbs).length:=⟨_,rfl⟩;obtain ⟨K,hK⟩:=hK;have A9:bY u=K:=by rw [hu,Nq _ (Ja _),amN,hK];rfl
  have hlen:u.length=K+(AD d).length:=by rw [hu,hK,yG]
  have hp:=z6 n.natAbs;obtain ⟨b,r,hb,nI,rq⟩:=Fw n.natAbs;have EP:(n<0/\s=45::u)\/(¬n<0/\s=u):=by
   by_cases h0:n<0
   ·left;refine ⟨h0,?_⟩;rw [<-hs,hu,TT,nV h0];rfl
   ·right;refine ⟨h0,?_⟩;rw [<-hs,hu,TT,<-oT,yo h0];rfl
  have hul:u.length<=s.length:=by rcases EP with ⟨_,e⟩ | ⟨_,e⟩<;>rw [e]<;>simp
  have CS:0<u.length:=by omega
  have sd:u[0]=b:=by
   have:u=b::(r++AD d):=by rw [hu,hb];rfl
   simp [this]
  have e1:=GV Ct (s:=u) (by omega);rw [A9] at e1;have eK:iW u (some 0) (some K)=some (.str (aD n.natAbs)):=by
   rw [my (by omega) (by omega),yL,hu,hK,List.take_left]
  unfold aj at e1;by_cases h9:9<K
  ·refine ⟨false,?_,fun h=>by cases h⟩;unfold aj;rw [aI h];rcases EP with ⟨h0,e⟩ | ⟨h0,e⟩
   ·have nK:¬20<u.length+1:=by rw [e] at nK;exact nK
    have mj:iW (45::u) (some 1) (some (u.length+1))=some (.str u):=by rw [my (s:=45::u) (l:=1) (h:=u.length+1) (by omega) (by simp)];simp
    rw [e];simp only [go_sem,ya,qR,show ¬(20:Int)<((u.length+1:Nat):Int) by omega,show (0:Int)<((u.length+1:Nat):Int) by omega,Ej,fb,fB,dS,mj,e1,show (9:Int)<(K:Int) by omega];rfl
   ·rw [e];simp only [go_sem,ya,qR,show ¬(20:Int)<(u.length:Nat) by omega,show (0:Int)<(u.length:Nat) by omega,rM CS,sd,show ¬((b:Nat):Int)=45 by omega,e1,show (9:Int)<(K:Int) by omega];rfl
  ·by_cases jl:10<(AD d).length
   ·refine ⟨false,?_,fun h=>by cases h⟩;unfold aj;rw [aI h];rcases EP with ⟨h0,e⟩ | ⟨h0,e⟩
    ·have nK:¬20<u.length+1:=by rw [e] at nK;exact nK
     have mj:iW (45::u) (some 1) (some (u.length+1))=some (.str u):=by rw [my (s:=45::u) (l:=1) (h:=u.length+1) (by omega) (by simp)];simp
     rw [e]
     simp only [go_sem,ya,qR,show ¬(20:Int)<((u.length+1:Nat):Int) by omega,show (0:Int)<((u.length+1:Nat):Int) by omega,Ej,fb,fB,dS,mj,e1,show ¬(9:Int)<(K:Int) by omega,wrap64 (n:=(u.length:Int)-(K:Int)) (by omega) (by omega),show (10:Int)<(u.length:Int)-(K:Int) by omega];rfl
    ·rw [e]
     simp only [go_sem,ya,qR,show ¬(20:Int)<(u.length:Nat) by omega,show (0:Int)<(u.length:Nat) by omega,rM CS,sd,show ¬((b:Nat):Int)=45 by omega,e1,show ¬(9:Int)<(K:Int) by omega,wrap64 (n:=(u.length:Int)-(K:Int)) (by omega) (by omega),show (10:Int)<(u.length:Int)-(K:Int) by omega];rfl
   ·have e2:=Lt AR (s:=aD n.natAbs) (by omega) (Dm n.natAbs);unfold aj at e2;have hm:=abq (n:=n.natAbs) (by omega);by_cases hd:d=1
    ·subst hd;have fF:AD 1=[]:=rfl;refine ⟨true,?_,fun _=>⟨hm,by decide⟩⟩;rw [fF] at hlen;simp only [yO,y7] at hlen;unfold aj;rw [aI h];rcases EP with ⟨h0,e⟩ | ⟨h0,e⟩
     ·have nK:¬20<u.length+1:=by rw [e] at nK;exact nK
      have mj:iW (45::u) (some 1) (some (u.length+1))=some (.str u):=by rw [my (s:=45::u) (l:=1) (h:=u.length+1) (by omega) (by simp)];simp
      rw [e]
      simp only [go_sem,ya,qR,show ¬(20:Int)<((u.length+1:Nat):Int) by omega,show (0:Int)<((u.length+1:Nat):Int) by omega,Ej,fb,fB,dS,mj,e1,show ¬(9:Int)<(K:Int) by omega,wrap64 (n:=(u.length:Int)-(K:Int)) (by omega) (by omega),show ¬(10:Int)<(u.length:Int)-(K:Int) by omega,eK,e2,show ¬(K:Int)<(u.length:Int) by omega,wrap64 (n:=0-(n.natAbs:Int)) (by omega) (by omega)];rw [show 0-(n.natAbs:Int)=n by omega];rfl
     ·rw [e]
      simp only [go_sem,ya,qR,show ¬(20:Int)<(u.length:Nat) by omega,show (0:Int)<(u.length:Nat) by omega,rM CS,sd,show ¬((b:Nat):Int)=45 by omega,fb,fB,dS,e1,show ¬(9:Int)<(K:Int) by omega,wrap64 (n:=(u.length:Int)-(K:Int)) (by omega) (by omega),show ¬(10:Int)<(u.length:Int)-(K:Int) by omega,eK,e2,show ¬(K:Int)<(u.length:Int) by omega];rw [show (n.natAbs:Int)=n by omega];rfl
    ·have fF:AD d=47::aD d:=yo hd;have Mv:(AD d).length=(aD d).length+1:=by rw [fF];rfl
     have hpd:=z6 d;have hd9:=abq (n:=d) (by omega);have e3:=Lt AR (s:=aD d) (by omega) (Dm d);unfold aj at e3;have zG:iW u (some (K+1)) (some u.length)=some (.str (aD d)):=by
      rw [my (by omega) (yq _),xJ,hu,fF,hK,show (aD n.natAbs).length+1=(aD n.natAbs++[47]).length by simp,show aD n.natAbs++47::aD d=(aD n.natAbs++[47])++aD d by simp,List.drop_left]
     refine ⟨true,?_,fun _=>⟨hm,hd9⟩⟩;unfold aj;rw [aI h];rcases EP with ⟨h0,e⟩ | ⟨h0,e⟩
     ·have nK:¬20<u.length+1:=by rw [e] at nK;exact nK
      have mj:iW (45::u) (some 1) (some (u.length+1))=some (.str u):=by rw [my (s:=45::u) (l:=1) (h:=u.length+1) (by omega) (by simp)];simp
      rw [e]
      simp only [go_sem,ya,qR,show ¬(20:Int)<((u.length+1:Nat):Int) by omega,show (0:Int)<((u.length+1:Nat):Int) by omega,Ej,fb,fB,dS,mj,e1,show ¬(9:Int)<(K:Int) by omega,wrap64 (n:=(u.length:Int)-(K:Int)) (by omega) (by omega),show ¬(10:Int)<(u.length:Int)-(K:Int) by omega,eK,e2,show (K:Int)<(u.length:Int) by omega,wrapN (n:=K+1) (by omega),show (K:Int)+1=((K+1:Nat):Int) from rfl,zG,e3,wrap64 (n:=0-(n.natAbs:Int)) (by omega) (by omega)];rw [show 0-(n.natAbs:Int)=n by omega];rfl
     ·rw [e]
      simp only [go_sem,ya,qR,show ¬(20:Int)<(u.length:Nat) by omega,show (0:Int)<(u.length:Nat) by omega,rM CS,sd,show ¬((b:Nat):Int)=45 by omega,fb,fB,dS,e1,show ¬(9:Int)<(K:Int) by omega,wrap64 (n:=(u.length:Int)-(K:Int)) (by omega) (by omega),show ¬(10:Int)<(u.length:Int)-(K:Int) by omega,eK,e2,show (K:Int)<(u.length:Int) by omega,wrapN (n:=K+1) (by omega),show (K:Int)+1=((K+1:Nat):Int) from rfl,zG,e3];rw [show (n.natAbs:Int)=n by omega];rfl
def V3 (h:Has P L 302 zd) {v:AV} {l:List Int} (hv:bq v l) (i:Nat):aj P L 302 [v,aa i] (aa (l.getD i 0)):=by
 unfold aj;rw [aI h];by_cases hi:i<l.length
 ·simp only [go_sem,ya,zd,hv.len,show (i:Int)<l.length by omega,hv.bi hi];simp [yM,List.getElem?_eq_getElem hi]
 ·simp only [go_sem,ya,zd,hv.len,show ¬(i:Int)<l.length by omega];simp [yM,List.getElem?_eq_none (Nat.le_of_not_lt hi)]
def acP {hp:Hp} {e:Bool} {n:Nat} {cs:List AV} {tm:Env} {h:Nat} {x:X} (hx:dl tm n (some x)=some h) (hh:h<=n):
  fG hp (.sl 1) (.aE e n cs) tm none (some x)=some (.aE (e&&yz h n) h (cs.take h)):=by
 simp only [fG,hx,fB];simp [yx hh,slice];rw [show yK 0 h=true from yx (uJ _)];rfl
def Cu (h:Has P L 300 mJ) {v:AV} {l:List Int} (hv:bq v l) (hl:l.length<=20000000000):∃r,aj P L 300 [v] r/\bq r (eA l)/\shut r=r:=by
 rcases hv with ⟨rfl,h0⟩ | ⟨e,rfl⟩
 ·have:l=[]:=by simpa using h0
  subst this;refine ⟨.ab,?_,rI,rfl⟩;unfold aj;rw [aI h];simp only [go_sem,ya,mJ,OU,DM,aw,show ¬(0:Int)<0 by decide]
 ·have key:=fk (P:=P) (L:=L) (live:=[0]) (a:=DM)
   (I:=fun k st=>∃(i:Nat) (e:Bool),st=⟨[(0,.aE e i ((l.take i).map aa))],[],0,0⟩/\i<=l.length/\i=k/\eA (l.take i)=eA l)
   (Q:=fun ex st=>∃tm ct,st=⟨tm,[],ct,0⟩/\ex= .exit 0/\∃i e,af tm 0= .aE e i ((l.take i).map aa)/\i<=l.length/\l.take i=eA l) ?_
  ·have hlen:(l.map aa).length=l.length:=by simp
   rw [hlen];have jB:∃i e',aj P L 300 [.aE e l.length (l.map aa)] (.aE e' i ((l.take i).map aa))/\i<=l.length/\l.take i=eA l:=by
    unfold aj;rw [aI h];simp only [go_sem,mJ];generalize hq:D P L (.loop [0] DM) _=q;obtain ⟨ex,st,rfl,tm,ct,rfl,rfl,i,e',h2,h3,h4⟩:=bD hq (key l.length) ⟨l.length,e,by simp only [go_sem,ya,aw,xJ],yq _,rfl,by rw [xJ]⟩;simp only [go_sem,aw,h2];exact ⟨i,e',rfl,h3,h4⟩
   obtain ⟨i,e',g1,g2,g3⟩:=jB;refine ⟨_,g1,?_,rfl⟩;rw [<-g3]
   have:=kP e' (l.take i)
   rwa [yI,xt g2] at this
  ·rintro k st ⟨i,e,rfl,hi,rfl,ht⟩
   cases i with
   | zero=>
    right
    simp only [go_sem,ya,DM,show ¬(0:Int)<((0:Nat):Int) by omega];exact ⟨_,_,rfl,by simp,_,_,rfl,rfl,0,e,by simp only [go_sem,ya],uJ _,by simpa [eA] using ht⟩
   | succ i=>
    have Mw:i<l.length:=by omega
    have eI:l.take (i+1)=l.take i++[l[i]]:=yT Mw;have jG:vh i ((l.take (i+1)).map aa)=[AV.int .i64 l[i]]:=by
     rw [eI,xg,uP (by simp;omega)];rfl
    have pQ:kX 1 i (.aE e (i+1) ((l.take (i+1)).map aa))=some (.aO [AV.int .i64 l[i]]):=by
     rw [TG e _ (by omega),yh,jG]
    by_cases h0:l[i]=0
    ·left
     have mL:∀tm x,dl tm (i+1) (some x)=some i->fG [] (.sl 1) (.aE e (i+1) ((l.take (i+1)).map aa)) tm none (some x)=some (.aE (e&&yz i (i+1)) i ((l.take i).map aa)):=fun tm x hx=>by
      rw [acP hx (by omega),<-yab,List.take_take,xt (by omega)]
     simp only [go_sem,ya,DM,show (0:Int)<((i+1:Nat):Int) by omega,show ((i+1:Nat):Int)-1=(i:Int) by omega,wrapN (n:=i) (by omega),pQ,h0,mL,dS];refine ⟨_,i,rfl,by omega,i,_,by simp only [go_sem,aw]<;>rfl,by omega,rfl,?_⟩
     rw [<-ht,eI,h0,I1]
    ·right
     simp only [go_sem,ya,DM,show (0:Int)<((i+1:Nat):Int) by omega,show ((i+1:Nat):Int)-1=(i:Int) by omega,wrapN (n:=i) (by omega),pQ,h0];refine ⟨_,_,rfl,by simp,_,_,rfl,rfl,i+1,e,by simp only [go_sem,ya],by omega,?_⟩;rw [<-ht,eI,ND h0]
end
abbrev uc (n:Nat):AV:= .int .u64 (n:Int)
def bU (v:AV) (l:List Nat):Prop:=cZ v (l.map uc)
section
variable {v:AV} {l:List Nat}
def bU.len (h:bU v l) {hp:Hp}:gg hp 1 v=some (.int .i64 (l.length:Nat)):=by
 have:=cZ.len (hp:=hp) h
 grind
def bU.pu (h:bU v l):a7 v=true:=cZ.pu h
def bU.an (h:bU v l) (n:Nat) {hp:Hp}:freeze (n+1) hp v=some (v,hp):=cZ.an h n
def bU.shut (h:bU v l):VE.shut v=v:=cZ.shut h
def bU.bZ (h:bU v l):VE.bZ v=v:=cZ.bZ h
def bU.fm (h:bU v l) {hp:Hp}:result hp v=some v:=cZ.fm h
def bU.one (h:bU v l):dG v=true:=cZ.one h
def bU.bi (h:bU v l) {i:Nat} (hi:i<l.length):kX 1 i v=some (.aO (uc (l.getD i 0)::(l.map uc).drop (i+1))):=by
 have:=cZ.bi h (i:=i) (by simpa using hi)
 grind
def nX (e:Bool) (l:List Nat):bU (.aE e l.length (l.map uc)) l:=by
 have:=JC e (l.map uc)
 rwa [List.length_map] at this
def z7:bU .ab []:=rI
end
def lI {hp:Hp} {ct id o:Nat} {v:Nat} {ex:Bool} {l:List Nat} (h:o<l.length):gP hp ct id o 1 [.int .u64 (v:Int)] (some (.cells true true ex 1 (l.map uc)))=some (.az [],aT hp id (.cells true true ex 1 ((l.set o v).map uc)),ct):=by
 rw [od (by rfl) (by simp;omega) (by rfl)]
 have:over o [uc v] (l.map uc)=(l.set o v).map uc:=by
  simp only [over,yy,yO,yg];rw [List.map_set,List.set_eq_take_append_cons_drop,yA (by simpa using h)]
  simp
 rw [this];rfl
def AE {l:List Nat} {o:Nat} (h:o<l.length):vh o (l.map uc)=uc (l.getD o 0)::vh (o+1) (l.map uc):=by
 rw [yP (by simpa using h)]
 grind
def asz (n:Nat):(yf n [AV.int .u64 0]).flatten=(yf n 0).map uc:=by simp_all
def Ek (ct:Nat) {n:Nat} (h:n<=100000000000):om ct 1 8 [.int .u64 0] (some n) (some n)=some (.ak ct 0 n,.cells true true true 1 ((yf n 0).map uc)):=by
 rw [sQ (sz:=1) (by omega) (by omega) (by rfl) (by rfl),asz];rfl
def Cv (hp:Hp) {n:Nat} {l:List Nat} (h:l.length=n) (ex:Bool):kw 0 n (some (ex,1,l.map uc,hp))=some (.aE ex n (l.map uc),hp):=lP ex (by simp [h]) (by decide)
def agS {n:Nat} (h:n<18446744073709551616):IntKind.wrap .u64 (n:Int)=n:=axA (by omega) (by omega)
section
variable {P:aM} {L:Lib} {f:cG}
def lY {a b:Nat} (h:a<b):yQ a b=true:=by simp_all
def DT (h:L.pure 171=some pc) {x y c:Nat} (hx:x<18446744073709551616) (hy:y<18446744073709551616) (hc:c<=1):
  bK P L f 171 [uc x,uc y,uc c]=some (.az [uc ((x+y+c)%18446744073709551616),uc ((x+y+c)/18446744073709551616)]):=by
 rw [jL h];show (bif yK c 1&&(yQ x 18446744073709551616&&yQ y 18446744073709551616) then _ else none)=_
 rw [yx hc,lY hx,lY hy];rfl
def Us (h:L.pure 173=some BV) {x y c:Nat} (hx:x<18446744073709551616) (hy:y<18446744073709551616) (hc:c<=1):
  bK P L f 173 [uc x,uc y,uc c]=some (.az [uc ((x+18446744073709551616*2-y-c)%18446744073709551616),uc (if y+c<=x then 0 else 1)]):=by
 rw [jL h];show (bif yK c 1&&(yQ x 18446744073709551616&&yQ y 18446744073709551616) then _ else none)=_
 rw [yx hc,lY hx,lY hy];by_cases hh:y+c<=x
 ·rw [yx hh,yA hh];rfl
 ·have:yK (y+c) x=false:=by
   cases hq:yK (y+c) x with
   | false=>rfl
   | true=>exact absurd (yB hq) hh
  grind
def OY (h:L.pure 143=some sN) {x y:Nat} (hx:x<18446744073709551616) (hy:y<18446744073709551616):
  bK P L f 143 [uc x,uc y]=some (.az [uc (x*y/18446744073709551616),uc (x*y%18446744073709551616)]):=by
 rw [jL h];show (bif yQ x 18446744073709551616&&yQ y 18446744073709551616 then _ else none)=_
 rw [lY hx,lY hy];rfl
def aqp {hp:Hp} {tm:Env} {x:X} (hx:dl tm 0 (some x)=some 0):fG hp (.sl 1) .ab tm none (some x)=some .ab:=by
 simp only [fG,hx,fB]
def Cw (h:Has P L 166 Cl) {v:AV} {l:List Nat} (hv:bU v l) (hl:l.length<=100000000000):∃r,aj P L 166 [v] r/\bU r (eB l):=by
 rcases hv with ⟨rfl,h0⟩ | ⟨e,rfl⟩
 ·have:l=[]:=by simpa using h0
  subst this;refine ⟨.ab,?_,rI⟩;unfold aj;rw [aI h];simp only [go_sem,ya,Cl,OU,DJ,aw,show ¬(0:Int)<0 by decide,aqp,dS]
 ·have key:=fk (P:=P) (L:=L) (live:=[0,3]) (a:=DJ)
   (I:=fun k st=>∃(i:Nat),st=⟨[(0,.aE e l.length (l.map uc)),(3,aa i)],[],0,0⟩/\i<=l.length/\i=k/\eB (l.take i)=eB l)
   (Q:=fun ex st=>∃tm ct,st=⟨tm,[],ct,0⟩/\ex= .exit 0/\∃i:Nat,af tm 0= .aE e l.length (l.map uc)/\af tm 3=aa i/\i<=l.length/\l.take i=eB l) ?_
  ·have hlen:(l.map uc).length=l.length:=by simp
   rw [hlen];have jB:∃i e',aj P L 166 [.aE e l.length (l.map uc)] (.aE e' i ((l.take i).map uc))/\i<=l.length/\l.take i=eB l:=by
    unfold aj;rw [aI h];simp only [go_sem,ya,Cl];generalize hq:D P L (.loop [0,3] DJ) _=q;obtain ⟨ex,st,rfl,tm,ct,rfl,rfl,i,h2,h3,h4,h5⟩:=bD hq (key l.length) ⟨l.length,by simp only [go_sem,ya,aw],yq _,rfl,by rw [xJ]⟩;have mL:∀tm x,dl tm l.length (some x)=some i->fG [] (.sl 1) (.aE e l.length (l.map uc)) tm none (some x)=some (.aE (e&&yz i l.length) i ((l.map uc).take i)):=fun tm x hx=>acP hx h4
    simp only [go_sem,ya,aw,h2,h3,mL,dS];exact ⟨i,_,by rw [yab],h4,h5⟩
   obtain ⟨i,e',g1,g2,g3⟩:=jB;refine ⟨_,g1,?_⟩;rw [<-g3]
   have:=nX e' (l.take i)
   rwa [yI,xt g2] at this
  ·rintro k st ⟨i,rfl,hi,rfl,ht⟩
   cases i with
   | zero=>
    right
    simp only [go_sem,ya,DJ,show ¬(0:Int)<((0:Nat):Int) by omega];exact ⟨_,_,rfl,by simp,_,_,rfl,rfl,0,by simp only [go_sem,ya],by simp only [go_sem,ya],uJ _,by simpa [eB] using ht⟩
   | succ i=>
    have Mw:i<l.length:=by omega
    have eI:l.take (i+1)=l.take i++[l[i]]:=yT Mw;have pQ:=(nX e l).bi Mw;rw [<-gd Mw] at pQ;by_cases h0:l[i]=0
    ·left
     simp only [go_sem,ya,DJ,show (0:Int)<((i+1:Nat):Int) by omega,show ((i+1:Nat):Int)-1=(i:Int) by omega,wrapN (n:=i) (by omega),pQ,show ((l[i]:Nat):Int)=0 by omega];refine ⟨_,i,rfl,by omega,i,by simp only [go_sem,ya,aw],by omega,rfl,?_⟩;rw [<-ht,eI,h0,NE]
    ·right
     simp only [go_sem,ya,DJ,show (0:Int)<((i+1:Nat):Int) by omega,show ((i+1:Nat):Int)-1=(i:Int) by omega,wrapN (n:=i) (by omega),pQ,show ¬((l[i]:Nat):Int)=0 by omega];refine ⟨_,_,rfl,by simp,_,_,rfl,rfl,i+1,by simp only [go_sem,ya],by simp only [go_sem,ya],by omega,?_⟩;rw [<-ht,eI,Fq h0]
end
def NG (p b s:Nat):p*(s%b)+p*b*(s/b)=p*s:=by
 rw [xx,<-xK,tL]
def aog {b:Nat} {x y out:List Nat} {i c:Nat} (hi:i<out.length) (hz:out.getD i 0=0) (hv:bv b out+b^i*c=bv b (x.take i)+bv b (y.take i)):
  bv b (out.set i ((x.getD i 0+y.getD i 0+c)%b))+b^(i+1)*((x.getD i 0+y.getD i 0+c)/b)=bv b (x.take (i+1))+bv b (y.take (i+1)):=by
 have h1:=ph (b:=b) (x:=(x.getD i 0+y.getD i 0+c)%b) hi;have h2:=NG (b^i) b (x.getD i 0+y.getD i 0+c);rw [hz,xM,y7] at h1;rw [jP,jP,xi,h1]
 grind
def aoh {b:Nat} {x y out:List Nat} {i c z c':Nat} (hi:i<out.length) (hz:out.getD i 0=0) (hs:z+y.getD i 0+c=x.getD i 0+b*c') (hv:bv b out+bv b (y.take i)=bv b (x.take i)+b^i*c):
  bv b (out.set i z)+bv b (y.take (i+1))=bv b (x.take (i+1))+b^(i+1)*c':=by
 have h1:=ph (b:=b) (x:=z) hi;rw [hz,xM,y7] at h1;rw [jP,jP,xi,h1]
 grind
section
variable {P:aM} {L:Lib}
def ah3 (h:Has P L 158 GJ) {v w:AV} {x y:List Nat} (hv:bU v x) (hw:bU w y) (hx:lo 18446744073709551616 x) (hy:lo 18446744073709551616 y) (nx:im x) (ny:im y) (lx:x.length<=100000000000) (ly:y.length<=100000000000):
  aj P L 158 [v,w] (aa (dY (bv 18446744073709551616 x) (bv 18446744073709551616 y))):=by
 unfold aj;rw [aI h];by_cases hlen:x.length=y.length
 ·have key:=fk (P:=P) (L:=L) (live:=[0,1,5]) (a:=DI)
   (I:=fun k st=>∃j:Nat,st=⟨[(0,v),(1,w),(5,aa ((j:Int)-1))],[],0,0⟩/\j<=x.length/\j=k/\x.drop j=y.drop j)
   (Q:=fun ex st=>∃tm ct,st=⟨tm,[],ct,0⟩/\((ex= .ret/\af tm 4=aa (dY (bv 18446744073709551616 x) (bv 18446744073709551616 y)))\/(ex= .exit 0/\x=y))) ?_
  ·simp only [go_sem,ya,GJ,hv.len,hw.len,show (x.length:Int)=y.length by omega];generalize hq:D P L (.loop [0,1,5] DI) _=q;obtain ⟨ex,st,rfl,tm,ct,rfl,h2⟩:=bD hq (key x.length) ⟨x.length,by
    rw [wrap64 (by omega) (by omega),hlen]
    simp only [go_sem,ya,aw,aq hv.pu,au _ hv.pu,aq hw.pu,au _ hw.pu]<;>rfl,yq _,rfl,by rw [xe (yq _),xe (by omega)]⟩
   rcases h2 with ⟨rfl,h2⟩ | ⟨rfl,h2⟩
   ·simp only [go_sem,h2]
   ·simp only [go_sem,aw];subst h2;simp [dY]
  ·rintro k st ⟨j,rfl,hj,rfl,he⟩
   cases j with
   | zero=>
    right
    simp only [go_sem,ya,DI,show ¬(0:Int)<=((0:Nat):Int)-1 by omega];exact ⟨_,_,rfl,by simp,_,_,rfl,.inr ⟨rfl,by simpa using he⟩⟩
   | succ i=>
    have h1:i<x.length:=by omega
    have h2:i<y.length:=by omega
    have Hk:=acG hx h1 h2 he;have aU:=acG hy h2 h1 he.symm;by_cases c0:x.getD i 0=y.getD i 0
    ·left
     simp only [go_sem,ya,DI,show ((i+1:Nat):Int)-1=(i:Int) by omega,show (0:Int)<=(i:Int) by omega,hv.bi h1,hw.bi h2,c0];refine ⟨_,i,rfl,by omega,i,?_,by omega,rfl,?_⟩
     ·rw [wrap64 (by omega) (by omega)];simp only [go_sem,ya,aw,aq hv.pu,au _ hv.pu,aq hw.pu,au _ hw.pu]<;>rfl
     ·rw [yP h1,yP h2,he,gd h1,gd h2,c0]
    ·by_cases c1:x.getD i 0<y.getD i 0
     ·right
      simp only [go_sem,ya,DI,show ((i+1:Nat):Int)-1=(i:Int) by omega,show (0:Int)<=(i:Int) by omega,hv.bi h1,hw.bi h2,show ¬((x.getD i 0:Nat):Int)=(y.getD i 0:Nat) by omega,show ((x.getD i 0:Nat):Int)<(y.getD i 0:Nat) by omega];refine ⟨_,_,rfl,by simp,_,_,rfl,.inl ⟨rfl,?_⟩⟩;simp only [go_sem];unfold dY;rw [yA (Hk c1)]
     ·right
      simp only [go_sem,ya,DI,show ((i+1:Nat):Int)-1=(i:Int) by omega,show (0:Int)<=(i:Int) by omega,hv.bi h1,hw.bi h2,show ¬((x.getD i 0:Nat):Int)=(y.getD i 0:Nat) by omega,show ¬((x.getD i 0:Nat):Int)<(y.getD i 0:Nat) by omega];refine ⟨_,_,rfl,by simp,_,_,rfl,.inl ⟨rfl,?_⟩⟩;simp only [go_sem];unfold dY;rw [yo (by omega),yA (by omega)]
 ·by_cases c1:x.length<y.length
  ·have:=Ow (b:=18446744073709551616) (by decide) hx ny c1
   simp only [go_sem,ya,GJ,hv.len,hw.len,show ¬(x.length:Int)=y.length by omega,show (x.length:Int)<y.length by omega];unfold dY;rw [yA this]
  ·have:=Ow (b:=18446744073709551616) (by decide) hy nx (show y.length<x.length by omega)
   simp only [go_sem,ya,GJ,hv.len,hw.len,show ¬(x.length:Int)=y.length by omega,show ¬(x.length:Int)<y.length by omega];unfold dY;rw [yo (by omega),yA this]
def aeA (ig:L.pure 171=some pc) {v w:AV} {x y:List Nat} (hv:bU v x) (hw:bU w y) (hx:lo 18446744073709551616 x) (hy:lo 18446744073709551616 y) (lx:x.length<=99999999999) (ly:y.length<=x.length) {n:Nat} (hn:n=x.length+1):
  ∀k s,(∃(i c:Nat) (out:List Nat),aG [0,1,5,6,21,22] s=⟨[(0,v),(1,w),(5,.ak 0 0 n),(6,uc c),(21,aa x.length),(22,aa i)],[(0,.cells true true true 1 (out.map uc))],1,0⟩/\i+k=x.length/\out.length=n/\c<=1/\lo 18446744073709551616 out/\
    bv 18446744073709551616 out+18446744073709551616^i*c=bv 18446744073709551616 (x.take i)+bv 18446744073709551616 (y.take i)/\(∀m,i<=m->out.getD m 0=0))->
   ∃ex s',D P L (.loop [0,1,5,6,21,22] DH) s=some (ex,s')/\∃tm c out,s'=⟨tm,[(0,.cells true true true 1 (out.map uc))],1,0⟩/\ex= .exit 0/\af tm 0=v/\af tm 5= .ak 0 0 n/\af tm 6=uc c/\out.length=n/\c<=1/\lo 18446744073709551616 out/\
    bv 18446744073709551616 out+18446744073709551616^x.length*c=bv 18446744073709551616 x+bv 18446744073709551616 y/\out.getD x.length 0=0:=by
 intro dq sq;generalize bh:aG [0,1,5,6,21,22] sq=s0;revert bh s0 sq dq;apply dj;rintro k s ⟨i,c,out,rfl,hk,hlen,hc,bj,aR,hX⟩;by_cases hi:i<x.length
 ·left
  have hz:=hX i (yq _);have lZ:=aog (x:=x) (y:=y) (show i<out.length by omega) hz aR;have gx:=iy (show 0<18446744073709551616 by decide) hx i;have gy:=iy (show 0<18446744073709551616 by decide) hy i;have e1:=DT (P:=P) (f:=D P L) ig gx gy hc;have ex:=hv.bi hi;generalize x.getD i 0=p at*
  by_cases hj:i<y.length
  ·have ey:=hw.bi hj;generalize y.getD i 0=q at*
   simp only [go_sem,ya,yh,DH,hw.len,show (i:Int)<x.length by omega,show (i:Int)<y.length by omega,ex,ey,e1,bA 0 0 (show i<n by omega),yg,lI (l:=out) (o:=i) (by omega)]
   refine ⟨_,k-1,rfl,by omega,i+1,(p+q+c)/18446744073709551616,_,?_,by omega,by simp [hlen],by omega,nf bj (x:=(p+q+c)%18446744073709551616) (i:=i) (by omega),lZ,fun m hm=>?_⟩
   ·rw [wrap64 (by omega) (by omega)];simp only [go_sem,ya,yd,aw,aq hv.pu,au _ hv.pu,aq hw.pu,au _ hw.pu]<;>rfl
   ·rw [qw (by omega)];exact hX m (by omega)
  ·have kH:y.getD i 0=0:=Uo (by omega);rw [kH] at lZ e1;rw [show (uc 0)=AV.int .u64 0 from rfl] at e1
   simp only [go_sem,ya,yh,DH,hw.len,show (i:Int)<x.length by omega,show ¬(i:Int)<y.length by omega,ex,e1,bA 0 0 (show i<n by omega),yg,lI (l:=out) (o:=i) (by omega)]
   refine ⟨_,k-1,rfl,by omega,i+1,(p+0+c)/18446744073709551616,_,?_,by omega,by simp [hlen],by omega,nf bj (x:=(p+0+c)%18446744073709551616) (i:=i) (by omega),lZ,fun m hm=>?_⟩
   ·rw [wrap64 (by omega) (by omega)];simp only [go_sem,ya,yd,aw,aq hv.pu,au _ hv.pu,aq hw.pu,au _ hw.pu]<;>rfl
   ·rw [qw (by omega)];exact hX m (by omega)
 ·right
  have:i=x.length:=by omega
  subst this;rw [xJ,yC ly] at aR;simp only [go_sem,ya,DH,show ¬(x.length:Int)<x.length by omega];exact ⟨_,_,rfl,by simp,_,c,out,rfl,rfl,by simp only [go_sem,ya],by simp only [go_sem,ya],by simp only [go_sem,ya],hlen,hc,bj,aR,hX _ (yq _)⟩
def ay4 (h:Has P L 157 K8) (nA:Has P L 166 Cl) (ig:L.pure 171=some pc) {v w:AV} {x y:List Nat} (hv:bU v x) (hw:bU w y) (hx:lo 18446744073709551616 x) (hy:lo 18446744073709551616 y) (lx:x.length<=99999999999) (ly:y.length<=99999999999):
  ∃r out,aj P L 157 [v,w] r/\bU r out/\lo 18446744073709551616 out/\im out/\bv 18446744073709551616 out=bv 18446744073709551616 x+bv 18446744073709551616 y:=by
 have fin:∀{x y o:List Nat} {n c:Nat},n=x.length+1->x.length<=99999999999->o.length=n->c<=1->lo 18446744073709551616 o->bv 18446744073709551616 o+18446744073709551616^x.length*c=bv 18446744073709551616 x+bv 18446744073709551616 y->o.getD x.length 0=0->
   ∃r,bK P L (D P L) 166 [.aE true n ((o.set x.length c).map uc)]=some r/\bU r (eB (o.set x.length c))/\lo 18446744073709551616 (eB (o.set x.length c))/\im (eB (o.set x.length c))/\bv 18446744073709551616 (eB (o.set x.length c))=bv 18446744073709551616 x+bv 18446744073709551616 y:=by
  intro x y o n c hn lx hlen hc bj aR hz;have aT:=ph (b:=18446744073709551616) (l:=o) (i:=x.length) (x:=c) (by omega);rw [hz,xM,y7,aR] at aT;have ay5:lo 18446744073709551616 (o.set x.length c):=nf bj (by omega);have hf:=nX true (o.set x.length c);rw [List.length_set,hlen] at hf;obtain ⟨r,e1,hr⟩:=Cw nA hf (by simp;omega);exact ⟨r,e1,hr,BK ay5,BJ _,by rw [BI];exact aT⟩
 by_cases hl:x.length<y.length
 ·obtain ⟨n,hn⟩:∃n,n=y.length+1:=⟨_,rfl⟩;unfold aj;rw [aI h]
  simp only [go_sem,ya,yd,K8,hv.len,hw.len,show (x.length:Int)<y.length by omega,wrapN (n:=n) (by omega),show (y.length:Int)+1=((y.length+1:Nat):Int) from rfl,<-hn,Ek (n:=n) _ (by omega)];generalize hq:D P L (.loop [0,1,5,6,21,22] DH) _=q;obtain ⟨ex,s,rfl,tm,c,o,rfl,rfl,t0,t5,t6,hlen,hc,bj,aR,hz⟩:=bD hq (aeA (P:=P) (L:=L) ig hw hv hy hx ly (by omega) hn y.length)
   ⟨0,0,yf n 0,by simp only [go_sem,ya,yd,aw,aq hv.pu,au _ hv.pu,aq hw.pu,au _ hw.pu]<;>rfl,by omega,by simp,by omega,Ga (by decide) n,by rw [Gb];simp [bv],fun m _=>Du n m⟩
  obtain ⟨r,e1,hr,f1,f2,f3⟩:=fin hn ly hlen hc bj aR hz;refine ⟨r,_,?_,hr,f1,f2,by rw [f3];omega⟩
  simp only [go_sem,ya,yh,aw,aq hw.pu,au _ hw.pu,hw.len,t0,t5,t6,bA 0 0 (show y.length<n by omega),yg,lI (l:=o) (o:=y.length) (by omega)]
  simp only [go_sem,Cv _ (n:=n) (l:=o.set y.length c) (by simp [hlen]) true,e1,hr.shut,hr.fm]
 ·obtain ⟨n,hn⟩:∃n,n=x.length+1:=⟨_,rfl⟩;unfold aj;rw [aI h]
  simp only [go_sem,ya,yd,K8,hv.len,hw.len,show ¬(x.length:Int)<y.length by omega,wrapN (n:=n) (by omega),show (x.length:Int)+1=((x.length+1:Nat):Int) from rfl,<-hn,Ek (n:=n) _ (by omega)];generalize hq:D P L (.loop [0,1,5,6,21,22] DH) _=q;obtain ⟨ex,s,rfl,tm,c,o,rfl,rfl,t0,t5,t6,hlen,hc,bj,aR,hz⟩:=bD hq (aeA (P:=P) (L:=L) ig hv hw hx hy lx (by omega) hn x.length)
   ⟨0,0,yf n 0,by simp only [go_sem,ya,yd,aw,aq hv.pu,au _ hv.pu,aq hw.pu,au _ hw.pu]<;>rfl,by omega,by simp,by omega,Ga (by decide) n,by rw [Gb];simp [bv],fun m _=>Du n m⟩
  obtain ⟨r,e1,hr,f1,f2,f3⟩:=fin hn lx hlen hc bj aR hz;refine ⟨r,_,?_,hr,f1,f2,f3⟩
  simp only [go_sem,ya,yh,aw,aq hv.pu,au _ hv.pu,hv.len,t0,t5,t6,bA 0 0 (show x.length<n by omega),yg,lI (l:=o) (o:=x.length) (by omega)]
  simp only [go_sem,Cv _ (n:=n) (l:=o.set x.length c) (by simp [hlen]) true,e1,hr.shut,hr.fm]
end
def aoi {b:Nat} {out:List Nat} {p j c t o x y Y bo ba:Nat} (ho:o=out.getD j 0) (hj:j<out.length) (ht:t=o+x*y+c) (hv:bo+p*c=ba+p*(x*Y)) (hb:bo=bv b out) (hp:p=b^j):
  bv b (out.set j (t%b))+p*b*(t/b)=ba+p*(x*(Y+0))+p*(x*y):=by
 have h1:=ph (b:=b) (x:=t%b) hj;have h2:=NG p b t
 grind
section
variable {P:aM} {L:Lib}
def Tf {x y c:Nat} (hx:x<18446744073709551616) (hy:y<18446744073709551616) (hc:c<=1):
  (x+18446744073709551616*2-y-c)%18446744073709551616+y+c=x+18446744073709551616*(if y+c<=x then 0 else 1):=by grind
def avk (zi:L.pure 173=some BV) {v w:AV} {x y:List Nat} (hv:bU v x) (hw:bU w y) (hx:lo 18446744073709551616 x) (hy:lo 18446744073709551616 y) (lx:x.length<=99999999999) (ly:y.length<=x.length) (hle:bv 18446744073709551616 y<=bv 18446744073709551616 x) {n:Nat} (hn:n=x.length):
  ∀k s,(∃(i c:Nat) (out:List Nat),aG [0,1,5,6,13,14] s=⟨[(0,v),(1,w),(5,.ak 0 0 n),(6,uc c),(13,aa x.length),(14,aa i)],[(0,.cells true true true 1 (out.map uc))],1,0⟩/\i+k=x.length/\out.length=n/\c<=1/\lo 18446744073709551616 out/\
    bv 18446744073709551616 out+bv 18446744073709551616 (y.take i)=bv 18446744073709551616 (x.take i)+18446744073709551616^i*c/\(∀m,i<=m->out.getD m 0=0))->
   ∃ex s',D P L (.loop [0,1,5,6,13,14] FT) s=some (ex,s')/\∃tm out,s'=⟨tm,[(0,.cells true true true 1 (out.map uc))],1,0⟩/\ex= .exit 0/\af tm 5= .ak 0 0 n/\out.length=n/\lo 18446744073709551616 out/\
    bv 18446744073709551616 out+bv 18446744073709551616 y=bv 18446744073709551616 x:=by
 intro dq sq;generalize bh:aG [0,1,5,6,13,14] sq=s0;revert bh s0 sq dq;apply dj;rintro k s ⟨i,c,out,rfl,hk,hlen,hc,bj,aR,hX⟩;by_cases hi:i<x.length
 ·left
  have hz:=hX i (yq _);have gx:=iy (show 0<18446744073709551616 by decide) hx i;have gy:=iy (show 0<18446744073709551616 by decide) hy i;have jb:=Tf gx gy hc;have lZ:=aoh (x:=x) (y:=y) (show i<out.length by omega) hz jb aR;have e1:=Us (P:=P) (f:=D P L) zi gx gy hc;have ex:=hv.bi hi;generalize x.getD i 0=p at*
  have fV:(if y.getD i 0+c<=p then 0 else 1)<=1:=by split<;>omega
  by_cases hj:i<y.length
  ·have ey:=hw.bi hj;generalize y.getD i 0=q at*
   generalize (if q+c<=p then 0 else 1)=c1 at*
   simp only [go_sem,ya,xj,yh,FT,hw.len,show (i:Int)<x.length by omega,show (i:Int)<y.length by omega,ex,ey,e1,bA 0 0 (show i<n by omega),yg,lI (l:=out) (o:=i) (by omega)]
   refine ⟨_,k-1,rfl,by omega,i+1,c1,_,?_,by omega,by simp [hlen],fV,nf bj (x:=(p+18446744073709551616*2-q-c)%18446744073709551616) (i:=i) (by omega),lZ,fun m hm=>?_⟩
   ·rw [wrap64 (by omega) (by omega)];simp only [go_sem,ya,yd,xj,aw,aq hv.pu,au _ hv.pu,aq hw.pu,au _ hw.pu]<;>rfl
   ·rw [qw (by omega)];exact hX m (by omega)
  ·have kH:y.getD i 0=0:=Uo (by omega);rw [kH] at lZ e1 fV;rw [show (uc 0)=AV.int .u64 0 from rfl] at e1;generalize (if 0+c<=p then 0 else 1)=c1 at*
   simp only [go_sem,ya,xj,yh,FT,hw.len,show (i:Int)<x.length by omega,show ¬(i:Int)<y.length by omega,ex,e1,bA 0 0 (show i<n by omega),yg,lI (l:=out) (o:=i) (by omega)]
   refine ⟨_,k-1,rfl,by omega,i+1,c1,_,?_,by omega,by simp [hlen],fV,nf bj (x:=(p+18446744073709551616*2-0-c)%18446744073709551616) (i:=i) (by omega),lZ,fun m hm=>?_⟩
   ·rw [wrap64 (by omega) (by omega)];simp only [go_sem,ya,yd,xj,aw,aq hv.pu,au _ hv.pu,aq hw.pu,au _ hw.pu]<;>rfl
   ·rw [qw (by omega)];exact hX m (by omega)
 ·right
  have:i=x.length:=by omega
  subst this;rw [xJ,yC ly] at aR;have aU:=nj bj;rw [hlen,hn] at aU;simp only [go_sem,ya,FT,show ¬(x.length:Int)<x.length by omega];refine ⟨_,_,rfl,by simp,_,out,rfl,rfl,by simp only [go_sem,ya],hlen,bj,?_⟩;rcases (show c=0\/c=1 by omega) with rfl | rfl
  ·omega
  ·omega
def ah4 (h:Has P L 159 PX) (nA:Has P L 166 Cl) (zi:L.pure 173=some BV) {v w:AV} {x y:List Nat} (hv:bU v x) (hw:bU w y) (hx:lo 18446744073709551616 x) (hy:lo 18446744073709551616 y) (ny:im y) (lx:x.length<=99999999999) (hle:bv 18446744073709551616 y<=bv 18446744073709551616 x):
  ∃r out,aj P L 159 [v,w] r/\bU r out/\lo 18446744073709551616 out/\im out/\bv 18446744073709551616 out+bv 18446744073709551616 y=bv 18446744073709551616 x:=by
 have ly:y.length<=x.length:=by
  by_cases hh:x.length<y.length
  ·have:=Ow (b:=18446744073709551616) (by decide) hx ny hh
   omega
  ·omega
 obtain ⟨n,hn⟩:∃n,n=x.length:=⟨_,rfl⟩;unfold aj;rw [aI h]
 simp only [go_sem,ya,yd,PX,hv.len,<-hn,Ek (n:=n) _ (by omega)];generalize hq:D P L (.loop [0,1,5,6,13,14] FT) _=q;obtain ⟨ex,s,rfl,tm,o,rfl,rfl,t5,hlen,bj,aR⟩:=bD hq (avk (P:=P) (L:=L) zi hv hw hx hy lx ly hle hn x.length)
  ⟨0,0,yf n 0,by rw [hn];simp only [go_sem,ya,yd,aw,aq hv.pu,au _ hv.pu,aq hw.pu,au _ hw.pu]<;>rfl,by omega,by simp,by omega,Ga (by decide) n,by rw [Gb];simp [bv],fun m _=>Du n m⟩
 have hf:=nX true o;rw [hlen] at hf;obtain ⟨r,e1,hr⟩:=Cw nA hf (by omega);refine ⟨r,_,?_,hr,BK bj,BJ _,by rw [BI];exact aR⟩
 simp only [go_sem,yd,aw,t5,Cv _ (n:=n) (l:=o) hlen true,e1,hr.shut,hr.fm]
def aqq {x y o c:Nat} (hx:x<18446744073709551616) (hy:y<18446744073709551616) (ho:o<18446744073709551616) (hc:c<18446744073709551616):
  o+x*y+c<18446744073709551616*18446744073709551616/\
  ((x*y%18446744073709551616+o+0)%18446744073709551616+c+0)%18446744073709551616=(o+x*y+c)%18446744073709551616/\
  x*y/18446744073709551616+(x*y%18446744073709551616+o+0)/18446744073709551616+((x*y%18446744073709551616+o+0)%18446744073709551616+c+0)/18446744073709551616=(o+x*y+c)/18446744073709551616:=by
 have h1:=xU (show x<=18446744073709551615 by omega) (show y<=18446744073709551615 by omega)
 grind
def avl (nB:L.pure 143=some sN) (ig:L.pure 171=some pc) {v w:AV} {x y:List Nat} (hv:bU v x) (hw:bU w y) (hx:lo 18446744073709551616 x) (hy:lo 18446744073709551616 y) (lx:x.length<=49999999999) (ly:y.length<=49999999999) {n i:Nat} (hn:n=x.length+y.length) (hi:i<x.length) {a:Nat} (ha:a<18446744073709551616) {bo:Nat}:
  ∀k s,(∃(j c:Nat) (out:List Nat),aG [1,5,6,7,8,20,21,22,27,28,29] s=⟨[(1,w),(5,.ak 0 0 n),(6,aa i),(7,uc a),(8,uc c),(20,v),(21,aa x.length),(22,aa i),(27,w),(28,aa y.length),(29,aa j)],[(0,.cells true true true 1 (out.map uc))],1,0⟩/\j+k=y.length/\out.length=n/\c<18446744073709551616/\lo 18446744073709551616 out/\
    bv 18446744073709551616 out+18446744073709551616^(i+j)*c=bo+18446744073709551616^i*(a*bv 18446744073709551616 (y.take j))/\(∀m,i+y.length<=m->out.getD m 0=0))->
   ∃ex s',D P L (.loop [1,5,6,7,8,20,21,22,27,28,29] JY) s=some (ex,s')/\∃tm c out,s'=⟨tm,[(0,.cells true true true 1 (out.map uc))],1,0⟩/\ex= .exit 2/\af tm 1=w/\af tm 5= .ak 0 0 n/\af tm 6=aa i/\af tm 8=uc c/\af tm 20=v/\af tm 21=aa x.length/\af tm 22=aa i/\out.length=n/\c<18446744073709551616/\lo 18446744073709551616 out/\
    bv 18446744073709551616 out+18446744073709551616^(i+y.length)*c=bo+18446744073709551616^i*(a*bv 18446744073709551616 y)/\(∀m,i+y.length<=m->out.getD m 0=0):=by
 intro dq sq;generalize bh:aG [1,5,6,7,8,20,21,22,27,28,29] sq=s0;revert bh s0 sq dq;apply dj;rintro k s ⟨j,c,out,rfl,hk,hlen,hc,bj,aR,hX⟩;by_cases hj:j<y.length
 ·left
  have jq:(0:Nat)<18446744073709551616:=by decide
  have gy:=iy jq hy j;have oJ:=iy jq bj (i+j);have ey:=hw.bi hj;have e3:=AE (l:=out) (o:=i+j) (by omega);obtain ⟨q,hq⟩:∃q,q=y.getD j 0:=⟨_,rfl⟩;obtain ⟨o,ho⟩:∃o,o=out.getD (i+j) 0:=⟨_,rfl⟩;rw [<-hq] at gy ey;rw [<-ho] at oJ e3;obtain ⟨m1,m2,m3⟩:=aqq ha gy oJ hc;have hpy:a*q<18446744073709551616*18446744073709551616:=by omega
  have f1:=OY (P:=P) (f:=D P L) nB ha gy;have f2:=DT (P:=P) (f:=D P L) ig (x:=a*q%18446744073709551616) (y:=o) (c:=0) (xH _ jq) oJ (by omega);have f3:=DT (P:=P) (f:=D P L) ig (x:=(a*q%18446744073709551616+o+0)%18446744073709551616) (y:=c) (c:=0) (xH _ jq) hc (by omega);obtain ⟨t,ht⟩:∃t,t=o+a*q+c:=⟨_,rfl⟩;have lZ:=aoi (b:=18446744073709551616) (out:=out) (p:=18446744073709551616^(i+j)) (j:=i+j) (c:=c) (t:=t) (x:=a) (y:=q) (Y:=0) (ba:=bo+18446744073709551616^i*(a*bv 18446744073709551616 (y.take j))) ho (by omega) ht (by simpa using aR) rfl rfl;rw [m2,<-ht] at f3;rw [<-ht] at m1 m3;obtain ⟨d1,gW⟩:∃d,d=(a*q%18446744073709551616+o+0)/18446744073709551616:=⟨_,rfl⟩;obtain ⟨d2,gE⟩:∃d,d=((a*q%18446744073709551616+o+0)%18446744073709551616+c+0)/18446744073709551616:=⟨_,rfl⟩;rw [<-gW] at f2 m3;rw [<-gE] at f3 m3
  rw [show (uc 0)=AV.int .u64 0 from rfl] at f2 f3;obtain ⟨h1,iH⟩:∃d,d=a*q/18446744073709551616:=⟨_,rfl⟩;rw [<-iH] at f1 m3;have oD:h1+d1<18446744073709551616:=by omega
  have A8:h1+d1+d2<18446744073709551616:=by omega
  simp only [go_sem,ya,yh,JY,show (j:Int)<y.length by omega,ey,f1,wrapN (n:=i+j) (by omega),show (i:Int)+(j:Int)=((i+j:Nat):Int) from rfl,bA 0 0 (show i+j<n by omega),yg,e3,f2,f3,show (h1:Int)+(d1:Int)=((h1+d1:Nat):Int) from rfl,agS oD,show ((h1+d1:Nat):Int)+(d2:Int)=((h1+d1+d2:Nat):Int) from rfl,agS A8,lI (l:=out) (o:=i+j) (by omega)]
  refine ⟨_,k-1,rfl,by omega,j+1,h1+d1+d2,_,?_,by omega,by simp [hlen],A8,nf bj (x:=t%18446744073709551616) (i:=i+j) (xH _ jq),?_,fun m hm=>?_⟩
  ·rw [wrap64 (by omega) (by omega)];simp only [go_sem,ya,yd,aw,aq hv.pu,au _ hv.pu,aq hw.pu,au _ hw.pu]<;>rfl
  ·rw [m3,show i+(j+1)=i+j+1 by omega,xi,jP,<-hq,xK a,xK (18446744073709551616^i)];simp only [xM,y7] at lZ;rw [lZ,wZ,<-Nat.add_assoc,xx (18446744073709551616^i),<-xx a,xO a (18446744073709551616^j),xx]
  ·rw [qw (by omega)];exact hX m hm
 ·right
  have:j=y.length:=by omega
  subst this;rw [xJ] at aR;simp only [go_sem,ya,JY,show ¬(y.length:Int)<y.length by omega];exact ⟨_,_,rfl,by simp,_,c,out,rfl,rfl,by simp only [go_sem,ya],by simp only [go_sem,ya],by simp only [go_sem,ya],by simp only [go_sem,ya],by simp only [go_sem,ya],by simp only [go_sem,ya],by simp only [go_sem,ya],hlen,hc,bj,aR,hX⟩
def avm (nB:L.pure 143=some sN) (ig:L.pure 171=some pc) {v w:AV} {x y:List Nat} (hv:bU v x) (hw:bU w y) (hx:lo 18446744073709551616 x) (hy:lo 18446744073709551616 y) (lx:x.length<=49999999999) (ly:y.length<=49999999999) {n:Nat} (hn:n=x.length+y.length):
  ∀k s,(∃(i:Nat) (out:List Nat),aG [1,5,20,21,22] s=⟨[(1,w),(5,.ak 0 0 n),(20,v),(21,aa x.length),(22,aa i)],[(0,.cells true true true 1 (out.map uc))],1,0⟩/\i+k=x.length/\out.length=n/\lo 18446744073709551616 out/\
    bv 18446744073709551616 out=bv 18446744073709551616 (x.take i)*bv 18446744073709551616 y/\(∀m,i+y.length<=m->out.getD m 0=0))->
   ∃ex s',D P L (.loop [1,5,20,21,22] JZ) s=some (ex,s')/\∃tm out,s'=⟨tm,[(0,.cells true true true 1 (out.map uc))],1,0⟩/\ex= .exit 0/\af tm 5= .ak 0 0 n/\out.length=n/\lo 18446744073709551616 out/\
    bv 18446744073709551616 out=bv 18446744073709551616 x*bv 18446744073709551616 y:=by
 intro dq sq;generalize bh:aG [1,5,20,21,22] sq=s0;revert bh s0 sq dq;apply dj;rintro k s ⟨i,out,rfl,hk,hlen,bj,aR,hX⟩;by_cases hi:i<x.length
 ·left
  have gx:=iy (show 0<18446744073709551616 by decide) hx i;have ex:=hv.bi hi;obtain ⟨a,ha⟩:∃a,a=x.getD i 0:=⟨_,rfl⟩;simp only [go_sem,ya,JZ,hw.len,show (i:Int)<x.length by omega,ex];generalize hq:D P L (.loop [1,5,6,7,8,20,21,22,27,28,29] JY) _=q;obtain ⟨ex,s,rfl,tm,c,zj,rfl,rfl,t1,t5,t6,t8,t20,t21,t22,U5,hc,ay6,U6,Lu⟩:=bD hq (avl (P:=P) (L:=L) nB ig hv hw hx hy lx ly hn hi gx (bo:=bv 18446744073709551616 out) y.length)
   ⟨0,0,out,by simp only [go_sem,ya,yd,aw,aq hv.pu,au _ hv.pu,aq hw.pu,au _ hw.pu]<;>rfl,by omega,hlen,by decide,bj,by simp [bv],hX⟩
  have hz:zj.getD (i+y.length) 0=0:=Lu _ (yq _);have aT:=ph (b:=18446744073709551616) (l:=zj) (i:=i+y.length) (x:=c) (by omega);rw [hz,xM,y7,U6] at aT
  simp only [go_sem,ya,yh,aw,t1,t5,t6,t8,t20,t21,t22,hw.len,aq hv.pu,au _ hv.pu,aq hw.pu,au _ hw.pu,wrapN (n:=i+y.length) (by omega),show (i:Int)+(y.length:Int)=((i+y.length:Nat):Int) from rfl,bA 0 0 (show i+y.length<n by omega),yg,lI (l:=zj) (o:=i+y.length) (by omega)];refine ⟨_,k-1,rfl,by omega,i+1,zj.set (i+y.length) c,?_,by omega,by simp [U5],nf ay6 hc,?_,fun m hm=>?_⟩
  ·rw [wrap64 (by omega) (by omega)];simp only [go_sem,ya,yd,aw,aq hv.pu,au _ hv.pu,aq hw.pu,au _ hw.pu]<;>rfl
  ·rw [aT,aR,jP,wS,<-ha,xx]
  ·rw [qw (by omega)];exact Lu m (by omega)
 ·right
  have:i=x.length:=by omega
  subst this;rw [xJ] at aR;simp only [go_sem,ya,JZ,show ¬(x.length:Int)<x.length by omega];exact ⟨_,_,rfl,by simp,_,out,rfl,rfl,by simp only [go_sem,ya],hlen,bj,aR⟩
def ay7 (h:Has P L 144 PU) (nA:Has P L 166 Cl) (nB:L.pure 143=some sN) (ig:L.pure 171=some pc) {v w:AV} {x y:List Nat} (hv:bU v x) (hw:bU w y) (hx:lo 18446744073709551616 x) (hy:lo 18446744073709551616 y) (lx:x.length<=49999999999) (ly:y.length<=49999999999):
  ∃r out,aj P L 144 [v,w] r/\bU r out/\lo 18446744073709551616 out/\im out/\bv 18446744073709551616 out=bv 18446744073709551616 x*bv 18446744073709551616 y:=by
 obtain ⟨n,hn⟩:∃n,n=x.length+y.length:=⟨_,rfl⟩;unfold aj;rw [aI h]
 simp only [go_sem,ya,yd,PU,hv.len,hw.len,wrapN (n:=n) (by omega),show (x.length:Int)+(y.length:Int)=((x.length+y.length:Nat):Int) from rfl,<-hn,Ek (n:=n) _ (by omega)];generalize hq:D P L (.loop [1,5,20,21,22] JZ) _=q;obtain ⟨ex,s,rfl,tm,o,rfl,rfl,t5,hlen,bj,aR⟩:=bD hq (avm (P:=P) (L:=L) nB ig hv hw hx hy lx ly hn x.length)
  ⟨0,yf n 0,by simp only [go_sem,ya,yd,aw,aq hv.pu,au _ hv.pu,aq hw.pu,au _ hw.pu]<;>rfl,by omega,by simp,Ga (by decide) n,by rw [Gb];simp [bv],fun m _=>Du n m⟩
 have hf:=nX true o;rw [hlen] at hf;obtain ⟨r,e1,hr⟩:=Cw nA hf (by omega);refine ⟨r,_,?_,hr,BK bj,BJ _,by rw [BI];exact aR⟩
 simp only [go_sem,yd,aw,t5,Cv _ (n:=n) (l:=o) hlen true,e1,hr.shut,hr.fm]
end
def Pt (n:Int):IntKind.wrap .u64 n=n%18446744073709551616:=by
 simp [IntKind.wrap,IntKind.signed,IntKind.bits]
def wrapM (n:Nat):IntKind.wrap .u64 (n:Int)=((n%18446744073709551616:Nat):Int):=by rw [Pt];omega
def qU (a b:Nat):binOp .mul (uc a) (uc b)=some (uc (a*b%18446744073709551616)):=by
 rw [acJ,<-vA,wrapM]
def Cc (a b:Nat):binOp .add (uc a) (uc b)=some (uc ((a+b)%18446744073709551616)):=by
 rw [acI,<-Int.natCast_add,wrapM]
def El {a b c:Nat} (h:(a+18446744073709551616-b)%18446744073709551616=c) (hb:b<=18446744073709551616):binOp .sub (uc a) (uc b)=some (uc c):=by
 rw [Ox,Pt]
 grind
def avn (k k':xc) (a b:Int):binOp .shl (.int k a) (.int k' b)=Dr .shl k a b:=rfl
def avo (k k':xc) (a b:Int):binOp .shr (.int k a) (.int k' b)=Dr .shr k a b:=rfl
def Lv (k:xc) (a:Nat) {s:Nat} (hs:s<=64):binOp .shl (.int .u64 (a:Int)) (.int k (s:Int))=some (uc (a*2^s%18446744073709551616)):=by
 rw [avn];simp only [Dr,yo (show ¬(s:Int)<0 by omega),wq,IntKind.bits,xt hs];rw [show ((2:Int)^s)=((2^s:Nat):Int) by simp,<-vA,wrapM]
def Lw (k:xc) (a:Nat) {s:Nat} (hs:s<=64):binOp .shr (.int .u64 (a:Int)) (.int k (s:Int))=some (uc (a/2^s)):=by
 rw [avo];simp only [Dr,yo (show ¬(s:Int)<0 by omega),wq,IntKind.bits,xt hs]
 grind
def ah5 (a:Nat):binOp .and (.int .u64 (a:Int)) (.int .u64 4294967295)=some (uc (a%4294967296)):=by
 show some (AV.int .u64 (IntKind.wrap .u64 ((xV 64 (a:Int)&&&xV 64 4294967295).toNat:Int)))=_
 rw [show xV 64 (a:Int)=uR 64 a from uS 64 a,show xV 64 4294967295=uR 64 4294967295 from rfl];rw [BitVec.toNat_and,vP,vP,show (4294967295%2^64:Nat)=2^32-1 from rfl,Nat.and_two_pow_sub_one_eq_mod,wrapM]
 grind
def XB {a b:Nat} (ha:a<18446744073709551616) (hb:b<18446744073709551616):binOp .or (.int .u64 (a:Int)) (.int .u64 (b:Int))=some (uc (a|||b)):=by
 show some (AV.int .u64 (IntKind.wrap .u64 ((xV 64 (a:Int)|||xV 64 (b:Int)).toNat:Int)))=_
 congr 2
 rw [show xV 64 (a:Int)=uR 64 a from uS 64 a,show xV 64 (b:Int)=uR 64 b from uS 64 b];rw [BitVec.toNat_or,vP,vP,yY (show a<2^64 from ha),yY (show b<2^64 from hb),wrapM]
 have:a|||b<2^64:=Nat.or_lt_two_pow ha hb
 omega
def Ut {p s c:Nat} (h:c<2^s):(p*2^s)|||c=p*2^s+c:=by
 rw [<-Nat.shiftLeft_eq,<-Nat.shiftLeft_add_eq_or_of_lt h]
def Zz:∀(f n:Nat),n<2^f->eX f n<=f/\n<2^eX f n/\(0<n->0<eX f n/\2^(eX f n-1)<=n)
 | 0,n,h=>by simp [eX];simpa using h
 | f+1,n,h=>by
  simp only [eX];by_cases h0:n=0
  ·simp_all
  ·rw [iO h0,yW];obtain ⟨h1,h2,h3⟩:=Zz f (n/2) (by omega);refine ⟨by omega,?_,fun _=>⟨by omega,?_⟩⟩
   ·grind
   ·rw [Nat.add_sub_cancel_left];by_cases hn:0<n/2
    ·obtain ⟨h4,h5⟩:=h3 hn;obtain ⟨m,hm⟩:∃m,eX f (n/2)=m+1:=⟨eX f (n/2)-1,by omega⟩
     grind
    ·have hz:n/2=0:=by omega
     have:eX f 0=0:=by cases f with
      | zero=>rfl
      | succ f=>rfl
     grind
def Tg {y:Nat} (h0:0<y) (h:y<18446744073709551616):64-eX 64 y<64/\9223372036854775808<=y*2^(64-eX 64 y)/\y*2^(64-eX 64 y)<18446744073709551616:=by
 obtain ⟨h1,h2,h3⟩:=Zz 64 y h;obtain ⟨h4,h5⟩:=h3 h0;generalize eX 64 y=k at*
 refine ⟨by omega,?_,?_⟩
 ·have:=yS (2^(64-k)) h5
  rw [<-wZ,show k-1+(64-k)=63 by omega] at this;exact this
 ·have:=wT h2 (wU (64-k))
  rw [<-wZ,show k+(64-k)=64 by omega] at this;exact this
section
variable {P:aM} {L:Lib} {f:cG}
def aeB (h:L.pure 167=some Gn) {x:Nat} (hx:x<18446744073709551616):bK P L f 167 [uc x]=some (aa (64-eX 64 x:Nat)):=by
 rw [jL h];show (bif yQ x 18446744073709551616 then _ else none)=_
 rw [lY hx];rfl
def aoj {b v1 v2 u u2 t r:Nat} (dM:v2<b) (lH:t<b) (ht:t*v1+r=u) (h:b<=r\/t*v2<=b*r+u2):t*(v1*b+v2)<=u*b+u2:=by
 have h2:t*v2<=b*r+u2:=by
  rcases h with h | h
  ·have:=xU (tp lH) (tp dM)
   have:=y8 b h
   omega
  ·exact h
 rw [xK,<-xx,<-ht,wS,xO r b];omega
def axB (n:Nat):qO (.toInt .u64) (.int .i64 (n:Int))=some (uc (n%18446744073709551616)):=by
 show some (AV.int .u64 (IntKind.wrap .u64 (n:Int)))=_
 rw [wrapM]
def Y2 {y v1 v2 u u2 q r:Nat} (hy:y=v1*4294967296+v2) (dM:v2<4294967296) (HF:0<v1) (fp:v1<4294967296) (hu:u<y) (Bf:u2<4294967296) (hq:q*v1+r=u) (hr:r<4294967296) (hQ:(u*4294967296+u2)/y<=q):
  (4294967296<=q\/4294967296*r+u2<q*v2->0<q/\(q-1)*v1+(r+v1)=u/\(u*4294967296+u2)/y<=q-1/\(4294967296<=r+v1->(u*4294967296+u2)/y=q-1))/\
  (¬4294967296<=q->q*v2<=4294967296*r+u2->(u*4294967296+u2)/y=q):=by
 have kH:0<y:=by omega
 have Rh:∀t s,t*v1+s=u->4294967296<=t->s<4294967296:=fun t s h1 h2=>by
  have:=yS v1 h2
  grind
 have aeC:∀t s,t*v1+s=u->t<4294967296->(4294967296<=s\/t*v2<=4294967296*s+u2)->(u*4294967296+u2)/y<=t->(u*4294967296+u2)/y=t:=fun t s h1 h2 h3 h4=>by
  have:=aoj dM h2 h1 h3
  rw [<-hy] at this
  have:=(Nat.le_div_iff_mul_le kH).2 this
  omega
 constructor
 ·intro h;have bh:0<q:=by
   grind
  have h1:(q-1)*v1+(r+v1)=u:=by
   obtain ⟨p,rfl⟩:∃p,q=p+1:=⟨q-1,by omega⟩
   grind
  have h2:(u*4294967296+u2)/y<=q-1:=by
   have aU:u*4294967296+u2<q*y:=by
    rcases h with h | h
    ·have h3:u*4294967296+u2<4294967296*y:=by omega
     exact yV h3 (yS y h)
    ·rw [hy,xK,<-xx,<-hq,wS,xO r];omega
   have:=(wv kH).2 aU
   omega
  exact ⟨bh,h1,h2,fun h3=>aeC _ _ h1 (by
   by_cases hb:4294967296<=q-1
   ·have:=Rh _ _ h1 hb;omega
   ·omega) (.inl h3) h2⟩
 ·intro h1 h2;exact aeC q r hq (by omega) (.inr h2) hQ
def avp {y s v1 v2 u u2 z:Nat} (hy:y=v1*4294967296+v2) (dM:v2<4294967296) (HF:0<v1) (fp:v1<4294967296) (hu:u<y) (Bf:u2<4294967296):
  ∀k st,(∃q r:Nat,aG [2,8,9,10,11,13,14,15,16] st=⟨[(2,uc y),(8,uc s),(9,uc v1),(10,uc v2),(11,uc u),(13,uc u2),(14,uc z),(15,uc q),(16,uc r)],[],0,0⟩/\q*v1+r=u/\r<4294967296/\(u*4294967296+u2)/y<=q/\q=k)->
   ∃ex st',D P L (.loop [2,8,9,10,11,13,14,15,16] BW) st=some (ex,st')/\∃tm ct,st'=⟨tm,[],ct,0⟩/\ex= .exit 0/\af tm 2=uc y/\af tm 8=uc s/\af tm 9=uc v1/\af tm 10=uc v2/\af tm 11=uc u/\af tm 13=uc u2/\af tm 14=uc z/\af tm 15=uc ((u*4294967296+u2)/y):=by
 intro dq sq;generalize bh:aG [2,8,9,10,11,13,14,15,16] sq=s0;revert bh s0 sq dq;apply dj;rintro k st ⟨q,r,rfl,hq,hr,hQ,rfl⟩;obtain ⟨g1,g2⟩:=Y2 hy dM HF fp hu Bf hq hr hQ;have hqb:q*1<=q*v1:=y8 q HF;have ay8:=yS 4294967296 (show v1<=4294967295 by omega);have pR:q<18446744073709551616:=by omega
 have Xd:=y8 4294967296 (show r<=4294967295 by omega);have e1:=qU 4294967296 r;rw [show uc 4294967296=AV.int .u64 4294967296 from rfl,yY (show 4294967296*r<18446744073709551616 by omega)] at e1;have e2:=Cc (4294967296*r) u2;rw [yY (show 4294967296*r+u2<18446744073709551616 by omega)] at e2;have e4:=Cc r v1;rw [yY (show r+v1<18446744073709551616 by omega)] at e4;by_cases hc:4294967296<=q\/4294967296*r+u2<q*v2
 ·obtain ⟨h0,h1,h2,h3⟩:=g1 hc;have e3:binOp .sub (uc q) (.int .u64 1)=some (uc (q-1)):=El (b:=1) (by omega) (by omega);by_cases hb:4294967296<=r+v1
  ·right
   have Bg:=h3 hb;rcases (show 4294967296<=q\/(¬4294967296<=q/\4294967296*r+u2<q*v2) by omega) with t1 | ⟨t1,t2⟩
   ·simp only [go_sem,ya,BW,show (4294967296:Int)<=(q:Int) by omega,e3,e4,show (4294967296:Int)<=((r+v1:Nat):Int) by omega];exact ⟨_,_,rfl,by simp,_,_,rfl,rfl,by simp only [go_sem,ya],by simp only [go_sem,ya],by simp only [go_sem,ya],by simp only [go_sem,ya],by simp only [go_sem,ya],by simp only [go_sem,ya],by simp only [go_sem,ya],by rw [Bg];simp only [go_sem,ya]⟩
   ·have XC:=xU (show q<=4294967295 by omega) (show v2<=4294967295 by omega);have e5:=qU q v2;rw [yY (show q*v2<18446744073709551616 by omega)] at e5;simp only [go_sem,ya,BW,show ¬(4294967296:Int)<=(q:Int) by omega,e5,e1,e2,show ((4294967296*r+u2:Nat):Int)<((q*v2:Nat):Int) by omega,e3,e4,show (4294967296:Int)<=((r+v1:Nat):Int) by omega];exact ⟨_,_,rfl,by simp,_,_,rfl,rfl,by simp only [go_sem,ya],by simp only [go_sem,ya],by simp only [go_sem,ya],by simp only [go_sem,ya],by simp only [go_sem,ya],by simp only [go_sem,ya],by simp only [go_sem,ya],by rw [Bg];simp only [go_sem,ya]⟩
  ·left
   rcases (show 4294967296<=q\/(¬4294967296<=q/\4294967296*r+u2<q*v2) by omega) with t1 | ⟨t1,t2⟩
   ·simp only [go_sem,ya,BW,show (4294967296:Int)<=(q:Int) by omega,e3,e4,show ¬(4294967296:Int)<=((r+v1:Nat):Int) by omega];exact ⟨_,q-1,rfl,by omega,q-1,r+v1,by simp only [go_sem,ya,aw],h1,by omega,h2,rfl⟩
   ·have XC:=xU (show q<=4294967295 by omega) (show v2<=4294967295 by omega);have e5:=qU q v2;rw [yY (show q*v2<18446744073709551616 by omega)] at e5;simp only [go_sem,ya,BW,show ¬(4294967296:Int)<=(q:Int) by omega,e5,e1,e2,show ((4294967296*r+u2:Nat):Int)<((q*v2:Nat):Int) by omega,e3,e4,show ¬(4294967296:Int)<=((r+v1:Nat):Int) by omega];exact ⟨_,q-1,rfl,by omega,q-1,r+v1,by simp only [go_sem,ya,aw],h1,by omega,h2,rfl⟩
 ·right
  have Bg:=g2 (by omega) (by omega);have e5:=qU q v2;rw [yY (show q*v2<18446744073709551616 by omega)] at e5;simp only [go_sem,ya,BW,show ¬(4294967296:Int)<=(q:Int) by omega,e5,e1,e2,show ¬((4294967296*r+u2:Nat):Int)<((q*v2:Nat):Int) by omega];exact ⟨_,_,rfl,by simp,_,_,rfl,rfl,by simp only [go_sem,ya],by simp only [go_sem,ya],by simp only [go_sem,ya],by simp only [go_sem,ya],by simp only [go_sem,ya],by simp only [go_sem,ya],by simp only [go_sem,ya],by rw [Bg];simp only [go_sem,ya]⟩
def avq {y s v1 v2 u u2 z:Nat} (hy:y=v1*4294967296+v2) (dM:v2<4294967296) (HF:0<v1) (fp:v1<4294967296) (hu:u<y) (Bf:u2<4294967296):
  ∀k st,(∃q r:Nat,aG [2,8,9,10,14,15,16,17,18] st=⟨[(2,uc y),(8,uc s),(9,uc v1),(10,uc v2),(14,uc u2),(15,uc z),(16,uc r),(17,uc u),(18,uc q)],[],0,0⟩/\q*v1+r=u/\r<4294967296/\(u*4294967296+u2)/y<=q/\q=k)->
   ∃ex st',D P L (.loop [2,8,9,10,14,15,16,17,18] BX) st=some (ex,st')/\∃tm ct,st'=⟨tm,[],ct,0⟩/\ex= .exit 2/\af tm 2=uc y/\af tm 8=uc s/\af tm 9=uc v1/\af tm 10=uc v2/\af tm 14=uc u2/\af tm 15=uc z/\af tm 17=uc u/\af tm 18=uc ((u*4294967296+u2)/y):=by
 intro dq sq;generalize bh:aG [2,8,9,10,14,15,16,17,18] sq=s0;revert bh s0 sq dq;apply dj;rintro k st ⟨q,r,rfl,hq,hr,hQ,rfl⟩;obtain ⟨g1,g2⟩:=Y2 hy dM HF fp hu Bf hq hr hQ;have hqb:q*1<=q*v1:=y8 q HF;have ay8:=yS 4294967296 (show v1<=4294967295 by omega);have pR:q<18446744073709551616:=by omega
 have Xd:=y8 4294967296 (show r<=4294967295 by omega);have e1:=qU 4294967296 r;rw [show uc 4294967296=AV.int .u64 4294967296 from rfl,yY (show 4294967296*r<18446744073709551616 by omega)] at e1;have e2:=Cc (4294967296*r) u2;rw [yY (show 4294967296*r+u2<18446744073709551616 by omega)] at e2;have e4:=Cc r v1;rw [yY (show r+v1<18446744073709551616 by omega)] at e4;by_cases hc:4294967296<=q\/4294967296*r+u2<q*v2
 ·obtain ⟨h0,h1,h2,h3⟩:=g1 hc;have e3:binOp .sub (uc q) (.int .u64 1)=some (uc (q-1)):=El (b:=1) (by omega) (by omega);by_cases hb:4294967296<=r+v1
  ·right
   have Bg:=h3 hb;rcases (show 4294967296<=q\/(¬4294967296<=q/\4294967296*r+u2<q*v2) by omega) with t1 | ⟨t1,t2⟩
   ·simp only [go_sem,ya,BX,show (4294967296:Int)<=(q:Int) by omega,e3,e4,show (4294967296:Int)<=((r+v1:Nat):Int) by omega];exact ⟨_,_,rfl,by simp,_,_,rfl,rfl,by simp only [go_sem,ya],by simp only [go_sem,ya],by simp only [go_sem,ya],by simp only [go_sem,ya],by simp only [go_sem,ya],by simp only [go_sem,ya],by simp only [go_sem,ya],by rw [Bg];simp only [go_sem,ya]⟩
   ·have XC:=xU (show q<=4294967295 by omega) (show v2<=4294967295 by omega);have e5:=qU q v2;rw [yY (show q*v2<18446744073709551616 by omega)] at e5;simp only [go_sem,ya,BX,show ¬(4294967296:Int)<=(q:Int) by omega,e5,e1,e2,show ((4294967296*r+u2:Nat):Int)<((q*v2:Nat):Int) by omega,e3,e4,show (4294967296:Int)<=((r+v1:Nat):Int) by omega];exact ⟨_,_,rfl,by simp,_,_,rfl,rfl,by simp only [go_sem,ya],by simp only [go_sem,ya],by simp only [go_sem,ya],by simp only [go_sem,ya],by simp only [go_sem,ya],by simp only [go_sem,ya],by simp only [go_sem,ya],by rw [Bg];simp only [go_sem,ya]⟩
  ·left
   rcases (show 4294967296<=q\/(¬4294967296<=q/\4294967296*r+u2<q*v2) by omega) with t1 | ⟨t1,t2⟩
   ·simp only [go_sem,ya,BX,show (4294967296:Int)<=(q:Int) by omega,e3,e4,show ¬(4294967296:Int)<=((r+v1:Nat):Int) by omega];exact ⟨_,q-1,rfl,by omega,q-1,r+v1,by simp only [go_sem,ya,aw],h1,by omega,h2,rfl⟩
   ·have XC:=xU (show q<=4294967295 by omega) (show v2<=4294967295 by omega);have e5:=qU q v2;rw [yY (show q*v2<18446744073709551616 by omega)] at e5;simp only [go_sem,ya,BX,show ¬(4294967296:Int)<=(q:Int) by omega,e5,e1,e2,show ((4294967296*r+u2:Nat):Int)<((q*v2:Nat):Int) by omega,e3,e4,show ¬(4294967296:Int)<=((r+v1:Nat):Int) by omega];exact ⟨_,q-1,rfl,by omega,q-1,r+v1,by simp only [go_sem,ya,aw],h1,by omega,h2,rfl⟩
 ·right
  have Bg:=g2 (by omega) (by omega);have e5:=qU q v2;rw [yY (show q*v2<18446744073709551616 by omega)] at e5;simp only [go_sem,ya,BX,show ¬(4294967296:Int)<=(q:Int) by omega,e5,e1,e2,show ¬((4294967296*r+u2:Nat):Int)<((q*v2:Nat):Int) by omega];exact ⟨_,_,rfl,by simp,_,_,rfl,rfl,by simp only [go_sem,ya],by simp only [go_sem,ya],by simp only [go_sem,ya],by simp only [go_sem,ya],by simp only [go_sem,ya],by simp only [go_sem,ya],by simp only [go_sem,ya],by rw [Bg];simp only [go_sem,ya]⟩
def agT (a:Nat):binOp .shr (.int .u64 (a:Int)) (.int .u64 32)=some (uc (a/4294967296)):=Lw .u64 a (s:=32) (by decide)
def ah6 (a:Nat) {b:Nat} (ha:a<18446744073709551616) (hb:0<b):binOp .quo (uc a) (uc b)=some (uc (a/b)):=by
 rw [hZ _ _ _ (by omega),Int.tdiv_eq_ediv_of_nonneg (by omega),<-Int.natCast_ediv,wrapM,yY];exact wY (vM a b) ha
def ay9 (a:Nat) {b:Nat} (hb:0<b):binOp .rem (uc a) (uc b)=some (uc (a%b)):=by
 rw [jt _ _ _ (by omega),Int.tmod_eq_emod_of_nonneg (by omega),<-Int.natCast_emod]
def aok {hi lo y s u z Y:Nat} (hs:s<64) (bj:lo<18446744073709551616) (hY:Y=y*2^s) (hu:u=hi*2^s+lo/2^(64-s)) (hz:z=lo*2^s%18446744073709551616):
  (hi*18446744073709551616+lo)*2^s=u*18446744073709551616+z:=by
 have e:18446744073709551616=2^(64-s)*2^s:=by rw [<-wZ,show 64-s+s=64 by omega]
 have h1:lo*2^s/18446744073709551616=lo/2^(64-s):=by
  rw [e,uW _ _ (wU s)]
 grind
def aap {Y q a b:Nat} (h1:a<Y) (h2:b<4294967296) (h3:q=(a*4294967296+b)/Y):q<4294967296:=by
 rw [h3];exact (wv (by omega)).2 (by omega)
def aqr {u w x z z0 z1 q0 q1 Y:Nat} (gW:q1*Y+w=u*4294967296+z1) (jc:q0*Y+x=w*4294967296+z0) (hz:z=z1*4294967296+z0):u*18446744073709551616+z=(q1*4294967296+q0)*Y+x:=by grind
def amO {q1 q0:Nat} (h1:q1<4294967296) (h0:q0<4294967296):q1*4294967296<18446744073709551616/\q1*4294967296+q0<18446744073709551616:=by omega
def ah7 (h:Has P L 165 K9) (Lx:L.pure 167=some Gn) {hi lo y:Nat} (hX:hi<y) (bj:lo<18446744073709551616) (hy:y<18446744073709551616):
  aj P L 165 [uc hi,uc lo,uc y] (.az [uc ((hi*18446744073709551616+lo)/y),uc ((hi*18446744073709551616+lo)%y)]):=by
 have kH:0<y:=by omega
 by_cases h0:hi=0
 ·subst h0;have e1:=ah6 lo bj kH;have e2:=ay9 lo kH;rw [yag,yg];unfold aj;rw [aI h];simp only [go_sem,ya,K9,show ¬(y:Int)=0 by omega,show ¬(y:Int)<=0 by omega,show ((0:Nat):Int)=0 from rfl,e1,e2];rfl
 ·obtain ⟨s,hs⟩:∃s,s=64-eX 64 y:=⟨_,rfl⟩;have hl:=aeB (P:=P) (f:=D P L) Lx hy;obtain ⟨l1,l2,l3⟩:=Tg kH hy;rw [<-hs] at hl l1 l2 l3;obtain ⟨Y,hY⟩:∃Y,Y=y*2^s:=⟨_,rfl⟩;obtain ⟨u,hu⟩:∃u,u=hi*2^s+lo/2^(64-s):=⟨_,rfl⟩;obtain ⟨z,hz⟩:∃z,z=lo*2^s%18446744073709551616:=⟨_,rfl⟩;have hdiv:=aok l1 bj hY hu hz;rw [<-hY] at l2 l3;have hp:=wU s;obtain ⟨v1,fp⟩:∃v,v=Y/4294967296:=⟨_,rfl⟩;obtain ⟨v2,dM⟩:∃v,v=Y%4294967296:=⟨_,rfl⟩;have hYv:Y=v1*4294967296+v2:=by omega
  obtain ⟨z1,jE⟩:∃v,v=z/4294967296:=⟨_,rfl⟩;obtain ⟨z0,mR⟩:∃v,v=z%4294967296:=⟨_,rfl⟩;have HG:z<18446744073709551616:=by omega
  have hhY:hi*2^s<Y:=by rw [hY];exact wT hX hp
  have jk:lo/2^(64-s)<2^s:=by
   refine (wv (wU _)).2 ?_;rw [<-wZ,show s+(64-s)=64 by omega];exact bj
  have pK:hi*2^s|||lo/2^(64-s)=u:=by rw [Ut jk,hu]
  have hN:hi*18446744073709551616+lo<y*18446744073709551616:=by
   have:=yS 18446744073709551616 (show hi+1<=y from hX)
   omega
  have XD:u<Y:=by
   have h1:=wT hN hp;rw [hdiv,Nat.mul_right_comm,<-hY] at h1;omega
  obtain ⟨q1,fK⟩:∃q,q=(u*4294967296+z1)/Y:=⟨_,rfl⟩;obtain ⟨w,hw⟩:∃q,q=(u*4294967296+z1)%Y:=⟨_,rfl⟩;obtain ⟨q0,bh⟩:∃q,q=(w*4294967296+z0)/Y:=⟨_,rfl⟩;obtain ⟨x,hx⟩:∃q,q=(w*4294967296+z0)%Y:=⟨_,rfl⟩;have Ri:w<Y:=by rw [hw];exact xH _ (by omega)
  have XE:x<Y:=by rw [hx];exact xH _ (by omega)
  have gW:=wg (u*4294967296+z1) Y;rw [<-fK,<-hw,xO] at gW;have jc:=wg (w*4294967296+z0) Y;rw [<-bh,<-hx,xO] at jc;have aza:=aap XD (show z1<4294967296 by omega) fK;have azb:=aap Ri (show z0<4294967296 by omega) bh;obtain ⟨td1,td2⟩:=amO aza azb;have GW:(hi*18446744073709551616+lo)*2^s=(q1*4294967296+q0)*Y+x:=by
   rw [hdiv];exact aqr gW jc (by omega)
  have r1:(hi*18446744073709551616+lo)/y=q1*4294967296+q0:=by
   rw [<-uW _ _ hp,GW,<-hY,xO _ Y,tM (by omega),vc XE,y7]
  have r2:x/2^s=(hi*18446744073709551616+lo)%y:=by
   have h1:x=(hi*18446744073709551616+lo)*2^s%(y*2^s):=by
    rw [GW,<-hY,xO _ Y,tN,yY XE]
   rw [h1,vY,Nat.mul_div_cancel _ hp]
  have o1:=Lv .u64 y (s:=s) (by omega);rw [<-hY,yY l3] at o1;have o2:=agT Y;rw [<-fp] at o2;have o3:=ah5 Y;rw [<-dM] at o3;have o4:=Lv .u64 hi (s:=s) (by omega);rw [yY (show hi*2^s<18446744073709551616 by omega)] at o4;have o5:binOp .sub (.int .u64 64) (uc s)=some (uc (64-s)):=El (a:=64) (by omega) (by omega);have o6:=Lw .u64 lo (s:=64-s) (by omega);have o7:=XB (a:=hi*2^s) (b:=lo/2^(64-s)) (by omega) (wY (vM _ _) bj);rw [pK] at o7;have o8:=Lv .u64 lo (s:=s) (by omega);rw [<-hz] at o8;have o9:=agT z;rw [<-jE] at o9;have o10:=ah5 z;rw [<-mR] at o10;have GX:0<v1:=by omega
  have agU:∀{a:Nat},a<Y->binOp .quo (uc a) (uc v1)=some (uc (a/v1))/\binOp .mul (uc (a/v1)) (uc v1)=some (uc (a/v1*v1))/\binOp .sub (uc a) (uc (a/v1*v1))=some (uc (a%v1)):=fun {a} ha=>by
   have h1:=wg a v1;rw [xO] at h1;have h2:=qU (a/v1) v1;generalize a/v1*v1=m at*
   rw [yY (show m<18446744073709551616 by omega)] at h2;exact ⟨ah6 a (by omega) GX,h2,El (by omega) (by omega)⟩
  obtain ⟨g1,g2,g3⟩:=agU XD;obtain ⟨g4,g5,g6⟩:=agU Ri;have first:∀{a b:Nat},b<4294967296->(a*4294967296+b)/Y<=a/v1:=fun {a b} hb=>by
   have:=R9 (b:=4294967296) (V:=Y) (v1:=v1) (v2:=v2) (vr:=0) (U:=a*4294967296+b) (u0:=0) (u1:=a) (u2:=b) (ur:=0) (p:=1) (by omega) (by omega) (by decide) hb GX
   simpa using this
  have back:∀{a b q x:Nat},a*4294967296+b=q*Y+x->x<Y->binOp .mul (uc a) (.int .u64 4294967296)=some (uc (a*4294967296%18446744073709551616))/\binOp .add (uc (a*4294967296%18446744073709551616)) (uc b)=some (uc ((a*4294967296%18446744073709551616+b)%18446744073709551616))/\
    binOp .mul (uc q) (uc Y)=some (uc (q*Y%18446744073709551616))/\binOp .sub (uc ((a*4294967296%18446744073709551616+b)%18446744073709551616)) (uc (q*Y%18446744073709551616))=some (uc x):=fun {a b q x} h1 h2=>by
   refine ⟨qU a 4294967296,Cc _ _,qU q Y,El ?_ (by omega)⟩;generalize q*Y=m at*
   omega
  obtain ⟨k1,k2,k3,k4⟩:=back gW.symm Ri;obtain ⟨k5,k6,k7,k8⟩:=back jc.symm XE;have m1:=qU q1 4294967296;rw [yY td1,show uc 4294967296=AV.int .u64 4294967296 from rfl] at m1;have m2:=Cc (q1*4294967296) q0;rw [yY td2] at m2;have m3:=Lw .u64 x (s:=s) (by omega);rw [r1,<-r2];unfold aj;rw [aI h];simp only [go_sem,ya,K9,show ¬(y:Int)=0 by omega,show ¬(y:Int)<=(hi:Int) by omega,show ¬(hi:Int)=0 by omega,hl,axB,yY (show s<18446744073709551616 by omega),o1,o2,o3,o4,o5,o6,o7,o8,o9,o10,g1,g2,g3];generalize nL:D P L (.loop [2,8,9,10,11,13,14,15,16] BW) _=qq
  obtain ⟨ex,st,rfl,tm,ct,rfl,rfl,t2,t8,t9,t10,t11,t13,t14,t15⟩:=bD nL (avp (P:=P) (L:=L) (s:=s) (z:=z0) hYv (by omega) GX (by omega) XD (show z1<4294967296 by omega) (u/v1)) ⟨u/v1,u%v1,by simp only [go_sem,ya,aw],by rw [xO];exact wg u v1,by have:=xH u GX;omega,first (by omega),rfl⟩
  rw [<-fK] at t15;simp only [go_sem,ya,aw,t2,t8,t9,t10,t11,t13,t14,t15,k1,k2,k3,k4,g4,g5,g6];generalize Em:D P L (.loop [2,8,9,10,14,15,16,17,18] BX) _=XF;obtain ⟨ex,st,rfl,rX,nM,rfl,rfl,t2,t8,t9,t10,t14,t15,t17,t18⟩:=bD Em (avq (P:=P) (L:=L) (s:=s) (z:=q1) hYv (by omega) GX (by omega) Ri (show z0<4294967296 by omega) (w/v1)) ⟨w/v1,w%v1,by simp only [go_sem,ya,aw],by rw [xO];exact wg w v1,by have:=xH w GX;omega,first (by omega),rfl⟩
  rw [<-bh] at t18;simp only [go_sem,ya,aw,t2,t8,t14,t15,t17,t18,m1,m2,k5,k6,k7,k8,m3];rfl
end
mutual
def below (n:Nat):AV->Prop
 | .ptr id _=>id<n
 | .ak id _ _=>id<n
 | .map id=>id<n
 | .it id=>id<n
 | .fn (.f _) first cap=>rO n first/\rO n cap
 | .fn (.y l) first cap=>l<n/\first=[]/\cap=[]
 | .agg cs=>rO n cs
 | .az cs=>rO n cs
 | _=>True
def rO (n:Nat):List AV->Prop
 | []=>True
 | v::r=>below n v/\rO n r
end
def rP (n:Nat):Env->Prop
 | []=>True
 | (_,v)::r=>below n v/\rP n r
def DU (n:Nat):Obj->Prop
 | .cells _ pu _ _ cs=>pu=true\/rO n cs
 | .mp _ ks vs=>rO n ks/\rO n vs
 | .si _ _=>True
 | .lp tm _ _ _ _ _=>rP n tm
def Km (b n:Nat):Hp->Prop
 | []=>True
 | (id,o)::r=>id<b/\DU n o/\Km b n r
mutual
def aaq {f:Nat->Option Nat} {n:Nat} (hf:∀x,x<n->f x=some x):∀{v:AV},below n v->b8 f v=v
 | .int _ _,_ | .bool _,_ | .dD _ _,_ | .str _,_ | .mH,_ | .aO _,_ | .ab,_ | .aE _ _ _,_ | .jy,_ | .lh,_ | .ko _ _,_ | .undef,_ | .bV _ _ _ _,_=>rfl
 | .ptr id o,h=>by simp only [b8,hf id h]
 | .ak id o k,h=>by simp only [b8,hf id h]
 | .map id,h=>by simp only [b8,hf id h]
 | .it id,h=>by simp only [b8,hf id h]
 | .fn (.y l) first cap,h=>by
  obtain ⟨h1,rfl,rfl⟩:=h;simp only [b8,hf l h1,eH]
 | .fn (.f _) first cap,h=>by
  simp only [b8,Bz hf h.1,Bz hf h.2]
 | .agg cs,h=>by simp only [below] at h;simp only [b8,Bz hf h]
 | .az cs,h=>by simp only [below] at h;simp only [b8,Bz hf h]
def Bz {f:Nat->Option Nat} {n:Nat} (hf:∀x,x<n->f x=some x):∀{vs:List AV},rO n vs->eH f vs=vs
 | [],_=>rfl
 | v::r,h=>by simp only [eH,aaq hf h.1,Bz hf h.2]
end
def Sl {f:Nat->Option Nat} {n:Nat} (hf:∀x,x<n->f x=some x):∀{tm:Env},rP n tm->fe f tm=tm
 | [],_=>rfl
 | (_,v)::r,h=>by simp only [fe,aaq hf h.1,Sl hf h.2]
def amP {f:Nat->Option Nat} {n:Nat} (hf:∀x,x<n->f x=some x):∀{o:Obj},DU n o->iT f o=o
 | .cells _ pu _ _ cs,h=>by
  cases pu with
  | true=>rfl
  | false=>simp only [DU,yN,ybN] at h;simp only [iT,yW,Bz hf h]
 | .mp _ ks vs,h=>by simp only [iT,Bz hf h.1,Bz hf h.2]
 | .si _ _,_=>rfl
 | .lp tm _ _ _ _ _,h=>by simp only [DU] at h;simp only [iT,Sl hf h]
mutual
def ZA {n:Nat}:∀{v:AV},below n v->∀x,x∈refs v->x<n
 | .int _ _,_,x,h | .bool _,_,x,h | .dD _ _,_,x,h | .str _,_,x,h | .mH,_,x,h | .aO _,_,x,h | .ab,_,x,h | .aE _ _ _,_,x,h | .jy,_,x,h | .lh,_,x,h | .ko _ _,_,x,h | .undef,_,x,h | .bV _ _ _ _,_,x,h=>by simp [refs] at h
 | .ptr id o,h,x,hx=>by simp only [refs,xu] at hx;subst hx;exact h
 | .ak id o k,h,x,hx=>by simp only [refs,xu] at hx;subst hx;exact h
 | .map id,h,x,hx=>by simp only [refs,xu] at hx;subst hx;exact h
 | .it id,h,x,hx=>by simp only [refs,xu] at hx;subst hx;exact h
 | .fn (.y l) first cap,h,x,hx=>by simp only [refs,xu] at hx;subst hx;exact h.1
 | .fn (.f _) first cap,h,x,hx=>by
  simp only [refs,xL] at hx;exact hx.elim (Bx h.1 x) (Bx h.2 x)
 | .agg cs,h,x,hx=>by simp only [below] at h;simp only [refs] at hx;exact Bx h x hx
 | .az cs,h,x,hx=>by simp only [below] at h;simp only [refs] at hx;exact Bx h x hx
def Bx {n:Nat}:∀{vs:List AV},rO n vs->∀x,x∈gG vs->x<n
 | [],_,x,h=>by simp [gG] at h
 | v::r,h,x,hx=>by
  simp only [gG,xL] at hx;exact hx.elim (ZA h.1 x) (Bx h.2 x)
end
def Sa {n:Nat}:∀{tm:Env},rP n tm->∀x,x∈et tm->x<n
 | [],_,x,h=>by simp [et] at h
 | (_,v)::r,h,x,hx=>by
  simp only [et,xL] at hx;exact hx.elim (ZA h.1 x) (Sa h.2 x)
def al8 {n:Nat}:∀{o:Obj},DU n o->∀x,x∈iR o->x<n
 | .cells _ pu _ _ cs,h,x,hx=>by
  cases pu with
  | true=>simp [iR] at hx
  | false=>simp only [DU,yN,ybN] at h;exact Bx h x hx
 | .mp _ ks vs,h,x,hx=>by
  simp only [iR,xL] at hx;exact hx.elim (Bx h.1 x) (Bx h.2 x)
 | .si _ _,_,x,hx=>by simp [iR] at hx
 | .lp tm _ _ _ _ _,h,x,hx=>by simp only [DU] at h;exact Sa h x hx
def lf (B:Nat):List (List AV)->Hp
 | []=>[]
 | cs::r=>(B+r.length,.cells true true true 1 cs)::lf B r
def D6 (B:Nat):List (List AV)->Hp->Hp
 | [],acc=>acc
 | cs::r,acc=>D6 (B+1) r ((B,.cells true true true 1 cs)::acc)
def ZB:∀(l:List (List AV)) (B:Nat) (x:List AV) (acc:Hp),D6 B (l++[x]) acc=(B+l.length,.cells true true true 1 x)::D6 B l acc
 | [],B,x,acc=>rfl
 | c::l,B,x,acc=>by
  simp only [xr,D6,ZB l,yy]
  grind
def aar (B:Nat) (acc:Hp):∀rs:List (List AV),D6 B rs.reverse acc=lf B rs++acc
 | []=>rfl
 | c::r=>by
  simp only [yaT,ZB,aar B acc r,yaD,lf,xr]
def aas {B:Nat} {old:Hp}:∀{rs:List (List AV)} {i:Nat} (h:i<rs.length),ao (lf B rs++old) (B+i)=some (.cells true true true 1 (rs.reverse[i]'(by simpa using h)))
 | c::r,i,h=>by
  simp only [lf,xr,yaT];by_cases hi:i=r.length
  ·subst hi;rw [ao,ve,yD]
   simp
  ·have aU:i<r.length:=by grind
   rw [ao,iO (by omega),yW,aas aU]
   grind
def DV {a b:Nat} (h:a<b):yQ a b=true:=by simp_all
def Kn {a b:Nat} (h:b<=a):yQ a b=false:=by
 cases hq:yQ a b with
 | false=>rfl
 | true=>have:=yB hq;omega
def R1 {B:Nat} {old:Hp}:∀rs:List (List AV),jN B (lf B rs++old)=jN B old
 | []=>rfl
 | c::r=>by
  simp only [lf,xr];rw [jN,Kn (by omega),yW,R1 r]
def ZC {B:Nat} {old:Hp} {f:Nat->Option Nat}:∀rs:List (List AV),ni B f (lf B rs++old)=ni B f old
 | []=>rfl
 | c::r=>by
  simp only [lf,xr];rw [ni,Kn (by omega),yW,ZC r]
def Y3 {B n:Nat} {f:Nat->Option Nat} (hf:∀x,x<n->f x=some x):∀{old:Hp},Km B n old->ni B f old=old
 | [],_=>rfl
 | (id,o)::r,h=>by
  rw [ni,DV h.1,yD,amP hf h.2.1,Y3 hf h.2.2]
def amQ {B s x:Nat} (h:B+s<=x):jR x (wo B s)=false:=by
 induction s generalizing B with
 | zero=>rfl
 | succ s ih=>rw [vT,jR,iO (by omega),yW,ih (by omega)]
def Sm {hp:Hp} {B R:Nat} (mc:∀i,i<R->∃rw ex sz cs,ao hp (B+i)=some (.cells rw true ex sz cs)):
  ∀(W:List Nat) (bt s:Nat),W.length<bt->s<=R->W.filter (fun x=> !yQ x B)=wo (B+s) (R-s)->reach hp B bt W (wo B s)=wo B R
 | [],0,s,hf,_,_=>by simp at hf
 | [],bt+1,s,hf,hs,h=>by
  have:R-s=0:=by
   grind
  rw [reach,show R=s by omega]
 | id::W,0,s,hf,_,_=>by simp at hf
 | id::W,bt+1,s,hf,hs,h=>by
  have re:W.length<bt:=by simp_all
  rw [reach];by_cases hid:id<B
  ·rw [DV hid,Bool.true_or,yD];rw [ybe,DV hid] at h;exact Sm mc W bt s re hs (by simpa using h)
  ·rw [ybe,Kn (by omega)] at h;have hRs:R-s=(R-s-1)+1:=by
    have:=congrArg List.length h
    grind
   rw [hRs,vT] at h;injection h with h1 h2
   subst h1;rw [Kn (by omega),Bool.false_or,amQ (yq _),yW];obtain ⟨rw,ex,sz,cs,ho⟩:=mc s (by omega);simp only [ho,iR,yD,xp];have e:wo B s++[B+s]=wo B (s+1):=by rw [List.range'_concat];simp
   rw [e];exact Sm mc W bt (s+1) re (by omega) (by rw [h2,show R-s-1=R-(s+1) by omega,show B+s+1=B+(s+1) by omega])
def amR {B s i k:Nat} (h:i<s):dc (B+i) (wo B s) k=some (k+i):=by
 induction s generalizing B i k with
 | zero=>omega
 | succ s ih=>
  rw [vT,dc];by_cases hi:i=0
  ·simp_all
  ·rw [iO (by omega),yW]
   have:=ih (B:=B+1) (i:=i-1) (k:=k+1) (by omega)
   grind
def al9 {B R x:Nat} (h:x<B+R):lS B (wo B R) x=some x:=by
 unfold lS;by_cases hx:x<B
 ·rw [DV hx,yD]
 ·rw [Kn (by omega),yW]
  have:=amR (B:=B) (s:=R) (i:=x-B) (k:=B) (by omega)
  grind
def ZD {hp:Hp} {f:Nat->Option Nat}:∀(ro:List (List AV)) (B:Nat) (acc:Hp),(∀i (h:i<ro.length),ao hp (B+i)=some (.cells true true true 1 ro[i]))->iz hp f (wo B ro.length) B acc=D6 B ro acc
 | [],B,acc,_=>rfl
 | c::r,B,acc,h=>by
  have h0:=h 0 (by simp);simp only [y7,List.getElem_cons_zero] at h0;rw [yy,vT,iz];simp only [h0,iT,yD,D6]
  exact ZD r (B+1) _ (fun i hi=>by
   have:=h (i+1) (by simpa using hi)
   rw [show B+1+i=B+(i+1) by omega,this]
   simp)
def alH {live:List Nat} {tm:Env} {B ct:Nat} {old:Hp} {rs:List (List AV)} (ht:rP B (bP tm live)) (ho:Km B (B+rs.length) old) (hl:(et (bP tm live)).length+(jN B old).length<100000)
  (hr:(jN B old).filter (fun x=> !yQ x B)=wo B rs.length):aG live ⟨tm,lf B rs++old,ct,B⟩=⟨bP tm live,lf B rs++old,B+rs.length,B⟩:=by
 have mc:∀i (h:i<rs.length),ao (lf B rs++old) (B+i)=some (.cells true true true 1 (rs.reverse[i]'(by simpa using h))):=fun i h=>aas h
 have ae3:reach (lf B rs++old) B 100000 (et (bP tm live)++jN B (lf B rs++old)) []=wo B rs.length:=by
  have:=Sm (hp:=lf B rs++old) (B:=B) (R:=rs.length) (fun i hi=>⟨_,_,_,_,mc i hi⟩) (et (bP tm live)++jN B (lf B rs++old)) 100000 0 (by rw [R1,yG];exact hl) (uJ _) (by
   rw [List.filter_append,R1,hr,yak.2 (fun x hx=>by
    have:=Sa ht x hx
    simp [DV this])]
   simp)
  grind
 have hid:∀x,x<B+rs.length->lS B (wo B rs.length) x=some x:=fun x hx=>al9 hx
 have hn:=ZD (hp:=lf B rs++old) (f:=lS B (wo B rs.length)) rs.reverse B old (fun i hi=>mc i (by simpa using hi));rw [yaD] at hn;simp only [aG,ae3,ZC,Y3 hid ho,hn,aar,List.length_range']
 rw [Sl (n:=B) (fun x hx=>hid x (by omega)) ht]
def ZE {B b n:Nat} (hb:b<=B):∀{H:Hp},Km b n H->∀x,x∈jN B H->x<n
 | [],_,x,hx=>by simp [jN] at hx
 | (id,o)::r,h,x,hx=>by
  rw [jN,DV (by have:=h.1;omega),yD,xL] at hx;exact hx.elim (al8 h.2.1 x) (ZE hb h.2.2 x)
def Y4 {live:List Nat} {tm:Env} {B ct:Nat} {old:Hp} (ht:rP B (bP tm live)) (ho:Km B B old) (hl:(et (bP tm live)).length+(jN B old).length<100000):
  aG live ⟨tm,old,ct,B⟩=⟨bP tm live,old,B,B⟩:=by
 have:=alH (rs:=[]) (ct:=ct) ht (by simpa using ho) hl (by
  rw [yak.2 (fun x hx=>by have:=ZE (yq B) ho x hx;simp [DV this])]
  rfl)
 simpa [lf] using this
section
variable {P:aM} {L:Lib}
def JG {n:Nat} {F:av} (h:Has P L n F) {hp:Hp} {ct:Nat} {ax:List AV} {ex:Ex} {s:St} {v:AV} (hD:D P L F.body ⟨dN 0 ax,hp,ct,ct⟩=some (ex,s)) (he:ex= .normal\/ex= .ret) (hr:jr s F.fm=some v):
  ix P L (D P L) hp ct n ax=some (v,s.hp,s.ct):=by
 simp only [ix,h.heap,h.code,hD]
 grind
mutual
def rF {n:Nat}:∀{v:AV},a7 v=true->below n v
 | .int _ _,_ | .bool _,_ | .dD _ _,_ | .str _,_ | .mH,_ | .aO _,_ | .ab,_ | .aE _ _ _,_ | .jy,_ | .lh,_ | .ko _ _,_ | .undef,_=>trivial
 | .bV _ _ _ _,_=>trivial
 | .ptr _ _,h | .ak _ _ _,h | .map _,h | .it _,h=>by simp [a7] at h
 | .fn (.y _) _ _,h=>by simp [a7] at h
 | .fn (.f _) _ _,h=>by
  simp only [a7,yi] at h;exact ⟨IW h.1,IW h.2⟩
 | .agg cs,h=>by simp only [a7] at h;simp only [below];exact IW h
 | .az cs,h=>by simp only [a7] at h;simp only [below];exact IW h
def IW {n:Nat}:∀{vs:List AV},aH vs=true->rO n vs
 | [],_=>trivial
 | _::_,h=>by
  simp only [aH,yi] at h;exact ⟨rF h.1,IW h.2⟩
end
end
section
variable {pre x post:List Nat} {i:Nat}
def qB:(pre++x++post).length=pre.length+x.length+post.length:=by grind
def Dw (h:i<x.length):(pre++x++post).getD (pre.length+i) 0=x.getD i 0:=by grind
def OB (a:Nat) (h:i<x.length):(pre++x++post).set (pre.length+i) a=pre++x.set i a++post:=by simp_all
end
def nh (n:Nat) (k:xc) (a:Int):below n (.int k a)=True:=rfl
def n5 (n id o k:Nat):below n (.ak id o k)=(id<n):=rfl
def mW (n:Nat):rP n []=True:=rfl
def mV (n i:Nat) (v:AV) (r:Env):rP n ((i,v)::r)=(below n v/\rP n r):=rfl
def rK {live:List Nat} {tm:Env} {ct:Nat} {a b:List AV} (ht:rP 2 (bP tm live)) (hl:(et (bP tm live)).length<100000):
  aG live ⟨tm,[(1,.cells true true true 1 a),(0,.cells true true true 1 b)],ct,2⟩=⟨bP tm live,[(1,.cells true true true 1 a),(0,.cells true true true 1 b)],2,2⟩:=
 Y4 ht ⟨by omega,.inl rfl,by omega,.inl rfl,trivial⟩ (by
  have:jN 2 [(1,Obj.cells true true true 1 a),(0,Obj.cells true true true 1 b)]=[]:=rfl
  rw [this,yO,y7];exact hl)
section
variable {P:aM} {L:Lib}
def amS {x s c:Nat} (hs:s<64) (hx:x<18446744073709551616) (hc:c<2^s):
  c|||(x*2^s%18446744073709551616)<18446744073709551616/\c<18446744073709551616/\x/2^(64-s)<2^s/\(c|||(x*2^s%18446744073709551616))+18446744073709551616*(x/2^(64-s))=x*2^s+c:=by
 have e:18446744073709551616=2^(64-s)*2^s:=by rw [<-wZ,show 64-s+s=64 by omega]
 have h1:x*2^s%18446744073709551616=(x%2^(64-s))*2^s:=by rw [e,vY]
 have h2:x/2^(64-s)<2^s:=by
  refine (wv (wU _)).2 ?_
  grind
 have h3:c|||(x*2^s%18446744073709551616)=(x%2^(64-s))*2^s+c:=by rw [h1,ycc,Ut hc]
 have h4:(x%2^(64-s))*2^s+c<18446744073709551616:=by
  have:=yS (2^s) (show x%2^(64-s)+1<=2^(64-s) from xH _ (wU _))
  grind
 have h5:=tL x (2^(64-s))
 grind
def avr {v:AV} {w:List Nat} (hv:bU v w) (hw:lo 18446744073709551616 w) (lw:w.length<=99999999999) {s n:Nat} (hs:s<64) (hn:n=w.length+1):
  ∀k st,(∃(i:Nat) (out:List Nat),aG [1,5,12,13,14] st=⟨[(1,aa s),(5,.ak 0 0 n),(12,v),(13,aa w.length),(14,aa i)],[(0,.cells true true true 1 (out.map uc))],1,0⟩/\i+k=w.length/\out.length=n/\lo 18446744073709551616 out/\bv 18446744073709551616 out=bv 18446744073709551616 (w.take i)*2^s/\out.getD i 0<2^s/\(∀m,i<m->out.getD m 0=0))->
   ∃ex st',D P L (.loop [1,5,12,13,14] FV) st=some (ex,st')/\∃tm out,st'=⟨tm,[(0,.cells true true true 1 (out.map uc))],1,0⟩/\ex= .exit 0/\af tm 5= .ak 0 0 n/\out.length=n/\lo 18446744073709551616 out/\bv 18446744073709551616 out=bv 18446744073709551616 w*2^s:=by
 intro dq sq;generalize bh:aG [1,5,12,13,14] sq=s0;revert bh s0 sq dq;apply dj;rintro k st ⟨i,out,rfl,hk,hlen,bj,aR,hc,hX⟩;by_cases hi:i<w.length
 ·left
  have gx:=iy (show 0<18446744073709551616 by decide) hw i;have ex:=hv.bi hi;have ec:=AE (l:=out) (o:=i) (by omega);have aT:=ph (b:=18446744073709551616) (l:=out) (i:=i) (x:=out.getD i 0|||(w.getD i 0*2^s%18446744073709551616)) (by omega);have hz:out.getD (i+1) 0=0:=hX _ (by omega);have eI:=jP (b:=18446744073709551616) (l:=w) i;generalize out.getD i 0=c at*
  generalize w.getD i 0=x at*
  obtain ⟨s1,s2,s3,s4⟩:=amS hs gx hc;have o1:=Lv .i64 x (s:=s) (by omega);have o2:=XB s2 (xH (x*2^s) (by decide));have o3:binOp .sub (.int .i64 64) (aa s)=some (aa (64-s:Nat)):=by
   rw [Ox,wrap64 (by omega) (by omega)];congr 2;omega
  have o4:=Lw .i64 x (s:=64-s) (by omega);generalize fV:c|||(x*2^s%18446744073709551616)=c' at*
  by_cases h0:0<s
  ·have Pu:=ph (b:=18446744073709551616) (l:=out.set i c') (i:=i+1) (x:=x/2^(64-s)) (by simp;omega);rw [qw (by omega),hz,xM,y7] at Pu;have azc:x/2^(64-s)<18446744073709551616:=wY (vM _ _) gx;generalize x/2^(64-s)=y at*
   simp only [go_sem,ya,yh,FV,show (i:Int)<w.length by omega,ex,bA 0 0 (show i<n by omega),yg,ec,o1,o2,lI (l:=out) (o:=i) (by omega),show (0:Int)<(s:Int) by omega,show (i:Int)+1=((i+1:Nat):Int) from rfl,wrapN (n:=i+1) (by omega),o3,o4,bA 0 0 (show i+1<n by omega),lI (l:=out.set i c') (o:=i+1) (by simp;omega)];refine ⟨_,k-1,rfl,by omega,i+1,(out.set i c').set (i+1) y,by simp only [go_sem,ya,yd,aw,aq hv.pu,au _ hv.pu]<;>rfl,by omega,by simp [hlen],nf (nf bj s1) azc,?_,by rw [amv (by simp;omega)];exact s3,fun m hm=>by rw [qw (by omega),qw (by omega)];exact hX m (by omega)⟩
   rw [eI,wS,Pu,<-aR,xi,xx,xx (18446744073709551616^i)];have e:=congrArg (fun t=>18446744073709551616^i*t) s4;simp only [xK] at e;generalize 18446744073709551616^i*(18446744073709551616*y)=p1 at*
   generalize 18446744073709551616^i*(x*2^s)=p2 at*
   generalize 18446744073709551616^i*c'=p3 at*
   omega
  ·have A4:s=0:=by omega
   subst A4;have mj:c=0:=by simpa using hc
   have Bh:x/2^(64-0)=0:=vc gx;rw [Bh,xM,y7,ybR,yh] at s4
   simp only [go_sem,ya,yh,FV,show (i:Int)<w.length by omega,ex,bA 0 0 (show i<n by omega),yg,ec,o1,o2,lI (l:=out) (o:=i) (by omega),show ¬(0:Int)<((0:Nat):Int) by omega,show (i:Int)+1=((i+1:Nat):Int) from rfl,wrapN (n:=i+1) (by omega)];refine ⟨_,k-1,rfl,by omega,i+1,out.set i c',by simp only [go_sem,ya,yd,aw,aq hv.pu,au _ hv.pu]<;>rfl,by omega,by simp [hlen],nf bj s1,?_,by rw [qw (by omega),hz];exact wU _,fun m hm=>by rw [qw (by omega)];exact hX m (by omega)⟩
   rw [ybR,yh] at aR ⊢;rw [eI,<-aR];rw [mj,xM,y7] at aT;rw [aT,s4,mj,y7]
 ·right
  have:i=w.length:=by omega
  subst this;rw [xJ] at aR;simp only [go_sem,ya,FV,show ¬(w.length:Int)<w.length by omega];exact ⟨_,_,rfl,by simp,_,out,rfl,rfl,by simp only [go_sem,ya],hlen,bj,aR⟩
def ah8 (h:Has P L 168 PZ) {v:AV} {w:List Nat} (hv:bU v w) (hw:lo 18446744073709551616 w) (lw:w.length<=99999999999) {s:Nat} (hs:s<64):
  ∃out,aj P L 168 [v,aa s] (.bV true 1 (w.length+1) (out.map uc))/\out.length=w.length+1/\lo 18446744073709551616 out/\bv 18446744073709551616 out=bv 18446744073709551616 w*2^s:=by
 obtain ⟨n,hn⟩:∃n,n=w.length+1:=⟨_,rfl⟩;unfold aj;rw [aI h]
 simp only [go_sem,ya,yd,PZ,hv.len,wrapN (n:=n) (by omega),show (w.length:Int)+1=((w.length+1:Nat):Int) from rfl,<-hn,Ek (n:=n) _ (by omega)];generalize hq:D P L (.loop [1,5,12,13,14] FV) _=q;obtain ⟨ex,st,rfl,tm,o,rfl,rfl,t5,hlen,bj,aR⟩:=bD hq (avr (P:=P) (L:=L) hv hw lw hs hn w.length)
  ⟨0,yf n 0,by simp only [go_sem,ya,yd,aw,aq hv.pu,au _ hv.pu]<;>rfl,by omega,by simp,Ga (by decide) n,by rw [Gb];simp [bv],by rw [Du];exact wU _,fun m _=>Du n m⟩
 refine ⟨o,?_,hlen,bj,aR⟩;simp only [go_sem,yd,aw,t5];exact p9 (ej _ _ _) (by simp [hlen]) (by decide)
end
abbrev H2 (a b:List Nat):Hp:=[(1,.cells true true true 1 (a.map uc)),(0,.cells true true true 1 (b.map uc))]
structure iD (x vs:List Nat) (n v1 v2 u0 u1 u2:Nat):Prop where
 n2:2<=n
 nb:n<=99999999999
 lx:x.length=n+1
 lv:vs.length=n
 gx:lo 18446744073709551616 x
 gv:lo 18446744073709551616 vs
 fp:vs.getD (n-1) 0=v1
 dM:vs.getD (n-2) 0=v2
 h0:x.getD n 0=u0
 h1:x.getD (n-1) 0=u1
 h2:x.getD (n-2) 0=u2
 pos:0<v1
 lt:bv 18446744073709551616 x<18446744073709551616*bv 18446744073709551616 vs
def axC (b p a v1 v2:Nat):a+p*v2+p*b*v1=(v1*b+v2)*p+a:=by grind
def axD (b p a v0 v1 v2:Nat):a+p*v2+p*b*v1+p*b*b*v0=((v0*b+v1)*b+v2)*p+a:=by grind
section
variable {x vs:List Nat} {n v1 v2 u0 u1 u2:Nat}
def iD.My (h:iD x vs n v1 v2 u0 u1 u2):v1<18446744073709551616:=h.fp▸iy (by decide) h.gv _
def iD.EQ (h:iD x vs n v1 v2 u0 u1 u2):v2<18446744073709551616:=h.dM▸iy (by decide) h.gv _
def iD.Mz (h:iD x vs n v1 v2 u0 u1 u2):u1<18446744073709551616:=h.h1▸iy (by decide) h.gx _
def iD.MA (h:iD x vs n v1 v2 u0 u1 u2):u2<18446744073709551616:=h.h2▸iy (by decide) h.gx _
def iD.parts (h:iD x vs n v1 v2 u0 u1 u2):∃p vr ur,bv 18446744073709551616 vs=(v1*18446744073709551616+v2)*p+vr/\vr<p/\bv 18446744073709551616 x=((u0*18446744073709551616+u1)*18446744073709551616+u2)*p+ur/\ur<p:=by
 obtain ⟨m,hm⟩:∃m,n=m+2:=⟨n-2,by have:=h.n2;omega⟩;subst hm;have e1:=jP (b:=18446744073709551616) (l:=vs) (m+1);have e2:=jP (b:=18446744073709551616) (l:=vs) m;have f0:=jP (b:=18446744073709551616) (l:=x) (m+2);have f1:=jP (b:=18446744073709551616) (l:=x) (m+1);have f2:=jP (b:=18446744073709551616) (l:=x) m;have fp:vs.getD (m+1) 0=v1:=h.fp;have dM:vs.getD m 0=v2:=h.dM;have h0:x.getD (m+2) 0=u0:=h.h0;have h1:x.getD (m+1) 0=u1:=h.h1;have h2:x.getD m 0=u2:=h.h2
 rw [yC (by have:=h.lv;omega),fp,e2,dM] at e1
 rw [yC (by have:=h.lx;omega),h0,f1,h1,f2,h2] at f0;have g1:=nj (BQ h.gv m)
 rw [yI,xt (by have:=h.lv;omega)] at g1;have g2:=nj (BQ h.gx m)
 rw [yI,xt (by have:=h.lx;omega)] at g2;refine ⟨18446744073709551616^m,_,_,?_,g1,?_,g2⟩
 ·grind
 ·grind
def iD.down (h:iD x vs n v1 v2 u0 u1 u2) {t r:Nat} (ht:t*v1+r=u0*18446744073709551616+u1) (hr:r*18446744073709551616+u2<t*v2):bv 18446744073709551616 x/bv 18446744073709551616 vs<=t-1:=by
 obtain ⟨p,vr,ur,h1,h2,h3,h4⟩:=h.parts;exact Zu h1 h3 h4 ht hr
def iD.stop (h:iD x vs n v1 v2 u0 u1 u2) {t r:Nat} (lH:t<18446744073709551616) (ht:t*v1+r=u0*18446744073709551616+u1) (hr:18446744073709551616<=r\/t*v2<=r*18446744073709551616+u2):t<=bv 18446744073709551616 x/bv 18446744073709551616 vs+1:=by
 obtain ⟨p,vr,ur,h1,h2,h3,h4⟩:=h.parts;exact aaj (by decide) h1 h2 h3 h.pos h.EQ lH ht hr
def iD.first (h:iD x vs n v1 v2 u0 u1 u2):bv 18446744073709551616 x/bv 18446744073709551616 vs<=(u0*18446744073709551616+u1)/v1:=by
 obtain ⟨p,vr,ur,h1,h2,h3,h4⟩:=h.parts;exact R9 h1 h3 h4 h.MA h.pos
def iD.top (h:iD x vs n v1 v2 u0 u1 u2):u0<=v1:=by
 obtain ⟨p,vr,ur,h1,h2,h3,h4⟩:=h.parts;exact aak h1 h3 h2 h.EQ h.lt
def iD.digit (h:iD x vs n v1 v2 u0 u1 u2):bv 18446744073709551616 x/bv 18446744073709551616 vs<18446744073709551616:=by
 refine (wv ?_).2 h.lt;rcases xB (bv 18446744073709551616 vs) with h0 | h0
 ·have:=h.lt;rw [h0] at this;simp at this
 ·exact h0
end
section
variable {P:aM} {L:Lib}
def aeD (nB:L.pure 143=some sN) (ig:L.pure 171=some pc) {w:AV} {x vs pre post qs:List Nat} (hw:bU w vs) {n v1 v2 u0 u1 u2:Nat} (hl:iD x vs n v1 v2 u0 u1 u2):
  ∀k s,(∃q r:Nat,aG [0,1,5,6,7,8] s=⟨[(0,.ak 0 pre.length (n+1)),(1,w),(5,aa n),(6,uc q),(7,uc (r%18446744073709551616)),(8,uc (r/18446744073709551616))],H2 qs (pre++x++post),2,2⟩/\q*v1+r=u0*18446744073709551616+u1/\r<2*18446744073709551616/\q<18446744073709551616/\bv 18446744073709551616 x/bv 18446744073709551616 vs<=q/\q=k)->
   ∃ex s',D P L (.loop [0,1,5,6,7,8] Ar) s=some (ex,s')/\∃tm q,s'=⟨tm,H2 qs (pre++x++post),2,2⟩/\ex= .exit 0/\af tm 0= .ak 0 pre.length (n+1)/\af tm 1=w/\af tm 5=aa n/\af tm 6=uc q/\q<18446744073709551616/\bv 18446744073709551616 x/bv 18446744073709551616 vs<=q/\q<=bv 18446744073709551616 x/bv 18446744073709551616 vs+1:=by
 intro dq sq;generalize bh:aG [0,1,5,6,7,8] sq=s0;revert bh s0 sq dq;apply dj;rintro k s ⟨q,r,rfl,hq,hr,pR,hQ,rfl⟩;have dE:=hl.n2;have rn:=hl.nb;by_cases fF:r<18446744073709551616
 ·have HH:r%18446744073709551616=r:=yY fF;have CT:r/18446744073709551616=0:=vc fF;rw [HH,CT];have GY:=hl.My;have V4:=hl.EQ;have ah9:=hl.MA;have ru:=hw.bi (i:=n-2) (by have:=hl.lv;omega);have fq:=hw.bi (i:=n-1) (by have:=hl.lv;omega);rw [hl.dM] at ru;rw [hl.fp] at fq;have zO:=AE (l:=pre++x++post) (o:=pre.length+(n-2)) (by rw [qB];have:=hl.lx;omega)
  rw [Dw (by have:=hl.lx;omega),hl.h2] at zO;have f1:=OY (P:=P) (f:=D P L) nB pR V4;have f2:=DT (P:=P) (f:=D P L) ig (x:=r) (y:=v1) (c:=0) fF GY (by omega);rw [show (uc 0)=AV.int .u64 0 from rfl] at f2;have gF:=wg (q*v2) 18446744073709551616;have bj:=xH (q*v2) (show 0<18446744073709551616 by decide);obtain ⟨H,hH⟩:∃H,H=q*v2/18446744073709551616:=⟨_,rfl⟩;obtain ⟨G,hG⟩:∃G,G=q*v2%18446744073709551616:=⟨_,rfl⟩;rw [<-hH,<-hG] at f1 gF;rw [<-hG] at bj;have Bi:(n:Int)-2=((n-2:Nat):Int):=by omega
  have rz:(n:Int)-1=((n-1:Nat):Int):=by omega
  by_cases c1:H<r
  ·right
   simp only [go_sem,ya,Ar,H2,show ((0:Nat):Int)=0 from rfl,Bi,wrapN (n:=n-2) (by omega),ru,f1,show (H:Int)<(r:Int) by omega];exact ⟨_,_,rfl,by simp,_,q,rfl,rfl,by simp only [go_sem,ya],by simp only [go_sem,ya],by simp only [go_sem,ya],by simp only [go_sem,ya],pR,hQ,hl.stop pR hq (.inr (by omega))⟩
  ·by_cases c2:H=r/\G<=u2
   ·right
    obtain ⟨c2,c3⟩:=c2
    simp only [go_sem,ya,Ar,H2,show ((0:Nat):Int)=0 from rfl,Bi,wrapN (n:=n-2) (by omega),ru,f1,show (H:Int)=(r:Int) by omega];simp only [show ¬(r:Int)<(r:Int) by omega,yv]
    simp only [go_sem,ya,yh,Bi,wrapN (n:=n-2) (by omega),bA 0 pre.length (show n-2<n+1 by omega),zO,show (G:Int)<=(u2:Int) by omega];exact ⟨_,_,rfl,by simp,_,q,rfl,rfl,by simp only [go_sem,ya],by simp only [go_sem,ya],by simp only [go_sem,ya],by simp only [go_sem,ya],pR,hQ,hl.stop pR hq (.inr (by omega))⟩
   ·left
    have Hk:r*18446744073709551616+u2<q*v2:=by omega
    have bh:0<q:=by
     rcases xB q with h0 | h0
     ·subst h0;omega
     ·exact h0
    have e3:binOp .sub (uc q) (.int .u64 1)=some (uc (q-1)):=El (b:=1) (by omega) (by omega);have h1:(q-1)*v1+(r+v1)=u0*18446744073709551616+u1:=by
     obtain ⟨p,rfl⟩:∃p,q=p+1:=⟨q-1,by omega⟩;rw [wS,Nat.one_mul] at hq;rw [tS];omega
    have ER:=hl.down hq Hk;rw [y7] at f2;by_cases c3:H=r
    ·have c4:¬G<=u2:=fun h=>c2 ⟨c3,h⟩
     subst c3
     simp only [go_sem,ya,xj,yh,Ar,H2,show ((0:Nat):Int)=0 from rfl,Bi,rz,wrapN (n:=n-2) (by omega),wrapN (n:=n-1) (by omega),ru,fq,f1,f2,show ¬(H:Int)<(H:Int) by omega,bA 0 pre.length (show n-2<n+1 by omega),zO,show ¬(G:Int)<=(u2:Int) by omega,e3];refine ⟨_,q-1,rfl,by omega,q-1,H+v1,?_,h1,by omega,by omega,ER,rfl⟩;rw [rK (by simp only [go_sem,ya,yJ,nh,n5,mW,mV,rF hw.pu,vG]) (by simp only [go_sem,ya,yd,yJ,aq hw.pu])];simp only [go_sem,ya]
    ·simp only [go_sem,ya,xj,Ar,H2,show ((0:Nat):Int)=0 from rfl,Bi,rz,wrapN (n:=n-2) (by omega),wrapN (n:=n-1) (by omega),ru,fq,f1,f2,show ¬(H:Int)<(r:Int) by omega,show ¬(H:Int)=(r:Int) by omega,e3];refine ⟨_,q-1,rfl,by omega,q-1,r+v1,?_,h1,by omega,by omega,ER,rfl⟩;rw [rK (by simp only [go_sem,ya,yJ,nh,n5,mW,mV,rF hw.pu,vG]) (by simp only [go_sem,ya,yd,yJ,aq hw.pu])];simp only [go_sem,ya]
 ·right
  have CT:r/18446744073709551616=1:=by omega
  rw [CT];simp only [go_sem,ya,Ar,H2,show ((1:Nat):Int)=1 from rfl,Int.reduceEq];exact ⟨_,_,rfl,by simp,_,q,rfl,rfl,by simp only [go_sem,ya],by simp only [go_sem,ya],by simp only [go_sem,ya],by simp only [go_sem,ya],pR,hQ,hl.stop pR hq (.inl (by omega))⟩
end
def aol {b p x y z oK c bo Bj ca q v X Y:Nat} (h1:q*v+c=b*ca+oK) (h2:z+oK+bo=x+b*Bj) (h3:Y+q*X=y+p*(c+bo)) (W:Nat) (hW:W+p*x=Y+p*z):
  W+q*(X+p*v)=y+p*b*(ca+Bj):=by grind
def aom {q v c:Nat} (hq:q<18446744073709551616) (hv:v<18446744073709551616) (hc:c<18446744073709551616):
  q*v+c=18446744073709551616*(q*v/18446744073709551616+(q*v%18446744073709551616+c+0)/18446744073709551616)+(q*v%18446744073709551616+c+0)%18446744073709551616/\
  q*v/18446744073709551616+(q*v%18446744073709551616+c+0)/18446744073709551616<18446744073709551616:=by
 have h:=xU (show q<=18446744073709551615 by omega) (show v<=18446744073709551615 by omega)
 grind
section
variable {P:aM} {L:Lib}
def avt (nB:L.pure 143=some sN) (ig:L.pure 171=some pc) (zi:L.pure 173=some BV) {w:AV} {x vs pre post qs:List Nat} (hw:bU w vs) {n:Nat} (rn:n<=99999999999) (lv:vs.length=n) (gv:lo 18446744073709551616 vs) {q:Nat} (hq:q<18446744073709551616):
  ∀k s,(∃(i c bo:Nat) (y:List Nat),aG [0,1,5,6,11,12,104,105] s=⟨[(0,.ak 0 pre.length (n+1)),(1,w),(5,aa n),(6,uc q),(11,uc bo),(12,uc c),(104,aa n),(105,aa i)],H2 qs (pre++y++post),2,2⟩/\i+k=n/\y.length=n+1/\lo 18446744073709551616 y/\c<18446744073709551616/\bo<=1/\
    bv 18446744073709551616 y+q*bv 18446744073709551616 (vs.take i)=bv 18446744073709551616 x+18446744073709551616^i*(c+bo))->
   ∃ex s',D P L (.loop [0,1,5,6,11,12,104,105] J4) s=some (ex,s')/\∃tm c bo y,s'=⟨tm,H2 qs (pre++y++post),2,2⟩/\ex= .exit 2/\af tm 0= .ak 0 pre.length (n+1)/\af tm 1=w/\af tm 5=aa n/\af tm 6=uc q/\af tm 11=uc bo/\af tm 12=uc c/\y.length=n+1/\lo 18446744073709551616 y/\c<18446744073709551616/\bo<=1/\
    bv 18446744073709551616 y+q*bv 18446744073709551616 vs=bv 18446744073709551616 x+18446744073709551616^n*(c+bo):=by
 intro dq sq;generalize bh:aG [0,1,5,6,11,12,104,105] sq=s0;revert bh s0 sq dq;apply dj;rintro k s ⟨i,c,bo,y,rfl,hk,ly,gy,hc,jH,aR⟩;by_cases hi:i<n
 ·left
  have eh:(0:Nat)<18446744073709551616:=by decide
  have sn:=iy eh gv i;have rA:=iy eh gy i;have ev:=hw.bi (i:=i) (by omega);have ey:=AE (l:=pre++y++post) (o:=pre.length+i) (by rw [qB];omega);rw [Dw (by omega)] at ey;have eI:=jP (b:=18446744073709551616) (l:=vs) i;obtain ⟨a,ha⟩:∃a,a=vs.getD i 0:=⟨_,rfl⟩;obtain ⟨d,hd⟩:∃d,d=y.getD i 0:=⟨_,rfl⟩;rw [<-ha] at sn ev eI;rw [<-hd] at rA ey;obtain ⟨m1,m2⟩:=aom hq sn hc;have f1:=OY (P:=P) (f:=D P L) nB hq sn;have f2:=DT (P:=P) (f:=D P L) ig (x:=q*a%18446744073709551616) (y:=c) (c:=0) (xH _ eh) hc (by omega);obtain ⟨oK,aia⟩:∃t,t=(q*a%18446744073709551616+c+0)%18446744073709551616:=⟨_,rfl⟩;obtain ⟨c1,eK⟩:∃t,t=(q*a%18446744073709551616+c+0)/18446744073709551616:=⟨_,rfl⟩;have aib:oK<18446744073709551616:=by rw [aia];exact xH _ eh
  rw [<-aia,<-eK] at f2 m1;rw [<-eK] at m2;obtain ⟨h1,iH⟩:∃t,t=q*a/18446744073709551616:=⟨_,rfl⟩;rw [<-iH] at f1 m1 m2;rw [show (uc 0)=AV.int .u64 0 from rfl] at f2;have f3:=Us (P:=P) (f:=D P L) zi rA aib jH;have lJ:=Tf rA aib jH;obtain ⟨z,hz⟩:∃t,t=(d+18446744073709551616*2-oK-bo)%18446744073709551616:=⟨_,rfl⟩;obtain ⟨b',cA⟩:∃t,t=(if oK+bo<=d then 0 else 1):=⟨_,rfl⟩;have nI:b'<=1:=by rw [cA];split<;>omega
  have HG:z<18446744073709551616:=by rw [hz];exact xH _ eh
  rw [<-hz,<-cA] at f3 lJ;have f4:binOp .add (uc h1) (uc c1)=some (uc (h1+c1)):=by
   rw [Cc,yY m2]
  have aT:=ph (b:=18446744073709551616) (l:=y) (i:=i) (x:=z) (by omega);rw [<-hd] at aT;have aJ:=fun (hp:Hp) (ct:Nat)=>lI (hp:=hp) (ct:=ct) (id:=0) (v:=z) (ex:=true) (l:=pre++y++post) (o:=pre.length+i) (by rw [qB];omega)
  have px:=OB (pre:=pre) (x:=y) (post:=post) (i:=i) z (by omega);simp only [go_sem,ya,yh,J4,H2,show (i:Int)<(n:Int) by omega,ev,f1,f2,f4,bA 0 pre.length (show i<n+1 by omega),ey,f3,aJ,px];refine ⟨_,k-1,rfl,by omega,i+1,h1+c1,b',y.set i z,?_,by omega,by simp [ly],nf gy HG,m2,nI,?_⟩
  ·rw [rK (by simp only [go_sem,ya,yJ,nh,n5,mW,mV,rF hw.pu,vG]) (by simp only [go_sem,ya,yd,yJ,aq hw.pu])];rw [wrap64 (by omega) (by omega)];simp only [go_sem,ya]<;>rfl
  ·rw [eI,xi];exact aol m1 lJ aR _ aT
 ·right
  have:i=n:=by omega
  subst this;rw [yC (by omega)] at aR;simp only [go_sem,ya,J4,H2,show ¬(i:Int)<(i:Int) by omega];exact ⟨_,_,rfl,by simp,_,c,bo,y,rfl,rfl,by simp only [go_sem,ya],by simp only [go_sem,ya],by simp only [go_sem,ya],by simp only [go_sem,ya],by simp only [go_sem,ya],by simp only [go_sem,ya],ly,gy,hc,jH,aR⟩
def avu (ig:L.pure 171=some pc) {w:AV} {y0 vs pre post qs:List Nat} (hw:bU w vs) {n:Nat} (rn:n<=99999999999) (lv:vs.length=n) (gv:lo 18446744073709551616 vs) {q:Nat}:
  ∀k s,(∃(i c:Nat) (y:List Nat),aG [0,1,5,6,17,156,157] s=⟨[(0,.ak 0 pre.length (n+1)),(1,w),(5,aa n),(6,uc q),(17,uc c),(156,aa n),(157,aa i)],H2 qs (pre++y++post),2,2⟩/\i+k=n/\y.length=n+1/\lo 18446744073709551616 y/\c<=1/\
    bv 18446744073709551616 y+18446744073709551616^i*c=bv 18446744073709551616 y0+bv 18446744073709551616 (vs.take i))->
   ∃ex s',D P L (.loop [0,1,5,6,17,156,157] J5) s=some (ex,s')/\∃tm c y,s'=⟨tm,H2 qs (pre++y++post),2,2⟩/\ex= .exit 4/\af tm 0= .ak 0 pre.length (n+1)/\af tm 5=aa n/\af tm 6=uc q/\af tm 17=uc c/\y.length=n+1/\lo 18446744073709551616 y/\c<=1/\
    bv 18446744073709551616 y+18446744073709551616^n*c=bv 18446744073709551616 y0+bv 18446744073709551616 vs:=by
 intro dq sq;generalize bh:aG [0,1,5,6,17,156,157] sq=s0;revert bh s0 sq dq;apply dj;rintro k s ⟨i,c,y,rfl,hk,ly,gy,hc,aR⟩;by_cases hi:i<n
 ·left
  have eh:(0:Nat)<18446744073709551616:=by decide
  have sn:=iy eh gv i;have rA:=iy eh gy i;have ev:=hw.bi (i:=i) (by omega);have ey:=AE (l:=pre++y++post) (o:=pre.length+i) (by rw [qB];omega);rw [Dw (by omega)] at ey;have eI:=jP (b:=18446744073709551616) (l:=vs) i;obtain ⟨a,ha⟩:∃a,a=vs.getD i 0:=⟨_,rfl⟩;obtain ⟨d,hd⟩:∃d,d=y.getD i 0:=⟨_,rfl⟩;rw [<-ha] at sn ev eI;rw [<-hd] at rA ey;have f1:=DT (P:=P) (f:=D P L) ig rA sn hc;have aT:=ph (b:=18446744073709551616) (l:=y) (i:=i) (x:=(d+a+c)%18446744073709551616) (by omega);rw [<-hd] at aT;have iI:=NG (18446744073709551616^i) 18446744073709551616 (d+a+c);have fV:(d+a+c)/18446744073709551616<=1:=by omega
  have HG:(d+a+c)%18446744073709551616<18446744073709551616:=xH _ eh;generalize (d+a+c)%18446744073709551616=z at*
  generalize (d+a+c)/18446744073709551616=c' at*
  have aJ:=fun (hp:Hp) (ct:Nat)=>lI (hp:=hp) (ct:=ct) (id:=0) (v:=z) (ex:=true) (l:=pre++y++post) (o:=pre.length+i) (by rw [qB];omega)
  have px:=OB (pre:=pre) (x:=y) (post:=post) (i:=i) z (by omega);simp only [go_sem,ya,yh,J5,H2,show (i:Int)<(n:Int) by omega,ev,f1,bA 0 pre.length (show i<n+1 by omega),ey,aJ,px];refine ⟨_,k-1,rfl,by omega,i+1,c',y.set i z,?_,by omega,by simp [ly],nf gy HG,fV,?_⟩
  ·rw [rK (by simp only [go_sem,ya,yJ,nh,n5,mW,mV,rF hw.pu,vG]) (by simp only [go_sem,ya,yd,yJ,aq hw.pu])];rw [wrap64 (by omega) (by omega)];simp only [go_sem,ya]<;>rfl
  ·rw [eI,xi];rw [xK,xK] at iI;omega
 ·right
  have:i=n:=by omega
  subst this;rw [yC (by omega)] at aR;simp only [go_sem,ya,J5,H2,show ¬(i:Int)<(i:Int) by omega];exact ⟨_,_,rfl,by simp,_,c,y,rfl,rfl,by simp only [go_sem,ya],by simp only [go_sem,ya],by simp only [go_sem,ya],by simp only [go_sem,ya],ly,gy,hc,aR⟩
end
def step_end {A V q Y B bo:Nat} (hV:0<V) (h:Y+q*V=A+B*bo) (h1:A/V<=q) (h2:q<=A/V+1) (hY:Y<B) (hVB:V<=B) (jH:bo<=1):
  (bo=0->q=A/V/\Y=A%V)/\(bo=1->q=A/V+1/\Y+V=B+A%V):=by
 have gF:=wg A V;have hm:=xH A hV;generalize A/V=Q at*
 have hq:q=Q\/q=Q+1:=by omega
 constructor
 ·rintro rfl;rcases hq with rfl | rfl
  ·grind
  ·grind
 ·grind
section
variable {P:aM} {L:Lib}
structure Wd (P:aM) (L:Lib):Prop where
 nB:L.pure 143=some sN
 ig:L.pure 171=some pc
 zi:L.pure 173=some BV
 Lx:L.pure 167=some Gn
 aic:Has P L 165 K9
 nA:Has P L 166 Cl
 aid:Has P L 168 PZ
 azd:Has P L 169 za
 aie:Has P L 158 GJ
 aze:Has P L 157 K8
 aif:Has P L 159 PX
 azf:Has P L 144 PU
 V5:Has P L 137 K6
def aB:VC->VC
 | .seq _ b=>b
 | c=>c
def avv (h:Wd P L) {w:AV} {x vs pre post qs:List Nat} (hw:bU w vs) {n v1 v2 u0 u1 u2:Nat} (hl:iD x vs n v1 v2 u0 u1 u2) {q:Nat} (hq:q<18446744073709551616) (fK:bv 18446744073709551616 x/bv 18446744073709551616 vs<=q) (Bk:q<=bv 18446744073709551616 x/bv 18446744073709551616 vs+1):
  ∃tm x',D P L (aB (aB (aB (aB (aB (aB za.body)))))) ⟨[(0,.ak 0 pre.length (n+1)),(1,w),(5,aa n),(6,uc q)],H2 qs (pre++x++post),2,2⟩=some (.ret,⟨tm,H2 qs (pre++x'++post),2,2⟩)/\af tm 4=uc (bv 18446744073709551616 x/bv 18446744073709551616 vs)/\x'.length=n+1/\lo 18446744073709551616 x'/\bv 18446744073709551616 x'=bv 18446744073709551616 x%bv 18446744073709551616 vs:=by
 have dE:=hl.n2;have rn:=hl.nb;have eh:(0:Nat)<18446744073709551616:=by decide
 have hV:0<bv 18446744073709551616 vs:=by
  rcases xB (bv 18446744073709551616 vs) with h0 | h0
  ·have:=hl.lt;rw [h0] at this;simp at this
  ·exact h0
 have zP:below 2 w:=rF hw.pu;have MB:=nj hl.gv;rw [hl.lv] at MB;have zk:18446744073709551616^n<=18446744073709551616^(n+1):=xh (by decide) (by omega);have aEs:aB (aB (aB (aB (aB (aB za.body)))))=aB (aB (aB (aB (aB (aB za.body))))):=rfl;simp only [go_sem,ya,za,aB,H2];generalize nL:D P L (.loop [0,1,5,6,11,12,104,105] J4) _=qq;obtain ⟨ex,s,rfl,tm,c,bo,y,rfl,rfl,t0,t1,t5,t6,t11,t12,ly,gy,hc,jH,aR⟩:=bD nL (avt (P:=P) (L:=L) h.nB h.ig h.zi hw rn hl.lv hl.gv hq (x:=x) (pre:=pre) (post:=post) (qs:=qs) n) ⟨0,0,0,x,by
  rw [rK (by simp only [go_sem,ya,yJ,nh,n5,mW,mV,zP,vG]) (by simp only [go_sem,ya,yd,yJ,aq hw.pu])]
  simp only [go_sem,ya]<;>rfl,by omega,hl.lx,hl.gx,eh,by omega,by simp [bv]⟩
 have XG:=iy eh gy n;have ey:=AE (l:=pre++y++post) (o:=pre.length+n) (by rw [qB];omega);rw [Dw (by omega)] at ey;obtain ⟨d,hd⟩:∃d,d=y.getD n 0:=⟨_,rfl⟩;rw [<-hd] at XG ey;have f3:=Us (P:=P) (f:=D P L) h.zi XG hc jH;have lJ:=Tf XG hc jH;obtain ⟨z,hz⟩:∃t,t=(d+18446744073709551616*2-c-bo)%18446744073709551616:=⟨_,rfl⟩;obtain ⟨b',cA⟩:∃t,t=(if c+bo<=d then 0 else 1):=⟨_,rfl⟩;have nI:b'<=1:=by rw [cA];split<;>omega
 have HG:z<18446744073709551616:=by rw [hz];exact xH _ eh
 rw [<-hz,<-cA] at f3 lJ;have aT:=ph (b:=18446744073709551616) (l:=y) (i:=n) (x:=z) (by omega);rw [<-hd] at aT;have aJ:=fun (hp:Hp) (ct:Nat)=>lI (hp:=hp) (ct:=ct) (id:=0) (v:=z) (ex:=true) (l:=pre++y++post) (o:=pre.length+n) (by rw [qB];omega)
 have px:=OB (pre:=pre) (x:=y) (post:=post) (i:=n) z (by omega);have ES:lo 18446744073709551616 (y.set n z):=nf gy HG;have CU:(y.set n z).length=n+1:=by simp [ly]
 have hY:=nj ES;rw [CU] at hY;have azg:bv 18446744073709551616 (y.set n z)+q*bv 18446744073709551616 vs=bv 18446744073709551616 x+18446744073709551616^(n+1)*b':=by
  have e2:=congrArg (fun t=>18446744073709551616^n*t) lJ;rw [xi,xx];simp only [xK] at e2 aR;generalize 18446744073709551616^n*(18446744073709551616*b')=p1 at*
  generalize 18446744073709551616^n*z=p2 at*
  generalize 18446744073709551616^n*d=p3 at*
  generalize 18446744073709551616^n*c=p4 at*
  generalize 18446744073709551616^n*bo=p5 at*
  omega
 obtain ⟨s0,s1⟩:=step_end hV azg fK Bk hY (by omega) nI;simp only [go_sem,ya,yd,yJ,yh,rK,nh,n5,mW,mV,zP,vG,aq hw.pu,t0,t1,t5,t6,t11,t12,bA 0 pre.length (show n<n+1 by omega),ey,f3,aJ,px];by_cases mR:b'=0
 ·obtain ⟨e1,e2⟩:=s0 mR;simp only [go_sem,ya,show (b':Int)=0 by omega];exact ⟨_,y.set n z,rfl,by rw [<-e1];simp only [go_sem],CU,ES,e2⟩
 ·obtain ⟨e1,e2⟩:=s1 (by omega);simp only [go_sem,ya,show ¬(b':Int)=0 by omega];generalize Em:D P L (.loop [0,1,5,6,17,156,157] J5) _=XF;obtain ⟨ex,s,rfl,rX,c2,y2,rfl,rfl,t0,t5,t6,t17,XH,Rj,zG,axE⟩:=bD Em (avu (P:=P) (L:=L) h.ig hw rn hl.lv hl.gv (y0:=y.set n z) (pre:=pre) (post:=post) (qs:=qs) (q:=q) n) ⟨0,0,y.set n z,by
   rw [rK (by simp only [go_sem,ya,yJ,nh,n5,mW,mV,zP,vG]) (by simp only [go_sem,ya,yd,yJ,aq hw.pu])]
   simp only [go_sem,ya]<;>rfl,by omega,CU,ES,by omega,by simp [bv]⟩
  have azh:=iy eh Rj n;have XI:=AE (l:=pre++y2++post) (o:=pre.length+n) (by rw [qB];omega);rw [Dw (by omega)] at XI;obtain ⟨d2,gE⟩:∃d,d=y2.getD n 0:=⟨_,rfl⟩;rw [<-gE] at azh XI;have f4:=Cc d2 c2;have Pu:=ph (b:=18446744073709551616) (l:=y2) (i:=n) (x:=(d2+c2)%18446744073709551616) (by omega);rw [<-gE] at Pu;have iI:=NG (18446744073709551616^n) 18446744073709551616 (d2+c2);have azi:(d2+c2)%18446744073709551616<18446744073709551616:=xH _ eh;have hc3:(d2+c2)/18446744073709551616<=1:=by omega
  generalize (d2+c2)%18446744073709551616=z2 at*
  generalize (d2+c2)/18446744073709551616=c3 at*
  have Qi:=fun (hp:Hp) (ct:Nat)=>lI (hp:=hp) (ct:=ct) (id:=0) (v:=z2) (ex:=true) (l:=pre++y2++post) (o:=pre.length+n) (by rw [qB];omega)
  have Pw:=OB (pre:=pre) (x:=y2) (post:=post) (i:=n) z2 (by omega);have Rk:lo 18446744073709551616 (y2.set n z2):=nf Rj azi;have MC:(y2.set n z2).length=n+1:=by simp [XH]
  have hY3:=nj Rk;rw [MC] at hY3;have bh:0<q:=by rw [e1];exact Nat.succ_pos _
  have ET:bv 18446744073709551616 x/bv 18446744073709551616 vs=q-1:=by rw [e1,tS]
  have f5:binOp .sub (uc q) (.int .u64 1)=some (uc (q-1)):=El (b:=1) (by omega) (by omega);simp only [go_sem,ya,yd,yJ,yh,rK,nh,n5,mW,mV,vG,t0,t5,t6,t17,bA 0 pre.length (show n<n+1 by omega),XI,f4,Qi,Pw,f5];refine ⟨_,y2.set n z2,rfl,by rw [ET];simp only [go_sem],MC,Rk,?_⟩;have e3:bv 18446744073709551616 (y2.set n z2)+18446744073709551616^(n+1)*c3=18446744073709551616^(n+1)+bv 18446744073709551616 x%bv 18446744073709551616 vs:=by
   rw [<-e2,<-axE,xi];rw [xK] at iI;omega
  rcases (show c3=0\/c3=1 by omega) with rfl | rfl
  ·omega
  ·omega
def azj (h:Wd P L) {w:AV} {x vs pre post qs:List Nat} (hw:bU w vs) {n v1 v2 u0 u1 u2:Nat} (hl:iD x vs n v1 v2 u0 u1 u2):
  ∃x',ix P L (D P L) (H2 qs (pre++x++post)) 2 169 [.ak 0 pre.length (n+1),w]=some (uc (bv 18446744073709551616 x/bv 18446744073709551616 vs),H2 qs (pre++x'++post),2)/\x'.length=n+1/\lo 18446744073709551616 x'/\bv 18446744073709551616 x'=bv 18446744073709551616 x%bv 18446744073709551616 vs:=by
 have dE:=hl.n2;have rn:=hl.nb;have zP:below 2 w:=rF hw.pu;have rz:(n:Int)-1=((n-1:Nat):Int):=by omega
 have fq:=hw.bi (i:=n-1) (by have:=hl.lv;omega);rw [hl.fp] at fq;have CV:=AE (l:=pre++x++post) (o:=pre.length+n) (by rw [qB];have:=hl.lx;omega)
 rw [Dw (by have:=hl.lx;omega),hl.h0] at CV;have CW:=AE (l:=pre++x++post) (o:=pre.length+(n-1)) (by rw [qB];have:=hl.lx;omega)
 rw [Dw (by have:=hl.lx;omega),hl.h1] at CW;have GY:=hl.My;have Qj:=hl.Mz;have py:=hl.top;have jB:∃tm x',D P L za.body ⟨dN 0 [.ak 0 pre.length (n+1),w],H2 qs (pre++x++post),2,2⟩=some (.ret,⟨tm,H2 qs (pre++x'++post),2,2⟩)/\af tm 4=uc (bv 18446744073709551616 x/bv 18446744073709551616 vs)/\x'.length=n+1/\lo 18446744073709551616 x'/\bv 18446744073709551616 x'=bv 18446744073709551616 x%bv 18446744073709551616 vs:=by
  have behind:∀(ky:Env) (q:Nat),af ky 0= .ak 0 pre.length (n+1)->af ky 1=w->af ky 5=aa n->af ky 6=uc q->q<18446744073709551616->bv 18446744073709551616 x/bv 18446744073709551616 vs<=q->q<=bv 18446744073709551616 x/bv 18446744073709551616 vs+1->
    ∃tm x',kj P L (kj P L (oc 0 (some (Ex.exit 0,⟨ky,H2 qs (pre++x++post),2,2⟩))) (.kp [0,1,5,6])) (aB (aB (aB (aB (aB (aB za.body))))))=some (.ret,⟨tm,H2 qs (pre++x'++post),2,2⟩)/\af tm 4=uc (bv 18446744073709551616 x/bv 18446744073709551616 vs)/\x'.length=n+1/\lo 18446744073709551616 x'/\bv 18446744073709551616 x'=bv 18446744073709551616 x%bv 18446744073709551616 vs:=by
   intro ky q t0 t1 t5 t6 g1 g2 g3;have hk:bP ky [0,1,5,6]=[(0,.ak 0 pre.length (n+1)),(1,w),(5,aa n),(6,uc q)]:=by simp only [go_sem,t0,t1,t5,t6]
   rw [TF,fN,VV,rK (by rw [hk];simp only [go_sem,yJ,nh,n5,mW,mV,zP,vG]) (by rw [hk];simp only [go_sem,yd,yJ,aq hw.pu]),fN,hk];exact avv h hw hl g1 g2 g3
  by_cases hc:u0<v1
  ·have f1:=ah7 h.aic h.Lx (P:=P) (L:=L) hc Qj GY;have gF:=wg (u0*18446744073709551616+u1) v1;have zm:=xH (u0*18446744073709551616+u1) hl.pos;have pR:(u0*18446744073709551616+u1)/v1<18446744073709551616:=by
    refine (wv hl.pos).2 ?_
    have:=yS 18446744073709551616 (show u0+1<=v1 from hc)
    rw [xO 18446744073709551616 v1];omega
   have OZ:=hl.first;rw [xO] at gF;generalize (u0*18446744073709551616+u1)/v1=q0 at*
   generalize (u0*18446744073709551616+u1)%v1=r0 at*
   simp only [go_sem,ya,yh,za,H2,hw.len,hl.lv,rz,wrapN (n:=n-1) (by omega),fq,bA 0 pre.length (show n<n+1 by omega),bA 0 pre.length (show n-1<n+1 by omega),CV,CW,show ¬(v1:Int)<=(u0:Int) by omega,f1];generalize nL:D P L (.loop [0,1,5,6,7,8] Ar) _=qq;obtain ⟨ex,s,rfl,ky,q,rfl,rfl,t0,t1,t5,t6,g1,g2,g3⟩:=bD nL (aeD (P:=P) (L:=L) h.nB h.ig hw hl (pre:=pre) (post:=post) (qs:=qs) q0) ⟨q0,r0,by
    rw [rK (by simp only [go_sem,ya,yJ,nh,n5,mW,mV,zP,vG]) (by simp only [go_sem,ya,yd,yJ,aq hw.pu])];rw [yY (show r0<18446744073709551616 by omega),vc (show r0<18446744073709551616 by omega)]
    simp only [go_sem,ya]<;>rfl,gF,by omega,pR,OZ,rfl⟩
   exact behind ky q t0 t1 t5 t6 g1 g2 g3
  ·have pO:u0=v1:=by omega
   have f1:=DT (P:=P) (f:=D P L) h.ig Qj GY (c:=0) (by omega);rw [y7,show (uc 0)=AV.int .u64 0 from rfl] at f1;have Qk:=hl.digit
   simp only [go_sem,ya,yh,za,H2,hw.len,hl.lv,rz,wrapN (n:=n-1) (by omega),fq,bA 0 pre.length (show n<n+1 by omega),bA 0 pre.length (show n-1<n+1 by omega),CV,CW,show (v1:Int)<=(u0:Int) by omega,f1];generalize nL:D P L (.loop [0,1,5,6,7,8] Ar) _=qq;obtain ⟨ex,s,rfl,ky,q,rfl,rfl,t0,t1,t5,t6,g1,g2,g3⟩:=bD nL (aeD (P:=P) (L:=L) h.nB h.ig hw hl (pre:=pre) (post:=post) (qs:=qs) 18446744073709551615) ⟨18446744073709551615,u1+v1,by
    rw [rK (by simp only [go_sem,ya,yJ,nh,n5,mW,mV,zP,vG]) (by simp only [go_sem,ya,yd,yJ,aq hw.pu])]
    simp only [go_sem,ya]<;>rfl,by rw [pO];omega,by omega,by decide,by omega,rfl⟩
   exact behind ky q t0 t1 t5 t6 g1 g2 g3
 obtain ⟨tm,x',g1,g2,g3,g4,g5⟩:=jB;refine ⟨x',?_,g3,g4,g5⟩;exact JG h.azd g1 (.inr rfl) (by show jr _ [RV.t 4]=_;rw [VW,U4,g2])
end
def WN (v:AV) (m:Nat):Prop:=∃l,bU v l/\lo 18446744073709551616 l/\im l/\bv 18446744073709551616 l=m
def aqs (i:Nat) (q:List Nat) (x:Nat):(yf (i+1) 0++q).set i x=yf i 0++x::q:=by
 rw [List.replicate_succ',xm]
 simp_all
def OC {b:Nat} {l:List Nat} {i:Nat} (h:i<l.length):bv b (l.drop i)=l.getD i 0+b*bv b (l.drop (i+1)):=by
 rw [yP h,gd h];rfl
def Uu {v w:AV} {x y:List Nat} (hv:bU v x) (hw:bU w y) (hp:Hp):result hp (.az [v,w])=some (.az [v,w]):=by
 rcases hv with ⟨rfl,_⟩ | ⟨e,rfl⟩<;>rcases hw with ⟨rfl,_⟩ | ⟨e',rfl⟩<;>rfl
def asA {hp:Hp} {id n l h:Nat} {pu ex:Bool} {cs:List AV} {tm:Env} {x y:X} (hg:ao hp id=some (.cells true pu ex 1 cs)) (hx:dl tm 0 (some x)=some l) (hy:dl tm n (some y)=some h) (h1:l<h) (h2:h<=n):
  fG hp (.sl 1) (.ak id 0 n) tm (some x) (some y)=some (.ak id l (h-l)):=by
 simp only [fG,hg,hx,hy,yx (tp h1),yx h2,ve,wm,yD,iO (Nat.ne_of_lt h1),wE,yW,yg,yh]
def abr {hp:Hp} {id n h:Nat} {pu ex:Bool} {cs:List AV} {tm:Env} {y:X} (hg:ao hp id=some (.cells true pu ex 1 cs)) (hy:dl tm n (some y)=some h) (h1:0<h) (h2:h<=n):
  fG hp (.sl 1) (.ak id 0 n) tm none (some y)=some (.ak id 0 h):=by
 have hx:dl tm 0 none=some 0:=rfl;simp only [fG,hg,hx,hy,yx (uJ h),yx h2,ve,wm,yD,iO (show (0:Nat)≠h by omega),wE,yW,yag,y7,Nat.sub_zero]
def agV (P:aM) (L:Lib) (f:cG) (hp:Hp) (ct n:Nat) (xs:List AV):er P L f hp ct .heap (.fn (.f n) [] []) xs=ix P L f hp ct n xs:=by
 simp only [er,xp,xT]
section
variable {P:aM} {L:Lib}
def avw (h:Wd P L) {v w:AV} {x:List Nat} (hv:bU v x) (hx:lo 18446744073709551616 x) (lx:x.length<=99999999999) {d:Nat} (hw:bU w [d]) (jc:0<d) (XJ:d<18446744073709551616) {n:Nat} (hn:n=x.length):
  ∀k s,(∃(i r:Nat) (q:List Nat),aG [0,1,6,7,8] s=⟨[(0,v),(1,w),(6,.ak 0 0 n),(7,uc r),(8,aa ((i:Int)-1))],[(0,.cells true true true 1 ((yf i 0++q).map uc))],1,0⟩/\i=k/\i+q.length=n/\lo 18446744073709551616 q/\r<d/\bv 18446744073709551616 (x.drop i)=bv 18446744073709551616 q*d+r)->
   ∃ex s',D P L (.loop [0,1,6,7,8] JW) s=some (ex,s')/\∃tm r q,s'=⟨tm,[(0,.cells true true true 1 (q.map uc))],1,0⟩/\ex= .exit 0/\af tm 6= .ak 0 0 n/\af tm 7=uc r/\q.length=n/\lo 18446744073709551616 q/\r<d/\bv 18446744073709551616 x=bv 18446744073709551616 q*d+r:=by
 intro dq sq;generalize bh:aG [0,1,6,7,8] sq=s0;revert bh s0 sq dq;apply dj;rintro k s ⟨i,r,q,rfl,rfl,hlen,bj,hr,aR⟩
 cases i with
 | zero=>
  right
  simp only [go_sem,ya,JW,show ¬(0:Int)<=((0:Nat):Int)-1 by omega];exact ⟨_,_,rfl,by simp,_,r,q,rfl,rfl,by simp only [go_sem,ya],by simp only [go_sem,ya],by omega,bj,hr,by simpa using aR⟩
 | succ i=>
  left
  have gx:=iy (show 0<18446744073709551616 by decide) hx i;have e1:=hv.bi (i:=i) (by omega);have e2:=hw.bi (i:=0) (by simp);have jG:=OC (b:=18446744073709551616) (l:=x) (i:=i) (by omega);rw [show ([d]:List Nat).getD 0 0=d from rfl] at e2;generalize x.getD i 0=a at*
  have e3:=ah7 (P:=P) (L:=L) h.aic h.Lx hr gx XJ;have gF:=wg (r*18446744073709551616+a) d;have zm:=xH (r*18446744073709551616+a) jc;have pR:(r*18446744073709551616+a)/d<18446744073709551616:=by
   refine (wv jc).2 ?_;omega
  generalize (r*18446744073709551616+a)/d=q1 at*
  generalize (r*18446744073709551616+a)%d=r1 at*
  have aJ:=fun (hp:Hp) (ct:Nat)=>lI (hp:=hp) (ct:=ct) (id:=0) (v:=q1) (ex:=true) (l:=yf (i+1) 0++q) (o:=i) (by simp;omega)
  simp only [go_sem,ya,yh,JW,show ((i+1:Nat):Int)-1=(i:Int) by omega,show (0:Int)<=(i:Int) by omega,e1,e2,e3,bA 0 0 (show i<n by omega),yg,aJ,aqs];refine ⟨_,i,rfl,by omega,i,r1,q1::q,?_,rfl,by simp;omega,NQ.2 ⟨F9.2 pR,bj⟩,zm,?_⟩
  ·rw [wrap64 (by omega) (by omega)];simp only [go_sem,ya,yd,aw,aq hv.pu,au _ hv.pu,aq hw.pu,au _ hw.pu]<;>rfl
  ·rw [jG,aR];simp only [bv];rw [wS,xK,<-xx 18446744073709551616];rw [xO d q1] at gF;omega
def aon {s u u1:Nat} (hs:s<64) (hu:u<18446744073709551616):u/2^s<18446744073709551616/\(0<s->u/2^s|||(u1*2^(64-s)%18446744073709551616)<18446744073709551616)/\
  (if 0<s then (u/2^s|||(u1*2^(64-s)%18446744073709551616)) else u/2^s)*2^s+u%2^s=u+18446744073709551616*(u1%2^s):=by
 have e:18446744073709551616=2^s*2^(64-s):=by rw [<-wZ,show s+(64-s)=64 by omega]
 have h1:u1*2^(64-s)%18446744073709551616=(u1%2^s)*2^(64-s):=by rw [e,vY]
 have hp:=wU s;have h2:u/2^s<2^(64-s):=by
  refine (wv hp).2 ?_
  grind
 have h3:u/2^s|||(u1*2^(64-s)%18446744073709551616)=(u1%2^s)*2^(64-s)+u/2^s:=by rw [h1,ycc,Ut h2]
 have h4:(u1%2^s)*2^(64-s)+u/2^s<18446744073709551616:=by
  have:=yS (2^(64-s)) (show u1%2^s+1<=2^s from xH _ hp)
  grind
 have h5:=tL u (2^s)
 grind
def avx {us qs:List Nat} {n la m s:Nat} (hs:s<64) (lu:us.length=la) (gu:lo 18446744073709551616 us) (hn:n<la) (MD:la<=100000000000):
  ∀k st,(∃(i:Nat) (rs:List Nat),aG [9,11,12,13,96,97] st=⟨[(9,aa s),(11,.ak 0 0 la),(12,aa n),(13,.ak 1 0 m),(96,aa n),(97,aa i)],H2 qs (rs++us.drop i),2,0⟩/\i+k=n/\rs.length=i/\lo 18446744073709551616 rs/\bv 18446744073709551616 rs*2^s+us.getD 0 0%2^s=bv 18446744073709551616 (us.take i)+18446744073709551616^i*(us.getD i 0%2^s))->
   ∃ex st',D P L (.loop [9,11,12,13,96,97] FR) st=some (ex,st')/\∃tm rs,st'=⟨tm,H2 qs (rs++us.drop n),2,0⟩/\ex= .exit 4/\af tm 11= .ak 0 0 la/\af tm 12=aa n/\af tm 13= .ak 1 0 m/\rs.length=n/\lo 18446744073709551616 rs/\bv 18446744073709551616 rs*2^s+us.getD 0 0%2^s=bv 18446744073709551616 (us.take n)+18446744073709551616^n*(us.getD n 0%2^s):=by
 intro dq sq;generalize bh:aG [9,11,12,13,96,97] sq=s0;revert bh s0 sq dq;apply dj;rintro k st ⟨i,rs,rfl,hk,lr,gr,aR⟩;by_cases hi:i<n
 ·left
  have eh:(0:Nat)<18446744073709551616:=by decide
  have g0:=iy eh gu i;have g1:=iy eh gu (i+1);have d0:us.drop i=us.getD i 0::us.getD (i+1) 0::us.drop (i+2):=by
   rw [yP (show i<us.length by omega),yP (show i+1<us.length by omega),gd,gd]
  have eI:=jP (b:=18446744073709551616) (l:=us) i;have jA:∀r,r<18446744073709551616->r*2^s+us.getD i 0%2^s=us.getD i 0+18446744073709551616*(us.getD (i+1) 0%2^s)->lo 18446744073709551616 (rs++[r])/\bv 18446744073709551616 (rs++[r])*2^s+us.getD 0 0%2^s=bv 18446744073709551616 (us.take (i+1))+18446744073709551616^(i+1)*(us.getD (i+1) 0%2^s):=fun r h1 h2=>by
   refine ⟨NQ.2 ⟨gr,F9.2 h1⟩,?_⟩;rw [sF,BZ,lr,eI,wS,xi,xx,xx];have e2:=congrArg (fun t=>18446744073709551616^i*t) h2;simp only [xK] at e2;generalize 18446744073709551616^i*(r*2^s)=p1 at*
   generalize 18446744073709551616^i*(us.getD i 0%2^s)=p2 at*
   generalize 18446744073709551616^i*us.getD i 0=p3 at*
   generalize 18446744073709551616^i*(18446744073709551616*(us.getD (i+1) 0%2^s))=p4 at*
   omega
  have V6:us.drop (i+1)=us.getD (i+1) 0::us.drop (i+2):=by
   rw [yP (show i+1<us.length by omega),gd]
  generalize us.getD i 0=a at*
  obtain ⟨c,hc⟩:∃c,c=us.getD (i+1) 0:=⟨_,rfl⟩;rw [<-hc] at g1 d0 V6 jA;generalize us.drop (i+2)=dr at*
  rw [d0];obtain ⟨n1,n2,n3⟩:=aon (u1:=c) hs g0;have o1:=Lw .i64 a (s:=s) (by omega);have o2:=Lv .i64 c (s:=64-s) (by omega);have o3:binOp .sub (.int .i64 64) (aa s)=some (aa (64-s:Nat)):=by
   rw [Ox,wrap64 (by omega) (by omega)];congr 2;omega
  have o4:=XB n1 (xH (c*2^(64-s)) eh);have sa:∀z y,(rs++z::y).set i a=rs++a::y:=fun z y=>by rw [yar _ _ (by omega),lr];simp
  have e0:∀z y,vh i ((rs++z::y).map uc)=uc z::y.map uc:=fun z y=>by
   rw [xg,uP (by simp [lr])];rfl
  have e1:∀z y u,vh (i+1) ((rs++z::y::u).map uc)=uc y::u.map uc:=fun z y u=>by
   rw [show rs++z::y::u=(rs++[z])++y::u by simp,xg,uP (by simp [lr])];rfl
  have jW:∀(hp:Hp) (ct x z:Nat) (y:List Nat),gP hp ct 0 i 1 [.int .u64 (x:Int)] (some (.cells true true true 1 ((rs++z::y).map uc)))=some (.az [],aT hp 0 (.cells true true true 1 ((rs++x::y).map uc)),ct):=fun hp ct x z y=>by
   rw [lI (by simp;omega),yar _ _ (by omega),lr];simp
  by_cases h0:0<s
  ·rw [yA h0] at n3;obtain ⟨f1,f2⟩:=jA _ (n2 h0) n3;generalize a/2^s=a1 at*
   generalize a1|||(c*2^(64-s)%18446744073709551616)=r at*
   simp only [go_sem,ya,yh,FR,H2,show (i:Int)<(n:Int) by omega,bA 0 0 (show i<la by omega),yg,e0,o1,jW,show (0:Int)<(s:Int) by omega,show (i:Int)+1=((i+1:Nat):Int) from rfl,wrapN (n:=i+1) (by omega),show ((i+1:Nat):Int)<(la:Int) by omega,bA 0 0 (show i+1<la by omega),e1,o3,o2,o4];refine ⟨_,k-1,rfl,by omega,i+1,rs++[r],by simp only [go_sem,ya,yd,aw];rw [V6];simp,by omega,by simp [lr],f1,by rw [<-hc];exact f2⟩
  ·rw [yo h0] at n3;obtain ⟨f1,f2⟩:=jA _ n1 n3;generalize a/2^s=a1 at*
   simp only [go_sem,ya,yh,FR,H2,show (i:Int)<(n:Int) by omega,bA 0 0 (show i<la by omega),yg,e0,o1,jW,show ¬(0:Int)<(s:Int) by omega,show (i:Int)+1=((i+1:Nat):Int) from rfl,wrapN (n:=i+1) (by omega)];refine ⟨_,k-1,rfl,by omega,i+1,rs++[a1],by simp only [go_sem,ya,yd,aw];rw [V6];simp,by omega,by simp [lr],f1,by rw [<-hc];exact f2⟩
 ·right
  have:i=n:=by omega
  subst this;simp only [go_sem,ya,FR,H2,show ¬(i:Int)<(i:Int) by omega];exact ⟨_,_,rfl,by simp,_,rs,rfl,rfl,by simp only [go_sem,ya],by simp only [go_sem,ya],by simp only [go_sem,ya],lr,gr,aR⟩
end
def aat {b p A V bu bq0 U0 pre:Nat} (h1:bu=pre+p*A) (h2:bu+bq0*V=U0):(pre+p*(A%V))+(bq0+p*(A/V))*V=U0:=by
 have gF:=wg A V
 grind
def Px (hp:Hp) (ct:Nat) (ex:Bool) (sz n:Nat) (cs:List AV):own hp ct (.bV ex sz n cs)=(.ak ct 0 n,(ct,.cells true true ex sz cs)::hp,ct+1):=rfl
section
variable {P:aM} {L:Lib}
def avy (h:Wd P L) {w:AV} {vs:List Nat} (hw:bU w vs) (gv:lo 18446744073709551616 vs) {n la m:Nat} (lv:vs.length=n) (dE:2<=n) (Hh:n<=la) (MD:la<=99999999999) (hm:m=la-n+1) (fp:0<vs.getD (n-1) 0) {s U0:Nat}:
  ∀k st,(∃(j:Nat) (us qs:List Nat),aG [9,10,11,12,13,14] st=⟨[(9,aa s),(10,w),(11,.ak 0 0 (la+1)),(12,aa n),(13,.ak 1 0 m),(14,aa ((j:Int)-1))],H2 qs us,2,0⟩/\j=k/\j<=m/\us.length=la+1/\qs.length=m/\lo 18446744073709551616 us/\lo 18446744073709551616 qs/\(∀i,i<j->qs.getD i 0=0)/\
    bv 18446744073709551616 us+bv 18446744073709551616 qs*bv 18446744073709551616 vs=U0/\bv 18446744073709551616 (us.drop j)<bv 18446744073709551616 vs)->
   ∃ex st',D P L (.loop [9,10,11,12,13,14] JX) st=some (ex,st')/\∃tm us qs,st'=⟨tm,H2 qs us,2,0⟩/\ex= .exit 2/\af tm 9=aa s/\af tm 11= .ak 0 0 (la+1)/\af tm 12=aa n/\af tm 13= .ak 1 0 m/\us.length=la+1/\qs.length=m/\lo 18446744073709551616 us/\lo 18446744073709551616 qs/\
    bv 18446744073709551616 us+bv 18446744073709551616 qs*bv 18446744073709551616 vs=U0/\bv 18446744073709551616 us<bv 18446744073709551616 vs:=by
 intro dq sq;generalize bh:aG [9,10,11,12,13,14] sq=s0;revert bh s0 sq dq;apply dj;rintro k st ⟨j,us,qs,rfl,rfl,hj,lu,lq,gu,gq,hz,aR,py⟩
 cases j with
 | zero=>
  right
  simp only [go_sem,ya,JX,H2,show ¬(0:Int)<=((0:Nat):Int)-1 by omega];exact ⟨_,_,rfl,by simp,_,us,qs,rfl,rfl,by simp only [go_sem,ya],by simp only [go_sem,ya],by simp only [go_sem,ya],by simp only [go_sem,ya],lu,lq,gu,gq,aR,by simpa using py⟩
 | succ j=>
  left
  have eh:(0:Nat)<18446744073709551616:=by decide
  obtain ⟨pre,fC⟩:∃p,p=us.take j:=⟨_,rfl⟩;obtain ⟨x,hx⟩:∃p,p=(us.drop j).take (n+1):=⟨_,rfl⟩;obtain ⟨post,gU⟩:∃p,p=us.drop (j+(n+1)):=⟨_,rfl⟩;have lp:pre.length=j:=by rw [fC,yI];omega
  have lx:x.length=n+1:=by rw [hx,yI,we];omega
  have kV:us=pre++x++post:=by
   rw [fC,hx,gU,<-vS,xm,xZ,xZ]
  have gx:lo 18446744073709551616 x:=by rw [hx];exact BQ (acF gu _) _
  have V7:lo 18446744073709551616 pre:=by rw [fC];exact BQ gu _
  have axF:lo 18446744073709551616 post:=by rw [gU];exact acF gu _
  have hA:bv 18446744073709551616 (us.drop j)=us.getD j 0+18446744073709551616*bv 18446744073709551616 (us.drop (j+1)):=OC (by omega);have ME:=iy eh gu j;have XK:us.drop j=x++post:=by rw [gU,hx,<-vS,xZ]
  have Bl:bv 18446744073709551616 (us.drop j)=bv 18446744073709551616 x+18446744073709551616^(n+1)*bv 18446744073709551616 post:=by rw [XK,sF,lx]
  have MB:=nj gv;rw [lv] at MB;have aU:bv 18446744073709551616 (us.drop j)<18446744073709551616*bv 18446744073709551616 vs:=by omega
  have hp0:bv 18446744073709551616 post=0:=by
   rcases xB (bv 18446744073709551616 post) with e | e
   ·exact e
   ·have h1:=y8 (18446744073709551616^(n+1)) e;rw [yh,xi] at h1;rw [xi] at Bl;omega
  rw [hp0,xM,y7] at Bl;have hl:iD x vs n (vs.getD (n-1) 0) (vs.getD (n-2) 0) (x.getD n 0) (x.getD (n-1) 0) (x.getD (n-2) 0):=
   ⟨dE,by omega,lx,lv,gx,gv,rfl,rfl,rfl,rfl,rfl,fp,by rw [<-Bl];exact aU⟩
  have Qk:=hl.digit;obtain ⟨x',e1,XL,Ro,MF⟩:=azj h hw hl (pre:=pre) (post:=post) (qs:=qs);rw [lp,<-kV] at e1;have XM:bv 18446744073709551616 us=bv 18446744073709551616 pre+18446744073709551616^j*bv 18446744073709551616 x:=by
   have:=Jg (b:=18446744073709551616) us j (by omega)
   rw [Bl,<-fC] at this;exact this
  have V8:bv 18446744073709551616 (pre++x'++post)=bv 18446744073709551616 pre+18446744073709551616^j*bv 18446744073709551616 x':=by
   rw [xm,sF,sF,hp0,xM,y7,lp]
  have aT:=ph (b:=18446744073709551616) (l:=qs) (i:=j) (x:=bv 18446744073709551616 x/bv 18446744073709551616 vs) (by omega);rw [hz j (by omega),xM,y7] at aT;have jA:=aat (b:=0) XM aR;have aJ:=fun (hp:Hp) (ct:Nat)=>lI (hp:=hp) (ct:=ct) (id:=1) (v:=bv 18446744073709551616 x/bv 18446744073709551616 vs) (ex:=true) (l:=qs) (o:=j) (by omega)
  have sj:0<bv 18446744073709551616 vs:=by omega
  have zm:=xH (bv 18446744073709551616 x) sj;have mL:∀tm (x y:X),dl tm 0 (some x)=some j->dl tm (la+1) (some y)=some (j+n+1)->fG (H2 qs us) (.sl 1) (.ak 0 0 (la+1)) tm (some x) (some y)=some (.ak 0 j (n+1)):=fun tm x y h1 h2=>by
   rw [asA (cs:=us.map uc) (pu:=true) (ex:=true) rfl h1 h2 (by omega) (by omega),show j+n+1-j=n+1 by omega]
  simp only [go_sem,ya,yh,JX,H2,show ((j+1:Nat):Int)-1=(j:Int) by omega,show (0:Int)<=(j:Int) by omega,show (j:Int)+(n:Int)=((j+n:Nat):Int) from rfl,wrapN (n:=j+n) (by omega),show ((j+n:Nat):Int)+1=((j+n+1:Nat):Int) from rfl,wrapN (n:=j+n+1) (by omega),mL,dS,agV,e1,bA 1 0 (show j<m by omega),yg,aJ];refine ⟨_,j,rfl,by omega,j,pre++x'++post,qs.set j (bv 18446744073709551616 x/bv 18446744073709551616 vs),?_,rfl,by omega,by rw [qB,lp,XL,gU,we];omega,by simp [lq],NQ.2 ⟨NQ.2 ⟨V7,Ro⟩,axF⟩,nf gq Qk,fun i hi=>by rw [qw (by omega)];exact hz i (by omega),?_,?_⟩
  ·rw [wrap64 (by omega) (by omega)];simp only [go_sem,ya,yd,aw,aq hw.pu,au _ hw.pu]<;>rfl
  ·rw [V8,MF,aT];exact jA
  ·rw [xm,uP lp,sF,hp0,xM,y7,MF];exact zm
def axG {l:List Nat} {n:Nat} (h:l.length=n+1):18446744073709551616^n*l.getD n 0<=bv 18446744073709551616 l:=by
 have:=jP (b:=18446744073709551616) (l:=l) n
 grind
def pz {m K:Nat} {l:List Nat} (hn:im l) (hv:bv 18446744073709551616 l=m) (h:m<18446744073709551616^K):l.length<=K:=anJ (b:=18446744073709551616) (by decide) hn (by rw [hv];exact h)
def avz (h:Wd P L) {v w:AV} {x:List Nat} {d:Nat} (hv:bU v x) (hw:bU w [d]) (gx:lo 18446744073709551616 x) (lx:x.length<=90000000000) (jc:0<d) (XJ:d<18446744073709551616) (ec:aj P L 158 [v,w] (aa (dY (bv 18446744073709551616 x) d))) (hc:d<=bv 18446744073709551616 x):
  ∃q r,aj P L 137 [v,w] (.az [q,r])/\WN q (bv 18446744073709551616 x/d)/\WN r (bv 18446744073709551616 x%d):=by
 have eK:¬dY (bv 18446744073709551616 x) d<0:=by unfold dY;rw [yo (by omega)];split<;>decide
 obtain ⟨n,hn⟩:∃n,n=x.length:=⟨_,rfl⟩;have main:∃r l,(∀c:Nat->AV->AV->Option AV,True)/\r<d/\l.length=n/\lo 18446744073709551616 l/\bv 18446744073709551616 x=bv 18446744073709551616 l*d+r/\
   ∃q1 r1,bU q1 (eB l)/\bU r1 (eB [r])/\aj P L 137 [v,w] (.az [q1,r1]):=by
  unfold aj;rw [aI h.V5]
  simp only [go_sem,ya,K6,hv.len,hv.an,hw.len,hw.an,ec,eK,yy,yO,yg,show ((1:Nat):Int)=(1:Int) from rfl,<-hn,Ek (n:=n) _ (by omega)];generalize hq:D P L (.loop [0,1,6,7,8] JW) _=q;obtain ⟨ex,s,rfl,tm,r,l,rfl,rfl,t6,t7,zF,bj,hr,aR⟩:=bD hq (avw (P:=P) (L:=L) h hv gx (by omega) hw jc XJ hn n) ⟨n,0,[],by
   rw [wrap64 (by omega) (by omega),xT]
   simp only [go_sem,ya,yd,aw,aq hv.pu,au _ hv.pu,aq hw.pu,au _ hw.pu]<;>rfl,rfl,rfl,OT,jc,by rw [xe (by omega)];simp [bv]⟩
  have hf:=nX true l;rw [zF] at hf;obtain ⟨q1,e1,fK⟩:=Cw h.nA hf (by omega);obtain ⟨r1,e2,cO⟩:=Cw h.nA (nX true [r]) (by simp);simp only [yy,yO,yg,List.map_cons,List.map_nil] at e2;refine ⟨r,l,fun _=>trivial,hr,zF,bj,aR,q1,r1,fK,cO,?_⟩
  simp only [go_sem,ya,yd,yJ,Nat.reduceLeDiff,yh,aw,t6,t7,Cv _ (n:=n) (l:=l) zF true,e1,fK.shut,e2,cO.shut];exact Uu fK cO _
 obtain ⟨r,l,_,hr,zF,bj,aR,q1,r1,fK,cO,e⟩:=main;have hq:bv 18446744073709551616 l=bv 18446744073709551616 x/d:=by
  rw [aR,xO,tM jc,vc hr,y7]
 have hm:r=bv 18446744073709551616 x%d:=by
  rw [aR,xO,tN,yY hr]
 exact ⟨q1,r1,e,⟨_,fK,BK bj,BJ _,by rw [BI,hq]⟩,⟨_,cO,BK (F9.2 (by omega)),BJ _,by rw [BI,BZ,hm]⟩⟩
def avA (h:Wd P L) {v w:AV} {x y:List Nat} (hv:bU v x) (hw:bU w y) (gx:lo 18446744073709551616 x) (gy:lo 18446744073709551616 y) (nx:im x) (ny:im y) (lx:x.length<=90000000000) (ly:2<=y.length) (ec:aj P L 158 [v,w] (aa (dY (bv 18446744073709551616 x) (bv 18446744073709551616 y)))) (hc:bv 18446744073709551616 y<=bv 18446744073709551616 x):
  ∃q r,aj P L 137 [v,w] (.az [q,r])/\WN q (bv 18446744073709551616 x/bv 18446744073709551616 y)/\WN r (bv 18446744073709551616 x%bv 18446744073709551616 y):=by
 have eh:(0:Nat)<18446744073709551616:=by decide
 have eK:¬dY (bv 18446744073709551616 x) (bv 18446744073709551616 y)<0:=by unfold dY;rw [yo (by omega)];split<;>decide
 have hyx:y.length<=x.length:=by
  by_cases hh:x.length<y.length
  ·have:=Ow (b:=18446744073709551616) (by decide) gx ny hh;omega
  ·omega
 obtain ⟨n,hn⟩:∃n,n=y.length:=⟨_,rfl⟩;obtain ⟨la,MD⟩:∃la,la=x.length:=⟨_,rfl⟩;have Cd:=N7 ny (fun e=>by subst e;simp at ly);have EU:=iy eh gy (y.length-1);have XN:=hw.bi (i:=y.length-1) (by omega);have kD:=axG (l:=y) (n:=n-1) (by omega);rw [<-hn] at Cd EU XN;obtain ⟨top,py⟩:∃top,y.getD (n-1) 0=top:=⟨_,rfl⟩;rw [py] at Cd EU XN kD;have elz:=aeB (P:=P) (f:=D P L) h.Lx EU;obtain ⟨z1,z2,z3⟩:=Tg (yaU Cd) EU;generalize 64-eX 64 top=s at*
 obtain ⟨ov,ev,lov,gov,vov⟩:=ah8 h.aid hw gy (by omega) z1;obtain ⟨ou,eu,lou,gou,vou⟩:=ah8 h.aid hv gx (by omega) z1;obtain ⟨v',XO,fh⟩:=Cw h.nA (nX true ov) (by omega);rw [lov,<-hn] at XO;rw [<-hn] at ev;rw [<-MD] at eu lou;have iI:=wU s;obtain ⟨vs,A5⟩:∃vs,vs=eB ov:=⟨_,rfl⟩;rw [<-A5] at fh;have EV:lo 18446744073709551616 vs:=by rw [A5];exact BK gov
 have MG:im vs:=by rw [A5];exact BJ _
 have zQ:bv 18446744073709551616 vs=bv 18446744073709551616 y*2^s:=by rw [A5,BI,vov]
 have hyW:bv 18446744073709551616 y*2^s<18446744073709551616^n:=by
  have e:18446744073709551616=2^(64-s)*2^s:=by rw [<-wZ,show 64-s+s=64 by omega]
  have e1:=jP (b:=18446744073709551616) (l:=y) (n-1);rw [show n-1+1=n by omega,yC (by omega),py] at e1;have e2:=nj (BQ gy (n-1));rw [yI,xt (by omega)] at e2;have e3:top<2^(64-s):=Nat.lt_of_mul_lt_mul_right (a:=2^s) (Nat.lt_of_lt_of_eq z3 e);have e4:=yS (2^s) (show top+1<=2^(64-s) from e3);rw [<-e] at e4;have e5:bv 18446744073709551616 y<18446744073709551616^(n-1)*(top+1):=by rw [xK,yh];omega
  have e6:=wT e5 iI;rw [xx] at e6;have e7:=y8 (18446744073709551616^(n-1)) e4;rw [<-xi,show (n-1).succ=n by omega] at e7;exact yV e6 e7
 have azk:18446744073709551616^(n-1)*2^s<=bv 18446744073709551616 vs:=by
  rw [zQ];refine yS _ (xv ?_ kD)
  have:=y8 (18446744073709551616^(n-1)) (show 1<=top by omega)
  omega
 have Bm:vs.length=n:=by
  have h1:vs.length<=n:=by
   refine pz MG zQ ?_;exact hyW
  have h2:¬vs.length<n:=fun hh=>by
   have e1:=nj EV;have e2:18446744073709551616^vs.length<=18446744073709551616^(n-1):=xh eh (by omega);have e3:=yS (2^s) kD;rw [xx,<-zQ] at e3;have e4:=y8 (18446744073709551616^(n-1)) (show 1<=top*2^s by omega);omega
  omega
 have fp:0<vs.getD (n-1) 0:=by
  have:=N7 MG (fun e=>by rw [e] at Bm;simp at Bm;omega)
  rw [Bm] at this;exact yaU this
 obtain ⟨m,hm⟩:∃m,m=la-n+1:=⟨_,rfl⟩;have U7:bv 18446744073709551616 (ou.drop m)<bv 18446744073709551616 vs:=by
  have e1:=Jg (b:=18446744073709551616) ou m (by omega);have e2:=nj gx;rw [<-MD] at e2;have e3:=wT e2 iI;rw [<-vou] at e3;have e4:18446744073709551616^la=18446744073709551616^m*18446744073709551616^(n-1):=by rw [<-wZ];congr 1;omega
  rw [e4,xx] at e3;have e5:18446744073709551616^m*bv 18446744073709551616 (ou.drop m)<18446744073709551616^m*(18446744073709551616^(n-1)*2^s):=by omega
  exact yV (Nat.lt_of_mul_lt_mul_left e5) azk
 have e1y:(y.length:Int)-1=((n-1:Nat):Int):=by omega
 have azl:((la:Nat):Int)-(n:Int)=((m-1:Nat):Int):=by omega
 have jB:∃tm us qs rs,(us.length=la+1/\qs.length=m/\lo 18446744073709551616 us/\lo 18446744073709551616 qs/\bv 18446744073709551616 us+bv 18446744073709551616 qs*bv 18446744073709551616 vs=bv 18446744073709551616 x*2^s/\bv 18446744073709551616 us<bv 18446744073709551616 vs/\
   rs.length=n/\lo 18446744073709551616 rs/\bv 18446744073709551616 rs*2^s+us.getD 0 0%2^s=bv 18446744073709551616 (us.take n)+18446744073709551616^n*(us.getD n 0%2^s))/\af tm 0=v/\
   ∃q1 r1,bU q1 (eB qs)/\bU r1 (eB rs)/\aj P L 137 [v,w] (.az [q1,r1]):=by
  unfold aj at ec ev eu XO;unfold aj;rw [aI h.V5];have hfo:=Cv (n:=n+1) (l:=ov) (hp:=[]) (by omega) true
  simp only [go_sem,ya,yd,K6,hv.len,hv.an,hw.len,hw.an,ec,eK,show ¬(y.length:Int)=1 by omega,e1y,wrapN (n:=n-1) (by omega),XN,elz,ev,Px,Cv _ (n:=n+1) (l:=ov) (by omega) true,XO,fh.len,fh.shut,eu,Bm,<-MD,azl,wrapN (n:=m-1) (by omega),show ((m-1:Nat):Int)+1=(m:Int) by omega,wrapN (n:=m) (by omega),Ek (n:=m) _ (by omega)];generalize nL:D P L (.loop [9,10,11,12,13,14] JX) _=qq;obtain ⟨ex,st,rfl,tm,us,qs,rfl,rfl,t9,t11,t12,t13,Rr,Ru,HI,XP,aR,aU⟩:=bD nL (avy (P:=P) (L:=L) h fh EV Bm (by omega) (by omega) (by omega) hm fp (s:=s) (U0:=bv 18446744073709551616 x*2^s) m) ⟨m,ou,yf m 0,by
   rw [show ((m-1:Nat):Int)=(m:Int)-1 by omega]
   simp only [go_sem,ya,yd,aw,aq fh.pu,au _ fh.pu]<;>rfl,rfl,yq _,lou,by simp,gou,Ga eh m,fun i _=>Du m i,by rw [Gb,yag,y7,vou],U7⟩
  simp only [go_sem,ya,yd,aw,t9,t11,t12,t13];generalize Em:D P L (.loop [9,11,12,13,96,97] FR) _=XF;obtain ⟨ex,st,rfl,rX,rs,rfl,rfl,t11,t12,t13,XQ,XR,Ql⟩:=bD Em (avx (P:=P) (L:=L) (qs:=qs) (m:=m) (la:=la+1) (n:=n) z1 Rr HI (by omega) (by omega) n) ⟨0,[],by simp only [go_sem,ya,yd,aw]<;>rfl,by omega,rfl,OT,by simp [bv]⟩
  have mL:∀(hp:Hp) tm (y:X),ao hp 0=some (.cells true true true 1 ((rs++us.drop n).map uc))->dl tm (la+1) (some y)=some n->fG hp (.sl 1) (.ak 0 0 (la+1)) tm none (some y)=some (.ak 0 0 n):=fun hp tm y h1 h2=>abr h1 h2 (by omega) (by omega)
  have MH:=nX true qs;rw [Ru] at MH;obtain ⟨q1,f1,fK⟩:=Cw h.nA MH (by omega);have eI:(rs++us.drop n).take n=rs:=by rw [List.take_append_of_le_length (by omega),yC (by omega)]
  have MI:∃e,∀hp:Hp,kw 0 n (some (true,1,(rs++us.drop n).map uc,hp))=some (.aE e n (rs.map uc),hp):=by
   refine ⟨true&&yQ 0 1&&yz n ((rs++us.drop n).map uc).length,fun hp=>?_⟩;simp only [kw,yg,yh,slice,yL,<-yab,eI];rw [yx (by simp;omega)];rfl
  obtain ⟨e,MI⟩:=MI;have jI:=nX e rs;rw [XQ] at jI;obtain ⟨r1,f2,cO⟩:=Cw h.nA jI (by omega);unfold aj at f1 f2;refine ⟨[(0,v)],us,qs,rs,⟨Rr,Ru,HI,XP,aR,aU,XQ,XR,Ql⟩,rfl,q1,r1,fK,cO,?_⟩
  simp only [go_sem,ya,yd,aw,t11,t12,t13,Cv _ (n:=m) (l:=qs) Ru true,f1,fK.shut,mL,dS,MI,f2,cO.shut];exact Uu fK cO _
 obtain ⟨tm,us,qs,rs,⟨Rr,Ru,HI,XP,aR,aU,XQ,XR,Ql⟩,_,q1,r1,fK,cO,e⟩:=jB;have kH:0<bv 18446744073709551616 y:=by
  have:=y8 (18446744073709551616^(n-1)) (show 1<=top by omega)
  have:=Nat.pow_pos (n:=n-1) eh
  omega
 rw [zQ] at aR aU;have Ly:bv 18446744073709551616 qs=bv 18446744073709551616 x/bv 18446744073709551616 y:=by
  rw [<-uW _ _ iI,<-aR,yaP,xO,tM (Nat.mul_pos kH iI),vc aU,y7]
 have Rv:bv 18446744073709551616 us=(bv 18446744073709551616 x%bv 18446744073709551616 y)*2^s:=by
  rw [<-vY,<-aR,yaP,xO (bv _ qs),tN,yY aU]
 have kV:=Jg (b:=18446744073709551616) us n (by omega);have jc:bv 18446744073709551616 (us.drop n)=0:=by
  rcases xB (bv 18446744073709551616 (us.drop n)) with h0 | h0
  ·exact h0
  ·have:=y8 (18446744073709551616^n) h0
   omega
 have hun:us.getD n 0=0:=by
  have:=OC (b:=18446744073709551616) (l:=us) (i:=n) (by omega)
  omega
 rw [jc,xM,y7] at kV;have CS:us.getD 0 0%2^s=0:=by
  have e1:=OC (b:=18446744073709551616) (l:=us) (i:=0) (by omega);rw [yL,Rv] at e1;have e2:18446744073709551616=2^s*2^(64-s):=by rw [<-wZ,show s+(64-s)=64 by omega]
  have e3:(us.getD 0 0+18446744073709551616*bv 18446744073709551616 (us.drop (0+1)))%2^s=us.getD 0 0%2^s:=by
   conv=>lhs;rw [e2,xx]
   exact Nat.add_mul_mod_self_left _ _ _
  rw [<-e3,<-e1,Nat.mul_mod_left]
 rw [hun,CS,Nat.zero_mod,xM,y7,y7,<-kV,Rv] at Ql;have agW:bv 18446744073709551616 rs=bv 18446744073709551616 x%bv 18446744073709551616 y:=Nat.eq_of_mul_eq_mul_right iI Ql;exact ⟨q1,r1,e,⟨_,fK,BK XP,BJ _,by rw [BI,Ly]⟩,⟨_,cO,BK XR,BJ _,by rw [BI,agW]⟩⟩
def aih (h:Wd P L) {v w:AV} {a b K:Nat} (hv:WN v a) (hw:WN w b) (hb:0<b) (ha:a<18446744073709551616^K) (hbK:b<18446744073709551616^K) (hK:K<=90000000000):
  ∃q r,aj P L 137 [v,w] (.az [q,r])/\WN q (a/b)/\WN r (a%b):=by
 obtain ⟨x,HJ,gx,nx,vx⟩:=hv;obtain ⟨y,Rw,gy,ny,vy⟩:=hw;have lx:x.length<=90000000000:=xv (pz nx vx ha) hK;have ly:y.length<=90000000000:=xv (pz ny vy hbK) hK;have ec:=ah3 h.aie HJ Rw gx gy nx ny (by omega) (by omega);subst vx;subst vy;by_cases hc:bv 18446744073709551616 x<bv 18446744073709551616 y
 ·have eK:dY (bv 18446744073709551616 x) (bv 18446744073709551616 y)= -1:=by unfold dY;rw [yA hc]
  rw [eK] at ec;refine ⟨.ab,v,?_,⟨[],z7,OT,rfl,by rw [vc hc];rfl⟩,⟨x,HJ,gx,nx,by rw [yY hc]⟩⟩
  unfold aj;rw [aI h.V5];simp only [go_sem,ya,K6,HJ.an,Rw.an,ec,show (-1:Int)<0 by decide];exact Uu z7 HJ _
 ·rcases (show y.length=0\/y.length=1\/2<=y.length by omega) with h0 | h1 | h2
  ·rw [List.eq_nil_of_length_eq_zero h0] at hb;simp [bv] at hb
  ·obtain ⟨d,rfl⟩:∃d,y=[d]:=by
    cases y with
    | nil=>simp at h1
    | cons d r=>cases r with
     | nil=>exact ⟨d,rfl⟩
     | cons e r=>simp at h1
   exact avz h HJ Rw gx lx hb (F9.1 gy) ec (by omega)
  ·exact avA h HJ Rw gx gy nx ny lx h2 ec (by omega)
end
end VE
