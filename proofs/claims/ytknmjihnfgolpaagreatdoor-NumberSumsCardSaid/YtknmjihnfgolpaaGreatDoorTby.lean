import Derived.Test.YtknmjihnfgolpaaGreatDoorTbx
import Derived.Test.YtknmjihnfgolpaaGreatDoorTbq
import Derived.Test.YtknmjihnfgolpaaGreatDoorTbh
import Derived.Test.YtknmjihnfgolpaaGreatDoorTbe
import Derived.Test.YtknmjihnfgolpaaGreatDoorTbg
import Derived.Test.YtknmjihnfgolpaaGreatDoorTat
set_option linter.all false
set_option maxRecDepth 100000
open Nat (reduceAdd reduceEqDiff)
section
namespace VE
open Go (IntKind)
theorem zl1 {P:zU} {L:Lib} (a b c d:VC) (s:St):D P L (.seq a (.seq b (.seq c d))) s=zfp P L (D P L (.seq a (.seq b c)) s) d:=by
 have e:=zdX (P:=P) (L:=L) b c d;rw [zd8,zd8]
 cases D P L a s with
 | none=>rfl
 | some q=>
  obtain ⟨ex,st⟩:=q
  cases ex with
  | normal=>rw [zaL,zaL];exact e st
  | ret=>rfl
  | exit id=>rfl
theorem zdh {a b:List Nat} (h:a≠b):eqL a b=false:=by
 cases hb:eqL a b with
 | false=>rfl
 | true=>exact absurd (zkt hb) h
theorem znU:∀a:List Nat,eqL a a=true
 | []=>rfl
 | x::a=>by simp [eqL,znU a]
theorem zo1 {a b:List Nat} (h:a=b):eqL a b=true:=h▸znU a
theorem ztI {s:List Nat} {i:Nat} (h:i<s.length):zbm (s.drop i)=(Nat.ble 48 s[i]&&Nat.ble s[i] 57&&zbm (s.drop (i+1))):=by
 rw [List.drop_eq_getElem_cons h];rfl
section
variable {P:zU} {L:Lib}
theorem zRj (h:Has P L 287 zyX) {s:List Nat} (hl:s.length≤1000000000000):zF P L 287 [.str s] (.bool (zbm s)):=by
 have key:=zT (P:=P) (L:=L) (live:=[0,3]) (a:=zgH)
  (I:=fun k st=>∃i:Nat,st=⟨[(0,.str s),(3,zf i)],[],0,0⟩∧i+k=s.length∧zbm (s.drop i)=zbm s)
  (Q:=fun ex st=>∃tm ct,st=⟨tm,[],ct,0⟩∧((ex= .ret∧zc tm 2= .bool false∧zbm s=false)∨(ex= .exit 0∧zbm s=true))) ?_
 ·unfold zF;rw [zd h];simp only [go_sem,zyX];generalize hq:D P L (.loop [0,3] zgH) _=q;obtain ⟨ex,st,rfl,tm,ct,rfl,h2⟩:=zae hq (key s.length) ⟨0,by simp only [go_sem,reduceEqDiff,za]<;>rfl,by omega,by simp⟩
  rcases h2 with ⟨rfl,h2,h3⟩ | ⟨rfl,h3⟩
  ·simp only [go_sem,h2,h3]
  ·simp only [go_sem,za,h3]
 ·rintro k st ⟨i,rfl,hk,hs⟩;by_cases hi:i<s.length
  ·rw [ztI hi] at hs;by_cases h1:s[i]<48
   ·right
    have e:Nat.ble 48 s[i]=false:=by
     cases hb:Nat.ble 48 s[i] with
     | false=>rfl
     | true=>have:=Nat.le_of_ble_eq_true hb;omega
    rw [e,Bool.false_and,Bool.false_and] at hs;simp only [go_sem,reduceEqDiff,zgH,show (i:Int)<s.length by omega,zcU hi,show ((s[i]:Nat):Int)<48 by omega,decide_true];exact ⟨_,_,rfl,by simp,_,_,rfl,.inl ⟨rfl,by simp only [go_sem],hs.symm⟩⟩
   ·by_cases h2:57<s[i]
    ·right
     have e:Nat.ble s[i] 57=false:=by
      cases hb:Nat.ble s[i] 57 with
      | false=>rfl
      | true=>have:=Nat.le_of_ble_eq_true hb;omega
     rw [e,Bool.and_false,Bool.false_and] at hs;simp only [go_sem,reduceEqDiff,zgH,show (i:Int)<s.length by omega,zcU hi,show ¬((s[i]:Nat):Int)<48 by omega,decide_false,show (57:Int)<((s[i]:Nat):Int) by omega];exact ⟨_,_,rfl,by simp,_,_,rfl,.inl ⟨rfl,by simp only [go_sem],hs.symm⟩⟩
    ·left
     rw [Nat.ble_eq_true_of_le (show 48≤s[i] by omega),Nat.ble_eq_true_of_le (show s[i]≤57 by omega),Bool.true_and,Bool.true_and] at hs;simp only [go_sem,reduceEqDiff,zgH,show (i:Int)<s.length by omega,zcU hi,show ¬((s[i]:Nat):Int)<48 by omega,decide_false,show ¬(57:Int)<((s[i]:Nat):Int) by omega];refine ⟨_,k-1,rfl,by omega,i+1,?_,by omega,hs⟩;rw [zg (by omega) (by omega)];simp only [go_sem,reduceEqDiff,za]<;>rfl
  ·right
   simp only [go_sem,reduceEqDiff,zgH,show ¬(i:Int)<s.length by omega];refine ⟨_,_,rfl,by simp,_,_,rfl,.inr ⟨rfl,?_⟩⟩;rw [←hs,List.drop_eq_nil_of_le (by omega)];rfl
theorem zCI (h:Has P L 273 zqa) (h287:Has P L 287 zyX) {s:List Nat} (hl:s.length≤1000000000000):zF P L 273 [.str s] (.bool (zbF s)):=by
 have e:=zRj h287 hl;unfold zF at e ⊢;rw [zd h]
 match s,hl,e with
 | [],_,_=>
  simp only [go_sem,reduceEqDiff,zqa,List.length_nil,show ((0:Nat):Int)=0 from rfl,decide_true];rfl
 | [b],_,e=>
  have:zbF [b]=zbm [b]:=by simp [zbF]
  rw [this];simp only [go_sem,reduceEqDiff,zqa,List.length_cons,List.length_nil,Nat.zero_add,show ¬((1:Nat):Int)=0 by decide,show ¬(1:Int)<((1:Nat):Int) by decide,decide_false,e]
 | b::c::r,hl,e=>
  have hd:zbF (b::c::r)=(zbm (b::c::r)&& !(Nat.beq b 48)):=by simp [zbF]
  rw [hd];have hl':r.length+2≤1000000000000:=by simpa using hl
  by_cases hb:b=48
  ·subst hb;simp only [go_sem,reduceEqDiff,zqa,List.length_cons,show ¬((r.length+1+1:Nat):Int)=0 by omega,decide_false,show (1:Int)<((r.length+1+1:Nat):Int) by omega,show zem 0 (.str (48::c::r))=some (.int .u8 48) from rfl,decide_true]
   simp
  ·have:Nat.beq b 48=false:=zaQ hb
   rw [this,Bool.not_false,Bool.and_true];simp only [go_sem,reduceEqDiff,zqa,List.length_cons,show ¬((r.length+1+1:Nat):Int)=0 by omega,decide_false,show (1:Int)<((r.length+1+1:Nat):Int) by omega,show zem 0 (.str (b::c::r))=some (.int .u8 (b:Nat)) from rfl,show ¬((b:Nat):Int)=48 by omega,e]
theorem znv {s:List Nat} {k:Nat} (h:k≤s.length):zeb s (some 0) (some k)=some (.str (s.take k)):=by
 rw [zbl (by omega) h,List.drop_zero]
theorem zhk {s:List Nat} {k:Nat} (h:k≤s.length):zeb s (some k) (some s.length)=some (.str (s.drop k)):=by
 rw [zbl h (Nat.le_refl _),List.take_length]
theorem zLL (h:Rn P L) {t:List Nat} {k:Nat} (hk:k=zO t) (hl:t.length≤1000000000) (hp:zbF (t.take k)=true) {tm:Env} (t3:zc tm 3= .str t) (t4:zc tm 4=zf k):
  zdE [.t 2] (D P L (zu (zu (zu (zu (zu c263.body))))) ⟨tm,[],0,0⟩)=some (zf (
   if k<t.length∧(zbF (t.drop (k+1))=false∨t.drop (k+1)=[48]∨t.drop (k+1)=[49]) then 1
   else if 600<k∨600<t.length-k-1 then 4
   else if k<t.length∧Nat.gcd (zcX (t.take k)) (zcX (t.drop (k+1)))≠1 then 1
   else 0)):=by
 have hkl:k≤t.length:=by rw [hk];exact zdU t
 have e3:=zCI h.h273 h.h287 (s:=t.drop (k+1)) (by rw [List.length_drop];omega);unfold zF at e3;have ek1:(k:Int)+1=((k+1:Nat):Int):=rfl;by_cases hs:k<t.length
 ·have c2:=zhk (s:=t) (k:=k+1) (by omega);have hsplit:=zgn t (by omega);rw [←hk] at hsplit;have hlq:(t.drop (k+1)).length=t.length-k-1:=by rw [List.length_drop];omega
  have hlp:(t.take k).length=k:=by rw [List.length_take];omega
  generalize hqe:t.drop (k+1)=q at*
  generalize hpe:t.take k=p at*
  cases hd:zbF q with
  | false=>
   rw [if_pos ⟨hs,.inl rfl⟩];rw [hd] at e3
   simp only [go_sem,reduceEqDiff,c263,zu,t3,t4,show (k:Int)<(t.length:Int) by omega,decide_true,ek1,zB (n:=k+1) (by omega),zah,zap,zab,c2,e3,Bool.not_false]
  | true=>
   rw [hd] at e3;by_cases h48:q=[48]
   ·rw [if_pos ⟨hs,.inr (.inl h48)⟩]
    simp only [go_sem,reduceEqDiff,c263,zu,t3,t4,show (k:Int)<(t.length:Int) by omega,decide_true,ek1,zB (n:=k+1) (by omega),zah,zap,zab,c2,e3,Bool.not_true,za0,zo1 h48]
   ·by_cases h49:q=[49]
    ·rw [if_pos ⟨hs,.inr (.inr h49)⟩]
     simp only [go_sem,reduceEqDiff,c263,zu,t3,t4,show (k:Int)<(t.length:Int) by omega,decide_true,ek1,zB (n:=k+1) (by omega),zah,zap,zab,c2,e3,Bool.not_true,za0,zdh h48,zo1 h49]
    ·rw [if_neg (by simp only [hs,true_and,Bool.true_eq_false,false_or];exact fun e=>e.elim h48 h49)]
     by_cases hlg:600<k
     ·rw [if_pos (.inl hlg)]
      simp only [go_sem,reduceEqDiff,c263,zu,t3,t4,show (k:Int)<(t.length:Int) by omega,decide_true,ek1,zB (n:=k+1) (by omega),zah,zap,zab,c2,e3,Bool.not_true,za0,zdh h48,zdh h49,show (600:Int)<(k:Int) by omega]
     ·by_cases hlg2:600<t.length-k-1
      ·rw [if_pos (.inr hlg2)]
       simp only [go_sem,reduceEqDiff,c263,zu,t3,t4,show (k:Int)<(t.length:Int) by omega,decide_true,ek1,zB (n:=k+1) (by omega),zah,zap,zab,c2,e3,Bool.not_true,za0,zdh h48,zdh h49,show ¬(600:Int)<(k:Int) by omega,decide_false,show (t.length:Int)-(k:Int)=((t.length-k:Nat):Int) by omega,zB (n:=t.length-k) (by omega),show ((t.length-k:Nat):Int)-1=((t.length-k-1:Nat):Int) by omega,zB (n:=t.length-k-1) (by omega),show (600:Int)<((t.length-k-1:Nat):Int) by omega]
      ·rw [if_neg (by omega)];have hpS:=zdS _ rfl hp;have hqS:=zdS _ rfl hd;have hd0:zcX q≠0:=fun e=>h48 (by rw [←hqS,e];rfl)
       have hd1:zcX q≠1:=fun e=>h49 (by rw [←hqS,e];rfl)
       generalize zcX p=n at*
       generalize zcX q=d at*
       have hT:TT (n:Int) d=t:=by
        unfold TT;rw [zbc,if_neg hd1,hpS,hqS];exact hsplit.symm
       obtain ⟨x,y,e4,hx,hy⟩:=zNE h.toRa (n:=(n:Int)) (d:=d) (by rw [Int.natAbs_natCast,hpS];omega) (by rw [hqS];omega);rw [hT] at e4;obtain ⟨xw,xl,rfl,hxw,dx,nx,vx⟩:=hx;obtain ⟨yw,yl,rfl,hyw,dy,ny,vy⟩:=hy;rw [Int.natAbs_natCast] at vx vy;have hnb:n<10^p.length:=by rw [←hpS];exact zhi n
       have hdb:d<10^q.length:=by rw [←hqS];exact zhi d
       obtain ⟨K,hK⟩:∃K:Nat,K=600:=⟨_,rfl⟩;have big:∀{m j:Nat},m<10^j→j≤K→m<1000000000^K:=fun {m j} h1 h2=>
        Nat.lt_of_lt_of_le h1 (Nat.le_trans (Nat.pow_le_pow_right (by decide) h2) (Nat.pow_le_pow_left (by decide) K))
       have lxl:=zbw dx nx (by rw [vx];exact big hnb (by omega))
       have lyl:=zbw dy ny (by rw [vy];exact big hdb (by omega))
       obtain ⟨g,lg,e5,hg,dgg,ngg,vg⟩:=zDN h.h275 h.h289 h.h293 h.h296 h.h299 h.h300 h.h301 hxw hyw dx dy nx ny (by omega) (by omega);rw [vx,vy] at vg;have hg0:0<Nat.gcd n d:=Nat.gcd_pos_of_pos_right _ (by omega);unfold zF at e4 e5;by_cases hlg1:lg.length=1
       ·obtain ⟨z,rfl⟩:∃z,lg=[z]:=by
         cases lg with
         | nil=>simp at hlg1
         | cons z r=>cases r with
          | nil=>exact ⟨z,rfl⟩
          | cons y r=>simp at hlg1
        have gz:=dg_one.1 dgg;have hzd:z=(Nat.gcd n d:Nat):=by simp [dv] at vg;omega
        have e8:=hg.ixa (i:=0) (by simp);simp only [List.getElem_cons_zero] at e8;by_cases hg1:Nat.gcd n d=1
        ·rw [if_neg (by simp [hg1])]
         simp only [go_sem,reduceEqDiff,reduceAdd,c263,zu,t3,t4,show (k:Int)<(t.length:Int) by omega,decide_true,ek1,zB (n:=k+1) (by omega),zah,zap,zab,c2,e3,Bool.not_true,za0,zdh h48,zdh h49,show ¬(600:Int)<(k:Int) by omega,decide_false,show (t.length:Int)-(k:Int)=((t.length-k:Nat):Int) by omega,zB (n:=t.length-k) (by omega),show ((t.length-k:Nat):Int)-1=((t.length-k-1:Nat):Int) by omega,zB (n:=t.length-k-1) (by omega),show ¬(600:Int)<((t.length-k-1:Nat):Int) by omega,e4,zo,hxw.pu,hxw.frz,hxw.one,hyw.pu,hyw.frz,hyw.one,zbM,zE,Nat.zero_add,zau,e5,hg.len,hg.shut,List.length_cons,List.length_nil,show ((1:Nat):Int)=(1:Int) from rfl,Bool.not_true,e8,hzd,hg1]
        ·rw [if_pos ⟨hs,hg1⟩]
         simp only [go_sem,reduceEqDiff,reduceAdd,c263,zu,t3,t4,show (k:Int)<(t.length:Int) by omega,decide_true,ek1,zB (n:=k+1) (by omega),zah,zap,zab,c2,e3,Bool.not_true,za0,zdh h48,zdh h49,show ¬(600:Int)<(k:Int) by omega,decide_false,show (t.length:Int)-(k:Int)=((t.length-k:Nat):Int) by omega,zB (n:=t.length-k) (by omega),show ((t.length-k:Nat):Int)-1=((t.length-k-1:Nat):Int) by omega,zB (n:=t.length-k-1) (by omega),show ¬(600:Int)<((t.length-k-1:Nat):Int) by omega,e4,zo,hxw.pu,hxw.frz,hxw.one,hyw.pu,hyw.frz,hyw.one,zbM,zE,Nat.zero_add,zau,e5,hg.len,hg.shut,List.length_cons,List.length_nil,show ((1:Nat):Int)=(1:Int) from rfl,Bool.not_true,e8,hzd,show ¬((Nat.gcd n d:Nat):Int)=1 by omega,Bool.not_false]
       ·have hg1:Nat.gcd n d≠1:=fun e=>hlg1 (by
         have h1:lg.length≤1:=zsO dgg ngg (by omega);have h2:0<lg.length:=by
          rcases Nat.eq_zero_or_pos lg.length with h0 | h0
          ·rw [List.eq_nil_of_length_eq_zero h0] at vg;simp [dv] at vg;omega
          ·exact h0
         omega)
        rw [if_pos ⟨hs,hg1⟩]
        simp only [go_sem,reduceEqDiff,reduceAdd,c263,zu,t3,t4,show (k:Int)<(t.length:Int) by omega,decide_true,ek1,zB (n:=k+1) (by omega),zah,zap,zab,c2,e3,Bool.not_true,za0,zdh h48,zdh h49,show ¬(600:Int)<(k:Int) by omega,decide_false,show (t.length:Int)-(k:Int)=((t.length-k:Nat):Int) by omega,zB (n:=t.length-k) (by omega),show ((t.length-k:Nat):Int)-1=((t.length-k-1:Nat):Int) by omega,zB (n:=t.length-k-1) (by omega),show ¬(600:Int)<((t.length-k-1:Nat):Int) by omega,e4,zo,hxw.pu,hxw.frz,hxw.one,hyw.pu,hyw.frz,hyw.one,zbM,zE,Nat.zero_add,zau,e5,hg.len,hg.shut,show ¬(lg.length:Int)=1 by omega,Bool.not_false]
 ·have hkt:k=t.length:=by omega
  rw [if_neg (by omega)];by_cases hlg:600<k
  ·rw [if_pos (.inl hlg)];simp only [go_sem,reduceEqDiff,c263,zu,t3,t4,show ¬(k:Int)<(t.length:Int) by omega,decide_false,show (600:Int)<(k:Int) by omega,decide_true]
  ·rw [if_neg (by omega),if_neg (by omega)]
   simp only [go_sem,reduceEqDiff,c263,zu,t3,t4,show ¬(k:Int)<(t.length:Int) by omega,decide_false,show ¬(600:Int)<(k:Int) by omega,show (t.length:Int)-(k:Int)=((t.length-k:Nat):Int) by omega,zB (n:=t.length-k) (by omega),show ((t.length-k:Nat):Int)-1= -1 by omega,show IntKind.wrap .i64 (-1)= -1 by rfl,show ¬(600:Int)<(-1:Int) by omega]
theorem zxF (h:Rn P L) {b:Nat} {r:List Nat} {t:List Nat} {neg:Bool} (hneg:decide (((b:Nat):Int)=45)=neg) (hl:t.length≤1000000000) {tm:Env} (t0:zc tm 0= .str (b::r)) (t3:zc tm 3= .str t):
  zdE [.t 2] (D P L (zu (zu (zu c263.body))) ⟨tm,[],0,0⟩)=some (zf (zm3 neg t)):=by
 obtain ⟨k,hk⟩:∃k,k=zO t:=⟨_,rfl⟩;have hkl:k≤t.length:=by rw [hk];exact zdU t
 have e1:=zuQ h.h272 (s:=t) (by omega);have e2:=zCI h.h273 h.h287 (s:=t.take k) (by rw [List.length_take];omega);have e3:=zCI h.h273 h.h287 (s:=t.drop (k+1)) (by rw [List.length_drop];omega);unfold zm3;rw [←hk] at e1 ⊢;have c1:=znv hkl;have hI:zem 0 (.str (b::r))=some (.int .u8 (b:Nat)):=rfl;unfold zF at e1 e2 e3;generalize hp:t.take k=p at*
 generalize hq:t.drop (k+1)=q at*
 cases hd:zbF p with
 | false=>
  rw [if_pos (.inl rfl)];rw [hd] at e2;simp only [go_sem,reduceEqDiff,c263,zu,t3,e1,zah,zap,zab,c1,e2,Bool.not_false]
 | true=>
  rw [hd] at e2;by_cases hz:neg=true∧p=[48]
  ·rw [if_pos (.inr hz)];obtain ⟨z1,z2⟩:=hz;rw [z1] at hneg;have hb:=of_decide_eq_true hneg;subst z2;simp only [go_sem,reduceEqDiff,c263,zu,t0,t3,e1,zah,zap,zab,c1,e2,Bool.not_true,hI,hb,decide_true,za0,show eqL [48] [48]=true from rfl]
  ·rw [if_neg (by simp only [Bool.true_eq_false,false_or];exact hz)]
   have fin:∀tm',zc tm' 3= .str t→zc tm' 4=zf k→D P L (.seq (zar (zu (zu (zu c263.body)))) (zar (zu (zu (zu (zu c263.body)))))) ⟨tm,[],0,0⟩=some (.normal,⟨tm',[],0,0⟩)→zdE [.t 2] (D P L (zu (zu (zu c263.body))) ⟨tm,[],0,0⟩)=some (zf (
     if k<t.length∧(zbF q=false∨q=[48]∨q=[49]) then 1
     else if 600<k∨600<t.length-k-1 then 4
     else if k<t.length∧Nat.gcd (zcX p) (zcX q)≠1 then 1
     else 0)):=fun tm' f3 f4 e=>by
    show zdE [.t 2] (D P L (.seq (zar (zu (zu (zu c263.body)))) (.seq (zar (zu (zu (zu (zu c263.body))))) (zu (zu (zu (zu (zu c263.body))))))) ⟨tm,[],0,0⟩)=_
    rw [zdX,e,zaL,←hp,←hq];exact zLL h hk hl (by rw [hp];exact hd) f3 f4
   by_cases hb:((b:Nat):Int)=45
   ·have hp48:p≠[48]:=fun e=>hz ⟨by rw [←hneg];exact decide_eq_true hb,e⟩
    refine fin _ ?_ ?_ (by simp only [go_sem,reduceEqDiff,c263,zar,zu,t0,t3,e1,zah,zap,zab,c1,e2,Bool.not_true,hI,hb,decide_true,za0,zdh hp48]<;>rfl)<;>simp only [go_sem,reduceEqDiff,t3]
   ·refine fin _ ?_ ?_ (by simp only [go_sem,reduceEqDiff,c263,zar,zu,t0,t3,e1,zah,zap,zab,c1,e2,Bool.not_true,hI,hb,decide_false]<;>rfl)<;>simp only [go_sem,reduceEqDiff,t3]
theorem zOO (h:Rn P L) {s:List Nat} (hl:s.length≤1000000000):zF P L 263 [.str s] (zf (chk s)):=by
 unfold zF;rw [zd h.h263]
 cases s with
 | nil=>
  have e1:=zuQ h.h272 (s:=[]) (by simp);have e2:=zCI h.h273 h.h287 (s:=[]) (by simp);unfold zF at e1 e2;have hc:zeb [] (some 0) (some 0)=some (.str []):=rfl;simp only [go_sem,reduceEqDiff,c263,List.length_nil,show ¬(0:Int)<((0:Nat):Int) by decide,decide_false,e1,zO,zah,zap,zab,hc,e2,show zbF []=false from rfl,Bool.not_false];rfl
 | cons b t=>
  have hl':t.length+1≤1000000000:=by simpa using hl
  have hI:zem 0 (.str (b::t))=some (.int .u8 (b:Nat)):=rfl;by_cases hb:b=45
  ·subst hb;have fin:∀tm',zc tm' 0= .str (45::t)→zc tm' 3= .str t→D P L (.seq (zar c263.body) (.seq (zar (zu c263.body)) (zar (zu (zu c263.body))))) ⟨[(0,.str (45::t))],[],0,0⟩=some (.normal,⟨tm',[],0,0⟩)→zdE [.t 2] (D P L c263.body ⟨[(0,.str (45::t))],[],0,0⟩)=some (zf (chk (45::t))):=fun tm' f0 f3 e=>by
    show zdE [.t 2] (D P L (.seq (zar c263.body) (.seq (zar (zu c263.body)) (.seq (zar (zu (zu c263.body))) (zu (zu (zu c263.body)))))) ⟨[(0,.str (45::t))],[],0,0⟩)=_
    rw [zl1,e,zaL]
    exact zxF h (b:=45) rfl (by omega) f0 f3
   have hc:zeb (45::t) (some 1) (some (t.length+1))=some (.str t):=by
    have:=zhk (s:=45::t) (k:=1) (by simp)
    simpa using this
   refine fin _ ?_ ?_ (by simp only [go_sem,reduceEqDiff,c263,zar,zu,List.length_cons,show (0:Int)<((t.length+1:Nat):Int) by omega,decide_true,zpL,zah,zap,zab,hc]<;>rfl)<;>simp only [go_sem,reduceEqDiff]
  ·have fin:∀tm',zc tm' 0= .str (b::t)→zc tm' 3= .str (b::t)→D P L (.seq (zar c263.body) (.seq (zar (zu c263.body)) (zar (zu (zu c263.body))))) ⟨[(0,.str (b::t))],[],0,0⟩=some (.normal,⟨tm',[],0,0⟩)→zdE [.t 2] (D P L c263.body ⟨[(0,.str (b::t))],[],0,0⟩)=some (zf (chk (b::t))):=fun tm' f0 f3 e=>by
    show zdE [.t 2] (D P L (.seq (zar c263.body) (.seq (zar (zu c263.body)) (.seq (zar (zu (zu c263.body))) (zu (zu (zu c263.body)))))) ⟨[(0,.str (b::t))],[],0,0⟩)=_
    rw [zl1,e,zaL]
    have:=zxF h (b:=b) (neg:=false) (decide_eq_false (by omega)) (by simpa using hl) f0 f3
    rw [this];simp only [chk,if_neg hb]
   refine fin _ ?_ ?_ (by simp only [go_sem,reduceEqDiff,c263,zar,zu,List.length_cons,show (0:Int)<((t.length+1:Nat):Int) by omega,decide_true,hI,show ¬((b:Nat):Int)=45 by omega]<;>rfl)<;>simp only [go_sem,reduceEqDiff]
end
end VE
end
section
namespace VE
open Go (IntKind)
theorem zhy (n:Nat):10^n≤2^(4*n):=by
 rw [Nat.pow_mul];exact Nat.pow_le_pow_left (by decide) n
theorem zvB {b:Nat} {r:List Nat} (h:zbm (b::r)=true):48≤b∧b≤57:=by
 simp only [zbm,Bool.and_eq_true] at h;exact ⟨Nat.le_of_ble_eq_true h.1.1,Nat.le_of_ble_eq_true h.1.2⟩
section
variable {P:zU} {L:Lib}
theorem zzC (h:Tx P L) {ds:List Nat} {N:Nat} (hD:za3 ds 0=some N) (hl:ds.length≤4000000000) {neg:Bool} {o1 o2:AV}:
  ∀m st,(∃(pre rest:List Nat) (a:Nat) (s:Int) (w:AV),zC [0,2,3,4] st=⟨[(0,.str rest),(2,.ptr 0 0),(3,.bool neg),(4,.ptr 1 0)],[(1,.cells true true true 2 [zf s,w]),(0,.cells true true true 2 [o1,o2])],2,0⟩∧ds=pre++rest∧za3 pre 0=some a∧Nok s w a∧rest.length=m)→
   ∃ex st',D P L (.loop [0,2,3,4] zie) st=some (ex,st')∧∃tm s w,st'=⟨tm,[(1,.cells true true true 2 [zf s,w]),(0,.cells true true true 2 [o1,o2])],2,0⟩∧ex= .exit 0∧zc tm 2= .ptr 0 0∧zc tm 3= .bool neg∧zc tm 4= .ptr 1 0∧Nok s w N:=by
 refine zT (I:=fun m st=>∃(pre rest:List Nat) (a:Nat) (s:Int) (w:AV),st=⟨[(0,.str rest),(2,.ptr 0 0),(3,.bool neg),(4,.ptr 1 0)],[(1,.cells true true true 2 [zf s,w]),(0,.cells true true true 2 [o1,o2])],2,0⟩∧ds=pre++rest∧za3 pre 0=some a∧Nok s w a∧rest.length=m)
  (Q:=fun ex st'=>∃tm s w,st'=⟨tm,[(1,.cells true true true 2 [zf s,w]),(0,.cells true true true 2 [o1,o2])],2,0⟩∧ex= .exit 0∧zc tm 2= .ptr 0 0∧zc tm 3= .bool neg∧zc tm 4= .ptr 1 0∧Nok s w N) ?_
 rintro m st ⟨pre,rest,a,s,w,rfl,hds,hpre,hn,rfl⟩;obtain ⟨l1,u1⟩:=hn.isU;have hall:=hD;rw [hds,zfA,hpre] at hall;have hall:za3 rest a=some N:=hall;have hlen:pre.length+rest.length≤4000000000:=by rw [hds,List.length_append] at hl;exact hl
 by_cases h0:rest.length=0
 ·right
  have hr:rest=[]:=List.eq_nil_of_length_eq_zero h0;subst hr
  have:a=N:=by simpa [za3] using hall
  subst this;simp only [go_sem,zie,List.length_nil,show ¬(0:Int)<((0:Nat):Int) by omega];exact ⟨_,_,rfl,by simp,_,s,w,rfl,rfl,by simp only [go_sem,reduceEqDiff],by simp only [go_sem,reduceEqDiff],by simp only [go_sem,reduceEqDiff],hn⟩
 ·left
  obtain ⟨n,hnn⟩:∃n,n=min 18 rest.length:=⟨_,rfl⟩;have hmin:(if (rest.length:Int)<18 then (rest.length:Int) else 18)=(n:Int):=by split<;>omega
  have hsp:rest.take n++rest.drop n=rest:=List.take_append_drop n rest;obtain ⟨a',ha'⟩:∃a',za3 (rest.take n) a=some a':=by
   rw [←hsp,zfA] at hall
   cases hq:za3 (rest.take n) a with
   | none=>rw [hq] at hall;cases hall
   | some a'=>exact ⟨a',rfl⟩
  obtain ⟨v,hv⟩:∃v,za3 (rest.take n) 0=some v:=by
   have:∀(l:List Nat) (x y b:Nat),za3 l x=some y→∃z,za3 l b=some z:=by
    intro l
    induction l with
    | nil=>intro x y b _;exact ⟨b,rfl⟩
    | cons c l ih=>
     intro x y b hh;simp only [za3] at hh ⊢
     cases hb:(Nat.ble 48 c&&Nat.ble c 57) with
     | false=>rw [hb] at hh;cases hh
     | true=>rw [hb] at hh;exact ih _ _ _ hh
   exact this _ _ _ 0 ha'
  have hacc:=zy5 (a:=a) hv;have htl:(rest.take n).length=n:=by rw [List.length_take];omega
  rw [htl,ha',Option.some.injEq] at hacc;have hvlt:=zmC hv;rw [htl] at hvlt;have hv18:v<1000000000000000000:=Nat.lt_of_lt_of_le hvlt (Nat.pow_le_pow_right (n:=10) (by decide) (show n≤18 by omega));have e1:=zBW (P:=P) h.h154 (f:=D P L) (s:=rest.take n) (by omega) (by omega) hv;obtain ⟨t1,t2⟩:=ztS h.toNu (z:=10) (by decide) (by decide);obtain ⟨t3,t4⟩:=ztS h.toNu (z:=(v:Int)) (by omega) (by omega);obtain ⟨p,e2,hp⟩:=zQU h.toNu h.h155 t2 (K:=4) (k:=n) (by unfold Bd;decide) (by omega) (by omega)
  have halt:=zmC hpre;have ba:Bd (4*pre.length) (a:Int):=Nat.lt_of_lt_of_le halt (zhy _);have bp:Bd (4*n+1) ((10:Int)^n):=Bd.pow (k:=4) (by unfold Bd;decide) n
  obtain ⟨q,e3,hq⟩:=zlk h.toNu (v:= .agg [zf s,w]) ⟨s,w,rfl,hn⟩ hp (K:=4*pre.length+4*n+1) (ba.mono (by omega)) (bp.mono (by omega)) (by omega);have bv':Bd (4*n) (v:Int):=Nat.lt_of_lt_of_le hvlt (zhy _);obtain ⟨r,e4,hr⟩:=zzz h.toNu hq t4 (K:=4*pre.length+4*n+1) ((ba.mul bp).mono (by omega)) (bv'.mono (by omega)) (by omega);have hval:(a:Int)*10^n+(v:Int)=(a':Int):=by
   rw [hacc]
   simp
  rw [hval] at hr;obtain ⟨s2,w2,rfl,h2⟩:=hp;obtain ⟨s3,w3,rfl,h3⟩:=hq;obtain ⟨s4,w4,rfl,h4⟩:=hr;obtain ⟨l2,u2⟩:=h2.isU;obtain ⟨l3,u3⟩:=h3.isU;obtain ⟨l4,u4⟩:=h4.isU;have un:=zcM;have c1:zeb rest (some 0) (some n)=some (.str (rest.take n)):=by rw [zbl (by omega) (by omega),List.drop_zero]
  have c2:zeb rest (some n) (some rest.length)=some (.str (rest.drop n)):=by rw [zbl (by omega) (by omega),List.take_length]
  unfold zF at t1 t3 e2 e3 e4;simp only [go_sem,reduceEqDiff,zie,show (0:Int)<(rest.length:Nat) by omega,zpG,zkG,hmin,zah,zap,zab,c1,c2,e1,z9,t1,t3,zx,u1.frz,u2.frz,u3.frz,un.frz,e2,e3,e4,zD,z9,List.drop_zero,zaU u4];refine ⟨_,(rest.drop n).length,rfl,by rw [List.length_drop];omega,pre++rest.take n,rest.drop n,a',s4,w4,by simp only [go_sem,reduceEqDiff,reduceAdd,za],by rw [List.append_assoc,hsp];exact hds,by rw [zfA,hpre];exact ha',h4,rfl⟩
theorem zim {b:Nat} {r:List Nat} (h:48≤b):zbN [45] (b::r)=false:=by
 show (Nat.beq 45 b&&true)=false
 rw [zaQ (by omega)];rfl
theorem zxL (h:Tx P L) {z:Int} (hz:(zW z).length≤4000000000):∃r,zF P L 110 [.str (zW z)] r∧IsN r z:=by
 have hN:=zdc z.natAbs;have un:=zcM;have hzl:(zn z.natAbs).length≤4000000000:=by
  by_cases h0:z<0
  ·rw [zbo h0] at hz;simp at hz;omega
  ·rw [←za5,if_neg h0] at hz;simpa using hz
 have ba:Bd (4*(zn z.natAbs).length) (z.natAbs:Int):=Nat.lt_of_lt_of_le (zmC hN) (zhy _);by_cases h0:z<0
 ·have hs:zW z=45::zn z.natAbs:=zbo h0;have e1:zj P L (D P L) 152 [.str (45::zn z.natAbs),.str [45]]=some (.bool true):=by rw [zaI h.h152];rfl
  have e2:zj P L (D P L) 153 [.str (45::zn z.natAbs),.str [45]]=some (.str (zn z.natAbs)):=by rw [zaI h.h153];rfl
  have goal:∃s w r,zF P L 110 [.str (zW z)] r∧Nok s w (z.natAbs:Int)∧zF P L 147 [.agg [zf s,w]] r∧IsN r (-(z.natAbs:Int)):=by
   rw [hs];unfold zF;rw [zd h.h110];simp only [go_sem,reduceEqDiff,reduceAdd,zBv,zo,e1,e2,un.pu,un.one,zaU un];generalize hq:D P L (.loop [0,2,3,4] zie) _=q;obtain ⟨ex,st,rfl,tm,s,w,rfl,rfl,t2,t3,t4,h5⟩:=zae hq (zzC (P:=P) (L:=L) h hN hzl (neg:=true) (o1:= .int .i64 0) (o2:= .nils) (zn z.natAbs).length) ⟨[],zn z.natAbs,0,0,.nils,by simp only [go_sem,reduceEqDiff,reduceAdd,za]<;>rfl,rfl,rfl,.inl ⟨rfl,rfl,by decide,by decide⟩,rfl⟩
   obtain ⟨l5,u5⟩:=h5.isU;obtain ⟨r,e3,hr⟩:=zvd h.toNu (v:= .agg [zf s,w]) ⟨s,w,rfl,h5⟩ (K:=4*(zn z.natAbs).length) ba (by omega);have hr':=hr;obtain ⟨s6,w6,rfl,h6⟩:=hr;obtain ⟨l6,u6⟩:=h6.isU;unfold zF at e3;refine ⟨s,w,_,?_,h5,e3,hr'⟩;simp only [go_sem,reduceEqDiff,reduceAdd,za,t2,t3,t4,z9,zx,u5.frz,e3,zD,zL,zas,z9,List.drop_zero,zeo u6,zaU u6]
  obtain ⟨s,w,r,g1,_,_,g2⟩:=goal;rw [show -((z.natAbs:Nat):Int)=z by omega] at g2;exact ⟨r,g1,g2⟩
 ·have hs:zW z=zn z.natAbs:=by rw [←za5,if_neg h0];rfl
  obtain ⟨b,r0,hb,hb1,hb2⟩:=zdT z.natAbs;have e1:zj P L (D P L) 152 [.str (zn z.natAbs),.str [45]]=some (.bool false):=by
   rw [zaI h.h152,hb];show some (AV.bool (zbN [45] (b::r0)))=_
   rw [zim hb1]
  have e2:zj P L (D P L) 153 [.str (zn z.natAbs),.str [45]]=some (.str (zn z.natAbs)):=by
   rw [zaI h.h153,hb];show some (AV.str (bif zbN [45] (b::r0) then _ else _))=_
   rw [zim hb1];rfl
  have goal:∃s w,zF P L 110 [.str (zW z)] (.agg [zf s,w])∧Nok s w (z.natAbs:Int):=by
   rw [hs];unfold zF;rw [zd h.h110];simp only [go_sem,reduceEqDiff,reduceAdd,zBv,zo,e1,e2,un.pu,un.one,zaU un];generalize hq:D P L (.loop [0,2,3,4] zie) _=q;obtain ⟨ex,st,rfl,tm,s,w,rfl,rfl,t2,t3,t4,h5⟩:=zae hq (zzC (P:=P) (L:=L) h hN hzl (neg:=false) (o1:= .int .i64 0) (o2:= .nils) (zn z.natAbs).length) ⟨[],zn z.natAbs,0,0,.nils,by simp only [go_sem,reduceEqDiff,reduceAdd,za]<;>rfl,rfl,rfl,.inl ⟨rfl,rfl,by decide,by decide⟩,rfl⟩
   obtain ⟨l5,u5⟩:=h5.isU;refine ⟨s,w,?_,h5⟩;simp only [go_sem,reduceEqDiff,reduceAdd,za,t2,t3,t4,z9,zL,zas,z9,List.drop_zero,zeo u5,zaU u5]
  obtain ⟨s,w,g1,g2⟩:=goal;rw [show ((z.natAbs:Nat):Int)=z by omega] at g2;exact ⟨_,g1,s,w,rfl,g2⟩
theorem zeN (b:Nat) (r:List Nat) (c:Nat):zbN [c] (b::r)=Nat.beq c b:=by
 show (Nat.beq c b&&true)=_
 rw [Bool.and_true]
theorem ziE:∀(l r:List Nat) (k:Nat),(∀x,x∈l→x≠47)→zcw [47] (l++47::r) k=some (k+l.length)
 | [],r,k,_=>by
  show (bif zbN [47] (47::r) then some k else _)=_
  rw [zeN];rfl
 | b::l,r,k,h=>by
  show (bif zbN [47] (b::(l++47::r)) then some k else zcw [47] (l++47::r) (k+1))=_
  rw [zeN,zaQ (fun e=>h b (by simp) e.symm),cond_false,ziE l r (k+1) (fun x hx=>h x (by simp [hx])),List.length_cons]
  congr 1;omega
theorem zkA:∀(l:List Nat) (k:Nat),(∀x,x∈l→x≠47)→zcw [47] l k=none
 | [],k,_=>rfl
 | b::l,k,h=>by
  show (bif zbN [47] (b::l) then some k else zcw [47] l (k+1))=_
  rw [zeN,zaQ (fun e=>h b (by simp) e.symm),cond_false,zkA l (k+1) (fun x hx=>h x (by simp [hx]))]
theorem znp:∀{l:List Nat},zbm l=true→∀x,x∈l→48≤x∧x≤57
 | [],_,x,hx=>by simp at hx
 | b::l,h,x,hx=>by
  have h1:=zvB h;simp only [zbm,Bool.and_eq_true] at h;rcases List.mem_cons.1 hx with rfl | hx
  ·exact h1
  ·exact znp h.2 x hx
theorem zgj (z:Int):∀x,x∈zW z→x≠47:=fun x hx=>by
 rw [←za5] at hx;rcases List.mem_append.1 hx with h | h
 ·split at h
  ·simp at h;omega
  ·simp at h
 ·have:=znp (zeK _) x h;omega
theorem m62 (h:Tx P L) {a:Rat} (hl:(RT a).length<4000000000):∃r,zF P L 62 [.str (RT a)] r∧IsQ r a:=by
 have hns:=zgj a.num;unfold RT at hl ⊢;by_cases hd:a.den=1
 ·rw [if_pos hd,List.append_nil] at hl ⊢;obtain ⟨p,e1,hp⟩:=zxL h (z:=a.num) (by omega);obtain ⟨r,e2,hr⟩:=zOM h.toFr' hp;rw [←zmt a hd] at hr;have hr':=hr;obtain ⟨s1,w1,rfl,h1⟩:=hp;obtain ⟨s2,w2,s3,w3,rfl,h2,h3⟩:=hr;obtain ⟨l1,u1⟩:=h1.isU;obtain ⟨l2,u2⟩:=h2.isU;obtain ⟨l3,u3⟩:=h3.isU;have e0:zj P L (D P L) 109 [.str (zW a.num),.str [47]]=some (.tup [.str (zW a.num),.str [],.bool false]):=by
   rw [zaI h.h109];show (bif Nat.blt (zW a.num).length 4294967281 then (match zcw [47] (zW a.num) 0 with | some i=>_ | none=>some (AV.tup [.str (zW a.num),.str [],.bool false])) else none)=_
   rw [zdo (by omega),zkA _ _ hns];rfl
  refine ⟨_,?_,hr'⟩;unfold zF at e1 e2;unfold zF;rw [zd h.h62];simp only [go_sem,reduceEqDiff,reduceAdd,c62,zo,e0,e1,zD,u1.frz,zx,e2,zd0 u2 u3,zL,zas,List.drop_zero,zb0,zed u2 u3]
 ·rw [if_neg hd] at hl ⊢;simp only [List.length_append,List.length_cons] at hl;obtain ⟨p,e1,hp⟩:=zxL h (z:=a.num) (by omega);obtain ⟨q,e2,hq⟩:=zxL h (z:=(a.den:Int)) (by rw [zbc];omega);rw [zbc] at e2;obtain ⟨s1,w1,rfl,h1⟩:=hp;obtain ⟨s2,w2,rfl,h2⟩:=hq;obtain ⟨l1,u1⟩:=h1.isU;obtain ⟨l2,u2⟩:=h2.isU;have e0:zj P L (D P L) 109 [.str (zW a.num++47::zn a.den),.str [47]]=some (.tup [.str (zW a.num),.str (zn a.den),.bool true]):=by
   rw [zaI h.h109];show (bif Nat.blt (zW a.num++47::zn a.den).length 4294967281 then (match zcw [47] (zW a.num++47::zn a.den) 0 with | some i=>some (AV.tup [.str ((zW a.num++47::zn a.den).take i),.str ((zW a.num++47::zn a.den).drop (i+1)),.bool true]) | none=>_) else none)=_
   rw [zdo (by simp;omega),ziE _ _ _ hns];simp only [Nat.zero_add,cond_true,List.take_left];rw [show (zW a.num).length+1=(zW a.num++[47]).length by simp,show zW a.num++47::zn a.den=(zW a.num++[47])++zn a.den by simp,List.drop_left]
  refine ⟨.agg [zf s1,w1,zf s2,w2],?_,s1,w1,s2,w2,rfl,h1,h2⟩;unfold zF at e1 e2;unfold zF;rw [zd h.h62];simp only [go_sem,reduceEqDiff,reduceAdd,c62,zo,e0,e1,e2,zD,u1.one,u2.one,zf2,zfV,zd0 u1 u2,zL,zas,List.drop_zero,zb0,zed u1 u2]
end
end VE
end
section
namespace VE
namespace Nd
structure Ord (n:Nat) (l:List Int):Prop where
 len:l.length=n
 rng:∀a,a<n→0≤l.getD a 0∧l.getD a 0<n
 inj:∀a b,a<n→b<n→l.getD a 0=l.getD b 0→a=b
end Nd
end VE
end
section
namespace VE
namespace Nd
open Go (IntKind)
section
variable {P:zU} {L:Lib}
abbrev zF (P:zU) (L:Lib) (f:Nat) (vals:List AV) (r:AV):Prop:=zj P L (D P L) f vals=some r
theorem w124 (h:Has P L 124 zvu) (b:Bool) (n:Int):zF P L 124 [.bool b,zf n] (zf (if b=true then n else 0)):=by
 unfold zF;rw [zd h]
 cases b with
 | true=>simp only [go_sem,reduceEqDiff,zvu,if_true]
 | false=>simp only [go_sem,reduceEqDiff,zvu];rfl
theorem w125 (h:Has P L 125 zB5) {v:AV} {l:List Int} (hv:IsI v l) (hl:l.length≤1000000):zF P L 125 [v] (zf (z8 l)):=by
 unfold zF;rw [zd h];simp only [go_sem,reduceEqDiff,zB5,hv.len];have key:=zkF (P:=P) (L:=L) (live:=[5,6,7]) (a:=zm5)
  (I:=fun k s=>∃tm ct i,s=⟨tm,[],ct,0⟩∧zc tm 5=v∧zc tm 6=zf l.length∧zc tm 7=zf (i:Nat)∧i+k=l.length∧z8 (l.drop i)=z8 l)
  (Q:=fun ex s=>∃tm,s=⟨tm,[],0,0⟩∧((ex= .ret∧zc tm 2=zf (z8 l))∨(ex= .exit 0∧z8 l=0))) ?_ l.length
 ·generalize hq:D P L (.loop [5,6,7] zm5) _=q;obtain ⟨ex,s,rfl,tm,rfl,h2⟩:=zae hq key ⟨_,_,0,rfl,rfl,rfl,rfl,by omega,rfl⟩;rcases h2 with ⟨rfl,h2⟩ | ⟨rfl,h2⟩
  ·simp only [go_sem,h2]
  ·rw [h2];simp only [go_sem]
 ·rintro k s ⟨tm,ct,i,rfl,h5,h6,h7,hk,hf⟩;rw [zhq (by simp only [go_sem,h5,h6,h7,hv.pu])];simp only [go_sem,reduceEqDiff,h5,h6,h7,zm5];by_cases hi:i<l.length
  ·have hi':(i:Int)<l.length:=by omega
   rw [zix hi] at hf;by_cases hz:l[i]=0
   ·left
    simp only [go_sem,reduceEqDiff,hi',hv.ixa hi,hz];refine ⟨_,k-1,rfl,by omega,_,_,i+1,rfl,?_⟩;rw [zg (by omega) (by omega)];rw [if_pos hz] at hf;simp only [go_sem,reduceEqDiff];exact ⟨trivial,trivial,rfl,by omega,hf⟩
   ·right
    simp only [go_sem,reduceEqDiff,hi',hv.ixa hi,hz];rw [if_neg hz] at hf;refine ⟨_,_,rfl,by simp,_,rfl,.inl ⟨rfl,?_⟩⟩;simp only [go_sem,hf]
  ·right
   have hi':¬(i:Int)<l.length:=by omega
   simp only [go_sem,hi'];refine ⟨_,_,rfl,by simp,_,rfl,.inr ⟨rfl,?_⟩⟩;rw [←hf,List.drop_eq_nil_of_le (by omega)];rfl
end
end Nd
end VE
end
