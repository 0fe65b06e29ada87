import Derived.Lib.Index
import Derived.Lib.ItoaNum
import Derived.Lib.Atoi
import Derived.Lib.BitFns
import Derived.Lib.Repeat
import Derived.Lib.SlTrimSet
import Derived.Shelf.Strings.Cut
import Derived.Shelf.Strings.Prefix
import Derived.Shelf.Small.Bits
import Derived.RowKit
import Derived.Test.YtnilidoboioodaaGreatDoorTae
import Derived.Test.YtnilidoboioodaaGreatDoorTaa
set_option linter.all false
set_option maxRecDepth 100000
open Array renaming replicate→vY
open Bool renaming and_eq_true→yf,false_eq_true→yB
open Go renaming Calls→xE,Func→yaA,LeavesInM→ybf,ResultVar→ybd,Value→yg,World→yh
open Int renaming natCast_nonneg→uL,ofNat→yab
open List renaming length_map→xc,mapM_cons→vA,map_append→xx,map_cons→yW,map_reverse→uR
open Nat renaming beq→ym,ble→yx,ble_eq_true_of_le→yu,blt→yF,eq_of_beq_eq_true→yi,le_of_ble_eq_true→yr,le_refl→yv,le_trans→xi
open Option.some renaming injEq→yb
open Prod.mk renaming injEq→yk
open UInt8 renaming ofNat→yaD,toNat→yZ,toNat_ofNat'→tB
namespace VE
open Go (IntKind)
section
open Go
section
variable {O:bh} {self:bZ}
def dL.none {m:Mp} {S:Nat->Prop} {w:yh} {s s':St} {ex:Ex} {n lo:Nat} {a:Act} {w':yh} (l:Nat):¬dL O m S w s ex s' n lo (.goto l) a w':=by
 rintro ⟨h,_⟩;cases ex<;>cases h
def dL.then {m m1:Mp} {S S1:Nat->Prop} {w w1:yh} {s s1 s2:St} {ex:Ex} {n lo:Nat} {a':Act} {w':yh} {e:Exit} {ex1:Ex} (h1:s1.base=s.base)
  (hf:bM m S w s.hp m1 S1 w1 s1.hp s.base) (h:dL O m1 S1 w1 s1 ex s2 n lo e a' w'):dL O m S w s ex s2 n lo e a' w':=by
 obtain ⟨h2,m',S',k1,k2,k3,k4,k5,k6,k7⟩:=h;rw [h1] at k3 k4 k5;exact ⟨h2,m',S',k1,k2,k3,k4,hf.trans k5,k6,k7⟩
def dL.dd {m:Mp} {S:Nat->Prop} {w:yh} {s s1:St} {n lo:Nat} {a':Act} {w':yh} {e:Exit} {ex:Ex} (live:List Nat) (h:dL O m S w s ex s1 n lo e a' w'):dL O m S w s ex (aV live s1) n lo e a' w':=by
 obtain ⟨h2,m',S',k1,k2,k3,k4,k5,k6,k7⟩:=h;obtain ⟨m2,g1,g2,g3,g4,g5⟩:=Lr (live:=live) k1 k2 (by rw [k3];exact k4)
 rw [k3] at g3 g4 g5;exact ⟨h2,m2,S',g1,g2,g3,g4,k5.trans g5,k6,rD k2 g5 k7⟩
def Vf {m:Mp} {w:yh} {tmps:Array yg}:∀{ts:List Nat} {s s1:St} {S:Nat->Prop},bH O m S w s.tm tmps->aQ O m S w s.hp s.ct->mG ts s=some s1->
  ∃S1,bH O m S1 w s1.tm tmps/\aQ O m S1 w s1.hp s1.ct/\s1.base=s.base/\s1.ct=s.ct/\∀base,bM m S w s.hp m S1 w s1.hp base
 | [],s,s1,S,ht,hh,h=>by
  simp only [mG,yb] at h;subst h;exact ⟨S,ht,hh,rfl,rfl,fun _=>bM.refl⟩
 | t::r,s,s1,S,ht,hh,h=>by
  simp only [mG] at h
  cases hz:freeze deep s.hp (ah s.tm t) with
  | none=>simp [hz] at h
  | some q=>
   obtain ⟨v,hp⟩:=q;simp only [hz] at h;obtain ⟨h1,h2,h3⟩:=LF (O:=O) hz;have hg:fX s.hp s.ct hp s.ct:=⟨h1,yv _,fun id o ho=>(by
     have:=h2 id
     rw [ho] at this
     cases hq:ap s.hp id with
     | none=>rw [hq] at this;simp at this
     | some o'=>exact hh.aO id o' hq),fun id o ho _=>(by
     have:=h2 id
     rw [ho] at this
     cases hq:ap s.hp id with
     | none=>rw [hq] at this;simp at this
     | some o'=>exact ⟨o',rfl⟩)⟩
   obtain ⟨S',k1,k2,k3,k4⟩:=Ic hh hg;have qX:bH O m S' w ((t,v)::s.tm) tmps:=by
    intro i;simp only [ah]
    cases hb:ym t i with
    | true=>
     have:=yi hb
     subst this;exact (h3 hp m S' w s.ct cy.refl k1).1 _ (jr (fun _ _ h=>h) k2 (fun _ _=>rfl) _ _ (ht t))
    | false=>
     exact jr (fun _ _ h=>h) k2 (fun _ _=>rfl) _ _ (ht i)
   obtain ⟨S1,g1,g2,g3,g4,g5⟩:=Vf (s:={s with tm:=(t,v)::s.tm,hp:=hp}) qX k1 h;exact ⟨S1,g1,g2,g3,g4,fun base=>(k4 base).trans (g5 base)⟩
def Ua (hO:fw O) (n:Nat) (hC:∀k,k<=n->lC O (ev O.prog O.aG k)) (h:Nat):∀(c:Code) (l k:Nat) (j:Nat),j<=n->∀(s:St) (ex:Ex) (s':St),
  bk O.prog O.aG (ev O.prog O.aG j) (comp O.P (O.hint h) c l k).1 s=some (ex,s')->sf O h c s ex s':=by
 have refl:∀{s:St} {ex:Ex} {m:Mp} {S:Nat->Prop} {w:yh} {a:Act} {lo:Nat},bH O m S w s.tm a.tmps->aQ O m S w s.hp s.ct->s.base<=s.ct->Marks lo S w a.defers->dL O m S w s ex s a.tmps.size lo (nL ex) a w:=
  fun h1 h2 h3 h4=>⟨rfl,_,_,h1,h2,rfl,h3,bM.refl,rfl,h4⟩
 have NU:∀{self:bZ} {s:St} {r:Ex×St},bk O.prog O.aG self (.jM [⟨none,none,bad⟩]) s=some r->False:=by
  intro self s r hv;simp [bk,cI,bad,aW,dO,ao] at hv
 intro c
 induction c with
 | skip=>
  intro l k j hj s ex s' hv ro lo m S w a cA ht hh hb hn aY eh b6;simp only [comp,bk,yb,yk] at hv;obtain ⟨rfl,rfl⟩:=hv;exact wpIn_skip (refl ht hh hb b6)
 | label x=>
  intro l k j hj s ex s' hv ro lo m S w a cA ht hh hb hn aY eh b6;simp only [comp,bk,yb,yk] at hv;obtain ⟨rfl,rfl⟩:=hv;exact wpIn_label (refl ht hh hb b6)
 | exit id=>
  intro l k j hj s ex s' hv ro lo m S w a cA ht hh hb hn aY eh b6;simp only [comp,bk,yb,yk] at hv;obtain ⟨rfl,rfl⟩:=hv
  exact wpIn_exit (refl (ex:= .exit id) ht hh hb b6)
 | ret=>
  intro l k j hj s ex s' hv ro lo m S w a cA ht hh hb hn aY eh b6;simp only [comp,bk,yb,yk] at hv;obtain ⟨rfl,rfl⟩:=hv
  exact wpIn_ret (refl (ex:= .ret) ht hh hb b6)
 | goto x=>intro l k j hj s ex s' hv;exact (NU (by simpa only [comp] using hv)).elim
 | refuse x=>intro l k j hj s ex s' hv;exact (NU (by simpa only [comp] using hv)).elim
 | region id ops d=>
  intro l k j hj s ex s' hv;simp only [comp] at hv;generalize hq:Iv O.P (O.hint h) ops d k=q at hv;obtain ⟨r,k'⟩:=q;have main:∀{s s':St} {ex:Ex},bk O.prog O.aG (ev O.prog O.aG j) (.jM r) s=some (ex,s')->sf O h (.region id ops d) s ex s':=by
   intro s s' ex hv;simp only [bk] at hv
   cases ho:cI O.prog O.aG (ev O.prog O.aG j) r s with
   | none=>simp [ho] at hv
   | some s1=>
    simp only [ho,yb,yk] at hv;obtain ⟨rfl,rfl⟩:=hv;exact ahV hO (hC j hj) h id ops d k (by rw [hq];exact ho)
  simp only at hv
  split at hv
  ·exact main hv
  ·rename_i t ts _;simp only [bk] at hv
   cases hf:mG (t::ts) s with
   | none=>simp [hf] at hv
   | some s1=>
    simp only [hf] at hv;intro ro lo m S w a cA ht hh hb hn aY eh b6;obtain ⟨S1,g1,g2,g3,g4,g5⟩:=Vf ht hh hf;have h1:=main (s:=s1) (by simpa only [bk] using hv) ro lo m S1 w a cA g1 g2 (by rw [g3,g4];exact hb) hn aY eh (rD hh (g5 s.base) b6)
    refine wpIn_mono h1 (fun e a' w' hp=>?_)
    exact dL.then (ex1:= .normal) g3 (g5 s.base) hp
 | seq x y ihx ihy=>
  intro l k j hj s ex s' hv ro lo m S w a cA ht hh hb hn aY eh b6;simp only [comp] at hv;generalize pk:comp O.P (O.hint h) x l k=qx at hv;obtain ⟨x',l1,k1⟩:=qx;simp only at hv;generalize GL:comp O.P (O.hint h) y l1 k1=qy at hv;obtain ⟨y',l2,k2⟩:=qy;simp only [bk] at hv
  cases hx:bk O.prog O.aG (ev O.prog O.aG j) x' s with
  | none=>simp [hx] at hv
  | some r=>
   obtain ⟨ex1,s1⟩:=r;have h1:=ihx l k j hj s ex1 s1 (by rw [pk];exact hx) ro lo m S w a cA ht hh hb hn aY eh b6
   refine wpIn_seq (wpIn_mono h1 ?_);rintro e a1 w1 ⟨rfl,m1,S1,g1,g2,g3,g4,g5,g6,g7⟩;have stop:ex1≠.normal->ex=ex1/\s'=s1:=by
    intro dV;rw [hx] at hv
    cases ex1 with
    | normal=>exact absurd rfl dV
    | ret=>simp only [yb,yk] at hv;exact ⟨hv.1.symm,hv.2.symm⟩
    | exit id=>simp only [yb,yk] at hv;exact ⟨hv.1.symm,hv.2.symm⟩
   cases ex1 with
   | normal=>
    simp only [hx] at hv;simp only [nL,Exit.then];have h2:=ihy l1 k1 j hj s1 ex s' (by rw [GL];exact hv) ro lo m1 S1 w1 a1 (HX g5 cA) g1 g2 (by rw [g3];exact g4) (by rw [g6];exact hn) aY (xi eh g5.size) g7
    rw [g6] at h2
    exact wpIn_mono h2 (fun e a' w' hp=>dL.then (ex1:= .normal) g3 g5 hp)
   | ret=>
    obtain ⟨rfl,rfl⟩:=stop (by simp);exact ⟨rfl,m1,S1,g1,g2,g3,g4,g5,g6,g7⟩
   | exit id=>
    obtain ⟨rfl,rfl⟩:=stop (by simp);exact ⟨rfl,m1,S1,g1,g2,g3,g4,g5,g6,g7⟩
 | cond x p q ihp ihq=>
  intro l k j hj s ex s' hv ro lo m S w a cA ht hh hb hn aY eh b6;simp only [comp] at hv;generalize pk:comp O.P (O.hint h) p (l+1) k=qx at hv;obtain ⟨p',l1,k1⟩:=qx;simp only at hv;generalize GL:comp O.P (O.hint h) q l1 k1=qy at hv;obtain ⟨q',l2,k2⟩:=qy;simp only at hv;have main:∀(ex:Ex) (s':St),bk O.prog O.aG (ev O.prog O.aG j) (.cond (aH (O.hint h) x) p' q') s=some (ex,s')->(Code.cond x p q).wpIn (WF ro) 0 O.P (dL O m S w s ex s' a.tmps.size lo) a w:=by
   intro ex s' hv;simp only [bk] at hv;have rx:=bI (hO.hint h) ht x
   split at hv
   ·rename_i t hx;rw [hx] at rx;simp only [ae] at rx
    cases t with
    | true=>
     simp only [yp] at hv;exact wpIn_cond_true rx (ihp (l+1) k j hj s ex s' (by rw [pk];exact hv) ro lo m S w a cA ht hh hb hn aY eh b6)
    | false=>
     simp only [yI] at hv;exact wpIn_cond_false rx (ihq l1 k1 j hj s ex s' (by rw [GL];exact hv) ro lo m S w a cA ht hh hb hn aY eh b6)
   ·cases hv
  cases Ce:(O.hint h).out l with
  | none=>rw [Ce] at hv;exact main ex s' hv
  | some live=>
   rw [Ce] at hv;simp only at hv;rw [show bk O.prog O.aG (ev O.prog O.aG j) (.seq (.cond (aH (O.hint h) x) p' q') (.kp live)) s=match bk O.prog O.aG (ev O.prog O.aG j) (.cond (aH (O.hint h) x) p' q') s with | some (.normal,s1)=>some (.normal,aV live s1) | r=>r from rfl] at hv
   cases hx:bk O.prog O.aG (ev O.prog O.aG j) (.cond (aH (O.hint h) x) p' q') s with
   | none=>simp [hx] at hv
   | some r=>
    obtain ⟨ex1,s1⟩:=r;have h1:=main ex1 s1 hx;rw [hx] at hv
    cases ex1 with
    | normal=>
     simp only [yb,yk] at hv;obtain ⟨rfl,rfl⟩:=hv;exact wpIn_mono h1 (fun e a' w' hp=>dL.dd live hp)
    | ret=>simp only [yb,yk] at hv;obtain ⟨rfl,rfl⟩:=hv;exact h1
    | exit id=>simp only [yb,yk] at hv;obtain ⟨rfl,rfl⟩:=hv;exact h1
 | block id x ih=>
  intro l k j hj s ex s' hv ro lo m S w a cA ht hh hb hn aY eh b6;simp only [comp] at hv;generalize pk:comp O.P (O.hint h) x l k=qx at hv;obtain ⟨x',r⟩:=qx;simp only at hv;have main:∀(ex:Ex) (s':St),bk O.prog O.aG (ev O.prog O.aG j) (.cT id x') s=some (ex,s')->(Code.block id x).wpIn (WF ro) 0 O.P (dL O m S w s ex s' a.tmps.size lo) a w:=by
   intro ex s' hv;simp only [bk] at hv
   cases hx:bk O.prog O.aG (ev O.prog O.aG j) x' s with
   | none=>simp [hx] at hv
   | some q=>
    obtain ⟨ex1,s1⟩:=q;have h1:=ih l k j hj s ex1 s1 (by rw [pk];exact hx) ro lo m S w a cA ht hh hb hn aY eh b6
    refine wpIn_block (wpIn_mono h1 ?_);rintro e a1 w1 ⟨rfl,g⟩
    cases ex1 with
    | normal=>
     simp only [hx,yb,yk] at hv;obtain ⟨rfl,rfl⟩:=hv;exact ⟨rfl,g⟩
    | ret=>
     simp only [hx,yb,yk] at hv;obtain ⟨rfl,rfl⟩:=hv;exact ⟨rfl,g⟩
    | exit i=>
     simp only [hx] at hv
     cases Kt:ym i id with
     | true=>
      rw [Kt] at hv;simp only [yp,yb,yk] at hv;obtain ⟨rfl,rfl⟩:=hv
      have:=yi Kt
      subst this;simp only [nL,Exit.inBlock,xm];exact ⟨rfl,g⟩
     | false=>
      rw [Kt] at hv;simp only [yI,yb,yk] at hv;obtain ⟨rfl,rfl⟩:=hv;have dV:i≠id:=fun e=>by subst e;simp at Kt
      simp only [nL,Exit.inBlock,dV,y8];exact ⟨rfl,g⟩
  have akV:∀live:List Nat,bk O.prog O.aG (ev O.prog O.aG j) (.seq (.cT id x') (.kp live)) s=some (ex,s')->(Code.block id x).wpIn (WF ro) 0 O.P (dL O m S w s ex s' a.tmps.size lo) a w:=by
   intro live hv;rw [show bk O.prog O.aG (ev O.prog O.aG j) (.seq (.cT id x') (.kp live)) s=match bk O.prog O.aG (ev O.prog O.aG j) (.cT id x') s with | some (.normal,s1)=>some (.normal,aV live s1) | r=>r from rfl] at hv
   cases hx:bk O.prog O.aG (ev O.prog O.aG j) (.cT id x') s with
   | none=>simp [hx] at hv
   | some r=>
    obtain ⟨ex1,s1⟩:=r;have h1:=main ex1 s1 hx;rw [hx] at hv
    cases ex1 with
    | normal=>
     simp only [yb,yk] at hv;obtain ⟨rfl,rfl⟩:=hv;exact wpIn_mono h1 (fun e a' w' hp=>dL.dd live hp)
    | ret=>simp only [yb,yk] at hv;obtain ⟨rfl,rfl⟩:=hv;exact h1
    | exit id=>simp only [yb,yk] at hv;obtain ⟨rfl,rfl⟩:=hv;exact h1
  split at hv
  ·exact akV _ hv
  ·exact main ex s' hv
 | loop x ih=>
  intro l k j hj s ex s' hv;simp only [comp] at hv;generalize pk:comp O.P (O.hint h) x (l+1) k=qx at hv;obtain ⟨x',r⟩:=qx;simp only at hv;have rounds:∀(j:Nat),j<=n->∀(s:St) (ex:Ex) (s':St),bk O.prog O.aG (ev O.prog O.aG j) (.loop ((O.hint h).live l) x') s=some (ex,s')->∃K,∀(ro:Option Nat) (lo:Nat) (m:Mp) (S:Nat->Prop) (w:yh) (a:Act),pO ro w->bH O m S w s.tm a.tmps->aQ O m S w s.hp s.ct->s.base<=s.ct->(O.hint h).n<=a.tmps.size->O.w0.heap.size<=lo->lo<=w.heap.size->Marks lo S w a.defers->
    Code.roundsIn (WF ro) 0 O.P x (dL O m S w s ex s' a.tmps.size lo) K a w:=by
   intro j
   induction j with
   | zero=>
    intro hj s ex s' hv;simp only [bk] at hv
    cases hx:bk O.prog O.aG (ev O.prog O.aG 0) x' (aV ((O.hint h).live l) s) with
    | none=>simp [hx] at hv
    | some q=>
     obtain ⟨ex1,s1⟩:=q;have stop:ex1≠.normal->ex=ex1/\s'=s1:=by
      intro dV;rw [hx] at hv
      cases ex1 with
      | normal=>exact absurd rfl dV
      | ret=>simp only [yb,yk] at hv;exact ⟨hv.1.symm,hv.2.symm⟩
      | exit id=>simp only [yb,yk] at hv;exact ⟨hv.1.symm,hv.2.symm⟩
     refine ⟨1,fun ro lo m S w a cA ht hh hb hn aY eh b6=>?_⟩;rw [roundsIn_succ];obtain ⟨m1,c1,c2,c3,c4,c5⟩:=Lr (live:=(O.hint h).live l) ht hh hb;have h1:=ih (l+1) k 0 hj _ ex1 s1 (by rw [pk];exact hx) ro lo m1 S w a cA c1 c2 (by rw [c3];exact c4) hn aY eh b6
     refine wpIn_mono h1 ?_;rintro e a1 w1 hp;have an:=dL.then (O:=O) (m:=m) (S:=S) (w:=w) (s:=s) (ex1:= .normal) c3 c5 hp;obtain ⟨rfl,_⟩:=hp
     cases ex1 with
     | normal=>simp only [hx,EC] at hv;cases hv
     | ret=>obtain ⟨rfl,rfl⟩:=stop (by simp);exact an
     | exit id=>obtain ⟨rfl,rfl⟩:=stop (by simp);exact an
   | succ j ihj=>
    intro hj s ex s' hv;simp only [bk] at hv
    cases hx:bk O.prog O.aG (ev O.prog O.aG (j+1)) x' (aV ((O.hint h).live l) s) with
    | none=>simp [hx] at hv
    | some q=>
     obtain ⟨ex1,s1⟩:=q;have stop:ex1≠.normal->ex=ex1/\s'=s1:=by
      intro dV;rw [hx] at hv
      cases ex1 with
      | normal=>exact absurd rfl dV
      | ret=>simp only [yb,yk] at hv;exact ⟨hv.1.symm,hv.2.symm⟩
      | exit id=>simp only [yb,yk] at hv;exact ⟨hv.1.symm,hv.2.symm⟩
     have more:∃K,ex1= .normal->∀(ro:Option Nat) (lo:Nat) (m:Mp) (S:Nat->Prop) (w:yh) (a:Act),pO ro w->bH O m S w s1.tm a.tmps->aQ O m S w s1.hp s1.ct->s1.base<=s1.ct->(O.hint h).n<=a.tmps.size->O.w0.heap.size<=lo->lo<=w.heap.size->Marks lo S w a.defers->
       Code.roundsIn (WF ro) 0 O.P x (dL O m S w s1 ex s' a.tmps.size lo) K a w:=by
      cases ex1 with
      | normal=>
       rw [hx] at hv;have dN:ev O.prog O.aG (j+1) (.loop ((O.hint h).live l) x') s1=some (ex,s'):=hv;rw [ID] at dN;obtain ⟨K,hK⟩:=ihj (by omega) s1 ex s' dN;exact ⟨K,fun _=>hK⟩
      | ret=>exact ⟨0,fun h=>by cases h⟩
      | exit id=>exact ⟨0,fun h=>by cases h⟩
     obtain ⟨K,hK⟩:=more;refine ⟨K+1,fun ro lo m S w a cA ht hh hb hn aY eh b6=>?_⟩;rw [roundsIn_succ];obtain ⟨m1,c1,c2,c3,c4,c5⟩:=Lr (live:=(O.hint h).live l) ht hh hb;have h1:=ih (l+1) k (j+1) hj _ ex1 s1 (by rw [pk];exact hx) ro lo m1 S w a cA c1 c2 (by rw [c3];exact c4) hn aY eh b6
     refine wpIn_mono h1 ?_;rintro e a1 w1 hp;have an:=dL.then (O:=O) (m:=m) (S:=S) (w:=w) (s:=s) (ex1:= .normal) c3 c5 hp;obtain ⟨rfl,_⟩:=hp
     cases ex1 with
     | normal=>
      simp only [nL,Exit.then];obtain ⟨_,m2,S2,g1,g2,g3,g4,g5,g6,g7⟩:=an;have h2:=hK rfl ro lo m2 S2 w1 a1 (HX g5 cA) g1 g2 (by rw [g3];exact g4) (by rw [g6];exact hn) aY (xi eh g5.size) g7
      rw [g6] at h2;revert h2;generalize hA:a.tmps.size=sz;intro h2;have step:∀(K:Nat) (a':Act) (w':yh),Code.roundsIn (WF ro) 0 O.P x (dL O m2 S2 w1 s1 ex s' sz lo) K a' w'->Code.roundsIn (WF ro) 0 O.P x (dL O m S w s ex s' sz lo) K a' w':=by
       intro K
       induction K with
       | zero=>intro a' w' sZ;exact sZ
       | succ K ihK=>
        intro a' w' sZ;rw [roundsIn_succ] at sZ ⊢;refine wpIn_mono sZ (fun e a'' Kl hq=>?_)
        cases e with
        | normal=>exact ihK a'' Kl hq
        | exit id=>exact dL.then (ex1:= .normal) g3 g5 hq
        | goto x=>exact dL.then (ex1:= .normal) g3 g5 hq
        | ret=>exact dL.then (ex1:= .normal) g3 g5 hq
        | panic x=>exact dL.then (ex1:= .normal) g3 g5 hq
        | outgrown=>exact dL.then (ex1:= .normal) g3 g5 hq
      exact step K a1 w1 h2
     | ret=>obtain ⟨rfl,rfl⟩:=stop (by simp);exact an
     | exit id=>obtain ⟨rfl,rfl⟩:=stop (by simp);exact an
  obtain ⟨K,hK⟩:=rounds j hj s ex s' hv;intro ro lo m S w a cA ht hh hb hn aY eh b6;exact wpIn_loop_rounds K (hK ro lo m S w a cA ht hh hb hn aY eh b6)
 | scope x ih=>
  intro l k j hj s ex s' hv ro lo m S w a cA ht hh hb hn aY eh b6;simp only [comp] at hv;exact aaX (ih l k j hj s ex s' hv ro lo m S w a cA ht hh hb hn aY eh b6) (fun l a w=>dL.none l)
 | rangeFunc f ps cf body iha ihb=>
  intro l k j hj s ex s' hv;simp only [comp] at hv;generalize pk:comp O.P (O.hint h) cf l k=qx at hv;obtain ⟨x',l1,k1⟩:=qx;simp only at hv;generalize GL:comp O.P (O.hint h) body l1 k1=qy at hv;obtain ⟨y',l2,k2⟩:=qy;simp only at hv
  cases ha:pU (O.hint h).n ps.toList with
  | false=>rw [ha] at hv;exact (NU hv).elim
  | true=>
   rw [ha] at hv;exact akU hO (hC j hj) ⟨l,k,by rw [pk]⟩ ⟨l1,k1,by rw [GL]⟩ ha hv
end
end
section
open Go
section
variable {O:bh} {m:Mp} {S:Nat->Prop} {w:yh}
def Sf:∀(aj:List AV) (j i:Nat),ah (eE j aj) (j+i)=aj.getD i .undef
 | [],j,i=>by simp [eE,ah]
 | v::r,j,i=>by
  cases i with
  | zero=>simp [eE,ah]
  | succ i=>
   simp only [eE,ah];have hb:ym j (j+(i+1))=false:=by
    cases hq:ym j (j+(i+1)) with
    | false=>rfl
    | true=>have:=yi hq;omega
   rw [hb,show j+(i+1)=j+1+i by omega];rw [Sf r (j+1) i]
   simp
def Sg {aj:List AV} {args:Array yg} (n:Nat) (h:au O.ab m S w aj args.toList):bH O m S w (eE 0 aj) (args++vY n undef):=by
 intro i
 have:=Sf aj 0 i
 rw [Nat.zero_add] at this;rw [this,List.getD_eq_getElem?_getD]
 cases hv:aj[i]? with
 | none=>simp only [Option.getD_none,ae]
 | some v=>
  obtain ⟨u,h1,h2⟩:=L2 h hv;have hl:i<args.size:=by
   grind
  have:(args++vY n undef).getD i undef=u:=by
   rw [Array.getD_eq_getD_getElem?,Array.getElem?_append_left hl]
   grind
  grind
def Cf (tmps:Array yg):ybd->Sem yg
 | .tmp t=>pure (tmps.getD t undef)
 | .cell a t=>do loadVar t (<-asAddr (tmps.getD a undef))
def aaY (fn:yaA) (tmps:Array yg):results fn tmps=(do let vs <-fn.results.mapM (Cf tmps);pure (if h:vs.size=1 then vs[0] else .tuple vs)):=by
 rfl
def Lt {s:St} {ct:Nat} {tmps:Array yg} (hh:aQ O m S w s.hp ct) (ht:bH O m S w s.tm tmps):∀{rs:List ybd} {rv:List RV} {vs:List AV},mw O.P rs=some rv->jq s rv=some vs->
  ∃us,(rs.mapM (Cf tmps)).run O.P w= .ok us w/\au O.ab m S w vs us
 | [],rv,vs,h1,h2=>by
  simp only [mw,yb] at h1;subst h1;simp only [jq,yb] at h2;subst h2;exact ⟨[],by simp,by simp [au]⟩
 | .tmp t::rs,rv,vs,h1,h2=>by
  simp only [mw] at h1
  cases hc:mw O.P rs with
  | none=>simp [hc] at h1
  | some l=>
   simp only [hc,yb] at h1;subst h1;simp only [jq,results1] at h2
   cases hl:jq s l with
   | none=>simp [hl] at h2
   | some Gq=>
    simp only [hl,yb] at h2;subst h2;obtain ⟨us,g1,g2⟩:=Lt hh ht hc hl;refine ⟨tmps.getD t undef::us,?_,by simp only [au];exact ⟨_,_,rfl,ht t,g2⟩⟩
    rw [vA];simp only [Cf,Sem.run_bind,Sem.run_pure,Result.andThen_ok];rw [g1];rfl
 | .cell a t::rs,rv,vs,h1,h2=>by
  simp only [mw] at h1
  cases hz:bX O.P t with
  | none=>simp [hz] at h1
  | some sz=>
   cases oV:cQ O.P t with
   | none=>simp [hz,oV] at h1
   | some ag=>
    cases hc:mw O.P rs with
    | none=>simp [hz,oV,hc] at h1
    | some l=>
     simp only [hz,oV,hc,yb] at h1;subst h1;simp only [jq] at h2
     cases dC:results1 s (.cell a sz ag) with
     | none=>simp [dC] at h2
     | some v=>
      cases hl:jq s l with
      | none=>simp [dC,hl] at h2
      | some Gq=>
       simp only [dC,hl,yb] at h2;subst h2;obtain ⟨us,g1,g2⟩:=Lt hh ht hc hl;have ra:=ht a;have key:∃b o u,tmps.getD a undef= .pointer (some ⟨b,o,none⟩)/\(loadVar t ⟨b,o,none⟩).run O.P w= .ok u w/\ae O.ab m S w v u:=by
        simp only [results1] at dC;cases hta:ah s.tm a<;>rw [hta] at dC ra<;>simp only [reduceCtorEq] at dC
        ·rename_i id o;simp only [ae] at ra;obtain ⟨p,hm,hp⟩:=ra
         cases hg:ap s.hp id with
         | none=>simp [hg] at dC
         | some ob=>
          cases ob<;>simp only [hg,reduceCtorEq] at dC
          have Pq:=LZ (o:=0) (n:=0) hh hg hm;obtain ⟨u,q1,q2⟩:=Ix hz oV (ns o _ p.b p.o Pq) dC;exact ⟨p.b,p.o+o,u,hp,q1,q2⟩
        ·rename_i cs;simp only [ae] at ra;obtain ⟨b,o,hp,_,_,Pq⟩:=ra;obtain ⟨u,q1,q2⟩:=Ix hz oV Pq dC;exact ⟨b,o,u,hp,q1,q2⟩
       obtain ⟨b,o,u,q1,q2,q3⟩:=key;refine ⟨u::us,?_,by simp only [au];exact ⟨_,_,rfl,q3,g2⟩⟩
       rw [vA]
       have:(Cf tmps (.cell a t)).run O.P w= .ok u w:=by
        simp only [Cf];rw [q1];simp [asAddr,q2]
       rw [Sem.run_bind,this,Result.andThen_ok,Sem.run_bind,g1];rfl
def aaj {s:St} {ct:Nat} {tmps:Array yg} {fn:yaA} {rv:List RV} {v:AV} (hh:aQ O m S w s.hp ct) (ht:bH O m S w s.tm tmps) (h1:mw O.P fn.results.toList=some rv) (h2:gA s rv=some v):
  ∃u,(results fn tmps).run O.P w= .ok u w/\ae O.ab m S w v u:=by
 unfold gA at h2
 cases hl:jq s rv with
 | none=>simp [hl] at h2
 | some vs=>
  obtain ⟨us,g1,g2⟩:=Lt hh ht h1 hl;have hlen:=eZ _ _ g2;have hm:(fn.results.mapM (Cf tmps)).run O.P w= .ok us.toArray w:=by
   rw [Array.mapM_eq_mapM_toList];simp [g1]
  have de:(results fn tmps).run O.P w= .ok (if h:us.toArray.size=1 then us.toArray[0] else .tuple us.toArray) w:=by
   rw [aaY,Sem.run_bind,hm];rfl
  rw [hl] at h2
  split at h2
  ·rename_i v' iE;simp only [yb] at iE h2;subst iE;simp only [au] at g2
   grind
  ·rename_i dA dV iE;simp only [yb] at iE h2;subst iE;subst h2;have h1:¬us.toArray.size=1:=by
    intro h
    have:vs.length=1:=by simp_all
    cases vs with
    | nil=>simp at this
    | cons x t=>
     cases t with
     | nil=>exact dV x rfl
     | cons y t=>simp at this
   simp only [ae]
   grind
  ·grind
def LL {s:St} {tmps:Array yg} {fn:yaA} {rv:List RV} {v:AV} {m0:Mp} {S0:Nat->Prop} {w0:yh} {hp0:Hp} {Ku:Nat} (h1:mw O.P fn.results.toList=some rv) (h2:gA s rv=some v) (eU:Ku<=s.ct):∀(rs:List Nat) (w:yh),
  rs.Nodup->(∀r,r∈rs->w.heap[r]? =some (.deferred (some []))/\¬S r/\w0.heap.size<=r)->O.w0.heap.size<=w0.heap.size->aQ O m S w s.hp s.ct->bH O m S w s.tm tmps->bM m0 S0 w0 hp0 m S w s.hp Ku->
  ybf Fence.wide 0 O.P fn tmps (pE O m0 S0 w0 hp0 Ku v s.hp s.ct) (rs.map (fun r=>{target:= .collected r,args:=#[]})) .returning w
 | [],w,_,_,_,hh,ht,hf=>by
  obtain ⟨u,g1,g2⟩:=aaj hh ht h1 h2;exact ⟨u,g1,u,m,S,rfl,hh,eU,g2,hf⟩
 | r::rs,w,jk,hr,aY,hh,ht,hf=>by
  obtain ⟨jN,da⟩:=List.nodup_cons.1 jk;obtain ⟨a1,a2,a3⟩:=hr r List.mem_cons_self;have eR:=Bs w r (.deferred none);have ma:¬dB m s.hp r:=fun ho=>SS hh ho _ a1
  have sZ:=Re hh eR a2 ma (xi aY a3)
  have aP:eF S w {w with heap:=w.heap.setIfInBounds r (.deferred none)}:=fun b hb=>eR.other b (fun e=>a2 (e▸hb))
  have gl:bM m0 S0 w0 hp0 m S {w with heap:=w.heap.setIfInBounds r (.deferred none)} s.hp Ku:=by
   refine ⟨hf.os,hf.tape,hf.output,by rw [eR.size];exact hf.size,fun b hb ho=>(eR.other b (by omega)).trans (hf.same b hb ho),hf.sub,fun b hb=>(eR.other b (fun e=>a2 (e▸hf.sub b hb))).trans (hf.still b hb),hf.new,hf.own,hf.old,fun b x hb=>?_⟩
   obtain ⟨x',hx⟩:=hf.loops b x hb;exact ⟨x',(eR.other b (fun e=>by subst e;rw [a1] at hx;cases hx)).trans hx⟩
  refine ⟨by simp,.inl ⟨r,_,rfl,?_,LL h1 h2 eU rs _ da (fun r' b9=>?_) aY sZ (rB (fun _ _ h=>h) (fun _ h=>h) aP ht) gl⟩⟩
  ·simp only [Instr.takeDeferred,Sem.run_bind,Rg (P:=O.P) a1 (fun _ _ _=>by simp),Result.andThen_ok,HH (P:=O.P) a1 (fun _ _ _=>by simp),Sem.run_pure]
  ·obtain ⟨b1,b2,b3⟩:=hr r' (List.mem_cons_of_mem _ b9);exact ⟨(eR.other r' (fun e=>jN (e▸b9))).trans b1,b2,b3⟩
end
section
variable {O:bh} {self:bZ}
def akW (hO:fw O) (hS:∀v s ex s',self v s=some (ex,s')->∀c h l k,(comp O.P (O.hint h) c l k).1=v->sf O h c s ex s') {n:Nat} {F:aF} (hF:O.prog n=some F) {hp:Hp} {ct:Nat} {aj:List AV} {ex:Ex} {s:St}
  (hv:self F.body ⟨eE 0 aj,hp,ct,ct⟩=some (ex,s)) (hex:ex= .normal\/ex= .ret) {v:AV} (hr:gA s F.eT=some v):se O n hp ct aj v s.hp s.ct:=by
 intro m S w args hh dF;obtain ⟨fn,q1,q2,q3⟩:=hO.prog n F hF;obtain ⟨c,q4,q5,q6,q7⟩:=Lh q2;refine .inl ⟨Ij q1 (by rw [q4];rfl) q3,?_⟩
 have hc:=hS _ _ _ _ hv c n 0 0 q5.symm;have hw:=hc none w.heap.size m S w {tmps:=args++vY (fn.ntmps-args.size) undef,defers:=[]} (fun l hl=>by cases hl) (Sg _ dF) hh (yv _) (by simp;omega) hh.eK (yv _) ⟨[],rfl,by simp,by simp⟩
 refine callsIn_of_wp_marks (F:=Fence.wide) q1 q4 trivial (wpIn_mono hw ?_);rintro e a' w' ⟨rfl,m',S',k1,k2,k3,k4,k5,k6,rs,k7,k8,k9⟩;have main:ybf Fence.wide 0 O.P fn a'.tmps (pE O m S w hp ct v s.hp s.ct) a'.defers .returning w':=by
  rw [k7];exact LL q6 hr k4 rs w' k8 k9 hh.eK k2 k1 k5
 rcases hex with rfl | rfl
 ·exact main
 ·exact main
def rL.mono {P:Program} {f:FuncId} {args:Array yg} {w:yh} {R R':Ending->yh->Prop} (h:rL P f args w R) (hr:∀e w',R e w'->R' e w'):rL P f args w R':=by
 rcases h with ⟨h1,h2⟩ | ⟨u,w',h1,h2⟩
 ·exact .inl ⟨h1,CallsIn.mono h2 hr⟩
 ·exact .inr ⟨u,w',h1,hr _ _ h2⟩
def abZ {w:yh} {S:Nat->Prop} (hg:sd O w) (hs:∀b,S b->b<w.heap.size):aQ O dS S w [] 0:=
 ⟨(fun id o p h _=>by simp [ap] at h),(fun id p h=>by cases h),(fun i j oi oj pi pj h=>by simp [ap] at h),hs,(fun id p h=>by cases h),(fun id p h=>by cases h),hg.1,hg.2,(fun id o h=>by simp [ap] at h)⟩
def Mc {b:Nat} (h:dB dS [] b):False:=by
 obtain ⟨_,_,_,h,_⟩:=h;simp [ap] at h
def K9 {n:Nat} {aj:List AV} {v r:AV} {s:St} (h:se O n [] 0 aj v s.hp s.ct) (hr:result s.hp v=some r):dG O n aj r:=by
 intro w S args hg hs dF hp;refine rL.mono (h dS S w args (abZ hg hs) dF) ?_;rintro e w' ⟨u,m',S',rfl,k1,k2,k3,k4⟩;have aY:∀b,dB m' s.hp b->w.heap.size<=b:=fun b hb=>(k4.own b hb).elim (fun h=>(Mc h).elim) (fun h=>h)
 obtain ⟨S2,g1,g2,g3,g4⟩:=abP (lo:=w.heap.size) k1 hr k3 aY;refine ⟨u,S2,rfl,⟨k4.os,k4.tape,k4.output,k4.size,fun b hb=>k4.same b hb Mc⟩,fun b hb=>g1 b (k4.sub b hb),fun b hb=>?_,g3,g4⟩;rcases g2 b hb with h | h
 ·rcases k4.new b h with h | h | h
  ·exact .inl h
  ·exact (Mc h).elim
  ·exact .inr h
 ·exact .inr (aY b h)
def aaZ (hO:fw O) (hS:∀v s ex s',self v s=some (ex,s')->∀c h l k,(comp O.P (O.hint h) c l k).1=v->sf O h c s ex s'):lC O self:=by
 have heap:∀(n:Nat) (F:aF),O.prog n=some F->∀(hp:Hp) (ct:Nat) (aj:List AV) (ex:Ex) (s:St) (v:AV),self F.body ⟨eE 0 aj,hp,ct,ct⟩=some (ex,s)->(ex= .normal\/ex= .ret)->gA s F.eT=some v->se O n hp ct aj v s.hp s.ct:=
  fun n F hF hp ct aj ex s v h1 h2 h3=>akW hO hS hF h1 h2 h3
 refine ⟨?_,?_,fun hp ct l xs v an aT hv=>adW hS hv⟩
 ·intro n aj r hv;unfold bA at hv
  cases hL:O.aG.pure n with
  | some sp=>rw [hL] at hv;exact hO.aG n sp aj r hL hv
  | none=>
   simp only [hL] at hv
   cases hF:O.prog n with
   | none=>simp [hF] at hv
   | some F=>
    simp only [hF] at hv
    split at hv
    ·rename_i s hb
     cases hr:gA s F.eT with
     | none=>simp [hr] at hv
     | some v=>simp only [hr] at hv;exact K9 (heap n F hF [] 0 aj .normal s v hb (.inl rfl) hr) hv
    ·rename_i s hb
     cases hr:gA s F.eT with
     | none=>simp [hr] at hv
     | some v=>simp only [hr] at hv;exact K9 (heap n F hF [] 0 aj .ret s v hb (.inr rfl) hr) hv
    ·cases hv
 ·intro hp ct n aj v an aT hv;unfold gD at hv
  cases hL:O.aG.heap n with
  | some sp=>rw [hL] at hv;exact hO.Cc n sp hp ct aj v an aT hL hv
  | none=>
   simp only [hL] at hv
   cases hF:O.prog n with
   | none=>simp [hF] at hv
   | some F=>
    grind
def QN (hO:fw O):∀n,lC O (ev O.prog O.aG n):=by
 intro n
 induction n using Nat.strongRecOn with
 | _ n ih=>
  refine aaZ hO (fun v s ex s' hv c h l k hc=>?_)
  cases n with
  | zero=>rw [EC] at hv;cases hv
  | succ n=>
   rw [ID,<-hc] at hv;exact Ua hO n (fun k hk=>ih k (by omega)) h c l k n (yv _) s ex s' hv
def sound (hO:fw O) {n f:Nat} {aj:List AV} {r:AV} (h:OU O.prog O.aG n f aj=some r):dG O f aj r:=(QN hO n).pure f aj r h
end
end
def fe:List Nat->List Nat->Bool
 | [],_=>true
 | a::x,b::y=>ym a b&&fe x y
 | _::_,[]=>false
def jV (sub:List Nat):List Nat->Nat->Option Nat
 | [],k=>bif fe sub [] then some k else none
 | b::r,k=>bif fe sub (b::r) then some k else jV sub r (k+1)
def Jw:List AV->Option AV
 | [.str s,.str sep]=>
  bif yF s.length 4294967281 then
   match jV sep s 0 with
   | some i=>some (.av [.str (s.take i),.str (s.drop (i+sep.length)),.bool true])
   | none=>some (.av [.str s,.str [],.bool false])
  else none
 | _=>none
def HJ:List AV->Option AV
 | [.str s,.str p]=>some (bif fe p s then .av [.str (s.drop p.length),.bool true] else .av [.str s,.bool false])
 | _=>none
def HK:List AV->Option AV
 | [.str s,.str p]=>some (.bool (fe p s))
 | _=>none
def Hw:List AV->Option AV
 | [.str s,.str p]=>some (.str (bif fe p s then s.drop p.length else s))
 | _=>none
def Cg (i:Nat):List Nat->Bool
 | []=>false
 | j::r=>bif ym j i then true else Cg i r
def jc (set:List Nat):List Nat->List Nat
 | []=>[]
 | b::r=>bif Cg b set then jc set r else b::r
def BN:List Nat->Bool
 | []=>true
 | b::r=>yF b 128&&BN r
def trimS:List AV->Option AV
 | [.str s,.str set]=>bif BN set&&(yF s.length 4294967281&&yF set.length 4294967281) then some (.str (jc set (jc set s.reverse).reverse)) else none
 | _=>none
def fD (s:List Nat):Nat->List Nat
 | 0=>[]
 | n+1=>s++fD s n
def rM:List AV->Option AV
 | [.str s,.int .i64 (.ofNat n)]=>bif yx n 1099511627776&&yx (s.length*n) 1099511627776 then some (.str (fD s n)) else none
 | _=>none
def kD:Nat->Nat->List Nat->List Nat
 | 0,_,acc=>acc
 | f+1,n,acc=>bif yF n 10 then (48+n)::acc else kD f (n/10) ((48+n%10)::acc)
def aw (n:Nat):List Nat:=kD (n+1) n []
def aS:Int->List Nat
 | .ofNat n=>aw n
 | .negSucc n=>45::aw (n+1)
def sn:Int->Bool
 | .ofNat n=>yF n 9223372036854775808
 | .negSucc n=>yF n 9223372036854775808
def Fo:List AV->Option AV
 | [.int .i64 n]=>bif sn n then some (.str (aS n)) else none
 | _=>none
def rq:List AV->Option AV
 | [.int .u64 (.ofNat n),.int .i64 10]=>bif yF n 18446744073709551616 then some (.str (aw n)) else none
 | _=>none
def cr:List Nat->Nat->Option Nat
 | [],a=>some a
 | b::r,a=>bif yx 48 b&&yx b 57 then cr r (10*a+(b-48)) else none
def Fp:List AV->Option AV
 | [.str s]=>
  bif yF 0 s.length&&yx s.length 18 then
   match cr s 0 with | some n=>some (.av [.int .i64 n,.undef]) | none=>none
  else none
 | _=>none
def lE:List AV->Option AV
 | [.int .u64 (.ofNat x),.int .u64 (.ofNat y),.int .u64 (.ofNat c)]=>
  bif yx c 1&&(yF x 18446744073709551616&&yF y 18446744073709551616) then some (.av [.int .u64 ((x+y+c)%18446744073709551616:Nat),.int .u64 ((x+y+c)/18446744073709551616:Nat)]) else none
 | _=>none
def rR:List AV->Option AV
 | [.int .u64 (.ofNat x),.int .u64 (.ofNat y),.int .u64 (.ofNat c)]=>
  bif yx c 1&&(yF x 18446744073709551616&&yF y 18446744073709551616) then some (.av [.int .u64 ((x+18446744073709551616*2-y-c)%18446744073709551616:Nat),.int .u64 (bif yx (y+c) x then 0 else 1)]) else none
 | _=>none
def og:List AV->Option AV
 | [.int .u64 (.ofNat x),.int .u64 (.ofNat y)]=>bif yF x 18446744073709551616&&yF y 18446744073709551616 then some (.av [.int .u64 (x*y/18446744073709551616:Nat),.int .u64 (x*y%18446744073709551616:Nat)]) else none
 | _=>none
def dI:Nat->Nat->Nat
 | 0,_=>0
 | f+1,n=>bif ym n 0 then 0 else 1+dI f (n/2)
def EO:List AV->Option AV
 | [.int .u64 (.ofNat x)]=>bif yF x 18446744073709551616 then some (.int .i64 (dI 64 x)) else none
 | _=>none
def B4:List AV->Option AV
 | [.int .u64 (.ofNat x)]=>bif yF x 18446744073709551616 then some (.int .i64 (64-dI 64 x:Nat)) else none
 | _=>none
def Me:List AV->Option AV
 | [.aD .f64 b]=>some (.int .u64 b)
 | _=>none
def La:List AV->Option AV
 | [.int .u64 (.ofNat n)]=>some (.aD .f64 n)
 | _=>none
section
open Go
section
variable {O:bh} {n:Nat}
def D9 {w w':yh} (h:RowKit.Below w.heap.size w w'):Calm w w':=⟨h.os,h.tape,h.output,h.size,h.block⟩
def ab0 {w:yh} (k:Nat):Calm w (w.drewN k):=⟨rfl,rfl,rfl,yv _,fun _ _=>rfl⟩
def ab1 {w:yh} (h:sd O w) {a:Addr} {v:yg} (hc:O.w0.cell? a=some v):w.cell? a=some v:=by
 have hb:a.block<O.w0.heap.size:=by
  unfold World.cell? at hc
  cases hq:O.w0.heap[a.block]? with
  | none=>simp [hq] at hc
  | some o=>exact (Array.getElem?_eq_some_iff.1 hq).1
 unfold World.cell? at hc ⊢;rw [h.1 _ hb];exact hc
def mq {aj:List AV} {r:AV} (hr:∀S w' lo u,ae O.ab dS S w' r u->lM O.ab S w' lo r u)
  (eH:∀args w,(callFunc (O.ab n) args).run O.P w= .ok (.enter (O.ab n) args) w)
  (h:∀w S args,sd O w->au O.ab dS S w aj args.toList->xE O.P (O.ab n) args w fun e w'=>∃u,e= .returned u/\Calm w w'/\∀S,ae O.ab dS S w' r u):dG O n aj r:=by
 intro w S args hg hS dz _;refine .inl ⟨eH args w,Go.callsIn_wide.2 ((h w S args hg dz).mono ?_)⟩;rintro e w' ⟨u,rfl,hc,hu⟩;exact ⟨u,S,rfl,hc,fun _ h=>h,fun _ h=> .inl h,fun b hb=>Nat.lt_of_lt_of_le (hS b hb) hc.size,hr S w' _ u (hu S)⟩
def HY {aj:List AV} {r:AV} (hr:∀S w' lo u,ae O.ab dS S w' r u->lM O.ab S w' lo r u)
  (h:∀w S args,au O.ab dS S w aj args.toList->∃u,(callFunc (O.ab n) args).run O.P w= .ok (.value u) w/\∀S,ae O.ab dS S w r u):dG O n aj r:=by
 intro w S args _ hS dz _;obtain ⟨u,h1,h2⟩:=h w S args dz;exact .inr ⟨u,w,h1,u,S,rfl,Calm.refl,fun _ h=>h,fun _ h=> .inl h,hS,hr S w _ u (h2 S)⟩
def ED {s:List Nat}:∀S w' lo u,ae O.ab dS S w' (.str s) u->lM O.ab S w' lo (.str s) u:=fun S w' lo u h=>⟨[],rfl,h,rfl⟩
def MA {k:IntKind} {z:Int}:∀S w' lo u,ae O.ab dS S w' (.int k z) u->lM O.ab S w' lo (.int k z) u:=fun S w' lo u h=>⟨[],rfl,h,rfl⟩
def afM {k:FloatKind} {z:Nat}:∀S w' lo u,ae O.ab dS S w' (.aD k z) u->lM O.ab S w' lo (.aD k z) u:=fun S w' lo u h=>⟨[],rfl,h,rfl⟩
def adY {b:Bool}:∀S w' lo u,ae O.ab dS S w' (.bool b) u->lM O.ab S w' lo (.bool b) u:=fun S w' lo u h=>⟨[],rfl,h,rfl⟩
def Rh {S:Nat->Prop} {w':yh} {lo:Nat}:∀{vs:List AV} {us:List yg},(∀v,v∈vs->(∀ex sz k cs,v≠.cx ex sz k cs)/\aX v=true)->au O.ab dS S w' vs us->jh O.ab S w' lo vs us []
 | [],us,_,h=>by simp only [au] at h;exact ⟨h,rfl⟩
 | v::vs,us,hv,h=>by
  simp only [au] at h;obtain ⟨u,t,rfl,h1,h2⟩:=h;have h3:=hv v (by simp);refine ⟨u,t,[],[],rfl,rfl,?_,Rh (fun v hm=>hv v (by simp [hm])) h2⟩;cases v<;>first | exact ⟨rfl,h1,h3.2⟩ | exact absurd rfl (h3.1 _ _ _ _)
def BF {vs:List AV} (hv:∀v,v∈vs->(∀ex sz k cs,v≠.cx ex sz k cs)/\aX v=true):∀S w' lo u,ae O.ab dS S w' (.av vs) u->lM O.ab S w' lo (.av vs) u:=by
 intro S w' lo u h;obtain ⟨xs,rfl,h⟩:=h;exact ⟨xs,[],rfl,Rh hv h,by simp⟩
def B5 {S:Nat->Prop} {w:yh} {a:AV} {args:Array yg} (h:au O.ab dS S w [a] args.toList):∃u,args=#[u]/\ae O.ab dS S w a u:=by
 simp only [au] at h
 grind
def so {S:Nat->Prop} {w:yh} {a b:AV} {args:Array yg} (h:au O.ab dS S w [a,b] args.toList):∃u v,args=#[u,v]/\ae O.ab dS S w a u/\ae O.ab dS S w b v:=by
 simp only [au] at h
 grind
def Vg {S:Nat->Prop} {w:yh} {a b c:AV} {args:Array yg} (h:au O.ab dS S w [a,b,c] args.toList):∃u v x,args=#[u,v,x]/\ae O.ab dS S w a u/\ae O.ab dS S w b v/\ae O.ab dS S w c x:=by
 simp only [au] at h
 grind
def Ea {S:Nat->Prop} {w:yh} {s:List Nat} {l:List UInt8} (h:l.map yZ=s):ae O.ab dS S w (.str s) (.string ⟨l.toArray⟩):=by
 simp only [ae];exact ⟨_,rfl,h⟩
def toNat_inj {a b:UInt8}:ym a.toNat b.toNat=(a==b):=by
 by_cases h:a=b
 ·simp_all
 ·have h':a.toNat≠b.toNat:=fun e=>h (UInt8.toNat_inj.1 e)
  have e:(a==b)=false:=by simp_all
  rw [e]
  cases hq:ym a.toNat b.toNat with
  | false=>rfl
  | true=>exact absurd (yi hq) h'
def Eh:∀(p s:List UInt8),fe (p.map yZ) (s.map yZ)=p.isPrefixOf s
 | [],s=>by cases s<;>rfl
 | a::p,[]=>rfl
 | a::p,b::s=>by
  simp only [yW,fe,List.isPrefixOf,Eh p s,toNat_inj]
def Ri:∀(s sep:List UInt8) (k:Nat),jV (sep.map yZ) (s.map yZ) k=if 0<=Lib.index s sep then some (k+(Lib.index s sep).toNat) else none
 | [],sep,k=>by
  simp only [List.map_nil,jV,Lib.index]
  cases sep with
  | nil=>simp [fe]
  | cons a r=>simp [fe]
 | b::s,sep,k=>by
  have ih:=Ri s sep (k+1);have hp:=Eh sep (b::s);simp only [yW,jV,hp,Lib.index]
  grind
def SW (b:UInt8):∀cs:List UInt8,Cg b.toNat (cs.map yZ)=cs.contains b
 | []=>rfl
 | c::cs=>by
  simp only [yW,Cg,SW b cs,List.contains_cons,toNat_inj]
  grind
def LM (cs:List UInt8):∀l:List UInt8,jc (cs.map yZ) (l.map yZ)=(l.dropWhile (cs.contains ·)).map yZ
 | []=>rfl
 | b::l=>by
  simp only [yW,jc,SW,List.dropWhile_cons,LM cs l]
  grind
def SX (l:List UInt8):∀n,fD (l.map yZ) n=(Lib.repeatL l n).map yZ
 | 0=>rfl
 | n+1=>by simp only [fD,Lib.repeatL,xx,SX l n]
def QO:∀(f n:Nat) (acc:List Nat),n<f->kD f n acc=(Lib.decDigits n).map yZ++acc
 | 0,n,acc,h=>by omega
 | f+1,n,acc,h=>by
  rw [kD,Lib.decDigits];by_cases hn:n<10
  ·rw [show yF n 10=true from yu hn,yp,dif_pos hn]
   have:(yaD (48+n)).toNat=48+n:=by
    rw [tB];omega
   grind
  ·have hb:yF n 10=false:=by
    cases hq:yF n 10 with
    | false=>rfl
    | true=>exact absurd (yr hq) (by omega)
   rw [hb,yI,dif_neg hn,QO f (n/10) _ (by omega),xx,List.append_assoc]
   have:(yaD (48+n%10)).toNat=48+n%10:=by
    rw [tB];omega
   grind
def Mf (n:Nat):aw n=(Lib.decDigits n).map yZ:=by
 rw [aw,QO (n+1) n [] (by omega),List.append_nil]
def adZ (n:Int):aS n=(Lib.itoa n).map yZ:=by
 cases n with
 | ofNat k=>
  have:¬yab k<0:=by simp
  simp only [aS,Lib.itoa,this,y8,Mf];rfl
 | negSucc k=>
  have:Int.negSucc k<0:=Int.negSucc_lt_zero k
  simp only [aS,Lib.itoa,this,xm,Mf,yW];rfl
def Mg:∀f x:Nat,dI f x=Lib.bitLenAux f x
 | 0,_=>rfl
 | f+1,x=>by
  rw [dI,Lib.bitLenAux];by_cases h:x=0
  ·simp_all
  ·have hb:ym x 0=false:=by
    cases hq:ym x 0 with
    | false=>rfl
    | true=>exact absurd (yi hq) h
   rw [hb,yI,yE h,Mg f]
def Rj:∀{cs:List UInt8},BN (cs.map yZ)=true->∀(j:Nat) b,cs[j]? =some b->b.toNat<128
 | [],_,j,b,h=>by simp at h
 | c::cs,h,j,b,hb=>by
  simp only [yW,BN,yf] at h
  cases j with
  | zero=>
   simp_all
  | succ j=>exact Rj h.2 j b (by simpa using hb)
def SY:∀{l:List UInt8} {a z:Nat},cr (l.map yZ) a=some z->Lib.decFrom a l=some z
 | [],a,z,h=>h
 | b::l,a,z,h=>by
  simp only [yW,cr] at h
  cases hb:(yx 48 b.toNat&&yx b.toNat 57) with
  | false=>rw [hb] at h;cases h
  | true=>
   rw [hb] at h;simp only [yf] at hb;have h1:=yr hb.1;have h2:=yr hb.2
   have:=SY h
   rw [Lib.decFrom,Lib.digitVal,yT ⟨h1,h2⟩]
   grind
def ad0 {l:List UInt8} {z:Nat} (h:cr (l.map yZ) 0=some z) (h0:0<l.length):Lib.atoi l=some (z:Int):=by
 cases l with
 | nil=>simp at h0
 | cons b r=>
  have hd:=SY h;have hb:48<=b.toNat:=by
   simp only [yW,cr] at h
   cases hb:(yx 48 b.toNat&&yx b.toNat 57) with
   | false=>rw [hb] at h;cases h
   | true=>
    simp_all
  have h1:(b==45)=false:=by
   have:b≠45:=fun e=>by subst e;exact absurd hb (by decide)
   grind
  have h2:(b==43)=false:=by
   have:b≠43:=fun e=>by subst e;exact absurd hb (by decide)
   grind
  simp only [Lib.atoi,h1,h2,yB,y8,Lib.decNat,List.isEmpty_cons,hd,Option.map_some]
section
variable {f:FuncId}
def ZU (hf:O.ab n=f) (eH:∀args w,(callFunc f args).run O.P w= .ok (.enter f args) w)
  (hc:∀(s p:ByteArray) (w:yh),xE O.P f #[.string s,.string p] w fun e w'=>e= .returned (.tuple #[.string ⟨(Lib.trimPrefix s.data.toList p.data.toList).toArray⟩,.bool (Lib.hasPrefix s.data.toList p.data.toList)])/\w'=w):
  ∀aj r,HJ aj=some r->dG O n aj r:=by
 intro aj r h;unfold HJ at h
 split at h
 ·rename_i s p;simp only [yb] at h;subst h;refine mq ?_ (by rw [hf];exact eH) ?_
  ·cases fe p s<;>exact BF (by simp [aX])
  ·intro w S args hg dz;obtain ⟨u,v,rfl,h1,h2⟩:=so dz;obtain ⟨t1,rfl,rfl⟩:=h1;obtain ⟨t2,rfl,rfl⟩:=h2;rw [hf];refine (hc t1 t2 w).mono ?_;rintro e w' ⟨rfl,rfl⟩;refine ⟨_,rfl,Calm.refl,fun S=>?_⟩;rw [Eh,xc];unfold Lib.trimPrefix Lib.hasPrefix
   cases hp:t2.data.toList.isPrefixOf t1.data.toList with
   | true=>
    simp only [yp,xm,ae,au]
    simp_all
   | false=>
    simp only [yI,yB,y8,ae,au]
    grind
 ·cases h
def ZV (hf:O.ab n=f) (eH:∀args w,(callFunc f args).run O.P w= .ok (.enter f args) w)
  (hc:∀(s p:ByteArray) (w:yh),xE O.P f #[.string s,.string p] w fun e w'=>e= .returned (.bool (Lib.hasPrefix s.data.toList p.data.toList))/\w'=w):
  ∀aj r,HK aj=some r->dG O n aj r:=by
 intro aj r h;unfold HK at h
 split at h
 ·rename_i s p;simp only [yb] at h;subst h;refine mq adY (by rw [hf];exact eH) ?_
  intro w S args hg dz;obtain ⟨u,v,rfl,h1,h2⟩:=so dz;obtain ⟨t1,rfl,rfl⟩:=h1;obtain ⟨t2,rfl,rfl⟩:=h2;rw [hf];refine (hc t1 t2 w).mono ?_;rintro e w' ⟨rfl,rfl⟩;refine ⟨_,rfl,Calm.refl,fun S=>?_⟩;rw [Eh];simp only [ae,Lib.hasPrefix]
 ·cases h
def ZR (hf:O.ab n=f) (eH:∀args w,(callFunc f args).run O.P w= .ok (.enter f args) w)
  (hc:∀(s p:ByteArray) (w:yh),xE O.P f #[.string s,.string p] w fun e w'=>e= .returned (.string ⟨(Lib.trimPrefix s.data.toList p.data.toList).toArray⟩)/\w'=w):
  ∀aj r,Hw aj=some r->dG O n aj r:=by
 intro aj r h;unfold Hw at h
 split at h
 ·rename_i s p;simp only [yb] at h;subst h;refine mq ED (by rw [hf];exact eH) ?_
  intro w S args hg dz;obtain ⟨u,v,rfl,h1,h2⟩:=so dz;obtain ⟨t1,rfl,rfl⟩:=h1;obtain ⟨t2,rfl,rfl⟩:=h2;rw [hf];refine (hc t1 t2 w).mono ?_;rintro e w' ⟨rfl,rfl⟩;refine ⟨_,rfl,Calm.refl,fun S=>?_⟩;rw [Eh,xc];refine Ea ?_;unfold Lib.trimPrefix Lib.hasPrefix
  cases hp:t2.data.toList.isPrefixOf t1.data.toList with
  | true=>simp [List.map_drop]
  | false=>simp
 ·cases h
def afN (hf:O.ab n=f) (eH:∀args w,(callFunc f args).run O.P w= .ok (.enter f args) w) {a:Addr} {m:Int} (hm:O.w0.cell? a=some (.int .i64 m))
  (hc:∀(s sep:ByteArray) (w:yh),s.size<4294967281->w.cell? a=some (.int .i64 m)->xE O.P f #[.string s,.string sep] w fun e w'=>e= .returned (.tuple #[.string ⟨(Lib.cut s.data.toList sep.data.toList).1.toArray⟩,.string ⟨(Lib.cut s.data.toList sep.data.toList).2.1.toArray⟩,.bool (Lib.cut s.data.toList sep.data.toList).2.2])/\∃n,w'=w.drewN n):
  ∀aj r,Jw aj=some r->dG O n aj r:=by
 intro aj r h;unfold Jw at h
 split at h
 ·rename_i s sep
  cases hb:yF s.length 4294967281 with
  | false=>rw [hb] at h;cases h
  | true=>
   rw [hb] at h;have key:∀(q:List UInt8×List UInt8×Bool),(∀t1 t2:ByteArray,t1.data.toList.map yZ=s->t2.data.toList.map yZ=sep->r= .av [.str ((Lib.cut t1.data.toList t2.data.toList).1.map yZ),.str ((Lib.cut t1.data.toList t2.data.toList).2.1.map yZ),.bool (Lib.cut t1.data.toList t2.data.toList).2.2])->
     (∃a b c,r= .av [.str a,.str b,.bool c])->dG O n [.str s,.str sep] r:=by
    intro q hq ahX;obtain ⟨a',b',c',rfl⟩:=ahX;refine mq (BF (by simp [aX])) (by rw [hf];exact eH) ?_
    intro w S args hg dz;obtain ⟨u,v,rfl,h1,h2⟩:=so dz;obtain ⟨t1,rfl,e1⟩:=h1;obtain ⟨t2,rfl,e2⟩:=h2;rw [hf];have hl:t1.size<4294967281:=by
     have:=kG hb
     rw [<-e1,xc] at this
     simp_all
    refine (hc t1 t2 w hl (ab1 hg hm)).mono ?_;rintro e w' ⟨rfl,k,rfl⟩;refine ⟨_,rfl,ab0 k,fun S=>?_⟩;simp only [ae,au]
    grind
   refine key ([],[],false) ?_ ?_
   ·intro t1 t2 e1 e2;subst e1;subst e2;rw [Ri] at h;unfold Lib.cut;by_cases h0:0<=Lib.index t1.data.toList t2.data.toList
    ·simp_all
    ·grind
   ·grind
 ·cases h
def ad1 (hf:O.ab n=f) (eH:∀args w,(callFunc f args).run O.P w= .ok (.enter f args) w)
  (hc:∀(s cs:ByteArray) (w:yh),s.size<=9223372036854775807->cs.size<4294967281->(∀(j:Nat) b,cs.data.toList[j]? =some b->b.toNat<128)->xE O.P f #[.string s,.string cs] w fun e w'=>e= .returned (.string ⟨(Lib.trimS s.data.toList cs.data.toList).toArray⟩)/\RowKit.Below w.heap.size w w'):
  ∀aj r,trimS aj=some r->dG O n aj r:=by
 intro aj r h;unfold trimS at h
 split at h
 ·rename_i s cs
  cases hb:(BN cs&&(yF s.length 4294967281&&yF cs.length 4294967281)) with
  | false=>rw [hb] at h;cases h
  | true=>
   rw [hb] at h;simp only [yp,yb] at h;subst h;simp only [yf] at hb;refine mq ED (by rw [hf];exact eH) ?_
   intro w S args hg dz;obtain ⟨u,v,rfl,h1,h2⟩:=so dz;obtain ⟨t1,rfl,rfl⟩:=h1;obtain ⟨t2,rfl,rfl⟩:=h2;have lX:=kG hb.2.1;have qO:=kG hb.2.2;rw [xc] at lX qO;rw [hf];refine (hc t1 t2 w (by rw [Lib.size_eq];omega) (by rw [Lib.size_eq];omega) (Rj hb.1)).mono ?_;rintro e w' ⟨rfl,hw⟩;refine ⟨_,rfl,D9 hw,fun S=>Ea ?_⟩;simp only [Lib.trimS,Lib.trimLeftS,Lib.trimRightS];rw [<-uR,LM,<-uR,LM]
 ·cases h
def aa0 (hf:O.ab n=f) (eH:∀args w,(callFunc f args).run O.P w= .ok (.enter f args) w)
  (hc:∀(s:ByteArray) (c:Nat) (w:yh),c<=9223372036854775807->s.size*c<=140737488355328->xE O.P f #[.string s,.int .i64 c] w fun e w'=>e= .returned (.string ⟨(Lib.repeatL s.data.toList c).toArray⟩)/\RowKit.Below w.heap.size w w'):
  ∀aj r,rM aj=some r->dG O n aj r:=by
 intro aj r h;unfold rM at h
 split at h
 ·rename_i s c
  cases hb:(yx c 1099511627776&&yx (s.length*c) 1099511627776) with
  | false=>rw [hb] at h;cases h
  | true=>
   rw [hb] at h;simp only [yp,yb] at h;subst h;simp only [yf] at hb;have l1:=yr hb.1;have l2:=yr hb.2;refine mq ED (by rw [hf];exact eH) ?_
   intro w S args hg dz;obtain ⟨u,v,rfl,h1,h2⟩:=so dz;obtain ⟨t1,rfl,rfl⟩:=h1;subst h2;rw [hf];rw [xc] at l2;refine (hc t1 c w (by omega) (by rw [Lib.size_eq];omega)).mono ?_;rintro e w' ⟨rfl,hw⟩;exact ⟨_,rfl,D9 hw,fun S=>Ea (SX _ _).symm⟩
 ·cases h
def ad2 (hf:O.ab n=f) (eH:∀args w,(callFunc f args).run O.P w= .ok (.enter f args) w)
  (hc:∀(z:Int) (w:yh),-9223372036854775808<=z->z<=9223372036854775807->sd O w->xE O.P f #[.int .i64 z] w fun e w'=>e= .returned (.string ⟨(Lib.itoa z).toArray⟩)/\Calm w w'):
  ∀aj r,Fo aj=some r->dG O n aj r:=by
 intro aj r h;unfold Fo at h
 split at h
 ·rename_i z
  cases hb:sn z with
  | false=>rw [hb] at h;cases h
  | true=>
   rw [hb] at h;simp only [yp,yb] at h;subst h;have hz: -9223372036854775808<=z/\z<=9223372036854775807:=by
    cases z with
    | ofNat k=>have:=kG hb;show -9223372036854775808<=(k:Int)/\(k:Int)<=9223372036854775807;omega
    | negSucc k=>have:=kG hb;omega
   refine mq ED (by rw [hf];exact eH) ?_
   intro w S args hg dz;obtain ⟨u,rfl,h1⟩:=B5 dz;subst h1;rw [hf];refine (hc z w hz.1 hz.2 hg).mono ?_;rintro e w' ⟨rfl,hw⟩;exact ⟨_,rfl,hw,fun S=>Ea (adZ z).symm⟩
 ·cases h
def ZS (hf:O.ab n=f) (eH:∀args w,(callFunc f args).run O.P w= .ok (.enter f args) w)
  (hc:∀(z:Nat) (w:yh),z<18446744073709551616->sd O w->xE O.P f #[.int .u64 z,.int .i64 10] w fun e w'=>e= .returned (.string ⟨(Lib.decDigits z).toArray⟩)/\Calm w w'):
  ∀aj r,rq aj=some r->dG O n aj r:=by
 intro aj r h;unfold rq at h
 split at h
 ·rename_i z
  cases hb:yF z 18446744073709551616 with
  | false=>rw [hb] at h;cases h
  | true=>
   rw [hb] at h;simp only [yp,yb] at h;subst h;refine mq ED (by rw [hf];exact eH) ?_
   intro w S args hg dz;obtain ⟨u,v,rfl,h1,h2⟩:=so dz;subst h1;subst h2;rw [hf];refine (hc z w (kG hb) hg).mono ?_;rintro e w' ⟨rfl,hw⟩;exact ⟨_,rfl,hw,fun S=>Ea (Mf z).symm⟩
 ·cases h
def ad3 (hf:O.ab n=f) (eH:∀args w,(callFunc f args).run O.P w= .ok (.enter f args) w)
  (hc:∀(s:ByteArray) (z:Int) (w:yh),s.size<=18->Lib.atoi s.data.toList=some z->xE O.P f #[.string s] w fun e w'=>e= .returned (.tuple #[.int .i64 z,.nilIface])/\Calm w w'):
  ∀aj r,Fp aj=some r->dG O n aj r:=by
 intro aj r h;unfold Fp at h
 split at h
 ·rename_i s
  cases hb:(yF 0 s.length&&yx s.length 18) with
  | false=>rw [hb] at h;cases h
  | true=>
   rw [hb] at h;simp only [yp] at h;simp only [yf] at hb;have l1:=kG hb.1;have l2:=yr hb.2
   split at h
   ·rename_i z hz;simp only [yb] at h;subst h;refine mq (BF (by simp [aX])) (by rw [hf];exact eH) ?_
    intro w S args hg dz;obtain ⟨u,rfl,h1⟩:=B5 dz;obtain ⟨t1,rfl,rfl⟩:=h1;rw [xc] at l1 l2;have ha:Lib.atoi t1.data.toList=some (z:Int):=ad0 hz l1;rw [hf];refine (hc t1 z w (by rw [Lib.size_eq];exact l2) ha).mono ?_
    simp only [ae,au]
    grind
   ·cases h
 ·cases h
def ab2 (hf:O.ab n=f) (eH:∀args w,(callFunc f args).run O.P w= .ok (.enter f args) w)
  (hc:∀(x y:Nat) (w:yh),x<18446744073709551616->y<18446744073709551616->xE O.P f #[.int .u64 x,.int .u64 y] w fun e w'=>e= .returned (.tuple #[.int .u64 ((x*y/18446744073709551616:Nat):Int),.int .u64 ((x*y%18446744073709551616:Nat):Int)])/\w'=w):
  ∀aj r,og aj=some r->dG O n aj r:=by
 intro aj r h;unfold og at h
 split at h
 ·rename_i x y
  cases hb:(yF x 18446744073709551616&&yF y 18446744073709551616) with
  | false=>rw [hb] at h;cases h
  | true=>
   rw [hb] at h;simp only [yp,yb] at h;subst h;simp only [yf] at hb;refine mq (BF (by simp [aX])) (by rw [hf];exact eH) ?_
   intro w S args hg dz;obtain ⟨u,v,rfl,h1,h2⟩:=so dz;subst h1;subst h2;rw [hf];refine (hc x y w (kG hb.1) (kG hb.2)).mono ?_;rintro e w' ⟨rfl,rfl⟩;refine ⟨_,rfl,Calm.refl,fun S=>?_⟩;simp only [ae,au]
   grind
 ·cases h
def ab3 (hf:O.ab n=f) (eH:∀args w,(callFunc f args).run O.P w= .ok (.enter f args) w)
  (hc:∀(x:Int) (w:yh),0<=x->x<=18446744073709551615->xE O.P f #[.int .u64 x] w fun e w'=>e= .returned (.int .i64 (Lib.bitLen x.toNat:Nat))/\w'=w):
  ∀aj r,EO aj=some r->dG O n aj r:=by
 intro aj r h;unfold EO at h
 split at h
 ·rename_i x
  cases hb:yF x 18446744073709551616 with
  | false=>rw [hb] at h;cases h
  | true=>
   rw [hb] at h;simp only [yp,yb] at h;subst h
   have:=kG hb
   refine mq MA (by rw [hf];exact eH) ?_
   intro w S args hg dz;obtain ⟨u,rfl,h1⟩:=B5 dz;subst h1;rw [hf];refine (hc (yab x) w (uL x) (by show (x:Int)<=_;omega)).mono ?_;rintro e w' ⟨rfl,rfl⟩;refine ⟨_,rfl,Calm.refl,fun S=>?_⟩;rw [Mg];rfl
 ·cases h
def ad4 (hf:O.ab n=f) (eH:∀args w,(callFunc f args).run O.P w= .ok (.enter f args) w)
  (hc:∀(x:Int) (w:yh),0<=x->x<=18446744073709551615->xE O.P f #[.int .u64 x] w fun e w'=>e= .returned (.int .i64 (64-(Lib.bitLen x.toNat:Nat)))/\w'=w):
  ∀aj r,B4 aj=some r->dG O n aj r:=by
 intro aj r h;unfold B4 at h
 split at h
 ·rename_i x
  cases hb:yF x 18446744073709551616 with
  | false=>rw [hb] at h;cases h
  | true=>
   rw [hb] at h;simp only [yp,yb] at h;subst h
   have:=kG hb
   have hle:∀f x,Lib.bitLenAux f x<=f:=by
    intro f
    induction f with
    | zero=>intro x;exact yv _
    | succ f ih=>
     intro x;rw [Lib.bitLenAux]
     grind
   refine mq MA (by rw [hf];exact eH) ?_
   intro w S args hg dz;obtain ⟨u,rfl,h1⟩:=B5 dz;subst h1;rw [hf];refine (hc (yab x) w (uL x) (by show (x:Int)<=_;omega)).mono ?_;rintro e w' ⟨rfl,rfl⟩;refine ⟨_,rfl,Calm.refl,fun S=>?_⟩;simp only [ae,Mg];show Value.int .i64 (64-(Lib.bitLenAux 64 x:Int))=Value.int .i64 ((64-Lib.bitLenAux 64 x:Nat):Int)
   grind
 ·cases h
def aak (hf:O.ab n=f) (hc:∀(b:Nat) (w:yh),(callFunc f #[.float .f64 b]).run O.P w= .ok (.value (.int .u64 b)) w):
  ∀aj r,Me aj=some r->dG O n aj r:=by
 intro aj r h;unfold Me at h
 split at h
 ·rename_i b;simp only [yb] at h;subst h;refine HY MA ?_;intro w S args dz;obtain ⟨u,rfl,h1⟩:=B5 dz;simp only [ae] at h1;subst h1;rw [hf];exact ⟨_,hc b w,fun S=>rfl⟩
 ·cases h
def ZO (hf:O.ab n=f) (hc:∀(b:Nat) (w:yh),(callFunc f #[.int .u64 b]).run O.P w= .ok (.value (.float .f64 b)) w):
  ∀aj r,La aj=some r->dG O n aj r:=by
 intro aj r h;unfold La at h
 split at h
 ·rename_i b;simp only [yb] at h;subst h;refine HY afM ?_;intro w S args dz;obtain ⟨u,rfl,h1⟩:=B5 dz;simp only [ae] at h1;subst h1;rw [hf];exact ⟨_,hc b w,fun S=>rfl⟩
 ·cases h
def ab4 (hf:O.ab n=f)
  (hc:∀(x y c:Nat) (w:yh),c<=1->(callFunc f #[.int .u64 x,.int .u64 y,.int .u64 c]).run O.P w= .ok (.value (.tuple #[.int .u64 (((x+y+c)%18446744073709551616:Nat):Int),.int .u64 (((x+y+c)/18446744073709551616:Nat):Int)])) w):
  ∀aj r,lE aj=some r->dG O n aj r:=by
 intro aj r h;unfold lE at h
 split at h
 ·rename_i x y c
  cases hb:(yx c 1&&(yF x 18446744073709551616&&yF y 18446744073709551616)) with
  | false=>rw [hb] at h;cases h
  | true=>
   rw [hb] at h;simp only [yp,yb] at h;subst h;simp only [yf] at hb;refine HY (BF (by simp [aX])) ?_;intro w S args dz;obtain ⟨u,v,z,rfl,h1,h2,h3⟩:=Vg dz;subst h1;subst h2;subst h3;rw [hf];refine ⟨_,hc x y c w (yr hb.1),fun S=>?_⟩;simp only [ae,au]
   grind
 ·cases h
def ab5 (hf:O.ab n=f)
  (hc:∀(x y b:Nat) (w:yh),b<=1->(callFunc f #[.int .u64 x,.int .u64 y,.int .u64 b]).run O.P w= .ok (.value (.tuple #[.int .u64 (((x+18446744073709551616-y-b)%18446744073709551616:Nat):Int),.int .u64 ((if x<y+b then 1 else 0:Nat):Int)])) w):
  ∀aj r,rR aj=some r->dG O n aj r:=by
 intro aj r h;unfold rR at h
 split at h
 ·rename_i x y c
  cases hb:(yx c 1&&(yF x 18446744073709551616&&yF y 18446744073709551616)) with
  | false=>rw [hb] at h;cases h
  | true=>
   rw [hb] at h;simp only [yp,yb] at h;subst h;simp only [yf] at hb;have dE:=yr hb.1;have hy:=kG hb.2.2;refine HY (BF (by simp [aX])) ?_;intro w S args dz;obtain ⟨u,v,z,rfl,h1,h2,h3⟩:=Vg dz;subst h1;subst h2;subst h3;rw [hf];refine ⟨_,hc x y c w dE,fun S=>?_⟩;simp only [ae,au];refine ⟨_,rfl,_,_,rfl,?_,_,_,rfl,?_,rfl⟩
   ·grind
   ·congr 1
    by_cases h:x<y+c
    ·have:yx (y+c) x=false:=by
      cases hq:yx (y+c) x with
      | false=>rfl
      | true=>have:=yr hq;omega
     grind
    ·rw [yu (by omega),yE h];rfl
 ·cases h
end
end
end
end VE
