import Derived.Lib.Index
import Derived.Lib.ItoaNum
import Derived.Lib.Atoi
import Derived.Lib.BitFns
import Derived.Lib.Repeat
import Derived.Lib.SlTrimSet
import Derived.Shelf.Strings.Cut
import Derived.Shelf.Strings.Prefix
import Derived.Shelf.Small.Bits
import Derived.RowKit
import Derived.Test.YtlkgmaenobiooaaGreatDoorTad
import Derived.Test.YtlkgmaenobiooaaGreatDoorTaa
set_option linter.all false
set_option maxRecDepth 100000
open Array renaming replicate→uA
open Bool renaming and_eq_true→yg,false_eq_true→yE
open Go renaming Calls→xN,Func→ybo,LeavesInM→ybU,ResultVar→ybR,Value→yf,World→yh
open Int renaming natCast_nonneg→tx,ofNat→yaO
open List renaming length_map→xq,mapM_cons→vQ,map_append→xR,map_cons→xi,map_reverse→tG
open Nat renaming beq→yu,ble→yG,ble_eq_true_of_le→yy,blt→yL,eq_of_beq_eq_true→yo,le_of_ble_eq_true→yv,le_refl→yA,le_trans→yS
open Option.some renaming injEq→yc
open Prod.mk renaming injEq→yq
open UInt8 renaming ofNat→ybq,toNat→xf,toNat_ofNat'→yag
namespace VE
section
open Go
section
variable {O:bw} {self:cN}
def eW.none {m:Mp} {S:Nat->Prop} {w:yh} {s s':St} {ex:Ex} {n lo:Nat} {a:Act} {w':yh} (l:Nat):¬eW O m S w s ex s' n lo (.goto l) a w':=by
 rintro ⟨h,_⟩;cases ex<;>cases h
def eW.then {m m1:Mp} {S S1:Nat->Prop} {w w1:yh} {s s1 s2:St} {ex:Ex} {n lo:Nat} {a':Act} {w':yh} {e:Exit} {ex1:Ex} (h1:s1.base=s.base)
  (hf:cC m S w s.hp m1 S1 w1 s1.hp s.base) (h:eW O m1 S1 w1 s1 ex s2 n lo e a' w'):eW O m S w s ex s2 n lo e a' w':=by
 obtain ⟨h2,m',S',k1,k2,k3,k4,k5,k6,k7⟩:=h;rw [h1] at k3 k4 k5;exact ⟨h2,m',S',k1,k2,k3,k4,hf.trans k5,k6,k7⟩
def eW.eC {m:Mp} {S:Nat->Prop} {w:yh} {s s1:St} {n lo:Nat} {a':Act} {w':yh} {e:Exit} {ex:Ex} (live:List Nat) (h:eW O m S w s ex s1 n lo e a' w'):eW O m S w s ex (bS live s1) n lo e a' w':=by
 obtain ⟨h2,m',S',k1,k2,k3,k4,k5,k6,k7⟩:=h;obtain ⟨m2,g1,g2,g3,g4,g5⟩:=Um (live:=live) k1 k2 (by rw [k3];exact k4)
 rw [k3] at g3 g4 g5;exact ⟨h2,m2,S',g1,g2,g3,g4,k5.trans g5,k6,BM k2 g5 k7⟩
def alp {m:Mp} {w:yh} {tmps:Array yf}:∀{ts:List Nat} {s s1:St} {S:Nat->Prop},cA O m S w s.tm tmps->aX O m S w s.hp s.ct->pO ts s=some s1->
  ∃S1,cA O m S1 w s1.tm tmps/\aX O m S1 w s1.hp s1.ct/\s1.base=s.base/\s1.ct=s.ct/\∀base,cC m S w s.hp m S1 w s1.hp base
 | [],s,s1,S,ht,hh,h=>by
  simp only [pO,yc] at h;subst h;exact ⟨S,ht,hh,rfl,rfl,fun _=>cC.refl⟩
 | t::r,s,s1,S,ht,hh,h=>by
  simp only [pO] at h
  cases hz:freeze deep s.hp (ak s.tm t) with
  | none=>simp [hz] at h
  | some q=>
   obtain ⟨v,hp⟩:=q;simp only [hz] at h;obtain ⟨h1,h2,h3⟩:=UC (O:=O) hz;have hg:iG s.hp s.ct hp s.ct:=⟨h1,yA _,fun id o ho=>(by
     have:=h2 id
     rw [ho] at this
     cases hq:aF s.hp id with
     | none=>rw [hq] at this;simp at this
     | some o'=>exact hh.aZ id o' hq),fun id o ho _=>(by
     have:=h2 id
     rw [ho] at this
     cases hq:aF s.hp id with
     | none=>rw [hq] at this;simp at this
     | some o'=>exact ⟨o',rfl⟩)⟩
   obtain ⟨S',k1,k2,k3,k4⟩:=OH hh hg;have lK:cA O m S' w ((t,v)::s.tm) tmps:=by
    intro i;simp only [ak]
    cases hb:yu t i with
    | true=>
     have:=yo hb
     subst this;exact (h3 hp m S' w s.ct dC.refl k1).1 _ (mv (fun _ _ h=>h) k2 (fun _ _=>rfl) _ _ (ht t))
    | false=>
     exact mv (fun _ _ h=>h) k2 (fun _ _=>rfl) _ _ (ht i)
   obtain ⟨S1,g1,g2,g3,g4,g5⟩:=alp (s:={s with tm:=(t,v)::s.tm,hp:=hp}) lK k1 h;exact ⟨S1,g1,g2,g3,g4,fun base=>(k4 base).trans (g5 base)⟩
def ahd (hO:ep O) (n:Nat) (hC:∀k,k<=n->og O (ev O.prog O.aE k)) (h:Nat):∀(c:Code) (l k:Nat) (j:Nat),j<=n->∀(s:St) (ex:Ex) (s':St),
  bR O.prog O.aE (ev O.prog O.aE j) (comp O.P (O.hint h) c l k).1 s=some (ex,s')->Cn O h c s ex s':=by
 have refl:∀{s:St} {ex:Ex} {m:Mp} {S:Nat->Prop} {w:yh} {a:Act} {lo:Nat},cA O m S w s.tm a.tmps->aX O m S w s.hp s.ct->s.base<=s.ct->Marks lo S w a.defers->eW O m S w s ex s a.tmps.size lo (rE ex) a w:=
  fun h1 h2 h3 h4=>⟨rfl,_,_,h1,h2,rfl,h3,cC.refl,rfl,h4⟩
 have W0:∀{self:cN} {s:St} {r:Ex×St},bR O.prog O.aE self (.aS [⟨none,none,bad⟩]) s=some r->False:=by
  intro self s r hv;simp [bR,dT,bad,bn,fe,aG] at hv
 intro c
 induction c with
 | skip=>
  intro l k j hj s ex s' hv ro lo m S w a dw ht hh hb hn a8 fo cV;simp only [comp,bR,yc,yq] at hv;obtain ⟨rfl,rfl⟩:=hv;exact wpIn_skip (refl ht hh hb cV)
 | label x=>
  intro l k j hj s ex s' hv ro lo m S w a dw ht hh hb hn a8 fo cV;simp only [comp,bR,yc,yq] at hv;obtain ⟨rfl,rfl⟩:=hv;exact wpIn_label (refl ht hh hb cV)
 | exit id=>
  intro l k j hj s ex s' hv ro lo m S w a dw ht hh hb hn a8 fo cV;simp only [comp,bR,yc,yq] at hv;obtain ⟨rfl,rfl⟩:=hv
  exact wpIn_exit (refl (ex:= .exit id) ht hh hb cV)
 | ret=>
  intro l k j hj s ex s' hv ro lo m S w a dw ht hh hb hn a8 fo cV;simp only [comp,bR,yc,yq] at hv;obtain ⟨rfl,rfl⟩:=hv
  exact wpIn_ret (refl (ex:= .ret) ht hh hb cV)
 | goto x=>intro l k j hj s ex s' hv;exact (W0 (by simpa only [comp] using hv)).elim
 | refuse x=>intro l k j hj s ex s' hv;exact (W0 (by simpa only [comp] using hv)).elim
 | region id ops d=>
  intro l k j hj s ex s' hv;simp only [comp] at hv;generalize hq:O0 O.P (O.hint h) ops d k=q at hv;obtain ⟨r,k'⟩:=q;have main:∀{s s':St} {ex:Ex},bR O.prog O.aE (ev O.prog O.aE j) (.aS r) s=some (ex,s')->Cn O h (.region id ops d) s ex s':=by
   intro s s' ex hv;simp only [bR] at hv
   cases ho:dT O.prog O.aE (ev O.prog O.aE j) r s with
   | none=>simp [ho] at hv
   | some s1=>
    simp only [ho,yc,yq] at hv;obtain ⟨rfl,rfl⟩:=hv;exact aya hO (hC j hj) h id ops d k (by rw [hq];exact ho)
  simp only at hv
  split at hv
  ·exact main hv
  ·rename_i t ts _;simp only [bR] at hv
   cases hf:pO (t::ts) s with
   | none=>simp [hf] at hv
   | some s1=>
    simp only [hf] at hv;intro ro lo m S w a dw ht hh hb hn a8 fo cV;obtain ⟨S1,g1,g2,g3,g4,g5⟩:=alp ht hh hf;have h1:=main (s:=s1) (by simpa only [bR] using hv) ro lo m S1 w a dw g1 g2 (by rw [g3,g4];exact hb) hn a8 fo (BM hh (g5 s.base) cV)
    refine wpIn_mono h1 (fun e a' w' hp=>?_)
    exact eW.then (ex1:= .normal) g3 (g5 s.base) hp
 | seq x y ihx ihy=>
  intro l k j hj s ex s' hv ro lo m S w a dw ht hh hb hn a8 fo cV;simp only [comp] at hv;generalize zm:comp O.P (O.hint h) x l k=qx at hv;obtain ⟨x',l1,k1⟩:=qx;simp only at hv;generalize Np:comp O.P (O.hint h) y l1 k1=qy at hv;obtain ⟨y',l2,k2⟩:=qy;simp only [bR] at hv
  cases hx:bR O.prog O.aE (ev O.prog O.aE j) x' s with
  | none=>simp [hx] at hv
  | some r=>
   obtain ⟨ex1,s1⟩:=r;have h1:=ihx l k j hj s ex1 s1 (by rw [zm];exact hx) ro lo m S w a dw ht hh hb hn a8 fo cV
   refine wpIn_seq (wpIn_mono h1 ?_);rintro e a1 w1 ⟨rfl,m1,S1,g1,g2,g3,g4,g5,g6,g7⟩;have stop:ex1≠.normal->ex=ex1/\s'=s1:=by
    intro fQ;rw [hx] at hv
    cases ex1 with
    | normal=>exact absurd rfl fQ
    | ret=>simp only [yc,yq] at hv;exact ⟨hv.1.symm,hv.2.symm⟩
    | exit id=>simp only [yc,yq] at hv;exact ⟨hv.1.symm,hv.2.symm⟩
   cases ex1 with
   | normal=>
    simp only [hx] at hv;simp only [rE,Exit.then];have h2:=ihy l1 k1 j hj s1 ex s' (by rw [Np];exact hv) ro lo m1 S1 w1 a1 (Ou g5 dw) g1 g2 (by rw [g3];exact g4) (by rw [g6];exact hn) a8 (yS fo g5.size) g7
    rw [g6] at h2
    exact wpIn_mono h2 (fun e a' w' hp=>eW.then (ex1:= .normal) g3 g5 hp)
   | ret=>
    obtain ⟨rfl,rfl⟩:=stop (by simp);exact ⟨rfl,m1,S1,g1,g2,g3,g4,g5,g6,g7⟩
   | exit id=>
    obtain ⟨rfl,rfl⟩:=stop (by simp);exact ⟨rfl,m1,S1,g1,g2,g3,g4,g5,g6,g7⟩
 | cond x p q ihp ihq=>
  intro l k j hj s ex s' hv ro lo m S w a dw ht hh hb hn a8 fo cV;simp only [comp] at hv;generalize zm:comp O.P (O.hint h) p (l+1) k=qx at hv;obtain ⟨p',l1,k1⟩:=qx;simp only at hv;generalize Np:comp O.P (O.hint h) q l1 k1=qy at hv;obtain ⟨q',l2,k2⟩:=qy;simp only at hv;have main:∀(ex:Ex) (s':St),bR O.prog O.aE (ev O.prog O.aE j) (.cond (aT (O.hint h) x) p' q') s=some (ex,s')->(Code.cond x p q).wpIn (WF ro) 0 O.P (eW O m S w s ex s' a.tmps.size lo) a w:=by
   intro ex s' hv;simp only [bR] at hv;have rx:=cL (hO.hint h) ht x
   split at hv
   ·rename_i t hx;rw [hx] at rx;simp only [an] at rx
    cases t with
    | true=>
     simp only [yB] at hv;exact wpIn_cond_true rx (ihp (l+1) k j hj s ex s' (by rw [zm];exact hv) ro lo m S w a dw ht hh hb hn a8 fo cV)
    | false=>
     simp only [yM] at hv;exact wpIn_cond_false rx (ihq l1 k1 j hj s ex s' (by rw [Np];exact hv) ro lo m S w a dw ht hh hb hn a8 fo cV)
   ·cases hv
  cases amf:(O.hint h).out l with
  | none=>rw [amf] at hv;exact main ex s' hv
  | some live=>
   rw [amf] at hv;simp only at hv;rw [show bR O.prog O.aE (ev O.prog O.aE j) (.seq (.cond (aT (O.hint h) x) p' q') (.kp live)) s=match bR O.prog O.aE (ev O.prog O.aE j) (.cond (aT (O.hint h) x) p' q') s with | some (.normal,s1)=>some (.normal,bS live s1) | r=>r from rfl] at hv
   cases hx:bR O.prog O.aE (ev O.prog O.aE j) (.cond (aT (O.hint h) x) p' q') s with
   | none=>simp [hx] at hv
   | some r=>
    obtain ⟨ex1,s1⟩:=r;have h1:=main ex1 s1 hx;rw [hx] at hv
    cases ex1 with
    | normal=>
     simp only [yc,yq] at hv;obtain ⟨rfl,rfl⟩:=hv;exact wpIn_mono h1 (fun e a' w' hp=>eW.eC live hp)
    | ret=>simp only [yc,yq] at hv;obtain ⟨rfl,rfl⟩:=hv;exact h1
    | exit id=>simp only [yc,yq] at hv;obtain ⟨rfl,rfl⟩:=hv;exact h1
 | block id x ih=>
  intro l k j hj s ex s' hv ro lo m S w a dw ht hh hb hn a8 fo cV;simp only [comp] at hv;generalize zm:comp O.P (O.hint h) x l k=qx at hv;obtain ⟨x',r⟩:=qx;simp only at hv;have main:∀(ex:Ex) (s':St),bR O.prog O.aE (ev O.prog O.aE j) (.aQ id x') s=some (ex,s')->(Code.block id x).wpIn (WF ro) 0 O.P (eW O m S w s ex s' a.tmps.size lo) a w:=by
   intro ex s' hv;simp only [bR] at hv
   cases hx:bR O.prog O.aE (ev O.prog O.aE j) x' s with
   | none=>simp [hx] at hv
   | some q=>
    obtain ⟨ex1,s1⟩:=q;have h1:=ih l k j hj s ex1 s1 (by rw [zm];exact hx) ro lo m S w a dw ht hh hb hn a8 fo cV
    refine wpIn_block (wpIn_mono h1 ?_);rintro e a1 w1 ⟨rfl,g⟩
    cases ex1 with
    | normal=>
     simp only [hx,yc,yq] at hv;obtain ⟨rfl,rfl⟩:=hv;exact ⟨rfl,g⟩
    | ret=>
     simp only [hx,yc,yq] at hv;obtain ⟨rfl,rfl⟩:=hv;exact ⟨rfl,g⟩
    | exit i=>
     simp only [hx] at hv
     cases SO:yu i id with
     | true=>
      rw [SO] at hv;simp only [yB,yc,yq] at hv;obtain ⟨rfl,rfl⟩:=hv
      have:=yo SO
      subst this;simp only [rE,Exit.inBlock,xm];exact ⟨rfl,g⟩
     | false=>
      rw [SO] at hv;simp only [yM,yc,yq] at hv;obtain ⟨rfl,rfl⟩:=hv;have fQ:i≠id:=fun e=>by subst e;simp at SO
      simp only [rE,Exit.inBlock,fQ,y9];exact ⟨rfl,g⟩
  have aBQ:∀live:List Nat,bR O.prog O.aE (ev O.prog O.aE j) (.seq (.aQ id x') (.kp live)) s=some (ex,s')->(Code.block id x).wpIn (WF ro) 0 O.P (eW O m S w s ex s' a.tmps.size lo) a w:=by
   intro live hv;rw [show bR O.prog O.aE (ev O.prog O.aE j) (.seq (.aQ id x') (.kp live)) s=match bR O.prog O.aE (ev O.prog O.aE j) (.aQ id x') s with | some (.normal,s1)=>some (.normal,bS live s1) | r=>r from rfl] at hv
   cases hx:bR O.prog O.aE (ev O.prog O.aE j) (.aQ id x') s with
   | none=>simp [hx] at hv
   | some r=>
    obtain ⟨ex1,s1⟩:=r;have h1:=main ex1 s1 hx;rw [hx] at hv
    cases ex1 with
    | normal=>
     simp only [yc,yq] at hv;obtain ⟨rfl,rfl⟩:=hv;exact wpIn_mono h1 (fun e a' w' hp=>eW.eC live hp)
    | ret=>simp only [yc,yq] at hv;obtain ⟨rfl,rfl⟩:=hv;exact h1
    | exit id=>simp only [yc,yq] at hv;obtain ⟨rfl,rfl⟩:=hv;exact h1
  split at hv
  ·exact aBQ _ hv
  ·exact main ex s' hv
 | loop x ih=>
  intro l k j hj s ex s' hv;simp only [comp] at hv;generalize zm:comp O.P (O.hint h) x (l+1) k=qx at hv;obtain ⟨x',r⟩:=qx;simp only at hv;have rounds:∀(j:Nat),j<=n->∀(s:St) (ex:Ex) (s':St),bR O.prog O.aE (ev O.prog O.aE j) (.loop ((O.hint h).live l) x') s=some (ex,s')->∃K,∀(ro:Option Nat) (lo:Nat) (m:Mp) (S:Nat->Prop) (w:yh) (a:Act),Aa ro w->cA O m S w s.tm a.tmps->aX O m S w s.hp s.ct->s.base<=s.ct->(O.hint h).n<=a.tmps.size->O.w0.heap.size<=lo->lo<=w.heap.size->Marks lo S w a.defers->
    Code.roundsIn (WF ro) 0 O.P x (eW O m S w s ex s' a.tmps.size lo) K a w:=by
   intro j
   induction j with
   | zero=>
    intro hj s ex s' hv;simp only [bR] at hv
    cases hx:bR O.prog O.aE (ev O.prog O.aE 0) x' (bS ((O.hint h).live l) s) with
    | none=>simp [hx] at hv
    | some q=>
     obtain ⟨ex1,s1⟩:=q;have stop:ex1≠.normal->ex=ex1/\s'=s1:=by
      intro fQ;rw [hx] at hv
      cases ex1 with
      | normal=>exact absurd rfl fQ
      | ret=>simp only [yc,yq] at hv;exact ⟨hv.1.symm,hv.2.symm⟩
      | exit id=>simp only [yc,yq] at hv;exact ⟨hv.1.symm,hv.2.symm⟩
     refine ⟨1,fun ro lo m S w a dw ht hh hb hn a8 fo cV=>?_⟩;rw [roundsIn_succ];obtain ⟨m1,c1,c2,c3,c4,c5⟩:=Um (live:=(O.hint h).live l) ht hh hb;have h1:=ih (l+1) k 0 hj _ ex1 s1 (by rw [zm];exact hx) ro lo m1 S w a dw c1 c2 (by rw [c3];exact c4) hn a8 fo cV
     refine wpIn_mono h1 ?_;rintro e a1 w1 hp;have aw:=eW.then (O:=O) (m:=m) (S:=S) (w:=w) (s:=s) (ex1:= .normal) c3 c5 hp;obtain ⟨rfl,_⟩:=hp
     cases ex1 with
     | normal=>simp only [hx,KC] at hv;cases hv
     | ret=>obtain ⟨rfl,rfl⟩:=stop (by simp);exact aw
     | exit id=>obtain ⟨rfl,rfl⟩:=stop (by simp);exact aw
   | succ j ihj=>
    intro hj s ex s' hv;simp only [bR] at hv
    cases hx:bR O.prog O.aE (ev O.prog O.aE (j+1)) x' (bS ((O.hint h).live l) s) with
    | none=>simp [hx] at hv
    | some q=>
     obtain ⟨ex1,s1⟩:=q;have stop:ex1≠.normal->ex=ex1/\s'=s1:=by
      intro fQ;rw [hx] at hv
      cases ex1 with
      | normal=>exact absurd rfl fQ
      | ret=>simp only [yc,yq] at hv;exact ⟨hv.1.symm,hv.2.symm⟩
      | exit id=>simp only [yc,yq] at hv;exact ⟨hv.1.symm,hv.2.symm⟩
     have more:∃K,ex1= .normal->∀(ro:Option Nat) (lo:Nat) (m:Mp) (S:Nat->Prop) (w:yh) (a:Act),Aa ro w->cA O m S w s1.tm a.tmps->aX O m S w s1.hp s1.ct->s1.base<=s1.ct->(O.hint h).n<=a.tmps.size->O.w0.heap.size<=lo->lo<=w.heap.size->Marks lo S w a.defers->
       Code.roundsIn (WF ro) 0 O.P x (eW O m S w s1 ex s' a.tmps.size lo) K a w:=by
      cases ex1 with
      | normal=>
       rw [hx] at hv;have eK:ev O.prog O.aE (j+1) (.loop ((O.hint h).live l) x') s1=some (ex,s'):=hv;rw [KD] at eK;obtain ⟨K,hK⟩:=ihj (by omega) s1 ex s' eK;exact ⟨K,fun _=>hK⟩
      | ret=>exact ⟨0,fun h=>by cases h⟩
      | exit id=>exact ⟨0,fun h=>by cases h⟩
     obtain ⟨K,hK⟩:=more;refine ⟨K+1,fun ro lo m S w a dw ht hh hb hn a8 fo cV=>?_⟩;rw [roundsIn_succ];obtain ⟨m1,c1,c2,c3,c4,c5⟩:=Um (live:=(O.hint h).live l) ht hh hb;have h1:=ih (l+1) k (j+1) hj _ ex1 s1 (by rw [zm];exact hx) ro lo m1 S w a dw c1 c2 (by rw [c3];exact c4) hn a8 fo cV
     refine wpIn_mono h1 ?_;rintro e a1 w1 hp;have aw:=eW.then (O:=O) (m:=m) (S:=S) (w:=w) (s:=s) (ex1:= .normal) c3 c5 hp;obtain ⟨rfl,_⟩:=hp
     cases ex1 with
     | normal=>
      simp only [rE,Exit.then];obtain ⟨_,m2,S2,g1,g2,g3,g4,g5,g6,g7⟩:=aw;have h2:=hK rfl ro lo m2 S2 w1 a1 (Ou g5 dw) g1 g2 (by rw [g3];exact g4) (by rw [g6];exact hn) a8 (yS fo g5.size) g7
      rw [g6] at h2;revert h2;generalize hA:a.tmps.size=sz;intro h2;have step:∀(K:Nat) (a':Act) (w':yh),Code.roundsIn (WF ro) 0 O.P x (eW O m2 S2 w1 s1 ex s' sz lo) K a' w'->Code.roundsIn (WF ro) 0 O.P x (eW O m S w s ex s' sz lo) K a' w':=by
       intro K
       induction K with
       | zero=>intro a' w' Df;exact Df
       | succ K ihK=>
        intro a' w' Df;rw [roundsIn_succ] at Df ⊢;refine wpIn_mono Df (fun e a'' Fi hq=>?_)
        cases e with
        | normal=>exact ihK a'' Fi hq
        | exit id=>exact eW.then (ex1:= .normal) g3 g5 hq
        | goto x=>exact eW.then (ex1:= .normal) g3 g5 hq
        | ret=>exact eW.then (ex1:= .normal) g3 g5 hq
        | panic x=>exact eW.then (ex1:= .normal) g3 g5 hq
        | outgrown=>exact eW.then (ex1:= .normal) g3 g5 hq
      exact step K a1 w1 h2
     | ret=>obtain ⟨rfl,rfl⟩:=stop (by simp);exact aw
     | exit id=>obtain ⟨rfl,rfl⟩:=stop (by simp);exact aw
  obtain ⟨K,hK⟩:=rounds j hj s ex s' hv;intro ro lo m S w a dw ht hh hb hn a8 fo cV;exact wpIn_loop_rounds K (hK ro lo m S w a dw ht hh hb hn a8 fo cV)
 | scope x ih=>
  intro l k j hj s ex s' hv ro lo m S w a dw ht hh hb hn a8 fo cV;simp only [comp] at hv;exact aq5 (ih l k j hj s ex s' hv ro lo m S w a dw ht hh hb hn a8 fo cV) (fun l a w=>eW.none l)
 | rangeFunc f ps cT body iha ihb=>
  intro l k j hj s ex s' hv;simp only [comp] at hv;generalize zm:comp O.P (O.hint h) cT l k=qx at hv;obtain ⟨x',l1,k1⟩:=qx;simp only at hv;generalize Np:comp O.P (O.hint h) body l1 k1=qy at hv;obtain ⟨y',l2,k2⟩:=qy;simp only at hv
  cases ha:Ag (O.hint h).n ps.toList with
  | false=>rw [ha] at hv;exact (W0 hv).elim
  | true=>
   rw [ha] at hv;exact aBP hO (hC j hj) ⟨l,k,by rw [zm]⟩ ⟨l1,k1,by rw [Np]⟩ ha hv
end
end
section
open Go
section
variable {O:bw} {m:Mp} {S:Nat->Prop} {w:yh}
def afw:∀(av:List AV) (j i:Nat),ak (fL j av) (j+i)=av.getD i .undef
 | [],j,i=>by simp [fL,ak]
 | v::r,j,i=>by
  cases i with
  | zero=>simp [fL,ak]
  | succ i=>
   simp only [fL,ak];have hb:yu j (j+(i+1))=false:=by
    cases hq:yu j (j+(i+1)) with
    | false=>rfl
    | true=>have:=yo hq;omega
   rw [hb,show j+(i+1)=j+1+i by omega];rw [afw r (j+1) i]
   simp
def afx {av:List AV} {args:Array yf} (n:Nat) (h:aA O.aj m S w av args.toList):cA O m S w (fL 0 av) (args++uA n undef):=by
 intro i
 have:=afw av 0 i
 rw [Nat.zero_add] at this;rw [this,List.getD_eq_getElem?_getD]
 cases hv:av[i]? with
 | none=>simp only [Option.getD_none,an]
 | some v=>
  obtain ⟨u,h1,h2⟩:=UY h hv;have hl:i<args.size:=by
   grind
  have:(args++uA n undef).getD i undef=u:=by
   rw [Array.getD_eq_getD_getElem?,Array.getElem?_append_left hl]
   grind
  grind
def Hc (tmps:Array yf):ybR->Sem yf
 | .tmp t=>pure (tmps.getD t undef)
 | .cell a t=>do loadVar t (<-asAddr (tmps.getD a undef))
def aq6 (fn:ybo) (tmps:Array yf):results fn tmps=(do let vs <-fn.results.mapM (Hc tmps);pure (if h:vs.size=1 then vs[0] else .tuple vs)):=by
 rfl
def Uo {s:St} {ct:Nat} {tmps:Array yf} (hh:aX O m S w s.hp ct) (ht:cA O m S w s.tm tmps):∀{rs:List ybR} {rv:List RV} {vs:List AV},pv O.P rs=some rv->lO s rv=some vs->
  ∃us,(rs.mapM (Hc tmps)).run O.P w= .ok us w/\aA O.aj m S w vs us
 | [],rv,vs,h1,h2=>by
  simp only [pv,yc] at h1;subst h1;simp only [lO,yc] at h2;subst h2;exact ⟨[],by simp,by simp [aA]⟩
 | .tmp t::rs,rv,vs,h1,h2=>by
  simp only [pv] at h1
  cases hc:pv O.P rs with
  | none=>simp [hc] at h1
  | some l=>
   simp only [hc,yc] at h1;subst h1;simp only [lO,results1] at h2
   cases hl:lO s l with
   | none=>simp [hl] at h2
   | some us'=>
    simp only [hl,yc] at h2;subst h2;obtain ⟨us,g1,g2⟩:=Uo hh ht hc hl;refine ⟨tmps.getD t undef::us,?_,by simp only [aA];exact ⟨_,_,rfl,ht t,g2⟩⟩
    rw [vQ];simp only [Hc,Sem.run_bind,Sem.run_pure,Result.andThen_ok];rw [g1];rfl
 | .cell a t::rs,rv,vs,h1,h2=>by
  simp only [pv] at h1
  cases hz:cU O.P t with
  | none=>simp [hz] at h1
  | some sz=>
   cases Nq:eb O.P t with
   | none=>simp [hz,Nq] at h1
   | some ag=>
    cases hc:pv O.P rs with
    | none=>simp [hz,Nq,hc] at h1
    | some l=>
     simp only [hz,Nq,hc,yc] at h1;subst h1;simp only [lO] at h2
     cases eJ:results1 s (.cell a sz ag) with
     | none=>simp [eJ] at h2
     | some v=>
      cases hl:lO s l with
      | none=>simp [eJ,hl] at h2
      | some us'=>
       simp only [eJ,hl,yc] at h2;subst h2;obtain ⟨us,g1,g2⟩:=Uo hh ht hc hl;have ra:=ht a;have key:∃b o u,tmps.getD a undef= .pointer (some ⟨b,o,none⟩)/\(loadVar t ⟨b,o,none⟩).run O.P w= .ok u w/\an O.aj m S w v u:=by
        simp only [results1] at eJ;cases hta:ak s.tm a<;>rw [hta] at eJ ra<;>simp only [reduceCtorEq] at eJ
        ·rename_i id o;simp only [an] at ra;obtain ⟨p,hm,hp⟩:=ra
         cases hg:aF s.hp id with
         | none=>simp [hg] at eJ
         | some ob=>
          cases ob<;>simp only [hg,reduceCtorEq] at eJ
          have hrr:=UX (o:=0) (n:=0) hh hg hm;obtain ⟨u,q1,q2⟩:=O2 hz Nq (rY o _ p.b p.o hrr) eJ;exact ⟨p.b,p.o+o,u,hp,q1,q2⟩
        ·rename_i cs;simp only [an] at ra;obtain ⟨b,o,hp,_,_,hrr⟩:=ra;obtain ⟨u,q1,q2⟩:=O2 hz Nq hrr eJ;exact ⟨b,o,u,hp,q1,q2⟩
       obtain ⟨b,o,u,q1,q2,q3⟩:=key;refine ⟨u::us,?_,by simp only [aA];exact ⟨_,_,rfl,q3,g2⟩⟩
       rw [vQ]
       have:(Hc tmps (.cell a t)).run O.P w= .ok u w:=by
        simp only [Hc];rw [q1];simp [asAddr,q2]
       rw [Sem.run_bind,this,Result.andThen_ok,Sem.run_bind,g1];rfl
def aqv {s:St} {ct:Nat} {tmps:Array yf} {fn:ybo} {rv:List RV} {v:AV} (hh:aX O m S w s.hp ct) (ht:cA O m S w s.tm tmps) (h1:pv O.P fn.results.toList=some rv) (h2:iX s rv=some v):
  ∃u,(results fn tmps).run O.P w= .ok u w/\an O.aj m S w v u:=by
 unfold iX at h2
 cases hl:lO s rv with
 | none=>simp [hl] at h2
 | some vs=>
  obtain ⟨us,g1,g2⟩:=Uo hh ht h1 hl;have hlen:=iY _ _ g2;have hm:(fn.results.mapM (Hc tmps)).run O.P w= .ok us.toArray w:=by
   rw [Array.mapM_eq_mapM_toList];simp [g1]
  have gN:(results fn tmps).run O.P w= .ok (if h:us.toArray.size=1 then us.toArray[0] else .tuple us.toArray) w:=by
   rw [aq6,Sem.run_bind,hm];rfl
  rw [hl] at h2
  split at h2
  ·rename_i v' oV;simp only [yc] at oV h2;subst oV;simp only [aA] at g2
   grind
  ·rename_i eH fQ oV;simp only [yc] at oV h2;subst oV;subst h2;have h1:¬us.toArray.size=1:=by
    intro h
    have:vs.length=1:=by simp_all
    cases vs with
    | nil=>simp at this
    | cons x t=>
     cases t with
     | nil=>exact fQ x rfl
     | cons y t=>simp at this
   simp only [an]
   grind
  ·grind
def UJ {s:St} {tmps:Array yf} {fn:ybo} {rv:List RV} {v:AV} {m0:Mp} {S0:Nat->Prop} {w0:yh} {hp0:Hp} {SP:Nat} (h1:pv O.P fn.results.toList=some rv) (h2:iX s rv=some v) (eh:SP<=s.ct):∀(rs:List Nat) (w:yh),
  rs.Nodup->(∀r,r∈rs->w.heap[r]? =some (.deferred (some []))/\¬S r/\w0.heap.size<=r)->O.w0.heap.size<=w0.heap.size->aX O m S w s.hp s.ct->cA O m S w s.tm tmps->cC m0 S0 w0 hp0 m S w s.hp SP->
  ybU Fence.wide 0 O.P fn tmps (zK O m0 S0 w0 hp0 SP v s.hp s.ct) (rs.map (fun r=>{target:= .collected r,args:=#[]})) .returning w
 | [],w,_,_,_,hh,ht,hf=>by
  obtain ⟨u,g1,g2⟩:=aqv hh ht h1 h2;exact ⟨u,g1,u,m,S,rfl,hh,eh,g2,hf⟩
 | r::rs,w,jI,hr,a8,hh,ht,hf=>by
  obtain ⟨lI,eM⟩:=List.nodup_cons.1 jI;obtain ⟨a1,a2,a3⟩:=hr r List.mem_cons_self;have fO:=F0 w r (.deferred none);have oU:¬eI m s.hp r:=fun ho=>agc hh ho _ a1
  have Df:=aeL hh fO a2 oU (yS a8 a3)
  have aY:fS S w {w with heap:=w.heap.setIfInBounds r (.deferred none)}:=fun b hb=>fO.other b (fun e=>a2 (e▸hb))
  have Da:cC m0 S0 w0 hp0 m S {w with heap:=w.heap.setIfInBounds r (.deferred none)} s.hp SP:=by
   refine ⟨hf.os,hf.tape,hf.output,by rw [fO.size];exact hf.size,fun b hb ho=>(fO.other b (by omega)).trans (hf.same b hb ho),hf.sub,fun b hb=>(fO.other b (fun e=>a2 (e▸hf.sub b hb))).trans (hf.still b hb),hf.new,hf.own,hf.old,fun b x hb=>?_⟩
   obtain ⟨x',hx⟩:=hf.loops b x hb;exact ⟨x',(fO.other b (fun e=>by subst e;rw [a1] at hx;cases hx)).trans hx⟩
  refine ⟨by simp,.inl ⟨r,_,rfl,?_,UJ h1 h2 eh rs _ eM (fun r' cM=>?_) a8 Df (BL (fun _ _ h=>h) (fun _ h=>h) aY ht) Da⟩⟩
  ·simp only [Instr.takeDeferred,Sem.run_bind,aeM (P:=O.P) a1 (fun _ _ _=>by simp),Result.andThen_ok,Of (P:=O.P) a1 (fun _ _ _=>by simp),Sem.run_pure]
  ·obtain ⟨b1,b2,b3⟩:=hr r' (List.mem_cons_of_mem _ cM);exact ⟨(fO.other r' (fun e=>lI (e▸cM))).trans b1,b2,b3⟩
end
section
variable {O:bw} {self:cN}
def aBR (hO:ep O) (hS:∀v s ex s',self v s=some (ex,s')->∀c h l k,(comp O.P (O.hint h) c l k).1=v->Cn O h c s ex s') {n:Nat} {F:aI} (hF:O.prog n=some F) {hp:Hp} {ct:Nat} {av:List AV} {ex:Ex} {s:St}
  (hv:self F.body ⟨fL 0 av,hp,ct,ct⟩=some (ex,s)) (hex:ex= .normal\/ex= .ret) {v:AV} (hr:iX s F.dU=some v):Cm O n hp ct av v s.hp s.ct:=by
 intro m S w args hh gW;obtain ⟨fn,q1,q2,q3⟩:=hO.prog n F hF;obtain ⟨c,q4,q5,q6,q7⟩:=Ub q2;refine .inl ⟨OL q1 (by rw [q4];rfl) q3,?_⟩
 have hc:=hS _ _ _ _ hv c n 0 0 q5.symm;have hw:=hc none w.heap.size m S w {tmps:=args++uA (fn.ntmps-args.size) undef,defers:=[]} (fun l hl=>by cases hl) (afx _ gW) hh (yA _) (by simp;omega) hh.fT (yA _) ⟨[],rfl,by simp,by simp⟩
 refine callsIn_of_wp_marks (F:=Fence.wide) q1 q4 trivial (wpIn_mono hw ?_);rintro e a' w' ⟨rfl,m',S',k1,k2,k3,k4,k5,k6,rs,k7,k8,k9⟩;have main:ybU Fence.wide 0 O.P fn a'.tmps (zK O m S w hp ct v s.hp s.ct) a'.defers .returning w':=by
  rw [k7];exact UJ q6 hr k4 rs w' k8 k9 hh.fT k2 k1 k5
 rcases hex with rfl | rfl
 ·exact main
 ·exact main
def BV.mono {P:Program} {f:FuncId} {args:Array yf} {w:yh} {R R':Ending->yh->Prop} (h:BV P f args w R) (hr:∀e w',R e w'->R' e w'):BV P f args w R':=by
 rcases h with ⟨h1,h2⟩ | ⟨u,w',h1,h2⟩
 ·exact .inl ⟨h1,CallsIn.mono h2 hr⟩
 ·exact .inr ⟨u,w',h1,hr _ _ h2⟩
def asc {w:yh} {S:Nat->Prop} (hg:Cl O w) (hs:∀b,S b->b<w.heap.size):aX O ff S w [] 0:=
 ⟨(fun id o p h _=>by simp [aF] at h),(fun id p h=>by cases h),(fun i j oi oj pi pj h=>by simp [aF] at h),hs,(fun id p h=>by cases h),(fun id p h=>by cases h),hg.1,hg.2,(fun id o h=>by simp [aF] at h)⟩
def U9 {b:Nat} (h:eI ff [] b):False:=by
 obtain ⟨_,_,_,h,_⟩:=h;simp [aF] at h
def TX {n:Nat} {av:List AV} {v r:AV} {s:St} (h:Cm O n [] 0 av v s.hp s.ct) (hr:result s.hp v=some r):dF O n av r:=by
 intro w S args hg hs gW hp;refine BV.mono (h ff S w args (asc hg hs) gW) ?_;rintro e w' ⟨u,m',S',rfl,k1,k2,k3,k4⟩;have a8:∀b,eI m' s.hp b->w.heap.size<=b:=fun b hb=>(k4.own b hb).elim (fun h=>(U9 h).elim) (fun h=>h)
 obtain ⟨S2,g1,g2,g3,g4⟩:=ar3 (lo:=w.heap.size) k1 hr k3 a8;refine ⟨u,S2,rfl,⟨k4.os,k4.tape,k4.output,k4.size,fun b hb=>k4.same b hb U9⟩,fun b hb=>g1 b (k4.sub b hb),fun b hb=>?_,g3,g4⟩;rcases g2 b hb with h | h
 ·rcases k4.new b h with h | h | h
  ·exact .inl h
  ·exact (U9 h).elim
  ·exact .inr h
 ·exact .inr (a8 b h)
def aq7 (hO:ep O) (hS:∀v s ex s',self v s=some (ex,s')->∀c h l k,(comp O.P (O.hint h) c l k).1=v->Cn O h c s ex s'):og O self:=by
 have heap:∀(n:Nat) (F:aI),O.prog n=some F->∀(hp:Hp) (ct:Nat) (av:List AV) (ex:Ex) (s:St) (v:AV),self F.body ⟨fL 0 av,hp,ct,ct⟩=some (ex,s)->(ex= .normal\/ex= .ret)->iX s F.dU=some v->Cm O n hp ct av v s.hp s.ct:=
  fun n F hF hp ct av ex s v h1 h2 h3=>aBR hO hS hF h1 h2 h3
 refine ⟨?_,?_,fun hp ct l xs v aw a6 hv=>at3 hS hv⟩
 ·intro n av r hv;unfold bZ at hv
  cases hL:O.aE.pure n with
  | some sp=>rw [hL] at hv;exact hO.aE n sp av r hL hv
  | none=>
   simp only [hL] at hv
   cases hF:O.prog n with
   | none=>simp [hF] at hv
   | some F=>
    simp only [hF] at hv
    split at hv
    ·rename_i s hb
     cases hr:iX s F.dU with
     | none=>simp [hr] at hv
     | some v=>simp only [hr] at hv;exact TX (heap n F hF [] 0 av .normal s v hb (.inl rfl) hr) hv
    ·rename_i s hb
     cases hr:iX s F.dU with
     | none=>simp [hr] at hv
     | some v=>simp only [hr] at hv;exact TX (heap n F hF [] 0 av .ret s v hb (.inr rfl) hr) hv
    ·cases hv
 ·intro hp ct n av v aw a6 hv;unfold ja at hv
  cases hL:O.aE.heap n with
  | some sp=>rw [hL] at hv;exact hO.Ha n sp hp ct av v aw a6 hL hv
  | none=>
   simp only [hL] at hv
   cases hF:O.prog n with
   | none=>simp [hF] at hv
   | some F=>
    grind
def aek (hO:ep O):∀n,og O (ev O.prog O.aE n):=by
 intro n
 induction n using Nat.strongRecOn with
 | _ n ih=>
  refine aq7 hO (fun v s ex s' hv c h l k hc=>?_)
  cases n with
  | zero=>rw [KC] at hv;cases hv
  | succ n=>
   rw [KD,<-hc] at hv;exact ahd hO n (fun k hk=>ih k (by omega)) h c l k n (yA _) s ex s' hv
def sound (hO:ep O) {n f:Nat} {av:List AV} {r:AV} (h:evF O.prog O.aE n f av=some r):dF O f av r:=(aek hO n).pure f av r h
end
end
section
open Go (IntKind)
def gK:List Nat->List Nat->Bool
 | [],_=>true
 | a::x,b::y=>yu a b&&gK x y
 | _::_,[]=>false
def mB (sub:List Nat):List Nat->Nat->Option Nat
 | [],k=>bif gK sub [] then some k else none
 | b::r,k=>bif gK sub (b::r) then some k else mB sub r (k+1)
def Qf:List AV->Option AV
 | [.str s,.str sep]=>
  bif yL s.length 4294967281 then
   match mB sep s 0 with
   | some i=>some (.af [.str (s.take i),.str (s.drop (i+sep.length)),.bool true])
   | none=>some (.af [.str s,.str [],.bool false])
  else none
 | _=>none
def Oh:List AV->Option AV
 | [.str s,.str p]=>some (bif gK p s then .af [.str (s.drop p.length),.bool true] else .af [.str s,.bool false])
 | _=>none
def Oi:List AV->Option AV
 | [.str s,.str p]=>some (.bool (gK p s))
 | _=>none
def N8:List AV->Option AV
 | [.str s,.str p]=>some (.str (bif gK p s then s.drop p.length else s))
 | _=>none
def Hd (i:Nat):List Nat->Bool
 | []=>false
 | j::r=>bif yu j i then true else Hd i r
def li (set:List Nat):List Nat->List Nat
 | []=>[]
 | b::r=>bif Hd b set then li set r else b::r
def Gv:List Nat->Bool
 | []=>true
 | b::r=>yL b 128&&Gv r
def trimS:List AV->Option AV
 | [.str s,.str set]=>bif Gv set&&(yL s.length 4294967281&&yL set.length 4294967281) then some (.str (li set (li set s.reverse).reverse)) else none
 | _=>none
def gZ (s:List Nat):Nat->List Nat
 | 0=>[]
 | n+1=>s++gZ s n
def BW:List AV->Option AV
 | [.str s,.int .i64 (.ofNat n)]=>bif yG n 1099511627776&&yG (s.length*n) 1099511627776 then some (.str (gZ s n)) else none
 | _=>none
def nm:Nat->Nat->List Nat->List Nat
 | 0,_,acc=>acc
 | f+1,n,acc=>bif yL n 10 then (48+n)::acc else nm f (n/10) ((48+n%10)::acc)
def au (n:Nat):List Nat:=nm (n+1) n []
def aV:Int->List Nat
 | .ofNat n=>au n
 | .negSucc n=>45::au (n+1)
def Co:Int->Bool
 | .ofNat n=>yL n 9223372036854775808
 | .negSucc n=>yL n 9223372036854775808
def LA:List AV->Option AV
 | [.int .i64 n]=>bif Co n then some (.str (aV n)) else none
 | _=>none
def BH:List AV->Option AV
 | [.int .u64 (.ofNat n),.int .i64 10]=>bif yL n 18446744073709551616 then some (.str (au n)) else none
 | _=>none
def cW:List Nat->Nat->Option Nat
 | [],a=>some a
 | b::r,a=>bif yG 48 b&&yG b 57 then cW r (10*a+(b-48)) else none
def LB:List AV->Option AV
 | [.str s]=>
  bif yL 0 s.length&&yG s.length 18 then
   match cW s 0 with | some n=>some (.af [.int .i64 n,.undef]) | none=>none
  else none
 | _=>none
def ol:List AV->Option AV
 | [.int .u64 (.ofNat x),.int .u64 (.ofNat y),.int .u64 (.ofNat c)]=>
  bif yG c 1&&(yL x 18446744073709551616&&yL y 18446744073709551616) then some (.af [.int .u64 ((x+y+c)%18446744073709551616:Nat),.int .u64 ((x+y+c)/18446744073709551616:Nat)]) else none
 | _=>none
def Ca:List AV->Option AV
 | [.int .u64 (.ofNat x),.int .u64 (.ofNat y),.int .u64 (.ofNat c)]=>
  bif yG c 1&&(yL x 18446744073709551616&&yL y 18446744073709551616) then some (.af [.int .u64 ((x+18446744073709551616*2-y-c)%18446744073709551616:Nat),.int .u64 (bif yG (y+c) x then 0 else 1)]) else none
 | _=>none
def sr:List AV->Option AV
 | [.int .u64 (.ofNat x),.int .u64 (.ofNat y)]=>bif yL x 18446744073709551616&&yL y 18446744073709551616 then some (.af [.int .u64 (x*y/18446744073709551616:Nat),.int .u64 (x*y%18446744073709551616:Nat)]) else none
 | _=>none
def eU:Nat->Nat->Nat
 | 0,_=>0
 | f+1,n=>bif yu n 0 then 0 else 1+eU f (n/2)
def KQ:List AV->Option AV
 | [.int .u64 (.ofNat x)]=>bif yL x 18446744073709551616 then some (.int .i64 (eU 64 x)) else none
 | _=>none
def GY:List AV->Option AV
 | [.int .u64 (.ofNat x)]=>bif yL x 18446744073709551616 then some (.int .i64 (64-eU 64 x:Nat)) else none
 | _=>none
def Va:List AV->Option AV
 | [.b5 .f64 b]=>some (.int .u64 b)
 | _=>none
def TY:List AV->Option AV
 | [.int .u64 (.ofNat n)]=>some (.b5 .f64 n)
 | _=>none
end
section
open Go
section
variable {O:bw} {n:Nat}
def J4 {w w':yh} (h:RowKit.Below w.heap.size w w'):Calm w w':=⟨h.os,h.tape,h.output,h.size,h.block⟩
def asd {w:yh} (k:Nat):Calm w (w.drewN k):=⟨rfl,rfl,rfl,yA _,fun _ _=>rfl⟩
def ase {w:yh} (h:Cl O w) {a:Addr} {v:yf} (hc:O.w0.cell? a=some v):w.cell? a=some v:=by
 have hb:a.block<O.w0.heap.size:=by
  unfold World.cell? at hc
  cases hq:O.w0.heap[a.block]? with
  | none=>simp [hq] at hc
  | some o=>exact (Array.getElem?_eq_some_iff.1 hq).1
 unfold World.cell? at hc ⊢;rw [h.1 _ hb];exact hc
def pn {av:List AV} {r:AV} (hr:∀S w' lo u,an O.aj ff S w' r u->nI O.aj S w' lo r u)
  (fP:∀args w,(callFunc (O.aj n) args).run O.P w= .ok (.enter (O.aj n) args) w)
  (h:∀w S args,Cl O w->aA O.aj ff S w av args.toList->xN O.P (O.aj n) args w fun e w'=>∃u,e= .returned u/\Calm w w'/\∀S,an O.aj ff S w' r u):dF O n av r:=by
 intro w S args hg hS eD _;refine .inl ⟨fP args w,Go.callsIn_wide.2 ((h w S args hg eD).mono ?_)⟩;rintro e w' ⟨u,rfl,hc,hu⟩;exact ⟨u,S,rfl,hc,fun _ h=>h,fun _ h=> .inl h,fun b hb=>Nat.lt_of_lt_of_le (hS b hb) hc.size,hr S w' _ u (hu S)⟩
def Ov {av:List AV} {r:AV} (hr:∀S w' lo u,an O.aj ff S w' r u->nI O.aj S w' lo r u)
  (h:∀w S args,aA O.aj ff S w av args.toList->∃u,(callFunc (O.aj n) args).run O.P w= .ok (.value u) w/\∀S,an O.aj ff S w r u):dF O n av r:=by
 intro w S args _ hS eD _;obtain ⟨u,h1,h2⟩:=h w S args eD;exact .inr ⟨u,w,h1,u,S,rfl,Calm.refl,fun _ h=>h,fun _ h=> .inl h,hS,hr S w _ u (h2 S)⟩
def KE {s:List Nat}:∀S w' lo u,an O.aj ff S w' (.str s) u->nI O.aj S w' lo (.str s) u:=fun S w' lo u h=>⟨[],rfl,h,rfl⟩
def Vx {k:IntKind} {z:Int}:∀S w' lo u,an O.aj ff S w' (.int k z) u->nI O.aj S w' lo (.int k z) u:=fun S w' lo u h=>⟨[],rfl,h,rfl⟩
def av1 {k:FloatKind} {z:Nat}:∀S w' lo u,an O.aj ff S w' (.b5 k z) u->nI O.aj S w' lo (.b5 k z) u:=fun S w' lo u h=>⟨[],rfl,h,rfl⟩
def at5 {b:Bool}:∀S w' lo u,an O.aj ff S w' (.bool b) u->nI O.aj S w' lo (.bool b) u:=fun S w' lo u h=>⟨[],rfl,h,rfl⟩
def aeN {S:Nat->Prop} {w':yh} {lo:Nat}:∀{vs:List AV} {us:List yf},(∀v,v∈vs->(∀ex sz k cs,v≠.bV ex sz k cs)/\bg v=true)->aA O.aj ff S w' vs us->lA O.aj S w' lo vs us []
 | [],us,_,h=>by simp only [aA] at h;exact ⟨h,rfl⟩
 | v::vs,us,hv,h=>by
  simp only [aA] at h;obtain ⟨u,t,rfl,h1,h2⟩:=h;have h3:=hv v (by simp);refine ⟨u,t,[],[],rfl,rfl,?_,aeN (fun v hm=>hv v (by simp [hm])) h2⟩;cases v<;>first | exact ⟨rfl,h1,h3.2⟩ | exact absurd rfl (h3.1 _ _ _ _)
def Gm {vs:List AV} (hv:∀v,v∈vs->(∀ex sz k cs,v≠.bV ex sz k cs)/\bg v=true):∀S w' lo u,an O.aj ff S w' (.af vs) u->nI O.aj S w' lo (.af vs) u:=by
 intro S w' lo u h;obtain ⟨xs,rfl,h⟩:=h;exact ⟨xs,[],rfl,aeN hv h,by simp⟩
def GZ {S:Nat->Prop} {w:yh} {a:AV} {args:Array yf} (h:aA O.aj ff S w [a] args.toList):∃u,args=#[u]/\an O.aj ff S w a u:=by
 simp only [aA] at h
 grind
def Cp {S:Nat->Prop} {w:yh} {a b:AV} {args:Array yf} (h:aA O.aj ff S w [a,b] args.toList):∃u v,args=#[u,v]/\an O.aj ff S w a u/\an O.aj ff S w b v:=by
 simp only [aA] at h
 grind
def alq {S:Nat->Prop} {w:yh} {a b c:AV} {args:Array yf} (h:aA O.aj ff S w [a,b,c] args.toList):∃u v x,args=#[u,v,x]/\an O.aj ff S w a u/\an O.aj ff S w b v/\an O.aj ff S w c x:=by
 simp only [aA] at h
 grind
def J5 {S:Nat->Prop} {w:yh} {s:List Nat} {l:List UInt8} (h:l.map xf=s):an O.aj ff S w (.str s) (.string ⟨l.toArray⟩):=by
 simp only [an];exact ⟨_,rfl,h⟩
def toNat_inj {a b:UInt8}:yu a.toNat b.toNat=(a==b):=by
 by_cases h:a=b
 ·simp_all
 ·have h':a.toNat≠b.toNat:=fun e=>h (UInt8.toNat_inj.1 e)
  have e:(a==b)=false:=by simp_all
  rw [e]
  cases hq:yu a.toNat b.toNat with
  | false=>rfl
  | true=>exact absurd (yo hq) h'
def Ke:∀(p s:List UInt8),gK (p.map xf) (s.map xf)=p.isPrefixOf s
 | [],s=>by cases s<;>rfl
 | a::p,[]=>rfl
 | a::p,b::s=>by
  simp only [xi,gK,List.isPrefixOf,Ke p s,toNat_inj]
def aeO:∀(s sep:List UInt8) (k:Nat),mB (sep.map xf) (s.map xf) k=if 0<=Lib.index s sep then some (k+(Lib.index s sep).toNat) else none
 | [],sep,k=>by
  simp only [List.map_nil,mB,Lib.index]
  cases sep with
  | nil=>simp [gK]
  | cons a r=>simp [gK]
 | b::s,sep,k=>by
  have ih:=aeO s sep (k+1);have hp:=Ke sep (b::s);simp only [xi,mB,hp,Lib.index]
  grind
def age (b:UInt8):∀cs:List UInt8,Hd b.toNat (cs.map xf)=cs.contains b
 | []=>rfl
 | c::cs=>by
  simp only [xi,Hd,age b cs,List.contains_cons,toNat_inj]
  grind
def UK (cs:List UInt8):∀l:List UInt8,li (cs.map xf) (l.map xf)=(l.dropWhile (cs.contains ·)).map xf
 | []=>rfl
 | b::l=>by
  simp only [xi,li,age,List.dropWhile_cons,UK cs l]
  grind
def agf (l:List UInt8):∀n,gZ (l.map xf) n=(Lib.repeatL l n).map xf
 | 0=>rfl
 | n+1=>by simp only [gZ,Lib.repeatL,xR,agf l n]
def ael:∀(f n:Nat) (acc:List Nat),n<f->nm f n acc=(Lib.decDigits n).map xf++acc
 | 0,n,acc,h=>by omega
 | f+1,n,acc,h=>by
  rw [nm,Lib.decDigits];by_cases hn:n<10
  ·rw [show yL n 10=true from yy hn,yB,dif_pos hn]
   have:(ybq (48+n)).toNat=48+n:=by
    rw [yag];omega
   grind
  ·have hb:yL n 10=false:=by
    cases hq:yL n 10 with
    | false=>rfl
    | true=>exact absurd (yv hq) (by omega)
   rw [hb,yM,dif_neg hn,ael f (n/10) _ (by omega),xR,List.append_assoc]
   have:(ybq (48+n%10)).toNat=48+n%10:=by
    rw [yag];omega
   grind
def Vb (n:Nat):au n=(Lib.decDigits n).map xf:=by
 rw [au,ael (n+1) n [] (by omega),List.append_nil]
def at6 (n:Int):aV n=(Lib.itoa n).map xf:=by
 cases n with
 | ofNat k=>
  have:¬yaO k<0:=by simp
  simp only [aV,Lib.itoa,this,y9,Vb];rfl
 | negSucc k=>
  have:Int.negSucc k<0:=Int.negSucc_lt_zero k
  simp only [aV,Lib.itoa,this,xm,Vb,xi];rfl
def Vc:∀f x:Nat,eU f x=Lib.bitLenAux f x
 | 0,_=>rfl
 | f+1,x=>by
  rw [eU,Lib.bitLenAux];by_cases h:x=0
  ·simp_all
  ·have hb:yu x 0=false:=by
    cases hq:yu x 0 with
    | false=>rfl
    | true=>exact absurd (yo hq) h
   rw [hb,yM,yp h,Vc f]
def aeP:∀{cs:List UInt8},Gv (cs.map xf)=true->∀(j:Nat) b,cs[j]? =some b->b.toNat<128
 | [],_,j,b,h=>by simp at h
 | c::cs,h,j,b,hb=>by
  simp only [xi,Gv,yg] at h
  cases j with
  | zero=>
   simp_all
  | succ j=>exact aeP h.2 j b (by simpa using hb)
def pI {a b:Nat} (h:yL a b=true):a<b:=by simp_all
def agh:∀{l:List UInt8} {a z:Nat},cW (l.map xf) a=some z->Lib.decFrom a l=some z
 | [],a,z,h=>h
 | b::l,a,z,h=>by
  simp only [xi,cW] at h
  cases hb:(yG 48 b.toNat&&yG b.toNat 57) with
  | false=>rw [hb] at h;cases h
  | true=>
   rw [hb] at h;simp only [yg] at hb;have h1:=yv hb.1;have h2:=yv hb.2
   have:=agh h
   rw [Lib.decFrom,Lib.digitVal,yz ⟨h1,h2⟩]
   grind
def at7 {l:List UInt8} {z:Nat} (h:cW (l.map xf) 0=some z) (h0:0<l.length):Lib.atoi l=some (z:Int):=by
 cases l with
 | nil=>simp at h0
 | cons b r=>
  have hd:=agh h;have hb:48<=b.toNat:=by
   simp only [xi,cW] at h
   cases hb:(yG 48 b.toNat&&yG b.toNat 57) with
   | false=>rw [hb] at h;cases h
   | true=>
    simp_all
  have h1:(b==45)=false:=by
   have:b≠45:=fun e=>by subst e;exact absurd hb (by decide)
   grind
  have h2:(b==43)=false:=by
   have:b≠43:=fun e=>by subst e;exact absurd hb (by decide)
   grind
  simp only [Lib.atoi,h1,h2,yE,y9,Lib.decNat,List.isEmpty_cons,hd,Option.map_some]
section
variable {f:FuncId}
def ap7 (hf:O.aj n=f) (fP:∀args w,(callFunc f args).run O.P w= .ok (.enter f args) w)
  (hc:∀(s p:ByteArray) (w:yh),xN O.P f #[.string s,.string p] w fun e w'=>e= .returned (.tuple #[.string ⟨(Lib.trimPrefix s.data.toList p.data.toList).toArray⟩,.bool (Lib.hasPrefix s.data.toList p.data.toList)])/\w'=w):
  ∀av r,Oh av=some r->dF O n av r:=by
 intro av r h;unfold Oh at h
 split at h
 ·rename_i s p;simp only [yc] at h;subst h;refine pn ?_ (by rw [hf];exact fP) ?_
  ·cases gK p s<;>exact Gm (by simp [bg])
  ·intro w S args hg eD;obtain ⟨u,v,rfl,h1,h2⟩:=Cp eD;obtain ⟨t1,rfl,rfl⟩:=h1;obtain ⟨t2,rfl,rfl⟩:=h2;rw [hf];refine (hc t1 t2 w).mono ?_;rintro e w' ⟨rfl,rfl⟩;refine ⟨_,rfl,Calm.refl,fun S=>?_⟩;rw [Ke,xq];unfold Lib.trimPrefix Lib.hasPrefix
   cases hp:t2.data.toList.isPrefixOf t1.data.toList with
   | true=>
    simp only [yB,xm,an,aA]
    simp_all
   | false=>
    simp only [yM,yE,y9,an,aA]
    grind
 ·cases h
def ap8 (hf:O.aj n=f) (fP:∀args w,(callFunc f args).run O.P w= .ok (.enter f args) w)
  (hc:∀(s p:ByteArray) (w:yh),xN O.P f #[.string s,.string p] w fun e w'=>e= .returned (.bool (Lib.hasPrefix s.data.toList p.data.toList))/\w'=w):
  ∀av r,Oi av=some r->dF O n av r:=by
 intro av r h;unfold Oi at h
 split at h
 ·rename_i s p;simp only [yc] at h;subst h;refine pn at5 (by rw [hf];exact fP) ?_
  intro w S args hg eD;obtain ⟨u,v,rfl,h1,h2⟩:=Cp eD;obtain ⟨t1,rfl,rfl⟩:=h1;obtain ⟨t2,rfl,rfl⟩:=h2;rw [hf];refine (hc t1 t2 w).mono ?_;rintro e w' ⟨rfl,rfl⟩;refine ⟨_,rfl,Calm.refl,fun S=>?_⟩;rw [Ke];simp only [an,Lib.hasPrefix]
 ·cases h
def ap5 (hf:O.aj n=f) (fP:∀args w,(callFunc f args).run O.P w= .ok (.enter f args) w)
  (hc:∀(s p:ByteArray) (w:yh),xN O.P f #[.string s,.string p] w fun e w'=>e= .returned (.string ⟨(Lib.trimPrefix s.data.toList p.data.toList).toArray⟩)/\w'=w):
  ∀av r,N8 av=some r->dF O n av r:=by
 intro av r h;unfold N8 at h
 split at h
 ·rename_i s p;simp only [yc] at h;subst h;refine pn KE (by rw [hf];exact fP) ?_
  intro w S args hg eD;obtain ⟨u,v,rfl,h1,h2⟩:=Cp eD;obtain ⟨t1,rfl,rfl⟩:=h1;obtain ⟨t2,rfl,rfl⟩:=h2;rw [hf];refine (hc t1 t2 w).mono ?_;rintro e w' ⟨rfl,rfl⟩;refine ⟨_,rfl,Calm.refl,fun S=>?_⟩;rw [Ke,xq];refine J5 ?_;unfold Lib.trimPrefix Lib.hasPrefix
  cases hp:t2.data.toList.isPrefixOf t1.data.toList with
  | true=>simp [List.map_drop]
  | false=>simp
 ·cases h
def av2 (hf:O.aj n=f) (fP:∀args w,(callFunc f args).run O.P w= .ok (.enter f args) w) {a:Addr} {m:Int} (hm:O.w0.cell? a=some (.int .i64 m))
  (hc:∀(s sep:ByteArray) (w:yh),s.size<4294967281->w.cell? a=some (.int .i64 m)->xN O.P f #[.string s,.string sep] w fun e w'=>e= .returned (.tuple #[.string ⟨(Lib.cut s.data.toList sep.data.toList).1.toArray⟩,.string ⟨(Lib.cut s.data.toList sep.data.toList).2.1.toArray⟩,.bool (Lib.cut s.data.toList sep.data.toList).2.2])/\∃n,w'=w.drewN n):
  ∀av r,Qf av=some r->dF O n av r:=by
 intro av r h;unfold Qf at h
 split at h
 ·rename_i s sep
  cases hb:yL s.length 4294967281 with
  | false=>rw [hb] at h;cases h
  | true=>
   rw [hb] at h;have key:∀(q:List UInt8×List UInt8×Bool),(∀t1 t2:ByteArray,t1.data.toList.map xf=s->t2.data.toList.map xf=sep->r= .af [.str ((Lib.cut t1.data.toList t2.data.toList).1.map xf),.str ((Lib.cut t1.data.toList t2.data.toList).2.1.map xf),.bool (Lib.cut t1.data.toList t2.data.toList).2.2])->
     (∃a b c,r= .af [.str a,.str b,.bool c])->dF O n [.str s,.str sep] r:=by
    intro q hq ayc;obtain ⟨a',b',c',rfl⟩:=ayc;refine pn (Gm (by simp [bg])) (by rw [hf];exact fP) ?_
    intro w S args hg eD;obtain ⟨u,v,rfl,h1,h2⟩:=Cp eD;obtain ⟨t1,rfl,e1⟩:=h1;obtain ⟨t2,rfl,e2⟩:=h2;rw [hf];have hl:t1.size<4294967281:=by
     have:=pI hb
     rw [<-e1,xq] at this
     simp_all
    refine (hc t1 t2 w hl (ase hg hm)).mono ?_;rintro e w' ⟨rfl,k,rfl⟩;refine ⟨_,rfl,asd k,fun S=>?_⟩;simp only [an,aA]
    grind
   refine key ([],[],false) ?_ ?_
   ·intro t1 t2 e1 e2;subst e1;subst e2;rw [aeO] at h;unfold Lib.cut;by_cases h0:0<=Lib.index t1.data.toList t2.data.toList
    ·simp_all
    ·grind
   ·grind
 ·cases h
def aua (hf:O.aj n=f) (fP:∀args w,(callFunc f args).run O.P w= .ok (.enter f args) w)
  (hc:∀(s cs:ByteArray) (w:yh),s.size<=9223372036854775807->cs.size<4294967281->(∀(j:Nat) b,cs.data.toList[j]? =some b->b.toNat<128)->xN O.P f #[.string s,.string cs] w fun e w'=>e= .returned (.string ⟨(Lib.trimS s.data.toList cs.data.toList).toArray⟩)/\RowKit.Below w.heap.size w w'):
  ∀av r,trimS av=some r->dF O n av r:=by
 intro av r h;unfold trimS at h
 split at h
 ·rename_i s cs
  cases hb:(Gv cs&&(yL s.length 4294967281&&yL cs.length 4294967281)) with
  | false=>rw [hb] at h;cases h
  | true=>
   rw [hb] at h;simp only [yB,yc] at h;subst h;simp only [yg] at hb;refine pn KE (by rw [hf];exact fP) ?_
   intro w S args hg eD;obtain ⟨u,v,rfl,h1,h2⟩:=Cp eD;obtain ⟨t1,rfl,rfl⟩:=h1;obtain ⟨t2,rfl,rfl⟩:=h2;have nR:=pI hb.2.1;have oR:=pI hb.2.2;rw [xq] at nR oR;rw [hf];refine (hc t1 t2 w (by rw [Lib.size_eq];omega) (by rw [Lib.size_eq];omega) (aeP hb.1)).mono ?_;rintro e w' ⟨rfl,hw⟩;refine ⟨_,rfl,J4 hw,fun S=>J5 ?_⟩;simp only [Lib.trimS,Lib.trimLeftS,Lib.trimRightS];rw [<-tG,UK,<-tG,UK]
 ·cases h
def aq8 (hf:O.aj n=f) (fP:∀args w,(callFunc f args).run O.P w= .ok (.enter f args) w)
  (hc:∀(s:ByteArray) (c:Nat) (w:yh),c<=9223372036854775807->s.size*c<=140737488355328->xN O.P f #[.string s,.int .i64 c] w fun e w'=>e= .returned (.string ⟨(Lib.repeatL s.data.toList c).toArray⟩)/\RowKit.Below w.heap.size w w'):
  ∀av r,BW av=some r->dF O n av r:=by
 intro av r h;unfold BW at h
 split at h
 ·rename_i s c
  cases hb:(yG c 1099511627776&&yG (s.length*c) 1099511627776) with
  | false=>rw [hb] at h;cases h
  | true=>
   rw [hb] at h;simp only [yB,yc] at h;subst h;simp only [yg] at hb;have l1:=yv hb.1;have l2:=yv hb.2;refine pn KE (by rw [hf];exact fP) ?_
   intro w S args hg eD;obtain ⟨u,v,rfl,h1,h2⟩:=Cp eD;obtain ⟨t1,rfl,rfl⟩:=h1;subst h2;rw [hf];rw [xq] at l2;refine (hc t1 c w (by omega) (by rw [Lib.size_eq];omega)).mono ?_;rintro e w' ⟨rfl,hw⟩;exact ⟨_,rfl,J4 hw,fun S=>J5 (agf _ _).symm⟩
 ·cases h
def aub (hf:O.aj n=f) (fP:∀args w,(callFunc f args).run O.P w= .ok (.enter f args) w)
  (hc:∀(z:Int) (w:yh),-9223372036854775808<=z->z<=9223372036854775807->Cl O w->xN O.P f #[.int .i64 z] w fun e w'=>e= .returned (.string ⟨(Lib.itoa z).toArray⟩)/\Calm w w'):
  ∀av r,LA av=some r->dF O n av r:=by
 intro av r h;unfold LA at h
 split at h
 ·rename_i z
  cases hb:Co z with
  | false=>rw [hb] at h;cases h
  | true=>
   rw [hb] at h;simp only [yB,yc] at h;subst h;have hz: -9223372036854775808<=z/\z<=9223372036854775807:=by
    cases z with
    | ofNat k=>have:=pI hb;show -9223372036854775808<=(k:Int)/\(k:Int)<=9223372036854775807;omega
    | negSucc k=>have:=pI hb;omega
   refine pn KE (by rw [hf];exact fP) ?_
   intro w S args hg eD;obtain ⟨u,rfl,h1⟩:=GZ eD;subst h1;rw [hf];refine (hc z w hz.1 hz.2 hg).mono ?_;rintro e w' ⟨rfl,hw⟩;exact ⟨_,rfl,hw,fun S=>J5 (at6 z).symm⟩
 ·cases h
def ap6 (hf:O.aj n=f) (fP:∀args w,(callFunc f args).run O.P w= .ok (.enter f args) w)
  (hc:∀(z:Nat) (w:yh),z<18446744073709551616->Cl O w->xN O.P f #[.int .u64 z,.int .i64 10] w fun e w'=>e= .returned (.string ⟨(Lib.decDigits z).toArray⟩)/\Calm w w'):
  ∀av r,BH av=some r->dF O n av r:=by
 intro av r h;unfold BH at h
 split at h
 ·rename_i z
  cases hb:yL z 18446744073709551616 with
  | false=>rw [hb] at h;cases h
  | true=>
   rw [hb] at h;simp only [yB,yc] at h;subst h;refine pn KE (by rw [hf];exact fP) ?_
   intro w S args hg eD;obtain ⟨u,v,rfl,h1,h2⟩:=Cp eD;subst h1;subst h2;rw [hf];refine (hc z w (pI hb) hg).mono ?_;rintro e w' ⟨rfl,hw⟩;exact ⟨_,rfl,hw,fun S=>J5 (Vb z).symm⟩
 ·cases h
def auc (hf:O.aj n=f) (fP:∀args w,(callFunc f args).run O.P w= .ok (.enter f args) w)
  (hc:∀(s:ByteArray) (z:Int) (w:yh),s.size<=18->Lib.atoi s.data.toList=some z->xN O.P f #[.string s] w fun e w'=>e= .returned (.tuple #[.int .i64 z,.nilIface])/\Calm w w'):
  ∀av r,LB av=some r->dF O n av r:=by
 intro av r h;unfold LB at h
 split at h
 ·rename_i s
  cases hb:(yL 0 s.length&&yG s.length 18) with
  | false=>rw [hb] at h;cases h
  | true=>
   rw [hb] at h;simp only [yB] at h;simp only [yg] at hb;have l1:=pI hb.1;have l2:=yv hb.2
   split at h
   ·rename_i z hz;simp only [yc] at h;subst h;refine pn (Gm (by simp [bg])) (by rw [hf];exact fP) ?_
    intro w S args hg eD;obtain ⟨u,rfl,h1⟩:=GZ eD;obtain ⟨t1,rfl,rfl⟩:=h1;rw [xq] at l1 l2;have ha:Lib.atoi t1.data.toList=some (z:Int):=at7 hz l1;rw [hf];refine (hc t1 z w (by rw [Lib.size_eq];exact l2) ha).mono ?_
    simp only [an,aA]
    grind
   ·cases h
 ·cases h
def asf (hf:O.aj n=f) (fP:∀args w,(callFunc f args).run O.P w= .ok (.enter f args) w)
  (hc:∀(x y:Nat) (w:yh),x<18446744073709551616->y<18446744073709551616->xN O.P f #[.int .u64 x,.int .u64 y] w fun e w'=>e= .returned (.tuple #[.int .u64 ((x*y/18446744073709551616:Nat):Int),.int .u64 ((x*y%18446744073709551616:Nat):Int)])/\w'=w):
  ∀av r,sr av=some r->dF O n av r:=by
 intro av r h;unfold sr at h
 split at h
 ·rename_i x y
  cases hb:(yL x 18446744073709551616&&yL y 18446744073709551616) with
  | false=>rw [hb] at h;cases h
  | true=>
   rw [hb] at h;simp only [yB,yc] at h;subst h;simp only [yg] at hb;refine pn (Gm (by simp [bg])) (by rw [hf];exact fP) ?_
   intro w S args hg eD;obtain ⟨u,v,rfl,h1,h2⟩:=Cp eD;subst h1;subst h2;rw [hf];refine (hc x y w (pI hb.1) (pI hb.2)).mono ?_;rintro e w' ⟨rfl,rfl⟩;refine ⟨_,rfl,Calm.refl,fun S=>?_⟩;simp only [an,aA]
   grind
 ·cases h
def asg (hf:O.aj n=f) (fP:∀args w,(callFunc f args).run O.P w= .ok (.enter f args) w)
  (hc:∀(x:Int) (w:yh),0<=x->x<=18446744073709551615->xN O.P f #[.int .u64 x] w fun e w'=>e= .returned (.int .i64 (Lib.bitLen x.toNat:Nat))/\w'=w):
  ∀av r,KQ av=some r->dF O n av r:=by
 intro av r h;unfold KQ at h
 split at h
 ·rename_i x
  cases hb:yL x 18446744073709551616 with
  | false=>rw [hb] at h;cases h
  | true=>
   rw [hb] at h;simp only [yB,yc] at h;subst h
   have:=pI hb
   refine pn Vx (by rw [hf];exact fP) ?_
   intro w S args hg eD;obtain ⟨u,rfl,h1⟩:=GZ eD;subst h1;rw [hf];refine (hc (yaO x) w (tx x) (by show (x:Int)<=_;omega)).mono ?_;rintro e w' ⟨rfl,rfl⟩;refine ⟨_,rfl,Calm.refl,fun S=>?_⟩;rw [Vc];rfl
 ·cases h
def aud (hf:O.aj n=f) (fP:∀args w,(callFunc f args).run O.P w= .ok (.enter f args) w)
  (hc:∀(x:Int) (w:yh),0<=x->x<=18446744073709551615->xN O.P f #[.int .u64 x] w fun e w'=>e= .returned (.int .i64 (64-(Lib.bitLen x.toNat:Nat)))/\w'=w):
  ∀av r,GY av=some r->dF O n av r:=by
 intro av r h;unfold GY at h
 split at h
 ·rename_i x
  cases hb:yL x 18446744073709551616 with
  | false=>rw [hb] at h;cases h
  | true=>
   rw [hb] at h;simp only [yB,yc] at h;subst h
   have:=pI hb
   have hle:∀f x,Lib.bitLenAux f x<=f:=by
    intro f
    induction f with
    | zero=>intro x;exact yA _
    | succ f ih=>
     intro x;rw [Lib.bitLenAux]
     grind
   refine pn Vx (by rw [hf];exact fP) ?_
   intro w S args hg eD;obtain ⟨u,rfl,h1⟩:=GZ eD;subst h1;rw [hf];refine (hc (yaO x) w (tx x) (by show (x:Int)<=_;omega)).mono ?_;rintro e w' ⟨rfl,rfl⟩;refine ⟨_,rfl,Calm.refl,fun S=>?_⟩;simp only [an,Vc];show Value.int .i64 (64-(Lib.bitLenAux 64 x:Int))=Value.int .i64 ((64-Lib.bitLenAux 64 x:Nat):Int)
   grind
 ·cases h
def aqw (hf:O.aj n=f) (hc:∀(b:Nat) (w:yh),(callFunc f #[.float .f64 b]).run O.P w= .ok (.value (.int .u64 b)) w):
  ∀av r,Va av=some r->dF O n av r:=by
 intro av r h;unfold Va at h
 split at h
 ·rename_i b;simp only [yc] at h;subst h;refine Ov Vx ?_;intro w S args eD;obtain ⟨u,rfl,h1⟩:=GZ eD;simp only [an] at h1;subst h1;rw [hf];exact ⟨_,hc b w,fun S=>rfl⟩
 ·cases h
def ap3 (hf:O.aj n=f) (hc:∀(b:Nat) (w:yh),(callFunc f #[.int .u64 b]).run O.P w= .ok (.value (.float .f64 b)) w):
  ∀av r,TY av=some r->dF O n av r:=by
 intro av r h;unfold TY at h
 split at h
 ·rename_i b;simp only [yc] at h;subst h;refine Ov av1 ?_;intro w S args eD;obtain ⟨u,rfl,h1⟩:=GZ eD;simp only [an] at h1;subst h1;rw [hf];exact ⟨_,hc b w,fun S=>rfl⟩
 ·cases h
def ash (hf:O.aj n=f)
  (hc:∀(x y c:Nat) (w:yh),c<=1->(callFunc f #[.int .u64 x,.int .u64 y,.int .u64 c]).run O.P w= .ok (.value (.tuple #[.int .u64 (((x+y+c)%18446744073709551616:Nat):Int),.int .u64 (((x+y+c)/18446744073709551616:Nat):Int)])) w):
  ∀av r,ol av=some r->dF O n av r:=by
 intro av r h;unfold ol at h
 split at h
 ·rename_i x y c
  cases hb:(yG c 1&&(yL x 18446744073709551616&&yL y 18446744073709551616)) with
  | false=>rw [hb] at h;cases h
  | true=>
   rw [hb] at h;simp only [yB,yc] at h;subst h;simp only [yg] at hb;refine Ov (Gm (by simp [bg])) ?_;intro w S args eD;obtain ⟨u,v,z,rfl,h1,h2,h3⟩:=alq eD;subst h1;subst h2;subst h3;rw [hf];refine ⟨_,hc x y c w (yv hb.1),fun S=>?_⟩;simp only [an,aA]
   grind
 ·cases h
def asi (hf:O.aj n=f)
  (hc:∀(x y b:Nat) (w:yh),b<=1->(callFunc f #[.int .u64 x,.int .u64 y,.int .u64 b]).run O.P w= .ok (.value (.tuple #[.int .u64 (((x+18446744073709551616-y-b)%18446744073709551616:Nat):Int),.int .u64 ((if x<y+b then 1 else 0:Nat):Int)])) w):
  ∀av r,Ca av=some r->dF O n av r:=by
 intro av r h;unfold Ca at h
 split at h
 ·rename_i x y c
  cases hb:(yG c 1&&(yL x 18446744073709551616&&yL y 18446744073709551616)) with
  | false=>rw [hb] at h;cases h
  | true=>
   rw [hb] at h;simp only [yB,yc] at h;subst h;simp only [yg] at hb;have eN:=yv hb.1;have hy:=pI hb.2.2;refine Ov (Gm (by simp [bg])) ?_;intro w S args eD;obtain ⟨u,v,z,rfl,h1,h2,h3⟩:=alq eD;subst h1;subst h2;subst h3;rw [hf];refine ⟨_,hc x y c w eN,fun S=>?_⟩;simp only [an,aA];refine ⟨_,rfl,_,_,rfl,?_,_,_,rfl,?_,rfl⟩
   ·grind
   ·congr 1
    by_cases h:x<y+c
    ·have:yG (y+c) x=false:=by
      cases hq:yG (y+c) x with
      | false=>rfl
      | true=>have:=yv hq;omega
     grind
    ·rw [yy (by omega),yp h];rfl
 ·cases h
end
end
end
end VE
