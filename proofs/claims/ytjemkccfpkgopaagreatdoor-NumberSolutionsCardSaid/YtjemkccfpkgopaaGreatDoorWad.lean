import Derived.Lib.Index
import Derived.Lib.ItoaNum
import Derived.Lib.Atoi
import Derived.Lib.BitFns
import Derived.Lib.Repeat
import Derived.Lib.SlTrimSet
import Derived.Shelf.Strings.Cut
import Derived.Shelf.Strings.Prefix
import Derived.Shelf.Small.Bits
import Derived.RowKit
import Derived.Test.YtjemkccfpkgopaaGreatDoorWaa
import Derived.Test.YtjemkccfpkgopaaGreatDoorWac
set_option linter.all false
set_option maxRecDepth 100000
open Array renaming replicate→uT
open Bool renaming and_eq_true→yg,false_eq_true→yI
open Go renaming Calls→xV,Func→ybm,LeavesInM→ybM,ResultVar→ybK,Value→yh,World→yi
open Int renaming natCast_nonneg→tF,ofNat→yaU
open List renaming length_map→yr,mapM_cons→ui,map_append→xi,map_cons→xa,map_reverse→tP
open Nat renaming beq→yv,ble→yF,ble_eq_true_of_le→ym,blt→yQ,eq_of_beq_eq_true→yp,le_of_ble_eq_true→yy,le_refl→yu,le_trans→xm
open Option.some renaming injEq→yd
open Prod.mk renaming injEq→yo
open UInt8 renaming ofNat→ybn,toNat→xc,toNat_ofNat'→yap
namespace VE
section
def Le (f g:cA):Prop:=∀c s r,f c s=some r->g c s=some r
section
variable {P:aK} {L:Lib} {f g:cA}
def QH (h:Le f g) (n:Nat) (av:List AV) (r:AV) (hr:bL P L f n av=some r):bL P L g n av=some r:=by
 unfold bL at hr ⊢
 cases hL:L.pure n with
 | some sp=>simpa only [hL] using hr
 | none=>
  simp only [hL] at hr ⊢
  cases hP:P n with
  | none=>simp [hP] at hr
  | some F=>
   simp only [hP] at hr ⊢
   cases hf:f F.body ⟨dX 0 av,[],0,0⟩ with
   | none=>simp [hf] at hr
   | some q=>rw [h _ _ _ hf];simpa only [hf] using hr
def QR (h:Le f g) (hp:Hp) (ct:Nat) (n:Nat) (av:List AV) (r:AV×Hp×Nat) (hr:il P L f hp ct n av=some r):il P L g hp ct n av=some r:=by
 unfold il at hr ⊢
 cases hL:L.heap n with
 | some sp=>simpa only [hL] using hr
 | none=>
  simp only [hL] at hr ⊢
  cases hP:P n with
  | none=>simp [hP] at hr
  | some F=>
   simp only [hP] at hr ⊢
   cases hf:f F.body ⟨dX 0 av,hp,ct,ct⟩ with
   | none=>simp [hf] at hr
   | some q=>rw [h _ _ _ hf];simpa only [hf] using hr
def aa4 (h:Le f g) (hp:Hp) (ct:Nat) (l:Nat) (xs:List AV) (r:AV×Hp×Nat) (hr:nQ f hp ct l xs=some r):nQ g hp ct l xs=some r:=by
 unfold nQ at hr ⊢
 cases hl:au hp l with
 | none=>simp [hl] at hr
 | some o=>
  simp only [hl] at hr ⊢
  split at hr
  ·rename_i tm ps cM body pe oJ;simp only [yd] at oJ;subst oJ
   (try simp only at hr ⊢)
   cases hb:rS tm ps xs with
   | none=>simp [hb] at hr
   | some tm'=>
    simp only [hb] at hr ⊢
    cases h1:f cM ⟨tm',hp,ct,ct⟩ with
    | none=>simp [h1] at hr
    | some q=>
     rw [h _ _ _ h1];simp only [h1] at hr ⊢
     split at hr
     ·rename_i s1 Ua;simp only [yd] at Ua;subst Ua
      (try simp only at hr ⊢)
      split at hr
      ·rename_i jP DG BO C9 Ai ajZ
       (try simp only [ajZ])
       cases h2:f body ⟨s1.tm,a7 s1.hp l (.lp jP DG BO C9 1 Ai),s1.ct,s1.ct⟩ with
       | none=>simp [h2] at hr
       | some q2=>rw [h _ _ _ h2];simpa only [h2] using hr
      ·simp at hr
     ·simp at hr
  ·simp at hr
def abh (h:Le f g) (hp:Hp) (ct:Nat) (m:Md) (fv:AV) (xs:List AV) (r:AV×Hp×Nat) (hr:eB P L f hp ct m fv xs=some r):eB P L g hp ct m fv xs=some r:=by
 unfold eB at hr ⊢
 split at hr
 ·rename_i n first cap
  cases m with
  | pure=>
   simp only at hr ⊢
   cases hz:cB deep hp (first++(xs++cap)) with
   | none=>simp [hz] at hr
   | some q=>
    simp only [hz] at hr ⊢
    cases hc:bL P L f n q.1 with
    | none=>simp [hc] at hr
    | some u=>rw [QH h n q.1 u hc];simpa only [hc] using hr
  | own=>
   simp only at hr ⊢
   cases hz:cB deep hp (first++(xs++cap)) with
   | none=>simp [hz] at hr
   | some q=>
    simp only [hz] at hr ⊢
    cases hc:bL P L f n q.1 with
    | none=>simp [hc] at hr
    | some u=>rw [QH h n q.1 u hc];simpa only [hc] using hr
  | heap=>exact QR h _ _ _ _ _ hr
  | dyn=>
   simp only at hr ⊢
   cases hz:aG (first++(xs++cap)) with
   | true=>
    simp only [hz,yA] at hr ⊢
    cases hc:bL P L f n (first++(xs++cap)) with
    | none=>simp [hc] at hr
    | some u=>rw [QH h n _ u hc];simpa only [hc] using hr
   | false=>
    simp only [hz,yT] at hr ⊢;exact QR h _ _ _ _ _ hr
 ·split at hr
  ·exact aa4 h _ _ _ _ _ hr
  ·exact aa4 h _ _ _ _ _ hr
  ·simp at hr
 ·simp at hr
def acB (h:Le f g) (tm:Env) (hp:Hp) (ct:Nat) (o:Op) (r:AV×Hp×Nat) (hr:bf P L f tm hp ct o=some r):bf P L g tm hp ct o=some r:=by
 unfold bf at hr ⊢
 split at hr
 ·exact abh h _ _ _ _ _ _ hr
 ·rename_i rs fv xs
  (try simp only at hr ⊢)
  cases hc:eB P L f hp ct .dyn (aA tm fv) (dD tm xs) with
  | none=>simp [hc] at hr
  | some q=>rw [abh h _ _ _ _ _ _ hc];simpa only [hc] using hr
 all_goals simpa only using hr
def LY (h:Le f g):∀(ops:List a8) (s s':St),dI P L f ops s=some s'->dI P L g ops s=some s'
 | [],s,s',hr=>by simpa only [dI] using hr
 | ⟨d,gd,o⟩::r,s,s',hr=>by
  simp only [dI] at hr ⊢
  split at hr
  ·rename_i hw
   try simp only [hw]
   cases ho:bf P L f s.tm s.hp s.ct o with
   | none=>simp [ho] at hr
   | some q=>rw [acB h _ _ _ _ _ ho];simp only [ho] at hr ⊢;exact LY h r _ _ hr
  ·rename_i hw
   (try simp only [hw]);exact LY h r _ _ hr
  ·simp at hr
def qu (h:Le f g):∀(c:VC) (s:St) (r:Ex×St),bH P L f c s=some r->bH P L g c s=some r
 | .skip,s,r,hr=>by simpa only [bH] using hr
 | .aJ ops,s,r,hr=>by
  simp only [bH] at hr ⊢
  cases ho:dI P L f ops s with
  | none=>simp [ho] at hr
  | some s'=>rw [LY h _ _ _ ho];simpa only [ho] using hr
 | .seq a b,s,r,hr=>by
  simp only [bH] at hr ⊢
  cases ha:bH P L f a s with
  | none=>simp [ha] at hr
  | some q=>
   rw [qu h a s q ha];obtain ⟨ex,s1⟩:=q
   cases ex with
   | normal=>simp only [ha] at hr ⊢;exact qu h b s1 r hr
   | ret=>simpa only [ha] using hr
   | exit id=>simpa only [ha] using hr
 | .cond x a b,s,r,hr=>by
  simp only [bH] at hr ⊢
  split at hr
  ·rename_i t ht
   try simp only [ht]
   cases t with
   | true=>simp only [yA] at hr ⊢;exact qu h a s r hr
   | false=>simp only [yT] at hr ⊢;exact qu h b s r hr
  ·simp at hr
 | .aF id a,s,r,hr=>by
  simp only [bH] at hr ⊢
  cases ha:bH P L f a s with
  | none=>simp [ha] at hr
  | some q=>rw [qu h a s q ha];simpa only [ha] using hr
 | .kp live,s,r,hr=>by simpa only [bH] using hr
 | .fz ts,s,r,hr=>by simpa only [bH] using hr
 | .loop live a,s,r,hr=>by
  simp only [bH] at hr ⊢
  cases ha:bH P L f a (aI live s) with
  | none=>simp [ha] at hr
  | some q=>
   rw [qu h a _ q ha];obtain ⟨ex,s1⟩:=q
   cases ex with
   | normal=>simp only [ha] at hr ⊢;exact h _ _ _ hr
   | ret=>simpa only [ha] using hr
   | exit id=>simpa only [ha] using hr
 | .rf fv ps cM body,s,r,hr=>by
  simp only [bH] at hr ⊢
  split at hr
  ·rename_i n first cap hx
   try simp only [hx]
   split at hr
   ·simp at hr
   ·rename_i hL
    try simp only [hL]
    cases hc:il P L f ((s.ct,.lp s.tm ps cM body 0 .none)::s.hp) (s.ct+1) n (first++(.fn (.y s.ct) [] []::cap)) with
    | none=>simp [hc] at hr
    | some q=>rw [QR h _ _ _ _ _ hc];simpa only [hc] using hr
  ·simp at hr
 | .exit id,s,r,hr=>by simpa only [bH] using hr
 | .ret,s,r,hr=>by simpa only [bH] using hr
end
def Is (P:aK) (L:Lib) (c:VC) (s:St):ev P L 0 c s=none:=rfl
def It (P:aK) (L:Lib) (n:Nat):ev P L (n+1)=bH P L (ev P L n):=rfl
def ai3 (P:aK) (L:Lib):∀n,Le (ev P L n) (ev P L (n+1))
 | 0=>fun c s r h=>by rw [Is] at h;cases h
 | n+1=>fun c s r h=>by
  rw [It] at h ⊢;exact qu (ai3 P L n) c s r h
def Sl (P:aK) (L:Lib) {n m:Nat} (h:n<=m):Le (ev P L n) (ev P L m):=by
 induction h with
 | refl=>exact fun _ _ _ h=>h
 | step _ ih=>exact fun c s r hr=>ai3 P L _ c s r (ih c s r hr)
end
section
open Go
section
variable {O:bl} {self:cA}
def eR.none {m:Mp} {S:Nat->Prop} {w:yi} {s s':St} {ex:Ex} {n lo:Nat} {a:Act} {w':yi} (l:Nat):¬eR O m S w s ex s' n lo (.goto l) a w':=by
 rintro ⟨h,_⟩;cases ex<;>cases h
def eR.then {m m1:Mp} {S S1:Nat->Prop} {w w1:yi} {s s1 s2:St} {ex:Ex} {n lo:Nat} {a':Act} {w':yi} {e:Exit} {ex1:Ex} (h1:s1.base=s.base)
  (hf:ck m S w s.hp m1 S1 w1 s1.hp s.base) (h:eR O m1 S1 w1 s1 ex s2 n lo e a' w'):eR O m S w s ex s2 n lo e a' w':=by
 obtain ⟨h2,m',S',k1,k2,k3,k4,k5,k6,k7⟩:=h;rw [h1] at k3 k4 k5;exact ⟨h2,m',S',k1,k2,k3,k4,hf.trans k5,k6,k7⟩
def eR.cg {m:Mp} {S:Nat->Prop} {w:yi} {s s1:St} {n lo:Nat} {a':Act} {w':yi} {e:Exit} {ex:Ex} (live:List Nat) (h:eR O m S w s ex s1 n lo e a' w'):eR O m S w s ex (aI live s1) n lo e a' w':=by
 obtain ⟨h2,m',S',k1,k2,k3,k4,k5,k6,k7⟩:=h;obtain ⟨m2,g1,g2,g3,g4,g5⟩:=Q0 (live:=live) k1 k2 (by rw [k3];exact k4)
 rw [k3] at g3 g4 g5;exact ⟨h2,m2,S',g1,g2,g3,g4,k5.trans g5,k6,AO k2 g5 k7⟩
def ai4 {m:Mp} {w:yi} {tmps:Array yh}:∀{ts:List Nat} {s s1:St} {S:Nat->Prop},b8 O m S w s.tm tmps->aU O m S w s.hp s.ct->py ts s=some s1->
  ∃S1,b8 O m S1 w s1.tm tmps/\aU O m S1 w s1.hp s1.ct/\s1.base=s.base/\s1.ct=s.ct/\∀base,ck m S w s.hp m S1 w s1.hp base
 | [],s,s1,S,ht,hh,h=>by
  simp only [py,yd] at h;subst h;exact ⟨S,ht,hh,rfl,rfl,fun _=>ck.refl⟩
 | t::r,s,s1,S,ht,hh,h=>by
  simp only [py] at h
  cases hz:freeze deep s.hp (ai s.tm t) with
  | none=>simp [hz] at h
  | some q=>
   obtain ⟨v,hp⟩:=q;simp only [hz] at h;obtain ⟨h1,h2,h3⟩:=Rg (O:=O) hz;have hg:iG s.hp s.ct hp s.ct:=⟨h1,yu _,fun id o ho=>(by
     have:=h2 id
     rw [ho] at this
     cases hq:au s.hp id with
     | none=>rw [hq] at this;simp at this
     | some o'=>exact hh.aW id o' hq),fun id o ho _=>(by
     have:=h2 id
     rw [ho] at this
     cases hq:au s.hp id with
     | none=>rw [hq] at this;simp at this
     | some o'=>exact ⟨o',rfl⟩)⟩
   obtain ⟨S',k1,k2,k3,k4⟩:=Mu hh hg;have Aq:b8 O m S' w ((t,v)::s.tm) tmps:=by
    intro i;simp only [ai]
    cases hb:yv t i with
    | true=>
     have:=yp hb
     subst this;exact (h3 hp m S' w s.ct cZ.refl k1).1 _ (lz (fun _ _ h=>h) k2 (fun _ _=>rfl) _ _ (ht t))
    | false=>
     exact lz (fun _ _ h=>h) k2 (fun _ _=>rfl) _ _ (ht i)
   obtain ⟨S1,g1,g2,g3,g4,g5⟩:=ai4 (s:={s with tm:=(t,v)::s.tm,hp:=hp}) Aq k1 h;exact ⟨S1,g1,g2,g3,g4,fun base=>(k4 base).trans (g5 base)⟩
def aeK (hO:eP O) (n:Nat) (hC:∀k,k<=n->nR O (ev O.prog O.aC k)) (h:Nat):∀(c:Code) (l k:Nat) (j:Nat),j<=n->∀(s:St) (ex:Ex) (s':St),
  bH O.prog O.aC (ev O.prog O.aC j) (comp O.P (O.hint h) c l k).1 s=some (ex,s')->Bh O h c s ex s':=by
 have refl:∀{s:St} {ex:Ex} {m:Mp} {S:Nat->Prop} {w:yi} {a:Act} {lo:Nat},b8 O m S w s.tm a.tmps->aU O m S w s.hp s.ct->s.base<=s.ct->Marks lo S w a.defers->eR O m S w s ex s a.tmps.size lo (qQ ex) a w:=
  fun h1 h2 h3 h4=>⟨rfl,_,_,h1,h2,rfl,h3,ck.refl,rfl,h4⟩
 have Ub:∀{self:cA} {s:St} {r:Ex×St},bH O.prog O.aC self (.aJ [⟨none,none,bad⟩]) s=some r->False:=by
  intro self s r hv;simp [bH,dI,bad,bf,eB,aA] at hv
 intro c
 induction c with
 | skip=>
  intro l k j hj s ex s' hv ro lo m S w a cO ht hh hb hn bh fj cN;simp only [comp,bH,yd,yo] at hv;obtain ⟨rfl,rfl⟩:=hv;exact wpIn_skip (refl ht hh hb cN)
 | label x=>
  intro l k j hj s ex s' hv ro lo m S w a cO ht hh hb hn bh fj cN;simp only [comp,bH,yd,yo] at hv;obtain ⟨rfl,rfl⟩:=hv;exact wpIn_label (refl ht hh hb cN)
 | exit id=>
  intro l k j hj s ex s' hv ro lo m S w a cO ht hh hb hn bh fj cN;simp only [comp,bH,yd,yo] at hv;obtain ⟨rfl,rfl⟩:=hv
  exact wpIn_exit (refl (ex:= .exit id) ht hh hb cN)
 | ret=>
  intro l k j hj s ex s' hv ro lo m S w a cO ht hh hb hn bh fj cN;simp only [comp,bH,yd,yo] at hv;obtain ⟨rfl,rfl⟩:=hv
  exact wpIn_ret (refl (ex:= .ret) ht hh hb cN)
 | goto x=>intro l k j hj s ex s' hv;exact (Ub (by simpa only [comp] using hv)).elim
 | refuse x=>intro l k j hj s ex s' hv;exact (Ub (by simpa only [comp] using hv)).elim
 | region id ops d=>
  intro l k j hj s ex s' hv;simp only [comp] at hv;generalize hq:MN O.P (O.hint h) ops d k=q at hv;obtain ⟨r,k'⟩:=q;have main:∀{s s':St} {ex:Ex},bH O.prog O.aC (ev O.prog O.aC j) (.aJ r) s=some (ex,s')->Bh O h (.region id ops d) s ex s':=by
   intro s s' ex hv;simp only [bH] at hv
   cases ho:dI O.prog O.aC (ev O.prog O.aC j) r s with
   | none=>simp [ho] at hv
   | some s1=>
    simp only [ho,yd,yo] at hv;obtain ⟨rfl,rfl⟩:=hv;exact av6 hO (hC j hj) h id ops d k (by rw [hq];exact ho)
  simp only at hv
  split at hv
  ·exact main hv
  ·rename_i t ts _;simp only [bH] at hv
   cases hf:py (t::ts) s with
   | none=>simp [hf] at hv
   | some s1=>
    simp only [hf] at hv;intro ro lo m S w a cO ht hh hb hn bh fj cN;obtain ⟨S1,g1,g2,g3,g4,g5⟩:=ai4 ht hh hf;have h1:=main (s:=s1) (by simpa only [bH] using hv) ro lo m S1 w a cO g1 g2 (by rw [g3,g4];exact hb) hn bh fj (AO hh (g5 s.base) cN)
    refine wpIn_mono h1 (fun e a' w' hp=>?_)
    exact eR.then (ex1:= .normal) g3 (g5 s.base) hp
 | seq x y ihx ihy=>
  intro l k j hj s ex s' hv ro lo m S w a cO ht hh hb hn bh fj cN;simp only [comp] at hv;generalize sQ:comp O.P (O.hint h) x l k=qx at hv;obtain ⟨x',l1,k1⟩:=qx;simp only at hv;generalize KU:comp O.P (O.hint h) y l1 k1=qy at hv;obtain ⟨y',l2,k2⟩:=qy;simp only [bH] at hv
  cases hx:bH O.prog O.aC (ev O.prog O.aC j) x' s with
  | none=>simp [hx] at hv
  | some r=>
   obtain ⟨ex1,s1⟩:=r;have h1:=ihx l k j hj s ex1 s1 (by rw [sQ];exact hx) ro lo m S w a cO ht hh hb hn bh fj cN
   refine wpIn_seq (wpIn_mono h1 ?_);rintro e a1 w1 ⟨rfl,m1,S1,g1,g2,g3,g4,g5,g6,g7⟩;have stop:ex1≠.normal->ex=ex1/\s'=s1:=by
    intro dd;rw [hx] at hv
    cases ex1 with
    | normal=>exact absurd rfl dd
    | ret=>simp only [yd,yo] at hv;exact ⟨hv.1.symm,hv.2.symm⟩
    | exit id=>simp only [yd,yo] at hv;exact ⟨hv.1.symm,hv.2.symm⟩
   cases ex1 with
   | normal=>
    simp only [hx] at hv;simp only [qQ,Exit.then];have h2:=ihy l1 k1 j hj s1 ex s' (by rw [KU];exact hv) ro lo m1 S1 w1 a1 (Me g5 cO) g1 g2 (by rw [g3];exact g4) (by rw [g6];exact hn) bh (xm fj g5.size) g7
    rw [g6] at h2
    exact wpIn_mono h2 (fun e a' w' hp=>eR.then (ex1:= .normal) g3 g5 hp)
   | ret=>
    obtain ⟨rfl,rfl⟩:=stop (by simp);exact ⟨rfl,m1,S1,g1,g2,g3,g4,g5,g6,g7⟩
   | exit id=>
    obtain ⟨rfl,rfl⟩:=stop (by simp);exact ⟨rfl,m1,S1,g1,g2,g3,g4,g5,g6,g7⟩
 | cond x p q ihp ihq=>
  intro l k j hj s ex s' hv ro lo m S w a cO ht hh hb hn bh fj cN;simp only [comp] at hv;generalize sQ:comp O.P (O.hint h) p (l+1) k=qx at hv;obtain ⟨p',l1,k1⟩:=qx;simp only at hv;generalize KU:comp O.P (O.hint h) q l1 k1=qy at hv;obtain ⟨q',l2,k2⟩:=qy;simp only at hv;have main:∀(ex:Ex) (s':St),bH O.prog O.aC (ev O.prog O.aC j) (.cond (aQ (O.hint h) x) p' q') s=some (ex,s')->(Code.cond x p q).wpIn (WF ro) 0 O.P (eR O m S w s ex s' a.tmps.size lo) a w:=by
   intro ex s' hv;simp only [bH] at hv;have rx:=cy (hO.hint h) ht x
   split at hv
   ·rename_i t hx;rw [hx] at rx;simp only [ah] at rx
    cases t with
    | true=>
     simp only [yA] at hv;exact wpIn_cond_true rx (ihp (l+1) k j hj s ex s' (by rw [sQ];exact hv) ro lo m S w a cO ht hh hb hn bh fj cN)
    | false=>
     simp only [yT] at hv;exact wpIn_cond_false rx (ihq l1 k1 j hj s ex s' (by rw [KU];exact hv) ro lo m S w a cO ht hh hb hn bh fj cN)
   ·cases hv
  cases Fo:(O.hint h).out l with
  | none=>rw [Fo] at hv;exact main ex s' hv
  | some live=>
   rw [Fo] at hv;simp only at hv;rw [show bH O.prog O.aC (ev O.prog O.aC j) (.seq (.cond (aQ (O.hint h) x) p' q') (.kp live)) s=match bH O.prog O.aC (ev O.prog O.aC j) (.cond (aQ (O.hint h) x) p' q') s with | some (.normal,s1)=>some (.normal,aI live s1) | r=>r from rfl] at hv
   cases hx:bH O.prog O.aC (ev O.prog O.aC j) (.cond (aQ (O.hint h) x) p' q') s with
   | none=>simp [hx] at hv
   | some r=>
    obtain ⟨ex1,s1⟩:=r;have h1:=main ex1 s1 hx;rw [hx] at hv
    cases ex1 with
    | normal=>
     simp only [yd,yo] at hv;obtain ⟨rfl,rfl⟩:=hv;exact wpIn_mono h1 (fun e a' w' hp=>eR.cg live hp)
    | ret=>simp only [yd,yo] at hv;obtain ⟨rfl,rfl⟩:=hv;exact h1
    | exit id=>simp only [yd,yo] at hv;obtain ⟨rfl,rfl⟩:=hv;exact h1
 | block id x ih=>
  intro l k j hj s ex s' hv ro lo m S w a cO ht hh hb hn bh fj cN;simp only [comp] at hv;generalize sQ:comp O.P (O.hint h) x l k=qx at hv;obtain ⟨x',r⟩:=qx;simp only at hv;have main:∀(ex:Ex) (s':St),bH O.prog O.aC (ev O.prog O.aC j) (.aF id x') s=some (ex,s')->(Code.block id x).wpIn (WF ro) 0 O.P (eR O m S w s ex s' a.tmps.size lo) a w:=by
   intro ex s' hv;simp only [bH] at hv
   cases hx:bH O.prog O.aC (ev O.prog O.aC j) x' s with
   | none=>simp [hx] at hv
   | some q=>
    obtain ⟨ex1,s1⟩:=q;have h1:=ih l k j hj s ex1 s1 (by rw [sQ];exact hx) ro lo m S w a cO ht hh hb hn bh fj cN
    refine wpIn_block (wpIn_mono h1 ?_);rintro e a1 w1 ⟨rfl,g⟩
    cases ex1 with
    | normal=>
     simp only [hx,yd,yo] at hv;obtain ⟨rfl,rfl⟩:=hv;exact ⟨rfl,g⟩
    | ret=>
     simp only [hx,yd,yo] at hv;obtain ⟨rfl,rfl⟩:=hv;exact ⟨rfl,g⟩
    | exit i=>
     simp only [hx] at hv
     cases PT:yv i id with
     | true=>
      rw [PT] at hv;simp only [yA,yd,yo] at hv;obtain ⟨rfl,rfl⟩:=hv
      have:=yp PT
      subst this;simp only [qQ,Exit.inBlock,xE];exact ⟨rfl,g⟩
     | false=>
      rw [PT] at hv;simp only [yT,yd,yo] at hv;obtain ⟨rfl,rfl⟩:=hv;have dd:i≠id:=fun e=>by subst e;simp at PT
      simp only [qQ,Exit.inBlock,dd,xg];exact ⟨rfl,g⟩
  have azS:∀live:List Nat,bH O.prog O.aC (ev O.prog O.aC j) (.seq (.aF id x') (.kp live)) s=some (ex,s')->(Code.block id x).wpIn (WF ro) 0 O.P (eR O m S w s ex s' a.tmps.size lo) a w:=by
   intro live hv;rw [show bH O.prog O.aC (ev O.prog O.aC j) (.seq (.aF id x') (.kp live)) s=match bH O.prog O.aC (ev O.prog O.aC j) (.aF id x') s with | some (.normal,s1)=>some (.normal,aI live s1) | r=>r from rfl] at hv
   cases hx:bH O.prog O.aC (ev O.prog O.aC j) (.aF id x') s with
   | none=>simp [hx] at hv
   | some r=>
    obtain ⟨ex1,s1⟩:=r;have h1:=main ex1 s1 hx;rw [hx] at hv
    cases ex1 with
    | normal=>
     simp only [yd,yo] at hv;obtain ⟨rfl,rfl⟩:=hv;exact wpIn_mono h1 (fun e a' w' hp=>eR.cg live hp)
    | ret=>simp only [yd,yo] at hv;obtain ⟨rfl,rfl⟩:=hv;exact h1
    | exit id=>simp only [yd,yo] at hv;obtain ⟨rfl,rfl⟩:=hv;exact h1
  split at hv
  ·exact azS _ hv
  ·exact main ex s' hv
 | loop x ih=>
  intro l k j hj s ex s' hv;simp only [comp] at hv;generalize sQ:comp O.P (O.hint h) x (l+1) k=qx at hv;obtain ⟨x',r⟩:=qx;simp only at hv;have rounds:∀(j:Nat),j<=n->∀(s:St) (ex:Ex) (s':St),bH O.prog O.aC (ev O.prog O.aC j) (.loop ((O.hint h).live l) x') s=some (ex,s')->∃K,∀(ro:Option Nat) (lo:Nat) (m:Mp) (S:Nat->Prop) (w:yi) (a:Act),zy ro w->b8 O m S w s.tm a.tmps->aU O m S w s.hp s.ct->s.base<=s.ct->(O.hint h).n<=a.tmps.size->O.w0.heap.size<=lo->lo<=w.heap.size->Marks lo S w a.defers->
    Code.roundsIn (WF ro) 0 O.P x (eR O m S w s ex s' a.tmps.size lo) K a w:=by
   intro j
   induction j with
   | zero=>
    intro hj s ex s' hv;simp only [bH] at hv
    cases hx:bH O.prog O.aC (ev O.prog O.aC 0) x' (aI ((O.hint h).live l) s) with
    | none=>simp [hx] at hv
    | some q=>
     obtain ⟨ex1,s1⟩:=q;have stop:ex1≠.normal->ex=ex1/\s'=s1:=by
      intro dd;rw [hx] at hv
      cases ex1 with
      | normal=>exact absurd rfl dd
      | ret=>simp only [yd,yo] at hv;exact ⟨hv.1.symm,hv.2.symm⟩
      | exit id=>simp only [yd,yo] at hv;exact ⟨hv.1.symm,hv.2.symm⟩
     refine ⟨1,fun ro lo m S w a cO ht hh hb hn bh fj cN=>?_⟩;rw [roundsIn_succ];obtain ⟨m1,c1,c2,c3,c4,c5⟩:=Q0 (live:=(O.hint h).live l) ht hh hb;have h1:=ih (l+1) k 0 hj _ ex1 s1 (by rw [sQ];exact hx) ro lo m1 S w a cO c1 c2 (by rw [c3];exact c4) hn bh fj cN
     refine wpIn_mono h1 ?_;rintro e a1 w1 hp;have aj:=eR.then (O:=O) (m:=m) (S:=S) (w:=w) (s:=s) (ex1:= .normal) c3 c5 hp;obtain ⟨rfl,_⟩:=hp
     cases ex1 with
     | normal=>simp only [hx,Is] at hv;cases hv
     | ret=>obtain ⟨rfl,rfl⟩:=stop (by simp);exact aj
     | exit id=>obtain ⟨rfl,rfl⟩:=stop (by simp);exact aj
   | succ j ihj=>
    intro hj s ex s' hv;simp only [bH] at hv
    cases hx:bH O.prog O.aC (ev O.prog O.aC (j+1)) x' (aI ((O.hint h).live l) s) with
    | none=>simp [hx] at hv
    | some q=>
     obtain ⟨ex1,s1⟩:=q;have stop:ex1≠.normal->ex=ex1/\s'=s1:=by
      intro dd;rw [hx] at hv
      cases ex1 with
      | normal=>exact absurd rfl dd
      | ret=>simp only [yd,yo] at hv;exact ⟨hv.1.symm,hv.2.symm⟩
      | exit id=>simp only [yd,yo] at hv;exact ⟨hv.1.symm,hv.2.symm⟩
     have more:∃K,ex1= .normal->∀(ro:Option Nat) (lo:Nat) (m:Mp) (S:Nat->Prop) (w:yi) (a:Act),zy ro w->b8 O m S w s1.tm a.tmps->aU O m S w s1.hp s1.ct->s1.base<=s1.ct->(O.hint h).n<=a.tmps.size->O.w0.heap.size<=lo->lo<=w.heap.size->Marks lo S w a.defers->
       Code.roundsIn (WF ro) 0 O.P x (eR O m S w s1 ex s' a.tmps.size lo) K a w:=by
      cases ex1 with
      | normal=>
       rw [hx] at hv;have eG:ev O.prog O.aC (j+1) (.loop ((O.hint h).live l) x') s1=some (ex,s'):=hv;rw [It] at eG;obtain ⟨K,hK⟩:=ihj (by omega) s1 ex s' eG;exact ⟨K,fun _=>hK⟩
      | ret=>exact ⟨0,fun h=>by cases h⟩
      | exit id=>exact ⟨0,fun h=>by cases h⟩
     obtain ⟨K,hK⟩:=more;refine ⟨K+1,fun ro lo m S w a cO ht hh hb hn bh fj cN=>?_⟩;rw [roundsIn_succ];obtain ⟨m1,c1,c2,c3,c4,c5⟩:=Q0 (live:=(O.hint h).live l) ht hh hb;have h1:=ih (l+1) k (j+1) hj _ ex1 s1 (by rw [sQ];exact hx) ro lo m1 S w a cO c1 c2 (by rw [c3];exact c4) hn bh fj cN
     refine wpIn_mono h1 ?_;rintro e a1 w1 hp;have aj:=eR.then (O:=O) (m:=m) (S:=S) (w:=w) (s:=s) (ex1:= .normal) c3 c5 hp;obtain ⟨rfl,_⟩:=hp
     cases ex1 with
     | normal=>
      simp only [qQ,Exit.then];obtain ⟨_,m2,S2,g1,g2,g3,g4,g5,g6,g7⟩:=aj;have h2:=hK rfl ro lo m2 S2 w1 a1 (Me g5 cO) g1 g2 (by rw [g3];exact g4) (by rw [g6];exact hn) bh (xm fj g5.size) g7
      rw [g6] at h2;revert h2;generalize hA:a.tmps.size=sz;intro h2;have step:∀(K:Nat) (a':Act) (w':yi),Code.roundsIn (WF ro) 0 O.P x (eR O m2 S2 w1 s1 ex s' sz lo) K a' w'->Code.roundsIn (WF ro) 0 O.P x (eR O m S w s ex s' sz lo) K a' w':=by
       intro K
       induction K with
       | zero=>intro a' w' BU;exact BU
       | succ K ihK=>
        intro a' w' BU;rw [roundsIn_succ] at BU ⊢;refine wpIn_mono BU (fun e a'' PJ hq=>?_)
        cases e with
        | normal=>exact ihK a'' PJ hq
        | exit id=>exact eR.then (ex1:= .normal) g3 g5 hq
        | goto x=>exact eR.then (ex1:= .normal) g3 g5 hq
        | ret=>exact eR.then (ex1:= .normal) g3 g5 hq
        | panic x=>exact eR.then (ex1:= .normal) g3 g5 hq
        | outgrown=>exact eR.then (ex1:= .normal) g3 g5 hq
      exact step K a1 w1 h2
     | ret=>obtain ⟨rfl,rfl⟩:=stop (by simp);exact aj
     | exit id=>obtain ⟨rfl,rfl⟩:=stop (by simp);exact aj
  obtain ⟨K,hK⟩:=rounds j hj s ex s' hv;intro ro lo m S w a cO ht hh hb hn bh fj cN;exact wpIn_loop_rounds K (hK ro lo m S w a cO ht hh hb hn bh fj cN)
 | scope x ih=>
  intro l k j hj s ex s' hv ro lo m S w a cO ht hh hb hn bh fj cN;simp only [comp] at hv;exact aoV (ih l k j hj s ex s' hv ro lo m S w a cO ht hh hb hn bh fj cN) (fun l a w=>eR.none l)
 | rangeFunc f ps cM body iha ihb=>
  intro l k j hj s ex s' hv;simp only [comp] at hv;generalize sQ:comp O.P (O.hint h) cM l k=qx at hv;obtain ⟨x',l1,k1⟩:=qx;simp only at hv;generalize KU:comp O.P (O.hint h) body l1 k1=qy at hv;obtain ⟨y',l2,k2⟩:=qy;simp only at hv
  cases ha:zF (O.hint h).n ps.toList with
  | false=>rw [ha] at hv;exact (Ub hv).elim
  | true=>
   rw [ha] at hv;exact azR hO (hC j hj) ⟨l,k,by rw [sQ]⟩ ⟨l1,k1,by rw [KU]⟩ ha hv
end
end
section
open Go
section
variable {O:bl} {m:Mp} {S:Nat->Prop} {w:yi}
def acC:∀(av:List AV) (j i:Nat),ai (dX j av) (j+i)=av.getD i .undef
 | [],j,i=>by simp [dX,ai]
 | v::r,j,i=>by
  cases i with
  | zero=>simp [dX,ai]
  | succ i=>
   simp only [dX,ai];have hb:yv j (j+(i+1))=false:=by
    cases hq:yv j (j+(i+1)) with
    | false=>rfl
    | true=>have:=yp hq;omega
   rw [hb,show j+(i+1)=j+1+i by omega];rw [acC r (j+1) i]
   simp
def acD {av:List AV} {args:Array yh} (n:Nat) (h:ay O.af m S w av args.toList):b8 O m S w (dX 0 av) (args++uT n undef):=by
 intro i
 have:=acC av 0 i
 rw [Nat.zero_add] at this;rw [this,List.getD_eq_getElem?_getD]
 cases hv:av[i]? with
 | none=>simp only [Option.getD_none,ah]
 | some v=>
  obtain ⟨u,h1,h2⟩:=RH h hv;have hl:i<args.size:=by
   grind
  have:(args++uT n undef).getD i undef=u:=by
   rw [Array.getD_eq_getD_getElem?,Array.getElem?_append_left hl]
   grind
  grind
def Fp (tmps:Array yh):ybK->Sem yh
 | .tmp t=>pure (tmps.getD t undef)
 | .cell a t=>do loadVar t (<-asAddr (tmps.getD a undef))
def aoW (fn:ybm) (tmps:Array yh):results fn tmps=(do let vs <-fn.results.mapM (Fp tmps);pure (if h:vs.size=1 then vs[0] else .tuple vs)):=by
 rfl
def Q2 {s:St} {ct:Nat} {tmps:Array yh} (hh:aU O m S w s.hp ct) (ht:b8 O m S w s.tm tmps):∀{rs:List ybK} {rv:List RV} {vs:List AV},ph O.P rs=some rv->lk s rv=some vs->
  ∃us,(rs.mapM (Fp tmps)).run O.P w= .ok us w/\ay O.af m S w vs us
 | [],rv,vs,h1,h2=>by
  simp only [ph,yd] at h1;subst h1;simp only [lk,yd] at h2;subst h2;exact ⟨[],by simp,by simp [ay]⟩
 | .tmp t::rs,rv,vs,h1,h2=>by
  simp only [ph] at h1
  cases hc:ph O.P rs with
  | none=>simp [hc] at h1
  | some l=>
   simp only [hc,yd] at h1;subst h1;simp only [lk,results1] at h2
   cases hl:lk s l with
   | none=>simp [hl] at h2
   | some Zi=>
    simp only [hl,yd] at h2;subst h2;obtain ⟨us,g1,g2⟩:=Q2 hh ht hc hl;refine ⟨tmps.getD t undef::us,?_,by simp only [ay];exact ⟨_,_,rfl,ht t,g2⟩⟩
    rw [ui];simp only [Fp,Sem.run_bind,Sem.run_pure,Result.andThen_ok];rw [g1];rfl
 | .cell a t::rs,rv,vs,h1,h2=>by
  simp only [ph] at h1
  cases hz:cF O.P t with
  | none=>simp [hz] at h1
  | some sz=>
   cases KV:dT O.P t with
   | none=>simp [hz,KV] at h1
   | some ag=>
    cases hc:ph O.P rs with
    | none=>simp [hz,KV,hc] at h1
    | some l=>
     simp only [hz,KV,hc,yd] at h1;subst h1;simp only [lk] at h2
     cases cC:results1 s (.cell a sz ag) with
     | none=>simp [cC] at h2
     | some v=>
      cases hl:lk s l with
      | none=>simp [cC,hl] at h2
      | some Zi=>
       simp only [cC,hl,yd] at h2;subst h2;obtain ⟨us,g1,g2⟩:=Q2 hh ht hc hl;have ra:=ht a;have key:∃b o u,tmps.getD a undef= .pointer (some ⟨b,o,none⟩)/\(loadVar t ⟨b,o,none⟩).run O.P w= .ok u w/\ah O.af m S w v u:=by
        simp only [results1] at cC;cases hta:ai s.tm a<;>rw [hta] at cC ra<;>simp only [reduceCtorEq] at cC
        ·rename_i id o;simp only [ah] at ra;obtain ⟨p,hm,hp⟩:=ra
         cases hg:au s.hp id with
         | none=>simp [hg] at cC
         | some ob=>
          cases ob<;>simp only [hg,reduceCtorEq] at cC
          have ZK:=RG (o:=0) (n:=0) hh hg hm;obtain ⟨u,q1,q2⟩:=MP hz KV (qw o _ p.b p.o ZK) cC;exact ⟨p.b,p.o+o,u,hp,q1,q2⟩
        ·rename_i cs;simp only [ah] at ra;obtain ⟨b,o,hp,_,_,ZK⟩:=ra;obtain ⟨u,q1,q2⟩:=MP hz KV ZK cC;exact ⟨b,o,u,hp,q1,q2⟩
       obtain ⟨b,o,u,q1,q2,q3⟩:=key;refine ⟨u::us,?_,by simp only [ay];exact ⟨_,_,rfl,q3,g2⟩⟩
       rw [ui]
       have:(Fp tmps (.cell a t)).run O.P w= .ok u w:=by
        simp only [Fp];rw [q1];simp [asAddr,q2]
       rw [Sem.run_bind,this,Result.andThen_ok,Sem.run_bind,g1];rfl
def aoi {s:St} {ct:Nat} {tmps:Array yh} {fn:ybm} {rv:List RV} {v:AV} (hh:aU O m S w s.hp ct) (ht:b8 O m S w s.tm tmps) (h1:ph O.P fn.results.toList=some rv) (h2:iU s rv=some v):
  ∃u,(results fn tmps).run O.P w= .ok u w/\ah O.af m S w v u:=by
 unfold iU at h2
 cases hl:lk s rv with
 | none=>simp [hl] at h2
 | some vs=>
  obtain ⟨us,g1,g2⟩:=Q2 hh ht h1 hl;have hlen:=gU _ _ g2;have hm:(fn.results.mapM (Fp tmps)).run O.P w= .ok us.toArray w:=by
   rw [Array.mapM_eq_mapM_toList];simp [g1]
  have fD:(results fn tmps).run O.P w= .ok (if h:us.toArray.size=1 then us.toArray[0] else .tuple us.toArray) w:=by
   rw [aoW,Sem.run_bind,hm];rfl
  rw [hl] at h2
  split at h2
  ·rename_i v' oJ;simp only [yd] at oJ h2;subst oJ;simp only [ay] at g2
   grind
  ·rename_i ej dd oJ;simp only [yd] at oJ h2;subst oJ;subst h2;have h1:¬us.toArray.size=1:=by
    intro h
    have:vs.length=1:=by simp_all
    cases vs with
    | nil=>simp at this
    | cons x t=>
     cases t with
     | nil=>exact dd x rfl
     | cons y t=>simp at this
   simp only [ah]
   grind
  ·grind
def Rr {s:St} {tmps:Array yh} {fn:ybm} {rv:List RV} {v:AV} {m0:Mp} {S0:Nat->Prop} {w0:yi} {hp0:Hp} {KW:Nat} (h1:ph O.P fn.results.toList=some rv) (h2:iU s rv=some v) (eM:KW<=s.ct):∀(rs:List Nat) (w:yi),
  rs.Nodup->(∀r,r∈rs->w.heap[r]? =some (.deferred (some []))/\¬S r/\w0.heap.size<=r)->O.w0.heap.size<=w0.heap.size->aU O m S w s.hp s.ct->b8 O m S w s.tm tmps->ck m0 S0 w0 hp0 m S w s.hp KW->
  ybM Fence.wide 0 O.P fn tmps (ze O m0 S0 w0 hp0 KW v s.hp s.ct) (rs.map (fun r=>{target:= .collected r,args:=#[]})) .returning w
 | [],w,_,_,_,hh,ht,hf=>by
  obtain ⟨u,g1,g2⟩:=aoi hh ht h1 h2;exact ⟨u,g1,u,m,S,rfl,hh,eM,g2,hf⟩
 | r::rs,w,kB,hr,bh,hh,ht,hf=>by
  obtain ⟨eV,dQ⟩:=List.nodup_cons.1 kB;obtain ⟨a1,a2,a3⟩:=hr r List.mem_cons_self;have eh:=Ek w r (.deferred none);have oG:¬ek m s.hp r:=fun ho=>adu hh ho _ a1
  have BU:=abJ hh eh a2 oG (xm bh a3)
  have aO:fK S w {w with heap:=w.heap.setIfInBounds r (.deferred none)}:=fun b hb=>eh.other b (fun e=>a2 (e▸hb))
  have BR:ck m0 S0 w0 hp0 m S {w with heap:=w.heap.setIfInBounds r (.deferred none)} s.hp KW:=by
   refine ⟨hf.os,hf.tape,hf.output,by rw [eh.size];exact hf.size,fun b hb ho=>(eh.other b (by omega)).trans (hf.same b hb ho),hf.sub,fun b hb=>(eh.other b (fun e=>a2 (e▸hf.sub b hb))).trans (hf.still b hb),hf.new,hf.own,hf.old,fun b x hb=>?_⟩
   obtain ⟨x',hx⟩:=hf.loops b x hb;exact ⟨x',(eh.other b (fun e=>by subst e;rw [a1] at hx;cases hx)).trans hx⟩
  refine ⟨by simp,.inl ⟨r,_,rfl,?_,Rr h1 h2 eM rs _ dQ (fun r' bP=>?_) bh BU (AN (fun _ _ h=>h) (fun _ h=>h) aO ht) BR⟩⟩
  ·simp only [Instr.takeDeferred,Sem.run_bind,abK (P:=O.P) a1 (fun _ _ _=>by simp),Result.andThen_ok,LX (P:=O.P) a1 (fun _ _ _=>by simp),Sem.run_pure]
  ·obtain ⟨b1,b2,b3⟩:=hr r' (List.mem_cons_of_mem _ bP);exact ⟨(eh.other r' (fun e=>eV (e▸bP))).trans b1,b2,b3⟩
end
section
variable {O:bl} {self:cA}
def azT (hO:eP O) (hS:∀v s ex s',self v s=some (ex,s')->∀c h l k,(comp O.P (O.hint h) c l k).1=v->Bh O h c s ex s') {n:Nat} {F:aV} (hF:O.prog n=some F) {hp:Hp} {ct:Nat} {av:List AV} {ex:Ex} {s:St}
  (hv:self F.body ⟨dX 0 av,hp,ct,ct⟩=some (ex,s)) (hex:ex= .normal\/ex= .ret) {v:AV} (hr:iU s F.fO=some v):Bg O n hp ct av v s.hp s.ct:=by
 intro m S w args hh fV;obtain ⟨fn,q1,q2,q3⟩:=hO.prog n F hF;obtain ⟨c,q4,q5,q6,q7⟩:=QQ q2;refine .inl ⟨My q1 (by rw [q4];rfl) q3,?_⟩
 have hc:=hS _ _ _ _ hv c n 0 0 q5.symm;have hw:=hc none w.heap.size m S w {tmps:=args++uT (fn.ntmps-args.size) undef,defers:=[]} (fun l hl=>by cases hl) (acD _ fV) hh (yu _) (by simp;omega) hh.fU (yu _) ⟨[],rfl,by simp,by simp⟩
 refine callsIn_of_wp_marks (F:=Fence.wide) q1 q4 trivial (wpIn_mono hw ?_);rintro e a' w' ⟨rfl,m',S',k1,k2,k3,k4,k5,k6,rs,k7,k8,k9⟩;have main:ybM Fence.wide 0 O.P fn a'.tmps (ze O m S w hp ct v s.hp s.ct) a'.defers .returning w':=by
  rw [k7];exact Rr q6 hr k4 rs w' k8 k9 hh.fU k2 k1 k5
 rcases hex with rfl | rfl
 ·exact main
 ·exact main
def AY.mono {P:Program} {f:FuncId} {args:Array yh} {w:yi} {R R':Ending->yi->Prop} (h:AY P f args w R) (hr:∀e w',R e w'->R' e w'):AY P f args w R':=by
 rcases h with ⟨h1,h2⟩ | ⟨u,w',h1,h2⟩
 ·exact .inl ⟨h1,CallsIn.mono h2 hr⟩
 ·exact .inr ⟨u,w',h1,hr _ _ h2⟩
def ap1 {w:yi} {S:Nat->Prop} (hg:Bf O w) (hs:∀b,S b->b<w.heap.size):aU O eY S w [] 0:=
 ⟨(fun id o p h _=>by simp [au] at h),(fun id p h=>by cases h),(fun i j oi oj pi pj h=>by simp [au] at h),hs,(fun id p h=>by cases h),(fun id p h=>by cases h),hg.1,hg.2,(fun id o h=>by simp [au] at h)⟩
def RU {b:Nat} (h:ek eY [] b):False:=by
 obtain ⟨_,_,_,h,_⟩:=h;simp [au] at h
def QJ {n:Nat} {av:List AV} {v r:AV} {s:St} (h:Bg O n [] 0 av v s.hp s.ct) (hr:result s.hp v=some r):eD O n av r:=by
 intro w S args hg hs fV hp;refine AY.mono (h eY S w args (ap1 hg hs) fV) ?_;rintro e w' ⟨u,m',S',rfl,k1,k2,k3,k4⟩;have bh:∀b,ek m' s.hp b->w.heap.size<=b:=fun b hb=>(k4.own b hb).elim (fun h=>(RU h).elim) (fun h=>h)
 obtain ⟨S2,g1,g2,g3,g4⟩:=apS (lo:=w.heap.size) k1 hr k3 bh;refine ⟨u,S2,rfl,⟨k4.os,k4.tape,k4.output,k4.size,fun b hb=>k4.same b hb RU⟩,fun b hb=>g1 b (k4.sub b hb),fun b hb=>?_,g3,g4⟩;rcases g2 b hb with h | h
 ·rcases k4.new b h with h | h | h
  ·exact .inl h
  ·exact (RU h).elim
  ·exact .inr h
 ·exact .inr (bh b h)
def aoX (hO:eP O) (hS:∀v s ex s',self v s=some (ex,s')->∀c h l k,(comp O.P (O.hint h) c l k).1=v->Bh O h c s ex s'):nR O self:=by
 have heap:∀(n:Nat) (F:aV),O.prog n=some F->∀(hp:Hp) (ct:Nat) (av:List AV) (ex:Ex) (s:St) (v:AV),self F.body ⟨dX 0 av,hp,ct,ct⟩=some (ex,s)->(ex= .normal\/ex= .ret)->iU s F.fO=some v->Bg O n hp ct av v s.hp s.ct:=
  fun n F hF hp ct av ex s v h1 h2 h3=>azT hO hS hF h1 h2 h3
 refine ⟨?_,?_,fun hp ct l xs v aj aM hv=>arP hS hv⟩
 ·intro n av r hv;unfold bL at hv
  cases hL:O.aC.pure n with
  | some sp=>rw [hL] at hv;exact hO.aC n sp av r hL hv
  | none=>
   simp only [hL] at hv
   cases hF:O.prog n with
   | none=>simp [hF] at hv
   | some F=>
    simp only [hF] at hv
    split at hv
    ·rename_i s hb
     cases hr:iU s F.fO with
     | none=>simp [hr] at hv
     | some v=>simp only [hr] at hv;exact QJ (heap n F hF [] 0 av .normal s v hb (.inl rfl) hr) hv
    ·rename_i s hb
     cases hr:iU s F.fO with
     | none=>simp [hr] at hv
     | some v=>simp only [hr] at hv;exact QJ (heap n F hF [] 0 av .ret s v hb (.inr rfl) hr) hv
    ·cases hv
 ·intro hp ct n av v aj aM hv;unfold il at hv
  cases hL:O.aC.heap n with
  | some sp=>rw [hL] at hv;exact hO.Fl n sp hp ct av v aj aM hL hv
  | none=>
   simp only [hL] at hv
   cases hF:O.prog n with
   | none=>simp [hF] at hv
   | some F=>
    grind
def abi (hO:eP O):∀n,nR O (ev O.prog O.aC n):=by
 intro n
 induction n using Nat.strongRecOn with
 | _ n ih=>
  refine aoX hO (fun v s ex s' hv c h l k hc=>?_)
  cases n with
  | zero=>rw [Is] at hv;cases hv
  | succ n=>
   rw [It,<-hc] at hv;exact aeK hO n (fun k hk=>ih k (by omega)) h c l k n (yu _) s ex s' hv
def sound (hO:eP O) {n f:Nat} {av:List AV} {r:AV} (h:Zj O.prog O.aC n f av=some r):eD O f av r:=(abi hO n).pure f av r h
end
end
section
open Go (IntKind)
def gK:List Nat->List Nat->Bool
 | [],_=>true
 | a::x,b::y=>yv a b&&gK x y
 | _::_,[]=>false
def mj (sub:List Nat):List Nat->Nat->Option Nat
 | [],k=>bif gK sub [] then some k else none
 | b::r,k=>bif gK sub (b::r) then some k else mj sub r (k+1)
def N2:List AV->Option AV
 | [.str s,.str sep]=>
  bif yQ s.length 4294967281 then
   match mj sep s 0 with
   | some i=>some (.ae [.str (s.take i),.str (s.drop (i+sep.length)),.bool true])
   | none=>some (.ae [.str s,.str [],.bool false])
  else none
 | _=>none
def LZ:List AV->Option AV
 | [.str s,.str p]=>some (bif gK p s then .ae [.str (s.drop p.length),.bool true] else .ae [.str s,.bool false])
 | _=>none
def L2:List AV->Option AV
 | [.str s,.str p]=>some (.bool (gK p s))
 | _=>none
def LM:List AV->Option AV
 | [.str s,.str p]=>some (.str (bif gK p s then s.drop p.length else s))
 | _=>none
def Fq (i:Nat):List Nat->Bool
 | []=>false
 | j::r=>bif yv j i then true else Fq i r
def kN (set:List Nat):List Nat->List Nat
 | []=>[]
 | b::r=>bif Fq b set then kN set r else b::r
def EJ:List Nat->Bool
 | []=>true
 | b::r=>yQ b 128&&EJ r
def trimS:List AV->Option AV
 | [.str s,.str set]=>bif EJ set&&(yQ s.length 4294967281&&yQ set.length 4294967281) then some (.str (kN set (kN set s.reverse).reverse)) else none
 | _=>none
def gZ (s:List Nat):Nat->List Nat
 | 0=>[]
 | n+1=>s++gZ s n
def AZ:List AV->Option AV
 | [.str s,.int .i64 (.ofNat n)]=>bif yF n 1099511627776&&yF (s.length*n) 1099511627776 then some (.str (gZ s n)) else none
 | _=>none
def mP:Nat->Nat->List Nat->List Nat
 | 0,_,acc=>acc
 | f+1,n,acc=>bif yQ n 10 then (48+n)::acc else mP f (n/10) ((48+n%10)::acc)
def aB (n:Nat):List Nat:=mP (n+1) n []
def aZ:Int->List Nat
 | .ofNat n=>aB n
 | .negSucc n=>45::aB (n+1)
def Bi:Int->Bool
 | .ofNat n=>yQ n 9223372036854775808
 | .negSucc n=>yQ n 9223372036854775808
def Jg:List AV->Option AV
 | [.int .i64 n]=>bif Bi n then some (.str (aZ n)) else none
 | _=>none
def AH:List AV->Option AV
 | [.int .u64 (.ofNat n),.int .i64 10]=>bif yQ n 18446744073709551616 then some (.str (aB n)) else none
 | _=>none
def cP:List Nat->Nat->Option Nat
 | [],a=>some a
 | b::r,a=>bif yF 48 b&&yF b 57 then cP r (10*a+(b-48)) else none
def Jh:List AV->Option AV
 | [.str s]=>
  bif yQ 0 s.length&&yF s.length 18 then
   match cP s 0 with | some n=>some (.ae [.int .i64 n,.undef]) | none=>none
  else none
 | _=>none
def nV:List AV->Option AV
 | [.int .u64 (.ofNat x),.int .u64 (.ofNat y),.int .u64 (.ofNat c)]=>
  bif yF c 1&&(yQ x 18446744073709551616&&yQ y 18446744073709551616) then some (.ae [.int .u64 ((x+y+c)%18446744073709551616:Nat),.int .u64 ((x+y+c)/18446744073709551616:Nat)]) else none
 | _=>none
def A3:List AV->Option AV
 | [.int .u64 (.ofNat x),.int .u64 (.ofNat y),.int .u64 (.ofNat c)]=>
  bif yF c 1&&(yQ x 18446744073709551616&&yQ y 18446744073709551616) then some (.ae [.int .u64 ((x+18446744073709551616*2-y-c)%18446744073709551616:Nat),.int .u64 (bif yF (y+c) x then 0 else 1)]) else none
 | _=>none
def rT:List AV->Option AV
 | [.int .u64 (.ofNat x),.int .u64 (.ofNat y)]=>bif yQ x 18446744073709551616&&yQ y 18446744073709551616 then some (.ae [.int .u64 (x*y/18446744073709551616:Nat),.int .u64 (x*y%18446744073709551616:Nat)]) else none
 | _=>none
def eL:Nat->Nat->Nat
 | 0,_=>0
 | f+1,n=>bif yv n 0 then 0 else 1+eL f (n/2)
def IE:List AV->Option AV
 | [.int .u64 (.ofNat x)]=>bif yQ x 18446744073709551616 then some (.int .i64 (eL 64 x)) else none
 | _=>none
def Fa:List AV->Option AV
 | [.int .u64 (.ofNat x)]=>bif yQ x 18446744073709551616 then some (.int .i64 (64-eL 64 x:Nat)) else none
 | _=>none
def RW:List AV->Option AV
 | [.bQ .f64 b]=>some (.int .u64 b)
 | _=>none
def QK:List AV->Option AV
 | [.int .u64 (.ofNat n)]=>some (.bQ .f64 n)
 | _=>none
end
section
open Go
section
variable {O:bl} {n:Nat}
def HS {w w':yi} (h:RowKit.Below w.heap.size w w'):Calm w w':=⟨h.os,h.tape,h.output,h.size,h.block⟩
def ap2 {w:yi} (k:Nat):Calm w (w.drewN k):=⟨rfl,rfl,rfl,yu _,fun _ _=>rfl⟩
def ap3 {w:yi} (h:Bf O w) {a:Addr} {v:yh} (hc:O.w0.cell? a=some v):w.cell? a=some v:=by
 have hb:a.block<O.w0.heap.size:=by
  unfold World.cell? at hc
  cases hq:O.w0.heap[a.block]? with
  | none=>simp [hq] at hc
  | some o=>exact (Array.getElem?_eq_some_iff.1 hq).1
 unfold World.cell? at hc ⊢;rw [h.1 _ hb];exact hc
def oX {av:List AV} {r:AV} (hr:∀S w' lo u,ah O.af eY S w' r u->nd O.af S w' lo r u)
  (fM:∀args w,(callFunc (O.af n) args).run O.P w= .ok (.enter (O.af n) args) w)
  (h:∀w S args,Bf O w->ay O.af eY S w av args.toList->xV O.P (O.af n) args w fun e w'=>∃u,e= .returned u/\Calm w w'/\∀S,ah O.af eY S w' r u):eD O n av r:=by
 intro w S args hg hS dN _;refine .inl ⟨fM args w,Go.callsIn_wide.2 ((h w S args hg dN).mono ?_)⟩;rintro e w' ⟨u,rfl,hc,hu⟩;exact ⟨u,S,rfl,hc,fun _ h=>h,fun _ h=> .inl h,fun b hb=>Nat.lt_of_lt_of_le (hS b hb) hc.size,hr S w' _ u (hu S)⟩
def Mf {av:List AV} {r:AV} (hr:∀S w' lo u,ah O.af eY S w' r u->nd O.af S w' lo r u)
  (h:∀w S args,ay O.af eY S w av args.toList->∃u,(callFunc (O.af n) args).run O.P w= .ok (.value u) w/\∀S,ah O.af eY S w r u):eD O n av r:=by
 intro w S args _ hS dN _;obtain ⟨u,h1,h2⟩:=h w S args dN;exact .inr ⟨u,w,h1,u,S,rfl,Calm.refl,fun _ h=>h,fun _ h=> .inl h,hS,hr S w _ u (h2 S)⟩
def Iu {s:List Nat}:∀S w' lo u,ah O.af eY S w' (.str s) u->nd O.af S w' lo (.str s) u:=fun S w' lo u h=>⟨[],rfl,h,rfl⟩
def Sm {k:IntKind} {z:Int}:∀S w' lo u,ah O.af eY S w' (.int k z) u->nd O.af S w' lo (.int k z) u:=fun S w' lo u h=>⟨[],rfl,h,rfl⟩
def atJ {k:FloatKind} {z:Nat}:∀S w' lo u,ah O.af eY S w' (.bQ k z) u->nd O.af S w' lo (.bQ k z) u:=fun S w' lo u h=>⟨[],rfl,h,rfl⟩
def arR {b:Bool}:∀S w' lo u,ah O.af eY S w' (.bool b) u->nd O.af S w' lo (.bool b) u:=fun S w' lo u h=>⟨[],rfl,h,rfl⟩
def abL {S:Nat->Prop} {w':yi} {lo:Nat}:∀{vs:List AV} {us:List yh},(∀v,v∈vs->(∀ex sz k cs,v≠.bn ex sz k cs)/\bg v=true)->ay O.af eY S w' vs us->kR O.af S w' lo vs us []
 | [],us,_,h=>by simp only [ay] at h;exact ⟨h,rfl⟩
 | v::vs,us,hv,h=>by
  simp only [ay] at h;obtain ⟨u,t,rfl,h1,h2⟩:=h;have h3:=hv v (by simp);refine ⟨u,t,[],[],rfl,rfl,?_,abL (fun v hm=>hv v (by simp [hm])) h2⟩;cases v<;>first | exact ⟨rfl,h1,h3.2⟩ | exact absurd rfl (h3.1 _ _ _ _)
def Ey {vs:List AV} (hv:∀v,v∈vs->(∀ex sz k cs,v≠.bn ex sz k cs)/\bg v=true):∀S w' lo u,ah O.af eY S w' (.ae vs) u->nd O.af S w' lo (.ae vs) u:=by
 intro S w' lo u h;obtain ⟨xs,rfl,h⟩:=h;exact ⟨xs,[],rfl,abL hv h,by simp⟩
def Fb {S:Nat->Prop} {w:yi} {a:AV} {args:Array yh} (h:ay O.af eY S w [a] args.toList):∃u,args=#[u]/\ah O.af eY S w a u:=by
 simp only [ay] at h
 grind
def Bj {S:Nat->Prop} {w:yi} {a b:AV} {args:Array yh} (h:ay O.af eY S w [a,b] args.toList):∃u v,args=#[u,v]/\ah O.af eY S w a u/\ah O.af eY S w b v:=by
 simp only [ay] at h
 grind
def ai5 {S:Nat->Prop} {w:yi} {a b c:AV} {args:Array yh} (h:ay O.af eY S w [a,b,c] args.toList):∃u v x,args=#[u,v,x]/\ah O.af eY S w a u/\ah O.af eY S w b v/\ah O.af eY S w c x:=by
 simp only [ay] at h
 grind
def HT {S:Nat->Prop} {w:yi} {s:List Nat} {l:List UInt8} (h:l.map xc=s):ah O.af eY S w (.str s) (.string ⟨l.toArray⟩):=by
 simp only [ah];exact ⟨_,rfl,h⟩
def toNat_inj {a b:UInt8}:yv a.toNat b.toNat=(a==b):=by
 by_cases h:a=b
 ·simp_all
 ·have h':a.toNat≠b.toNat:=fun e=>h (UInt8.toNat_inj.1 e)
  have e:(a==b)=false:=by simp_all
  rw [e]
  cases hq:yv a.toNat b.toNat with
  | false=>rfl
  | true=>exact absurd (yp hq) h'
def H5:∀(p s:List UInt8),gK (p.map xc) (s.map xc)=p.isPrefixOf s
 | [],s=>by cases s<;>rfl
 | a::p,[]=>rfl
 | a::p,b::s=>by
  simp only [xa,gK,List.isPrefixOf,H5 p s,toNat_inj]
def abM:∀(s sep:List UInt8) (k:Nat),mj (sep.map xc) (s.map xc) k=if 0<=Lib.index s sep then some (k+(Lib.index s sep).toNat) else none
 | [],sep,k=>by
  simp only [List.map_nil,mj,Lib.index]
  cases sep with
  | nil=>simp [gK]
  | cons a r=>simp [gK]
 | b::s,sep,k=>by
  have ih:=abM s sep (k+1);have hp:=H5 sep (b::s);simp only [xa,mj,hp,Lib.index]
  grind
def adx (b:UInt8):∀cs:List UInt8,Fq b.toNat (cs.map xc)=cs.contains b
 | []=>rfl
 | c::cs=>by
  simp only [xa,Fq,adx b cs,List.contains_cons,toNat_inj]
  grind
def Ru (cs:List UInt8):∀l:List UInt8,kN (cs.map xc) (l.map xc)=(l.dropWhile (cs.contains ·)).map xc
 | []=>rfl
 | b::l=>by
  simp only [xa,kN,adx,List.dropWhile_cons,Ru cs l]
  grind
def ady (l:List UInt8):∀n,gZ (l.map xc) n=(Lib.repeatL l n).map xc
 | 0=>rfl
 | n+1=>by simp only [gZ,Lib.repeatL,xi,ady l n]
def abj:∀(f n:Nat) (acc:List Nat),n<f->mP f n acc=(Lib.decDigits n).map xc++acc
 | 0,n,acc,h=>by omega
 | f+1,n,acc,h=>by
  rw [mP,Lib.decDigits];by_cases hn:n<10
  ·rw [show yQ n 10=true from ym hn,yA,dif_pos hn]
   have:(ybn (48+n)).toNat=48+n:=by
    rw [yap];omega
   grind
  ·have hb:yQ n 10=false:=by
    cases hq:yQ n 10 with
    | false=>rfl
    | true=>exact absurd (yy hq) (by omega)
   rw [hb,yT,dif_neg hn,abj f (n/10) _ (by omega),xi,List.append_assoc]
   have:(ybn (48+n%10)).toNat=48+n%10:=by
    rw [yap];omega
   grind
def RX (n:Nat):aB n=(Lib.decDigits n).map xc:=by
 rw [aB,abj (n+1) n [] (by omega),List.append_nil]
def arS (n:Int):aZ n=(Lib.itoa n).map xc:=by
 cases n with
 | ofNat k=>
  have:¬yaU k<0:=by simp
  simp only [aZ,Lib.itoa,this,xg,RX];rfl
 | negSucc k=>
  have:Int.negSucc k<0:=Int.negSucc_lt_zero k
  simp only [aZ,Lib.itoa,this,xE,RX,xa];rfl
def RY:∀f x:Nat,eL f x=Lib.bitLenAux f x
 | 0,_=>rfl
 | f+1,x=>by
  rw [eL,Lib.bitLenAux];by_cases h:x=0
  ·simp_all
  ·have hb:yv x 0=false:=by
    cases hq:yv x 0 with
    | false=>rfl
    | true=>exact absurd (yp hq) h
   rw [hb,yT,yx h,RY f]
def abN:∀{cs:List UInt8},EJ (cs.map xc)=true->∀(j:Nat) b,cs[j]? =some b->b.toNat<128
 | [],_,j,b,h=>by simp at h
 | c::cs,h,j,b,hb=>by
  simp only [xa,EJ,yg] at h
  cases j with
  | zero=>
   simp_all
  | succ j=>exact abN h.2 j b (by simpa using hb)
def adz:∀{l:List UInt8} {a z:Nat},cP (l.map xc) a=some z->Lib.decFrom a l=some z
 | [],a,z,h=>h
 | b::l,a,z,h=>by
  simp only [xa,cP] at h
  cases hb:(yF 48 b.toNat&&yF b.toNat 57) with
  | false=>rw [hb] at h;cases h
  | true=>
   rw [hb] at h;simp only [yg] at hb;have h1:=yy hb.1;have h2:=yy hb.2
   have:=adz h
   rw [Lib.decFrom,Lib.digitVal,yM ⟨h1,h2⟩]
   grind
def arT {l:List UInt8} {z:Nat} (h:cP (l.map xc) 0=some z) (h0:0<l.length):Lib.atoi l=some (z:Int):=by
 cases l with
 | nil=>simp at h0
 | cons b r=>
  have hd:=adz h;have hb:48<=b.toNat:=by
   simp only [xa,cP] at h
   cases hb:(yF 48 b.toNat&&yF b.toNat 57) with
   | false=>rw [hb] at h;cases h
   | true=>
    simp_all
  have h1:(b==45)=false:=by
   have:b≠45:=fun e=>by subst e;exact absurd hb (by decide)
   grind
  have h2:(b==43)=false:=by
   have:b≠43:=fun e=>by subst e;exact absurd hb (by decide)
   grind
  simp only [Lib.atoi,h1,h2,yI,xg,Lib.decNat,List.isEmpty_cons,hd,Option.map_some]
section
variable {f:FuncId}
def anU (hf:O.af n=f) (fM:∀args w,(callFunc f args).run O.P w= .ok (.enter f args) w)
  (hc:∀(s p:ByteArray) (w:yi),xV O.P f #[.string s,.string p] w fun e w'=>e= .returned (.tuple #[.string ⟨(Lib.trimPrefix s.data.toList p.data.toList).toArray⟩,.bool (Lib.hasPrefix s.data.toList p.data.toList)])/\w'=w):
  ∀av r,LZ av=some r->eD O n av r:=by
 intro av r h;unfold LZ at h
 split at h
 ·rename_i s p;simp only [yd] at h;subst h;refine oX ?_ (by rw [hf];exact fM) ?_
  ·cases gK p s<;>exact Ey (by simp [bg])
  ·intro w S args hg dN;obtain ⟨u,v,rfl,h1,h2⟩:=Bj dN;obtain ⟨t1,rfl,rfl⟩:=h1;obtain ⟨t2,rfl,rfl⟩:=h2;rw [hf];refine (hc t1 t2 w).mono ?_;rintro e w' ⟨rfl,rfl⟩;refine ⟨_,rfl,Calm.refl,fun S=>?_⟩;rw [H5,yr];unfold Lib.trimPrefix Lib.hasPrefix
   cases hp:t2.data.toList.isPrefixOf t1.data.toList with
   | true=>
    simp only [yA,xE,ah,ay]
    simp_all
   | false=>
    simp only [yT,yI,xg,ah,ay]
    grind
 ·cases h
def anV (hf:O.af n=f) (fM:∀args w,(callFunc f args).run O.P w= .ok (.enter f args) w)
  (hc:∀(s p:ByteArray) (w:yi),xV O.P f #[.string s,.string p] w fun e w'=>e= .returned (.bool (Lib.hasPrefix s.data.toList p.data.toList))/\w'=w):
  ∀av r,L2 av=some r->eD O n av r:=by
 intro av r h;unfold L2 at h
 split at h
 ·rename_i s p;simp only [yd] at h;subst h;refine oX arR (by rw [hf];exact fM) ?_
  intro w S args hg dN;obtain ⟨u,v,rfl,h1,h2⟩:=Bj dN;obtain ⟨t1,rfl,rfl⟩:=h1;obtain ⟨t2,rfl,rfl⟩:=h2;rw [hf];refine (hc t1 t2 w).mono ?_;rintro e w' ⟨rfl,rfl⟩;refine ⟨_,rfl,Calm.refl,fun S=>?_⟩;rw [H5];simp only [ah,Lib.hasPrefix]
 ·cases h
def anQ (hf:O.af n=f) (fM:∀args w,(callFunc f args).run O.P w= .ok (.enter f args) w)
  (hc:∀(s p:ByteArray) (w:yi),xV O.P f #[.string s,.string p] w fun e w'=>e= .returned (.string ⟨(Lib.trimPrefix s.data.toList p.data.toList).toArray⟩)/\w'=w):
  ∀av r,LM av=some r->eD O n av r:=by
 intro av r h;unfold LM at h
 split at h
 ·rename_i s p;simp only [yd] at h;subst h;refine oX Iu (by rw [hf];exact fM) ?_
  intro w S args hg dN;obtain ⟨u,v,rfl,h1,h2⟩:=Bj dN;obtain ⟨t1,rfl,rfl⟩:=h1;obtain ⟨t2,rfl,rfl⟩:=h2;rw [hf];refine (hc t1 t2 w).mono ?_;rintro e w' ⟨rfl,rfl⟩;refine ⟨_,rfl,Calm.refl,fun S=>?_⟩;rw [H5,yr];refine HT ?_;unfold Lib.trimPrefix Lib.hasPrefix
  cases hp:t2.data.toList.isPrefixOf t1.data.toList with
  | true=>simp [List.map_drop]
  | false=>simp
 ·cases h
def atK (hf:O.af n=f) (fM:∀args w,(callFunc f args).run O.P w= .ok (.enter f args) w) {a:Addr} {m:Int} (hm:O.w0.cell? a=some (.int .i64 m))
  (hc:∀(s sep:ByteArray) (w:yi),s.size<4294967281->w.cell? a=some (.int .i64 m)->xV O.P f #[.string s,.string sep] w fun e w'=>e= .returned (.tuple #[.string ⟨(Lib.cut s.data.toList sep.data.toList).1.toArray⟩,.string ⟨(Lib.cut s.data.toList sep.data.toList).2.1.toArray⟩,.bool (Lib.cut s.data.toList sep.data.toList).2.2])/\∃n,w'=w.drewN n):
  ∀av r,N2 av=some r->eD O n av r:=by
 intro av r h;unfold N2 at h
 split at h
 ·rename_i s sep
  cases hb:yQ s.length 4294967281 with
  | false=>rw [hb] at h;cases h
  | true=>
   rw [hb] at h;have key:∀(q:List UInt8×List UInt8×Bool),(∀t1 t2:ByteArray,t1.data.toList.map xc=s->t2.data.toList.map xc=sep->r= .ae [.str ((Lib.cut t1.data.toList t2.data.toList).1.map xc),.str ((Lib.cut t1.data.toList t2.data.toList).2.1.map xc),.bool (Lib.cut t1.data.toList t2.data.toList).2.2])->
     (∃a b c,r= .ae [.str a,.str b,.bool c])->eD O n [.str s,.str sep] r:=by
    intro q hq av8;obtain ⟨a',b',c',rfl⟩:=av8;refine oX (Ey (by simp [bg])) (by rw [hf];exact fM) ?_
    intro w S args hg dN;obtain ⟨u,v,rfl,h1,h2⟩:=Bj dN;obtain ⟨t1,rfl,e1⟩:=h1;obtain ⟨t2,rfl,e2⟩:=h2;rw [hf];have hl:t1.size<4294967281:=by
     have:=mi hb
     rw [<-e1,yr] at this
     simp_all
    refine (hc t1 t2 w hl (ap3 hg hm)).mono ?_;rintro e w' ⟨rfl,k,rfl⟩;refine ⟨_,rfl,ap2 k,fun S=>?_⟩;simp only [ah,ay]
    grind
   refine key ([],[],false) ?_ ?_
   ·intro t1 t2 e1 e2;subst e1;subst e2;rw [abM] at h;unfold Lib.cut;by_cases h0:0<=Lib.index t1.data.toList t2.data.toList
    ·simp_all
    ·grind
   ·grind
 ·cases h
def arU (hf:O.af n=f) (fM:∀args w,(callFunc f args).run O.P w= .ok (.enter f args) w)
  (hc:∀(s cs:ByteArray) (w:yi),s.size<=9223372036854775807->cs.size<4294967281->(∀(j:Nat) b,cs.data.toList[j]? =some b->b.toNat<128)->xV O.P f #[.string s,.string cs] w fun e w'=>e= .returned (.string ⟨(Lib.trimS s.data.toList cs.data.toList).toArray⟩)/\RowKit.Below w.heap.size w w'):
  ∀av r,trimS av=some r->eD O n av r:=by
 intro av r h;unfold trimS at h
 split at h
 ·rename_i s cs
  cases hb:(EJ cs&&(yQ s.length 4294967281&&yQ cs.length 4294967281)) with
  | false=>rw [hb] at h;cases h
  | true=>
   rw [hb] at h;simp only [yA,yd] at h;subst h;simp only [yg] at hb;refine oX Iu (by rw [hf];exact fM) ?_
   intro w S args hg dN;obtain ⟨u,v,rfl,h1,h2⟩:=Bj dN;obtain ⟨t1,rfl,rfl⟩:=h1;obtain ⟨t2,rfl,rfl⟩:=h2;have ns:=mi hb.2.1;have oE:=mi hb.2.2;rw [yr] at ns oE;rw [hf];refine (hc t1 t2 w (by rw [Lib.size_eq];omega) (by rw [Lib.size_eq];omega) (abN hb.1)).mono ?_;rintro e w' ⟨rfl,hw⟩;refine ⟨_,rfl,HS hw,fun S=>HT ?_⟩;simp only [Lib.trimS,Lib.trimLeftS,Lib.trimRightS];rw [<-tP,Ru,<-tP,Ru]
 ·cases h
def aoY (hf:O.af n=f) (fM:∀args w,(callFunc f args).run O.P w= .ok (.enter f args) w)
  (hc:∀(s:ByteArray) (c:Nat) (w:yi),c<=9223372036854775807->s.size*c<=140737488355328->xV O.P f #[.string s,.int .i64 c] w fun e w'=>e= .returned (.string ⟨(Lib.repeatL s.data.toList c).toArray⟩)/\RowKit.Below w.heap.size w w'):
  ∀av r,AZ av=some r->eD O n av r:=by
 intro av r h;unfold AZ at h
 split at h
 ·rename_i s c
  cases hb:(yF c 1099511627776&&yF (s.length*c) 1099511627776) with
  | false=>rw [hb] at h;cases h
  | true=>
   rw [hb] at h;simp only [yA,yd] at h;subst h;simp only [yg] at hb;have l1:=yy hb.1;have l2:=yy hb.2;refine oX Iu (by rw [hf];exact fM) ?_
   intro w S args hg dN;obtain ⟨u,v,rfl,h1,h2⟩:=Bj dN;obtain ⟨t1,rfl,rfl⟩:=h1;subst h2;rw [hf];rw [yr] at l2;refine (hc t1 c w (by omega) (by rw [Lib.size_eq];omega)).mono ?_;rintro e w' ⟨rfl,hw⟩;exact ⟨_,rfl,HS hw,fun S=>HT (ady _ _).symm⟩
 ·cases h
def arV (hf:O.af n=f) (fM:∀args w,(callFunc f args).run O.P w= .ok (.enter f args) w)
  (hc:∀(z:Int) (w:yi),-9223372036854775808<=z->z<=9223372036854775807->Bf O w->xV O.P f #[.int .i64 z] w fun e w'=>e= .returned (.string ⟨(Lib.itoa z).toArray⟩)/\Calm w w'):
  ∀av r,Jg av=some r->eD O n av r:=by
 intro av r h;unfold Jg at h
 split at h
 ·rename_i z
  cases hb:Bi z with
  | false=>rw [hb] at h;cases h
  | true=>
   rw [hb] at h;simp only [yA,yd] at h;subst h;have hz: -9223372036854775808<=z/\z<=9223372036854775807:=by
    cases z with
    | ofNat k=>have:=mi hb;show -9223372036854775808<=(k:Int)/\(k:Int)<=9223372036854775807;omega
    | negSucc k=>have:=mi hb;omega
   refine oX Iu (by rw [hf];exact fM) ?_
   intro w S args hg dN;obtain ⟨u,rfl,h1⟩:=Fb dN;subst h1;rw [hf];refine (hc z w hz.1 hz.2 hg).mono ?_;rintro e w' ⟨rfl,hw⟩;exact ⟨_,rfl,hw,fun S=>HT (arS z).symm⟩
 ·cases h
def anR (hf:O.af n=f) (fM:∀args w,(callFunc f args).run O.P w= .ok (.enter f args) w)
  (hc:∀(z:Nat) (w:yi),z<18446744073709551616->Bf O w->xV O.P f #[.int .u64 z,.int .i64 10] w fun e w'=>e= .returned (.string ⟨(Lib.decDigits z).toArray⟩)/\Calm w w'):
  ∀av r,AH av=some r->eD O n av r:=by
 intro av r h;unfold AH at h
 split at h
 ·rename_i z
  cases hb:yQ z 18446744073709551616 with
  | false=>rw [hb] at h;cases h
  | true=>
   rw [hb] at h;simp only [yA,yd] at h;subst h;refine oX Iu (by rw [hf];exact fM) ?_
   intro w S args hg dN;obtain ⟨u,v,rfl,h1,h2⟩:=Bj dN;subst h1;subst h2;rw [hf];refine (hc z w (mi hb) hg).mono ?_;rintro e w' ⟨rfl,hw⟩;exact ⟨_,rfl,hw,fun S=>HT (RX z).symm⟩
 ·cases h
def arW (hf:O.af n=f) (fM:∀args w,(callFunc f args).run O.P w= .ok (.enter f args) w)
  (hc:∀(s:ByteArray) (z:Int) (w:yi),s.size<=18->Lib.atoi s.data.toList=some z->xV O.P f #[.string s] w fun e w'=>e= .returned (.tuple #[.int .i64 z,.nilIface])/\Calm w w'):
  ∀av r,Jh av=some r->eD O n av r:=by
 intro av r h;unfold Jh at h
 split at h
 ·rename_i s
  cases hb:(yQ 0 s.length&&yF s.length 18) with
  | false=>rw [hb] at h;cases h
  | true=>
   rw [hb] at h;simp only [yA] at h;simp only [yg] at hb;have l1:=mi hb.1;have l2:=yy hb.2
   split at h
   ·rename_i z hz;simp only [yd] at h;subst h;refine oX (Ey (by simp [bg])) (by rw [hf];exact fM) ?_
    intro w S args hg dN;obtain ⟨u,rfl,h1⟩:=Fb dN;obtain ⟨t1,rfl,rfl⟩:=h1;rw [yr] at l1 l2;have ha:Lib.atoi t1.data.toList=some (z:Int):=arT hz l1;rw [hf];refine (hc t1 z w (by rw [Lib.size_eq];exact l2) ha).mono ?_
    simp only [ah,ay]
    grind
   ·cases h
 ·cases h
def ap4 (hf:O.af n=f) (fM:∀args w,(callFunc f args).run O.P w= .ok (.enter f args) w)
  (hc:∀(x y:Nat) (w:yi),x<18446744073709551616->y<18446744073709551616->xV O.P f #[.int .u64 x,.int .u64 y] w fun e w'=>e= .returned (.tuple #[.int .u64 ((x*y/18446744073709551616:Nat):Int),.int .u64 ((x*y%18446744073709551616:Nat):Int)])/\w'=w):
  ∀av r,rT av=some r->eD O n av r:=by
 intro av r h;unfold rT at h
 split at h
 ·rename_i x y
  cases hb:(yQ x 18446744073709551616&&yQ y 18446744073709551616) with
  | false=>rw [hb] at h;cases h
  | true=>
   rw [hb] at h;simp only [yA,yd] at h;subst h;simp only [yg] at hb;refine oX (Ey (by simp [bg])) (by rw [hf];exact fM) ?_
   intro w S args hg dN;obtain ⟨u,v,rfl,h1,h2⟩:=Bj dN;subst h1;subst h2;rw [hf];refine (hc x y w (mi hb.1) (mi hb.2)).mono ?_;rintro e w' ⟨rfl,rfl⟩;refine ⟨_,rfl,Calm.refl,fun S=>?_⟩;simp only [ah,ay]
   grind
 ·cases h
def ap5 (hf:O.af n=f) (fM:∀args w,(callFunc f args).run O.P w= .ok (.enter f args) w)
  (hc:∀(x:Int) (w:yi),0<=x->x<=18446744073709551615->xV O.P f #[.int .u64 x] w fun e w'=>e= .returned (.int .i64 (Lib.bitLen x.toNat:Nat))/\w'=w):
  ∀av r,IE av=some r->eD O n av r:=by
 intro av r h;unfold IE at h
 split at h
 ·rename_i x
  cases hb:yQ x 18446744073709551616 with
  | false=>rw [hb] at h;cases h
  | true=>
   rw [hb] at h;simp only [yA,yd] at h;subst h
   have:=mi hb
   refine oX Sm (by rw [hf];exact fM) ?_
   intro w S args hg dN;obtain ⟨u,rfl,h1⟩:=Fb dN;subst h1;rw [hf];refine (hc (yaU x) w (tF x) (by show (x:Int)<=_;omega)).mono ?_;rintro e w' ⟨rfl,rfl⟩;refine ⟨_,rfl,Calm.refl,fun S=>?_⟩;rw [RY];rfl
 ·cases h
def arX (hf:O.af n=f) (fM:∀args w,(callFunc f args).run O.P w= .ok (.enter f args) w)
  (hc:∀(x:Int) (w:yi),0<=x->x<=18446744073709551615->xV O.P f #[.int .u64 x] w fun e w'=>e= .returned (.int .i64 (64-(Lib.bitLen x.toNat:Nat)))/\w'=w):
  ∀av r,Fa av=some r->eD O n av r:=by
 intro av r h;unfold Fa at h
 split at h
 ·rename_i x
  cases hb:yQ x 18446744073709551616 with
  | false=>rw [hb] at h;cases h
  | true=>
   rw [hb] at h;simp only [yA,yd] at h;subst h
   have:=mi hb
   have hle:∀f x,Lib.bitLenAux f x<=f:=by
    intro f
    induction f with
    | zero=>intro x;exact yu _
    | succ f ih=>
     intro x;rw [Lib.bitLenAux]
     grind
   refine oX Sm (by rw [hf];exact fM) ?_
   intro w S args hg dN;obtain ⟨u,rfl,h1⟩:=Fb dN;subst h1;rw [hf];refine (hc (yaU x) w (tF x) (by show (x:Int)<=_;omega)).mono ?_;rintro e w' ⟨rfl,rfl⟩;refine ⟨_,rfl,Calm.refl,fun S=>?_⟩;simp only [ah,RY];show Value.int .i64 (64-(Lib.bitLenAux 64 x:Int))=Value.int .i64 ((64-Lib.bitLenAux 64 x:Nat):Int)
   grind
 ·cases h
def aoj (hf:O.af n=f) (hc:∀(b:Nat) (w:yi),(callFunc f #[.float .f64 b]).run O.P w= .ok (.value (.int .u64 b)) w):
  ∀av r,RW av=some r->eD O n av r:=by
 intro av r h;unfold RW at h
 split at h
 ·rename_i b;simp only [yd] at h;subst h;refine Mf Sm ?_;intro w S args dN;obtain ⟨u,rfl,h1⟩:=Fb dN;simp only [ah] at h1;subst h1;rw [hf];exact ⟨_,hc b w,fun S=>rfl⟩
 ·cases h
def anO (hf:O.af n=f) (hc:∀(b:Nat) (w:yi),(callFunc f #[.int .u64 b]).run O.P w= .ok (.value (.float .f64 b)) w):
  ∀av r,QK av=some r->eD O n av r:=by
 intro av r h;unfold QK at h
 split at h
 ·rename_i b;simp only [yd] at h;subst h;refine Mf atJ ?_;intro w S args dN;obtain ⟨u,rfl,h1⟩:=Fb dN;simp only [ah] at h1;subst h1;rw [hf];exact ⟨_,hc b w,fun S=>rfl⟩
 ·cases h
def ap6 (hf:O.af n=f)
  (hc:∀(x y c:Nat) (w:yi),c<=1->(callFunc f #[.int .u64 x,.int .u64 y,.int .u64 c]).run O.P w= .ok (.value (.tuple #[.int .u64 (((x+y+c)%18446744073709551616:Nat):Int),.int .u64 (((x+y+c)/18446744073709551616:Nat):Int)])) w):
  ∀av r,nV av=some r->eD O n av r:=by
 intro av r h;unfold nV at h
 split at h
 ·rename_i x y c
  cases hb:(yF c 1&&(yQ x 18446744073709551616&&yQ y 18446744073709551616)) with
  | false=>rw [hb] at h;cases h
  | true=>
   rw [hb] at h;simp only [yA,yd] at h;subst h;simp only [yg] at hb;refine Mf (Ey (by simp [bg])) ?_;intro w S args dN;obtain ⟨u,v,z,rfl,h1,h2,h3⟩:=ai5 dN;subst h1;subst h2;subst h3;rw [hf];refine ⟨_,hc x y c w (yy hb.1),fun S=>?_⟩;simp only [ah,ay]
   grind
 ·cases h
def ap7 (hf:O.af n=f)
  (hc:∀(x y b:Nat) (w:yi),b<=1->(callFunc f #[.int .u64 x,.int .u64 y,.int .u64 b]).run O.P w= .ok (.value (.tuple #[.int .u64 (((x+18446744073709551616-y-b)%18446744073709551616:Nat):Int),.int .u64 ((if x<y+b then 1 else 0:Nat):Int)])) w):
  ∀av r,A3 av=some r->eD O n av r:=by
 intro av r h;unfold A3 at h
 split at h
 ·rename_i x y c
  cases hb:(yF c 1&&(yQ x 18446744073709551616&&yQ y 18446744073709551616)) with
  | false=>rw [hb] at h;cases h
  | true=>
   rw [hb] at h;simp only [yA,yd] at h;subst h;simp only [yg] at hb;have ew:=yy hb.1;have hy:=mi hb.2.2;refine Mf (Ey (by simp [bg])) ?_;intro w S args dN;obtain ⟨u,v,z,rfl,h1,h2,h3⟩:=ai5 dN;subst h1;subst h2;subst h3;rw [hf];refine ⟨_,hc x y c w ew,fun S=>?_⟩;simp only [ah,ay];refine ⟨_,rfl,_,_,rfl,?_,_,_,rfl,?_,rfl⟩
   ·grind
   ·congr 1
    by_cases h:x<y+c
    ·have:yF (y+c) x=false:=by
      cases hq:yF (y+c) x with
      | false=>rfl
      | true=>have:=yy hq;omega
     grind
    ·rw [ym (by omega),yx h];rfl
 ·cases h
end
end
end
end VE
