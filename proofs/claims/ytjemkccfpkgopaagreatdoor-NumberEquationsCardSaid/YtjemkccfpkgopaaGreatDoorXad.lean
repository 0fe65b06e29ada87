import Derived.Lib.Index
import Derived.Lib.ItoaNum
import Derived.Lib.Atoi
import Derived.Lib.BitFns
import Derived.Lib.Repeat
import Derived.Lib.SlTrimSet
import Derived.Shelf.Strings.Cut
import Derived.Shelf.Strings.Prefix
import Derived.Shelf.Small.Bits
import Derived.RowKit
import Derived.Test.YtjemkccfpkgopaaGreatDoorXaa
import Derived.Test.YtjemkccfpkgopaaGreatDoorXac
set_option linter.all false
set_option maxRecDepth 100000
open Array renaming replicate→uP
open Bool renaming and_eq_true→ye,false_eq_true→yN
open Go renaming Calls→xV,Func→ybd,FuncId→tU,LeavesInM→ybE,ResultVar→ybC,Value→yg,World→yi
open Int renaming natCast_nonneg→tB,ofNat→yaK
open List renaming length_map→yt,mapM_cons→ue,map_append→xu,map_cons→xc,map_reverse→tK
open Nat renaming beq→yu,ble→yE,ble_eq_true_of_le→yo,blt→yR,eq_of_beq_eq_true→yj,le_of_ble_eq_true→yv,le_refl→yr,le_trans→xi
open Option.some renaming injEq→yd
open Prod.mk renaming injEq→yk
open UInt8 renaming ofNat→ybe,toNat→xb,toNat_ofNat'→yah
namespace VE
section
def Le (f g:cA):Prop:=∀c s r,f c s=some r->g c s=some r
section
variable {P:aI} {L:Lib} {f g:cA}
def Qc (h:Le f g) (n:Nat) (av:List AV) (r:AV) (hr:bO P L f n av=some r):bO P L g n av=some r:=by
 unfold bO at hr ⊢
 cases hL:L.pure n with
 | some sp=>simpa only [hL] using hr
 | none=>
  simp only [hL] at hr ⊢
  cases hP:P n with
  | none=>simp [hP] at hr
  | some F=>
   simp only [hP] at hr ⊢
   cases hf:f F.body ⟨eh 0 av,[],0,0⟩ with
   | none=>simp [hf] at hr
   | some q=>rw [h _ _ _ hf];simpa only [hf] using hr
def Ql (h:Le f g) (hp:Hp) (ct:Nat) (n:Nat) (av:List AV) (r:AV×Hp×Nat) (hr:iL P L f hp ct n av=some r):iL P L g hp ct n av=some r:=by
 unfold iL at hr ⊢
 cases hL:L.heap n with
 | some sp=>simpa only [hL] using hr
 | none=>
  simp only [hL] at hr ⊢
  cases hP:P n with
  | none=>simp [hP] at hr
  | some F=>
   simp only [hP] at hr ⊢
   cases hf:f F.body ⟨eh 0 av,hp,ct,ct⟩ with
   | none=>simp [hf] at hr
   | some q=>rw [h _ _ _ hf];simpa only [hf] using hr
def aaq (h:Le f g) (hp:Hp) (ct:Nat) (l:Nat) (xs:List AV) (r:AV×Hp×Nat) (hr:nJ f hp ct l xs=some r):nJ g hp ct l xs=some r:=by
 unfold nJ at hr ⊢
 cases hl:aq hp l with
 | none=>simp [hl] at hr
 | some o=>
  simp only [hl] at hr ⊢
  split at hr
  ·rename_i tm ps cK body pe mP;simp only [yd] at mP;subst mP
   (try simp only at hr ⊢)
   cases hb:rF tm ps xs with
   | none=>simp [hb] at hr
   | some tm'=>
    simp only [hb] at hr ⊢
    cases h1:f cK ⟨tm',hp,ct,ct⟩ with
    | none=>simp [h1] at hr
    | some q=>
     rw [h _ _ _ h1];simp only [h1] at hr ⊢
     split at hr
     ·rename_i s1 Ti;simp only [yd] at Ti;subst Ti
      (try simp only at hr ⊢)
      split at hr
      ·rename_i jK Dm BF CS zZ ajq
       (try simp only [ajq])
       cases h2:f body ⟨s1.tm,bc s1.hp l (.lp jK Dm BF CS 1 zZ),s1.ct,s1.ct⟩ with
       | none=>simp [h2] at hr
       | some q2=>rw [h _ _ _ h2];simpa only [h2] using hr
      ·simp at hr
     ·simp at hr
  ·simp at hr
def aaB (h:Le f g) (hp:Hp) (ct:Nat) (m:Md) (fv:AV) (xs:List AV) (r:AV×Hp×Nat) (hr:eJ P L f hp ct m fv xs=some r):eJ P L g hp ct m fv xs=some r:=by
 unfold eJ at hr ⊢
 split at hr
 ·rename_i n first cap
  cases m with
  | pure=>
   simp only at hr ⊢
   cases hz:cI deep hp (first++(xs++cap)) with
   | none=>simp [hz] at hr
   | some q=>
    simp only [hz] at hr ⊢
    cases hc:bO P L f n q.1 with
    | none=>simp [hc] at hr
    | some u=>rw [Qc h n q.1 u hc];simpa only [hc] using hr
  | own=>
   simp only at hr ⊢
   cases hz:cI deep hp (first++(xs++cap)) with
   | none=>simp [hz] at hr
   | some q=>
    simp only [hz] at hr ⊢
    cases hc:bO P L f n q.1 with
    | none=>simp [hc] at hr
    | some u=>rw [Qc h n q.1 u hc];simpa only [hc] using hr
  | heap=>exact Ql h _ _ _ _ _ hr
  | dyn=>
   simp only at hr ⊢
   cases hz:aG (first++(xs++cap)) with
   | true=>
    simp only [hz,yA] at hr ⊢
    cases hc:bO P L f n (first++(xs++cap)) with
    | none=>simp [hc] at hr
    | some u=>rw [Qc h n _ u hc];simpa only [hc] using hr
   | false=>
    simp only [hz,yS] at hr ⊢;exact Ql h _ _ _ _ _ hr
 ·split at hr
  ·exact aaq h _ _ _ _ _ hr
  ·exact aaq h _ _ _ _ _ hr
  ·simp at hr
 ·simp at hr
def abR (h:Le f g) (tm:Env) (hp:Hp) (ct:Nat) (o:Op) (r:AV×Hp×Nat) (hr:bf P L f tm hp ct o=some r):bf P L g tm hp ct o=some r:=by
 unfold bf at hr ⊢
 split at hr
 ·exact aaB h _ _ _ _ _ _ hr
 ·rename_i rs fv xs
  (try simp only at hr ⊢)
  cases hc:eJ P L f hp ct .dyn (aD tm fv) (dw tm xs) with
  | none=>simp [hc] at hr
  | some q=>rw [aaB h _ _ _ _ _ _ hc];simpa only [hc] using hr
 all_goals simpa only using hr
def Lz (h:Le f g):∀(ops:List a8) (s s':St),dC P L f ops s=some s'->dC P L g ops s=some s'
 | [],s,s',hr=>by simpa only [dC] using hr
 | ⟨d,gd,o⟩::r,s,s',hr=>by
  simp only [dC] at hr ⊢
  split at hr
  ·rename_i hw
   try simp only [hw]
   cases ho:bf P L f s.tm s.hp s.ct o with
   | none=>simp [ho] at hr
   | some q=>rw [abR h _ _ _ _ _ ho];simp only [ho] at hr ⊢;exact Lz h r _ _ hr
  ·rename_i hw
   (try simp only [hw]);exact Lz h r _ _ hr
  ·simp at hr
def p7 (h:Le f g):∀(c:VC) (s:St) (r:Ex×St),bM P L f c s=some r->bM P L g c s=some r
 | .skip,s,r,hr=>by simpa only [bM] using hr
 | .aM ops,s,r,hr=>by
  simp only [bM] at hr ⊢
  cases ho:dC P L f ops s with
  | none=>simp [ho] at hr
  | some s'=>rw [Lz h _ _ _ ho];simpa only [ho] using hr
 | .seq a b,s,r,hr=>by
  simp only [bM] at hr ⊢
  cases ha:bM P L f a s with
  | none=>simp [ha] at hr
  | some q=>
   rw [p7 h a s q ha];obtain ⟨ex,s1⟩:=q
   cases ex with
   | normal=>simp only [ha] at hr ⊢;exact p7 h b s1 r hr
   | ret=>simpa only [ha] using hr
   | exit id=>simpa only [ha] using hr
 | .cond x a b,s,r,hr=>by
  simp only [bM] at hr ⊢
  split at hr
  ·rename_i t ht
   try simp only [ht]
   cases t with
   | true=>simp only [yA] at hr ⊢;exact p7 h a s r hr
   | false=>simp only [yS] at hr ⊢;exact p7 h b s r hr
  ·simp at hr
 | .aF id a,s,r,hr=>by
  simp only [bM] at hr ⊢
  cases ha:bM P L f a s with
  | none=>simp [ha] at hr
  | some q=>rw [p7 h a s q ha];simpa only [ha] using hr
 | .kp live,s,r,hr=>by simpa only [bM] using hr
 | .fz ts,s,r,hr=>by simpa only [bM] using hr
 | .loop live a,s,r,hr=>by
  simp only [bM] at hr ⊢
  cases ha:bM P L f a (aS live s) with
  | none=>simp [ha] at hr
  | some q=>
   rw [p7 h a _ q ha];obtain ⟨ex,s1⟩:=q
   cases ex with
   | normal=>simp only [ha] at hr ⊢;exact h _ _ _ hr
   | ret=>simpa only [ha] using hr
   | exit id=>simpa only [ha] using hr
 | .rf fv ps cK body,s,r,hr=>by
  simp only [bM] at hr ⊢
  split at hr
  ·rename_i n first cap hx
   try simp only [hx]
   split at hr
   ·simp at hr
   ·rename_i hL
    try simp only [hL]
    cases hc:iL P L f ((s.ct,.lp s.tm ps cK body 0 .none)::s.hp) (s.ct+1) n (first++(.fn (.y s.ct) [] []::cap)) with
    | none=>simp [hc] at hr
    | some q=>rw [Ql h _ _ _ _ _ hc];simpa only [hc] using hr
  ·simp at hr
 | .exit id,s,r,hr=>by simpa only [bM] using hr
 | .ret,s,r,hr=>by simpa only [bM] using hr
end
def Ic (P:aI) (L:Lib) (c:VC) (s:St):ev P L 0 c s=none:=rfl
def Ie (P:aI) (L:Lib) (n:Nat):ev P L (n+1)=bM P L (ev P L n):=rfl
def aiy (P:aI) (L:Lib):∀n,Le (ev P L n) (ev P L (n+1))
 | 0=>fun c s r h=>by rw [Ic] at h;cases h
 | n+1=>fun c s r h=>by
  rw [Ie] at h ⊢;exact p7 (aiy P L n) c s r h
def RQ (P:aI) (L:Lib) {n m:Nat} (h:n<=m):Le (ev P L n) (ev P L m):=by
 induction h with
 | refl=>exact fun _ _ _ h=>h
 | step _ ih=>exact fun c s r hr=>aiy P L _ c s r (ih c s r hr)
end
section
open Go
section
variable {O:bk} {self:cA}
def eE.none {m:Mp} {S:Nat->Prop} {w:yi} {s s':St} {ex:Ex} {n lo:Nat} {a:Act} {w':yi} (l:Nat):¬eE O m S w s ex s' n lo (.goto l) a w':=by
 rintro ⟨h,_⟩;cases ex<;>cases h
def eE.then {m m1:Mp} {S S1:Nat->Prop} {w w1:yi} {s s1 s2:St} {ex:Ex} {n lo:Nat} {a':Act} {w':yi} {e:Exit} {ex1:Ex} (h1:s1.base=s.base)
  (hf:ck m S w s.hp m1 S1 w1 s1.hp s.base) (h:eE O m1 S1 w1 s1 ex s2 n lo e a' w'):eE O m S w s ex s2 n lo e a' w':=by
 obtain ⟨h2,m',S',k1,k2,k3,k4,k5,k6,k7⟩:=h;rw [h1] at k3 k4 k5;exact ⟨h2,m',S',k1,k2,k3,k4,hf.trans k5,k6,k7⟩
def eE.da {m:Mp} {S:Nat->Prop} {w:yi} {s s1:St} {n lo:Nat} {a':Act} {w':yi} {e:Exit} {ex:Ex} (live:List Nat) (h:eE O m S w s ex s1 n lo e a' w'):eE O m S w s ex (aS live s1) n lo e a' w':=by
 obtain ⟨h2,m',S',k1,k2,k3,k4,k5,k6,k7⟩:=h;obtain ⟨m2,g1,g2,g3,g4,g5⟩:=Qu (live:=live) k1 k2 (by rw [k3];exact k4)
 rw [k3] at g3 g4 g5;exact ⟨h2,m2,S',g1,g2,g3,g4,k5.trans g5,k6,AA k2 g5 k7⟩
def aiz {m:Mp} {w:yi} {tmps:Array yg}:∀{ts:List Nat} {s s1:St} {S:Nat->Prop},b9 O m S w s.tm tmps->aU O m S w s.hp s.ct->pk ts s=some s1->
  ∃S1,b9 O m S1 w s1.tm tmps/\aU O m S1 w s1.hp s1.ct/\s1.base=s.base/\s1.ct=s.ct/\∀base,ck m S w s.hp m S1 w s1.hp base
 | [],s,s1,S,ht,hh,h=>by
  simp only [pk,yd] at h;subst h;exact ⟨S,ht,hh,rfl,rfl,fun _=>ck.refl⟩
 | t::r,s,s1,S,ht,hh,h=>by
  simp only [pk] at h
  cases hz:freeze deep s.hp (ai s.tm t) with
  | none=>simp [hz] at h
  | some q=>
   obtain ⟨v,hp⟩:=q;simp only [hz] at h;obtain ⟨h1,h2,h3⟩:=QI (O:=O) hz;have hg:iw s.hp s.ct hp s.ct:=⟨h1,yr _,fun id o ho=>(by
     have:=h2 id
     rw [ho] at this
     cases hq:aq s.hp id with
     | none=>rw [hq] at this;simp at this
     | some o'=>exact hh.aX id o' hq),fun id o ho _=>(by
     have:=h2 id
     rw [ho] at this
     cases hq:aq s.hp id with
     | none=>rw [hq] at this;simp at this
     | some o'=>exact ⟨o',rfl⟩)⟩
   obtain ⟨S',k1,k2,k3,k4⟩:=L9 hh hg;have Ac:b9 O m S' w ((t,v)::s.tm) tmps:=by
    intro i;simp only [ai]
    cases hb:yu t i with
    | true=>
     have:=yj hb
     subst this;exact (h3 hp m S' w s.ct cU.refl k1).1 _ (lz (fun _ _ h=>h) k2 (fun _ _=>rfl) _ _ (ht t))
    | false=>
     exact lz (fun _ _ h=>h) k2 (fun _ _=>rfl) _ _ (ht i)
   obtain ⟨S1,g1,g2,g3,g4,g5⟩:=aiz (s:={s with tm:=(t,v)::s.tm,hp:=hp}) Ac k1 h;exact ⟨S1,g1,g2,g3,g4,fun base=>(k4 base).trans (g5 base)⟩
def adX (hO:eD O) (n:Nat) (hC:∀k,k<=n->nK O (ev O.prog O.aE k)) (h:Nat):∀(c:Code) (l k:Nat) (j:Nat),j<=n->∀(s:St) (ex:Ex) (s':St),
  bM O.prog O.aE (ev O.prog O.aE j) (comp O.P (O.hint h) c l k).1 s=some (ex,s')->A5 O h c s ex s':=by
 have refl:∀{s:St} {ex:Ex} {m:Mp} {S:Nat->Prop} {w:yi} {a:Act} {lo:Nat},b9 O m S w s.tm a.tmps->aU O m S w s.hp s.ct->s.base<=s.ct->Marks lo S w a.defers->eE O m S w s ex s a.tmps.size lo (qG ex) a w:=
  fun h1 h2 h3 h4=>⟨rfl,_,_,h1,h2,rfl,h3,ck.refl,rfl,h4⟩
 have Tj:∀{self:cA} {s:St} {r:Ex×St},bM O.prog O.aE self (.aM [⟨none,none,bad⟩]) s=some r->False:=by
  intro self s r hv;simp [bM,dC,bad,bf,eJ,aD] at hv
 intro c
 induction c with
 | skip=>
  intro l k j hj s ex s' hv ro lo m S w a cB ht hh hb hn bi eZ cL;simp only [comp,bM,yd,yk] at hv;obtain ⟨rfl,rfl⟩:=hv;exact wpIn_skip (refl ht hh hb cL)
 | label x=>
  intro l k j hj s ex s' hv ro lo m S w a cB ht hh hb hn bi eZ cL;simp only [comp,bM,yd,yk] at hv;obtain ⟨rfl,rfl⟩:=hv;exact wpIn_label (refl ht hh hb cL)
 | exit id=>
  intro l k j hj s ex s' hv ro lo m S w a cB ht hh hb hn bi eZ cL;simp only [comp,bM,yd,yk] at hv;obtain ⟨rfl,rfl⟩:=hv
  exact wpIn_exit (refl (ex:= .exit id) ht hh hb cL)
 | ret=>
  intro l k j hj s ex s' hv ro lo m S w a cB ht hh hb hn bi eZ cL;simp only [comp,bM,yd,yk] at hv;obtain ⟨rfl,rfl⟩:=hv
  exact wpIn_ret (refl (ex:= .ret) ht hh hb cL)
 | goto x=>intro l k j hj s ex s' hv;exact (Tj (by simpa only [comp] using hv)).elim
 | refuse x=>intro l k j hj s ex s' hv;exact (Tj (by simpa only [comp] using hv)).elim
 | region id ops d=>
  intro l k j hj s ex s' hv;simp only [comp] at hv;generalize hq:Mq O.P (O.hint h) ops d k=q at hv;obtain ⟨r,k'⟩:=q;have main:∀{s s':St} {ex:Ex},bM O.prog O.aE (ev O.prog O.aE j) (.aM r) s=some (ex,s')->A5 O h (.region id ops d) s ex s':=by
   intro s s' ex hv;simp only [bM] at hv
   cases ho:dC O.prog O.aE (ev O.prog O.aE j) r s with
   | none=>simp [ho] at hv
   | some s1=>
    simp only [ho,yd,yk] at hv;obtain ⟨rfl,rfl⟩:=hv;exact avw hO (hC j hj) h id ops d k (by rw [hq];exact ho)
  simp only at hv
  split at hv
  ·exact main hv
  ·rename_i t ts _;simp only [bM] at hv
   cases hf:pk (t::ts) s with
   | none=>simp [hf] at hv
   | some s1=>
    simp only [hf] at hv;intro ro lo m S w a cB ht hh hb hn bi eZ cL;obtain ⟨S1,g1,g2,g3,g4,g5⟩:=aiz ht hh hf;have h1:=main (s:=s1) (by simpa only [bM] using hv) ro lo m S1 w a cB g1 g2 (by rw [g3,g4];exact hb) hn bi eZ (AA hh (g5 s.base) cL)
    refine wpIn_mono h1 (fun e a' w' hp=>?_)
    exact eE.then (ex1:= .normal) g3 (g5 s.base) hp
 | seq x y ihx ihy=>
  intro l k j hj s ex s' hv ro lo m S w a cB ht hh hb hn bi eZ cL;simp only [comp] at hv;generalize sB:comp O.P (O.hint h) x l k=qx at hv;obtain ⟨x',l1,k1⟩:=qx;simp only at hv;generalize KG:comp O.P (O.hint h) y l1 k1=qy at hv;obtain ⟨y',l2,k2⟩:=qy;simp only [bM] at hv
  cases hx:bM O.prog O.aE (ev O.prog O.aE j) x' s with
  | none=>simp [hx] at hv
  | some r=>
   obtain ⟨ex1,s1⟩:=r;have h1:=ihx l k j hj s ex1 s1 (by rw [sB];exact hx) ro lo m S w a cB ht hh hb hn bi eZ cL
   refine wpIn_seq (wpIn_mono h1 ?_);rintro e a1 w1 ⟨rfl,m1,S1,g1,g2,g3,g4,g5,g6,g7⟩;have stop:ex1≠.normal->ex=ex1/\s'=s1:=by
    intro dc;rw [hx] at hv
    cases ex1 with
    | normal=>exact absurd rfl dc
    | ret=>simp only [yd,yk] at hv;exact ⟨hv.1.symm,hv.2.symm⟩
    | exit id=>simp only [yd,yk] at hv;exact ⟨hv.1.symm,hv.2.symm⟩
   cases ex1 with
   | normal=>
    simp only [hx] at hv;simp only [qG,Exit.then];have h2:=ihy l1 k1 j hj s1 ex s' (by rw [KG];exact hv) ro lo m1 S1 w1 a1 (LR g5 cB) g1 g2 (by rw [g3];exact g4) (by rw [g6];exact hn) bi (xi eZ g5.size) g7
    rw [g6] at h2
    exact wpIn_mono h2 (fun e a' w' hp=>eE.then (ex1:= .normal) g3 g5 hp)
   | ret=>
    obtain ⟨rfl,rfl⟩:=stop (by simp);exact ⟨rfl,m1,S1,g1,g2,g3,g4,g5,g6,g7⟩
   | exit id=>
    obtain ⟨rfl,rfl⟩:=stop (by simp);exact ⟨rfl,m1,S1,g1,g2,g3,g4,g5,g6,g7⟩
 | cond x p q ihp ihq=>
  intro l k j hj s ex s' hv ro lo m S w a cB ht hh hb hn bi eZ cL;simp only [comp] at hv;generalize sB:comp O.P (O.hint h) p (l+1) k=qx at hv;obtain ⟨p',l1,k1⟩:=qx;simp only at hv;generalize KG:comp O.P (O.hint h) q l1 k1=qy at hv;obtain ⟨q',l2,k2⟩:=qy;simp only at hv;have main:∀(ex:Ex) (s':St),bM O.prog O.aE (ev O.prog O.aE j) (.cond (aK (O.hint h) x) p' q') s=some (ex,s')->(Code.cond x p q).wpIn (WF ro) 0 O.P (eE O m S w s ex s' a.tmps.size lo) a w:=by
   intro ex s' hv;simp only [bM] at hv;have rx:=cz (hO.hint h) ht x
   split at hv
   ·rename_i t hx;rw [hx] at rx;simp only [ah] at rx
    cases t with
    | true=>
     simp only [yA] at hv;exact wpIn_cond_true rx (ihp (l+1) k j hj s ex s' (by rw [sB];exact hv) ro lo m S w a cB ht hh hb hn bi eZ cL)
    | false=>
     simp only [yS] at hv;exact wpIn_cond_false rx (ihq l1 k1 j hj s ex s' (by rw [KG];exact hv) ro lo m S w a cB ht hh hb hn bi eZ cL)
   ·cases hv
  cases E5:(O.hint h).out l with
  | none=>rw [E5] at hv;exact main ex s' hv
  | some live=>
   rw [E5] at hv;simp only at hv;rw [show bM O.prog O.aE (ev O.prog O.aE j) (.seq (.cond (aK (O.hint h) x) p' q') (.kp live)) s=match bM O.prog O.aE (ev O.prog O.aE j) (.cond (aK (O.hint h) x) p' q') s with | some (.normal,s1)=>some (.normal,aS live s1) | r=>r from rfl] at hv
   cases hx:bM O.prog O.aE (ev O.prog O.aE j) (.cond (aK (O.hint h) x) p' q') s with
   | none=>simp [hx] at hv
   | some r=>
    obtain ⟨ex1,s1⟩:=r;have h1:=main ex1 s1 hx;rw [hx] at hv
    cases ex1 with
    | normal=>
     simp only [yd,yk] at hv;obtain ⟨rfl,rfl⟩:=hv;exact wpIn_mono h1 (fun e a' w' hp=>eE.da live hp)
    | ret=>simp only [yd,yk] at hv;obtain ⟨rfl,rfl⟩:=hv;exact h1
    | exit id=>simp only [yd,yk] at hv;obtain ⟨rfl,rfl⟩:=hv;exact h1
 | block id x ih=>
  intro l k j hj s ex s' hv ro lo m S w a cB ht hh hb hn bi eZ cL;simp only [comp] at hv;generalize sB:comp O.P (O.hint h) x l k=qx at hv;obtain ⟨x',r⟩:=qx;simp only at hv;have main:∀(ex:Ex) (s':St),bM O.prog O.aE (ev O.prog O.aE j) (.aF id x') s=some (ex,s')->(Code.block id x).wpIn (WF ro) 0 O.P (eE O m S w s ex s' a.tmps.size lo) a w:=by
   intro ex s' hv;simp only [bM] at hv
   cases hx:bM O.prog O.aE (ev O.prog O.aE j) x' s with
   | none=>simp [hx] at hv
   | some q=>
    obtain ⟨ex1,s1⟩:=q;have h1:=ih l k j hj s ex1 s1 (by rw [sB];exact hx) ro lo m S w a cB ht hh hb hn bi eZ cL
    refine wpIn_block (wpIn_mono h1 ?_);rintro e a1 w1 ⟨rfl,g⟩
    cases ex1 with
    | normal=>
     simp only [hx,yd,yk] at hv;obtain ⟨rfl,rfl⟩:=hv;exact ⟨rfl,g⟩
    | ret=>
     simp only [hx,yd,yk] at hv;obtain ⟨rfl,rfl⟩:=hv;exact ⟨rfl,g⟩
    | exit i=>
     simp only [hx] at hv
     cases Pt:yu i id with
     | true=>
      rw [Pt] at hv;simp only [yA,yd,yk] at hv;obtain ⟨rfl,rfl⟩:=hv
      have:=yj Pt
      subst this;simp only [qG,Exit.inBlock,xC];exact ⟨rfl,g⟩
     | false=>
      rw [Pt] at hv;simp only [yS,yd,yk] at hv;obtain ⟨rfl,rfl⟩:=hv;have dc:i≠id:=fun e=>by subst e;simp at Pt
      simp only [qG,Exit.inBlock,dc,xf];exact ⟨rfl,g⟩
  have azf:∀live:List Nat,bM O.prog O.aE (ev O.prog O.aE j) (.seq (.aF id x') (.kp live)) s=some (ex,s')->(Code.block id x).wpIn (WF ro) 0 O.P (eE O m S w s ex s' a.tmps.size lo) a w:=by
   intro live hv;rw [show bM O.prog O.aE (ev O.prog O.aE j) (.seq (.aF id x') (.kp live)) s=match bM O.prog O.aE (ev O.prog O.aE j) (.aF id x') s with | some (.normal,s1)=>some (.normal,aS live s1) | r=>r from rfl] at hv
   cases hx:bM O.prog O.aE (ev O.prog O.aE j) (.aF id x') s with
   | none=>simp [hx] at hv
   | some r=>
    obtain ⟨ex1,s1⟩:=r;have h1:=main ex1 s1 hx;rw [hx] at hv
    cases ex1 with
    | normal=>
     simp only [yd,yk] at hv;obtain ⟨rfl,rfl⟩:=hv;exact wpIn_mono h1 (fun e a' w' hp=>eE.da live hp)
    | ret=>simp only [yd,yk] at hv;obtain ⟨rfl,rfl⟩:=hv;exact h1
    | exit id=>simp only [yd,yk] at hv;obtain ⟨rfl,rfl⟩:=hv;exact h1
  split at hv
  ·exact azf _ hv
  ·exact main ex s' hv
 | loop x ih=>
  intro l k j hj s ex s' hv;simp only [comp] at hv;generalize sB:comp O.P (O.hint h) x (l+1) k=qx at hv;obtain ⟨x',r⟩:=qx;simp only at hv;have rounds:∀(j:Nat),j<=n->∀(s:St) (ex:Ex) (s':St),bM O.prog O.aE (ev O.prog O.aE j) (.loop ((O.hint h).live l) x') s=some (ex,s')->∃K,∀(ro:Option Nat) (lo:Nat) (m:Mp) (S:Nat->Prop) (w:yi) (a:Act),zj ro w->b9 O m S w s.tm a.tmps->aU O m S w s.hp s.ct->s.base<=s.ct->(O.hint h).n<=a.tmps.size->O.w0.heap.size<=lo->lo<=w.heap.size->Marks lo S w a.defers->
    Code.roundsIn (WF ro) 0 O.P x (eE O m S w s ex s' a.tmps.size lo) K a w:=by
   intro j
   induction j with
   | zero=>
    intro hj s ex s' hv;simp only [bM] at hv
    cases hx:bM O.prog O.aE (ev O.prog O.aE 0) x' (aS ((O.hint h).live l) s) with
    | none=>simp [hx] at hv
    | some q=>
     obtain ⟨ex1,s1⟩:=q;have stop:ex1≠.normal->ex=ex1/\s'=s1:=by
      intro dc;rw [hx] at hv
      cases ex1 with
      | normal=>exact absurd rfl dc
      | ret=>simp only [yd,yk] at hv;exact ⟨hv.1.symm,hv.2.symm⟩
      | exit id=>simp only [yd,yk] at hv;exact ⟨hv.1.symm,hv.2.symm⟩
     refine ⟨1,fun ro lo m S w a cB ht hh hb hn bi eZ cL=>?_⟩;rw [roundsIn_succ];obtain ⟨m1,c1,c2,c3,c4,c5⟩:=Qu (live:=(O.hint h).live l) ht hh hb;have h1:=ih (l+1) k 0 hj _ ex1 s1 (by rw [sB];exact hx) ro lo m1 S w a cB c1 c2 (by rw [c3];exact c4) hn bi eZ cL
     refine wpIn_mono h1 ?_;rintro e a1 w1 hp;have ap:=eE.then (O:=O) (m:=m) (S:=S) (w:=w) (s:=s) (ex1:= .normal) c3 c5 hp;obtain ⟨rfl,_⟩:=hp
     cases ex1 with
     | normal=>simp only [hx,Ic] at hv;cases hv
     | ret=>obtain ⟨rfl,rfl⟩:=stop (by simp);exact ap
     | exit id=>obtain ⟨rfl,rfl⟩:=stop (by simp);exact ap
   | succ j ihj=>
    intro hj s ex s' hv;simp only [bM] at hv
    cases hx:bM O.prog O.aE (ev O.prog O.aE (j+1)) x' (aS ((O.hint h).live l) s) with
    | none=>simp [hx] at hv
    | some q=>
     obtain ⟨ex1,s1⟩:=q;have stop:ex1≠.normal->ex=ex1/\s'=s1:=by
      intro dc;rw [hx] at hv
      cases ex1 with
      | normal=>exact absurd rfl dc
      | ret=>simp only [yd,yk] at hv;exact ⟨hv.1.symm,hv.2.symm⟩
      | exit id=>simp only [yd,yk] at hv;exact ⟨hv.1.symm,hv.2.symm⟩
     have more:∃K,ex1= .normal->∀(ro:Option Nat) (lo:Nat) (m:Mp) (S:Nat->Prop) (w:yi) (a:Act),zj ro w->b9 O m S w s1.tm a.tmps->aU O m S w s1.hp s1.ct->s1.base<=s1.ct->(O.hint h).n<=a.tmps.size->O.w0.heap.size<=lo->lo<=w.heap.size->Marks lo S w a.defers->
       Code.roundsIn (WF ro) 0 O.P x (eE O m S w s1 ex s' a.tmps.size lo) K a w:=by
      cases ex1 with
      | normal=>
       rw [hx] at hv;have eA:ev O.prog O.aE (j+1) (.loop ((O.hint h).live l) x') s1=some (ex,s'):=hv;rw [Ie] at eA;obtain ⟨K,hK⟩:=ihj (by omega) s1 ex s' eA;exact ⟨K,fun _=>hK⟩
      | ret=>exact ⟨0,fun h=>by cases h⟩
      | exit id=>exact ⟨0,fun h=>by cases h⟩
     obtain ⟨K,hK⟩:=more;refine ⟨K+1,fun ro lo m S w a cB ht hh hb hn bi eZ cL=>?_⟩;rw [roundsIn_succ];obtain ⟨m1,c1,c2,c3,c4,c5⟩:=Qu (live:=(O.hint h).live l) ht hh hb;have h1:=ih (l+1) k (j+1) hj _ ex1 s1 (by rw [sB];exact hx) ro lo m1 S w a cB c1 c2 (by rw [c3];exact c4) hn bi eZ cL
     refine wpIn_mono h1 ?_;rintro e a1 w1 hp;have ap:=eE.then (O:=O) (m:=m) (S:=S) (w:=w) (s:=s) (ex1:= .normal) c3 c5 hp;obtain ⟨rfl,_⟩:=hp
     cases ex1 with
     | normal=>
      simp only [qG,Exit.then];obtain ⟨_,m2,S2,g1,g2,g3,g4,g5,g6,g7⟩:=ap;have h2:=hK rfl ro lo m2 S2 w1 a1 (LR g5 cB) g1 g2 (by rw [g3];exact g4) (by rw [g6];exact hn) bi (xi eZ g5.size) g7
      rw [g6] at h2;revert h2;generalize hA:a.tmps.size=sz;intro h2;have step:∀(K:Nat) (a':Act) (w':yi),Code.roundsIn (WF ro) 0 O.P x (eE O m2 S2 w1 s1 ex s' sz lo) K a' w'->Code.roundsIn (WF ro) 0 O.P x (eE O m S w s ex s' sz lo) K a' w':=by
       intro K
       induction K with
       | zero=>intro a' w' BM;exact BM
       | succ K ihK=>
        intro a' w' BM;rw [roundsIn_succ] at BM ⊢;refine wpIn_mono BM (fun e a'' Ph hq=>?_)
        cases e with
        | normal=>exact ihK a'' Ph hq
        | exit id=>exact eE.then (ex1:= .normal) g3 g5 hq
        | goto x=>exact eE.then (ex1:= .normal) g3 g5 hq
        | ret=>exact eE.then (ex1:= .normal) g3 g5 hq
        | panic x=>exact eE.then (ex1:= .normal) g3 g5 hq
        | outgrown=>exact eE.then (ex1:= .normal) g3 g5 hq
      exact step K a1 w1 h2
     | ret=>obtain ⟨rfl,rfl⟩:=stop (by simp);exact ap
     | exit id=>obtain ⟨rfl,rfl⟩:=stop (by simp);exact ap
  obtain ⟨K,hK⟩:=rounds j hj s ex s' hv;intro ro lo m S w a cB ht hh hb hn bi eZ cL;exact wpIn_loop_rounds K (hK ro lo m S w a cB ht hh hb hn bi eZ cL)
 | scope x ih=>
  intro l k j hj s ex s' hv ro lo m S w a cB ht hh hb hn bi eZ cL;simp only [comp] at hv;exact aor (ih l k j hj s ex s' hv ro lo m S w a cB ht hh hb hn bi eZ cL) (fun l a w=>eE.none l)
 | rangeFunc f ps cK body iha ihb=>
  intro l k j hj s ex s' hv;simp only [comp] at hv;generalize sB:comp O.P (O.hint h) cK l k=qx at hv;obtain ⟨x',l1,k1⟩:=qx;simp only at hv;generalize KG:comp O.P (O.hint h) body l1 k1=qy at hv;obtain ⟨y',l2,k2⟩:=qy;simp only at hv
  cases ha:zp (O.hint h).n ps.toList with
  | false=>rw [ha] at hv;exact (Tj hv).elim
  | true=>
   rw [ha] at hv;exact aze hO (hC j hj) ⟨l,k,by rw [sB]⟩ ⟨l1,k1,by rw [KG]⟩ ha hv
end
end
section
open Go
section
variable {O:bk} {m:Mp} {S:Nat->Prop} {w:yi}
def abS:∀(av:List AV) (j i:Nat),ai (eh j av) (j+i)=av.getD i .undef
 | [],j,i=>by simp [eh,ai]
 | v::r,j,i=>by
  cases i with
  | zero=>simp [eh,ai]
  | succ i=>
   simp only [eh,ai];have hb:yu j (j+(i+1))=false:=by
    cases hq:yu j (j+(i+1)) with
    | false=>rfl
    | true=>have:=yj hq;omega
   rw [hb,show j+(i+1)=j+1+i by omega];rw [abS r (j+1) i]
   simp
def abT {av:List AV} {args:Array yg} (n:Nat) (h:az O.af m S w av args.toList):b9 O m S w (eh 0 av) (args++uP n undef):=by
 intro i
 have:=abS av 0 i
 rw [Nat.zero_add] at this;rw [this,List.getD_eq_getElem?_getD]
 cases hv:av[i]? with
 | none=>simp only [Option.getD_none,ah]
 | some v=>
  obtain ⟨u,h1,h2⟩:=Q3 h hv;have hl:i<args.size:=by
   grind
  have:(args++uP n undef).getD i undef=u:=by
   rw [Array.getD_eq_getD_getElem?,Array.getElem?_append_left hl]
   grind
  grind
def E6 (tmps:Array yg):ybC->Sem yg
 | .tmp t=>pure (tmps.getD t undef)
 | .cell a t=>do loadVar t (<-asAddr (tmps.getD a undef))
def aos (fn:ybd) (tmps:Array yg):results fn tmps=(do let vs <-fn.results.mapM (E6 tmps);pure (if h:vs.size=1 then vs[0] else .tuple vs)):=by
 rfl
def Qw {s:St} {ct:Nat} {tmps:Array yg} (hh:aU O m S w s.hp ct) (ht:b9 O m S w s.tm tmps):∀{rs:List ybC} {rv:List RV} {vs:List AV},oW O.P rs=some rv->lk s rv=some vs->
  ∃us,(rs.mapM (E6 tmps)).run O.P w= .ok us w/\az O.af m S w vs us
 | [],rv,vs,h1,h2=>by
  simp only [oW,yd] at h1;subst h1;simp only [lk,yd] at h2;subst h2;exact ⟨[],by simp,by simp [az]⟩
 | .tmp t::rs,rv,vs,h1,h2=>by
  simp only [oW] at h1
  cases hc:oW O.P rs with
  | none=>simp [hc] at h1
  | some l=>
   simp only [hc,yd] at h1;subst h1;simp only [lk,results1] at h2
   cases hl:lk s l with
   | none=>simp [hl] at h2
   | some Yz=>
    simp only [hl,yd] at h2;subst h2;obtain ⟨us,g1,g2⟩:=Qw hh ht hc hl;refine ⟨tmps.getD t undef::us,?_,by simp only [az];exact ⟨_,_,rfl,ht t,g2⟩⟩
    rw [ue];simp only [E6,Sem.run_bind,Sem.run_pure,Result.andThen_ok];rw [g1];rfl
 | .cell a t::rs,rv,vs,h1,h2=>by
  simp only [oW] at h1
  cases hz:cE O.P t with
  | none=>simp [hz] at h1
  | some sz=>
   cases KH:dQ O.P t with
   | none=>simp [hz,KH] at h1
   | some ag=>
    cases hc:oW O.P rs with
    | none=>simp [hz,KH,hc] at h1
    | some l=>
     simp only [hz,KH,hc,yd] at h1;subst h1;simp only [lk] at h2
     cases cW:results1 s (.cell a sz ag) with
     | none=>simp [cW] at h2
     | some v=>
      cases hl:lk s l with
      | none=>simp [cW,hl] at h2
      | some Yz=>
       simp only [cW,hl,yd] at h2;subst h2;obtain ⟨us,g1,g2⟩:=Qw hh ht hc hl;have ra:=ht a;have key:∃b o u,tmps.getD a undef= .pointer (some ⟨b,o,none⟩)/\(loadVar t ⟨b,o,none⟩).run O.P w= .ok u w/\ah O.af m S w v u:=by
        simp only [results1] at cW;cases hta:ai s.tm a<;>rw [hta] at cW ra<;>simp only [reduceCtorEq] at cW
        ·rename_i id o;simp only [ah] at ra;obtain ⟨p,hm,hp⟩:=ra
         cases hg:aq s.hp id with
         | none=>simp [hg] at cW
         | some ob=>
          cases ob<;>simp only [hg,reduceCtorEq] at cW
          have Y3:=Q2 (o:=0) (n:=0) hh hg hm;obtain ⟨u,q1,q2⟩:=Ms hz KH (p8 o _ p.b p.o Y3) cW;exact ⟨p.b,p.o+o,u,hp,q1,q2⟩
        ·rename_i cs;simp only [ah] at ra;obtain ⟨b,o,hp,_,_,Y3⟩:=ra;obtain ⟨u,q1,q2⟩:=Ms hz KH Y3 cW;exact ⟨b,o,u,hp,q1,q2⟩
       obtain ⟨b,o,u,q1,q2,q3⟩:=key;refine ⟨u::us,?_,by simp only [az];exact ⟨_,_,rfl,q3,g2⟩⟩
       rw [ue]
       have:(E6 tmps (.cell a t)).run O.P w= .ok u w:=by
        simp only [E6];rw [q1];simp [asAddr,q2]
       rw [Sem.run_bind,this,Result.andThen_ok,Sem.run_bind,g1];rfl
def anO {s:St} {ct:Nat} {tmps:Array yg} {fn:ybd} {rv:List RV} {v:AV} (hh:aU O m S w s.hp ct) (ht:b9 O m S w s.tm tmps) (h1:oW O.P fn.results.toList=some rv) (h2:iJ s rv=some v):
  ∃u,(results fn tmps).run O.P w= .ok u w/\ah O.af m S w v u:=by
 unfold iJ at h2
 cases hl:lk s rv with
 | none=>simp [hl] at h2
 | some vs=>
  obtain ⟨us,g1,g2⟩:=Qw hh ht h1 hl;have hlen:=gC _ _ g2;have hm:(fn.results.mapM (E6 tmps)).run O.P w= .ok us.toArray w:=by
   rw [Array.mapM_eq_mapM_toList];simp [g1]
  have fo:(results fn tmps).run O.P w= .ok (if h:us.toArray.size=1 then us.toArray[0] else .tuple us.toArray) w:=by
   rw [aos,Sem.run_bind,hm];rfl
  rw [hl] at h2
  split at h2
  ·rename_i v' mP;simp only [yd] at mP h2;subst mP;simp only [az] at g2
   grind
  ·rename_i dZ dc mP;simp only [yd] at mP h2;subst mP;subst h2;have h1:¬us.toArray.size=1:=by
    intro h
    have:vs.length=1:=by simp_all
    cases vs with
    | nil=>simp at this
    | cons x t=>
     cases t with
     | nil=>exact dc x rfl
     | cons y t=>simp at this
   simp only [ah]
   grind
  ·grind
def QP {s:St} {tmps:Array yg} {fn:ybd} {rv:List RV} {v:AV} {m0:Mp} {S0:Nat->Prop} {w0:yi} {hp0:Hp} {DA:Nat} (h1:oW O.P fn.results.toList=some rv) (h2:iJ s rv=some v) (fT:DA<=s.ct):∀(rs:List Nat) (w:yi),
  rs.Nodup->(∀r,r∈rs->w.heap[r]? =some (.deferred (some []))/\¬S r/\w0.heap.size<=r)->O.w0.heap.size<=w0.heap.size->aU O m S w s.hp s.ct->b9 O m S w s.tm tmps->ck m0 S0 w0 hp0 m S w s.hp DA->
  ybE Fence.wide 0 O.P fn tmps (sU O m0 S0 w0 hp0 DA v s.hp s.ct) (rs.map (fun r=>{target:= .collected r,args:=#[]})) .returning w
 | [],w,_,_,_,hh,ht,hf=>by
  obtain ⟨u,g1,g2⟩:=anO hh ht h1 h2;exact ⟨u,g1,u,m,S,rfl,hh,fT,g2,hf⟩
 | r::rs,w,lY,hr,bi,hh,ht,hf=>by
  obtain ⟨ij,dK⟩:=List.nodup_cons.1 lY;obtain ⟨a1,a2,a3⟩:=hr r List.mem_cons_self;have er:=D0 w r (.deferred none);have ot:¬eb m s.hp r:=fun ho=>acG hh ho _ a1
  have BM:=aa1 hh er a2 ot (xi bi a3)
  have aR:fA S w {w with heap:=w.heap.setIfInBounds r (.deferred none)}:=fun b hb=>er.other b (fun e=>a2 (e▸hb))
  have BI:ck m0 S0 w0 hp0 m S {w with heap:=w.heap.setIfInBounds r (.deferred none)} s.hp DA:=by
   refine ⟨hf.os,hf.tape,hf.output,by rw [er.size];exact hf.size,fun b hb ho=>(er.other b (by omega)).trans (hf.same b hb ho),hf.sub,fun b hb=>(er.other b (fun e=>a2 (e▸hf.sub b hb))).trans (hf.still b hb),hf.new,hf.own,hf.old,fun b x hb=>?_⟩
   obtain ⟨x',hx⟩:=hf.loops b x hb;exact ⟨x',(er.other b (fun e=>by subst e;rw [a1] at hx;cases hx)).trans hx⟩
  refine ⟨by simp,.inl ⟨r,_,rfl,?_,QP h1 h2 fT rs _ dK (fun r' bn=>?_) bi BM (Az (fun _ _ h=>h) (fun _ h=>h) aR ht) BI⟩⟩
  ·simp only [Instr.takeDeferred,Sem.run_bind,aa2 (P:=O.P) a1 (fun _ _ _=>by simp),Result.andThen_ok,Ly (P:=O.P) a1 (fun _ _ _=>by simp),Sem.run_pure]
  ·obtain ⟨b1,b2,b3⟩:=hr r' (List.mem_cons_of_mem _ bn);exact ⟨(er.other r' (fun e=>ij (e▸bn))).trans b1,b2,b3⟩
end
section
variable {O:bk} {self:cA}
def azg (hO:eD O) (hS:∀v s ex s',self v s=some (ex,s')->∀c h l k,(comp O.P (O.hint h) c l k).1=v->A5 O h c s ex s') {n:Nat} {F:aZ} (hF:O.prog n=some F) {hp:Hp} {ct:Nat} {av:List AV} {ex:Ex} {s:St}
  (hv:self F.body ⟨eh 0 av,hp,ct,ct⟩=some (ex,s)) (hex:ex= .normal\/ex= .ret) {v:AV} (hr:iJ s F.gk=some v):A4 O n hp ct av v s.hp s.ct:=by
 intro m S w args hh fG;obtain ⟨fn,q1,q2,q3⟩:=hO.prog n F hF;obtain ⟨c,q4,q5,q6,q7⟩:=Qk q2;refine .inl ⟨Mc q1 (by rw [q4];rfl) q3,?_⟩
 have hc:=hS _ _ _ _ hv c n 0 0 q5.symm;have hw:=hc none w.heap.size m S w {tmps:=args++uP (fn.ntmps-args.size) undef,defers:=[]} (fun l hl=>by cases hl) (abT _ fG) hh (yr _) (by simp;omega) hh.fF (yr _) ⟨[],rfl,by simp,by simp⟩
 refine callsIn_of_wp_marks (F:=Fence.wide) q1 q4 trivial (wpIn_mono hw ?_);rintro e a' w' ⟨rfl,m',S',k1,k2,k3,k4,k5,k6,rs,k7,k8,k9⟩;have main:ybE Fence.wide 0 O.P fn a'.tmps (sU O m S w hp ct v s.hp s.ct) a'.defers .returning w':=by
  rw [k7];exact QP q6 hr k4 rs w' k8 k9 hh.fF k2 k1 k5
 rcases hex with rfl | rfl
 ·exact main
 ·exact main
def AL.mono {P:Program} {f:tU} {args:Array yg} {w:yi} {R R':Ending->yi->Prop} (h:AL P f args w R) (hr:∀e w',R e w'->R' e w'):AL P f args w R':=by
 rcases h with ⟨h1,h2⟩ | ⟨u,w',h1,h2⟩
 ·exact .inl ⟨h1,CallsIn.mono h2 hr⟩
 ·exact .inr ⟨u,w',h1,hr _ _ h2⟩
def apt {w:yi} {S:Nat->Prop} (hg:A3 O w) (hs:∀b,S b->b<w.heap.size):aU O eM S w [] 0:=
 ⟨(fun id o p h _=>by simp [aq] at h),(fun id p h=>by cases h),(fun i j oi oj pi pj h=>by simp [aq] at h),hs,(fun id p h=>by cases h),(fun id p h=>by cases h),hg.1,hg.2,(fun id o h=>by simp [aq] at h)⟩
def Ri {b:Nat} (h:eb eM [] b):False:=by
 obtain ⟨_,_,_,h,_⟩:=h;simp [aq] at h
def Qe {n:Nat} {av:List AV} {v r:AV} {s:St} (h:A4 O n [] 0 av v s.hp s.ct) (hr:result s.hp v=some r):ep O n av r:=by
 intro w S args hg hs fG hp;refine AL.mono (h eM S w args (apt hg hs) fG) ?_;rintro e w' ⟨u,m',S',rfl,k1,k2,k3,k4⟩;have bi:∀b,eb m' s.hp b->w.heap.size<=b:=fun b hb=>(k4.own b hb).elim (fun h=>(Ri h).elim) (fun h=>h)
 obtain ⟨S2,g1,g2,g3,g4⟩:=api (lo:=w.heap.size) k1 hr k3 bi;refine ⟨u,S2,rfl,⟨k4.os,k4.tape,k4.output,k4.size,fun b hb=>k4.same b hb Ri⟩,fun b hb=>g1 b (k4.sub b hb),fun b hb=>?_,g3,g4⟩;rcases g2 b hb with h | h
 ·rcases k4.new b h with h | h | h
  ·exact .inl h
  ·exact (Ri h).elim
  ·exact .inr h
 ·exact .inr (bi b h)
def aot (hO:eD O) (hS:∀v s ex s',self v s=some (ex,s')->∀c h l k,(comp O.P (O.hint h) c l k).1=v->A5 O h c s ex s'):nK O self:=by
 have heap:∀(n:Nat) (F:aZ),O.prog n=some F->∀(hp:Hp) (ct:Nat) (av:List AV) (ex:Ex) (s:St) (v:AV),self F.body ⟨eh 0 av,hp,ct,ct⟩=some (ex,s)->(ex= .normal\/ex= .ret)->iJ s F.gk=some v->A4 O n hp ct av v s.hp s.ct:=
  fun n F hF hp ct av ex s v h1 h2 h3=>azg hO hS hF h1 h2 h3
 refine ⟨?_,?_,fun hp ct l xs v ap a7 hv=>arh hS hv⟩
 ·intro n av r hv;unfold bO at hv
  cases hL:O.aE.pure n with
  | some sp=>rw [hL] at hv;exact hO.aE n sp av r hL hv
  | none=>
   simp only [hL] at hv
   cases hF:O.prog n with
   | none=>simp [hF] at hv
   | some F=>
    simp only [hF] at hv
    split at hv
    ·rename_i s hb
     cases hr:iJ s F.gk with
     | none=>simp [hr] at hv
     | some v=>simp only [hr] at hv;exact Qe (heap n F hF [] 0 av .normal s v hb (.inl rfl) hr) hv
    ·rename_i s hb
     cases hr:iJ s F.gk with
     | none=>simp [hr] at hv
     | some v=>simp only [hr] at hv;exact Qe (heap n F hF [] 0 av .ret s v hb (.inr rfl) hr) hv
    ·cases hv
 ·intro hp ct n av v ap a7 hv;unfold iL at hv
  cases hL:O.aE.heap n with
  | some sp=>rw [hL] at hv;exact hO.E3 n sp hp ct av v ap a7 hL hv
  | none=>
   simp only [hL] at hv
   cases hF:O.prog n with
   | none=>simp [hF] at hv
   | some F=>
    grind
def aaC (hO:eD O):∀n,nK O (ev O.prog O.aE n):=by
 intro n
 induction n using Nat.strongRecOn with
 | _ n ih=>
  refine aot hO (fun v s ex s' hv c h l k hc=>?_)
  cases n with
  | zero=>rw [Ic] at hv;cases hv
  | succ n=>
   rw [Ie,<-hc] at hv;exact adX hO n (fun k hk=>ih k (by omega)) h c l k n (yr _) s ex s' hv
def sound (hO:eD O) {n f:Nat} {av:List AV} {r:AV} (h:YA O.prog O.aE n f av=some r):ep O f av r:=(aaC hO n).pure f av r h
end
end
section
open Go (IntKind)
def gg:List Nat->List Nat->Bool
 | [],_=>true
 | a::x,b::y=>yu a b&&gg x y
 | _::_,[]=>false
def mq (sub:List Nat):List Nat->Nat->Option Nat
 | [],k=>bif gg sub [] then some k else none
 | b::r,k=>bif gg sub (b::r) then some k else mq sub r (k+1)
def ND:List AV->Option AV
 | [.str s,.str sep]=>
  bif yR s.length 4294967281 then
   match mq sep s 0 with
   | some i=>some (.ae [.str (s.take i),.str (s.drop (i+sep.length)),.bool true])
   | none=>some (.ae [.str s,.str [],.bool false])
  else none
 | _=>none
def LA:List AV->Option AV
 | [.str s,.str p]=>some (bif gg p s then .ae [.str (s.drop p.length),.bool true] else .ae [.str s,.bool false])
 | _=>none
def LB:List AV->Option AV
 | [.str s,.str p]=>some (.bool (gg p s))
 | _=>none
def Lr:List AV->Option AV
 | [.str s,.str p]=>some (.str (bif gg p s then s.drop p.length else s))
 | _=>none
def E7 (i:Nat):List Nat->Bool
 | []=>false
 | j::r=>bif yu j i then true else E7 i r
def kI (set:List Nat):List Nat->List Nat
 | []=>[]
 | b::r=>bif E7 b set then kI set r else b::r
def Ep:List Nat->Bool
 | []=>true
 | b::r=>yR b 128&&Ep r
def trimS:List AV->Option AV
 | [.str s,.str set]=>bif Ep set&&(yR s.length 4294967281&&yR set.length 4294967281) then some (.str (kI set (kI set s.reverse).reverse)) else none
 | _=>none
def gM (s:List Nat):Nat->List Nat
 | 0=>[]
 | n+1=>s++gM s n
def AM:List AV->Option AV
 | [.str s,.int .i64 (.ofNat n)]=>bif yE n 1099511627776&&yE (s.length*n) 1099511627776 then some (.str (gM s n)) else none
 | _=>none
def mV:Nat->Nat->List Nat->List Nat
 | 0,_,acc=>acc
 | f+1,n,acc=>bif yR n 10 then (48+n)::acc else mV f (n/10) ((48+n%10)::acc)
def aw (n:Nat):List Nat:=mV (n+1) n []
def aV:Int->List Nat
 | .ofNat n=>aw n
 | .negSucc n=>45::aw (n+1)
def A6:Int->Bool
 | .ofNat n=>yR n 9223372036854775808
 | .negSucc n=>yR n 9223372036854775808
def I4:List AV->Option AV
 | [.int .i64 n]=>bif A6 n then some (.str (aV n)) else none
 | _=>none
def At:List AV->Option AV
 | [.int .u64 (.ofNat n),.int .i64 10]=>bif yR n 18446744073709551616 then some (.str (aw n)) else none
 | _=>none
def cN:List Nat->Nat->Option Nat
 | [],a=>some a
 | b::r,a=>bif yE 48 b&&yE b 57 then cN r (10*a+(b-48)) else none
def I5:List AV->Option AV
 | [.str s]=>
  bif yR 0 s.length&&yE s.length 18 then
   match cN s 0 with | some n=>some (.ae [.int .i64 n,.undef]) | none=>none
  else none
 | _=>none
def nO:List AV->Option AV
 | [.int .u64 (.ofNat x),.int .u64 (.ofNat y),.int .u64 (.ofNat c)]=>
  bif yE c 1&&(yR x 18446744073709551616&&yR y 18446744073709551616) then some (.ae [.int .u64 ((x+y+c)%18446744073709551616:Nat),.int .u64 ((x+y+c)/18446744073709551616:Nat)]) else none
 | _=>none
def AQ:List AV->Option AV
 | [.int .u64 (.ofNat x),.int .u64 (.ofNat y),.int .u64 (.ofNat c)]=>
  bif yE c 1&&(yR x 18446744073709551616&&yR y 18446744073709551616) then some (.ae [.int .u64 ((x+18446744073709551616*2-y-c)%18446744073709551616:Nat),.int .u64 (bif yE (y+c) x then 0 else 1)]) else none
 | _=>none
def rG:List AV->Option AV
 | [.int .u64 (.ofNat x),.int .u64 (.ofNat y)]=>bif yR x 18446744073709551616&&yR y 18446744073709551616 then some (.ae [.int .u64 (x*y/18446744073709551616:Nat),.int .u64 (x*y%18446744073709551616:Nat)]) else none
 | _=>none
def eC:Nat->Nat->Nat
 | 0,_=>0
 | f+1,n=>bif yu n 0 then 0 else 1+eC f (n/2)
def Ir:List AV->Option AV
 | [.int .u64 (.ofNat x)]=>bif yR x 18446744073709551616 then some (.int .i64 (eC 64 x)) else none
 | _=>none
def EU:List AV->Option AV
 | [.int .u64 (.ofNat x)]=>bif yR x 18446744073709551616 then some (.int .i64 (64-eC 64 x:Nat)) else none
 | _=>none
def Rj:List AV->Option AV
 | [.bS .f64 b]=>some (.int .u64 b)
 | _=>none
def Qf:List AV->Option AV
 | [.int .u64 (.ofNat n)]=>some (.bS .f64 n)
 | _=>none
end
section
open Go
section
variable {O:bk} {n:Nat}
def HC {w w':yi} (h:RowKit.Below w.heap.size w w'):Calm w w':=⟨h.os,h.tape,h.output,h.size,h.block⟩
def apu {w:yi} (k:Nat):Calm w (w.drewN k):=⟨rfl,rfl,rfl,yr _,fun _ _=>rfl⟩
def apv {w:yi} (h:A3 O w) {a:Addr} {v:yg} (hc:O.w0.cell? a=some v):w.cell? a=some v:=by
 have hb:a.block<O.w0.heap.size:=by
  unfold World.cell? at hc
  cases hq:O.w0.heap[a.block]? with
  | none=>simp [hq] at hc
  | some o=>exact (Array.getElem?_eq_some_iff.1 hq).1
 unfold World.cell? at hc ⊢;rw [h.1 _ hb];exact hc
def oP {av:List AV} {r:AV} (hr:∀S w' lo u,ah O.af eM S w' r u->nj O.af S w' lo r u)
  (fC:∀args w,(callFunc (O.af n) args).run O.P w= .ok (.enter (O.af n) args) w)
  (h:∀w S args,A3 O w->az O.af eM S w av args.toList->xV O.P (O.af n) args w fun e w'=>∃u,e= .returned u/\Calm w w'/\∀S,ah O.af eM S w' r u):ep O n av r:=by
 intro w S args hg hS dY _;refine .inl ⟨fC args w,Go.callsIn_wide.2 ((h w S args hg dY).mono ?_)⟩;rintro e w' ⟨u,rfl,hc,hu⟩;exact ⟨u,S,rfl,hc,fun _ h=>h,fun _ h=> .inl h,fun b hb=>Nat.lt_of_lt_of_le (hS b hb) hc.size,hr S w' _ u (hu S)⟩
def LS {av:List AV} {r:AV} (hr:∀S w' lo u,ah O.af eM S w' r u->nj O.af S w' lo r u)
  (h:∀w S args,az O.af eM S w av args.toList->∃u,(callFunc (O.af n) args).run O.P w= .ok (.value u) w/\∀S,ah O.af eM S w r u):ep O n av r:=by
 intro w S args _ hS dY _;obtain ⟨u,h1,h2⟩:=h w S args dY;exact .inr ⟨u,w,h1,u,S,rfl,Calm.refl,fun _ h=>h,fun _ h=> .inl h,hS,hr S w _ u (h2 S)⟩
def Ig {s:List Nat}:∀S w' lo u,ah O.af eM S w' (.str s) u->nj O.af S w' lo (.str s) u:=fun S w' lo u h=>⟨[],rfl,h,rfl⟩
def RR {k:IntKind} {z:Int}:∀S w' lo u,ah O.af eM S w' (.int k z) u->nj O.af S w' lo (.int k z) u:=fun S w' lo u h=>⟨[],rfl,h,rfl⟩
def ata {k:FloatKind} {z:Nat}:∀S w' lo u,ah O.af eM S w' (.bS k z) u->nj O.af S w' lo (.bS k z) u:=fun S w' lo u h=>⟨[],rfl,h,rfl⟩
def arj {b:Bool}:∀S w' lo u,ah O.af eM S w' (.bool b) u->nj O.af S w' lo (.bool b) u:=fun S w' lo u h=>⟨[],rfl,h,rfl⟩
def aa3 {S:Nat->Prop} {w':yi} {lo:Nat}:∀{vs:List AV} {us:List yg},(∀v,v∈vs->(∀ex sz k cs,v≠.bD ex sz k cs)/\a6 v=true)->az O.af eM S w' vs us->kO O.af S w' lo vs us []
 | [],us,_,h=>by simp only [az] at h;exact ⟨h,rfl⟩
 | v::vs,us,hv,h=>by
  simp only [az] at h;obtain ⟨u,t,rfl,h1,h2⟩:=h;have h3:=hv v (by simp);refine ⟨u,t,[],[],rfl,rfl,?_,aa3 (fun v hm=>hv v (by simp [hm])) h2⟩;cases v<;>first | exact ⟨rfl,h1,h3.2⟩ | exact absurd rfl (h3.1 _ _ _ _)
def Ef {vs:List AV} (hv:∀v,v∈vs->(∀ex sz k cs,v≠.bD ex sz k cs)/\a6 v=true):∀S w' lo u,ah O.af eM S w' (.ae vs) u->nj O.af S w' lo (.ae vs) u:=by
 intro S w' lo u h;obtain ⟨xs,rfl,h⟩:=h;exact ⟨xs,[],rfl,aa3 hv h,by simp⟩
def EV {S:Nat->Prop} {w:yi} {a:AV} {args:Array yg} (h:az O.af eM S w [a] args.toList):∃u,args=#[u]/\ah O.af eM S w a u:=by
 simp only [az] at h
 grind
def A7 {S:Nat->Prop} {w:yi} {a b:AV} {args:Array yg} (h:az O.af eM S w [a,b] args.toList):∃u v,args=#[u,v]/\ah O.af eM S w a u/\ah O.af eM S w b v:=by
 simp only [az] at h
 grind
def aiA {S:Nat->Prop} {w:yi} {a b c:AV} {args:Array yg} (h:az O.af eM S w [a,b,c] args.toList):∃u v x,args=#[u,v,x]/\ah O.af eM S w a u/\ah O.af eM S w b v/\ah O.af eM S w c x:=by
 simp only [az] at h
 grind
def HE {S:Nat->Prop} {w:yi} {s:List Nat} {l:List UInt8} (h:l.map xb=s):ah O.af eM S w (.str s) (.string ⟨l.toArray⟩):=by
 simp only [ah];exact ⟨_,rfl,h⟩
def toNat_inj {a b:UInt8}:yu a.toNat b.toNat=(a==b):=by
 by_cases h:a=b
 ·simp_all
 ·have h':a.toNat≠b.toNat:=fun e=>h (UInt8.toNat_inj.1 e)
  have e:(a==b)=false:=by simp_all
  rw [e]
  cases hq:yu a.toNat b.toNat with
  | false=>rfl
  | true=>exact absurd (yj hq) h'
def HN:∀(p s:List UInt8),gg (p.map xb) (s.map xb)=p.isPrefixOf s
 | [],s=>by cases s<;>rfl
 | a::p,[]=>rfl
 | a::p,b::s=>by
  simp only [xc,gg,List.isPrefixOf,HN p s,toNat_inj]
def aa4:∀(s sep:List UInt8) (k:Nat),mq (sep.map xb) (s.map xb) k=if 0<=Lib.index s sep then some (k+(Lib.index s sep).toNat) else none
 | [],sep,k=>by
  simp only [List.map_nil,mq,Lib.index]
  cases sep with
  | nil=>simp [gg]
  | cons a r=>simp [gg]
 | b::s,sep,k=>by
  have ih:=aa4 s sep (k+1);have hp:=HN sep (b::s);simp only [xc,mq,hp,Lib.index]
  grind
def acJ (b:UInt8):∀cs:List UInt8,E7 b.toNat (cs.map xb)=cs.contains b
 | []=>rfl
 | c::cs=>by
  simp only [xc,E7,acJ b cs,List.contains_cons,toNat_inj]
  grind
def QQ (cs:List UInt8):∀l:List UInt8,kI (cs.map xb) (l.map xb)=(l.dropWhile (cs.contains ·)).map xb
 | []=>rfl
 | b::l=>by
  simp only [xc,kI,acJ,List.dropWhile_cons,QQ cs l]
  grind
def acK (l:List UInt8):∀n,gM (l.map xb) n=(Lib.repeatL l n).map xb
 | 0=>rfl
 | n+1=>by simp only [gM,Lib.repeatL,xu,acK l n]
def aaD:∀(f n:Nat) (acc:List Nat),n<f->mV f n acc=(Lib.decDigits n).map xb++acc
 | 0,n,acc,h=>by omega
 | f+1,n,acc,h=>by
  rw [mV,Lib.decDigits];by_cases hn:n<10
  ·rw [show yR n 10=true from yo hn,yA,dif_pos hn]
   have:(ybe (48+n)).toNat=48+n:=by
    rw [yah];omega
   grind
  ·have hb:yR n 10=false:=by
    cases hq:yR n 10 with
    | false=>rfl
    | true=>exact absurd (yv hq) (by omega)
   rw [hb,yS,dif_neg hn,aaD f (n/10) _ (by omega),xu,List.append_assoc]
   have:(ybe (48+n%10)).toNat=48+n%10:=by
    rw [yah];omega
   grind
def Rk (n:Nat):aw n=(Lib.decDigits n).map xb:=by
 rw [aw,aaD (n+1) n [] (by omega),List.append_nil]
def ark (n:Int):aV n=(Lib.itoa n).map xb:=by
 cases n with
 | ofNat k=>
  have:¬yaK k<0:=by simp
  simp only [aV,Lib.itoa,this,xf,Rk];rfl
 | negSucc k=>
  have:Int.negSucc k<0:=Int.negSucc_lt_zero k
  simp only [aV,Lib.itoa,this,xC,Rk,xc];rfl
def Ro:∀f x:Nat,eC f x=Lib.bitLenAux f x
 | 0,_=>rfl
 | f+1,x=>by
  rw [eC,Lib.bitLenAux];by_cases h:x=0
  ·simp_all
  ·have hb:yu x 0=false:=by
    cases hq:yu x 0 with
    | false=>rfl
    | true=>exact absurd (yj hq) h
   rw [hb,yS,yB h,Ro f]
def aa5:∀{cs:List UInt8},Ep (cs.map xb)=true->∀(j:Nat) b,cs[j]? =some b->b.toNat<128
 | [],_,j,b,h=>by simp at h
 | c::cs,h,j,b,hb=>by
  simp only [xc,Ep,ye] at h
  cases j with
  | zero=>
   simp_all
  | succ j=>exact aa5 h.2 j b (by simpa using hb)
def acL:∀{l:List UInt8} {a z:Nat},cN (l.map xb) a=some z->Lib.decFrom a l=some z
 | [],a,z,h=>h
 | b::l,a,z,h=>by
  simp only [xc,cN] at h
  cases hb:(yE 48 b.toNat&&yE b.toNat 57) with
  | false=>rw [hb] at h;cases h
  | true=>
   rw [hb] at h;simp only [ye] at hb;have h1:=yv hb.1;have h2:=yv hb.2
   have:=acL h
   rw [Lib.decFrom,Lib.digitVal,yQ ⟨h1,h2⟩]
   grind
def arl {l:List UInt8} {z:Nat} (h:cN (l.map xb) 0=some z) (h0:0<l.length):Lib.atoi l=some (z:Int):=by
 cases l with
 | nil=>simp at h0
 | cons b r=>
  have hd:=acL h;have hb:48<=b.toNat:=by
   simp only [xc,cN] at h
   cases hb:(yE 48 b.toNat&&yE b.toNat 57) with
   | false=>rw [hb] at h;cases h
   | true=>
    simp_all
  have h1:(b==45)=false:=by
   have:b≠45:=fun e=>by subst e;exact absurd hb (by decide)
   grind
  have h2:(b==43)=false:=by
   have:b≠43:=fun e=>by subst e;exact absurd hb (by decide)
   grind
  simp only [Lib.atoi,h1,h2,yN,xf,Lib.decNat,List.isEmpty_cons,hd,Option.map_some]
section
variable {f:tU}
def anp (hf:O.af n=f) (fC:∀args w,(callFunc f args).run O.P w= .ok (.enter f args) w)
  (hc:∀(s p:ByteArray) (w:yi),xV O.P f #[.string s,.string p] w fun e w'=>e= .returned (.tuple #[.string ⟨(Lib.trimPrefix s.data.toList p.data.toList).toArray⟩,.bool (Lib.hasPrefix s.data.toList p.data.toList)])/\w'=w):
  ∀av r,LA av=some r->ep O n av r:=by
 intro av r h;unfold LA at h
 split at h
 ·rename_i s p;simp only [yd] at h;subst h;refine oP ?_ (by rw [hf];exact fC) ?_
  ·cases gg p s<;>exact Ef (by simp [a6])
  ·intro w S args hg dY;obtain ⟨u,v,rfl,h1,h2⟩:=A7 dY;obtain ⟨t1,rfl,rfl⟩:=h1;obtain ⟨t2,rfl,rfl⟩:=h2;rw [hf];refine (hc t1 t2 w).mono ?_;rintro e w' ⟨rfl,rfl⟩;refine ⟨_,rfl,Calm.refl,fun S=>?_⟩;rw [HN,yt];unfold Lib.trimPrefix Lib.hasPrefix
   cases hp:t2.data.toList.isPrefixOf t1.data.toList with
   | true=>
    simp only [yA,xC,ah,az]
    simp_all
   | false=>
    simp only [yS,yN,xf,ah,az]
    grind
 ·cases h
def anq (hf:O.af n=f) (fC:∀args w,(callFunc f args).run O.P w= .ok (.enter f args) w)
  (hc:∀(s p:ByteArray) (w:yi),xV O.P f #[.string s,.string p] w fun e w'=>e= .returned (.bool (Lib.hasPrefix s.data.toList p.data.toList))/\w'=w):
  ∀av r,LB av=some r->ep O n av r:=by
 intro av r h;unfold LB at h
 split at h
 ·rename_i s p;simp only [yd] at h;subst h;refine oP arj (by rw [hf];exact fC) ?_
  intro w S args hg dY;obtain ⟨u,v,rfl,h1,h2⟩:=A7 dY;obtain ⟨t1,rfl,rfl⟩:=h1;obtain ⟨t2,rfl,rfl⟩:=h2;rw [hf];refine (hc t1 t2 w).mono ?_;rintro e w' ⟨rfl,rfl⟩;refine ⟨_,rfl,Calm.refl,fun S=>?_⟩;rw [HN];simp only [ah,Lib.hasPrefix]
 ·cases h
def anl (hf:O.af n=f) (fC:∀args w,(callFunc f args).run O.P w= .ok (.enter f args) w)
  (hc:∀(s p:ByteArray) (w:yi),xV O.P f #[.string s,.string p] w fun e w'=>e= .returned (.string ⟨(Lib.trimPrefix s.data.toList p.data.toList).toArray⟩)/\w'=w):
  ∀av r,Lr av=some r->ep O n av r:=by
 intro av r h;unfold Lr at h
 split at h
 ·rename_i s p;simp only [yd] at h;subst h;refine oP Ig (by rw [hf];exact fC) ?_
  intro w S args hg dY;obtain ⟨u,v,rfl,h1,h2⟩:=A7 dY;obtain ⟨t1,rfl,rfl⟩:=h1;obtain ⟨t2,rfl,rfl⟩:=h2;rw [hf];refine (hc t1 t2 w).mono ?_;rintro e w' ⟨rfl,rfl⟩;refine ⟨_,rfl,Calm.refl,fun S=>?_⟩;rw [HN,yt];refine HE ?_;unfold Lib.trimPrefix Lib.hasPrefix
  cases hp:t2.data.toList.isPrefixOf t1.data.toList with
  | true=>simp [List.map_drop]
  | false=>simp
 ·cases h
def atb (hf:O.af n=f) (fC:∀args w,(callFunc f args).run O.P w= .ok (.enter f args) w) {a:Addr} {m:Int} (hm:O.w0.cell? a=some (.int .i64 m))
  (hc:∀(s sep:ByteArray) (w:yi),s.size<4294967281->w.cell? a=some (.int .i64 m)->xV O.P f #[.string s,.string sep] w fun e w'=>e= .returned (.tuple #[.string ⟨(Lib.cut s.data.toList sep.data.toList).1.toArray⟩,.string ⟨(Lib.cut s.data.toList sep.data.toList).2.1.toArray⟩,.bool (Lib.cut s.data.toList sep.data.toList).2.2])/\∃n,w'=w.drewN n):
  ∀av r,ND av=some r->ep O n av r:=by
 intro av r h;unfold ND at h
 split at h
 ·rename_i s sep
  cases hb:yR s.length 4294967281 with
  | false=>rw [hb] at h;cases h
  | true=>
   rw [hb] at h;have key:∀(q:List UInt8×List UInt8×Bool),(∀t1 t2:ByteArray,t1.data.toList.map xb=s->t2.data.toList.map xb=sep->r= .ae [.str ((Lib.cut t1.data.toList t2.data.toList).1.map xb),.str ((Lib.cut t1.data.toList t2.data.toList).2.1.map xb),.bool (Lib.cut t1.data.toList t2.data.toList).2.2])->
     (∃a b c,r= .ae [.str a,.str b,.bool c])->ep O n [.str s,.str sep] r:=by
    intro q hq avy;obtain ⟨a',b',c',rfl⟩:=avy;refine oP (Ef (by simp [a6])) (by rw [hf];exact fC) ?_
    intro w S args hg dY;obtain ⟨u,v,rfl,h1,h2⟩:=A7 dY;obtain ⟨t1,rfl,e1⟩:=h1;obtain ⟨t2,rfl,e2⟩:=h2;rw [hf];have hl:t1.size<4294967281:=by
     have:=ml hb
     rw [<-e1,yt] at this
     simp_all
    refine (hc t1 t2 w hl (apv hg hm)).mono ?_;rintro e w' ⟨rfl,k,rfl⟩;refine ⟨_,rfl,apu k,fun S=>?_⟩;simp only [ah,az]
    grind
   refine key ([],[],false) ?_ ?_
   ·intro t1 t2 e1 e2;subst e1;subst e2;rw [aa4] at h;unfold Lib.cut;by_cases h0:0<=Lib.index t1.data.toList t2.data.toList
    ·simp_all
    ·grind
   ·grind
 ·cases h
def arm (hf:O.af n=f) (fC:∀args w,(callFunc f args).run O.P w= .ok (.enter f args) w)
  (hc:∀(s cs:ByteArray) (w:yi),s.size<=9223372036854775807->cs.size<4294967281->(∀(j:Nat) b,cs.data.toList[j]? =some b->b.toNat<128)->xV O.P f #[.string s,.string cs] w fun e w'=>e= .returned (.string ⟨(Lib.trimS s.data.toList cs.data.toList).toArray⟩)/\RowKit.Below w.heap.size w w'):
  ∀av r,trimS av=some r->ep O n av r:=by
 intro av r h;unfold trimS at h
 split at h
 ·rename_i s cs
  cases hb:(Ep cs&&(yR s.length 4294967281&&yR cs.length 4294967281)) with
  | false=>rw [hb] at h;cases h
  | true=>
   rw [hb] at h;simp only [yA,yd] at h;subst h;simp only [ye] at hb;refine oP Ig (by rw [hf];exact fC) ?_
   intro w S args hg dY;obtain ⟨u,v,rfl,h1,h2⟩:=A7 dY;obtain ⟨t1,rfl,rfl⟩:=h1;obtain ⟨t2,rfl,rfl⟩:=h2;have nn:=ml hb.2.1;have oh:=ml hb.2.2;rw [yt] at nn oh;rw [hf];refine (hc t1 t2 w (by rw [Lib.size_eq];omega) (by rw [Lib.size_eq];omega) (aa5 hb.1)).mono ?_;rintro e w' ⟨rfl,hw⟩;refine ⟨_,rfl,HC hw,fun S=>HE ?_⟩;simp only [Lib.trimS,Lib.trimLeftS,Lib.trimRightS];rw [<-tK,QQ,<-tK,QQ]
 ·cases h
def aou (hf:O.af n=f) (fC:∀args w,(callFunc f args).run O.P w= .ok (.enter f args) w)
  (hc:∀(s:ByteArray) (c:Nat) (w:yi),c<=9223372036854775807->s.size*c<=140737488355328->xV O.P f #[.string s,.int .i64 c] w fun e w'=>e= .returned (.string ⟨(Lib.repeatL s.data.toList c).toArray⟩)/\RowKit.Below w.heap.size w w'):
  ∀av r,AM av=some r->ep O n av r:=by
 intro av r h;unfold AM at h
 split at h
 ·rename_i s c
  cases hb:(yE c 1099511627776&&yE (s.length*c) 1099511627776) with
  | false=>rw [hb] at h;cases h
  | true=>
   rw [hb] at h;simp only [yA,yd] at h;subst h;simp only [ye] at hb;have l1:=yv hb.1;have l2:=yv hb.2;refine oP Ig (by rw [hf];exact fC) ?_
   intro w S args hg dY;obtain ⟨u,v,rfl,h1,h2⟩:=A7 dY;obtain ⟨t1,rfl,rfl⟩:=h1;subst h2;rw [hf];rw [yt] at l2;refine (hc t1 c w (by omega) (by rw [Lib.size_eq];omega)).mono ?_;rintro e w' ⟨rfl,hw⟩;exact ⟨_,rfl,HC hw,fun S=>HE (acK _ _).symm⟩
 ·cases h
def arn (hf:O.af n=f) (fC:∀args w,(callFunc f args).run O.P w= .ok (.enter f args) w)
  (hc:∀(z:Int) (w:yi),-9223372036854775808<=z->z<=9223372036854775807->A3 O w->xV O.P f #[.int .i64 z] w fun e w'=>e= .returned (.string ⟨(Lib.itoa z).toArray⟩)/\Calm w w'):
  ∀av r,I4 av=some r->ep O n av r:=by
 intro av r h;unfold I4 at h
 split at h
 ·rename_i z
  cases hb:A6 z with
  | false=>rw [hb] at h;cases h
  | true=>
   rw [hb] at h;simp only [yA,yd] at h;subst h;have hz: -9223372036854775808<=z/\z<=9223372036854775807:=by
    cases z with
    | ofNat k=>have:=ml hb;show -9223372036854775808<=(k:Int)/\(k:Int)<=9223372036854775807;omega
    | negSucc k=>have:=ml hb;omega
   refine oP Ig (by rw [hf];exact fC) ?_
   intro w S args hg dY;obtain ⟨u,rfl,h1⟩:=EV dY;subst h1;rw [hf];refine (hc z w hz.1 hz.2 hg).mono ?_;rintro e w' ⟨rfl,hw⟩;exact ⟨_,rfl,hw,fun S=>HE (ark z).symm⟩
 ·cases h
def anm (hf:O.af n=f) (fC:∀args w,(callFunc f args).run O.P w= .ok (.enter f args) w)
  (hc:∀(z:Nat) (w:yi),z<18446744073709551616->A3 O w->xV O.P f #[.int .u64 z,.int .i64 10] w fun e w'=>e= .returned (.string ⟨(Lib.decDigits z).toArray⟩)/\Calm w w'):
  ∀av r,At av=some r->ep O n av r:=by
 intro av r h;unfold At at h
 split at h
 ·rename_i z
  cases hb:yR z 18446744073709551616 with
  | false=>rw [hb] at h;cases h
  | true=>
   rw [hb] at h;simp only [yA,yd] at h;subst h;refine oP Ig (by rw [hf];exact fC) ?_
   intro w S args hg dY;obtain ⟨u,v,rfl,h1,h2⟩:=A7 dY;subst h1;subst h2;rw [hf];refine (hc z w (ml hb) hg).mono ?_;rintro e w' ⟨rfl,hw⟩;exact ⟨_,rfl,hw,fun S=>HE (Rk z).symm⟩
 ·cases h
def aro (hf:O.af n=f) (fC:∀args w,(callFunc f args).run O.P w= .ok (.enter f args) w)
  (hc:∀(s:ByteArray) (z:Int) (w:yi),s.size<=18->Lib.atoi s.data.toList=some z->xV O.P f #[.string s] w fun e w'=>e= .returned (.tuple #[.int .i64 z,.nilIface])/\Calm w w'):
  ∀av r,I5 av=some r->ep O n av r:=by
 intro av r h;unfold I5 at h
 split at h
 ·rename_i s
  cases hb:(yR 0 s.length&&yE s.length 18) with
  | false=>rw [hb] at h;cases h
  | true=>
   rw [hb] at h;simp only [yA] at h;simp only [ye] at hb;have l1:=ml hb.1;have l2:=yv hb.2
   split at h
   ·rename_i z hz;simp only [yd] at h;subst h;refine oP (Ef (by simp [a6])) (by rw [hf];exact fC) ?_
    intro w S args hg dY;obtain ⟨u,rfl,h1⟩:=EV dY;obtain ⟨t1,rfl,rfl⟩:=h1;rw [yt] at l1 l2;have ha:Lib.atoi t1.data.toList=some (z:Int):=arl hz l1;rw [hf];refine (hc t1 z w (by rw [Lib.size_eq];exact l2) ha).mono ?_
    simp only [ah,az]
    grind
   ·cases h
 ·cases h
def apw (hf:O.af n=f) (fC:∀args w,(callFunc f args).run O.P w= .ok (.enter f args) w)
  (hc:∀(x y:Nat) (w:yi),x<18446744073709551616->y<18446744073709551616->xV O.P f #[.int .u64 x,.int .u64 y] w fun e w'=>e= .returned (.tuple #[.int .u64 ((x*y/18446744073709551616:Nat):Int),.int .u64 ((x*y%18446744073709551616:Nat):Int)])/\w'=w):
  ∀av r,rG av=some r->ep O n av r:=by
 intro av r h;unfold rG at h
 split at h
 ·rename_i x y
  cases hb:(yR x 18446744073709551616&&yR y 18446744073709551616) with
  | false=>rw [hb] at h;cases h
  | true=>
   rw [hb] at h;simp only [yA,yd] at h;subst h;simp only [ye] at hb;refine oP (Ef (by simp [a6])) (by rw [hf];exact fC) ?_
   intro w S args hg dY;obtain ⟨u,v,rfl,h1,h2⟩:=A7 dY;subst h1;subst h2;rw [hf];refine (hc x y w (ml hb.1) (ml hb.2)).mono ?_;rintro e w' ⟨rfl,rfl⟩;refine ⟨_,rfl,Calm.refl,fun S=>?_⟩;simp only [ah,az]
   grind
 ·cases h
def apx (hf:O.af n=f) (fC:∀args w,(callFunc f args).run O.P w= .ok (.enter f args) w)
  (hc:∀(x:Int) (w:yi),0<=x->x<=18446744073709551615->xV O.P f #[.int .u64 x] w fun e w'=>e= .returned (.int .i64 (Lib.bitLen x.toNat:Nat))/\w'=w):
  ∀av r,Ir av=some r->ep O n av r:=by
 intro av r h;unfold Ir at h
 split at h
 ·rename_i x
  cases hb:yR x 18446744073709551616 with
  | false=>rw [hb] at h;cases h
  | true=>
   rw [hb] at h;simp only [yA,yd] at h;subst h
   have:=ml hb
   refine oP RR (by rw [hf];exact fC) ?_
   intro w S args hg dY;obtain ⟨u,rfl,h1⟩:=EV dY;subst h1;rw [hf];refine (hc (yaK x) w (tB x) (by show (x:Int)<=_;omega)).mono ?_;rintro e w' ⟨rfl,rfl⟩;refine ⟨_,rfl,Calm.refl,fun S=>?_⟩;rw [Ro];rfl
 ·cases h
def arp (hf:O.af n=f) (fC:∀args w,(callFunc f args).run O.P w= .ok (.enter f args) w)
  (hc:∀(x:Int) (w:yi),0<=x->x<=18446744073709551615->xV O.P f #[.int .u64 x] w fun e w'=>e= .returned (.int .i64 (64-(Lib.bitLen x.toNat:Nat)))/\w'=w):
  ∀av r,EU av=some r->ep O n av r:=by
 intro av r h;unfold EU at h
 split at h
 ·rename_i x
  cases hb:yR x 18446744073709551616 with
  | false=>rw [hb] at h;cases h
  | true=>
   rw [hb] at h;simp only [yA,yd] at h;subst h
   have:=ml hb
   have hle:∀f x,Lib.bitLenAux f x<=f:=by
    intro f
    induction f with
    | zero=>intro x;exact yr _
    | succ f ih=>
     intro x;rw [Lib.bitLenAux]
     grind
   refine oP RR (by rw [hf];exact fC) ?_
   intro w S args hg dY;obtain ⟨u,rfl,h1⟩:=EV dY;subst h1;rw [hf];refine (hc (yaK x) w (tB x) (by show (x:Int)<=_;omega)).mono ?_;rintro e w' ⟨rfl,rfl⟩;refine ⟨_,rfl,Calm.refl,fun S=>?_⟩;simp only [ah,Ro];show Value.int .i64 (64-(Lib.bitLenAux 64 x:Int))=Value.int .i64 ((64-Lib.bitLenAux 64 x:Nat):Int)
   grind
 ·cases h
def anP (hf:O.af n=f) (hc:∀(b:Nat) (w:yi),(callFunc f #[.float .f64 b]).run O.P w= .ok (.value (.int .u64 b)) w):
  ∀av r,Rj av=some r->ep O n av r:=by
 intro av r h;unfold Rj at h
 split at h
 ·rename_i b;simp only [yd] at h;subst h;refine LS RR ?_;intro w S args dY;obtain ⟨u,rfl,h1⟩:=EV dY;simp only [ah] at h1;subst h1;rw [hf];exact ⟨_,hc b w,fun S=>rfl⟩
 ·cases h
def anj (hf:O.af n=f) (hc:∀(b:Nat) (w:yi),(callFunc f #[.int .u64 b]).run O.P w= .ok (.value (.float .f64 b)) w):
  ∀av r,Qf av=some r->ep O n av r:=by
 intro av r h;unfold Qf at h
 split at h
 ·rename_i b;simp only [yd] at h;subst h;refine LS ata ?_;intro w S args dY;obtain ⟨u,rfl,h1⟩:=EV dY;simp only [ah] at h1;subst h1;rw [hf];exact ⟨_,hc b w,fun S=>rfl⟩
 ·cases h
def apy (hf:O.af n=f)
  (hc:∀(x y c:Nat) (w:yi),c<=1->(callFunc f #[.int .u64 x,.int .u64 y,.int .u64 c]).run O.P w= .ok (.value (.tuple #[.int .u64 (((x+y+c)%18446744073709551616:Nat):Int),.int .u64 (((x+y+c)/18446744073709551616:Nat):Int)])) w):
  ∀av r,nO av=some r->ep O n av r:=by
 intro av r h;unfold nO at h
 split at h
 ·rename_i x y c
  cases hb:(yE c 1&&(yR x 18446744073709551616&&yR y 18446744073709551616)) with
  | false=>rw [hb] at h;cases h
  | true=>
   rw [hb] at h;simp only [yA,yd] at h;subst h;simp only [ye] at hb;refine LS (Ef (by simp [a6])) ?_;intro w S args dY;obtain ⟨u,v,z,rfl,h1,h2,h3⟩:=aiA dY;subst h1;subst h2;subst h3;rw [hf];refine ⟨_,hc x y c w (yv hb.1),fun S=>?_⟩;simp only [ah,az]
   grind
 ·cases h
def apz (hf:O.af n=f)
  (hc:∀(x y b:Nat) (w:yi),b<=1->(callFunc f #[.int .u64 x,.int .u64 y,.int .u64 b]).run O.P w= .ok (.value (.tuple #[.int .u64 (((x+18446744073709551616-y-b)%18446744073709551616:Nat):Int),.int .u64 ((if x<y+b then 1 else 0:Nat):Int)])) w):
  ∀av r,AQ av=some r->ep O n av r:=by
 intro av r h;unfold AQ at h
 split at h
 ·rename_i x y c
  cases hb:(yE c 1&&(yR x 18446744073709551616&&yR y 18446744073709551616)) with
  | false=>rw [hb] at h;cases h
  | true=>
   rw [hb] at h;simp only [yA,yd] at h;subst h;simp only [ye] at hb;have ef:=yv hb.1;have hy:=ml hb.2.2;refine LS (Ef (by simp [a6])) ?_;intro w S args dY;obtain ⟨u,v,z,rfl,h1,h2,h3⟩:=aiA dY;subst h1;subst h2;subst h3;rw [hf];refine ⟨_,hc x y c w ef,fun S=>?_⟩;simp only [ah,az];refine ⟨_,rfl,_,_,rfl,?_,_,_,rfl,?_,rfl⟩
   ·grind
   ·congr 1
    by_cases h:x<y+c
    ·have:yE (y+c) x=false:=by
      cases hq:yE (y+c) x with
      | false=>rfl
      | true=>have:=yv hq;omega
     grind
    ·rw [yo (by omega),yB h];rfl
 ·cases h
end
end
end
end VE
