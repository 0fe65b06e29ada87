import Derived.Lib.Index
import Derived.Lib.ItoaNum
import Derived.Lib.Atoi
import Derived.Lib.BitFns
import Derived.Lib.Repeat
import Derived.Lib.SlTrimSet
import Derived.Shelf.Strings.Cut
import Derived.Shelf.Strings.Prefix
import Derived.Shelf.Small.Bits
import Derived.RowKit
import Derived.Test.YtpdlhopnhojpjaaGreatDoorTaa
import Derived.Test.YtpdlhopnhojpjaaGreatDoorTac
set_option linter.all false
set_option maxRecDepth 100000
open Array renaming replicate→tg
open Bool renaming and_eq_true→yi,false_eq_true→yN
open Go renaming Calls→wh,Func→ybx,LeavesInM→ybZ,ResultVar→ybX,Value→yj,World→ym
open Int renaming natCast_nonneg→tQ,ofNat→ybg
open List renaming length_map→yk,mapM_cons→uv,map_append→xg,map_cons→xd,map_reverse→yad
open Nat renaming beq→yz,ble→yK,ble_eq_true_of_le→yx,blt→yQ,eq_of_beq_eq_true→yt,le_of_ble_eq_true→yB,le_refl→yq,le_trans→xv
open Option.some renaming injEq→ye
open Prod.mk renaming injEq→yr
open UInt8 renaming ofNat→yby,toNat→xf,toNat_ofNat'→yaA
namespace VE
open Go (IntKind)
def Le (f g:cG):Prop:=∀c s r,f c s=some r->g c s=some r
section
variable {P:aM} {L:Lib} {f g:cG}
def RX (h:Le f g) (n:Nat) (ax:List AV) (r:AV) (hr:bK P L f n ax=some r):bK P L g n ax=some r:=by
 unfold bK at hr ⊢
 cases hL:L.pure n with
 | some sp=>simpa only [hL] using hr
 | none=>
  simp only [hL] at hr ⊢
  cases hP:P n with
  | none=>simp [hP] at hr
  | some F=>
   simp only [hP] at hr ⊢
   cases hf:f F.body ⟨dN 0 ax,[],0,0⟩ with
   | none=>simp [hf] at hr
   | some q=>rw [h _ _ _ hf];simpa only [hf] using hr
def R7 (h:Le f g) (hp:Hp) (ct:Nat) (n:Nat) (ax:List AV) (r:AV×Hp×Nat) (hr:ix P L f hp ct n ax=some r):ix P L g hp ct n ax=some r:=by
 unfold ix at hr ⊢
 cases hL:L.heap n with
 | some sp=>simpa only [hL] using hr
 | none=>
  simp only [hL] at hr ⊢
  cases hP:P n with
  | none=>simp [hP] at hr
  | some F=>
   simp only [hP] at hr ⊢
   cases hf:f F.body ⟨dN 0 ax,hp,ct,ct⟩ with
   | none=>simp [hf] at hr
   | some q=>rw [h _ _ _ hf];simpa only [hf] using hr
def YK (h:Le f g) (hp:Hp) (ct:Nat) (l:Nat) (xs:List AV) (r:AV×Hp×Nat) (hr:oU f hp ct l xs=some r):oU g hp ct l xs=some r:=by
 unfold oU at hr ⊢
 cases hl:ao hp l with
 | none=>simp [hl] at hr
 | some o=>
  simp only [hl] at hr ⊢
  split at hr
  ·rename_i tm ps cT body pe pO;simp only [ye] at pO;subst pO
   (try simp only at hr ⊢)
   cases hb:sM tm ps xs with
   | none=>simp [hb] at hr
   | some tm'=>
    simp only [hb] at hr ⊢
    cases h1:f cT ⟨tm',hp,ct,ct⟩ with
    | none=>simp [h1] at hr
    | some q=>
     rw [h _ _ _ h1];simp only [h1] at hr ⊢
     split at hr
     ·rename_i s1 Vx;simp only [ye] at Vx;subst Vx
      (try simp only at hr ⊢)
      split at hr
      ·rename_i ky Ev CG DZ A3 ahx
       (try simp only [ahx])
       cases h2:f body ⟨s1.tm,aT s1.hp l (.lp ky Ev CG DZ 1 A3),s1.ct,s1.ct⟩ with
       | none=>simp [h2] at hr
       | some q2=>rw [h _ _ _ h2];simpa only [h2] using hr
      ·simp at hr
     ·simp at hr
  ·simp at hr
def YV (h:Le f g) (hp:Hp) (ct:Nat) (m:Md) (fv:AV) (xs:List AV) (r:AV×Hp×Nat) (hr:er P L f hp ct m fv xs=some r):er P L g hp ct m fv xs=some r:=by
 unfold er at hr ⊢
 split at hr
 ·rename_i n first cap
  cases m with
  | pure=>
   simp only at hr ⊢
   cases hz:cD deep hp (first++(xs++cap)) with
   | none=>simp [hz] at hr
   | some q=>
    simp only [hz] at hr ⊢
    cases hc:bK P L f n q.1 with
    | none=>simp [hc] at hr
    | some u=>rw [RX h n q.1 u hc];simpa only [hc] using hr
  | own=>
   simp only at hr ⊢
   cases hz:cD deep hp (first++(xs++cap)) with
   | none=>simp [hz] at hr
   | some q=>
    simp only [hz] at hr ⊢
    cases hc:bK P L f n q.1 with
    | none=>simp [hc] at hr
    | some u=>rw [RX h n q.1 u hc];simpa only [hc] using hr
  | heap=>exact R7 h _ _ _ _ _ hr
  | dyn=>
   simp only at hr ⊢
   cases hz:aH (first++(xs++cap)) with
   | true=>
    simp only [hz,yD] at hr ⊢
    cases hc:bK P L f n (first++(xs++cap)) with
    | none=>simp [hc] at hr
    | some u=>rw [RX h n _ u hc];simpa only [hc] using hr
   | false=>
    simp only [hz,yW] at hr ⊢;exact R7 h _ _ _ _ _ hr
 ·split at hr
  ·exact YK h _ _ _ _ _ hr
  ·exact YK h _ _ _ _ _ hr
  ·simp at hr
 ·simp at hr
def aab (h:Le f g) (tm:Env) (hp:Hp) (ct:Nat) (o:Op) (r:AV×Hp×Nat) (hr:bg P L f tm hp ct o=some r):bg P L g tm hp ct o=some r:=by
 unfold bg at hr ⊢
 split at hr
 ·exact YV h _ _ _ _ _ _ hr
 ·rename_i rs fv xs
  (try simp only at hr ⊢)
  cases hc:er P L f hp ct .dyn (aC tm fv) (dH tm xs) with
  | none=>simp [hc] at hr
  | some q=>rw [YV h _ _ _ _ _ _ hc];simpa only [hc] using hr
 all_goals simpa only using hr
def Nz (h:Le f g):∀(ops:List bf) (s s':St),dO P L f ops s=some s'->dO P L g ops s=some s'
 | [],s,s',hr=>by simpa only [dO] using hr
 | ⟨d,gd,o⟩::r,s,s',hr=>by
  simp only [dO] at hr ⊢
  split at hr
  ·rename_i hw
   try simp only [hw]
   cases ho:bg P L f s.tm s.hp s.ct o with
   | none=>simp [ho] at hr
   | some q=>rw [aab h _ _ _ _ _ ho];simp only [ho] at hr ⊢;exact Nz h r _ _ hr
  ·rename_i hw
   (try simp only [hw]);exact Nz h r _ _ hr
  ·simp at hr
def rD (h:Le f g):∀(c:VC) (s:St) (r:Ex×St),bF P L f c s=some r->bF P L g c s=some r
 | .skip,s,r,hr=>by simpa only [bF] using hr
 | .mh ops,s,r,hr=>by
  simp only [bF] at hr ⊢
  cases ho:dO P L f ops s with
  | none=>simp [ho] at hr
  | some s'=>rw [Nz h _ _ _ ho];simpa only [ho] using hr
 | .seq a b,s,r,hr=>by
  simp only [bF] at hr ⊢
  cases ha:bF P L f a s with
  | none=>simp [ha] at hr
  | some q=>
   rw [rD h a s q ha];obtain ⟨ex,s1⟩:=q
   cases ex with
   | normal=>simp only [ha] at hr ⊢;exact rD h b s1 r hr
   | ret=>simpa only [ha] using hr
   | exit id=>simpa only [ha] using hr
 | .cond x a b,s,r,hr=>by
  simp only [bF] at hr ⊢
  split at hr
  ·rename_i t ht
   try simp only [ht]
   cases t with
   | true=>simp only [yD] at hr ⊢;exact rD h a s r hr
   | false=>simp only [yW] at hr ⊢;exact rD h b s r hr
  ·simp at hr
 | .ef id a,s,r,hr=>by
  simp only [bF] at hr ⊢
  cases ha:bF P L f a s with
  | none=>simp [ha] at hr
  | some q=>rw [rD h a s q ha];simpa only [ha] using hr
 | .kp live,s,r,hr=>by simpa only [bF] using hr
 | .fz ts,s,r,hr=>by simpa only [bF] using hr
 | .loop live a,s,r,hr=>by
  simp only [bF] at hr ⊢
  cases ha:bF P L f a (aG live s) with
  | none=>simp [ha] at hr
  | some q=>
   rw [rD h a _ q ha];obtain ⟨ex,s1⟩:=q
   cases ex with
   | normal=>simp only [ha] at hr ⊢;exact h _ _ _ hr
   | ret=>simpa only [ha] using hr
   | exit id=>simpa only [ha] using hr
 | .rf fv ps cT body,s,r,hr=>by
  simp only [bF] at hr ⊢
  split at hr
  ·rename_i n first cap hx
   try simp only [hx]
   split at hr
   ·simp at hr
   ·rename_i hL
    try simp only [hL]
    cases hc:ix P L f ((s.ct,.lp s.tm ps cT body 0 .none)::s.hp) (s.ct+1) n (first++(.fn (.y s.ct) [] []::cap)) with
    | none=>simp [hc] at hr
    | some q=>rw [R7 h _ _ _ _ _ hc];simpa only [hc] using hr
  ·simp at hr
 | .exit id,s,r,hr=>by simpa only [bF] using hr
 | .ret,s,r,hr=>by simpa only [bF] using hr
end
def Jz (P:aM) (L:Lib) (c:VC) (s:St):ev P L 0 c s=none:=rfl
def JA (P:aM) (L:Lib) (n:Nat):ev P L (n+1)=bF P L (ev P L n):=rfl
def ae4 (P:aM) (L:Lib):∀n,Le (ev P L n) (ev P L (n+1))
 | 0=>fun c s r h=>by rw [Jz] at h;cases h
 | n+1=>fun c s r h=>by
  rw [JA] at h ⊢;exact rD (ae4 P L n) c s r h
def TE (P:aM) (L:Lib) {n m:Nat} (h:n<=m):Le (ev P L n) (ev P L m):=by
 induction h with
 | refl=>exact fun _ _ _ h=>h
 | step _ ih=>exact fun c s r hr=>ae4 P L _ c s r (ih c s r hr)
section
open Go
section
variable {O:bl} {self:cG}
def ff.none {m:Mp} {S:Nat->Prop} {w:ym} {s s':St} {ex:Ex} {n lo:Nat} {a:Act} {w':ym} (l:Nat):¬ff O m S w s ex s' n lo (.goto l) a w':=by
 rintro ⟨h,_⟩;cases ex<;>cases h
def ff.then {m m1:Mp} {S S1:Nat->Prop} {w w1:ym} {s s1 s2:St} {ex:Ex} {n lo:Nat} {a':Act} {w':ym} {e:Exit} {ex1:Ex} (h1:s1.base=s.base)
  (hf:cp m S w s.hp m1 S1 w1 s1.hp s.base) (h:ff O m1 S1 w1 s1 ex s2 n lo e a' w'):ff O m S w s ex s2 n lo e a' w':=by
 obtain ⟨h2,m',S',k1,k2,k3,k4,k5,k6,k7⟩:=h;rw [h1] at k3 k4 k5;exact ⟨h2,m',S',k1,k2,k3,k4,hf.trans k5,k6,k7⟩
def ff.bP {m:Mp} {S:Nat->Prop} {w:ym} {s s1:St} {n lo:Nat} {a':Act} {w':ym} {e:Exit} {ex:Ex} (live:List Nat) (h:ff O m S w s ex s1 n lo e a' w'):ff O m S w s ex (aG live s1) n lo e a' w':=by
 obtain ⟨h2,m',S',k1,k2,k3,k4,k5,k6,k7⟩:=h;obtain ⟨m2,g1,g2,g3,g4,g5⟩:=Sg (live:=live) k1 k2 (by rw [k3];exact k4)
 rw [k3] at g3 g4 g5;exact ⟨h2,m2,S',g1,g2,g3,g4,k5.trans g5,k6,BD k2 g5 k7⟩
def ae5 {m:Mp} {w:ym} {tmps:Array yj}:∀{ts:List Nat} {s s1:St} {S:Nat->Prop},cf O m S w s.tm tmps->aV O m S w s.hp s.ct->qG ts s=some s1->
  ∃S1,cf O m S1 w s1.tm tmps/\aV O m S1 w s1.hp s1.ct/\s1.base=s.base/\s1.ct=s.ct/\∀base,cp m S w s.hp m S1 w s1.hp base
 | [],s,s1,S,ht,hh,h=>by
  simp only [qG,ye] at h;subst h;exact ⟨S,ht,hh,rfl,rfl,fun _=>cp.refl⟩
 | t::r,s,s1,S,ht,hh,h=>by
  simp only [qG] at h
  cases hz:freeze deep s.hp (af s.tm t) with
  | none=>simp [hz] at h
  | some q=>
   obtain ⟨v,hp⟩:=q;simp only [hz] at h;obtain ⟨h1,h2,h3⟩:=Sv (O:=O) hz;have hg:jf s.hp s.ct hp s.ct:=⟨h1,yq _,fun id o ho=>(by
     have:=h2 id
     rw [ho] at this
     cases hq:ao s.hp id with
     | none=>rw [hq] at this;simp at this
     | some o'=>exact hh.aU id o' hq),fun id o ho _=>(by
     have:=h2 id
     rw [ho] at this
     cases hq:ao s.hp id with
     | none=>rw [hq] at this;simp at this
     | some o'=>exact ⟨o',rfl⟩)⟩
   obtain ⟨S',k1,k2,k3,k4⟩:=N3 hh hg;have Bb:cf O m S' w ((t,v)::s.tm) tmps:=by
    intro i;simp only [af]
    cases hb:yz t i with
    | true=>
     have:=yt hb
     subst this;exact (h3 hp m S' w s.ct df.refl k1).1 _ (mv (fun _ _ h=>h) k2 (fun _ _=>rfl) _ _ (ht t))
    | false=>
     exact mv (fun _ _ h=>h) k2 (fun _ _=>rfl) _ _ (ht i)
   obtain ⟨S1,g1,g2,g3,g4,g5⟩:=ae5 (s:={s with tm:=(t,v)::s.tm,hp:=hp}) Bb k1 h;exact ⟨S1,g1,g2,g3,g4,fun base=>(k4 base).trans (g5 base)⟩
def ack (hO:eU O) (n:Nat) (hC:∀k,k<=n->oW O (ev O.prog O.aS k)) (h:Nat):∀(c:Code) (l k:Nat) (j:Nat),j<=n->∀(s:St) (ex:Ex) (s':St),
  bF O.prog O.aS (ev O.prog O.aS j) (comp O.P (O.hint h) c l k).1 s=some (ex,s')->B9 O h c s ex s':=by
 have refl:∀{s:St} {ex:Ex} {m:Mp} {S:Nat->Prop} {w:ym} {a:Act} {lo:Nat},cf O m S w s.tm a.tmps->aV O m S w s.hp s.ct->s.base<=s.ct->Marks lo S w a.defers->ff O m S w s ex s a.tmps.size lo (rT ex) a w:=
  fun h1 h2 h3 h4=>⟨rfl,_,_,h1,h2,rfl,h3,cp.refl,rfl,h4⟩
 have Vy:∀{self:cG} {s:St} {r:Ex×St},bF O.prog O.aS self (.mh [⟨none,none,bad⟩]) s=some r->False:=by
  intro self s r hv;simp [bF,dO,bad,bg,er,aC] at hv
 intro c
 induction c with
 | skip=>
  intro l k j hj s ex s' hv ro lo m S w a cI ht hh hb hn bj fa cg;simp only [comp,bF,ye,yr] at hv;obtain ⟨rfl,rfl⟩:=hv;exact wpIn_skip (refl ht hh hb cg)
 | label x=>
  intro l k j hj s ex s' hv ro lo m S w a cI ht hh hb hn bj fa cg;simp only [comp,bF,ye,yr] at hv;obtain ⟨rfl,rfl⟩:=hv;exact wpIn_label (refl ht hh hb cg)
 | exit id=>
  intro l k j hj s ex s' hv ro lo m S w a cI ht hh hb hn bj fa cg;simp only [comp,bF,ye,yr] at hv;obtain ⟨rfl,rfl⟩:=hv
  exact wpIn_exit (refl (ex:= .exit id) ht hh hb cg)
 | ret=>
  intro l k j hj s ex s' hv ro lo m S w a cI ht hh hb hn bj fa cg;simp only [comp,bF,ye,yr] at hv;obtain ⟨rfl,rfl⟩:=hv
  exact wpIn_ret (refl (ex:= .ret) ht hh hb cg)
 | goto x=>intro l k j hj s ex s' hv;exact (Vy (by simpa only [comp] using hv)).elim
 | refuse x=>intro l k j hj s ex s' hv;exact (Vy (by simpa only [comp] using hv)).elim
 | region id ops d=>
  intro l k j hj s ex s' hv;simp only [comp] at hv;generalize hq:Ol O.P (O.hint h) ops d k=q at hv;obtain ⟨r,k'⟩:=q;have main:∀{s s':St} {ex:Ex},bF O.prog O.aS (ev O.prog O.aS j) (.mh r) s=some (ex,s')->B9 O h (.region id ops d) s ex s':=by
   intro s s' ex hv;simp only [bF] at hv
   cases ho:dO O.prog O.aS (ev O.prog O.aS j) r s with
   | none=>simp [ho] at hv
   | some s1=>
    simp only [ho,ye,yr] at hv;obtain ⟨rfl,rfl⟩:=hv;exact atS hO (hC j hj) h id ops d k (by rw [hq];exact ho)
  simp only at hv
  split at hv
  ·exact main hv
  ·rename_i t ts _;simp only [bF] at hv
   cases hf:qG (t::ts) s with
   | none=>simp [hf] at hv
   | some s1=>
    simp only [hf] at hv;intro ro lo m S w a cI ht hh hb hn bj fa cg;obtain ⟨S1,g1,g2,g3,g4,g5⟩:=ae5 ht hh hf;have h1:=main (s:=s1) (by simpa only [bF] using hv) ro lo m S1 w a cI g1 g2 (by rw [g3,g4];exact hb) hn bj fa (BD hh (g5 s.base) cg)
    refine wpIn_mono h1 (fun e a' w' hp=>?_)
    exact ff.then (ex1:= .normal) g3 (g5 s.base) hp
 | seq x y ihx ihy=>
  intro l k j hj s ex s' hv ro lo m S w a cI ht hh hb hn bj fa cg;simp only [comp] at hv;generalize zH:comp O.P (O.hint h) x l k=qx at hv;obtain ⟨x',l1,k1⟩:=qx;simp only at hv;generalize Mf:comp O.P (O.hint h) y l1 k1=qy at hv;obtain ⟨y',l2,k2⟩:=qy;simp only [bF] at hv
  cases hx:bF O.prog O.aS (ev O.prog O.aS j) x' s with
  | none=>simp [hx] at hv
  | some r=>
   obtain ⟨ex1,s1⟩:=r;have h1:=ihx l k j hj s ex1 s1 (by rw [zH];exact hx) ro lo m S w a cI ht hh hb hn bj fa cg
   refine wpIn_seq (wpIn_mono h1 ?_);rintro e a1 w1 ⟨rfl,m1,S1,g1,g2,g3,g4,g5,g6,g7⟩;have stop:ex1≠.normal->ex=ex1/\s'=s1:=by
    intro ck;rw [hx] at hv
    cases ex1 with
    | normal=>exact absurd rfl ck
    | ret=>simp only [ye,yr] at hv;exact ⟨hv.1.symm,hv.2.symm⟩
    | exit id=>simp only [ye,yr] at hv;exact ⟨hv.1.symm,hv.2.symm⟩
   cases ex1 with
   | normal=>
    simp only [hx] at hv;simp only [rT,Exit.then];have h2:=ihy l1 k1 j hj s1 ex s' (by rw [Mf];exact hv) ro lo m1 S1 w1 a1 (NN g5 cI) g1 g2 (by rw [g3];exact g4) (by rw [g6];exact hn) bj (xv fa g5.size) g7
    rw [g6] at h2
    exact wpIn_mono h2 (fun e a' w' hp=>ff.then (ex1:= .normal) g3 g5 hp)
   | ret=>
    obtain ⟨rfl,rfl⟩:=stop (by simp);exact ⟨rfl,m1,S1,g1,g2,g3,g4,g5,g6,g7⟩
   | exit id=>
    obtain ⟨rfl,rfl⟩:=stop (by simp);exact ⟨rfl,m1,S1,g1,g2,g3,g4,g5,g6,g7⟩
 | cond x p q ihp ihq=>
  intro l k j hj s ex s' hv ro lo m S w a cI ht hh hb hn bj fa cg;simp only [comp] at hv;generalize zH:comp O.P (O.hint h) p (l+1) k=qx at hv;obtain ⟨p',l1,k1⟩:=qx;simp only at hv;generalize Mf:comp O.P (O.hint h) q l1 k1=qy at hv;obtain ⟨q',l2,k2⟩:=qy;simp only at hv;have main:∀(ex:Ex) (s':St),bF O.prog O.aS (ev O.prog O.aS j) (.cond (aP (O.hint h) x) p' q') s=some (ex,s')->(Code.cond x p q).wpIn (WF ro) 0 O.P (ff O m S w s ex s' a.tmps.size lo) a w:=by
   intro ex s' hv;simp only [bF] at hv;have rx:=cE (hO.hint h) ht x
   split at hv
   ·rename_i t hx;rw [hx] at rx;simp only [ai] at rx
    cases t with
    | true=>
     simp only [yD] at hv;exact wpIn_cond_true rx (ihp (l+1) k j hj s ex s' (by rw [zH];exact hv) ro lo m S w a cI ht hh hb hn bj fa cg)
    | false=>
     simp only [yW] at hv;exact wpIn_cond_false rx (ihq l1 k1 j hj s ex s' (by rw [Mf];exact hv) ro lo m S w a cI ht hh hb hn bj fa cg)
   ·cases hv
  cases GC:(O.hint h).out l with
  | none=>rw [GC] at hv;exact main ex s' hv
  | some live=>
   rw [GC] at hv;simp only at hv;rw [show bF O.prog O.aS (ev O.prog O.aS j) (.seq (.cond (aP (O.hint h) x) p' q') (.kp live)) s=match bF O.prog O.aS (ev O.prog O.aS j) (.cond (aP (O.hint h) x) p' q') s with | some (.normal,s1)=>some (.normal,aG live s1) | r=>r from rfl] at hv
   cases hx:bF O.prog O.aS (ev O.prog O.aS j) (.cond (aP (O.hint h) x) p' q') s with
   | none=>simp [hx] at hv
   | some r=>
    obtain ⟨ex1,s1⟩:=r;have h1:=main ex1 s1 hx;rw [hx] at hv
    cases ex1 with
    | normal=>
     simp only [ye,yr] at hv;obtain ⟨rfl,rfl⟩:=hv;exact wpIn_mono h1 (fun e a' w' hp=>ff.bP live hp)
    | ret=>simp only [ye,yr] at hv;obtain ⟨rfl,rfl⟩:=hv;exact h1
    | exit id=>simp only [ye,yr] at hv;obtain ⟨rfl,rfl⟩:=hv;exact h1
 | block id x ih=>
  intro l k j hj s ex s' hv ro lo m S w a cI ht hh hb hn bj fa cg;simp only [comp] at hv;generalize zH:comp O.P (O.hint h) x l k=qx at hv;obtain ⟨x',r⟩:=qx;simp only at hv;have main:∀(ex:Ex) (s':St),bF O.prog O.aS (ev O.prog O.aS j) (.ef id x') s=some (ex,s')->(Code.block id x).wpIn (WF ro) 0 O.P (ff O m S w s ex s' a.tmps.size lo) a w:=by
   intro ex s' hv;simp only [bF] at hv
   cases hx:bF O.prog O.aS (ev O.prog O.aS j) x' s with
   | none=>simp [hx] at hv
   | some q=>
    obtain ⟨ex1,s1⟩:=q;have h1:=ih l k j hj s ex1 s1 (by rw [zH];exact hx) ro lo m S w a cI ht hh hb hn bj fa cg
    refine wpIn_block (wpIn_mono h1 ?_);rintro e a1 w1 ⟨rfl,g⟩
    cases ex1 with
    | normal=>
     simp only [hx,ye,yr] at hv;obtain ⟨rfl,rfl⟩:=hv;exact ⟨rfl,g⟩
    | ret=>
     simp only [hx,ye,yr] at hv;obtain ⟨rfl,rfl⟩:=hv;exact ⟨rfl,g⟩
    | exit i=>
     simp only [hx] at hv
     cases QN:yz i id with
     | true=>
      rw [QN] at hv;simp only [yD,ye,yr] at hv;obtain ⟨rfl,rfl⟩:=hv
      have:=yt QN
      subst this;simp only [rT,Exit.inBlock,xE];exact ⟨rfl,g⟩
     | false=>
      rw [QN] at hv;simp only [yW,ye,yr] at hv;obtain ⟨rfl,rfl⟩:=hv;have ck:i≠id:=fun e=>by subst e;simp at QN
      simp only [rT,Exit.inBlock,ck,xn];exact ⟨rfl,g⟩
  have awF:∀live:List Nat,bF O.prog O.aS (ev O.prog O.aS j) (.seq (.ef id x') (.kp live)) s=some (ex,s')->(Code.block id x).wpIn (WF ro) 0 O.P (ff O m S w s ex s' a.tmps.size lo) a w:=by
   intro live hv;rw [show bF O.prog O.aS (ev O.prog O.aS j) (.seq (.ef id x') (.kp live)) s=match bF O.prog O.aS (ev O.prog O.aS j) (.ef id x') s with | some (.normal,s1)=>some (.normal,aG live s1) | r=>r from rfl] at hv
   cases hx:bF O.prog O.aS (ev O.prog O.aS j) (.ef id x') s with
   | none=>simp [hx] at hv
   | some r=>
    obtain ⟨ex1,s1⟩:=r;have h1:=main ex1 s1 hx;rw [hx] at hv
    cases ex1 with
    | normal=>
     simp only [ye,yr] at hv;obtain ⟨rfl,rfl⟩:=hv;exact wpIn_mono h1 (fun e a' w' hp=>ff.bP live hp)
    | ret=>simp only [ye,yr] at hv;obtain ⟨rfl,rfl⟩:=hv;exact h1
    | exit id=>simp only [ye,yr] at hv;obtain ⟨rfl,rfl⟩:=hv;exact h1
  split at hv
  ·exact awF _ hv
  ·exact main ex s' hv
 | loop x ih=>
  intro l k j hj s ex s' hv;simp only [comp] at hv;generalize zH:comp O.P (O.hint h) x (l+1) k=qx at hv;obtain ⟨x',r⟩:=qx;simp only at hv;have rounds:∀(j:Nat),j<=n->∀(s:St) (ex:Ex) (s':St),bF O.prog O.aS (ev O.prog O.aS j) (.loop ((O.hint h).live l) x') s=some (ex,s')->∃K,∀(ro:Option Nat) (lo:Nat) (m:Mp) (S:Nat->Prop) (w:ym) (a:Act),Aq ro w->cf O m S w s.tm a.tmps->aV O m S w s.hp s.ct->s.base<=s.ct->(O.hint h).n<=a.tmps.size->O.w0.heap.size<=lo->lo<=w.heap.size->Marks lo S w a.defers->
    Code.roundsIn (WF ro) 0 O.P x (ff O m S w s ex s' a.tmps.size lo) K a w:=by
   intro j
   induction j with
   | zero=>
    intro hj s ex s' hv;simp only [bF] at hv
    cases hx:bF O.prog O.aS (ev O.prog O.aS 0) x' (aG ((O.hint h).live l) s) with
    | none=>simp [hx] at hv
    | some q=>
     obtain ⟨ex1,s1⟩:=q;have stop:ex1≠.normal->ex=ex1/\s'=s1:=by
      intro ck;rw [hx] at hv
      cases ex1 with
      | normal=>exact absurd rfl ck
      | ret=>simp only [ye,yr] at hv;exact ⟨hv.1.symm,hv.2.symm⟩
      | exit id=>simp only [ye,yr] at hv;exact ⟨hv.1.symm,hv.2.symm⟩
     refine ⟨1,fun ro lo m S w a cI ht hh hb hn bj fa cg=>?_⟩;rw [roundsIn_succ];obtain ⟨m1,c1,c2,c3,c4,c5⟩:=Sg (live:=(O.hint h).live l) ht hh hb;have h1:=ih (l+1) k 0 hj _ ex1 s1 (by rw [zH];exact hx) ro lo m1 S w a cI c1 c2 (by rw [c3];exact c4) hn bj fa cg
     refine wpIn_mono h1 ?_;rintro e a1 w1 hp;have ah:=ff.then (O:=O) (m:=m) (S:=S) (w:=w) (s:=s) (ex1:= .normal) c3 c5 hp;obtain ⟨rfl,_⟩:=hp
     cases ex1 with
     | normal=>simp only [hx,Jz] at hv;cases hv
     | ret=>obtain ⟨rfl,rfl⟩:=stop (by simp);exact ah
     | exit id=>obtain ⟨rfl,rfl⟩:=stop (by simp);exact ah
   | succ j ihj=>
    intro hj s ex s' hv;simp only [bF] at hv
    cases hx:bF O.prog O.aS (ev O.prog O.aS (j+1)) x' (aG ((O.hint h).live l) s) with
    | none=>simp [hx] at hv
    | some q=>
     obtain ⟨ex1,s1⟩:=q;have stop:ex1≠.normal->ex=ex1/\s'=s1:=by
      intro ck;rw [hx] at hv
      cases ex1 with
      | normal=>exact absurd rfl ck
      | ret=>simp only [ye,yr] at hv;exact ⟨hv.1.symm,hv.2.symm⟩
      | exit id=>simp only [ye,yr] at hv;exact ⟨hv.1.symm,hv.2.symm⟩
     have more:∃K,ex1= .normal->∀(ro:Option Nat) (lo:Nat) (m:Mp) (S:Nat->Prop) (w:ym) (a:Act),Aq ro w->cf O m S w s1.tm a.tmps->aV O m S w s1.hp s1.ct->s1.base<=s1.ct->(O.hint h).n<=a.tmps.size->O.w0.heap.size<=lo->lo<=w.heap.size->Marks lo S w a.defers->
       Code.roundsIn (WF ro) 0 O.P x (ff O m S w s1 ex s' a.tmps.size lo) K a w:=by
      cases ex1 with
      | normal=>
       rw [hx] at hv;have fh:ev O.prog O.aS (j+1) (.loop ((O.hint h).live l) x') s1=some (ex,s'):=hv;rw [JA] at fh;obtain ⟨K,hK⟩:=ihj (by omega) s1 ex s' fh;exact ⟨K,fun _=>hK⟩
      | ret=>exact ⟨0,fun h=>by cases h⟩
      | exit id=>exact ⟨0,fun h=>by cases h⟩
     obtain ⟨K,hK⟩:=more;refine ⟨K+1,fun ro lo m S w a cI ht hh hb hn bj fa cg=>?_⟩;rw [roundsIn_succ];obtain ⟨m1,c1,c2,c3,c4,c5⟩:=Sg (live:=(O.hint h).live l) ht hh hb;have h1:=ih (l+1) k (j+1) hj _ ex1 s1 (by rw [zH];exact hx) ro lo m1 S w a cI c1 c2 (by rw [c3];exact c4) hn bj fa cg
     refine wpIn_mono h1 ?_;rintro e a1 w1 hp;have ah:=ff.then (O:=O) (m:=m) (S:=S) (w:=w) (s:=s) (ex1:= .normal) c3 c5 hp;obtain ⟨rfl,_⟩:=hp
     cases ex1 with
     | normal=>
      simp only [rT,Exit.then];obtain ⟨_,m2,S2,g1,g2,g3,g4,g5,g6,g7⟩:=ah;have h2:=hK rfl ro lo m2 S2 w1 a1 (NN g5 cI) g1 g2 (by rw [g3];exact g4) (by rw [g6];exact hn) bj (xv fa g5.size) g7
      rw [g6] at h2;revert h2;generalize hA:a.tmps.size=sz;intro h2;have step:∀(K:Nat) (a':Act) (w':ym),Code.roundsIn (WF ro) 0 O.P x (ff O m2 S2 w1 s1 ex s' sz lo) K a' w'->Code.roundsIn (WF ro) 0 O.P x (ff O m S w s ex s' sz lo) K a' w':=by
       intro K
       induction K with
       | zero=>intro a' w' CL;exact CL
       | succ K ihK=>
        intro a' w' CL;rw [roundsIn_succ] at CL ⊢;refine wpIn_mono CL (fun e a'' QA hq=>?_)
        cases e with
        | normal=>exact ihK a'' QA hq
        | exit id=>exact ff.then (ex1:= .normal) g3 g5 hq
        | goto x=>exact ff.then (ex1:= .normal) g3 g5 hq
        | ret=>exact ff.then (ex1:= .normal) g3 g5 hq
        | panic x=>exact ff.then (ex1:= .normal) g3 g5 hq
        | outgrown=>exact ff.then (ex1:= .normal) g3 g5 hq
      exact step K a1 w1 h2
     | ret=>obtain ⟨rfl,rfl⟩:=stop (by simp);exact ah
     | exit id=>obtain ⟨rfl,rfl⟩:=stop (by simp);exact ah
  obtain ⟨K,hK⟩:=rounds j hj s ex s' hv;intro ro lo m S w a cI ht hh hb hn bj fa cg;exact wpIn_loop_rounds K (hK ro lo m S w a cI ht hh hb hn bj fa cg)
 | scope x ih=>
  intro l k j hj s ex s' hv ro lo m S w a cI ht hh hb hn bj fa cg;simp only [comp] at hv;exact amo (ih l k j hj s ex s' hv ro lo m S w a cI ht hh hb hn bj fa cg) (fun l a w=>ff.none l)
 | rangeFunc f ps cT body iha ihb=>
  intro l k j hj s ex s' hv;simp only [comp] at hv;generalize zH:comp O.P (O.hint h) cT l k=qx at hv;obtain ⟨x',l1,k1⟩:=qx;simp only at hv;generalize Mf:comp O.P (O.hint h) body l1 k1=qy at hv;obtain ⟨y',l2,k2⟩:=qy;simp only at hv
  cases ha:Ax (O.hint h).n ps.toList with
  | false=>rw [ha] at hv;exact (Vy hv).elim
  | true=>
   rw [ha] at hv;exact awE hO (hC j hj) ⟨l,k,by rw [zH]⟩ ⟨l1,k1,by rw [Mf]⟩ ha hv
end
end
section
open Go
section
variable {O:bl} {m:Mp} {S:Nat->Prop} {w:ym}
def aac:∀(ax:List AV) (j i:Nat),af (dN j ax) (j+i)=ax.getD i .undef
 | [],j,i=>by simp [dN,af]
 | v::r,j,i=>by
  cases i with
  | zero=>simp [dN,af]
  | succ i=>
   simp only [dN,af];have hb:yz j (j+(i+1))=false:=by
    cases hq:yz j (j+(i+1)) with
    | false=>rfl
    | true=>have:=yt hq;omega
   rw [hb,show j+(i+1)=j+1+i by omega];rw [aac r (j+1) i]
   simp
def aad {ax:List AV} {args:Array yj} (n:Nat) (h:aA O.ae m S w ax args.toList):cf O m S w (dN 0 ax) (args++tg n undef):=by
 intro i
 have:=aac ax 0 i
 rw [Nat.zero_add] at this;rw [this,List.getD_eq_getElem?_getD]
 cases hv:ax[i]? with
 | none=>simp only [Option.getD_none,ai]
 | some v=>
  obtain ⟨u,h1,h2⟩:=SS h hv;have hl:i<args.size:=by
   grind
  have:(args++tg n undef).getD i undef=u:=by
   rw [Array.getD_eq_getD_getElem?,Array.getElem?_append_left hl]
   grind
  grind
def GD (tmps:Array yj):ybX->Sem yj
 | .tmp t=>pure (tmps.getD t undef)
 | .cell a t=>do loadVar t (<-asAddr (tmps.getD a undef))
def amp (fn:ybx) (tmps:Array yj):results fn tmps=(do let vs <-fn.results.mapM (GD tmps);pure (if h:vs.size=1 then vs[0] else .tuple vs)):=by
 rfl
def Si {s:St} {ct:Nat} {tmps:Array yj} (hh:aV O m S w s.hp ct) (ht:cf O m S w s.tm tmps):∀{rs:List ybX} {rv:List RV} {vs:List AV},qt O.P rs=some rv->mu s rv=some vs->
  ∃us,(rs.mapM (GD tmps)).run O.P w= .ok us w/\aA O.ae m S w vs us
 | [],rv,vs,h1,h2=>by
  simp only [qt,ye] at h1;subst h1;simp only [mu,ye] at h2;subst h2;exact ⟨[],by simp,by simp [aA]⟩
 | .tmp t::rs,rv,vs,h1,h2=>by
  simp only [qt] at h1
  cases hc:qt O.P rs with
  | none=>simp [hc] at h1
  | some l=>
   simp only [hc,ye] at h1;subst h1;simp only [mu,results1] at h2
   cases hl:mu s l with
   | none=>simp [hl] at h2
   | some WU=>
    simp only [hl,ye] at h2;subst h2;obtain ⟨us,g1,g2⟩:=Si hh ht hc hl;refine ⟨tmps.getD t undef::us,?_,by simp only [aA];exact ⟨_,_,rfl,ht t,g2⟩⟩
    rw [uv];simp only [GD,Sem.run_bind,Sem.run_pure,Result.andThen_ok];rw [g1];rfl
 | .cell a t::rs,rv,vs,h1,h2=>by
  simp only [qt] at h1
  cases hz:cN O.P t with
  | none=>simp [hz] at h1
  | some sz=>
   cases Mg:dX O.P t with
   | none=>simp [hz,Mg] at h1
   | some ag=>
    cases hc:qt O.P rs with
    | none=>simp [hz,Mg,hc] at h1
    | some l=>
     simp only [hz,Mg,hc,ye] at h1;subst h1;simp only [mu] at h2
     cases cO:results1 s (.cell a sz ag) with
     | none=>simp [cO] at h2
     | some v=>
      cases hl:mu s l with
      | none=>simp [cO,hl] at h2
      | some WU=>
       simp only [cO,hl,ye] at h2;subst h2;obtain ⟨us,g1,g2⟩:=Si hh ht hc hl;have ra:=ht a;have key:∃b o u,tmps.getD a undef= .pointer (some ⟨b,o,none⟩)/\(loadVar t ⟨b,o,none⟩).run O.P w= .ok u w/\ai O.ae m S w v u:=by
        simp only [results1] at cO;cases hta:af s.tm a<;>rw [hta] at cO ra<;>simp only [reduceCtorEq] at cO
        ·rename_i id o;simp only [ai] at ra;obtain ⟨p,hm,hp⟩:=ra
         cases hg:ao s.hp id with
         | none=>simp [hg] at cO
         | some ob=>
          cases ob<;>simp only [hg,reduceCtorEq] at cO
          have Xh:=SR (o:=0) (n:=0) hh hg hm;obtain ⟨u,q1,q2⟩:=On hz Mg (rE o _ p.b p.o Xh) cO;exact ⟨p.b,p.o+o,u,hp,q1,q2⟩
        ·rename_i cs;simp only [ai] at ra;obtain ⟨b,o,hp,_,_,Xh⟩:=ra;obtain ⟨u,q1,q2⟩:=On hz Mg Xh cO;exact ⟨b,o,u,hp,q1,q2⟩
       obtain ⟨b,o,u,q1,q2,q3⟩:=key;refine ⟨u::us,?_,by simp only [aA];exact ⟨_,_,rfl,q3,g2⟩⟩
       rw [uv]
       have:(GD tmps (.cell a t)).run O.P w= .ok u w:=by
        simp only [GD];rw [q1];simp [asAddr,q2]
       rw [Sem.run_bind,this,Result.andThen_ok,Sem.run_bind,g1];rfl
def alO {s:St} {ct:Nat} {tmps:Array yj} {fn:ybx} {rv:List RV} {v:AV} (hh:aV O m S w s.hp ct) (ht:cf O m S w s.tm tmps) (h1:qt O.P fn.results.toList=some rv) (h2:jr s rv=some v):
  ∃u,(results fn tmps).run O.P w= .ok u w/\ai O.ae m S w v u:=by
 unfold jr at h2
 cases hl:mu s rv with
 | none=>simp [hl] at h2
 | some vs=>
  obtain ⟨us,g1,g2⟩:=Si hh ht h1 hl;have hlen:=iw _ _ g2;have hm:(fn.results.mapM (GD tmps)).run O.P w= .ok us.toArray w:=by
   rw [Array.mapM_eq_mapM_toList];simp [g1]
  have fR:(results fn tmps).run O.P w= .ok (if h:us.toArray.size=1 then us.toArray[0] else .tuple us.toArray) w:=by
   rw [amp,Sem.run_bind,hm];rfl
  rw [hl] at h2
  split at h2
  ·rename_i v' pO;simp only [ye] at pO h2;subst pO;simp only [aA] at g2
   grind
  ·rename_i eD ck pO;simp only [ye] at pO h2;subst pO;subst h2;have h1:¬us.toArray.size=1:=by
    intro h
    have:vs.length=1:=by simp_all
    cases vs with
    | nil=>simp at this
    | cons x t=>
     cases t with
     | nil=>exact ck x rfl
     | cons y t=>simp at this
   simp only [ai]
   grind
  ·grind
def SB {s:St} {tmps:Array yj} {fn:ybx} {rv:List RV} {v:AV} {m0:Mp} {S0:Nat->Prop} {w0:ym} {hp0:Hp} {Mh:Nat} (h1:qt O.P fn.results.toList=some rv) (h2:jr s rv=some v) (eZ:Mh<=s.ct):∀(rs:List Nat) (w:ym),
  rs.Nodup->(∀r,r∈rs->w.heap[r]? =some (.deferred (some []))/\¬S r/\w0.heap.size<=r)->O.w0.heap.size<=w0.heap.size->aV O m S w s.hp s.ct->cf O m S w s.tm tmps->cp m0 S0 w0 hp0 m S w s.hp Mh->
  ybZ Fence.wide 0 O.P fn tmps (zY O m0 S0 w0 hp0 Mh v s.hp s.ct) (rs.map (fun r=>{target:= .collected r,args:=#[]})) .returning w
 | [],w,_,_,_,hh,ht,hf=>by
  obtain ⟨u,g1,g2⟩:=alO hh ht h1 h2;exact ⟨u,g1,u,m,S,rfl,hh,eZ,g2,hf⟩
 | r::rs,w,jV,hr,bj,hh,ht,hf=>by
  obtain ⟨gO,dE⟩:=List.nodup_cons.1 jV;obtain ⟨a1,a2,a3⟩:=hr r List.mem_cons_self;have fT:=Fo w r (.deferred none);have pM:¬eE m s.hp r:=fun ho=>aa0 hh ho _ a1
  have CL:=Zl hh fT a2 pM (xv bj a3)
  have aJ:fZ S w {w with heap:=w.heap.setIfInBounds r (.deferred none)}:=fun b hb=>fT.other b (fun e=>a2 (e▸hb))
  have re:cp m0 S0 w0 hp0 m S {w with heap:=w.heap.setIfInBounds r (.deferred none)} s.hp Mh:=by
   refine ⟨hf.os,hf.tape,hf.output,by rw [fT.size];exact hf.size,fun b hb ho=>(fT.other b (by omega)).trans (hf.same b hb ho),hf.sub,fun b hb=>(fT.other b (fun e=>a2 (e▸hf.sub b hb))).trans (hf.still b hb),hf.new,hf.own,hf.old,fun b x hb=>?_⟩
   obtain ⟨x',hx⟩:=hf.loops b x hb;exact ⟨x',(fT.other b (fun e=>by subst e;rw [a1] at hx;cases hx)).trans hx⟩
  refine ⟨by simp,.inl ⟨r,_,rfl,?_,SB h1 h2 eZ rs _ dE (fun r' bk=>?_) bj CL (BC (fun _ _ h=>h) (fun _ h=>h) aJ ht) re⟩⟩
  ·simp only [Instr.takeDeferred,Sem.run_bind,Zm (P:=O.P) a1 (fun _ _ _=>by simp),Result.andThen_ok,Ny (P:=O.P) a1 (fun _ _ _=>by simp),Sem.run_pure]
  ·obtain ⟨b1,b2,b3⟩:=hr r' (List.mem_cons_of_mem _ bk);exact ⟨(fT.other r' (fun e=>gO (e▸bk))).trans b1,b2,b3⟩
end
section
variable {O:bl} {self:cG}
def awG (hO:eU O) (hS:∀v s ex s',self v s=some (ex,s')->∀c h l k,(comp O.P (O.hint h) c l k).1=v->B9 O h c s ex s') {n:Nat} {F:av} (hF:O.prog n=some F) {hp:Hp} {ct:Nat} {ax:List AV} {ex:Ex} {s:St}
  (hv:self F.body ⟨dN 0 ax,hp,ct,ct⟩=some (ex,s)) (hex:ex= .normal\/ex= .ret) {v:AV} (hr:jr s F.fm=some v):B8 O n hp ct ax v s.hp s.ct:=by
 intro m S w args hh gI;obtain ⟨fn,q1,q2,q3⟩:=hO.prog n F hF;obtain ⟨c,q4,q5,q6,q7⟩:=R6 q2;refine .inl ⟨N6 q1 (by rw [q4];rfl) q3,?_⟩
 have hc:=hS _ _ _ _ hv c n 0 0 q5.symm;have hw:=hc none w.heap.size m S w {tmps:=args++tg (fn.ntmps-args.size) undef,defers:=[]} (fun l hl=>by cases hl) (aad _ gI) hh (yq _) (by simp;omega) hh.gH (yq _) ⟨[],rfl,by simp,by simp⟩
 refine callsIn_of_wp_marks (F:=Fence.wide) q1 q4 trivial (wpIn_mono hw ?_);rintro e a' w' ⟨rfl,m',S',k1,k2,k3,k4,k5,k6,rs,k7,k8,k9⟩;have main:ybZ Fence.wide 0 O.P fn a'.tmps (zY O m S w hp ct v s.hp s.ct) a'.defers .returning w':=by
  rw [k7];exact SB q6 hr k4 rs w' k8 k9 hh.gH k2 k1 k5
 rcases hex with rfl | rfl
 ·exact main
 ·exact main
def BO.mono {P:Program} {f:FuncId} {args:Array yj} {w:ym} {R R':Ending->ym->Prop} (h:BO P f args w R) (hr:∀e w',R e w'->R' e w'):BO P f args w R':=by
 rcases h with ⟨h1,h2⟩ | ⟨u,w',h1,h2⟩
 ·exact .inl ⟨h1,CallsIn.mono h2 hr⟩
 ·exact .inr ⟨u,w',h1,hr _ _ h2⟩
def ans {w:ym} {S:Nat->Prop} (hg:B7 O w) (hs:∀b,S b->b<w.heap.size):aV O fE S w [] 0:=
 ⟨(fun id o p h _=>by simp [ao] at h),(fun id p h=>by cases h),(fun i j oi oj pi pj h=>by simp [ao] at h),hs,(fun id p h=>by cases h),(fun id p h=>by cases h),hg.1,hg.2,(fun id o h=>by simp [ao] at h)⟩
def S8 {b:Nat} (h:eE fE [] b):False:=by
 obtain ⟨_,_,_,h,_⟩:=h;simp [ao] at h
def RZ {n:Nat} {ax:List AV} {v r:AV} {s:St} (h:B8 O n [] 0 ax v s.hp s.ct) (hr:result s.hp v=some r):fc O n ax r:=by
 intro w S args hg hs gI hp;refine BO.mono (h fE S w args (ans hg hs) gI) ?_;rintro e w' ⟨u,m',S',rfl,k1,k2,k3,k4⟩;have bj:∀b,eE m' s.hp b->w.heap.size<=b:=fun b hb=>(k4.own b hb).elim (fun h=>(S8 h).elim) (fun h=>h)
 obtain ⟨S2,g1,g2,g3,g4⟩:=anj (lo:=w.heap.size) k1 hr k3 bj;refine ⟨u,S2,rfl,⟨k4.os,k4.tape,k4.output,k4.size,fun b hb=>k4.same b hb S8⟩,fun b hb=>g1 b (k4.sub b hb),fun b hb=>?_,g3,g4⟩;rcases g2 b hb with h | h
 ·rcases k4.new b h with h | h | h
  ·exact .inl h
  ·exact (S8 h).elim
  ·exact .inr h
 ·exact .inr (bj b h)
def amq (hO:eU O) (hS:∀v s ex s',self v s=some (ex,s')->∀c h l k,(comp O.P (O.hint h) c l k).1=v->B9 O h c s ex s'):oW O self:=by
 have heap:∀(n:Nat) (F:av),O.prog n=some F->∀(hp:Hp) (ct:Nat) (ax:List AV) (ex:Ex) (s:St) (v:AV),self F.body ⟨dN 0 ax,hp,ct,ct⟩=some (ex,s)->(ex= .normal\/ex= .ret)->jr s F.fm=some v->B8 O n hp ct ax v s.hp s.ct:=
  fun n F hF hp ct ax ex s v h1 h2 h3=>awG hO hS hF h1 h2 h3
 refine ⟨?_,?_,fun hp ct l xs v ah aK hv=>apk hS hv⟩
 ·intro n ax r hv;unfold bK at hv
  cases hL:O.aS.pure n with
  | some sp=>rw [hL] at hv;exact hO.aS n sp ax r hL hv
  | none=>
   simp only [hL] at hv
   cases hF:O.prog n with
   | none=>simp [hF] at hv
   | some F=>
    simp only [hF] at hv
    split at hv
    ·rename_i s hb
     cases hr:jr s F.fm with
     | none=>simp [hr] at hv
     | some v=>simp only [hr] at hv;exact RZ (heap n F hF [] 0 ax .normal s v hb (.inl rfl) hr) hv
    ·rename_i s hb
     cases hr:jr s F.fm with
     | none=>simp [hr] at hv
     | some v=>simp only [hr] at hv;exact RZ (heap n F hF [] 0 ax .ret s v hb (.inr rfl) hr) hv
    ·cases hv
 ·intro hp ct n ax v ah aK hv;unfold ix at hv
  cases hL:O.aS.heap n with
  | some sp=>rw [hL] at hv;exact hO.GA n sp hp ct ax v ah aK hL hv
  | none=>
   simp only [hL] at hv
   cases hF:O.prog n with
   | none=>simp [hF] at hv
   | some F=>
    grind
def YW (hO:eU O):∀n,oW O (ev O.prog O.aS n):=by
 intro n
 induction n using Nat.strongRecOn with
 | _ n ih=>
  refine amq hO (fun v s ex s' hv c h l k hc=>?_)
  cases n with
  | zero=>rw [Jz] at hv;cases hv
  | succ n=>
   rw [JA,<-hc] at hv;exact ack hO n (fun k hk=>ih k (by omega)) h c l k n (yq _) s ex s' hv
def sound (hO:eU O) {n f:Nat} {ax:List AV} {r:AV} (h:WV O.prog O.aS n f ax=some r):fc O f ax r:=(YW hO n).pure f ax r h
end
end
def ic:List Nat->List Nat->Bool
 | [],_=>true
 | a::x,b::y=>yz a b&&ic x y
 | _::_,[]=>false
def nd (sub:List Nat):List Nat->Nat->Option Nat
 | [],k=>bif ic sub [] then some k else none
 | b::r,k=>bif ic sub (b::r) then some k else nd sub r (k+1)
def PN:List AV->Option AV
 | [.str s,.str sep]=>
  bif yQ s.length 4294967281 then
   match nd sep s 0 with
   | some i=>some (.az [.str (s.take i),.str (s.drop (i+sep.length)),.bool true])
   | none=>some (.az [.str s,.str [],.bool false])
  else none
 | _=>none
def NA:List AV->Option AV
 | [.str s,.str p]=>some (bif ic p s then .az [.str (s.drop p.length),.bool true] else .az [.str s,.bool false])
 | _=>none
def NB:List AV->Option AV
 | [.str s,.str p]=>some (.bool (ic p s))
 | _=>none
def No:List AV->Option AV
 | [.str s,.str p]=>some (.str (bif ic p s then s.drop p.length else s))
 | _=>none
def GF (i:Nat):List Nat->Bool
 | []=>false
 | j::r=>bif yz j i then true else GF i r
def lV (set:List Nat):List Nat->List Nat
 | []=>[]
 | b::r=>bif GF b set then lV set r else b::r
def FP:List Nat->Bool
 | []=>true
 | b::r=>yQ b 128&&FP r
def trimS:List AV->Option AV
 | [.str s,.str set]=>bif FP set&&(yQ s.length 4294967281&&yQ set.length 4294967281) then some (.str (lV set (lV set s.reverse).reverse)) else none
 | _=>none
def iC (s:List Nat):Nat->List Nat
 | 0=>[]
 | n+1=>s++iC s n
def BP:List AV->Option AV
 | [.str s,.int .i64 (.ofNat n)]=>bif yK n 1099511627776&&yK (s.length*n) 1099511627776 then some (.str (iC s n)) else none
 | _=>none
def nW:Nat->Nat->List Nat->List Nat
 | 0,_,acc=>acc
 | f+1,n,acc=>bif yQ n 10 then (48+n)::acc else nW f (n/10) ((48+n%10)::acc)
def aD (n:Nat):List Nat:=nW (n+1) n []
def aY:Int->List Nat
 | .ofNat n=>aD n
 | .negSucc n=>45::aD (n+1)
def Ca:Int->Bool
 | .ofNat n=>yQ n 9223372036854775808
 | .negSucc n=>yQ n 9223372036854775808
def Kz:List AV->Option AV
 | [.int .i64 n]=>bif Ca n then some (.str (aY n)) else none
 | _=>none
def Bw:List AV->Option AV
 | [.int .u64 (.ofNat n),.int .i64 10]=>bif yQ n 18446744073709551616 then some (.str (aD n)) else none
 | _=>none
def cV:List Nat->Nat->Option Nat
 | [],a=>some a
 | b::r,a=>bif yK 48 b&&yK b 57 then cV r (10*a+(b-48)) else none
def KA:List AV->Option AV
 | [.str s]=>
  bif yQ 0 s.length&&yK s.length 18 then
   match cV s 0 with | some n=>some (.az [.int .i64 n,.undef]) | none=>none
  else none
 | _=>none
def pc:List AV->Option AV
 | [.int .u64 (.ofNat x),.int .u64 (.ofNat y),.int .u64 (.ofNat c)]=>
  bif yK c 1&&(yQ x 18446744073709551616&&yQ y 18446744073709551616) then some (.az [.int .u64 ((x+y+c)%18446744073709551616:Nat),.int .u64 ((x+y+c)/18446744073709551616:Nat)]) else none
 | _=>none
def BV:List AV->Option AV
 | [.int .u64 (.ofNat x),.int .u64 (.ofNat y),.int .u64 (.ofNat c)]=>
  bif yK c 1&&(yQ x 18446744073709551616&&yQ y 18446744073709551616) then some (.az [.int .u64 ((x+18446744073709551616*2-y-c)%18446744073709551616:Nat),.int .u64 (bif yK (y+c) x then 0 else 1)]) else none
 | _=>none
def sN:List AV->Option AV
 | [.int .u64 (.ofNat x),.int .u64 (.ofNat y)]=>bif yQ x 18446744073709551616&&yQ y 18446744073709551616 then some (.az [.int .u64 (x*y/18446744073709551616:Nat),.int .u64 (x*y%18446744073709551616:Nat)]) else none
 | _=>none
def eX:Nat->Nat->Nat
 | 0,_=>0
 | f+1,n=>bif yz n 0 then 0 else 1+eX f (n/2)
def JR:List AV->Option AV
 | [.int .u64 (.ofNat x)]=>bif yQ x 18446744073709551616 then some (.int .i64 (eX 64 x)) else none
 | _=>none
def Gn:List AV->Option AV
 | [.int .u64 (.ofNat x)]=>bif yQ x 18446744073709551616 then some (.int .i64 (64-eX 64 x:Nat)) else none
 | _=>none
section
open Go
section
variable {O:bl} {n:Nat}
def IZ {w w':ym} (h:RowKit.Below w.heap.size w w'):Calm w w':=⟨h.os,h.tape,h.output,h.size,h.block⟩
def ant {w:ym} (k:Nat):Calm w (w.drewN k):=⟨rfl,rfl,rfl,yq _,fun _ _=>rfl⟩
def anu {w:ym} (h:B7 O w) {a:Addr} {v:yj} (hc:O.w0.cell? a=some v):w.cell? a=some v:=by
 have hb:a.block<O.w0.heap.size:=by
  unfold World.cell? at hc
  cases hq:O.w0.heap[a.block]? with
  | none=>simp [hq] at hc
  | some o=>exact (Array.getElem?_eq_some_iff.1 hq).1
 unfold World.cell? at hc ⊢;rw [h.1 _ hb];exact hc
def qd {ax:List AV} {r:AV} (hr:∀S w' lo u,ai O.ae fE S w' r u->pq O.ae S w' lo r u)
  (gm:∀args w,(callFunc (O.ae n) args).run O.P w= .ok (.enter (O.ae n) args) w)
  (h:∀w S args,B7 O w->aA O.ae fE S w ax args.toList->wh O.P (O.ae n) args w fun e w'=>∃u,e= .returned u/\Calm w w'/\∀S,ai O.ae fE S w' r u):fc O n ax r:=by
 intro w S args hg hS eO _;refine .inl ⟨gm args w,Go.callsIn_wide.2 ((h w S args hg eO).mono ?_)⟩;rintro e w' ⟨u,rfl,hc,hu⟩;exact ⟨u,S,rfl,hc,fun _ h=>h,fun _ h=> .inl h,fun b hb=>Nat.lt_of_lt_of_le (hS b hb) hc.size,hr S w' _ u (hu S)⟩
def aae {ax:List AV} {r:AV} (hr:∀S w' lo u,ai O.ae fE S w' r u->pq O.ae S w' lo r u)
  (h:∀w S args,aA O.ae fE S w ax args.toList->∃u,(callFunc (O.ae n) args).run O.P w= .ok (.value u) w/\∀S,ai O.ae fE S w r u):fc O n ax r:=by
 intro w S args _ hS eO _;obtain ⟨u,h1,h2⟩:=h w S args eO;exact .inr ⟨u,w,h1,u,S,rfl,Calm.refl,fun _ h=>h,fun _ h=> .inl h,hS,hr S w _ u (h2 S)⟩
def JB {s:List Nat}:∀S w' lo u,ai O.ae fE S w' (.str s) u->pq O.ae S w' lo (.str s) u:=fun S w' lo u h=>⟨[],rfl,h,rfl⟩
def acm {k:IntKind} {z:Int}:∀S w' lo u,ai O.ae fE S w' (.int k z) u->pq O.ae S w' lo (.int k z) u:=fun S w' lo u h=>⟨[],rfl,h,rfl⟩
def apm {b:Bool}:∀S w' lo u,ai O.ae fE S w' (.bool b) u->pq O.ae S w' lo (.bool b) u:=fun S w' lo u h=>⟨[],rfl,h,rfl⟩
def Zn {S:Nat->Prop} {w':ym} {lo:Nat}:∀{vs:List AV} {us:List yj},(∀v,v∈vs->(∀ex sz k cs,v≠.bV ex sz k cs)/\a7 v=true)->aA O.ae fE S w' vs us->ma O.ae S w' lo vs us []
 | [],us,_,h=>by simp only [aA] at h;exact ⟨h,rfl⟩
 | v::vs,us,hv,h=>by
  simp only [aA] at h;obtain ⟨u,t,rfl,h1,h2⟩:=h;have h3:=hv v (by simp);refine ⟨u,t,[],[],rfl,rfl,?_,Zn (fun v hm=>hv v (by simp [hm])) h2⟩;cases v<;>first | exact ⟨rfl,h1,h3.2⟩ | exact absurd rfl (h3.1 _ _ _ _)
def FG {vs:List AV} (hv:∀v,v∈vs->(∀ex sz k cs,v≠.bV ex sz k cs)/\a7 v=true):∀S w' lo u,ai O.ae fE S w' (.az vs) u->pq O.ae S w' lo (.az vs) u:=by
 intro S w' lo u h;obtain ⟨xs,rfl,h⟩:=h;exact ⟨xs,[],rfl,Zn hv h,by simp⟩
def Pd {S:Nat->Prop} {w:ym} {a:AV} {args:Array yj} (h:aA O.ae fE S w [a] args.toList):∃u,args=#[u]/\ai O.ae fE S w a u:=by
 simp only [aA] at h
 grind
def Cb {S:Nat->Prop} {w:ym} {a b:AV} {args:Array yj} (h:aA O.ae fE S w [a,b] args.toList):∃u v,args=#[u,v]/\ai O.ae fE S w a u/\ai O.ae fE S w b v:=by
 simp only [aA] at h
 grind
def ae6 {S:Nat->Prop} {w:ym} {a b c:AV} {args:Array yj} (h:aA O.ae fE S w [a,b,c] args.toList):∃u v x,args=#[u,v,x]/\ai O.ae fE S w a u/\ai O.ae fE S w b v/\ai O.ae fE S w c x:=by
 simp only [aA] at h
 grind
def I0 {S:Nat->Prop} {w:ym} {s:List Nat} {l:List UInt8} (h:l.map xf=s):ai O.ae fE S w (.str s) (.string ⟨l.toArray⟩):=by
 simp only [ai];exact ⟨_,rfl,h⟩
def toNat_inj {a b:UInt8}:yz a.toNat b.toNat=(a==b):=by
 by_cases h:a=b
 ·simp_all
 ·have h':a.toNat≠b.toNat:=fun e=>h (UInt8.toNat_inj.1 e)
  have e:(a==b)=false:=by simp_all
  rw [e]
  cases hq:yz a.toNat b.toNat with
  | false=>rfl
  | true=>exact absurd (yt hq) h'
def I7:∀(p s:List UInt8),ic (p.map xf) (s.map xf)=p.isPrefixOf s
 | [],s=>by cases s<;>rfl
 | a::p,[]=>rfl
 | a::p,b::s=>by
  simp only [xd,ic,List.isPrefixOf,I7 p s,toNat_inj]
def Zo:∀(s sep:List UInt8) (k:Nat),nd (sep.map xf) (s.map xf) k=if 0<=Lib.index s sep then some (k+(Lib.index s sep).toNat) else none
 | [],sep,k=>by
  simp only [List.map_nil,nd,Lib.index]
  cases sep with
  | nil=>simp [ic]
  | cons a r=>simp [ic]
 | b::s,sep,k=>by
  have ih:=Zo s sep (k+1);have hp:=I7 sep (b::s);simp only [xd,nd,hp,Lib.index]
  grind
def aa3 (b:UInt8):∀cs:List UInt8,GF b.toNat (cs.map xf)=cs.contains b
 | []=>rfl
 | c::cs=>by
  simp only [xd,GF,aa3 b cs,List.contains_cons,toNat_inj]
  grind
def SC (cs:List UInt8):∀l:List UInt8,lV (cs.map xf) (l.map xf)=(l.dropWhile (cs.contains ·)).map xf
 | []=>rfl
 | b::l=>by
  simp only [xd,lV,aa3,List.dropWhile_cons,SC cs l]
  grind
def aa4 (l:List UInt8):∀n,iC (l.map xf) n=(Lib.repeatL l n).map xf
 | 0=>rfl
 | n+1=>by simp only [iC,Lib.repeatL,xg,aa4 l n]
def YX:∀(f n:Nat) (acc:List Nat),n<f->nW f n acc=(Lib.decDigits n).map xf++acc
 | 0,n,acc,h=>by omega
 | f+1,n,acc,h=>by
  rw [nW,Lib.decDigits];by_cases hn:n<10
  ·rw [show yQ n 10=true from yx hn,yD,dif_pos hn]
   have:(yby (48+n)).toNat=48+n:=by
    rw [yaA];omega
   grind
  ·have hb:yQ n 10=false:=by
    cases hq:yQ n 10 with
    | false=>rfl
    | true=>exact absurd (yB hq) (by omega)
   rw [hb,yW,dif_neg hn,YX f (n/10) _ (by omega),xg,List.append_assoc]
   have:(yby (48+n%10)).toNat=48+n%10:=by
    rw [yaA];omega
   grind
def S9 (n:Nat):aD n=(Lib.decDigits n).map xf:=by
 rw [aD,YX (n+1) n [] (by omega),List.append_nil]
def apo (n:Int):aY n=(Lib.itoa n).map xf:=by
 cases n with
 | ofNat k=>
  have:¬ybg k<0:=by simp
  simp only [aY,Lib.itoa,this,xn,S9];rfl
 | negSucc k=>
  have:Int.negSucc k<0:=Int.negSucc_lt_zero k
  simp only [aY,Lib.itoa,this,xE,S9,xd];rfl
def Ta:∀f x:Nat,eX f x=Lib.bitLenAux f x
 | 0,_=>rfl
 | f+1,x=>by
  rw [eX,Lib.bitLenAux];by_cases h:x=0
  ·simp_all
  ·have hb:yz x 0=false:=by
    cases hq:yz x 0 with
    | false=>rfl
    | true=>exact absurd (yt hq) h
   rw [hb,yW,yo h,Ta f]
def Zp:∀{cs:List UInt8},FP (cs.map xf)=true->∀(j:Nat) b,cs[j]? =some b->b.toNat<128
 | [],_,j,b,h=>by simp at h
 | c::cs,h,j,b,hb=>by
  simp only [xd,FP,yi] at h
  cases j with
  | zero=>
   simp_all
  | succ j=>exact Zp h.2 j b (by simpa using hb)
def aa5:∀{l:List UInt8} {a z:Nat},cV (l.map xf) a=some z->Lib.decFrom a l=some z
 | [],a,z,h=>h
 | b::l,a,z,h=>by
  simp only [xd,cV] at h
  cases hb:(yK 48 b.toNat&&yK b.toNat 57) with
  | false=>rw [hb] at h;cases h
  | true=>
   rw [hb] at h;simp only [yi] at hb;have h1:=yB hb.1;have h2:=yB hb.2
   have:=aa5 h
   rw [Lib.decFrom,Lib.digitVal,yA ⟨h1,h2⟩]
   grind
def apq {l:List UInt8} {z:Nat} (h:cV (l.map xf) 0=some z) (h0:0<l.length):Lib.atoi l=some (z:Int):=by
 cases l with
 | nil=>simp at h0
 | cons b r=>
  have hd:=aa5 h;have hb:48<=b.toNat:=by
   simp only [xd,cV] at h
   cases hb:(yK 48 b.toNat&&yK b.toNat 57) with
   | false=>rw [hb] at h;cases h
   | true=>
    simp_all
  have h1:(b==45)=false:=by
   have:b≠45:=fun e=>by subst e;exact absurd hb (by decide)
   grind
  have h2:(b==43)=false:=by
   have:b≠43:=fun e=>by subst e;exact absurd hb (by decide)
   grind
  simp only [Lib.atoi,h1,h2,yN,xn,Lib.decNat,List.isEmpty_cons,hd,Option.map_some]
section
variable {f:FuncId}
def als (hf:O.ae n=f) (gm:∀args w,(callFunc f args).run O.P w= .ok (.enter f args) w)
  (hc:∀(s p:ByteArray) (w:ym),wh O.P f #[.string s,.string p] w fun e w'=>e= .returned (.tuple #[.string ⟨(Lib.trimPrefix s.data.toList p.data.toList).toArray⟩,.bool (Lib.hasPrefix s.data.toList p.data.toList)])/\w'=w):
  ∀ax r,NA ax=some r->fc O n ax r:=by
 intro ax r h;unfold NA at h
 split at h
 ·rename_i s p;simp only [ye] at h;subst h;refine qd ?_ (by rw [hf];exact gm) ?_
  ·cases ic p s<;>exact FG (by simp [a7])
  ·intro w S args hg eO;obtain ⟨u,v,rfl,h1,h2⟩:=Cb eO;obtain ⟨t1,rfl,rfl⟩:=h1;obtain ⟨t2,rfl,rfl⟩:=h2;rw [hf];refine (hc t1 t2 w).mono ?_;rintro e w' ⟨rfl,rfl⟩;refine ⟨_,rfl,Calm.refl,fun S=>?_⟩;rw [I7,yk];unfold Lib.trimPrefix Lib.hasPrefix
   cases hp:t2.data.toList.isPrefixOf t1.data.toList with
   | true=>
    simp only [yD,xE,ai,aA]
    simp_all
   | false=>
    simp only [yW,yN,xn,ai,aA]
    grind
 ·cases h
def alt (hf:O.ae n=f) (gm:∀args w,(callFunc f args).run O.P w= .ok (.enter f args) w)
  (hc:∀(s p:ByteArray) (w:ym),wh O.P f #[.string s,.string p] w fun e w'=>e= .returned (.bool (Lib.hasPrefix s.data.toList p.data.toList))/\w'=w):
  ∀ax r,NB ax=some r->fc O n ax r:=by
 intro ax r h;unfold NB at h
 split at h
 ·rename_i s p;simp only [ye] at h;subst h;refine qd apm (by rw [hf];exact gm) ?_
  intro w S args hg eO;obtain ⟨u,v,rfl,h1,h2⟩:=Cb eO;obtain ⟨t1,rfl,rfl⟩:=h1;obtain ⟨t2,rfl,rfl⟩:=h2;rw [hf];refine (hc t1 t2 w).mono ?_;rintro e w' ⟨rfl,rfl⟩;refine ⟨_,rfl,Calm.refl,fun S=>?_⟩;rw [I7];simp only [ai,Lib.hasPrefix]
 ·cases h
def alp (hf:O.ae n=f) (gm:∀args w,(callFunc f args).run O.P w= .ok (.enter f args) w)
  (hc:∀(s p:ByteArray) (w:ym),wh O.P f #[.string s,.string p] w fun e w'=>e= .returned (.string ⟨(Lib.trimPrefix s.data.toList p.data.toList).toArray⟩)/\w'=w):
  ∀ax r,No ax=some r->fc O n ax r:=by
 intro ax r h;unfold No at h
 split at h
 ·rename_i s p;simp only [ye] at h;subst h;refine qd JB (by rw [hf];exact gm) ?_
  intro w S args hg eO;obtain ⟨u,v,rfl,h1,h2⟩:=Cb eO;obtain ⟨t1,rfl,rfl⟩:=h1;obtain ⟨t2,rfl,rfl⟩:=h2;rw [hf];refine (hc t1 t2 w).mono ?_;rintro e w' ⟨rfl,rfl⟩;refine ⟨_,rfl,Calm.refl,fun S=>?_⟩;rw [I7,yk];refine I0 ?_;unfold Lib.trimPrefix Lib.hasPrefix
  cases hp:t2.data.toList.isPrefixOf t1.data.toList with
  | true=>simp [List.map_drop]
  | false=>simp
 ·cases h
def ark (hf:O.ae n=f) (gm:∀args w,(callFunc f args).run O.P w= .ok (.enter f args) w) {a:Addr} {m:Int} (hm:O.w0.cell? a=some (.int .i64 m))
  (hc:∀(s sep:ByteArray) (w:ym),s.size<4294967281->w.cell? a=some (.int .i64 m)->wh O.P f #[.string s,.string sep] w fun e w'=>e= .returned (.tuple #[.string ⟨(Lib.cut s.data.toList sep.data.toList).1.toArray⟩,.string ⟨(Lib.cut s.data.toList sep.data.toList).2.1.toArray⟩,.bool (Lib.cut s.data.toList sep.data.toList).2.2])/\∃n,w'=w.drewN n):
  ∀ax r,PN ax=some r->fc O n ax r:=by
 intro ax r h;unfold PN at h
 split at h
 ·rename_i s sep
  cases hb:yQ s.length 4294967281 with
  | false=>rw [hb] at h;cases h
  | true=>
   rw [hb] at h;have key:∀(q:List UInt8×List UInt8×Bool),(∀t1 t2:ByteArray,t1.data.toList.map xf=s->t2.data.toList.map xf=sep->r= .az [.str ((Lib.cut t1.data.toList t2.data.toList).1.map xf),.str ((Lib.cut t1.data.toList t2.data.toList).2.1.map xf),.bool (Lib.cut t1.data.toList t2.data.toList).2.2])->
     (∃a b c,r= .az [.str a,.str b,.bool c])->fc O n [.str s,.str sep] r:=by
    intro q hq atU;obtain ⟨a',b',c',rfl⟩:=atU;refine qd (FG (by simp [a7])) (by rw [hf];exact gm) ?_
    intro w S args hg eO;obtain ⟨u,v,rfl,h1,h2⟩:=Cb eO;obtain ⟨t1,rfl,e1⟩:=h1;obtain ⟨t2,rfl,e2⟩:=h2;rw [hf];have hl:t1.size<4294967281:=by
     have:=nZ hb
     rw [<-e1,yk] at this
     simp_all
    refine (hc t1 t2 w hl (anu hg hm)).mono ?_;rintro e w' ⟨rfl,k,rfl⟩;refine ⟨_,rfl,ant k,fun S=>?_⟩;simp only [ai,aA]
    grind
   refine key ([],[],false) ?_ ?_
   ·intro t1 t2 e1 e2;subst e1;subst e2;rw [Zo] at h;unfold Lib.cut;by_cases h0:0<=Lib.index t1.data.toList t2.data.toList
    ·simp_all
    ·grind
   ·grind
 ·cases h
def apr (hf:O.ae n=f) (gm:∀args w,(callFunc f args).run O.P w= .ok (.enter f args) w)
  (hc:∀(s cs:ByteArray) (w:ym),s.size<=9223372036854775807->cs.size<4294967281->(∀(j:Nat) b,cs.data.toList[j]? =some b->b.toNat<128)->wh O.P f #[.string s,.string cs] w fun e w'=>e= .returned (.string ⟨(Lib.trimS s.data.toList cs.data.toList).toArray⟩)/\RowKit.Below w.heap.size w w'):
  ∀ax r,trimS ax=some r->fc O n ax r:=by
 intro ax r h;unfold trimS at h
 split at h
 ·rename_i s cs
  cases hb:(FP cs&&(yQ s.length 4294967281&&yQ cs.length 4294967281)) with
  | false=>rw [hb] at h;cases h
  | true=>
   rw [hb] at h;simp only [yD,ye] at h;subst h;simp only [yi] at hb;refine qd JB (by rw [hf];exact gm) ?_
   intro w S args hg eO;obtain ⟨u,v,rfl,h1,h2⟩:=Cb eO;obtain ⟨t1,rfl,rfl⟩:=h1;obtain ⟨t2,rfl,rfl⟩:=h2;have mP:=nZ hb.2.1;have pJ:=nZ hb.2.2;rw [yk] at mP pJ;rw [hf];refine (hc t1 t2 w (by rw [Lib.size_eq];omega) (by rw [Lib.size_eq];omega) (Zp hb.1)).mono ?_;rintro e w' ⟨rfl,hw⟩;refine ⟨_,rfl,IZ hw,fun S=>I0 ?_⟩;simp only [Lib.trimS,Lib.trimLeftS,Lib.trimRightS];rw [<-yad,SC,<-yad,SC]
 ·cases h
def amr (hf:O.ae n=f) (gm:∀args w,(callFunc f args).run O.P w= .ok (.enter f args) w)
  (hc:∀(s:ByteArray) (c:Nat) (w:ym),c<=9223372036854775807->s.size*c<=140737488355328->wh O.P f #[.string s,.int .i64 c] w fun e w'=>e= .returned (.string ⟨(Lib.repeatL s.data.toList c).toArray⟩)/\RowKit.Below w.heap.size w w'):
  ∀ax r,BP ax=some r->fc O n ax r:=by
 intro ax r h;unfold BP at h
 split at h
 ·rename_i s c
  cases hb:(yK c 1099511627776&&yK (s.length*c) 1099511627776) with
  | false=>rw [hb] at h;cases h
  | true=>
   rw [hb] at h;simp only [yD,ye] at h;subst h;simp only [yi] at hb;have l1:=yB hb.1;have l2:=yB hb.2;refine qd JB (by rw [hf];exact gm) ?_
   intro w S args hg eO;obtain ⟨u,v,rfl,h1,h2⟩:=Cb eO;obtain ⟨t1,rfl,rfl⟩:=h1;subst h2;rw [hf];rw [yk] at l2;refine (hc t1 c w (by omega) (by rw [Lib.size_eq];omega)).mono ?_;rintro e w' ⟨rfl,hw⟩;exact ⟨_,rfl,IZ hw,fun S=>I0 (aa4 _ _).symm⟩
 ·cases h
def aps (hf:O.ae n=f) (gm:∀args w,(callFunc f args).run O.P w= .ok (.enter f args) w)
  (hc:∀(z:Int) (w:ym),-9223372036854775808<=z->z<=9223372036854775807->B7 O w->wh O.P f #[.int .i64 z] w fun e w'=>e= .returned (.string ⟨(Lib.itoa z).toArray⟩)/\Calm w w'):
  ∀ax r,Kz ax=some r->fc O n ax r:=by
 intro ax r h;unfold Kz at h
 split at h
 ·rename_i z
  cases hb:Ca z with
  | false=>rw [hb] at h;cases h
  | true=>
   rw [hb] at h;simp only [yD,ye] at h;subst h;have hz: -9223372036854775808<=z/\z<=9223372036854775807:=by
    cases z with
    | ofNat k=>have:=nZ hb;show -9223372036854775808<=(k:Int)/\(k:Int)<=9223372036854775807;omega
    | negSucc k=>have:=nZ hb;omega
   refine qd JB (by rw [hf];exact gm) ?_
   intro w S args hg eO;obtain ⟨u,rfl,h1⟩:=Pd eO;subst h1;rw [hf];refine (hc z w hz.1 hz.2 hg).mono ?_;rintro e w' ⟨rfl,hw⟩;exact ⟨_,rfl,hw,fun S=>I0 (apo z).symm⟩
 ·cases h
def alq (hf:O.ae n=f) (gm:∀args w,(callFunc f args).run O.P w= .ok (.enter f args) w)
  (hc:∀(z:Nat) (w:ym),z<18446744073709551616->B7 O w->wh O.P f #[.int .u64 z,.int .i64 10] w fun e w'=>e= .returned (.string ⟨(Lib.decDigits z).toArray⟩)/\Calm w w'):
  ∀ax r,Bw ax=some r->fc O n ax r:=by
 intro ax r h;unfold Bw at h
 split at h
 ·rename_i z
  cases hb:yQ z 18446744073709551616 with
  | false=>rw [hb] at h;cases h
  | true=>
   rw [hb] at h;simp only [yD,ye] at h;subst h;refine qd JB (by rw [hf];exact gm) ?_
   intro w S args hg eO;obtain ⟨u,v,rfl,h1,h2⟩:=Cb eO;subst h1;subst h2;rw [hf];refine (hc z w (nZ hb) hg).mono ?_;rintro e w' ⟨rfl,hw⟩;exact ⟨_,rfl,hw,fun S=>I0 (S9 z).symm⟩
 ·cases h
def apt (hf:O.ae n=f) (gm:∀args w,(callFunc f args).run O.P w= .ok (.enter f args) w)
  (hc:∀(s:ByteArray) (z:Int) (w:ym),s.size<=18->Lib.atoi s.data.toList=some z->wh O.P f #[.string s] w fun e w'=>e= .returned (.tuple #[.int .i64 z,.nilIface])/\Calm w w'):
  ∀ax r,KA ax=some r->fc O n ax r:=by
 intro ax r h;unfold KA at h
 split at h
 ·rename_i s
  cases hb:(yQ 0 s.length&&yK s.length 18) with
  | false=>rw [hb] at h;cases h
  | true=>
   rw [hb] at h;simp only [yD] at h;simp only [yi] at hb;have l1:=nZ hb.1;have l2:=yB hb.2
   split at h
   ·rename_i z hz;simp only [ye] at h;subst h;refine qd (FG (by simp [a7])) (by rw [hf];exact gm) ?_
    intro w S args hg eO;obtain ⟨u,rfl,h1⟩:=Pd eO;obtain ⟨t1,rfl,rfl⟩:=h1;rw [yk] at l1 l2;have ha:Lib.atoi t1.data.toList=some (z:Int):=apq hz l1;rw [hf];refine (hc t1 z w (by rw [Lib.size_eq];exact l2) ha).mono ?_
    simp only [ai,aA]
    grind
   ·cases h
 ·cases h
def anv (hf:O.ae n=f) (gm:∀args w,(callFunc f args).run O.P w= .ok (.enter f args) w)
  (hc:∀(x y:Nat) (w:ym),x<18446744073709551616->y<18446744073709551616->wh O.P f #[.int .u64 x,.int .u64 y] w fun e w'=>e= .returned (.tuple #[.int .u64 ((x*y/18446744073709551616:Nat):Int),.int .u64 ((x*y%18446744073709551616:Nat):Int)])/\w'=w):
  ∀ax r,sN ax=some r->fc O n ax r:=by
 intro ax r h;unfold sN at h
 split at h
 ·rename_i x y
  cases hb:(yQ x 18446744073709551616&&yQ y 18446744073709551616) with
  | false=>rw [hb] at h;cases h
  | true=>
   rw [hb] at h;simp only [yD,ye] at h;subst h;simp only [yi] at hb;refine qd (FG (by simp [a7])) (by rw [hf];exact gm) ?_
   intro w S args hg eO;obtain ⟨u,v,rfl,h1,h2⟩:=Cb eO;subst h1;subst h2;rw [hf];refine (hc x y w (nZ hb.1) (nZ hb.2)).mono ?_;rintro e w' ⟨rfl,rfl⟩;refine ⟨_,rfl,Calm.refl,fun S=>?_⟩;simp only [ai,aA]
   grind
 ·cases h
def anw (hf:O.ae n=f) (gm:∀args w,(callFunc f args).run O.P w= .ok (.enter f args) w)
  (hc:∀(x:Int) (w:ym),0<=x->x<=18446744073709551615->wh O.P f #[.int .u64 x] w fun e w'=>e= .returned (.int .i64 (Lib.bitLen x.toNat:Nat))/\w'=w):
  ∀ax r,JR ax=some r->fc O n ax r:=by
 intro ax r h;unfold JR at h
 split at h
 ·rename_i x
  cases hb:yQ x 18446744073709551616 with
  | false=>rw [hb] at h;cases h
  | true=>
   rw [hb] at h;simp only [yD,ye] at h;subst h
   have:=nZ hb
   refine qd acm (by rw [hf];exact gm) ?_
   intro w S args hg eO;obtain ⟨u,rfl,h1⟩:=Pd eO;subst h1;rw [hf];refine (hc (ybg x) w (tQ x) (by show (x:Int)<=_;omega)).mono ?_;rintro e w' ⟨rfl,rfl⟩;refine ⟨_,rfl,Calm.refl,fun S=>?_⟩;rw [Ta];rfl
 ·cases h
def apu (hf:O.ae n=f) (gm:∀args w,(callFunc f args).run O.P w= .ok (.enter f args) w)
  (hc:∀(x:Int) (w:ym),0<=x->x<=18446744073709551615->wh O.P f #[.int .u64 x] w fun e w'=>e= .returned (.int .i64 (64-(Lib.bitLen x.toNat:Nat)))/\w'=w):
  ∀ax r,Gn ax=some r->fc O n ax r:=by
 intro ax r h;unfold Gn at h
 split at h
 ·rename_i x
  cases hb:yQ x 18446744073709551616 with
  | false=>rw [hb] at h;cases h
  | true=>
   rw [hb] at h;simp only [yD,ye] at h;subst h
   have:=nZ hb
   have hle:∀f x,Lib.bitLenAux f x<=f:=by
    intro f
    induction f with
    | zero=>intro x;exact yq _
    | succ f ih=>
     intro x;rw [Lib.bitLenAux]
     grind
   refine qd acm (by rw [hf];exact gm) ?_
   intro w S args hg eO;obtain ⟨u,rfl,h1⟩:=Pd eO;subst h1;rw [hf];refine (hc (ybg x) w (tQ x) (by show (x:Int)<=_;omega)).mono ?_;rintro e w' ⟨rfl,rfl⟩;refine ⟨_,rfl,Calm.refl,fun S=>?_⟩;simp only [ai,Ta];show Value.int .i64 (64-(Lib.bitLenAux 64 x:Int))=Value.int .i64 ((64-Lib.bitLenAux 64 x:Nat):Int)
   grind
 ·cases h
def anx (hf:O.ae n=f)
  (hc:∀(x y c:Nat) (w:ym),c<=1->(callFunc f #[.int .u64 x,.int .u64 y,.int .u64 c]).run O.P w= .ok (.value (.tuple #[.int .u64 (((x+y+c)%18446744073709551616:Nat):Int),.int .u64 (((x+y+c)/18446744073709551616:Nat):Int)])) w):
  ∀ax r,pc ax=some r->fc O n ax r:=by
 intro ax r h;unfold pc at h
 split at h
 ·rename_i x y c
  cases hb:(yK c 1&&(yQ x 18446744073709551616&&yQ y 18446744073709551616)) with
  | false=>rw [hb] at h;cases h
  | true=>
   rw [hb] at h;simp only [yD,ye] at h;subst h;simp only [yi] at hb;refine aae (FG (by simp [a7])) ?_;intro w S args eO;obtain ⟨u,v,z,rfl,h1,h2,h3⟩:=ae6 eO;subst h1;subst h2;subst h3;rw [hf];refine ⟨_,hc x y c w (yB hb.1),fun S=>?_⟩;simp only [ai,aA]
   grind
 ·cases h
def anz (hf:O.ae n=f)
  (hc:∀(x y b:Nat) (w:ym),b<=1->(callFunc f #[.int .u64 x,.int .u64 y,.int .u64 b]).run O.P w= .ok (.value (.tuple #[.int .u64 (((x+18446744073709551616-y-b)%18446744073709551616:Nat):Int),.int .u64 ((if x<y+b then 1 else 0:Nat):Int)])) w):
  ∀ax r,BV ax=some r->fc O n ax r:=by
 intro ax r h;unfold BV at h
 split at h
 ·rename_i x y c
  cases hb:(yK c 1&&(yQ x 18446744073709551616&&yQ y 18446744073709551616)) with
  | false=>rw [hb] at h;cases h
  | true=>
   rw [hb] at h;simp only [yD,ye] at h;subst h;simp only [yi] at hb;have eK:=yB hb.1;have hy:=nZ hb.2.2;refine aae (FG (by simp [a7])) ?_;intro w S args eO;obtain ⟨u,v,z,rfl,h1,h2,h3⟩:=ae6 eO;subst h1;subst h2;subst h3;rw [hf];refine ⟨_,hc x y c w eK,fun S=>?_⟩;simp only [ai,aA];refine ⟨_,rfl,_,_,rfl,?_,_,_,rfl,?_,rfl⟩
   ·grind
   ·congr 1
    by_cases h:x<y+c
    ·have:yK (y+c) x=false:=by
      cases hq:yK (y+c) x with
      | false=>rfl
      | true=>have:=yB hq;omega
     grind
    ·rw [yx (by omega),yo h];rfl
 ·cases h
end
end
end
end VE
