import Derived.Test.YtkhmakhdoedjiaaGreatDoorTan
import Derived.Test.YtkhmakhdoedjiaaGreatDoorTaa
set_option linter.all false
set_option maxRecDepth 100000
section
namespace VE
open Go
section
variable {Λ:Link} {self:Run}
theorem Post.none {m:Mp} {S:Nat→Prop} {w:World} {s s':St} {ex:Ex} {n lo:Nat} {a:Act} {w':World} (l:Nat):¬Post Λ m S w s ex s' n lo (.goto l) a w':=by
 rintro ⟨h,_⟩;cases ex<;>cases h
theorem Post.then {m m1:Mp} {S S1:Nat→Prop} {w w1:World} {s s1 s2:St} {ex:Ex} {n lo:Nat} {a':Act} {w':World} {e:Exit} {ex1:Ex} (h1:s1.base=s.base)
  (hf:Fwd m S w s.hp m1 S1 w1 s1.hp s.base) (h:Post Λ m1 S1 w1 s1 ex s2 n lo e a' w'):Post Λ m S w s ex s2 n lo e a' w':=by
 obtain ⟨h2,m',S',k1,k2,k3,k4,k5,k6,k7⟩:=h;rw [h1] at k3 k4 k5;exact ⟨h2,m',S',k1,k2,k3,k4,hf.trans k5,k6,k7⟩
theorem Post.keep {m:Mp} {S:Nat→Prop} {w:World} {s s1:St} {n lo:Nat} {a':Act} {w':World} {e:Exit} {ex:Ex} (live:List Nat) (h:Post Λ m S w s ex s1 n lo e a' w'):Post Λ m S w s ex (zA live s1) n lo e a' w':=by
 obtain ⟨h2,m',S',k1,k2,k3,k4,k5,k6,k7⟩:=h;obtain ⟨m2,g1,g2,g3,g4,g5⟩:=zgy (live:=live) k1 k2 (by rw [k3];exact k4)
 rw [k3] at g3 g4 g5;exact ⟨h2,m2,S',g1,g2,g3,g4,k5.trans g5,k6,zct k2 g5 k7⟩
theorem zDF {m:Mp} {w:World} {tmps:Array Value}:∀{ts:List Nat} {s s1:St} {S:Nat→Prop},zaB Λ m S w s.tm tmps→zR Λ m S w s.hp s.ct→zfq ts s=some s1→
  ∃S1,zaB Λ m S1 w s1.tm tmps∧zR Λ m S1 w s1.hp s1.ct∧s1.base=s.base∧s1.ct=s.ct∧∀base,Fwd m S w s.hp m S1 w s1.hp base
 | [],s,s1,S,ht,hh,h=>by
  simp only [zfq,Option.some.injEq] at h;subst h;exact ⟨S,ht,hh,rfl,rfl,fun _=>Fwd.refl⟩
 | t::r,s,s1,S,ht,hh,h=>by
  simp only [zfq] at h
  cases hz:zaf zcJ s.hp (zc s.tm t) with
  | none=>simp [hz] at h
  | some q=>
   obtain ⟨v,hp⟩:=q;simp only [hz] at h;obtain ⟨h1,h2,h3⟩:=zh1 (Λ:=Λ) hz;have hg:Grows s.hp s.ct hp s.ct:=⟨h1,Nat.le_refl _,fun id o ho=>(by
     have:=h2 id
     rw [ho] at this;simp only [Option.isSome_some] at this
     cases hq:zq s.hp id with
     | none=>rw [hq] at this;simp at this
     | some o'=>exact hh.hlt id o' hq),fun id o ho _=>(by
     have:=h2 id
     rw [ho] at this;simp only [Option.isSome_some] at this
     cases hq:zq s.hp id with
     | none=>rw [hq] at this;simp at this
     | some o'=>exact ⟨o',rfl⟩)⟩
   obtain ⟨S',k1,k2,k3,k4⟩:=zg3 hh hg;have ht':zaB Λ m S' w ((t,v)::s.tm) tmps:=by
    intro i;simp only [zc]
    cases hb:Nat.beq t i with
    | true=>
     have:=Nat.eq_of_beq_eq_true hb
     subst this;simp only [cond_true];exact (h3 hp m S' w s.ct HLe.refl k1).1 _ (za9 (fun _ _ h=>h) k2 (fun _ _=>rfl) _ _ (ht t))
    | false=>
     simp only [cond_false];exact za9 (fun _ _ h=>h) k2 (fun _ _=>rfl) _ _ (ht i)
   obtain ⟨S1,g1,g2,g3,g4,g5⟩:=zDF (s:={s with tm:=(t,v)::s.tm,hp:=hp}) ht' k1 h;exact ⟨S1,g1,g2,g3,g4,fun base=>(k4 base).trans (g5 base)⟩
theorem zqV (hΛ:zav Λ) (n:Nat) (hC:∀k,k≤n→zb0 Λ (ev Λ.prog Λ.lib k)) (h:Nat):∀(c:Code) (l k:Nat) (j:Nat),j≤n→∀(s:St) (ex:Ex) (s':St),
  zF Λ.prog Λ.lib (ev Λ.prog Λ.lib j) (comp Λ.P (Λ.hint h) c l k).1 s=some (ex,s')→ziH Λ h c s ex s':=by
 have refl:∀{s:St} {ex:Ex} {m:Mp} {S:Nat→Prop} {w:World} {a:Act} {lo:Nat},zaB Λ m S w s.tm a.tmps→zR Λ m S w s.hp s.ct→s.base≤s.ct→zeK lo S w a.defers→Post Λ m S w s ex s a.tmps.size lo (zkJ ex) a w:=
  fun h1 h2 h3 h4=>⟨rfl,_,_,h1,h2,rfl,h3,Fwd.refl,rfl,h4⟩
 have badc:∀{self:Run} {s:St} {r:Ex×St},zF Λ.prog Λ.lib self (.reg [⟨none,none,bad⟩]) s=some r→False:=by
  intro self s r hv;simp [zF,zaF,bad,zZ,zaw,zp] at hv
 intro c
 induction c with
 | skip=>
  intro l k j hj s ex s' hv ro lo m S w a hro ht hh hb hn hlo hlw hmk;simp only [comp,zF,Option.some.injEq,Prod.mk.injEq] at hv;obtain ⟨rfl,rfl⟩:=hv;exact wpIn_skip (refl ht hh hb hmk)
 | label x=>
  intro l k j hj s ex s' hv ro lo m S w a hro ht hh hb hn hlo hlw hmk;simp only [comp,zF,Option.some.injEq,Prod.mk.injEq] at hv;obtain ⟨rfl,rfl⟩:=hv;exact wpIn_label (refl ht hh hb hmk)
 | exit id=>
  intro l k j hj s ex s' hv ro lo m S w a hro ht hh hb hn hlo hlw hmk;simp only [comp,zF,Option.some.injEq,Prod.mk.injEq] at hv;obtain ⟨rfl,rfl⟩:=hv
  exact wpIn_exit (refl (ex:= .exit id) ht hh hb hmk)
 | ret=>
  intro l k j hj s ex s' hv ro lo m S w a hro ht hh hb hn hlo hlw hmk;simp only [comp,zF,Option.some.injEq,Prod.mk.injEq] at hv;obtain ⟨rfl,rfl⟩:=hv
  exact wpIn_ret (refl (ex:= .ret) ht hh hb hmk)
 | goto x=>intro l k j hj s ex s' hv;exact (badc (by simpa only [comp] using hv)).elim
 | refuse x=>intro l k j hj s ex s' hv;exact (badc (by simpa only [comp] using hv)).elim
 | region id ops d=>
  intro l k j hj s ex s' hv;simp only [comp] at hv;generalize hq:zjj Λ.P (Λ.hint h) ops d k=q at hv;obtain ⟨r,k'⟩:=q;have main:∀{s s':St} {ex:Ex},zF Λ.prog Λ.lib (ev Λ.prog Λ.lib j) (.reg r) s=some (ex,s')→ziH Λ h (.region id ops d) s ex s':=by
   intro s s' ex hv;simp only [zF] at hv
   cases ho:zaF Λ.prog Λ.lib (ev Λ.prog Λ.lib j) r s with
   | none=>simp [ho] at hv
   | some s1=>
    simp only [ho,Option.some.injEq,Prod.mk.injEq] at hv;obtain ⟨rfl,rfl⟩:=hv;exact zD0 hΛ (hC j hj) h id ops d k (by rw [hq];exact ho)
  simp only at hv
  split at hv
  ·exact main hv
  ·rename_i t ts _;simp only [zF] at hv
   cases hf:zfq (t::ts) s with
   | none=>simp [hf] at hv
   | some s1=>
    simp only [hf] at hv;intro ro lo m S w a hro ht hh hb hn hlo hlw hmk;obtain ⟨S1,g1,g2,g3,g4,g5⟩:=zDF ht hh hf;have h1:=main (s:=s1) (by simpa only [zF] using hv) ro lo m S1 w a hro g1 g2 (by rw [g3,g4];exact hb) hn hlo hlw (zct hh (g5 s.base) hmk)
    refine wpIn_mono h1 (fun e a' w' hp=>?_)
    exact Post.then (ex1:= .normal) g3 (g5 s.base) hp
 | seq x y ihx ihy=>
  intro l k j hj s ex s' hv ro lo m S w a hro ht hh hb hn hlo hlw hmk;simp only [comp] at hv;generalize hqx:comp Λ.P (Λ.hint h) x l k=qx at hv;obtain ⟨x',l1,k1⟩:=qx;simp only at hv;generalize hqy:comp Λ.P (Λ.hint h) y l1 k1=qy at hv;obtain ⟨y',l2,k2⟩:=qy;simp only [zF] at hv
  cases hx:zF Λ.prog Λ.lib (ev Λ.prog Λ.lib j) x' s with
  | none=>simp [hx] at hv
  | some r=>
   obtain ⟨ex1,s1⟩:=r;have h1:=ihx l k j hj s ex1 s1 (by rw [hqx];exact hx) ro lo m S w a hro ht hh hb hn hlo hlw hmk
   refine wpIn_seq (wpIn_mono h1 ?_);rintro e a1 w1 ⟨rfl,m1,S1,g1,g2,g3,g4,g5,g6,g7⟩;have stop:ex1≠.normal→ex=ex1∧s'=s1:=by
    intro hne;rw [hx] at hv
    cases ex1 with
    | normal=>exact absurd rfl hne
    | ret=>simp only [Option.some.injEq,Prod.mk.injEq] at hv;exact ⟨hv.1.symm,hv.2.symm⟩
    | exit id=>simp only [Option.some.injEq,Prod.mk.injEq] at hv;exact ⟨hv.1.symm,hv.2.symm⟩
   cases ex1 with
   | normal=>
    simp only [hx] at hv;simp only [zkJ,Exit.then];have h2:=ihy l1 k1 j hj s1 ex s' (by rw [hqy];exact hv) ro lo m1 S1 w1 a1 (zfW g5 hro) g1 g2 (by rw [g3];exact g4) (by rw [g6];exact hn) hlo (Nat.le_trans hlw g5.size) g7
    rw [g6] at h2
    exact wpIn_mono h2 (fun e a' w' hp=>Post.then (ex1:= .normal) g3 g5 hp)
   | ret=>
    obtain ⟨rfl,rfl⟩:=stop (by simp);exact ⟨rfl,m1,S1,g1,g2,g3,g4,g5,g6,g7⟩
   | exit id=>
    obtain ⟨rfl,rfl⟩:=stop (by simp);exact ⟨rfl,m1,S1,g1,g2,g3,g4,g5,g6,g7⟩
 | cond x p q ihp ihq=>
  intro l k j hj s ex s' hv ro lo m S w a hro ht hh hb hn hlo hlw hmk;simp only [comp] at hv;generalize hqx:comp Λ.P (Λ.hint h) p (l+1) k=qx at hv;obtain ⟨p',l1,k1⟩:=qx;simp only at hv;generalize hqy:comp Λ.P (Λ.hint h) q l1 k1=qy at hv;obtain ⟨q',l2,k2⟩:=qy;simp only at hv;have main:∀(ex:Ex) (s':St),zF Λ.prog Λ.lib (ev Λ.prog Λ.lib j) (.cond (opX (Λ.hint h) x) p' q') s=some (ex,s')→(Code.cond x p q).wpIn (WF ro) 0 Λ.P (Post Λ m S w s ex s' a.tmps.size lo) a w:=by
   intro ex s' hv;simp only [zF] at hv;have rx:=zad (hΛ.hint h) ht x
   split at hv
   ·rename_i t hx;rw [hx] at rx;simp only [zm] at rx
    cases t with
    | true=>
     simp only [cond_true] at hv;exact wpIn_cond_true rx (ihp (l+1) k j hj s ex s' (by rw [hqx];exact hv) ro lo m S w a hro ht hh hb hn hlo hlw hmk)
    | false=>
     simp only [cond_false] at hv;exact wpIn_cond_false rx (ihq l1 k1 j hj s ex s' (by rw [hqy];exact hv) ro lo m S w a hro ht hh hb hn hlo hlw hmk)
   ·cases hv
  cases hout:(Λ.hint h).out l with
  | none=>rw [hout] at hv;exact main ex s' hv
  | some live=>
   rw [hout] at hv;simp only at hv;rw [show zF Λ.prog Λ.lib (ev Λ.prog Λ.lib j) (.seq (.cond (opX (Λ.hint h) x) p' q') (.kp live)) s=match zF Λ.prog Λ.lib (ev Λ.prog Λ.lib j) (.cond (opX (Λ.hint h) x) p' q') s with | some (.normal,s1)=>some (.normal,zA live s1) | r=>r from rfl] at hv
   cases hx:zF Λ.prog Λ.lib (ev Λ.prog Λ.lib j) (.cond (opX (Λ.hint h) x) p' q') s with
   | none=>simp [hx] at hv
   | some r=>
    obtain ⟨ex1,s1⟩:=r;have h1:=main ex1 s1 hx;rw [hx] at hv
    cases ex1 with
    | normal=>
     simp only [Option.some.injEq,Prod.mk.injEq] at hv;obtain ⟨rfl,rfl⟩:=hv;exact wpIn_mono h1 (fun e a' w' hp=>Post.keep live hp)
    | ret=>simp only [Option.some.injEq,Prod.mk.injEq] at hv;obtain ⟨rfl,rfl⟩:=hv;exact h1
    | exit id=>simp only [Option.some.injEq,Prod.mk.injEq] at hv;obtain ⟨rfl,rfl⟩:=hv;exact h1
 | block id x ih=>
  intro l k j hj s ex s' hv ro lo m S w a hro ht hh hb hn hlo hlw hmk;simp only [comp] at hv;generalize hqx:comp Λ.P (Λ.hint h) x l k=qx at hv;obtain ⟨x',r⟩:=qx;simp only at hv;have main:∀(ex:Ex) (s':St),zF Λ.prog Λ.lib (ev Λ.prog Λ.lib j) (.blk id x') s=some (ex,s')→(Code.block id x).wpIn (WF ro) 0 Λ.P (Post Λ m S w s ex s' a.tmps.size lo) a w:=by
   intro ex s' hv;simp only [zF] at hv
   cases hx:zF Λ.prog Λ.lib (ev Λ.prog Λ.lib j) x' s with
   | none=>simp [hx] at hv
   | some q=>
    obtain ⟨ex1,s1⟩:=q;have h1:=ih l k j hj s ex1 s1 (by rw [hqx];exact hx) ro lo m S w a hro ht hh hb hn hlo hlw hmk
    refine wpIn_block (wpIn_mono h1 ?_);rintro e a1 w1 ⟨rfl,g⟩
    cases ex1 with
    | normal=>
     simp only [hx,Option.some.injEq,Prod.mk.injEq] at hv;obtain ⟨rfl,rfl⟩:=hv;exact ⟨rfl,g⟩
    | ret=>
     simp only [hx,Option.some.injEq,Prod.mk.injEq] at hv;obtain ⟨rfl,rfl⟩:=hv;exact ⟨rfl,g⟩
    | exit i=>
     simp only [hx] at hv
     cases hbq:Nat.beq i id with
     | true=>
      rw [hbq] at hv;simp only [cond_true,Option.some.injEq,Prod.mk.injEq] at hv;obtain ⟨rfl,rfl⟩:=hv
      have:=Nat.eq_of_beq_eq_true hbq
      subst this;simp only [zkJ,Exit.inBlock,if_true];exact ⟨rfl,g⟩
     | false=>
      rw [hbq] at hv;simp only [cond_false,Option.some.injEq,Prod.mk.injEq] at hv;obtain ⟨rfl,rfl⟩:=hv;have hne:i≠id:=fun e=>by subst e;simp at hbq
      simp only [zkJ,Exit.inBlock,hne,if_false];exact ⟨rfl,g⟩
  have keepC:∀live:List Nat,zF Λ.prog Λ.lib (ev Λ.prog Λ.lib j) (.seq (.blk id x') (.kp live)) s=some (ex,s')→(Code.block id x).wpIn (WF ro) 0 Λ.P (Post Λ m S w s ex s' a.tmps.size lo) a w:=by
   intro live hv;rw [show zF Λ.prog Λ.lib (ev Λ.prog Λ.lib j) (.seq (.blk id x') (.kp live)) s=match zF Λ.prog Λ.lib (ev Λ.prog Λ.lib j) (.blk id x') s with | some (.normal,s1)=>some (.normal,zA live s1) | r=>r from rfl] at hv
   cases hx:zF Λ.prog Λ.lib (ev Λ.prog Λ.lib j) (.blk id x') s with
   | none=>simp [hx] at hv
   | some r=>
    obtain ⟨ex1,s1⟩:=r;have h1:=main ex1 s1 hx;rw [hx] at hv
    cases ex1 with
    | normal=>
     simp only [Option.some.injEq,Prod.mk.injEq] at hv;obtain ⟨rfl,rfl⟩:=hv;exact wpIn_mono h1 (fun e a' w' hp=>Post.keep live hp)
    | ret=>simp only [Option.some.injEq,Prod.mk.injEq] at hv;obtain ⟨rfl,rfl⟩:=hv;exact h1
    | exit id=>simp only [Option.some.injEq,Prod.mk.injEq] at hv;obtain ⟨rfl,rfl⟩:=hv;exact h1
  split at hv
  ·exact keepC _ hv
  ·exact main ex s' hv
 | loop x ih=>
  intro l k j hj s ex s' hv;simp only [comp] at hv;generalize hqx:comp Λ.P (Λ.hint h) x (l+1) k=qx at hv;obtain ⟨x',r⟩:=qx;simp only at hv;have rounds:∀(j:Nat),j≤n→∀(s:St) (ex:Ex) (s':St),zF Λ.prog Λ.lib (ev Λ.prog Λ.lib j) (.loop ((Λ.hint h).live l) x') s=some (ex,s')→∃K,∀(ro:Option Nat) (lo:Nat) (m:Mp) (S:Nat→Prop) (w:World) (a:Act),ze9 ro w→zaB Λ m S w s.tm a.tmps→zR Λ m S w s.hp s.ct→s.base≤s.ct→(Λ.hint h).n≤a.tmps.size→Λ.w0.heap.size≤lo→lo≤w.heap.size→zeK lo S w a.defers→
    Code.roundsIn (WF ro) 0 Λ.P x (Post Λ m S w s ex s' a.tmps.size lo) K a w:=by
   intro j
   induction j with
   | zero=>
    intro hj s ex s' hv;simp only [zF] at hv
    cases hx:zF Λ.prog Λ.lib (ev Λ.prog Λ.lib 0) x' (zA ((Λ.hint h).live l) s) with
    | none=>simp [hx] at hv
    | some q=>
     obtain ⟨ex1,s1⟩:=q;have stop:ex1≠.normal→ex=ex1∧s'=s1:=by
      intro hne;rw [hx] at hv
      cases ex1 with
      | normal=>exact absurd rfl hne
      | ret=>simp only [Option.some.injEq,Prod.mk.injEq] at hv;exact ⟨hv.1.symm,hv.2.symm⟩
      | exit id=>simp only [Option.some.injEq,Prod.mk.injEq] at hv;exact ⟨hv.1.symm,hv.2.symm⟩
     refine ⟨1,fun ro lo m S w a hro ht hh hb hn hlo hlw hmk=>?_⟩;rw [roundsIn_succ];obtain ⟨m1,c1,c2,c3,c4,c5⟩:=zgy (live:=(Λ.hint h).live l) ht hh hb;have h1:=ih (l+1) k 0 hj _ ex1 s1 (by rw [hqx];exact hx) ro lo m1 S w a hro c1 c2 (by rw [c3];exact c4) hn hlo hlw hmk
     refine wpIn_mono h1 ?_;rintro e a1 w1 hp;have hp':=Post.then (Λ:=Λ) (m:=m) (S:=S) (w:=w) (s:=s) (ex1:= .normal) c3 c5 hp;obtain ⟨rfl,_⟩:=hp
     cases ex1 with
     | normal=>simp only [hx,zhc] at hv;cases hv
     | ret=>obtain ⟨rfl,rfl⟩:=stop (by simp);exact hp'
     | exit id=>obtain ⟨rfl,rfl⟩:=stop (by simp);exact hp'
   | succ j ihj=>
    intro hj s ex s' hv;simp only [zF] at hv
    cases hx:zF Λ.prog Λ.lib (ev Λ.prog Λ.lib (j+1)) x' (zA ((Λ.hint h).live l) s) with
    | none=>simp [hx] at hv
    | some q=>
     obtain ⟨ex1,s1⟩:=q;have stop:ex1≠.normal→ex=ex1∧s'=s1:=by
      intro hne;rw [hx] at hv
      cases ex1 with
      | normal=>exact absurd rfl hne
      | ret=>simp only [Option.some.injEq,Prod.mk.injEq] at hv;exact ⟨hv.1.symm,hv.2.symm⟩
      | exit id=>simp only [Option.some.injEq,Prod.mk.injEq] at hv;exact ⟨hv.1.symm,hv.2.symm⟩
     have more:∃K,ex1= .normal→∀(ro:Option Nat) (lo:Nat) (m:Mp) (S:Nat→Prop) (w:World) (a:Act),ze9 ro w→zaB Λ m S w s1.tm a.tmps→zR Λ m S w s1.hp s1.ct→s1.base≤s1.ct→(Λ.hint h).n≤a.tmps.size→Λ.w0.heap.size≤lo→lo≤w.heap.size→zeK lo S w a.defers→
       Code.roundsIn (WF ro) 0 Λ.P x (Post Λ m S w s1 ex s' a.tmps.size lo) K a w:=by
      cases ex1 with
      | normal=>
       rw [hx] at hv;have hv':ev Λ.prog Λ.lib (j+1) (.loop ((Λ.hint h).live l) x') s1=some (ex,s'):=hv;rw [zfV] at hv';obtain ⟨K,hK⟩:=ihj (by omega) s1 ex s' hv';exact ⟨K,fun _=>hK⟩
      | ret=>exact ⟨0,fun h=>by cases h⟩
      | exit id=>exact ⟨0,fun h=>by cases h⟩
     obtain ⟨K,hK⟩:=more;refine ⟨K+1,fun ro lo m S w a hro ht hh hb hn hlo hlw hmk=>?_⟩;rw [roundsIn_succ];obtain ⟨m1,c1,c2,c3,c4,c5⟩:=zgy (live:=(Λ.hint h).live l) ht hh hb;have h1:=ih (l+1) k (j+1) hj _ ex1 s1 (by rw [hqx];exact hx) ro lo m1 S w a hro c1 c2 (by rw [c3];exact c4) hn hlo hlw hmk
     refine wpIn_mono h1 ?_;rintro e a1 w1 hp;have hp':=Post.then (Λ:=Λ) (m:=m) (S:=S) (w:=w) (s:=s) (ex1:= .normal) c3 c5 hp;obtain ⟨rfl,_⟩:=hp
     cases ex1 with
     | normal=>
      simp only [zkJ,Exit.then];obtain ⟨_,m2,S2,g1,g2,g3,g4,g5,g6,g7⟩:=hp';have h2:=hK rfl ro lo m2 S2 w1 a1 (zfW g5 hro) g1 g2 (by rw [g3];exact g4) (by rw [g6];exact hn) hlo (Nat.le_trans hlw g5.size) g7
      rw [g6] at h2;revert h2;generalize hA:a.tmps.size=sz;intro h2;have step:∀(K:Nat) (a':Act) (w':World),Code.roundsIn (WF ro) 0 Λ.P x (Post Λ m2 S2 w1 s1 ex s' sz lo) K a' w'→Code.roundsIn (WF ro) 0 Λ.P x (Post Λ m S w s ex s' sz lo) K a' w':=by
       intro K
       induction K with
       | zero=>intro a' w' hh';exact hh'
       | succ K ihK=>
        intro a' w' hh';rw [roundsIn_succ] at hh' ⊢;refine wpIn_mono hh' (fun e a'' w'' hq=>?_)
        cases e with
        | normal=>exact ihK a'' w'' hq
        | exit id=>exact Post.then (ex1:= .normal) g3 g5 hq
        | goto x=>exact Post.then (ex1:= .normal) g3 g5 hq
        | ret=>exact Post.then (ex1:= .normal) g3 g5 hq
        | panic x=>exact Post.then (ex1:= .normal) g3 g5 hq
        | outgrown=>exact Post.then (ex1:= .normal) g3 g5 hq
      exact step K a1 w1 h2
     | ret=>obtain ⟨rfl,rfl⟩:=stop (by simp);exact hp'
     | exit id=>obtain ⟨rfl,rfl⟩:=stop (by simp);exact hp'
  obtain ⟨K,hK⟩:=rounds j hj s ex s' hv;intro ro lo m S w a hro ht hh hb hn hlo hlw hmk;exact wpIn_loop_rounds K (hK ro lo m S w a hro ht hh hb hn hlo hlw hmk)
 | scope x ih=>
  intro l k j hj s ex s' hv ro lo m S w a hro ht hh hb hn hlo hlw hmk;simp only [comp] at hv;exact zp0 (ih l k j hj s ex s' hv ro lo m S w a hro ht hh hb hn hlo hlw hmk) (fun l a w=>Post.none l)
 | rangeFunc f ps as_ body iha ihb=>
  intro l k j hj s ex s' hv;simp only [comp] at hv;generalize hqx:comp Λ.P (Λ.hint h) as_ l k=qx at hv;obtain ⟨x',l1,k1⟩:=qx;simp only at hv;generalize hqy:comp Λ.P (Λ.hint h) body l1 k1=qy at hv;obtain ⟨y',l2,k2⟩:=qy;simp only at hv
  cases ha:zhg (Λ.hint h).n ps.toList with
  | false=>rw [ha] at hv;exact (badc hv).elim
  | true=>
   rw [ha] at hv;exact zNk hΛ (hC j hj) ⟨l,k,by rw [hqx]⟩ ⟨l1,k1,by rw [hqy]⟩ ha hv
end
end VE
end
section
namespace VE
open Go
section
variable {Λ:Link} {m:Mp} {S:Nat→Prop} {w:World}
theorem zlq:∀(vals:List AV) (j i:Nat),zc (zab j vals) (j+i)=vals.getD i .undef
 | [],j,i=>by simp [zab,zc]
 | v::r,j,i=>by
  cases i with
  | zero=>simp [zab,zc]
  | succ i=>
   simp only [zab,zc];have hb:Nat.beq j (j+(i+1))=false:=by
    cases hq:Nat.beq j (j+(i+1)) with
    | false=>rfl
    | true=>have:=Nat.eq_of_beq_eq_true hq;omega
   rw [hb,show j+(i+1)=j+1+i by omega];simp only [cond_false];rw [zlq r (j+1) i]
   simp
theorem zlw {vals:List AV} {args:Array Value} (n:Nat) (h:zi Λ.fid m S w vals args.toList):zaB Λ m S w (zab 0 vals) (args++Array.replicate n undef):=by
 intro i
 have:=zlq vals 0 i
 rw [Nat.zero_add] at this;rw [this,List.getD_eq_getElem?_getD]
 cases hv:vals[i]? with
 | none=>simp only [Option.getD_none,zm]
 | some v=>
  obtain ⟨u,h1,h2⟩:=zkd h hv;have hl:i<args.size:=by
   have:=(List.getElem?_eq_some_iff.1 h1).1
   simpa using this
  have:(args++Array.replicate n undef).getD i undef=u:=by
   rw [Array.getD_eq_getD_getElem?,Array.getElem?_append_left hl]
   have:args[i]? =some u:=by simpa using h1
   rw [this];rfl
  rw [this];exact h2
def zoZ (tmps:Array Value):ResultVar→Sem Value
 | .tmp t=>pure (tmps.getD t undef)
 | .cell a t=>do loadVar t (←asAddr (tmps.getD a undef))
theorem zpE (fn:Func) (tmps:Array Value):results fn tmps=(do let vs ←fn.results.mapM (zoZ tmps);pure (if h:vs.size=1 then vs[0] else .tuple vs)):=by
 have:(fun x=>match x with | .tmp t=>pure (tmps.getD t undef) | .cell a t=>do loadVar t (←asAddr (tmps.getD a undef)):ResultVar→Sem Value)=zoZ tmps:=by
  funext x;cases x<;>rfl
 unfold results;rw [←this];rfl
theorem zgA {s:St} {ct:Nat} {tmps:Array Value} (hh:zR Λ m S w s.hp ct) (ht:zaB Λ m S w s.tm tmps):∀{rs:List ResultVar} {rv:List RV} {vs:List AV},zca Λ.P rs=some rv→za1 s rv=some vs→
  ∃us,(rs.mapM (zoZ tmps)).run Λ.P w= .ok us w∧zi Λ.fid m S w vs us
 | [],rv,vs,h1,h2=>by
  simp only [zca,Option.some.injEq] at h1;subst h1;simp only [za1,Option.some.injEq] at h2;subst h2;exact ⟨[],by simp,by simp [zi]⟩
 | .tmp t::rs,rv,vs,h1,h2=>by
  simp only [zca] at h1
  cases hc:zca Λ.P rs with
  | none=>simp [hc] at h1
  | some l=>
   simp only [hc,Option.some.injEq] at h1;subst h1;simp only [za1,zbA] at h2
   cases hl:za1 s l with
   | none=>simp [hl] at h2
   | some us'=>
    simp only [hl,Option.some.injEq] at h2;subst h2;obtain ⟨us,g1,g2⟩:=zgA hh ht hc hl;refine ⟨tmps.getD t undef::us,?_,by simp only [zi];exact ⟨_,_,rfl,ht t,g2⟩⟩
    rw [List.mapM_cons];simp only [zoZ,Sem.run_bind,Sem.run_pure,Result.andThen_ok];rw [g1];rfl
 | .cell a t::rs,rv,vs,h1,h2=>by
  simp only [zca] at h1
  cases hz:szT Λ.P t with
  | none=>simp [hz] at h1
  | some sz=>
   cases hag:zbx Λ.P t with
   | none=>simp [hz,hag] at h1
   | some ag=>
    cases hc:zca Λ.P rs with
    | none=>simp [hz,hag,hc] at h1
    | some l=>
     simp only [hz,hag,hc,Option.some.injEq] at h1;subst h1;simp only [za1] at h2
     cases hr1:zbA s (.cell a sz ag) with
     | none=>simp [hr1] at h2
     | some v=>
      cases hl:za1 s l with
      | none=>simp [hr1,hl] at h2
      | some us'=>
       simp only [hr1,hl,Option.some.injEq] at h2;subst h2;obtain ⟨us,g1,g2⟩:=zgA hh ht hc hl;have ra:=ht a;have key:∃b o u,tmps.getD a undef= .pointer (some ⟨b,o,none⟩)∧(loadVar t ⟨b,o,none⟩).run Λ.P w= .ok u w∧zm Λ.fid m S w v u:=by
        simp only [zbA] at hr1;cases hta:zc s.tm a<;>rw [hta] at hr1 ra<;>simp only [reduceCtorEq] at hr1
        ·rename_i id o;simp only [zm] at ra;obtain ⟨p,hm,hp⟩:=ra
         cases hg:zq s.hp id with
         | none=>simp [hg] at hr1
         | some ob=>
          cases ob<;>simp only [hg,reduceCtorEq] at hr1
          have hrr:=zk0 (o:=0) (n:=0) hh hg hm;obtain ⟨u,q1,q2⟩:=zjl hz hag (zbh o _ p.b p.o hrr) hr1;exact ⟨p.b,p.o+o,u,hp,q1,q2⟩
        ·rename_i cs;simp only [zm] at ra;obtain ⟨b,o,hp,_,_,hrr⟩:=ra;obtain ⟨u,q1,q2⟩:=zjl hz hag hrr hr1;exact ⟨b,o,u,hp,q1,q2⟩
       obtain ⟨b,o,u,q1,q2,q3⟩:=key;refine ⟨u::us,?_,by simp only [zi];exact ⟨_,_,rfl,q3,g2⟩⟩
       rw [List.mapM_cons]
       have:(zoZ tmps (.cell a t)).run Λ.P w= .ok u w:=by
        simp only [zoZ];rw [q1];simp [asAddr,q2]
       rw [Sem.run_bind,this,Result.andThen_ok,Sem.run_bind,g1];rfl
theorem zm5 {s:St} {ct:Nat} {tmps:Array Value} {fn:Func} {rv:List RV} {v:AV} (hh:zR Λ m S w s.hp ct) (ht:zaB Λ m S w s.tm tmps) (h1:zca Λ.P fn.results.toList=some rv) (h2:zaq s rv=some v):
  ∃u,(results fn tmps).run Λ.P w= .ok u w∧zm Λ.fid m S w v u:=by
 unfold zaq at h2
 cases hl:za1 s rv with
 | none=>simp [hl] at h2
 | some vs=>
  obtain ⟨us,g1,g2⟩:=zgA hh ht h1 hl;have hlen:=zax _ _ g2;have hm:(fn.results.mapM (zoZ tmps)).run Λ.P w= .ok us.toArray w:=by
   rw [Array.mapM_eq_mapM_toList];simp [g1]
  have hrun:(results fn tmps).run Λ.P w= .ok (if h:us.toArray.size=1 then us.toArray[0] else .tuple us.toArray) w:=by
   rw [zpE,Sem.run_bind,hm];rfl
  refine ⟨_,hrun,?_⟩;rw [hl] at h2
  split at h2
  ·rename_i v' heq;simp only [Option.some.injEq] at heq h2;subst heq;subst h2;simp only [zi] at g2;obtain ⟨u,r,rfl,q1,q2⟩:=g2;subst q2;simpa using q1
  ·rename_i vs' hne heq;simp only [Option.some.injEq] at heq h2;subst heq;subst h2;have h1:¬us.toArray.size=1:=by
    intro h
    have:vs.length=1:=by rw [←hlen];simpa using h
    cases vs with
    | nil=>simp at this
    | cons x t=>
     cases t with
     | nil=>exact hne x rfl
     | cons y t=>simp at this
   rw [dif_neg h1];simp only [zm];exact ⟨_,rfl,by simpa using g2⟩
  ·rename_i heq;cases heq
theorem zhJ {s:St} {tmps:Array Value} {fn:Func} {rv:List RV} {v:AV} {m0:Mp} {S0:Nat→Prop} {w0:World} {hp0:Hp} {ct0:Nat} (h1:zca Λ.P fn.results.toList=some rv) (h2:zaq s rv=some v) (hct:ct0≤s.ct):∀(rs:List Nat) (w:World),
  rs.Nodup→(∀r,r∈rs→w.heap[r]? =some (.deferred (some []))∧¬S r∧w0.heap.size≤r)→Λ.w0.heap.size≤w0.heap.size→zR Λ m S w s.hp s.ct→zaB Λ m S w s.tm tmps→Fwd m0 S0 w0 hp0 m S w s.hp ct0→
  LeavesInM Fence.wide 0 Λ.P fn tmps (zcx Λ m0 S0 w0 hp0 ct0 v s.hp s.ct) (rs.map (fun r=>{target:= .collected r,args:=#[]})) .returning w
 | [],w,_,_,_,hh,ht,hf=>by
  obtain ⟨u,g1,g2⟩:=zm5 hh ht h1 h2;exact ⟨u,g1,u,m,S,rfl,hh,hct,g2,hf⟩
 | r::rs,w,hnd,hr,hlo,hh,ht,hf=>by
  obtain ⟨hn1,hn2⟩:=List.nodup_cons.1 hnd;obtain ⟨a1,a2,a3⟩:=hr r List.mem_cons_self;have hone:=zcY w r (.deferred none);have hno:¬Own m s.hp r:=fun ho=>zoE hh ho _ a1
  have hh':=zjB hh hone a2 hno (Nat.le_trans hlo a3)
  have hst:zaP S w {w with heap:=w.heap.setIfInBounds r (.deferred none)}:=fun b hb=>hone.other b (fun e=>a2 (e▸hb))
  have hf':Fwd m0 S0 w0 hp0 m S {w with heap:=w.heap.setIfInBounds r (.deferred none)} s.hp ct0:=by
   refine ⟨hf.os,hf.tape,hf.output,by rw [hone.size];exact hf.size,fun b hb ho=>(hone.other b (by omega)).trans (hf.same b hb ho),hf.sub,fun b hb=>(hone.other b (fun e=>a2 (e▸hf.sub b hb))).trans (hf.still b hb),hf.new,hf.own,hf.old,fun b x hb=>?_⟩
   obtain ⟨x',hx⟩:=hf.loops b x hb;exact ⟨x',(hone.other b (fun e=>by subst e;rw [a1] at hx;cases hx)).trans hx⟩
  refine ⟨by simp,.inl ⟨r,_,rfl,?_,zhJ h1 h2 hct rs _ hn2 (fun r' hr'=>?_) hlo hh' (zcq (fun _ _ h=>h) (fun _ h=>h) hst ht) hf'⟩⟩
  ·simp only [Instr.takeDeferred,Sem.run_bind,zkS (P:=Λ.P) a1 (fun _ _ _=>by simp),Result.andThen_ok,zeN (P:=Λ.P) a1 (fun _ _ _=>by simp),Sem.run_pure]
  ·obtain ⟨b1,b2,b3⟩:=hr r' (List.mem_cons_of_mem _ hr');exact ⟨(hone.other r' (fun e=>hn1 (e▸hr'))).trans b1,b2,b3⟩
end
section
variable {Λ:Link} {self:Run}
theorem zM8 (hΛ:zav Λ) (hS:∀v s ex s',self v s=some (ex,s')→∀c h l k,(comp Λ.P (Λ.hint h) c l k).1=v→ziH Λ h c s ex s') {n:Nat} {F:Fnc} (hF:Λ.prog n=some F) {hp:Hp} {ct:Nat} {vals:List AV} {ex:Ex} {s:St}
  (hv:self F.body ⟨zab 0 vals,hp,ct,ct⟩=some (ex,s)) (hex:ex= .normal∨ex= .ret) {v:AV} (hr:zaq s F.res=some v):ziM Λ n hp ct vals v s.hp s.ct:=by
 intro m S w args hh hargs;obtain ⟨fn,q1,q2,q3⟩:=hΛ.prog n F hF;obtain ⟨c,q4,q5,q6,q7⟩:=zfL q2;refine .inl ⟨zhs q1 (by rw [q4];rfl) q3,?_⟩
 have hc:=hS _ _ _ _ hv c n 0 0 q5.symm;have hw:=hc none w.heap.size m S w {tmps:=args++Array.replicate (fn.ntmps-args.size) undef,defers:=[]} (fun l hl=>by cases hl) (zlw _ hargs) hh (Nat.le_refl _) (by simp;omega) hh.goodS (Nat.le_refl _) ⟨[],rfl,by simp,by simp⟩
 refine callsIn_of_wp_marks (F:=Fence.wide) q1 q4 trivial (wpIn_mono hw ?_);rintro e a' w' ⟨rfl,m',S',k1,k2,k3,k4,k5,k6,rs,k7,k8,k9⟩;have main:LeavesInM Fence.wide 0 Λ.P fn a'.tmps (zcx Λ m S w hp ct v s.hp s.ct) a'.defers .returning w':=by
  rw [k7];exact zhJ q6 hr k4 rs w' k8 k9 hh.goodS k2 k1 k5
 rcases hex with rfl | rfl
 ·exact main
 ·exact main
theorem Invoked.mono {P:Program} {f:FuncId} {args:Array Value} {w:World} {R R':Ending→World→Prop} (h:Invoked P f args w R) (hr:∀e w',R e w'→R' e w'):Invoked P f args w R':=by
 rcases h with ⟨h1,h2⟩ | ⟨u,w',h1,h2⟩
 ·exact .inl ⟨h1,CallsIn.mono h2 hr⟩
 ·exact .inr ⟨u,w',h1,hr _ _ h2⟩
theorem zt4 {w:World} {S:Nat→Prop} (hg:ziP Λ w) (hs:∀b,S b→b<w.heap.size):zR Λ noM S w [] 0:=
 ⟨(fun id o p h _=>by simp [zq] at h),(fun id p h=>by cases h),(fun i j oi oj pi pj h=>by simp [zq] at h),hs,(fun id p h=>by cases h),(fun id p h=>by cases h),hg.1,hg.2,(fun id o h=>by simp [zq] at h)⟩
theorem zkB {b:Nat} (h:Own noM [] b):False:=by
 obtain ⟨_,_,_,h,_⟩:=h;simp [zq] at h
theorem ze5 {n:Nat} {vals:List AV} {v r:AV} {s:St} (h:ziM Λ n [] 0 vals v s.hp s.ct) (hr:zaL s.hp v=some r):PureC Λ n vals r:=by
 intro w S args hg hs hargs hp;refine Invoked.mono (h noM S w args (zt4 hg hs) hargs) ?_;rintro e w' ⟨u,m',S',rfl,k1,k2,k3,k4⟩;have hlo:∀b,Own m' s.hp b→w.heap.size≤b:=fun b hb=>(k4.own b hb).elim (fun h=>(zkB h).elim) (fun h=>h)
 obtain ⟨S2,g1,g2,g3,g4⟩:=zt2 (lo:=w.heap.size) k1 hr k3 hlo;refine ⟨u,S2,rfl,⟨k4.os,k4.tape,k4.output,k4.size,fun b hb=>k4.same b hb zkB⟩,fun b hb=>g1 b (k4.sub b hb),fun b hb=>?_,g3,g4⟩;rcases g2 b hb with h | h
 ·rcases k4.new b h with h | h | h
  ·exact .inl h
  ·exact (zkB h).elim
  ·exact .inr h
 ·exact .inr (hlo b h)
theorem zpD (hΛ:zav Λ) (hS:∀v s ex s',self v s=some (ex,s')→∀c h l k,(comp Λ.P (Λ.hint h) c l k).1=v→ziH Λ h c s ex s'):zb0 Λ self:=by
 have heap:∀(n:Nat) (F:Fnc),Λ.prog n=some F→∀(hp:Hp) (ct:Nat) (vals:List AV) (ex:Ex) (s:St) (v:AV),self F.body ⟨zab 0 vals,hp,ct,ct⟩=some (ex,s)→(ex= .normal∨ex= .ret)→zaq s F.res=some v→ziM Λ n hp ct vals v s.hp s.ct:=
  fun n F hF hp ct vals ex s v h1 h2 h3=>zM8 hΛ hS hF h1 h2 h3
 refine ⟨?_,?_,fun hp ct l xs v hp' ct' hv=>zv9 hS hv⟩
 ·intro n vals r hv;unfold zk at hv
  cases hL:Λ.lib.pure n with
  | some sp=>rw [hL] at hv;exact hΛ.lib n sp vals r hL hv
  | none=>
   simp only [hL] at hv
   cases hF:Λ.prog n with
   | none=>simp [hF] at hv
   | some F=>
    simp only [hF] at hv
    split at hv
    ·rename_i s hb
     cases hr:zaq s F.res with
     | none=>simp [hr] at hv
     | some v=>simp only [hr] at hv;exact ze5 (heap n F hF [] 0 vals .normal s v hb (.inl rfl) hr) hv
    ·rename_i s hb
     cases hr:zaq s F.res with
     | none=>simp [hr] at hv
     | some v=>simp only [hr] at hv;exact ze5 (heap n F hF [] 0 vals .ret s v hb (.inr rfl) hr) hv
    ·cases hv
 ·intro hp ct n vals v hp' ct' hv;unfold zbj at hv
  cases hL:Λ.lib.heap n with
  | some sp=>rw [hL] at hv;exact hΛ.libH n sp hp ct vals v hp' ct' hL hv
  | none=>
   simp only [hL] at hv
   cases hF:Λ.prog n with
   | none=>simp [hF] at hv
   | some F=>
    simp only [hF] at hv
    split at hv
    ·rename_i s hb
     cases hr:zaq s F.res with
     | none=>simp [hr] at hv
     | some v=>
      simp only [hr,Option.some.injEq,Prod.mk.injEq] at hv;obtain ⟨rfl,rfl,rfl⟩:=hv;exact heap n F hF hp ct vals .normal s _ hb (.inl rfl) hr
    ·rename_i s hb
     cases hr:zaq s F.res with
     | none=>simp [hr] at hv
     | some v=>
      simp only [hr,Option.some.injEq,Prod.mk.injEq] at hv;obtain ⟨rfl,rfl,rfl⟩:=hv;exact heap n F hF hp ct vals .ret s _ hb (.inr rfl) hr
    ·cases hv
theorem ziL (hΛ:zav Λ):∀n,zb0 Λ (ev Λ.prog Λ.lib n):=by
 intro n
 induction n using Nat.strongRecOn with
 | _ n ih=>
  refine zpD hΛ (fun v s ex s' hv c h l k hc=>?_)
  cases n with
  | zero=>rw [zhc] at hv;cases hv
  | succ n=>
   rw [zfV,←hc] at hv;exact zqV hΛ n (fun k hk=>ih k (by omega)) h c l k n (Nat.le_refl _) s ex s' hv
theorem zzh (hΛ:zav Λ) {n f:Nat} {vals:List AV} {r:AV} (h:evF Λ.prog Λ.lib n f vals=some r):PureC Λ f vals r:=(ziL hΛ n).pure f vals r h
end
end VE
end
section
namespace VE
open Go (IntKind)
def zbz:List Nat→List Nat→Bool
 | [],_=>true
 | a::x,b::y=>Nat.beq a b&&zbz x y
 | _::_,[]=>false
def zco (sub:List Nat):List Nat→Nat→Option Nat
 | [],k=>bif zbz sub [] then some k else none
 | b::r,k=>bif zbz sub (b::r) then some k else zco sub r (k+1)
def zBq:List AV→Option AV
 | [.str s,.str sep]=>
  bif Nat.blt s.length 4294967281 then
   match zco sep s 0 with
   | some i=>some (.tup [.str (s.take i),.str (s.drop (i+sep.length)),.bool true])
   | none=>some (.tup [.str s,.str [],.bool false])
  else none
 | _=>none
def ze8:List AV→Option AV
 | [.str s,.str p]=>some (bif zbz p s then .tup [.str (s.drop p.length),.bool true] else .tup [.str s,.bool false])
 | _=>none
def zeP:List AV→Option AV
 | [.str s,.str p]=>some (.bool (zbz p s))
 | _=>none
def zeg:List AV→Option AV
 | [.str s,.str p]=>some (.str (bif zbz p s then s.drop p.length else s))
 | _=>none
def zuz (i:Nat):List Nat→Bool
 | []=>false
 | j::r=>bif Nat.beq j i then true else zuz i r
def zcD (set:List Nat):List Nat→List Nat
 | []=>[]
 | b::r=>bif zuz b set then zcD set r else b::r
def zh8:List Nat→Bool
 | []=>true
 | b::r=>Nat.blt b 128&&zh8 r
def trimS:List AV→Option AV
 | [.str s,.str set]=>bif zh8 set&&(Nat.blt s.length 4294967281&&Nat.blt set.length 4294967281) then some (.str (zcD set (zcD set s.reverse).reverse)) else none
 | _=>none
def zdE (s:List Nat):Nat→List Nat
 | 0=>[]
 | n+1=>s++zdE s n
def zee:List AV→Option AV
 | [.str s,.int .i64 (.ofNat n)]=>bif Nat.ble n 1099511627776&&Nat.ble (s.length*n) 1099511627776 then some (.str (zdE s n)) else none
 | _=>none
def zbK:Nat→Nat→List Nat→List Nat
 | 0,_,acc=>acc
 | f+1,n,acc=>bif Nat.blt n 10 then (48+n)::acc else zbK f (n/10) ((48+n%10)::acc)
def zo (n:Nat):List Nat:=zbK (n+1) n []
def zW:Int→List Nat
 | .ofNat n=>zo n
 | .negSucc n=>45::zo (n+1)
def ziz:Int→Bool
 | .ofNat n=>Nat.blt n 9223372036854775808
 | .negSucc n=>Nat.blt n 9223372036854775808
def znw:List AV→Option AV
 | [.int .i64 n]=>bif ziz n then some (.str (zW n)) else none
 | _=>none
def zbs:List AV→Option AV
 | [.int .u64 (.ofNat n),.int .i64 10]=>bif Nat.blt n 18446744073709551616 then some (.str (zo n)) else none
 | _=>none
def zaV:List Nat→Nat→Option Nat
 | [],a=>some a
 | b::r,a=>bif Nat.ble 48 b&&Nat.ble b 57 then zaV r (10*a+(b-48)) else none
def zm9:List AV→Option AV
 | [.str s]=>
  bif Nat.blt 0 s.length&&Nat.ble s.length 18 then
   match zaV s 0 with | some n=>some (.tup [.int .i64 n,.undef]) | none=>none
  else none
 | _=>none
def zc5:List AV→Option AV
 | [.int .u64 (.ofNat x),.int .u64 (.ofNat y),.int .u64 (.ofNat c)]=>
  bif Nat.ble c 1&&(Nat.blt x 18446744073709551616&&Nat.blt y 18446744073709551616) then some (.tup [.int .u64 ((x+y+c)%18446744073709551616:Nat),.int .u64 ((x+y+c)/18446744073709551616:Nat)]) else none
 | _=>none
def zfF:List AV→Option AV
 | [.int .u64 (.ofNat x),.int .u64 (.ofNat y),.int .u64 (.ofNat c)]=>
  bif Nat.ble c 1&&(Nat.blt x 18446744073709551616&&Nat.blt y 18446744073709551616) then some (.tup [.int .u64 ((x+18446744073709551616*2-y-c)%18446744073709551616:Nat),.int .u64 (bif Nat.ble (y+c) x then 0 else 1)]) else none
 | _=>none
def zer:List AV→Option AV
 | [.int .u64 (.ofNat x),.int .u64 (.ofNat y)]=>bif Nat.blt x 18446744073709551616&&Nat.blt y 18446744073709551616 then some (.tup [.int .u64 (x*y/18446744073709551616:Nat),.int .u64 (x*y%18446744073709551616:Nat)]) else none
 | _=>none
def zbM:Nat→Nat→Nat
 | 0,_=>0
 | f+1,n=>bif Nat.beq n 0 then 0 else 1+zbM f (n/2)
def zkn:List AV→Option AV
 | [.int .u64 (.ofNat x)]=>bif Nat.blt x 18446744073709551616 then some (.int .i64 (zbM 64 x)) else none
 | _=>none
def zl2:List AV→Option AV
 | [.int .u64 (.ofNat x)]=>bif Nat.blt x 18446744073709551616 then some (.int .i64 (64-zbM 64 x:Nat)) else none
 | _=>none
def zkE:List AV→Option AV
 | [.flt .f64 b]=>some (.int .u64 b)
 | _=>none
def zeO:List AV→Option AV
 | [.int .u64 (.ofNat n)]=>some (.flt .f64 n)
 | _=>none
end VE
end
