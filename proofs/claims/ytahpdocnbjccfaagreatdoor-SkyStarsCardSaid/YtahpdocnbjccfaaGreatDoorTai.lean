import Derived.Test.YtahpdocnbjccfaaGreatDoorTah
set_option linter.all false
set_option maxRecDepth 100000
section
namespace VE
open Go
section
variable {Λ:Link} {H:zbU} {m:Mp} {S:Nat→Prop} {w:World} {tm:Env} {a:Act} {hp:Hp} {ct:Nat}
theorem zok {n:Nat} {cs:List AV} (h:zu cs=true):zu (cs.take n)=true:=zb8 n h
theorem zgz:∀(n:Nat) {cs:List AV},zL cs=true→zL (cs.take n)=true
 | 0,_,_=>by simp [zL]
 | n+1,[],_=>by simp [zL]
 | n+1,c::cs,h=>by
  simp only [List.take_succ_cons,zL,Bool.and_eq_true] at h ⊢
  exact ⟨h.1,zgz n h.2⟩
theorem zwd {o:Oper} {b':TypeId} {t u e:TypeId} {sz:Nat} {x y:Operand} {v:AV} {hp':Hp} {ct':Nat} (hH:zaV Λ H) (ht:zaL Λ m S w tm a.tmps) (hh:zU Λ m S w hp ct)
  (hrun:(execOp a.eval o).run Λ.P w=((do pure (.value (←Builtin.copy_ #[t,u] b' #[a.eval x,a.eval y])):Sem Next)).run Λ.P w)
  (htt:Λ.P.underlying t=some (.slice e)) (hs:szT Λ.P e=some sz)
  (hv:zY tm hp ct (.cpy sz (opX H x) (opX H y))=some (v,hp',ct')):zhF Λ m S w a hp ct o v hp' ct':=by
 simp only [zY] at hv
 cases hsrc:zc1 hp sz (zy tm (opX H y)) with
 | none=>simp [hsrc] at hv
 | some q=>
  obtain ⟨n,new⟩:=q
  simp only [hsrc] at hv
  obtain ⟨news,hn1,hn2⟩:=zkf hh (zal hH ht y) hsrc
  have hnl:=zaG _ _ hn1
  have rx:=zal hH ht x
  cases hx:zy tm (opX H x)<;>rw [hx] at hv rx<;>simp only [reduceCtorEq] at hv
  rename_i id o0 k
  simp only [zp] at rx
  obtain ⟨p,c,hm,ex,h1,h2⟩:=rx
  split at hv
  case h_2=>cases hv
  rename_i pu exb zz cs hg
  cases hc:(Nat.beq zz sz&&(Nat.ble (o0+k*sz) cs.length&&zL new)) with
  | false=>rw [hc] at hv;cases hv
  | true=>
   rw [hc] at hv
   simp only [cond_true,Option.some.injEq,Prod.mk.injEq] at hv
   obtain ⟨rfl,rfl,rfl⟩:=hv
   simp only [Bool.and_eq_true] at hc
   have c0:=Nat.eq_of_beq_eq_true hc.1
   have c1:=Nat.le_of_ble_eq_true hc.2.1
   subst c0
   obtain ⟨p',arr,t',g1,g2,g3,g4,g5,g6,g7,g8,g9,g10⟩:=hh.obj id _ _ hg hm
   rw [hm] at g1
   injection g1 with g1
   subst g1
   have hmin:min n k*zz≤k*zz:=Nat.mul_le_mul_right _ (Nat.min_le_right _ _)
   have hminn:min n k*zz≤n*zz:=Nat.mul_le_mul_right _ (Nat.min_le_left _ _)
   have rt:=zd7 (min n k*zz) hn1
   have hll:(news.take (min n k*zz)).length=min n k*zz:=by rw [List.length_take,hn2.2.1];omega
   have hll':(new.take (min n k*zz)).length=min n k*zz:=by rw [List.length_take,←hnl,hn2.2.1];omega
   have hone:=zgi rt (zgz _ hc.2.2)
   have hf:=hn2.2.2 w rfl (min n k) (Nat.min_le_left _ _)
   have hst:=run_storeCells_at Λ.P p.b (p.o+o0) t' (news.take (min n k*zz)) 0 arr w g2 (by rw [hll];omega) hone
   simp only [Nat.add_zero] at hst
   have hor:zcQ Λ m S (w.setRow p.b (arr.toList.take (p.o+o0)++news.take (min n k*zz)++arr.toList.drop (p.o+o0+(news.take (min n k*zz)).length)).toArray) id
     (.cells true (pu&&zu new) exb zz (zck o0 (new.take (min n k*zz)) cs)):=by
    refine ⟨p,_,t',hm,setRow_heap w p.b arr _ t' _ g2,g3,by rw [zhP (by omega)];exact g4,?_,fun h=>by rw [zhP (by omega)];exact g6 h,?_,?_,fun _=>g9 rfl,by simp⟩
    ·rw [List.size_toArray,List.length_append,List.length_append,List.length_take,List.length_drop,Array.length_toList,hll];omega
    ·exact znH g2 g7 rt (by omega) (by omega) MLe.refl (fun _ h=>h) (fun b hb=>setRow_other w p.b b _ (fun e=>g9 rfl (e▸hb))) (setRow_heap w p.b arr _ t' _ g2)
    ·intro h
     simp only [Bool.and_eq_true] at h
     exact zkJ (g8 h.1) (zok h.2)
   obtain ⟨e1,e2⟩:=zfP hh hg hm (g9 rfl) (zg1 w p.b _) hor (fun r hr=>by rw [g2] at hr;cases hr)
   refine zfR (u:=goInt ((min n k:Nat):Int)) (m':=m) (S':=S) ?_ e1 (by simp [zp,goInt]) MLe.refl e2
   rw [hrun,ex]
   simp [Builtin.copy_,run_underlying htt,hn2.1 w,zaM hs,show Nat.min n k=min n k from rfl,hf,hst]
theorem zzm {o:Oper} {k:Nat} {v:AV} {hp':Hp} {ct':Nat} (hH:zaV Λ H) (ht:zaL Λ m S w tm a.tmps) (hh:zU Λ m S w hp ct)
  (hv:zY tm hp ct (zC Λ.P H k o)=some (v,hp',ct')):zhF Λ m S w a hp ct o v hp' ct':=by
 have badW:∀{r:AV×Hp×Nat},zY tm hp ct bad=some r→False:=fun h=>by simp [bad,zY] at h
 cases ho:o.op with
 | call c=>
  obtain ⟨callee,args,ts⟩:=c
  simp only [zC,ho] at hv
  split at hv
  ·cases hmd:H.mode k<;>simp [hmd,zY] at hv
  ·rename_i _ b
   split at hv
   ·rename_i x y t u hargs hts
    obtain ⟨al⟩:=args
    obtain ⟨tl⟩:=ts
    simp only at hargs hts
    subst hargs;subst hts
    obtain ⟨cs,hrun⟩:=zdp (Λ:=Λ) (w:=w) (a:=a) ho
    have hrun':(execOp a.eval o).run Λ.P w=((do pure (.value (←Builtin.append_ #[t,u] o.type #[a.eval x,a.eval y])):Sem Next)).run Λ.P w:=by
     rw [hrun];simp [builtin]
    have key:∀{z:AV} {sz by':Nat} {e:TypeId},Λ.P.underlying t=some (.slice e)→((∃e',Λ.P.underlying u=some (.slice e'))∨Λ.P.underlying u=some .string)→szT Λ.P e=some sz→byT Λ.P e=some by'→zes Λ.P e=some z→
      zY tm hp ct (bif Nat.beq (cellsOf z).length sz then .app sz by' (opX H x) (opX H y) else bad)=some (v,hp',ct')→zhF Λ m S w a hp ct o v hp' ct':=by
     intro z sz by' e h1 h2 h3 h4 h5 h
     cases hb:Nat.beq (cellsOf z).length sz with
     | false=>rw [hb] at h;exact (badW h).elim
     | true=>
      rw [hb] at h
      exact zt9 hH ht hh hrun' h1 h2 h3 h4 h5 (Nat.eq_of_beq_eq_true hb) h
    split at hv
    ·rename_i e e' h1 h2
     split at hv
     ·rename_i sz by' z h3 h4 h5
      exact key h1 (.inl ⟨_,h2⟩) h3 h4 h5 hv
     ·exact (badW hv).elim
    ·rename_i e h1 h2
     split at hv
     ·rename_i sz by' z h3 h4 h5
      exact key h1 (.inr h2) h3 h4 h5 hv
     ·exact (badW hv).elim
    ·exact (badW hv).elim
   ·repeat' split at hv
    all_goals simp [zY,bad] at hv
   ·rename_i x y t u hargs hts
    obtain ⟨al⟩:=args
    obtain ⟨tl⟩:=ts
    simp only at hargs hts
    subst hargs;subst hts
    obtain ⟨cs,hrun⟩:=zdp (Λ:=Λ) (w:=w) (a:=a) ho
    have hrun':(execOp a.eval o).run Λ.P w=((do pure (.value (←Builtin.copy_ #[t,u] o.type #[a.eval x,a.eval y])):Sem Next)).run Λ.P w:=by
     rw [hrun];simp [builtin]
    split at hv
    ·rename_i e h1
     split at hv
     ·rename_i sz h3
      exact zwd hH ht hh hrun' h1 h3 hv
     ·exact (badW hv).elim
    ·exact (badW hv).elim
   ·simp [zY] at hv
   ·simp [zY] at hv
   ·exact (badW hv).elim
  ·exact (badW hv).elim
 | store t x y=>
  simp only [zC,ho] at hv
  split at hv
  ·rename_i s hs
   exact zAp hH ht hh ho hs hv
  ·exact (badW hv).elim
 | mapUpdate t x k y=>
  simp only [zC,ho] at hv
  split at hv
  ·rename_i kt e hu
   split at hv
   ·rename_i kk hkk
    exact znz hH ht hh (.inl ho) hu hkk hv
   ·exact (badW hv).elim
  ·exact (badW hv).elim
 | insert t x k y=>
  simp only [zC,ho] at hv
  split at hv
  ·rename_i kt e hu
   split at hv
   ·rename_i kk hkk
    exact znz hH ht hh (.inr ho) hu hkk hv
   ·exact (badW hv).elim
  ·exact (badW hv).elim
 | next x b=>
  cases b with
  | false=>simp only [zC,ho] at hv;exact (badW hv).elim
  | true=>exact ztX hH ht hh ho (by simpa only [zC,ho] using hv)
 | binOp op t x y ty=>
  cases op<;>simp only [zC,ho,zeH,zdT] at hv
  case eql=>
        repeat' split at hv
        all_goals first
         | (simp [zY,bad] at hv;done)
         | (cases hb:(Λ.P.stoodInHeld t||Λ.P.eqGuardType Λ.P.depth t)<;>rw [hb] at hv<;>simp [zY,bad] at hv)
  case neq=>
        repeat' split at hv
        all_goals first
         | (simp [zY,bad] at hv;done)
         | (cases hb:(Λ.P.stoodInHeld t||Λ.P.eqGuardType Λ.P.depth t)<;>rw [hb] at hv<;>simp [zY,bad] at hv)
  all_goals simp [zY] at hv
 | buildSlice t n parts=>
  simp only [zC,ho] at hv
  repeat' split at hv
  all_goals first
   | (simp [zY,bad] at hv;done)
   | (
     revert hv;generalize Nat.ble _ _=bb;intro hv;cases bb<;>simp [zY,bad] at hv
     try (split at hv<;>simp [zY,bad] at hv))
 | makeMap t r=>
  cases r<;>simp only [zC,ho] at hv
  ·repeat' split at hv
   all_goals simp [zY,bad] at hv
  ·exact (badW hv).elim
 | _=>
  simp only [zC,ho] at hv
  (repeat' split at hv)
  all_goals first
   | contradiction
   | (simp [zY,bad] at hv;done)
end
end VE
end
section
namespace VE
section
variable {hp H:Hp} {tm tm':Env}
theorem zq3 (hl:HLe hp H) {id:Nat} {rw pu ex:Bool} {sz:Nat} {cs:List AV} (h:zA hp id=some (.cells rw pu ex sz cs)):∃rw',zA H id=some (.cells rw' pu ex sz cs):=by
 obtain ⟨o',h1,rw',rfl,_⟩:=hl id _ h
 exact ⟨rw',h1⟩
theorem zqR (hl:HLe hp H) {id:Nat} {rw:Bool} {ks vs:List AV} (h:zA hp id=some (.mp rw ks vs)):∃rw',zA H id=some (.mp rw' ks vs):=by
 obtain ⟨o',h1,rw',rfl,_⟩:=hl id _ h
 exact ⟨rw',h1⟩
theorem zqG (hl:HLe hp H) {sz:Nat} {ag:Bool} {x v:AV} (h:ze2 hp sz ag x=some v):ze2 H sz ag x=some v:=by
 cases x<;>simp only [ze2,reduceCtorEq] at h ⊢
 ·rename_i id o
  cases hg:zA hp id with
  | none=>simp [hg] at h
  | some ob=>
   cases ob<;>simp only [hg,reduceCtorEq] at h
   obtain ⟨r,h1⟩:=zq3 hl hg
   simp only [h1];exact h
 ·exact h
theorem zv8 (hl:HLe hp H) {k x:AV} {v:Option AV} (h:zi9 hp k x=some v):zi9 H k x=some v:=by
 cases x<;>simp only [zi9,reduceCtorEq] at h ⊢
 ·exact h
 ·rename_i id
  cases hg:zA hp id with
  | none=>simp [hg] at h
  | some ob=>
   cases ob<;>simp only [hg,reduceCtorEq] at h
   obtain ⟨r,h1⟩:=zqR hl hg
   simp only [h1];exact h
 ·exact h
theorem zxB (hl:HLe hp H) {k:Nat} {x v:AV} (h:zcp hp k x=some v):zcp H k x=some v:=by
 unfold zcp at h ⊢
 split at h
 all_goals first
  | exact h
  | cases h
  | skip
 rename_i id
 cases hg:zA hp id with
 | none=>simp [hg] at h
 | some ob=>
  cases ob<;>simp only [hg,reduceCtorEq] at h
  obtain ⟨r,h1⟩:=zqR hl hg
  simp only [h1];exact h
theorem zwK (hl:HLe hp H) {k:Cut} {x v:AV} {lo hi:Option X} (h:zbq hp k x tm lo hi=some v):zbq H k x tm lo hi=some v:=by
 unfold zbq at h ⊢
 split at h
 all_goals first
  | exact h
  | cases h
  | skip
 rename_i sz id o n
 cases hg:zA hp id with
 | none=>simp [hg] at h
 | some ob=>
  cases ob<;>simp only [hg,reduceCtorEq] at h
  obtain ⟨r,h1⟩:=zq3 hl hg
  simp only [h1];exact h
theorem zty (hl:HLe hp H) {o:Op} {v:AV} (h:zH tm hp o=some v):zH tm H o=some v:=by
 cases o<;>simp only [zH,reduceCtorEq] at h ⊢<;>first
  | exact h
  | exact zqG hl h
  | exact zxB hl h
  | exact zwK hl h
  | skip
 rename_i kk zero ok m k
 cases hk:zdR kk (zy tm k) with
 | false=>rw [hk] at h;cases h
 | true=>
  rw [hk] at h
  simp only [cond_true] at h ⊢
  cases hr:zi9 hp (zy tm k) (zy tm m) with
  | none=>simp [hr] at h
  | some r=>rw [zv8 hl hr];simpa only [hr] using h
theorem zsx {o:Op} (hk:zJ o=0) (hp H:Hp):zH tm hp o=zH tm H o:=by
 cases o with
 | sli k x lo hi=>
  cases k with
  | str=>simp only [zH,zbq];cases zy tm x<;>rfl
  | sl sz=>simp [zJ] at hk
  | ar n sz=>simp [zJ] at hk
 | len k x=>
  match k,hk with
  | 0,_=>simp only [zH];unfold zcp;split<;>simp_all
  | 1,_=>simp only [zH];unfold zcp;split<;>simp_all
  | k+2,hk=>simp [zJ] at hk
 | call md f xs=>cases md<;>simp [zJ] at hk
 | _=>first
  | rfl
  | simp [zJ] at hk
end
section
variable {tm tm':Env}
theorem zQ {x:X} (h:∀t,t∈zcR x→zd tm' t=zd tm t):zy tm' x=zy tm x:=by
 cases x with
 | t i=>exact h i (by simp [zcR])
 | c v=>rfl
theorem zcA:∀{xs:List X},(∀t,t∈ze6 xs→zd tm' t=zd tm t)→zaI tm' xs=zaI tm xs
 | [],_=>rfl
 | x::r,h=>by
  simp only [zaI]
  rw [zQ (x:=x) (fun t ht=>h t (by simp [ze6,ht])),zcA (fun t ht=>h t (by simp [ze6,ht]))]
theorem zh0:∀{ps:List (Nat×Nat×X)} {z:List AV},(∀t,t∈zoH ps→zd tm' t=zd tm t)→fill tm' z ps=fill tm z ps
 | [],_,_=>rfl
 | (o,s,x)::r,z,h=>by
  simp only [fill]
  rw [zQ (x:=x) (fun t ht=>h t (by simp [zoH,ht]))]
  rw [zh0 (ps:=r) (fun t ht=>h t (by simp [zoH,ht]))]
theorem zjT {d:Nat} {x:Option X} (h:∀t,t∈zoO x→zd tm' t=zd tm t):zat tm' d x=zat tm d x:=by
 cases x with
 | none=>rfl
 | some x=>simp only [zat];rw [zQ h]
theorem zpG {hp:Hp} {k:Cut} {x:AV} {lo hi:Option X} (h1:∀t,t∈zoO lo→zd tm' t=zd tm t) (h2:∀t,t∈zoO hi→zd tm' t=zd tm t):
  zbq hp k x tm' lo hi=zbq hp k x tm lo hi:=by
 unfold zbq
 simp only [zjT h1,zjT h2]
theorem zoP {hp:Hp} {o:Op} (h:∀t,t∈zb0 o→zd tm' t=zd tm t):zH tm' hp o=zH tm hp o:=by
 cases o<;>simp only [zb0,List.mem_append] at h<;>simp only [zH]
 case pick c a b=>rw [zQ (x:=c) fun t ht=>h t (.inl ht),zQ (x:=a) fun t ht=>h t (.inr (.inl ht)),zQ (x:=b) fun t ht=>h t (.inr (.inr ht))]
 case mkagg z ps=>rw [zh0 h]
 case mkf f a b=>rw [zcA (xs:=a) fun t ht=>h t (.inl ht),zcA (xs:=b) fun t ht=>h t (.inr ht)]
 case sli k x lo hi=>rw [zQ (x:=x) fun t ht=>h t (.inl ht),zpG (fun t ht=>h t (.inr (.inl ht))) (fun t ht=>h t (.inr (.inr ht)))]
 case mn xs=>rw [zcA h]
 case mx xs=>rw [zcA h]
 case bin op x y=>rw [zQ (x:=x) fun t ht=>h t (.inl ht),zQ (x:=y) fun t ht=>h t (.inr ht)]
 case eq n k x y=>rw [zQ (x:=x) fun t ht=>h t (.inl ht),zQ (x:=y) fun t ht=>h t (.inr ht)]
 case ixa s x y=>rw [zQ (x:=x) fun t ht=>h t (.inl ht),zQ (x:=y) fun t ht=>h t (.inr ht)]
 case ixp l s x y=>rw [zQ (x:=x) fun t ht=>h t (.inl ht),zQ (x:=y) fun t ht=>h t (.inr ht)]
 case ixs x y=>rw [zQ (x:=x) fun t ht=>h t (.inl ht),zQ (x:=y) fun t ht=>h t (.inr ht)]
 case ixv l s g x y=>rw [zQ (x:=x) fun t ht=>h t (.inl ht),zQ (x:=y) fun t ht=>h t (.inr ht)]
 case lkp kk z ok x y=>rw [zQ (x:=x) fun t ht=>h t (.inl ht),zQ (x:=y) fun t ht=>h t (.inr ht)]
 all_goals first
  | rfl
  | (rename_i x;rw [zQ (x:=x) h])
theorem zdA {hp hp':Hp} {ct:Nat} {o:Op} (h:∀t,t∈zb0 o→zd tm' t=zd tm t):zab tm' hp' ct o=zab tm hp ct o:=by
 cases o<;>simp only [zb0,List.mem_append] at h<;>simp only [zab]
 case box s x=>rw [zQ (x:=x) h]
 case mksl n s z ps=>rw [zh0 h]
 case mks s b z x y=>rw [zQ (x:=x) fun t ht=>h t (.inl ht),zQ (x:=y) fun t ht=>h t (.inr ht)]
 case rng x=>rw [zQ (x:=x) h]
theorem zch {hp:Hp} {ct:Nat} {o:Op} (h:∀t,t∈zb0 o→zd tm' t=zd tm t):zY tm' hp ct o=zY tm hp ct o:=by
 cases o<;>simp only [zb0,List.mem_append] at h<;>simp only [zY]
 case st s x y=>rw [zQ (x:=x) fun t ht=>h t (.inl ht),zQ (x:=y) fun t ht=>h t (.inr ht)]
 case mup kk c a b=>rw [zQ (x:=c) fun t ht=>h t (.inl ht),zQ (x:=a) fun t ht=>h t (.inr (.inl ht)),zQ (x:=b) fun t ht=>h t (.inr (.inr ht))]
 case nxt x=>rw [zQ (x:=x) h]
 case app s b x y=>rw [zQ (x:=x) fun t ht=>h t (.inl ht),zQ (x:=y) fun t ht=>h t (.inr ht)]
 case cpy s x y=>rw [zQ (x:=x) fun t ht=>h t (.inl ht),zQ (x:=y) fun t ht=>h t (.inr ht)]
end
end VE
end
section
namespace VE
open Go
structure Calm (w w':World):Prop where
 os:w'.os=w.os
 tape:w'.tape=w.tape
 output:w'.output=w.output
 size:w.heap.size≤w'.heap.size
 same:∀b,b<w.heap.size→w'.heap[b]? =w.heap[b]?
theorem Calm.refl {w:World}:Calm w w:=⟨rfl,rfl,rfl,Nat.le_refl _,fun _ _=>rfl⟩
theorem Calm.trans {w w' w'':World} (h:Calm w w') (k:Calm w' w''):Calm w w'':=
 ⟨k.os.trans h.os,k.tape.trans h.tape,k.output.trans h.output,Nat.le_trans h.size k.size,fun b hb=>(k.same b (Nat.lt_of_lt_of_le hb h.size)).trans (h.same b hb)⟩
def zi4 (Λ:Link) (w:World):Prop:=(∀b,b<Λ.w0.heap.size→w.heap[b]? =Λ.w0.heap[b]?)∧Λ.w0.heap.size≤w.heap.size
def noM:Mp:=fun _=>none
def zc4 (fid:Nat→Nat) (S:Nat→Prop) (w:World) (lo:Nat):AV→Value→List Nat→Prop
 | .fsl ex sz n cs,u,bs=>∃b o c arr t,bs=[b]∧u= .slice (some ⟨b,o,none⟩) n c∧n≤c∧(ex=true→c=n)∧lo≤b∧¬S b∧w.heap[b]? =some (.cells arr t (0,0))∧cs.length=n*sz∧
   o+c*sz≤arr.size∧zZ fid noM S w cs b o∧zu cs=true
 | r,u,bs=>bs=[]∧zp fid noM S w r u∧zD r=true
def zeG (fid:Nat→Nat) (S:Nat→Prop) (w:World) (lo:Nat):List AV→List Value→List Nat→Prop
 | [],us,bs=>us=[]∧bs=[]
 | v::r,us,bs=>∃u t b1 b2,us=u::t∧bs=b1++b2∧zc4 fid S w lo v u b1∧zeG fid S w lo r t b2
def zg7 (fid:Nat→Nat) (S:Nat→Prop) (w:World) (lo:Nat) (r:AV) (u:Value):Prop:=
 match r with
 | .tup vs=>∃(us:Array Value) (bs:List Nat),u= .tuple us∧zeG fid S w lo vs us.toList bs∧bs.Nodup
 | r=>∃bs,zc4 fid S w lo r u bs
def Invoked (P:Program) (f:FuncId) (args:Array Value) (w:World) (R:Ending→World→Prop):Prop:=
 ((callFunc f args).run P w= .ok (.enter f args) w∧CallsIn Fence.wide 0 P f args w R)∨∃u w',(callFunc f args).run P w= .ok (.value u) w'∧R (.returned u) w'
def znK (Λ:Link) (w:World) (S:Nat→Prop) (r:AV) (e:Ending) (w':World):Prop:=
 ∃u S',e= .returned u∧Calm w w'∧(∀b,S b→S' b)∧(∀b,S' b→S b∨w.heap.size≤b)∧(∀b,S' b→b<w'.heap.size)∧zg7 Λ.fid S' w' w.heap.size r u
def PureC (Λ:Link) (n:Nat) (vals:List AV) (r:AV):Prop:=
 ∀(w:World) (S:Nat→Prop) (args:Array Value),zi4 Λ w→(∀b,S b→b<w.heap.size)→zm Λ.fid noM S w vals args.toList→zu vals=true→
  Invoked Λ.P (Λ.fid n) args w (znK Λ w S r)
def zcX (Λ:Link) (m:Mp) (S:Nat→Prop) (w:World) (hp:Hp) (ct:Nat) (v:AV) (hp':Hp) (ct':Nat) (e:Ending) (w':World):Prop:=
 ∃u m' S',e= .returned u∧zU Λ m' S' w' hp' ct'∧ct≤ct'∧zp Λ.fid m' S' w' v u∧Fwd m S w hp m' S' w' hp' ct
def ziY (Λ:Link) (n:Nat) (hp:Hp) (ct:Nat) (vals:List AV) (v:AV) (hp':Hp) (ct':Nat):Prop:=
 ∀(m:Mp) (S:Nat→Prop) (w:World) (args:Array Value),zU Λ m S w hp ct→zm Λ.fid m S w vals args.toList→Invoked Λ.P (Λ.fid n) args w (zcX Λ m S w hp ct v hp' ct')
section
variable {fid:Nat→Nat} {m m':Mp} {S S':Nat→Prop} {w w':World}
mutual
theorem zb5 (hS:∀b,S b→S' b) (hw:za0 S w w'):∀(v:AV) (u:Value),zD v=true→zp fid m S w v u→zp fid m' S' w' v u
 | .int _ _,_,_,h | .bool _,_,_,h | .flt _ _,_,_,h | .str _,_,_,h | .nilp,_,_,h | .nils,_,_,h | .nilf,_,_,h | .nilm,_,_,h | .undef,_,_,h=>by
  simpa only [zp] using h
 | .ptr id o,u,hp,h=>by simp [zD] at hp
 | .vptr cs,u,hp,h=>by
  simp only [zp] at h ⊢
  obtain ⟨b,o,h1,h2,h3,h4⟩:=h
  refine ⟨b,o,h1,h2.imp id (hS b),h3,?_⟩
  rcases h2 with rfl | h2
  ·simp only [zZ]
  ·exact zg6 hS hw cs b o h3 h2 h4
 | .vsl ex n cs,u,hp,h=>by
  simp only [zp] at h ⊢
  rcases h with ⟨b,o,c,h1,h2,h3,h4,h5,h6⟩ | h
  ·refine .inl ⟨b,o,c,h1,h2,h3,h4.imp id (hS b),h5,?_⟩
   rcases h4 with rfl | h4
   ·simp only [zZ]
   ·exact zg6 hS hw cs b o h5 h4 h6
  ·exact .inr h
 | .fsl _ _ _ _,u,hp,h=>by simp [zD] at hp
 | .osl id o n,u,hp,h=>by simp [zD] at hp
 | .fn (.f g) first cap,u,hp,h=>by
  simp only [zp] at h ⊢
  simp only [zD,Bool.and_eq_true] at hp
  obtain ⟨fi,ca,h1,h2,h3⟩:=h
  exact ⟨fi,ca,h1,zcf hS hw first _ hp.1 h2,zcf hS hw cap _ hp.2 h3⟩
 | .fn (.y l) _ _,u,hp,h=>by simp [zD] at hp
 | .map id,u,hp,h=>by simp [zD] at hp
 | .vmap ks vs,u,hp,h=>by
  simp only [zp] at h ⊢
  obtain ⟨b,es,clock,h1,h2,h3,h4,h5,h6,h7⟩:=h
  exact ⟨b,es,clock,h1,hS b h2,h3,h4,(hw b h2).trans h5,zcf hS hw ks _ h3 h6,zcf hS hw vs _ h4 h7⟩
 | .it id,u,hp,h=>by simp [zD] at hp
 | .agg cs,u,hp,h=>by
  simp only [zp] at h ⊢
  simp only [zD] at hp
  obtain ⟨xs,h1,h2⟩:=h;exact ⟨xs,h1,zcf hS hw cs _ hp h2⟩
 | .tup cs,u,hp,h=>by
  simp only [zp] at h ⊢
  simp only [zD] at hp
  obtain ⟨xs,h1,h2⟩:=h;exact ⟨xs,h1,zcf hS hw cs _ hp h2⟩
theorem zcf (hS:∀b,S b→S' b) (hw:za0 S w w'):∀(vs:List AV) (us:List Value),zu vs=true→zm fid m S w vs us→zm fid m' S' w' vs us
 | [],us,_,h=>by simpa only [zm] using h
 | v::r,us,hp,h=>by
  simp only [zm] at h ⊢
  simp only [zu,Bool.and_eq_true] at hp
  obtain ⟨u,t,h1,h2,h3⟩:=h
  exact ⟨u,t,h1,zb5 hS hw v u hp.1 h2,zcf hS hw r t hp.2 h3⟩
theorem zg6 (hS:∀b,S b→S' b) (hw:za0 S w w'):∀(cs:List AV) (b o:Nat),zu cs=true→S b→zZ fid m S w cs b o→zZ fid m' S' w' cs b o
 | [],_,_,_,_,_=>by simp only [zZ]
 | c::cs,b,o,hp,hb,h=>by
  simp only [zZ] at h ⊢
  simp only [zu,Bool.and_eq_true] at hp
  obtain ⟨⟨u,h1,h2⟩,h3⟩:=h
  exact ⟨⟨u,(zdS (hw b hb)).trans h1,zb5 hS hw c u hp.1 h2⟩,zg6 hS hw cs b (o+1) hp.2 hb h3⟩
end
theorem zb2 (hS:∀b,S b→S' b) (hw:za0 S w w'):∀(cs:List AV) (b o:Nat),zu cs=true→w'.heap[b]? =w.heap[b]? →zZ fid m S w cs b o→zZ fid m' S' w' cs b o
 | [],_,_,_,_,_=>by simp only [zZ]
 | c::cs,b,o,hp,hb,h=>by
  simp only [zZ] at h ⊢
  simp only [zu,Bool.and_eq_true] at hp
  obtain ⟨⟨u,h1,h2⟩,h3⟩:=h
  exact ⟨⟨u,(zdS hb).trans h1,zb5 hS hw c u hp.1 h2⟩,zb2 hS hw cs b (o+1) hp.2 hb h3⟩
end
section
variable {Λ:Link} {m:Mp} {S S':Nat→Prop} {w w':World} {hp:Hp} {ct:Nat}
theorem ztz (hh:zU Λ m S w hp ct) (hw:Calm w w'):za0 S w w':=fun b hb=>hw.same b (hh.slt b hb)
theorem zd4 (hh:zU Λ m S w hp ct) (hw:Calm w w') (hS:∀b,S b→S' b) (hn:∀b,S' b→S b∨w.heap.size≤b) (hl:∀b,S' b→b<w'.heap.size):zU Λ m S' w' hp ct where
 obj id o p ho hm:=zbP (fun _ _ h=>h) hS (ztz hh hw) (fun q hq=>hw.same _ (hh.blt id q hq)) (fun q hq hs=>(hn _ hs).resolve_right (by have:=hh.blt id q hq;omega)) (hh.obj id o p ho hm)
 lt:=hh.lt
 inj:=hh.inj
 slt:=hl
 blt id p h:=Nat.lt_of_lt_of_le (hh.blt id p h) hw.size
 low:=hh.low
 good b hb:=(hw.same b (Nat.lt_of_lt_of_le hb hh.goodS)).trans (hh.good b hb)
 goodS:=Nat.le_trans hh.goodS hw.size
 hlt:=hh.hlt
theorem zem {base:Nat} (hh:zU Λ m S w hp ct) (hw:Calm w w') (hS:∀b,S b→S' b) (hn:∀b,S' b→S b∨w.heap.size≤b):Fwd m S w hp m S' w' hp base where
 os:=hw.os
 tape:=hw.tape
 output:=hw.output
 size:=hw.size
 same b hb _:=hw.same b hb
 sub:=hS
 still b hb:=hw.same b (hh.slt b hb)
 new b hb:=(hn b hb).imp id .inr
 own b hb:= .inl hb
 old _ _ _ h:=h
 loops b r hb:=⟨r,(hw.same b (Array.getElem?_eq_some_iff.1 hb).1).trans hb⟩
theorem zyd {i:Nat} (hh:zU Λ m S w hp ct) (hi:m i=none) (hic:i<ct) {p:Pl} (hb:p.b<w.heap.size) (hlo:Λ.w0.heap.size≤p.b) (hns:¬S p.b) (hno:∀j q,m j=some q→q.b≠p.b)
  (hf:∀o,zA hp i=some o→(zcQ Λ (zcO m i p) S w i o∧¬zaX o)∨(zaX o∧zcQ Λ (zcO m i p) (fun b=>S b∨b=p.b) w i o)):
  ∃S',zU Λ (zcO m i p) S' w hp ct∧(∀b,S b→S' b)∧∀b,S' b→S b∨b=p.b:=by
 have hst:za0 S w w:=fun _ _=>rfl
 have gen:∀S':Nat→Prop,(∀b,S b→S' b)→(∀b,S' b→S b∨b=p.b)→(∀o,zA hp i=some o→zcQ Λ (zcO m i p) S' w i o)→zU Λ (zcO m i p) S' w hp ct:=by
  intro S' h1 h2 h3
  refine ⟨?_,?_,?_,?_,?_,?_,hh.good,hh.goodS,hh.hlt⟩
  ·intro id o q ho hm
   by_cases hc:id=i
   ·subst hc;exact h3 o ho
   ·rw [zN hc] at hm
    refine zbP (zbp hi) h1 hst (fun _ _=>rfl) (fun q' hq' hs=>?_) (hh.obj id o q ho hm)
    exact (h2 _ hs).resolve_right (hno id q' hq')
  ·intro id q hm
   by_cases hc:id=i
   ·subst hc;exact hic
   ·rw [zN hc] at hm;exact hh.lt id q hm
  ·intro a b oa ob pa pb ha hb' hma hmb' e
   by_cases ca:a=i
   ·by_cases cb:b=i
    ·rw [ca,cb]
    ·subst ca
     rw [zT] at hma
     rw [zN cb] at hmb'
     injection hma with hma
     subst hma
     exact (hno b pb hmb' e.symm).elim
   ·rw [zN ca] at hma
    by_cases cb:b=i
    ·subst cb
     rw [zT] at hmb'
     injection hmb' with hmb'
     subst hmb'
     exact (hno a pa hma e).elim
    ·rw [zN cb] at hmb'
     exact hh.inj a b oa ob pa pb ha hb' hma hmb' e
  ·intro b hs
   rcases h2 b hs with h | h
   ·exact hh.slt b h
   ·rw [h];exact hb
  ·intro id q hm
   by_cases hc:id=i
   ·subst hc
    rw [zT] at hm
    injection hm with hm
    subst hm
    exact hb
   ·rw [zN hc] at hm;exact hh.blt id q hm
  ·intro id q hm
   by_cases hc:id=i
   ·subst hc
    rw [zT] at hm
    injection hm with hm
    subst hm
    exact hlo
   ·rw [zN hc] at hm;exact hh.low id q hm
 cases ho:zA hp i with
 | none=>exact ⟨S,gen S (fun _ h=>h) (fun _ h=> .inl h) (fun o h=>by rw [ho] at h;cases h),fun _ h=>h,fun _ h=> .inl h⟩
 | some o=>
  rcases hf o ho with ⟨h1,_⟩ | ⟨_,h1⟩
  ·exact ⟨S,gen S (fun _ h=>h) (fun _ h=> .inl h) (fun o' h=>by rw [ho] at h;injection h with h;subst h;exact h1),fun _ h=>h,fun _ h=> .inl h⟩
  ·exact ⟨_,gen (fun b=>S b∨b=p.b) (fun _ h=> .inl h) (fun _ h=>h) (fun o' h=>by rw [ho] at h;injection h with h;subst h;exact h1),fun _ h=> .inl h,fun _ h=>h⟩
theorem zma {fid:Nat→Nat} {lo:Nat} {r:AV} {u:Value} {bs:List Nat} (h:zc4 fid S w lo r u bs) (m:Mp) (hS:∀b,S b→S' b) (hbs:∀b,b∈bs→S' b):zp fid m S' w (shut1 r) u:=by
 have hst:za0 S w w:=fun _ _=>rfl
 cases r with
 | fsl ex sz n cs=>
  simp only [zc4] at h
  obtain ⟨b,o,c,arr,t,rfl,rfl,h1,h2,h3,h4,h5,h6,h7,h8,h9⟩:=h
  simp only [shut1,zp]
  exact .inl ⟨b,o,c,rfl,h1,h2,.inr (hbs b (by simp)),h9,zb2 hS hst cs b o h9 rfl h8⟩
 | _=>simp only [zc4] at h;exact zb5 hS hst _ _ h.2.2 h.2.1
theorem zmf {fid:Nat→Nat} {lo:Nat} (m:Mp) (hS:∀b,S b→S' b):∀{vs:List AV} {us:List Value} {bs:List Nat},zeG fid S w lo vs us bs→(∀b,b∈bs→S' b)→zm fid m S' w (zhk vs) us
 | [],us,bs,h,_=>by simp only [zeG] at h;simp only [zhk,zm];exact h.1
 | v::r,us,bs,h,hb=>by
  simp only [zeG] at h
  obtain ⟨u,t,b1,b2,rfl,rfl,h1,h2⟩:=h
  simp only [zhk,zm]
  exact ⟨u,t,rfl,zma h1 m hS (fun b hb'=>hb b (by simp [hb'])),zmf m hS h2 (fun b hb'=>hb b (by simp [hb']))⟩
theorem znl {fid:Nat→Nat} {lo:Nat} {r:AV} {u:Value} {bs:List Nat} (h:zc4 fid S w lo r u bs):∀b,b∈bs→lo≤b∧b<w.heap.size:=by
 intro b hb
 cases r with
 | fsl ex sz n cs=>
  simp only [zc4] at h
  obtain ⟨b',o,c,arr,t,rfl,rfl,h1,h2,h3,h4,h5,_⟩:=h
  simp only [List.mem_singleton] at hb
  subst hb
  exact ⟨h3,(Array.getElem?_eq_some_iff.1 h5).1⟩
 | _=>simp only [zc4] at h;rw [h.1] at hb;cases hb
theorem zm3 {fid:Nat→Nat} {lo:Nat}:∀{vs:List AV} {us:List Value} {bs:List Nat},zeG fid S w lo vs us bs→∀b,b∈bs→lo≤b∧b<w.heap.size
 | [],us,bs,h,b,hb=>by simp only [zeG] at h;rw [h.2] at hb;cases hb
 | v::r,us,bs,h,b,hb=>by
  simp only [zeG] at h
  obtain ⟨u,t,b1,b2,rfl,rfl,h1,h2⟩:=h
  rcases List.mem_append.1 hb with hb | hb
  ·exact znl h1 b hb
  ·exact zm3 h2 b hb
theorem zmq {fid:Nat→Nat} {lo:Nat} {r:AV} {u:Value} (h:zg7 fid S w lo r u) (m:Mp):∃S',(∀b,S b→S' b)∧(∀b,S' b→S b∨(lo≤b∧b<w.heap.size))∧zp fid m S' w (shut r) u:=by
 have one:∀(r:AV) (bs:List Nat),shut r=shut1 r→zc4 fid S w lo r u bs→∃S',(∀b,S b→S' b)∧(∀b,S' b→S b∨(lo≤b∧b<w.heap.size))∧zp fid m S' w (shut r) u:=by
  intro r bs hs h
  refine ⟨fun b=>S b∨b∈bs,fun _ h=> .inl h,fun b hb=>hb.imp (fun x=>x) (fun hb=>znl h b hb),?_⟩
  rw [hs]
  exact zma h m (fun _ h=> .inl h) (fun _ h=> .inr h)
 cases r with
 | tup vs=>
  simp only [zg7] at h
  obtain ⟨us,bs,rfl,h1,h2⟩:=h
  refine ⟨fun b=>S b∨b∈bs,fun _ h=> .inl h,fun b hb=>hb.imp (fun x=>x) (fun hb=>zm3 h1 b hb),?_⟩
  simp only [shut,zp]
  exact ⟨us,rfl,zmf m (fun _ h=> .inl h) h1 (fun _ h=> .inr h)⟩
 | _=>
  simp only [zg7] at h
  obtain ⟨bs,h⟩:=h
  exact one _ bs rfl h
end
end VE
end
