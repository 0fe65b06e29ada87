import Derived.Test.YtkhmakhdoedjiaaGreatDoorTah
set_option linter.all false
set_option maxRecDepth 100000
section
namespace VE
section
variable {hp H:Hp} {tm tm':Env}
theorem zre (hl:HLe hp H) {id:Nat} {rw pu ex:Bool} {sz:Nat} {cs:List AV} (h:zq hp id=some (.cells rw pu ex sz cs)):∃rw',zq H id=some (.cells rw' pu ex sz cs):=by
 obtain ⟨o',h1,rw',rfl,_⟩:=hl id _ h;exact ⟨rw',h1⟩
theorem zr8 (hl:HLe hp H) {id:Nat} {rw:Bool} {ks vs:List AV} (h:zq hp id=some (.mp rw ks vs)):∃rw',zq H id=some (.mp rw' ks vs):=by
 obtain ⟨o',h1,rw',rfl,_⟩:=hl id _ h;exact ⟨rw',h1⟩
theorem zqY (hl:HLe hp H) {sz:Nat} {ag:Bool} {x v:AV} (h:zeF hp sz ag x=some v):zeF H sz ag x=some v:=by
 cases x<;>simp only [zeF,reduceCtorEq] at h ⊢
 ·rename_i id o
  cases hg:zq hp id with
  | none=>simp [hg] at h
  | some ob=>
   cases ob<;>simp only [hg,reduceCtorEq] at h
   obtain ⟨r,h1⟩:=zre hl hg;simp only [h1];exact h
 ·exact h
theorem zwR (hl:HLe hp H) {k x:AV} {v:Option AV} (h:ziw hp k x=some v):ziw H k x=some v:=by
 cases x<;>simp only [ziw,reduceCtorEq] at h ⊢
 ·exact h
 ·rename_i id
  cases hg:zq hp id with
  | none=>simp [hg] at h
  | some ob=>
   cases ob<;>simp only [hg,reduceCtorEq] at h
   obtain ⟨r,h1⟩:=zr8 hl hg;simp only [h1];exact h
 ·exact h
theorem zvZ (hl:HLe hp H) {k:Nat} {x v:AV} (h:zb8 hp k x=some v):zb8 H k x=some v:=by
 unfold zb8 at h ⊢
 split at h
 all_goals first
  | exact h
  | cases h
  | skip
 rename_i id
 cases hg:zq hp id with
 | none=>simp [hg] at h
 | some ob=>
  cases ob<;>simp only [hg,reduceCtorEq] at h
  obtain ⟨r,h1⟩:=zr8 hl hg;simp only [h1];exact h
theorem zyL (hl:HLe hp H) {k:Cut} {x v:AV} {lo hi:Option X} (h:zbe hp k x tm lo hi=some v):zbe H k x tm lo hi=some v:=by
 unfold zbe at h ⊢
 split at h
 all_goals first
  | exact h
  | cases h
  | skip
 rename_i sz id o n
 cases hg:zq hp id with
 | none=>simp [hg] at h
 | some ob=>
  cases ob<;>simp only [hg,reduceCtorEq] at h
  obtain ⟨r,h1⟩:=zre hl hg;simp only [h1];exact h
theorem zuF (hl:HLe hp H) {o:Op} {v:AV} (h:zB tm hp o=some v):zB tm H o=some v:=by
 cases o<;>simp only [zB,reduceCtorEq] at h ⊢<;>first
  | exact h
  | exact zqY hl h
  | exact zvZ hl h
  | exact zyL hl h
  | skip
 rename_i kk zero ok m k
 cases hk:zdF kk (zp tm k) with
 | false=>rw [hk] at h;cases h
 | true=>
  rw [hk] at h;simp only [cond_true] at h ⊢
  cases hr:ziw hp (zp tm k) (zp tm m) with
  | none=>simp [hr] at h
  | some r=>rw [zwR hl hr];simpa only [hr] using h
theorem zum {o:Op} (hk:zD o=0) (hp H:Hp):zB tm hp o=zB tm H o:=by
 cases o with
 | sli k x lo hi=>
  cases k with
  | str=>simp only [zB,zbe];cases zp tm x<;>rfl
  | sl sz=>simp [zD] at hk
  | ar n sz=>simp [zD] at hk
 | len k x=>
  match k,hk with
  | 0,_=>simp only [zB];unfold zb8;split<;>simp_all
  | 1,_=>simp only [zB];unfold zb8;split<;>simp_all
  | k+2,hk=>simp [zD] at hk
 | call md f xs=>cases md<;>simp [zD] at hk
 | _=>first
  | rfl
  | simp [zD] at hk
end
section
variable {tm tm':Env}
theorem zM {x:X} (h:∀t,t∈zcL x→zc tm' t=zc tm t):zp tm' x=zp tm x:=by
 cases x with
 | t i=>exact h i (by simp [zcL])
 | c v=>rfl
theorem zcl:∀{xs:List X},(∀t,t∈zeV xs→zc tm' t=zc tm t)→zaz tm' xs=zaz tm xs
 | [],_=>rfl
 | x::r,h=>by
  simp only [zaz]
  rw [zM (x:=x) (fun t ht=>h t (by simp [zeV,ht])),zcl (fun t ht=>h t (by simp [zeV,ht]))]
theorem zhZ:∀{ps:List (Nat×Nat×X)} {z:List AV},(∀t,t∈znT ps→zc tm' t=zc tm t)→fill tm' z ps=fill tm z ps
 | [],_,_=>rfl
 | (o,s,x)::r,z,h=>by
  simp only [fill]
  rw [zM (x:=x) (fun t ht=>h t (by simp [znT,ht]))]
  rw [zhZ (ps:=r) (fun t ht=>h t (by simp [znT,ht]))]
theorem zkN {d:Nat} {x:Option X} (h:∀t,t∈zoH x→zc tm' t=zc tm t):zao tm' d x=zao tm d x:=by
 cases x with
 | none=>rfl
 | some x=>simp only [zao];rw [zM h]
theorem zpk {hp:Hp} {k:Cut} {x:AV} {lo hi:Option X} (h1:∀t,t∈zoH lo→zc tm' t=zc tm t) (h2:∀t,t∈zoH hi→zc tm' t=zc tm t):
  zbe hp k x tm' lo hi=zbe hp k x tm lo hi:=by
 unfold zbe;simp only [zkN h1,zkN h2]
theorem zn7 {hp:Hp} {o:Op} (h:∀t,t∈zbY o→zc tm' t=zc tm t):zB tm' hp o=zB tm hp o:=by
 cases o<;>simp only [zbY,List.mem_append] at h<;>simp only [zB]
 case pick c a b=>rw [zM (x:=c) fun t ht=>h t (.inl ht),zM (x:=a) fun t ht=>h t (.inr (.inl ht)),zM (x:=b) fun t ht=>h t (.inr (.inr ht))]
 case mkagg z ps=>rw [zhZ h]
 case mkf f a b=>rw [zcl (xs:=a) fun t ht=>h t (.inl ht),zcl (xs:=b) fun t ht=>h t (.inr ht)]
 case sli k x lo hi=>rw [zM (x:=x) fun t ht=>h t (.inl ht),zpk (fun t ht=>h t (.inr (.inl ht))) (fun t ht=>h t (.inr (.inr ht)))]
 case mn xs=>rw [zcl h]
 case mx xs=>rw [zcl h]
 case bin op x y=>rw [zM (x:=x) fun t ht=>h t (.inl ht),zM (x:=y) fun t ht=>h t (.inr ht)]
 case eq n k x y=>rw [zM (x:=x) fun t ht=>h t (.inl ht),zM (x:=y) fun t ht=>h t (.inr ht)]
 case ixa s x y=>rw [zM (x:=x) fun t ht=>h t (.inl ht),zM (x:=y) fun t ht=>h t (.inr ht)]
 case ixp l s x y=>rw [zM (x:=x) fun t ht=>h t (.inl ht),zM (x:=y) fun t ht=>h t (.inr ht)]
 case ixs x y=>rw [zM (x:=x) fun t ht=>h t (.inl ht),zM (x:=y) fun t ht=>h t (.inr ht)]
 case ixv l s g x y=>rw [zM (x:=x) fun t ht=>h t (.inl ht),zM (x:=y) fun t ht=>h t (.inr ht)]
 case lkp kk z ok x y=>rw [zM (x:=x) fun t ht=>h t (.inl ht),zM (x:=y) fun t ht=>h t (.inr ht)]
 all_goals first
  | rfl
  | (rename_i x;rw [zM (x:=x) h])
theorem zdi {hp hp':Hp} {ct:Nat} {o:Op} (h:∀t,t∈zbY o→zc tm' t=zc tm t):z5 tm' hp' ct o=z5 tm hp ct o:=by
 cases o<;>simp only [zbY,List.mem_append] at h<;>simp only [z5]
 case box s x=>rw [zM (x:=x) h]
 case mksl n s z ps=>rw [zhZ h]
 case mks s b z x y=>rw [zM (x:=x) fun t ht=>h t (.inl ht),zM (x:=y) fun t ht=>h t (.inr ht)]
 case rng x=>rw [zM (x:=x) h]
theorem zb2 {hp:Hp} {ct:Nat} {o:Op} (h:∀t,t∈zbY o→zc tm' t=zc tm t):zV tm' hp ct o=zV tm hp ct o:=by
 cases o<;>simp only [zbY,List.mem_append] at h<;>simp only [zV]
 case st s x y=>rw [zM (x:=x) fun t ht=>h t (.inl ht),zM (x:=y) fun t ht=>h t (.inr ht)]
 case mup kk c a b=>rw [zM (x:=c) fun t ht=>h t (.inl ht),zM (x:=a) fun t ht=>h t (.inr (.inl ht)),zM (x:=b) fun t ht=>h t (.inr (.inr ht))]
 case nxt x=>rw [zM (x:=x) h]
 case app s b x y=>rw [zM (x:=x) fun t ht=>h t (.inl ht),zM (x:=y) fun t ht=>h t (.inr ht)]
 case cpy s x y=>rw [zM (x:=x) fun t ht=>h t (.inl ht),zM (x:=y) fun t ht=>h t (.inr ht)]
end
end VE
end
section
namespace VE
open Go
structure Calm (w w':World):Prop where
 os:w'.os=w.os
 tape:w'.tape=w.tape
 output:w'.output=w.output
 size:w.heap.size≤w'.heap.size
 same:∀b,b<w.heap.size→w'.heap[b]? =w.heap[b]?
theorem Calm.refl {w:World}:Calm w w:=⟨rfl,rfl,rfl,Nat.le_refl _,fun _ _=>rfl⟩
theorem Calm.trans {w w' w'':World} (h:Calm w w') (k:Calm w' w''):Calm w w'':=
 ⟨k.os.trans h.os,k.tape.trans h.tape,k.output.trans h.output,Nat.le_trans h.size k.size,fun b hb=>(k.same b (Nat.lt_of_lt_of_le hb h.size)).trans (h.same b hb)⟩
def ziP (Λ:Link) (w:World):Prop:=(∀b,b<Λ.w0.heap.size→w.heap[b]? =Λ.w0.heap[b]?)∧Λ.w0.heap.size≤w.heap.size
def noM:Mp:=fun _=>none
def zcM (fid:Nat→Nat) (S:Nat→Prop) (w:World) (lo:Nat):AV→Value→List Nat→Prop
 | .fsl ex sz n cs,u,bs=>∃b o c arr t,bs=[b]∧u= .slice (some ⟨b,o,none⟩) n c∧n≤c∧(ex=true→c=n)∧lo≤b∧¬S b∧w.heap[b]? =some (.cells arr t (0,0))∧cs.length=n*sz∧
   o+c*sz≤arr.size∧zX fid noM S w cs b o∧zn cs=true
 | r,u,bs=>bs=[]∧zm fid noM S w r u∧zx r=true
def zel (fid:Nat→Nat) (S:Nat→Prop) (w:World) (lo:Nat):List AV→List Value→List Nat→Prop
 | [],us,bs=>us=[]∧bs=[]
 | v::r,us,bs=>∃u t b1 b2,us=u::t∧bs=b1++b2∧zcM fid S w lo v u b1∧zel fid S w lo r t b2
def zf7 (fid:Nat→Nat) (S:Nat→Prop) (w:World) (lo:Nat) (r:AV) (u:Value):Prop:=
 match r with
 | .tup vs=>∃(us:Array Value) (bs:List Nat),u= .tuple us∧zel fid S w lo vs us.toList bs∧bs.Nodup
 | r=>∃bs,zcM fid S w lo r u bs
def Invoked (P:Program) (f:FuncId) (args:Array Value) (w:World) (R:Ending→World→Prop):Prop:=
 ((callFunc f args).run P w= .ok (.enter f args) w∧CallsIn Fence.wide 0 P f args w R)∨∃u w',(callFunc f args).run P w= .ok (.value u) w'∧R (.returned u) w'
def znX (Λ:Link) (w:World) (S:Nat→Prop) (r:AV) (e:Ending) (w':World):Prop:=
 ∃u S',e= .returned u∧Calm w w'∧(∀b,S b→S' b)∧(∀b,S' b→S b∨w.heap.size≤b)∧(∀b,S' b→b<w'.heap.size)∧zf7 Λ.fid S' w' w.heap.size r u
def PureC (Λ:Link) (n:Nat) (vals:List AV) (r:AV):Prop:=
 ∀(w:World) (S:Nat→Prop) (args:Array Value),ziP Λ w→(∀b,S b→b<w.heap.size)→zi Λ.fid noM S w vals args.toList→zn vals=true→
  Invoked Λ.P (Λ.fid n) args w (znX Λ w S r)
def zcx (Λ:Link) (m:Mp) (S:Nat→Prop) (w:World) (hp:Hp) (ct:Nat) (v:AV) (hp':Hp) (ct':Nat) (e:Ending) (w':World):Prop:=
 ∃u m' S',e= .returned u∧zR Λ m' S' w' hp' ct'∧ct≤ct'∧zm Λ.fid m' S' w' v u∧Fwd m S w hp m' S' w' hp' ct
def ziM (Λ:Link) (n:Nat) (hp:Hp) (ct:Nat) (vals:List AV) (v:AV) (hp':Hp) (ct':Nat):Prop:=
 ∀(m:Mp) (S:Nat→Prop) (w:World) (args:Array Value),zR Λ m S w hp ct→zi Λ.fid m S w vals args.toList→Invoked Λ.P (Λ.fid n) args w (zcx Λ m S w hp ct v hp' ct')
section
variable {fid:Nat→Nat} {m m':Mp} {S S':Nat→Prop} {w w':World}
mutual
theorem zbT (hS:∀b,S b→S' b) (hw:zaP S w w'):∀(v:AV) (u:Value),zx v=true→zm fid m S w v u→zm fid m' S' w' v u
 | .int _ _,_,_,h | .bool _,_,_,h | .flt _ _,_,_,h | .str _,_,_,h | .nilp,_,_,h | .nils,_,_,h | .nilf,_,_,h | .nilm,_,_,h | .undef,_,_,h=>by
  simpa only [zm] using h
 | .ptr id o,u,hp,h=>by simp [zx] at hp
 | .vptr cs,u,hp,h=>by
  simp only [zm] at h ⊢;obtain ⟨b,o,h1,h2,h3,h4⟩:=h;refine ⟨b,o,h1,h2.imp id (hS b),h3,?_⟩;rcases h2 with rfl | h2
  ·simp only [zX]
  ·exact zgJ hS hw cs b o h3 h2 h4
 | .vsl ex n cs,u,hp,h=>by
  simp only [zm] at h ⊢;rcases h with ⟨b,o,c,h1,h2,h3,h4,h5,h6⟩ | h
  ·refine .inl ⟨b,o,c,h1,h2,h3,h4.imp id (hS b),h5,?_⟩;rcases h4 with rfl | h4
   ·simp only [zX]
   ·exact zgJ hS hw cs b o h5 h4 h6
  ·exact .inr h
 | .fsl _ _ _ _,u,hp,h=>by simp [zx] at hp
 | .osl id o n,u,hp,h=>by simp [zx] at hp
 | .fn (.f g) first cap,u,hp,h=>by
  simp only [zm] at h ⊢;simp only [zx,Bool.and_eq_true] at hp;obtain ⟨fi,ca,h1,h2,h3⟩:=h;exact ⟨fi,ca,h1,zb4 hS hw first _ hp.1 h2,zb4 hS hw cap _ hp.2 h3⟩
 | .fn (.y l) _ _,u,hp,h=>by simp [zx] at hp
 | .map id,u,hp,h=>by simp [zx] at hp
 | .vmap ks vs,u,hp,h=>by
  simp only [zm] at h ⊢;obtain ⟨b,es,clock,h1,h2,h3,h4,h5,h6,h7⟩:=h;exact ⟨b,es,clock,h1,hS b h2,h3,h4,(hw b h2).trans h5,zb4 hS hw ks _ h3 h6,zb4 hS hw vs _ h4 h7⟩
 | .it id,u,hp,h=>by simp [zx] at hp
 | .agg cs,u,hp,h=>by
  simp only [zm] at h ⊢;simp only [zx] at hp;obtain ⟨xs,h1,h2⟩:=h;exact ⟨xs,h1,zb4 hS hw cs _ hp h2⟩
 | .tup cs,u,hp,h=>by
  simp only [zm] at h ⊢;simp only [zx] at hp;obtain ⟨xs,h1,h2⟩:=h;exact ⟨xs,h1,zb4 hS hw cs _ hp h2⟩
theorem zb4 (hS:∀b,S b→S' b) (hw:zaP S w w'):∀(vs:List AV) (us:List Value),zn vs=true→zi fid m S w vs us→zi fid m' S' w' vs us
 | [],us,_,h=>by simpa only [zi] using h
 | v::r,us,hp,h=>by
  simp only [zi] at h ⊢;simp only [zn,Bool.and_eq_true] at hp;obtain ⟨u,t,h1,h2,h3⟩:=h;exact ⟨u,t,h1,zbT hS hw v u hp.1 h2,zb4 hS hw r t hp.2 h3⟩
theorem zgJ (hS:∀b,S b→S' b) (hw:zaP S w w'):∀(cs:List AV) (b o:Nat),zn cs=true→S b→zX fid m S w cs b o→zX fid m' S' w' cs b o
 | [],_,_,_,_,_=>by simp only [zX]
 | c::cs,b,o,hp,hb,h=>by
  simp only [zX] at h ⊢;simp only [zn,Bool.and_eq_true] at hp;obtain ⟨⟨u,h1,h2⟩,h3⟩:=h;exact ⟨⟨u,(zdA (hw b hb)).trans h1,zbT hS hw c u hp.1 h2⟩,zgJ hS hw cs b (o+1) hp.2 hb h3⟩
end
theorem zbV (hS:∀b,S b→S' b) (hw:zaP S w w'):∀(cs:List AV) (b o:Nat),zn cs=true→w'.heap[b]? =w.heap[b]? →zX fid m S w cs b o→zX fid m' S' w' cs b o
 | [],_,_,_,_,_=>by simp only [zX]
 | c::cs,b,o,hp,hb,h=>by
  simp only [zX] at h ⊢;simp only [zn,Bool.and_eq_true] at hp;obtain ⟨⟨u,h1,h2⟩,h3⟩:=h;exact ⟨⟨u,(zdA hb).trans h1,zbT hS hw c u hp.1 h2⟩,zbV hS hw cs b (o+1) hp.2 hb h3⟩
end
section
variable {Λ:Link} {m:Mp} {S S':Nat→Prop} {w w':World} {hp:Hp} {ct:Nat}
theorem zty (hh:zR Λ m S w hp ct) (hw:Calm w w'):zaP S w w':=fun b hb=>hw.same b (hh.slt b hb)
theorem zdM (hh:zR Λ m S w hp ct) (hw:Calm w w') (hS:∀b,S b→S' b) (hn:∀b,S' b→S b∨w.heap.size≤b) (hl:∀b,S' b→b<w'.heap.size):zR Λ m S' w' hp ct where
 obj id o p ho hm:=zbE (fun _ _ h=>h) hS (zty hh hw) (fun q hq=>hw.same _ (hh.blt id q hq)) (fun q hq hs=>(hn _ hs).resolve_right (by have:=hh.blt id q hq;omega)) (hh.obj id o p ho hm)
 lt:=hh.lt
 inj:=hh.inj
 slt:=hl
 blt id p h:=Nat.lt_of_lt_of_le (hh.blt id p h) hw.size
 low:=hh.low
 good b hb:=(hw.same b (Nat.lt_of_lt_of_le hb hh.goodS)).trans (hh.good b hb)
 goodS:=Nat.le_trans hh.goodS hw.size
 hlt:=hh.hlt
theorem zd2 {base:Nat} (hh:zR Λ m S w hp ct) (hw:Calm w w') (hS:∀b,S b→S' b) (hn:∀b,S' b→S b∨w.heap.size≤b):Fwd m S w hp m S' w' hp base where
 os:=hw.os
 tape:=hw.tape
 output:=hw.output
 size:=hw.size
 same b hb _:=hw.same b hb
 sub:=hS
 still b hb:=hw.same b (hh.slt b hb)
 new b hb:=(hn b hb).imp id .inr
 own b hb:= .inl hb
 old _ _ _ h:=h
 loops b r hb:=⟨r,(hw.same b (Array.getElem?_eq_some_iff.1 hb).1).trans hb⟩
theorem zx7 {i:Nat} (hh:zR Λ m S w hp ct) (hi:m i=none) (hic:i<ct) {p:Pl} (hb:p.b<w.heap.size) (hlo:Λ.w0.heap.size≤p.b) (hns:¬S p.b) (hno:∀j q,m j=some q→q.b≠p.b)
  (hf:∀o,zq hp i=some o→(zcB Λ (zcw m i p) S w i o∧¬zaN o)∨(zaN o∧zcB Λ (zcw m i p) (fun b=>S b∨b=p.b) w i o)):
  ∃S',zR Λ (zcw m i p) S' w hp ct∧(∀b,S b→S' b)∧∀b,S' b→S b∨b=p.b:=by
 have hst:zaP S w w:=fun _ _=>rfl
 have gen:∀S':Nat→Prop,(∀b,S b→S' b)→(∀b,S' b→S b∨b=p.b)→(∀o,zq hp i=some o→zcB Λ (zcw m i p) S' w i o)→zR Λ (zcw m i p) S' w hp ct:=by
  intro S' h1 h2 h3;refine ⟨?_,?_,?_,?_,?_,?_,hh.good,hh.goodS,hh.hlt⟩
  ·intro id o q ho hm;by_cases hc:id=i
   ·subst hc;exact h3 o ho
   ·rw [zJ hc] at hm;refine zbE (zbf hi) h1 hst (fun _ _=>rfl) (fun q' hq' hs=>?_) (hh.obj id o q ho hm);exact (h2 _ hs).resolve_right (hno id q' hq')
  ·intro id q hm;by_cases hc:id=i
   ·subst hc;exact hic
   ·rw [zJ hc] at hm;exact hh.lt id q hm
  ·intro a b oa ob pa pb ha hb' hma hmb' e;by_cases ca:a=i
   ·by_cases cb:b=i
    ·rw [ca,cb]
    ·subst ca;rw [zQ] at hma;rw [zJ cb] at hmb';injection hma with hma
     subst hma;exact (hno b pb hmb' e.symm).elim
   ·rw [zJ ca] at hma;by_cases cb:b=i
    ·subst cb;rw [zQ] at hmb';injection hmb' with hmb'
     subst hmb';exact (hno a pa hma e).elim
    ·rw [zJ cb] at hmb';exact hh.inj a b oa ob pa pb ha hb' hma hmb' e
  ·intro b hs;rcases h2 b hs with h | h
   ·exact hh.slt b h
   ·rw [h];exact hb
  ·intro id q hm;by_cases hc:id=i
   ·subst hc;rw [zQ] at hm;injection hm with hm
    subst hm;exact hb
   ·rw [zJ hc] at hm;exact hh.blt id q hm
  ·intro id q hm;by_cases hc:id=i
   ·subst hc;rw [zQ] at hm;injection hm with hm
    subst hm;exact hlo
   ·rw [zJ hc] at hm;exact hh.low id q hm
 cases ho:zq hp i with
 | none=>exact ⟨S,gen S (fun _ h=>h) (fun _ h=> .inl h) (fun o h=>by rw [ho] at h;cases h),fun _ h=>h,fun _ h=> .inl h⟩
 | some o=>
  rcases hf o ho with ⟨h1,_⟩ | ⟨_,h1⟩
  ·exact ⟨S,gen S (fun _ h=>h) (fun _ h=> .inl h) (fun o' h=>by rw [ho] at h;injection h with h;subst h;exact h1),fun _ h=>h,fun _ h=> .inl h⟩
  ·exact ⟨_,gen (fun b=>S b∨b=p.b) (fun _ h=> .inl h) (fun _ h=>h) (fun o' h=>by rw [ho] at h;injection h with h;subst h;exact h1),fun _ h=> .inl h,fun _ h=>h⟩
theorem zl5 {fid:Nat→Nat} {lo:Nat} {r:AV} {u:Value} {bs:List Nat} (h:zcM fid S w lo r u bs) (m:Mp) (hS:∀b,S b→S' b) (hbs:∀b,b∈bs→S' b):zm fid m S' w (shut1 r) u:=by
 have hst:zaP S w w:=fun _ _=>rfl
 cases r with
 | fsl ex sz n cs=>
  simp only [zcM] at h;obtain ⟨b,o,c,arr,t,rfl,rfl,h1,h2,h3,h4,h5,h6,h7,h8,h9⟩:=h;simp only [shut1,zm];exact .inl ⟨b,o,c,rfl,h1,h2,.inr (hbs b (by simp)),h9,zbV hS hst cs b o h9 rfl h8⟩
 | _=>simp only [zcM] at h;exact zbT hS hst _ _ h.2.2 h.2.1
theorem zma {fid:Nat→Nat} {lo:Nat} (m:Mp) (hS:∀b,S b→S' b):∀{vs:List AV} {us:List Value} {bs:List Nat},zel fid S w lo vs us bs→(∀b,b∈bs→S' b)→zi fid m S' w (zhv vs) us
 | [],us,bs,h,_=>by simp only [zel] at h;simp only [zhv,zi];exact h.1
 | v::r,us,bs,h,hb=>by
  simp only [zel] at h;obtain ⟨u,t,b1,b2,rfl,rfl,h1,h2⟩:=h;simp only [zhv,zi];exact ⟨u,t,rfl,zl5 h1 m hS (fun b hb'=>hb b (by simp [hb'])),zma m hS h2 (fun b hb'=>hb b (by simp [hb']))⟩
theorem zmx {fid:Nat→Nat} {lo:Nat} {r:AV} {u:Value} {bs:List Nat} (h:zcM fid S w lo r u bs):∀b,b∈bs→lo≤b∧b<w.heap.size:=by
 intro b hb
 cases r with
 | fsl ex sz n cs=>
  simp only [zcM] at h;obtain ⟨b',o,c,arr,t,rfl,rfl,h1,h2,h3,h4,h5,_⟩:=h;simp only [List.mem_singleton] at hb;subst hb;exact ⟨h3,(Array.getElem?_eq_some_iff.1 h5).1⟩
 | _=>simp only [zcM] at h;rw [h.1] at hb;cases hb
theorem zmv {fid:Nat→Nat} {lo:Nat}:∀{vs:List AV} {us:List Value} {bs:List Nat},zel fid S w lo vs us bs→∀b,b∈bs→lo≤b∧b<w.heap.size
 | [],us,bs,h,b,hb=>by simp only [zel] at h;rw [h.2] at hb;cases hb
 | v::r,us,bs,h,b,hb=>by
  simp only [zel] at h;obtain ⟨u,t,b1,b2,rfl,rfl,h1,h2⟩:=h;rcases List.mem_append.1 hb with hb | hb
  ·exact zmx h1 b hb
  ·exact zmv h2 b hb
theorem zlH {fid:Nat→Nat} {lo:Nat} {r:AV} {u:Value} (h:zf7 fid S w lo r u) (m:Mp):∃S',(∀b,S b→S' b)∧(∀b,S' b→S b∨(lo≤b∧b<w.heap.size))∧zm fid m S' w (shut r) u:=by
 have one:∀(r:AV) (bs:List Nat),shut r=shut1 r→zcM fid S w lo r u bs→∃S',(∀b,S b→S' b)∧(∀b,S' b→S b∨(lo≤b∧b<w.heap.size))∧zm fid m S' w (shut r) u:=by
  intro r bs hs h;refine ⟨fun b=>S b∨b∈bs,fun _ h=> .inl h,fun b hb=>hb.imp (fun x=>x) (fun hb=>zmx h b hb),?_⟩;rw [hs];exact zl5 h m (fun _ h=> .inl h) (fun _ h=> .inr h)
 cases r with
 | tup vs=>
  simp only [zf7] at h;obtain ⟨us,bs,rfl,h1,h2⟩:=h;refine ⟨fun b=>S b∨b∈bs,fun _ h=> .inl h,fun b hb=>hb.imp (fun x=>x) (fun hb=>zmv h1 b hb),?_⟩;simp only [shut,zm];exact ⟨us,rfl,zma m (fun _ h=> .inl h) h1 (fun _ h=> .inr h)⟩
 | _=>
  simp only [zf7] at h;obtain ⟨bs,h⟩:=h;exact one _ bs rfl h
end
end VE
end
section
namespace VE
open Go
section
variable {Λ:Link} {m:Mp} {S:Nat→Prop} {w:World} {H:Hp} {cH:Nat}
theorem zi9 {hp:Hp} {ct:Nat} {r:AV}:ct≤(zcv hp ct r).2.2:=by
 cases r<;>simp only [zcv]<;>omega
theorem zi2:∀{vs:List AV} {hp:Hp} {ct:Nat},ct≤(zdC hp ct vs).2.2
 | [],hp,ct=>by simp [zdC]
 | v::r,hp,ct=>by
  simp only [zdC];have h1:=zi9 (hp:=hp) (ct:=ct) (r:=v);have h2:=zi2 (vs:=r) (hp:=(zcv hp ct v).2.1) (ct:=(zcv hp ct v).2.2);omega
theorem zmY {hp:Hp} {ct:Nat} {r:AV} (hf:∀id o,zq hp id=some o→id<ct):∀id o,zq hp id=some o→zq (zcv hp ct r).2.1 id=some o:=by
 intro id o h;cases r<;>simp only [zcv]<;>try exact h
 rw [zag,if_neg (by have:=hf id o h;omega)];exact h
theorem zqu {hp:Hp} {ct lo:Nat} {r:AV} {u:Value} {bs:List Nat} (hh:zR Λ m S w H cH) (hl:HLe (zcv hp ct r).2.1 H) (hct:(zcv hp ct r).2.2≤cH) (hn:∀id,ct≤id→id<(zcv hp ct r).2.2→m id=none)
  (hr:zcM Λ.fid S w lo r u bs) (hlo:Λ.w0.heap.size≤lo) (hno:∀j q,m j=some q→q.b∉bs):
  ∃m' S',zR Λ m' S' w H cH∧MLe m m'∧(∀id p,m' id=some p→m id=some p∨(ct≤id∧id<(zcv hp ct r).2.2∧p.b∈bs))∧zm Λ.fid m' S' w (zcv hp ct r).1 u∧(∀b,S b→S' b)∧(∀b,S' b→S b∨b∈bs):=by
 have hst:zaP S w w:=fun _ _=>rfl
 cases r with
 | fsl ex sz n cs=>
  simp only [zcv] at hl hct hn;simp only [zcM] at hr;obtain ⟨b,o,c,arr,t,rfl,rfl,h1,h2,h3,h4,h5,h6,h7,h8,h9⟩:=hr;have hmi:m ct=none:=hn ct (Nat.le_refl _) (Nat.lt_succ_self _);have hblt:b<w.heap.size:=(Array.getElem?_eq_some_iff.1 h5).1;have hor:zcB Λ (zcw m ct ⟨b,o,c*sz,sz⟩) S w ct (.cells true true ex sz cs):=by
   refine ⟨_,arr,t,zQ,h5,rfl,?_,h7,fun hx=>?_,zbV (fun _ h=>h) hst cs b o h9 rfl h8,fun _=>h9,fun _=>h4,by simp⟩
   ·show cs.length≤c*sz
    rw [h6];exact Nat.mul_le_mul_right _ h1
   ·show cs.length=c*sz
    rw [h6,h2 hx]
  obtain ⟨S',k1,k2,k3⟩:=zx7 (p:=⟨b,o,c*sz,sz⟩) hh hmi (by omega) hblt (by show _≤b;omega) h4 (fun j q hq e=>hno j q hq (by rw [e];simp)) (fun o' ho'=>by
   obtain ⟨o'',g1,g2⟩:=hl ct (.cells true true ex sz cs) (by rw [zag];simp)
   rw [ho'] at g1;injection g1 with g1
   subst g1
   exact ziF (p:=⟨b,o,c*sz,sz⟩) g2 zQ hor (by simp [zaN]))
  refine ⟨_,S',k1,zbf hmi,fun id p hp'=>?_,?_,k2,fun b' hb'=>(k3 b' hb').imp (fun h=>h) (fun h=>by rw [h];simp)⟩
  ·by_cases hc:id=ct
   ·subst hc;rw [zQ] at hp';injection hp' with hp'
    subst hp';exact .inr ⟨Nat.le_refl _,by simp [zcv],by simp⟩
   ·rw [zJ hc] at hp';exact .inl hp'
  ·simp only [zcv,zm];exact ⟨_,c,zQ,by simp,h1,by simp⟩
 | _=>
  simp only [zcM] at hr;exact ⟨m,S,hh,MLe.refl,fun _ _ h=> .inl h,zbT (fun _ h=>h) hst _ _ hr.2.2 hr.2.1,fun _ h=>h,fun _ h=> .inl h⟩
theorem zhB {hp:Hp} {ct:Nat} {r:AV} (hf:∀id o,zq hp id=some o→id<ct):∀id o,zq (zcv hp ct r).2.1 id=some o→id<(zcv hp ct r).2.2:=by
 intro id o h;cases r<;>simp only [zcv] at h ⊢<;>try exact hf id o h
 rw [zag] at h;by_cases hc:ct=id
 ·omega
 ·simp only [hc,if_false] at h;have:=hf id o h;omega
theorem zi3:∀{vs:List AV} {hp:Hp} {ct:Nat},(∀id o,zq hp id=some o→id<ct)→∀id o,zq hp id=some o→zq (zdC hp ct vs).2.1 id=some o
 | [],hp,ct,_,id,o,h=>by simpa [zdC] using h
 | v::r,hp,ct,hf,id,o,h=>by
  simp only [zdC];exact zi3 (zhB hf) id o (zmY hf id o h)
theorem zp8 {lo:Nat} (hlo:Λ.w0.heap.size≤lo):∀{vs:List AV} {us:List Value} {bs:List Nat} {hp:Hp} {ct:Nat} {m:Mp} {S:Nat→Prop},zR Λ m S w H cH→HLe (zdC hp ct vs).2.1 H→(zdC hp ct vs).2.2≤cH→
  (∀id o,zq hp id=some o→id<ct)→(∀id,ct≤id→id<(zdC hp ct vs).2.2→m id=none)→
  zel Λ.fid S w lo vs us bs→bs.Nodup→(∀j q,m j=some q→q.b∉bs)→
  ∃m' S',zR Λ m' S' w H cH∧MLe m m'∧(∀id p,m' id=some p→m id=some p∨(ct≤id∧id<(zdC hp ct vs).2.2∧p.b∈bs))∧zi Λ.fid m' S' w (zdC hp ct vs).1 us∧(∀b,S b→S' b)∧(∀b,S' b→S b∨b∈bs)
 | [],us,bs,hp,ct,m,S,hh,hl,hct,hf,hn,hr,hnd,hno=>by
  simp only [zel] at hr;exact ⟨m,S,hh,MLe.refl,fun _ _ h=> .inl h,by simp only [zdC,zi];exact hr.1,fun _ h=>h,fun _ h=> .inl h⟩
 | v::r,us,bs,hp,ct,m,S,hh,hl,hct,hf,hn,hr,hnd,hno=>by
  simp only [zel] at hr;obtain ⟨u,t,b1,b2,rfl,rfl,h1,h2⟩:=hr;simp only [zdC] at hl hct hn ⊢;have hc1:=zi9 (hp:=hp) (ct:=ct) (r:=v);have hc2:=zi2 (vs:=r) (hp:=(zcv hp ct v).2.1) (ct:=(zcv hp ct v).2.2);rw [List.nodup_append] at hnd;obtain ⟨m1,S1,k1,k2,k3,k4,k5,k6⟩:=zqu (hp:=hp) (ct:=ct) (lo:=lo) hh ((fun id o h=>hl id o (zi3 (zhB hf) id o h))) (by omega) (fun id g1 g2=>hn id g1 (by omega)) h1 hlo
   (fun j q hq hb=>hno j q hq (by simp [hb]))
  have h2':zel Λ.fid S1 w lo r t b2:=by
   clear k4;have hdis:∀b,S1 b→S b∨b∈b1:=k6;have hd:∀b,b∈b2→b∉b1:=fun b hb hb1=>hnd.2.2 b hb1 b hb rfl
   have one:∀{v:AV} {u:Value} {bb:List Nat},(∀b,b∈bb→b∉b1)→zcM Λ.fid S w lo v u bb→zcM Λ.fid S1 w lo v u bb:=by
    intro v u bb hbb h
    cases v with
    | fsl ex sz n cs=>
     simp only [zcM] at h ⊢;obtain ⟨b,o,c,arr,tt,rfl,rfl,g1,g2,g3,g4,g5,g6,g7,g8,g9⟩:=h;exact ⟨b,o,c,arr,tt,rfl,rfl,g1,g2,g3,fun hs=>(hdis b hs).elim g4 (hbb b (by simp)),g5,g6,g7,zbV k5 (fun _ _=>rfl) cs b o g9 rfl g8,g9⟩
    | _=>simp only [zcM] at h ⊢;exact ⟨h.1,zbT k5 (fun _ _=>rfl) _ _ h.2.2 h.2.1,h.2.2⟩
   clear k1 k2 k3 hl hct hn hno hnd;revert hd h2;generalize b2=bb
   induction r generalizing t bb with
   | nil=>intro h2 hd;simpa only [zel] using h2
   | cons v' r ih=>
    intro h2 hd;simp only [zel] at h2 ⊢;obtain ⟨u',t',c1,c2,rfl,rfl,g1,g2⟩:=h2
    exact ⟨u',t',c1,c2,rfl,rfl,one (fun b hb=>hd b (by simp [hb])) g1,ih _ (by
     have:=zi2 (vs:=r) (hp:=(zcv hp ct v).2.1) (ct:=(zcv hp ct v).2.2)
     exact this) _ g2 (fun b hb=>hd b (by simp [hb]))⟩
  obtain ⟨m2,S2,g1,g2,g3,g4,g5,g6⟩:=zp8 hlo (vs:=r) (us:=t) (bs:=b2) (m:=m1) (S:=S1) k1 hl hct (zhB hf) (fun id q1 q2=>by
   cases hq:m1 id with
   | none=>rfl
   | some p=>
    rcases k3 id p hq with h | ⟨_,h,_⟩
    ·rw [hn id (by omega) q2] at h;cases h
    ·omega) h2' hnd.2.1 (fun j q hq hb=>by
     rcases k3 j q hq with h | ⟨_,_,h⟩
     ·exact hno j q h (by simp [hb])
     ·exact hnd.2.2 q.b h q.b hb rfl)
  refine ⟨m2,S2,g1,k2.trans g2,fun id p hp'=>?_,?_,fun b hb=>g5 b (k5 b hb),fun b hb=>?_⟩
  ·rcases g3 id p hp' with h | ⟨a1,a2,a3⟩
   ·rcases k3 id p h with h | ⟨a1,a2,a3⟩
    ·exact .inl h
    ·exact .inr ⟨a1,by omega,by simp [a3]⟩
   ·exact .inr ⟨by omega,a2,by simp [a3]⟩
  ·simp only [zi];exact ⟨u,t,rfl,za9 g2 g5 (fun _ _=>rfl) _ _ k4,g4⟩
  ·rcases g6 b hb with h | h
   ·exact (k6 b h).imp (fun h=>h) (fun h=>by simp [h])
   ·exact .inr (by simp [h])
theorem zHF {hp:Hp} {ct lo:Nat} {r:AV} {u:Value} (hh:zR Λ m S w H cH) (hl:HLe (own hp ct r).2.1 H) (hct:(own hp ct r).2.2≤cH) (hf:∀id o,zq hp id=some o→id<ct)
  (hn:∀id,ct≤id→id<(own hp ct r).2.2→m id=none) (hr:zf7 Λ.fid S w lo r u) (hlo:Λ.w0.heap.size≤lo) (hmb:∀j q,m j=some q→q.b<lo):
  ∃m' S',zR Λ m' S' w H cH∧MLe m m'∧(∀id p,m' id=some p→m id=some p∨(ct≤id∧id<(own hp ct r).2.2∧lo≤p.b))∧zm Λ.fid m' S' w (own hp ct r).1 u∧(∀b,S b→S' b)∧(∀b,S' b→S b∨lo≤b):=by
 have one:∀(r:AV) (bs:List Nat),own hp ct r=zcv hp ct r→zcM Λ.fid S w lo r u bs→HLe (own hp ct r).2.1 H→(own hp ct r).2.2≤cH→(∀id,ct≤id→id<(own hp ct r).2.2→m id=none)→
   ∃m' S',zR Λ m' S' w H cH∧MLe m m'∧(∀id p,m' id=some p→m id=some p∨(ct≤id∧id<(own hp ct r).2.2∧lo≤p.b))∧zm Λ.fid m' S' w (own hp ct r).1 u∧(∀b,S b→S' b)∧(∀b,S' b→S b∨lo≤b):=by
  intro r bs he hr hl hct hn;rw [he] at hl hct hn ⊢;have hlob:=zmx hr;obtain ⟨m',S',k1,k2,k3,k4,k5,k6⟩:=zqu hh hl hct hn hr hlo (fun j q hq hb=>by have:=hmb j q hq;have:=(hlob _ hb).1;omega)
  exact ⟨m',S',k1,k2,fun id p h=>(k3 id p h).imp (fun h=>h) (fun h=>⟨h.1,h.2.1,(hlob _ h.2.2).1⟩),k4,k5,fun b hb=>(k6 b hb).imp (fun h=>h) (fun h=>(hlob _ h).1)⟩
 cases r with
 | tup vs=>
  simp only [own] at hl hct hn ⊢;simp only [zf7] at hr;obtain ⟨us,bs,rfl,h1,h2⟩:=hr;have hlob:=zmv h1;obtain ⟨m',S',k1,k2,k3,k4,k5,k6⟩:=zp8 hlo hh hl hct hf hn h1 h2 (fun j q hq hb=>by have:=hmb j q hq;have:=(hlob _ hb).1;omega)
  exact ⟨m',S',k1,k2,fun id p h=>(k3 id p h).imp (fun h=>h) (fun h=>⟨h.1,h.2.1,(hlob _ h.2.2).1⟩),by simp only [zm];exact ⟨us,rfl,k4⟩,k5,fun b hb=>(k6 b hb).imp (fun h=>h) (fun h=>(hlob _ h).1)⟩
 | _=>
  simp only [zf7] at hr;obtain ⟨bs,hr⟩:=hr;exact one _ bs rfl hr hl hct hn
end
end VE
end
