import Derived.RangeFuncLeaves
import Derived.Test.YtahpdocnbjccfaaGreatDoorTai
set_option linter.all false
set_option maxRecDepth 100000
section
namespace VE
open Go
section
variable {Λ:Link} {m:Mp} {S:Nat→Prop} {w:World} {H:Hp} {cH:Nat}
theorem zjy {hp:Hp} {ct:Nat} {r:AV}:ct≤(zcJ hp ct r).2.2:=by
 cases r<;>simp only [zcJ]<;>omega
theorem zjH:∀{vs:List AV} {hp:Hp} {ct:Nat},ct≤(zd1 hp ct vs).2.2
 | [],hp,ct=>by simp [zd1]
 | v::r,hp,ct=>by
  simp only [zd1]
  have h1:=zjy (hp:=hp) (ct:=ct) (r:=v)
  have h2:=zjH (vs:=r) (hp:=(zcJ hp ct v).2.1) (ct:=(zcJ hp ct v).2.2)
  omega
theorem zmX {hp:Hp} {ct:Nat} {r:AV} (hf:∀id o,zA hp id=some o→id<ct):∀id o,zA hp id=some o→zA (zcJ hp ct r).2.1 id=some o:=by
 intro id o h
 cases r<;>simp only [zcJ]<;>try exact h
 rw [zao,if_neg (by have:=hf id o h;omega)]
 exact h
theorem zqA {hp:Hp} {ct lo:Nat} {r:AV} {u:Value} {bs:List Nat} (hh:zU Λ m S w H cH) (hl:HLe (zcJ hp ct r).2.1 H) (hct:(zcJ hp ct r).2.2≤cH) (hn:∀id,ct≤id→id<(zcJ hp ct r).2.2→m id=none)
  (hr:zc4 Λ.fid S w lo r u bs) (hlo:Λ.w0.heap.size≤lo) (hno:∀j q,m j=some q→q.b∉bs):
  ∃m' S',zU Λ m' S' w H cH∧MLe m m'∧(∀id p,m' id=some p→m id=some p∨(ct≤id∧id<(zcJ hp ct r).2.2∧p.b∈bs))∧zp Λ.fid m' S' w (zcJ hp ct r).1 u∧(∀b,S b→S' b)∧(∀b,S' b→S b∨b∈bs):=by
 have hst:za0 S w w:=fun _ _=>rfl
 cases r with
 | fsl ex sz n cs=>
  simp only [zcJ] at hl hct hn
  simp only [zc4] at hr
  obtain ⟨b,o,c,arr,t,rfl,rfl,h1,h2,h3,h4,h5,h6,h7,h8,h9⟩:=hr
  have hmi:m ct=none:=hn ct (Nat.le_refl _) (Nat.lt_succ_self _)
  have hblt:b<w.heap.size:=(Array.getElem?_eq_some_iff.1 h5).1
  have hor:zcQ Λ (zcO m ct ⟨b,o,c*sz,sz⟩) S w ct (.cells true true ex sz cs):=by
   refine ⟨_,arr,t,zT,h5,rfl,?_,h7,fun hx=>?_,zb2 (fun _ h=>h) hst cs b o h9 rfl h8,fun _=>h9,fun _=>h4,by simp⟩
   ·show cs.length≤c*sz
    rw [h6];exact Nat.mul_le_mul_right _ h1
   ·show cs.length=c*sz
    rw [h6,h2 hx]
  obtain ⟨S',k1,k2,k3⟩:=zyd (p:=⟨b,o,c*sz,sz⟩) hh hmi (by omega) hblt (by show _≤b;omega) h4 (fun j q hq e=>hno j q hq (by rw [e];simp)) (fun o' ho'=>by
   obtain ⟨o'',g1,g2⟩:=hl ct (.cells true true ex sz cs) (by rw [zao];simp)
   rw [ho'] at g1
   injection g1 with g1
   subst g1
   exact ziI (p:=⟨b,o,c*sz,sz⟩) g2 zT hor (by simp [zaX]))
  refine ⟨_,S',k1,zbp hmi,fun id p hp'=>?_,?_,k2,fun b' hb'=>(k3 b' hb').imp (fun h=>h) (fun h=>by rw [h];simp)⟩
  ·by_cases hc:id=ct
   ·subst hc
    rw [zT] at hp'
    injection hp' with hp'
    subst hp'
    exact .inr ⟨Nat.le_refl _,by simp [zcJ],by simp⟩
   ·rw [zN hc] at hp';exact .inl hp'
  ·simp only [zcJ,zp];exact ⟨_,c,zT,by simp,h1,by simp⟩
 | _=>
  simp only [zc4] at hr
  exact ⟨m,S,hh,MLe.refl,fun _ _ h=> .inl h,zb5 (fun _ h=>h) hst _ _ hr.2.2 hr.2.1,fun _ h=>h,fun _ h=> .inl h⟩
theorem zhd {hp:Hp} {ct:Nat} {r:AV} (hf:∀id o,zA hp id=some o→id<ct):∀id o,zA (zcJ hp ct r).2.1 id=some o→id<(zcJ hp ct r).2.2:=by
 intro id o h
 cases r<;>simp only [zcJ] at h ⊢<;>try exact hf id o h
 rw [zao] at h
 by_cases hc:ct=id
 ·omega
 ·simp only [hc,if_false] at h;have:=hf id o h;omega
theorem zjI:∀{vs:List AV} {hp:Hp} {ct:Nat},(∀id o,zA hp id=some o→id<ct)→∀id o,zA hp id=some o→zA (zd1 hp ct vs).2.1 id=some o
 | [],hp,ct,_,id,o,h=>by simpa [zd1] using h
 | v::r,hp,ct,hf,id,o,h=>by
  simp only [zd1]
  exact zjI (zhd hf) id o (zmX hf id o h)
theorem zrj {lo:Nat} (hlo:Λ.w0.heap.size≤lo):∀{vs:List AV} {us:List Value} {bs:List Nat} {hp:Hp} {ct:Nat} {m:Mp} {S:Nat→Prop},zU Λ m S w H cH→HLe (zd1 hp ct vs).2.1 H→(zd1 hp ct vs).2.2≤cH→
  (∀id o,zA hp id=some o→id<ct)→(∀id,ct≤id→id<(zd1 hp ct vs).2.2→m id=none)→
  zeG Λ.fid S w lo vs us bs→bs.Nodup→(∀j q,m j=some q→q.b∉bs)→
  ∃m' S',zU Λ m' S' w H cH∧MLe m m'∧(∀id p,m' id=some p→m id=some p∨(ct≤id∧id<(zd1 hp ct vs).2.2∧p.b∈bs))∧zm Λ.fid m' S' w (zd1 hp ct vs).1 us∧(∀b,S b→S' b)∧(∀b,S' b→S b∨b∈bs)
 | [],us,bs,hp,ct,m,S,hh,hl,hct,hf,hn,hr,hnd,hno=>by
  simp only [zeG] at hr
  exact ⟨m,S,hh,MLe.refl,fun _ _ h=> .inl h,by simp only [zd1,zm];exact hr.1,fun _ h=>h,fun _ h=> .inl h⟩
 | v::r,us,bs,hp,ct,m,S,hh,hl,hct,hf,hn,hr,hnd,hno=>by
  simp only [zeG] at hr
  obtain ⟨u,t,b1,b2,rfl,rfl,h1,h2⟩:=hr
  simp only [zd1] at hl hct hn ⊢
  have hc1:=zjy (hp:=hp) (ct:=ct) (r:=v)
  have hc2:=zjH (vs:=r) (hp:=(zcJ hp ct v).2.1) (ct:=(zcJ hp ct v).2.2)
  rw [List.nodup_append] at hnd
  obtain ⟨m1,S1,k1,k2,k3,k4,k5,k6⟩:=zqA (hp:=hp) (ct:=ct) (lo:=lo) hh ((fun id o h=>hl id o (zjI (zhd hf) id o h))) (by omega) (fun id g1 g2=>hn id g1 (by omega)) h1 hlo
   (fun j q hq hb=>hno j q hq (by simp [hb]))
  have h2':zeG Λ.fid S1 w lo r t b2:=by
   clear k4
   have hdis:∀b,S1 b→S b∨b∈b1:=k6
   have hd:∀b,b∈b2→b∉b1:=fun b hb hb1=>hnd.2.2 b hb1 b hb rfl
   have one:∀{v:AV} {u:Value} {bb:List Nat},(∀b,b∈bb→b∉b1)→zc4 Λ.fid S w lo v u bb→zc4 Λ.fid S1 w lo v u bb:=by
    intro v u bb hbb h
    cases v with
    | fsl ex sz n cs=>
     simp only [zc4] at h ⊢
     obtain ⟨b,o,c,arr,tt,rfl,rfl,g1,g2,g3,g4,g5,g6,g7,g8,g9⟩:=h
     exact ⟨b,o,c,arr,tt,rfl,rfl,g1,g2,g3,fun hs=>(hdis b hs).elim g4 (hbb b (by simp)),g5,g6,g7,zb2 k5 (fun _ _=>rfl) cs b o g9 rfl g8,g9⟩
    | _=>simp only [zc4] at h ⊢;exact ⟨h.1,zb5 k5 (fun _ _=>rfl) _ _ h.2.2 h.2.1,h.2.2⟩
   clear k1 k2 k3 hl hct hn hno hnd
   revert hd h2
   generalize b2=bb
   induction r generalizing t bb with
   | nil=>intro h2 hd;simpa only [zeG] using h2
   | cons v' r ih=>
    intro h2 hd
    simp only [zeG] at h2 ⊢
    obtain ⟨u',t',c1,c2,rfl,rfl,g1,g2⟩:=h2
    exact ⟨u',t',c1,c2,rfl,rfl,one (fun b hb=>hd b (by simp [hb])) g1,ih _ (by
     have:=zjH (vs:=r) (hp:=(zcJ hp ct v).2.1) (ct:=(zcJ hp ct v).2.2)
     exact this) _ g2 (fun b hb=>hd b (by simp [hb]))⟩
  obtain ⟨m2,S2,g1,g2,g3,g4,g5,g6⟩:=zrj hlo (vs:=r) (us:=t) (bs:=b2) (m:=m1) (S:=S1) k1 hl hct (zhd hf) (fun id q1 q2=>by
   cases hq:m1 id with
   | none=>rfl
   | some p=>
    rcases k3 id p hq with h | ⟨_,h,_⟩
    ·rw [hn id (by omega) q2] at h;cases h
    ·omega) h2' hnd.2.1 (fun j q hq hb=>by
     rcases k3 j q hq with h | ⟨_,_,h⟩
     ·exact hno j q h (by simp [hb])
     ·exact hnd.2.2 q.b h q.b hb rfl)
  refine ⟨m2,S2,g1,k2.trans g2,fun id p hp'=>?_,?_,fun b hb=>g5 b (k5 b hb),fun b hb=>?_⟩
  ·rcases g3 id p hp' with h | ⟨a1,a2,a3⟩
   ·rcases k3 id p h with h | ⟨a1,a2,a3⟩
    ·exact .inl h
    ·exact .inr ⟨a1,by omega,by simp [a3]⟩
   ·exact .inr ⟨by omega,a2,by simp [a3]⟩
  ·simp only [zm]
   exact ⟨u,t,rfl,zbm g2 g5 (fun _ _=>rfl) _ _ k4,g4⟩
  ·rcases g6 b hb with h | h
   ·exact (k6 b h).imp (fun h=>h) (fun h=>by simp [h])
   ·exact .inr (by simp [h])
theorem zDd {hp:Hp} {ct lo:Nat} {r:AV} {u:Value} (hh:zU Λ m S w H cH) (hl:HLe (own hp ct r).2.1 H) (hct:(own hp ct r).2.2≤cH) (hf:∀id o,zA hp id=some o→id<ct)
  (hn:∀id,ct≤id→id<(own hp ct r).2.2→m id=none) (hr:zg7 Λ.fid S w lo r u) (hlo:Λ.w0.heap.size≤lo) (hmb:∀j q,m j=some q→q.b<lo):
  ∃m' S',zU Λ m' S' w H cH∧MLe m m'∧(∀id p,m' id=some p→m id=some p∨(ct≤id∧id<(own hp ct r).2.2∧lo≤p.b))∧zp Λ.fid m' S' w (own hp ct r).1 u∧(∀b,S b→S' b)∧(∀b,S' b→S b∨lo≤b):=by
 have one:∀(r:AV) (bs:List Nat),own hp ct r=zcJ hp ct r→zc4 Λ.fid S w lo r u bs→HLe (own hp ct r).2.1 H→(own hp ct r).2.2≤cH→(∀id,ct≤id→id<(own hp ct r).2.2→m id=none)→
   ∃m' S',zU Λ m' S' w H cH∧MLe m m'∧(∀id p,m' id=some p→m id=some p∨(ct≤id∧id<(own hp ct r).2.2∧lo≤p.b))∧zp Λ.fid m' S' w (own hp ct r).1 u∧(∀b,S b→S' b)∧(∀b,S' b→S b∨lo≤b):=by
  intro r bs he hr hl hct hn
  rw [he] at hl hct hn ⊢
  have hlob:=znl hr
  obtain ⟨m',S',k1,k2,k3,k4,k5,k6⟩:=zqA hh hl hct hn hr hlo (fun j q hq hb=>by have:=hmb j q hq;have:=(hlob _ hb).1;omega)
  exact ⟨m',S',k1,k2,fun id p h=>(k3 id p h).imp (fun h=>h) (fun h=>⟨h.1,h.2.1,(hlob _ h.2.2).1⟩),k4,k5,fun b hb=>(k6 b hb).imp (fun h=>h) (fun h=>(hlob _ h).1)⟩
 cases r with
 | tup vs=>
  simp only [own] at hl hct hn ⊢
  simp only [zg7] at hr
  obtain ⟨us,bs,rfl,h1,h2⟩:=hr
  have hlob:=zm3 h1
  obtain ⟨m',S',k1,k2,k3,k4,k5,k6⟩:=zrj hlo hh hl hct hf hn h1 h2 (fun j q hq hb=>by have:=hmb j q hq;have:=(hlob _ hb).1;omega)
  exact ⟨m',S',k1,k2,fun id p h=>(k3 id p h).imp (fun h=>h) (fun h=>⟨h.1,h.2.1,(hlob _ h.2.2).1⟩),by simp only [zp];exact ⟨us,rfl,k4⟩,k5,fun b hb=>(k6 b hb).imp (fun h=>h) (fun h=>(hlob _ h).1)⟩
 | _=>
  simp only [zg7] at hr
  obtain ⟨bs,hr⟩:=hr
  exact one _ bs rfl hr hl hct hn
end
end VE
end
section
namespace VE
open Go
section
variable {Λ:Link} {m m':Mp} {S:Nat→Prop} {w:World} {f:Nat→Option Nat}
def zmd (f:Nat→Option Nat) (m m':Mp):Prop:=∀id j,f id=some j→m' j=m id
mutual
theorem zro {fid:Nat→Nat} (hf:zmd f m m'):∀(v:AV) (u:Value),zp fid m S w v u→zp fid m' S w (ren f v) u
 | .int _ _,_,h | .bool _,_,h | .flt _ _,_,h | .str _,_,h | .nilp,_,h | .nils,_,h | .nilf,_,h | .nilm,_,h | .undef,_,h=>by
  simpa only [ren,zp] using h
 | .ptr id o,u,h=>by
  simp only [ren]
  cases hi:f id with
  | none=>simp only [zp]
  | some j=>
   simp only [zp] at h ⊢
   rw [hf id j hi];exact h
 | .vptr cs,u,h=>by
  simp only [ren]
  exact zb5 (fun _ h=>h) (fun _ _=>rfl) _ _ (by simp [zD]) h
 | .vsl ex n cs,u,h=>by
  simp only [ren]
  exact zb5 (fun _ h=>h) (fun _ _=>rfl) _ _ (by simp [zD]) h
 | .fsl _ _ _ _,u,h=>by simp only [zp] at h
 | .osl id o n,u,h=>by
  simp only [ren]
  cases hi:f id with
  | none=>simp only [zp]
  | some j=>
   simp only [zp] at h ⊢
   rw [hf id j hi];exact h
 | .fn (.f g) first cap,u,h=>by
  simp only [ren,zp] at h ⊢
  obtain ⟨fi,ca,h1,h2,h3⟩:=h
  exact ⟨fi,ca,h1,zdu hf first _ h2,zdu hf cap _ h3⟩
 | .fn (.y l) first cap,u,h=>by
  simp only [ren]
  cases hi:f l with
  | none=>simp only [zp]
  | some j=>
   simp only [zp] at h ⊢
   rw [hf l j hi];exact h
 | .map id,u,h=>by
  simp only [ren]
  cases hi:f id with
  | none=>simp only [zp]
  | some j=>
   simp only [zp] at h ⊢
   rw [hf id j hi];exact h
 | .vmap ks vs,u,h=>by
  simp only [ren]
  exact zb5 (fun _ h=>h) (fun _ _=>rfl) _ _ (by simp [zD]) h
 | .it id,u,h=>by
  simp only [ren]
  cases hi:f id with
  | none=>simp only [zp]
  | some j=>
   simp only [zp] at h ⊢
   rw [hf id j hi];exact h
 | .agg cs,u,h=>by
  simp only [ren,zp] at h ⊢;obtain ⟨xs,h1,h2⟩:=h;exact ⟨xs,h1,zdu hf cs _ h2⟩
 | .tup cs,u,h=>by
  simp only [ren,zp] at h ⊢;obtain ⟨xs,h1,h2⟩:=h;exact ⟨xs,h1,zdu hf cs _ h2⟩
theorem zdu {fid:Nat→Nat} (hf:zmd f m m'):∀(vs:List AV) (us:List Value),zm fid m S w vs us→zm fid m' S w (zc3 f vs) us
 | [],us,h=>by simpa only [zc3,zm] using h
 | v::r,us,h=>by
  simp only [zc3,zm] at h ⊢
  obtain ⟨u,t,h1,h2,h3⟩:=h
  exact ⟨u,t,h1,zro hf v u h2,zdu hf r t h3⟩
end
theorem ztF {fid:Nat→Nat} (hf:zmd f m m') {cs:List AV} {b o:Nat} (h:zZ fid m S w cs b o):zZ fid m' S w (zc3 f cs) b o:=by
 obtain ⟨us,h1,_,h3⟩:=zbG cs b o h
 exact zeY _ us o (zdu hf cs us h1) h3
theorem zkQ:∀cs:List AV,(zc3 f cs).length=cs.length
 | []=>rfl
 | c::r=>by simp [zc3,zkQ r]
theorem zoJ:∀(tm:Env) (i:Nat),zd (zfI f tm) i=ren f (zd tm i)
 | [],i=>by simp [zfI,zd,ren]
 | (j,v)::r,i=>by
  simp only [zfI,zd]
  cases Nat.beq j i with
  | true=>rfl
  | false=>exact zoJ r i
theorem zlK (tm:Env) (i:Nat):∀live:List Nat,zd (keep tm live) i=zd tm i∨zd (keep tm live) i= .undef
 | []=> .inr rfl
 | j::r=>by
  simp only [keep,zd]
  cases hb:Nat.beq j i with
  | true=>rw [Nat.eq_of_beq_eq_true hb];exact .inl rfl
  | false=>exact zlK tm i r
theorem zoD {tm:Env} {tmps:Array Value} (hf:zmd f m m') (h:zaL Λ m S w tm tmps):zaL Λ m' S w (zfI f tm) tmps:=fun i=>by
 rw [zoJ];exact zro hf _ _ (h i)
theorem zwB {id j:Nat} {o:Obj} {p:Pl} (hf:zmd f m m') (hm:m id=some p) (hj:m' j=some p) (h:zcQ Λ m S w id o):zcQ Λ m' S w j (zgm f o):=by
 cases o with
 | cells rw pu ex sz cs=>
  obtain ⟨q,arr,t,h1,h2,h3,h4,h5,h6,h7,h8,h9,h10⟩:=h
  rw [hm] at h1;injection h1 with h1;subst h1
  cases pu with
  | true=>exact ⟨p,arr,t,hj,h2,h3,h4,h5,h6,zb2 (fun _ h=>h) (fun _ _=>rfl) _ _ _ (h8 rfl) rfl h7,h8,h9,h10⟩
  | false=>exact ⟨p,arr,t,hj,h2,h3,by rw [cond_false,zkQ];exact h4,h5,by rw [cond_false,zkQ];exact h6,ztF hf h7,by simp,h9,h10⟩
 | mp rw ks vs=>
  obtain ⟨q,es,clock,h1,h2,h3,h4,h5,h6⟩:=h
  rw [hm] at h1;injection h1 with h1;subst h1
  exact ⟨p,es,clock,hj,h2,zdu hf _ _ h3,zdu hf _ _ h4,h5,h6⟩
 | si s pos=>
  obtain ⟨q,t,h1,h2,h3,h4⟩:=h
  rw [hm] at h1;injection h1 with h1;subst h1
  exact ⟨p,t,hj,h2,h3,h4⟩
 | lp tm ps as_ body st pe=>
  obtain ⟨q,l,hi,h1,h2,h3,h4,h5,h6,h7,h8⟩:=h
  rw [hm] at h1;injection h1 with h1;subst h1
  exact ⟨p,l,hi,hj,h2,h3,h4,h5,h6,zoD hf h7,h8⟩
theorem zmj {i:Nat}:∀{l:List Nat} {k j:Nat},zgM i l k=some j→k≤j∧l[j-k]? =some i
 | [],k,j,h=>by simp [zgM] at h
 | x::r,k,j,h=>by
  simp only [zgM] at h
  cases hb:Nat.beq x i with
  | true=>
   rw [hb] at h
   simp only [cond_true,Option.some.injEq] at h
   subst h
   exact ⟨Nat.le_refl _,by simp [Nat.eq_of_beq_eq_true hb]⟩
  | false=>
   rw [hb] at h
   simp only [cond_false] at h
   obtain ⟨h1,h2⟩:=zmj h
   refine ⟨by omega,?_⟩
   rw [show j-k=(j-(k+1))+1 by omega,List.getElem?_cons_succ]
   exact h2
theorem blt_iff {a b:Nat}:Nat.blt a b=true↔a<b:=by simp [Nat.blt,Nat.lt_iff_add_one_le]
theorem zfl {hp:Hp} {j:Nat} {o':Obj}:∀{l:List Nat} {k:Nat} {acc:Hp},zA (zdr hp f l k acc) j=some o'→
  (∃i id o,l[i]? =some id∧j=k+i∧zA hp id=some o∧o'=zgm f o)∨zA acc j=some o'
 | [],k,acc,h=> .inr h
 | x::r,k,acc,h=>by
  simp only [zdr] at h
  cases hx:zA hp x with
  | none=>
   simp only [hx] at h
   rcases zfl h with ⟨i,id,o,h1,h2,h3,h4⟩ | h
   ·exact .inl ⟨i+1,id,o,by simpa using h1,by omega,h3,h4⟩
   ·exact .inr h
  | some o=>
   simp only [hx] at h
   rcases zfl h with ⟨i,id,o,h1,h2,h3,h4⟩ | h
   ·exact .inl ⟨i+1,id,o,by simpa using h1,by omega,h3,h4⟩
   ·rw [zao] at h
    by_cases hc:k=j
    ·simp only [hc,if_true,Option.some.injEq] at h
     exact .inl ⟨0,x,o,by simp,by omega,hx,h.symm⟩
    ·simp only [hc,if_false] at h;exact .inr h
theorem zfk {base:Nat} {j:Nat} {o':Obj}:∀{hp:Hp},zA (zd8 base f hp) j=some o'→j<base∧∃o,zA hp j=some o∧o'=zgm f o
 | [],h=>by simp [zd8,zA] at h
 | (i,q)::r,h=>by
  simp only [zd8] at h
  cases hb:Nat.blt i base with
  | true=>
   rw [hb] at h
   simp only [cond_true] at h
   rw [zao] at h
   by_cases hc:i=j
   ·simp only [hc,if_true,Option.some.injEq] at h
    exact ⟨by rw [←hc];exact blt_iff.1 hb,q,by rw [zao];simp [hc],h.symm⟩
   ·simp only [hc,if_false] at h
    obtain ⟨h1,o,h2,h3⟩:=zfk h
    exact ⟨h1,o,by rw [zao];simp [hc,h2],h3⟩
  | false=>
   rw [hb] at h
   simp only [cond_false] at h
   obtain ⟨h1,o,h2,h3⟩:=zfk h
   have hc:¬i=j:=fun e=>by
    subst e
    have:=blt_iff.2 h1
    rw [this] at hb;cases hb
   exact ⟨h1,o,by rw [zao];simp [hc,h2],h3⟩
def zjj (m:Mp) (base:Nat) (seen:List Nat):Mp:=fun j=>
 if j<base then m j else match seen[j-base]? with
  | some id=>if zdv base seen id=some j then m id else none
  | none=>none
theorem zis {base:Nat} {seen:List Nat} {j:Nat} {p:Pl} (h:zjj m base seen j=some p):∃id,zdv base seen id=some j∧m id=some p∧(j<base→id=j):=by
 unfold zjj at h
 split at h
 ·rename_i hj
  exact ⟨j,by simp [zdv,blt_iff.2 hj],h,fun _=>rfl⟩
 ·rename_i hj
  split at h
  ·rename_i id _
   split at h
   ·rename_i hn
    exact ⟨id,hn,h,fun h=>(hj h).elim⟩
   ·cases h
  ·cases h
theorem zuU {base:Nat} {seen:List Nat}:zmd (zdv base seen) m (zjj m base seen):=by
 intro id j h
 have h0:=h
 unfold zdv at h
 cases hb:Nat.blt id base with
 | true=>
  rw [hb] at h
  simp only [cond_true,Option.some.injEq] at h
  subst h
  simp [zjj,blt_iff.1 hb]
 | false=>
  rw [hb] at h
  simp only [cond_false] at h
  obtain ⟨h1,h2⟩:=zmj h
  have:¬j<base:=by omega
  simp only [zjj,this,if_false,h2,h0,if_true]
theorem zgJ {s:St} {tmps:Array Value} {live:List Nat} (ht:zaL Λ m S w s.tm tmps) (hh:zU Λ m S w s.hp s.ct) (hb:s.base≤s.ct):
  ∃m',zaL Λ m' S w (zE live s).tm tmps∧zU Λ m' S w (zE live s).hp (zE live s).ct∧(zE live s).base=s.base∧s.base≤(zE live s).ct∧Fwd m S w s.hp m' S w (zE live s).hp s.base:=by
 simp only [zE]
 generalize hseen:zfE s.hp s.base 100000 (zcF (keep s.tm live)++za8 s.base s.hp) []=seen
 have hr:=zuU (m:=m) (base:=s.base) (seen:=seen)
 have hlt:∀j p,zjj m s.base seen j=some p→j<s.base+seen.length:=by
  intro j p h
  unfold zjj at h
  split at h
  ·omega
  ·split at h
   ·rename_i id h2
    have:=(List.getElem?_eq_some_iff.1 h2).1
    omega
   ·cases h
 have back:∀j o' p,zA (zdr s.hp (zdv s.base seen) seen s.base (zd8 s.base (zdv s.base seen) s.hp)) j=some o'→zjj m s.base seen j=some p→
   ∃id o,zdv s.base seen id=some j∧zA s.hp id=some o∧m id=some p∧o'=zgm (zdv s.base seen) o:=by
  intro j o' p ho hm
  obtain ⟨id,h1,h2,h3⟩:=zis hm
  rcases zfl ho with ⟨i,id',o,g1,g2,g3,g4⟩ | ho
  ·have hj:¬j<s.base:=by omega
   have:zjj m s.base seen j=if zdv s.base seen id'=some j then m id' else none:=by
    simp only [zjj,hj,if_false,show j-s.base=i by omega,g1]
   rw [this] at hm
   split at hm
   ·rename_i hn
    exact ⟨id',o,hn,g3,hm,g4⟩
   ·cases hm
  ·obtain ⟨g1,o,g2,g3⟩:=zfk ho
   have:=h3 g1
   subst this
   exact ⟨_,o,h1,g2,h2,g3⟩
 refine ⟨zjj m s.base seen,?_,⟨?_,hlt,?_,hh.slt,?_,?_,hh.good,hh.goodS,fun j o' ho=>(by
  rcases zfl ho with ⟨i,id',o,g1,g2,g3,g4⟩ | ho
  ·have:=(List.getElem?_eq_some_iff.1 g1).1;omega
  ·have:=(zfk ho).1;omega)⟩,by trivial,by omega,⟨rfl,rfl,rfl,Nat.le_refl _,fun _ _ _=>rfl,fun _ h=>h,fun _ _=>rfl,fun _ h=> .inl h,?_,?_,fun _ r h=>⟨r,h⟩⟩⟩
 ·refine zoD hr (fun i=>?_)
  rcases zlK s.tm i live with h | h
  ·rw [h];exact ht i
  ·rw [h];simp only [zp]
 ·intro j o' p ho hm
  obtain ⟨id,o,h1,h2,h3,rfl⟩:=back j o' p ho hm
  exact zwB hr h3 hm (hh.obj id o p h2 h3)
 ·intro i j oi oj pi pj hi hj hmi hmj e
  obtain ⟨idi,o1,a1,a2,a3,_⟩:=back i oi pi hi hmi
  obtain ⟨idj,o2,b1,b2,b3,_⟩:=back j oj pj hj hmj
  have:=hh.inj idi idj o1 o2 pi pj a2 b2 a3 b3 e
  subst this
  rw [a1] at b1
  injection b1
 ·intro j p hm
  obtain ⟨id,_,h2,_⟩:=zis hm
  exact hh.blt id p h2
 ·intro j p hm
  obtain ⟨id,_,h2,_⟩:=zis hm
  exact hh.low id p h2
 ·rintro b ⟨j,o',p,h1,h2,h3⟩
  obtain ⟨id,o,_,g2,g3,_⟩:=back j o' p h1 h2
  exact .inl ⟨id,o,p,g2,g3,h3⟩
 ·intro id p hid hm
  simp [zjj,hid,hm]
end
end VE
end
section
namespace VE
open Go
section
variable {Λ:Link} {m:Mp} {S:Nat→Prop} {w:World} {hp:Hp} {ct:Nat}
theorem znI (hh:zU Λ m S w hp ct) (id:Nat):zU Λ m S w (hdel hp id) ct:=by
 have sub:∀i o,zA (hdel hp id) i=some o→zA hp i=some o:=fun i o h=>by
  rw [zeX] at h
  by_cases hc:id=i
  ·simp [hc] at h
  ·simpa only [hc,if_false] using h
 exact ⟨fun i o p h hm=>hh.obj i o p (sub i o h) hm,hh.lt,fun i j oi oj pi pj hi hj=>hh.inj i j oi oj pi pj (sub i oi hi) (sub j oj hj),hh.slt,hh.blt,hh.low,hh.good,hh.goodS,fun i o h=>hh.hlt i o (sub i o h)⟩
theorem zqD {id b:Nat} (h:Own m (hdel hp id) b):Own m hp b:=by
 obtain ⟨i,o,p,h1,h2,h3⟩:=h
 rw [zeX] at h1
 by_cases hc:id=i
 ·simp [hc] at h1
 ·simp only [hc,if_false] at h1
  exact ⟨i,o,p,h1,h2,h3⟩
theorem ziQ (hh:zU Λ m S w hp ct) {id:Nat} {o:Obj} {p:Pl} (hg:zA hp id=some o) (hm:m id=some p):¬Own m (hdel hp id) p.b:=by
 rintro ⟨i,o',q,h1,h2,h3⟩
 rw [zeX] at h1
 by_cases hc:id=i
 ·simp [hc] at h1
 ·simp only [hc,if_false] at h1
  exact hc (hh.inj i id o' o q p h1 hg h2 hm h3).symm
theorem zAe {hp':Hp} (hd:SameDom hp hp') {b:Nat} (h:Own m hp' b):Own m hp b:=by
 obtain ⟨i,o,p,h1,h2,h3⟩:=h
 have:=hd i
 rw [h1] at this
 cases hq:zA hp i with
 | none=>rw [hq] at this;cases this
 | some q=>exact ⟨i,q,p,hq,h2,h3⟩
theorem zkx {lo:Nat} {v v':AV} {hp':Hp} {n:Nat} (hh:zU Λ m S w hp ct) (hf:zai n hp v=some (v',hp')) {u:Value} (hv:zp Λ.fid m S w v u):
  ∃S',zU Λ m S' w hp' ct∧(∀b,S b→S' b)∧(∀b,S' b→S b∨Own m hp b)∧zD v'=true∧zp Λ.fid noM S' w v' u∧zc4 Λ.fid S' w lo v' u []:=by
 obtain ⟨h1,h2,h3⟩:=zio (Λ:=Λ) hf
 obtain ⟨S',g1,g2,g3⟩:=zqK hh h1 (fun id o p ho hm=>by
  have:=h2 id
  rw [ho] at this
  cases hq:zA hp id with
  | none=>rw [hq] at this;cases this
  | some q=>exact ⟨q,rfl⟩) (Nat.le_refl _) (fun id o ho=>(by
  have:=h2 id
  rw [ho] at this
  cases hq:zA hp id with
  | none=>rw [hq] at this;cases this
  | some q=>exact hh.hlt id q hq))
 obtain ⟨k1,k2⟩:=h3 hp' m S' w ct HLe.refl g1
 have hr:=k1 u (zbm (fun _ _ h=>h) g2 (fun _ _=>rfl) v u hv)
 have hr':zp Λ.fid noM S' w v' u:=zb5 (fun _ h=>h) (fun _ _=>rfl) v' u k2 hr
 refine ⟨S',g1,g2,g3,k2,hr',?_⟩
 cases v' with
 | fsl _ _ _ _=>simp [zD] at k2
 | _=>exact ⟨rfl,hr',k2⟩
theorem ztt {S':Nat→Prop} {lo:Nat} {v:AV} {u:Value} {bs:List Nat} (hS:∀b,S b→S' b) (hn:∀b,b∈bs→¬S' b) (h:zc4 Λ.fid S w lo v u bs):zc4 Λ.fid S' w lo v u bs:=by
 cases v with
 | fsl ex sz n cs=>
  simp only [zc4] at h ⊢
  obtain ⟨b,o,c,arr,t,rfl,rfl,g1,g2,g3,g4,g5,g6,g7,g8,g9⟩:=h
  exact ⟨b,o,c,arr,t,rfl,rfl,g1,g2,g3,hn b (by simp),g5,g6,g7,zb2 hS (fun _ _=>rfl) cs b o g9 rfl g8,g9⟩
 | _=>simp only [zc4] at h ⊢;exact ⟨h.1,zb5 hS (fun _ _=>rfl) _ _ h.2.2 h.2.1,h.2.2⟩
theorem zlW {lo:Nat} {v v':AV} {hp':Hp} {n:Nat} (hh:zU Λ m S w hp ct) (hf:zgB n hp v=some (v',hp')) {u:Value} (hv:zp Λ.fid m S w v u) (hlo:∀b,Own m hp b→lo≤b):
  ∃S' bs,zU Λ m S' w hp' ct∧(∀b,S b→S' b)∧(∀b,S' b→S b∨Own m hp b)∧zc4 Λ.fid S' w lo v' u bs∧bs.Nodup∧(∀b,b∈bs→Own m hp b∧¬Own m hp' b)∧(∀b,Own m hp' b→Own m hp b):=by
 have frozen:zai n hp v=some (v',hp')→∃S' bs,zU Λ m S' w hp' ct∧(∀b,S b→S' b)∧(∀b,S' b→S b∨Own m hp b)∧zc4 Λ.fid S' w lo v' u bs∧bs.Nodup∧(∀b,b∈bs→Own m hp b∧¬Own m hp' b)∧(∀b,Own m hp' b→Own m hp b):=by
  intro hz
  obtain ⟨S',g1,g2,g3,g4,g5,g6⟩:=zkx (lo:=lo) hh hz hv
  exact ⟨S',[],g1,g2,g3,g6,by simp,by simp,fun b hb=>zAe (zio (Λ:=Λ) hz).2.1 hb⟩
 unfold zgB at hf
 split at hf
 ·rename_i id o k
  split at hf
  ·rename_i ex sz cs hg
   cases hc:Nat.ble (o+k*sz) cs.length with
   | false=>rw [hc] at hf;cases hf
   | true=>
    rw [hc] at hf
    simp only [cond_true,Option.some.injEq,Prod.mk.injEq] at hf
    obtain ⟨rfl,rfl⟩:=hf
    have hle:=Nat.le_of_ble_eq_true hc
    simp only [zp] at hv
    obtain ⟨p,c,hm,rfl,h1,h2⟩:=hv
    obtain ⟨p',arr,t,g1,g2,g3,g4,g5,g6,g7,g8,g9,g10⟩:=hh.obj id _ _ hg hm
    rw [hm] at g1
    injection g1 with g1
    subst g1
    rw [g3] at h2
    refine ⟨S,[p.b],znI hh id,fun _ h=>h,fun _ h=> .inl h,?_,by simp,?_,fun b hb=>zqD hb⟩
    ·refine ⟨p.b,p.o+o,c,arr,t,rfl,rfl,h1,?_,hlo _ (zkb hg hm),g9 rfl,g2,?_,by omega,?_,zb8 _ (zb4 _ _ (g8 rfl))⟩
     ·intro hx
      simp only [Bool.and_eq_true] at hx
      have e1:=Nat.eq_of_beq_eq_true hx.2
      have e2:=blt_iff.1 hx.1.2
      have e3:=g6 hx.1.1
      have:c*sz=k*sz:=by omega
      exact Nat.eq_of_mul_eq_mul_right e2 this
     ·simp only [slice,List.length_take,List.length_drop];omega
     ·exact zb2 (fun _ h=>h) (fun _ _=>rfl) _ _ _ (zb8 _ (zb4 _ _ (g8 rfl))) rfl (zcC _ _ _ _ (zbt _ _ _ _ g7))
    ·intro b hb
     simp only [List.mem_singleton] at hb
     subst hb
     exact ⟨zkb hg hm,ziQ hh hg hm⟩
  ·exact frozen hf
 ·exact frozen hf
theorem zjO {lo n:Nat}:∀{vs vs':List AV} {us:List Value} {hp hp':Hp} {S:Nat→Prop},zU Λ m S w hp ct→ze5 n hp vs=some (vs',hp')→zm Λ.fid m S w vs us→(∀b,Own m hp b→lo≤b)→
  ∃S' bs,(∀b,S b→S' b)∧(∀b,S' b→S b∨Own m hp b)∧zeG Λ.fid S' w lo vs' us bs∧bs.Nodup∧(∀b,b∈bs→Own m hp b)∧(∀b,S' b→b<w.heap.size)
 | [],vs',us,hp,hp',S,hh,hf,hv,hlo=>by
  simp only [ze5,Option.some.injEq,Prod.mk.injEq] at hf
  obtain ⟨rfl,rfl⟩:=hf
  simp only [zm] at hv
  exact ⟨S,[],fun _ h=>h,fun _ h=> .inl h,by simp only [zeG];exact ⟨hv,by trivial⟩,by simp,by simp,hh.slt⟩
 | v::r,vs',us,hp,hp',S,hh,hf,hv,hlo=>by
  simp only [ze5] at hf
  cases h1:zgB n hp v with
  | none=>simp [h1] at hf
  | some q=>
   obtain ⟨v1,hp1⟩:=q
   simp only [h1] at hf
   cases h2:ze5 n hp1 r with
   | none=>simp [h2] at hf
   | some q2=>
    obtain ⟨r1,hp2⟩:=q2
    simp only [h2,Option.some.injEq,Prod.mk.injEq] at hf
    obtain ⟨rfl,rfl⟩:=hf
    simp only [zm] at hv
    obtain ⟨u,t,rfl,hv1,hv2⟩:=hv
    obtain ⟨S1,b1,k1,k2,k3,k4,k5,k6,k7⟩:=zlW (lo:=lo) hh h1 hv1 hlo
    obtain ⟨S2,b2,g1,g2,g3,g4,g5,g6⟩:=zjO (us:=t) k1 h2 (zap (fun _ _ h=>h) k2 (fun _ _=>rfl) _ _ hv2) (fun b hb=>hlo b (k7 b hb))
    have hdis:∀b,b∈b1→¬S2 b:=by
     intro b hb hs
     rcases g2 b hs with h | h
     ·cases v1 with
      | fsl ex sz n cs=>
       simp only [zc4] at k4
       obtain ⟨b',o,c,arr,tt,rfl,_,_,_,_,h4,_⟩:=k4
       simp only [List.mem_singleton] at hb
       subst hb
       exact h4 h
      | _=>simp only [zc4] at k4;rw [k4.1] at hb;cases hb
     ·exact (k6 b hb).2 h
    refine ⟨S2,b1++b2,fun b hb=>g1 b (k2 b hb),fun b hb=>?_,?_,?_,?_,g6⟩
    ·rcases g2 b hb with h | h
     ·exact k3 b h
     ·exact .inr (k7 b h)
    ·simp only [zeG]
     exact ⟨u,t,b1,b2,rfl,rfl,ztt g1 hdis k4,g3⟩
    ·rw [List.nodup_append]
     exact ⟨k5,g4,fun a ha b hb e=>(k6 a ha).2 (by rw [e];exact g5 b hb)⟩
    ·intro b hb
     rcases List.mem_append.1 hb with hb | hb
     ·exact (k6 b hb).1
     ·exact k7 b (g5 b hb)
theorem ziG {lo:Nat}:∀{cs:List AV} {us:List Value},zu cs=true→zm Λ.fid noM S w cs us→zeG Λ.fid S w lo cs us []
 | [],us,_,h=>by simp only [zm] at h;simp only [zeG];exact ⟨h,by trivial⟩
 | c::r,us,hp,h=>by
  simp only [zm] at h
  obtain ⟨u,t,rfl,h1,h2⟩:=h
  simp only [zu,Bool.and_eq_true] at hp
  simp only [zeG]
  refine ⟨u,t,[],[],rfl,rfl,?_,ziG hp.2 h2⟩
  cases c with
  | fsl _ _ _ _=>simp [zD] at hp
  | _=>exact ⟨rfl,h1,hp.1⟩
theorem zr0 {lo:Nat} {v r:AV} {u:Value} (hh:zU Λ m S w hp ct) (hr:zaR hp v=some r) (hv:zp Λ.fid m S w v u) (hlo:∀b,Own m hp b→lo≤b):
  ∃S',(∀b,S b→S' b)∧(∀b,S' b→S b∨Own m hp b)∧(∀b,S' b→b<w.heap.size)∧zg7 Λ.fid S' w lo r u:=by
 unfold zaR at hr
 split at hr
 ·rename_i vs
  split at hr
  ·cases h1:ze5 zcl hp vs with
   | none=>simp [h1] at hr
   | some q=>
    obtain ⟨vs',hp'⟩:=q
    simp only [h1,Option.some.injEq] at hr
    subst hr
    simp only [zp] at hv
    obtain ⟨us,rfl,hv⟩:=hv
    obtain ⟨S',bs,g1,g2,g3,g4,g5,g6⟩:=zjO (lo:=lo) hh h1 hv hlo
    exact ⟨S',g1,g2,g6,us,bs,rfl,g3,g4⟩
  ·cases h1:zai zcl hp (.tup vs) with
   | none=>simp [h1] at hr
   | some q=>
    obtain ⟨v',hp'⟩:=q
    simp only [h1,Option.some.injEq] at hr
    subst hr
    obtain ⟨S',g1,g2,g3,g4,g5,g6⟩:=zkx (lo:=lo) hh h1 hv
    refine ⟨S',g2,g3,g1.slt,?_⟩
    cases v' with
    | tup cs=>
     simp only [zp] at g5
     obtain ⟨xs,rfl,g5⟩:=g5
     exact ⟨xs,[],rfl,ziG (by simpa [zD] using g4) g5,by simp⟩
    | _=>exact ⟨[],g6⟩
 ·rename_i hnt
  cases h1:zgB zcl hp v with
  | none=>simp [h1] at hr
  | some q=>
   obtain ⟨v',hp'⟩:=q
   simp only [h1,Option.some.injEq] at hr
   subst hr
   obtain ⟨S',bs,g1,g2,g3,g4,_⟩:=zlW (lo:=lo) hh h1 hv hlo
   refine ⟨S',g2,g3,g1.slt,?_⟩
   cases v' with
   | tup cs=>
    simp only [zc4] at g4
    obtain ⟨rfl,h2,h3⟩:=g4
    simp only [zp] at h2
    obtain ⟨xs,rfl,h2⟩:=h2
    exact ⟨xs,[],rfl,ziG (by simpa [zD] using h3) h2,by simp⟩
   | _=>exact ⟨bs,g4⟩
end
end VE
end
section
namespace VE
open Go
def WF (ro:Option Nat):Fence:={Fence.wide with round:=ro}
section
variable {Λ:Link}
def zuP (Λ:Link) (hp:Hp) (ct:Nat) (l:Nat) (xs:List AV) (v:AV) (hp':Hp) (ct':Nat):Prop:=
 ∀(m:Mp) (S:Nat→Prop) (w:World) (args:Array Value) (p:Pl),zU Λ m S w hp ct→m l=some p→zm Λ.fid m S w xs args.toList→
  ∃f tmps assign body,(Instr.yield p.b args).run Λ.P w= .ok (.round p.b f tmps assign body) w∧RoundIn Fence.wide 0 Λ.P p.b f tmps assign body w (zcX Λ m S w hp ct v hp' ct')
structure zcd (Λ:Link) (run:Run):Prop where
 pure:∀n vals r,zx Λ.prog Λ.lib run n vals=some r→PureC Λ n vals r
 heap:∀hp ct n vals v hp' ct',zbu Λ.prog Λ.lib run hp ct n vals=some (v,hp',ct')→ziY Λ n hp ct vals v hp' ct'
 round:∀hp ct l xs v hp' ct',zcg run hp ct l xs=some (v,hp',ct')→zuP Λ hp ct l xs v hp' ct'
end
section
variable {P:Program} {o:Oper} {a:Act} {w:World} {ro:Option Nat} {next:Act→World→Prop} {Q:Exit→Act→World→Prop}
theorem zfe {c:Call} {f:Operand} (ho:o.op= .call c) (hc:c.callee= .value f) {g:FuncId} {fi ca:Array Value} (hf:a.eval f= .func (.func g) fi ca) {R:Ending→World→Prop}
  (h:Invoked P g (fi++c.args.map a.eval++ca) w R) (hn:∀e w',R e w'→∃u,e= .returned u∧next (a.put o.dst u) w'):o.wpIn (WF ro) 0 P a w next Q:=by
 have hrun:(o.semAt ro a.eval).run P w=(callFunc g (fi++c.args.map a.eval++ca)).run P w:=by
  rw [Oper.semAt_eq _ _ _ (fun c' h'=>by rw [ho] at h';cases h')]
  simp only [execOp,ho,resolve,hc,Deferred.ofValue,hf,Sem.run_bind,Sem.run_pure,Result.andThen_ok,invoke]
 refine ⟨fun _ _=>trivial,?_⟩
 show o.uponIn (WF ro) 0 P a next Q ((o.semAt ro a.eval).run P w)
 rw [hrun]
 rcases h with ⟨h1,h2⟩ | ⟨u,w',h1,h2⟩
 ·rw [h1,Oper.uponIn_enter]
  refine ⟨fun h=>by simp [WF,Fence.wide] at h,?_⟩
  have h3:CallsIn (WF ro) 0 P g (fi++c.args.map a.eval++ca) w R:=h2
  refine CallsIn.mono h3 (fun e w' he=>?_)
  obtain ⟨u,rfl,hq⟩:=hn e w' he
  exact hq
 ·rw [h1]
  obtain ⟨u',e,hq⟩:=hn _ _ h2
  injection e with e
  subst e
  exact hq
theorem zuu {c:Call} {f:Operand} (ho:o.op= .call c) (hc:c.callee= .value f) {l:Nat} (hf:a.eval f= .func (.yield l) #[] #[]) {R:Ending→World→Prop} {g:FuncId} {tmps:Array Value} {assign body:Code}
  (hy:(Instr.yield l (c.args.map a.eval)).run P w= .ok (.round l g tmps assign body) w) (h:RoundIn Fence.wide 0 P l g tmps assign body w R) (hn:∀e w',R e w'→∃u,e= .returned u∧next (a.put o.dst u) w'):o.wpIn (WF ro) 0 P a w next Q:=by
 have hrun:(o.semAt ro a.eval).run P w= .ok (.round l g tmps assign body) w:=by
  rw [Oper.semAt_eq _ _ _ (fun c' h'=>by rw [ho] at h';cases h')]
  simp only [execOp,ho,resolve,hc,Deferred.ofValue,hf,Sem.run_bind,Sem.run_pure,Result.andThen_ok,invoke,Array.empty_append]
  exact hy
 refine ⟨fun _ _=>trivial,?_⟩
 show o.uponIn (WF ro) 0 P a next Q ((o.semAt ro a.eval).run P w)
 rw [hrun,Oper.uponIn_round]
 refine ⟨fun h=>by simp [WF,Fence.wide] at h,?_⟩
 have h3:RoundIn (WF ro) 0 P l g tmps assign body w R:=h
 refine RoundIn.mono h3 (fun e w' he=>?_)
 obtain ⟨u,rfl,hq⟩:=hn e w' he
 exact hq
theorem zmD {n:Next} {u:Value} {w':World} (hd:∀c,o.op≠.defer c) (h:(execOp a.eval o).run P w= .ok n w') (hn:n= .value u∨(n= .skip∧u=undef)) (hq:next (a.put o.dst u) w'):o.wpIn (WF ro) 0 P a w next Q:=by
 refine ⟨fun _ _=>trivial,?_⟩
 show o.uponIn (WF ro) 0 P a next Q ((o.semAt ro a.eval).run P w)
 rw [Oper.semAt_eq _ _ _ hd,h]
 rcases hn with rfl | ⟨rfl,rfl⟩
 ·exact hq
 ·exact hq
end
def znh (P:Program) (H:zbU) (q:Op) (o:Oper):Prop:=
 (∃k,q=zC P H k o)∨(∃c f rs,o.op= .call c∧c.callee= .value f∧q= .calld rs (opX H f) (zdX H c.args.toList))∨
  ∃t x y sz rs,o.op= .store t x y∧szT P t=some sz∧q= .std rs sz (opX H x) (opX H y)
def zc0:Op→Op
 | .calld _ f xs=> .calld [] f xs
 | .std _ s x v=> .st s x v
 | o=>o
section
variable {Λ:Link} {H:zbU} {m:Mp} {S:Nat→Prop} {w:World} {tm:Env} {a:Act} {hp:Hp} {ct:Nat} {self:Run} {ro:Option Nat} {next:Act→World→Prop} {Q:Exit→Act→World→Prop}
theorem zjx {o:Oper} {k:Nat} {md:Md} {x:X} {xs:List X} (h:zC Λ.P H k o= .call md x xs) (hb:x≠.c .undef):∃c f,o.op= .call c∧c.callee= .value f∧x=opX H f∧xs=zdX H c.args.toList:=by
 have nb:bad= .call md x xs→False:=fun h=>by simp only [bad,Op.call.injEq] at h;exact hb h.2.1.symm
 cases ho:o.op with
 | call c=>
  obtain ⟨callee,args,ts⟩:=c
  simp only [zC,ho] at h
  split at h
  ·rename_i f
   cases hm:H.mode k<;>simp only [hm,Op.call.injEq,reduceCtorEq] at h
   all_goals exact ⟨_,f,rfl,rfl,h.2.1.symm,h.2.2.symm⟩
  ·repeat' split at h
   all_goals first
    | exact (nb h).elim
    | (cases h;done)
    | (revert h;generalize Nat.beq _ _=bb;intro h;cases bb<;>first | exact (nb h).elim | (cases h;done))
  ·exact (nb h).elim
 | binOp op t x' y ty=>
  cases op<;>simp only [zC,ho,zeH,zdT] at h
  case eql=>
        repeat' split at h
        all_goals first
         | exact (nb h).elim
         | (cases h;done)
         | (cases hb':(Λ.P.stoodInHeld t||Λ.P.eqGuardType Λ.P.depth t)<;>rw [hb'] at h<;>first | exact (nb h).elim | (cases h;done))
  case neq=>
        repeat' split at h
        all_goals first
         | exact (nb h).elim
         | (cases h;done)
         | (cases hb':(Λ.P.stoodInHeld t||Λ.P.eqGuardType Λ.P.depth t)<;>rw [hb'] at h<;>first | exact (nb h).elim | (cases h;done))
  all_goals cases h
 | buildSlice t n parts=>
  simp only [zC,ho] at h
  repeat' split at h
  all_goals first
   | exact (nb h).elim
   | (cases h;done)
   | (revert h;generalize Nat.ble _ _=bb;intro h;cases bb<;>first | exact (nb h).elim | (simp only [cond_true] at h;cases h;done))
 | makeMap t r=>
  cases r<;>simp only [zC,ho] at h
  ·repeat' split at h
   all_goals first
    | exact (nb h).elim
    | (cases h;done)
  ·exact (nb h).elim
 | next x' b=>
  cases b<;>simp only [zC,ho] at h
  ·exact (nb h).elim
  ·cases h
 | _=>
  simp only [zC,ho] at h
  (repeat' split at h)
  all_goals first
   | contradiction
   | exact (nb h).elim
   | (cases h;done)
theorem zpq {o:Oper} {k:Nat} {r:AV×Hp×Nat} (hv:z9 Λ.prog Λ.lib self tm hp ct (zC Λ.P H k o)=some r):∀c,o.op≠.defer c:=by
 intro c ho
 simp [zC,ho,bad,z9,zaD,zy] at hv
end
end VE
end
