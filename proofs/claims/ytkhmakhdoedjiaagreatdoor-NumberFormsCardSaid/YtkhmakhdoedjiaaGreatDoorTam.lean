import Derived.LoopNIn
import Derived.RangeFuncIn
import Derived.Test.YtkhmakhdoedjiaaGreatDoorTal
set_option linter.all false
set_option maxRecDepth 100000
section
namespace VE
open Go
section
variable {Λ:Link} {H:zbH} {ops:Array Oper} {rs:List ROp} {tmF:Nat→Env} {hpF:Nat→Hp} {ctF:Nat→Nat} {vF:Nat→AV} {self:Run} {ro:Option Nat} {Q:Exit→Act→World→Prop}
variable {D D':Nat→Prop} {m0:Mp} {S0:Nat→Prop} {w0:World} {n0:Nat} {d0:List Deferred} {st c i:Nat} {m:Mp} {S:Nat→Prop} {w:World} {a:Act} {r:ROp} {o:Oper}
theorem zfQ (hG:zgi Λ H self ops rs tmF hpF ctF vF) (hI:Inv Λ ops rs tmF hpF ctF D m0 S0 w0 n0 d0 st c m S w a) {x y:Nat} (hx:st≤x) (hxy:x≤y) (hy:y≤c):Grows (hpF x) (ctF x) (hpF y) (ctF y):=by
 obtain ⟨k,rfl⟩:∃k,y=x+k:=⟨y-x,by omega⟩
 have:=hI.cn
 exact zf2 hG.run (hI.lts x (by omega)) k (by omega) (fun j r h1 h2 hr=>zhr hr (hI.seg j (by omega) (by omega)))
theorem zkX (hG:zgi Λ H self ops rs tmF hpF ctF vF) (hI:Inv Λ ops rs tmF hpF ctF D m0 S0 w0 n0 d0 st c m S w a) (hr:rs[i]? =some r) (hi:¬D i) (hpre:∀j,Ord ops j i→D j) (hpost:∀j,Ord ops i j→¬D j) (hD:∀j,D' j↔D j∨j=i)
  (hd:∀d,r.dst=some d→d<a.tmps.size) (hw:¬isW rs i) (hkc:zD r.op=0∨i<c) {m':Mp} {S':Nat→Prop} {w':World} {u:Value} (k1:zR Λ m' S' w' (hpF c) (ctF c)) (k2:MLe m m')
  (k3:∀id p,m' id=some p→m id=some p∨(st≤i∧i<c∧ctF i≤id∧id<ctF (i+1))) (k4:zm Λ.fid m' S' w' (vF i) u) (k5:Fwd m S w (hpF c) m' S' w' (hpF c) (ctF c)):
  Inv Λ ops rs tmF hpF ctF D' m0 S0 w0 n0 d0 st c m' S' w' (a.put r.dst u) where
 stc:=hI.stc
 cn:=hI.cn
 before j hj hjw:=(hD j).2 (.inl (hI.before j hj hjw))
 seg:=hI.seg
 cut:=hI.cut.imp (fun h=>h) (fun h=>⟨h.1,fun hc=>((hD c).1 hc).elim h.2 (fun e=>hw (e▸h.1))⟩)
 behind j rj hj hrj hk hDj:=((hD j).1 hDj).elim (hI.behind j rj hj hrj hk) (fun e=>by
  subst e;rw [hr] at hrj;injection hrj with hrj
  subst hrj
  rcases hkc with h | h<;>omega)
 hp:=k1
 dom id p hp:=by
  rcases k3 id p hp with h | ⟨h1,h2,h3,h4⟩
  ·rcases hI.dom id p h with h | ⟨j,g1,g2,g3,g4,g5⟩
   ·exact .inl h
   ·exact .inr ⟨j,g1,g2,(hD j).2 (.inl g3),g4,g5⟩
  ·exact .inr ⟨i,h1,h2,(hD i).2 (.inr rfl),h3,h4⟩
 tm:=zrS hG hI.tm hr hi hpre hpost hD k2 k5.sub (fun b hb=>k5.still b hb) hd k4
 fwd:=hI.fwd.trans (k5.weak hI.ge)
 ge:=hI.ge
 size:=by rw [zhi];exact hI.size
 defers:=by rw [zgO];exact hI.defers
 st0:=hI.st0
 lts:=hI.lts
theorem zrZ (hG:zgi Λ H self ops rs tmF hpF ctF vF) (hI:Inv Λ ops rs tmF hpF ctF D m0 S0 w0 n0 d0 st c m S w a) (hr:rs[c]? =some r) (hi:¬D c) (hpre:∀j,Ord ops j c→D j) (hpost:∀j,Ord ops c j→¬D j) (hD:∀j,D' j↔D j∨j=c)
  (hd:∀d,r.dst=some d→d<a.tmps.size) (hw:isW rs c) {m':Mp} {S':Nat→Prop} {w':World} {u:Value} (k1:zR Λ m' S' w' (hpF (c+1)) (ctF (c+1))) (k2:ctF c≤ctF (c+1))
  (k4:zm Λ.fid m' S' w' (vF c) u) (k5:Fwd m S w (hpF c) m' S' w' (hpF (c+1)) (ctF c)):
  ∃c' S'',Inv Λ ops rs tmF hpF ctF D' m0 S0 w0 n0 d0 (c+1) c' m' S'' w' (a.put r.dst u):=by
 have hcl:c<rs.length:=(List.getElem?_eq_some_iff.1 hr).1;obtain ⟨c',h1,h2,h3,h4⟩:=zpO rs (rs.length-(c+1)) (c+1) (by omega);obtain ⟨k,rfl⟩:∃k,c'=c+1+k:=⟨c'-(c+1),by omega⟩;have hg:∀k',k'≤k→Grows (hpF (c+1)) (ctF (c+1)) (hpF (c+1+k')) (ctF (c+1+k')):=fun k' hk'=>
  zf2 hG.run k1.hlt k' (by omega) (fun j r g1 g2 hr=>zhr hr (h3 j g1 (by omega)))
 obtain ⟨S'',g1,g2,g3,g4⟩:=zg3 k1 (hg k (Nat.le_refl _));have hml:MLe m m':=fun id p h=>k5.old id p (hI.hp.lt id p h) h
 refine ⟨c+1+k,S'',⟨by omega,h2,?_,h3,?_,?_,g1,fun id p h=> .inl (k1.lt id p h),?_,?_,?_,by rw [zhi];exact hI.size,by rw [zgO];exact hI.defers,.inr (by simpa using hw),?_⟩⟩
 ·intro j hj hjw;rcases Nat.eq_or_lt_of_le (Nat.le_of_lt_succ hj) with e | hj
  ·exact (hD j).2 (.inr e)
  ·rcases Nat.lt_or_ge j st with g | g
   ·exact (hD j).2 (.inl (hI.before j g hjw))
   ·exact (hI.seg j g hj hjw).elim
 ·refine h4.imp (fun h=>h) (fun h=>⟨h,fun hc=>?_⟩);obtain ⟨rc,hrc,hkc⟩:=h;rcases (hD _).1 hc with g | g
  ·exact hI.behind _ rc (by omega) hrc (by omega) g
  ·omega
 ·intro j rj hj hrj hk hDj;rcases (hD j).1 hDj with g | g
  ·exact hI.behind j rj (by omega) hrj hk g
  ·omega
 ·exact zrS hG hI.tm hr hi hpre hpost hD hml (fun b hb=>g2 b (k5.sub b hb)) (fun b hb=>k5.still b hb) hd (za9 (fun _ _ h=>h) g2 (fun _ _=>rfl) _ _ k4)
 ·exact (hI.fwd.trans (k5.weak hI.ge)).trans (g4 (ctF 0))
 ·have:=(hg k (Nat.le_refl _)).cle
  have:=hI.ge
  omega
 ·intro j hj;rcases Nat.lt_or_ge c j with g | g
  ·obtain ⟨k',rfl⟩:∃k',j=c+1+k':=⟨j-(c+1),by omega⟩;exact (hg k' (by omega)).lt
  ·exact hI.lts j g
theorem zwB {q:Op} (h:zD q≠2):zcy q=q:=by
 cases q<;>first
  | rfl
  | exact absurd rfl h
theorem zj6 {x y:ROp} {l:List ROp} (h:zCW x y l):¬(zD x.op=2∧1≤zD y.op)∧(1≤zD x.op→zD y.op=2→x.guard=none∧∃sz ag t,x.op= .ld sz ag (.t t)):=by
 obtain ⟨_,h⟩:=h;have ex:zht x y l=true→x.guard=none∧∃sz ag t,x.op= .ld sz ag (.t t):=by
  intro he;unfold zht at he
  split at he
  ·rename_i sz ag t lds fx xs h1 h2 h3;exact ⟨h1,sz,ag,t,h2⟩
  ·rename_i h1 h2 h3;exact ⟨h1,_,_,_,h2⟩
  ·cases he
 have k2:∀q:Op,zD q≤2:=fun q=>by
  cases q with
  | sli k x lo hi=>cases k<;>simp [zD]
  | len k x=>rcases k with _ | _ | k<;>simp [zD]
  | call md f xs=>cases md<;>simp [zD]
  | _=>simp [zD]
 constructor
 ·rintro ⟨h1,h2⟩;rcases h with h | h
  ·have:zD y.op=1∨zD y.op=2:=by have:=k2 y.op;omega
   rcases this with e | e<;>(simp only [zeJ,h1,e] at h;cases h)
  ·obtain ⟨_,sz,ag,t,e⟩:=ex h;rw [e] at h1;cases h1
 ·intro h1 h2;rcases h with h | h
  ·have:zD x.op=1∨zD x.op=2:=by have:=k2 x.op;omega
   rcases this with e | e<;>(simp only [zeJ,h2,e] at h;cases h)
  ·exact ex h
theorem zxo (hC:zb0 Λ self) (hH:zaM Λ H) (hG:zgi Λ H self ops rs tmF hpF ctF vF) (hn:H.n≤n0) (hI:Inv Λ ops rs tmF hpF ctF D m0 S0 w0 n0 d0 st c m S w a) (hr:rs[i]? =some r) (ho:ops[i]? =some o) (hi:¬D i)
  (hpre:∀j,Ord ops j i→D j) (hpost:∀j,Ord ops i j→¬D j) (hD:∀j,D' j↔D j∨j=i) {K:Act→World→Prop}
  (hK:∀st' c' m' S' w' a',Inv Λ ops rs tmF hpF ctF D' m0 S0 w0 n0 d0 st' c' m' S' w' a'→K a' w'):wpOpIn (WF ro) 0 Λ.P ops Q i K a w:=by
 have hro:=hG.of i r o hr ho;have huse:=zCr hG hI.tm hr hi hpre hpost;have hst:=hG.run.step i r hr;have hd:∀d,r.dst=some d→d<a.tmps.size:=by
  rw [hro.dst];exact znL hro.ok (by rw [hI.size];exact hn)
 have hc0:=hI.stc;have hge:1≤zD r.op→i≤c:=by
  intro hk;rcases Nat.lt_or_ge c i with hci | hci
  ·have hil:i<rs.length:=(List.getElem?_eq_some_iff.1 hr).1;rcases hI.cut with h | ⟨⟨rc,hrc,hkc⟩,hnc⟩
   ·omega
   ·rcases hG.pair c i rc r hci hrc hr with h | h
    ·exact (hnc (hpre c h)).elim
    ·exact ((zj6 h).1 ⟨hkc,hk⟩).elim
  ·exact hci
 have hwc:isW rs i→i=c:=by
  intro hw;obtain ⟨rw',h1,h2⟩:=hw;rw [hr] at h1;injection h1 with h1
  subst h1;have h3:=hge (by omega);rcases Nat.eq_or_lt_of_le h3 with e | h3
  ·exact e
  ·rcases Nat.lt_or_ge i st with g | g
   ·exact (hi (hI.before i g ⟨r,hr,h2⟩)).elim
   ·exact (hI.seg i g h3 ⟨r,hr,h2⟩).elim
 have hlt:1≤zD r.op→¬isW rs i→i<c:=by
  intro hk hw;rcases Nat.eq_or_lt_of_le (hge hk) with e | h
  ·subst e;rcases hI.cut with h | h
   ·have hil:i<rs.length:=(List.getElem?_eq_some_iff.1 hr).1;omega
   ·exact (hw h.1).elim
  ·exact h
 have hkc:¬isW rs i→zD r.op=0∨i<c:=fun hw=>by
  rcases Nat.eq_zero_or_pos (zD r.op) with h | h
  ·exact .inl h
  ·exact .inr (hlt h hw)
 unfold wpOpIn;simp only [ho];unfold ev1 at hst
 cases hwg:zfk (tmF i) r.guard with
 | none=>simp [hwg] at hst
 | some b=>
  have hwn:=zlF hro.guard (fun t ht=>huse t (by simp [zgI,ht])) hwg;rw [hwn]
  cases b with
  | false=>
   simp only [hwg,Option.some.injEq,Prod.mk.injEq] at hst;obtain ⟨hv,hh,hc⟩:=hst;simp only [Bool.false_eq_true,if_false];refine ⟨fun _ _=>trivial,?_⟩;have hrep:∀m S w,zm Λ.fid m S w (vF i) undef:=fun m S w=>by rw [←hv];simp [zm,zi,undef]
   rw [←hro.dst];rcases Classical.em (isW rs i) with hw | hw
   ·have e:=hwc hw;subst e;obtain ⟨c',S'',h⟩:=zrZ hG hI hr hi hpre hpost hD hd hw (m':=m) (S':=S) (w':=w) (u:=undef) (by rw [←hh,←hc];exact hI.hp) (by omega) (hrep _ _ _) (by rw [←hh];exact Fwd.refl)
    exact hK _ _ _ _ _ _ h
   ·exact hK _ _ _ _ _ _ (zkX hG hI hr hi hpre hpost hD hd hw (hkc hw) (m':=m) (S':=S) (w':=w) (u:=undef) hI.hp MLe.refl (fun _ _ h=> .inl h) (hrep _ _ _) Fwd.refl)
  | true=>
   simp only [hwg] at hst;simp only [if_true];have hnd:=ziG hro.op hst;have hte:zaB Λ m S w (keep (tmF i) (zbY r.op)) a.tmps:=fun t=>by
    rcases Classical.em (t∈zbY r.op) with h | h
    ·rw [zg7 h];exact huse t (by simp [zgI,h])
    ·have:zc (keep (tmF i) (zbY r.op)) t= .undef:=by
      clear huse hst;revert h;generalize zbY r.op=l;intro h
      induction l with
      | nil=>rfl
      | cons x l ih=>
       simp only [keep,zc];have hx:Nat.beq x t=false:=by
        cases hq:Nat.beq x t with
        | false=>rfl
        | true=>exact absurd (by rw [Nat.eq_of_beq_eq_true hq];exact List.mem_cons_self) h
       rw [hx];exact ih (fun h'=>h (List.mem_cons_of_mem _ h'))
     rw [this];simp only [zm]
   have hev:zZ Λ.prog Λ.lib self (keep (tmF i) (zbY r.op)) (hpF i) (ctF i) (zcy r.op)=some (vF i,hpF (i+1),ctF (i+1)):=
    zuE (fun t ht=>zg7 ht) hst
   have hstrip:¬isW rs i→zcy r.op=r.op:=fun hw=>zwB (fun h=>hw ⟨r,hr,h⟩)
   have now:¬isW rs i→zB (keep (tmF i) (zbY r.op)) (hpF c) r.op=some (vF i)→Oper.wpIn (WF ro) 0 Λ.P o a w K Q:=by
    intro hw hrd;have hop:∃k,r.op=zt Λ.P H k o:=by
     rcases hro.op with h | ⟨cc,f,rr,_,_,h⟩ | ⟨_,_,_,_,_,_,_,h⟩
     ·exact h
     ·rw [h] at hrd;simp [zB] at hrd
     ·rw [h] at hrd;simp [zB] at hrd
    obtain ⟨k,hk⟩:=hop;rw [hk] at hrd;rw [hk] at hte;obtain ⟨u,h1,h2⟩:=zqJ hH hte hI.hp hrd;refine zmn hnd h1 (.inl rfl) ?_;rw [←hro.dst];exact hK _ _ _ _ _ _ (zkX hG hI hr hi hpre hpost hD hd hw (hkc hw) hI.hp MLe.refl (fun _ _ h=> .inl h) h2 Fwd.refl)
   rcases Classical.em (isW rs i) with hw | hw
   ·have e:=hwc hw;subst e;refine znr hC hH (zpS hro.op) hnd hev hte hI.hp (fun u m' S' w' k1 k2 k3 k4=>?_);rw [←hro.dst];obtain ⟨c',S'',h⟩:=zrZ hG hI hr hi hpre hpost hD hd hw k1 k2 k3 k4;exact hK _ _ _ _ _ _ h
   ·rcases Nat.eq_zero_or_pos (zD r.op) with hk | hk
    ·have hev:=hstrip hw▸hev;obtain ⟨h1,_,_⟩:=znS (.inl hk) hev;exact now hw (by rw [zum hk (hpF c) (hpF i)];exact h1)
    ·have hic:=hlt hk hw;rcases Nat.lt_or_ge i st with hist | hist
     ·
      rcases hI.st0 with h0 | h0
      ·omega
      ·have hp1:D (st-1):=hI.before _ (by omega) h0;have hne:i≠st-1:=fun e=>hi (e▸hp1)
       obtain ⟨rp,hrp,hkp⟩:=h0;rcases hG.pair i (st-1) r rp (by omega) hr hrp with h | h
       ·exact (hpost _ h hp1).elim
       ·obtain ⟨hg,sz,ag,t,hop⟩:=(zj6 h).2 hk hkp;have hl:=zha (c:=c) hG hr hi ⟨hg,hop⟩ hI.cn (fun j hj hjw=>by
         rcases Nat.lt_or_ge j st with g | g
         ·exact hI.before j g hjw
         ·exact (hI.seg j g hj hjw).elim) hpost hI.lts (c-(i+1)) (by omega)
        rw [show i+1+(c-(i+1))=c by omega] at hl;refine now hw ?_;rw [hop];simp only [zB,zp];rw [zg7 (by simp [zbY,zcL])];exact hl
     ·have hg1:=zfQ hG hI (x:=i+1) (y:=c) (by omega) hic (Nat.le_refl _);have hg0:=zfQ hG hI (x:=st) (y:=i) (Nat.le_refl _) hist (by omega)
      refine zjo (Hq:=hpF c) (cH:=ctF c) hC hH (zhr hr hw) hro.op hnd (hstrip hw▸hev) hg1.le hg1.cle (hI.lts i (by omega)) ?_ hte hI.hp (fun u m' S' w' k1 k2 k3 k4 k5=>?_)
      ·intro id h1 h2
       cases hm:m id with
       | none=>rfl
       | some p=>
        rcases hI.dom id p hm with h | ⟨j,q1,q2,q3,q4,q5⟩
        ·have:=hg0.cle;omega
        ·rcases Nat.lt_trichotomy j i with g | g | g
         ·have:=(zfQ hG hI (x:=j+1) (y:=i) (by omega) g (by omega)).cle;omega
         ·subst g;exact (hi q3).elim
         ·have:=(zfQ hG hI (x:=i+1) (y:=j) (by omega) g (by omega)).cle;omega
      ·rw [←hro.dst];exact hK _ _ _ _ _ _ (zkX hG hI hr hi hpre hpost hD hd hw (.inr hic) k1 k2 (fun id p h=>(k3 id p h).imp (fun h=>h) (fun h=>⟨hist,hic,h.1,h.2⟩)) k4 k5)
def left (n:Nat) (listed:Array Bool):Nat:=(List.range n).countP fun i=> !listed.getD i false
theorem zyu {n:Nat} {listed:Array Bool} {i:Nat} (hi:i<n) (hs:listed.size=n) (hl:listed.getD i true=false):left n (listed.setIfInBounds i true)+1=left n listed:=by
 have hlt:i<listed.size:=by omega
 have key:∀(l:List Nat),l.Nodup→(i∈l→(l.countP fun j=> !(listed.setIfInBounds i true).getD j false)+1=l.countP fun j=> !listed.getD j false)∧(i∉l→(l.countP fun j=> !(listed.setIfInBounds i true).getD j false)=l.countP fun j=> !listed.getD j false):=by
  intro l
  induction l with
  | nil=>intro _;exact ⟨fun h=>(by cases h),fun _=>rfl⟩
  | cons x l ih=>
   intro hnd;obtain ⟨h1,h2⟩:=List.nodup_cons.1 hnd;obtain ⟨i1,i2⟩:=ih h2;have hx:x≠i→(listed.setIfInBounds i true).getD x false=listed.getD x false:=fun h=>getD_set_ne false (Ne.symm h)
   refine ⟨fun hm=>?_,fun hm=>?_⟩
   ·rw [List.countP_cons,List.countP_cons];by_cases e:x=i
    ·subst e;have ht:(listed.setIfInBounds x true).getD x false=true:=by simp [hlt]
     have hf:listed.getD x false=false:=by
      simp only [Array.getD_eq_getD_getElem?] at hl ⊢
      cases hq:listed[x]? with
      | none=>rfl
      | some y=>rw [hq] at hl;simpa using hl
     rw [ht,hf,i2 h1]
     simp
    ·have:=i1 ((List.mem_cons.1 hm).resolve_left (fun h=>e h.symm))
     rw [hx e,←this];omega
   ·have hne:x≠i:=fun e=>hm (e▸List.mem_cons_self)
    rw [List.countP_cons,List.countP_cons,hx hne,i2 (fun h=>hm (List.mem_cons_of_mem _ h))]
 exact (key _ List.nodup_range).1 (List.mem_range.2 hi)
theorem ztG {n:Nat} {listed:Array Bool} (h:left n listed=0):∀i,i<n→listed.getD i false=true:=by
 intro i hi;unfold left at h;rw [List.countP_eq_zero] at h
 have:=h i (List.mem_range.2 hi)
 simpa using this
theorem zt8 {listed:Array Bool} (hs:listed.size=ops.size) (hb:∀(i:Nat) (o:Oper),ops[i]? =some o→∀e,e∈o.after→Region.binds .any e=true→e.on<i) (h:Region.ready .any ops listed=[]):∀i,i<ops.size→listed.getD i false=true:=by
 intro i
 induction i using Nat.strongRecOn with
 | _ i ih=>
  intro hi
  cases hq:listed.getD i false with
  | true=>rfl
  | false=>
   have:i∈Region.ready .any ops listed:=by
    refine mem_ready.2 ⟨?_,ops[i],by simp [hi],fun e he hbi=>?_⟩
    ·have hlt:i<listed.size:=by omega
     simp only [Array.getD_eq_getD_getElem?,hlt,Array.getElem?_eq_getElem,Option.getD_some] at hq ⊢;exact hq
    ·have:=hb i ops[i] (by simp [hi]) e he hbi
     exact ih e.on this (by omega)
   rw [h] at this;cases this
theorem zC5 (hG:zgi Λ H self ops rs tmF hpF ctF vF) (hI:Inv Λ ops rs tmF hpF ctF D m0 S0 w0 n0 d0 st c m S w a) (hall:∀i,i<rs.length→D i):
  zR Λ m S w (hpF rs.length) (ctF rs.length)∧zaB Λ m S w (tmF rs.length) a.tmps∧Fwd m0 S0 w0 (hpF 0) m S w (hpF rs.length) (ctF 0)∧ctF 0≤ctF rs.length:=by
 have hc:c=rs.length:=by
  rcases hI.cut with h | ⟨⟨r,h1,_⟩,h2⟩
  ·exact h
  ·exact (h2 (hall c (List.getElem?_eq_some_iff.1 h1).1)).elim
 subst hc;refine ⟨hI.hp,fun t=>?_,hI.fwd,hI.ge⟩;obtain ⟨j,h1,h2,h3⟩:=hI.tm t;obtain ⟨k,hk⟩:∃k,rs.length=j+k:=⟨rs.length-j,by omega⟩
 have:=zeC (t:=t) (i:=j) hG.run k (by omega) (fun l r g1 g2 hl hd=>by
  have:=(h2 l r hl hd).1 (hall l (List.getElem?_eq_some_iff.1 hl).1)
  omega)
 rw [←hk] at this;rw [this];exact h3
theorem zDX (hC:zb0 Λ self) (hH:zaM Λ H) (hG:zgi Λ H self ops rs tmF hpF ctF vF) (hn:H.n≤n0)
  (hQ:∀a' m' S' w',zR Λ m' S' w' (hpF rs.length) (ctF rs.length)→ctF 0≤ctF rs.length→zaB Λ m' S' w' (tmF rs.length) a'.tmps→Fwd m0 S0 w0 (hpF 0) m' S' w' (hpF rs.length) (ctF 0)→a'.tmps.size=n0→a'.defers=d0→Q .normal a' w'):
  ∀(fuel:Nat) (listed:Array Bool) (st c:Nat) (m:Mp) (S:Nat→Prop) (w:World) (a:Act),listed.size=ops.size→left ops.size listed=fuel→zpI ops (fun i=>listed.getD i false=true)→
   Inv Λ ops rs tmF hpF ctF (fun i=>listed.getD i false=true) m0 S0 w0 n0 d0 st c m S w a→wpAnyIn (WF ro) 0 Λ.P .any ops Q fuel listed a w:=by
 have fin:∀(listed:Array Bool) (st c:Nat) (m:Mp) (S:Nat→Prop) (w:World) (a:Act),Inv Λ ops rs tmF hpF ctF (fun i=>listed.getD i false=true) m0 S0 w0 n0 d0 st c m S w a→(∀i,i<ops.size→listed.getD i false=true)→Q .normal a w:=by
  intro listed st c m S w a hI hall;obtain ⟨h1,h2,h3,h4⟩:=zC5 hG hI (fun i hi=>hall i (by rw [←hG.len];exact hi))
  exact hQ a m S w h1 h4 h2 h3 hI.size hI.defers
 intro fuel
 induction fuel with
 | zero=>
  intro listed st c m S w a hs hl hc hI;have hall:=ztG hl;refine ⟨?_,fin listed st c m S w a hI hall⟩;rw [List.eq_nil_iff_forall_not_mem];intro i hm;obtain ⟨h1,o,ho,_⟩:=mem_ready.1 hm;have hi:=(Array.getElem?_eq_some_iff.1 ho).1
  have:=hall i hi
  have hlt:i<listed.size:=by omega
  simp only [Array.getD_eq_getD_getElem?,hlt,Array.getElem?_eq_getElem,Option.getD_some] at h1 this;rw [this] at h1;cases h1
 | succ fuel ih=>
  intro listed st c m S w a hs hl hc hI;refine ⟨fun h=>fin listed st c m S w a hI (zt8 hs hG.back h),fun i hm=>?_⟩;obtain ⟨h1,o,ho,h2⟩:=mem_ready.1 hm;have hi:i<ops.size:=(Array.getElem?_eq_some_iff.1 ho).1;have hr:rs[i]? =some (rs[i]'(by rw [hG.len];exact hi)):=by simp [hG.len,hi]
  have hlt:i<listed.size:=by omega
  have hni:¬listed.getD i false=true:=by
   simp only [Array.getD_eq_getD_getElem?,hlt,Array.getElem?_eq_getElem,Option.getD_some] at h1 ⊢;rw [h1];simp
  have hD:∀j,(listed.setIfInBounds i true).getD j false=true↔listed.getD j false=true∨j=i:=by
   intro j;by_cases e:j=i
   ·subst e;simp [hlt]
   ·rw [getD_set_ne false (Ne.symm e)];simp [e]
  refine zxo hC hH hG hn hI hr ho hni (zlx hc i o ho h2) (fun j hj hDj=>?_) hD (fun st' c' m' S' w' a' hI'=>ih (listed.setIfInBounds i true) st' c' m' S' w' a' (by simp [hs]) ?_ ?_ hI')
  ·have hjl:j<ops.size:=by
    rcases Nat.lt_or_ge j ops.size with h | h
    ·exact h
    ·rw [Array.getD_eq_getD_getElem?,Array.getElem?_eq_none (by omega)] at hDj;simp at hDj
   exact hni (zxW hc (show ops[j]? =some ops[j] by simp [hjl]) hDj hj)
  ·have:=zyu hi hs h1
   omega
  ·intro j oj hoj hj e he hb;rw [hD];rcases (hD j).1 hj with g | g
   ·exact .inl (hc j oj hoj g e he hb)
   ·subst g;rw [ho] at hoj;injection hoj with hoj
    subst hoj;exact .inl (h2 e he hb)
end
end VE
end
section
namespace VE
open Go
theorem zp0 {F:Fence} {n:Nat} {P:Program} {Q:Exit→Act→World→Prop} {a:Act} {w:World} {c:Code} (h:c.wpIn F n P Q a w) (hg:∀l a w,¬Q (.goto l) a w):(Code.scope c).wpIn F n P Q a w:=by
 intro b k cs hro hb hr;have h0:(lone (b.atR a (.code (.scope c)::k)) cs w).fenced P F:=fenced_calm hb hr rfl;have s0:step P (lone (b.atR a (.code (.scope c)::k)) cs w)= .next (lone (b.atR a (.code c:: .inScope c::k)) cs w):=step_lone_go (by simp [stepG,stepG.exec,Frame.atR]);obtain ⟨e,a₁,w₁,hq,harr⟩:=h b (.inScope c::k) cs hro hb hr;have hx:∀id,exitTo id (.inScope c::k)=exitTo id k:=fun id=>by simp [exitTo]
 cases e with
 | normal=>
  have s1:step P (lone (b.atR a₁ (.inScope c::k)) cs w₁)= .next (lone (b.atR a₁ k) cs w₁):=step_lone_go (by simp [stepG,stepG.exec,Frame.atR]);exact ⟨.normal,a₁,w₁,hq,.head h0 s0 (StepsIn.trans harr (.one (fenced_calm hb hr rfl) s1))⟩
 | exit id=>
  exact ⟨.exit id,a₁,w₁,hq,fun k' hk=> .head h0 s0 (harr.1 k' (by rw [hx];exact hk)),fun hr' hk=>let ⟨k₁,h1,h2⟩:=harr.2 hr' (by rw [hx];exact hk);⟨k₁,h1,.head h0 s0 h2⟩⟩
 | goto l=>exact (hg _ _ _ hq).elim
 | ret=>exact ⟨_,a₁,w₁,hq,.of_steps (.one h0 s0) harr⟩
 | panic ch=>exact ⟨_,a₁,w₁,hq,.of_steps (.one h0 s0) harr⟩
 | outgrown=>exact ⟨_,a₁,w₁,hq,.of_steps (.one h0 s0) harr⟩
def zkJ:Ex→Exit
 | .normal=> .normal
 | .ret=> .ret
 | .exit id=> .exit id
def zeK (lo:Nat) (S:Nat→Prop) (w:World) (ds:List Deferred):Prop:=∃rs:List Nat,ds=rs.map (fun r=>{target:= .collected r,args:=#[]})∧rs.Nodup∧
 ∀r,r∈rs→w.heap[r]? =some (.deferred (some []))∧¬S r∧lo≤r
def ze9 (ro:Option Nat) (w:World):Prop:=∀l,ro=some l→∃r:Loop,w.heap[l]? =some (.loop r)
section
variable {Λ:Link} {m:Mp} {S:Nat→Prop} {w:World} {hp:Hp} {ct:Nat}
theorem zoE (hh:zR Λ m S w hp ct) {b:Nat} (h:Own m hp b):∀x,w.heap[b]?≠some (.deferred x):=by
 intro x hx;obtain ⟨id,o,p,h1,h2,rfl⟩:=h;have h3:=hh.obj id o p h1 h2
 cases o with
 | cells rw pu ex sz cs=>obtain ⟨q,arr,t,g1,g2,_⟩:=h3;rw [h2] at g1;injection g1 with g1;subst g1;rw [hx] at g2;cases g2
 | mp rw ks vs=>obtain ⟨q,es,clock,g1,g2,_⟩:=h3;rw [h2] at g1;injection g1 with g1;subst g1;rw [hx] at g2;cases g2
 | si s pos=>obtain ⟨q,t,g1,g2,_⟩:=h3;rw [h2] at g1;injection g1 with g1;subst g1;rw [hx] at g2;cases g2
 | lp tm ps as_ body st pe=>obtain ⟨q,l,hi,g1,g2,_⟩:=h3;rw [h2] at g1;injection g1 with g1;subst g1;rw [hx] at g2;cases g2
theorem zct (hh:zR Λ m S w hp ct) {m':Mp} {S':Nat→Prop} {w':World} {hp':Hp} {base lo:Nat} (hf:Fwd m S w hp m' S' w' hp' base) {ds:List Deferred} (h:zeK lo S w ds):zeK lo S' w' ds:=by
 obtain ⟨rs,h1,h2,h3⟩:=h;refine ⟨rs,h1,h2,fun r hr=>?_⟩;obtain ⟨this,h4,h5⟩:=h3 r hr;have hlt:=(Array.getElem?_eq_some_iff.1 this).1;have hno:¬Own m hp r:=fun ho=>zoE hh ho _ this
 refine ⟨(hf.same r hlt hno).trans this,fun hs=>?_,h5⟩;rcases hf.new r hs with h | h | h
 ·exact h4 h
 ·exact hno h
 ·omega
theorem zfW {m':Mp} {S':Nat→Prop} {w':World} {hp':Hp} {base:Nat} {ro:Option Nat} (hf:Fwd m S w hp m' S' w' hp' base) (h:ze9 ro w):ze9 ro w':=fun l hl=>
 let ⟨r,hr⟩:=h l hl
 hf.loops l r hr
def Post (Λ:Link) (m:Mp) (S:Nat→Prop) (w:World) (s:St) (ex:Ex) (s':St) (n lo:Nat) (e:Exit) (a':Act) (w':World):Prop:=
 e=zkJ ex∧∃m' S',zaB Λ m' S' w' s'.tm a'.tmps∧zR Λ m' S' w' s'.hp s'.ct∧s'.base=s.base∧s.base≤s'.ct∧Fwd m S w s.hp m' S' w' s'.hp s.base∧a'.tmps.size=n∧zeK lo S' w' a'.defers
def ziH (Λ:Link) (h:Nat) (c:Code) (s:St) (ex:Ex) (s':St):Prop:=
 ∀(ro:Option Nat) (lo:Nat) (m:Mp) (S:Nat→Prop) (w:World) (a:Act),ze9 ro w→zaB Λ m S w s.tm a.tmps→zR Λ m S w s.hp s.ct→s.base≤s.ct→(Λ.hint h).n≤a.tmps.size→Λ.w0.heap.size≤lo→lo≤w.heap.size→zeK lo S w a.defers→
  c.wpIn (WF ro) 0 Λ.P (Post Λ m S w s ex s' a.tmps.size lo) a w
structure zav (Λ:Link):Prop where
 hint:∀h,zaM Λ (Λ.hint h)
 mixed:Λ.P.follows .mixedOrders=true
 prog:∀n F,Λ.prog n=some F→∃fn,Λ.P.funcs[Λ.fid n]? =some fn∧zhY Λ.P (Λ.hint n) fn=some F∧fn.name≠ "runtime.NumGoroutine"
 lib:∀n sp vals r,Λ.lib.pure n=some sp→sp vals=some r→PureC Λ n vals r
 libH:∀n sp hp ct vals v hp' ct',Λ.lib.heap n=some sp→sp hp ct vals=some (v,hp',ct')→ziM Λ n hp ct vals v hp' ct'
theorem zhF {P:Program} {H:zbH} {ops:Array Oper}:∀(rs:List ROp) (l:List Oper) (done:List ROp) (ms:List Nat),zbv P H ops rs l→zbv P H ops (zfo done rs ms) l
 | [],l,done,ms,h=>by
  cases ms<;>simpa only [zfo] using h
 | r::rs,[],done,ms,h=>by simp [zbv] at h
 | r::rs,o::l,done,[],h=>by
  obtain ⟨d,g,op⟩:=r;cases op<;>simpa only [zfo] using h
 | r::rs,o::l,done,m::ms,h=>by
  simp only [zbv] at h;obtain ⟨h1,h2⟩:=h;obtain ⟨d,g,op⟩:=r
  cases op with
  | calld lds f xs=>
   simp only [zfo,zbv];refine ⟨?_,zhF rs l _ ms h2⟩;rcases h1 with h1 | ⟨_,h1⟩
   ·refine .inl ⟨?_,h1.dst,h1.ok,h1.guard⟩;obtain ⟨c,f',g1,g2,g3,g4⟩:=zkU h1.op;rw [g3,g4];exact .inr (.inl ⟨c,f',_,g1,g2,rfl⟩)
   ·simp [bad] at h1
  | st sz x y=>
   simp only [zfo,zbv];refine ⟨?_,zhF rs l _ ms h2⟩;rcases h1 with h1 | ⟨_,h1⟩
   ·refine .inl ⟨?_,h1.dst,h1.ok,h1.guard⟩;unfold zNE
    split
    ·exact h1.op
    ·obtain ⟨t,x',y',g1,g2,g3,g4⟩:=zOs h1.op;exact .inr (.inr ⟨t,x',y',sz,_,g1,g2,by rw [g3,g4]⟩)
   ·simp [bad] at h1
  | _=>
   simp only [zfo,zbv];exact ⟨h1,zhF rs l _ ms h2⟩
end
section
variable {Λ:Link} {self:Run}
theorem znk {P:Program} {H:zbH} {ops:Array Oper}:∀{rs:List ROp} {l:List Oper},zbv P H ops rs l→rs.length=l.length∧∀(i:Nat) (r:ROp) (o:Oper),rs[i]? =some r→l[i]? =some o→zrU P H ops r o∨(r.guard=none∧r.op=bad)
 | [],[],_=>⟨rfl,fun i r o h=>by simp at h⟩
 | [],_::_,h=>by simp [zbv] at h
 | _::_,[],h=>by simp [zbv] at h
 | r::rs,o::l,h=>by
  simp only [zbv] at h;obtain ⟨h1,h2⟩:=znk h.2;refine ⟨by simp [h1],fun i r' o' hr ho=>?_⟩
  cases i with
  | zero=>simp at hr ho;subst hr;subst ho;exact h.1
  | succ i=>exact h2 i r' o' (by simpa using hr) (by simpa using ho)
theorem ztT {m:Mp} {S:Nat→Prop} {w:World} {hp:Hp} {ct:Nat} (hh:zR Λ m S w hp ct):Calm w {w with drawn:=w.drawn+1}:=⟨rfl,rfl,rfl,Nat.le_refl _,fun _ _=>rfl⟩
theorem zD0 (hΛ:zav Λ) (hC:zb0 Λ self) (h:Nat) (id:Nat) (ops:Array Oper) (draw:Bool) (k:Nat) {s s':St} (hv:zaF Λ.prog Λ.lib self (zjj Λ.P (Λ.hint h) ops draw k).1 s=some s'):ziH Λ h (.region id ops draw) s .normal s':=by
 intro ro lo m S w a hro ht hh hb hn hlo hlw hmk;unfold zjj at hv;have hof:=zkA (P:=Λ.P) (H:=Λ.hint h) (ops:=ops) ops.toList k;generalize hq:zfa Λ.P (Λ.hint h) ops ops.toList k=q at hv hof;obtain ⟨l,k'⟩:=q;simp only at hv hof;have post:∀{a':Act} {m':Mp} {S':Nat→Prop} {w':World},zR Λ m' S' w' s'.hp s'.ct→s.ct≤s'.ct→zaB Λ m' S' w' s'.tm a'.tmps→Fwd m S w s.hp m' S' w' s'.hp s.ct→a'.tmps.size=a.tmps.size→a'.defers=a.defers→s'.base=s.base→Post Λ m S w s .normal s' a.tmps.size lo .normal a' w':=by
  intro a' m' S' w' h1 h2 h3 h4 h5 h6 h7;exact ⟨rfl,m',S',h3,h1,h7,by omega,h4.weak hb,h5,by rw [h6];exact zct hh h4 hmk⟩
 cases draw with
 | false=>
  simp only [cond_false] at hv;refine wpIn_region ?_;rw [List.range_eq_range'];have hl:ops.size=ops.toList.length:=by simp
  rw [hl];exact zsu hC (hΛ.hint h) ops.toList l 0 s s' a m S w (fun j=>by simp) hof hv ht hh hn (fun a' m' S' w' h1 h2 h3 h4 h5 h6 h7=>post h1 h2 h3 h4 h5 h6 h7)
 | true=>
  simp only [cond_true] at hv
  cases hck:(zeA ops.toList 0&&zfY [] (zfo [] l (zd1 [] ops.toList)) (zd1 [] ops.toList)) with
  | false=>
   rw [hck] at hv;simp [zaF,bad,zZ,zaw,zp] at hv
  | true=>
   rw [hck] at hv;simp only [cond_true] at hv;simp only [Bool.and_eq_true] at hck;have hof':=zhF l ops.toList [] (zd1 [] ops.toList) hof;generalize zfo [] l (zd1 [] ops.toList)=rs at hv hck hof';obtain ⟨hlen,zq⟩:=znk hof';obtain ⟨tmF,hpF,ctF,vF,hR,e1,e2,e3,e4,e5,e6,e7⟩:=zqP hv;have hG:zgi Λ (Λ.hint h) self ops rs tmF hpF ctF vF:=by
    refine ⟨hR,by rw [hlen];simp,fun i r o hr ho=>?_,fun i j x y hij hx hy=>?_,fun i o ho e he hbd=>?_⟩
    ·rcases zq i r o hr (by simpa using ho) with g | ⟨g1,g2⟩
     ·exact g
     ·have:=hR.step i r hr
      simp [ev1,g1,zfk,g2,bad,zZ,zaw,zp] at this
    ·obtain ⟨mm,g1,g2⟩:=zhq (done:=[]) (i:=i) (j:=j) (a:=x) (b:=y) hck.2 (by simpa using hx) hy (by simpa using hij);refine g2.imp (fun g=>?_) (fun g=>by simpa using g);unfold Ord;rw [List.getD_eq_getElem?_getD,g1];exact g
    ·have:=zfK hck.1 (j:=i) (o:=o) (by simpa using ho) e he hbd
     omega
   refine wpIn_region_any hΛ.mixed ?_;have hcalm:=ztT hh;have hh1:=zdM hh hcalm (S':=S) (fun _ h=>h) (fun _ h=> .inl h) hh.slt
   have hf1:Fwd m S w s.hp m S {w with drawn:=w.drawn+1} s.hp (ctF 0):=zd2 hh hcalm (fun _ h=>h) (fun _ h=> .inl h);obtain ⟨c,c1,c2,c3,c4⟩:=zpO rs rs.length 0 (by omega);have hg:∀k',k'≤c→Grows (hpF 0) (ctF 0) (hpF (0+k')) (ctF (0+k')):=fun k' hk'=>
    zf2 hR (by rw [e2,e3];exact hh.hlt) k' (by omega) (fun j r g1 g2 hr=>zhr hr (c3 j g1 (by omega)))
   have hg1:=hg c (Nat.le_refl _);rw [Nat.zero_add] at hg1;obtain ⟨S1,g1,g2,g3,g4⟩:=zg3 (by rw [e2,e3];exact hh1:zR Λ m S {w with drawn:=w.drawn+1} (hpF 0) (ctF 0)) hg1
   have hnone:∀i,(Array.replicate ops.size false).getD i false=true→False:=fun i hi=>by
    simp only [Array.getD_eq_getD_getElem?] at hi;by_cases hlt:i<ops.size
    ·simp [hlt] at hi
    ·rw [Array.getElem?_eq_none (by simpa using hlt)] at hi;simp at hi
   refine zDX (m0:=m) (S0:=S) (w0:=w) (n0:=a.tmps.size) (d0:=a.defers) hC (hΛ.hint h) hG hn (fun a' m' S' w' h1 h2 h3 h4 h5 h6=>?_) ops.size _ 0 c m S1 _ a (by simp) ?_ (fun j o _ hj=>(hnone j hj).elim) ?_
   ·rw [e5,e6] at h1;rw [e3,e6] at h2;rw [e4] at h3;rw [e2,e3,e5] at h4;exact post h1 h2 h3 h4 h5 h6 e7
   ·unfold left;rw [List.countP_eq_length.2]
    ·simp
    ·intro i hi;simp only [Bool.not_eq_true']
     cases hq:(Array.replicate ops.size false).getD i false with
     | false=>rfl
     | true=>exact (hnone i hq).elim
   ·refine ⟨Nat.zero_le _,c2,fun i hi=>by omega,c3,c4.imp (fun h=>h) (fun h=>⟨h,fun hd=>hnone c hd⟩),fun i r _ _ _ hd=>hnone i hd,g1,fun id p hp=> .inl (by rw [e3];exact hh.lt id p hp),fun t=>⟨0,Nat.zero_le _,fun i r _ _=>⟨fun hd=>(hnone i hd).elim,fun h=>by omega⟩,?_⟩,?_,hg1.cle,rfl,rfl,.inl rfl,fun j hj=>?_⟩
    ·rw [e1];exact za9 (fun _ _ h=>h) (fun b hb=>g2 b hb) (fun b hb=>hcalm.same b (hh.slt b hb)) _ _ (ht t)
    ·rw [e2];have g5:=g4 (ctF 0);rw [e2] at g5;exact hf1.trans g5
    ·have:=(hg j hj).lt
     rw [Nat.zero_add] at this;exact this
end
end VE
end
