import Derived.RangeFuncLeaves
import Derived.OrdersIn
import Derived.LoopNIn
import Derived.RangeFuncIn
import Derived.Lib.Index
import Derived.Lib.ItoaNum
import Derived.Lib.Atoi
import Derived.Lib.BitFns
import Derived.Lib.Repeat
import Derived.Lib.SlTrimSet
import Derived.Shelf.Strings.Cut
import Derived.Shelf.Strings.Prefix
import Derived.Shelf.Small.Bits
import Derived.RowKit
import Derived.Test.YtdibafmjplecaaaGreatDoorTaa
set_option linter.all false
set_option maxRecDepth 100000
open Array renaming getD_eq_getD_getElem?→wC,getElem?_append_left→tQ,getElem?_eq_some_iff→xo,replicate→vP
open Bool renaming and_eq_true→yf,false_eq_true→yC,not_eq_true'→uL,or_eq_false_iff→yaq,or_eq_true→tL
open Classical renaming em→um
open Go renaming Call→tC,Calls→xV,Code→wF,Deferred→tM,Ending→yar,Exit→vO,Func→yae,FuncId→tq,LeavesInM→yci,Loop→uj,Next→yaf,Obj→tK,Oper→y7,Operand→xq,Program→y8,ResultVar→ycg,RoundIn→yaS,TypeId→yx,Value→yg,World→yi
open Int renaming natCast_nonneg→tS,ofNat→ybb
open List renaming countP_cons→yaU,getD_eq_getElem?_getD→xG,getElem?_cons_zero→vE,getElem?_eq_some_iff→wc,length_append→y5,length_cons→yO,length_drop→xK,length_map→xt,length_nil→yR,length_take→yW,mapM_cons→ud,map_append→xI,map_cons→xi,map_reverse→tZ,mem_append→wy,mem_cons→wV,mem_cons_of_mem→vt,mem_cons_self→uA,size_toArray→uM
open Nat renaming add_mul→xS,beq→yq,ble→yy,ble_eq_true_of_le→yt,blt→yK,eq_of_beq_eq_true→yj,eq_of_mul_eq_mul_right→tU,eq_or_lt_of_le→wR,eq_zero_or_pos→xe,le_of_ble_eq_true→yp,le_of_lt_succ→vn,le_refl→yB,le_trans→xb,lt_of_lt_of_le→yE,lt_or_ge→wX,lt_succ_self→tF,mul_le_mul_right→yU,strongRecOn→vh,testBit→uY,zero_add→yh,zero_le→uN
open Ne renaming symm→ych
open Option renaming bind_some→xX,getD_some→uG
open Option.some renaming injEq→yb
open Prod.mk renaming injEq→yk
open UInt8 renaming ofNat→ybE,toNat→xf,toNat_ofNat'→yaw
namespace VE
open Go (IntKind)
section
open Go
section
variable {O:a8} {m m':Mp} {S:Nat->Prop} {w:yi} {f:Nat->Option Nat}
def Dj (f:Nat->Option Nat) (m m':Mp):Prop:=∀id j,f id=some j->m' j=m id
mutual
def abH {af:Nat->Nat} (hf:Dj f m m'):∀(v:AV) (u:yg),ah af m S w v u->ah af m' S w (bT f v) u
 | .int _ _,_,h | .bool _,_,h | .aw _ _,_,h | .str _,_,h | .km,_,h | .ae,_,h | .ic,_,h | .ju,_,h | .undef,_,h=>by
  simpa only [bT,ah] using h
 | .ptr id o,u,h=>by
  simp only [bT]
  cases hi:f id with
  | none=>simp only [ah]
  | some j=>
   simp only [ah] at h ⊢;rw [hf id j hi];exact h
 | .b7 cs,u,h=>by
  simp only [bT];exact oT (fun _ h=>h) (fun _ _=>rfl) _ _ (by simp [bh]) h
 | .aC ex n cs,u,h=>by
  simp only [bT];exact oT (fun _ h=>h) (fun _ _=>rfl) _ _ (by simp [bh]) h
 | .bE _ _ _ _,u,h=>by simp only [ah] at h
 | .aE id o n,u,h=>by
  simp only [bT]
  cases hi:f id with
  | none=>simp only [ah]
  | some j=>
   simp only [ah] at h ⊢;rw [hf id j hi];exact h
 | .fn (.f g) first cap,u,h=>by
  simp only [bT,ah] at h ⊢;obtain ⟨fi,ca,h1,h2,h3⟩:=h;exact ⟨fi,ca,h1,zm hf first _ h2,zm hf cap _ h3⟩
 | .fn (.y l) first cap,u,h=>by
  simp only [bT]
  cases hi:f l with
  | none=>simp only [ah]
  | some j=>
   simp only [ah] at h ⊢;rw [hf l j hi];exact h
 | .map id,u,h=>by
  simp only [bT]
  cases hi:f id with
  | none=>simp only [ah]
  | some j=>
   simp only [ah] at h ⊢;rw [hf id j hi];exact h
 | .iL ks vs,u,h=>by
  simp only [bT];exact oT (fun _ h=>h) (fun _ _=>rfl) _ _ (by simp [bh]) h
 | .it id,u,h=>by
  simp only [bT]
  cases hi:f id with
  | none=>simp only [ah]
  | some j=>
   simp only [ah] at h ⊢;rw [hf id j hi];exact h
 | .agg cs,u,h=>by
  simp only [bT,ah] at h ⊢;obtain ⟨xs,h1,h2⟩:=h;exact ⟨xs,h1,zm hf cs _ h2⟩
 | .aa cs,u,h=>by
  simp only [bT,ah] at h ⊢;obtain ⟨xs,h1,h2⟩:=h;exact ⟨xs,h1,zm hf cs _ h2⟩
def zm {af:Nat->Nat} (hf:Dj f m m'):∀(vs:List AV) (us:List yg),au af m S w vs us->au af m' S w (fe f vs) us
 | [],us,h=>by simpa only [fe,au] using h
 | v::r,us,h=>by
  simp only [fe,au] at h ⊢;obtain ⟨u,t,h1,h2,h3⟩:=h;exact ⟨u,t,h1,abH hf v u h2,zm hf r t h3⟩
end
def anb {af:Nat->Nat} (hf:Dj f m m') {cs:List AV} {b o:Nat} (h:bK af m S w cs b o):bK af m' S w (fe f cs) b o:=by
 obtain ⟨us,h1,_,h3⟩:=pU cs b o h;exact CP _ us o (zm hf cs us h1) h3
def Pg:∀cs:List AV,(fe f cs).length=cs.length
 | []=>rfl
 | c::r=>by simp [fe,Pg r]
def aaE:∀(tm:Env) (i:Nat),aj (jK f tm) i=bT f (aj tm i)
 | [],i=>by simp [jK,aj,bT]
 | (j,v)::r,i=>by
  simp only [jK,aj]
  cases yq j i with
  | true=>rfl
  | false=>exact aaE r i
def ZT (tm:Env) (i:Nat):∀live:List Nat,aj (dF tm live) i=aj tm i\/aj (dF tm live) i= .undef
 | []=> .inr rfl
 | j::r=>by
  simp only [dF,aj]
  cases hb:yq j i with
  | true=>rw [yj hb];exact .inl rfl
  | false=>exact ZT tm i r
def aaF {tm:Env} {tmps:Array yg} (hf:Dj f m m') (h:bS O m S w tm tmps):bS O m' S w (jK f tm) tmps:=fun i=>by
 rw [aaE];exact abH hf _ _ (h i)
def aoX {id j:Nat} {o:Obj} {p:Pl} (hf:Dj f m m') (hm:m id=some p) (hj:m' j=some p) (h:eJ O m S w id o):eJ O m' S w j (kw f o):=by
 cases o with
 | cells rw pu ex sz cs=>
  obtain ⟨q,arr,t,h1,h2,h3,h4,h5,h6,h7,h8,h9,gT⟩:=h;rw [hm] at h1;injection h1 with h1;subst h1
  cases pu with
  | true=>exact ⟨p,arr,t,hj,h2,h3,h4,h5,h6,AX (fun _ h=>h) (fun _ _=>rfl) _ _ _ (h8 rfl) rfl h7,h8,h9,gT⟩
  | false=>exact ⟨p,arr,t,hj,h2,h3,by rw [yY,Pg];exact h4,h5,by rw [yY,Pg];exact h6,anb hf h7,by simp,h9,gT⟩
 | mp rw ks vs=>
  obtain ⟨q,es,clock,h1,h2,h3,h4,h5,h6⟩:=h;rw [hm] at h1;injection h1 with h1;subst h1
  exact ⟨p,es,clock,hj,h2,zm hf _ _ h3,zm hf _ _ h4,h5,h6⟩
 | si s pos=>
  obtain ⟨q,t,h1,h2,h3,h4⟩:=h;rw [hm] at h1;injection h1 with h1;subst h1
  exact ⟨p,t,hj,h2,h3,h4⟩
 | lp tm ps cr body st pe=>
  obtain ⟨q,l,hi,h1,h2,h3,h4,h5,h6,h7,h8⟩:=h;rw [hm] at h1;injection h1 with h1;subst h1
  exact ⟨p,l,hi,hj,h2,h3,h4,h5,h6,aaF hf h7,h8⟩
def ZU {i:Nat}:∀{l:List Nat} {k j:Nat},lh i l k=some j->k<=j/\l[j-k]? =some i
 | [],k,j,h=>by simp [lh] at h
 | x::r,k,j,h=>by
  simp only [lh] at h
  cases hb:yq x i with
  | true=>
   simp_all
  | false=>
   rw [hb] at h;obtain ⟨h1,h2⟩:=ZU h
   grind
def rK {a b:Nat}:yK a b=true↔a<b:=by simp_all
def JF {hp:Hp} {j:Nat} {o':Obj}:∀{l:List Nat} {k:Nat} {acc:Hp},aA (jF hp f l k acc) j=some o'->
  (∃i id o,l[i]? =some id/\j=k+i/\aA hp id=some o/\o'=kw f o)\/aA acc j=some o'
 | [],k,acc,h=> .inr h
 | x::r,k,acc,h=>by
  simp only [jF] at h
  cases hx:aA hp x with
  | none=>
   simp only [hx] at h;rcases JF h with ⟨i,id,o,h1,h2,h3,h4⟩ | h
   ·exact .inl ⟨i+1,id,o,by simpa using h1,by omega,h3,h4⟩
   ·grind
  | some o=>
   simp only [hx] at h;rcases JF h with ⟨i,id,o,h1,h2,h3,h4⟩ | h
   ·exact .inl ⟨i+1,id,o,by simpa using h1,by omega,h3,h4⟩
   ·rw [fa] at h;by_cases hc:k=j
    ·simp only [hc,xO,yb] at h;exact .inl ⟨0,x,o,by simp,by omega,hx,h.symm⟩
    ·grind
def JG {base:Nat} {j:Nat} {o':Obj}:∀{hp:Hp},aA (kY base f hp) j=some o'->j<base/\∃o,aA hp j=some o/\o'=kw f o
 | [],h=>by simp [kY,aA] at h
 | (i,q)::r,h=>by
  simp only [kY] at h
  cases hb:yK i base with
  | true=>
   rw [hb] at h;simp only [yz] at h;rw [fa] at h;by_cases hc:i=j
   ·simp only [hc,xO,yb] at h;exact ⟨by rw [<-hc];exact rK.1 hb,q,by rw [fa];simp [hc],h.symm⟩
   ·simp only [hc,xj] at h;obtain ⟨h1,o,h2,h3⟩:=JG h;exact ⟨h1,o,by rw [fa];simp [hc,h2],h3⟩
  | false=>
   rw [hb] at h;obtain ⟨h1,o,h2,h3⟩:=JG h;have hc:¬i=j:=fun e=>by
    have:=rK.2 h1
    grind
   exact ⟨h1,o,by rw [fa];simp [hc,h2],h3⟩
def nX (m:Mp) (base:Nat) (seen:List Nat):Mp:=fun j=>
 if j<base then m j else match seen[j-base]? with
  | some id=>if jE base seen id=some j then m id else none
  | none=>none
def OX {base:Nat} {seen:List Nat} {j:Nat} {p:Pl} (h:nX m base seen j=some p):∃id,jE base seen id=some j/\m id=some p/\(j<base->id=j):=by
 unfold nX at h
 split at h
 ·rename_i hj;exact ⟨j,by simp [jE,rK.2 hj],h,fun _=>rfl⟩
 ·grind
def aoY {base:Nat} {seen:List Nat}:Dj (jE base seen) m (nX m base seen):=by
 intro id j h;have h0:=h;unfold jE at h
 cases hb:yK id base with
 | true=>
  rw [hb] at h;simp only [yz,yb] at h;subst h;simp [nX,rK.1 hb]
 | false=>
  rw [hb] at h;obtain ⟨h1,h2⟩:=ZU h
  have:¬j<base:=by omega
  simp only [nX,this,xj,h2,h0,xO]
def OG {s:St} {tmps:Array yg} {live:List Nat} (ht:bS O m S w s.tm tmps) (hh:aP O m S w s.hp s.ct) (hb:s.base<=s.ct):
  ∃m',bS O m' S w (aQ live s).tm tmps/\aP O m' S w (aQ live s).hp (aQ live s).ct/\(aQ live s).base=s.base/\s.base<=(aQ live s).ct/\bY m S w s.hp m' S w (aQ live s).hp s.base:=by
 simp only [aQ];generalize af1:reach s.hp s.base 100000 (iK (dF s.tm live)++iF s.base s.hp) []=seen;have hr:=aoY (m:=m) (base:=s.base) (seen:=seen);have aG:∀j p,nX m s.base seen j=some p->j<s.base+seen.length:=by
  intro j p h;unfold nX at h
  grind
 have back:∀j o' p,aA (jF s.hp (jE s.base seen) seen s.base (kY s.base (jE s.base seen) s.hp)) j=some o'->nX m s.base seen j=some p->
   ∃id o,jE s.base seen id=some j/\aA s.hp id=some o/\m id=some p/\o'=kw (jE s.base seen) o:=by
  intro j o' p ho hm;obtain ⟨id,h1,h2,h3⟩:=OX hm;rcases JF ho with ⟨i,Xe,o,g1,g2,g3,g4⟩ | ho
  ·have hj:¬j<s.base:=by omega
   have:nX m s.base seen j=if jE s.base seen Xe=some j then m Xe else none:=by
    simp only [nX,hj,xj,show j-s.base=i by omega,g1]
   grind
  ·obtain ⟨g1,o,g2,g3⟩:=JG ho
   grind
 refine ⟨nX m s.base seen,?_,⟨?_,aG,?_,hh.slt,?_,?_,hh.jb,hh.fw,fun j o' ho=>(by
  rcases JF ho with ⟨i,Xe,o,g1,g2,g3,g4⟩ | ho
  ·grind
  ·have:=(JG ho).1;omega)⟩,by trivial,by omega,⟨rfl,rfl,rfl,yB _,fun _ _ _=>rfl,fun _ h=>h,fun _ _=>rfl,fun _ h=> .inl h,?_,?_,fun _ r h=>⟨r,h⟩⟩⟩
 ·refine aaF hr (fun i=>?_);rcases ZT s.tm i live with h | h
  ·rw [h];exact ht i
  ·rw [h];simp only [ah]
 ·intro j o' p ho hm;obtain ⟨id,o,h1,h2,h3,rfl⟩:=back j o' p ho hm;exact aoX hr h3 hm (hh.obj id o p h2 h3)
 ·intro i j oi oj pi pj hi hj bD fM e;obtain ⟨idi,o1,a1,a2,a3,_⟩:=back i oi pi hi bD;obtain ⟨idj,o2,b1,b2,b3,_⟩:=back j oj pj hj fM
  have:=hh.inj idi idj o1 o2 pi pj a2 b2 a3 b3 e
  grind
 ·intro j p hm;obtain ⟨id,_,h2,_⟩:=OX hm;exact hh.blt id p h2
 ·intro j p hm;obtain ⟨id,_,h2,_⟩:=OX hm;exact hh.low id p h2
 ·rintro b ⟨j,o',p,h1,h2,h3⟩;obtain ⟨id,o,_,g2,g3,_⟩:=back j o' p h1 h2;exact .inl ⟨id,o,p,g2,g3,h3⟩
 ·intro id p hid hm;simp [nX,hid,hm]
end
end
section
open Go
section
variable {O:a8} {m:Mp} {S:Nat->Prop} {w:yi} {hp:Hp} {ct:Nat}
def aaG (hh:aP O m S w hp ct) (id:Nat):aP O m S w (dX hp id) ct:=by
 have sub:∀i o,aA (dX hp id) i=some o->aA hp i=some o:=fun i o h=>by
  rw [FW] at h
  grind
 exact ⟨fun i o p h hm=>hh.obj i o p (sub i o h) hm,hh.lt,fun i j oi oj pi pj hi hj=>hh.inj i j oi oj pi pj (sub i oi hi) (sub j oj hj),hh.slt,hh.blt,hh.low,hh.jb,hh.fw,fun i o h=>hh.aG i o (sub i o h)⟩
def abI {id b:Nat} (h:dJ m (dX hp id) b):dJ m hp b:=by
 obtain ⟨i,o,p,h1,h2,h3⟩:=h;rw [FW] at h1;by_cases hc:id=i
 ·grind
 ·simp only [hc,xj] at h1;exact ⟨i,o,p,h1,h2,h3⟩
def YL (hh:aP O m S w hp ct) {id:Nat} {o:Obj} {p:Pl} (hg:aA hp id=some o) (hm:m id=some p):¬dJ m (dX hp id) p.b:=by
 rintro ⟨i,o',q,h1,h2,h3⟩;rw [FW] at h1;by_cases hc:id=i
 ·grind
 ·simp only [hc,xj] at h1;exact hc (hh.inj i id o' o q p h1 hg h2 hm h3).symm
def aq3 {ap:Hp} (hd:jj hp ap) {b:Nat} (h:dJ m ap b):dJ m hp b:=by
 obtain ⟨i,o,p,h1,h2,h3⟩:=h
 have:=hd i
 rw [h1] at this
 cases hq:aA hp i with
 | none=>rw [hq] at this;cases this
 | some q=>exact ⟨i,q,p,hq,h2,h3⟩
def Za {lo:Nat} {v v':AV} {ap:Hp} {n:Nat} (hh:aP O m S w hp ct) (hf:freeze n hp v=some (v',ap)) {u:yg} (hv:ah O.af m S w v u):
  ∃S',aP O m S' w ap ct/\(∀b,S b->S' b)/\(∀b,S' b->S b\/dJ m hp b)/\bh v'=true/\ah O.af eB S' w v' u/\gE O.af S' w lo v' u []:=by
 obtain ⟨h1,h2,h3⟩:=OT (O:=O) hf;obtain ⟨S',g1,g2,g3⟩:=aby hh h1 (fun id o p ho hm=>by
  have:=h2 id
  rw [ho] at this
  cases hq:aA hp id with
  | none=>rw [hq] at this;cases this
  | some q=>exact ⟨q,rfl⟩) (yB _) (fun id o ho=>(by
  have:=h2 id
  rw [ho] at this
  cases hq:aA hp id with
  | none=>rw [hq] at this;cases this
  | some q=>exact hh.aG id q hq))
 obtain ⟨k1,k2⟩:=h3 ap m S' w ct cI.refl g1;have hr:=k1 u (jW (fun _ _ h=>h) g2 (fun _ _=>rfl) v u hv);have bW:ah O.af eB S' w v' u:=oT (fun _ h=>h) (fun _ _=>rfl) v' u k2 hr;refine ⟨S',g1,g2,g3,k2,bW,?_⟩
 cases v' with
 | bE _ _ _ _=>simp [bh] at k2
 | _=>exact ⟨rfl,bW,k2⟩
def anc {S':Nat->Prop} {lo:Nat} {v:AV} {u:yg} {bs:List Nat} (hS:∀b,S b->S' b) (hn:∀b,b∈bs->¬S' b) (h:gE O.af S w lo v u bs):gE O.af S' w lo v u bs:=by
 cases v with
 | bE ex sz n cs=>
  obtain ⟨b,o,c,arr,t,rfl,rfl,g1,g2,g3,g4,g5,g6,g7,g8,g9⟩:=h;exact ⟨b,o,c,arr,t,rfl,rfl,g1,g2,g3,hn b (by simp),g5,g6,g7,AX hS (fun _ _=>rfl) cs b o g9 rfl g8,g9⟩
 | _=>simp only [gE] at h ⊢;exact ⟨h.1,oT hS (fun _ _=>rfl) _ _ h.2.2 h.2.1,h.2.2⟩
def ZV {lo:Nat} {v v':AV} {ap:Hp} {n:Nat} (hh:aP O m S w hp ct) (hf:Bb n hp v=some (v',ap)) {u:yg} (hv:ah O.af m S w v u) (a6:∀b,dJ m hp b->lo<=b):
  ∃S' bs,aP O m S' w ap ct/\(∀b,S b->S' b)/\(∀b,S' b->S b\/dJ m hp b)/\gE O.af S' w lo v' u bs/\bs.Nodup/\(∀b,b∈bs->dJ m hp b/\¬dJ m ap b)/\(∀b,dJ m ap b->dJ m hp b):=by
 have frozen:freeze n hp v=some (v',ap)->∃S' bs,aP O m S' w ap ct/\(∀b,S b->S' b)/\(∀b,S' b->S b\/dJ m hp b)/\gE O.af S' w lo v' u bs/\bs.Nodup/\(∀b,b∈bs->dJ m hp b/\¬dJ m ap b)/\(∀b,dJ m ap b->dJ m hp b):=by
  intro hz;obtain ⟨S',g1,g2,g3,g4,g5,g6⟩:=Za (lo:=lo) hh hz hv
  exact ⟨S',[],g1,g2,g3,g6,by simp,by simp,fun b hb=>aq3 (OT (O:=O) hz).2.1 hb⟩
 unfold Bb at hf
 split at hf
 ·rename_i id o k
  split at hf
  ·rename_i ex sz cs hg
   cases hc:yy (o+k*sz) cs.length with
   | false=>rw [hc] at hf;cases hf
   | true=>
    rw [hc] at hf;obtain ⟨rfl,rfl⟩:=hf;have hle:=yp hc;obtain ⟨p,c,hm,rfl,h1,h2⟩:=hv;obtain ⟨p',arr,t,g1,g2,g3,g4,g5,g6,g7,g8,g9,g10⟩:=hh.obj id _ _ hg hm;rw [hm] at g1;injection g1 with g1
    subst g1;rw [g3] at h2;refine ⟨S,[p.b],aaG hh id,fun _ h=>h,fun _ h=> .inl h,?_,by simp,?_,fun b hb=>abI hb⟩
    ·refine ⟨p.b,p.o+o,c,arr,t,rfl,rfl,h1,?_,a6 _ (Gt hg hm),g9 rfl,g2,?_,by omega,?_,zc _ (rC _ _ (g8 rfl))⟩
     ·intro hx;simp only [yf] at hx;have e1:=yj hx.2;have e2:=rK.1 hx.1.2;have e3:=g6 hx.1.1
      have:c*sz=k*sz:=by omega
      exact tU e2 this
     ·simp only [slice,yW,xK];omega
     ·exact AX (fun _ h=>h) (fun _ _=>rfl) _ _ _ (zc _ (rC _ _ (g8 rfl))) rfl (zf _ _ _ _ (oQ _ _ _ _ g7))
    ·intro b hb;simp only [List.mem_singleton] at hb;subst hb;exact ⟨Gt hg hm,YL hh hg hm⟩
  ·grind
 ·grind
def Zb {lo n:Nat}:∀{vs dI:List AV} {us:List yg} {hp ap:Hp} {S:Nat->Prop},aP O m S w hp ct->CS n hp vs=some (dI,ap)->au O.af m S w vs us->(∀b,dJ m hp b->lo<=b)->
  ∃S' bs,(∀b,S b->S' b)/\(∀b,S' b->S b\/dJ m hp b)/\jL O.af S' w lo dI us bs/\bs.Nodup/\(∀b,b∈bs->dJ m hp b)/\(∀b,S' b->b<w.heap.size)
 | [],dI,us,hp,ap,S,hh,hf,hv,a6=>by
  obtain ⟨rfl,rfl⟩:=hf;exact ⟨S,[],fun _ h=>h,fun _ h=> .inl h,by simp only [jL];exact ⟨hv,by trivial⟩,by simp,by simp,hh.slt⟩
 | v::r,dI,us,hp,ap,S,hh,hf,hv,a6=>by
  simp only [CS] at hf
  cases h1:Bb n hp v with
  | none=>simp [h1] at hf
  | some q=>
   obtain ⟨v1,bj⟩:=q;simp only [h1] at hf
   cases h2:CS n bj r with
   | none=>simp [h2] at hf
   | some q2=>
    simp only [h2,yb,yk] at hf;obtain ⟨rfl,rfl⟩:=hf;obtain ⟨u,t,rfl,eC,cC⟩:=hv;obtain ⟨S1,b1,k1,k2,k3,k4,k5,k6,k7⟩:=ZV (lo:=lo) hh h1 eC a6;obtain ⟨S2,b2,g1,g2,g3,g4,g5,g6⟩:=Zb (us:=t) k1 h2 (fV (fun _ _ h=>h) k2 (fun _ _=>rfl) _ _ cC) (fun b hb=>a6 b (k7 b hb));have Q6:∀b,b∈b1->¬S2 b:=by
     intro b hb hs;rcases g2 b hs with h | h
     ·cases v1 with
      | bE ex sz n cs=>
       simp only [gE] at k4
       grind
      | _=>simp only [gE] at k4;rw [k4.1] at hb;cases hb
     ·grind
    refine ⟨S2,b1++b2,fun b hb=>g1 b (k2 b hb),fun b hb=>?_,?_,?_,?_,g6⟩
    ·grind
    ·simp only [jL];exact ⟨u,t,b1,b2,rfl,rfl,anc g1 Q6 k4,g3⟩
    ·grind
    ·grind
def OY {lo:Nat}:∀{cs:List AV} {us:List yg},aI cs=true->au O.af eB S w cs us->jL O.af S w lo cs us []
 | [],us,_,h=>by simp only [au] at h;exact ⟨h,by trivial⟩
 | c::r,us,hp,h=>by
  obtain ⟨u,t,rfl,h1,h2⟩:=h;simp only [aI,yf] at hp;refine ⟨u,t,[],[],rfl,rfl,?_,OY hp.2 h2⟩
  cases c with
  | bE _ _ _ _=>simp [bh] at hp
  | _=>exact ⟨rfl,h1,hp.1⟩
def ane {lo:Nat} {v r:AV} {u:yg} (hh:aP O m S w hp ct) (hr:result hp v=some r) (hv:ah O.af m S w v u) (a6:∀b,dJ m hp b->lo<=b):
  ∃S',(∀b,S b->S' b)/\(∀b,S' b->S b\/dJ m hp b)/\(∀b,S' b->b<w.heap.size)/\lV O.af S' w lo r u:=by
 unfold result at hr
 split at hr
 ·rename_i vs
  split at hr
  ·cases h1:CS deep hp vs with
   | none=>simp [h1] at hr
   | some q=>
    simp only [h1,yb] at hr;subst hr;obtain ⟨us,rfl,hv⟩:=hv;obtain ⟨S',bs,g1,g2,g3,g4,g5,g6⟩:=Zb (lo:=lo) hh h1 hv a6;exact ⟨S',g1,g2,g6,us,bs,rfl,g3,g4⟩
  ·cases h1:freeze deep hp (.aa vs) with
   | none=>simp [h1] at hr
   | some q=>
    obtain ⟨v',ap⟩:=q;simp only [h1,yb] at hr;subst hr;obtain ⟨S',g1,g2,g3,g4,g5,g6⟩:=Za (lo:=lo) hh h1 hv;refine ⟨S',g2,g3,g1.slt,?_⟩
    cases v' with
    | aa cs=>
     obtain ⟨xs,rfl,g5⟩:=g5;exact ⟨xs,[],rfl,OY (by simpa [bh] using g4) g5,by simp⟩
    | _=>exact ⟨[],g6⟩
 ·rename_i NB
  cases h1:Bb deep hp v with
  | none=>simp [h1] at hr
  | some q=>
   obtain ⟨v',ap⟩:=q;simp only [h1,yb] at hr;subst hr;obtain ⟨S',bs,g1,g2,g3,g4,_⟩:=ZV (lo:=lo) hh h1 hv a6;refine ⟨S',g2,g3,g1.slt,?_⟩
   cases v' with
   | aa cs=>
    obtain ⟨rfl,h2,h3⟩:=g4;obtain ⟨xs,rfl,h2⟩:=h2;exact ⟨xs,[],rfl,OY (by simpa [bh] using h3) h2,by simp⟩
   | _=>exact ⟨bs,g4⟩
end
end
section
open Go
def WF (ro:Option Nat):Fence:={Fence.wide with round:=ro}
section
variable {O:a8}
def aeK (O:a8) (hp:Hp) (ct:Nat) (l:Nat) (xs:List AV) (v:AV) (ap:Hp) (aX:Nat):Prop:=
 ∀(m:Mp) (S:Nat->Prop) (w:yi) (args:Array yg) (p:Pl),aP O m S w hp ct->m l=some p->au O.af m S w xs args.toList->
  ∃f tmps assign body,(Instr.yield p.b args).run O.P w= .ok (.round p.b f tmps assign body) w/\yaS Fence.wide 0 O.P p.b f tmps assign body w (rE O m S w hp ct v ap aX)
structure mv (O:a8) (run:cm):Prop where
 pure:∀n ao r,bG O.prog O.az run n ao=some r->dN O n ao r
 heap:∀hp ct n ao v ap aX,gY O.prog O.az run hp ct n ao=some (v,ap,aX)->zO O n hp ct ao v ap aX
 round:∀hp ct l xs v ap aX,mu run hp ct l xs=some (v,ap,aX)->aeK O hp ct l xs v ap aX
end
section
variable {P:y8} {o:y7} {a:Act} {w:yi} {ro:Option Nat} {next:Act->yi->Prop} {Q:vO->Act->yi->Prop}
def JH {c:tC} {f:xq} (ho:o.op= .call c) (hc:c.callee= .value f) {g:tq} {fi ca:Array yg} (hf:a.eval f= .func (.func g) fi ca) {R:yar->yi->Prop}
  (h:zx P g (fi++c.args.map a.eval++ca) w R) (hn:∀e w',R e w'->∃u,e= .returned u/\next (a.put o.dst u) w'):o.wpIn (WF ro) 0 P a w next Q:=by
 have eW:(o.semAt ro a.eval).run P w=(callFunc g (fi++c.args.map a.eval++ca)).run P w:=by
  rw [Oper.semAt_eq _ _ _ (fun c' h'=>by rw [ho] at h';cases h')];simp only [execOp,ho,resolve,hc,Deferred.ofValue,hf,Sem.run_bind,Sem.run_pure,Result.andThen_ok,invoke]
 refine ⟨fun _ _=>trivial,?_⟩;show o.uponIn (WF ro) 0 P a next Q ((o.semAt ro a.eval).run P w)
 rw [eW];rcases h with ⟨h1,h2⟩ | ⟨u,w',h1,h2⟩
 ·rw [h1,Oper.uponIn_enter];refine ⟨fun h=>by simp [WF,Fence.wide] at h,?_⟩;have h3:CallsIn (WF ro) 0 P g (fi++c.args.map a.eval++ca) w R:=h2;refine CallsIn.mono h3 (fun e w' he=>?_);obtain ⟨u,rfl,hq⟩:=hn e w' he;exact hq
 ·rw [h1];obtain ⟨u',e,hq⟩:=hn _ _ h2;injection e with e
  subst e;exact hq
def aoZ {c:tC} {f:xq} (ho:o.op= .call c) (hc:c.callee= .value f) {l:Nat} (hf:a.eval f= .func (.yield l) #[] #[]) {R:yar->yi->Prop} {g:tq} {tmps:Array yg} {assign body:wF}
  (hy:(Instr.yield l (c.args.map a.eval)).run P w= .ok (.round l g tmps assign body) w) (h:yaS Fence.wide 0 P l g tmps assign body w R) (hn:∀e w',R e w'->∃u,e= .returned u/\next (a.put o.dst u) w'):o.wpIn (WF ro) 0 P a w next Q:=by
 have eW:(o.semAt ro a.eval).run P w= .ok (.round l g tmps assign body) w:=by
  rw [Oper.semAt_eq _ _ _ (fun c' h'=>by rw [ho] at h';cases h')];simp only [execOp,ho,resolve,hc,Deferred.ofValue,hf,Sem.run_bind,Sem.run_pure,Result.andThen_ok,invoke,Array.empty_append];exact hy
 refine ⟨fun _ _=>trivial,?_⟩;show o.uponIn (WF ro) 0 P a next Q ((o.semAt ro a.eval).run P w)
 rw [eW,Oper.uponIn_round];refine ⟨fun h=>by simp [WF,Fence.wide] at h,?_⟩;have h3:yaS (WF ro) 0 P l g tmps assign body w R:=h;refine RoundIn.mono h3 (fun e w' he=>?_);obtain ⟨u,rfl,hq⟩:=hn e w' he;exact hq
def Gu {n:yaf} {u:yg} {w':yi} (hd:∀c,o.op≠.defer c) (h:(execOp a.eval o).run P w= .ok n w') (hn:n= .value u\/(n= .skip/\u=undef)) (hq:next (a.put o.dst u) w'):o.wpIn (WF ro) 0 P a w next Q:=by
 refine ⟨fun _ _=>trivial,?_⟩;show o.uponIn (WF ro) 0 P a next Q ((o.semAt ro a.eval).run P w)
 rw [Oper.semAt_eq _ _ _ hd,h];rcases hn with rfl | ⟨rfl,rfl⟩
 ·exact hq
 ·exact hq
end
def nY (P:y8) (H:Hint) (q:Op) (o:y7):Prop:=
 (∃k,q=aR P H k o)\/(∃c f rs,o.op= .call c/\c.callee= .value f/\q= .gZ rs (aM H f) (gg H c.args.toList))\/
  (∃t x y sz rs,o.op= .store t x y/\cg P t=some sz/\q= .jw rs sz (aM H x) (aM H y))\/
  (∃k rs sz b x y,Op.aT sz b x y=aR P H k o/\q= .jO rs sz b x y)\/∃k sz b x y,Op.aT sz b x y=aR P H k o/\q= .ow sz b x y
def ia:Op->Op
 | .gZ _ f xs=> .gZ [] f xs
 | .jw _ s x v=> .st s x v
 | .jO _ s b x v=> .aT s b x v
 | o=>o
section
variable {O:a8} {H:Hint} {m:Mp} {S:Nat->Prop} {w:yi} {tm:Env} {a:Act} {hp:Hp} {ct:Nat} {self:cm} {ro:Option Nat} {next:Act->yi->Prop} {Q:vO->Act->yi->Prop}
def Kv {o:y7} {k:Nat} {md:Md} {x:X} {xs:List X} (h:aR O.P H k o= .call md x xs) (hb:x≠.c .undef):∃c f,o.op= .call c/\c.callee= .value f/\x=aM H f/\xs=gg H c.args.toList:=by
 have nb:bad= .call md x xs->False:=fun h=>by simp only [bad,Op.call.injEq] at h;exact hb h.2.1.symm
 cases ho:o.op with
 | call c=>
  obtain ⟨callee,args,ts⟩:=c;simp only [aR,ho] at h
  split at h
  ·rename_i f;cases hm:H.mode k<;>simp only [hm,Op.call.injEq,reduceCtorEq] at h
   all_goals exact ⟨_,f,rfl,rfl,h.2.1.symm,h.2.2.symm⟩
  ·repeat' split at h
   all_goals first
    | exact (nb h).elim
    | (cases h;done)
    | (revert h;generalize yq _ _=bb;intro h;cases bb<;>first | exact (nb h).elim | (cases h;done))
  ·exact (nb h).elim
 | binOp op t x' y ty=>
  cases op<;>simp only [aR,ho,my,nI] at h
  case eql=>
        repeat' split at h
        all_goals first
         | exact (nb h).elim
         | (cases h;done)
         | (cases bC:(O.P.stoodInHeld t||O.P.eqGuardType O.P.depth t)<;>rw [bC] at h<;>first | exact (nb h).elim | (cases h;done))
  case neq=>
        repeat' split at h
        all_goals first
         | exact (nb h).elim
         | (cases h;done)
         | (cases bC:(O.P.stoodInHeld t||O.P.eqGuardType O.P.depth t)<;>rw [bC] at h<;>first | exact (nb h).elim | (cases h;done))
  all_goals cases h
 | buildSlice t n parts=>
  simp only [aR,ho] at h
  repeat' split at h
  all_goals first
   | exact (nb h).elim
   | (cases h;done)
   | (revert h;generalize yy _ _=bb;intro h;cases bb<;>first | exact (nb h).elim | (simp only [yz] at h;cases h;done))
 | makeMap t r=>
  cases r<;>simp only [aR,ho] at h
  ·repeat' split at h
   all_goals first
    | exact (nb h).elim
    | (cases h;done)
  ·exact (nb h).elim
 | next x' b=>
  cases b<;>simp only [aR,ho] at h
  ·exact (nb h).elim
  ·cases h
 | _=>
  simp only [aR,ho] at h
  (repeat' split at h)
  all_goals first
   | contradiction
   | exact (nb h).elim
   | (cases h;done)
def amc {o:y7} {k:Nat} {r:AV×Hp×Nat} (hv:a7 O.prog O.az self tm hp ct (aR O.P H k o)=some r):∀c,o.op≠.defer c:=by
 intro c ho;simp [aR,ho,bad,a7,ep,ay] at hv
end
end
section
open Go
section
variable {O:a8} {H:Hint} {m:Mp} {S:Nat->Prop} {w:yi} {tm:Env} {a:Act} {hp:Hp} {ct cq:Nat}
def gC (tm:Env) (hp:Hp) (ct:Nat):Op->Option (AV×Obj)
 | .aT sz b x y=>qh hp ct sz b (ay tm x) (iI hp sz (ay tm y))
 | _=>none
def P5 (O:a8) (m:Mp) (S:Nat->Prop) (w:yi) (a:Act) (ct:Nat) (o:y7) (v:AV) (b:Obj):Prop:=
 ∃u g p,(execOp a.eval o).run O.P w= .ok (.value u) (w.drew.alloc g)/\p.b=w.heap.size/\¬gL b/\
  ∀m',cO m m'->m' ct=some p->eJ O m' S (w.drew.alloc g) ct b/\ah O.af m' S (w.drew.alloc g) v u
def ao0 {e:yx} {z:yg} {sz need cap:Nat} {cs:List AV} {us:List yg} (hh:aP O m S w hp cq) (hr:au O.af m S w cs us) (hl:us.length=need*sz) (hz:z.cells.size=sz)
  (By:Bool) (Xd:By=true->aI cs=true) (hc:need<=cap):
  let w':=w.drew.alloc (.cells (us.toArray++Builtin.zeroCells z.cells (cap-need)) e)
  let p:Pl:=⟨w.heap.size,0,cap*sz,sz⟩
  ∀m',cO m m'->m' ct=some p->eJ O m' S w' ct (.cells true By false sz cs):=by
 intro w' p m' hm hi;have aU:fb S w w':=fun b hb=>by
  have:=hh.slt b hb
  exact RowKit.Below.heap_alloc w.drew _ b (by simpa using this)
 have ig:w'.heap[w.heap.size]? =some (.cells (us.toArray++Builtin.zeroCells z.cells (cap-need)) e (0,0)):=heap_alloc_new w.drew _;have gR:=fX _ _ hr;refine ⟨p,_,e,hi,ig,rfl,?_,?_,by simp,?_,Xd,?_,by simp⟩
 ·show cs.length<=cap*sz
  rw [<-gR,hl];exact yU _ hc
 ·show 0+cap*sz<=_
  rw [Array.size_append,uM,size_zeroCells,hz,hl,<-xS];rw [yh];exact yU _ (by omega)
 ·refine JR ig cs us 0 (fV hm (fun _ h=>h) aU _ _ hr) (fun j u hj=>?_);rw [yh,tQ (by rw [uM];exact (wc.1 hj).1),List.getElem?_toArray]
  exact hj
 ·intro _ hS
  have:=hh.slt _ hS
  simp [p] at this
def lP {a b:Nat} (h:yK a b=true):a<b:=yp h
def ao1 {o:y7} {b':yx} {t u e:yx} {sz bV:Nat} {z:AV} {x y:xq} {v:AV} {dj:Obj} (hH:eQ O H) (ht:bS O m S w tm a.tmps) (hh:aP O m S w hp cq)
  (eW:(execOp a.eval o).run O.P w=((do pure (.value (<-Builtin.append_ #[t,u] b' #[a.eval x,a.eval y])):Sem yaf)).run O.P w)
  (qX:O.P.underlying t=some (.slice e)) (hu:(∃e',O.P.underlying u=some (.slice e'))\/O.P.underlying u=some .string) (hs:cg O.P e=some sz) (hb:qQ O.P e=some bV) (hz:j9 O.P e=some z) (pI:(cellsOf z).length=sz)
  (hv:gC tm hp ct (.aT sz bV (aM H x) (aM H y))=some (v,dj)):P5 O m S w a ct o v dj:=by
 simp only [gC] at hv;obtain ⟨ti,zv,pJ,rfl,rfl,IL,rfl⟩:=abB hs hb hz;have aH:∀u' w',(Builtin.append_ #[t,u] b' #[a.eval x,a.eval y]).run O.P w= .ok u' w'->(execOp a.eval o).run O.P w= .ok (.value u') w':=fun u' w' h=>by
  rw [eW,Sem.run_bind,h];rfl
 have Cd:zv.cells.size=ti.size:=by
  have:=fX _ _ (AT (af:=O.af) (m:=m) (S:=S) (w:=w) zv)
  rw [<-pI,<-this];simp
 cases px:iI hp ti.size (ay tm (aM H y)) with
 | none=>simp [px,qh] at hv
 | some q=>
  obtain ⟨n,new⟩:=q;rw [px] at hv;obtain ⟨news,jz,cU⟩:=ZP hh (b9 hH ht y) px;have IM:=fX _ _ jz;have rx:=b9 hH ht x;cases hx:ay tm (aM H x)<;>rw [hx] at hv rx<;>simp only [qh,reduceCtorEq] at hv
  rename_i id o0 k;simp only [ah] at rx;obtain ⟨p,c,hm,ex,h1,h2⟩:=rx
  split at hv
  case h_2=>cases hv
  rename_i eM pu zz cs hg
  cases hc:(yq zz ti.size&&(yK 0 n&&(yy (k+n) room&&(yy ((k+n)*ti.bytes) room&&(yq (o0+k*ti.size) cs.length&&yK 0 ti.size))))) with
  | false=>rw [hc] at hv;cases hv
  | true=>
   rw [hc] at hv;simp only [yz,yb,yk] at hv;obtain ⟨rfl,rfl⟩:=hv;simp only [yf] at hc;have c0:=yj hc.1;have c5:=lP hc.2.1;have c1:=yp hc.2.2.1;have c2:=yp hc.2.2.2.1;have c3:=yj hc.2.2.2.2.1;have c4:=lP hc.2.2.2.2.2;simp only [room] at c1 c2;obtain ⟨p',arr,t',g1,g2,g3,g4,g5,g6,g7,g8,g9,g10⟩:=hh.obj id _ _ hg hm;rw [hm] at g1;injection g1 with g1
   subst g1;subst c0;rw [g3] at h2;have hce:=g6 rfl;have mc:c=k:=by
    have:c*ti.size=k*ti.size:=by omega
    exact tU c4 this
   subst mc;have Ei:bK O.af m S w (slice o0 (c*ti.size) cs) p.b (p.o+o0):=zf _ _ _ _ (oQ _ _ _ _ g7);obtain ⟨kB,f1,f2,f3⟩:=pU _ _ _ Ei;have Lu:(slice o0 (c*ti.size) cs).length=c*ti.size:=by simp only [slice,yW,xK];omega
   have lZ:(pu&&aI new)=true->aI (slice o0 (c*ti.size) cs++new)=true:=fun h=>by
    simp only [yf] at h;exact AU (zc _ (rC _ _ (g8 h.1))) h.2
   have IN:Src O.P w ti.size c kB (.slice (some ⟨p.b,p.o+o0,none⟩) c c):=CM (by omega) (fun j u hj=>by rw [mz];exact f3 j u hj)
   have hr:=Jx (P:=O.P) (ty:=b') (w:=w) qX hu pJ IL rfl IN cU (by omega) c1 c2;have iv:=grownCap_ge w (c+n) c e;have ig:=ao0 (ct:=ct) (e:=e) (z:=zv) (cap:=grownCap w (c+n) c e) hh (jU f1 jz) (need:=c+n) (sz:=ti.size) (by rw [y5,f2,Lu,cU.2.1,xS]) Cd (pu&&aI new) lZ iv;exact ⟨_,_,⟨w.heap.size,0,grownCap w (c+n) c e*ti.size,ti.size⟩,aH _ _ (by rw [ex];exact hr),rfl,by simp [gL],fun m' hle hi=>⟨ig m' hle hi,by simp only [ah];exact ⟨_,_,hi,rfl,iv,by simp⟩⟩⟩
def amd {Hq:Hp} (hl:cI hp Hq) {sz:Nat} {v:AV} {q:Nat×List AV} (h:kS hp sz v=some q):kS Hq sz v=some q:=by
 cases v<;>simp only [kS,reduceCtorEq] at h ⊢
 ·exact h
 ·exact h
 ·rename_i id o n
  cases hg:aA hp id with
  | none=>simp [hg] at h
  | some ob=>
   cases ob<;>simp only [hg,reduceCtorEq] at h
   obtain ⟨o',h1,r,rfl,_⟩:=hl id _ hg;simp only [h1];exact h
def anf {Hq:Hp} (hl:cI hp Hq) {sz:Nat} {v:AV} {q:Nat×List AV} (h:iI hp sz v=some q):iI Hq sz v=some q:=by
 by_cases hs:∃b,v= .str b
 ·obtain ⟨b,rfl⟩:=hs;exact h
 ·have e:∀hp:Hp,iI hp sz v=kS hp sz v:=fun hp=>by
   cases v<;>first
    | rfl
    | exact absurd ⟨_,rfl⟩ hs
  rw [e] at h ⊢;exact amd hl h
def ao2 {Hq:Hp} (hl:cI hp Hq) {sz b:Nat} {x y v:AV} {dj:Obj} (h:qh hp ct sz b x (iI hp sz y)=some (v,dj)):qh Hq ct sz b x (iI Hq sz y)=some (v,dj):=by
 cases hs:iI hp sz y with
 | none=>rw [hs] at h;simp [qh] at h
 | some q=>
  rw [anf hl hs];rw [hs] at h;obtain ⟨n,new⟩:=q;cases x<;>simp only [qh,reduceCtorEq] at h ⊢
  rename_i id o k
  cases hg:aA hp id with
  | none=>simp [hg] at h
  | some ob=>
   cases ob with
   | cells eM pu ex z cs=>
    cases ex with
    | false=>simp [hg] at h
    | true=>
     obtain ⟨o',h1,r,rfl,_⟩:=hl id _ hg;simp only [hg] at h;simp only [h1];exact h
   | _=>simp [hg] at h
def ati {o:y7} {k:Nat} {v:AV} {dj:Obj} (hH:eQ O H) (ht:bS O m S w tm a.tmps) (hh:aP O m S w hp cq)
  (hv:gC tm hp ct (aR O.P H k o)=some (v,dj)):P5 O m S w a ct o v dj:=by
 have gD:∀{r:AV×Obj},gC tm hp ct bad=some r->False:=fun h=>by simp [bad,gC] at h
 cases ho:o.op with
 | call c=>
  obtain ⟨callee,args,ts⟩:=c;simp only [aR,ho] at hv
  split at hv
  ·cases Ca:H.mode k<;>simp [Ca,gC] at hv
  ·rename_i _ b
   split at hv
   ·rename_i x y t u fy lD;obtain ⟨al⟩:=args;obtain ⟨tl⟩:=ts;simp only at fy lD;subst fy;subst lD;obtain ⟨cs,eW⟩:=CE (O:=O) (w:=w) (a:=a) ho;have Hb:(execOp a.eval o).run O.P w=((do pure (.value (<-Builtin.append_ #[t,u] o.type #[a.eval x,a.eval y])):Sem yaf)).run O.P w:=by
     rw [eW];simp [builtin]
    have key:∀{z:AV} {sz bV:Nat} {e:yx},O.P.underlying t=some (.slice e)->((∃e',O.P.underlying u=some (.slice e'))\/O.P.underlying u=some .string)->cg O.P e=some sz->qQ O.P e=some bV->j9 O.P e=some z->
      gC tm hp ct (bif yq (cellsOf z).length sz then .aT sz bV (aM H x) (aM H y) else bad)=some (v,dj)->P5 O m S w a ct o v dj:=by
     intro z sz bV e h1 h2 h3 h4 h5 h
     cases hb:yq (cellsOf z).length sz with
     | false=>rw [hb] at h;exact (gD h).elim
     | true=>
      rw [hb] at h;exact ao1 hH ht hh Hb h1 h2 h3 h4 h5 (yj hb) h
    split at hv
    ·rename_i e e' h1 h2
     split at hv
     ·rename_i sz bV z h3 h4 h5
      exact key h1 (.inl ⟨_,h2⟩) h3 h4 h5 hv
     ·exact (gD hv).elim
    ·rename_i e h1 h2
     split at hv
     ·rename_i sz bV z h3 h4 h5
      exact key h1 (.inr h2) h3 h4 h5 hv
     ·exact (gD hv).elim
    ·exact (gD hv).elim
   ·repeat' split at hv
    all_goals simp [gC,bad] at hv
   ·repeat' split at hv
    all_goals simp [gC,bad] at hv
   ·simp [gC] at hv
   ·simp [gC] at hv
   ·exact (gD hv).elim
  ·exact (gD hv).elim
 | next x b=>
  cases b<;>simp [aR,ho,gC,bad] at hv
 | binOp op t x y ty=>
  cases op<;>simp only [aR,ho,my,nI] at hv
  case eql=>
        repeat' split at hv
        all_goals first
         | (simp [gC,bad] at hv;done)
         | (cases hb:(O.P.stoodInHeld t||O.P.eqGuardType O.P.depth t)<;>rw [hb] at hv<;>simp [gC,bad] at hv)
  case neq=>
        repeat' split at hv
        all_goals first
         | (simp [gC,bad] at hv;done)
         | (cases hb:(O.P.stoodInHeld t||O.P.eqGuardType O.P.depth t)<;>rw [hb] at hv<;>simp [gC,bad] at hv)
  all_goals simp [gC] at hv
 | buildSlice t n parts=>
  simp only [aR,ho] at hv
  repeat' split at hv
  all_goals first
   | (simp [gC,bad] at hv;done)
   | (
     revert hv;generalize yy _ _=bb;intro hv;cases bb<;>simp [gC,bad] at hv
     try (split at hv<;>simp [gC,bad] at hv))
 | makeMap t r=>
  cases r<;>simp only [aR,ho] at hv
  ·repeat' split at hv
   all_goals simp [gC,bad] at hv
  ·exact (gD hv).elim
 | _=>
  simp only [aR,ho] at hv
  (repeat' split at hv)
  all_goals first
   | contradiction
   | (simp [gC,bad] at hv;done)
end
end
section
open Go
section
variable {O:a8} {H:Hint} {m:Mp} {S:Nat->Prop} {w:yi} {tm:Env} {a:Act} {hp ap Hq:Hp} {ct aX cH:Nat} {self:cm} {ro:Option Nat} {next:Act->yi->Prop} {Q:vO->Act->yi->Prop}
def ZW {g:tK} {p:Pl} {S':Nat->Prop} {base:Nat} (hh:aP O m S w Hq cH) (hi:m ct=none) (hb:p.b=w.heap.size) (h1:∀b,S b->S' b) (h2:∀b,S' b->S b\/b=w.heap.size):
  bY m S w Hq (eX m ct p) S' (w.alloc g) Hq base where
 os:=rfl
 tape:=rfl
 output:=rfl
 size:=by simp
 same b hb _:=alloc_old hb
 sub:=h1
 still b hb:=alloc_old (hh.slt b hb)
 new b hb:=(h2 b hb).imp (fun h=>h) (fun h=> .inr (by omega))
 own b hb:=by
  obtain ⟨i,o,q,g1,g2,g3⟩:=hb;by_cases hc:i=ct
  ·subst hc;rw [du] at g2
   grind
  ·rw [dL hc] at g2;exact .inl ⟨i,o,q,g1,g2,g3⟩
 old i q _ h:=iG hi i q h
 loops b r hb:=⟨r,(alloc_old (xo.1 hb).1).trans hb⟩
def YM {KY ao:List AV} {us:List yg} {bj:Hp} (hz:cA deep hp KY=some (ao,bj)) (hl:cI bj Hq) (hh:aP O m S w Hq cH) (hr:au O.af m S w KY us):au O.af eB S w ao us/\aI ao=true:=by
 obtain ⟨_,_,h3⟩:=OD (O:=O) hz;obtain ⟨k1,k2⟩:=h3 Hq m S w cH hl hh;exact ⟨rD (fun _ h=>h) (fun _ _=>rfl) _ _ k2 (k1 us hr),k2⟩
def PH (hh:aP O m S w Hq cH):zN O w:=⟨hh.jb,hh.fw⟩
def Ka (hH:eQ O H) (ht:bS O m S w tm a.tmps) {f:xq} {g:Nat} {first cap:List AV} {args:Array xq} (hf:ay tm (aM H f)= .fn (.f g) first cap):
  ∃fi ca:Array yg,a.eval f= .func (.func (O.af g)) fi ca/\au O.af m S w (first++(cW tm (gg H args.toList)++cap)) (fi++args.map a.eval++ca).toList:=by
 have rf:=b9 hH ht f;rw [hf] at rf;obtain ⟨fi,ca,h1,h2,h3⟩:=rf;refine ⟨fi,ca,h1,?_⟩
 have:=jU h2 (jU (Be hH ht args.toList) h3)
 simp_all
def ame (hC:mv O self) (hH:eQ O H) {o:y7} {c:tC} {f:xq} (ho:o.op= .call c) (gV:c.callee= .value f) {g:Nat} {first cap ao:List AV} {bj:Hp} {r:AV}
  (hf:ay tm (aM H f)= .fn (.f g) first cap) (hz:cA deep hp (first++(cW tm (gg H c.args.toList)++cap))=some (ao,bj)) (hr:bG O.prog O.az self g ao=some r)
  (hl:cI bj Hq) (ht:bS O m S w tm a.tmps) (hh:aP O m S w Hq cH)
  (hn:∀u S' w',aP O m S' w' Hq cH->ah O.af m S' w' (shut r) u->bY m S w Hq m S' w' Hq cH->next (a.put o.dst u) w'):o.wpIn (WF ro) 0 O.P a w next Q:=by
 obtain ⟨fi,ca,h1,h2⟩:=Ka hH ht (args:=c.args) hf;obtain ⟨h3,h4⟩:=YM hz hl hh h2;refine JH ho gV h1 (hC.pure g ao r hr w S _ (PH hh) hh.slt h3 h4) ?_;rintro e w' ⟨u,S',rfl,hw,g1,g2,g3,g4⟩;refine ⟨u,rfl,?_⟩;obtain ⟨S2,k1,k2,k3⟩:=ZS g4 m;have hS:∀b,S b->S2 b:=fun b hb=>k1 b (g1 b hb)
 have IP:∀b,S2 b->S b\/w.heap.size<=b:=fun b hb=>(k2 b hb).elim (g2 b) (fun h=> .inr h.1)
 have hl:∀b,S2 b->b<w'.heap.size:=fun b hb=>(k2 b hb).elim (g3 b) (fun h=>h.2)
 exact hn u S2 w' (A1 hh hw hS IP hl) k3 (zk hh hw hS IP)
def ang (hC:mv O self) (hH:eQ O H) {o:y7} {c:tC} {f:xq} (ho:o.op= .call c) (gV:c.callee= .value f) {g:Nat} {first cap ao:List AV} {bj:Hp} {r:AV}
  (hf:ay tm (aM H f)= .fn (.f g) first cap) (hz:cA deep hp (first++(cW tm (gg H c.args.toList)++cap))=some (ao,bj)) (hr:bG O.prog O.az self g ao=some r)
  (hl:cI (own bj ct r).2.1 Hq) (fL:(own bj ct r).2.2<=cH) (aG:∀id o,aA hp id=some o->id<ct) (q8:∀id,ct<=id->id<(own bj ct r).2.2->m id=none)
  (ht:bS O m S w tm a.tmps) (hh:aP O m S w Hq cH)
  (hn:∀u m' S' w',aP O m' S' w' Hq cH->cO m m'->(∀id p,m' id=some p->m id=some p\/(ct<=id/\id<(own bj ct r).2.2))->ah O.af m' S' w' (own bj ct r).1 u->bY m S w Hq m' S' w' Hq cH->next (a.put o.dst u) w'):
  o.wpIn (WF ro) 0 O.P a w next Q:=by
 obtain ⟨fi,ca,h1,h2⟩:=Ka hH ht (args:=c.args) hf;obtain ⟨z1,z2,z3⟩:=OD (O:=O) hz;have Q7:∀id o,aA bj id=some o->id<ct:=fun id o h=>by
  have:=z2 id
  rw [h] at this
  cases hq:aA hp id with
  | none=>rw [hq] at this;cases this
  | some q=>exact aG id q hq
 have atj:∀id o,aA bj id=some o->aA (own bj ct r).2.1 id=some o:=fun id o h=>by
  cases r with
  | aa vs=>exact Ku Q7 id o h
  | _=>exact PG Q7 id o h
 have ma:cI bj Hq:=fun id o h=>hl id o (atj id o h)
 obtain ⟨h3,h4⟩:=YM hz ma hh h2;refine JH ho gV h1 (hC.pure g ao r hr w S _ (PH hh) hh.slt h3 h4) ?_;rintro e w' ⟨u,S',rfl,hw,g1,g2,g3,g4⟩;refine ⟨u,rfl,?_⟩;have Au:=A1 hh hw g1 g2 g3;have As:=zk (base:=cH) hh hw g1 g2;obtain ⟨m',S2,k1,k2,k3,k4,k5,k6⟩:=ath (lo:=w.heap.size) Au hl fL Q7 q8 g4 hh.fw (fun j q hq=>hh.blt j q hq);refine hn u m' S2 w' k1 k2 (fun id p h=>(k3 id p h).imp (fun h=>h) (fun h=>⟨h.1,h.2.1⟩)) k4 ⟨hw.os,hw.tape,hw.output,hw.size,fun b hb _=>hw.same b hb,fun b hb=>k5 b (g1 b hb),fun b hb=>hw.same b (hh.slt b hb),?_,?_,fun i q _ h=>k2 i q h,As.loops⟩
 ·grind
 ·rintro b ⟨i,ob,q,q1,q2,q3⟩;rcases k3 i q q2 with h | h
  ·exact .inl ⟨i,ob,q,q1,h,q3⟩
  ·grind
def amf {P:y8} {H:Hint} {o:y7} {k:Nat} {sz b:Nat} {x y:X} (hk:Op.ow sz b x y=aR P H k o):False:=by
 cases ho:o.op with
 | call c=>
  obtain ⟨callee,args,ts⟩:=c;simp only [aR,ho] at hk
  split at hk
  ·rename_i f;cases hm:H.mode k<;>simp only [hm,reduceCtorEq] at hk
  ·repeat' split at hk
   all_goals first
    | (cases hk;done)
    | (simp only [bad] at hk;cases hk;done)
    | (revert hk;generalize yq _ _=bb;intro hk;cases bb<;>simp [bad] at hk)
  ·simp only [bad] at hk;cases hk
 | binOp op t x' y ty=>
  cases op<;>simp only [aR,ho,my,nI] at hk
  case eql=>
        repeat' split at hk
        all_goals first
         | (cases hk;done)
         | (simp only [bad] at hk;cases hk;done)
         | (cases bC:(P.stoodInHeld t||P.eqGuardType P.depth t)<;>rw [bC] at hk<;>simp [bad] at hk)
  case neq=>
        repeat' split at hk
        all_goals first
         | (cases hk;done)
         | (simp only [bad] at hk;cases hk;done)
         | (cases bC:(P.stoodInHeld t||P.eqGuardType P.depth t)<;>rw [bC] at hk<;>simp [bad] at hk)
  all_goals cases hk
 | buildSlice t n parts=>
  simp only [aR,ho] at hk
  repeat' split at hk
  all_goals first
   | (cases hk;done)
   | (simp only [bad] at hk;cases hk;done)
   | (revert hk;generalize yy _ _=bb;intro hk;cases bb<;>simp [bad] at hk)
 | makeMap t r=>
  cases r<;>simp only [aR,ho] at hk
  ·repeat' split at hk
   all_goals first
    | (cases hk;done)
    | (simp only [bad] at hk;cases hk;done)
  ·simp only [bad] at hk;cases hk
 | next x' b=>
  cases b<;>simp only [aR,ho] at hk
  ·simp only [bad] at hk;cases hk
  ·cases hk
 | _=>
  simp only [aR,ho] at hk
  (repeat' split at hk)
  all_goals first
   | contradiction
   | (cases hk;done)
   | (simp only [bad] at hk;cases hk;done)
def atk {P:y8} {H:Hint} {o:y7} {sz b:Nat} {x y:X} (hq:nY P H (.ow sz b x y) o):∃k,Op.aT sz b x y=aR P H k o:=by
 rcases hq with ⟨k,hk⟩ | ⟨_,_,_,_,_,h3⟩ | ⟨_,_,_,_,_,_,_,h3⟩ | ⟨_,_,_,_,_,_,_,h3⟩ | ⟨k,Cf,b',x',y',h1,h3⟩
 ·exact (amf hk).elim
 ·cases h3
 ·cases h3
 ·cases h3
 ·simp only [Op.ow.injEq] at h3;obtain ⟨rfl,rfl,rfl,rfl⟩:=h3;exact ⟨k,h1⟩
def quiet_step (hC:mv O self) (hH:eQ O H) {o:y7} {q:Op} {v:AV} (hk:bm q<=1) (hq:nY O.P H q o) (hd:∀c,o.op≠.defer c) (hv:a7 O.prog O.az self tm hp ct q=some (v,ap,aX)) (hl:cI ap Hq) (fL:aX<=cH)
  (aG:∀id o,aA hp id=some o->id<ct) (q8:∀id,ct<=id->id<aX->m id=none) (ht:bS O m S w tm a.tmps) (hh:aP O m S w Hq cH)
  (hn:∀u m' S' w',aP O m' S' w' Hq cH->cO m m'->(∀id p,m' id=some p->m id=some p\/(ct<=id/\id<aX))->ah O.af m' S' w' v u->bY m S w Hq m' S' w' Hq cH->next (a.put o.dst u) w'):
  o.wpIn (WF ro) 0 O.P a w next Q:=by
 by_cases Xf:∃sz b x y,q= .ow sz b x y
 ·obtain ⟨sz,b,x,y,rfl⟩:=Xf;obtain ⟨k,im⟩:=atk hq;simp only [a7] at hv
  cases hm:qh hp ct sz b (ay tm x) (iI hp sz (ay tm y)) with
  | none=>simp [hm] at hv
  | some r=>
   obtain ⟨v1,dj⟩:=r;simp only [hm,yb,yk] at hv;obtain ⟨rfl,rfl,rfl⟩:=hv;have iP:cI hp Hq:=fun id o' je=>hl id o' (by
    rw [fa,yv (by have:=aG id o' je;omega)];exact je)
   have bW:gC tm Hq ct (aR O.P H k o)=some (v1,dj):=by rw [<-im];exact ao2 iP hm
   have hi:=q8 ct (yB _) (tF _);obtain ⟨u,g,p,h1,h2,h3,h4⟩:=ati hH ht hh bW;have hcw:Calm w w.drew:=⟨rfl,rfl,rfl,yB _,fun _ _=>rfl⟩;have gl:=A1 hh hcw (S':=S) (fun _ h=>h) (fun _ h=> .inl h) hh.slt;have Ej:bY m S w Hq m S w.drew Hq cH:=zk hh hcw (fun _ h=>h) (fun _ h=> .inl h);obtain ⟨S',k1,k2,k3⟩:=Pe (i:=ct) (g:=g) (p:=p) gl hi fL h2 (fun o' je=>by
    obtain ⟨W8,g1,g2⟩:=hl ct dj (by rw [fa];simp)
    rw [je] at g1;injection g1 with g1
    subst g1
    have:=Ov g2 du (h4 _ (iG hi) du).1 h3
    rwa [h2] at this)
   refine Gu hd h1 (.inl rfl) (hn u _ S' _ k1 (iG hi) (fun id q hq=>?_) (jW (fun _ _ h=>h) k2 (fun _ _=>rfl) _ _ (h4 _ (iG hi) du).2) (Ej.trans (ZW gl hi h2 k2 k3)));by_cases hc:id=ct
   ·exact .inr (by omega)
   ·rw [dL hc] at hq;exact .inl hq
 have im:∃k,q=aR O.P H k o:=by
  rcases hq with h | ⟨c,f,rs,_,_,rfl⟩ | ⟨_,_,_,_,_,_,_,rfl⟩ | ⟨_,_,_,_,_,_,_,rfl⟩ | ⟨_,_,_,_,_,_,h⟩
  ·exact h
  ·simp [bm] at hk
  ·simp [bm] at hk
  ·simp [bm] at hk
  ·exact (Xf ⟨_,_,_,_,h⟩).elim
 obtain ⟨k,hq⟩:=im;have read:∀{v:AV},bl tm hp q=some v->cI hp Hq->(∀u m' S' w',aP O m' S' w' Hq cH->cO m m'->(∀id p,m' id=some p->m id=some p\/(ct<=id/\id<aX))->ah O.af m' S' w' v u->bY m S w Hq m' S' w' Hq cH->next (a.put o.dst u) w')->o.wpIn (WF ro) 0 O.P a w next Q:=by
  intro v hr hl hn;have bW:=am8 hl hr;rw [hq] at bW;obtain ⟨u,h1,h2⟩:=abx hH ht hh bW;exact Gu hd h1 (.inl rfl) (hn u m S w hh cO.refl (fun _ _ h=> .inl h) h2 bY.refl)
 have makes:∀{v:AV} {b:Obj},cB tm hp ct q=some (v,b)->cI ((ct,b)::hp) Hq->ct+1<=cH->m ct=none->(∀u m' S' w',aP O m' S' w' Hq cH->cO m m'->(∀id p,m' id=some p->m id=some p\/(ct<=id/\id<ct+1))->ah O.af m' S' w' v u->bY m S w Hq m' S' w' Hq cH->next (a.put o.dst u) w')->o.wpIn (WF ro) 0 O.P a w next Q:=by
  intro v b hr hl hc hi hn;rw [hq] at hr;have bW:cB tm Hq ct (aR O.P H k o)=some (v,b):=by rw [<-hr];exact FL (fun _ _=>rfl)
  obtain ⟨u,g,p,h1,h2,h3,h4⟩:=aqY hH ht hh bW;obtain ⟨S',k1,k2,k3⟩:=Pe (i:=ct) (g:=g) (p:=p) hh hi hc h2 (fun o' je=>by
   obtain ⟨W8,g1,g2⟩:=hl ct b (by rw [fa];simp)
   rw [je] at g1;injection g1 with g1
   subst g1
   have:=Ov g2 du (h4 _ (iG hi) du).1 h3
   rwa [h2] at this)
  refine Gu hd h1 (.inl rfl) (hn u _ S' _ k1 (iG hi) (fun id q hq=>?_) (jW (fun _ _ h=>h) k2 (fun _ _=>rfl) _ _ (h4 _ (iG hi) du).2) (ZW hh hi h2 k2 k3));by_cases hc:id=ct
  ·exact .inr (by omega)
  ·rw [dL hc] at hq;exact .inl hq
 have cu:∀{q:Op},(match cB tm hp ct q with | some (v,b)=>some (v,(ct,b)::hp,ct+1) | none=>(none:fQ))=some (v,ap,aX)->∃b,cB tm hp ct q=some (v,b)/\ap=(ct,b)::hp/\aX=ct+1:=by
  intro q h
  cases hm:cB tm hp ct q with
  | none=>simp [hm] at h
  | some r=>
   obtain ⟨v1,b⟩:=r;simp only [hm,yb,yk] at h;obtain ⟨rfl,rfl,rfl⟩:=h;exact ⟨b,rfl,rfl,rfl⟩
 have fR:∀{q:Op},(match bl tm hp q with | some v=>some (v,hp,ct) | none=>(none:fQ))=some (v,ap,aX)->bl tm hp q=some v/\ap=hp/\aX=ct:=by
  intro q h
  cases hm:bl tm hp q with
  | none=>simp [hm] at h
  | some r=>
   simp only [hm,yb,yk] at h;obtain ⟨rfl,rfl,rfl⟩:=h;exact ⟨rfl,rfl,rfl⟩
 have Gv:(∃b,cB tm hp ct q=some (v,b)/\ap=(ct,b)::hp/\aX=ct+1)->o.wpIn (WF ro) 0 O.P a w next Q:=by
  rintro ⟨b,h1,rfl,rfl⟩;exact makes h1 hl fL (q8 ct (yB _) (tF _)) hn
 have atl:(bl tm hp q=some v/\ap=hp/\aX=ct)->o.wpIn (WF ro) 0 O.P a w next Q:=by
  rintro ⟨h1,rfl,rfl⟩;exact read h1 hl hn
 cases q with
 | st _ _ _=>simp [bm] at hk
 | oh _ _ _ _=>simp [bm] at hk
 | ot _=>simp [bm] at hk
 | aT _ _ _ _=>simp [bm] at hk
 | ox _ _ _=>simp [bm] at hk
 | gZ _ _ _=>simp [bm] at hk
 | jw _ _ _ _=>simp [bm] at hk
 | jO _ _ _ _ _=>simp [bm] at hk
 | ow sz b x y=>exact (Xf ⟨sz,b,x,y,rfl⟩).elim
 | box s x=>exact Gv (cu (by simp only [a7] at hv;exact hv))
 | lf n s z ps=>exact Gv (cu (by simp only [a7] at hv;exact hv))
 | mX s b z x y=>exact Gv (cu (by simp only [a7] at hv;exact hv))
 | sH=>exact Gv (cu (by simp only [a7] at hv;exact hv))
 | ol x=>exact Gv (cu (by simp only [a7] at hv;exact hv))
 | call md x xs=>
  cases md with
  | heap=>simp [bm] at hk
  | dyn=>simp [bm] at hk
  | pure=>
   simp only [a7,ep] at hv
   split at hv
   ·rename_i g first cap hx
    (try simp only at hv)
    cases hz:cA deep hp (first++(cW tm xs++cap)) with
    | none=>simp [hz] at hv
    | some z=>
     obtain ⟨ao,bj⟩:=z;simp only [hz] at hv
     cases hr:bG O.prog O.az self g ao with
     | none=>simp [hr] at hv
     | some r=>
      simp only [hr,yb,yk] at hv;obtain ⟨rfl,rfl,rfl⟩:=hv;obtain ⟨c,f,ho,gV,rfl,rfl⟩:=Kv hq.symm (by rintro rfl;simp [ay] at hx);exact ame hC hH ho gV hx hz hr hl ht hh (fun u S' w' h1 h2 h3=>hn u m S' w' h1 cO.refl (fun _ _ h=> .inl h) h2 h3)
   ·simp at hv
   ·cases hv
  | own=>
   simp only [a7,ep] at hv
   split at hv
   ·rename_i g first cap hx
    (try simp only at hv)
    cases hz:cA deep hp (first++(cW tm xs++cap)) with
    | none=>simp [hz] at hv
    | some z=>
     obtain ⟨ao,bj⟩:=z;simp only [hz] at hv
     cases hr:bG O.prog O.az self g ao with
     | none=>simp [hr] at hv
     | some r=>
      simp only [hr,yb] at hv;obtain ⟨c,f,ho,gV,rfl,rfl⟩:=Kv hq.symm (by rintro rfl;simp [ay] at hx);have e1:v=(own bj ct r).1:=by rw [hv]
      have e2:ap=(own bj ct r).2.1:=by rw [hv]
      have e3:aX=(own bj ct r).2.2:=by rw [hv]
      subst e1;subst e2;subst e3;exact ang hC hH ho gV hx hz hr hl fL aG q8 ht hh hn
   ·simp at hv
   ·cases hv
 | _=>exact atl (fR (by simp only [a7] at hv;exact hv))
end
end
section
open Go
section
variable {O:a8} {H:Hint} {m:Mp} {S:Nat->Prop} {w:yi} {tm:Env} {a:Act} {hp ap:Hp} {ct aX:Nat} {self:cm} {ro:Option Nat} {next:Act->yi->Prop} {Q:vO->Act->yi->Prop}
def bY.qw {m':Mp} {S':Nat->Prop} {w':yi} {b b':Nat} (h:bY m S w hp m' S' w' ap b) (hb:b'<=b):bY m S w hp m' S' w' ap b':=
 ⟨h.os,h.tape,h.output,h.size,h.same,h.sub,h.still,h.new,h.own,fun i q hi hq=>h.old i q (by omega) hq,h.loops⟩
def atm {hp:Hp} {ct:Nat} {r:AV} (aG:∀id o,aA hp id=some o->id<ct):∀id o,aA (own hp ct r).2.1 id=some o->id<(own hp ct r).2.2:=by
 have hL:∀(vs:List AV) (hp:Hp) (ct:Nat),(∀id o,aA hp id=some o->id<ct)->∀id o,aA (iZ hp ct vs).2.1 id=some o->id<(iZ hp ct vs).2.2:=by
  intro vs
  induction vs with
  | nil=>intro hp ct h id o ho;exact h id o ho
  | cons v r ih=>intro hp ct h id o ho;exact ih _ _ (Gh h) id o ho
 cases r with
 | aa vs=>exact hL vs hp ct aG
 | _=>exact Gh aG
def atn {hp:Hp} {ct:Nat} {r:AV} (aG:∀id o,aA hp id=some o->id<ct):∀id o,aA hp id=some o->aA (own hp ct r).2.1 id=some o:=by
 cases r with
 | aa vs=>exact Ku aG
 | _=>exact PG aG
def ato {hp:Hp} {ct:Nat} {r:AV}:ct<=(own hp ct r).2.2:=by
 cases r with
 | aa vs=>exact Kt
 | _=>exact Ks
def ao3 {hp:Hp} {ct:Nat} {r:AV}:∀id o,aA (own hp ct r).2.1 id=some o->id<ct->aA hp id=some o:=by
 have h1:∀(hp:Hp) (ct:Nat) (r:AV) id o,aA (eR hp ct r).2.1 id=some o->id<ct->aA hp id=some o:=by
  intro hp ct r id o h hc;cases r<;>simp only [eR] at h<;>try exact h
  rw [fa,yv (by omega)] at h;exact h
 have hL:∀(vs:List AV) (hp:Hp) (ct:Nat) id o,aA (iZ hp ct vs).2.1 id=some o->id<ct->aA hp id=some o:=by
  intro vs
  induction vs with
  | nil=>intro hp ct id o ho _;exact ho
  | cons v r ih=>intro hp ct id o ho hc;exact h1 hp ct v id o (ih _ _ id o ho (by have:=Ks (hp:=hp) (ct:=ct) (r:=v);omega)) hc
 cases r with
 | aa vs=>exact hL vs hp ct
 | _=>exact h1 hp ct _
structure gM (hp:Hp) (ct:Nat) (ap:Hp) (aX:Nat):Prop where
 le:cI hp ap
 oA:ct<=aX
 lt:∀id o,aA ap id=some o->id<aX
 back:∀id o,aA ap id=some o->id<ct->∃o',aA hp id=some o'
def gM.refl (aG:∀id o,aA hp id=some o->id<ct):gM hp ct hp ct:=⟨cI.refl,yB _,aG,fun _ o h _=>⟨o,h⟩⟩
def gM.trans {Ht:Hp} {ahp:Nat} (h:gM hp ct ap aX) (k:gM ap aX Ht ahp):gM hp ct Ht ahp:=
 ⟨h.le.trans k.le,xb h.oA k.oA,k.lt,fun id o ho hi=>let ⟨o1,h1⟩:=k.back id o ho (yE hi h.oA);h.back id o1 h1 hi⟩
def ZX {KY ao:List AV} {bj:Hp} (hz:cA deep hp KY=some (ao,bj)) (aG:∀id o,aA hp id=some o->id<ct):gM hp ct bj ct:=by
 obtain ⟨z1,z2,_⟩:=OD (O:=⟨default,⟨fun _=>none,fun _=>none⟩,fun _=>0,fun _=>none,fun _=>⟨0,fun _=>none,fun _=>[],fun _=>none,fun _=> .pure,fun _=>[]⟩,default⟩) hz;have hb:∀id o,aA bj id=some o->∃o',aA hp id=some o':=fun id o h=>by
  have:=z2 id
  rw [h] at this
  cases hq:aA hp id with
  | none=>rw [hq] at this;cases this
  | some q=>exact ⟨q,rfl⟩
 exact ⟨z1,yB _,fun id o h=>let ⟨o',h'⟩:=hb id o h;aG id o' h',fun id o h _=>hb id o h⟩
def anh {r:AV} (aG:∀id o,aA hp id=some o->id<ct):gM hp ct (own hp ct r).2.1 (own hp ct r).2.2:=
 ⟨fun id o h=>⟨o,atn aG id o h,iq.refl o⟩,ato,atm aG,fun id o h hi=>⟨o,ao3 id o h hi⟩⟩
def YN {P:aK} {L:Lib} {q:Op} {v:AV} (hk:bm q<=1) (hv:a7 P L self tm hp ct q=some (v,ap,aX)) (aG:∀id o,aA hp id=some o->id<ct):gM hp ct ap aX:=by
 have cu:∀{q:Op},(match cB tm hp ct q with | some (v,b)=>some (v,(ct,b)::hp,ct+1) | none=>(none:fQ))=some (v,ap,aX)->gM hp ct ap aX:=by
  intro q h
  cases hm:cB tm hp ct q with
  | none=>simp [hm] at h
  | some r=>
   obtain ⟨v1,b⟩:=r;simp only [hm,yb,yk] at h;obtain ⟨rfl,rfl,rfl⟩:=h;refine ⟨fun id o ho=>⟨o,?_,iq.refl o⟩,by omega,fun id o ho=>?_,fun id o ho hi=>?_⟩
   ·rw [fa,yv (by have:=aG id o ho;omega)];exact ho
   ·rw [fa] at ho;by_cases hc:ct=id
    ·omega
    ·simp only [hc,xj] at ho;have:=aG id o ho;omega
   ·rw [fa,yv (by omega)] at ho;exact ⟨o,ho⟩
 have fR:∀{q:Op},(match bl tm hp q with | some v=>some (v,hp,ct) | none=>(none:fQ))=some (v,ap,aX)->gM hp ct ap aX:=by
  intro q h
  cases hm:bl tm hp q with
  | none=>simp [hm] at h
  | some r=>
   simp only [hm,yb,yk] at h;obtain ⟨rfl,rfl,rfl⟩:=h;exact gM.refl aG
 cases bH:q with
 | st _ _ _=>simp [bH,bm] at hk
 | oh _ _ _ _=>simp [bH,bm] at hk
 | ot _=>simp [bH,bm] at hk
 | aT _ _ _ _=>simp [bH,bm] at hk
 | ox _ _ _=>simp [bH,bm] at hk
 | gZ _ _ _=>simp [bH,bm] at hk
 | jw _ _ _ _=>simp [bH,bm] at hk
 | jO _ _ _ _ _=>simp [bH,bm] at hk
 | ow sz b x y=>
  rw [bH] at hv;simp only [a7] at hv
  cases hm:qh hp ct sz b (ay tm x) (iI hp sz (ay tm y)) with
  | none=>simp [hm] at hv
  | some r=>
   obtain ⟨v1,b⟩:=r;simp only [hm,yb,yk] at hv;obtain ⟨rfl,rfl,rfl⟩:=hv;refine ⟨fun id o ho=>⟨o,?_,iq.refl o⟩,by omega,fun id o ho=>?_,fun id o ho hi=>?_⟩
   ·rw [fa,yv (by have:=aG id o ho;omega)];exact ho
   ·rw [fa] at ho;by_cases hc:ct=id
    ·omega
    ·simp only [hc,xj] at ho;have:=aG id o ho;omega
   ·rw [fa,yv (by omega)] at ho;exact ⟨o,ho⟩
 | box s x=>exact cu (q:=q) (by rw [bH] at hv ⊢;simp only [a7] at hv;exact hv)
 | lf n s z ps=>exact cu (q:=q) (by rw [bH] at hv ⊢;simp only [a7] at hv;exact hv)
 | mX s b z x y=>exact cu (q:=q) (by rw [bH] at hv ⊢;simp only [a7] at hv;exact hv)
 | sH=>exact cu (q:=q) (by rw [bH] at hv ⊢;simp only [a7] at hv;exact hv)
 | ol x=>exact cu (q:=q) (by rw [bH] at hv ⊢;simp only [a7] at hv;exact hv)
 | call md x xs=>
  subst bH;simp only [a7,ep] at hv
  split at hv
  ·rename_i g first cap hx
   cases md with
   | heap=>simp [bm] at hk
   | dyn=>simp [bm] at hk
   | pure=>
    simp only at hv
    cases hz:cA deep hp (first++(cW tm xs++cap)) with
    | none=>simp [hz] at hv
    | some z=>
     obtain ⟨ao,bj⟩:=z;simp only [hz] at hv
     cases hr:bG P L self g ao with
     | none=>simp [hr] at hv
     | some r=>
      simp only [hr,yb,yk] at hv;obtain ⟨rfl,rfl,rfl⟩:=hv;exact ZX hz aG
   | own=>
    simp only at hv
    cases hz:cA deep hp (first++(cW tm xs++cap)) with
    | none=>simp [hz] at hv
    | some z=>
     obtain ⟨ao,bj⟩:=z;simp only [hz] at hv
     cases hr:bG P L self g ao with
     | none=>simp [hr] at hv
     | some r=>
      simp only [hr,yb] at hv;have e2:ap=(own bj ct r).2.1:=by rw [hv]
      have e3:aX=(own bj ct r).2.2:=by rw [hv]
      subst e2;subst e3;have g1:=ZX hz aG;exact g1.trans (anh g1.lt)
  ·cases md with
   | heap=>simp [bm] at hk
   | dyn=>simp [bm] at hk
   | _=>simp at hv
  ·cases hv
 | _=>exact fR (q:=q) (by rw [bH] at hv ⊢;simp only [a7] at hv;exact hv)
def Kb (hh:aP O m S w hp ct) (hg:gM hp ct ap aX):∃S',aP O m S' w ap aX/\(∀b,S b->S' b)/\(∀b,S' b->S b\/dJ m hp b)/\∀base,bY m S w hp m S' w ap base:=by
 have hd:∀id o p,aA ap id=some o->m id=some p->∃o',aA hp id=some o':=fun id o p h hm=>hg.back id o h (hh.lt id p hm)
 obtain ⟨S',g1,g2,g3⟩:=aby hh hg.le hd hg.oA hg.lt;refine ⟨S',g1,g2,g3,fun base=>⟨rfl,rfl,rfl,yB _,fun _ _ _=>rfl,g2,fun _ _=>rfl,fun b hb=>(g3 b hb).imp (fun h=>h) .inl,?_,fun _ _ _ h=>h,fun _ r h=>⟨r,h⟩⟩⟩;rintro b ⟨i,o,p,h1,h2,h3⟩;obtain ⟨o',h4⟩:=hd i o p h1 h2;exact .inl ⟨i,o',p,h4,h2,h3⟩
def ao4 {q:Op} {v:AV} (hv:cw tm hp ct q=some (v,ap,aX)):ct<=aX:=by
 cases q<;>simp only [cw,reduceCtorEq] at hv
 all_goals
  grind
def Ph {P:y8} {H:Hint} {o:y7} {rs:List (Nat×Bool×Nat)} {x:X} {xs:List X} (hq:nY P H (.gZ rs x xs) o):∃c f,o.op= .call c/\c.callee= .value f/\x=aM H f/\xs=gg H c.args.toList:=by
 rcases hq with ⟨k,hk⟩ | ⟨c,f,rs',h1,h2,h3⟩ | ⟨_,_,_,_,_,_,_,h3⟩ | ⟨_,_,_,_,_,_,_,h3⟩ | ⟨_,_,_,_,_,_,h3⟩
 ·cases ho:o.op with
  | call c=>
   obtain ⟨callee,args,ts⟩:=c;simp only [aR,ho] at hk
   split at hk
   ·rename_i f;cases hm:H.mode k<;>simp only [hm,Op.gZ.injEq,reduceCtorEq] at hk
    exact ⟨_,f,rfl,rfl,hk.2.1,hk.2.2⟩
   ·repeat' split at hk
    all_goals first
     | (cases hk;done)
     | (simp only [bad] at hk;cases hk;done)
     | (revert hk;generalize yq _ _=bb;intro hk;cases bb<;>simp [bad] at hk)
   ·simp only [bad] at hk;cases hk
  | binOp op t x' y ty=>
   cases op<;>simp only [aR,ho,my,nI] at hk
   case eql=>
         repeat' split at hk
         all_goals first
          | (cases hk;done)
          | (simp only [bad] at hk;cases hk;done)
          | (cases bC:(P.stoodInHeld t||P.eqGuardType P.depth t)<;>rw [bC] at hk<;>simp [bad] at hk)
   case neq=>
         repeat' split at hk
         all_goals first
          | (cases hk;done)
          | (simp only [bad] at hk;cases hk;done)
          | (cases bC:(P.stoodInHeld t||P.eqGuardType P.depth t)<;>rw [bC] at hk<;>simp [bad] at hk)
   all_goals cases hk
  | buildSlice t n parts=>
   simp only [aR,ho] at hk
   repeat' split at hk
   all_goals first
    | (cases hk;done)
    | (simp only [bad] at hk;cases hk;done)
    | (revert hk;generalize yy _ _=bb;intro hk;cases bb<;>simp [bad] at hk)
  | makeMap t r=>
   cases r<;>simp only [aR,ho] at hk
   ·repeat' split at hk
    all_goals first
     | (cases hk;done)
     | (simp only [bad] at hk;cases hk;done)
   ·simp only [bad] at hk;cases hk
  | next x' b=>
   cases b<;>simp only [aR,ho] at hk
   ·simp only [bad] at hk;cases hk
   ·cases hk
  | _=>
   simp only [aR,ho] at hk
   (repeat' split at hk)
   all_goals first
    | contradiction
    | (cases hk;done)
    | (simp only [bad] at hk;cases hk;done)
 ·simp only [Op.gZ.injEq] at h3;exact ⟨c,f,h1,h2,h3.2.1,h3.2.2⟩
 ·cases h3
 ·cases h3
 ·cases h3
def amg {P:y8} {H:Hint} {o:y7} {k:Nat} {rs:List (Nat×Bool×Nat)} {sz:Nat} {x y:X} (hk:Op.jw rs sz x y=aR P H k o):False:=by
 cases ho:o.op with
 | call c=>
  obtain ⟨callee,args,ts⟩:=c;simp only [aR,ho] at hk
  split at hk
  ·grind
  ·repeat' split at hk
   all_goals first
    | (cases hk;done)
    | (simp only [bad] at hk;cases hk;done)
    | (revert hk;generalize yq _ _=bb;intro hk;cases bb<;>simp [bad] at hk)
  ·simp only [bad] at hk;cases hk
 | binOp op t x' y ty=>
  cases op<;>simp only [aR,ho,my,nI] at hk
  case eql=>
        repeat' split at hk
        all_goals first
         | (cases hk;done)
         | (simp only [bad] at hk;cases hk;done)
         | (cases bC:(P.stoodInHeld t||P.eqGuardType P.depth t)<;>rw [bC] at hk<;>simp [bad] at hk)
  case neq=>
        repeat' split at hk
        all_goals first
         | (cases hk;done)
         | (simp only [bad] at hk;cases hk;done)
         | (cases bC:(P.stoodInHeld t||P.eqGuardType P.depth t)<;>rw [bC] at hk<;>simp [bad] at hk)
  all_goals cases hk
 | buildSlice t n parts=>
  simp only [aR,ho] at hk
  repeat' split at hk
  all_goals first
   | (cases hk;done)
   | (simp only [bad] at hk;cases hk;done)
   | (revert hk;generalize yy _ _=bb;intro hk;cases bb<;>simp [bad] at hk)
 | makeMap t r=>
  cases r<;>simp only [aR,ho] at hk
  ·repeat' split at hk
   all_goals first
    | (cases hk;done)
    | (simp only [bad] at hk;cases hk;done)
  ·simp only [bad] at hk;cases hk
 | next x' b=>
  cases b<;>simp only [aR,ho] at hk
  ·simp only [bad] at hk;cases hk
  ·cases hk
 | _=>
  simp only [aR,ho] at hk
  (repeat' split at hk)
  all_goals first
   | contradiction
   | (cases hk;done)
   | (simp only [bad] at hk;cases hk;done)
def amh {P:y8} {H:Hint} {o:y7} {k:Nat} {rs:List (Nat×Bool×Nat)} {sz b:Nat} {x y:X} (hk:Op.jO rs sz b x y=aR P H k o):False:=by
 cases ho:o.op with
 | call c=>
  obtain ⟨callee,args,ts⟩:=c;simp only [aR,ho] at hk
  split at hk
  ·rename_i f;cases hm:H.mode k<;>simp only [hm,reduceCtorEq] at hk
  ·repeat' split at hk
   all_goals first
    | (cases hk;done)
    | (simp only [bad] at hk;cases hk;done)
    | (revert hk;generalize yq _ _=bb;intro hk;cases bb<;>simp [bad] at hk)
  ·simp only [bad] at hk;cases hk
 | binOp op t x' y ty=>
  cases op<;>simp only [aR,ho,my,nI] at hk
  case eql=>
        repeat' split at hk
        all_goals first
         | (cases hk;done)
         | (simp only [bad] at hk;cases hk;done)
         | (cases bC:(P.stoodInHeld t||P.eqGuardType P.depth t)<;>rw [bC] at hk<;>simp [bad] at hk)
  case neq=>
        repeat' split at hk
        all_goals first
         | (cases hk;done)
         | (simp only [bad] at hk;cases hk;done)
         | (cases bC:(P.stoodInHeld t||P.eqGuardType P.depth t)<;>rw [bC] at hk<;>simp [bad] at hk)
  all_goals cases hk
 | buildSlice t n parts=>
  simp only [aR,ho] at hk
  repeat' split at hk
  all_goals first
   | (cases hk;done)
   | (simp only [bad] at hk;cases hk;done)
   | (revert hk;generalize yy _ _=bb;intro hk;cases bb<;>simp [bad] at hk)
 | makeMap t r=>
  cases r<;>simp only [aR,ho] at hk
  ·repeat' split at hk
   all_goals first
    | (cases hk;done)
    | (simp only [bad] at hk;cases hk;done)
  ·simp only [bad] at hk;cases hk
 | next x' b=>
  cases b<;>simp only [aR,ho] at hk
  ·simp only [bad] at hk;cases hk
  ·cases hk
 | _=>
  simp only [aR,ho] at hk
  (repeat' split at hk)
  all_goals first
   | contradiction
   | (cases hk;done)
   | (simp only [bad] at hk;cases hk;done)
def axw {P:y8} {H:Hint} {o:y7} {sz:Nat} {x y:X} (hq:nY P H (.st sz x y) o):∃t x' y',o.op= .store t x' y'/\cg P t=some sz/\x=aM H x'/\y=aM H y':=by
 obtain ⟨k,hk⟩:∃k,Op.st sz x y=aR P H k o:=by
  rcases hq with h | ⟨_,_,_,_,_,h⟩ | ⟨_,_,_,_,_,_,_,h⟩ | ⟨_,_,_,_,_,_,_,h⟩ | ⟨_,_,_,_,_,_,h⟩
  ·exact h
  ·cases h
  ·cases h
  ·cases h
  ·cases h
 cases ho:o.op with
 | call c=>
  obtain ⟨callee,args,ts⟩:=c;simp only [aR,ho] at hk
  split at hk
  ·rename_i f;cases hm:H.mode k<;>simp only [hm,reduceCtorEq] at hk
  ·repeat' split at hk
   all_goals first
    | (cases hk;done)
    | (simp only [bad] at hk;cases hk;done)
    | (revert hk;generalize yq _ _=bb;intro hk;cases bb<;>simp [bad] at hk)
  ·simp only [bad] at hk;cases hk
 | binOp op t x' y ty=>
  cases op<;>simp only [aR,ho,my,nI] at hk
  case eql=>
        repeat' split at hk
        all_goals first
         | (cases hk;done)
         | (simp only [bad] at hk;cases hk;done)
         | (cases bC:(P.stoodInHeld t||P.eqGuardType P.depth t)<;>rw [bC] at hk<;>simp [bad] at hk)
  case neq=>
        repeat' split at hk
        all_goals first
         | (cases hk;done)
         | (simp only [bad] at hk;cases hk;done)
         | (cases bC:(P.stoodInHeld t||P.eqGuardType P.depth t)<;>rw [bC] at hk<;>simp [bad] at hk)
  all_goals cases hk
 | buildSlice t n parts=>
  simp only [aR,ho] at hk
  repeat' split at hk
  all_goals first
   | (cases hk;done)
   | (simp only [bad] at hk;cases hk;done)
   | (revert hk;generalize yy _ _=bb;intro hk;cases bb<;>simp [bad] at hk)
 | makeMap t r=>
  cases r<;>simp only [aR,ho] at hk
  ·repeat' split at hk
   all_goals first
    | (cases hk;done)
    | (simp only [bad] at hk;cases hk;done)
  ·simp only [bad] at hk;cases hk
 | next x' b=>
  cases b<;>simp only [aR,ho] at hk
  ·simp only [bad] at hk;cases hk
  ·cases hk
 | store t x' y'=>
  simp only [aR,ho] at hk
  split at hk
  ·rename_i s hs;simp only [Op.st.injEq] at hk;obtain ⟨rfl,rfl,rfl⟩:=hk;exact ⟨t,x',y',rfl,hs,rfl,rfl⟩
  ·simp only [bad] at hk;cases hk
 | _=>
  simp only [aR,ho] at hk
  (repeat' split at hk)
  all_goals first
   | contradiction
   | (cases hk;done)
   | (simp only [bad] at hk;cases hk;done)
def aeL {P:y8} {H:Hint} {o:y7} {rs:List (Nat×Bool×Nat)} {sz:Nat} {x y:X} (hq:nY P H (.jw rs sz x y) o):∃t x' y',o.op= .store t x' y'/\cg P t=some sz/\x=aM H x'/\y=aM H y':=by
 rcases hq with ⟨k,hk⟩ | ⟨_,_,_,_,_,h3⟩ | ⟨t,x',y',Cf,rs',h1,h2,h3⟩ | ⟨_,_,_,_,_,_,_,h3⟩ | ⟨_,_,_,_,_,_,h3⟩
 ·exact (amg hk).elim
 ·cases h3
 ·simp only [Op.jw.injEq] at h3;obtain ⟨_,rfl,rfl,rfl⟩:=h3;exact ⟨t,x',y',h1,h2,rfl,rfl⟩
 ·cases h3
 ·cases h3
def aeM {P:y8} {H:Hint} {o:y7} {rs:List (Nat×Bool×Nat)} {sz b:Nat} {x y:X} (hq:nY P H (.jO rs sz b x y) o):∃k,Op.aT sz b x y=aR P H k o:=by
 rcases hq with ⟨k,hk⟩ | ⟨_,_,_,_,_,h3⟩ | ⟨_,_,_,_,_,_,_,h3⟩ | ⟨k,rs',Cf,b',x',y',h1,h3⟩ | ⟨_,_,_,_,_,_,h3⟩
 ·exact (amh hk).elim
 ·cases h3
 ·cases h3
 ·simp only [Op.jO.injEq] at h3;obtain ⟨_,rfl,rfl,rfl,rfl⟩:=h3;exact ⟨k,h1⟩
 ·cases h3
def aeN {P:y8} {H:Hint} {o:y7} {sz b:Nat} {x y:X} (hq:nY P H (.aT sz b x y) o):∃k,Op.aT sz b x y=aR P H k o:=by
 rcases hq with h | ⟨_,_,_,_,_,h3⟩ | ⟨_,_,_,_,_,_,_,h3⟩ | ⟨_,_,_,_,_,_,_,h3⟩ | ⟨_,_,_,_,_,_,h3⟩
 ·exact h
 ·cases h3
 ·cases h3
 ·cases h3
 ·cases h3
def ami {P:y8} {H:Hint} {q:Op} {o:y7} (hq:nY P H q o):nY P H (ia q) o:=by
 cases h:q with
 | gZ rs f xs=>
  subst h;obtain ⟨c,f',g1,g2,g3,g4⟩:=Ph hq;exact .inr (.inl ⟨c,f',[],g1,g2,by rw [g3,g4];rfl⟩)
 | jw rs sz x y=>
  subst h;obtain ⟨t,x',y',g1,g2,g3,g4⟩:=aeL hq;refine .inl ⟨0,?_⟩;simp only [ia,aR,g1,g2,g3,g4]
 | jO rs sz b x y=>
  subst h;exact .inl (aeM hq)
 | _=>subst h;exact hq
def aaH (hC:mv O self) (hH:eQ O H) {o:y7} {q:Op} {v:AV} (hq:nY O.P H q o) (hd:∀c,o.op≠.defer c) (hv:a7 O.prog O.az self tm hp ct q=some (v,ap,aX))
  (ht:bS O m S w tm a.tmps) (hh:aP O m S w hp ct)
  (hn:∀u m' S' w',aP O m' S' w' ap aX->ct<=aX->ah O.af m' S' w' v u->bY m S w hp m' S' w' ap ct->next (a.put o.dst u) w'):o.wpIn (WF ro) 0 O.P a w next Q:=by
 have quiet:bm q<=1->o.wpIn (WF ro) 0 O.P a w next Q:=by
  intro hk;have hg:=YN hk hv hh.aG;obtain ⟨S1,g1,g2,g3,g4⟩:=Kb hh hg;refine quiet_step hC hH hk hq hd hv cI.refl (yB _) hh.aG (fun id h1 h2=>?_) (zi (fun _ _ h=>h) g2 (fun _ _=>rfl) ht) g1 (fun u m' S' w' k1 k2 k3 k4 k5=>hn u m' S' w' k1 hg.oA k4 ((g4 ct).trans (k5.qw hg.oA)))
  cases hm:m id with
  | none=>rfl
  | some p=>have:=hh.lt id p hm;omega
 have P6:∀{q':Op},(∃k,q'=aR O.P H k o)->cw tm hp ct q'=some (v,ap,aX)->o.wpIn (WF ro) 0 O.P a w next Q:=by
  intro q' im hw;obtain ⟨k,rfl⟩:=im;obtain ⟨n,u,w',m',S',h1,h2,h3,h4,h5,h6⟩:=aq2 hH ht hh hw;exact Gu hd h1 h2 (hn u m' S' w' h3 (ao4 hw) h4 h6)
 have write:cw tm hp ct q=some (v,ap,aX)->o.wpIn (WF ro) 0 O.P a w next Q:=by
  intro hw;refine P6 ?_ hw;rcases hq with h | ⟨c,f,rs,_,_,rfl⟩ | ⟨_,_,_,_,_,_,_,rfl⟩ | ⟨_,_,_,_,_,_,_,rfl⟩ | ⟨_,_,_,_,_,_,rfl⟩
  ·exact h
  ·simp [cw] at hw
  ·simp [cw] at hw
  ·simp [cw] at hw
  ·simp [cw] at hw
 have heap:∀{c:tC} {f:xq} {g:Nat} {first cap:List AV},o.op= .call c->c.callee= .value f->ay tm (aM H f)= .fn (.f g) first cap->
   gY O.prog O.az self hp ct g (first++(cW tm (gg H c.args.toList)++cap))=some (v,ap,aX)->o.wpIn (WF ro) 0 O.P a w next Q:=by
  intro c f g first cap ho gV hx he;obtain ⟨fi,ca,h1,h2⟩:=Ka hH ht (args:=c.args) hx;refine JH ho gV h1 (hC.heap _ _ _ _ _ _ _ he m S w _ hh h2) ?_;rintro e w' ⟨u,m',S',rfl,k1,k2,k3,k4⟩;exact ⟨u,rfl,hn u m' S' w' k1 k2 k3 k4⟩
 have round:∀{c:tC} {f:xq} {l:Nat} {x y:List AV},o.op= .call c->c.callee= .value f->ay tm (aM H f)= .fn (.y l) x y->
   mu self hp ct l (cW tm (gg H c.args.toList))=some (v,ap,aX)->o.wpIn (WF ro) 0 O.P a w next Q:=by
  intro c f l x y ho gV hx he;have rf:=b9 hH ht f;rw [hx] at rf;simp only [ah] at rf;obtain ⟨p,hm,hf⟩:=rf;have fy:=Be hH ht c.args.toList;obtain ⟨g,tmps,cr,body,h1,h2⟩:=hC.round _ _ _ _ _ _ _ he m S w (c.args.map a.eval) p hh hm (by simpa using fy);refine aoZ ho gV hf h1 h2 ?_;rintro e w' ⟨u,m',S',rfl,k1,k2,k3,k4⟩;exact ⟨u,rfl,hn u m' S' w' k1 k2 k3 k4⟩
 have dyn:∀{c:tC} {f:xq},o.op= .call c->c.callee= .value f->ep O.prog O.az self hp ct .dyn (ay tm (aM H f)) (cW tm (gg H c.args.toList))=some (v,ap,aX)->o.wpIn (WF ro) 0 O.P a w next Q:=by
  intro c f ho gV he;unfold ep at he
  split at he
  ·rename_i g first cap hx
   (try simp only at he)
   cases hp0:aI (first++(cW tm (gg H c.args.toList)++cap)) with
   | true=>
    rw [hp0] at he;simp only [yz] at he
    cases hr:bG O.prog O.az self g (first++(cW tm (gg H c.args.toList)++cap)) with
    | none=>simp [hr] at he
    | some r=>
     simp only [hr,yb,yk] at he;obtain ⟨rfl,rfl,rfl⟩:=he;obtain ⟨fi,ca,h1,h2⟩:=Ka hH ht (args:=c.args) hx;refine JH ho gV h1 (hC.pure g _ r hr w S _ (PH hh) hh.slt (rD (fun _ h=>h) (fun _ _=>rfl) _ _ hp0 h2) hp0) ?_;rintro e w' ⟨u,S',rfl,hw,g1,g2,g3,g4⟩;obtain ⟨S2,k1,k2,k3⟩:=ZS g4 m;have hS:∀b,S b->S2 b:=fun b hb=>k1 b (g1 b hb)
     have IP:∀b,S2 b->S b\/w.heap.size<=b:=fun b hb=>(k2 b hb).elim (g2 b) (fun h=> .inr h.1)
     have hl:∀b,S2 b->b<w'.heap.size:=fun b hb=>(k2 b hb).elim (g3 b) (fun h=>h.2)
     exact ⟨u,rfl,hn u m S2 w' (A1 hh hw hS IP hl) (yB _) k3 (zk hh hw hS IP)⟩
   | false=>
    rw [hp0] at he;simp only [yY] at he;exact heap ho gV hx he
  ·rename_i l x y hx;exact round ho gV hx he
  ·cases he
 cases bH:q with
 | gZ rs x xs=>
  subst bH;simp only [a7] at hv;have key:=Ph hq;obtain ⟨c,f,ho,gV,rfl,rfl⟩:=key
  cases hc:ep O.prog O.az self hp ct .dyn (ay tm (aM H f)) (cW tm (gg H c.args.toList)) with
  | none=>simp [hc] at hv
  | some r=>
   obtain ⟨v1,bj,ni⟩:=r;simp only [hc] at hv
   cases hs:nH tm hp bj rs with
   | false=>rw [hs] at hv;cases hv
   | true=>
    rw [hs] at hv;simp only [yz,yb,yk] at hv;obtain ⟨rfl,rfl,rfl⟩:=hv;exact dyn ho gV hc
 | call md x xs=>
  subst bH;have im:∃k,Op.call md x xs=aR O.P H k o:=by
   rcases hq with h | ⟨c,f,rs,_,_,h⟩ | ⟨_,_,_,_,_,_,_,h⟩ | ⟨_,_,_,_,_,_,_,h⟩ | ⟨_,_,_,_,_,_,h⟩
   ·exact h
   ·cases h
   ·cases h
   ·cases h
   ·cases h
  obtain ⟨k,hk⟩:=im
  cases md with
  | pure=>exact quiet (by simp [bm])
  | own=>exact quiet (by simp [bm])
  | heap=>
   simp only [a7] at hv;obtain ⟨c,f,ho,gV,rfl,rfl⟩:=Kv hk.symm (by rintro rfl;simp [ay,ep] at hv);unfold ep at hv
   split at hv
   ·rename_i g first cap hx;exact heap ho gV hx hv
   ·rename_i l x y hx;exact round ho gV hx hv
   ·cases hv
  | dyn=>
   simp only [a7] at hv;obtain ⟨c,f,ho,gV,rfl,rfl⟩:=Kv hk.symm (by rintro rfl;simp [ay,ep] at hv);exact dyn ho gV hv
 | jw rs s x y=>
  subst bH;obtain ⟨t,x',y',g1,g2,g3,g4⟩:=aeL hq;simp only [a7] at hv
  split at hv
  ·rename_i id off hx
   cases hf:mw tm id rs with
   | false=>rw [hf] at hv;cases hv
   | true=>
    rw [hf] at hv;simp only [yz] at hv
    exact P6 (q':= .st s x y) ⟨0,by simp only [aR,g1,g2,g3,g4]⟩ hv
  ·cases hv
 | jO rs s b x y=>
  subst bH;simp only [a7] at hv
  cases hc:cw tm hp ct (.aT s b x y) with
  | none=>simp [hc] at hv
  | some r=>
   obtain ⟨v1,bj,ni⟩:=r;simp only [hc] at hv
   cases hs:nH tm hp bj rs with
   | false=>rw [hs] at hv;cases hv
   | true=>
    rw [hs] at hv;simp only [yz,yb,yk] at hv;obtain ⟨rfl,rfl,rfl⟩:=hv
    exact P6 (q':= .aT s b x y) (aeM hq) hc
 | st s x y=>subst bH;exact write (by simpa only [a7] using hv)
 | oh kk x y z=>subst bH;exact write (by simpa only [a7] using hv)
 | ot x=>subst bH;exact write (by simpa only [a7] using hv)
 | aT s b x y=>subst bH;exact write (by simpa only [a7] using hv)
 | ox s x y=>subst bH;exact write (by simpa only [a7] using hv)
 | og k x lo hi=>subst bH;exact quiet (by cases k<;>simp [bm])
 | len k x=>subst bH;exact quiet (by rcases k with _ | _ | k<;>simp [bm])
 | _=>subst bH;exact quiet (by simp [bm])
end
end
section
open Go
def nT (tm:Env) (g:Option (Nat×Bool)):Option Bool:=
 match g with
 | none=>some true
 | some (t,b)=>match aj tm t with | .bool c=>some (c==b) | .aa []=>some false | _=>none
def eD (P:aK) (L:Lib) (self:cm) (tm:Env) (hp:Hp) (ct:Nat) (r:aZ):fQ:=
 match nT tm r.guard with
 | some true=>a7 P L self tm hp ct r.op
 | some false=>some (.aa [],hp,ct)
 | none=>none
def Zc {P:aK} {L:Lib} {self:cm} {r:aZ} {rs:List aZ} {s:St}:
  db P L self (r::rs) s=match eD P L self s.tm s.hp s.ct r with | some (v,hp,ct)=>db P L self rs {s with tm:=put r.dst v s.tm,hp:=hp,ct:=ct} | none=>none:=by
 obtain ⟨d,g,o⟩:=r;simp only [db,eD]
 cases g with
 | none=>rfl
 | some q=>
  obtain ⟨t,b⟩:=q;simp only [nT];generalize aj s.tm t=x
  cases x with
  | bool c=>
   simp only;cases (c==b)<;>rfl
  | aa vs=>cases vs<;>rfl
  | _=>rfl
def abJ (ops:Array y7) (g:Option (Nat×Bool)) (g':Option (Nat×Bool)):Prop:=
 (g=none/\g'=none)\/∃t b j,g=some (t,b)/\g'=some (j,b)/\(ops[j]?).bind (·.dst)=some t
structure KZ (P:y8) (H:Hint) (ops:Array y7) (r:aZ) (o:y7):Prop where
 op:nY P H r.op o
 dst:r.dst=o.dst
 ok:G9 H o.dst=true
 guard:abJ ops r.guard o.guard
def fF (P:y8) (H:Hint) (ops:Array y7):List aZ->List y7->Prop
 | [],[]=>True
 | r::rs,o::l=>(KZ P H ops r o\/(r.guard=none/\r.op=bad))/\fF P H ops rs l
 | _,_=>False
def Zd {P:y8} {H:Hint} {ops:Array y7}:∀(l:List y7) (k:Nat),fF P H ops (A6 P H ops l k).1 l
 | [],k=>by simp [A6,fF]
 | o::l,k=>by
  have ih:=Zd (P:=P) (H:=H) (ops:=ops) l (k+(bif P2 o then 1 else 0));simp only [A6];generalize hq:A6 P H ops l (k+(bif P2 o then 1 else 0))=q at ih;obtain ⟨l',k'⟩:=q;simp only;have Q8:fF P H ops (⟨o.dst,none,bad⟩::l') (o::l):=⟨.inr ⟨rfl,rfl⟩,ih⟩
  cases hg:o.guard with
  | none=>
   simp only
   cases hd:G9 H o.dst with
   | false=>exact Q8
   | true=>exact ⟨.inl ⟨.inl ⟨k,rfl⟩,rfl,hd,.inl ⟨rfl,hg⟩⟩,ih⟩
  | some p=>
   obtain ⟨j,b⟩:=p;simp only
   cases ht:(ops[j]?).bind (·.dst) with
   | none=>exact Q8
   | some t=>
    simp only
    cases hd:G9 H o.dst with
    | false=>exact Q8
    | true=>exact ⟨.inl ⟨.inl ⟨k,rfl⟩,rfl,hd,.inr ⟨t,b,j,rfl,hg,ht⟩⟩,ih⟩
section
variable {O:a8} {H:Hint} {m:Mp} {S:Nat->Prop} {w:yi} {tm:Env} {a:Act} {hp ap:Hp} {ct aX:Nat} {self:cm} {ro:Option Nat} {Q:vO->Act->yi->Prop} {ops:Array y7}
def Pj {d:Option Nat} {v:AV} {tm:Env} {t:Nat}:aj (put d v tm) t=if d=some t then v else aj tm t:=by
 cases d with
 | none=>simp [put]
 | some i=>
  simp only [put,aj];by_cases h:i=t
  ·subst h;simp
  ·have:yq i t=false:=by
    cases hq:yq i t with
    | false=>rfl
    | true=>exact absurd (yj hq) h
   simp [this,h]
def Kc (a:Act) (d:Option Nat) (u:yg):(a.put d u).tmps.size=a.tmps.size:=by
 cases d with
 | none=>rfl
 | some i=>simp [Act.put]
def OH (a:Act) (d:Option Nat) (u:yg):(a.put d u).defers=a.defers:=by
 cases d with
 | none=>rfl
 | some i=>rfl
def Pk {a:Act} {d:Option Nat} {u:yg} {t:Nat} (hd:∀i,d=some i->i<a.tmps.size):(a.put d u).tmps.getD t undef=if d=some t then u else a.tmps.getD t undef:=by
 cases d with
 | none=>simp [Act.put]
 | some i=>
  have hi:=hd i rfl;by_cases h:i=t
  ·subst h;simp [Act.put,hi]
  ·simp only [Act.put,yb,h,xj];simp [Array.getElem?_setIfInBounds_ne h]
def aaI {n:Nat} {d:Option Nat} (h:G9 H d=true) (hn:H.n<=n):∀i,d=some i->i<n:=by
 rintro i rfl
 have:=rK.1 h
 omega
def Pm {d:Option Nat} {v:AV} {u:yg} (ht:bS O m S w tm a.tmps) (hd:∀i,d=some i->i<a.tmps.size) (hv:ah O.af m S w v u):bS O m S w (put d v tm) (a.put d u).tmps:=fun t=>by
 rw [Pj,Pk hd]
 split
 ·exact hv
 ·exact ht t
def ZY {o:y7} {g:Option (Nat×Bool)} {b:Bool} (hg:abJ ops g o.guard) (ht:∀t,t∈Qt g->ah O.af m S w (aj tm t) (a.tmps.getD t undef)) (hw:nT tm g=some b):Region.wanted o (yielded ops a.tmps)=b:=by
 rcases hg with ⟨rfl,h2⟩ | ⟨t,c,j,rfl,h2,h3⟩
 ·simp only [nT,yb] at hw;subst hw;simp [Region.wanted,h2]
 ·simp only [nT] at hw;have h4:=ht t (by simp [Qt]);simp only [Region.wanted,h2]
  split at hw
  ·rename_i d hd;rw [hd] at h4;simp only [ah] at h4;simp only [yb] at hw
   have:yielded ops a.tmps j=some d:=by
    simp only [yielded,h3,xX];have h5:a.tmps[t]? =some (.bool d):=by
     simp only [wC] at h4
     cases hq:a.tmps[t]? with
     | none=>rw [hq] at h4;simp [undef] at h4
     | some x=>rw [hq] at h4;simp at h4;rw [h4]
    rw [h5]
   rw [this,<-hw];cases d<;>cases c<;>rfl
  ·rename_i hd;rw [hd] at h4;simp only [ah,au] at h4;obtain ⟨xs,h4,h5⟩:=h4;simp only [yb] at hw;subst hw
   have:yielded ops a.tmps j=none:=by
    simp only [yielded,h3,xX];simp only [wC] at h4
    cases hq:a.tmps[t]? with
    | none=>rfl
    | some x=>rw [hq] at h4;simp at h4;rw [h4]
   rw [this];rfl
  ·cases hw
def YO {o:y7} {q:Op} (hq:nY O.P H q o) {r:AV×Hp×Nat} (hv:a7 O.prog O.az self tm hp ct q=some r):∀c,o.op≠.defer c:=by
 rcases hq with ⟨k,rfl⟩ | ⟨c,f,rs,h1,_,_⟩ | ⟨_,_,_,_,_,h1,_,_⟩ | ⟨k,rs,sz,b,x,y,h1,rfl⟩ | ⟨k,sz,b,x,y,h1,rfl⟩
 ·exact amc hv
 ·intro c' h;rw [h1] at h;cases h
 ·intro c' h;rw [h1] at h;cases h
 ·intro c' h;simp only [aR,h] at h1;simp [bad] at h1
 ·intro c' h;simp only [aR,h] at h1;simp [bad] at h1
def aq4 (hC:mv O self) (hH:eQ O H) {i:Nat} {r:aZ} {o:y7} {v:AV} (hi:ops[i]? =some o) (hr:KZ O.P H ops r o\/(r.guard=none/\r.op=bad)) (hv:eD O.prog O.az self tm hp ct r=some (v,ap,aX))
  (ht:bS O m S w tm a.tmps) (hh:aP O m S w hp ct) (hn:H.n<=a.tmps.size) {K:Act->yi->Prop}
  (hK:∀u m' S' w',aP O m' S' w' ap aX->ct<=aX->bS O m' S' w' (put r.dst v tm) (a.put o.dst u).tmps->bY m S w hp m' S' w' ap ct->K (a.put o.dst u) w'):wpOpIn (WF ro) 0 O.P ops Q i K a w:=by
 rcases hr with hr | ⟨h1,h2⟩
 case inr=>
  simp only [eD,h1,nT,h2,bad,a7,ep,ay] at hv;cases hv
 unfold wpOpIn;simp only [hi];unfold eD at hv
 cases hw:nT tm r.guard with
 | none=>simp [hw] at hv
 | some b=>
  have Xg:=ZY hr.guard (fun t _=>ht t) hw;have hd:=aaI hr.ok hn;rw [Xg]
  cases b with
  | true=>
   simp only [hw] at hv;simp only [xO];refine aaH hC hH hr.op (YO hr.op hv) hv ht hh (fun u m' S' w' k1 k2 k3 k4=>hK u m' S' w' k1 k2 ?_ k4);rw [hr.dst];exact Pm (zi (fun id p h=>k4.old id p (hh.lt id p h) h) k4.sub (fun b hb=>k4.still b hb) ht) hd k3
  | false=>
   simp only [hw,yb,yk] at hv;obtain ⟨rfl,rfl,rfl⟩:=hv;simp only [yC,xj];refine ⟨fun _ _=>trivial,hK undef m S w hh (yB _) ?_ bY.refl⟩;rw [hr.dst];exact Pm ht hd (by simp [ah,au,undef])
def abK (hC:mv O self) (hH:eQ O H):∀(l:List y7) (rs:List aZ) (i:Nat) (s s':St) (a:Act) (m:Mp) (S:Nat->Prop) (w:yi),(∀j,l[j]? =ops[i+j]?)->fF O.P H ops rs l->
  db O.prog O.az self rs s=some s'->bS O m S w s.tm a.tmps->aP O m S w s.hp s.ct->H.n<=a.tmps.size->
  (∀a' m' S' w',aP O m' S' w' s'.hp s'.ct->s.ct<=s'.ct->bS O m' S' w' s'.tm a'.tmps->bY m S w s.hp m' S' w' s'.hp s.ct->a'.tmps.size=a.tmps.size->a'.defers=a.defers->s'.base=s.base->Q .normal a' w')->
  wpOpsIn (WF ro) 0 O.P ops Q (List.range' i l.length) a w
 | [],rs,i,s,s',a,m,S,w,hl,hr,hv,ht,hh,hn,hQ=>by
  cases rs with
  | cons _ _=>simp [fF] at hr
  | nil=>
   simp only [db,yb] at hv;subst hv;simp only [yR,List.range'_zero,wpOpsIn];exact hQ a m S w hh (yB _) ht bY.refl rfl rfl rfl
 | o::l,rs,i,s,s',a,m,S,w,hl,hr,hv,ht,hh,hn,hQ=>by
  cases rs with
  | nil=>simp [fF] at hr
  | cons r rs=>
   simp only [fF] at hr;rw [Zc] at hv
   cases h1:eD O.prog O.az self s.tm s.hp s.ct r with
   | none=>simp [h1] at hv
   | some q=>
    obtain ⟨v,bj,ni⟩:=q;simp only [h1] at hv;have hi:ops[i]? =some o:=by have:=hl 0;simpa using this.symm
    rw [yO,List.range'_succ,wpOpsIn_cons];refine aq4 hC hH hi hr.1 h1 ht hh hn (fun u m1 S1 w1 k1 k2 k3 k4=>?_)
    refine abK hC hH l rs (i+1) {s with tm:=put r.dst v s.tm,hp:=bj,ct:=ni} s' _ m1 S1 w1 (fun j=>?_) hr.2 hv k3 k1 (by rw [Kc];exact hn) (fun a' m' S' w' g1 g2 g3 g4 g5 g6 g7=>?_)
    ·have:=hl (j+1)
     rw [List.getElem?_cons_succ] at this;rw [this];congr 1;omega
    ·exact hQ a' m' S' w' g1 (xb k2 g2) g3 (k4.trans (g4.qw k2)) (by rw [g5,Kc]) (by rw [g6,OH]) g7
end
end
section
open Go
section
variable {ops:Array y7}
def Ow {acc:List Nat} {i:Nat}:∀{es:List Edge},uY (zD acc es) i=true->∃e,e∈es/\Region.binds .any e=true/\(i=e.on\/uY (acc.getD e.on 0) i=true)
 | [],h=>by simp [zD] at h
 | e::r,h=>by
  simp only [zD] at h
  cases hb:Region.binds .any e with
  | false=>
   rw [hb] at h;obtain ⟨e',h1,h2⟩:=Ow h
   grind
  | true=>
   rw [hb] at h;simp only [yz,Nat.testBit_or,tL] at h;rcases h with (h | h) | h
   ·grind
   ·grind
   ·obtain ⟨e',h1,h2⟩:=Ow h
    grind
def ZZ {l:List y7} {acc:List Nat} {j:Nat} (hj:j<acc.length):(jG acc l)[j]? =acc[j]? :=by
 induction l generalizing acc with
 | nil=>rfl
 | cons o l ih=>
  simp only [jG]
  grind
def amj {l:List y7} {acc:List Nat} {j:Nat} {o:y7} (h:l[j]? =some o):∃BI:List Nat,(jG acc l)[acc.length+j]? =some (zD BI o.after.toList)/\BI.length=acc.length+j/\∀k,k<BI.length->BI[k]? =(jG acc l)[k]? :=by
 induction l generalizing acc j with
 | nil=>simp at h
 | cons x l ih=>
  cases j with
  | zero=>
   simp only [vE,yb] at h;subst h;refine ⟨acc,?_,by simp,fun k hk=>?_⟩
   ·simp only [jG];rw [ZZ (by simp)]
    simp
   ·simp only [jG];rw [ZZ (by rw [y5];omega),List.getElem?_append_left hk]
  | succ j=>
   obtain ⟨BI,h1,h2,h3⟩:=ih (acc:=acc++[zD acc x.after.toList]) h;simp only [y5,yO,yR] at h1 h2;refine ⟨BI,?_,by omega,fun k hk=>?_⟩
   ·simp only [jG]
    grind
   ·simp only [jG];exact h3 k hk
def Ord (ops:Array y7) (i j:Nat):Prop:=uY ((jG [] ops.toList).getD j 0) i=true
def P7 (ops:Array y7) (D:Nat->Prop):Prop:=∀j o,ops[j]? =some o->D j->∀e,e∈o.after->Region.binds .any e=true->D e.on
def Z0 {D:Nat->Prop} (hc:P7 ops D):∀(j:Nat) (o:y7),ops[j]? =some o->(∀e,e∈o.after->Region.binds .any e=true->D e.on)->∀i,Ord ops i j->D i:=by
 intro j
 induction j using vh with
 | _ j ih=>
  intro o ho hr i hi;have je:ops.toList[j]? =some o:=by simp_all
  obtain ⟨BI,h1,h2,h3⟩:=amj (acc:=[]) je;simp only [yR,yh] at h1 h2;unfold Ord at hi;rw [xG,h1,uG] at hi;obtain ⟨e,g1,g2,g3⟩:=Ow hi;have he:D e.on:=hr e (by simpa using g1) g2;rcases g3 with rfl | g3
  ·grind
  ·rcases wX e.on j with aG | iv
   ·have h4:=h3 e.on (by omega);have hol:e.on<ops.size:=by
     grind
    have Xc:ops[e.on]? =some ops[e.on]:=by simp_all
    refine ih e.on aG _ Xc (fun e' he' bC=>hc e.on _ Xc he e' he' bC) i ?_;unfold Ord
    grind
   ·grind
def ao5 {D:Nat->Prop} (hc:P7 ops D) {i j:Nat} {o:y7} (ho:ops[j]? =some o) (hj:D j) (hi:Ord ops i j):D i:=
 Z0 hc j o ho (fun e he hb=>hc j o ho hj e he hb) i hi
def Yy:∀{l:List y7} {k j:Nat} {o:y7},zh l k=true->l[j]? =some o->∀e,e∈o.after->Region.binds .any e=true->e.on<k+j
 | [],k,j,o,_,h=>by simp at h
 | x::l,k,j,o,hb,h=>by
  simp only [zh,yf] at hb
  cases j with
  | zero=>
   simp only [vE,yb] at h;subst h;intro e he pK
   have:=List.all_eq_true.1 hb.1 e (by simpa using he)
   simp_all
  | succ j=>
   intro e he pK
   have:=Yy hb.2 h e he pK
   omega
end
def Lv (a b:aZ) (r:List aZ):Prop:=J5 a b=false/\(FU a b=false\/Gf a b r=true)
def YA {m:Nat} {b:aZ}:∀{l:List aZ} {k i:Nat} {a:aZ},J6 m b l k=true->l[i]? =some a->uY m (k+i)=true\/Lv a b (l.drop (i+1))
 | [],k,i,a,_,h=>by simp at h
 | x::l,k,i,a,hp,h=>by
  simp only [J6,yf] at hp
  cases i with
  | zero=>
   simp only [vE,yb] at h;subst h;have h1:=hp.1;simp only [tL,uL,yaq,Bool.and_eq_false_iff,Bool.not_eq_false'] at h1;rcases h1 with h1 | ⟨h1,h2⟩
   ·grind
   ·exact .inr ⟨h1,by simpa using h2⟩
  | succ i=>
   rcases YA hp.2 h with h1 | h1
   ·grind
   ·grind
def YD:∀{l done:List aZ} {ms:List Nat} {i j:Nat} {a b:aZ},rI done l ms=true->(done++l)[i]? =some a->l[j]? =some b->i<done.length+j->
  ∃m,ms[j]? =some m/\(uY m i=true\/Lv a b (((done++l).take (done.length+j)).drop (i+1)))
 | [],done,ms,i,j,a,b,_,_,h,_=>by simp at h
 | x::l,done,[],i,j,a,b,hp,_,h,_=>by simp [rI] at hp
 | x::l,done,m::ms,i,j,a,b,hp,ha,h,Xh=>by
  simp only [rI,yf] at hp
  cases j with
  | zero=>
   have Cg:done[i]? =some a:=by grind
   have:=YA hp.1 Cg
   grind
  | succ j=>
   have e:done++x::l=(done++[x])++l:=by simp
   obtain ⟨m',h1,h2⟩:=YD (i:=i) (a:=a) hp.2 (by rw [<-e];exact ha) h (by simp;omega)
   grind
def Jv {a b:aZ} (h:J5 a b=false):(∀d,a.dst=some d->d∉Bc b/\b.dst≠some d)/\(∀d,b.dst=some d->d∉Bc a):=by
 have mem:∀{i:Nat} {l:List Nat},kx i l=false->i∉l:=by
  intro i l
  induction l with
  | nil=>intro _ h;cases h
  | cons j r ih=>
   intro h hm;simp only [kx] at h
   cases hb:yq j i with
   | true=>rw [hb] at h;cases h
   | false=>
    simp_all
 simp only [J5,yaq] at h;obtain ⟨⟨h1,h2⟩,h3⟩:=h;refine ⟨fun d hd=>⟨mem (by simpa [hd,Dm] using h1),fun hb=>?_⟩,fun d hd=>mem (by simpa [hd,Dm] using h2)⟩;rw [hd,hb] at h3;simp [afW] at h3
def Ze {t:Nat}:∀{l:List aZ},Bw t l=true->∀r,r∈l->r.dst≠some t
 | [],_,r,h=>by cases h
 | x::l,h,r,hr=>by
  simp only [Bw,yf,uL] at h;rcases wV.1 hr with rfl | hr
  ·intro hd;rw [hd] at h;simp [Dm,kx] at h
  ·exact Ze h.2 r hr
def JT {sz t:Nat} {ag:Bool}:∀{l:List (Nat×Bool×Nat)},BF sz ag t l=true->(sz,ag,t)∈l
 | [],h=>by simp [BF] at h
 | (s,g,u)::r,h=>by
  simp only [BF,tL,yf] at h;rcases h with ⟨h1,h2,h3⟩ | h
  ·simp_all
  ·exact vt _ (JT h)
def Pn:∀{a b:List Nat},cG a b=true->a=b
 | [],[],_=>rfl
 | [],_::_,h=>by simp [cG] at h
 | _::_,[],h=>by simp [cG] at h
 | x::a,y::b,h=>by
  simp only [cG,yf] at h;rw [yj h.1,Pn h.2]
def ani {a b:AV} (h:Q0 a b=true):a=b:=by
 unfold Q0 at h
 split at h
 ·grind
 ·grind
 ·rw [Pn h]
 ·rfl
 ·rfl
 ·simp_all
 ·simp_all
 ·simp_all
 ·cases h
def On {tm:Env} {hp ap:Hp} {sz t:Nat} {ag:Bool} {v:AV}:∀{l:List (Nat×Bool×Nat)},nH tm hp ap l=true->(sz,ag,t)∈l->iM hp sz ag (aj tm t)=some v->iM ap sz ag (aj tm t)=some v
 | [],_,h,_=>by cases h
 | (s,g,u)::r,h,hm,hv=>by
  simp only [nH] at h
  cases h1:iM hp s g (aj tm u) with
  | none=>simp [h1] at h
  | some x=>
   cases h2:iM ap s g (aj tm u) with
   | none=>simp [h1,h2] at h
   | some y=>
    simp only [h1,h2,yf] at h;rcases wV.1 hm with e | hm
    ·simp only [yk] at e;obtain ⟨rfl,rfl,rfl⟩:=e;rw [h1] at hv;rw [h2,<-ani h.1,hv]
    ·exact On h.2 hm hv
structure Lw (P:aK) (L:Lib) (run:cm) (rs:List aZ) (bQ:Nat->Env) (bF:Nat->Hp) (bB:Nat->Nat) (vF:Nat->AV):Prop where
 step:∀i r,rs[i]? =some r->eD P L run (bQ i) (bF i) (bB i) r=some (vF i,bF (i+1),bB (i+1))
 tm:∀i r,rs[i]? =some r->bQ (i+1)=put r.dst (vF i) (bQ i)
def abL {P:aK} {L:Lib} {self:cm}:∀{rs:List aZ} {s s':St},db P L self rs s=some s'->
  ∃bQ bF bB vF,Lw P L self rs bQ bF bB vF/\bQ 0=s.tm/\bF 0=s.hp/\bB 0=s.ct/\bQ rs.length=s'.tm/\bF rs.length=s'.hp/\bB rs.length=s'.ct/\s'.base=s.base
 | [],s,s',h=>by
  simp only [db,yb] at h;subst h;exact ⟨fun _=>s.tm,fun _=>s.hp,fun _=>s.ct,fun _=> .undef,⟨fun i r h=>by simp at h,fun i r h=>by simp at h⟩,rfl,rfl,rfl,rfl,rfl,rfl,rfl⟩
 | r::rs,s,s',h=>by
  rw [Zc] at h
  cases h1:eD P L self s.tm s.hp s.ct r with
  | none=>simp [h1] at h
  | some q=>
   obtain ⟨v,bj,ni⟩:=q;simp only [h1] at h;obtain ⟨bQ,bF,bB,vF,g1,g2,g3,g4,g5,g6,g7,g8⟩:=abL h;refine ⟨fun i=>match i with | 0=>s.tm | i+1=>bQ i,fun i=>match i with | 0=>s.hp | i+1=>bF i,fun i=>match i with | 0=>s.ct | i+1=>bB i,fun i=>match i with | 0=>v | i+1=>vF i,⟨?_,?_⟩,rfl,rfl,rfl,by simpa using g5,by simpa using g6,by simpa using g7,g8⟩
   ·intro i r' hi
    cases i with
    | zero=>
     grind
    | succ i=>exact g1.step i r' (by simpa using hi)
   ·intro i r' hi
    cases i with
    | zero=>
     grind
    | succ i=>exact g1.tm i r' (by simpa using hi)
section
variable {P:aK} {L:Lib} {self:cm} {rs:List aZ} {bQ:Nat->Env} {bF:Nat->Hp} {bB:Nat->Nat} {vF:Nat->AV}
def FX (hR:Lw P L self rs bQ bF bB vF) {t i:Nat}:∀(k:Nat),i+k<=rs.length->(∀j r,i<=j->j<i+k->rs[j]? =some r->r.dst≠some t)->aj (bQ (i+k)) t=aj (bQ i) t
 | 0,_,_=>rfl
 | k+1,hk,h=>by
  have hr:rs[i+k]? =some rs[i+k]:=by simp_all
  rw [show i+(k+1)=i+k+1 by omega,hR.tm _ _ hr,Pj,yv (h (i+k) _ (by omega) (by omega) hr)];exact FX hR k (by omega) (fun j r h1 h2=>h j r h1 (by omega))
def Z1 {r:aZ} {tm:Env} {hp ap:Hp} {ct aX:Nat} {v:AV} (hk:bm r.op<=1) (hv:eD P L self tm hp ct r=some (v,ap,aX)) (aG:∀id o,aA hp id=some o->id<ct):gM hp ct ap aX:=by
 unfold eD at hv
 cases hw:nT tm r.guard with
 | none=>simp [hw] at hv
 | some b=>
  cases b with
  | true=>simp only [hw] at hv;exact YN hk hv aG
  | false=>
   simp only [hw,yb,yk] at hv;obtain ⟨rfl,rfl,rfl⟩:=hv;exact gM.refl aG
def JU (hR:Lw P L self rs bQ bF bB vF) {i:Nat} (aG:∀id o,aA (bF i) id=some o->id<bB i):∀(k:Nat),i+k<=rs.length->(∀j r,i<=j->j<i+k->rs[j]? =some r->bm r.op<=1)->gM (bF i) (bB i) (bF (i+k)) (bB (i+k))
 | 0,_,_=>gM.refl aG
 | k+1,hk,h=>by
  have ih:=JU hR aG k (by omega) (fun j r h1 h2=>h j r h1 (by omega));have hr:rs[i+k]? =some rs[i+k]:=by simp_all
  exact ih.trans (Z1 (h (i+k) _ (by omega) (by omega) hr) (hR.step _ _ hr) ih.lt)
end
end
section
open Go
def Kd {tm:Env} {t:Nat}:∀{l:List Nat},t∈l->aj (dF tm l) t=aj tm t
 | [],h=>by cases h
 | i::r,h=>by
  simp only [dF,aj]
  cases hb:yq i t with
  | true=>rw [yj hb];rfl
  | false=>
   rcases wV.1 h with e | h
   ·simp_all
   ·exact Kd h
def anj {P:aK} {L:Lib} {self:cm} {tm bU:Env} {hp:Hp} {ct:Nat} {o:Op} {r:AV×Hp×Nat} (h:∀t,t∈jm o->aj bU t=aj tm t) (hv:a7 P L self tm hp ct o=some r):a7 P L self bU hp ct (ia o)=some r:=by
 cases o with
 | gZ rs f xs=>
  simp only [jm,wy] at h;simp only [ia,a7] at hv ⊢
  rw [dd (x:=f) fun t ht=>h t (.inl ht),AY (xs:=xs) fun t ht=>h t (.inr ht)]
  cases hc:ep P L self hp ct .dyn (ay tm f) (cW tm xs) with
  | none=>simp [hc] at hv
  | some q=>
   obtain ⟨v1,bj,ni⟩:=q;simp only [hc] at hv
   cases hs:nH tm hp bj rs with
   | false=>rw [hs] at hv;cases hv
   | true=>
    rw [hs] at hv;simpa only [nH,yz] using hv
 | jw rs sz x v=>
  simp only [ia,a7] at hv ⊢
  rw [AW (o:= .st sz x v) (tm:=tm) h]
  split at hv
  ·rename_i id off hx
   cases hf:mw tm id rs with
   | false=>rw [hf] at hv;cases hv
   | true=>rw [hf] at hv;exact hv
  ·cases hv
 | jO rs sz b x v=>
  simp only [ia,a7] at hv ⊢
  rw [AW (o:= .aT sz b x v) (tm:=tm) h]
  cases hc:cw tm hp ct (.aT sz b x v) with
  | none=>simp [hc] at hv
  | some q=>
   obtain ⟨v1,bj,ni⟩:=q;simp only [hc] at hv
   cases hs:nH tm hp bj rs with
   | false=>rw [hs] at hv;cases hv
   | true=>rw [hs] at hv;exact hv
 | ow sz b x v=>
  rw [<-hv];simp only [jm,wy] at h;simp only [ia,a7]
  rw [dd (x:=x) fun t ht=>h t (.inl ht),dd (x:=v) fun t ht=>h t (.inr ht)]
 | call md f xs=>
  rw [<-hv];simp only [jm,wy] at h;simp only [ia,a7]
  rw [dd (x:=f) fun t ht=>h t (.inl ht),AY (xs:=xs) fun t ht=>h t (.inr ht)]
 | st s x y=>rw [<-hv];simp only [ia,a7];exact AW h
 | oh kk x y z=>rw [<-hv];simp only [ia,a7];exact AW h
 | ot x=>rw [<-hv];simp only [ia,a7];exact AW h
 | aT s b x y=>rw [<-hv];simp only [ia,a7];exact AW h
 | ox s x y=>rw [<-hv];simp only [ia,a7];exact AW h
 | box s x=>rw [<-hv];simp only [ia,a7];rw [FL (hp:=hp) h]
 | lf n s z ps=>rw [<-hv];simp only [ia,a7];rw [FL (hp:=hp) h]
 | mX s b z x y=>rw [<-hv];simp only [ia,a7];rw [FL (hp:=hp) h]
 | sH=>exact hv
 | ol x=>rw [<-hv];simp only [ia,a7];rw [FL (hp:=hp) h]
 | _=>rw [<-hv];simp only [ia,a7];rw [alE h]
def aaJ {P:aK} {L:Lib} {self:cm} {tm:Env} {hp ap:Hp} {ct aX:Nat} {q:Op} {v:AV} (hk:bm q=0\/∃sz ag x,q= .ld sz ag x) (hv:a7 P L self tm hp ct q=some (v,ap,aX)):bl tm hp q=some v/\ap=hp/\aX=ct:=by
 have fR:∀{q:Op},(match bl tm hp q with | some v=>some (v,hp,ct) | none=>(none:fQ))=some (v,ap,aX)->bl tm hp q=some v/\ap=hp/\aX=ct:=by
  intro q h
  cases hm:bl tm hp q with
  | none=>simp [hm] at h
  | some r=>
   simp only [hm,yb,yk] at h;obtain ⟨rfl,rfl,rfl⟩:=h;exact ⟨rfl,rfl,rfl⟩
 rcases hk with hk | ⟨sz,ag,x,rfl⟩
 ·cases bH:q with
  | call md f xs=>subst bH;cases md<;>simp [bm] at hk
  | gZ rs f xs=>subst bH;simp [bm] at hk
  | jw rs s x y=>subst bH;simp [bm] at hk
  | jO rs s b x y=>subst bH;simp [bm] at hk
  | ow s b x y=>subst bH;simp [bm] at hk
  | st s x y=>subst bH;simp [bm] at hk
  | oh kk x y z=>subst bH;simp [bm] at hk
  | ot x=>subst bH;simp [bm] at hk
  | aT s b x y=>subst bH;simp [bm] at hk
  | ox s x y=>subst bH;simp [bm] at hk
  | box s x=>subst bH;simp [bm] at hk
  | lf n s z ps=>subst bH;simp [bm] at hk
  | mX s b z x y=>subst bH;simp [bm] at hk
  | sH=>subst bH;simp [bm] at hk
  | ol x=>subst bH;simp [bm] at hk
  | _=>exact bH▸fR (q:=q) (by rw [bH] at hv ⊢;simp only [a7] at hv;exact hv)
 ·exact fR (q:= .ld sz ag x) (by simp only [a7] at hv;exact hv)
section
variable {O:a8} {H:Hint} {ops:Array y7} {rs:List aZ} {bQ:Nat->Env} {bF:Nat->Hp} {bB:Nat->Nat} {vF:Nat->AV} {self:cm} {ro:Option Nat} {Q:vO->Act->yi->Prop}
structure qt (O:a8) (H:Hint) (slf:cm) (ops:Array y7) (rs:List aZ) (bQ:Nat->Env) (bF:Nat->Hp) (bB:Nat->Nat) (vF:Nat->AV):Prop where
 run:Lw O.prog O.az slf rs bQ bF bB vF
 len:rs.length=ops.size
 of:∀(i:Nat) (r:aZ) (o:y7),rs[i]? =some r->ops[i]? =some o->KZ O.P H ops r o
 pair:∀(i j:Nat) (a b:aZ),i<j->rs[i]? =some a->rs[j]? =some b->Ord ops i j\/Lv a b ((rs.take j).drop (i+1))
 back:∀(i:Nat) (o:y7),ops[i]? =some o->∀e,e∈o.after->Region.binds .any e=true->e.on<i
def jg (rs:List aZ) (i:Nat):Prop:=∃r,rs[i]? =some r/\bm r.op=2
def P8 (rs:List aZ):∀(k i:Nat),i+k=rs.length->∃c,i<=c/\c<=rs.length/\(∀j,i<=j->j<c->¬jg rs j)/\(c=rs.length\/jg rs c)
 | 0,i,h=>⟨i,yB _,by omega,fun j h1 h2=>by omega,.inl (by omega)⟩
 | k+1,i,h=>by
  rcases um (jg rs i) with hw | hw
  ·grind
  ·obtain ⟨c,h1,h2,h3,h4⟩:=P8 rs k (i+1) (by omega)
   grind
def Gi {rs:List aZ} {i:Nat} {r:aZ} (hr:rs[i]? =some r) (hw:¬jg rs i):bm r.op<=1:=by
 have h:bm r.op≠2:=fun e=>hw ⟨r,hr,e⟩
 have:bm r.op<=2:=by
  cases r.op with
  | og k x lo hi=>cases k<;>simp [bm]
  | len k x=>rcases k with _ | _ | k<;>simp [bm]
  | call md f xs=>cases md<;>simp [bm]
  | _=>simp [bm]
 omega
def NC (O:a8) (rs:List aZ) (bQ:Nat->Env) (D:Nat->Prop) (m:Mp) (S:Nat->Prop) (w:yi) (a:Act):Prop:=
 ∀t,∃j,j<=rs.length/\(∀(i:Nat) (r:aZ),rs[i]? =some r->r.dst=some t->(D i↔i<j))/\ah O.af m S w (aj (bQ j) t) (a.tmps.getD t undef)
def aq5 {D:Nat->Prop} {m:Mp} {S:Nat->Prop} {w:yi} {a:Act} {i:Nat} {r:aZ} (hG:qt O H self ops rs bQ bF bB vF) (hT:NC O rs bQ D m S w a) (hr:rs[i]? =some r) (hi:¬D i)
  (eF:∀j,Ord ops j i->D j) (fH:∀j,Ord ops i j->¬D j):∀t,t∈Bc r->ah O.af m S w (aj (bQ i) t) (a.tmps.getD t undef):=by
 intro t ht;obtain ⟨j,h1,h2,h3⟩:=hT t;have Ek:i<rs.length:=(wc.1 hr).1;have e:aj (bQ j) t=aj (bQ i) t:=by
  rcases Nat.le_total j i with hji | Xh
  ·obtain ⟨k,rfl⟩:∃k,i=j+k:=⟨i-j,by omega⟩;refine (FX hG.run k (by omega) (fun l rl g1 g2 hl hd=>?_)).symm;rcases hG.pair l (j+k) rl r (by omega) hl hr with ho | hf
   ·grind
   ·exact ((Jv hf.1).1 t hd).1 ht
  ·obtain ⟨k,rfl⟩:∃k,j=i+k:=⟨j-i,by omega⟩;refine FX hG.run k h1 (fun l rl g1 g2 hl hd=>?_);rcases wR g1 with rfl | g1
   ·grind
   ·rcases hG.pair i l r rl g1 hr hl with ho | hf
    ·grind
    ·exact (Jv hf.1).2 t hd ht
 grind
def abM {D D':Nat->Prop} {m m':Mp} {S S':Nat->Prop} {w w':yi} {a:Act} {i:Nat} {r:aZ} {u:yg} (hG:qt O H self ops rs bQ bF bB vF) (hT:NC O rs bQ D m S w a) (hr:rs[i]? =some r) (hi:¬D i)
  (eF:∀j,Ord ops j i->D j) (fH:∀j,Ord ops i j->¬D j) (hD:∀j,D' j↔D j\/j=i) (hm:cO m m') (hS:∀b,S b->S' b) (hw:fb S w w') (hd:∀d,r.dst=some d->d<a.tmps.size)
  (hv:ah O.af m' S' w' (vF i) u):NC O rs bQ D' m' S' w' (a.put r.dst u):=by
 intro t;have Ek:i<rs.length:=(wc.1 hr).1;by_cases IQ:r.dst=some t
 ·refine ⟨i+1,Ek,fun l rl hl Xi=>?_,?_⟩
  ·rw [hD];constructor
   ·rintro (h | h)
    ·rcases wX l (i+1) with g | g
     ·grind
     ·rcases hG.pair i l r rl (by omega) hr hl with ho | hf
      ·grind
      ·exact (((Jv hf.1).1 t IQ).2 Xi).elim
    ·omega
   ·intro h;rcases wR (vn h) with h | h
    ·grind
    ·rcases hG.pair l i rl r h hl hr with ho | hf
     ·grind
     ·exact (((Jv hf.1).1 t Xi).2 IQ).elim
  ·rw [hG.run.tm i r hr,Pj,Pk hd,yG IQ,yG IQ];exact hv
 ·obtain ⟨j,h1,h2,h3⟩:=hT t;refine ⟨j,h1,fun l rl hl Xi=>?_,?_⟩
  ·grind
  ·rw [Pk hd,yv IQ];exact jW hm hS hw _ _ h3
def YP {tm:Env} {hp ap:Hp} {ct aX id off sz Cf t:Nat} {ag:Bool} {x y:X} {v v':AV}:∀{l:List (Nat×Bool×Nat)},mw tm id l=true->(sz,ag,t)∈l->ay tm x= .ptr id off->
  cw tm hp ct (.st Cf x y)=some (v',ap,aX)->iM hp sz ag (aj tm t)=some v->iM ap sz ag (aj tm t)=some v
 | [],_,h,_,_,_=>by cases h
 | (s,g,u)::r,h,hm,hx,hw,hv=>by
  simp only [mw,yf] at h;rcases wV.1 hm with e | hm
  ·simp only [yk] at e;obtain ⟨rfl,rfl,rfl⟩:=e;have h1:=h.1
   split at h1
   ·rename_i j o hj;have fj:j≠id:=by
     intro e
     simp_all
    rw [hj] at hv ⊢;simp only [cw,hx] at hw;have key:∀ob,aA (bf hp id ob) j=aA hp j:=fun ob=>by rw [pX,yv (ych fj)]
    split at hw
    ·rename_i pu ex z cs El;generalize (yq _ _&&yy _ _&&cF _)=bb at hw
     cases bb with
     | false=>cases hw
     | true=>
      obtain ⟨_,rfl,_⟩:=hw;simp only [iM,key] at hv ⊢;exact hv
    ·cases hw
   ·rename_i cs hj;rw [hj] at hv ⊢;simpa only [iM] using hv
   ·cases h1
  ·exact YP h.2 hm hx hw hv
def YE {D:Nat->Prop} {i c:Nat} {r:aZ} {sz t:Nat} {ag:Bool} (hG:qt O H self ops rs bQ bF bB vF) (hr:rs[i]? =some r) (hi:¬D i) (Em:r.guard=none/\r.op= .ld sz ag (.t t)) (hc:c<=rs.length)
  (hW:∀j,j<c->jg rs j->D j) (fH:∀j,Ord ops i j->¬D j) (aG:∀j,j<=c->∀id o,aA (bF j) id=some o->id<bB j):∀k,i+1+k<=c->iM (bF (i+1+k)) sz ag (aj (bQ i) t)=some (vF i)
 | 0,hk=>by
  have h1:=hG.run.step i r hr;simp only [eD,Em.1,nT,Em.2] at h1;obtain ⟨h2,h3,h4⟩:=aaJ (.inr ⟨_,_,_,rfl⟩) h1;simp only [bl,ay] at h2;rw [Nat.add_zero,h3];exact h2
 | k+1,hk=>by
  have ih:=YE hG hr hi Em hc hW fH aG k (by omega);have hl:i+1+k<rs.length:=by omega
  have hj:rs[i+1+k]? =some rs[i+1+k]:=by simp [hl]
  have aU:=hG.run.step _ _ hj;rw [show i+1+(k+1)=i+1+k+1 by omega];rcases um (jg rs (i+1+k)) with hw | hw
  ·have hD:=hW _ (by omega) hw;rcases hG.pair i (i+1+k) r _ (by omega) hr hj with ho | hf
   ·exact (fH _ ho hD).elim
   ·obtain ⟨Ej,jA⟩:=hf;obtain ⟨eM,h5,h6⟩:=hw;rw [hj] at h5;injection h5 with h5
    subst h5;rcases jA with jA | jA
    ·have h1k:bm r.op=1:=by rw [Em.2];rfl
     simp only [FU,h1k,h6] at jA;cases jA
    ·unfold Gf at jA;simp only [Em.1,Em.2] at jA;generalize im:(rs[i+1+k]).op=q at jA;have Qx:Bw t (r::(rs.take (i+1+k)).drop (i+1))=true->aj (bQ (i+1+k)) t=aj (bQ i) t:=by
      intro ay4;have kJ:=Ze ay4;rw [show i+1+k=i+(1+k) by omega];refine FX hG.run (1+k) (by omega) (fun l rl g1 g2 Ch=>kJ rl ?_);rcases wR g1 with rfl | g1
      ·rw [hr] at Ch;injection Ch with Ch;subst Ch;exact uA
      ·refine vt _ ?_
       have:((rs.take (i+1+k)).drop (i+1))[l-(i+1)]? =some rl:=by
        rw [List.getElem?_drop,List.getElem?_take_of_lt (by omega),show i+1+(l-(i+1))=l by omega];exact Ch
       exact List.mem_of_getElem? this
     unfold eD at aU
     cases hg:nT (bQ (i+1+k)) (rs[i+1+k]).guard with
     | none=>simp [hg] at aU
     | some b=>
      cases b with
      | false=>
       simp only [hg,yb,yk] at aU;rw [<-aU.2.1];exact ih
      | true=>
       simp only [hg,im] at aU;cases q<;>simp only [yC] at jA
       case gZ Ci fx xs=>
        simp only [yf] at jA;have Hu:=JT jA.1;have Av:=Qx jA.2;simp only [a7] at aU
        cases gR:ep O.prog O.az self (bF (i+1+k)) (bB (i+1+k)) .dyn (ay (bQ (i+1+k)) fx) (cW (bQ (i+1+k)) xs) with
        | none=>simp [gR] at aU
        | some z=>
         obtain ⟨v1,bj,ni⟩:=z;simp only [gR] at aU
         cases hs:nH (bQ (i+1+k)) (bF (i+1+k)) bj Ci with
         | false=>rw [hs] at aU;cases aU
         | true=>
          rw [hs] at aU;simp only [yz,yb,yk] at aU;obtain ⟨_,h8,_⟩:=aU;rw [<-h8,<-Av];exact On hs Hu (by rw [Av];exact ih)
       case jw Ci Cf x v=>
        simp only [yf] at jA;have Hu:=JT jA.1;have Av:=Qx jA.2;simp only [a7] at aU
        split at aU
        ·rename_i id off hx
         cases hs:mw (bQ (i+1+k)) id Ci with
         | false=>rw [hs] at aU;cases aU
         | true=>
          rw [hs] at aU;simp only [yz] at aU;rw [<-Av];exact YP hs Hu hx aU (by rw [Av];exact ih)
        ·cases aU
       case jO Ci Cf b x v=>
        simp only [yf] at jA;have Hu:=JT jA.1;have Av:=Qx jA.2;simp only [a7] at aU
        cases gR:cw (bQ (i+1+k)) (bF (i+1+k)) (bB (i+1+k)) (.aT Cf b x v) with
        | none=>simp [gR] at aU
        | some z=>
         obtain ⟨v1,bj,ni⟩:=z;simp only [gR] at aU
         cases hs:nH (bQ (i+1+k)) (bF (i+1+k)) bj Ci with
         | false=>rw [hs] at aU;cases aU
         | true=>
          rw [hs] at aU;simp only [yz,yb,yk] at aU;obtain ⟨_,h8,_⟩:=aU;rw [<-h8,<-Av];exact On hs Hu (by rw [Av];exact ih)
  ·exact abE (Z1 (Gi hj hw) aU (aG _ (by omega))).le ih
structure Inv (O:a8) (ops:Array y7) (rs:List aZ) (bQ:Nat->Env) (bF:Nat->Hp) (bB:Nat->Nat) (D:Nat->Prop) (m0:Mp) (S0:Nat->Prop) (w0:yi) (n0:Nat) (d0:List tM) (st c:Nat) (m:Mp) (S:Nat->Prop) (w:yi) (a:Act):Prop where
 Xj:st<=c
 cn:c<=rs.length
 before:∀i,i<st->jg rs i->D i
 En:∀i,st<=i->i<c->¬jg rs i
 cut:c=rs.length\/(jg rs c/\¬D c)
 behind:∀(i:Nat) (r:aZ),c<=i->rs[i]? =some r->1<=bm r.op->¬D i
 hp:aP O m S w (bF c) (bB c)
 Xk:∀id p,m id=some p->id<bB st\/∃i,st<=i/\i<c/\D i/\bB i<=id/\id<bB (i+1)
 tm:NC O rs bQ D m S w a
 ND:bY m0 S0 w0 (bF 0) m S w (bF c) (bB 0)
 ge:bB 0<=bB c
 size:a.tmps.size=n0
 defers:a.defers=d0
 Eo:st=0\/jg rs (st-1)
 Ep:∀j,j<=c->∀id o,aA (bF j) id=some o->id<bB j
end
end
section
open Go
section
variable {O:a8} {H:Hint} {ops:Array y7} {rs:List aZ} {bQ:Nat->Env} {bF:Nat->Hp} {bB:Nat->Nat} {vF:Nat->AV} {self:cm} {ro:Option Nat} {Q:vO->Act->yi->Prop}
variable {D D':Nat->Prop} {m0:Mp} {S0:Nat->Prop} {w0:yi} {n0:Nat} {d0:List tM} {st c i:Nat} {m:Mp} {S:Nat->Prop} {w:yi} {a:Act} {r:aZ} {o:y7}
def JV (hG:qt O H self ops rs bQ bF bB vF) (hI:Inv O ops rs bQ bF bB D m0 S0 w0 n0 d0 st c m S w a) {x y:Nat} (hx:st<=x) (hxy:x<=y) (hy:y<=c):gM (bF x) (bB x) (bF y) (bB y):=by
 obtain ⟨k,rfl⟩:∃k,y=x+k:=⟨y-x,by omega⟩
 have:=hI.cn
 exact JU hG.run (hI.Ep x (by omega)) k (by omega) (fun j r h1 h2 hr=>Gi hr (hI.En j (by omega) (by omega)))
def Po (hG:qt O H self ops rs bQ bF bB vF) (hI:Inv O ops rs bQ bF bB D m0 S0 w0 n0 d0 st c m S w a) (hr:rs[i]? =some r) (hi:¬D i) (eF:∀j,Ord ops j i->D j) (fH:∀j,Ord ops i j->¬D j) (hD:∀j,D' j↔D j\/j=i)
  (hd:∀d,r.dst=some d->d<a.tmps.size) (hw:¬jg rs i) (sN:bm r.op=0\/i<c) {m':Mp} {S':Nat->Prop} {w':yi} {u:yg} (k1:aP O m' S' w' (bF c) (bB c)) (k2:cO m m')
  (k3:∀id p,m' id=some p->m id=some p\/(st<=i/\i<c/\bB i<=id/\id<bB (i+1))) (k4:ah O.af m' S' w' (vF i) u) (k5:bY m S w (bF c) m' S' w' (bF c) (bB c)):
  Inv O ops rs bQ bF bB D' m0 S0 w0 n0 d0 st c m' S' w' (a.put r.dst u) where
 Xj:=hI.Xj
 cn:=hI.cn
 before j hj Cj:=(hD j).2 (.inl (hI.before j hj Cj))
 En:=hI.En
 cut:=hI.cut.imp (fun h=>h) (fun h=>⟨h.1,fun hc=>((hD c).1 hc).elim h.2 (fun e=>hw (e▸h.1))⟩)
 behind j rj hj Cl hk IR:=((hD j).1 IR).elim (hI.behind j rj hj Cl hk) (fun e=>by
  subst e;rw [hr] at Cl;injection Cl with Cl
  subst Cl
  rcases sN with h | h<;>omega)
 hp:=k1
 Xk id p hp:=by
  rcases k3 id p hp with h | ⟨h1,h2,h3,h4⟩
  ·rcases hI.Xk id p h with h | ⟨j,g1,g2,g3,g4,g5⟩
   ·exact .inl h
   ·exact .inr ⟨j,g1,g2,(hD j).2 (.inl g3),g4,g5⟩
  ·exact .inr ⟨i,h1,h2,(hD i).2 (.inr rfl),h3,h4⟩
 tm:=abM hG hI.tm hr hi eF fH hD k2 k5.sub (fun b hb=>k5.still b hb) hd k4
 ND:=hI.ND.trans (k5.qw hI.ge)
 ge:=hI.ge
 size:=by rw [Kc];exact hI.size
 defers:=by rw [OH];exact hI.defers
 Eo:=hI.Eo
 Ep:=hI.Ep
def abN (hG:qt O H self ops rs bQ bF bB vF) (hI:Inv O ops rs bQ bF bB D m0 S0 w0 n0 d0 st c m S w a) (hr:rs[c]? =some r) (hi:¬D c) (eF:∀j,Ord ops j c->D j) (fH:∀j,Ord ops c j->¬D j) (hD:∀j,D' j↔D j\/j=c)
  (hd:∀d,r.dst=some d->d<a.tmps.size) (hw:jg rs c) {m':Mp} {S':Nat->Prop} {w':yi} {u:yg} (k1:aP O m' S' w' (bF (c+1)) (bB (c+1))) (k2:bB c<=bB (c+1))
  (k4:ah O.af m' S' w' (vF c) u) (k5:bY m S w (bF c) m' S' w' (bF (c+1)) (bB c)):
  ∃c' Ao,Inv O ops rs bQ bF bB D' m0 S0 w0 n0 d0 (c+1) c' m' Ao w' (a.put r.dst u):=by
 have gR:c<rs.length:=(wc.1 hr).1;obtain ⟨c',h1,h2,h3,h4⟩:=P8 rs (rs.length-(c+1)) (c+1) (by omega);obtain ⟨k,rfl⟩:∃k,c'=c+1+k:=⟨c'-(c+1),by omega⟩;have hg:∀k',k'<=k->gM (bF (c+1)) (bB (c+1)) (bF (c+1+k')) (bB (c+1+k')):=fun k' Ar=>
  JU hG.run k1.aG k' (by omega) (fun j r g1 g2 hr=>Gi hr (h3 j g1 (by omega)))
 obtain ⟨Ao,g1,g2,g3,g4⟩:=Kb k1 (hg k (yB _));have hml:cO m m':=fun id p h=>k5.old id p (hI.hp.lt id p h) h
 refine ⟨c+1+k,Ao,⟨by omega,h2,?_,h3,?_,?_,g1,fun id p h=> .inl (k1.lt id p h),?_,?_,?_,by rw [Kc];exact hI.size,by rw [OH];exact hI.defers,.inr (by simpa using hw),?_⟩⟩
 ·intro j hj Cj;rcases wR (vn hj) with e | hj
  ·exact (hD j).2 (.inr e)
  ·rcases wX j st with g | g
   ·exact (hD j).2 (.inl (hI.before j g Cj))
   ·exact (hI.En j g hj Cj).elim
 ·refine h4.imp (fun h=>h) (fun h=>⟨h,fun hc=>?_⟩);obtain ⟨rc,Xl,sN⟩:=h;rcases (hD _).1 hc with g | g
  ·exact hI.behind _ rc (by omega) Xl (by omega) g
  ·omega
 ·intro j rj hj Cl hk IR;rcases (hD j).1 IR with g | g
  ·exact hI.behind j rj (by omega) Cl hk g
  ·omega
 ·exact abM hG hI.tm hr hi eF fH hD hml (fun b hb=>g2 b (k5.sub b hb)) (fun b hb=>k5.still b hb) hd (jW (fun _ _ h=>h) g2 (fun _ _=>rfl) _ _ k4)
 ·exact (hI.ND.trans (k5.qw hI.ge)).trans (g4 (bB 0))
 ·have:=(hg k (yB _)).oA
  have:=hI.ge
  omega
 ·intro j hj;rcases wX c j with g | g
  ·obtain ⟨k',rfl⟩:∃k',j=c+1+k':=⟨j-(c+1),by omega⟩;exact (hg k' (by omega)).lt
  ·exact hI.Ep j g
def ao6 {q:Op} (h:bm q≠2):ia q=q:=by
 cases q<;>first
  | rfl
  | exact absurd rfl h
def Zf {x y:aZ} {l:List aZ} (h:Lv x y l):¬(bm x.op=2/\1<=bm y.op)/\(1<=bm x.op->bm y.op=2->x.guard=none/\∃sz ag t,x.op= .ld sz ag (.t t)):=by
 obtain ⟨_,h⟩:=h;have ex:Gf x y l=true->x.guard=none/\∃sz ag t,x.op= .ld sz ag (.t t):=by
  intro he;unfold Gf at he
  split at he
  ·rename_i sz ag t Ci fx xs h1 h2 h3;exact ⟨h1,sz,ag,t,h2⟩
  ·rename_i h1 h2 h3;exact ⟨h1,_,_,_,h2⟩
  ·rename_i h1 h2 h3;exact ⟨h1,_,_,_,h2⟩
  ·cases he
 have k2:∀q:Op,bm q<=2:=fun q=>by
  cases q with
  | og k x lo hi=>cases k<;>simp [bm]
  | len k x=>rcases k with _ | _ | k<;>simp [bm]
  | call md f xs=>cases md<;>simp [bm]
  | _=>simp [bm]
 constructor
 ·rintro ⟨h1,h2⟩;rcases h with h | h
  ·have:bm y.op=1\/bm y.op=2:=by have:=k2 y.op;omega
   rcases this with e | e<;>(simp only [FU,h1,e] at h;cases h)
  ·obtain ⟨_,sz,ag,t,e⟩:=ex h;rw [e] at h1;cases h1
 ·intro h1 h2;rcases h with h | h
  ·have:bm x.op=1\/bm x.op=2:=by have:=k2 x.op;omega
   rcases this with e | e<;>(simp only [FU,h2,e] at h;cases h)
  ·exact ex h
def ao7 (hC:mv O self) (hH:eQ O H) (hG:qt O H self ops rs bQ bF bB vF) (hn:H.n<=n0) (hI:Inv O ops rs bQ bF bB D m0 S0 w0 n0 d0 st c m S w a) (hr:rs[i]? =some r) (ho:ops[i]? =some o) (hi:¬D i)
  (eF:∀j,Ord ops j i->D j) (fH:∀j,Ord ops i j->¬D j) (hD:∀j,D' j↔D j\/j=i) {K:Act->yi->Prop}
  (hK:∀st' c' m' S' w' a',Inv O ops rs bQ bF bB D' m0 S0 w0 n0 d0 st' c' m' S' w' a'->K a' w'):wpOpIn (WF ro) 0 O.P ops Q i K a w:=by
 have cJ:=hG.of i r o hr ho;have Q9:=aq5 hG hI.tm hr hi eF fH;have aU:=hG.run.step i r hr;have hd:∀d,r.dst=some d->d<a.tmps.size:=by
  rw [cJ.dst];exact aaI cJ.ok (by rw [hI.size];exact hn)
 have jQ:=hI.Xj;have iv:1<=bm r.op->i<=c:=by
  intro hk;rcases wX c i with Xm | Xm
  ·have Ek:i<rs.length:=(wc.1 hr).1;rcases hI.cut with h | ⟨⟨rc,Xl,sN⟩,IF⟩
   ·omega
   ·rcases hG.pair c i rc r Xm Xl hr with h | h
    ·exact (IF (eF c h)).elim
    ·exact ((Zf h).1 ⟨sN,hk⟩).elim
  ·exact Xm
 have hwc:jg rs i->i=c:=by
  intro hw;obtain ⟨eM,h1,h2⟩:=hw;rw [hr] at h1;injection h1 with h1
  subst h1;have h3:=iv (by omega);rcases wR h3 with e | h3
  ·exact e
  ·rcases wX i st with g | g
   ·exact (hi (hI.before i g ⟨r,hr,h2⟩)).elim
   ·exact (hI.En i g h3 ⟨r,hr,h2⟩).elim
 have aG:1<=bm r.op->¬jg rs i->i<c:=by
  intro hk hw;rcases wR (iv hk) with e | h
  ·subst e;rcases hI.cut with h | h
   ·have Ek:i<rs.length:=(wc.1 hr).1;omega
   ·exact (hw h.1).elim
  ·exact h
 have sN:¬jg rs i->bm r.op=0\/i<c:=fun hw=>by
  rcases xe (bm r.op) with h | h
  ·exact .inl h
  ·exact .inr (aG h hw)
 unfold wpOpIn;simp only [ho];unfold eD at aU
 cases NE:nT (bQ i) r.guard with
 | none=>simp [NE] at aU
 | some b=>
  have Xg:=ZY cJ.guard (fun t ht=>Q9 t (by simp [Bc,ht])) NE;rw [Xg]
  cases b with
  | false=>
   simp only [NE,yb,yk] at aU;obtain ⟨hv,hh,hc⟩:=aU;simp only [yC,xj];refine ⟨fun _ _=>trivial,?_⟩;have di:∀m S w,ah O.af m S w (vF i) undef:=fun m S w=>by rw [<-hv];simp [ah,au,undef]
   rw [<-cJ.dst];rcases um (jg rs i) with hw | hw
   ·have e:=hwc hw;subst e;obtain ⟨c',Ao,h⟩:=abN hG hI hr hi eF fH hD hd hw (m':=m) (S':=S) (w':=w) (u:=undef) (by rw [<-hh,<-hc];exact hI.hp) (by omega) (di _ _ _) (by rw [<-hh];exact bY.refl)
    exact hK _ _ _ _ _ _ h
   ·exact hK _ _ _ _ _ _ (Po hG hI hr hi eF fH hD hd hw (sN hw) (m':=m) (S':=S) (w':=w) (u:=undef) hI.hp cO.refl (fun _ _ h=> .inl h) (di _ _ _) bY.refl)
  | true=>
   simp only [NE] at aU;simp only [xO];have kJ:=YO cJ.op aU;have NG:bS O m S w (dF (bQ i) (jm r.op)) a.tmps:=fun t=>by
    rcases um (t∈jm r.op) with h | h
    ·rw [Kd h];exact Q9 t (by simp [Bc,h])
    ·have:aj (dF (bQ i) (jm r.op)) t= .undef:=by
      clear Q9 aU;revert h;generalize jm r.op=l;intro h
      induction l with
      | nil=>rfl
      | cons x l ih=>
       simp only [dF,aj];have hx:yq x t=false:=by
        cases hq:yq x t with
        | false=>rfl
        | true=>exact absurd (by rw [yj hq];exact uA) h
       rw [hx];exact ih (fun h'=>h (vt _ h'))
     rw [this];simp only [ah]
   have q9:a7 O.prog O.az self (dF (bQ i) (jm r.op)) (bF i) (bB i) (ia r.op)=some (vF i,bF (i+1),bB (i+1)):=
    anj (fun t ht=>Kd ht) aU
   have aeO:¬jg rs i->ia r.op=r.op:=fun hw=>ao6 (fun h=>hw ⟨r,hr,h⟩)
   have now:¬jg rs i->bl (dF (bQ i) (jm r.op)) (bF c) r.op=some (vF i)->Oper.wpIn (WF ro) 0 O.P o a w K Q:=by
    intro hw fR;have im:∃k,r.op=aR O.P H k o:=by
     rcases cJ.op with h | ⟨cc,f,rr,_,_,h⟩ | ⟨_,_,_,_,_,_,_,h⟩ | ⟨_,_,_,_,_,_,_,h⟩ | ⟨_,_,_,_,_,_,h⟩
     ·exact h
     ·rw [h] at fR;simp [bl] at fR
     ·rw [h] at fR;simp [bl] at fR
     ·rw [h] at fR;simp [bl] at fR
     ·rw [h] at fR;simp [bl] at fR
    obtain ⟨k,hk⟩:=im;rw [hk] at fR;rw [hk] at NG;obtain ⟨u,h1,h2⟩:=abx hH NG hI.hp fR;refine Gu kJ h1 (.inl rfl) ?_;rw [<-cJ.dst];exact hK _ _ _ _ _ _ (Po hG hI hr hi eF fH hD hd hw (sN hw) hI.hp cO.refl (fun _ _ h=> .inl h) h2 bY.refl)
   rcases um (jg rs i) with hw | hw
   ·have e:=hwc hw;subst e;refine aaH hC hH (ami cJ.op) kJ q9 NG hI.hp (fun u m' S' w' k1 k2 k3 k4=>?_);rw [<-cJ.dst];obtain ⟨c',Ao,h⟩:=abN hG hI hr hi eF fH hD hd hw k1 k2 k3 k4;exact hK _ _ _ _ _ _ h
   ·rcases xe (bm r.op) with hk | hk
    ·have q9:=aeO hw▸q9;obtain ⟨h1,_,_⟩:=aaJ (.inl hk) q9;exact now hw (by rw [am9 hk (bF c) (bF i)];exact h1)
    ·have Ef:=aG hk hw;rcases wX i st with Rc | Rc
     ·
      rcases hI.Eo with h0 | h0
      ·omega
      ·have bj:D (st-1):=hI.before _ (by omega) h0;have fj:i≠st-1:=fun e=>hi (e▸bj)
       obtain ⟨rp,hrp,hkp⟩:=h0;rcases hG.pair i (st-1) r rp (by omega) hr hrp with h | h
       ·exact (fH _ h bj).elim
       ·obtain ⟨hg,sz,ag,t,im⟩:=(Zf h).2 hk hkp;have hl:=YE (c:=c) hG hr hi ⟨hg,im⟩ hI.cn (fun j hj Cj=>by
         rcases wX j st with g | g
         ·exact hI.before j g Cj
         ·exact (hI.En j g hj Cj).elim) fH hI.Ep (c-(i+1)) (by omega)
        rw [show i+1+(c-(i+1))=c by omega] at hl;refine now hw ?_;rw [im];simp only [bl,ay];rw [Kd (by simp [jm,hZ])];exact hl
     ·have gH:=JV hG hI (x:=i+1) (y:=c) (by omega) Ef (yB _);have IS:=JV hG hI (x:=st) (y:=i) (yB _) Rc (by omega)
      refine quiet_step (Hq:=bF c) (cH:=bB c) hC hH (Gi hr hw) cJ.op kJ (aeO hw▸q9) gH.le gH.oA (hI.Ep i (by omega)) ?_ NG hI.hp (fun u m' S' w' k1 k2 k3 k4 k5=>?_)
      ·intro id h1 h2
       cases hm:m id with
       | none=>rfl
       | some p=>
        rcases hI.Xk id p hm with h | ⟨j,q1,q2,q3,q4,q5⟩
        ·have:=IS.oA;omega
        ·rcases Nat.lt_trichotomy j i with g | g | g
         ·have:=(JV hG hI (x:=j+1) (y:=i) (by omega) g (by omega)).oA;omega
         ·subst g;exact (hi q3).elim
         ·have:=(JV hG hI (x:=i+1) (y:=j) (by omega) g (by omega)).oA;omega
      ·rw [<-cJ.dst];exact hK _ _ _ _ _ _ (Po hG hI hr hi eF fH hD hd hw (.inr Ef) k1 k2 (fun id p h=>(k3 id p h).imp (fun h=>h) (fun h=>⟨Rc,Ef,h.1,h.2⟩)) k4 k5)
def left (n:Nat) (listed:Array Bool):Nat:=(List.range n).countP fun i=> !listed.getD i false
def ao8 {n:Nat} {listed:Array Bool} {i:Nat} (hi:i<n) (hs:listed.size=n) (hl:listed.getD i true=false):left n (listed.setIfInBounds i true)+1=left n listed:=by
 have key:∀(l:List Nat),l.Nodup->(i∈l->(l.countP fun j=> !(listed.setIfInBounds i true).getD j false)+1=l.countP fun j=> !listed.getD j false)/\(i∉l->(l.countP fun j=> !(listed.setIfInBounds i true).getD j false)=l.countP fun j=> !listed.getD j false):=by
  intro l
  induction l with
  | nil=>intro _;exact ⟨fun h=>(by cases h),fun _=>rfl⟩
  | cons x l ih=>
   intro kJ;have hx:x≠i->(listed.setIfInBounds i true).getD x false=listed.getD x false:=fun h=>getD_set_ne false (ych h)
   refine ⟨fun hm=>?_,fun hm=>?_⟩
   ·rw [yaU,yaU];by_cases e:x=i
    ·simp_all
    ·grind
   ·grind
 exact (key _ List.nodup_range).1 (List.mem_range.2 hi)
def ank {n:Nat} {listed:Array Bool} (h:left n listed=0):∀i,i<n->listed.getD i false=true:=by
 unfold left at h
 simp_all
def anl {listed:Array Bool} (hs:listed.size=ops.size) (hb:∀(i:Nat) (o:y7),ops[i]? =some o->∀e,e∈o.after->Region.binds .any e=true->e.on<i) (h:Region.ready .any ops listed=[]):∀i,i<ops.size->listed.getD i false=true:=by
 intro i
 induction i using vh with
 | _ i ih=>
  intro hi
  cases hq:listed.getD i false with
  | true=>rfl
  | false=>
   have:i∈Region.ready .any ops listed:=by
    refine mem_ready.2 ⟨?_,ops[i],by simp [hi],fun e he pK=>?_⟩
    ·have aG:i<listed.size:=by omega
     simp only [wC,aG,Array.getElem?_eq_getElem,uG] at hq ⊢;exact hq
    ·have:=hb i ops[i] (by simp [hi]) e he pK
     exact ih e.on this (by omega)
   rw [h] at this;cases this
def aq6 (hG:qt O H self ops rs bQ bF bB vF) (hI:Inv O ops rs bQ bF bB D m0 S0 w0 n0 d0 st c m S w a) (li:∀i,i<rs.length->D i):
  aP O m S w (bF rs.length) (bB rs.length)/\bS O m S w (bQ rs.length) a.tmps/\bY m0 S0 w0 (bF 0) m S w (bF rs.length) (bB 0)/\bB 0<=bB rs.length:=by
 have hc:c=rs.length:=by
  rcases hI.cut with h | ⟨⟨r,h1,_⟩,h2⟩
  ·grind
  ·grind
 subst hc;refine ⟨hI.hp,fun t=>?_,hI.ND,hI.ge⟩;obtain ⟨j,h1,h2,h3⟩:=hI.tm t;obtain ⟨k,hk⟩:∃k,rs.length=j+k:=⟨rs.length-j,by omega⟩
 have:=FX (t:=t) (i:=j) hG.run k (by omega) (fun l r g1 g2 hl hd=>by
  have:=(h2 l r hl hd).1 (li l (wc.1 hl).1)
  omega)
 grind
def atp (hC:mv O self) (hH:eQ O H) (hG:qt O H self ops rs bQ bF bB vF) (hn:H.n<=n0)
  (hQ:∀a' m' S' w',aP O m' S' w' (bF rs.length) (bB rs.length)->bB 0<=bB rs.length->bS O m' S' w' (bQ rs.length) a'.tmps->bY m0 S0 w0 (bF 0) m' S' w' (bF rs.length) (bB 0)->a'.tmps.size=n0->a'.defers=d0->Q .normal a' w'):
  ∀(bi:Nat) (listed:Array Bool) (st c:Nat) (m:Mp) (S:Nat->Prop) (w:yi) (a:Act),listed.size=ops.size->left ops.size listed=bi->P7 ops (fun i=>listed.getD i false=true)->
   Inv O ops rs bQ bF bB (fun i=>listed.getD i false=true) m0 S0 w0 n0 d0 st c m S w a->wpAnyIn (WF ro) 0 O.P .any ops Q bi listed a w:=by
 have fin:∀(listed:Array Bool) (st c:Nat) (m:Mp) (S:Nat->Prop) (w:yi) (a:Act),Inv O ops rs bQ bF bB (fun i=>listed.getD i false=true) m0 S0 w0 n0 d0 st c m S w a->(∀i,i<ops.size->listed.getD i false=true)->Q .normal a w:=by
  intro listed st c m S w a hI li;obtain ⟨h1,h2,h3,h4⟩:=aq6 hG hI (fun i hi=>li i (by rw [<-hG.len];exact hi))
  exact hQ a m S w h1 h4 h2 h3 hI.size hI.defers
 intro bi
 induction bi with
 | zero=>
  intro listed st c m S w a hs hl hc hI;have li:=ank hl;refine ⟨?_,fin listed st c m S w a hI li⟩;rw [List.eq_nil_iff_forall_not_mem];intro i hm;obtain ⟨h1,o,ho,_⟩:=mem_ready.1 hm
  grind
 | succ bi ih=>
  intro listed st c m S w a hs hl hc hI;refine ⟨fun h=>fin listed st c m S w a hI (anl hs hG.back h),fun i hm=>?_⟩;obtain ⟨h1,o,ho,h2⟩:=mem_ready.1 hm;have hi:i<ops.size:=(xo.1 ho).1;have hr:rs[i]? =some (rs[i]'(by rw [hG.len];exact hi)):=by simp [hG.len,hi]
  have aG:i<listed.size:=by omega
  have hni:¬listed.getD i false=true:=by
   grind
  have hD:∀j,(listed.setIfInBounds i true).getD j false=true↔listed.getD j false=true\/j=i:=by
   intro j;by_cases e:j=i
   ·simp_all
   ·rw [getD_set_ne false (ych e)];simp [e]
  refine ao7 hC hH hG hn hI hr ho hni (Z0 hc i o ho h2) (fun j hj IR=>?_) hD (fun st' c' m' S' w' a' Xn=>ih (listed.setIfInBounds i true) st' c' m' S' w' a' (by simp [hs]) ?_ ?_ Xn)
  ·have hjl:j<ops.size:=by
    grind
   exact hni (ao5 hc (show ops[j]? =some ops[j] by simp [hjl]) IR hj)
  ·have:=ao8 hi hs h1
   omega
  ·intro j oj hoj hj e he hb;rw [hD];rcases (hD j).1 hj with g | g
   ·exact .inl (hc j oj hoj g e he hb)
   ·grind
end
end
section
open Go
def amk {F:Fence} {n:Nat} {P:y8} {Q:vO->Act->yi->Prop} {a:Act} {w:yi} {c:wF} (h:c.wpIn F n P Q a w) (hg:∀l a w,¬Q (.goto l) a w):(Code.scope c).wpIn F n P Q a w:=by
 intro b k cs cJ hb hr;have h0:(lone (b.atR a (.code (.scope c)::k)) cs w).fenced P F:=fenced_calm hb hr rfl;have s0:step P (lone (b.atR a (.code (.scope c)::k)) cs w)= .next (lone (b.atR a (.code c:: .inScope c::k)) cs w):=step_lone_go (by simp [stepG,stepG.exec,Frame.atR]);obtain ⟨e,a₁,w₁,hq,BG⟩:=h b (.inScope c::k) cs cJ hb hr;have hx:∀id,exitTo id (.inScope c::k)=exitTo id k:=fun id=>by simp [exitTo]
 cases e with
 | normal=>
  have s1:step P (lone (b.atR a₁ (.inScope c::k)) cs w₁)= .next (lone (b.atR a₁ k) cs w₁):=step_lone_go (by simp [stepG,stepG.exec,Frame.atR]);exact ⟨.normal,a₁,w₁,hq,.head h0 s0 (StepsIn.trans BG (.one (fenced_calm hb hr rfl) s1))⟩
 | exit id=>
  exact ⟨.exit id,a₁,w₁,hq,fun k' hk=> .head h0 s0 (BG.1 k' (by rw [hx];exact hk)),fun bW hk=>let ⟨k₁,h1,h2⟩:=BG.2 bW (by rw [hx];exact hk);⟨k₁,h1,.head h0 s0 h2⟩⟩
 | goto l=>exact (hg _ _ _ hq).elim
 | ret=>exact ⟨_,a₁,w₁,hq,.of_steps (.one h0 s0) BG⟩
 | panic ch=>exact ⟨_,a₁,w₁,hq,.of_steps (.one h0 s0) BG⟩
 | outgrown=>exact ⟨_,a₁,w₁,hq,.of_steps (.one h0 s0) BG⟩
def py:Ex->vO
 | .normal=> .normal
 | .ret=> .ret
 | .exit id=> .exit id
def Marks (lo:Nat) (S:Nat->Prop) (w:yi) (ds:List tM):Prop:=∃rs:List Nat,ds=rs.map (fun r=>{target:= .collected r,args:=#[]})/\rs.Nodup/\
 ∀r,r∈rs->w.heap[r]? =some (.deferred (some []))/\¬S r/\lo<=r
def rN (ro:Option Nat) (w:yi):Prop:=∀l,ro=some l->∃r:uj,w.heap[l]? =some (.loop r)
section
variable {O:a8} {m:Mp} {S:Nat->Prop} {w:yi} {hp:Hp} {ct:Nat}
def aaK (hh:aP O m S w hp ct) {b:Nat} (h:dJ m hp b):∀x,w.heap[b]?≠some (.deferred x):=by
 intro x hx;obtain ⟨id,o,p,h1,h2,rfl⟩:=h;have h3:=hh.obj id o p h1 h2
 cases o with
 | cells rw pu ex sz cs=>obtain ⟨q,arr,t,g1,g2,_⟩:=h3;rw [h2] at g1;injection g1 with g1;subst g1;rw [hx] at g2;cases g2
 | mp rw ks vs=>obtain ⟨q,es,clock,g1,g2,_⟩:=h3;rw [h2] at g1;injection g1 with g1;subst g1;rw [hx] at g2;cases g2
 | si s pos=>obtain ⟨q,t,g1,g2,_⟩:=h3;rw [h2] at g1;injection g1 with g1;subst g1;rw [hx] at g2;cases g2
 | lp tm ps cr body st pe=>obtain ⟨q,l,hi,g1,g2,_⟩:=h3;rw [h2] at g1;injection g1 with g1;subst g1;rw [hx] at g2;cases g2
def zj (hh:aP O m S w hp ct) {m':Mp} {S':Nat->Prop} {w':yi} {ap:Hp} {base lo:Nat} (hf:bY m S w hp m' S' w' ap base) {ds:List tM} (h:Marks lo S w ds):Marks lo S' w' ds:=by
 obtain ⟨rs,h1,h2,h3⟩:=h;refine ⟨rs,h1,h2,fun r hr=>?_⟩;obtain ⟨this,h4,h5⟩:=h3 r hr;have aG:=(xo.1 this).1;have nh:¬dJ m hp r:=fun ho=>aaK hh ho _ this
 refine ⟨(hf.same r aG nh).trans this,fun hs=>?_,h5⟩;rcases hf.new r hs with h | h | h
 ·grind
 ·grind
 ·omega
def JW {m':Mp} {S':Nat->Prop} {w':yi} {ap:Hp} {base:Nat} {ro:Option Nat} (hf:bY m S w hp m' S' w' ap base) (h:rN ro w):rN ro w':=fun l hl=>
 let ⟨r,hr⟩:=h l hl
 hf.loops l r hr
def eh (O:a8) (m:Mp) (S:Nat->Prop) (w:yi) (s:St) (ex:Ex) (s':St) (n lo:Nat) (e:vO) (a':Act) (w':yi):Prop:=
 e=py ex/\∃m' S',bS O m' S' w' s'.tm a'.tmps/\aP O m' S' w' s'.hp s'.ct/\s'.base=s.base/\s.base<=s'.ct/\bY m S w s.hp m' S' w' s'.hp s.base/\a'.tmps.size=n/\Marks lo S' w' a'.defers
def zP (O:a8) (h:Nat) (c:wF) (s:St) (ex:Ex) (s':St):Prop:=
 ∀(ro:Option Nat) (lo:Nat) (m:Mp) (S:Nat->Prop) (w:yi) (a:Act),rN ro w->bS O m S w s.tm a.tmps->aP O m S w s.hp s.ct->s.base<=s.ct->(O.hint h).n<=a.tmps.size->O.w0.heap.size<=lo->lo<=w.heap.size->Marks lo S w a.defers->
  c.wpIn (WF ro) 0 O.P (eh O m S w s ex s' a.tmps.size lo) a w
structure ef (O:a8):Prop where
 hint:∀h,eQ O (O.hint h)
 mixed:O.P.follows .mixedOrders=true
 prog:∀n F,O.prog n=some F->∃fn,O.P.funcs[O.af n]? =some fn/\CX O.P (O.hint n) fn=some F/\fn.name≠ "runtime.NumGoroutine"
 az:∀n sp ao r,O.az.pure n=some sp->sp ao=some r->dN O n ao r
 Dp:∀n sp hp ct ao v ap aX,O.az.heap n=some sp->sp hp ct ao=some (v,ap,aX)->zO O n hp ct ao v ap aX
def F8 {P:y8} {H:Hint} {ops:Array y7}:∀(rs:List aZ) (l:List y7) (done:List aZ) (ms:List Nat),fF P H ops rs l->fF P H ops (lT done rs ms) l
 | [],l,done,ms,h=>by
  cases ms<;>simpa only [lT] using h
 | r::rs,[],done,ms,h=>by simp [fF] at h
 | r::rs,o::l,done,[],h=>by
  obtain ⟨d,g,op⟩:=r;cases op<;>simpa only [lT] using h
 | r::rs,o::l,done,m::ms,h=>by
  simp only [fF] at h;obtain ⟨h1,h2⟩:=h;obtain ⟨d,g,op⟩:=r
  cases op with
  | gZ Ci f xs=>
   simp only [lT,fF];refine ⟨?_,F8 rs l _ ms h2⟩;rcases h1 with h1 | ⟨_,h1⟩
   ·refine .inl ⟨?_,h1.dst,h1.ok,h1.guard⟩;obtain ⟨c,f',g1,g2,g3,g4⟩:=Ph h1.op;rw [g3,g4];exact .inr (.inl ⟨c,f',_,g1,g2,rfl⟩)
   ·simp [bad] at h1
  | st sz x y=>
   simp only [lT,fF];refine ⟨?_,F8 rs l _ ms h2⟩;rcases h1 with h1 | ⟨_,h1⟩
   ·refine .inl ⟨?_,h1.dst,h1.ok,h1.guard⟩;unfold stOp
    split
    ·exact h1.op
    ·obtain ⟨t,x',y',g1,g2,g3,g4⟩:=axw h1.op;exact .inr (.inr (.inl ⟨t,x',y',sz,_,g1,g2,by rw [g3,g4]⟩))
   ·simp [bad] at h1
  | aT sz b x y=>
   simp only [lT,fF];refine ⟨?_,F8 rs l _ ms h2⟩;rcases h1 with h1 | ⟨_,h1⟩
   ·refine .inl ⟨?_,h1.dst,h1.ok,h1.guard⟩;unfold ahi
    split
    ·exact h1.op
    ·obtain ⟨k,hk⟩:=aeN h1.op;exact .inr (.inr (.inr (.inl ⟨k,_,sz,b,x,y,hk,rfl⟩)))
   ·simp [bad] at h1
  | _=>
   simp only [lT,fF];exact ⟨h1,F8 rs l _ ms h2⟩
def aaL {P:y8} {H:Hint} {ops:Array y7}:∀(rs:List aZ) (l:List y7) (done:List aZ),fF P H ops rs l->fF P H ops (Dh done rs) l
 | [],[],_,h=>h
 | [],_::_,_,h=>by simp [fF] at h
 | r::rs,[],done,h=>by simp [fF] at h
 | r::rs,o::l,done,h=>by
  simp only [fF] at h;obtain ⟨h1,h2⟩:=h;simp only [Dh,fF];refine ⟨?_,aaL rs l _ h2⟩;obtain ⟨d,g,op⟩:=r
  cases op with
  | aT sz b x y=>
   simp only
   cases aeJ done x with
   | false=>exact h1
   | true=>
    simp only [yz];rcases h1 with h1 | ⟨_,h1⟩
    ·refine .inl ⟨?_,h1.dst,h1.ok,h1.guard⟩;obtain ⟨k,hk⟩:=aeN h1.op;exact .inr (.inr (.inr (.inr ⟨k,sz,b,x,y,hk,rfl⟩)))
    ·simp [bad] at h1
  | _=>exact h1
end
section
variable {O:a8} {self:cm}
def aaM {P:y8} {H:Hint} {ops:Array y7}:∀{rs:List aZ} {l:List y7},fF P H ops rs l->rs.length=l.length/\∀(i:Nat) (r:aZ) (o:y7),rs[i]? =some r->l[i]? =some o->KZ P H ops r o\/(r.guard=none/\r.op=bad)
 | [],[],_=>⟨rfl,fun i r o h=>by simp at h⟩
 | [],_::_,h=>by simp [fF] at h
 | _::_,[],h=>by simp [fF] at h
 | r::rs,o::l,h=>by
  obtain ⟨h1,h2⟩:=aaM h.2;refine ⟨by simp [h1],fun i r' o' hr ho=>?_⟩
  cases i with
  | zero=>simp at hr ho;subst hr;subst ho;exact h.1
  | succ i=>exact h2 i r' o' (by simpa using hr) (by simpa using ho)
def anm {m:Mp} {S:Nat->Prop} {w:yi} {hp:Hp} {ct:Nat} (hh:aP O m S w hp ct):Calm w {w with drawn:=w.drawn+1}:=⟨rfl,rfl,rfl,yB _,fun _ _=>rfl⟩
def atq (hO:ef O) (hC:mv O self) (h:Nat) (id:Nat) (ops:Array y7) (draw:Bool) (k:Nat) {s s':St} (hv:db O.prog O.az self (Ko O.P (O.hint h) ops draw k).1 s=some s'):zP O h (.region id ops draw) s .normal s':=by
 intro ro lo m S w a cJ ht hh hb hn a6 eN cu;unfold Ko at hv;have NH:=Zd (P:=O.P) (H:=O.hint h) (ops:=ops) ops.toList k;generalize hq:A6 O.P (O.hint h) ops ops.toList k=q at hv NH;obtain ⟨l,k'⟩:=q;simp only at hv NH;have post:∀{a':Act} {m':Mp} {S':Nat->Prop} {w':yi},aP O m' S' w' s'.hp s'.ct->s.ct<=s'.ct->bS O m' S' w' s'.tm a'.tmps->bY m S w s.hp m' S' w' s'.hp s.ct->a'.tmps.size=a.tmps.size->a'.defers=a.defers->s'.base=s.base->eh O m S w s .normal s' a.tmps.size lo .normal a' w':=by
  intro a' m' S' w' h1 h2 h3 h4 h5 h6 h7;exact ⟨rfl,m',S',h3,h1,h7,by omega,h4.qw hb,h5,by rw [h6];exact zj hh h4 cu⟩
 cases draw with
 | false=>
  simp only [yY] at hv;refine wpIn_region ?_;rw [List.range_eq_range'];have hl:ops.size=ops.toList.length:=by simp
  rw [hl];exact abK hC (hO.hint h) ops.toList l 0 s s' a m S w (fun j=>by simp) NH hv ht hh hn (fun a' m' S' w' h1 h2 h3 h4 h5 h6 h7=>post h1 h2 h3 h4 h5 h6 h7)
 | true=>
  simp only [yz] at hv;have Xo:∃rs,(zh ops.toList 0&&rI [] rs (jG [] ops.toList))=true/\fF O.P (O.hint h) ops rs ops.toList/\db O.prog O.az self rs s=some s':=by
   have Lx:=F8 l ops.toList [] (jG [] ops.toList) NH
   cases mc:(zh ops.toList 0&&rI [] (lT [] l (jG [] ops.toList)) (jG [] ops.toList)) with
   | true=>
    rw [mc] at hv;exact ⟨_,mc,Lx,hv⟩
   | false=>
    rw [mc] at hv;simp only [yY] at hv
    cases Re:(zh ops.toList 0&&rI [] (Dh [] (lT [] l (jG [] ops.toList))) (jG [] ops.toList)) with
    | true=>
     rw [Re] at hv;exact ⟨_,Re,aaL _ _ _ Lx,hv⟩
    | false=>
     rw [Re] at hv;simp [db,bad,a7,ep,ay] at hv
  clear hv;obtain ⟨rs,mc,Lx,hv⟩:=Xo
  ·simp only [yf] at mc;obtain ⟨hlen,aA⟩:=aaM Lx;obtain ⟨bQ,bF,bB,vF,hR,e1,e2,e3,e4,e5,e6,e7⟩:=abL hv;have hG:qt O (O.hint h) self ops rs bQ bF bB vF:=by
    refine ⟨hR,by rw [hlen];simp,fun i r o hr ho=>?_,fun i j x y Xh hx hy=>?_,fun i o ho e he hbd=>?_⟩
    ·rcases aA i r o hr (by simpa using ho) with g | ⟨g1,g2⟩
     ·exact g
     ·have:=hR.step i r hr
      simp [eD,g1,nT,g2,bad,a7,ep,ay] at this
    ·obtain ⟨mm,g1,g2⟩:=YD (done:=[]) (i:=i) (j:=j) (a:=x) (b:=y) mc.2 (by simpa using hx) hy (by simpa using Xh);refine g2.imp (fun g=>?_) (fun g=>by simpa using g);unfold Ord;rw [xG,g1];exact g
    ·have:=Yy mc.1 (j:=i) (o:=o) (by simpa using ho) e he hbd
     omega
   refine wpIn_region_any hO.mixed ?_;have Hc:=anm hh;have gl:=A1 hh Hc (S':=S) (fun _ h=>h) (fun _ h=> .inl h) hh.slt
   have Ej:bY m S w s.hp m S {w with drawn:=w.drawn+1} s.hp (bB 0):=zk hh Hc (fun _ h=>h) (fun _ h=> .inl h);obtain ⟨c,c1,c2,c3,c4⟩:=P8 rs rs.length 0 (by omega);have hg:∀k',k'<=c->gM (bF 0) (bB 0) (bF (0+k')) (bB (0+k')):=fun k' Ar=>
    JU hR (by rw [e2,e3];exact hh.aG) k' (by omega) (fun j r g1 g2 hr=>Gi hr (c3 j g1 (by omega)))
   have gH:=hg c (yB _);rw [yh] at gH;obtain ⟨S1,g1,g2,g3,g4⟩:=Kb (by rw [e2,e3];exact gl:aP O m S {w with drawn:=w.drawn+1} (bF 0) (bB 0)) gH
   have qj:∀i,(vP ops.size false).getD i false=true->False:=fun i hi=>by
    simp only [wC] at hi;by_cases aG:i<ops.size
    ·simp [aG] at hi
    ·rw [Array.getElem?_eq_none (by simpa using aG)] at hi;simp at hi
   refine atp (m0:=m) (S0:=S) (w0:=w) (n0:=a.tmps.size) (d0:=a.defers) hC (hO.hint h) hG hn (fun a' m' S' w' h1 h2 h3 h4 h5 h6=>?_) ops.size _ 0 c m S1 _ a (by simp) ?_ (fun j o _ hj=>(qj j hj).elim) ?_
   ·rw [e5,e6] at h1;rw [e3,e6] at h2;rw [e4] at h3;rw [e2,e3,e5] at h4;exact post h1 h2 h3 h4 h5 h6 e7
   ·unfold left;rw [List.countP_eq_length.2]
    ·simp
    ·intro i hi;simp only [uL]
     cases hq:(vP ops.size false).getD i false with
     | false=>rfl
     | true=>exact (qj i hq).elim
   ·refine ⟨uN _,c2,fun i hi=>by omega,c3,c4.imp (fun h=>h) (fun h=>⟨h,fun hd=>qj c hd⟩),fun i r _ _ _ hd=>qj i hd,g1,fun id p hp=> .inl (by rw [e3];exact hh.lt id p hp),fun t=>⟨0,uN _,fun i r _ _=>⟨fun hd=>(qj i hd).elim,fun h=>by omega⟩,?_⟩,?_,gH.oA,rfl,rfl,.inl rfl,fun j hj=>?_⟩
    ·rw [e1];exact jW (fun _ _ h=>h) (fun b hb=>g2 b hb) (fun b hb=>Hc.same b (hh.slt b hb)) _ _ (ht t)
    ·rw [e2];have g5:=g4 (bB 0);rw [e2] at g5;exact Ej.trans g5
    ·have:=(hg j hj).lt
     rw [yh] at this;exact this
end
end
section
open Go
section
variable {O:a8} {m:Mp} {S:Nat->Prop} {w:yi} {hp:Hp} {ct:Nat}
def Zg (hh:aP O m S w hp ct) {g:Nat} {w':yi} (hw:One w w' g) (hg:¬S g) (ho:¬dJ m hp g) (a6:O.w0.heap.size<=g):aP O m S w' hp ct:=by
 have aU:fb S w w':=fun b hb=>hw.other b (fun e=>hg (e▸hb))
 refine ⟨fun id o p h1 h2=>?_,hh.lt,hh.inj,fun b hb=>by rw [hw.size];exact hh.slt b hb,fun id p h=>by rw [hw.size];exact hh.blt id p h,hh.low,fun b hb=>?_,by rw [hw.size];exact hh.fw,hh.aG⟩
 ·exact pW (fun _ _ h=>h) (fun _ h=>h) aU (fun q hq=>hw.other _ (fun e=>ho ⟨id,o,q,h1,hq,e⟩)) (fun _ _ h=>h) (hh.obj id o p h1 h2)
 ·rw [hw.other b (by omega)];exact hh.jb b hb
def Zh {P:y8} {b:Nat} {o:tK} (h:w.heap[b]? =some o) (hc:∀c t f,o≠.cells c t f):(getObj b).run P w= .ok o w:=by
 simp only [getObj,Sem.run,h]
def JI {P:y8} {b:Nat} {o x:tK} (h:w.heap[b]? =some o) (hc:∀c t f,o≠.cells c t f):(setObj b x).run P w= .ok () {w with heap:=w.heap.setIfInBounds b x}:=by
 simp only [setObj,Sem.run,h]
def FM {P:y8} {b:Nat} {r:uj} (h:w.heap[b]? =some (.loop r)):(Instr.getLoop b).run P w= .ok r w:=by
 simp only [Instr.getLoop,Sem.run_bind,Zh (P:=P) h (fun _ _ _=>by simp),Result.andThen_ok,Sem.run_pure]
def Gj (hh:aP O m S w hp ct) {l:Nat} {tm:Env} {ps:List Nat} {cr body:VC} {st:Nat} {pe:r7} {p:Pl} (hg:aA hp l=some (.lp tm ps cr body st pe)) (hm:m l=some p):
  ∃(r:uj) (h:Nat),w.heap[p.b]? =some (.loop r)/\¬S p.b/\r.state=zV st/\st<=2/\r.pending=rM pe/\bS O m S w tm r.tmps/\r.params.toList=ps/\An O.P (O.hint h) cr r.assign/\An O.P (O.hint h) body r.body/\
   (O.hint h).n<=r.tmps.size/\rR (O.hint h).n ps=true:=by
 obtain ⟨q,r,h,g1,g2,g3⟩:=hh.obj l _ p hg hm
 grind
def Z2 (hh:aP O m S w hp ct) {l:Nat} {tm:Env} {ps:List Nat} {cr body:VC} {st:Nat} {pe:r7} {p:Pl} (hg:aA hp l=some (.lp tm ps cr body st pe)) (hm:m l=some p) {r:uj} (hr:w.heap[p.b]? =some (.loop r))
  {st':Nat} {pe':r7} (h2:st'<=2):
  aP O m S {w with heap:=w.heap.setIfInBounds p.b (.loop {r with state:=zV st',pending:=rM pe'})} (bf hp l (.lp tm ps cr body st' pe')) ct/\
  bY m S w hp m S {w with heap:=w.heap.setIfInBounds p.b (.loop {r with state:=zV st',pending:=rM pe'})} (bf hp l (.lp tm ps cr body st' pe')) ct:=by
 obtain ⟨r',h,g1,g2,g3,g4,g5,g6,g7,g8,g9,g10,g11⟩:=Gj hh hg hm;rw [hr] at g1;injection g1 with g1
 injection g1 with g1
 subst g1;have ff:=CI w p.b (.loop {r with state:=zV st',pending:=rM pe'})
 refine F6 hh hg hm g2 ff ⟨p,{r with state:=zV st',pending:=rM pe'},h,hm,JE hr,g2,rfl,h2,rfl,?_,g7,g8,g9,g10,g11⟩ (fun _ _=>⟨_,JE hr⟩);exact zi (fun _ _ h=>h) (fun _ h=>h) (fun b hb=>ff.other b (fun e=>g2 (e▸hb))) g6
def Z3 {n:Nat}:∀{ps:List Nat} {vs:List AV} {us:List yg} {tm bU:Env} {tmps:Array yg},p7 tm ps vs=some bU->au O.af m S w vs us->bS O m S w tm tmps->n<=tmps.size->rR n ps=true->
  ps.length=us.length/\bS O m S w bU ((ps.zip us).foldl (fun t (x:Nat×yg)=>t.setIfInBounds x.1 x.2) tmps)/\((ps.zip us).foldl (fun t (x:Nat×yg)=>t.setIfInBounds x.1 x.2) tmps).size=tmps.size
 | [],[],us,tm,bU,tmps,h,hr,ht,hn,ha=>by
  simp only [p7,yb] at h;simp only [au] at hr
  simp_all
 | [],_::_,us,tm,bU,tmps,h,hr,ht,hn,ha=>by simp [p7] at h
 | _::_,[],us,tm,bU,tmps,h,hr,ht,hn,ha=>by simp [p7] at h
 | p::ps,v::vs,us,tm,bU,tmps,h,hr,ht,hn,ha=>by
  simp only [p7] at h;obtain ⟨u,t,rfl,h1,h2⟩:=hr;simp only [rR,yf] at ha;have hp:=rK.1 ha.1;have ht1:bS O m S w ((p,v)::tm) (tmps.setIfInBounds p u):=Pm (a:=⟨tmps,[]⟩) (d:=some p) ht (fun i hi=>by injection hi with hi;show i<tmps.size;omega) h1
  obtain ⟨g1,g2,g3⟩:=Z3 (n:=n) h h2 ht1 (by simpa using hn) ha.2
  simp_all
def ao9 (ps:Array Tmp) (args:Array yg) (tmps:Array yg):(ps.zip args).foldl (fun tmps (x:Tmp×yg)=>tmps.setIfInBounds x.1 x.2) tmps=(ps.toList.zip args.toList).foldl (fun t (x:Nat×yg)=>t.setIfInBounds x.1 x.2) tmps:=by
 rw [<-Array.foldl_toList,Array.toList_zip]
def alq {P:y8} {b:Nat} {r:uj} (h:w.heap[b]? =some (.loop r)) (jump:Option wF):
  (Instr.endRound b jump).run P w= .ok (.bool jump.isNone) {w with heap:=w.heap.setIfInBounds b (.loop {r with state:=if jump.isNone then .ready else .done,pending:=jump})}:=by
 simp only [Instr.endRound,Sem.run_bind,FM h,Result.andThen_ok,JI (P:=P) h (fun _ _ _=>by simp),Sem.run_pure]
def ale {P:y8} {b:Nat} {r:uj} (h:w.heap[b]? =some (.loop r)) (hs:r.state= .ready):
  (Instr.beginRound b).run P w= .ok () {w with heap:=w.heap.setIfInBounds b (.loop {r with state:= .busy})}:=by
 simp only [Instr.beginRound,Sem.run_bind,FM h,Result.andThen_ok,JI (P:=P) h (fun _ _ _=>by simp),hs,Sem.run_pure]
def apa {self:cm} (hS:∀v s ex s',self v s=some (ex,s')->∀c h l k,(comp O.P (O.hint h) c l k).1=v->zP O h c s ex s') {l:Nat} {xs:List AV} {v:AV} {ap:Hp} {aX:Nat}
  (hv:mu self hp ct l xs=some (v,ap,aX)):aeK O hp ct l xs v ap aX:=by
 intro m S w args p hh hm fy;unfold mu at hv
 split at hv
 case h_2=>cases hv
 rename_i tm ps cr body pe hg;obtain ⟨r,h,g1,g2,g3,g4,g5,g6,g7,⟨ca,ka,g8⟩,⟨cb,kb,g9⟩,g10,g11⟩:=Gj hh hg hm
 cases hb:p7 tm ps xs with
 | none=>simp [hb] at hv
 | some bU=>
  simp only [hb] at hv;obtain ⟨b1,b2,b3⟩:=Z3 hb fy g6 g10 g11;rw [<-g7] at b1 b2 b3;have ej:args.size=r.params.size:=by
   grind
  let tmps:Array yg:=(r.params.zip args).foldl (fun tmps (x:Tmp×yg)=>tmps.setIfInBounds x.1 x.2) r.tmps
  have ahq:tmps=(r.params.toList.zip args.toList).foldl (fun t (x:Nat×yg)=>t.setIfInBounds x.1 x.2) r.tmps:=ao9 _ _ _;refine ⟨r.fn,tmps,r.assign,r.body,?_,?_⟩
  ·simp only [Instr.yield,Sem.run_bind,FM g1,Result.andThen_ok,ej,ne_eq,ycw,xj,Sem.run_pure];rfl
  refine roundIn_of_wpIn (F:=Fence.wide) trivial ?_
  cases h1:self cr ⟨bU,hp,ct,ct⟩ with
  | none=>simp [h1] at hv
  | some q=>
   obtain ⟨ex1,s1⟩:=q
   cases ex1 with
   | ret=>simp [h1] at hv
   | exit id=>simp [h1] at hv
   | normal=>
    simp only [h1] at hv;have dP:=hS _ _ _ _ h1 r.assign h ca ka g8;have cJ:∀w',bY m S w hp m S w' hp ct->rN (some p.b) w':=fun w' hf=>JW hf (fun l hl=>⟨r,by injection hl with hl;subst hl;exact g1⟩)
    refine wpIn_mono (dP (some p.b) w.heap.size m S w ⟨tmps,[]⟩ (cJ w bY.refl) (by rw [ahq];exact b2) hh (yB _) (by show _<=tmps.size;rw [ahq,b3];exact g10) hh.fw (yB _) ⟨[],rfl,by simp,by simp⟩) ?_
    rintro e a1 w1 ⟨rfl,m1,S1,k1,k2,k3,k4,k5,k6,k7⟩;simp only [py,Exit.then];have oB:m1 l=some p:=k5.old l p (hh.lt l p hm) hm
    split at hv
    case h_2=>cases hv
    rename_i jd B8 Am Bx sI gH;obtain ⟨r1,gl,f1,f2,f3,f4,f5,f6,f7,f8,f9,f10,f11⟩:=Gj k2 gH oB;have Xp:=ale (P:=O.P) f1 f3;obtain ⟨q1,q2⟩:=Z2 k2 gH oB f1 (st':=1) (pe':=sI) (by omega)
    have dK:({r1 with state:=zV 1,pending:=rM sI}:uj)={r1 with state:= .busy}:=by rw [<-f5];rfl
    rw [dK] at q1 q2;refine ⟨_,Xp,?_⟩
    cases h2:self body ⟨s1.tm,bf s1.hp l (.lp jd B8 Am Bx 1 sI),s1.ct,s1.ct⟩ with
    | none=>simp [h2] at hv
    | some q=>
     obtain ⟨ex,s2⟩:=q;simp only [h2] at hv;have qZ:=hS _ _ _ _ h2 r.body h cb kb g9
     have ay5:rN (some p.b) {w1 with heap:=w1.heap.setIfInBounds p.b (.loop {r1 with state:= .busy})}:=fun l hl=>by
      grind
     have Xq:bS O m1 S1 {w1 with heap:=w1.heap.setIfInBounds p.b (.loop {r1 with state:= .busy})} s1.tm a1.tmps:=
      zi (fun _ _ h=>h) (fun _ h=>h) (fun b hb=>q2.still b hb) k1
     have ay6:(O.hint h).n<=a1.tmps.size:=by
      grind
     refine wpIn_mono (qZ (some p.b) w.heap.size m1 S1 _ a1 ay5 Xq q1 (yB _) ay6 hh.fw (xb k5.size q2.size) (zj k2 q2 k7)) ?_;rintro e a2 w2 ⟨rfl,m2,S2,j1,j2,j3,j4,j5,j6,j7⟩;have IT:m2 l=some p:=j5.old l p (k2.lt l p oB) oB
     split at hv
     case h_2=>cases hv
     rename_i qP IC ID G8 pe2 Er;obtain ⟨r2,IU,d1,d2,d3,d4,d5,d6,d7,d8,d9,d10,d11⟩:=Gj j2 Er IT;have ay7:bY m S w hp m2 S2 w2 s2.hp ct:=(k5.trans (q2.qw k4)).trans (j5.qw k4);have ahr:ct<=s2.ct:=xb k4 j4;have fin:∀(jump:Option wF) (st':Nat) (pe':r7),rM pe'=jump->zV st'=(if jump.isNone then .ready else .done)->st'<=2->
       ∃v' w',(Instr.endRound p.b jump).run O.P w2= .ok v' w'/\rE O m S w hp ct (.bool jump.isNone) (bf s2.hp l (.lp qP IC ID G8 st' pe')) s2.ct (.returned v') w':=by
      intro jump st' pe' e1 e2 e3;obtain ⟨z1,z2⟩:=Z2 j2 Er IT d1 (st':=st') (pe':=pe') e3;rw [e1,e2] at z1 z2;exact ⟨_,_,alq d1 jump,_,m2,S2,rfl,z1,ahr,by simp [ah],ay7.trans (z2.qw ahr)⟩
     cases ex with
     | normal=>
      simp only [yb,yk] at hv;obtain ⟨rfl,rfl,rfl⟩:=hv;simp only [py,roundPost];exact fin none 0 .none rfl rfl (by omega)
     | ret=>
      simp only [P1,yb,yk] at hv;obtain ⟨rfl,rfl,rfl⟩:=hv;simp only [py,roundPost];exact fin (some .ret) 2 .ret rfl rfl (by omega)
     | exit id=>
      simp only [P1,yb,yk] at hv;obtain ⟨rfl,rfl,rfl⟩:=hv;simp only [py,roundPost];exact fin (some (.exit id)) 2 (.exit id) rfl rfl (by omega)
end
end
section
open Go
section
variable {O:a8} {self:cm}
def CQ {P:y8} {f:tq} {fn:yae} {args:Array yg} {w:yi} (hf:P.funcs[f]? =some fn) (hb:fn.body.isSome=true) (hn:fn.name≠ "runtime.NumGoroutine"):(callFunc f args).run P w= .ok (.enter f args) w:=by
 have h1:fn.body≠none:=fun e=>by rw [e] at hb;cases hb
 simp [callFunc,program,Sem.run,hf,h1,hn]
def Ox {P:y8} {H:Hint} {fn:yae} {F:aD} (h:CX P H fn=some F):∃c,fn.body=some c/\F.body=(comp P H c 0 0).1/\nJ P fn.results.toList=some F.cZ/\H.n<=fn.ntmps:=by
 unfold CX at h
 split at h
 ·rename_i c rs h1 h2
  cases hb:yy H.n fn.ntmps with
  | false=>rw [hb] at h;cases h
  | true=>
   rw [hb] at h;simp only [yz,yb] at h;subst h
   simp_all
 ·cases h
def apb {m:Mp} {S:Nat->Prop} {w:yi} {hp:Hp} {ct:Nat} {tm:Env} {a:Act} {ro:Option Nat} (fn:tq) (ps:Array Tmp) (assign body:wF) {cr b':VC} {h:Nat} (hh:aP O m S w hp ct) (ht:bS O m S w tm a.tmps) (cJ:rN ro w)
  (Xr:An O.P (O.hint h) cr assign) (Xs:An O.P (O.hint h) b' body) (hn:(O.hint h).n<=a.tmps.size) (gG:rR (O.hint h).n ps.toList=true) {lo:Nat} (eN:lo<=w.heap.size) (cu:Marks lo S w a.defers):
  ∃l mark w1,(Instr.enterLoop fn a.tmps ps assign body ro).run O.P w= .ok (l,mark) w1/\aP O (eX m ct ⟨l,0,0,0⟩) S w1 ((ct,.lp tm ps.toList cr b' 0 .none)::hp) (ct+1)/\
   bY m S w hp (eX m ct ⟨l,0,0,0⟩) S w1 ((ct,.lp tm ps.toList cr b' 0 .none)::hp) ct/\m ct=none/\Marks lo S w1 (mark++a.defers)/\w.heap.size<=l:=by
 have bD:m ct=none:=by
  cases hq:m ct with
  | none=>rfl
  | some p=>have:=hh.lt ct p hq;omega
 have lay:∀(w':yi) (d:Nat),Calm w w'->Marks lo S w' a.defers->
   aP O (eX m ct ⟨w'.heap.size,0,0,0⟩) S (w'.alloc (.loop {state:= .ready,pending:=none,fn:=fn,tmps:=a.tmps,params:=ps,assign:=assign,body:=body,defers:=d})) ((ct,.lp tm ps.toList cr b' 0 .none)::hp) (ct+1)/\
   bY m S w hp (eX m ct ⟨w'.heap.size,0,0,0⟩) S (w'.alloc (.loop {state:= .ready,pending:=none,fn:=fn,tmps:=a.tmps,params:=ps,assign:=assign,body:=body,defers:=d})) ((ct,.lp tm ps.toList cr b' 0 .none)::hp) ct:=by
  intro w' d hw ahs;have gl:aP O m S w' hp ct:=A1 hh hw (fun _ h=>h) (fun _ h=> .inl h) (fun b hb=>yE (hh.slt b hb) hw.size);have Ej:bY m S w hp m S w' hp ct:=zk hh hw (fun _ h=>h) (fun _ h=> .inl h);have hg:gM hp ct ((ct,.lp tm ps.toList cr b' 0 .none)::hp) (ct+1):=by
   refine ⟨fun id o ho=>⟨o,?_,iq.refl o⟩,by omega,fun id o ho=>?_,fun id o ho hi=>?_⟩
   ·rw [fa,yv (by have:=hh.aG id o ho;omega)];exact ho
   ·rw [fa] at ho;by_cases hc:ct=id
    ·omega
    ·simp only [hc,xj] at ho;have:=hh.aG id o ho;omega
   ·rw [fa,yv (by omega)] at ho;exact ⟨o,ho⟩
  have gI:∀i q,aA ((ct,Obj.lp tm ps.toList cr b' 0 .none)::hp) i=some q->i≠ct->aA hp i=some q:=fun i q h hi=>by
   rw [fa,yv (fun e=>hi e.symm)] at h;exact h
  have IU:aP O m S w' ((ct,.lp tm ps.toList cr b' 0 .none)::hp) (ct+1):=by
   have fj:∀id p,m id=some p->id≠ct:=fun id p hm e=>by have:=hh.lt id p hm;omega
   exact ⟨fun id o p ho hm=>gl.obj id o p (gI id o ho (fj id p hm)) hm,fun id p hm=>by have:=hh.lt id p hm;omega,
    fun i j oi oj pi pj hi hj bD fM e=>gl.inj i j oi oj pi pj (gI i oi hi (fj i pi bD)) (gI j oj hj (fj j pj fM)) bD fM e,gl.slt,gl.blt,gl.low,gl.jb,gl.fw,hg.lt⟩
  have nf:eJ O (eX m ct ⟨w'.heap.size,0,0,0⟩) S (w'.alloc (.loop {state:= .ready,pending:=none,fn:=fn,tmps:=a.tmps,params:=ps,assign:=assign,body:=body,defers:=d})) ct (.lp tm ps.toList cr b' 0 .none):=by
   refine ⟨⟨w'.heap.size,0,0,0⟩,_,h,du,heap_alloc_new w' _,?_,rfl,by omega,rfl,?_,rfl,Xr,Xs,hn,gG⟩
   ·intro hS
    have:=gl.slt _ hS
    simp at this
   ·exact zi (iG bD) (fun _ h=>h) (fun b hb=>(FO gl _ b hb).trans (hw.same b (hh.slt b hb))) ht
  obtain ⟨S',k1,k2,k3⟩:=Pe (i:=ct) (p:=⟨w'.heap.size,0,0,0⟩) IU bD (by omega) rfl (fun o ho=>by
   rw [fa] at ho;simp only [xO,yb] at ho;subst ho
   exact .inl ⟨nf,by simp [gL]⟩)
  have k1':aP O (eX m ct ⟨w'.heap.size,0,0,0⟩) S (w'.alloc (.loop {state:= .ready,pending:=none,fn:=fn,tmps:=a.tmps,params:=ps,assign:=assign,body:=body,defers:=d})) ((ct,.lp tm ps.toList cr b' 0 .none)::hp) (ct+1):=by
   have IJ:∀id q,m id=some q->q.b≠w'.heap.size:=fun id q hq=>by have:=gl.blt id q hq;omega
   refine ⟨?_,k1.lt,k1.inj,fun b hb=>k1.slt b (k2 b hb),k1.blt,k1.low,k1.jb,k1.fw,k1.aG⟩;intro id o q ho hm;by_cases hc:id=ct
   ·subst hc;rw [fa] at ho
    grind
   ·rw [dL hc] at hm;exact pW (iG bD) (fun _ h=>h) (FO gl _) (fun q' bH=>alloc_old (gl.blt id q' bH)) (fun _ _ h=>h) (gl.obj id o q (gI id o ho hc) hm)
  refine ⟨k1',Ej.trans ⟨rfl,rfl,rfl,by simp,fun b hb _=>alloc_old hb,fun _ h=>h,fun b hb=>FO gl _ b hb,fun b hb=> .inl hb,?_,fun i q _ hq=>iG bD i q hq,fun b r hb=>⟨r,(alloc_old (xo.1 hb).1).trans hb⟩⟩⟩;rintro b ⟨i,o,q,g1,g2,g3⟩;by_cases hc:i=ct
  ·subst hc;rw [du] at g2
   grind
  ·rw [dL hc] at g2;exact .inl ⟨i,o,q,gI i o g1 hc,g2,g3⟩
 cases ro with
 | none=>
  have Hc:Calm w (w.alloc (.deferred (some []))):=⟨rfl,rfl,rfl,by simp,fun b hb=>alloc_old hb⟩;obtain ⟨rs,r1,r2,r3⟩:=cu;have ay8:Marks lo S (w.alloc (.deferred (some []))) a.defers:=⟨rs,r1,r2,fun r hr=>⟨(alloc_old (xo.1 (r3 r hr).1).1).trans (r3 r hr).1,(r3 r hr).2⟩⟩;obtain ⟨k1,k2⟩:=lay (w.alloc (.deferred (some []))) w.heap.size Hc ay8
  refine ⟨(w.alloc (.deferred (some []))).heap.size,[{target:= .collected w.heap.size,args:=#[]}],_,?_,k1,k2,bD,?_,by simp⟩
  ·simp [Instr.enterLoop,newObj,Sem.run]
  ·have hold:∀(b:Nat) (x:tK),(w.alloc (.deferred (some []))).heap[b]? =some x->((w.alloc (.deferred (some []))).alloc (.loop {state:= .ready,pending:=none,fn:=fn,tmps:=a.tmps,params:=ps,assign:=assign,body:=body,defers:=w.heap.size})).heap[b]? =some x:=fun b x hb=>
    (alloc_old (xo.1 hb).1).trans hb
   refine ⟨w.heap.size::rs,by rw [r1];rfl,?_,?_⟩
   ·grind
   ·intro r hr;rcases wV.1 hr with rfl | hr
    ·exact ⟨hold _ _ (heap_alloc_new w _),fun hs=>by have:=hh.slt _ hs;omega,eN⟩
    ·exact ⟨hold _ _ ((alloc_old (xo.1 (r3 r hr).1).1).trans (r3 r hr).1),(r3 r hr).2⟩
 | some l0=>
  obtain ⟨r0,kK⟩:=cJ l0 rfl;obtain ⟨k1,k2⟩:=lay w r0.defers Calm.refl cu;refine ⟨w.heap.size,[],_,?_,k1,k2,bD,?_,yB _⟩
  ·simp [Instr.enterLoop,FM kK,newObj,Sem.run]
  ·exact zj hh k2 cu
def axx (hO:ef O) (hC:mv O self) {h:Nat} {f:xq} {ps:Array Tmp} {assign body:wF} {cr b':VC} (Xr:An O.P (O.hint h) cr assign) (Xs:An O.P (O.hint h) b' body) (gG:rR (O.hint h).n ps.toList=true)
  {s:St} {ex:Ex} {s':St} (hv:bA O.prog O.az self (.rf (aM (O.hint h) f) ps.toList cr b') s=some (ex,s')):zP O h (.rangeFunc f ps assign body) s ex s':=by
 intro ro lo m S w a cJ ht hh hb hn a6 eN cu;simp only [bA] at hv
 split at hv
 case h_2=>cases hv
 rename_i n first cap hx
 split at hv
 case h_1=>cases hv
 rename_i hL
 cases he:gY O.prog O.az self ((s.ct,.lp s.tm ps.toList cr b' 0 .none)::s.hp) (s.ct+1) n (first++(.fn (.y s.ct) [] []::cap)) with
 | none=>simp [he] at hv
 | some q=>
  obtain ⟨v,bj,ni⟩:=q;simp only [he] at hv
  split at hv
  case h_2=>cases hv
  rename_i qP IC ID G8 st pe Er
  cases aU:yq st 1 with
  | true=>rw [aU] at hv;cases hv
  | false=>
   rw [aU] at hv;simp only [yY] at hv;refine wpIn_rangeFunc (fun fn _=>?_);obtain ⟨l,mark,w1,e1,e2,e3,e4,e5,e6⟩:=apb (ro:=ro) fn ps assign body hh ht cJ Xr Xs hn gG eN cu;have rf:=b9 (hO.hint h) ht f;rw [hx] at rf;simp only [ah] at rf;obtain ⟨fi,ca,hf,r2,r3⟩:=rf;have hle:=iG e4 (p:=⟨l,0,0,0⟩);have Dq:fb S w w1:=fun b hb=>e3.still b hb
   have fy:au O.af (eX m s.ct ⟨l,0,0,0⟩) S w1 (first++(.fn (.y s.ct) [] []::cap)) (fi++#[Value.func (.yield l) #[] #[]]++ca).toList:=by
    have:=jU (fV hle (fun _ h=>h) Dq _ _ r2) (jU (a:=[.fn (.y s.ct) [] []]) (x:=[Value.func (.yield l) #[] #[]]) (by
     simp only [au]
     exact ⟨_,[],rfl,by simp only [ah];exact ⟨_,du,rfl⟩,rfl⟩) (fV hle (fun _ h=>h) Dq _ _ r3))
    grind
   have Qy:=hC.heap _ _ _ _ _ _ _ he _ S w1 _ e2 fy;have hP:∃F,O.prog n=some F:=by
    unfold gY at he;rw [hL] at he
    cases hq:O.prog n with
    | none=>simp [hq] at he
    | some F=>exact ⟨F,rfl⟩
   obtain ⟨F,hF⟩:=hP;obtain ⟨fn',q1,q2,q3⟩:=hO.prog n F hF;obtain ⟨cb,q4,_⟩:=Ox q2;have eS:(callFunc (O.af n) (fi++#[Value.func (.yield l) #[] #[]]++ca)).run O.P w1= .ok (.enter (O.af n) (fi++#[Value.func (.yield l) #[] #[]]++ca)) w1:=CQ q1 (by rw [q4];rfl) q3
   refine ⟨l,mark,w1,{target:= .fn (.func (O.af n)) ca,args:=fi++#[Value.func (.yield l) #[] #[]]},w1,O.af n,fi++#[Value.func (.yield l) #[] #[]]++ca,w1,e1,?_,fun _ _=>trivial,?_,fun hd=>by simp [WF,Fence.wide] at hd,?_⟩
   ·show Sem.run O.P (Deferred.ofValue (a.eval f) _) w1=_
    rw [hf];simp [Deferred.ofValue,Act.eval]
   ·simp only [invoke];exact eS
   ·rcases Qy with ⟨_,Qy⟩ | ⟨u,w',h1,_⟩
    case inr=>rw [eS] at h1;cases h1
    have atr:CallsIn (WF ro) 0 O.P (O.af n) (fi++#[Value.func (.yield l) #[] #[]]++ca) w1 (rE O (eX m s.ct ⟨l,0,0,0⟩) S w1 ((s.ct,.lp s.tm ps.toList cr b' 0 .none)::s.hp) (s.ct+1) v bj ni):=Qy;refine CallsIn.mono atr ?_;rintro e w3 ⟨u,m',S',rfl,k1,k2,k3,k4⟩;have gS:m' s.ct=some ⟨l,0,0,0⟩:=k4.old s.ct _ (tF _) du;obtain ⟨r,IU,d1,d2,d3,d4,d5,d6,_⟩:=Gj k1 Er gS;have oC:(r.state==LoopState.busy)=false:=by
     rw [d3];rcases st with _ | _ | st
     ·rfl
     ·simp_all
     ·have:st=0:=by omega
      subst this;rfl
    have ff:=CI w3 l (.loop {r with state:= .exhausted});have hdl:=aaG k1 s.ct;have nh:¬dJ m' (dX bj s.ct) l:=YL k1 Er gS
    have z1:aP O m' S' {w3 with heap:=w3.heap.setIfInBounds l (.loop {r with state:= .exhausted})} (VE.dX bj s.ct) ni:=Zg hdl ff d2 nh (by have:=hh.fw;omega)
    have z2:bY m' S' w3 bj m' S' {w3 with heap:=w3.heap.setIfInBounds l (.loop {r with state:= .exhausted})} (VE.dX bj s.ct) s.base:=by
     refine ⟨rfl,rfl,rfl,by rw [ff.size];exact yB _,fun b _ hb=>ff.other b (fun e=>hb (e▸Gt Er gS)),fun _ h=>h,fun b hb=>ff.other b (fun e=>d2 (e▸hb)),fun b hb=> .inl hb,fun b hb=> .inl (abI hb),fun _ _ _ h=>h,fun b x hb=>?_⟩
     grind
    have Rg:bY m S w s.hp m' S' {w3 with heap:=w3.heap.setIfInBounds l (.loop {r with state:= .exhausted})} (VE.dX bj s.ct) s.base:=
     ((e3.qw hb).trans (k4.qw (by omega))).trans z2
    have Ly:(Instr.endLoop l).run O.P w3= .ok (rM pe) {w3 with heap:=w3.heap.setIfInBounds l (.loop {r with state:= .exhausted})}:=by
     simp only [Instr.endLoop,Sem.run_bind,FM d1,Result.andThen_ok,oC,yC,xj,Sem.run_pure,JI (P:=O.P) d1 (fun _ _ _=>by simp),d5]
    have ahs:Marks lo S' {w3 with heap:=w3.heap.setIfInBounds l (.loop {r with state:= .exhausted})} (mark++a.defers):=zj k1 z2 (zj e2 k4 e5)
    have sP:bS O m' S' {w3 with heap:=w3.heap.setIfInBounds l (.loop {r with state:= .exhausted})} s.tm a.tmps:=by
     refine zi (fun id p hp=>?_) Rg.sub (fun b hb=>Rg.still b hb) ht;have h1:=hh.lt id p hp;exact k4.old id p (by omega) (hle id p hp)
    have post:∀Xt,s'={s with hp:=VE.dX bj s.ct,ct:=ni}->ex=Xt->eh O m S w s ex s' a.tmps.size lo (py Xt) {a with defers:=mark++a.defers} {w3 with heap:=w3.heap.setIfInBounds l (.loop {r with state:= .exhausted})}:=by
     rintro Xt rfl rfl;exact ⟨rfl,m',S',sP,z1,rfl,by show s.base<=ni;omega,Rg,rfl,ahs⟩
    refine ⟨_,_,Ly,?_⟩
    cases pe with
    | none=>
     simp only [yb,yk] at hv;exact post .normal hv.2.symm hv.1.symm
    | ret=>
     simp only [yb,yk] at hv;exact wpIn_ret (post .ret hv.2.symm hv.1.symm)
    | exit id=>
     simp only [yb,yk] at hv;exact wpIn_exit (post (.exit id) hv.2.symm hv.1.symm)
end
end
def Le (f g:cm):Prop:=∀c s r,f c s=some r->g c s=some r
section
variable {P:aK} {L:Lib} {f g:cm}
def Om (h:Le f g) (n:Nat) (ao:List AV) (r:AV) (hr:bG P L f n ao=some r):bG P L g n ao=some r:=by
 unfold bG at hr ⊢
 cases hL:L.pure n with
 | some sp=>simpa only [hL] using hr
 | none=>
  simp only [hL] at hr ⊢
  cases hP:P n with
  | none=>simp [hP] at hr
  | some F=>
   simp only [hP] at hr ⊢
   cases hf:f F.body ⟨dR 0 ao,[],0,0⟩ with
   | none=>simp [hf] at hr
   | some q=>rw [h _ _ _ hf];simpa only [hf] using hr
def Oy (h:Le f g) (hp:Hp) (ct:Nat) (n:Nat) (ao:List AV) (r:AV×Hp×Nat) (hr:gY P L f hp ct n ao=some r):gY P L g hp ct n ao=some r:=by
 unfold gY at hr ⊢
 cases hL:L.heap n with
 | some sp=>simpa only [hL] using hr
 | none=>
  simp only [hL] at hr ⊢
  cases hP:P n with
  | none=>simp [hP] at hr
  | some F=>
   simp only [hP] at hr ⊢
   cases hf:f F.body ⟨dR 0 ao,hp,ct,ct⟩ with
   | none=>simp [hf] at hr
   | some q=>rw [h _ _ _ hf];simpa only [hf] using hr
def YF (h:Le f g) (hp:Hp) (ct:Nat) (l:Nat) (xs:List AV) (r:AV×Hp×Nat) (hr:mu f hp ct l xs=some r):mu g hp ct l xs=some r:=by
 unfold mu at hr ⊢
 cases hl:aA hp l with
 | none=>simp [hl] at hr
 | some o=>
  simp only [hl] at hr ⊢
  split at hr
  ·rename_i tm ps cr body pe nj;simp only [yb] at nj;subst nj
   (try simp only at hr ⊢)
   cases hb:p7 tm ps xs with
   | none=>simp [hb] at hr
   | some bU=>
    simp only [hb] at hr ⊢
    cases h1:f cr ⟨bU,hp,ct,ct⟩ with
    | none=>simp [h1] at hr
    | some q=>
     rw [h _ _ _ h1];simp only [h1] at hr ⊢
     split at hr
     ·rename_i s1 Rh;simp only [yb] at Rh;subst Rh
      (try simp only at hr ⊢)
      split at hr
      ·rename_i jd B8 Am Bx sI aht
       (try simp only [aht])
       cases h2:f body ⟨s1.tm,bf s1.hp l (.lp jd B8 Am Bx 1 sI),s1.ct,s1.ct⟩ with
       | none=>simp [h2] at hr
       | some q2=>rw [h _ _ _ h2];simpa only [h2] using hr
      ·simp at hr
     ·simp at hr
  ·simp at hr
def YQ (h:Le f g) (hp:Hp) (ct:Nat) (m:Md) (fv:AV) (xs:List AV) (r:AV×Hp×Nat) (hr:ep P L f hp ct m fv xs=some r):ep P L g hp ct m fv xs=some r:=by
 unfold ep at hr ⊢
 split at hr
 ·rename_i n first cap
  cases m with
  | pure=>
   simp only at hr ⊢
   cases hz:cA deep hp (first++(xs++cap)) with
   | none=>simp [hz] at hr
   | some q=>
    simp only [hz] at hr ⊢
    cases hc:bG P L f n q.1 with
    | none=>simp [hc] at hr
    | some u=>rw [Om h n q.1 u hc];simpa only [hc] using hr
  | own=>
   simp only at hr ⊢
   cases hz:cA deep hp (first++(xs++cap)) with
   | none=>simp [hz] at hr
   | some q=>
    simp only [hz] at hr ⊢
    cases hc:bG P L f n q.1 with
    | none=>simp [hc] at hr
    | some u=>rw [Om h n q.1 u hc];simpa only [hc] using hr
  | heap=>exact Oy h _ _ _ _ _ hr
  | dyn=>
   simp only at hr ⊢
   cases hz:aI (first++(xs++cap)) with
   | true=>
    simp only [hz,yz] at hr ⊢
    cases hc:bG P L f n (first++(xs++cap)) with
    | none=>simp [hc] at hr
    | some u=>rw [Om h n _ u hc];simpa only [hc] using hr
   | false=>
    simp only [hz,yY] at hr ⊢;exact Oy h _ _ _ _ _ hr
 ·split at hr
  ·exact YF h _ _ _ _ _ hr
  ·exact YF h _ _ _ _ _ hr
  ·simp at hr
 ·simp at hr
def Z4 (h:Le f g) (tm:Env) (hp:Hp) (ct:Nat) (o:Op) (r:AV×Hp×Nat) (hr:a7 P L f tm hp ct o=some r):a7 P L g tm hp ct o=some r:=by
 unfold a7 at hr ⊢
 split at hr
 ·exact YQ h _ _ _ _ _ _ hr
 ·rename_i rs fv xs
  (try simp only at hr ⊢)
  cases hc:ep P L f hp ct .dyn (ay tm fv) (cW tm xs) with
  | none=>simp [hc] at hr
  | some q=>rw [YQ h _ _ _ _ _ _ hc];simpa only [hc] using hr
 all_goals simpa only using hr
def JJ (h:Le f g):∀(ops:List aZ) (s s':St),db P L f ops s=some s'->db P L g ops s=some s'
 | [],s,s',hr=>by simpa only [db] using hr
 | ⟨d,gd,o⟩::r,s,s',hr=>by
  simp only [db] at hr ⊢
  split at hr
  ·rename_i hw
   try simp only [hw]
   cases ho:a7 P L f s.tm s.hp s.ct o with
   | none=>simp [ho] at hr
   | some q=>rw [Z4 h _ _ _ _ _ ho];simp only [ho] at hr ⊢;exact JJ h r _ _ hr
  ·rename_i hw
   (try simp only [hw]);exact JJ h r _ _ hr
  ·simp at hr
def oP (h:Le f g):∀(c:VC) (s:St) (r:Ex×St),bA P L f c s=some r->bA P L g c s=some r
 | .skip,s,r,hr=>by simpa only [bA] using hr
 | .mY ops,s,r,hr=>by
  simp only [bA] at hr ⊢
  cases ho:db P L f ops s with
  | none=>simp [ho] at hr
  | some s'=>rw [JJ h _ _ _ ho];simpa only [ho] using hr
 | .seq a b,s,r,hr=>by
  simp only [bA] at hr ⊢
  cases ha:bA P L f a s with
  | none=>simp [ha] at hr
  | some q=>
   rw [oP h a s q ha];obtain ⟨ex,s1⟩:=q
   cases ex with
   | normal=>simp only [ha] at hr ⊢;exact oP h b s1 r hr
   | ret=>simpa only [ha] using hr
   | exit id=>simpa only [ha] using hr
 | .cond x a b,s,r,hr=>by
  simp only [bA] at hr ⊢
  split at hr
  ·rename_i t ht
   try simp only [ht]
   cases t with
   | true=>simp only [yz] at hr ⊢;exact oP h a s r hr
   | false=>simp only [yY] at hr ⊢;exact oP h b s r hr
  ·simp at hr
 | .dj id a,s,r,hr=>by
  simp only [bA] at hr ⊢
  cases ha:bA P L f a s with
  | none=>simp [ha] at hr
  | some q=>rw [oP h a s q ha];simpa only [ha] using hr
 | .kp live,s,r,hr=>by simpa only [bA] using hr
 | .fz ts,s,r,hr=>by simpa only [bA] using hr
 | .loop live a,s,r,hr=>by
  simp only [bA] at hr ⊢
  cases ha:bA P L f a (aQ live s) with
  | none=>simp [ha] at hr
  | some q=>
   rw [oP h a _ q ha];obtain ⟨ex,s1⟩:=q
   cases ex with
   | normal=>simp only [ha] at hr ⊢;exact h _ _ _ hr
   | ret=>simpa only [ha] using hr
   | exit id=>simpa only [ha] using hr
 | .rf fv ps cr body,s,r,hr=>by
  simp only [bA] at hr ⊢
  split at hr
  ·rename_i n first cap hx
   try simp only [hx]
   split at hr
   ·simp at hr
   ·rename_i hL
    try simp only [hL]
    cases hc:gY P L f ((s.ct,.lp s.tm ps cr body 0 .none)::s.hp) (s.ct+1) n (first++(.fn (.y s.ct) [] []::cap)) with
    | none=>simp [hc] at hr
    | some q=>rw [Oy h _ _ _ _ _ hc];simpa only [hc] using hr
  ·simp at hr
 | .exit id,s,r,hr=>by simpa only [bA] using hr
 | .ret,s,r,hr=>by simpa only [bA] using hr
end
def Gk (P:aK) (L:Lib) (c:VC) (s:St):ev P L 0 c s=none:=rfl
def Gl (P:aK) (L:Lib) (n:Nat):ev P L (n+1)=bA P L (ev P L n):=rfl
def af2 (P:aK) (L:Lib):∀n,Le (ev P L n) (ev P L (n+1))
 | 0=>fun c s r h=>by rw [Gk] at h;cases h
 | n+1=>fun c s r h=>by
  rw [Gl] at h ⊢;exact oP (af2 P L n) c s r h
def PI (P:aK) (L:Lib) {n m:Nat} (h:n<=m):Le (ev P L n) (ev P L m):=by
 induction h with
 | refl=>exact fun _ _ _ h=>h
 | step _ ih=>exact fun c s r hr=>af2 P L _ c s r (ih c s r hr)
section
open Go
section
variable {O:a8} {self:cm}
def eh.none {m:Mp} {S:Nat->Prop} {w:yi} {s s':St} {ex:Ex} {n lo:Nat} {a:Act} {w':yi} (l:Nat):¬eh O m S w s ex s' n lo (.goto l) a w':=by
 rintro ⟨h,_⟩;cases ex<;>cases h
def eh.then {m m1:Mp} {S S1:Nat->Prop} {w w1:yi} {s s1 s2:St} {ex:Ex} {n lo:Nat} {a':Act} {w':yi} {e:vO} {ex1:Ex} (h1:s1.base=s.base)
  (hf:bY m S w s.hp m1 S1 w1 s1.hp s.base) (h:eh O m1 S1 w1 s1 ex s2 n lo e a' w'):eh O m S w s ex s2 n lo e a' w':=by
 obtain ⟨h2,m',S',k1,k2,k3,k4,k5,k6,k7⟩:=h;rw [h1] at k3 k4 k5;exact ⟨h2,m',S',k1,k2,k3,k4,hf.trans k5,k6,k7⟩
def eh.dF {m:Mp} {S:Nat->Prop} {w:yi} {s s1:St} {n lo:Nat} {a':Act} {w':yi} {e:vO} {ex:Ex} (live:List Nat) (h:eh O m S w s ex s1 n lo e a' w'):eh O m S w s ex (aQ live s1) n lo e a' w':=by
 obtain ⟨h2,m',S',k1,k2,k3,k4,k5,k6,k7⟩:=h;obtain ⟨m2,g1,g2,g3,g4,g5⟩:=OG (live:=live) k1 k2 (by rw [k3];exact k4)
 rw [k3] at g3 g4 g5;exact ⟨h2,m2,S',g1,g2,g3,g4,k5.trans g5,k6,zj k2 g5 k7⟩
def af3 {m:Mp} {w:yi} {tmps:Array yg}:∀{ts:List Nat} {s s1:St} {S:Nat->Prop},bS O m S w s.tm tmps->aP O m S w s.hp s.ct->nS ts s=some s1->
  ∃S1,bS O m S1 w s1.tm tmps/\aP O m S1 w s1.hp s1.ct/\s1.base=s.base/\s1.ct=s.ct/\∀base,bY m S w s.hp m S1 w s1.hp base
 | [],s,s1,S,ht,hh,h=>by
  simp only [nS,yb] at h;subst h;exact ⟨S,ht,hh,rfl,rfl,fun _=>bY.refl⟩
 | t::r,s,s1,S,ht,hh,h=>by
  simp only [nS] at h
  cases hz:freeze deep s.hp (aj s.tm t) with
  | none=>simp [hz] at h
  | some q=>
   obtain ⟨v,hp⟩:=q;simp only [hz] at h;obtain ⟨h1,h2,h3⟩:=OT (O:=O) hz;have hg:gM s.hp s.ct hp s.ct:=⟨h1,yB _,fun id o ho=>(by
     have:=h2 id
     rw [ho] at this
     cases hq:aA s.hp id with
     | none=>rw [hq] at this;simp at this
     | some o'=>exact hh.aG id o' hq),fun id o ho _=>(by
     have:=h2 id
     rw [ho] at this
     cases hq:aA s.hp id with
     | none=>rw [hq] at this;simp at this
     | some o'=>exact ⟨o',rfl⟩)⟩
   obtain ⟨S',k1,k2,k3,k4⟩:=Kb hh hg;have sP:bS O m S' w ((t,v)::s.tm) tmps:=by
    intro i;simp only [aj]
    cases hb:yq t i with
    | true=>
     have:=yj hb
     subst this;exact (h3 hp m S' w s.ct cI.refl k1).1 _ (jW (fun _ _ h=>h) k2 (fun _ _=>rfl) _ _ (ht t))
    | false=>
     exact jW (fun _ _ h=>h) k2 (fun _ _=>rfl) _ _ (ht i)
   obtain ⟨S1,g1,g2,g3,g4,g5⟩:=af3 (s:={s with tm:=(t,v)::s.tm,hp:=hp}) sP k1 h;exact ⟨S1,g1,g2,g3,g4,fun base=>(k4 base).trans (g5 base)⟩
def abO (hO:ef O) (n:Nat) (hC:∀k,k<=n->mv O (ev O.prog O.az k)) (h:Nat):∀(c:wF) (l k:Nat) (j:Nat),j<=n->∀(s:St) (ex:Ex) (s':St),
  bA O.prog O.az (ev O.prog O.az j) (comp O.P (O.hint h) c l k).1 s=some (ex,s')->zP O h c s ex s':=by
 have refl:∀{s:St} {ex:Ex} {m:Mp} {S:Nat->Prop} {w:yi} {a:Act} {lo:Nat},bS O m S w s.tm a.tmps->aP O m S w s.hp s.ct->s.base<=s.ct->Marks lo S w a.defers->eh O m S w s ex s a.tmps.size lo (py ex) a w:=
  fun h1 h2 h3 h4=>⟨rfl,_,_,h1,h2,rfl,h3,bY.refl,rfl,h4⟩
 have Ri:∀{self:cm} {s:St} {r:Ex×St},bA O.prog O.az self (.mY [⟨none,none,bad⟩]) s=some r->False:=by
  intro self s r hv;simp [bA,db,bad,a7,ep,ay] at hv
 intro c
 induction c with
 | skip=>
  intro l k j hj s ex s' hv ro lo m S w a cJ ht hh hb hn a6 eN cu;simp only [comp,bA,yb,yk] at hv;obtain ⟨rfl,rfl⟩:=hv;exact wpIn_skip (refl ht hh hb cu)
 | label x=>
  intro l k j hj s ex s' hv ro lo m S w a cJ ht hh hb hn a6 eN cu;simp only [comp,bA,yb,yk] at hv;obtain ⟨rfl,rfl⟩:=hv;exact wpIn_label (refl ht hh hb cu)
 | exit id=>
  intro l k j hj s ex s' hv ro lo m S w a cJ ht hh hb hn a6 eN cu;simp only [comp,bA,yb,yk] at hv;obtain ⟨rfl,rfl⟩:=hv
  exact wpIn_exit (refl (ex:= .exit id) ht hh hb cu)
 | ret=>
  intro l k j hj s ex s' hv ro lo m S w a cJ ht hh hb hn a6 eN cu;simp only [comp,bA,yb,yk] at hv;obtain ⟨rfl,rfl⟩:=hv
  exact wpIn_ret (refl (ex:= .ret) ht hh hb cu)
 | goto x=>intro l k j hj s ex s' hv;exact (Ri (by simpa only [comp] using hv)).elim
 | refuse x=>intro l k j hj s ex s' hv;exact (Ri (by simpa only [comp] using hv)).elim
 | region id ops d=>
  intro l k j hj s ex s' hv;simp only [comp] at hv;generalize hq:Ko O.P (O.hint h) ops d k=q at hv;obtain ⟨r,k'⟩:=q;have main:∀{s s':St} {ex:Ex},bA O.prog O.az (ev O.prog O.az j) (.mY r) s=some (ex,s')->zP O h (.region id ops d) s ex s':=by
   intro s s' ex hv;simp only [bA] at hv
   cases ho:db O.prog O.az (ev O.prog O.az j) r s with
   | none=>simp [ho] at hv
   | some s1=>
    simp only [ho,yb,yk] at hv;obtain ⟨rfl,rfl⟩:=hv;exact atq hO (hC j hj) h id ops d k (by rw [hq];exact ho)
  simp only at hv
  split at hv
  ·exact main hv
  ·rename_i t ts _;simp only [bA] at hv
   cases hf:nS (t::ts) s with
   | none=>simp [hf] at hv
   | some s1=>
    simp only [hf] at hv;intro ro lo m S w a cJ ht hh hb hn a6 eN cu;obtain ⟨S1,g1,g2,g3,g4,g5⟩:=af3 ht hh hf;have h1:=main (s:=s1) (by simpa only [bA] using hv) ro lo m S1 w a cJ g1 g2 (by rw [g3,g4];exact hb) hn a6 eN (zj hh (g5 s.base) cu)
    refine wpIn_mono h1 (fun e a' w' hp=>?_)
    exact eh.then (ex1:= .normal) g3 (g5 s.base) hp
 | seq x y ihx ihy=>
  intro l k j hj s ex s' hv ro lo m S w a cJ ht hh hb hn a6 eN cu;simp only [comp] at hv;generalize rb:comp O.P (O.hint h) x l k=qx at hv;obtain ⟨x',l1,k1⟩:=qx;simp only at hv;generalize IV:comp O.P (O.hint h) y l1 k1=qy at hv;obtain ⟨y',l2,k2⟩:=qy;simp only [bA] at hv
  cases hx:bA O.prog O.az (ev O.prog O.az j) x' s with
  | none=>simp [hx] at hv
  | some r=>
   obtain ⟨ex1,s1⟩:=r;have h1:=ihx l k j hj s ex1 s1 (by rw [rb];exact hx) ro lo m S w a cJ ht hh hb hn a6 eN cu
   refine wpIn_seq (wpIn_mono h1 ?_);rintro e a1 w1 ⟨rfl,m1,S1,g1,g2,g3,g4,g5,g6,g7⟩;have stop:ex1≠.normal->ex=ex1/\s'=s1:=by
    intro fj;rw [hx] at hv
    cases ex1 with
    | normal=>exact absurd rfl fj
    | ret=>simp only [yb,yk] at hv;exact ⟨hv.1.symm,hv.2.symm⟩
    | exit id=>simp only [yb,yk] at hv;exact ⟨hv.1.symm,hv.2.symm⟩
   cases ex1 with
   | normal=>
    simp only [hx] at hv;simp only [py,Exit.then];have h2:=ihy l1 k1 j hj s1 ex s' (by rw [IV];exact hv) ro lo m1 S1 w1 a1 (JW g5 cJ) g1 g2 (by rw [g3];exact g4) (by rw [g6];exact hn) a6 (xb eN g5.size) g7
    rw [g6] at h2
    exact wpIn_mono h2 (fun e a' w' hp=>eh.then (ex1:= .normal) g3 g5 hp)
   | ret=>
    obtain ⟨rfl,rfl⟩:=stop (by simp);exact ⟨rfl,m1,S1,g1,g2,g3,g4,g5,g6,g7⟩
   | exit id=>
    obtain ⟨rfl,rfl⟩:=stop (by simp);exact ⟨rfl,m1,S1,g1,g2,g3,g4,g5,g6,g7⟩
 | cond x p q ihp ihq=>
  intro l k j hj s ex s' hv ro lo m S w a cJ ht hh hb hn a6 eN cu;simp only [comp] at hv;generalize rb:comp O.P (O.hint h) p (l+1) k=qx at hv;obtain ⟨p',l1,k1⟩:=qx;simp only at hv;generalize IV:comp O.P (O.hint h) q l1 k1=qy at hv;obtain ⟨q',l2,k2⟩:=qy;simp only at hv;have main:∀(ex:Ex) (s':St),bA O.prog O.az (ev O.prog O.az j) (.cond (aM (O.hint h) x) p' q') s=some (ex,s')->(Code.cond x p q).wpIn (WF ro) 0 O.P (eh O m S w s ex s' a.tmps.size lo) a w:=by
   intro ex s' hv;simp only [bA] at hv;have rx:=b9 (hO.hint h) ht x
   split at hv
   ·rename_i t hx;rw [hx] at rx;simp only [ah] at rx
    cases t with
    | true=>
     simp only [yz] at hv;exact wpIn_cond_true rx (ihp (l+1) k j hj s ex s' (by rw [rb];exact hv) ro lo m S w a cJ ht hh hb hn a6 eN cu)
    | false=>
     simp only [yY] at hv;exact wpIn_cond_false rx (ihq l1 k1 j hj s ex s' (by rw [IV];exact hv) ro lo m S w a cJ ht hh hb hn a6 eN cu)
   ·cases hv
  cases ahu:(O.hint h).out l with
  | none=>rw [ahu] at hv;exact main ex s' hv
  | some live=>
   rw [ahu] at hv;simp only at hv;rw [show bA O.prog O.az (ev O.prog O.az j) (.seq (.cond (aM (O.hint h) x) p' q') (.kp live)) s=match bA O.prog O.az (ev O.prog O.az j) (.cond (aM (O.hint h) x) p' q') s with | some (.normal,s1)=>some (.normal,aQ live s1) | r=>r from rfl] at hv
   cases hx:bA O.prog O.az (ev O.prog O.az j) (.cond (aM (O.hint h) x) p' q') s with
   | none=>simp [hx] at hv
   | some r=>
    obtain ⟨ex1,s1⟩:=r;have h1:=main ex1 s1 hx;rw [hx] at hv
    cases ex1 with
    | normal=>
     simp only [yb,yk] at hv;obtain ⟨rfl,rfl⟩:=hv;exact wpIn_mono h1 (fun e a' w' hp=>eh.dF live hp)
    | ret=>simp only [yb,yk] at hv;obtain ⟨rfl,rfl⟩:=hv;exact h1
    | exit id=>simp only [yb,yk] at hv;obtain ⟨rfl,rfl⟩:=hv;exact h1
 | block id x ih=>
  intro l k j hj s ex s' hv ro lo m S w a cJ ht hh hb hn a6 eN cu;simp only [comp] at hv;generalize rb:comp O.P (O.hint h) x l k=qx at hv;obtain ⟨x',r⟩:=qx;simp only at hv;have main:∀(ex:Ex) (s':St),bA O.prog O.az (ev O.prog O.az j) (.dj id x') s=some (ex,s')->(Code.block id x).wpIn (WF ro) 0 O.P (eh O m S w s ex s' a.tmps.size lo) a w:=by
   intro ex s' hv;simp only [bA] at hv
   cases hx:bA O.prog O.az (ev O.prog O.az j) x' s with
   | none=>simp [hx] at hv
   | some q=>
    obtain ⟨ex1,s1⟩:=q;have h1:=ih l k j hj s ex1 s1 (by rw [rb];exact hx) ro lo m S w a cJ ht hh hb hn a6 eN cu
    refine wpIn_block (wpIn_mono h1 ?_);rintro e a1 w1 ⟨rfl,g⟩
    cases ex1 with
    | normal=>
     simp only [hx,yb,yk] at hv;obtain ⟨rfl,rfl⟩:=hv;exact ⟨rfl,g⟩
    | ret=>
     simp only [hx,yb,yk] at hv;obtain ⟨rfl,rfl⟩:=hv;exact ⟨rfl,g⟩
    | exit i=>
     simp only [hx] at hv
     cases NI:yq i id with
     | true=>
      rw [NI] at hv;simp only [yz,yb,yk] at hv;obtain ⟨rfl,rfl⟩:=hv
      have:=yj NI
      subst this;simp only [py,Exit.inBlock,xO];exact ⟨rfl,g⟩
     | false=>
      rw [NI] at hv;simp only [yY,yb,yk] at hv;obtain ⟨rfl,rfl⟩:=hv;have fj:i≠id:=fun e=>by subst e;simp at NI
      simp only [py,Exit.inBlock,fj,xj];exact ⟨rfl,g⟩
  have axy:∀live:List Nat,bA O.prog O.az (ev O.prog O.az j) (.seq (.dj id x') (.kp live)) s=some (ex,s')->(Code.block id x).wpIn (WF ro) 0 O.P (eh O m S w s ex s' a.tmps.size lo) a w:=by
   intro live hv;rw [show bA O.prog O.az (ev O.prog O.az j) (.seq (.dj id x') (.kp live)) s=match bA O.prog O.az (ev O.prog O.az j) (.dj id x') s with | some (.normal,s1)=>some (.normal,aQ live s1) | r=>r from rfl] at hv
   cases hx:bA O.prog O.az (ev O.prog O.az j) (.dj id x') s with
   | none=>simp [hx] at hv
   | some r=>
    obtain ⟨ex1,s1⟩:=r;have h1:=main ex1 s1 hx;rw [hx] at hv
    cases ex1 with
    | normal=>
     simp only [yb,yk] at hv;obtain ⟨rfl,rfl⟩:=hv;exact wpIn_mono h1 (fun e a' w' hp=>eh.dF live hp)
    | ret=>simp only [yb,yk] at hv;obtain ⟨rfl,rfl⟩:=hv;exact h1
    | exit id=>simp only [yb,yk] at hv;obtain ⟨rfl,rfl⟩:=hv;exact h1
  split at hv
  ·exact axy _ hv
  ·exact main ex s' hv
 | loop x ih=>
  intro l k j hj s ex s' hv;simp only [comp] at hv;generalize rb:comp O.P (O.hint h) x (l+1) k=qx at hv;obtain ⟨x',r⟩:=qx;simp only at hv;have rounds:∀(j:Nat),j<=n->∀(s:St) (ex:Ex) (s':St),bA O.prog O.az (ev O.prog O.az j) (.loop ((O.hint h).live l) x') s=some (ex,s')->∃K,∀(ro:Option Nat) (lo:Nat) (m:Mp) (S:Nat->Prop) (w:yi) (a:Act),rN ro w->bS O m S w s.tm a.tmps->aP O m S w s.hp s.ct->s.base<=s.ct->(O.hint h).n<=a.tmps.size->O.w0.heap.size<=lo->lo<=w.heap.size->Marks lo S w a.defers->
    Code.roundsIn (WF ro) 0 O.P x (eh O m S w s ex s' a.tmps.size lo) K a w:=by
   intro j
   induction j with
   | zero=>
    intro hj s ex s' hv;simp only [bA] at hv
    cases hx:bA O.prog O.az (ev O.prog O.az 0) x' (aQ ((O.hint h).live l) s) with
    | none=>simp [hx] at hv
    | some q=>
     obtain ⟨ex1,s1⟩:=q;have stop:ex1≠.normal->ex=ex1/\s'=s1:=by
      intro fj;rw [hx] at hv
      cases ex1 with
      | normal=>exact absurd rfl fj
      | ret=>simp only [yb,yk] at hv;exact ⟨hv.1.symm,hv.2.symm⟩
      | exit id=>simp only [yb,yk] at hv;exact ⟨hv.1.symm,hv.2.symm⟩
     refine ⟨1,fun ro lo m S w a cJ ht hh hb hn a6 eN cu=>?_⟩;rw [roundsIn_succ];obtain ⟨m1,c1,c2,c3,c4,c5⟩:=OG (live:=(O.hint h).live l) ht hh hb;have h1:=ih (l+1) k 0 hj _ ex1 s1 (by rw [rb];exact hx) ro lo m1 S w a cJ c1 c2 (by rw [c3];exact c4) hn a6 eN cu
     refine wpIn_mono h1 ?_;rintro e a1 w1 hp;have ap:=eh.then (O:=O) (m:=m) (S:=S) (w:=w) (s:=s) (ex1:= .normal) c3 c5 hp;obtain ⟨rfl,_⟩:=hp
     cases ex1 with
     | normal=>simp only [hx,Gk] at hv;cases hv
     | ret=>obtain ⟨rfl,rfl⟩:=stop (by simp);exact ap
     | exit id=>obtain ⟨rfl,rfl⟩:=stop (by simp);exact ap
   | succ j ihj=>
    intro hj s ex s' hv;simp only [bA] at hv
    cases hx:bA O.prog O.az (ev O.prog O.az (j+1)) x' (aQ ((O.hint h).live l) s) with
    | none=>simp [hx] at hv
    | some q=>
     obtain ⟨ex1,s1⟩:=q;have stop:ex1≠.normal->ex=ex1/\s'=s1:=by
      intro fj;rw [hx] at hv
      cases ex1 with
      | normal=>exact absurd rfl fj
      | ret=>simp only [yb,yk] at hv;exact ⟨hv.1.symm,hv.2.symm⟩
      | exit id=>simp only [yb,yk] at hv;exact ⟨hv.1.symm,hv.2.symm⟩
     have more:∃K,ex1= .normal->∀(ro:Option Nat) (lo:Nat) (m:Mp) (S:Nat->Prop) (w:yi) (a:Act),rN ro w->bS O m S w s1.tm a.tmps->aP O m S w s1.hp s1.ct->s1.base<=s1.ct->(O.hint h).n<=a.tmps.size->O.w0.heap.size<=lo->lo<=w.heap.size->Marks lo S w a.defers->
       Code.roundsIn (WF ro) 0 O.P x (eh O m S w s1 ex s' a.tmps.size lo) K a w:=by
      cases ex1 with
      | normal=>
       rw [hx] at hv;have ek:ev O.prog O.az (j+1) (.loop ((O.hint h).live l) x') s1=some (ex,s'):=hv;rw [Gl] at ek;obtain ⟨K,hK⟩:=ihj (by omega) s1 ex s' ek;exact ⟨K,fun _=>hK⟩
      | ret=>exact ⟨0,fun h=>by cases h⟩
      | exit id=>exact ⟨0,fun h=>by cases h⟩
     obtain ⟨K,hK⟩:=more;refine ⟨K+1,fun ro lo m S w a cJ ht hh hb hn a6 eN cu=>?_⟩;rw [roundsIn_succ];obtain ⟨m1,c1,c2,c3,c4,c5⟩:=OG (live:=(O.hint h).live l) ht hh hb;have h1:=ih (l+1) k (j+1) hj _ ex1 s1 (by rw [rb];exact hx) ro lo m1 S w a cJ c1 c2 (by rw [c3];exact c4) hn a6 eN cu
     refine wpIn_mono h1 ?_;rintro e a1 w1 hp;have ap:=eh.then (O:=O) (m:=m) (S:=S) (w:=w) (s:=s) (ex1:= .normal) c3 c5 hp;obtain ⟨rfl,_⟩:=hp
     cases ex1 with
     | normal=>
      simp only [py,Exit.then];obtain ⟨_,m2,S2,g1,g2,g3,g4,g5,g6,g7⟩:=ap;have h2:=hK rfl ro lo m2 S2 w1 a1 (JW g5 cJ) g1 g2 (by rw [g3];exact g4) (by rw [g6];exact hn) a6 (xb eN g5.size) g7
      rw [g6] at h2;revert h2;generalize hA:a.tmps.size=sz;intro h2;have step:∀(K:Nat) (a':Act) (w':yi),Code.roundsIn (WF ro) 0 O.P x (eh O m2 S2 w1 s1 ex s' sz lo) K a' w'->Code.roundsIn (WF ro) 0 O.P x (eh O m S w s ex s' sz lo) K a' w':=by
       intro K
       induction K with
       | zero=>intro a' w' Au;exact Au
       | succ K ihK=>
        intro a' w' Au;rw [roundsIn_succ] at Au ⊢;refine wpIn_mono Au (fun e a'' Nw hq=>?_)
        cases e with
        | normal=>exact ihK a'' Nw hq
        | exit id=>exact eh.then (ex1:= .normal) g3 g5 hq
        | goto x=>exact eh.then (ex1:= .normal) g3 g5 hq
        | ret=>exact eh.then (ex1:= .normal) g3 g5 hq
        | panic x=>exact eh.then (ex1:= .normal) g3 g5 hq
        | outgrown=>exact eh.then (ex1:= .normal) g3 g5 hq
      exact step K a1 w1 h2
     | ret=>obtain ⟨rfl,rfl⟩:=stop (by simp);exact ap
     | exit id=>obtain ⟨rfl,rfl⟩:=stop (by simp);exact ap
  obtain ⟨K,hK⟩:=rounds j hj s ex s' hv;intro ro lo m S w a cJ ht hh hb hn a6 eN cu;exact wpIn_loop_rounds K (hK ro lo m S w a cJ ht hh hb hn a6 eN cu)
 | scope x ih=>
  intro l k j hj s ex s' hv ro lo m S w a cJ ht hh hb hn a6 eN cu;simp only [comp] at hv;exact amk (ih l k j hj s ex s' hv ro lo m S w a cJ ht hh hb hn a6 eN cu) (fun l a w=>eh.none l)
 | rangeFunc f ps cr body iha ihb=>
  intro l k j hj s ex s' hv;simp only [comp] at hv;generalize rb:comp O.P (O.hint h) cr l k=qx at hv;obtain ⟨x',l1,k1⟩:=qx;simp only at hv;generalize IV:comp O.P (O.hint h) body l1 k1=qy at hv;obtain ⟨y',l2,k2⟩:=qy;simp only at hv
  cases ha:rR (O.hint h).n ps.toList with
  | false=>rw [ha] at hv;exact (Ri hv).elim
  | true=>
   rw [ha] at hv;exact axx hO (hC j hj) ⟨l,k,by rw [rb]⟩ ⟨l1,k1,by rw [IV]⟩ ha hv
end
end
section
open Go
section
variable {O:a8} {m:Mp} {S:Nat->Prop} {w:yi}
def Z5:∀(ao:List AV) (j i:Nat),aj (dR j ao) (j+i)=ao.getD i .undef
 | [],j,i=>by simp [dR,aj]
 | v::r,j,i=>by
  cases i with
  | zero=>simp [dR,aj]
  | succ i=>
   simp only [dR,aj];have hb:yq j (j+(i+1))=false:=by
    cases hq:yq j (j+(i+1)) with
    | false=>rfl
    | true=>have:=yj hq;omega
   rw [hb,show j+(i+1)=j+1+i by omega];rw [Z5 r (j+1) i]
   simp
def Z6 {ao:List AV} {args:Array yg} (n:Nat) (h:au O.af m S w ao args.toList):bS O m S w (dR 0 ao) (args++vP n undef):=by
 intro i
 have:=Z5 ao 0 i
 rw [yh] at this;rw [this,xG]
 cases hv:ao[i]? with
 | none=>simp only [Option.getD_none,ah]
 | some v=>
  obtain ⟨u,h1,h2⟩:=Pc h hv;have hl:i<args.size:=by
   grind
  have:(args++vP n undef).getD i undef=u:=by
   rw [wC,tQ hl]
   grind
  grind
def Dr (tmps:Array yg):ycg->Sem yg
 | .tmp t=>pure (tmps.getD t undef)
 | .cell a t=>do loadVar t (<-asAddr (tmps.getD a undef))
def aml (fn:yae) (tmps:Array yg):results fn tmps=(do let vs <-fn.results.mapM (Dr tmps);pure (if h:vs.size=1 then vs[0] else .tuple vs)):=by
 rfl
def OI {s:St} {ct:Nat} {tmps:Array yg} (hh:aP O m S w s.hp ct) (ht:bS O m S w s.tm tmps):∀{rs:List ycg} {rv:List RV} {vs:List AV},nJ O.P rs=some rv->jV s rv=some vs->
  ∃us,(rs.mapM (Dr tmps)).run O.P w= .ok us w/\au O.af m S w vs us
 | [],rv,vs,h1,h2=>by
  simp only [nJ,yb] at h1;subst h1;simp only [jV,yb] at h2;subst h2;exact ⟨[],by simp,by simp [au]⟩
 | .tmp t::rs,rv,vs,h1,h2=>by
  simp only [nJ] at h1
  cases hc:nJ O.P rs with
  | none=>simp [hc] at h1
  | some l=>
   simp only [hc,yb] at h1;subst h1;simp only [jV,results1] at h2
   cases hl:jV s l with
   | none=>simp [hl] at h2
   | some W1=>
    simp only [hl,yb] at h2;subst h2;obtain ⟨us,g1,g2⟩:=OI hh ht hc hl;refine ⟨tmps.getD t undef::us,?_,by simp only [au];exact ⟨_,_,rfl,ht t,g2⟩⟩
    rw [ud];simp only [Dr,Sem.run_bind,Sem.run_pure,Result.andThen_ok];rw [g1];rfl
 | .cell a t::rs,rv,vs,h1,h2=>by
  simp only [nJ] at h1
  cases hz:cg O.P t with
  | none=>simp [hz] at h1
  | some sz=>
   cases IW:dz O.P t with
   | none=>simp [hz,IW] at h1
   | some ag=>
    cases hc:nJ O.P rs with
    | none=>simp [hz,IW,hc] at h1
    | some l=>
     simp only [hz,IW,hc,yb] at h1;subst h1;simp only [jV] at h2
     cases dK:results1 s (.cell a sz ag) with
     | none=>simp [dK] at h2
     | some v=>
      cases hl:jV s l with
      | none=>simp [dK,hl] at h2
      | some W1=>
       simp only [dK,hl,yb] at h2;subst h2;obtain ⟨us,g1,g2⟩:=OI hh ht hc hl;have ra:=ht a;have key:∃b o u,tmps.getD a undef= .pointer (some ⟨b,o,none⟩)/\(loadVar t ⟨b,o,none⟩).run O.P w= .ok u w/\ah O.af m S w v u:=by
        simp only [results1] at dK;cases hta:aj s.tm a<;>rw [hta] at dK ra<;>simp only [reduceCtorEq] at dK
        ·rename_i id o;simp only [ah] at ra;obtain ⟨p,hm,hp⟩:=ra
         cases hg:aA s.hp id with
         | none=>simp [hg] at dK
         | some ob=>
          cases ob<;>simp only [hg,reduceCtorEq] at dK
          have Xu:=Pb (o:=0) (n:=0) hh hg hm;obtain ⟨u,q1,q2⟩:=Kq hz IW (oQ o _ p.b p.o Xu) dK;exact ⟨p.b,p.o+o,u,hp,q1,q2⟩
        ·rename_i cs;simp only [ah] at ra;obtain ⟨b,o,hp,_,_,Xu⟩:=ra;obtain ⟨u,q1,q2⟩:=Kq hz IW Xu dK;exact ⟨b,o,u,hp,q1,q2⟩
       obtain ⟨b,o,u,q1,q2,q3⟩:=key;refine ⟨u::us,?_,by simp only [au];exact ⟨_,_,rfl,q3,g2⟩⟩
       rw [ud]
       have:(Dr tmps (.cell a t)).run O.P w= .ok u w:=by
        simp only [Dr];rw [q1];simp [asAddr,q2]
       rw [Sem.run_bind,this,Result.andThen_ok,Sem.run_bind,g1];rfl
def alF {s:St} {ct:Nat} {tmps:Array yg} {fn:yae} {rv:List RV} {v:AV} (hh:aP O m S w s.hp ct) (ht:bS O m S w s.tm tmps) (h1:nJ O.P fn.results.toList=some rv) (h2:gX s rv=some v):
  ∃u,(results fn tmps).run O.P w= .ok u w/\ah O.af m S w v u:=by
 unfold gX at h2
 cases hl:jV s rv with
 | none=>simp [hl] at h2
 | some vs=>
  obtain ⟨us,g1,g2⟩:=OI hh ht h1 hl;have hlen:=fX _ _ g2;have hm:(fn.results.mapM (Dr tmps)).run O.P w= .ok us.toArray w:=by
   rw [Array.mapM_eq_mapM_toList];simp [g1]
  have eW:(results fn tmps).run O.P w= .ok (if h:us.toArray.size=1 then us.toArray[0] else .tuple us.toArray) w:=by
   rw [aml,Sem.run_bind,hm];rfl
  rw [hl] at h2
  split at h2
  ·rename_i v' nj;simp only [yb] at nj h2;subst nj;simp only [au] at g2
   grind
  ·rename_i dI fj nj;simp only [yb] at nj h2;subst nj;subst h2;have h1:¬us.toArray.size=1:=by
    intro h
    have:vs.length=1:=by simp_all
    cases vs with
    | nil=>simp at this
    | cons x t=>
     cases t with
     | nil=>exact fj x rfl
     | cons y t=>simp at this
   simp only [ah]
   grind
  ·grind
def OZ {s:St} {tmps:Array yg} {fn:yae} {rv:List RV} {v:AV} {m0:Mp} {S0:Nat->Prop} {w0:yi} {hp0:Hp} {NJ:Nat} (h1:nJ O.P fn.results.toList=some rv) (h2:gX s rv=some v) (fL:NJ<=s.ct):∀(rs:List Nat) (w:yi),
  rs.Nodup->(∀r,r∈rs->w.heap[r]? =some (.deferred (some []))/\¬S r/\w0.heap.size<=r)->O.w0.heap.size<=w0.heap.size->aP O m S w s.hp s.ct->bS O m S w s.tm tmps->bY m0 S0 w0 hp0 m S w s.hp NJ->
  yci Fence.wide 0 O.P fn tmps (rE O m0 S0 w0 hp0 NJ v s.hp s.ct) (rs.map (fun r=>{target:= .collected r,args:=#[]})) .returning w
 | [],w,_,_,_,hh,ht,hf=>by
  obtain ⟨u,g1,g2⟩:=alF hh ht h1 h2;exact ⟨u,g1,u,m,S,rfl,hh,fL,g2,hf⟩
 | r::rs,w,kJ,hr,a6,hh,ht,hf=>by
  obtain ⟨jz,cU⟩:=List.nodup_cons.1 kJ;obtain ⟨a1,a2,a3⟩:=hr r uA;have ff:=CI w r (.deferred none);have nh:¬dJ m s.hp r:=fun ho=>aaK hh ho _ a1
  have Au:=Zg hh ff a2 nh (xb a6 a3)
  have aU:fb S w {w with heap:=w.heap.setIfInBounds r (.deferred none)}:=fun b hb=>ff.other b (fun e=>a2 (e▸hb))
  have As:bY m0 S0 w0 hp0 m S {w with heap:=w.heap.setIfInBounds r (.deferred none)} s.hp NJ:=by
   refine ⟨hf.os,hf.tape,hf.output,by rw [ff.size];exact hf.size,fun b hb ho=>(ff.other b (by omega)).trans (hf.same b hb ho),hf.sub,fun b hb=>(ff.other b (fun e=>a2 (e▸hf.sub b hb))).trans (hf.still b hb),hf.new,hf.own,hf.old,fun b x hb=>?_⟩
   obtain ⟨x',hx⟩:=hf.loops b x hb;exact ⟨x',(ff.other b (fun e=>by subst e;rw [a1] at hx;cases hx)).trans hx⟩
  refine ⟨by simp,.inl ⟨r,_,rfl,?_,OZ h1 h2 fL rs _ cU (fun r' bW=>?_) a6 Au (zi (fun _ _ h=>h) (fun _ h=>h) aU ht) As⟩⟩
  ·simp only [Instr.takeDeferred,Sem.run_bind,Zh (P:=O.P) a1 (fun _ _ _=>by simp),Result.andThen_ok,JI (P:=O.P) a1 (fun _ _ _=>by simp),Sem.run_pure]
  ·obtain ⟨b1,b2,b3⟩:=hr r' (vt _ bW);exact ⟨(ff.other r' (fun e=>jz (e▸bW))).trans b1,b2,b3⟩
end
section
variable {O:a8} {self:cm}
def axz (hO:ef O) (hS:∀v s ex s',self v s=some (ex,s')->∀c h l k,(comp O.P (O.hint h) c l k).1=v->zP O h c s ex s') {n:Nat} {F:aD} (hF:O.prog n=some F) {hp:Hp} {ct:Nat} {ao:List AV} {ex:Ex} {s:St}
  (hv:self F.body ⟨dR 0 ao,hp,ct,ct⟩=some (ex,s)) (hex:ex= .normal\/ex= .ret) {v:AV} (hr:gX s F.cZ=some v):zO O n hp ct ao v s.hp s.ct:=by
 intro m S w args hh fy;obtain ⟨fn,q1,q2,q3⟩:=hO.prog n F hF;obtain ⟨c,q4,q5,q6,q7⟩:=Ox q2;refine .inl ⟨CQ q1 (by rw [q4];rfl) q3,?_⟩
 have hc:=hS _ _ _ _ hv c n 0 0 q5.symm;have hw:=hc none w.heap.size m S w {tmps:=args++vP (fn.ntmps-args.size) undef,defers:=[]} (fun l hl=>by cases hl) (Z6 _ fy) hh (yB _) (by simp;omega) hh.fw (yB _) ⟨[],rfl,by simp,by simp⟩
 refine callsIn_of_wp_marks (F:=Fence.wide) q1 q4 trivial (wpIn_mono hw ?_);rintro e a' w' ⟨rfl,m',S',k1,k2,k3,k4,k5,k6,rs,k7,k8,k9⟩;have main:yci Fence.wide 0 O.P fn a'.tmps (rE O m S w hp ct v s.hp s.ct) a'.defers .returning w':=by
  rw [k7];exact OZ q6 hr k4 rs w' k8 k9 hh.fw k2 k1 k5
 rcases hex with rfl | rfl
 ·exact main
 ·exact main
def zx.mono {P:y8} {f:tq} {args:Array yg} {w:yi} {R R':yar->yi->Prop} (h:zx P f args w R) (hr:∀e w',R e w'->R' e w'):zx P f args w R':=by
 rcases h with ⟨h1,h2⟩ | ⟨u,w',h1,h2⟩
 ·exact .inl ⟨h1,CallsIn.mono h2 hr⟩
 ·exact .inr ⟨u,w',h1,hr _ _ h2⟩
def ann {w:yi} {S:Nat->Prop} (hg:zN O w) (hs:∀b,S b->b<w.heap.size):aP O eB S w [] 0:=
 ⟨(fun id o p h _=>by simp [aA] at h),(fun id p h=>by cases h),(fun i j oi oj pi pj h=>by simp [aA] at h),hs,(fun id p h=>by cases h),(fun id p h=>by cases h),hg.1,hg.2,(fun id o h=>by simp [aA] at h)⟩
def Pp {b:Nat} (h:dJ eB [] b):False:=by
 obtain ⟨_,_,_,h,_⟩:=h;simp [aA] at h
def Oo {n:Nat} {ao:List AV} {v r:AV} {s:St} (h:zO O n [] 0 ao v s.hp s.ct) (hr:result s.hp v=some r):dN O n ao r:=by
 intro w S args hg hs fy hp;refine zx.mono (h eB S w args (ann hg hs) fy) ?_;rintro e w' ⟨u,m',S',rfl,k1,k2,k3,k4⟩;have a6:∀b,dJ m' s.hp b->w.heap.size<=b:=fun b hb=>(k4.own b hb).elim (fun h=>(Pp h).elim) (fun h=>h)
 obtain ⟨S2,g1,g2,g3,g4⟩:=ane (lo:=w.heap.size) k1 hr k3 a6;refine ⟨u,S2,rfl,⟨k4.os,k4.tape,k4.output,k4.size,fun b hb=>k4.same b hb Pp⟩,fun b hb=>g1 b (k4.sub b hb),fun b hb=>?_,g3,g4⟩;rcases g2 b hb with h | h
 ·rcases k4.new b h with h | h | h
  ·exact .inl h
  ·exact (Pp h).elim
  ·exact .inr h
 ·exact .inr (a6 b h)
def amm (hO:ef O) (hS:∀v s ex s',self v s=some (ex,s')->∀c h l k,(comp O.P (O.hint h) c l k).1=v->zP O h c s ex s'):mv O self:=by
 have heap:∀(n:Nat) (F:aD),O.prog n=some F->∀(hp:Hp) (ct:Nat) (ao:List AV) (ex:Ex) (s:St) (v:AV),self F.body ⟨dR 0 ao,hp,ct,ct⟩=some (ex,s)->(ex= .normal\/ex= .ret)->gX s F.cZ=some v->zO O n hp ct ao v s.hp s.ct:=
  fun n F hF hp ct ao ex s v h1 h2 h3=>axz hO hS hF h1 h2 h3
 refine ⟨?_,?_,fun hp ct l xs v ap aX hv=>apa hS hv⟩
 ·intro n ao r hv;unfold bG at hv
  cases hL:O.az.pure n with
  | some sp=>rw [hL] at hv;exact hO.az n sp ao r hL hv
  | none=>
   simp only [hL] at hv
   cases hF:O.prog n with
   | none=>simp [hF] at hv
   | some F=>
    simp only [hF] at hv
    split at hv
    ·rename_i s hb
     cases hr:gX s F.cZ with
     | none=>simp [hr] at hv
     | some v=>simp only [hr] at hv;exact Oo (heap n F hF [] 0 ao .normal s v hb (.inl rfl) hr) hv
    ·rename_i s hb
     cases hr:gX s F.cZ with
     | none=>simp [hr] at hv
     | some v=>simp only [hr] at hv;exact Oo (heap n F hF [] 0 ao .ret s v hb (.inr rfl) hr) hv
    ·cases hv
 ·intro hp ct n ao v ap aX hv;unfold gY at hv
  cases hL:O.az.heap n with
  | some sp=>rw [hL] at hv;exact hO.Dp n sp hp ct ao v ap aX hL hv
  | none=>
   simp only [hL] at hv
   cases hF:O.prog n with
   | none=>simp [hF] at hv
   | some F=>
    grind
def YR (hO:ef O):∀n,mv O (ev O.prog O.az n):=by
 intro n
 induction n using vh with
 | _ n ih=>
  refine amm hO (fun v s ex s' hv c h l k hc=>?_)
  cases n with
  | zero=>rw [Gk] at hv;cases hv
  | succ n=>
   rw [Gl,<-hc] at hv;exact abO hO n (fun k hk=>ih k (by omega)) h c l k n (yB _) s ex s' hv
def sound (hO:ef O) {n f:Nat} {ao:List AV} {r:AV} (h:W2 O.prog O.az n f ao=some r):dN O f ao r:=(YR hO n).pure f ao r h
end
end
def gN:List Nat->List Nat->Bool
 | [],_=>true
 | a::x,b::y=>yq a b&&gN x y
 | _::_,[]=>false
def kV (sub:List Nat):List Nat->Nat->Option Nat
 | [],k=>bif gN sub [] then some k else none
 | b::r,k=>bif gN sub (b::r) then some k else kV sub r (k+1)
def Lz:List AV->Option AV
 | [.str s,.str sep]=>
  bif yK s.length 4294967281 then
   match kV sep s 0 with
   | some i=>some (.aa [.str (s.take i),.str (s.drop (i+sep.length)),.bool true])
   | none=>some (.aa [.str s,.str [],.bool false])
  else none
 | _=>none
def JK:List AV->Option AV
 | [.str s,.str p]=>some (bif gN p s then .aa [.str (s.drop p.length),.bool true] else .aa [.str s,.bool false])
 | _=>none
def JL:List AV->Option AV
 | [.str s,.str p]=>some (.bool (gN p s))
 | _=>none
def JA:List AV->Option AV
 | [.str s,.str p]=>some (.str (bif gN p s then s.drop p.length else s))
 | _=>none
def Ds (i:Nat):List Nat->Bool
 | []=>false
 | j::r=>bif yq j i then true else Ds i r
def jH (set:List Nat):List Nat->List Nat
 | []=>[]
 | b::r=>bif Ds b set then jH set r else b::r
def CY:List Nat->Bool
 | []=>true
 | b::r=>yK b 128&&CY r
def trimS:List AV->Option AV
 | [.str s,.str set]=>bif CY set&&(yK s.length 4294967281&&yK set.length 4294967281) then some (.str (jH set (jH set s.reverse).reverse)) else none
 | _=>none
def gh (s:List Nat):Nat->List Nat
 | 0=>[]
 | n+1=>s++gh s n
def zy:List AV->Option AV
 | [.str s,.int .i64 (.ofNat n)]=>bif yy n 1099511627776&&yy (s.length*n) 1099511627776 then some (.str (gh s n)) else none
 | _=>none
def lL:Nat->Nat->List Nat->List Nat
 | 0,_,acc=>acc
 | f+1,n,acc=>bif yK n 10 then (48+n)::acc else lL f (n/10) ((48+n%10)::acc)
def ax (n:Nat):List Nat:=lL (n+1) n []
def aW:Int->List Nat
 | .ofNat n=>ax n
 | .negSucc n=>45::ax (n+1)
def zQ:Int->Bool
 | .ofNat n=>yK n 9223372036854775808
 | .negSucc n=>yK n 9223372036854775808
def Hd:List AV->Option AV
 | [.int .i64 n]=>bif zQ n then some (.str (aW n)) else none
 | _=>none
def zd:List AV->Option AV
 | [.int .u64 (.ofNat n),.int .i64 10]=>bif yK n 18446744073709551616 then some (.str (ax n)) else none
 | _=>none
def cy:List Nat->Nat->Option Nat
 | [],a=>some a
 | b::r,a=>bif yy 48 b&&yy b 57 then cy r (10*a+(b-48)) else none
def He:List AV->Option AV
 | [.str s]=>
  bif yK 0 s.length&&yy s.length 18 then
   match cy s 0 with | some n=>some (.aa [.int .i64 n,.undef]) | none=>none
  else none
 | _=>none
def mA:List AV->Option AV
 | [.int .u64 (.ofNat x),.int .u64 (.ofNat y),.int .u64 (.ofNat c)]=>
  bif yy c 1&&(yK x 18446744073709551616&&yK y 18446744073709551616) then some (.aa [.int .u64 ((x+y+c)%18446744073709551616:Nat),.int .u64 ((x+y+c)/18446744073709551616:Nat)]) else none
 | _=>none
def zE:List AV->Option AV
 | [.int .u64 (.ofNat x),.int .u64 (.ofNat y),.int .u64 (.ofNat c)]=>
  bif yy c 1&&(yK x 18446744073709551616&&yK y 18446744073709551616) then some (.aa [.int .u64 ((x+18446744073709551616*2-y-c)%18446744073709551616:Nat),.int .u64 (bif yy (y+c) x then 0 else 1)]) else none
 | _=>none
def p8:List AV->Option AV
 | [.int .u64 (.ofNat x),.int .u64 (.ofNat y)]=>bif yK x 18446744073709551616&&yK y 18446744073709551616 then some (.aa [.int .u64 (x*y/18446744073709551616:Nat),.int .u64 (x*y%18446744073709551616:Nat)]) else none
 | _=>none
def dG:Nat->Nat->Nat
 | 0,_=>0
 | f+1,n=>bif yq n 0 then 0 else 1+dG f (n/2)
def Gw:List AV->Option AV
 | [.int .u64 (.ofNat x)]=>bif yK x 18446744073709551616 then some (.int .i64 (dG 64 x)) else none
 | _=>none
def Dk:List AV->Option AV
 | [.int .u64 (.ofNat x)]=>bif yK x 18446744073709551616 then some (.int .i64 (64-dG 64 x:Nat)) else none
 | _=>none
def Ke:List AV->Option AV
 | [.aw .f64 b]=>some (.int .u64 b)
 | _=>none
def Jy:List AV->Option AV
 | [.int .u64 (.ofNat n)]=>some (.aw .f64 n)
 | _=>none
section
open Go
section
variable {O:a8} {n:Nat}
def FP {w w':yi} (h:RowKit.Below w.heap.size w w'):Calm w w':=⟨h.os,h.tape,h.output,h.size,h.block⟩
def ano {w:yi} (k:Nat):Calm w (w.drewN k):=⟨rfl,rfl,rfl,yB _,fun _ _=>rfl⟩
def anp {w:yi} (h:zN O w) {a:Addr} {v:yg} (hc:O.w0.cell? a=some v):w.cell? a=some v:=by
 have hb:a.block<O.w0.heap.size:=by
  unfold World.cell? at hc
  cases hq:O.w0.heap[a.block]? with
  | none=>simp [hq] at hc
  | some o=>exact (xo.1 hq).1
 unfold World.cell? at hc ⊢;rw [h.1 _ hb];exact hc
def mr {ao:List AV} {r:AV} (hr:∀S w' lo u,ah O.af eB S w' r u->lV O.af S w' lo r u)
  (eS:∀args w,(callFunc (O.af n) args).run O.P w= .ok (.enter (O.af n) args) w)
  (h:∀w S args,zN O w->au O.af eB S w ao args.toList->xV O.P (O.af n) args w fun e w'=>∃u,e= .returned u/\Calm w w'/\∀S,ah O.af eB S w' r u):dN O n ao r:=by
 intro w S args hg hS di _;refine .inl ⟨eS args w,Go.callsIn_wide.2 ((h w S args hg di).mono ?_)⟩;rintro e w' ⟨u,rfl,hc,hu⟩;exact ⟨u,S,rfl,hc,fun _ h=>h,fun _ h=> .inl h,fun b hb=>yE (hS b hb) hc.size,hr S w' _ u (hu S)⟩
def JX {ao:List AV} {r:AV} (hr:∀S w' lo u,ah O.af eB S w' r u->lV O.af S w' lo r u)
  (h:∀w S args,au O.af eB S w ao args.toList->∃u,(callFunc (O.af n) args).run O.P w= .ok (.value u) w/\∀S,ah O.af eB S w r u):dN O n ao r:=by
 intro w S args _ hS di _;obtain ⟨u,h1,h2⟩:=h w S args di;exact .inr ⟨u,w,h1,u,S,rfl,Calm.refl,fun _ h=>h,fun _ h=> .inl h,hS,hr S w _ u (h2 S)⟩
def Gm {s:List Nat}:∀S w' lo u,ah O.af eB S w' (.str s) u->lV O.af S w' lo (.str s) u:=fun S w' lo u h=>⟨[],rfl,h,rfl⟩
def PJ {k:IntKind} {z:Int}:∀S w' lo u,ah O.af eB S w' (.int k z) u->lV O.af S w' lo (.int k z) u:=fun S w' lo u h=>⟨[],rfl,h,rfl⟩
def aq7 {k:FloatKind} {z:Nat}:∀S w' lo u,ah O.af eB S w' (.aw k z) u->lV O.af S w' lo (.aw k z) u:=fun S w' lo u h=>⟨[],rfl,h,rfl⟩
def aaN {b:Bool}:∀S w' lo u,ah O.af eB S w' (.bool b) u->lV O.af S w' lo (.bool b) u:=fun S w' lo u h=>⟨[],rfl,h,rfl⟩
def Zi {S:Nat->Prop} {w':yi} {lo:Nat}:∀{vs:List AV} {us:List yg},(∀v,v∈vs->(∀ex sz k cs,v≠.bE ex sz k cs)/\bh v=true)->au O.af eB S w' vs us->jL O.af S w' lo vs us []
 | [],us,_,h=>by simp only [au] at h;exact ⟨h,rfl⟩
 | v::vs,us,hv,h=>by
  simp only [au] at h;obtain ⟨u,t,rfl,h1,h2⟩:=h;have h3:=hv v (by simp);refine ⟨u,t,[],[],rfl,rfl,?_,Zi (fun v hm=>hv v (by simp [hm])) h2⟩;cases v<;>first | exact ⟨rfl,h1,h3.2⟩ | exact absurd rfl (h3.1 _ _ _ _)
def CU {vs:List AV} (hv:∀v,v∈vs->(∀ex sz k cs,v≠.bE ex sz k cs)/\bh v=true):∀S w' lo u,ah O.af eB S w' (.aa vs) u->lV O.af S w' lo (.aa vs) u:=by
 intro S w' lo u h;obtain ⟨xs,rfl,h⟩:=h;exact ⟨xs,[],rfl,Zi hv h,by simp⟩
def BC {S:Nat->Prop} {w:yi} {a:AV} {args:Array yg} (h:au O.af eB S w [a] args.toList):∃u,args=#[u]/\ah O.af eB S w a u:=by
 simp only [au] at h
 grind
def zR {S:Nat->Prop} {w:yi} {a b:AV} {args:Array yg} (h:au O.af eB S w [a,b] args.toList):∃u v,args=#[u,v]/\ah O.af eB S w a u/\ah O.af eB S w b v:=by
 simp only [au] at h
 grind
def af4 {S:Nat->Prop} {w:yi} {a b c:AV} {args:Array yg} (h:au O.af eB S w [a,b,c] args.toList):∃u v x,args=#[u,v,x]/\ah O.af eB S w a u/\ah O.af eB S w b v/\ah O.af eB S w c x:=by
 simp only [au] at h
 grind
def FQ {S:Nat->Prop} {w:yi} {s:List Nat} {l:List UInt8} (h:l.map xf=s):ah O.af eB S w (.str s) (.string ⟨l.toArray⟩):=by
 simp only [ah];exact ⟨_,rfl,h⟩
def toNat_inj {a b:UInt8}:yq a.toNat b.toNat=(a==b):=by
 by_cases h:a=b
 ·simp_all
 ·have h':a.toNat≠b.toNat:=fun e=>h (UInt8.toNat_inj.1 e)
  have e:(a==b)=false:=by simp_all
  rw [e]
  cases hq:yq a.toNat b.toNat with
  | false=>rfl
  | true=>exact absurd (yj hq) h'
def FY:∀(p s:List UInt8),gN (p.map xf) (s.map xf)=p.isPrefixOf s
 | [],s=>by cases s<;>rfl
 | a::p,[]=>rfl
 | a::p,b::s=>by
  simp only [xi,gN,List.isPrefixOf,FY p s,toNat_inj]
def Zj:∀(s sep:List UInt8) (k:Nat),kV (sep.map xf) (s.map xf) k=if 0<=Lib.index s sep then some (k+(Lib.index s sep).toNat) else none
 | [],sep,k=>by
  simp only [List.map_nil,kV,Lib.index]
  cases sep with
  | nil=>simp [gN]
  | cons a r=>simp [gN]
 | b::s,sep,k=>by
  have ih:=Zj s sep (k+1);have hp:=FY sep (b::s);simp only [xi,kV,hp,Lib.index]
  grind
def aaO (b:UInt8):∀cs:List UInt8,Ds b.toNat (cs.map xf)=cs.contains b
 | []=>rfl
 | c::cs=>by
  simp only [xi,Ds,aaO b cs,List.contains_cons,toNat_inj]
  grind
def O0 (cs:List UInt8):∀l:List UInt8,jH (cs.map xf) (l.map xf)=(l.dropWhile (cs.contains ·)).map xf
 | []=>rfl
 | b::l=>by
  simp only [xi,jH,aaO,List.dropWhile_cons,O0 cs l]
  grind
def aaP (l:List UInt8):∀n,gh (l.map xf) n=(Lib.repeatL l n).map xf
 | 0=>rfl
 | n+1=>by simp only [gh,Lib.repeatL,xI,aaP l n]
def YS:∀(f n:Nat) (acc:List Nat),n<f->lL f n acc=(Lib.decDigits n).map xf++acc
 | 0,n,acc,h=>by omega
 | f+1,n,acc,h=>by
  rw [lL,Lib.decDigits];by_cases hn:n<10
  ·rw [show yK n 10=true from yt hn,yz,dif_pos hn]
   have:(ybE (48+n)).toNat=48+n:=by
    rw [yaw];omega
   grind
  ·have hb:yK n 10=false:=by
    cases hq:yK n 10 with
    | false=>rfl
    | true=>exact absurd (yp hq) (by omega)
   rw [hb,yY,dif_neg hn,YS f (n/10) _ (by omega),xI,List.append_assoc]
   have:(ybE (48+n%10)).toNat=48+n%10:=by
    rw [yaw];omega
   grind
def Pq (n:Nat):ax n=(Lib.decDigits n).map xf:=by
 rw [ax,YS (n+1) n [] (by omega),List.append_nil]
def apc (n:Int):aW n=(Lib.itoa n).map xf:=by
 cases n with
 | ofNat k=>
  have:¬ybb k<0:=by simp
  simp only [aW,Lib.itoa,this,xj,Pq];rfl
 | negSucc k=>
  have:Int.negSucc k<0:=Int.negSucc_lt_zero k
  simp only [aW,Lib.itoa,this,xO,Pq,xi];rfl
def Pr:∀f x:Nat,dG f x=Lib.bitLenAux f x
 | 0,_=>rfl
 | f+1,x=>by
  rw [dG,Lib.bitLenAux];by_cases h:x=0
  ·simp_all
  ·have hb:yq x 0=false:=by
    cases hq:yq x 0 with
    | false=>rfl
    | true=>exact absurd (yj hq) h
   rw [hb,yY,yv h,Pr f]
def Zk:∀{cs:List UInt8},CY (cs.map xf)=true->∀(j:Nat) b,cs[j]? =some b->b.toNat<128
 | [],_,j,b,h=>by simp at h
 | c::cs,h,j,b,hb=>by
  simp only [xi,CY,yf] at h
  cases j with
  | zero=>
   simp_all
  | succ j=>exact Zk h.2 j b (by simpa using hb)
def aaQ:∀{l:List UInt8} {a z:Nat},cy (l.map xf) a=some z->Lib.decFrom a l=some z
 | [],a,z,h=>h
 | b::l,a,z,h=>by
  simp only [xi,cy] at h
  cases hb:(yy 48 b.toNat&&yy b.toNat 57) with
  | false=>rw [hb] at h;cases h
  | true=>
   rw [hb] at h;simp only [yf] at hb;have h1:=yp hb.1;have h2:=yp hb.2
   have:=aaQ h
   rw [Lib.decFrom,Lib.digitVal,yG ⟨h1,h2⟩]
   grind
def ape {l:List UInt8} {z:Nat} (h:cy (l.map xf) 0=some z) (h0:0<l.length):Lib.atoi l=some (z:Int):=by
 cases l with
 | nil=>simp at h0
 | cons b r=>
  have hd:=aaQ h;have hb:48<=b.toNat:=by
   simp only [xi,cy] at h
   cases hb:(yy 48 b.toNat&&yy b.toNat 57) with
   | false=>rw [hb] at h;cases h
   | true=>
    simp_all
  have h1:(b==45)=false:=by
   have:b≠45:=fun e=>by subst e;exact absurd hb (by decide)
   grind
  have h2:(b==43)=false:=by
   have:b≠43:=fun e=>by subst e;exact absurd hb (by decide)
   grind
  simp only [Lib.atoi,h1,h2,yC,xj,Lib.decNat,List.isEmpty_cons,hd,Option.map_some]
section
variable {f:tq}
def ali (hf:O.af n=f) (eS:∀args w,(callFunc f args).run O.P w= .ok (.enter f args) w)
  (hc:∀(s p:ByteArray) (w:yi),xV O.P f #[.string s,.string p] w fun e w'=>e= .returned (.tuple #[.string ⟨(Lib.trimPrefix s.data.toList p.data.toList).toArray⟩,.bool (Lib.hasPrefix s.data.toList p.data.toList)])/\w'=w):
  ∀ao r,JK ao=some r->dN O n ao r:=by
 intro ao r h;unfold JK at h
 split at h
 ·rename_i s p;simp only [yb] at h;subst h;refine mr ?_ (by rw [hf];exact eS) ?_
  ·cases gN p s<;>exact CU (by simp [bh])
  ·intro w S args hg di;obtain ⟨u,v,rfl,h1,h2⟩:=zR di;obtain ⟨t1,rfl,rfl⟩:=h1;obtain ⟨t2,rfl,rfl⟩:=h2;rw [hf];refine (hc t1 t2 w).mono ?_;rintro e w' ⟨rfl,rfl⟩;refine ⟨_,rfl,Calm.refl,fun S=>?_⟩;rw [FY,xt];unfold Lib.trimPrefix Lib.hasPrefix
   cases hp:t2.data.toList.isPrefixOf t1.data.toList with
   | true=>
    simp only [yz,xO,ah,au]
    simp_all
   | false=>
    simp only [yY,yC,xj,ah,au]
    grind
 ·cases h
def alj (hf:O.af n=f) (eS:∀args w,(callFunc f args).run O.P w= .ok (.enter f args) w)
  (hc:∀(s p:ByteArray) (w:yi),xV O.P f #[.string s,.string p] w fun e w'=>e= .returned (.bool (Lib.hasPrefix s.data.toList p.data.toList))/\w'=w):
  ∀ao r,JL ao=some r->dN O n ao r:=by
 intro ao r h;unfold JL at h
 split at h
 ·rename_i s p;simp only [yb] at h;subst h;refine mr aaN (by rw [hf];exact eS) ?_
  intro w S args hg di;obtain ⟨u,v,rfl,h1,h2⟩:=zR di;obtain ⟨t1,rfl,rfl⟩:=h1;obtain ⟨t2,rfl,rfl⟩:=h2;rw [hf];refine (hc t1 t2 w).mono ?_;rintro e w' ⟨rfl,rfl⟩;refine ⟨_,rfl,Calm.refl,fun S=>?_⟩;rw [FY];simp only [ah,Lib.hasPrefix]
 ·cases h
def alf (hf:O.af n=f) (eS:∀args w,(callFunc f args).run O.P w= .ok (.enter f args) w)
  (hc:∀(s p:ByteArray) (w:yi),xV O.P f #[.string s,.string p] w fun e w'=>e= .returned (.string ⟨(Lib.trimPrefix s.data.toList p.data.toList).toArray⟩)/\w'=w):
  ∀ao r,JA ao=some r->dN O n ao r:=by
 intro ao r h;unfold JA at h
 split at h
 ·rename_i s p;simp only [yb] at h;subst h;refine mr Gm (by rw [hf];exact eS) ?_
  intro w S args hg di;obtain ⟨u,v,rfl,h1,h2⟩:=zR di;obtain ⟨t1,rfl,rfl⟩:=h1;obtain ⟨t2,rfl,rfl⟩:=h2;rw [hf];refine (hc t1 t2 w).mono ?_;rintro e w' ⟨rfl,rfl⟩;refine ⟨_,rfl,Calm.refl,fun S=>?_⟩;rw [FY,xt];refine FQ ?_;unfold Lib.trimPrefix Lib.hasPrefix
  cases hp:t2.data.toList.isPrefixOf t1.data.toList with
  | true=>simp [List.map_drop]
  | false=>simp
 ·cases h
def aq8 (hf:O.af n=f) (eS:∀args w,(callFunc f args).run O.P w= .ok (.enter f args) w) {a:Addr} {m:Int} (hm:O.w0.cell? a=some (.int .i64 m))
  (hc:∀(s sep:ByteArray) (w:yi),s.size<4294967281->w.cell? a=some (.int .i64 m)->xV O.P f #[.string s,.string sep] w fun e w'=>e= .returned (.tuple #[.string ⟨(Lib.cut s.data.toList sep.data.toList).1.toArray⟩,.string ⟨(Lib.cut s.data.toList sep.data.toList).2.1.toArray⟩,.bool (Lib.cut s.data.toList sep.data.toList).2.2])/\∃n,w'=w.drewN n):
  ∀ao r,Lz ao=some r->dN O n ao r:=by
 intro ao r h;unfold Lz at h
 split at h
 ·rename_i s sep
  cases hb:yK s.length 4294967281 with
  | false=>rw [hb] at h;cases h
  | true=>
   rw [hb] at h;have key:∀(q:List UInt8×List UInt8×Bool),(∀t1 t2:ByteArray,t1.data.toList.map xf=s->t2.data.toList.map xf=sep->r= .aa [.str ((Lib.cut t1.data.toList t2.data.toList).1.map xf),.str ((Lib.cut t1.data.toList t2.data.toList).2.1.map xf),.bool (Lib.cut t1.data.toList t2.data.toList).2.2])->
     (∃a b c,r= .aa [.str a,.str b,.bool c])->dN O n [.str s,.str sep] r:=by
    intro q hq ats;obtain ⟨a',b',c',rfl⟩:=ats;refine mr (CU (by simp [bh])) (by rw [hf];exact eS) ?_
    intro w S args hg di;obtain ⟨u,v,rfl,h1,h2⟩:=zR di;obtain ⟨t1,rfl,e1⟩:=h1;obtain ⟨t2,rfl,e2⟩:=h2;rw [hf];have hl:t1.size<4294967281:=by
     have:=lP hb
     rw [<-e1,xt] at this
     simp_all
    refine (hc t1 t2 w hl (anp hg hm)).mono ?_;rintro e w' ⟨rfl,k,rfl⟩;refine ⟨_,rfl,ano k,fun S=>?_⟩;simp only [ah,au]
    grind
   refine key ([],[],false) ?_ ?_
   ·intro t1 t2 e1 e2;subst e1;subst e2;rw [Zj] at h;unfold Lib.cut;by_cases h0:0<=Lib.index t1.data.toList t2.data.toList
    ·simp_all
    ·grind
   ·grind
 ·cases h
def apf (hf:O.af n=f) (eS:∀args w,(callFunc f args).run O.P w= .ok (.enter f args) w)
  (hc:∀(s cs:ByteArray) (w:yi),s.size<=9223372036854775807->cs.size<4294967281->(∀(j:Nat) b,cs.data.toList[j]? =some b->b.toNat<128)->xV O.P f #[.string s,.string cs] w fun e w'=>e= .returned (.string ⟨(Lib.trimS s.data.toList cs.data.toList).toArray⟩)/\RowKit.Below w.heap.size w w'):
  ∀ao r,trimS ao=some r->dN O n ao r:=by
 intro ao r h;unfold trimS at h
 split at h
 ·rename_i s cs
  cases hb:(CY cs&&(yK s.length 4294967281&&yK cs.length 4294967281)) with
  | false=>rw [hb] at h;cases h
  | true=>
   rw [hb] at h;simp only [yz,yb] at h;subst h;simp only [yf] at hb;refine mr Gm (by rw [hf];exact eS) ?_
   intro w S args hg di;obtain ⟨u,v,rfl,h1,h2⟩:=zR di;obtain ⟨t1,rfl,rfl⟩:=h1;obtain ⟨t2,rfl,rfl⟩:=h2;have ma:=lP hb.2.1;have qU:=lP hb.2.2;rw [xt] at ma qU;rw [hf];refine (hc t1 t2 w (by rw [Lib.size_eq];omega) (by rw [Lib.size_eq];omega) (Zk hb.1)).mono ?_;rintro e w' ⟨rfl,hw⟩;refine ⟨_,rfl,FP hw,fun S=>FQ ?_⟩;simp only [Lib.trimS,Lib.trimLeftS,Lib.trimRightS];rw [<-tZ,O0,<-tZ,O0]
 ·cases h
def amn (hf:O.af n=f) (eS:∀args w,(callFunc f args).run O.P w= .ok (.enter f args) w)
  (hc:∀(s:ByteArray) (c:Nat) (w:yi),c<=9223372036854775807->s.size*c<=140737488355328->xV O.P f #[.string s,.int .i64 c] w fun e w'=>e= .returned (.string ⟨(Lib.repeatL s.data.toList c).toArray⟩)/\RowKit.Below w.heap.size w w'):
  ∀ao r,zy ao=some r->dN O n ao r:=by
 intro ao r h;unfold zy at h
 split at h
 ·rename_i s c
  cases hb:(yy c 1099511627776&&yy (s.length*c) 1099511627776) with
  | false=>rw [hb] at h;cases h
  | true=>
   rw [hb] at h;simp only [yz,yb] at h;subst h;simp only [yf] at hb;have l1:=yp hb.1;have l2:=yp hb.2;refine mr Gm (by rw [hf];exact eS) ?_
   intro w S args hg di;obtain ⟨u,v,rfl,h1,h2⟩:=zR di;obtain ⟨t1,rfl,rfl⟩:=h1;subst h2;rw [hf];rw [xt] at l2;refine (hc t1 c w (by omega) (by rw [Lib.size_eq];omega)).mono ?_;rintro e w' ⟨rfl,hw⟩;exact ⟨_,rfl,FP hw,fun S=>FQ (aaP _ _).symm⟩
 ·cases h
def apg (hf:O.af n=f) (eS:∀args w,(callFunc f args).run O.P w= .ok (.enter f args) w)
  (hc:∀(z:Int) (w:yi),-9223372036854775808<=z->z<=9223372036854775807->zN O w->xV O.P f #[.int .i64 z] w fun e w'=>e= .returned (.string ⟨(Lib.itoa z).toArray⟩)/\Calm w w'):
  ∀ao r,Hd ao=some r->dN O n ao r:=by
 intro ao r h;unfold Hd at h
 split at h
 ·rename_i z
  cases hb:zQ z with
  | false=>rw [hb] at h;cases h
  | true=>
   rw [hb] at h;simp only [yz,yb] at h;subst h;have hz: -9223372036854775808<=z/\z<=9223372036854775807:=by
    cases z with
    | ofNat k=>have:=lP hb;show -9223372036854775808<=(k:Int)/\(k:Int)<=9223372036854775807;omega
    | negSucc k=>have:=lP hb;omega
   refine mr Gm (by rw [hf];exact eS) ?_
   intro w S args hg di;obtain ⟨u,rfl,h1⟩:=BC di;subst h1;rw [hf];refine (hc z w hz.1 hz.2 hg).mono ?_;rintro e w' ⟨rfl,hw⟩;exact ⟨_,rfl,hw,fun S=>FQ (apc z).symm⟩
 ·cases h
def alg (hf:O.af n=f) (eS:∀args w,(callFunc f args).run O.P w= .ok (.enter f args) w)
  (hc:∀(z:Nat) (w:yi),z<18446744073709551616->zN O w->xV O.P f #[.int .u64 z,.int .i64 10] w fun e w'=>e= .returned (.string ⟨(Lib.decDigits z).toArray⟩)/\Calm w w'):
  ∀ao r,zd ao=some r->dN O n ao r:=by
 intro ao r h;unfold zd at h
 split at h
 ·rename_i z
  cases hb:yK z 18446744073709551616 with
  | false=>rw [hb] at h;cases h
  | true=>
   rw [hb] at h;simp only [yz,yb] at h;subst h;refine mr Gm (by rw [hf];exact eS) ?_
   intro w S args hg di;obtain ⟨u,v,rfl,h1,h2⟩:=zR di;subst h1;subst h2;rw [hf];refine (hc z w (lP hb) hg).mono ?_;rintro e w' ⟨rfl,hw⟩;exact ⟨_,rfl,hw,fun S=>FQ (Pq z).symm⟩
 ·cases h
def aph (hf:O.af n=f) (eS:∀args w,(callFunc f args).run O.P w= .ok (.enter f args) w)
  (hc:∀(s:ByteArray) (z:Int) (w:yi),s.size<=18->Lib.atoi s.data.toList=some z->xV O.P f #[.string s] w fun e w'=>e= .returned (.tuple #[.int .i64 z,.nilIface])/\Calm w w'):
  ∀ao r,He ao=some r->dN O n ao r:=by
 intro ao r h;unfold He at h
 split at h
 ·rename_i s
  cases hb:(yK 0 s.length&&yy s.length 18) with
  | false=>rw [hb] at h;cases h
  | true=>
   rw [hb] at h;simp only [yz] at h;simp only [yf] at hb;have l1:=lP hb.1;have l2:=yp hb.2
   split at h
   ·rename_i z hz;simp only [yb] at h;subst h;refine mr (CU (by simp [bh])) (by rw [hf];exact eS) ?_
    intro w S args hg di;obtain ⟨u,rfl,h1⟩:=BC di;obtain ⟨t1,rfl,rfl⟩:=h1;rw [xt] at l1 l2;have ha:Lib.atoi t1.data.toList=some (z:Int):=ape hz l1;rw [hf];refine (hc t1 z w (by rw [Lib.size_eq];exact l2) ha).mono ?_
    simp only [ah,au]
    grind
   ·cases h
 ·cases h
def anq (hf:O.af n=f) (eS:∀args w,(callFunc f args).run O.P w= .ok (.enter f args) w)
  (hc:∀(x y:Nat) (w:yi),x<18446744073709551616->y<18446744073709551616->xV O.P f #[.int .u64 x,.int .u64 y] w fun e w'=>e= .returned (.tuple #[.int .u64 ((x*y/18446744073709551616:Nat):Int),.int .u64 ((x*y%18446744073709551616:Nat):Int)])/\w'=w):
  ∀ao r,p8 ao=some r->dN O n ao r:=by
 intro ao r h;unfold p8 at h
 split at h
 ·rename_i x y
  cases hb:(yK x 18446744073709551616&&yK y 18446744073709551616) with
  | false=>rw [hb] at h;cases h
  | true=>
   rw [hb] at h;simp only [yz,yb] at h;subst h;simp only [yf] at hb;refine mr (CU (by simp [bh])) (by rw [hf];exact eS) ?_
   intro w S args hg di;obtain ⟨u,v,rfl,h1,h2⟩:=zR di;subst h1;subst h2;rw [hf];refine (hc x y w (lP hb.1) (lP hb.2)).mono ?_;rintro e w' ⟨rfl,rfl⟩;refine ⟨_,rfl,Calm.refl,fun S=>?_⟩;simp only [ah,au]
   grind
 ·cases h
def anr (hf:O.af n=f) (eS:∀args w,(callFunc f args).run O.P w= .ok (.enter f args) w)
  (hc:∀(x:Int) (w:yi),0<=x->x<=18446744073709551615->xV O.P f #[.int .u64 x] w fun e w'=>e= .returned (.int .i64 (Lib.bitLen x.toNat:Nat))/\w'=w):
  ∀ao r,Gw ao=some r->dN O n ao r:=by
 intro ao r h;unfold Gw at h
 split at h
 ·rename_i x
  cases hb:yK x 18446744073709551616 with
  | false=>rw [hb] at h;cases h
  | true=>
   rw [hb] at h;simp only [yz,yb] at h;subst h
   have:=lP hb
   refine mr PJ (by rw [hf];exact eS) ?_
   intro w S args hg di;obtain ⟨u,rfl,h1⟩:=BC di;subst h1;rw [hf];refine (hc (ybb x) w (tS x) (by show (x:Int)<=_;omega)).mono ?_;rintro e w' ⟨rfl,rfl⟩;refine ⟨_,rfl,Calm.refl,fun S=>?_⟩;rw [Pr];rfl
 ·cases h
def api (hf:O.af n=f) (eS:∀args w,(callFunc f args).run O.P w= .ok (.enter f args) w)
  (hc:∀(x:Int) (w:yi),0<=x->x<=18446744073709551615->xV O.P f #[.int .u64 x] w fun e w'=>e= .returned (.int .i64 (64-(Lib.bitLen x.toNat:Nat)))/\w'=w):
  ∀ao r,Dk ao=some r->dN O n ao r:=by
 intro ao r h;unfold Dk at h
 split at h
 ·rename_i x
  cases hb:yK x 18446744073709551616 with
  | false=>rw [hb] at h;cases h
  | true=>
   rw [hb] at h;simp only [yz,yb] at h;subst h
   have:=lP hb
   have hle:∀f x,Lib.bitLenAux f x<=f:=by
    intro f
    induction f with
    | zero=>intro x;exact yB _
    | succ f ih=>
     intro x;rw [Lib.bitLenAux]
     grind
   refine mr PJ (by rw [hf];exact eS) ?_
   intro w S args hg di;obtain ⟨u,rfl,h1⟩:=BC di;subst h1;rw [hf];refine (hc (ybb x) w (tS x) (by show (x:Int)<=_;omega)).mono ?_;rintro e w' ⟨rfl,rfl⟩;refine ⟨_,rfl,Calm.refl,fun S=>?_⟩;simp only [ah,Pr];show Value.int .i64 (64-(Lib.bitLenAux 64 x:Int))=Value.int .i64 ((64-Lib.bitLenAux 64 x:Nat):Int)
   grind
 ·cases h
def alG (hf:O.af n=f) (hc:∀(b:Nat) (w:yi),(callFunc f #[.float .f64 b]).run O.P w= .ok (.value (.int .u64 b)) w):
  ∀ao r,Ke ao=some r->dN O n ao r:=by
 intro ao r h;unfold Ke at h
 split at h
 ·rename_i b;simp only [yb] at h;subst h;refine JX PJ ?_;intro w S args di;obtain ⟨u,rfl,h1⟩:=BC di;simp only [ah] at h1;subst h1;rw [hf];exact ⟨_,hc b w,fun S=>rfl⟩
 ·cases h
def ald (hf:O.af n=f) (hc:∀(b:Nat) (w:yi),(callFunc f #[.int .u64 b]).run O.P w= .ok (.value (.float .f64 b)) w):
  ∀ao r,Jy ao=some r->dN O n ao r:=by
 intro ao r h;unfold Jy at h
 split at h
 ·rename_i b;simp only [yb] at h;subst h;refine JX aq7 ?_;intro w S args di;obtain ⟨u,rfl,h1⟩:=BC di;simp only [ah] at h1;subst h1;rw [hf];exact ⟨_,hc b w,fun S=>rfl⟩
 ·cases h
def ans (hf:O.af n=f)
  (hc:∀(x y c:Nat) (w:yi),c<=1->(callFunc f #[.int .u64 x,.int .u64 y,.int .u64 c]).run O.P w= .ok (.value (.tuple #[.int .u64 (((x+y+c)%18446744073709551616:Nat):Int),.int .u64 (((x+y+c)/18446744073709551616:Nat):Int)])) w):
  ∀ao r,mA ao=some r->dN O n ao r:=by
 intro ao r h;unfold mA at h
 split at h
 ·rename_i x y c
  cases hb:(yy c 1&&(yK x 18446744073709551616&&yK y 18446744073709551616)) with
  | false=>rw [hb] at h;cases h
  | true=>
   rw [hb] at h;simp only [yz,yb] at h;subst h;simp only [yf] at hb;refine JX (CU (by simp [bh])) ?_;intro w S args di;obtain ⟨u,v,z,rfl,h1,h2,h3⟩:=af4 di;subst h1;subst h2;subst h3;rw [hf];refine ⟨_,hc x y c w (yp hb.1),fun S=>?_⟩;simp only [ah,au]
   grind
 ·cases h
def ant (hf:O.af n=f)
  (hc:∀(x y b:Nat) (w:yi),b<=1->(callFunc f #[.int .u64 x,.int .u64 y,.int .u64 b]).run O.P w= .ok (.value (.tuple #[.int .u64 (((x+18446744073709551616-y-b)%18446744073709551616:Nat):Int),.int .u64 ((if x<y+b then 1 else 0:Nat):Int)])) w):
  ∀ao r,zE ao=some r->dN O n ao r:=by
 intro ao r h;unfold zE at h
 split at h
 ·rename_i x y c
  cases hb:(yy c 1&&(yK x 18446744073709551616&&yK y 18446744073709551616)) with
  | false=>rw [hb] at h;cases h
  | true=>
   rw [hb] at h;simp only [yz,yb] at h;subst h;simp only [yf] at hb;have dP:=yp hb.1;have hy:=lP hb.2.2;refine JX (CU (by simp [bh])) ?_;intro w S args di;obtain ⟨u,v,z,rfl,h1,h2,h3⟩:=af4 di;subst h1;subst h2;subst h3;rw [hf];refine ⟨_,hc x y c w dP,fun S=>?_⟩;simp only [ah,au];refine ⟨_,rfl,_,_,rfl,?_,_,_,rfl,?_,rfl⟩
   ·grind
   ·congr 1
    by_cases h:x<y+c
    ·have:yy (y+c) x=false:=by
      cases hq:yy (y+c) x with
      | false=>rfl
      | true=>have:=yp hq;omega
     grind
    ·rw [yt (by omega),yv h];rfl
 ·cases h
end
end
end
end VE
