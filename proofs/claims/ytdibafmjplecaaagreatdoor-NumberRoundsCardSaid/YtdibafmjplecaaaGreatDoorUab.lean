import Derived.RangeFuncLeaves
import Derived.OrdersIn
import Derived.LoopNIn
import Derived.RangeFuncIn
import Derived.Lib.Index
import Derived.Lib.ItoaNum
import Derived.Lib.Atoi
import Derived.Lib.BitFns
import Derived.Lib.Repeat
import Derived.Lib.SlTrimSet
import Derived.Shelf.Strings.Cut
import Derived.Shelf.Strings.Prefix
import Derived.Shelf.Small.Bits
import Derived.RowKit
import Derived.Test.YtdibafmjplecaaaGreatDoorUaa
set_option linter.all false
set_option maxRecDepth 100000
open Array renaming getD_eq_getD_getElem?→wG,getElem?_append_left→tX,getElem?_eq_some_iff→xo,replicate→vQ
open Bool renaming and_eq_true→yf,false_eq_true→yB,not_eq_true'→uS,or_eq_false_iff→yat,or_eq_true→tS
open Classical renaming em→ux
open Go renaming Call→tJ,Calls→xX,Code→wK,Deferred→tT,Ending→yau,Exit→vP,Func→yai,FuncId→tA,LeavesInM→ycj,Loop→uo,Next→yaj,Obj→tR,Oper→y9,Operand→xq,Program→xa,ResultVar→ych,RoundIn→yaW,TypeId→yx,Value→yg,World→yi
open Int renaming natCast_nonneg→tZ,ofNat→ybe
open List renaming countP_cons→yaY,getD_eq_getElem?_getD→xF,getElem?_cons_zero→vG,getElem?_eq_some_iff→wg,length_append→yY,length_cons→yM,length_drop→xN,length_map→xy,length_nil→yV,length_take→yW,mapM_cons→ud,map_append→xH,map_cons→xm,map_reverse→yae,mem_append→wB,mem_cons→wZ,mem_cons_of_mem→vz,mem_cons_self→uG,size_toArray→uT
open Nat renaming add_mul→xU,beq→yp,ble→yy,ble_eq_true_of_le→yr,blt→yI,eq_of_beq_eq_true→yj,eq_of_mul_eq_mul_right→yab,eq_or_lt_of_le→wT,eq_zero_or_pos→xh,le_of_ble_eq_true→yo,le_of_lt_succ→vv,le_refl→yA,le_trans→xe,lt_of_lt_of_le→yE,lt_or_ge→vh,lt_succ_self→tM,mul_le_mul_right→yT,strongRecOn→vm,testBit→tg,zero_add→yh,zero_le→uU
open Ne renaming symm→yci
open Option renaming bind_some→wb,getD_some→uN
open Option.some renaming injEq→yb
open Prod.mk renaming injEq→yk
open UInt8 renaming ofNat→ybG,toNat→xf,toNat_ofNat'→yaA
namespace VE
open Go (IntKind)
section
open Go
section
variable {O:bh} {m m':Mp} {S:Nat->Prop} {w:yi} {f:Nat->Option Nat}
def Da (f:Nat->Option Nat) (m m':Mp):Prop:=∀id j,f id=some j->m' j=m id
mutual
def abo {af:Nat->Nat} (hf:Da f m m'):∀(v:AV) (u:yg),ah af m S w v u->ah af m' S w (bX f v) u
 | .int _ _,_,h | .bool _,_,h | .aw _ _,_,h | .str _,_,h | .kG,_,h | .ae,_,h | .ik,_,h | .jt,_,h | .undef,_,h=>by
  simpa only [bX,ah] using h
 | .ptr id o,u,h=>by
  simp only [bX]
  cases hi:f id with
  | none=>simp only [ah]
  | some j=>
   simp only [ah] at h ⊢;rw [hf id j hi];exact h
 | .cg cs,u,h=>by
  simp only [bX];exact oW (fun _ h=>h) (fun _ _=>rfl) _ _ (by simp [bk]) h
 | .aB ex n cs,u,h=>by
  simp only [bX];exact oW (fun _ h=>h) (fun _ _=>rfl) _ _ (by simp [bk]) h
 | .bI _ _ _ _,u,h=>by simp only [ah] at h
 | .aD id o n,u,h=>by
  simp only [bX]
  cases hi:f id with
  | none=>simp only [ah]
  | some j=>
   simp only [ah] at h ⊢;rw [hf id j hi];exact h
 | .fn (.f g) first cap,u,h=>by
  simp only [bX,ah] at h ⊢;obtain ⟨fi,ca,h1,h2,h3⟩:=h;exact ⟨fi,ca,h1,zh hf first _ h2,zh hf cap _ h3⟩
 | .fn (.y l) first cap,u,h=>by
  simp only [bX]
  cases hi:f l with
  | none=>simp only [ah]
  | some j=>
   simp only [ah] at h ⊢;rw [hf l j hi];exact h
 | .map id,u,h=>by
  simp only [bX]
  cases hi:f id with
  | none=>simp only [ah]
  | some j=>
   simp only [ah] at h ⊢;rw [hf id j hi];exact h
 | .iQ ks vs,u,h=>by
  simp only [bX];exact oW (fun _ h=>h) (fun _ _=>rfl) _ _ (by simp [bk]) h
 | .it id,u,h=>by
  simp only [bX]
  cases hi:f id with
  | none=>simp only [ah]
  | some j=>
   simp only [ah] at h ⊢;rw [hf id j hi];exact h
 | .agg cs,u,h=>by
  simp only [bX,ah] at h ⊢;obtain ⟨xs,h1,h2⟩:=h;exact ⟨xs,h1,zh hf cs _ h2⟩
 | .aa cs,u,h=>by
  simp only [bX,ah] at h ⊢;obtain ⟨xs,h1,h2⟩:=h;exact ⟨xs,h1,zh hf cs _ h2⟩
def zh {af:Nat->Nat} (hf:Da f m m'):∀(vs:List AV) (us:List yg),av af m S w vs us->av af m' S w (fw f vs) us
 | [],us,h=>by simpa only [fw,av] using h
 | v::r,us,h=>by
  simp only [fw,av] at h ⊢;obtain ⟨u,t,h1,h2,h3⟩:=h;exact ⟨u,t,h1,abo hf v u h2,zh hf r t h3⟩
end
def amZ {af:Nat->Nat} (hf:Da f m m') {cs:List AV} {b o:Nat} (h:bN af m S w cs b o):bN af m' S w (fw f cs) b o:=by
 obtain ⟨us,h1,_,h3⟩:=pQ cs b o h;exact CK _ us o (zh hf cs us h1) h3
def O0:∀cs:List AV,(fw f cs).length=cs.length
 | []=>rfl
 | c::r=>by simp [fw,O0 r]
def aam:∀(tm:Env) (i:Nat),aj (jO f tm) i=bX f (aj tm i)
 | [],i=>by simp [jO,aj,bX]
 | (j,v)::r,i=>by
  simp only [jO,aj]
  cases yp j i with
  | true=>rfl
  | false=>exact aam r i
def ZB (tm:Env) (i:Nat):∀live:List Nat,aj (dJ tm live) i=aj tm i\/aj (dJ tm live) i= .undef
 | []=> .inr rfl
 | j::r=>by
  simp only [dJ,aj]
  cases hb:yp j i with
  | true=>rw [yj hb];exact .inl rfl
  | false=>exact ZB tm i r
def aan {tm:Env} {tmps:Array yg} (hf:Da f m m') (h:bW O m S w tm tmps):bW O m' S w (jO f tm) tmps:=fun i=>by
 rw [aam];exact abo hf _ _ (h i)
def aoJ {id j:Nat} {o:Obj} {p:Pl} (hf:Da f m m') (hm:m id=some p) (hj:m' j=some p) (h:eM O m S w id o):eM O m' S w j (kH f o):=by
 cases o with
 | cells rw pu ex sz cs=>
  obtain ⟨q,arr,t,h1,h2,h3,h4,h5,h6,h7,h8,h9,gY⟩:=h;rw [hm] at h1;injection h1 with h1;subst h1
  cases pu with
  | true=>exact ⟨p,arr,t,hj,h2,h3,h4,h5,h6,AY (fun _ h=>h) (fun _ _=>rfl) _ _ _ (h8 rfl) rfl h7,h8,h9,gY⟩
  | false=>exact ⟨p,arr,t,hj,h2,h3,by rw [yX,O0];exact h4,h5,by rw [yX,O0];exact h6,amZ hf h7,by simp,h9,gY⟩
 | mp rw ks vs=>
  obtain ⟨q,es,clock,h1,h2,h3,h4,h5,h6⟩:=h;rw [hm] at h1;injection h1 with h1;subst h1
  exact ⟨p,es,clock,hj,h2,zh hf _ _ h3,zh hf _ _ h4,h5,h6⟩
 | si s pos=>
  obtain ⟨q,t,h1,h2,h3,h4⟩:=h;rw [hm] at h1;injection h1 with h1;subst h1
  exact ⟨p,t,hj,h2,h3,h4⟩
 | lp tm ps cy body st pe=>
  obtain ⟨q,l,hi,h1,h2,h3,h4,h5,h6,h7,h8⟩:=h;rw [hm] at h1;injection h1 with h1;subst h1
  exact ⟨p,l,hi,hj,h2,h3,h4,h5,h6,aan hf h7,h8⟩
def ZC {i:Nat}:∀{l:List Nat} {k j:Nat},lA i l k=some j->k<=j/\l[j-k]? =some i
 | [],k,j,h=>by simp [lA] at h
 | x::r,k,j,h=>by
  simp only [lA] at h
  cases hb:yp x i with
  | true=>
   simp_all
  | false=>
   rw [hb] at h;obtain ⟨h1,h2⟩:=ZC h
   grind
def rK {a b:Nat}:yI a b=true↔a<b:=by simp_all
def Jq {hp:Hp} {j:Nat} {o':Obj}:∀{l:List Nat} {k:Nat} {acc:Hp},aA (jH hp f l k acc) j=some o'->
  (∃i id o,l[i]? =some id/\j=k+i/\aA hp id=some o/\o'=kH f o)\/aA acc j=some o'
 | [],k,acc,h=> .inr h
 | x::r,k,acc,h=>by
  simp only [jH] at h
  cases hx:aA hp x with
  | none=>
   simp only [hx] at h;rcases Jq h with ⟨i,id,o,h1,h2,h3,h4⟩ | h
   ·exact .inl ⟨i+1,id,o,by simpa using h1,by omega,h3,h4⟩
   ·grind
  | some o=>
   simp only [hx] at h;rcases Jq h with ⟨i,id,o,h1,h2,h3,h4⟩ | h
   ·exact .inl ⟨i+1,id,o,by simpa using h1,by omega,h3,h4⟩
   ·rw [fm] at h;by_cases hc:k=j
    ·simp only [hc,xR,yb] at h;exact .inl ⟨0,x,o,by simp,by omega,hx,h.symm⟩
    ·grind
def Jr {base:Nat} {j:Nat} {o':Obj}:∀{hp:Hp},aA (li base f hp) j=some o'->j<base/\∃o,aA hp j=some o/\o'=kH f o
 | [],h=>by simp [li,aA] at h
 | (i,q)::r,h=>by
  simp only [li] at h
  cases hb:yI i base with
  | true=>
   rw [hb] at h;simp only [yz] at h;rw [fm] at h;by_cases hc:i=j
   ·simp only [hc,xR,yb] at h;exact ⟨by rw [<-hc];exact rK.1 hb,q,by rw [fm];simp [hc],h.symm⟩
   ·simp only [hc,xk] at h;obtain ⟨h1,o,h2,h3⟩:=Jr h;exact ⟨h1,o,by rw [fm];simp [hc,h2],h3⟩
  | false=>
   rw [hb] at h;obtain ⟨h1,o,h2,h3⟩:=Jr h;have hc:¬i=j:=fun e=>by
    have:=rK.2 h1
    grind
   exact ⟨h1,o,by rw [fm];simp [hc,h2],h3⟩
def n5 (m:Mp) (base:Nat) (seen:List Nat):Mp:=fun j=>
 if j<base then m j else match seen[j-base]? with
  | some id=>if jG base seen id=some j then m id else none
  | none=>none
def OI {base:Nat} {seen:List Nat} {j:Nat} {p:Pl} (h:n5 m base seen j=some p):∃id,jG base seen id=some j/\m id=some p/\(j<base->id=j):=by
 unfold n5 at h
 split at h
 ·rename_i hj;exact ⟨j,by simp [jG,rK.2 hj],h,fun _=>rfl⟩
 ·grind
def aoK {base:Nat} {seen:List Nat}:Da (jG base seen) m (n5 m base seen):=by
 intro id j h;have h0:=h;unfold jG at h
 cases hb:yI id base with
 | true=>
  rw [hb] at h;simp only [yz,yb] at h;subst h;simp [n5,rK.1 hb]
 | false=>
  rw [hb] at h;obtain ⟨h1,h2⟩:=ZC h
  have:¬j<base:=by omega
  simp only [n5,this,xk,h2,h0,xR]
def Oo {s:St} {tmps:Array yg} {live:List Nat} (ht:bW O m S w s.tm tmps) (hh:aO O m S w s.hp s.ct) (hb:s.base<=s.ct):
  ∃m',bW O m' S w (aP live s).tm tmps/\aO O m' S w (aP live s).hp (aP live s).ct/\(aP live s).base=s.base/\s.base<=(aP live s).ct/\b6 m S w s.hp m' S w (aP live s).hp s.base:=by
 simp only [aP];generalize afO:reach s.hp s.base 100000 (iO (dJ s.tm live)++iI s.base s.hp) []=seen;have hr:=aoK (m:=m) (base:=s.base) (seen:=seen);have aF:∀j p,n5 m s.base seen j=some p->j<s.base+seen.length:=by
  intro j p h;unfold n5 at h
  grind
 have back:∀j o' p,aA (jH s.hp (jG s.base seen) seen s.base (li s.base (jG s.base seen) s.hp)) j=some o'->n5 m s.base seen j=some p->
   ∃id o,jG s.base seen id=some j/\aA s.hp id=some o/\m id=some p/\o'=kH (jG s.base seen) o:=by
  intro j o' p ho hm;obtain ⟨id,h1,h2,h3⟩:=OI hm;rcases Jq ho with ⟨i,WW,o,g1,g2,g3,g4⟩ | ho
  ·have hj:¬j<s.base:=by omega
   have:n5 m s.base seen j=if jG s.base seen WW=some j then m WW else none:=by
    simp only [n5,hj,xk,show j-s.base=i by omega,g1]
   grind
  ·obtain ⟨g1,o,g2,g3⟩:=Jr ho
   grind
 refine ⟨n5 m s.base seen,?_,⟨?_,aF,?_,hh.slt,?_,?_,hh.ju,hh.fB,fun j o' ho=>(by
  rcases Jq ho with ⟨i,WW,o,g1,g2,g3,g4⟩ | ho
  ·grind
  ·have:=(Jr ho).1;omega)⟩,by trivial,by omega,⟨rfl,rfl,rfl,yA _,fun _ _ _=>rfl,fun _ h=>h,fun _ _=>rfl,fun _ h=> .inl h,?_,?_,fun _ r h=>⟨r,h⟩⟩⟩
 ·refine aan hr (fun i=>?_);rcases ZB s.tm i live with h | h
  ·rw [h];exact ht i
  ·rw [h];simp only [ah]
 ·intro j o' p ho hm;obtain ⟨id,o,h1,h2,h3,rfl⟩:=back j o' p ho hm;exact aoJ hr h3 hm (hh.obj id o p h2 h3)
 ·intro i j oi oj pi pj hi hj bH fP e;obtain ⟨idi,o1,a1,a2,a3,_⟩:=back i oi pi hi bH;obtain ⟨idj,o2,b1,b2,b3,_⟩:=back j oj pj hj fP
  have:=hh.inj idi idj o1 o2 pi pj a2 b2 a3 b3 e
  grind
 ·intro j p hm;obtain ⟨id,_,h2,_⟩:=OI hm;exact hh.blt id p h2
 ·intro j p hm;obtain ⟨id,_,h2,_⟩:=OI hm;exact hh.low id p h2
 ·rintro b ⟨j,o',p,h1,h2,h3⟩;obtain ⟨id,o,_,g2,g3,_⟩:=back j o' p h1 h2;exact .inl ⟨id,o,p,g2,g3,h3⟩
 ·intro id p hid hm;simp [n5,hid,hm]
end
end
section
open Go
section
variable {O:bh} {m:Mp} {S:Nat->Prop} {w:yi} {hp:Hp} {ct:Nat}
def aao (hh:aO O m S w hp ct) (id:Nat):aO O m S w (ej hp id) ct:=by
 have sub:∀i o,aA (ej hp id) i=some o->aA hp i=some o:=fun i o h=>by
  rw [FK] at h
  grind
 exact ⟨fun i o p h hm=>hh.obj i o p (sub i o h) hm,hh.lt,fun i j oi oj pi pj hi hj=>hh.inj i j oi oj pi pj (sub i oi hi) (sub j oj hj),hh.slt,hh.blt,hh.low,hh.ju,hh.fB,fun i o h=>hh.aF i o (sub i o h)⟩
def abp {id b:Nat} (h:dN m (ej hp id) b):dN m hp b:=by
 obtain ⟨i,o,p,h1,h2,h3⟩:=h;rw [FK] at h1;by_cases hc:id=i
 ·grind
 ·simp only [hc,xk] at h1;exact ⟨i,o,p,h1,h2,h3⟩
def Yt (hh:aO O m S w hp ct) {id:Nat} {o:Obj} {p:Pl} (hg:aA hp id=some o) (hm:m id=some p):¬dN m (ej hp id) p.b:=by
 rintro ⟨i,o',q,h1,h2,h3⟩;rw [FK] at h1;by_cases hc:id=i
 ·grind
 ·simp only [hc,xk] at h1;exact hc (hh.inj i id o' o q p h1 hg h2 hm h3).symm
def aqS {ap:Hp} (hd:jk hp ap) {b:Nat} (h:dN m ap b):dN m hp b:=by
 obtain ⟨i,o,p,h1,h2,h3⟩:=h
 have:=hd i
 rw [h1] at this
 cases hq:aA hp i with
 | none=>rw [hq] at this;cases this
 | some q=>exact ⟨i,q,p,hq,h2,h3⟩
def YS {lo:Nat} {v v':AV} {ap:Hp} {n:Nat} (hh:aO O m S w hp ct) (hf:freeze n hp v=some (v',ap)) {u:yg} (hv:ah O.af m S w v u):
  ∃S',aO O m S' w ap ct/\(∀b,S b->S' b)/\(∀b,S' b->S b\/dN m hp b)/\bk v'=true/\ah O.af eF S' w v' u/\gF O.af S' w lo v' u []:=by
 obtain ⟨h1,h2,h3⟩:=OE (O:=O) hf;obtain ⟨S',g1,g2,g3⟩:=abf hh h1 (fun id o p ho hm=>by
  have:=h2 id
  rw [ho] at this
  cases hq:aA hp id with
  | none=>rw [hq] at this;cases this
  | some q=>exact ⟨q,rfl⟩) (yA _) (fun id o ho=>(by
  have:=h2 id
  rw [ho] at this
  cases hq:aA hp id with
  | none=>rw [hq] at this;cases this
  | some q=>exact hh.aF id q hq))
 obtain ⟨k1,k2⟩:=h3 ap m S' w ct cL.refl g1;have hr:=k1 u (kj (fun _ _ h=>h) g2 (fun _ _=>rfl) v u hv);have bZ:ah O.af eF S' w v' u:=oW (fun _ h=>h) (fun _ _=>rfl) v' u k2 hr;refine ⟨S',g1,g2,g3,k2,bZ,?_⟩
 cases v' with
 | bI _ _ _ _=>simp [bk] at k2
 | _=>exact ⟨rfl,bZ,k2⟩
def am0 {S':Nat->Prop} {lo:Nat} {v:AV} {u:yg} {bs:List Nat} (hS:∀b,S b->S' b) (hn:∀b,b∈bs->¬S' b) (h:gF O.af S w lo v u bs):gF O.af S' w lo v u bs:=by
 cases v with
 | bI ex sz n cs=>
  obtain ⟨b,o,c,arr,t,rfl,rfl,g1,g2,g3,g4,g5,g6,g7,g8,g9⟩:=h;exact ⟨b,o,c,arr,t,rfl,rfl,g1,g2,g3,hn b (by simp),g5,g6,g7,AY hS (fun _ _=>rfl) cs b o g9 rfl g8,g9⟩
 | _=>simp only [gF] at h ⊢;exact ⟨h.1,oW hS (fun _ _=>rfl) _ _ h.2.2 h.2.1,h.2.2⟩
def ZD {lo:Nat} {v v':AV} {ap:Hp} {n:Nat} (hh:aO O m S w hp ct) (hf:Bc n hp v=some (v',ap)) {u:yg} (hv:ah O.af m S w v u) (aY:∀b,dN m hp b->lo<=b):
  ∃S' bs,aO O m S' w ap ct/\(∀b,S b->S' b)/\(∀b,S' b->S b\/dN m hp b)/\gF O.af S' w lo v' u bs/\bs.Nodup/\(∀b,b∈bs->dN m hp b/\¬dN m ap b)/\(∀b,dN m ap b->dN m hp b):=by
 have frozen:freeze n hp v=some (v',ap)->∃S' bs,aO O m S' w ap ct/\(∀b,S b->S' b)/\(∀b,S' b->S b\/dN m hp b)/\gF O.af S' w lo v' u bs/\bs.Nodup/\(∀b,b∈bs->dN m hp b/\¬dN m ap b)/\(∀b,dN m ap b->dN m hp b):=by
  intro hz;obtain ⟨S',g1,g2,g3,g4,g5,g6⟩:=YS (lo:=lo) hh hz hv
  exact ⟨S',[],g1,g2,g3,g6,by simp,by simp,fun b hb=>aqS (OE (O:=O) hz).2.1 hb⟩
 unfold Bc at hf
 split at hf
 ·rename_i id o k
  split at hf
  ·rename_i ex sz cs hg
   cases hc:yy (o+k*sz) cs.length with
   | false=>rw [hc] at hf;cases hf
   | true=>
    rw [hc] at hf;obtain ⟨rfl,rfl⟩:=hf;have hle:=yo hc;obtain ⟨p,c,hm,rfl,h1,h2⟩:=hv;obtain ⟨p',arr,t,g1,g2,g3,g4,g5,g6,g7,g8,g9,g10⟩:=hh.obj id _ _ hg hm;rw [hm] at g1;injection g1 with g1
    subst g1;rw [g3] at h2;refine ⟨S,[p.b],aao hh id,fun _ h=>h,fun _ h=> .inl h,?_,by simp,?_,fun b hb=>abp hb⟩
    ·refine ⟨p.b,p.o+o,c,arr,t,rfl,rfl,h1,?_,aY _ (Gh hg hm),g9 rfl,g2,?_,by omega,?_,sW _ (rz _ _ (g8 rfl))⟩
     ·intro hx;simp only [yf] at hx;have e1:=yj hx.2;have e2:=rK.1 hx.1.2;have e3:=g6 hx.1.1
      have:c*sz=k*sz:=by omega
      exact yab e2 this
     ·simp only [slice,yW,xN];omega
     ·exact AY (fun _ h=>h) (fun _ _=>rfl) _ _ _ (sW _ (rz _ _ (g8 rfl))) rfl (sZ _ _ _ _ (oT _ _ _ _ g7))
    ·intro b hb;simp only [List.mem_singleton] at hb;subst hb;exact ⟨Gh hg hm,Yt hh hg hm⟩
  ·grind
 ·grind
def YT {lo n:Nat}:∀{vs dM:List AV} {us:List yg} {hp ap:Hp} {S:Nat->Prop},aO O m S w hp ct->CN n hp vs=some (dM,ap)->av O.af m S w vs us->(∀b,dN m hp b->lo<=b)->
  ∃S' bs,(∀b,S b->S' b)/\(∀b,S' b->S b\/dN m hp b)/\jP O.af S' w lo dM us bs/\bs.Nodup/\(∀b,b∈bs->dN m hp b)/\(∀b,S' b->b<w.heap.size)
 | [],dM,us,hp,ap,S,hh,hf,hv,aY=>by
  obtain ⟨rfl,rfl⟩:=hf;exact ⟨S,[],fun _ h=>h,fun _ h=> .inl h,by simp only [jP];exact ⟨hv,by trivial⟩,by simp,by simp,hh.slt⟩
 | v::r,dM,us,hp,ap,S,hh,hf,hv,aY=>by
  simp only [CN] at hf
  cases h1:Bc n hp v with
  | none=>simp [h1] at hf
  | some q=>
   obtain ⟨v1,bm⟩:=q;simp only [h1] at hf
   cases h2:CN n bm r with
   | none=>simp [h2] at hf
   | some q2=>
    simp only [h2,yb,yk] at hf;obtain ⟨rfl,rfl⟩:=hf;obtain ⟨u,t,rfl,eG,cI⟩:=hv;obtain ⟨S1,b1,k1,k2,k3,k4,k5,k6,k7⟩:=ZD (lo:=lo) hh h1 eG aY;obtain ⟨S2,b2,g1,g2,g3,g4,g5,g6⟩:=YT (us:=t) k1 h2 (fZ (fun _ _ h=>h) k2 (fun _ _=>rfl) _ _ cI) (fun b hb=>aY b (k7 b hb));have QN:∀b,b∈b1->¬S2 b:=by
     intro b hb hs;rcases g2 b hs with h | h
     ·cases v1 with
      | bI ex sz n cs=>
       simp only [gF] at k4
       grind
      | _=>simp only [gF] at k4;rw [k4.1] at hb;cases hb
     ·grind
    refine ⟨S2,b1++b2,fun b hb=>g1 b (k2 b hb),fun b hb=>?_,?_,?_,?_,g6⟩
    ·grind
    ·simp only [jP];exact ⟨u,t,b1,b2,rfl,rfl,am0 g1 QN k4,g3⟩
    ·grind
    ·grind
def OJ {lo:Nat}:∀{cs:List AV} {us:List yg},aH cs=true->av O.af eF S w cs us->jP O.af S w lo cs us []
 | [],us,_,h=>by simp only [av] at h;exact ⟨h,by trivial⟩
 | c::r,us,hp,h=>by
  obtain ⟨u,t,rfl,h1,h2⟩:=h;simp only [aH,yf] at hp;refine ⟨u,t,[],[],rfl,rfl,?_,OJ hp.2 h2⟩
  cases c with
  | bI _ _ _ _=>simp [bk] at hp
  | _=>exact ⟨rfl,h1,hp.1⟩
def am1 {lo:Nat} {v r:AV} {u:yg} (hh:aO O m S w hp ct) (hr:result hp v=some r) (hv:ah O.af m S w v u) (aY:∀b,dN m hp b->lo<=b):
  ∃S',(∀b,S b->S' b)/\(∀b,S' b->S b\/dN m hp b)/\(∀b,S' b->b<w.heap.size)/\mb O.af S' w lo r u:=by
 unfold result at hr
 split at hr
 ·rename_i vs
  split at hr
  ·cases h1:CN deep hp vs with
   | none=>simp [h1] at hr
   | some q=>
    simp only [h1,yb] at hr;subst hr;obtain ⟨us,rfl,hv⟩:=hv;obtain ⟨S',bs,g1,g2,g3,g4,g5,g6⟩:=YT (lo:=lo) hh h1 hv aY;exact ⟨S',g1,g2,g6,us,bs,rfl,g3,g4⟩
  ·cases h1:freeze deep hp (.aa vs) with
   | none=>simp [h1] at hr
   | some q=>
    obtain ⟨v',ap⟩:=q;simp only [h1,yb] at hr;subst hr;obtain ⟨S',g1,g2,g3,g4,g5,g6⟩:=YS (lo:=lo) hh h1 hv;refine ⟨S',g2,g3,g1.slt,?_⟩
    cases v' with
    | aa cs=>
     obtain ⟨xs,rfl,g5⟩:=g5;exact ⟨xs,[],rfl,OJ (by simpa [bk] using g4) g5,by simp⟩
    | _=>exact ⟨[],g6⟩
 ·rename_i Nj
  cases h1:Bc deep hp v with
  | none=>simp [h1] at hr
  | some q=>
   obtain ⟨v',ap⟩:=q;simp only [h1,yb] at hr;subst hr;obtain ⟨S',bs,g1,g2,g3,g4,_⟩:=ZD (lo:=lo) hh h1 hv aY;refine ⟨S',g2,g3,g1.slt,?_⟩
   cases v' with
   | aa cs=>
    obtain ⟨rfl,h2,h3⟩:=g4;obtain ⟨xs,rfl,h2⟩:=h2;exact ⟨xs,[],rfl,OJ (by simpa [bk] using h3) h2,by simp⟩
   | _=>exact ⟨bs,g4⟩
end
end
section
open Go
def WF (ro:Option Nat):Fence:={Fence.wide with round:=ro}
section
variable {O:bh}
def aex (O:bh) (hp:Hp) (ct:Nat) (l:Nat) (xs:List AV) (v:AV) (ap:Hp) (aV:Nat):Prop:=
 ∀(m:Mp) (S:Nat->Prop) (w:yi) (args:Array yg) (p:Pl),aO O m S w hp ct->m l=some p->av O.af m S w xs args.toList->
  ∃f tmps assign body,(Instr.yield p.b args).run O.P w= .ok (.round p.b f tmps assign body) w/\yaW Fence.wide 0 O.P p.b f tmps assign body w (rD O m S w hp ct v ap aV)
structure mC (O:bh) (run:cx):Prop where
 pure:∀n ao r,bM O.prog O.az run n ao=some r->dS O n ao r
 heap:∀hp ct n ao v ap aV,ia O.prog O.az run hp ct n ao=some (v,ap,aV)->zL O n hp ct ao v ap aV
 round:∀hp ct l xs v ap aV,mB run hp ct l xs=some (v,ap,aV)->aex O hp ct l xs v ap aV
end
section
variable {P:xa} {o:y9} {a:Act} {w:yi} {ro:Option Nat} {next:Act->yi->Prop} {Q:vP->Act->yi->Prop}
def Js {c:tJ} {f:xq} (ho:o.op= .call c) (hc:c.callee= .value f) {g:tA} {fi ca:Array yg} (hf:a.eval f= .func (.func g) fi ca) {R:yau->yi->Prop}
  (h:zp P g (fi++c.args.map a.eval++ca) w R) (hn:∀e w',R e w'->∃u,e= .returned u/\next (a.put o.dst u) w'):o.wpIn (WF ro) 0 P a w next Q:=by
 have fe:(o.semAt ro a.eval).run P w=(callFunc g (fi++c.args.map a.eval++ca)).run P w:=by
  rw [Oper.semAt_eq _ _ _ (fun c' h'=>by rw [ho] at h';cases h')];simp only [execOp,ho,resolve,hc,Deferred.ofValue,hf,Sem.run_bind,Sem.run_pure,Result.andThen_ok,invoke]
 refine ⟨fun _ _=>trivial,?_⟩;show o.uponIn (WF ro) 0 P a next Q ((o.semAt ro a.eval).run P w)
 rw [fe];rcases h with ⟨h1,h2⟩ | ⟨u,w',h1,h2⟩
 ·rw [h1,Oper.uponIn_enter];refine ⟨fun h=>by simp [WF,Fence.wide] at h,?_⟩;have h3:CallsIn (WF ro) 0 P g (fi++c.args.map a.eval++ca) w R:=h2;refine CallsIn.mono h3 (fun e w' he=>?_);obtain ⟨u,rfl,hq⟩:=hn e w' he;exact hq
 ·rw [h1];obtain ⟨u',e,hq⟩:=hn _ _ h2;injection e with e
  subst e;exact hq
def aoL {c:tJ} {f:xq} (ho:o.op= .call c) (hc:c.callee= .value f) {l:Nat} (hf:a.eval f= .func (.yield l) #[] #[]) {R:yau->yi->Prop} {g:tA} {tmps:Array yg} {assign body:wK}
  (hy:(Instr.yield l (c.args.map a.eval)).run P w= .ok (.round l g tmps assign body) w) (h:yaW Fence.wide 0 P l g tmps assign body w R) (hn:∀e w',R e w'->∃u,e= .returned u/\next (a.put o.dst u) w'):o.wpIn (WF ro) 0 P a w next Q:=by
 have fe:(o.semAt ro a.eval).run P w= .ok (.round l g tmps assign body) w:=by
  rw [Oper.semAt_eq _ _ _ (fun c' h'=>by rw [ho] at h';cases h')];simp only [execOp,ho,resolve,hc,Deferred.ofValue,hf,Sem.run_bind,Sem.run_pure,Result.andThen_ok,invoke,Array.empty_append];exact hy
 refine ⟨fun _ _=>trivial,?_⟩;show o.uponIn (WF ro) 0 P a next Q ((o.semAt ro a.eval).run P w)
 rw [fe,Oper.uponIn_round];refine ⟨fun h=>by simp [WF,Fence.wide] at h,?_⟩;have h3:yaW (WF ro) 0 P l g tmps assign body w R:=h;refine RoundIn.mono h3 (fun e w' he=>?_);obtain ⟨u,rfl,hq⟩:=hn e w' he;exact hq
def Gi {n:yaj} {u:yg} {w':yi} (hd:∀c,o.op≠.defer c) (h:(execOp a.eval o).run P w= .ok n w') (hn:n= .value u\/(n= .skip/\u=undef)) (hq:next (a.put o.dst u) w'):o.wpIn (WF ro) 0 P a w next Q:=by
 refine ⟨fun _ _=>trivial,?_⟩;show o.uponIn (WF ro) 0 P a next Q ((o.semAt ro a.eval).run P w)
 rw [Oper.semAt_eq _ _ _ hd,h];rcases hn with rfl | ⟨rfl,rfl⟩
 ·exact hq
 ·exact hq
end
def n7 (P:xa) (H:Hint) (q:Op) (o:y9):Prop:=
 (∃k,q=aQ P H k o)\/(∃c f rs,o.op= .call c/\c.callee= .value f/\q= .ib rs (aK H f) (gk H c.args.toList))\/
  (∃t x y sz rs,o.op= .store t x y/\cu P t=some sz/\q= .jv rs sz (aK H x) (aK H y))\/
  (∃k rs sz b x y,Op.aS sz b x y=aQ P H k o/\q= .jS rs sz b x y)\/∃k sz b x y,Op.aS sz b x y=aQ P H k o/\q= .oB sz b x y
def ie:Op->Op
 | .ib _ f xs=> .ib [] f xs
 | .jv _ s x v=> .st s x v
 | .jS _ s b x v=> .aS s b x v
 | o=>o
section
variable {O:bh} {H:Hint} {m:Mp} {S:Nat->Prop} {w:yi} {tm:Env} {a:Act} {hp:Hp} {ct:Nat} {self:cx} {ro:Option Nat} {next:Act->yi->Prop} {Q:vP->Act->yi->Prop}
def Kh {o:y9} {k:Nat} {md:Md} {x:X} {xs:List X} (h:aQ O.P H k o= .call md x xs) (hb:x≠.c .undef):∃c f,o.op= .call c/\c.callee= .value f/\x=aK H f/\xs=gk H c.args.toList:=by
 have nb:bad= .call md x xs->False:=fun h=>by simp only [bad,Op.call.injEq] at h;exact hb h.2.1.symm
 cases ho:o.op with
 | call c=>
  obtain ⟨callee,args,ts⟩:=c;simp only [aQ,ho] at h
  split at h
  ·rename_i f;cases hm:H.mode k<;>simp only [hm,Op.call.injEq,reduceCtorEq] at h
   all_goals exact ⟨_,f,rfl,rfl,h.2.1.symm,h.2.2.symm⟩
  ·repeat' split at h
   all_goals first
    | exact (nb h).elim
    | (cases h;done)
    | (revert h;generalize yp _ _=bb;intro h;cases bb<;>first | exact (nb h).elim | (cases h;done))
  ·exact (nb h).elim
 | binOp op t x' y ty=>
  cases op<;>simp only [aQ,ho,mF,nL] at h
  case eql=>
        repeat' split at h
        all_goals first
         | exact (nb h).elim
         | (cases h;done)
         | (cases bJ:(O.P.stoodInHeld t||O.P.eqGuardType O.P.depth t)<;>rw [bJ] at h<;>first | exact (nb h).elim | (cases h;done))
  case neq=>
        repeat' split at h
        all_goals first
         | exact (nb h).elim
         | (cases h;done)
         | (cases bJ:(O.P.stoodInHeld t||O.P.eqGuardType O.P.depth t)<;>rw [bJ] at h<;>first | exact (nb h).elim | (cases h;done))
  all_goals cases h
 | buildSlice t n parts=>
  simp only [aQ,ho] at h
  repeat' split at h
  all_goals first
   | exact (nb h).elim
   | (cases h;done)
   | (revert h;generalize yy _ _=bb;intro h;cases bb<;>first | exact (nb h).elim | (simp only [yz] at h;cases h;done))
 | makeMap t r=>
  cases r<;>simp only [aQ,ho] at h
  ·repeat' split at h
   all_goals first
    | exact (nb h).elim
    | (cases h;done)
  ·exact (nb h).elim
 | next x' b=>
  cases b<;>simp only [aQ,ho] at h
  ·exact (nb h).elim
  ·cases h
 | _=>
  simp only [aQ,ho] at h
  (repeat' split at h)
  all_goals first
   | contradiction
   | exact (nb h).elim
   | (cases h;done)
def al1 {o:y9} {k:Nat} {r:AV×Hp×Nat} (hv:bg O.prog O.az self tm hp ct (aQ O.P H k o)=some r):∀c,o.op≠.defer c:=by
 intro c ho;simp [aQ,ho,bad,bg,eD,ay] at hv
end
end
section
open Go
section
variable {O:bh} {H:Hint} {m:Mp} {S:Nat->Prop} {w:yi} {tm:Env} {a:Act} {hp:Hp} {ct cq:Nat}
def gD (tm:Env) (hp:Hp) (ct:Nat):Op->Option (AV×Obj)
 | .aS sz b x y=>qd hp ct sz b (ay tm x) (iL hp sz (ay tm y))
 | _=>none
def PM (O:bh) (m:Mp) (S:Nat->Prop) (w:yi) (a:Act) (ct:Nat) (o:y9) (v:AV) (b:Obj):Prop:=
 ∃u g p,(execOp a.eval o).run O.P w= .ok (.value u) (w.drew.alloc g)/\p.b=w.heap.size/\¬gO b/\
  ∀m',cR m m'->m' ct=some p->eM O m' S (w.drew.alloc g) ct b/\ah O.af m' S (w.drew.alloc g) v u
def aoM {e:yx} {z:yg} {sz need cap:Nat} {cs:List AV} {us:List yg} (hh:aO O m S w hp cq) (hr:av O.af m S w cs us) (hl:us.length=need*sz) (hz:z.cells.size=sz)
  (By:Bool) (WU:By=true->aH cs=true) (hc:need<=cap):
  let w':=w.drew.alloc (.cells (us.toArray++Builtin.zeroCells z.cells (cap-need)) e)
  let p:Pl:=⟨w.heap.size,0,cap*sz,sz⟩
  ∀m',cR m m'->m' ct=some p->eM O m' S w' ct (.cells true By false sz cs):=by
 intro w' p m' hm hi;have aT:fp S w w':=fun b hb=>by
  have:=hh.slt b hb
  exact RowKit.Below.heap_alloc w.drew _ b (by simpa using this)
 have im:w'.heap[w.heap.size]? =some (.cells (us.toArray++Builtin.zeroCells z.cells (cap-need)) e (0,0)):=heap_alloc_new w.drew _;have gV:=gh _ _ hr;refine ⟨p,_,e,hi,im,rfl,?_,?_,by simp,?_,WU,?_,by simp⟩
 ·show cs.length<=cap*sz
  rw [<-gV,hl];exact yT _ hc
 ·show 0+cap*sz<=_
  rw [Array.size_append,uT,size_zeroCells,hz,hl,<-xU];rw [yh];exact yT _ (by omega)
 ·refine JD im cs us 0 (fZ hm (fun _ h=>h) aT _ _ hr) (fun j u hj=>?_);rw [yh,tX (by rw [uT];exact (wg.1 hj).1),List.getElem?_toArray]
  exact hj
 ·intro _ hS
  have:=hh.slt _ hS
  simp [p] at this
def lU {a b:Nat} (h:yI a b=true):a<b:=yo h
def aoN {o:y9} {b':yx} {t u e:yx} {sz bY:Nat} {z:AV} {x y:xq} {v:AV} {dz:Obj} (hH:eT O H) (ht:bW O m S w tm a.tmps) (hh:aO O m S w hp cq)
  (fe:(execOp a.eval o).run O.P w=((do pure (.value (<-Builtin.append_ #[t,u] b' #[a.eval x,a.eval y])):Sem yaj)).run O.P w)
  (qU:O.P.underlying t=some (.slice e)) (hu:(∃e',O.P.underlying u=some (.slice e'))\/O.P.underlying u=some .string) (hs:cu O.P e=some sz) (hb:qM O.P e=some bY) (hz:kD O.P e=some z) (pE:(cellsOf z).length=sz)
  (hv:gD tm hp ct (.aS sz bY (aK H x) (aK H y))=some (v,dz)):PM O m S w a ct o v dz:=by
 simp only [gD] at hv;obtain ⟨ti,zv,pG,rfl,rfl,Iv,rfl⟩:=abi hs hb hz;have aI:∀u' w',(Builtin.append_ #[t,u] b' #[a.eval x,a.eval y]).run O.P w= .ok u' w'->(execOp a.eval o).run O.P w= .ok (.value u') w':=fun u' w' h=>by
  rw [fe,Sem.run_bind,h];rfl
 have B8:zv.cells.size=ti.size:=by
  have:=gh _ _ (AU (af:=O.af) (m:=m) (S:=S) (w:=w) zv)
  rw [<-pE,<-this];simp
 cases pn:iL hp ti.size (ay tm (aK H y)) with
 | none=>simp [pn,qd] at hv
 | some q=>
  obtain ⟨n,new⟩:=q;rw [pn] at hv;obtain ⟨news,jz,cX⟩:=Zx hh (cf hH ht y) pn;have Iw:=gh _ _ jz;have rx:=cf hH ht x;cases hx:ay tm (aK H x)<;>rw [hx] at hv rx<;>simp only [qd,reduceCtorEq] at hv
  rename_i id o0 k;simp only [ah] at rx;obtain ⟨p,c,hm,ex,h1,h2⟩:=rx
  split at hv
  case h_2=>cases hv
  rename_i eY pu zz cs hg
  cases hc:(yp zz ti.size&&(yI 0 n&&(yy (k+n) room&&(yy ((k+n)*ti.bytes) room&&(yp (o0+k*ti.size) cs.length&&yI 0 ti.size))))) with
  | false=>rw [hc] at hv;cases hv
  | true=>
   rw [hc] at hv;simp only [yz,yb,yk] at hv;obtain ⟨rfl,rfl⟩:=hv;simp only [yf] at hc;have c0:=yj hc.1;have c5:=lU hc.2.1;have c1:=yo hc.2.2.1;have c2:=yo hc.2.2.2.1;have c3:=yj hc.2.2.2.2.1;have c4:=lU hc.2.2.2.2.2;simp only [room] at c1 c2;obtain ⟨p',arr,t',g1,g2,g3,g4,g5,g6,g7,g8,g9,g10⟩:=hh.obj id _ _ hg hm;rw [hm] at g1;injection g1 with g1
   subst g1;subst c0;rw [g3] at h2;have hce:=g6 rfl;have mj:c=k:=by
    have:c*ti.size=k*ti.size:=by omega
    exact yab c4 this
   subst mj;have D8:bN O.af m S w (slice o0 (c*ti.size) cs) p.b (p.o+o0):=sZ _ _ _ _ (oT _ _ _ _ g7);obtain ⟨kJ,f1,f2,f3⟩:=pQ _ _ _ D8;have Ll:(slice o0 (c*ti.size) cs).length=c*ti.size:=by simp only [slice,yW,xN];omega
   have mh:(pu&&aH new)=true->aH (slice o0 (c*ti.size) cs++new)=true:=fun h=>by
    simp only [yf] at h;exact AW (sW _ (rz _ _ (g8 h.1))) h.2
   have Ix:Src O.P w ti.size c kJ (.slice (some ⟨p.b,p.o+o0,none⟩) c c):=CI (by omega) (fun j u hj=>by rw [mG];exact f3 j u hj)
   have hr:=Ji (P:=O.P) (ty:=b') (w:=w) qU hu pG Iv rfl Ix cX (by omega) c1 c2;have iz:=grownCap_ge w (c+n) c e;have im:=aoM (ct:=ct) (e:=e) (z:=zv) (cap:=grownCap w (c+n) c e) hh (j9 f1 jz) (need:=c+n) (sz:=ti.size) (by rw [yY,f2,Ll,cX.2.1,xU]) B8 (pu&&aH new) mh iz;exact ⟨_,_,⟨w.heap.size,0,grownCap w (c+n) c e*ti.size,ti.size⟩,aI _ _ (by rw [ex];exact hr),rfl,by simp [gO],fun m' hle hi=>⟨im m' hle hi,by simp only [ah];exact ⟨_,_,hi,rfl,iz,by simp⟩⟩⟩
def al2 {Hq:Hp} (hl:cL hp Hq) {sz:Nat} {v:AV} {q:Nat×List AV} (h:kW hp sz v=some q):kW Hq sz v=some q:=by
 cases v<;>simp only [kW,reduceCtorEq] at h ⊢
 ·exact h
 ·exact h
 ·rename_i id o n
  cases hg:aA hp id with
  | none=>simp [hg] at h
  | some ob=>
   cases ob<;>simp only [hg,reduceCtorEq] at h
   obtain ⟨o',h1,r,rfl,_⟩:=hl id _ hg;simp only [h1];exact h
def am2 {Hq:Hp} (hl:cL hp Hq) {sz:Nat} {v:AV} {q:Nat×List AV} (h:iL hp sz v=some q):iL Hq sz v=some q:=by
 by_cases hs:∃b,v= .str b
 ·obtain ⟨b,rfl⟩:=hs;exact h
 ·have e:∀hp:Hp,iL hp sz v=kW hp sz v:=fun hp=>by
   cases v<;>first
    | rfl
    | exact absurd ⟨_,rfl⟩ hs
  rw [e] at h ⊢;exact al2 hl h
def aoO {Hq:Hp} (hl:cL hp Hq) {sz b:Nat} {x y v:AV} {dz:Obj} (h:qd hp ct sz b x (iL hp sz y)=some (v,dz)):qd Hq ct sz b x (iL Hq sz y)=some (v,dz):=by
 cases hs:iL hp sz y with
 | none=>rw [hs] at h;simp [qd] at h
 | some q=>
  rw [am2 hl hs];rw [hs] at h;obtain ⟨n,new⟩:=q;cases x<;>simp only [qd,reduceCtorEq] at h ⊢
  rename_i id o k
  cases hg:aA hp id with
  | none=>simp [hg] at h
  | some ob=>
   cases ob with
   | cells eY pu ex z cs=>
    cases ex with
    | false=>simp [hg] at h
    | true=>
     obtain ⟨o',h1,r,rfl,_⟩:=hl id _ hg;simp only [hg] at h;simp only [h1];exact h
   | _=>simp [hg] at h
def as8 {o:y9} {k:Nat} {v:AV} {dz:Obj} (hH:eT O H) (ht:bW O m S w tm a.tmps) (hh:aO O m S w hp cq)
  (hv:gD tm hp ct (aQ O.P H k o)=some (v,dz)):PM O m S w a ct o v dz:=by
 have gE:∀{r:AV×Obj},gD tm hp ct bad=some r->False:=fun h=>by simp [bad,gD] at h
 cases ho:o.op with
 | call c=>
  obtain ⟨callee,args,ts⟩:=c;simp only [aQ,ho] at hv
  split at hv
  ·cases B5:H.mode k<;>simp [B5,gD] at hv
  ·rename_i _ b
   split at hv
   ·rename_i x y t u fC lJ;obtain ⟨al⟩:=args;obtain ⟨tl⟩:=ts;simp only at fC lJ;subst fC;subst lJ;obtain ⟨cs,fe⟩:=CB (O:=O) (w:=w) (a:=a) ho;have G0:(execOp a.eval o).run O.P w=((do pure (.value (<-Builtin.append_ #[t,u] o.type #[a.eval x,a.eval y])):Sem yaj)).run O.P w:=by
     rw [fe];simp [builtin]
    have key:∀{z:AV} {sz bY:Nat} {e:yx},O.P.underlying t=some (.slice e)->((∃e',O.P.underlying u=some (.slice e'))\/O.P.underlying u=some .string)->cu O.P e=some sz->qM O.P e=some bY->kD O.P e=some z->
      gD tm hp ct (bif yp (cellsOf z).length sz then .aS sz bY (aK H x) (aK H y) else bad)=some (v,dz)->PM O m S w a ct o v dz:=by
     intro z sz bY e h1 h2 h3 h4 h5 h
     cases hb:yp (cellsOf z).length sz with
     | false=>rw [hb] at h;exact (gE h).elim
     | true=>
      rw [hb] at h;exact aoN hH ht hh G0 h1 h2 h3 h4 h5 (yj hb) h
    split at hv
    ·rename_i e e' h1 h2
     split at hv
     ·rename_i sz bY z h3 h4 h5
      exact key h1 (.inl ⟨_,h2⟩) h3 h4 h5 hv
     ·exact (gE hv).elim
    ·rename_i e h1 h2
     split at hv
     ·rename_i sz bY z h3 h4 h5
      exact key h1 (.inr h2) h3 h4 h5 hv
     ·exact (gE hv).elim
    ·exact (gE hv).elim
   ·repeat' split at hv
    all_goals simp [gD,bad] at hv
   ·repeat' split at hv
    all_goals simp [gD,bad] at hv
   ·simp [gD] at hv
   ·simp [gD] at hv
   ·exact (gE hv).elim
  ·exact (gE hv).elim
 | next x b=>
  cases b<;>simp [aQ,ho,gD,bad] at hv
 | binOp op t x y ty=>
  cases op<;>simp only [aQ,ho,mF,nL] at hv
  case eql=>
        repeat' split at hv
        all_goals first
         | (simp [gD,bad] at hv;done)
         | (cases hb:(O.P.stoodInHeld t||O.P.eqGuardType O.P.depth t)<;>rw [hb] at hv<;>simp [gD,bad] at hv)
  case neq=>
        repeat' split at hv
        all_goals first
         | (simp [gD,bad] at hv;done)
         | (cases hb:(O.P.stoodInHeld t||O.P.eqGuardType O.P.depth t)<;>rw [hb] at hv<;>simp [gD,bad] at hv)
  all_goals simp [gD] at hv
 | buildSlice t n parts=>
  simp only [aQ,ho] at hv
  repeat' split at hv
  all_goals first
   | (simp [gD,bad] at hv;done)
   | (
     revert hv;generalize yy _ _=bb;intro hv;cases bb<;>simp [gD,bad] at hv
     try (split at hv<;>simp [gD,bad] at hv))
 | makeMap t r=>
  cases r<;>simp only [aQ,ho] at hv
  ·repeat' split at hv
   all_goals simp [gD,bad] at hv
  ·exact (gE hv).elim
 | _=>
  simp only [aQ,ho] at hv
  (repeat' split at hv)
  all_goals first
   | contradiction
   | (simp [gD,bad] at hv;done)
end
end
section
open Go
section
variable {O:bh} {H:Hint} {m:Mp} {S:Nat->Prop} {w:yi} {tm:Env} {a:Act} {hp ap Hq:Hp} {ct aV cH:Nat} {self:cx} {ro:Option Nat} {next:Act->yi->Prop} {Q:vP->Act->yi->Prop}
def ZE {g:tR} {p:Pl} {S':Nat->Prop} {base:Nat} (hh:aO O m S w Hq cH) (hi:m ct=none) (hb:p.b=w.heap.size) (h1:∀b,S b->S' b) (h2:∀b,S' b->S b\/b=w.heap.size):
  b6 m S w Hq (ff m ct p) S' (w.alloc g) Hq base where
 os:=rfl
 tape:=rfl
 output:=rfl
 size:=by simp
 same b hb _:=alloc_old hb
 sub:=h1
 still b hb:=alloc_old (hh.slt b hb)
 new b hb:=(h2 b hb).imp (fun h=>h) (fun h=> .inr (by omega))
 own b hb:=by
  obtain ⟨i,o,q,g1,g2,g3⟩:=hb;by_cases hc:i=ct
  ·subst hc;rw [dC] at g2
   grind
  ·rw [dP hc] at g2;exact .inl ⟨i,o,q,g1,g2,g3⟩
 old i q _ h:=iJ hi i q h
 loops b r hb:=⟨r,(alloc_old (xo.1 hb).1).trans hb⟩
def Yu {KN ao:List AV} {us:List yg} {bm:Hp} (hz:cF deep hp KN=some (ao,bm)) (hl:cL bm Hq) (hh:aO O m S w Hq cH) (hr:av O.af m S w KN us):av O.af eF S w ao us/\aH ao=true:=by
 obtain ⟨_,_,h3⟩:=Ol (O:=O) hz;obtain ⟨k1,k2⟩:=h3 Hq m S w cH hl hh;exact ⟨rA (fun _ h=>h) (fun _ _=>rfl) _ _ k2 (k1 us hr),k2⟩
def Ps (hh:aO O m S w Hq cH):zK O w:=⟨hh.ju,hh.fB⟩
def JV (hH:eT O H) (ht:bW O m S w tm a.tmps) {f:xq} {g:Nat} {first cap:List AV} {args:Array xq} (hf:ay tm (aK H f)= .fn (.f g) first cap):
  ∃fi ca:Array yg,a.eval f= .func (.func (O.af g)) fi ca/\av O.af m S w (first++(da tm (gk H args.toList)++cap)) (fi++args.map a.eval++ca).toList:=by
 have rf:=cf hH ht f;rw [hf] at rf;obtain ⟨fi,ca,h1,h2,h3⟩:=rf;refine ⟨fi,ca,h1,?_⟩
 have:=j9 h2 (j9 (Bf hH ht args.toList) h3)
 simp_all
def al3 (hC:mC O self) (hH:eT O H) {o:y9} {c:tJ} {f:xq} (ho:o.op= .call c) (gZ:c.callee= .value f) {g:Nat} {first cap ao:List AV} {bm:Hp} {r:AV}
  (hf:ay tm (aK H f)= .fn (.f g) first cap) (hz:cF deep hp (first++(da tm (gk H c.args.toList)++cap))=some (ao,bm)) (hr:bM O.prog O.az self g ao=some r)
  (hl:cL bm Hq) (ht:bW O m S w tm a.tmps) (hh:aO O m S w Hq cH)
  (hn:∀u S' w',aO O m S' w' Hq cH->ah O.af m S' w' (shut r) u->b6 m S w Hq m S' w' Hq cH->next (a.put o.dst u) w'):o.wpIn (WF ro) 0 O.P a w next Q:=by
 obtain ⟨fi,ca,h1,h2⟩:=JV hH ht (args:=c.args) hf;obtain ⟨h3,h4⟩:=Yu hz hl hh h2;refine Js ho gZ h1 (hC.pure g ao r hr w S _ (Ps hh) hh.slt h3 h4) ?_;rintro e w' ⟨u,S',rfl,hw,g1,g2,g3,g4⟩;refine ⟨u,rfl,?_⟩;obtain ⟨S2,k1,k2,k3⟩:=ZA g4 m;have hS:∀b,S b->S2 b:=fun b hb=>k1 b (g1 b hb)
 have Iy:∀b,S2 b->S b\/w.heap.size<=b:=fun b hb=>(k2 b hb).elim (g2 b) (fun h=> .inr h.1)
 have hl:∀b,S2 b->b<w'.heap.size:=fun b hb=>(k2 b hb).elim (g3 b) (fun h=>h.2)
 exact hn u S2 w' (A2 hh hw hS Iy hl) k3 (zg hh hw hS Iy)
def am3 (hC:mC O self) (hH:eT O H) {o:y9} {c:tJ} {f:xq} (ho:o.op= .call c) (gZ:c.callee= .value f) {g:Nat} {first cap ao:List AV} {bm:Hp} {r:AV}
  (hf:ay tm (aK H f)= .fn (.f g) first cap) (hz:cF deep hp (first++(da tm (gk H c.args.toList)++cap))=some (ao,bm)) (hr:bM O.prog O.az self g ao=some r)
  (hl:cL (own bm ct r).2.1 Hq) (fO:(own bm ct r).2.2<=cH) (aF:∀id o,aA hp id=some o->id<ct) (qX:∀id,ct<=id->id<(own bm ct r).2.2->m id=none)
  (ht:bW O m S w tm a.tmps) (hh:aO O m S w Hq cH)
  (hn:∀u m' S' w',aO O m' S' w' Hq cH->cR m m'->(∀id p,m' id=some p->m id=some p\/(ct<=id/\id<(own bm ct r).2.2))->ah O.af m' S' w' (own bm ct r).1 u->b6 m S w Hq m' S' w' Hq cH->next (a.put o.dst u) w'):
  o.wpIn (WF ro) 0 O.P a w next Q:=by
 obtain ⟨fi,ca,h1,h2⟩:=JV hH ht (args:=c.args) hf;obtain ⟨z1,z2,z3⟩:=Ol (O:=O) hz;have QO:∀id o,aA bm id=some o->id<ct:=fun id o h=>by
  have:=z2 id
  rw [h] at this
  cases hq:aA hp id with
  | none=>rw [hq] at this;cases this
  | some q=>exact aF id q hq
 have as9:∀id o,aA bm id=some o->aA (own bm ct r).2.1 id=some o:=fun id o h=>by
  cases r with
  | aa vs=>exact Kg QO id o h
  | _=>exact Pr QO id o h
 have mi:cL bm Hq:=fun id o h=>hl id o (as9 id o h)
 obtain ⟨h3,h4⟩:=Yu hz mi hh h2;refine Js ho gZ h1 (hC.pure g ao r hr w S _ (Ps hh) hh.slt h3 h4) ?_;rintro e w' ⟨u,S',rfl,hw,g1,g2,g3,g4⟩;refine ⟨u,rfl,?_⟩;have Au:=A2 hh hw g1 g2 g3;have As:=zg (base:=cH) hh hw g1 g2;obtain ⟨m',S2,k1,k2,k3,k4,k5,k6⟩:=as7 (lo:=w.heap.size) Au hl fO QO qX g4 hh.fB (fun j q hq=>hh.blt j q hq);refine hn u m' S2 w' k1 k2 (fun id p h=>(k3 id p h).imp (fun h=>h) (fun h=>⟨h.1,h.2.1⟩)) k4 ⟨hw.os,hw.tape,hw.output,hw.size,fun b hb _=>hw.same b hb,fun b hb=>k5 b (g1 b hb),fun b hb=>hw.same b (hh.slt b hb),?_,?_,fun i q _ h=>k2 i q h,As.loops⟩
 ·grind
 ·rintro b ⟨i,ob,q,q1,q2,q3⟩;rcases k3 i q q2 with h | h
  ·exact .inl ⟨i,ob,q,q1,h,q3⟩
  ·grind
def al4 {P:xa} {H:Hint} {o:y9} {k:Nat} {sz b:Nat} {x y:X} (hk:Op.oB sz b x y=aQ P H k o):False:=by
 cases ho:o.op with
 | call c=>
  obtain ⟨callee,args,ts⟩:=c;simp only [aQ,ho] at hk
  split at hk
  ·rename_i f;cases hm:H.mode k<;>simp only [hm,reduceCtorEq] at hk
  ·repeat' split at hk
   all_goals first
    | (cases hk;done)
    | (simp only [bad] at hk;cases hk;done)
    | (revert hk;generalize yp _ _=bb;intro hk;cases bb<;>simp [bad] at hk)
  ·simp only [bad] at hk;cases hk
 | binOp op t x' y ty=>
  cases op<;>simp only [aQ,ho,mF,nL] at hk
  case eql=>
        repeat' split at hk
        all_goals first
         | (cases hk;done)
         | (simp only [bad] at hk;cases hk;done)
         | (cases bJ:(P.stoodInHeld t||P.eqGuardType P.depth t)<;>rw [bJ] at hk<;>simp [bad] at hk)
  case neq=>
        repeat' split at hk
        all_goals first
         | (cases hk;done)
         | (simp only [bad] at hk;cases hk;done)
         | (cases bJ:(P.stoodInHeld t||P.eqGuardType P.depth t)<;>rw [bJ] at hk<;>simp [bad] at hk)
  all_goals cases hk
 | buildSlice t n parts=>
  simp only [aQ,ho] at hk
  repeat' split at hk
  all_goals first
   | (cases hk;done)
   | (simp only [bad] at hk;cases hk;done)
   | (revert hk;generalize yy _ _=bb;intro hk;cases bb<;>simp [bad] at hk)
 | makeMap t r=>
  cases r<;>simp only [aQ,ho] at hk
  ·repeat' split at hk
   all_goals first
    | (cases hk;done)
    | (simp only [bad] at hk;cases hk;done)
  ·simp only [bad] at hk;cases hk
 | next x' b=>
  cases b<;>simp only [aQ,ho] at hk
  ·simp only [bad] at hk;cases hk
  ·cases hk
 | _=>
  simp only [aQ,ho] at hk
  (repeat' split at hk)
  all_goals first
   | contradiction
   | (cases hk;done)
   | (simp only [bad] at hk;cases hk;done)
def ata {P:xa} {H:Hint} {o:y9} {sz b:Nat} {x y:X} (hq:n7 P H (.oB sz b x y) o):∃k,Op.aS sz b x y=aQ P H k o:=by
 rcases hq with ⟨k,hk⟩ | ⟨_,_,_,_,_,h3⟩ | ⟨_,_,_,_,_,_,_,h3⟩ | ⟨_,_,_,_,_,_,_,h3⟩ | ⟨k,Ca,b',x',y',h1,h3⟩
 ·exact (al4 hk).elim
 ·cases h3
 ·cases h3
 ·cases h3
 ·simp only [Op.oB.injEq] at h3;obtain ⟨rfl,rfl,rfl,rfl⟩:=h3;exact ⟨k,h1⟩
def quiet_step (hC:mC O self) (hH:eT O H) {o:y9} {q:Op} {v:AV} (hk:bt q<=1) (hq:n7 O.P H q o) (hd:∀c,o.op≠.defer c) (hv:bg O.prog O.az self tm hp ct q=some (v,ap,aV)) (hl:cL ap Hq) (fO:aV<=cH)
  (aF:∀id o,aA hp id=some o->id<ct) (qX:∀id,ct<=id->id<aV->m id=none) (ht:bW O m S w tm a.tmps) (hh:aO O m S w Hq cH)
  (hn:∀u m' S' w',aO O m' S' w' Hq cH->cR m m'->(∀id p,m' id=some p->m id=some p\/(ct<=id/\id<aV))->ah O.af m' S' w' v u->b6 m S w Hq m' S' w' Hq cH->next (a.put o.dst u) w'):
  o.wpIn (WF ro) 0 O.P a w next Q:=by
 by_cases WX:∃sz b x y,q= .oB sz b x y
 ·obtain ⟨sz,b,x,y,rfl⟩:=WX;obtain ⟨k,iw⟩:=ata hq;simp only [bg] at hv
  cases hm:qd hp ct sz b (ay tm x) (iL hp sz (ay tm y)) with
  | none=>simp [hm] at hv
  | some r=>
   obtain ⟨v1,dz⟩:=r;simp only [hm,yb,yk] at hv;obtain ⟨rfl,rfl,rfl⟩:=hv;have jx:cL hp Hq:=fun id o' jb=>hl id o' (by
    rw [fm,yu (by have:=aF id o' jb;omega)];exact jb)
   have bZ:gD tm Hq ct (aQ O.P H k o)=some (v1,dz):=by rw [<-iw];exact aoO jx hm
   have hi:=qX ct (yA _) (tM _);obtain ⟨u,g,p,h1,h2,h3,h4⟩:=as8 hH ht hh bZ;have hcw:Calm w w.drew:=⟨rfl,rfl,rfl,yA _,fun _ _=>rfl⟩;have gn:=A2 hh hcw (S':=S) (fun _ h=>h) (fun _ h=> .inl h) hh.slt;have D9:b6 m S w Hq m S w.drew Hq cH:=zg hh hcw (fun _ h=>h) (fun _ h=> .inl h);obtain ⟨S',k1,k2,k3⟩:=OY (i:=ct) (g:=g) (p:=p) gn hi fO h2 (fun o' jb=>by
    obtain ⟨WO,g1,g2⟩:=hl ct dz (by rw [fm];simp)
    rw [jb] at g1;injection g1 with g1
    subst g1
    have:=Od g2 dC (h4 _ (iJ hi) dC).1 h3
    rwa [h2] at this)
   refine Gi hd h1 (.inl rfl) (hn u _ S' _ k1 (iJ hi) (fun id q hq=>?_) (kj (fun _ _ h=>h) k2 (fun _ _=>rfl) _ _ (h4 _ (iJ hi) dC).2) (D9.trans (ZE gn hi h2 k2 k3)));by_cases hc:id=ct
   ·exact .inr (by omega)
   ·rw [dP hc] at hq;exact .inl hq
 have iw:∃k,q=aQ O.P H k o:=by
  rcases hq with h | ⟨c,f,rs,_,_,rfl⟩ | ⟨_,_,_,_,_,_,_,rfl⟩ | ⟨_,_,_,_,_,_,_,rfl⟩ | ⟨_,_,_,_,_,_,h⟩
  ·exact h
  ·simp [bt] at hk
  ·simp [bt] at hk
  ·simp [bt] at hk
  ·exact (WX ⟨_,_,_,_,h⟩).elim
 obtain ⟨k,hq⟩:=iw;have read:∀{v:AV},br tm hp q=some v->cL hp Hq->(∀u m' S' w',aO O m' S' w' Hq cH->cR m m'->(∀id p,m' id=some p->m id=some p\/(ct<=id/\id<aV))->ah O.af m' S' w' v u->b6 m S w Hq m' S' w' Hq cH->next (a.put o.dst u) w')->o.wpIn (WF ro) 0 O.P a w next Q:=by
  intro v hr hl hn;have bZ:=amW hl hr;rw [hq] at bZ;obtain ⟨u,h1,h2⟩:=abe hH ht hh bZ;exact Gi hd h1 (.inl rfl) (hn u m S w hh cR.refl (fun _ _ h=> .inl h) h2 b6.refl)
 have makes:∀{v:AV} {b:Obj},cG tm hp ct q=some (v,b)->cL ((ct,b)::hp) Hq->ct+1<=cH->m ct=none->(∀u m' S' w',aO O m' S' w' Hq cH->cR m m'->(∀id p,m' id=some p->m id=some p\/(ct<=id/\id<ct+1))->ah O.af m' S' w' v u->b6 m S w Hq m' S' w' Hq cH->next (a.put o.dst u) w')->o.wpIn (WF ro) 0 O.P a w next Q:=by
  intro v b hr hl hc hi hn;rw [hq] at hr;have bZ:cG tm Hq ct (aQ O.P H k o)=some (v,b):=by rw [<-hr];exact Fz (fun _ _=>rfl)
  obtain ⟨u,g,p,h1,h2,h3,h4⟩:=aqN hH ht hh bZ;obtain ⟨S',k1,k2,k3⟩:=OY (i:=ct) (g:=g) (p:=p) hh hi hc h2 (fun o' jb=>by
   obtain ⟨WO,g1,g2⟩:=hl ct b (by rw [fm];simp)
   rw [jb] at g1;injection g1 with g1
   subst g1
   have:=Od g2 dC (h4 _ (iJ hi) dC).1 h3
   rwa [h2] at this)
  refine Gi hd h1 (.inl rfl) (hn u _ S' _ k1 (iJ hi) (fun id q hq=>?_) (kj (fun _ _ h=>h) k2 (fun _ _=>rfl) _ _ (h4 _ (iJ hi) dC).2) (ZE hh hi h2 k2 k3));by_cases hc:id=ct
  ·exact .inr (by omega)
  ·rw [dP hc] at hq;exact .inl hq
 have cz:∀{q:Op},(match cG tm hp ct q with | some (v,b)=>some (v,(ct,b)::hp,ct+1) | none=>(none:fT))=some (v,ap,aV)->∃b,cG tm hp ct q=some (v,b)/\ap=(ct,b)::hp/\aV=ct+1:=by
  intro q h
  cases hm:cG tm hp ct q with
  | none=>simp [hm] at h
  | some r=>
   obtain ⟨v1,b⟩:=r;simp only [hm,yb,yk] at h;obtain ⟨rfl,rfl,rfl⟩:=h;exact ⟨b,rfl,rfl,rfl⟩
 have fV:∀{q:Op},(match br tm hp q with | some v=>some (v,hp,ct) | none=>(none:fT))=some (v,ap,aV)->br tm hp q=some v/\ap=hp/\aV=ct:=by
  intro q h
  cases hm:br tm hp q with
  | none=>simp [hm] at h
  | some r=>
   simp only [hm,yb,yk] at h;obtain ⟨rfl,rfl,rfl⟩:=h;exact ⟨rfl,rfl,rfl⟩
 have Gj:(∃b,cG tm hp ct q=some (v,b)/\ap=(ct,b)::hp/\aV=ct+1)->o.wpIn (WF ro) 0 O.P a w next Q:=by
  rintro ⟨b,h1,rfl,rfl⟩;exact makes h1 hl fO (qX ct (yA _) (tM _)) hn
 have atb:(br tm hp q=some v/\ap=hp/\aV=ct)->o.wpIn (WF ro) 0 O.P a w next Q:=by
  rintro ⟨h1,rfl,rfl⟩;exact read h1 hl hn
 cases q with
 | st _ _ _=>simp [bt] at hk
 | ox _ _ _ _=>simp [bt] at hk
 | oA _=>simp [bt] at hk
 | aS _ _ _ _=>simp [bt] at hk
 | oC _ _ _=>simp [bt] at hk
 | ib _ _ _=>simp [bt] at hk
 | jv _ _ _ _=>simp [bt] at hk
 | jS _ _ _ _ _=>simp [bt] at hk
 | oB sz b x y=>exact (WX ⟨sz,b,x,y,rfl⟩).elim
 | box s x=>exact Gj (cz (by simp only [bg] at hv;exact hv))
 | lm n s z ps=>exact Gj (cz (by simp only [bg] at hv;exact hv))
 | nc s b z x y=>exact Gj (cz (by simp only [bg] at hv;exact hv))
 | sC=>exact Gj (cz (by simp only [bg] at hv;exact hv))
 | oy x=>exact Gj (cz (by simp only [bg] at hv;exact hv))
 | call md x xs=>
  cases md with
  | heap=>simp [bt] at hk
  | dyn=>simp [bt] at hk
  | pure=>
   simp only [bg,eD] at hv
   split at hv
   ·rename_i g first cap hx
    (try simp only at hv)
    cases hz:cF deep hp (first++(da tm xs++cap)) with
    | none=>simp [hz] at hv
    | some z=>
     obtain ⟨ao,bm⟩:=z;simp only [hz] at hv
     cases hr:bM O.prog O.az self g ao with
     | none=>simp [hr] at hv
     | some r=>
      simp only [hr,yb,yk] at hv;obtain ⟨rfl,rfl,rfl⟩:=hv;obtain ⟨c,f,ho,gZ,rfl,rfl⟩:=Kh hq.symm (by rintro rfl;simp [ay] at hx);exact al3 hC hH ho gZ hx hz hr hl ht hh (fun u S' w' h1 h2 h3=>hn u m S' w' h1 cR.refl (fun _ _ h=> .inl h) h2 h3)
   ·simp at hv
   ·cases hv
  | own=>
   simp only [bg,eD] at hv
   split at hv
   ·rename_i g first cap hx
    (try simp only at hv)
    cases hz:cF deep hp (first++(da tm xs++cap)) with
    | none=>simp [hz] at hv
    | some z=>
     obtain ⟨ao,bm⟩:=z;simp only [hz] at hv
     cases hr:bM O.prog O.az self g ao with
     | none=>simp [hr] at hv
     | some r=>
      simp only [hr,yb] at hv;obtain ⟨c,f,ho,gZ,rfl,rfl⟩:=Kh hq.symm (by rintro rfl;simp [ay] at hx);have e1:v=(own bm ct r).1:=by rw [hv]
      have e2:ap=(own bm ct r).2.1:=by rw [hv]
      have e3:aV=(own bm ct r).2.2:=by rw [hv]
      subst e1;subst e2;subst e3;exact am3 hC hH ho gZ hx hz hr hl fO aF qX ht hh hn
   ·simp at hv
   ·cases hv
 | _=>exact atb (fV (by simp only [bg] at hv;exact hv))
end
end
section
open Go
section
variable {O:bh} {H:Hint} {m:Mp} {S:Nat->Prop} {w:yi} {tm:Env} {a:Act} {hp ap:Hp} {ct aV:Nat} {self:cx} {ro:Option Nat} {next:Act->yi->Prop} {Q:vP->Act->yi->Prop}
def b6.qv {m':Mp} {S':Nat->Prop} {w':yi} {b b':Nat} (h:b6 m S w hp m' S' w' ap b) (hb:b'<=b):b6 m S w hp m' S' w' ap b':=
 ⟨h.os,h.tape,h.output,h.size,h.same,h.sub,h.still,h.new,h.own,fun i q hi hq=>h.old i q (by omega) hq,h.loops⟩
def atc {hp:Hp} {ct:Nat} {r:AV} (aF:∀id o,aA hp id=some o->id<ct):∀id o,aA (own hp ct r).2.1 id=some o->id<(own hp ct r).2.2:=by
 have hL:∀(vs:List AV) (hp:Hp) (ct:Nat),(∀id o,aA hp id=some o->id<ct)->∀id o,aA (iY hp ct vs).2.1 id=some o->id<(iY hp ct vs).2.2:=by
  intro vs
  induction vs with
  | nil=>intro hp ct h id o ho;exact h id o ho
  | cons v r ih=>intro hp ct h id o ho;exact ih _ _ (F5 h) id o ho
 cases r with
 | aa vs=>exact hL vs hp ct aF
 | _=>exact F5 aF
def atd {hp:Hp} {ct:Nat} {r:AV} (aF:∀id o,aA hp id=some o->id<ct):∀id o,aA hp id=some o->aA (own hp ct r).2.1 id=some o:=by
 cases r with
 | aa vs=>exact Kg aF
 | _=>exact Pr aF
def ate {hp:Hp} {ct:Nat} {r:AV}:ct<=(own hp ct r).2.2:=by
 cases r with
 | aa vs=>exact Kf
 | _=>exact Ke
def aoP {hp:Hp} {ct:Nat} {r:AV}:∀id o,aA (own hp ct r).2.1 id=some o->id<ct->aA hp id=some o:=by
 have h1:∀(hp:Hp) (ct:Nat) (r:AV) id o,aA (eU hp ct r).2.1 id=some o->id<ct->aA hp id=some o:=by
  intro hp ct r id o h hc;cases r<;>simp only [eU] at h<;>try exact h
  rw [fm,yu (by omega)] at h;exact h
 have hL:∀(vs:List AV) (hp:Hp) (ct:Nat) id o,aA (iY hp ct vs).2.1 id=some o->id<ct->aA hp id=some o:=by
  intro vs
  induction vs with
  | nil=>intro hp ct id o ho _;exact ho
  | cons v r ih=>intro hp ct id o ho hc;exact h1 hp ct v id o (ih _ _ id o ho (by have:=Ke (hp:=hp) (ct:=ct) (r:=v);omega)) hc
 cases r with
 | aa vs=>exact hL vs hp ct
 | _=>exact h1 hp ct _
structure gP (hp:Hp) (ct:Nat) (ap:Hp) (aV:Nat):Prop where
 le:cL hp ap
 oE:ct<=aV
 lt:∀id o,aA ap id=some o->id<aV
 back:∀id o,aA ap id=some o->id<ct->∃o',aA hp id=some o'
def gP.refl (aF:∀id o,aA hp id=some o->id<ct):gP hp ct hp ct:=⟨cL.refl,yA _,aF,fun _ o h _=>⟨o,h⟩⟩
def gP.trans {Hh:Hp} {ag9:Nat} (h:gP hp ct ap aV) (k:gP ap aV Hh ag9):gP hp ct Hh ag9:=
 ⟨h.le.trans k.le,xe h.oE k.oE,k.lt,fun id o ho hi=>let ⟨o1,h1⟩:=k.back id o ho (yE hi h.oE);h.back id o1 h1 hi⟩
def ZF {KN ao:List AV} {bm:Hp} (hz:cF deep hp KN=some (ao,bm)) (aF:∀id o,aA hp id=some o->id<ct):gP hp ct bm ct:=by
 obtain ⟨z1,z2,_⟩:=Ol (O:=⟨default,⟨fun _=>none,fun _=>none⟩,fun _=>0,fun _=>none,fun _=>⟨0,fun _=>none,fun _=>[],fun _=>none,fun _=> .pure,fun _=>[]⟩,default⟩) hz;have hb:∀id o,aA bm id=some o->∃o',aA hp id=some o':=fun id o h=>by
  have:=z2 id
  rw [h] at this
  cases hq:aA hp id with
  | none=>rw [hq] at this;cases this
  | some q=>exact ⟨q,rfl⟩
 exact ⟨z1,yA _,fun id o h=>let ⟨o',h'⟩:=hb id o h;aF id o' h',fun id o h _=>hb id o h⟩
def am4 {r:AV} (aF:∀id o,aA hp id=some o->id<ct):gP hp ct (own hp ct r).2.1 (own hp ct r).2.2:=
 ⟨fun id o h=>⟨o,atd aF id o h,ix.refl o⟩,ate,atc aF,fun id o h hi=>⟨o,aoP id o h hi⟩⟩
def Yv {P:aM} {L:Lib} {q:Op} {v:AV} (hk:bt q<=1) (hv:bg P L self tm hp ct q=some (v,ap,aV)) (aF:∀id o,aA hp id=some o->id<ct):gP hp ct ap aV:=by
 have cz:∀{q:Op},(match cG tm hp ct q with | some (v,b)=>some (v,(ct,b)::hp,ct+1) | none=>(none:fT))=some (v,ap,aV)->gP hp ct ap aV:=by
  intro q h
  cases hm:cG tm hp ct q with
  | none=>simp [hm] at h
  | some r=>
   obtain ⟨v1,b⟩:=r;simp only [hm,yb,yk] at h;obtain ⟨rfl,rfl,rfl⟩:=h;refine ⟨fun id o ho=>⟨o,?_,ix.refl o⟩,by omega,fun id o ho=>?_,fun id o ho hi=>?_⟩
   ·rw [fm,yu (by have:=aF id o ho;omega)];exact ho
   ·rw [fm] at ho;by_cases hc:ct=id
    ·omega
    ·simp only [hc,xk] at ho;have:=aF id o ho;omega
   ·rw [fm,yu (by omega)] at ho;exact ⟨o,ho⟩
 have fV:∀{q:Op},(match br tm hp q with | some v=>some (v,hp,ct) | none=>(none:fT))=some (v,ap,aV)->gP hp ct ap aV:=by
  intro q h
  cases hm:br tm hp q with
  | none=>simp [hm] at h
  | some r=>
   simp only [hm,yb,yk] at h;obtain ⟨rfl,rfl,rfl⟩:=h;exact gP.refl aF
 cases bL:q with
 | st _ _ _=>simp [bL,bt] at hk
 | ox _ _ _ _=>simp [bL,bt] at hk
 | oA _=>simp [bL,bt] at hk
 | aS _ _ _ _=>simp [bL,bt] at hk
 | oC _ _ _=>simp [bL,bt] at hk
 | ib _ _ _=>simp [bL,bt] at hk
 | jv _ _ _ _=>simp [bL,bt] at hk
 | jS _ _ _ _ _=>simp [bL,bt] at hk
 | oB sz b x y=>
  rw [bL] at hv;simp only [bg] at hv
  cases hm:qd hp ct sz b (ay tm x) (iL hp sz (ay tm y)) with
  | none=>simp [hm] at hv
  | some r=>
   obtain ⟨v1,b⟩:=r;simp only [hm,yb,yk] at hv;obtain ⟨rfl,rfl,rfl⟩:=hv;refine ⟨fun id o ho=>⟨o,?_,ix.refl o⟩,by omega,fun id o ho=>?_,fun id o ho hi=>?_⟩
   ·rw [fm,yu (by have:=aF id o ho;omega)];exact ho
   ·rw [fm] at ho;by_cases hc:ct=id
    ·omega
    ·simp only [hc,xk] at ho;have:=aF id o ho;omega
   ·rw [fm,yu (by omega)] at ho;exact ⟨o,ho⟩
 | box s x=>exact cz (q:=q) (by rw [bL] at hv ⊢;simp only [bg] at hv;exact hv)
 | lm n s z ps=>exact cz (q:=q) (by rw [bL] at hv ⊢;simp only [bg] at hv;exact hv)
 | nc s b z x y=>exact cz (q:=q) (by rw [bL] at hv ⊢;simp only [bg] at hv;exact hv)
 | sC=>exact cz (q:=q) (by rw [bL] at hv ⊢;simp only [bg] at hv;exact hv)
 | oy x=>exact cz (q:=q) (by rw [bL] at hv ⊢;simp only [bg] at hv;exact hv)
 | call md x xs=>
  subst bL;simp only [bg,eD] at hv
  split at hv
  ·rename_i g first cap hx
   cases md with
   | heap=>simp [bt] at hk
   | dyn=>simp [bt] at hk
   | pure=>
    simp only at hv
    cases hz:cF deep hp (first++(da tm xs++cap)) with
    | none=>simp [hz] at hv
    | some z=>
     obtain ⟨ao,bm⟩:=z;simp only [hz] at hv
     cases hr:bM P L self g ao with
     | none=>simp [hr] at hv
     | some r=>
      simp only [hr,yb,yk] at hv;obtain ⟨rfl,rfl,rfl⟩:=hv;exact ZF hz aF
   | own=>
    simp only at hv
    cases hz:cF deep hp (first++(da tm xs++cap)) with
    | none=>simp [hz] at hv
    | some z=>
     obtain ⟨ao,bm⟩:=z;simp only [hz] at hv
     cases hr:bM P L self g ao with
     | none=>simp [hr] at hv
     | some r=>
      simp only [hr,yb] at hv;have e2:ap=(own bm ct r).2.1:=by rw [hv]
      have e3:aV=(own bm ct r).2.2:=by rw [hv]
      subst e2;subst e3;have g1:=ZF hz aF;exact g1.trans (am4 g1.lt)
  ·cases md with
   | heap=>simp [bt] at hk
   | dyn=>simp [bt] at hk
   | _=>simp at hv
  ·cases hv
 | _=>exact fV (q:=q) (by rw [bL] at hv ⊢;simp only [bg] at hv;exact hv)
def JW (hh:aO O m S w hp ct) (hg:gP hp ct ap aV):∃S',aO O m S' w ap aV/\(∀b,S b->S' b)/\(∀b,S' b->S b\/dN m hp b)/\∀base,b6 m S w hp m S' w ap base:=by
 have hd:∀id o p,aA ap id=some o->m id=some p->∃o',aA hp id=some o':=fun id o p h hm=>hg.back id o h (hh.lt id p hm)
 obtain ⟨S',g1,g2,g3⟩:=abf hh hg.le hd hg.oE hg.lt;refine ⟨S',g1,g2,g3,fun base=>⟨rfl,rfl,rfl,yA _,fun _ _ _=>rfl,g2,fun _ _=>rfl,fun b hb=>(g3 b hb).imp (fun h=>h) .inl,?_,fun _ _ _ h=>h,fun _ r h=>⟨r,h⟩⟩⟩;rintro b ⟨i,o,p,h1,h2,h3⟩;obtain ⟨o',h4⟩:=hd i o p h1 h2;exact .inl ⟨i,o',p,h4,h2,h3⟩
def aoQ {q:Op} {v:AV} (hv:cA tm hp ct q=some (v,ap,aV)):ct<=aV:=by
 cases q<;>simp only [cA,reduceCtorEq] at hv
 all_goals
  grind
def O1 {P:xa} {H:Hint} {o:y9} {rs:List (Nat×Bool×Nat)} {x:X} {xs:List X} (hq:n7 P H (.ib rs x xs) o):∃c f,o.op= .call c/\c.callee= .value f/\x=aK H f/\xs=gk H c.args.toList:=by
 rcases hq with ⟨k,hk⟩ | ⟨c,f,rs',h1,h2,h3⟩ | ⟨_,_,_,_,_,_,_,h3⟩ | ⟨_,_,_,_,_,_,_,h3⟩ | ⟨_,_,_,_,_,_,h3⟩
 ·cases ho:o.op with
  | call c=>
   obtain ⟨callee,args,ts⟩:=c;simp only [aQ,ho] at hk
   split at hk
   ·rename_i f;cases hm:H.mode k<;>simp only [hm,Op.ib.injEq,reduceCtorEq] at hk
    exact ⟨_,f,rfl,rfl,hk.2.1,hk.2.2⟩
   ·repeat' split at hk
    all_goals first
     | (cases hk;done)
     | (simp only [bad] at hk;cases hk;done)
     | (revert hk;generalize yp _ _=bb;intro hk;cases bb<;>simp [bad] at hk)
   ·simp only [bad] at hk;cases hk
  | binOp op t x' y ty=>
   cases op<;>simp only [aQ,ho,mF,nL] at hk
   case eql=>
         repeat' split at hk
         all_goals first
          | (cases hk;done)
          | (simp only [bad] at hk;cases hk;done)
          | (cases bJ:(P.stoodInHeld t||P.eqGuardType P.depth t)<;>rw [bJ] at hk<;>simp [bad] at hk)
   case neq=>
         repeat' split at hk
         all_goals first
          | (cases hk;done)
          | (simp only [bad] at hk;cases hk;done)
          | (cases bJ:(P.stoodInHeld t||P.eqGuardType P.depth t)<;>rw [bJ] at hk<;>simp [bad] at hk)
   all_goals cases hk
  | buildSlice t n parts=>
   simp only [aQ,ho] at hk
   repeat' split at hk
   all_goals first
    | (cases hk;done)
    | (simp only [bad] at hk;cases hk;done)
    | (revert hk;generalize yy _ _=bb;intro hk;cases bb<;>simp [bad] at hk)
  | makeMap t r=>
   cases r<;>simp only [aQ,ho] at hk
   ·repeat' split at hk
    all_goals first
     | (cases hk;done)
     | (simp only [bad] at hk;cases hk;done)
   ·simp only [bad] at hk;cases hk
  | next x' b=>
   cases b<;>simp only [aQ,ho] at hk
   ·simp only [bad] at hk;cases hk
   ·cases hk
  | _=>
   simp only [aQ,ho] at hk
   (repeat' split at hk)
   all_goals first
    | contradiction
    | (cases hk;done)
    | (simp only [bad] at hk;cases hk;done)
 ·simp only [Op.ib.injEq] at h3;exact ⟨c,f,h1,h2,h3.2.1,h3.2.2⟩
 ·cases h3
 ·cases h3
 ·cases h3
def al5 {P:xa} {H:Hint} {o:y9} {k:Nat} {rs:List (Nat×Bool×Nat)} {sz:Nat} {x y:X} (hk:Op.jv rs sz x y=aQ P H k o):False:=by
 cases ho:o.op with
 | call c=>
  obtain ⟨callee,args,ts⟩:=c;simp only [aQ,ho] at hk
  split at hk
  ·grind
  ·repeat' split at hk
   all_goals first
    | (cases hk;done)
    | (simp only [bad] at hk;cases hk;done)
    | (revert hk;generalize yp _ _=bb;intro hk;cases bb<;>simp [bad] at hk)
  ·simp only [bad] at hk;cases hk
 | binOp op t x' y ty=>
  cases op<;>simp only [aQ,ho,mF,nL] at hk
  case eql=>
        repeat' split at hk
        all_goals first
         | (cases hk;done)
         | (simp only [bad] at hk;cases hk;done)
         | (cases bJ:(P.stoodInHeld t||P.eqGuardType P.depth t)<;>rw [bJ] at hk<;>simp [bad] at hk)
  case neq=>
        repeat' split at hk
        all_goals first
         | (cases hk;done)
         | (simp only [bad] at hk;cases hk;done)
         | (cases bJ:(P.stoodInHeld t||P.eqGuardType P.depth t)<;>rw [bJ] at hk<;>simp [bad] at hk)
  all_goals cases hk
 | buildSlice t n parts=>
  simp only [aQ,ho] at hk
  repeat' split at hk
  all_goals first
   | (cases hk;done)
   | (simp only [bad] at hk;cases hk;done)
   | (revert hk;generalize yy _ _=bb;intro hk;cases bb<;>simp [bad] at hk)
 | makeMap t r=>
  cases r<;>simp only [aQ,ho] at hk
  ·repeat' split at hk
   all_goals first
    | (cases hk;done)
    | (simp only [bad] at hk;cases hk;done)
  ·simp only [bad] at hk;cases hk
 | next x' b=>
  cases b<;>simp only [aQ,ho] at hk
  ·simp only [bad] at hk;cases hk
  ·cases hk
 | _=>
  simp only [aQ,ho] at hk
  (repeat' split at hk)
  all_goals first
   | contradiction
   | (cases hk;done)
   | (simp only [bad] at hk;cases hk;done)
def al6 {P:xa} {H:Hint} {o:y9} {k:Nat} {rs:List (Nat×Bool×Nat)} {sz b:Nat} {x y:X} (hk:Op.jS rs sz b x y=aQ P H k o):False:=by
 cases ho:o.op with
 | call c=>
  obtain ⟨callee,args,ts⟩:=c;simp only [aQ,ho] at hk
  split at hk
  ·rename_i f;cases hm:H.mode k<;>simp only [hm,reduceCtorEq] at hk
  ·repeat' split at hk
   all_goals first
    | (cases hk;done)
    | (simp only [bad] at hk;cases hk;done)
    | (revert hk;generalize yp _ _=bb;intro hk;cases bb<;>simp [bad] at hk)
  ·simp only [bad] at hk;cases hk
 | binOp op t x' y ty=>
  cases op<;>simp only [aQ,ho,mF,nL] at hk
  case eql=>
        repeat' split at hk
        all_goals first
         | (cases hk;done)
         | (simp only [bad] at hk;cases hk;done)
         | (cases bJ:(P.stoodInHeld t||P.eqGuardType P.depth t)<;>rw [bJ] at hk<;>simp [bad] at hk)
  case neq=>
        repeat' split at hk
        all_goals first
         | (cases hk;done)
         | (simp only [bad] at hk;cases hk;done)
         | (cases bJ:(P.stoodInHeld t||P.eqGuardType P.depth t)<;>rw [bJ] at hk<;>simp [bad] at hk)
  all_goals cases hk
 | buildSlice t n parts=>
  simp only [aQ,ho] at hk
  repeat' split at hk
  all_goals first
   | (cases hk;done)
   | (simp only [bad] at hk;cases hk;done)
   | (revert hk;generalize yy _ _=bb;intro hk;cases bb<;>simp [bad] at hk)
 | makeMap t r=>
  cases r<;>simp only [aQ,ho] at hk
  ·repeat' split at hk
   all_goals first
    | (cases hk;done)
    | (simp only [bad] at hk;cases hk;done)
  ·simp only [bad] at hk;cases hk
 | next x' b=>
  cases b<;>simp only [aQ,ho] at hk
  ·simp only [bad] at hk;cases hk
  ·cases hk
 | _=>
  simp only [aQ,ho] at hk
  (repeat' split at hk)
  all_goals first
   | contradiction
   | (cases hk;done)
   | (simp only [bad] at hk;cases hk;done)
def axl {P:xa} {H:Hint} {o:y9} {sz:Nat} {x y:X} (hq:n7 P H (.st sz x y) o):∃t x' y',o.op= .store t x' y'/\cu P t=some sz/\x=aK H x'/\y=aK H y':=by
 obtain ⟨k,hk⟩:∃k,Op.st sz x y=aQ P H k o:=by
  rcases hq with h | ⟨_,_,_,_,_,h⟩ | ⟨_,_,_,_,_,_,_,h⟩ | ⟨_,_,_,_,_,_,_,h⟩ | ⟨_,_,_,_,_,_,h⟩
  ·exact h
  ·cases h
  ·cases h
  ·cases h
  ·cases h
 cases ho:o.op with
 | call c=>
  obtain ⟨callee,args,ts⟩:=c;simp only [aQ,ho] at hk
  split at hk
  ·rename_i f;cases hm:H.mode k<;>simp only [hm,reduceCtorEq] at hk
  ·repeat' split at hk
   all_goals first
    | (cases hk;done)
    | (simp only [bad] at hk;cases hk;done)
    | (revert hk;generalize yp _ _=bb;intro hk;cases bb<;>simp [bad] at hk)
  ·simp only [bad] at hk;cases hk
 | binOp op t x' y ty=>
  cases op<;>simp only [aQ,ho,mF,nL] at hk
  case eql=>
        repeat' split at hk
        all_goals first
         | (cases hk;done)
         | (simp only [bad] at hk;cases hk;done)
         | (cases bJ:(P.stoodInHeld t||P.eqGuardType P.depth t)<;>rw [bJ] at hk<;>simp [bad] at hk)
  case neq=>
        repeat' split at hk
        all_goals first
         | (cases hk;done)
         | (simp only [bad] at hk;cases hk;done)
         | (cases bJ:(P.stoodInHeld t||P.eqGuardType P.depth t)<;>rw [bJ] at hk<;>simp [bad] at hk)
  all_goals cases hk
 | buildSlice t n parts=>
  simp only [aQ,ho] at hk
  repeat' split at hk
  all_goals first
   | (cases hk;done)
   | (simp only [bad] at hk;cases hk;done)
   | (revert hk;generalize yy _ _=bb;intro hk;cases bb<;>simp [bad] at hk)
 | makeMap t r=>
  cases r<;>simp only [aQ,ho] at hk
  ·repeat' split at hk
   all_goals first
    | (cases hk;done)
    | (simp only [bad] at hk;cases hk;done)
  ·simp only [bad] at hk;cases hk
 | next x' b=>
  cases b<;>simp only [aQ,ho] at hk
  ·simp only [bad] at hk;cases hk
  ·cases hk
 | store t x' y'=>
  simp only [aQ,ho] at hk
  split at hk
  ·rename_i s hs;simp only [Op.st.injEq] at hk;obtain ⟨rfl,rfl,rfl⟩:=hk;exact ⟨t,x',y',rfl,hs,rfl,rfl⟩
  ·simp only [bad] at hk;cases hk
 | _=>
  simp only [aQ,ho] at hk
  (repeat' split at hk)
  all_goals first
   | contradiction
   | (cases hk;done)
   | (simp only [bad] at hk;cases hk;done)
def aey {P:xa} {H:Hint} {o:y9} {rs:List (Nat×Bool×Nat)} {sz:Nat} {x y:X} (hq:n7 P H (.jv rs sz x y) o):∃t x' y',o.op= .store t x' y'/\cu P t=some sz/\x=aK H x'/\y=aK H y':=by
 rcases hq with ⟨k,hk⟩ | ⟨_,_,_,_,_,h3⟩ | ⟨t,x',y',Ca,rs',h1,h2,h3⟩ | ⟨_,_,_,_,_,_,_,h3⟩ | ⟨_,_,_,_,_,_,h3⟩
 ·exact (al5 hk).elim
 ·cases h3
 ·simp only [Op.jv.injEq] at h3;obtain ⟨_,rfl,rfl,rfl⟩:=h3;exact ⟨t,x',y',h1,h2,rfl,rfl⟩
 ·cases h3
 ·cases h3
def aez {P:xa} {H:Hint} {o:y9} {rs:List (Nat×Bool×Nat)} {sz b:Nat} {x y:X} (hq:n7 P H (.jS rs sz b x y) o):∃k,Op.aS sz b x y=aQ P H k o:=by
 rcases hq with ⟨k,hk⟩ | ⟨_,_,_,_,_,h3⟩ | ⟨_,_,_,_,_,_,_,h3⟩ | ⟨k,rs',Ca,b',x',y',h1,h3⟩ | ⟨_,_,_,_,_,_,h3⟩
 ·exact (al6 hk).elim
 ·cases h3
 ·cases h3
 ·simp only [Op.jS.injEq] at h3;obtain ⟨_,rfl,rfl,rfl,rfl⟩:=h3;exact ⟨k,h1⟩
 ·cases h3
def aeA {P:xa} {H:Hint} {o:y9} {sz b:Nat} {x y:X} (hq:n7 P H (.aS sz b x y) o):∃k,Op.aS sz b x y=aQ P H k o:=by
 rcases hq with h | ⟨_,_,_,_,_,h3⟩ | ⟨_,_,_,_,_,_,_,h3⟩ | ⟨_,_,_,_,_,_,_,h3⟩ | ⟨_,_,_,_,_,_,h3⟩
 ·exact h
 ·cases h3
 ·cases h3
 ·cases h3
 ·cases h3
def al7 {P:xa} {H:Hint} {q:Op} {o:y9} (hq:n7 P H q o):n7 P H (ie q) o:=by
 cases h:q with
 | ib rs f xs=>
  subst h;obtain ⟨c,f',g1,g2,g3,g4⟩:=O1 hq;exact .inr (.inl ⟨c,f',[],g1,g2,by rw [g3,g4];rfl⟩)
 | jv rs sz x y=>
  subst h;obtain ⟨t,x',y',g1,g2,g3,g4⟩:=aey hq;refine .inl ⟨0,?_⟩;simp only [ie,aQ,g1,g2,g3,g4]
 | jS rs sz b x y=>
  subst h;exact .inl (aez hq)
 | _=>subst h;exact hq
def aap (hC:mC O self) (hH:eT O H) {o:y9} {q:Op} {v:AV} (hq:n7 O.P H q o) (hd:∀c,o.op≠.defer c) (hv:bg O.prog O.az self tm hp ct q=some (v,ap,aV))
  (ht:bW O m S w tm a.tmps) (hh:aO O m S w hp ct)
  (hn:∀u m' S' w',aO O m' S' w' ap aV->ct<=aV->ah O.af m' S' w' v u->b6 m S w hp m' S' w' ap ct->next (a.put o.dst u) w'):o.wpIn (WF ro) 0 O.P a w next Q:=by
 have quiet:bt q<=1->o.wpIn (WF ro) 0 O.P a w next Q:=by
  intro hk;have hg:=Yv hk hv hh.aF;obtain ⟨S1,g1,g2,g3,g4⟩:=JW hh hg;refine quiet_step hC hH hk hq hd hv cL.refl (yA _) hh.aF (fun id h1 h2=>?_) (zc (fun _ _ h=>h) g2 (fun _ _=>rfl) ht) g1 (fun u m' S' w' k1 k2 k3 k4 k5=>hn u m' S' w' k1 hg.oE k4 ((g4 ct).trans (k5.qv hg.oE)))
  cases hm:m id with
  | none=>rfl
  | some p=>have:=hh.lt id p hm;omega
 have PN:∀{q':Op},(∃k,q'=aQ O.P H k o)->cA tm hp ct q'=some (v,ap,aV)->o.wpIn (WF ro) 0 O.P a w next Q:=by
  intro q' iw hw;obtain ⟨k,rfl⟩:=iw;obtain ⟨n,u,w',m',S',h1,h2,h3,h4,h5,h6⟩:=aqR hH ht hh hw;exact Gi hd h1 h2 (hn u m' S' w' h3 (aoQ hw) h4 h6)
 have write:cA tm hp ct q=some (v,ap,aV)->o.wpIn (WF ro) 0 O.P a w next Q:=by
  intro hw;refine PN ?_ hw;rcases hq with h | ⟨c,f,rs,_,_,rfl⟩ | ⟨_,_,_,_,_,_,_,rfl⟩ | ⟨_,_,_,_,_,_,_,rfl⟩ | ⟨_,_,_,_,_,_,rfl⟩
  ·exact h
  ·simp [cA] at hw
  ·simp [cA] at hw
  ·simp [cA] at hw
  ·simp [cA] at hw
 have heap:∀{c:tJ} {f:xq} {g:Nat} {first cap:List AV},o.op= .call c->c.callee= .value f->ay tm (aK H f)= .fn (.f g) first cap->
   ia O.prog O.az self hp ct g (first++(da tm (gk H c.args.toList)++cap))=some (v,ap,aV)->o.wpIn (WF ro) 0 O.P a w next Q:=by
  intro c f g first cap ho gZ hx he;obtain ⟨fi,ca,h1,h2⟩:=JV hH ht (args:=c.args) hx;refine Js ho gZ h1 (hC.heap _ _ _ _ _ _ _ he m S w _ hh h2) ?_;rintro e w' ⟨u,m',S',rfl,k1,k2,k3,k4⟩;exact ⟨u,rfl,hn u m' S' w' k1 k2 k3 k4⟩
 have round:∀{c:tJ} {f:xq} {l:Nat} {x y:List AV},o.op= .call c->c.callee= .value f->ay tm (aK H f)= .fn (.y l) x y->
   mB self hp ct l (da tm (gk H c.args.toList))=some (v,ap,aV)->o.wpIn (WF ro) 0 O.P a w next Q:=by
  intro c f l x y ho gZ hx he;have rf:=cf hH ht f;rw [hx] at rf;simp only [ah] at rf;obtain ⟨p,hm,hf⟩:=rf;have fC:=Bf hH ht c.args.toList;obtain ⟨g,tmps,cy,body,h1,h2⟩:=hC.round _ _ _ _ _ _ _ he m S w (c.args.map a.eval) p hh hm (by simpa using fC);refine aoL ho gZ hf h1 h2 ?_;rintro e w' ⟨u,m',S',rfl,k1,k2,k3,k4⟩;exact ⟨u,rfl,hn u m' S' w' k1 k2 k3 k4⟩
 have dyn:∀{c:tJ} {f:xq},o.op= .call c->c.callee= .value f->eD O.prog O.az self hp ct .dyn (ay tm (aK H f)) (da tm (gk H c.args.toList))=some (v,ap,aV)->o.wpIn (WF ro) 0 O.P a w next Q:=by
  intro c f ho gZ he;unfold eD at he
  split at he
  ·rename_i g first cap hx
   (try simp only at he)
   cases hp0:aH (first++(da tm (gk H c.args.toList)++cap)) with
   | true=>
    rw [hp0] at he;simp only [yz] at he
    cases hr:bM O.prog O.az self g (first++(da tm (gk H c.args.toList)++cap)) with
    | none=>simp [hr] at he
    | some r=>
     simp only [hr,yb,yk] at he;obtain ⟨rfl,rfl,rfl⟩:=he;obtain ⟨fi,ca,h1,h2⟩:=JV hH ht (args:=c.args) hx;refine Js ho gZ h1 (hC.pure g _ r hr w S _ (Ps hh) hh.slt (rA (fun _ h=>h) (fun _ _=>rfl) _ _ hp0 h2) hp0) ?_;rintro e w' ⟨u,S',rfl,hw,g1,g2,g3,g4⟩;obtain ⟨S2,k1,k2,k3⟩:=ZA g4 m;have hS:∀b,S b->S2 b:=fun b hb=>k1 b (g1 b hb)
     have Iy:∀b,S2 b->S b\/w.heap.size<=b:=fun b hb=>(k2 b hb).elim (g2 b) (fun h=> .inr h.1)
     have hl:∀b,S2 b->b<w'.heap.size:=fun b hb=>(k2 b hb).elim (g3 b) (fun h=>h.2)
     exact ⟨u,rfl,hn u m S2 w' (A2 hh hw hS Iy hl) (yA _) k3 (zg hh hw hS Iy)⟩
   | false=>
    rw [hp0] at he;simp only [yX] at he;exact heap ho gZ hx he
  ·rename_i l x y hx;exact round ho gZ hx he
  ·cases he
 cases bL:q with
 | ib rs x xs=>
  subst bL;simp only [bg] at hv;have key:=O1 hq;obtain ⟨c,f,ho,gZ,rfl,rfl⟩:=key
  cases hc:eD O.prog O.az self hp ct .dyn (ay tm (aK H f)) (da tm (gk H c.args.toList)) with
  | none=>simp [hc] at hv
  | some r=>
   obtain ⟨v1,bm,nk⟩:=r;simp only [hc] at hv
   cases hs:nK tm hp bm rs with
   | false=>rw [hs] at hv;cases hv
   | true=>
    rw [hs] at hv;simp only [yz,yb,yk] at hv;obtain ⟨rfl,rfl,rfl⟩:=hv;exact dyn ho gZ hc
 | call md x xs=>
  subst bL;have iw:∃k,Op.call md x xs=aQ O.P H k o:=by
   rcases hq with h | ⟨c,f,rs,_,_,h⟩ | ⟨_,_,_,_,_,_,_,h⟩ | ⟨_,_,_,_,_,_,_,h⟩ | ⟨_,_,_,_,_,_,h⟩
   ·exact h
   ·cases h
   ·cases h
   ·cases h
   ·cases h
  obtain ⟨k,hk⟩:=iw
  cases md with
  | pure=>exact quiet (by simp [bt])
  | own=>exact quiet (by simp [bt])
  | heap=>
   simp only [bg] at hv;obtain ⟨c,f,ho,gZ,rfl,rfl⟩:=Kh hk.symm (by rintro rfl;simp [ay,eD] at hv);unfold eD at hv
   split at hv
   ·rename_i g first cap hx;exact heap ho gZ hx hv
   ·rename_i l x y hx;exact round ho gZ hx hv
   ·cases hv
  | dyn=>
   simp only [bg] at hv;obtain ⟨c,f,ho,gZ,rfl,rfl⟩:=Kh hk.symm (by rintro rfl;simp [ay,eD] at hv);exact dyn ho gZ hv
 | jv rs s x y=>
  subst bL;obtain ⟨t,x',y',g1,g2,g3,g4⟩:=aey hq;simp only [bg] at hv
  split at hv
  ·rename_i id off hx
   cases hf:mE tm id rs with
   | false=>rw [hf] at hv;cases hv
   | true=>
    rw [hf] at hv;simp only [yz] at hv
    exact PN (q':= .st s x y) ⟨0,by simp only [aQ,g1,g2,g3,g4]⟩ hv
  ·cases hv
 | jS rs s b x y=>
  subst bL;simp only [bg] at hv
  cases hc:cA tm hp ct (.aS s b x y) with
  | none=>simp [hc] at hv
  | some r=>
   obtain ⟨v1,bm,nk⟩:=r;simp only [hc] at hv
   cases hs:nK tm hp bm rs with
   | false=>rw [hs] at hv;cases hv
   | true=>
    rw [hs] at hv;simp only [yz,yb,yk] at hv;obtain ⟨rfl,rfl,rfl⟩:=hv
    exact PN (q':= .aS s b x y) (aez hq) hc
 | st s x y=>subst bL;exact write (by simpa only [bg] using hv)
 | ox kk x y z=>subst bL;exact write (by simpa only [bg] using hv)
 | oA x=>subst bL;exact write (by simpa only [bg] using hv)
 | aS s b x y=>subst bL;exact write (by simpa only [bg] using hv)
 | oC s x y=>subst bL;exact write (by simpa only [bg] using hv)
 | ow k x lo hi=>subst bL;exact quiet (by cases k<;>simp [bt])
 | len k x=>subst bL;exact quiet (by rcases k with _ | _ | k<;>simp [bt])
 | _=>subst bL;exact quiet (by simp [bt])
end
end
section
open Go
def nX (tm:Env) (g:Option (Nat×Bool)):Option Bool:=
 match g with
 | none=>some true
 | some (t,b)=>match aj tm t with | .bool c=>some (c==b) | .aa []=>some false | _=>none
def eH (P:aM) (L:Lib) (self:cx) (tm:Env) (hp:Hp) (ct:Nat) (r:aX):fT:=
 match nX tm r.guard with
 | some true=>bg P L self tm hp ct r.op
 | some false=>some (.aa [],hp,ct)
 | none=>none
def YU {P:aM} {L:Lib} {self:cx} {r:aX} {rs:List aX} {s:St}:
  dh P L self (r::rs) s=match eH P L self s.tm s.hp s.ct r with | some (v,hp,ct)=>dh P L self rs {s with tm:=put r.dst v s.tm,hp:=hp,ct:=ct} | none=>none:=by
 obtain ⟨d,g,o⟩:=r;simp only [dh,eH]
 cases g with
 | none=>rfl
 | some q=>
  obtain ⟨t,b⟩:=q;simp only [nX];generalize aj s.tm t=x
  cases x with
  | bool c=>
   simp only;cases (c==b)<;>rfl
  | aa vs=>cases vs<;>rfl
  | _=>rfl
def abq (ops:Array y9) (g:Option (Nat×Bool)) (g':Option (Nat×Bool)):Prop:=
 (g=none/\g'=none)\/∃t b j,g=some (t,b)/\g'=some (j,b)/\(ops[j]?).bind (·.dst)=some t
structure KO (P:xa) (H:Hint) (ops:Array y9) (r:aX) (o:y9):Prop where
 op:n7 P H r.op o
 dst:r.dst=o.dst
 ok:GY H o.dst=true
 guard:abq ops r.guard o.guard
def fH (P:xa) (H:Hint) (ops:Array y9):List aX->List y9->Prop
 | [],[]=>True
 | r::rs,o::l=>(KO P H ops r o\/(r.guard=none/\r.op=bad))/\fH P H ops rs l
 | _,_=>False
def YV {P:xa} {H:Hint} {ops:Array y9}:∀(l:List y9) (k:Nat),fH P H ops (A6 P H ops l k).1 l
 | [],k=>by simp [A6,fH]
 | o::l,k=>by
  have ih:=YV (P:=P) (H:=H) (ops:=ops) l (k+(bif PJ o then 1 else 0));simp only [A6];generalize hq:A6 P H ops l (k+(bif PJ o then 1 else 0))=q at ih;obtain ⟨l',k'⟩:=q;simp only;have QP:fH P H ops (⟨o.dst,none,bad⟩::l') (o::l):=⟨.inr ⟨rfl,rfl⟩,ih⟩
  cases hg:o.guard with
  | none=>
   simp only
   cases hd:GY H o.dst with
   | false=>exact QP
   | true=>exact ⟨.inl ⟨.inl ⟨k,rfl⟩,rfl,hd,.inl ⟨rfl,hg⟩⟩,ih⟩
  | some p=>
   obtain ⟨j,b⟩:=p;simp only
   cases ht:(ops[j]?).bind (·.dst) with
   | none=>exact QP
   | some t=>
    simp only
    cases hd:GY H o.dst with
    | false=>exact QP
    | true=>exact ⟨.inl ⟨.inl ⟨k,rfl⟩,rfl,hd,.inr ⟨t,b,j,rfl,hg,ht⟩⟩,ih⟩
section
variable {O:bh} {H:Hint} {m:Mp} {S:Nat->Prop} {w:yi} {tm:Env} {a:Act} {hp ap:Hp} {ct aV:Nat} {self:cx} {ro:Option Nat} {Q:vP->Act->yi->Prop} {ops:Array y9}
def O2 {d:Option Nat} {v:AV} {tm:Env} {t:Nat}:aj (put d v tm) t=if d=some t then v else aj tm t:=by
 cases d with
 | none=>simp [put]
 | some i=>
  simp only [put,aj];by_cases h:i=t
  ·subst h;simp
  ·have:yp i t=false:=by
    cases hq:yp i t with
    | false=>rfl
    | true=>exact absurd (yj hq) h
   simp [this,h]
def JX (a:Act) (d:Option Nat) (u:yg):(a.put d u).tmps.size=a.tmps.size:=by
 cases d with
 | none=>rfl
 | some i=>simp [Act.put]
def Oq (a:Act) (d:Option Nat) (u:yg):(a.put d u).defers=a.defers:=by
 cases d with
 | none=>rfl
 | some i=>rfl
def O3 {a:Act} {d:Option Nat} {u:yg} {t:Nat} (hd:∀i,d=some i->i<a.tmps.size):(a.put d u).tmps.getD t undef=if d=some t then u else a.tmps.getD t undef:=by
 cases d with
 | none=>simp [Act.put]
 | some i=>
  have hi:=hd i rfl;by_cases h:i=t
  ·subst h;simp [Act.put,hi]
  ·simp only [Act.put,yb,h,xk];simp [Array.getElem?_setIfInBounds_ne h]
def aaq {n:Nat} {d:Option Nat} (h:GY H d=true) (hn:H.n<=n):∀i,d=some i->i<n:=by
 rintro i rfl
 have:=rK.1 h
 omega
def O4 {d:Option Nat} {v:AV} {u:yg} (ht:bW O m S w tm a.tmps) (hd:∀i,d=some i->i<a.tmps.size) (hv:ah O.af m S w v u):bW O m S w (put d v tm) (a.put d u).tmps:=fun t=>by
 rw [O2,O3 hd]
 split
 ·exact hv
 ·exact ht t
def ZG {o:y9} {g:Option (Nat×Bool)} {b:Bool} (hg:abq ops g o.guard) (ht:∀t,t∈Qa g->ah O.af m S w (aj tm t) (a.tmps.getD t undef)) (hw:nX tm g=some b):Region.wanted o (yielded ops a.tmps)=b:=by
 rcases hg with ⟨rfl,h2⟩ | ⟨t,c,j,rfl,h2,h3⟩
 ·simp only [nX,yb] at hw;subst hw;simp [Region.wanted,h2]
 ·simp only [nX] at hw;have h4:=ht t (by simp [Qa]);simp only [Region.wanted,h2]
  split at hw
  ·rename_i d hd;rw [hd] at h4;simp only [ah] at h4;simp only [yb] at hw
   have:yielded ops a.tmps j=some d:=by
    simp only [yielded,h3,wb];have h5:a.tmps[t]? =some (.bool d):=by
     simp only [wG] at h4
     cases hq:a.tmps[t]? with
     | none=>rw [hq] at h4;simp [undef] at h4
     | some x=>rw [hq] at h4;simp at h4;rw [h4]
    rw [h5]
   rw [this,<-hw];cases d<;>cases c<;>rfl
  ·rename_i hd;rw [hd] at h4;simp only [ah,av] at h4;obtain ⟨xs,h4,h5⟩:=h4;simp only [yb] at hw;subst hw
   have:yielded ops a.tmps j=none:=by
    simp only [yielded,h3,wb];simp only [wG] at h4
    cases hq:a.tmps[t]? with
    | none=>rfl
    | some x=>rw [hq] at h4;simp at h4;rw [h4]
   rw [this];rfl
  ·cases hw
def Yw {o:y9} {q:Op} (hq:n7 O.P H q o) {r:AV×Hp×Nat} (hv:bg O.prog O.az self tm hp ct q=some r):∀c,o.op≠.defer c:=by
 rcases hq with ⟨k,rfl⟩ | ⟨c,f,rs,h1,_,_⟩ | ⟨_,_,_,_,_,h1,_,_⟩ | ⟨k,rs,sz,b,x,y,h1,rfl⟩ | ⟨k,sz,b,x,y,h1,rfl⟩
 ·exact al1 hv
 ·intro c' h;rw [h1] at h;cases h
 ·intro c' h;rw [h1] at h;cases h
 ·intro c' h;simp only [aQ,h] at h1;simp [bad] at h1
 ·intro c' h;simp only [aQ,h] at h1;simp [bad] at h1
def aqT (hC:mC O self) (hH:eT O H) {i:Nat} {r:aX} {o:y9} {v:AV} (hi:ops[i]? =some o) (hr:KO O.P H ops r o\/(r.guard=none/\r.op=bad)) (hv:eH O.prog O.az self tm hp ct r=some (v,ap,aV))
  (ht:bW O m S w tm a.tmps) (hh:aO O m S w hp ct) (hn:H.n<=a.tmps.size) {K:Act->yi->Prop}
  (hK:∀u m' S' w',aO O m' S' w' ap aV->ct<=aV->bW O m' S' w' (put r.dst v tm) (a.put o.dst u).tmps->b6 m S w hp m' S' w' ap ct->K (a.put o.dst u) w'):wpOpIn (WF ro) 0 O.P ops Q i K a w:=by
 rcases hr with hr | ⟨h1,h2⟩
 case inr=>
  simp only [eH,h1,nX,h2,bad,bg,eD,ay] at hv;cases hv
 unfold wpOpIn;simp only [hi];unfold eH at hv
 cases hw:nX tm r.guard with
 | none=>simp [hw] at hv
 | some b=>
  have WY:=ZG hr.guard (fun t _=>ht t) hw;have hd:=aaq hr.ok hn;rw [WY]
  cases b with
  | true=>
   simp only [hw] at hv;simp only [xR];refine aap hC hH hr.op (Yw hr.op hv) hv ht hh (fun u m' S' w' k1 k2 k3 k4=>hK u m' S' w' k1 k2 ?_ k4);rw [hr.dst];exact O4 (zc (fun id p h=>k4.old id p (hh.lt id p h) h) k4.sub (fun b hb=>k4.still b hb) ht) hd k3
  | false=>
   simp only [hw,yb,yk] at hv;obtain ⟨rfl,rfl,rfl⟩:=hv;simp only [yB,xk];refine ⟨fun _ _=>trivial,hK undef m S w hh (yA _) ?_ b6.refl⟩;rw [hr.dst];exact O4 ht hd (by simp [ah,av,undef])
def abr (hC:mC O self) (hH:eT O H):∀(l:List y9) (rs:List aX) (i:Nat) (s s':St) (a:Act) (m:Mp) (S:Nat->Prop) (w:yi),(∀j,l[j]? =ops[i+j]?)->fH O.P H ops rs l->
  dh O.prog O.az self rs s=some s'->bW O m S w s.tm a.tmps->aO O m S w s.hp s.ct->H.n<=a.tmps.size->
  (∀a' m' S' w',aO O m' S' w' s'.hp s'.ct->s.ct<=s'.ct->bW O m' S' w' s'.tm a'.tmps->b6 m S w s.hp m' S' w' s'.hp s.ct->a'.tmps.size=a.tmps.size->a'.defers=a.defers->s'.base=s.base->Q .normal a' w')->
  wpOpsIn (WF ro) 0 O.P ops Q (List.range' i l.length) a w
 | [],rs,i,s,s',a,m,S,w,hl,hr,hv,ht,hh,hn,hQ=>by
  cases rs with
  | cons _ _=>simp [fH] at hr
  | nil=>
   simp only [dh,yb] at hv;subst hv;simp only [yV,List.range'_zero,wpOpsIn];exact hQ a m S w hh (yA _) ht b6.refl rfl rfl rfl
 | o::l,rs,i,s,s',a,m,S,w,hl,hr,hv,ht,hh,hn,hQ=>by
  cases rs with
  | nil=>simp [fH] at hr
  | cons r rs=>
   simp only [fH] at hr;rw [YU] at hv
   cases h1:eH O.prog O.az self s.tm s.hp s.ct r with
   | none=>simp [h1] at hv
   | some q=>
    obtain ⟨v,bm,nk⟩:=q;simp only [h1] at hv;have hi:ops[i]? =some o:=by have:=hl 0;simpa using this.symm
    rw [yM,List.range'_succ,wpOpsIn_cons];refine aqT hC hH hi hr.1 h1 ht hh hn (fun u m1 S1 w1 k1 k2 k3 k4=>?_)
    refine abr hC hH l rs (i+1) {s with tm:=put r.dst v s.tm,hp:=bm,ct:=nk} s' _ m1 S1 w1 (fun j=>?_) hr.2 hv k3 k1 (by rw [JX];exact hn) (fun a' m' S' w' g1 g2 g3 g4 g5 g6 g7=>?_)
    ·have:=hl (j+1)
     rw [List.getElem?_cons_succ] at this;rw [this];congr 1;omega
    ·exact hQ a' m' S' w' g1 (xe k2 g2) g3 (k4.trans (g4.qv k2)) (by rw [g5,JX]) (by rw [g6,Oq]) g7
end
end
section
open Go
section
variable {ops:Array y9}
def Oe {acc:List Nat} {i:Nat}:∀{es:List Edge},tg (zy acc es) i=true->∃e,e∈es/\Region.binds .any e=true/\(i=e.on\/tg (acc.getD e.on 0) i=true)
 | [],h=>by simp [zy] at h
 | e::r,h=>by
  simp only [zy] at h
  cases hb:Region.binds .any e with
  | false=>
   rw [hb] at h;obtain ⟨e',h1,h2⟩:=Oe h
   grind
  | true=>
   rw [hb] at h;simp only [yz,Nat.testBit_or,tS] at h;rcases h with (h | h) | h
   ·grind
   ·grind
   ·obtain ⟨e',h1,h2⟩:=Oe h
    grind
def ZH {l:List y9} {acc:List Nat} {j:Nat} (hj:j<acc.length):(jJ acc l)[j]? =acc[j]? :=by
 induction l generalizing acc with
 | nil=>rfl
 | cons o l ih=>
  simp only [jJ]
  grind
def al8 {l:List y9} {acc:List Nat} {j:Nat} {o:y9} (h:l[j]? =some o):∃BI:List Nat,(jJ acc l)[acc.length+j]? =some (zy BI o.after.toList)/\BI.length=acc.length+j/\∀k,k<BI.length->BI[k]? =(jJ acc l)[k]? :=by
 induction l generalizing acc j with
 | nil=>simp at h
 | cons x l ih=>
  cases j with
  | zero=>
   simp only [vG,yb] at h;subst h;refine ⟨acc,?_,by simp,fun k hk=>?_⟩
   ·simp only [jJ];rw [ZH (by simp)]
    simp
   ·simp only [jJ];rw [ZH (by rw [yY];omega),List.getElem?_append_left hk]
  | succ j=>
   obtain ⟨BI,h1,h2,h3⟩:=ih (acc:=acc++[zy acc x.after.toList]) h;simp only [yY,yM,yV] at h1 h2;refine ⟨BI,?_,by omega,fun k hk=>?_⟩
   ·simp only [jJ]
    grind
   ·simp only [jJ];exact h3 k hk
def Ord (ops:Array y9) (i j:Nat):Prop:=tg ((jJ [] ops.toList).getD j 0) i=true
def PO (ops:Array y9) (D:Nat->Prop):Prop:=∀j o,ops[j]? =some o->D j->∀e,e∈o.after->Region.binds .any e=true->D e.on
def ZI {D:Nat->Prop} (hc:PO ops D):∀(j:Nat) (o:y9),ops[j]? =some o->(∀e,e∈o.after->Region.binds .any e=true->D e.on)->∀i,Ord ops i j->D i:=by
 intro j
 induction j using vm with
 | _ j ih=>
  intro o ho hr i hi;have jb:ops.toList[j]? =some o:=by simp_all
  obtain ⟨BI,h1,h2,h3⟩:=al8 (acc:=[]) jb;simp only [yV,yh] at h1 h2;unfold Ord at hi;rw [xF,h1,uN] at hi;obtain ⟨e,g1,g2,g3⟩:=Oe hi;have he:D e.on:=hr e (by simpa using g1) g2;rcases g3 with rfl | g3
  ·grind
  ·rcases vh e.on j with aF | iz
   ·have h4:=h3 e.on (by omega);have hol:e.on<ops.size:=by
     grind
    have WT:ops[e.on]? =some ops[e.on]:=by simp_all
    refine ih e.on aF _ WT (fun e' he' bJ=>hc e.on _ WT he e' he' bJ) i ?_;unfold Ord
    grind
   ·grind
def aoR {D:Nat->Prop} (hc:PO ops D) {i j:Nat} {o:y9} (ho:ops[j]? =some o) (hj:D j) (hi:Ord ops i j):D i:=
 ZI hc j o ho (fun e he hb=>hc j o ho hj e he hb) i hi
def Yg:∀{l:List y9} {k j:Nat} {o:y9},zb l k=true->l[j]? =some o->∀e,e∈o.after->Region.binds .any e=true->e.on<k+j
 | [],k,j,o,_,h=>by simp at h
 | x::l,k,j,o,hb,h=>by
  simp only [zb,yf] at hb
  cases j with
  | zero=>
   simp only [vG,yb] at h;subst h;intro e he pH
   have:=List.all_eq_true.1 hb.1 e (by simpa using he)
   simp_all
  | succ j=>
   intro e he pH
   have:=Yg hb.2 h e he pH
   omega
end
def Lm (a b:aX) (r:List aX):Prop:=JQ a b=false/\(FI a b=false\/F2 a b r=true)
def Yi {m:Nat} {b:aX}:∀{l:List aX} {k i:Nat} {a:aX},JR m b l k=true->l[i]? =some a->tg m (k+i)=true\/Lm a b (l.drop (i+1))
 | [],k,i,a,_,h=>by simp at h
 | x::l,k,i,a,hp,h=>by
  simp only [JR,yf] at hp
  cases i with
  | zero=>
   simp only [vG,yb] at h;subst h;have h1:=hp.1;simp only [tS,uS,yat,Bool.and_eq_false_iff,Bool.not_eq_false'] at h1;rcases h1 with h1 | ⟨h1,h2⟩
   ·grind
   ·exact .inr ⟨h1,by simpa using h2⟩
  | succ i=>
   rcases Yi hp.2 h with h1 | h1
   ·grind
   ·grind
def Yl:∀{l done:List aX} {ms:List Nat} {i j:Nat} {a b:aX},rI done l ms=true->(done++l)[i]? =some a->l[j]? =some b->i<done.length+j->
  ∃m,ms[j]? =some m/\(tg m i=true\/Lm a b (((done++l).take (done.length+j)).drop (i+1)))
 | [],done,ms,i,j,a,b,_,_,h,_=>by simp at h
 | x::l,done,[],i,j,a,b,hp,_,h,_=>by simp [rI] at hp
 | x::l,done,m::ms,i,j,a,b,hp,ha,h,WZ=>by
  simp only [rI,yf] at hp
  cases j with
  | zero=>
   have Cb:done[i]? =some a:=by grind
   have:=Yi hp.1 Cb
   grind
  | succ j=>
   have e:done++x::l=(done++[x])++l:=by simp
   obtain ⟨m',h1,h2⟩:=Yl (i:=i) (a:=a) hp.2 (by rw [<-e];exact ha) h (by simp;omega)
   grind
def Jg {a b:aX} (h:JQ a b=false):(∀d,a.dst=some d->d∉Be b/\b.dst≠some d)/\(∀d,b.dst=some d->d∉Be a):=by
 have mem:∀{i:Nat} {l:List Nat},kI i l=false->i∉l:=by
  intro i l
  induction l with
  | nil=>intro _ h;cases h
  | cons j r ih=>
   intro h hm;simp only [kI] at h
   cases hb:yp j i with
   | true=>rw [hb] at h;cases h
   | false=>
    simp_all
 simp only [JQ,yat] at h;obtain ⟨⟨h1,h2⟩,h3⟩:=h;refine ⟨fun d hd=>⟨mem (by simpa [hd,Dc] using h1),fun hb=>?_⟩,fun d hd=>mem (by simpa [hd,Dc] using h2)⟩;rw [hd,hb] at h3;simp [afJ] at h3
def YW {t:Nat}:∀{l:List aX},Bw t l=true->∀r,r∈l->r.dst≠some t
 | [],_,r,h=>by cases h
 | x::l,h,r,hr=>by
  simp only [Bw,yf,uS] at h;rcases wZ.1 hr with rfl | hr
  ·intro hd;rw [hd] at h;simp [Dc,kI] at h
  ·exact YW h.2 r hr
def JF {sz t:Nat} {ag:Bool}:∀{l:List (Nat×Bool×Nat)},BF sz ag t l=true->(sz,ag,t)∈l
 | [],h=>by simp [BF] at h
 | (s,g,u)::r,h=>by
  simp only [BF,tS,yf] at h;rcases h with ⟨h1,h2,h3⟩ | h
  ·simp_all
  ·exact vz _ (JF h)
def O5:∀{a b:List Nat},cM a b=true->a=b
 | [],[],_=>rfl
 | [],_::_,h=>by simp [cM] at h
 | _::_,[],h=>by simp [cM] at h
 | x::a,y::b,h=>by
  simp only [cM,yf] at h;rw [yj h.1,O5 h.2]
def am5 {a b:AV} (h:QH a b=true):a=b:=by
 unfold QH at h
 split at h
 ·grind
 ·grind
 ·rw [O5 h]
 ·rfl
 ·rfl
 ·simp_all
 ·simp_all
 ·simp_all
 ·cases h
def N8 {tm:Env} {hp ap:Hp} {sz t:Nat} {ag:Bool} {v:AV}:∀{l:List (Nat×Bool×Nat)},nK tm hp ap l=true->(sz,ag,t)∈l->iR hp sz ag (aj tm t)=some v->iR ap sz ag (aj tm t)=some v
 | [],_,h,_=>by cases h
 | (s,g,u)::r,h,hm,hv=>by
  simp only [nK] at h
  cases h1:iR hp s g (aj tm u) with
  | none=>simp [h1] at h
  | some x=>
   cases h2:iR ap s g (aj tm u) with
   | none=>simp [h1,h2] at h
   | some y=>
    simp only [h1,h2,yf] at h;rcases wZ.1 hm with e | hm
    ·simp only [yk] at e;obtain ⟨rfl,rfl,rfl⟩:=e;rw [h1] at hv;rw [h2,<-am5 h.1,hv]
    ·exact N8 h.2 hm hv
structure Ln (P:aM) (L:Lib) (run:cx) (rs:List aX) (bU:Nat->Env) (bK:Nat->Hp) (bE:Nat->Nat) (vF:Nat->AV):Prop where
 step:∀i r,rs[i]? =some r->eH P L run (bU i) (bK i) (bE i) r=some (vF i,bK (i+1),bE (i+1))
 tm:∀i r,rs[i]? =some r->bU (i+1)=put r.dst (vF i) (bU i)
def abt {P:aM} {L:Lib} {self:cx}:∀{rs:List aX} {s s':St},dh P L self rs s=some s'->
  ∃bU bK bE vF,Ln P L self rs bU bK bE vF/\bU 0=s.tm/\bK 0=s.hp/\bE 0=s.ct/\bU rs.length=s'.tm/\bK rs.length=s'.hp/\bE rs.length=s'.ct/\s'.base=s.base
 | [],s,s',h=>by
  simp only [dh,yb] at h;subst h;exact ⟨fun _=>s.tm,fun _=>s.hp,fun _=>s.ct,fun _=> .undef,⟨fun i r h=>by simp at h,fun i r h=>by simp at h⟩,rfl,rfl,rfl,rfl,rfl,rfl,rfl⟩
 | r::rs,s,s',h=>by
  rw [YU] at h
  cases h1:eH P L self s.tm s.hp s.ct r with
  | none=>simp [h1] at h
  | some q=>
   obtain ⟨v,bm,nk⟩:=q;simp only [h1] at h;obtain ⟨bU,bK,bE,vF,g1,g2,g3,g4,g5,g6,g7,g8⟩:=abt h;refine ⟨fun i=>match i with | 0=>s.tm | i+1=>bU i,fun i=>match i with | 0=>s.hp | i+1=>bK i,fun i=>match i with | 0=>s.ct | i+1=>bE i,fun i=>match i with | 0=>v | i+1=>vF i,⟨?_,?_⟩,rfl,rfl,rfl,by simpa using g5,by simpa using g6,by simpa using g7,g8⟩
   ·intro i r' hi
    cases i with
    | zero=>
     grind
    | succ i=>exact g1.step i r' (by simpa using hi)
   ·intro i r' hi
    cases i with
    | zero=>
     grind
    | succ i=>exact g1.tm i r' (by simpa using hi)
section
variable {P:aM} {L:Lib} {self:cx} {rs:List aX} {bU:Nat->Env} {bK:Nat->Hp} {bE:Nat->Nat} {vF:Nat->AV}
def FL (hR:Ln P L self rs bU bK bE vF) {t i:Nat}:∀(k:Nat),i+k<=rs.length->(∀j r,i<=j->j<i+k->rs[j]? =some r->r.dst≠some t)->aj (bU (i+k)) t=aj (bU i) t
 | 0,_,_=>rfl
 | k+1,hk,h=>by
  have hr:rs[i+k]? =some rs[i+k]:=by simp_all
  rw [show i+(k+1)=i+k+1 by omega,hR.tm _ _ hr,O2,yu (h (i+k) _ (by omega) (by omega) hr)];exact FL hR k (by omega) (fun j r h1 h2=>h j r h1 (by omega))
def ZJ {r:aX} {tm:Env} {hp ap:Hp} {ct aV:Nat} {v:AV} (hk:bt r.op<=1) (hv:eH P L self tm hp ct r=some (v,ap,aV)) (aF:∀id o,aA hp id=some o->id<ct):gP hp ct ap aV:=by
 unfold eH at hv
 cases hw:nX tm r.guard with
 | none=>simp [hw] at hv
 | some b=>
  cases b with
  | true=>simp only [hw] at hv;exact Yv hk hv aF
  | false=>
   simp only [hw,yb,yk] at hv;obtain ⟨rfl,rfl,rfl⟩:=hv;exact gP.refl aF
def JG (hR:Ln P L self rs bU bK bE vF) {i:Nat} (aF:∀id o,aA (bK i) id=some o->id<bE i):∀(k:Nat),i+k<=rs.length->(∀j r,i<=j->j<i+k->rs[j]? =some r->bt r.op<=1)->gP (bK i) (bE i) (bK (i+k)) (bE (i+k))
 | 0,_,_=>gP.refl aF
 | k+1,hk,h=>by
  have ih:=JG hR aF k (by omega) (fun j r h1 h2=>h j r h1 (by omega));have hr:rs[i+k]? =some rs[i+k]:=by simp_all
  exact ih.trans (ZJ (h (i+k) _ (by omega) (by omega) hr) (hR.step _ _ hr) ih.lt)
end
end
section
open Go
def JY {tm:Env} {t:Nat}:∀{l:List Nat},t∈l->aj (dJ tm l) t=aj tm t
 | [],h=>by cases h
 | i::r,h=>by
  simp only [dJ,aj]
  cases hb:yp i t with
  | true=>rw [yj hb];rfl
  | false=>
   rcases wZ.1 h with e | h
   ·simp_all
   ·exact JY h
def am6 {P:aM} {L:Lib} {self:cx} {tm bG:Env} {hp:Hp} {ct:Nat} {o:Op} {r:AV×Hp×Nat} (h:∀t,t∈jm o->aj bG t=aj tm t) (hv:bg P L self tm hp ct o=some r):bg P L self bG hp ct (ie o)=some r:=by
 cases o with
 | ib rs f xs=>
  simp only [jm,wB] at h;simp only [ie,bg] at hv ⊢
  rw [dl (x:=f) fun t ht=>h t (.inl ht),AZ (xs:=xs) fun t ht=>h t (.inr ht)]
  cases hc:eD P L self hp ct .dyn (ay tm f) (da tm xs) with
  | none=>simp [hc] at hv
  | some q=>
   obtain ⟨v1,bm,nk⟩:=q;simp only [hc] at hv
   cases hs:nK tm hp bm rs with
   | false=>rw [hs] at hv;cases hv
   | true=>
    rw [hs] at hv;simpa only [nK,yz] using hv
 | jv rs sz x v=>
  simp only [ie,bg] at hv ⊢
  rw [AX (o:= .st sz x v) (tm:=tm) h]
  split at hv
  ·rename_i id off hx
   cases hf:mE tm id rs with
   | false=>rw [hf] at hv;cases hv
   | true=>rw [hf] at hv;exact hv
  ·cases hv
 | jS rs sz b x v=>
  simp only [ie,bg] at hv ⊢
  rw [AX (o:= .aS sz b x v) (tm:=tm) h]
  cases hc:cA tm hp ct (.aS sz b x v) with
  | none=>simp [hc] at hv
  | some q=>
   obtain ⟨v1,bm,nk⟩:=q;simp only [hc] at hv
   cases hs:nK tm hp bm rs with
   | false=>rw [hs] at hv;cases hv
   | true=>rw [hs] at hv;exact hv
 | oB sz b x v=>
  rw [<-hv];simp only [jm,wB] at h;simp only [ie,bg]
  rw [dl (x:=x) fun t ht=>h t (.inl ht),dl (x:=v) fun t ht=>h t (.inr ht)]
 | call md f xs=>
  rw [<-hv];simp only [jm,wB] at h;simp only [ie,bg]
  rw [dl (x:=f) fun t ht=>h t (.inl ht),AZ (xs:=xs) fun t ht=>h t (.inr ht)]
 | st s x y=>rw [<-hv];simp only [ie,bg];exact AX h
 | ox kk x y z=>rw [<-hv];simp only [ie,bg];exact AX h
 | oA x=>rw [<-hv];simp only [ie,bg];exact AX h
 | aS s b x y=>rw [<-hv];simp only [ie,bg];exact AX h
 | oC s x y=>rw [<-hv];simp only [ie,bg];exact AX h
 | box s x=>rw [<-hv];simp only [ie,bg];rw [Fz (hp:=hp) h]
 | lm n s z ps=>rw [<-hv];simp only [ie,bg];rw [Fz (hp:=hp) h]
 | nc s b z x y=>rw [<-hv];simp only [ie,bg];rw [Fz (hp:=hp) h]
 | sC=>exact hv
 | oy x=>rw [<-hv];simp only [ie,bg];rw [Fz (hp:=hp) h]
 | _=>rw [<-hv];simp only [ie,bg];rw [alt h]
def aar {P:aM} {L:Lib} {self:cx} {tm:Env} {hp ap:Hp} {ct aV:Nat} {q:Op} {v:AV} (hk:bt q=0\/∃sz ag x,q= .ld sz ag x) (hv:bg P L self tm hp ct q=some (v,ap,aV)):br tm hp q=some v/\ap=hp/\aV=ct:=by
 have fV:∀{q:Op},(match br tm hp q with | some v=>some (v,hp,ct) | none=>(none:fT))=some (v,ap,aV)->br tm hp q=some v/\ap=hp/\aV=ct:=by
  intro q h
  cases hm:br tm hp q with
  | none=>simp [hm] at h
  | some r=>
   simp only [hm,yb,yk] at h;obtain ⟨rfl,rfl,rfl⟩:=h;exact ⟨rfl,rfl,rfl⟩
 rcases hk with hk | ⟨sz,ag,x,rfl⟩
 ·cases bL:q with
  | call md f xs=>subst bL;cases md<;>simp [bt] at hk
  | ib rs f xs=>subst bL;simp [bt] at hk
  | jv rs s x y=>subst bL;simp [bt] at hk
  | jS rs s b x y=>subst bL;simp [bt] at hk
  | oB s b x y=>subst bL;simp [bt] at hk
  | st s x y=>subst bL;simp [bt] at hk
  | ox kk x y z=>subst bL;simp [bt] at hk
  | oA x=>subst bL;simp [bt] at hk
  | aS s b x y=>subst bL;simp [bt] at hk
  | oC s x y=>subst bL;simp [bt] at hk
  | box s x=>subst bL;simp [bt] at hk
  | lm n s z ps=>subst bL;simp [bt] at hk
  | nc s b z x y=>subst bL;simp [bt] at hk
  | sC=>subst bL;simp [bt] at hk
  | oy x=>subst bL;simp [bt] at hk
  | _=>exact bL▸fV (q:=q) (by rw [bL] at hv ⊢;simp only [bg] at hv;exact hv)
 ·exact fV (q:= .ld sz ag x) (by simp only [bg] at hv;exact hv)
section
variable {O:bh} {H:Hint} {ops:Array y9} {rs:List aX} {bU:Nat->Env} {bK:Nat->Hp} {bE:Nat->Nat} {vF:Nat->AV} {self:cx} {ro:Option Nat} {Q:vP->Act->yi->Prop}
structure qh (O:bh) (H:Hint) (slf:cx) (ops:Array y9) (rs:List aX) (bU:Nat->Env) (bK:Nat->Hp) (bE:Nat->Nat) (vF:Nat->AV):Prop where
 run:Ln O.prog O.az slf rs bU bK bE vF
 len:rs.length=ops.size
 of:∀(i:Nat) (r:aX) (o:y9),rs[i]? =some r->ops[i]? =some o->KO O.P H ops r o
 pair:∀(i j:Nat) (a b:aX),i<j->rs[i]? =some a->rs[j]? =some b->Ord ops i j\/Lm a b ((rs.take j).drop (i+1))
 back:∀(i:Nat) (o:y9),ops[i]? =some o->∀e,e∈o.after->Region.binds .any e=true->e.on<i
def jd (rs:List aX) (i:Nat):Prop:=∃r,rs[i]? =some r/\bt r.op=2
def PP (rs:List aX):∀(k i:Nat),i+k=rs.length->∃c,i<=c/\c<=rs.length/\(∀j,i<=j->j<c->¬jd rs j)/\(c=rs.length\/jd rs c)
 | 0,i,h=>⟨i,yA _,by omega,fun j h1 h2=>by omega,.inl (by omega)⟩
 | k+1,i,h=>by
  rcases ux (jd rs i) with hw | hw
  ·grind
  ·obtain ⟨c,h1,h2,h3,h4⟩:=PP rs k (i+1) (by omega)
   grind
def F6 {rs:List aX} {i:Nat} {r:aX} (hr:rs[i]? =some r) (hw:¬jd rs i):bt r.op<=1:=by
 have h:bt r.op≠2:=fun e=>hw ⟨r,hr,e⟩
 have:bt r.op<=2:=by
  cases r.op with
  | ow k x lo hi=>cases k<;>simp [bt]
  | len k x=>rcases k with _ | _ | k<;>simp [bt]
  | call md f xs=>cases md<;>simp [bt]
  | _=>simp [bt]
 omega
def Nk (O:bh) (rs:List aX) (bU:Nat->Env) (D:Nat->Prop) (m:Mp) (S:Nat->Prop) (w:yi) (a:Act):Prop:=
 ∀t,∃j,j<=rs.length/\(∀(i:Nat) (r:aX),rs[i]? =some r->r.dst=some t->(D i↔i<j))/\ah O.af m S w (aj (bU j) t) (a.tmps.getD t undef)
def aqU {D:Nat->Prop} {m:Mp} {S:Nat->Prop} {w:yi} {a:Act} {i:Nat} {r:aX} (hG:qh O H self ops rs bU bK bE vF) (hT:Nk O rs bU D m S w a) (hr:rs[i]? =some r) (hi:¬D i)
  (eL:∀j,Ord ops j i->D j) (fI:∀j,Ord ops i j->¬D j):∀t,t∈Be r->ah O.af m S w (aj (bU i) t) (a.tmps.getD t undef):=by
 intro t ht;obtain ⟨j,h1,h2,h3⟩:=hT t;have Ea:i<rs.length:=(wg.1 hr).1;have e:aj (bU j) t=aj (bU i) t:=by
  rcases Nat.le_total j i with hji | WZ
  ·obtain ⟨k,rfl⟩:∃k,i=j+k:=⟨i-j,by omega⟩;refine (FL hG.run k (by omega) (fun l rl g1 g2 hl hd=>?_)).symm;rcases hG.pair l (j+k) rl r (by omega) hl hr with ho | hf
   ·grind
   ·exact ((Jg hf.1).1 t hd).1 ht
  ·obtain ⟨k,rfl⟩:∃k,j=i+k:=⟨j-i,by omega⟩;refine FL hG.run k h1 (fun l rl g1 g2 hl hd=>?_);rcases wT g1 with rfl | g1
   ·grind
   ·rcases hG.pair i l r rl g1 hr hl with ho | hf
    ·grind
    ·exact (Jg hf.1).2 t hd ht
 grind
def abu {D D':Nat->Prop} {m m':Mp} {S S':Nat->Prop} {w w':yi} {a:Act} {i:Nat} {r:aX} {u:yg} (hG:qh O H self ops rs bU bK bE vF) (hT:Nk O rs bU D m S w a) (hr:rs[i]? =some r) (hi:¬D i)
  (eL:∀j,Ord ops j i->D j) (fI:∀j,Ord ops i j->¬D j) (hD:∀j,D' j↔D j\/j=i) (hm:cR m m') (hS:∀b,S b->S' b) (hw:fp S w w') (hd:∀d,r.dst=some d->d<a.tmps.size)
  (hv:ah O.af m' S' w' (vF i) u):Nk O rs bU D' m' S' w' (a.put r.dst u):=by
 intro t;have Ea:i<rs.length:=(wg.1 hr).1;by_cases Iz:r.dst=some t
 ·refine ⟨i+1,Ea,fun l rl hl W0=>?_,?_⟩
  ·rw [hD];constructor
   ·rintro (h | h)
    ·rcases vh l (i+1) with g | g
     ·grind
     ·rcases hG.pair i l r rl (by omega) hr hl with ho | hf
      ·grind
      ·exact (((Jg hf.1).1 t Iz).2 W0).elim
    ·omega
   ·intro h;rcases wT (vv h) with h | h
    ·grind
    ·rcases hG.pair l i rl r h hl hr with ho | hf
     ·grind
     ·exact (((Jg hf.1).1 t W0).2 Iz).elim
  ·rw [hG.run.tm i r hr,O2,O3 hd,yL Iz,yL Iz];exact hv
 ·obtain ⟨j,h1,h2,h3⟩:=hT t;refine ⟨j,h1,fun l rl hl W0=>?_,?_⟩
  ·grind
  ·rw [O3 hd,yu Iz];exact kj hm hS hw _ _ h3
def Yx {tm:Env} {hp ap:Hp} {ct aV id off sz Ca t:Nat} {ag:Bool} {x y:X} {v v':AV}:∀{l:List (Nat×Bool×Nat)},mE tm id l=true->(sz,ag,t)∈l->ay tm x= .ptr id off->
  cA tm hp ct (.st Ca x y)=some (v',ap,aV)->iR hp sz ag (aj tm t)=some v->iR ap sz ag (aj tm t)=some v
 | [],_,h,_,_,_=>by cases h
 | (s,g,u)::r,h,hm,hx,hw,hv=>by
  simp only [mE,yf] at h;rcases wZ.1 hm with e | hm
  ·simp only [yk] at e;obtain ⟨rfl,rfl,rfl⟩:=e;have h1:=h.1
   split at h1
   ·rename_i j o hj;have fy:j≠id:=by
     intro e
     simp_all
    rw [hj] at hv ⊢;simp only [cA,hx] at hw;have key:∀ob,aA (bi hp id ob) j=aA hp j:=fun ob=>by rw [pU,yu (yci fy)]
    split at hw
    ·rename_i pu ex z cs Eb;generalize (yp _ _&&yy _ _&&cK _)=bb at hw
     cases bb with
     | false=>cases hw
     | true=>
      obtain ⟨_,rfl,_⟩:=hw;simp only [iR,key] at hv ⊢;exact hv
    ·cases hw
   ·rename_i cs hj;rw [hj] at hv ⊢;simpa only [iR] using hv
   ·cases h1
  ·exact Yx h.2 hm hx hw hv
def Ym {D:Nat->Prop} {i c:Nat} {r:aX} {sz t:Nat} {ag:Bool} (hG:qh O H self ops rs bU bK bE vF) (hr:rs[i]? =some r) (hi:¬D i) (Ec:r.guard=none/\r.op= .ld sz ag (.t t)) (hc:c<=rs.length)
  (hW:∀j,j<c->jd rs j->D j) (fI:∀j,Ord ops i j->¬D j) (aF:∀j,j<=c->∀id o,aA (bK j) id=some o->id<bE j):∀k,i+1+k<=c->iR (bK (i+1+k)) sz ag (aj (bU i) t)=some (vF i)
 | 0,hk=>by
  have h1:=hG.run.step i r hr;simp only [eH,Ec.1,nX,Ec.2] at h1;obtain ⟨h2,h3,h4⟩:=aar (.inr ⟨_,_,_,rfl⟩) h1;simp only [br,ay] at h2;rw [Nat.add_zero,h3];exact h2
 | k+1,hk=>by
  have ih:=Ym hG hr hi Ec hc hW fI aF k (by omega);have hl:i+1+k<rs.length:=by omega
  have hj:rs[i+1+k]? =some rs[i+1+k]:=by simp [hl]
  have aT:=hG.run.step _ _ hj;rw [show i+1+(k+1)=i+1+k+1 by omega];rcases ux (jd rs (i+1+k)) with hw | hw
  ·have hD:=hW _ (by omega) hw;rcases hG.pair i (i+1+k) r _ (by omega) hr hj with ho | hf
   ·exact (fI _ ho hD).elim
   ·obtain ⟨D9,jA⟩:=hf;obtain ⟨eY,h5,h6⟩:=hw;rw [hj] at h5;injection h5 with h5
    subst h5;rcases jA with jA | jA
    ·have h1k:bt r.op=1:=by rw [Ec.2];rfl
     simp only [FI,h1k,h6] at jA;cases jA
    ·unfold F2 at jA;simp only [Ec.1,Ec.2] at jA;generalize iw:(rs[i+1+k]).op=q at jA;have Qe:Bw t (r::(rs.take (i+1+k)).drop (i+1))=true->aj (bU (i+1+k)) t=aj (bU i) t:=by
      intro ayS;have kR:=YW ayS;rw [show i+1+k=i+(1+k) by omega];refine FL hG.run (1+k) (by omega) (fun l rl g1 g2 Cc=>kR rl ?_);rcases wT g1 with rfl | g1
      ·rw [hr] at Cc;injection Cc with Cc;subst Cc;exact uG
      ·refine vz _ ?_
       have:((rs.take (i+1+k)).drop (i+1))[l-(i+1)]? =some rl:=by
        rw [List.getElem?_drop,List.getElem?_take_of_lt (by omega),show i+1+(l-(i+1))=l by omega];exact Cc
       exact List.mem_of_getElem? this
     unfold eH at aT
     cases hg:nX (bU (i+1+k)) (rs[i+1+k]).guard with
     | none=>simp [hg] at aT
     | some b=>
      cases b with
      | false=>
       simp only [hg,yb,yk] at aT;rw [<-aT.2.1];exact ih
      | true=>
       simp only [hg,iw] at aT;cases q<;>simp only [yB] at jA
       case ib Cd fx xs=>
        simp only [yf] at jA;have Hi:=JF jA.1;have Av:=Qe jA.2;simp only [bg] at aT
        cases gV:eD O.prog O.az self (bK (i+1+k)) (bE (i+1+k)) .dyn (ay (bU (i+1+k)) fx) (da (bU (i+1+k)) xs) with
        | none=>simp [gV] at aT
        | some z=>
         obtain ⟨v1,bm,nk⟩:=z;simp only [gV] at aT
         cases hs:nK (bU (i+1+k)) (bK (i+1+k)) bm Cd with
         | false=>rw [hs] at aT;cases aT
         | true=>
          rw [hs] at aT;simp only [yz,yb,yk] at aT;obtain ⟨_,h8,_⟩:=aT;rw [<-h8,<-Av];exact N8 hs Hi (by rw [Av];exact ih)
       case jv Cd Ca x v=>
        simp only [yf] at jA;have Hi:=JF jA.1;have Av:=Qe jA.2;simp only [bg] at aT
        split at aT
        ·rename_i id off hx
         cases hs:mE (bU (i+1+k)) id Cd with
         | false=>rw [hs] at aT;cases aT
         | true=>
          rw [hs] at aT;simp only [yz] at aT;rw [<-Av];exact Yx hs Hi hx aT (by rw [Av];exact ih)
        ·cases aT
       case jS Cd Ca b x v=>
        simp only [yf] at jA;have Hi:=JF jA.1;have Av:=Qe jA.2;simp only [bg] at aT
        cases gV:cA (bU (i+1+k)) (bK (i+1+k)) (bE (i+1+k)) (.aS Ca b x v) with
        | none=>simp [gV] at aT
        | some z=>
         obtain ⟨v1,bm,nk⟩:=z;simp only [gV] at aT
         cases hs:nK (bU (i+1+k)) (bK (i+1+k)) bm Cd with
         | false=>rw [hs] at aT;cases aT
         | true=>
          rw [hs] at aT;simp only [yz,yb,yk] at aT;obtain ⟨_,h8,_⟩:=aT;rw [<-h8,<-Av];exact N8 hs Hi (by rw [Av];exact ih)
  ·exact abl (ZJ (F6 hj hw) aT (aF _ (by omega))).le ih
structure Inv (O:bh) (ops:Array y9) (rs:List aX) (bU:Nat->Env) (bK:Nat->Hp) (bE:Nat->Nat) (D:Nat->Prop) (m0:Mp) (S0:Nat->Prop) (w0:yi) (n0:Nat) (d0:List tT) (st c:Nat) (m:Mp) (S:Nat->Prop) (w:yi) (a:Act):Prop where
 W1:st<=c
 cn:c<=rs.length
 before:∀i,i<st->jd rs i->D i
 Ed:∀i,st<=i->i<c->¬jd rs i
 cut:c=rs.length\/(jd rs c/\¬D c)
 behind:∀(i:Nat) (r:aX),c<=i->rs[i]? =some r->1<=bt r.op->¬D i
 hp:aO O m S w (bK c) (bE c)
 W2:∀id p,m id=some p->id<bE st\/∃i,st<=i/\i<c/\D i/\bE i<=id/\id<bE (i+1)
 tm:Nk O rs bU D m S w a
 Nl:b6 m0 S0 w0 (bK 0) m S w (bK c) (bE 0)
 ge:bE 0<=bE c
 size:a.tmps.size=n0
 defers:a.defers=d0
 Ee:st=0\/jd rs (st-1)
 Ef:∀j,j<=c->∀id o,aA (bK j) id=some o->id<bE j
end
end
section
open Go
section
variable {O:bh} {H:Hint} {ops:Array y9} {rs:List aX} {bU:Nat->Env} {bK:Nat->Hp} {bE:Nat->Nat} {vF:Nat->AV} {self:cx} {ro:Option Nat} {Q:vP->Act->yi->Prop}
variable {D D':Nat->Prop} {m0:Mp} {S0:Nat->Prop} {w0:yi} {n0:Nat} {d0:List tT} {st c i:Nat} {m:Mp} {S:Nat->Prop} {w:yi} {a:Act} {r:aX} {o:y9}
def JH (hG:qh O H self ops rs bU bK bE vF) (hI:Inv O ops rs bU bK bE D m0 S0 w0 n0 d0 st c m S w a) {x y:Nat} (hx:st<=x) (hxy:x<=y) (hy:y<=c):gP (bK x) (bE x) (bK y) (bE y):=by
 obtain ⟨k,rfl⟩:∃k,y=x+k:=⟨y-x,by omega⟩
 have:=hI.cn
 exact JG hG.run (hI.Ef x (by omega)) k (by omega) (fun j r h1 h2 hr=>F6 hr (hI.Ed j (by omega) (by omega)))
def O6 (hG:qh O H self ops rs bU bK bE vF) (hI:Inv O ops rs bU bK bE D m0 S0 w0 n0 d0 st c m S w a) (hr:rs[i]? =some r) (hi:¬D i) (eL:∀j,Ord ops j i->D j) (fI:∀j,Ord ops i j->¬D j) (hD:∀j,D' j↔D j\/j=i)
  (hd:∀d,r.dst=some d->d<a.tmps.size) (hw:¬jd rs i) (sI:bt r.op=0\/i<c) {m':Mp} {S':Nat->Prop} {w':yi} {u:yg} (k1:aO O m' S' w' (bK c) (bE c)) (k2:cR m m')
  (k3:∀id p,m' id=some p->m id=some p\/(st<=i/\i<c/\bE i<=id/\id<bE (i+1))) (k4:ah O.af m' S' w' (vF i) u) (k5:b6 m S w (bK c) m' S' w' (bK c) (bE c)):
  Inv O ops rs bU bK bE D' m0 S0 w0 n0 d0 st c m' S' w' (a.put r.dst u) where
 W1:=hI.W1
 cn:=hI.cn
 before j hj Ce:=(hD j).2 (.inl (hI.before j hj Ce))
 Ed:=hI.Ed
 cut:=hI.cut.imp (fun h=>h) (fun h=>⟨h.1,fun hc=>((hD c).1 hc).elim h.2 (fun e=>hw (e▸h.1))⟩)
 behind j rj hj Cf hk IA:=((hD j).1 IA).elim (hI.behind j rj hj Cf hk) (fun e=>by
  subst e;rw [hr] at Cf;injection Cf with Cf
  subst Cf
  rcases sI with h | h<;>omega)
 hp:=k1
 W2 id p hp:=by
  rcases k3 id p hp with h | ⟨h1,h2,h3,h4⟩
  ·rcases hI.W2 id p h with h | ⟨j,g1,g2,g3,g4,g5⟩
   ·exact .inl h
   ·exact .inr ⟨j,g1,g2,(hD j).2 (.inl g3),g4,g5⟩
  ·exact .inr ⟨i,h1,h2,(hD i).2 (.inr rfl),h3,h4⟩
 tm:=abu hG hI.tm hr hi eL fI hD k2 k5.sub (fun b hb=>k5.still b hb) hd k4
 Nl:=hI.Nl.trans (k5.qv hI.ge)
 ge:=hI.ge
 size:=by rw [JX];exact hI.size
 defers:=by rw [Oq];exact hI.defers
 Ee:=hI.Ee
 Ef:=hI.Ef
def abv (hG:qh O H self ops rs bU bK bE vF) (hI:Inv O ops rs bU bK bE D m0 S0 w0 n0 d0 st c m S w a) (hr:rs[c]? =some r) (hi:¬D c) (eL:∀j,Ord ops j c->D j) (fI:∀j,Ord ops c j->¬D j) (hD:∀j,D' j↔D j\/j=c)
  (hd:∀d,r.dst=some d->d<a.tmps.size) (hw:jd rs c) {m':Mp} {S':Nat->Prop} {w':yi} {u:yg} (k1:aO O m' S' w' (bK (c+1)) (bE (c+1))) (k2:bE c<=bE (c+1))
  (k4:ah O.af m' S' w' (vF c) u) (k5:b6 m S w (bK c) m' S' w' (bK (c+1)) (bE c)):
  ∃c' Ao,Inv O ops rs bU bK bE D' m0 S0 w0 n0 d0 (c+1) c' m' Ao w' (a.put r.dst u):=by
 have gV:c<rs.length:=(wg.1 hr).1;obtain ⟨c',h1,h2,h3,h4⟩:=PP rs (rs.length-(c+1)) (c+1) (by omega);obtain ⟨k,rfl⟩:∃k,c'=c+1+k:=⟨c'-(c+1),by omega⟩;have hg:∀k',k'<=k->gP (bK (c+1)) (bE (c+1)) (bK (c+1+k')) (bE (c+1+k')):=fun k' Ar=>
  JG hG.run k1.aF k' (by omega) (fun j r g1 g2 hr=>F6 hr (h3 j g1 (by omega)))
 obtain ⟨Ao,g1,g2,g3,g4⟩:=JW k1 (hg k (yA _));have hml:cR m m':=fun id p h=>k5.old id p (hI.hp.lt id p h) h
 refine ⟨c+1+k,Ao,⟨by omega,h2,?_,h3,?_,?_,g1,fun id p h=> .inl (k1.lt id p h),?_,?_,?_,by rw [JX];exact hI.size,by rw [Oq];exact hI.defers,.inr (by simpa using hw),?_⟩⟩
 ·intro j hj Ce;rcases wT (vv hj) with e | hj
  ·exact (hD j).2 (.inr e)
  ·rcases vh j st with g | g
   ·exact (hD j).2 (.inl (hI.before j g Ce))
   ·exact (hI.Ed j g hj Ce).elim
 ·refine h4.imp (fun h=>h) (fun h=>⟨h,fun hc=>?_⟩);obtain ⟨rc,W3,sI⟩:=h;rcases (hD _).1 hc with g | g
  ·exact hI.behind _ rc (by omega) W3 (by omega) g
  ·omega
 ·intro j rj hj Cf hk IA;rcases (hD j).1 IA with g | g
  ·exact hI.behind j rj (by omega) Cf hk g
  ·omega
 ·exact abu hG hI.tm hr hi eL fI hD hml (fun b hb=>g2 b (k5.sub b hb)) (fun b hb=>k5.still b hb) hd (kj (fun _ _ h=>h) g2 (fun _ _=>rfl) _ _ k4)
 ·exact (hI.Nl.trans (k5.qv hI.ge)).trans (g4 (bE 0))
 ·have:=(hg k (yA _)).oE
  have:=hI.ge
  omega
 ·intro j hj;rcases vh c j with g | g
  ·obtain ⟨k',rfl⟩:∃k',j=c+1+k':=⟨j-(c+1),by omega⟩;exact (hg k' (by omega)).lt
  ·exact hI.Ef j g
def aoS {q:Op} (h:bt q≠2):ie q=q:=by
 cases q<;>first
  | rfl
  | exact absurd rfl h
def YX {x y:aX} {l:List aX} (h:Lm x y l):¬(bt x.op=2/\1<=bt y.op)/\(1<=bt x.op->bt y.op=2->x.guard=none/\∃sz ag t,x.op= .ld sz ag (.t t)):=by
 obtain ⟨_,h⟩:=h;have ex:F2 x y l=true->x.guard=none/\∃sz ag t,x.op= .ld sz ag (.t t):=by
  intro he;unfold F2 at he
  split at he
  ·rename_i sz ag t Cd fx xs h1 h2 h3;exact ⟨h1,sz,ag,t,h2⟩
  ·rename_i h1 h2 h3;exact ⟨h1,_,_,_,h2⟩
  ·rename_i h1 h2 h3;exact ⟨h1,_,_,_,h2⟩
  ·cases he
 have k2:∀q:Op,bt q<=2:=fun q=>by
  cases q with
  | ow k x lo hi=>cases k<;>simp [bt]
  | len k x=>rcases k with _ | _ | k<;>simp [bt]
  | call md f xs=>cases md<;>simp [bt]
  | _=>simp [bt]
 constructor
 ·rintro ⟨h1,h2⟩;rcases h with h | h
  ·have:bt y.op=1\/bt y.op=2:=by have:=k2 y.op;omega
   rcases this with e | e<;>(simp only [FI,h1,e] at h;cases h)
  ·obtain ⟨_,sz,ag,t,e⟩:=ex h;rw [e] at h1;cases h1
 ·intro h1 h2;rcases h with h | h
  ·have:bt x.op=1\/bt x.op=2:=by have:=k2 x.op;omega
   rcases this with e | e<;>(simp only [FI,h2,e] at h;cases h)
  ·exact ex h
def aoT (hC:mC O self) (hH:eT O H) (hG:qh O H self ops rs bU bK bE vF) (hn:H.n<=n0) (hI:Inv O ops rs bU bK bE D m0 S0 w0 n0 d0 st c m S w a) (hr:rs[i]? =some r) (ho:ops[i]? =some o) (hi:¬D i)
  (eL:∀j,Ord ops j i->D j) (fI:∀j,Ord ops i j->¬D j) (hD:∀j,D' j↔D j\/j=i) {K:Act->yi->Prop}
  (hK:∀st' c' m' S' w' a',Inv O ops rs bU bK bE D' m0 S0 w0 n0 d0 st' c' m' S' w' a'->K a' w'):wpOpIn (WF ro) 0 O.P ops Q i K a w:=by
 have cN:=hG.of i r o hr ho;have QQ:=aqU hG hI.tm hr hi eL fI;have aT:=hG.run.step i r hr;have hd:∀d,r.dst=some d->d<a.tmps.size:=by
  rw [cN.dst];exact aaq cN.ok (by rw [hI.size];exact hn)
 have jV:=hI.W1;have iz:1<=bt r.op->i<=c:=by
  intro hk;rcases vh c i with W4 | W4
  ·have Ea:i<rs.length:=(wg.1 hr).1;rcases hI.cut with h | ⟨⟨rc,W3,sI⟩,Iq⟩
   ·omega
   ·rcases hG.pair c i rc r W4 W3 hr with h | h
    ·exact (Iq (eL c h)).elim
    ·exact ((YX h).1 ⟨sI,hk⟩).elim
  ·exact W4
 have hwc:jd rs i->i=c:=by
  intro hw;obtain ⟨eY,h1,h2⟩:=hw;rw [hr] at h1;injection h1 with h1
  subst h1;have h3:=iz (by omega);rcases wT h3 with e | h3
  ·exact e
  ·rcases vh i st with g | g
   ·exact (hi (hI.before i g ⟨r,hr,h2⟩)).elim
   ·exact (hI.Ed i g h3 ⟨r,hr,h2⟩).elim
 have aF:1<=bt r.op->¬jd rs i->i<c:=by
  intro hk hw;rcases wT (iz hk) with e | h
  ·subst e;rcases hI.cut with h | h
   ·have Ea:i<rs.length:=(wg.1 hr).1;omega
   ·exact (hw h.1).elim
  ·exact h
 have sI:¬jd rs i->bt r.op=0\/i<c:=fun hw=>by
  rcases xh (bt r.op) with h | h
  ·exact .inl h
  ·exact .inr (aF h hw)
 unfold wpOpIn;simp only [ho];unfold eH at aT
 cases Nn:nX (bU i) r.guard with
 | none=>simp [Nn] at aT
 | some b=>
  have WY:=ZG cN.guard (fun t ht=>QQ t (by simp [Be,ht])) Nn;rw [WY]
  cases b with
  | false=>
   simp only [Nn,yb,yk] at aT;obtain ⟨hv,hh,hc⟩:=aT;simp only [yB,xk];refine ⟨fun _ _=>trivial,?_⟩;have dw:∀m S w,ah O.af m S w (vF i) undef:=fun m S w=>by rw [<-hv];simp [ah,av,undef]
   rw [<-cN.dst];rcases ux (jd rs i) with hw | hw
   ·have e:=hwc hw;subst e;obtain ⟨c',Ao,h⟩:=abv hG hI hr hi eL fI hD hd hw (m':=m) (S':=S) (w':=w) (u:=undef) (by rw [<-hh,<-hc];exact hI.hp) (by omega) (dw _ _ _) (by rw [<-hh];exact b6.refl)
    exact hK _ _ _ _ _ _ h
   ·exact hK _ _ _ _ _ _ (O6 hG hI hr hi eL fI hD hd hw (sI hw) (m':=m) (S':=S) (w':=w) (u:=undef) hI.hp cR.refl (fun _ _ h=> .inl h) (dw _ _ _) b6.refl)
  | true=>
   simp only [Nn] at aT;simp only [xR];have kR:=Yw cN.op aT;have No:bW O m S w (dJ (bU i) (jm r.op)) a.tmps:=fun t=>by
    rcases ux (t∈jm r.op) with h | h
    ·rw [JY h];exact QQ t (by simp [Be,h])
    ·have:aj (dJ (bU i) (jm r.op)) t= .undef:=by
      clear QQ aT;revert h;generalize jm r.op=l;intro h
      induction l with
      | nil=>rfl
      | cons x l ih=>
       simp only [dJ,aj];have hx:yp x t=false:=by
        cases hq:yp x t with
        | false=>rfl
        | true=>exact absurd (by rw [yj hq];exact uG) h
       rw [hx];exact ih (fun h'=>h (vz _ h'))
     rw [this];simp only [ah]
   have qY:bg O.prog O.az self (dJ (bU i) (jm r.op)) (bK i) (bE i) (ie r.op)=some (vF i,bK (i+1),bE (i+1)):=
    am6 (fun t ht=>JY ht) aT
   have aeB:¬jd rs i->ie r.op=r.op:=fun hw=>aoS (fun h=>hw ⟨r,hr,h⟩)
   have now:¬jd rs i->br (dJ (bU i) (jm r.op)) (bK c) r.op=some (vF i)->Oper.wpIn (WF ro) 0 O.P o a w K Q:=by
    intro hw fV;have iw:∃k,r.op=aQ O.P H k o:=by
     rcases cN.op with h | ⟨cc,f,rr,_,_,h⟩ | ⟨_,_,_,_,_,_,_,h⟩ | ⟨_,_,_,_,_,_,_,h⟩ | ⟨_,_,_,_,_,_,h⟩
     ·exact h
     ·rw [h] at fV;simp [br] at fV
     ·rw [h] at fV;simp [br] at fV
     ·rw [h] at fV;simp [br] at fV
     ·rw [h] at fV;simp [br] at fV
    obtain ⟨k,hk⟩:=iw;rw [hk] at fV;rw [hk] at No;obtain ⟨u,h1,h2⟩:=abe hH No hI.hp fV;refine Gi kR h1 (.inl rfl) ?_;rw [<-cN.dst];exact hK _ _ _ _ _ _ (O6 hG hI hr hi eL fI hD hd hw (sI hw) hI.hp cR.refl (fun _ _ h=> .inl h) h2 b6.refl)
   rcases ux (jd rs i) with hw | hw
   ·have e:=hwc hw;subst e;refine aap hC hH (al7 cN.op) kR qY No hI.hp (fun u m' S' w' k1 k2 k3 k4=>?_);rw [<-cN.dst];obtain ⟨c',Ao,h⟩:=abv hG hI hr hi eL fI hD hd hw k1 k2 k3 k4;exact hK _ _ _ _ _ _ h
   ·rcases xh (bt r.op) with hk | hk
    ·have qY:=aeB hw▸qY;obtain ⟨h1,_,_⟩:=aar (.inl hk) qY;exact now hw (by rw [amX hk (bK c) (bK i)];exact h1)
    ·have D4:=aF hk hw;rcases vh i st with QR | QR
     ·
      rcases hI.Ee with h0 | h0
      ·omega
      ·have bm:D (st-1):=hI.before _ (by omega) h0;have fy:i≠st-1:=fun e=>hi (e▸bm)
       obtain ⟨rp,hrp,hkp⟩:=h0;rcases hG.pair i (st-1) r rp (by omega) hr hrp with h | h
       ·exact (fI _ h bm).elim
       ·obtain ⟨hg,sz,ag,t,iw⟩:=(YX h).2 hk hkp;have hl:=Ym (c:=c) hG hr hi ⟨hg,iw⟩ hI.cn (fun j hj Ce=>by
         rcases vh j st with g | g
         ·exact hI.before j g Ce
         ·exact (hI.Ed j g hj Ce).elim) fI hI.Ef (c-(i+1)) (by omega)
        rw [show i+1+(c-(i+1))=c by omega] at hl;refine now hw ?_;rw [iw];simp only [br,ay];rw [JY (by simp [jm,ic])];exact hl
     ·have gK:=JH hG hI (x:=i+1) (y:=c) (by omega) D4 (yA _);have IB:=JH hG hI (x:=st) (y:=i) (yA _) QR (by omega)
      refine quiet_step (Hq:=bK c) (cH:=bE c) hC hH (F6 hr hw) cN.op kR (aeB hw▸qY) gK.le gK.oE (hI.Ef i (by omega)) ?_ No hI.hp (fun u m' S' w' k1 k2 k3 k4 k5=>?_)
      ·intro id h1 h2
       cases hm:m id with
       | none=>rfl
       | some p=>
        rcases hI.W2 id p hm with h | ⟨j,q1,q2,q3,q4,q5⟩
        ·have:=IB.oE;omega
        ·rcases Nat.lt_trichotomy j i with g | g | g
         ·have:=(JH hG hI (x:=j+1) (y:=i) (by omega) g (by omega)).oE;omega
         ·subst g;exact (hi q3).elim
         ·have:=(JH hG hI (x:=i+1) (y:=j) (by omega) g (by omega)).oE;omega
      ·rw [<-cN.dst];exact hK _ _ _ _ _ _ (O6 hG hI hr hi eL fI hD hd hw (.inr D4) k1 k2 (fun id p h=>(k3 id p h).imp (fun h=>h) (fun h=>⟨QR,D4,h.1,h.2⟩)) k4 k5)
def left (n:Nat) (listed:Array Bool):Nat:=(List.range n).countP fun i=> !listed.getD i false
def aoU {n:Nat} {listed:Array Bool} {i:Nat} (hi:i<n) (hs:listed.size=n) (hl:listed.getD i true=false):left n (listed.setIfInBounds i true)+1=left n listed:=by
 have key:∀(l:List Nat),l.Nodup->(i∈l->(l.countP fun j=> !(listed.setIfInBounds i true).getD j false)+1=l.countP fun j=> !listed.getD j false)/\(i∉l->(l.countP fun j=> !(listed.setIfInBounds i true).getD j false)=l.countP fun j=> !listed.getD j false):=by
  intro l
  induction l with
  | nil=>intro _;exact ⟨fun h=>(by cases h),fun _=>rfl⟩
  | cons x l ih=>
   intro kR;have hx:x≠i->(listed.setIfInBounds i true).getD x false=listed.getD x false:=fun h=>getD_set_ne false (yci h)
   refine ⟨fun hm=>?_,fun hm=>?_⟩
   ·rw [yaY,yaY];by_cases e:x=i
    ·simp_all
    ·grind
   ·grind
 exact (key _ List.nodup_range).1 (List.mem_range.2 hi)
def am7 {n:Nat} {listed:Array Bool} (h:left n listed=0):∀i,i<n->listed.getD i false=true:=by
 unfold left at h
 simp_all
def am8 {listed:Array Bool} (hs:listed.size=ops.size) (hb:∀(i:Nat) (o:y9),ops[i]? =some o->∀e,e∈o.after->Region.binds .any e=true->e.on<i) (h:Region.ready .any ops listed=[]):∀i,i<ops.size->listed.getD i false=true:=by
 intro i
 induction i using vm with
 | _ i ih=>
  intro hi
  cases hq:listed.getD i false with
  | true=>rfl
  | false=>
   have:i∈Region.ready .any ops listed:=by
    refine mem_ready.2 ⟨?_,ops[i],by simp [hi],fun e he pH=>?_⟩
    ·have aF:i<listed.size:=by omega
     simp only [wG,aF,Array.getElem?_eq_getElem,uN] at hq ⊢;exact hq
    ·have:=hb i ops[i] (by simp [hi]) e he pH
     exact ih e.on this (by omega)
   rw [h] at this;cases this
def aqV (hG:qh O H self ops rs bU bK bE vF) (hI:Inv O ops rs bU bK bE D m0 S0 w0 n0 d0 st c m S w a) (lB:∀i,i<rs.length->D i):
  aO O m S w (bK rs.length) (bE rs.length)/\bW O m S w (bU rs.length) a.tmps/\b6 m0 S0 w0 (bK 0) m S w (bK rs.length) (bE 0)/\bE 0<=bE rs.length:=by
 have hc:c=rs.length:=by
  rcases hI.cut with h | ⟨⟨r,h1,_⟩,h2⟩
  ·grind
  ·grind
 subst hc;refine ⟨hI.hp,fun t=>?_,hI.Nl,hI.ge⟩;obtain ⟨j,h1,h2,h3⟩:=hI.tm t;obtain ⟨k,hk⟩:∃k,rs.length=j+k:=⟨rs.length-j,by omega⟩
 have:=FL (t:=t) (i:=j) hG.run k (by omega) (fun l r g1 g2 hl hd=>by
  have:=(h2 l r hl hd).1 (lB l (wg.1 hl).1)
  omega)
 grind
def atf (hC:mC O self) (hH:eT O H) (hG:qh O H self ops rs bU bK bE vF) (hn:H.n<=n0)
  (hQ:∀a' m' S' w',aO O m' S' w' (bK rs.length) (bE rs.length)->bE 0<=bE rs.length->bW O m' S' w' (bU rs.length) a'.tmps->b6 m0 S0 w0 (bK 0) m' S' w' (bK rs.length) (bE 0)->a'.tmps.size=n0->a'.defers=d0->Q .normal a' w'):
  ∀(bl:Nat) (listed:Array Bool) (st c:Nat) (m:Mp) (S:Nat->Prop) (w:yi) (a:Act),listed.size=ops.size->left ops.size listed=bl->PO ops (fun i=>listed.getD i false=true)->
   Inv O ops rs bU bK bE (fun i=>listed.getD i false=true) m0 S0 w0 n0 d0 st c m S w a->wpAnyIn (WF ro) 0 O.P .any ops Q bl listed a w:=by
 have fin:∀(listed:Array Bool) (st c:Nat) (m:Mp) (S:Nat->Prop) (w:yi) (a:Act),Inv O ops rs bU bK bE (fun i=>listed.getD i false=true) m0 S0 w0 n0 d0 st c m S w a->(∀i,i<ops.size->listed.getD i false=true)->Q .normal a w:=by
  intro listed st c m S w a hI lB;obtain ⟨h1,h2,h3,h4⟩:=aqV hG hI (fun i hi=>lB i (by rw [<-hG.len];exact hi))
  exact hQ a m S w h1 h4 h2 h3 hI.size hI.defers
 intro bl
 induction bl with
 | zero=>
  intro listed st c m S w a hs hl hc hI;have lB:=am7 hl;refine ⟨?_,fin listed st c m S w a hI lB⟩;rw [List.eq_nil_iff_forall_not_mem];intro i hm;obtain ⟨h1,o,ho,_⟩:=mem_ready.1 hm
  grind
 | succ bl ih=>
  intro listed st c m S w a hs hl hc hI;refine ⟨fun h=>fin listed st c m S w a hI (am8 hs hG.back h),fun i hm=>?_⟩;obtain ⟨h1,o,ho,h2⟩:=mem_ready.1 hm;have hi:i<ops.size:=(xo.1 ho).1;have hr:rs[i]? =some (rs[i]'(by rw [hG.len];exact hi)):=by simp [hG.len,hi]
  have aF:i<listed.size:=by omega
  have hni:¬listed.getD i false=true:=by
   grind
  have hD:∀j,(listed.setIfInBounds i true).getD j false=true↔listed.getD j false=true\/j=i:=by
   intro j;by_cases e:j=i
   ·simp_all
   ·rw [getD_set_ne false (yci e)];simp [e]
  refine aoT hC hH hG hn hI hr ho hni (ZI hc i o ho h2) (fun j hj IA=>?_) hD (fun st' c' m' S' w' a' W5=>ih (listed.setIfInBounds i true) st' c' m' S' w' a' (by simp [hs]) ?_ ?_ W5)
  ·have hjl:j<ops.size:=by
    grind
   exact hni (aoR hc (show ops[j]? =some ops[j] by simp [hjl]) IA hj)
  ·have:=aoU hi hs h1
   omega
  ·intro j oj hoj hj e he hb;rw [hD];rcases (hD j).1 hj with g | g
   ·exact .inl (hc j oj hoj g e he hb)
   ·grind
end
end
section
open Go
def al9 {F:Fence} {n:Nat} {P:xa} {Q:vP->Act->yi->Prop} {a:Act} {w:yi} {c:wK} (h:c.wpIn F n P Q a w) (hg:∀l a w,¬Q (.goto l) a w):(Code.scope c).wpIn F n P Q a w:=by
 intro b k cs cN hb hr;have h0:(lone (b.atR a (.code (.scope c)::k)) cs w).fenced P F:=fenced_calm hb hr rfl;have s0:step P (lone (b.atR a (.code (.scope c)::k)) cs w)= .next (lone (b.atR a (.code c:: .inScope c::k)) cs w):=step_lone_go (by simp [stepG,stepG.exec,Frame.atR]);obtain ⟨e,a₁,w₁,hq,BG⟩:=h b (.inScope c::k) cs cN hb hr;have hx:∀id,exitTo id (.inScope c::k)=exitTo id k:=fun id=>by simp [exitTo]
 cases e with
 | normal=>
  have s1:step P (lone (b.atR a₁ (.inScope c::k)) cs w₁)= .next (lone (b.atR a₁ k) cs w₁):=step_lone_go (by simp [stepG,stepG.exec,Frame.atR]);exact ⟨.normal,a₁,w₁,hq,.head h0 s0 (StepsIn.trans BG (.one (fenced_calm hb hr rfl) s1))⟩
 | exit id=>
  exact ⟨.exit id,a₁,w₁,hq,fun k' hk=> .head h0 s0 (BG.1 k' (by rw [hx];exact hk)),fun bZ hk=>let ⟨k₁,h1,h2⟩:=BG.2 bZ (by rw [hx];exact hk);⟨k₁,h1,.head h0 s0 h2⟩⟩
 | goto l=>exact (hg _ _ _ hq).elim
 | ret=>exact ⟨_,a₁,w₁,hq,.of_steps (.one h0 s0) BG⟩
 | panic ch=>exact ⟨_,a₁,w₁,hq,.of_steps (.one h0 s0) BG⟩
 | outgrown=>exact ⟨_,a₁,w₁,hq,.of_steps (.one h0 s0) BG⟩
def po:Ex->vP
 | .normal=> .normal
 | .ret=> .ret
 | .exit id=> .exit id
def Marks (lo:Nat) (S:Nat->Prop) (w:yi) (ds:List tT):Prop:=∃rs:List Nat,ds=rs.map (fun r=>{target:= .collected r,args:=#[]})/\rs.Nodup/\
 ∀r,r∈rs->w.heap[r]? =some (.deferred (some []))/\¬S r/\lo<=r
def rN (ro:Option Nat) (w:yi):Prop:=∀l,ro=some l->∃r:uo,w.heap[l]? =some (.loop r)
section
variable {O:bh} {m:Mp} {S:Nat->Prop} {w:yi} {hp:Hp} {ct:Nat}
def aas (hh:aO O m S w hp ct) {b:Nat} (h:dN m hp b):∀x,w.heap[b]?≠some (.deferred x):=by
 intro x hx;obtain ⟨id,o,p,h1,h2,rfl⟩:=h;have h3:=hh.obj id o p h1 h2
 cases o with
 | cells rw pu ex sz cs=>obtain ⟨q,arr,t,g1,g2,_⟩:=h3;rw [h2] at g1;injection g1 with g1;subst g1;rw [hx] at g2;cases g2
 | mp rw ks vs=>obtain ⟨q,es,clock,g1,g2,_⟩:=h3;rw [h2] at g1;injection g1 with g1;subst g1;rw [hx] at g2;cases g2
 | si s pos=>obtain ⟨q,t,g1,g2,_⟩:=h3;rw [h2] at g1;injection g1 with g1;subst g1;rw [hx] at g2;cases g2
 | lp tm ps cy body st pe=>obtain ⟨q,l,hi,g1,g2,_⟩:=h3;rw [h2] at g1;injection g1 with g1;subst g1;rw [hx] at g2;cases g2
def zd (hh:aO O m S w hp ct) {m':Mp} {S':Nat->Prop} {w':yi} {ap:Hp} {base lo:Nat} (hf:b6 m S w hp m' S' w' ap base) {ds:List tT} (h:Marks lo S w ds):Marks lo S' w' ds:=by
 obtain ⟨rs,h1,h2,h3⟩:=h;refine ⟨rs,h1,h2,fun r hr=>?_⟩;obtain ⟨this,h4,h5⟩:=h3 r hr;have aF:=(xo.1 this).1;have nj:¬dN m hp r:=fun ho=>aas hh ho _ this
 refine ⟨(hf.same r aF nj).trans this,fun hs=>?_,h5⟩;rcases hf.new r hs with h | h | h
 ·grind
 ·grind
 ·omega
def JI {m':Mp} {S':Nat->Prop} {w':yi} {ap:Hp} {base:Nat} {ro:Option Nat} (hf:b6 m S w hp m' S' w' ap base) (h:rN ro w):rN ro w':=fun l hl=>
 let ⟨r,hr⟩:=h l hl
 hf.loops l r hr
def ew (O:bh) (m:Mp) (S:Nat->Prop) (w:yi) (s:St) (ex:Ex) (s':St) (n lo:Nat) (e:vP) (a':Act) (w':yi):Prop:=
 e=po ex/\∃m' S',bW O m' S' w' s'.tm a'.tmps/\aO O m' S' w' s'.hp s'.ct/\s'.base=s.base/\s.base<=s'.ct/\b6 m S w s.hp m' S' w' s'.hp s.base/\a'.tmps.size=n/\Marks lo S' w' a'.defers
def zM (O:bh) (h:Nat) (c:wK) (s:St) (ex:Ex) (s':St):Prop:=
 ∀(ro:Option Nat) (lo:Nat) (m:Mp) (S:Nat->Prop) (w:yi) (a:Act),rN ro w->bW O m S w s.tm a.tmps->aO O m S w s.hp s.ct->s.base<=s.ct->(O.hint h).n<=a.tmps.size->O.w0.heap.size<=lo->lo<=w.heap.size->Marks lo S w a.defers->
  c.wpIn (WF ro) 0 O.P (ew O m S w s ex s' a.tmps.size lo) a w
structure er (O:bh):Prop where
 hint:∀h,eT O (O.hint h)
 mixed:O.P.follows .mixedOrders=true
 prog:∀n F,O.prog n=some F->∃fn,O.P.funcs[O.af n]? =some fn/\CS O.P (O.hint n) fn=some F/\fn.name≠ "runtime.NumGoroutine"
 az:∀n sp ao r,O.az.pure n=some sp->sp ao=some r->dS O n ao r
 Dd:∀n sp hp ct ao v ap aV,O.az.heap n=some sp->sp hp ct ao=some (v,ap,aV)->zL O n hp ct ao v ap aV
def FV {P:xa} {H:Hint} {ops:Array y9}:∀(rs:List aX) (l:List y9) (done:List aX) (ms:List Nat),fH P H ops rs l->fH P H ops (lZ done rs ms) l
 | [],l,done,ms,h=>by
  cases ms<;>simpa only [lZ] using h
 | r::rs,[],done,ms,h=>by simp [fH] at h
 | r::rs,o::l,done,[],h=>by
  obtain ⟨d,g,op⟩:=r;cases op<;>simpa only [lZ] using h
 | r::rs,o::l,done,m::ms,h=>by
  simp only [fH] at h;obtain ⟨h1,h2⟩:=h;obtain ⟨d,g,op⟩:=r
  cases op with
  | ib Cd f xs=>
   simp only [lZ,fH];refine ⟨?_,FV rs l _ ms h2⟩;rcases h1 with h1 | ⟨_,h1⟩
   ·refine .inl ⟨?_,h1.dst,h1.ok,h1.guard⟩;obtain ⟨c,f',g1,g2,g3,g4⟩:=O1 h1.op;rw [g3,g4];exact .inr (.inl ⟨c,f',_,g1,g2,rfl⟩)
   ·simp [bad] at h1
  | st sz x y=>
   simp only [lZ,fH];refine ⟨?_,FV rs l _ ms h2⟩;rcases h1 with h1 | ⟨_,h1⟩
   ·refine .inl ⟨?_,h1.dst,h1.ok,h1.guard⟩;unfold stOp
    split
    ·exact h1.op
    ·obtain ⟨t,x',y',g1,g2,g3,g4⟩:=axl h1.op;exact .inr (.inr (.inl ⟨t,x',y',sz,_,g1,g2,by rw [g3,g4]⟩))
   ·simp [bad] at h1
  | aS sz b x y=>
   simp only [lZ,fH];refine ⟨?_,FV rs l _ ms h2⟩;rcases h1 with h1 | ⟨_,h1⟩
   ·refine .inl ⟨?_,h1.dst,h1.ok,h1.guard⟩;unfold ag2
    split
    ·exact h1.op
    ·obtain ⟨k,hk⟩:=aeA h1.op;exact .inr (.inr (.inr (.inl ⟨k,_,sz,b,x,y,hk,rfl⟩)))
   ·simp [bad] at h1
  | _=>
   simp only [lZ,fH];exact ⟨h1,FV rs l _ ms h2⟩
def aat {P:xa} {H:Hint} {ops:Array y9}:∀(rs:List aX) (l:List y9) (done:List aX),fH P H ops rs l->fH P H ops (C8 done rs) l
 | [],[],_,h=>h
 | [],_::_,_,h=>by simp [fH] at h
 | r::rs,[],done,h=>by simp [fH] at h
 | r::rs,o::l,done,h=>by
  simp only [fH] at h;obtain ⟨h1,h2⟩:=h;simp only [C8,fH];refine ⟨?_,aat rs l _ h2⟩;obtain ⟨d,g,op⟩:=r
  cases op with
  | aS sz b x y=>
   simp only
   cases aew done x with
   | false=>exact h1
   | true=>
    simp only [yz];rcases h1 with h1 | ⟨_,h1⟩
    ·refine .inl ⟨?_,h1.dst,h1.ok,h1.guard⟩;obtain ⟨k,hk⟩:=aeA h1.op;exact .inr (.inr (.inr (.inr ⟨k,sz,b,x,y,hk,rfl⟩)))
    ·simp [bad] at h1
  | _=>exact h1
end
section
variable {O:bh} {self:cx}
def aau {P:xa} {H:Hint} {ops:Array y9}:∀{rs:List aX} {l:List y9},fH P H ops rs l->rs.length=l.length/\∀(i:Nat) (r:aX) (o:y9),rs[i]? =some r->l[i]? =some o->KO P H ops r o\/(r.guard=none/\r.op=bad)
 | [],[],_=>⟨rfl,fun i r o h=>by simp at h⟩
 | [],_::_,h=>by simp [fH] at h
 | _::_,[],h=>by simp [fH] at h
 | r::rs,o::l,h=>by
  obtain ⟨h1,h2⟩:=aau h.2;refine ⟨by simp [h1],fun i r' o' hr ho=>?_⟩
  cases i with
  | zero=>simp at hr ho;subst hr;subst ho;exact h.1
  | succ i=>exact h2 i r' o' (by simpa using hr) (by simpa using ho)
def am9 {m:Mp} {S:Nat->Prop} {w:yi} {hp:Hp} {ct:Nat} (hh:aO O m S w hp ct):Calm w {w with drawn:=w.drawn+1}:=⟨rfl,rfl,rfl,yA _,fun _ _=>rfl⟩
def atg (hO:er O) (hC:mC O self) (h:Nat) (id:Nat) (ops:Array y9) (draw:Bool) (k:Nat) {s s':St} (hv:dh O.prog O.az self (Ka O.P (O.hint h) ops draw k).1 s=some s'):zM O h (.region id ops draw) s .normal s':=by
 intro ro lo m S w a cN ht hh hb hn aY eR cz;unfold Ka at hv;have Np:=YV (P:=O.P) (H:=O.hint h) (ops:=ops) ops.toList k;generalize hq:A6 O.P (O.hint h) ops ops.toList k=q at hv Np;obtain ⟨l,k'⟩:=q;simp only at hv Np;have post:∀{a':Act} {m':Mp} {S':Nat->Prop} {w':yi},aO O m' S' w' s'.hp s'.ct->s.ct<=s'.ct->bW O m' S' w' s'.tm a'.tmps->b6 m S w s.hp m' S' w' s'.hp s.ct->a'.tmps.size=a.tmps.size->a'.defers=a.defers->s'.base=s.base->ew O m S w s .normal s' a.tmps.size lo .normal a' w':=by
  intro a' m' S' w' h1 h2 h3 h4 h5 h6 h7;exact ⟨rfl,m',S',h3,h1,h7,by omega,h4.qv hb,h5,by rw [h6];exact zd hh h4 cz⟩
 cases draw with
 | false=>
  simp only [yX] at hv;refine wpIn_region ?_;rw [List.range_eq_range'];have hl:ops.size=ops.toList.length:=by simp
  rw [hl];exact abr hC (hO.hint h) ops.toList l 0 s s' a m S w (fun j=>by simp) Np hv ht hh hn (fun a' m' S' w' h1 h2 h3 h4 h5 h6 h7=>post h1 h2 h3 h4 h5 h6 h7)
 | true=>
  simp only [yz] at hv;have W6:∃rs,(zb ops.toList 0&&rI [] rs (jJ [] ops.toList))=true/\fH O.P (O.hint h) ops rs ops.toList/\dh O.prog O.az self rs s=some s':=by
   have Lo:=FV l ops.toList [] (jJ [] ops.toList) Np
   cases mj:(zb ops.toList 0&&rI [] (lZ [] l (jJ [] ops.toList)) (jJ [] ops.toList)) with
   | true=>
    rw [mj] at hv;exact ⟨_,mj,Lo,hv⟩
   | false=>
    rw [mj] at hv;simp only [yX] at hv
    cases QS:(zb ops.toList 0&&rI [] (C8 [] (lZ [] l (jJ [] ops.toList))) (jJ [] ops.toList)) with
    | true=>
     rw [QS] at hv;exact ⟨_,QS,aat _ _ _ Lo,hv⟩
    | false=>
     rw [QS] at hv;simp [dh,bad,bg,eD,ay] at hv
  clear hv;obtain ⟨rs,mj,Lo,hv⟩:=W6
  ·simp only [yf] at mj;obtain ⟨hlen,aA⟩:=aau Lo;obtain ⟨bU,bK,bE,vF,hR,e1,e2,e3,e4,e5,e6,e7⟩:=abt hv;have hG:qh O (O.hint h) self ops rs bU bK bE vF:=by
    refine ⟨hR,by rw [hlen];simp,fun i r o hr ho=>?_,fun i j x y WZ hx hy=>?_,fun i o ho e he hbd=>?_⟩
    ·rcases aA i r o hr (by simpa using ho) with g | ⟨g1,g2⟩
     ·exact g
     ·have:=hR.step i r hr
      simp [eH,g1,nX,g2,bad,bg,eD,ay] at this
    ·obtain ⟨mm,g1,g2⟩:=Yl (done:=[]) (i:=i) (j:=j) (a:=x) (b:=y) mj.2 (by simpa using hx) hy (by simpa using WZ);refine g2.imp (fun g=>?_) (fun g=>by simpa using g);unfold Ord;rw [xF,g1];exact g
    ·have:=Yg mj.1 (j:=i) (o:=o) (by simpa using ho) e he hbd
     omega
   refine wpIn_region_any hO.mixed ?_;have G1:=am9 hh;have gn:=A2 hh G1 (S':=S) (fun _ h=>h) (fun _ h=> .inl h) hh.slt
   have D9:b6 m S w s.hp m S {w with drawn:=w.drawn+1} s.hp (bE 0):=zg hh G1 (fun _ h=>h) (fun _ h=> .inl h);obtain ⟨c,c1,c2,c3,c4⟩:=PP rs rs.length 0 (by omega);have hg:∀k',k'<=c->gP (bK 0) (bE 0) (bK (0+k')) (bE (0+k')):=fun k' Ar=>
    JG hR (by rw [e2,e3];exact hh.aF) k' (by omega) (fun j r g1 g2 hr=>F6 hr (c3 j g1 (by omega)))
   have gK:=hg c (yA _);rw [yh] at gK;obtain ⟨S1,g1,g2,g3,g4⟩:=JW (by rw [e2,e3];exact gn:aO O m S {w with drawn:=w.drawn+1} (bK 0) (bE 0)) gK
   have qg:∀i,(vQ ops.size false).getD i false=true->False:=fun i hi=>by
    simp only [wG] at hi;by_cases aF:i<ops.size
    ·simp [aF] at hi
    ·rw [Array.getElem?_eq_none (by simpa using aF)] at hi;simp at hi
   refine atf (m0:=m) (S0:=S) (w0:=w) (n0:=a.tmps.size) (d0:=a.defers) hC (hO.hint h) hG hn (fun a' m' S' w' h1 h2 h3 h4 h5 h6=>?_) ops.size _ 0 c m S1 _ a (by simp) ?_ (fun j o _ hj=>(qg j hj).elim) ?_
   ·rw [e5,e6] at h1;rw [e3,e6] at h2;rw [e4] at h3;rw [e2,e3,e5] at h4;exact post h1 h2 h3 h4 h5 h6 e7
   ·unfold left;rw [List.countP_eq_length.2]
    ·simp
    ·intro i hi;simp only [uS]
     cases hq:(vQ ops.size false).getD i false with
     | false=>rfl
     | true=>exact (qg i hq).elim
   ·refine ⟨uU _,c2,fun i hi=>by omega,c3,c4.imp (fun h=>h) (fun h=>⟨h,fun hd=>qg c hd⟩),fun i r _ _ _ hd=>qg i hd,g1,fun id p hp=> .inl (by rw [e3];exact hh.lt id p hp),fun t=>⟨0,uU _,fun i r _ _=>⟨fun hd=>(qg i hd).elim,fun h=>by omega⟩,?_⟩,?_,gK.oE,rfl,rfl,.inl rfl,fun j hj=>?_⟩
    ·rw [e1];exact kj (fun _ _ h=>h) (fun b hb=>g2 b hb) (fun b hb=>G1.same b (hh.slt b hb)) _ _ (ht t)
    ·rw [e2];have g5:=g4 (bE 0);rw [e2] at g5;exact D9.trans g5
    ·have:=(hg j hj).lt
     rw [yh] at this;exact this
end
end
section
open Go
section
variable {O:bh} {m:Mp} {S:Nat->Prop} {w:yi} {hp:Hp} {ct:Nat}
def YY (hh:aO O m S w hp ct) {g:Nat} {w':yi} (hw:One w w' g) (hg:¬S g) (ho:¬dN m hp g) (aY:O.w0.heap.size<=g):aO O m S w' hp ct:=by
 have aT:fp S w w':=fun b hb=>hw.other b (fun e=>hg (e▸hb))
 refine ⟨fun id o p h1 h2=>?_,hh.lt,hh.inj,fun b hb=>by rw [hw.size];exact hh.slt b hb,fun id p h=>by rw [hw.size];exact hh.blt id p h,hh.low,fun b hb=>?_,by rw [hw.size];exact hh.fB,hh.aF⟩
 ·exact pT (fun _ _ h=>h) (fun _ h=>h) aT (fun q hq=>hw.other _ (fun e=>ho ⟨id,o,q,h1,hq,e⟩)) (fun _ _ h=>h) (hh.obj id o p h1 h2)
 ·rw [hw.other b (by omega)];exact hh.ju b hb
def YZ {P:xa} {b:Nat} {o:tR} (h:w.heap[b]? =some o) (hc:∀c t f,o≠.cells c t f):(getObj b).run P w= .ok o w:=by
 simp only [getObj,Sem.run,h]
def Jt {P:xa} {b:Nat} {o x:tR} (h:w.heap[b]? =some o) (hc:∀c t f,o≠.cells c t f):(setObj b x).run P w= .ok () {w with heap:=w.heap.setIfInBounds b x}:=by
 simp only [setObj,Sem.run,h]
def FA {P:xa} {b:Nat} {r:uo} (h:w.heap[b]? =some (.loop r)):(Instr.getLoop b).run P w= .ok r w:=by
 simp only [Instr.getLoop,Sem.run_bind,YZ (P:=P) h (fun _ _ _=>by simp),Result.andThen_ok,Sem.run_pure]
def F7 (hh:aO O m S w hp ct) {l:Nat} {tm:Env} {ps:List Nat} {cy body:VC} {st:Nat} {pe:rZ} {p:Pl} (hg:aA hp l=some (.lp tm ps cy body st pe)) (hm:m l=some p):
  ∃(r:uo) (h:Nat),w.heap[p.b]? =some (.loop r)/\¬S p.b/\r.state=zT st/\st<=2/\r.pending=rM pe/\bW O m S w tm r.tmps/\r.params.toList=ps/\An O.P (O.hint h) cy r.assign/\An O.P (O.hint h) body r.body/\
   (O.hint h).n<=r.tmps.size/\rR (O.hint h).n ps=true:=by
 obtain ⟨q,r,h,g1,g2,g3⟩:=hh.obj l _ p hg hm
 grind
def ZK (hh:aO O m S w hp ct) {l:Nat} {tm:Env} {ps:List Nat} {cy body:VC} {st:Nat} {pe:rZ} {p:Pl} (hg:aA hp l=some (.lp tm ps cy body st pe)) (hm:m l=some p) {r:uo} (hr:w.heap[p.b]? =some (.loop r))
  {st':Nat} {pe':rZ} (h2:st'<=2):
  aO O m S {w with heap:=w.heap.setIfInBounds p.b (.loop {r with state:=zT st',pending:=rM pe'})} (bi hp l (.lp tm ps cy body st' pe')) ct/\
  b6 m S w hp m S {w with heap:=w.heap.setIfInBounds p.b (.loop {r with state:=zT st',pending:=rM pe'})} (bi hp l (.lp tm ps cy body st' pe')) ct:=by
 obtain ⟨r',h,g1,g2,g3,g4,g5,g6,g7,g8,g9,g10,g11⟩:=F7 hh hg hm;rw [hr] at g1;injection g1 with g1
 injection g1 with g1
 subst g1;have fK:=CE w p.b (.loop {r with state:=zT st',pending:=rM pe'})
 refine FT hh hg hm g2 fK ⟨p,{r with state:=zT st',pending:=rM pe'},h,hm,Jp hr,g2,rfl,h2,rfl,?_,g7,g8,g9,g10,g11⟩ (fun _ _=>⟨_,Jp hr⟩);exact zc (fun _ _ h=>h) (fun _ h=>h) (fun b hb=>fK.other b (fun e=>g2 (e▸hb))) g6
def ZL {n:Nat}:∀{ps:List Nat} {vs:List AV} {us:List yg} {tm bG:Env} {tmps:Array yg},p0 tm ps vs=some bG->av O.af m S w vs us->bW O m S w tm tmps->n<=tmps.size->rR n ps=true->
  ps.length=us.length/\bW O m S w bG ((ps.zip us).foldl (fun t (x:Nat×yg)=>t.setIfInBounds x.1 x.2) tmps)/\((ps.zip us).foldl (fun t (x:Nat×yg)=>t.setIfInBounds x.1 x.2) tmps).size=tmps.size
 | [],[],us,tm,bG,tmps,h,hr,ht,hn,ha=>by
  simp only [p0,yb] at h;simp only [av] at hr
  simp_all
 | [],_::_,us,tm,bG,tmps,h,hr,ht,hn,ha=>by simp [p0] at h
 | _::_,[],us,tm,bG,tmps,h,hr,ht,hn,ha=>by simp [p0] at h
 | p::ps,v::vs,us,tm,bG,tmps,h,hr,ht,hn,ha=>by
  simp only [p0] at h;obtain ⟨u,t,rfl,h1,h2⟩:=hr;simp only [rR,yf] at ha;have hp:=rK.1 ha.1;have ht1:bW O m S w ((p,v)::tm) (tmps.setIfInBounds p u):=O4 (a:=⟨tmps,[]⟩) (d:=some p) ht (fun i hi=>by injection hi with hi;show i<tmps.size;omega) h1
  obtain ⟨g1,g2,g3⟩:=ZL (n:=n) h h2 ht1 (by simpa using hn) ha.2
  simp_all
def aoV (ps:Array Tmp) (args:Array yg) (tmps:Array yg):(ps.zip args).foldl (fun tmps (x:Tmp×yg)=>tmps.setIfInBounds x.1 x.2) tmps=(ps.toList.zip args.toList).foldl (fun t (x:Nat×yg)=>t.setIfInBounds x.1 x.2) tmps:=by
 rw [<-Array.foldl_toList,Array.toList_zip]
def ale {P:xa} {b:Nat} {r:uo} (h:w.heap[b]? =some (.loop r)) (jump:Option wK):
  (Instr.endRound b jump).run P w= .ok (.bool jump.isNone) {w with heap:=w.heap.setIfInBounds b (.loop {r with state:=if jump.isNone then .ready else .done,pending:=jump})}:=by
 simp only [Instr.endRound,Sem.run_bind,FA h,Result.andThen_ok,Jt (P:=P) h (fun _ _ _=>by simp),Sem.run_pure]
def ak3 {P:xa} {b:Nat} {r:uo} (h:w.heap[b]? =some (.loop r)) (hs:r.state= .ready):
  (Instr.beginRound b).run P w= .ok () {w with heap:=w.heap.setIfInBounds b (.loop {r with state:= .busy})}:=by
 simp only [Instr.beginRound,Sem.run_bind,FA h,Result.andThen_ok,Jt (P:=P) h (fun _ _ _=>by simp),hs,Sem.run_pure]
def aoW {self:cx} (hS:∀v s ex s',self v s=some (ex,s')->∀c h l k,(comp O.P (O.hint h) c l k).1=v->zM O h c s ex s') {l:Nat} {xs:List AV} {v:AV} {ap:Hp} {aV:Nat}
  (hv:mB self hp ct l xs=some (v,ap,aV)):aex O hp ct l xs v ap aV:=by
 intro m S w args p hh hm fC;unfold mB at hv
 split at hv
 case h_2=>cases hv
 rename_i tm ps cy body pe hg;obtain ⟨r,h,g1,g2,g3,g4,g5,g6,g7,⟨ca,ka,g8⟩,⟨cb,kb,g9⟩,g10,g11⟩:=F7 hh hg hm
 cases hb:p0 tm ps xs with
 | none=>simp [hb] at hv
 | some bG=>
  simp only [hb] at hv;obtain ⟨b1,b2,b3⟩:=ZL hb fC g6 g10 g11;rw [<-g7] at b1 b2 b3;have ez:args.size=r.params.size:=by
   grind
  let tmps:Array yg:=(r.params.zip args).foldl (fun tmps (x:Tmp×yg)=>tmps.setIfInBounds x.1 x.2) r.tmps
  have aha:tmps=(r.params.toList.zip args.toList).foldl (fun t (x:Nat×yg)=>t.setIfInBounds x.1 x.2) r.tmps:=aoV _ _ _;refine ⟨r.fn,tmps,r.assign,r.body,?_,?_⟩
  ·simp only [Instr.yield,Sem.run_bind,FA g1,Result.andThen_ok,ez,ne_eq,ycx,xk,Sem.run_pure];rfl
  refine roundIn_of_wpIn (F:=Fence.wide) trivial ?_
  cases h1:self cy ⟨bG,hp,ct,ct⟩ with
  | none=>simp [h1] at hv
  | some q=>
   obtain ⟨ex1,s1⟩:=q
   cases ex1 with
   | ret=>simp [h1] at hv
   | exit id=>simp [h1] at hv
   | normal=>
    simp only [h1] at hv;have dU:=hS _ _ _ _ h1 r.assign h ca ka g8;have cN:∀w',b6 m S w hp m S w' hp ct->rN (some p.b) w':=fun w' hf=>JI hf (fun l hl=>⟨r,by injection hl with hl;subst hl;exact g1⟩)
    refine wpIn_mono (dU (some p.b) w.heap.size m S w ⟨tmps,[]⟩ (cN w b6.refl) (by rw [aha];exact b2) hh (yA _) (by show _<=tmps.size;rw [aha,b3];exact g10) hh.fB (yA _) ⟨[],rfl,by simp,by simp⟩) ?_
    rintro e a1 w1 ⟨rfl,m1,S1,k1,k2,k3,k4,k5,k6,k7⟩;simp only [po,Exit.then];have oF:m1 l=some p:=k5.old l p (hh.lt l p hm) hm
    split at hv
    case h_2=>cases hv
    rename_i ja B3 Am Bx sD gK;obtain ⟨r1,gn,f1,f2,f3,f4,f5,f6,f7,f8,f9,f10,f11⟩:=F7 k2 gK oF;have W7:=ak3 (P:=O.P) f1 f3;obtain ⟨q1,q2⟩:=ZK k2 gK oF f1 (st':=1) (pe':=sD) (by omega)
    have dO:({r1 with state:=zT 1,pending:=rM sD}:uo)={r1 with state:= .busy}:=by rw [<-f5];rfl
    rw [dO] at q1 q2;refine ⟨_,W7,?_⟩
    cases h2:self body ⟨s1.tm,bi s1.hp l (.lp ja B3 Am Bx 1 sD),s1.ct,s1.ct⟩ with
    | none=>simp [h2] at hv
    | some q=>
     obtain ⟨ex,s2⟩:=q;simp only [h2] at hv;have qW:=hS _ _ _ _ h2 r.body h cb kb g9
     have ayT:rN (some p.b) {w1 with heap:=w1.heap.setIfInBounds p.b (.loop {r1 with state:= .busy})}:=fun l hl=>by
      grind
     have W8:bW O m1 S1 {w1 with heap:=w1.heap.setIfInBounds p.b (.loop {r1 with state:= .busy})} s1.tm a1.tmps:=
      zc (fun _ _ h=>h) (fun _ h=>h) (fun b hb=>q2.still b hb) k1
     have ayU:(O.hint h).n<=a1.tmps.size:=by
      grind
     refine wpIn_mono (qW (some p.b) w.heap.size m1 S1 _ a1 ayT W8 q1 (yA _) ayU hh.fB (xe k5.size q2.size) (zd k2 q2 k7)) ?_;rintro e a2 w2 ⟨rfl,m2,S2,j1,j2,j3,j4,j5,j6,j7⟩;have IC:m2 l=some p:=j5.old l p (k2.lt l p oF) oF
     split at hv
     case h_2=>cases hv
     rename_i pz Im Io GX pe2 Eg;obtain ⟨r2,ID,d1,d2,d3,d4,d5,d6,d7,d8,d9,d10,d11⟩:=F7 j2 Eg IC;have ayV:b6 m S w hp m2 S2 w2 s2.hp ct:=(k5.trans (q2.qv k4)).trans (j5.qv k4);have ahb:ct<=s2.ct:=xe k4 j4;have fin:∀(jump:Option wK) (st':Nat) (pe':rZ),rM pe'=jump->zT st'=(if jump.isNone then .ready else .done)->st'<=2->
       ∃v' w',(Instr.endRound p.b jump).run O.P w2= .ok v' w'/\rD O m S w hp ct (.bool jump.isNone) (bi s2.hp l (.lp pz Im Io GX st' pe')) s2.ct (.returned v') w':=by
      intro jump st' pe' e1 e2 e3;obtain ⟨z1,z2⟩:=ZK j2 Eg IC d1 (st':=st') (pe':=pe') e3;rw [e1,e2] at z1 z2;exact ⟨_,_,ale d1 jump,_,m2,S2,rfl,z1,ahb,by simp [ah],ayV.trans (z2.qv ahb)⟩
     cases ex with
     | normal=>
      simp only [yb,yk] at hv;obtain ⟨rfl,rfl,rfl⟩:=hv;simp only [po,roundPost];exact fin none 0 .none rfl rfl (by omega)
     | ret=>
      simp only [PI,yb,yk] at hv;obtain ⟨rfl,rfl,rfl⟩:=hv;simp only [po,roundPost];exact fin (some .ret) 2 .ret rfl rfl (by omega)
     | exit id=>
      simp only [PI,yb,yk] at hv;obtain ⟨rfl,rfl,rfl⟩:=hv;simp only [po,roundPost];exact fin (some (.exit id)) 2 (.exit id) rfl rfl (by omega)
end
end
section
open Go
section
variable {O:bh} {self:cx}
def CL {P:xa} {f:tA} {fn:yai} {args:Array yg} {w:yi} (hf:P.funcs[f]? =some fn) (hb:fn.body.isSome=true) (hn:fn.name≠ "runtime.NumGoroutine"):(callFunc f args).run P w= .ok (.enter f args) w:=by
 have h1:fn.body≠none:=fun e=>by rw [e] at hb;cases hb
 simp [callFunc,program,Sem.run,hf,h1,hn]
def Of {P:xa} {H:Hint} {fn:yai} {F:aE} (h:CS P H fn=some F):∃c,fn.body=some c/\F.body=(comp P H c 0 0).1/\nM P fn.results.toList=some F.dj/\H.n<=fn.ntmps:=by
 unfold CS at h
 split at h
 ·rename_i c rs h1 h2
  cases hb:yy H.n fn.ntmps with
  | false=>rw [hb] at h;cases h
  | true=>
   rw [hb] at h;simp only [yz,yb] at h;subst h
   simp_all
 ·cases h
def aoX {m:Mp} {S:Nat->Prop} {w:yi} {hp:Hp} {ct:Nat} {tm:Env} {a:Act} {ro:Option Nat} (fn:tA) (ps:Array Tmp) (assign body:wK) {cy b':VC} {h:Nat} (hh:aO O m S w hp ct) (ht:bW O m S w tm a.tmps) (cN:rN ro w)
  (Cg:An O.P (O.hint h) cy assign) (W9:An O.P (O.hint h) b' body) (hn:(O.hint h).n<=a.tmps.size) (gI:rR (O.hint h).n ps.toList=true) {lo:Nat} (eR:lo<=w.heap.size) (cz:Marks lo S w a.defers):
  ∃l mark w1,(Instr.enterLoop fn a.tmps ps assign body ro).run O.P w= .ok (l,mark) w1/\aO O (ff m ct ⟨l,0,0,0⟩) S w1 ((ct,.lp tm ps.toList cy b' 0 .none)::hp) (ct+1)/\
   b6 m S w hp (ff m ct ⟨l,0,0,0⟩) S w1 ((ct,.lp tm ps.toList cy b' 0 .none)::hp) ct/\m ct=none/\Marks lo S w1 (mark++a.defers)/\w.heap.size<=l:=by
 have bH:m ct=none:=by
  cases hq:m ct with
  | none=>rfl
  | some p=>have:=hh.lt ct p hq;omega
 have lay:∀(w':yi) (d:Nat),Calm w w'->Marks lo S w' a.defers->
   aO O (ff m ct ⟨w'.heap.size,0,0,0⟩) S (w'.alloc (.loop {state:= .ready,pending:=none,fn:=fn,tmps:=a.tmps,params:=ps,assign:=assign,body:=body,defers:=d})) ((ct,.lp tm ps.toList cy b' 0 .none)::hp) (ct+1)/\
   b6 m S w hp (ff m ct ⟨w'.heap.size,0,0,0⟩) S (w'.alloc (.loop {state:= .ready,pending:=none,fn:=fn,tmps:=a.tmps,params:=ps,assign:=assign,body:=body,defers:=d})) ((ct,.lp tm ps.toList cy b' 0 .none)::hp) ct:=by
  intro w' d hw ahc;have gn:aO O m S w' hp ct:=A2 hh hw (fun _ h=>h) (fun _ h=> .inl h) (fun b hb=>yE (hh.slt b hb) hw.size);have D9:b6 m S w hp m S w' hp ct:=zg hh hw (fun _ h=>h) (fun _ h=> .inl h);have hg:gP hp ct ((ct,.lp tm ps.toList cy b' 0 .none)::hp) (ct+1):=by
   refine ⟨fun id o ho=>⟨o,?_,ix.refl o⟩,by omega,fun id o ho=>?_,fun id o ho hi=>?_⟩
   ·rw [fm,yu (by have:=hh.aF id o ho;omega)];exact ho
   ·rw [fm] at ho;by_cases hc:ct=id
    ·omega
    ·simp only [hc,xk] at ho;have:=hh.aF id o ho;omega
   ·rw [fm,yu (by omega)] at ho;exact ⟨o,ho⟩
  have gL:∀i q,aA ((ct,Obj.lp tm ps.toList cy b' 0 .none)::hp) i=some q->i≠ct->aA hp i=some q:=fun i q h hi=>by
   rw [fm,yu (fun e=>hi e.symm)] at h;exact h
  have ID:aO O m S w' ((ct,.lp tm ps.toList cy b' 0 .none)::hp) (ct+1):=by
   have fy:∀id p,m id=some p->id≠ct:=fun id p hm e=>by have:=hh.lt id p hm;omega
   exact ⟨fun id o p ho hm=>gn.obj id o p (gL id o ho (fy id p hm)) hm,fun id p hm=>by have:=hh.lt id p hm;omega,
    fun i j oi oj pi pj hi hj bH fP e=>gn.inj i j oi oj pi pj (gL i oi hi (fy i pi bH)) (gL j oj hj (fy j pj fP)) bH fP e,gn.slt,gn.blt,gn.low,gn.ju,gn.fB,hg.lt⟩
  have ni:eM O (ff m ct ⟨w'.heap.size,0,0,0⟩) S (w'.alloc (.loop {state:= .ready,pending:=none,fn:=fn,tmps:=a.tmps,params:=ps,assign:=assign,body:=body,defers:=d})) ct (.lp tm ps.toList cy b' 0 .none):=by
   refine ⟨⟨w'.heap.size,0,0,0⟩,_,h,dC,heap_alloc_new w' _,?_,rfl,by omega,rfl,?_,rfl,Cg,W9,hn,gI⟩
   ·intro hS
    have:=gn.slt _ hS
    simp at this
   ·exact zc (iJ bH) (fun _ h=>h) (fun b hb=>(FD gn _ b hb).trans (hw.same b (hh.slt b hb))) ht
  obtain ⟨S',k1,k2,k3⟩:=OY (i:=ct) (p:=⟨w'.heap.size,0,0,0⟩) ID bH (by omega) rfl (fun o ho=>by
   rw [fm] at ho;simp only [xR,yb] at ho;subst ho
   exact .inl ⟨ni,by simp [gO]⟩)
  have k1':aO O (ff m ct ⟨w'.heap.size,0,0,0⟩) S (w'.alloc (.loop {state:= .ready,pending:=none,fn:=fn,tmps:=a.tmps,params:=ps,assign:=assign,body:=body,defers:=d})) ((ct,.lp tm ps.toList cy b' 0 .none)::hp) (ct+1):=by
   have It:∀id q,m id=some q->q.b≠w'.heap.size:=fun id q hq=>by have:=gn.blt id q hq;omega
   refine ⟨?_,k1.lt,k1.inj,fun b hb=>k1.slt b (k2 b hb),k1.blt,k1.low,k1.ju,k1.fB,k1.aF⟩;intro id o q ho hm;by_cases hc:id=ct
   ·subst hc;rw [fm] at ho
    grind
   ·rw [dP hc] at hm;exact pT (iJ bH) (fun _ h=>h) (FD gn _) (fun q' bL=>alloc_old (gn.blt id q' bL)) (fun _ _ h=>h) (gn.obj id o q (gL id o ho hc) hm)
  refine ⟨k1',D9.trans ⟨rfl,rfl,rfl,by simp,fun b hb _=>alloc_old hb,fun _ h=>h,fun b hb=>FD gn _ b hb,fun b hb=> .inl hb,?_,fun i q _ hq=>iJ bH i q hq,fun b r hb=>⟨r,(alloc_old (xo.1 hb).1).trans hb⟩⟩⟩;rintro b ⟨i,o,q,g1,g2,g3⟩;by_cases hc:i=ct
  ·subst hc;rw [dC] at g2
   grind
  ·rw [dP hc] at g2;exact .inl ⟨i,o,q,gL i o g1 hc,g2,g3⟩
 cases ro with
 | none=>
  have G1:Calm w (w.alloc (.deferred (some []))):=⟨rfl,rfl,rfl,by simp,fun b hb=>alloc_old hb⟩;obtain ⟨rs,r1,r2,r3⟩:=cz;have ayW:Marks lo S (w.alloc (.deferred (some []))) a.defers:=⟨rs,r1,r2,fun r hr=>⟨(alloc_old (xo.1 (r3 r hr).1).1).trans (r3 r hr).1,(r3 r hr).2⟩⟩;obtain ⟨k1,k2⟩:=lay (w.alloc (.deferred (some []))) w.heap.size G1 ayW
  refine ⟨(w.alloc (.deferred (some []))).heap.size,[{target:= .collected w.heap.size,args:=#[]}],_,?_,k1,k2,bH,?_,by simp⟩
  ·simp [Instr.enterLoop,newObj,Sem.run]
  ·have hold:∀(b:Nat) (x:tR),(w.alloc (.deferred (some []))).heap[b]? =some x->((w.alloc (.deferred (some []))).alloc (.loop {state:= .ready,pending:=none,fn:=fn,tmps:=a.tmps,params:=ps,assign:=assign,body:=body,defers:=w.heap.size})).heap[b]? =some x:=fun b x hb=>
    (alloc_old (xo.1 hb).1).trans hb
   refine ⟨w.heap.size::rs,by rw [r1];rfl,?_,?_⟩
   ·grind
   ·intro r hr;rcases wZ.1 hr with rfl | hr
    ·exact ⟨hold _ _ (heap_alloc_new w _),fun hs=>by have:=hh.slt _ hs;omega,eR⟩
    ·exact ⟨hold _ _ ((alloc_old (xo.1 (r3 r hr).1).1).trans (r3 r hr).1),(r3 r hr).2⟩
 | some l0=>
  obtain ⟨r0,nl⟩:=cN l0 rfl;obtain ⟨k1,k2⟩:=lay w r0.defers Calm.refl cz;refine ⟨w.heap.size,[],_,?_,k1,k2,bH,?_,yA _⟩
  ·simp [Instr.enterLoop,FA nl,newObj,Sem.run]
  ·exact zd hh k2 cz
def axm (hO:er O) (hC:mC O self) {h:Nat} {f:xq} {ps:Array Tmp} {assign body:wK} {cy b':VC} (Cg:An O.P (O.hint h) cy assign) (W9:An O.P (O.hint h) b' body) (gI:rR (O.hint h).n ps.toList=true)
  {s:St} {ex:Ex} {s':St} (hv:bD O.prog O.az self (.rf (aK (O.hint h) f) ps.toList cy b') s=some (ex,s')):zM O h (.rangeFunc f ps assign body) s ex s':=by
 intro ro lo m S w a cN ht hh hb hn aY eR cz;simp only [bD] at hv
 split at hv
 case h_2=>cases hv
 rename_i n first cap hx
 split at hv
 case h_1=>cases hv
 rename_i hL
 cases he:ia O.prog O.az self ((s.ct,.lp s.tm ps.toList cy b' 0 .none)::s.hp) (s.ct+1) n (first++(.fn (.y s.ct) [] []::cap)) with
 | none=>simp [he] at hv
 | some q=>
  obtain ⟨v,bm,nk⟩:=q;simp only [he] at hv
  split at hv
  case h_2=>cases hv
  rename_i pz Im Io GX st pe Eg
  cases aT:yp st 1 with
  | true=>rw [aT] at hv;cases hv
  | false=>
   rw [aT] at hv;simp only [yX] at hv;refine wpIn_rangeFunc (fun fn _=>?_);obtain ⟨l,mark,w1,e1,e2,e3,e4,e5,e6⟩:=aoX (ro:=ro) fn ps assign body hh ht cN Cg W9 hn gI eR cz;have rf:=cf (hO.hint h) ht f;rw [hx] at rf;simp only [ah] at rf;obtain ⟨fi,ca,hf,r2,r3⟩:=rf;have hle:=iJ e4 (p:=⟨l,0,0,0⟩);have De:fp S w w1:=fun b hb=>e3.still b hb
   have fC:av O.af (ff m s.ct ⟨l,0,0,0⟩) S w1 (first++(.fn (.y s.ct) [] []::cap)) (fi++#[Value.func (.yield l) #[] #[]]++ca).toList:=by
    have:=j9 (fZ hle (fun _ h=>h) De _ _ r2) (j9 (a:=[.fn (.y s.ct) [] []]) (x:=[Value.func (.yield l) #[] #[]]) (by
     simp only [av]
     exact ⟨_,[],rfl,by simp only [ah];exact ⟨_,dC,rfl⟩,rfl⟩) (fZ hle (fun _ h=>h) De _ _ r3))
    grind
   have Qf:=hC.heap _ _ _ _ _ _ _ he _ S w1 _ e2 fC;have hP:∃F,O.prog n=some F:=by
    unfold ia at he;rw [hL] at he
    cases hq:O.prog n with
    | none=>simp [hq] at he
    | some F=>exact ⟨F,rfl⟩
   obtain ⟨F,hF⟩:=hP;obtain ⟨fn',q1,q2,q3⟩:=hO.prog n F hF;obtain ⟨cb,q4,_⟩:=Of q2;have eV:(callFunc (O.af n) (fi++#[Value.func (.yield l) #[] #[]]++ca)).run O.P w1= .ok (.enter (O.af n) (fi++#[Value.func (.yield l) #[] #[]]++ca)) w1:=CL q1 (by rw [q4];rfl) q3
   refine ⟨l,mark,w1,{target:= .fn (.func (O.af n)) ca,args:=fi++#[Value.func (.yield l) #[] #[]]},w1,O.af n,fi++#[Value.func (.yield l) #[] #[]]++ca,w1,e1,?_,fun _ _=>trivial,?_,fun hd=>by simp [WF,Fence.wide] at hd,?_⟩
   ·show Sem.run O.P (Deferred.ofValue (a.eval f) _) w1=_
    rw [hf];simp [Deferred.ofValue,Act.eval]
   ·simp only [invoke];exact eV
   ·rcases Qf with ⟨_,Qf⟩ | ⟨u,w',h1,_⟩
    case inr=>rw [eV] at h1;cases h1
    have ath:CallsIn (WF ro) 0 O.P (O.af n) (fi++#[Value.func (.yield l) #[] #[]]++ca) w1 (rD O (ff m s.ct ⟨l,0,0,0⟩) S w1 ((s.ct,.lp s.tm ps.toList cy b' 0 .none)::s.hp) (s.ct+1) v bm nk):=Qf;refine CallsIn.mono ath ?_;rintro e w3 ⟨u,m',S',rfl,k1,k2,k3,k4⟩;have gW:m' s.ct=some ⟨l,0,0,0⟩:=k4.old s.ct _ (tM _) dC;obtain ⟨r,ID,d1,d2,d3,d4,d5,d6,_⟩:=F7 k1 Eg gW;have oG:(r.state==LoopState.busy)=false:=by
     rw [d3];rcases st with _ | _ | st
     ·rfl
     ·simp_all
     ·have:st=0:=by omega
      subst this;rfl
    have fK:=CE w3 l (.loop {r with state:= .exhausted});have hdl:=aao k1 s.ct;have nj:¬dN m' (ej bm s.ct) l:=Yt k1 Eg gW
    have z1:aO O m' S' {w3 with heap:=w3.heap.setIfInBounds l (.loop {r with state:= .exhausted})} (VE.ej bm s.ct) nk:=YY hdl fK d2 nj (by have:=hh.fB;omega)
    have z2:b6 m' S' w3 bm m' S' {w3 with heap:=w3.heap.setIfInBounds l (.loop {r with state:= .exhausted})} (VE.ej bm s.ct) s.base:=by
     refine ⟨rfl,rfl,rfl,by rw [fK.size];exact yA _,fun b _ hb=>fK.other b (fun e=>hb (e▸Gh Eg gW)),fun _ h=>h,fun b hb=>fK.other b (fun e=>d2 (e▸hb)),fun b hb=> .inl hb,fun b hb=> .inl (abp hb),fun _ _ _ h=>h,fun b x hb=>?_⟩
     grind
    have QT:b6 m S w s.hp m' S' {w3 with heap:=w3.heap.setIfInBounds l (.loop {r with state:= .exhausted})} (VE.ej bm s.ct) s.base:=
     ((e3.qv hb).trans (k4.qv (by omega))).trans z2
    have Lp:(Instr.endLoop l).run O.P w3= .ok (rM pe) {w3 with heap:=w3.heap.setIfInBounds l (.loop {r with state:= .exhausted})}:=by
     simp only [Instr.endLoop,Sem.run_bind,FA d1,Result.andThen_ok,oG,yB,xk,Sem.run_pure,Jt (P:=O.P) d1 (fun _ _ _=>by simp),d5]
    have ahc:Marks lo S' {w3 with heap:=w3.heap.setIfInBounds l (.loop {r with state:= .exhausted})} (mark++a.defers):=zd k1 z2 (zd e2 k4 e5)
    have sK:bW O m' S' {w3 with heap:=w3.heap.setIfInBounds l (.loop {r with state:= .exhausted})} s.tm a.tmps:=by
     refine zc (fun id p hp=>?_) QT.sub (fun b hb=>QT.still b hb) ht;have h1:=hh.lt id p hp;exact k4.old id p (by omega) (hle id p hp)
    have post:∀Xa,s'={s with hp:=VE.ej bm s.ct,ct:=nk}->ex=Xa->ew O m S w s ex s' a.tmps.size lo (po Xa) {a with defers:=mark++a.defers} {w3 with heap:=w3.heap.setIfInBounds l (.loop {r with state:= .exhausted})}:=by
     rintro Xa rfl rfl;exact ⟨rfl,m',S',sK,z1,rfl,by show s.base<=nk;omega,QT,rfl,ahc⟩
    refine ⟨_,_,Lp,?_⟩
    cases pe with
    | none=>
     simp only [yb,yk] at hv;exact post .normal hv.2.symm hv.1.symm
    | ret=>
     simp only [yb,yk] at hv;exact wpIn_ret (post .ret hv.2.symm hv.1.symm)
    | exit id=>
     simp only [yb,yk] at hv;exact wpIn_exit (post (.exit id) hv.2.symm hv.1.symm)
end
end
def Le (f g:cx):Prop:=∀c s r,f c s=some r->g c s=some r
section
variable {P:aM} {L:Lib} {f g:cx}
def N7 (h:Le f g) (n:Nat) (ao:List AV) (r:AV) (hr:bM P L f n ao=some r):bM P L g n ao=some r:=by
 unfold bM at hr ⊢
 cases hL:L.pure n with
 | some sp=>simpa only [hL] using hr
 | none=>
  simp only [hL] at hr ⊢
  cases hP:P n with
  | none=>simp [hP] at hr
  | some F=>
   simp only [hP] at hr ⊢
   cases hf:f F.body ⟨dQ 0 ao,[],0,0⟩ with
   | none=>simp [hf] at hr
   | some q=>rw [h _ _ _ hf];simpa only [hf] using hr
def Og (h:Le f g) (hp:Hp) (ct:Nat) (n:Nat) (ao:List AV) (r:AV×Hp×Nat) (hr:ia P L f hp ct n ao=some r):ia P L g hp ct n ao=some r:=by
 unfold ia at hr ⊢
 cases hL:L.heap n with
 | some sp=>simpa only [hL] using hr
 | none=>
  simp only [hL] at hr ⊢
  cases hP:P n with
  | none=>simp [hP] at hr
  | some F=>
   simp only [hP] at hr ⊢
   cases hf:f F.body ⟨dQ 0 ao,hp,ct,ct⟩ with
   | none=>simp [hf] at hr
   | some q=>rw [h _ _ _ hf];simpa only [hf] using hr
def Yn (h:Le f g) (hp:Hp) (ct:Nat) (l:Nat) (xs:List AV) (r:AV×Hp×Nat) (hr:mB f hp ct l xs=some r):mB g hp ct l xs=some r:=by
 unfold mB at hr ⊢
 cases hl:aA hp l with
 | none=>simp [hl] at hr
 | some o=>
  simp only [hl] at hr ⊢
  split at hr
  ·rename_i tm ps cy body pe nn;simp only [yb] at nn;subst nn
   (try simp only at hr ⊢)
   cases hb:p0 tm ps xs with
   | none=>simp [hb] at hr
   | some bG=>
    simp only [hb] at hr ⊢
    cases h1:f cy ⟨bG,hp,ct,ct⟩ with
    | none=>simp [h1] at hr
    | some q=>
     rw [h _ _ _ h1];simp only [h1] at hr ⊢
     split at hr
     ·rename_i s1 QU;simp only [yb] at QU;subst QU
      (try simp only at hr ⊢)
      split at hr
      ·rename_i ja B3 Am Bx sD ahd
       (try simp only [ahd])
       cases h2:f body ⟨s1.tm,bi s1.hp l (.lp ja B3 Am Bx 1 sD),s1.ct,s1.ct⟩ with
       | none=>simp [h2] at hr
       | some q2=>rw [h _ _ _ h2];simpa only [h2] using hr
      ·simp at hr
     ·simp at hr
  ·simp at hr
def Yy (h:Le f g) (hp:Hp) (ct:Nat) (m:Md) (fv:AV) (xs:List AV) (r:AV×Hp×Nat) (hr:eD P L f hp ct m fv xs=some r):eD P L g hp ct m fv xs=some r:=by
 unfold eD at hr ⊢
 split at hr
 ·rename_i n first cap
  cases m with
  | pure=>
   simp only at hr ⊢
   cases hz:cF deep hp (first++(xs++cap)) with
   | none=>simp [hz] at hr
   | some q=>
    simp only [hz] at hr ⊢
    cases hc:bM P L f n q.1 with
    | none=>simp [hc] at hr
    | some u=>rw [N7 h n q.1 u hc];simpa only [hc] using hr
  | own=>
   simp only at hr ⊢
   cases hz:cF deep hp (first++(xs++cap)) with
   | none=>simp [hz] at hr
   | some q=>
    simp only [hz] at hr ⊢
    cases hc:bM P L f n q.1 with
    | none=>simp [hc] at hr
    | some u=>rw [N7 h n q.1 u hc];simpa only [hc] using hr
  | heap=>exact Og h _ _ _ _ _ hr
  | dyn=>
   simp only at hr ⊢
   cases hz:aH (first++(xs++cap)) with
   | true=>
    simp only [hz,yz] at hr ⊢
    cases hc:bM P L f n (first++(xs++cap)) with
    | none=>simp [hc] at hr
    | some u=>rw [N7 h n _ u hc];simpa only [hc] using hr
   | false=>
    simp only [hz,yX] at hr ⊢;exact Og h _ _ _ _ _ hr
 ·split at hr
  ·exact Yn h _ _ _ _ _ hr
  ·exact Yn h _ _ _ _ _ hr
  ·simp at hr
 ·simp at hr
def ZM (h:Le f g) (tm:Env) (hp:Hp) (ct:Nat) (o:Op) (r:AV×Hp×Nat) (hr:bg P L f tm hp ct o=some r):bg P L g tm hp ct o=some r:=by
 unfold bg at hr ⊢
 split at hr
 ·exact Yy h _ _ _ _ _ _ hr
 ·rename_i rs fv xs
  (try simp only at hr ⊢)
  cases hc:eD P L f hp ct .dyn (ay tm fv) (da tm xs) with
  | none=>simp [hc] at hr
  | some q=>rw [Yy h _ _ _ _ _ _ hc];simpa only [hc] using hr
 all_goals simpa only using hr
def Ju (h:Le f g):∀(ops:List aX) (s s':St),dh P L f ops s=some s'->dh P L g ops s=some s'
 | [],s,s',hr=>by simpa only [dh] using hr
 | ⟨d,gd,o⟩::r,s,s',hr=>by
  simp only [dh] at hr ⊢
  split at hr
  ·rename_i hw
   try simp only [hw]
   cases ho:bg P L f s.tm s.hp s.ct o with
   | none=>simp [ho] at hr
   | some q=>rw [ZM h _ _ _ _ _ ho];simp only [ho] at hr ⊢;exact Ju h r _ _ hr
  ·rename_i hw
   (try simp only [hw]);exact Ju h r _ _ hr
  ·simp at hr
def oS (h:Le f g):∀(c:VC) (s:St) (r:Ex×St),bD P L f c s=some r->bD P L g c s=some r
 | .skip,s,r,hr=>by simpa only [bD] using hr
 | .nd ops,s,r,hr=>by
  simp only [bD] at hr ⊢
  cases ho:dh P L f ops s with
  | none=>simp [ho] at hr
  | some s'=>rw [Ju h _ _ _ ho];simpa only [ho] using hr
 | .seq a b,s,r,hr=>by
  simp only [bD] at hr ⊢
  cases ha:bD P L f a s with
  | none=>simp [ha] at hr
  | some q=>
   rw [oS h a s q ha];obtain ⟨ex,s1⟩:=q
   cases ex with
   | normal=>simp only [ha] at hr ⊢;exact oS h b s1 r hr
   | ret=>simpa only [ha] using hr
   | exit id=>simpa only [ha] using hr
 | .cond x a b,s,r,hr=>by
  simp only [bD] at hr ⊢
  split at hr
  ·rename_i t ht
   try simp only [ht]
   cases t with
   | true=>simp only [yz] at hr ⊢;exact oS h a s r hr
   | false=>simp only [yX] at hr ⊢;exact oS h b s r hr
  ·simp at hr
 | .dz id a,s,r,hr=>by
  simp only [bD] at hr ⊢
  cases ha:bD P L f a s with
  | none=>simp [ha] at hr
  | some q=>rw [oS h a s q ha];simpa only [ha] using hr
 | .kp live,s,r,hr=>by simpa only [bD] using hr
 | .fz ts,s,r,hr=>by simpa only [bD] using hr
 | .loop live a,s,r,hr=>by
  simp only [bD] at hr ⊢
  cases ha:bD P L f a (aP live s) with
  | none=>simp [ha] at hr
  | some q=>
   rw [oS h a _ q ha];obtain ⟨ex,s1⟩:=q
   cases ex with
   | normal=>simp only [ha] at hr ⊢;exact h _ _ _ hr
   | ret=>simpa only [ha] using hr
   | exit id=>simpa only [ha] using hr
 | .rf fv ps cy body,s,r,hr=>by
  simp only [bD] at hr ⊢
  split at hr
  ·rename_i n first cap hx
   try simp only [hx]
   split at hr
   ·simp at hr
   ·rename_i hL
    try simp only [hL]
    cases hc:ia P L f ((s.ct,.lp s.tm ps cy body 0 .none)::s.hp) (s.ct+1) n (first++(.fn (.y s.ct) [] []::cap)) with
    | none=>simp [hc] at hr
    | some q=>rw [Og h _ _ _ _ _ hc];simpa only [hc] using hr
  ·simp at hr
 | .exit id,s,r,hr=>by simpa only [bD] using hr
 | .ret,s,r,hr=>by simpa only [bD] using hr
end
def F8 (P:aM) (L:Lib) (c:VC) (s:St):ev P L 0 c s=none:=rfl
def F9 (P:aM) (L:Lib) (n:Nat):ev P L (n+1)=bD P L (ev P L n):=rfl
def afP (P:aM) (L:Lib):∀n,Le (ev P L n) (ev P L (n+1))
 | 0=>fun c s r h=>by rw [F8] at h;cases h
 | n+1=>fun c s r h=>by
  rw [F9] at h ⊢;exact oS (afP P L n) c s r h
def Pt (P:aM) (L:Lib) {n m:Nat} (h:n<=m):Le (ev P L n) (ev P L m):=by
 induction h with
 | refl=>exact fun _ _ _ h=>h
 | step _ ih=>exact fun c s r hr=>afP P L _ c s r (ih c s r hr)
section
open Go
section
variable {O:bh} {self:cx}
def ew.none {m:Mp} {S:Nat->Prop} {w:yi} {s s':St} {ex:Ex} {n lo:Nat} {a:Act} {w':yi} (l:Nat):¬ew O m S w s ex s' n lo (.goto l) a w':=by
 rintro ⟨h,_⟩;cases ex<;>cases h
def ew.then {m m1:Mp} {S S1:Nat->Prop} {w w1:yi} {s s1 s2:St} {ex:Ex} {n lo:Nat} {a':Act} {w':yi} {e:vP} {ex1:Ex} (h1:s1.base=s.base)
  (hf:b6 m S w s.hp m1 S1 w1 s1.hp s.base) (h:ew O m1 S1 w1 s1 ex s2 n lo e a' w'):ew O m S w s ex s2 n lo e a' w':=by
 obtain ⟨h2,m',S',k1,k2,k3,k4,k5,k6,k7⟩:=h;rw [h1] at k3 k4 k5;exact ⟨h2,m',S',k1,k2,k3,k4,hf.trans k5,k6,k7⟩
def ew.dJ {m:Mp} {S:Nat->Prop} {w:yi} {s s1:St} {n lo:Nat} {a':Act} {w':yi} {e:vP} {ex:Ex} (live:List Nat) (h:ew O m S w s ex s1 n lo e a' w'):ew O m S w s ex (aP live s1) n lo e a' w':=by
 obtain ⟨h2,m',S',k1,k2,k3,k4,k5,k6,k7⟩:=h;obtain ⟨m2,g1,g2,g3,g4,g5⟩:=Oo (live:=live) k1 k2 (by rw [k3];exact k4)
 rw [k3] at g3 g4 g5;exact ⟨h2,m2,S',g1,g2,g3,g4,k5.trans g5,k6,zd k2 g5 k7⟩
def afQ {m:Mp} {w:yi} {tmps:Array yg}:∀{ts:List Nat} {s s1:St} {S:Nat->Prop},bW O m S w s.tm tmps->aO O m S w s.hp s.ct->nW ts s=some s1->
  ∃S1,bW O m S1 w s1.tm tmps/\aO O m S1 w s1.hp s1.ct/\s1.base=s.base/\s1.ct=s.ct/\∀base,b6 m S w s.hp m S1 w s1.hp base
 | [],s,s1,S,ht,hh,h=>by
  simp only [nW,yb] at h;subst h;exact ⟨S,ht,hh,rfl,rfl,fun _=>b6.refl⟩
 | t::r,s,s1,S,ht,hh,h=>by
  simp only [nW] at h
  cases hz:freeze deep s.hp (aj s.tm t) with
  | none=>simp [hz] at h
  | some q=>
   obtain ⟨v,hp⟩:=q;simp only [hz] at h;obtain ⟨h1,h2,h3⟩:=OE (O:=O) hz;have hg:gP s.hp s.ct hp s.ct:=⟨h1,yA _,fun id o ho=>(by
     have:=h2 id
     rw [ho] at this
     cases hq:aA s.hp id with
     | none=>rw [hq] at this;simp at this
     | some o'=>exact hh.aF id o' hq),fun id o ho _=>(by
     have:=h2 id
     rw [ho] at this
     cases hq:aA s.hp id with
     | none=>rw [hq] at this;simp at this
     | some o'=>exact ⟨o',rfl⟩)⟩
   obtain ⟨S',k1,k2,k3,k4⟩:=JW hh hg;have sK:bW O m S' w ((t,v)::s.tm) tmps:=by
    intro i;simp only [aj]
    cases hb:yp t i with
    | true=>
     have:=yj hb
     subst this;exact (h3 hp m S' w s.ct cL.refl k1).1 _ (kj (fun _ _ h=>h) k2 (fun _ _=>rfl) _ _ (ht t))
    | false=>
     exact kj (fun _ _ h=>h) k2 (fun _ _=>rfl) _ _ (ht i)
   obtain ⟨S1,g1,g2,g3,g4,g5⟩:=afQ (s:={s with tm:=(t,v)::s.tm,hp:=hp}) sK k1 h;exact ⟨S1,g1,g2,g3,g4,fun base=>(k4 base).trans (g5 base)⟩
def abw (hO:er O) (n:Nat) (hC:∀k,k<=n->mC O (ev O.prog O.az k)) (h:Nat):∀(c:wK) (l k:Nat) (j:Nat),j<=n->∀(s:St) (ex:Ex) (s':St),
  bD O.prog O.az (ev O.prog O.az j) (comp O.P (O.hint h) c l k).1 s=some (ex,s')->zM O h c s ex s':=by
 have refl:∀{s:St} {ex:Ex} {m:Mp} {S:Nat->Prop} {w:yi} {a:Act} {lo:Nat},bW O m S w s.tm a.tmps->aO O m S w s.hp s.ct->s.base<=s.ct->Marks lo S w a.defers->ew O m S w s ex s a.tmps.size lo (po ex) a w:=
  fun h1 h2 h3 h4=>⟨rfl,_,_,h1,h2,rfl,h3,b6.refl,rfl,h4⟩
 have QV:∀{self:cx} {s:St} {r:Ex×St},bD O.prog O.az self (.nd [⟨none,none,bad⟩]) s=some r->False:=by
  intro self s r hv;simp [bD,dh,bad,bg,eD,ay] at hv
 intro c
 induction c with
 | skip=>
  intro l k j hj s ex s' hv ro lo m S w a cN ht hh hb hn aY eR cz;simp only [comp,bD,yb,yk] at hv;obtain ⟨rfl,rfl⟩:=hv;exact wpIn_skip (refl ht hh hb cz)
 | label x=>
  intro l k j hj s ex s' hv ro lo m S w a cN ht hh hb hn aY eR cz;simp only [comp,bD,yb,yk] at hv;obtain ⟨rfl,rfl⟩:=hv;exact wpIn_label (refl ht hh hb cz)
 | exit id=>
  intro l k j hj s ex s' hv ro lo m S w a cN ht hh hb hn aY eR cz;simp only [comp,bD,yb,yk] at hv;obtain ⟨rfl,rfl⟩:=hv
  exact wpIn_exit (refl (ex:= .exit id) ht hh hb cz)
 | ret=>
  intro l k j hj s ex s' hv ro lo m S w a cN ht hh hb hn aY eR cz;simp only [comp,bD,yb,yk] at hv;obtain ⟨rfl,rfl⟩:=hv
  exact wpIn_ret (refl (ex:= .ret) ht hh hb cz)
 | goto x=>intro l k j hj s ex s' hv;exact (QV (by simpa only [comp] using hv)).elim
 | refuse x=>intro l k j hj s ex s' hv;exact (QV (by simpa only [comp] using hv)).elim
 | region id ops d=>
  intro l k j hj s ex s' hv;simp only [comp] at hv;generalize hq:Ka O.P (O.hint h) ops d k=q at hv;obtain ⟨r,k'⟩:=q;have main:∀{s s':St} {ex:Ex},bD O.prog O.az (ev O.prog O.az j) (.nd r) s=some (ex,s')->zM O h (.region id ops d) s ex s':=by
   intro s s' ex hv;simp only [bD] at hv
   cases ho:dh O.prog O.az (ev O.prog O.az j) r s with
   | none=>simp [ho] at hv
   | some s1=>
    simp only [ho,yb,yk] at hv;obtain ⟨rfl,rfl⟩:=hv;exact atg hO (hC j hj) h id ops d k (by rw [hq];exact ho)
  simp only at hv
  split at hv
  ·exact main hv
  ·rename_i t ts _;simp only [bD] at hv
   cases hf:nW (t::ts) s with
   | none=>simp [hf] at hv
   | some s1=>
    simp only [hf] at hv;intro ro lo m S w a cN ht hh hb hn aY eR cz;obtain ⟨S1,g1,g2,g3,g4,g5⟩:=afQ ht hh hf;have h1:=main (s:=s1) (by simpa only [bD] using hv) ro lo m S1 w a cN g1 g2 (by rw [g3,g4];exact hb) hn aY eR (zd hh (g5 s.base) cz)
    refine wpIn_mono h1 (fun e a' w' hp=>?_)
    exact ew.then (ex1:= .normal) g3 (g5 s.base) hp
 | seq x y ihx ihy=>
  intro l k j hj s ex s' hv ro lo m S w a cN ht hh hb hn aY eR cz;simp only [comp] at hv;generalize qZ:comp O.P (O.hint h) x l k=qx at hv;obtain ⟨x',l1,k1⟩:=qx;simp only at hv;generalize IE:comp O.P (O.hint h) y l1 k1=qy at hv;obtain ⟨y',l2,k2⟩:=qy;simp only [bD] at hv
  cases hx:bD O.prog O.az (ev O.prog O.az j) x' s with
  | none=>simp [hx] at hv
  | some r=>
   obtain ⟨ex1,s1⟩:=r;have h1:=ihx l k j hj s ex1 s1 (by rw [qZ];exact hx) ro lo m S w a cN ht hh hb hn aY eR cz
   refine wpIn_seq (wpIn_mono h1 ?_);rintro e a1 w1 ⟨rfl,m1,S1,g1,g2,g3,g4,g5,g6,g7⟩;have stop:ex1≠.normal->ex=ex1/\s'=s1:=by
    intro fy;rw [hx] at hv
    cases ex1 with
    | normal=>exact absurd rfl fy
    | ret=>simp only [yb,yk] at hv;exact ⟨hv.1.symm,hv.2.symm⟩
    | exit id=>simp only [yb,yk] at hv;exact ⟨hv.1.symm,hv.2.symm⟩
   cases ex1 with
   | normal=>
    simp only [hx] at hv;simp only [po,Exit.then];have h2:=ihy l1 k1 j hj s1 ex s' (by rw [IE];exact hv) ro lo m1 S1 w1 a1 (JI g5 cN) g1 g2 (by rw [g3];exact g4) (by rw [g6];exact hn) aY (xe eR g5.size) g7
    rw [g6] at h2
    exact wpIn_mono h2 (fun e a' w' hp=>ew.then (ex1:= .normal) g3 g5 hp)
   | ret=>
    obtain ⟨rfl,rfl⟩:=stop (by simp);exact ⟨rfl,m1,S1,g1,g2,g3,g4,g5,g6,g7⟩
   | exit id=>
    obtain ⟨rfl,rfl⟩:=stop (by simp);exact ⟨rfl,m1,S1,g1,g2,g3,g4,g5,g6,g7⟩
 | cond x p q ihp ihq=>
  intro l k j hj s ex s' hv ro lo m S w a cN ht hh hb hn aY eR cz;simp only [comp] at hv;generalize qZ:comp O.P (O.hint h) p (l+1) k=qx at hv;obtain ⟨p',l1,k1⟩:=qx;simp only at hv;generalize IE:comp O.P (O.hint h) q l1 k1=qy at hv;obtain ⟨q',l2,k2⟩:=qy;simp only at hv;have main:∀(ex:Ex) (s':St),bD O.prog O.az (ev O.prog O.az j) (.cond (aK (O.hint h) x) p' q') s=some (ex,s')->(Code.cond x p q).wpIn (WF ro) 0 O.P (ew O m S w s ex s' a.tmps.size lo) a w:=by
   intro ex s' hv;simp only [bD] at hv;have rx:=cf (hO.hint h) ht x
   split at hv
   ·rename_i t hx;rw [hx] at rx;simp only [ah] at rx
    cases t with
    | true=>
     simp only [yz] at hv;exact wpIn_cond_true rx (ihp (l+1) k j hj s ex s' (by rw [qZ];exact hv) ro lo m S w a cN ht hh hb hn aY eR cz)
    | false=>
     simp only [yX] at hv;exact wpIn_cond_false rx (ihq l1 k1 j hj s ex s' (by rw [IE];exact hv) ro lo m S w a cN ht hh hb hn aY eR cz)
   ·cases hv
  cases ahe:(O.hint h).out l with
  | none=>rw [ahe] at hv;exact main ex s' hv
  | some live=>
   rw [ahe] at hv;simp only at hv;rw [show bD O.prog O.az (ev O.prog O.az j) (.seq (.cond (aK (O.hint h) x) p' q') (.kp live)) s=match bD O.prog O.az (ev O.prog O.az j) (.cond (aK (O.hint h) x) p' q') s with | some (.normal,s1)=>some (.normal,aP live s1) | r=>r from rfl] at hv
   cases hx:bD O.prog O.az (ev O.prog O.az j) (.cond (aK (O.hint h) x) p' q') s with
   | none=>simp [hx] at hv
   | some r=>
    obtain ⟨ex1,s1⟩:=r;have h1:=main ex1 s1 hx;rw [hx] at hv
    cases ex1 with
    | normal=>
     simp only [yb,yk] at hv;obtain ⟨rfl,rfl⟩:=hv;exact wpIn_mono h1 (fun e a' w' hp=>ew.dJ live hp)
    | ret=>simp only [yb,yk] at hv;obtain ⟨rfl,rfl⟩:=hv;exact h1
    | exit id=>simp only [yb,yk] at hv;obtain ⟨rfl,rfl⟩:=hv;exact h1
 | block id x ih=>
  intro l k j hj s ex s' hv ro lo m S w a cN ht hh hb hn aY eR cz;simp only [comp] at hv;generalize qZ:comp O.P (O.hint h) x l k=qx at hv;obtain ⟨x',r⟩:=qx;simp only at hv;have main:∀(ex:Ex) (s':St),bD O.prog O.az (ev O.prog O.az j) (.dz id x') s=some (ex,s')->(Code.block id x).wpIn (WF ro) 0 O.P (ew O m S w s ex s' a.tmps.size lo) a w:=by
   intro ex s' hv;simp only [bD] at hv
   cases hx:bD O.prog O.az (ev O.prog O.az j) x' s with
   | none=>simp [hx] at hv
   | some q=>
    obtain ⟨ex1,s1⟩:=q;have h1:=ih l k j hj s ex1 s1 (by rw [qZ];exact hx) ro lo m S w a cN ht hh hb hn aY eR cz
    refine wpIn_block (wpIn_mono h1 ?_);rintro e a1 w1 ⟨rfl,g⟩
    cases ex1 with
    | normal=>
     simp only [hx,yb,yk] at hv;obtain ⟨rfl,rfl⟩:=hv;exact ⟨rfl,g⟩
    | ret=>
     simp only [hx,yb,yk] at hv;obtain ⟨rfl,rfl⟩:=hv;exact ⟨rfl,g⟩
    | exit i=>
     simp only [hx] at hv
     cases Nq:yp i id with
     | true=>
      rw [Nq] at hv;simp only [yz,yb,yk] at hv;obtain ⟨rfl,rfl⟩:=hv
      have:=yj Nq
      subst this;simp only [po,Exit.inBlock,xR];exact ⟨rfl,g⟩
     | false=>
      rw [Nq] at hv;simp only [yX,yb,yk] at hv;obtain ⟨rfl,rfl⟩:=hv;have fy:i≠id:=fun e=>by subst e;simp at Nq
      simp only [po,Exit.inBlock,fy,xk];exact ⟨rfl,g⟩
  have axn:∀live:List Nat,bD O.prog O.az (ev O.prog O.az j) (.seq (.dz id x') (.kp live)) s=some (ex,s')->(Code.block id x).wpIn (WF ro) 0 O.P (ew O m S w s ex s' a.tmps.size lo) a w:=by
   intro live hv;rw [show bD O.prog O.az (ev O.prog O.az j) (.seq (.dz id x') (.kp live)) s=match bD O.prog O.az (ev O.prog O.az j) (.dz id x') s with | some (.normal,s1)=>some (.normal,aP live s1) | r=>r from rfl] at hv
   cases hx:bD O.prog O.az (ev O.prog O.az j) (.dz id x') s with
   | none=>simp [hx] at hv
   | some r=>
    obtain ⟨ex1,s1⟩:=r;have h1:=main ex1 s1 hx;rw [hx] at hv
    cases ex1 with
    | normal=>
     simp only [yb,yk] at hv;obtain ⟨rfl,rfl⟩:=hv;exact wpIn_mono h1 (fun e a' w' hp=>ew.dJ live hp)
    | ret=>simp only [yb,yk] at hv;obtain ⟨rfl,rfl⟩:=hv;exact h1
    | exit id=>simp only [yb,yk] at hv;obtain ⟨rfl,rfl⟩:=hv;exact h1
  split at hv
  ·exact axn _ hv
  ·exact main ex s' hv
 | loop x ih=>
  intro l k j hj s ex s' hv;simp only [comp] at hv;generalize qZ:comp O.P (O.hint h) x (l+1) k=qx at hv;obtain ⟨x',r⟩:=qx;simp only at hv;have rounds:∀(j:Nat),j<=n->∀(s:St) (ex:Ex) (s':St),bD O.prog O.az (ev O.prog O.az j) (.loop ((O.hint h).live l) x') s=some (ex,s')->∃K,∀(ro:Option Nat) (lo:Nat) (m:Mp) (S:Nat->Prop) (w:yi) (a:Act),rN ro w->bW O m S w s.tm a.tmps->aO O m S w s.hp s.ct->s.base<=s.ct->(O.hint h).n<=a.tmps.size->O.w0.heap.size<=lo->lo<=w.heap.size->Marks lo S w a.defers->
    Code.roundsIn (WF ro) 0 O.P x (ew O m S w s ex s' a.tmps.size lo) K a w:=by
   intro j
   induction j with
   | zero=>
    intro hj s ex s' hv;simp only [bD] at hv
    cases hx:bD O.prog O.az (ev O.prog O.az 0) x' (aP ((O.hint h).live l) s) with
    | none=>simp [hx] at hv
    | some q=>
     obtain ⟨ex1,s1⟩:=q;have stop:ex1≠.normal->ex=ex1/\s'=s1:=by
      intro fy;rw [hx] at hv
      cases ex1 with
      | normal=>exact absurd rfl fy
      | ret=>simp only [yb,yk] at hv;exact ⟨hv.1.symm,hv.2.symm⟩
      | exit id=>simp only [yb,yk] at hv;exact ⟨hv.1.symm,hv.2.symm⟩
     refine ⟨1,fun ro lo m S w a cN ht hh hb hn aY eR cz=>?_⟩;rw [roundsIn_succ];obtain ⟨m1,c1,c2,c3,c4,c5⟩:=Oo (live:=(O.hint h).live l) ht hh hb;have h1:=ih (l+1) k 0 hj _ ex1 s1 (by rw [qZ];exact hx) ro lo m1 S w a cN c1 c2 (by rw [c3];exact c4) hn aY eR cz
     refine wpIn_mono h1 ?_;rintro e a1 w1 hp;have ap:=ew.then (O:=O) (m:=m) (S:=S) (w:=w) (s:=s) (ex1:= .normal) c3 c5 hp;obtain ⟨rfl,_⟩:=hp
     cases ex1 with
     | normal=>simp only [hx,F8] at hv;cases hv
     | ret=>obtain ⟨rfl,rfl⟩:=stop (by simp);exact ap
     | exit id=>obtain ⟨rfl,rfl⟩:=stop (by simp);exact ap
   | succ j ihj=>
    intro hj s ex s' hv;simp only [bD] at hv
    cases hx:bD O.prog O.az (ev O.prog O.az (j+1)) x' (aP ((O.hint h).live l) s) with
    | none=>simp [hx] at hv
    | some q=>
     obtain ⟨ex1,s1⟩:=q;have stop:ex1≠.normal->ex=ex1/\s'=s1:=by
      intro fy;rw [hx] at hv
      cases ex1 with
      | normal=>exact absurd rfl fy
      | ret=>simp only [yb,yk] at hv;exact ⟨hv.1.symm,hv.2.symm⟩
      | exit id=>simp only [yb,yk] at hv;exact ⟨hv.1.symm,hv.2.symm⟩
     have more:∃K,ex1= .normal->∀(ro:Option Nat) (lo:Nat) (m:Mp) (S:Nat->Prop) (w:yi) (a:Act),rN ro w->bW O m S w s1.tm a.tmps->aO O m S w s1.hp s1.ct->s1.base<=s1.ct->(O.hint h).n<=a.tmps.size->O.w0.heap.size<=lo->lo<=w.heap.size->Marks lo S w a.defers->
       Code.roundsIn (WF ro) 0 O.P x (ew O m S w s1 ex s' a.tmps.size lo) K a w:=by
      cases ex1 with
      | normal=>
       rw [hx] at hv;have eA:ev O.prog O.az (j+1) (.loop ((O.hint h).live l) x') s1=some (ex,s'):=hv;rw [F9] at eA;obtain ⟨K,hK⟩:=ihj (by omega) s1 ex s' eA;exact ⟨K,fun _=>hK⟩
      | ret=>exact ⟨0,fun h=>by cases h⟩
      | exit id=>exact ⟨0,fun h=>by cases h⟩
     obtain ⟨K,hK⟩:=more;refine ⟨K+1,fun ro lo m S w a cN ht hh hb hn aY eR cz=>?_⟩;rw [roundsIn_succ];obtain ⟨m1,c1,c2,c3,c4,c5⟩:=Oo (live:=(O.hint h).live l) ht hh hb;have h1:=ih (l+1) k (j+1) hj _ ex1 s1 (by rw [qZ];exact hx) ro lo m1 S w a cN c1 c2 (by rw [c3];exact c4) hn aY eR cz
     refine wpIn_mono h1 ?_;rintro e a1 w1 hp;have ap:=ew.then (O:=O) (m:=m) (S:=S) (w:=w) (s:=s) (ex1:= .normal) c3 c5 hp;obtain ⟨rfl,_⟩:=hp
     cases ex1 with
     | normal=>
      simp only [po,Exit.then];obtain ⟨_,m2,S2,g1,g2,g3,g4,g5,g6,g7⟩:=ap;have h2:=hK rfl ro lo m2 S2 w1 a1 (JI g5 cN) g1 g2 (by rw [g3];exact g4) (by rw [g6];exact hn) aY (xe eR g5.size) g7
      rw [g6] at h2;revert h2;generalize hA:a.tmps.size=sz;intro h2;have step:∀(K:Nat) (a':Act) (w':yi),Code.roundsIn (WF ro) 0 O.P x (ew O m2 S2 w1 s1 ex s' sz lo) K a' w'->Code.roundsIn (WF ro) 0 O.P x (ew O m S w s ex s' sz lo) K a' w':=by
       intro K
       induction K with
       | zero=>intro a' w' Au;exact Au
       | succ K ihK=>
        intro a' w' Au;rw [roundsIn_succ] at Au ⊢;refine wpIn_mono Au (fun e a'' Nc hq=>?_)
        cases e with
        | normal=>exact ihK a'' Nc hq
        | exit id=>exact ew.then (ex1:= .normal) g3 g5 hq
        | goto x=>exact ew.then (ex1:= .normal) g3 g5 hq
        | ret=>exact ew.then (ex1:= .normal) g3 g5 hq
        | panic x=>exact ew.then (ex1:= .normal) g3 g5 hq
        | outgrown=>exact ew.then (ex1:= .normal) g3 g5 hq
      exact step K a1 w1 h2
     | ret=>obtain ⟨rfl,rfl⟩:=stop (by simp);exact ap
     | exit id=>obtain ⟨rfl,rfl⟩:=stop (by simp);exact ap
  obtain ⟨K,hK⟩:=rounds j hj s ex s' hv;intro ro lo m S w a cN ht hh hb hn aY eR cz;exact wpIn_loop_rounds K (hK ro lo m S w a cN ht hh hb hn aY eR cz)
 | scope x ih=>
  intro l k j hj s ex s' hv ro lo m S w a cN ht hh hb hn aY eR cz;simp only [comp] at hv;exact al9 (ih l k j hj s ex s' hv ro lo m S w a cN ht hh hb hn aY eR cz) (fun l a w=>ew.none l)
 | rangeFunc f ps cy body iha ihb=>
  intro l k j hj s ex s' hv;simp only [comp] at hv;generalize qZ:comp O.P (O.hint h) cy l k=qx at hv;obtain ⟨x',l1,k1⟩:=qx;simp only at hv;generalize IE:comp O.P (O.hint h) body l1 k1=qy at hv;obtain ⟨y',l2,k2⟩:=qy;simp only at hv
  cases ha:rR (O.hint h).n ps.toList with
  | false=>rw [ha] at hv;exact (QV hv).elim
  | true=>
   rw [ha] at hv;exact axm hO (hC j hj) ⟨l,k,by rw [qZ]⟩ ⟨l1,k1,by rw [IE]⟩ ha hv
end
end
section
open Go
section
variable {O:bh} {m:Mp} {S:Nat->Prop} {w:yi}
def ZN:∀(ao:List AV) (j i:Nat),aj (dQ j ao) (j+i)=ao.getD i .undef
 | [],j,i=>by simp [dQ,aj]
 | v::r,j,i=>by
  cases i with
  | zero=>simp [dQ,aj]
  | succ i=>
   simp only [dQ,aj];have hb:yp j (j+(i+1))=false:=by
    cases hq:yp j (j+(i+1)) with
    | false=>rfl
    | true=>have:=yj hq;omega
   rw [hb,show j+(i+1)=j+1+i by omega];rw [ZN r (j+1) i]
   simp
def ZO {ao:List AV} {args:Array yg} (n:Nat) (h:av O.af m S w ao args.toList):bW O m S w (dQ 0 ao) (args++vQ n undef):=by
 intro i
 have:=ZN ao 0 i
 rw [yh] at this;rw [this,xF]
 cases hv:ao[i]? with
 | none=>simp only [Option.getD_none,ah]
 | some v=>
  obtain ⟨u,h1,h2⟩:=OW h hv;have hl:i<args.size:=by
   grind
  have:(args++vQ n undef).getD i undef=u:=by
   rw [wG,tX hl]
   grind
  grind
def Df (tmps:Array yg):ych->Sem yg
 | .tmp t=>pure (tmps.getD t undef)
 | .cell a t=>do loadVar t (<-asAddr (tmps.getD a undef))
def ama (fn:yai) (tmps:Array yg):results fn tmps=(do let vs <-fn.results.mapM (Df tmps);pure (if h:vs.size=1 then vs[0] else .tuple vs)):=by
 rfl
def Ot {s:St} {ct:Nat} {tmps:Array yg} (hh:aO O m S w s.hp ct) (ht:bW O m S w s.tm tmps):∀{rs:List ych} {rv:List RV} {vs:List AV},nM O.P rs=some rv->kh s rv=some vs->
  ∃us,(rs.mapM (Df tmps)).run O.P w= .ok us w/\av O.af m S w vs us
 | [],rv,vs,h1,h2=>by
  simp only [nM,yb] at h1;subst h1;simp only [kh,yb] at h2;subst h2;exact ⟨[],by simp,by simp [av]⟩
 | .tmp t::rs,rv,vs,h1,h2=>by
  simp only [nM] at h1
  cases hc:nM O.P rs with
  | none=>simp [hc] at h1
  | some l=>
   simp only [hc,yb] at h1;subst h1;simp only [kh,results1] at h2
   cases hl:kh s l with
   | none=>simp [hl] at h2
   | some WG=>
    simp only [hl,yb] at h2;subst h2;obtain ⟨us,g1,g2⟩:=Ot hh ht hc hl;refine ⟨tmps.getD t undef::us,?_,by simp only [av];exact ⟨_,_,rfl,ht t,g2⟩⟩
    rw [ud];simp only [Df,Sem.run_bind,Sem.run_pure,Result.andThen_ok];rw [g1];rfl
 | .cell a t::rs,rv,vs,h1,h2=>by
  simp only [nM] at h1
  cases hz:cu O.P t with
  | none=>simp [hz] at h1
  | some sz=>
   cases IF:dE O.P t with
   | none=>simp [hz,IF] at h1
   | some ag=>
    cases hc:nM O.P rs with
    | none=>simp [hz,IF,hc] at h1
    | some l=>
     simp only [hz,IF,hc,yb] at h1;subst h1;simp only [kh] at h2
     cases dO:results1 s (.cell a sz ag) with
     | none=>simp [dO] at h2
     | some v=>
      cases hl:kh s l with
      | none=>simp [dO,hl] at h2
      | some WG=>
       simp only [dO,hl,yb] at h2;subst h2;obtain ⟨us,g1,g2⟩:=Ot hh ht hc hl;have ra:=ht a;have key:∃b o u,tmps.getD a undef= .pointer (some ⟨b,o,none⟩)/\(loadVar t ⟨b,o,none⟩).run O.P w= .ok u w/\ah O.af m S w v u:=by
        simp only [results1] at dO;cases hta:aj s.tm a<;>rw [hta] at dO ra<;>simp only [reduceCtorEq] at dO
        ·rename_i id o;simp only [ah] at ra;obtain ⟨p,hm,hp⟩:=ra
         cases hg:aA s.hp id with
         | none=>simp [hg] at dO
         | some ob=>
          cases ob<;>simp only [hg,reduceCtorEq] at dO
          have Xb:=OV (o:=0) (n:=0) hh hg hm;obtain ⟨u,q1,q2⟩:=Kc hz IF (oT o _ p.b p.o Xb) dO;exact ⟨p.b,p.o+o,u,hp,q1,q2⟩
        ·rename_i cs;simp only [ah] at ra;obtain ⟨b,o,hp,_,_,Xb⟩:=ra;obtain ⟨u,q1,q2⟩:=Kc hz IF Xb dO;exact ⟨b,o,u,hp,q1,q2⟩
       obtain ⟨b,o,u,q1,q2,q3⟩:=key;refine ⟨u::us,?_,by simp only [av];exact ⟨_,_,rfl,q3,g2⟩⟩
       rw [ud]
       have:(Df tmps (.cell a t)).run O.P w= .ok u w:=by
        simp only [Df];rw [q1];simp [asAddr,q2]
       rw [Sem.run_bind,this,Result.andThen_ok,Sem.run_bind,g1];rfl
def alu {s:St} {ct:Nat} {tmps:Array yg} {fn:yai} {rv:List RV} {v:AV} (hh:aO O m S w s.hp ct) (ht:bW O m S w s.tm tmps) (h1:nM O.P fn.results.toList=some rv) (h2:hZ s rv=some v):
  ∃u,(results fn tmps).run O.P w= .ok u w/\ah O.af m S w v u:=by
 unfold hZ at h2
 cases hl:kh s rv with
 | none=>simp [hl] at h2
 | some vs=>
  obtain ⟨us,g1,g2⟩:=Ot hh ht h1 hl;have hlen:=gh _ _ g2;have hm:(fn.results.mapM (Df tmps)).run O.P w= .ok us.toArray w:=by
   rw [Array.mapM_eq_mapM_toList];simp [g1]
  have fe:(results fn tmps).run O.P w= .ok (if h:us.toArray.size=1 then us.toArray[0] else .tuple us.toArray) w:=by
   rw [ama,Sem.run_bind,hm];rfl
  rw [hl] at h2
  split at h2
  ·rename_i v' nn;simp only [yb] at nn h2;subst nn;simp only [av] at g2
   grind
  ·rename_i dM fy nn;simp only [yb] at nn h2;subst nn;subst h2;have h1:¬us.toArray.size=1:=by
    intro h
    have:vs.length=1:=by simp_all
    cases vs with
    | nil=>simp at this
    | cons x t=>
     cases t with
     | nil=>exact fy x rfl
     | cons y t=>simp at this
   simp only [ah]
   grind
  ·grind
def OK {s:St} {tmps:Array yg} {fn:yai} {rv:List RV} {v:AV} {m0:Mp} {S0:Nat->Prop} {w0:yi} {hp0:Hp} {Nr:Nat} (h1:nM O.P fn.results.toList=some rv) (h2:hZ s rv=some v) (fO:Nr<=s.ct):∀(rs:List Nat) (w:yi),
  rs.Nodup->(∀r,r∈rs->w.heap[r]? =some (.deferred (some []))/\¬S r/\w0.heap.size<=r)->O.w0.heap.size<=w0.heap.size->aO O m S w s.hp s.ct->bW O m S w s.tm tmps->b6 m0 S0 w0 hp0 m S w s.hp Nr->
  ycj Fence.wide 0 O.P fn tmps (rD O m0 S0 w0 hp0 Nr v s.hp s.ct) (rs.map (fun r=>{target:= .collected r,args:=#[]})) .returning w
 | [],w,_,_,_,hh,ht,hf=>by
  obtain ⟨u,g1,g2⟩:=alu hh ht h1 h2;exact ⟨u,g1,u,m,S,rfl,hh,fO,g2,hf⟩
 | r::rs,w,kR,hr,aY,hh,ht,hf=>by
  obtain ⟨jz,cX⟩:=List.nodup_cons.1 kR;obtain ⟨a1,a2,a3⟩:=hr r uG;have fK:=CE w r (.deferred none);have nj:¬dN m s.hp r:=fun ho=>aas hh ho _ a1
  have Au:=YY hh fK a2 nj (xe aY a3)
  have aT:fp S w {w with heap:=w.heap.setIfInBounds r (.deferred none)}:=fun b hb=>fK.other b (fun e=>a2 (e▸hb))
  have As:b6 m0 S0 w0 hp0 m S {w with heap:=w.heap.setIfInBounds r (.deferred none)} s.hp Nr:=by
   refine ⟨hf.os,hf.tape,hf.output,by rw [fK.size];exact hf.size,fun b hb ho=>(fK.other b (by omega)).trans (hf.same b hb ho),hf.sub,fun b hb=>(fK.other b (fun e=>a2 (e▸hf.sub b hb))).trans (hf.still b hb),hf.new,hf.own,hf.old,fun b x hb=>?_⟩
   obtain ⟨x',hx⟩:=hf.loops b x hb;exact ⟨x',(fK.other b (fun e=>by subst e;rw [a1] at hx;cases hx)).trans hx⟩
  refine ⟨by simp,.inl ⟨r,_,rfl,?_,OK h1 h2 fO rs _ cX (fun r' bZ=>?_) aY Au (zc (fun _ _ h=>h) (fun _ h=>h) aT ht) As⟩⟩
  ·simp only [Instr.takeDeferred,Sem.run_bind,YZ (P:=O.P) a1 (fun _ _ _=>by simp),Result.andThen_ok,Jt (P:=O.P) a1 (fun _ _ _=>by simp),Sem.run_pure]
  ·obtain ⟨b1,b2,b3⟩:=hr r' (vz _ bZ);exact ⟨(fK.other r' (fun e=>jz (e▸bZ))).trans b1,b2,b3⟩
end
section
variable {O:bh} {self:cx}
def axo (hO:er O) (hS:∀v s ex s',self v s=some (ex,s')->∀c h l k,(comp O.P (O.hint h) c l k).1=v->zM O h c s ex s') {n:Nat} {F:aE} (hF:O.prog n=some F) {hp:Hp} {ct:Nat} {ao:List AV} {ex:Ex} {s:St}
  (hv:self F.body ⟨dQ 0 ao,hp,ct,ct⟩=some (ex,s)) (hex:ex= .normal\/ex= .ret) {v:AV} (hr:hZ s F.dj=some v):zL O n hp ct ao v s.hp s.ct:=by
 intro m S w args hh fC;obtain ⟨fn,q1,q2,q3⟩:=hO.prog n F hF;obtain ⟨c,q4,q5,q6,q7⟩:=Of q2;refine .inl ⟨CL q1 (by rw [q4];rfl) q3,?_⟩
 have hc:=hS _ _ _ _ hv c n 0 0 q5.symm;have hw:=hc none w.heap.size m S w {tmps:=args++vQ (fn.ntmps-args.size) undef,defers:=[]} (fun l hl=>by cases hl) (ZO _ fC) hh (yA _) (by simp;omega) hh.fB (yA _) ⟨[],rfl,by simp,by simp⟩
 refine callsIn_of_wp_marks (F:=Fence.wide) q1 q4 trivial (wpIn_mono hw ?_);rintro e a' w' ⟨rfl,m',S',k1,k2,k3,k4,k5,k6,rs,k7,k8,k9⟩;have main:ycj Fence.wide 0 O.P fn a'.tmps (rD O m S w hp ct v s.hp s.ct) a'.defers .returning w':=by
  rw [k7];exact OK q6 hr k4 rs w' k8 k9 hh.fB k2 k1 k5
 rcases hex with rfl | rfl
 ·exact main
 ·exact main
def zp.mono {P:xa} {f:tA} {args:Array yg} {w:yi} {R R':yau->yi->Prop} (h:zp P f args w R) (hr:∀e w',R e w'->R' e w'):zp P f args w R':=by
 rcases h with ⟨h1,h2⟩ | ⟨u,w',h1,h2⟩
 ·exact .inl ⟨h1,CallsIn.mono h2 hr⟩
 ·exact .inr ⟨u,w',h1,hr _ _ h2⟩
def ana {w:yi} {S:Nat->Prop} (hg:zK O w) (hs:∀b,S b->b<w.heap.size):aO O eF S w [] 0:=
 ⟨(fun id o p h _=>by simp [aA] at h),(fun id p h=>by cases h),(fun i j oi oj pi pj h=>by simp [aA] at h),hs,(fun id p h=>by cases h),(fun id p h=>by cases h),hg.1,hg.2,(fun id o h=>by simp [aA] at h)⟩
def O7 {b:Nat} (h:dN eF [] b):False:=by
 obtain ⟨_,_,_,h,_⟩:=h;simp [aA] at h
def N9 {n:Nat} {ao:List AV} {v r:AV} {s:St} (h:zL O n [] 0 ao v s.hp s.ct) (hr:result s.hp v=some r):dS O n ao r:=by
 intro w S args hg hs fC hp;refine zp.mono (h eF S w args (ana hg hs) fC) ?_;rintro e w' ⟨u,m',S',rfl,k1,k2,k3,k4⟩;have aY:∀b,dN m' s.hp b->w.heap.size<=b:=fun b hb=>(k4.own b hb).elim (fun h=>(O7 h).elim) (fun h=>h)
 obtain ⟨S2,g1,g2,g3,g4⟩:=am1 (lo:=w.heap.size) k1 hr k3 aY;refine ⟨u,S2,rfl,⟨k4.os,k4.tape,k4.output,k4.size,fun b hb=>k4.same b hb O7⟩,fun b hb=>g1 b (k4.sub b hb),fun b hb=>?_,g3,g4⟩;rcases g2 b hb with h | h
 ·rcases k4.new b h with h | h | h
  ·exact .inl h
  ·exact (O7 h).elim
  ·exact .inr h
 ·exact .inr (aY b h)
def amb (hO:er O) (hS:∀v s ex s',self v s=some (ex,s')->∀c h l k,(comp O.P (O.hint h) c l k).1=v->zM O h c s ex s'):mC O self:=by
 have heap:∀(n:Nat) (F:aE),O.prog n=some F->∀(hp:Hp) (ct:Nat) (ao:List AV) (ex:Ex) (s:St) (v:AV),self F.body ⟨dQ 0 ao,hp,ct,ct⟩=some (ex,s)->(ex= .normal\/ex= .ret)->hZ s F.dj=some v->zL O n hp ct ao v s.hp s.ct:=
  fun n F hF hp ct ao ex s v h1 h2 h3=>axo hO hS hF h1 h2 h3
 refine ⟨?_,?_,fun hp ct l xs v ap aV hv=>aoW hS hv⟩
 ·intro n ao r hv;unfold bM at hv
  cases hL:O.az.pure n with
  | some sp=>rw [hL] at hv;exact hO.az n sp ao r hL hv
  | none=>
   simp only [hL] at hv
   cases hF:O.prog n with
   | none=>simp [hF] at hv
   | some F=>
    simp only [hF] at hv
    split at hv
    ·rename_i s hb
     cases hr:hZ s F.dj with
     | none=>simp [hr] at hv
     | some v=>simp only [hr] at hv;exact N9 (heap n F hF [] 0 ao .normal s v hb (.inl rfl) hr) hv
    ·rename_i s hb
     cases hr:hZ s F.dj with
     | none=>simp [hr] at hv
     | some v=>simp only [hr] at hv;exact N9 (heap n F hF [] 0 ao .ret s v hb (.inr rfl) hr) hv
    ·cases hv
 ·intro hp ct n ao v ap aV hv;unfold ia at hv
  cases hL:O.az.heap n with
  | some sp=>rw [hL] at hv;exact hO.Dd n sp hp ct ao v ap aV hL hv
  | none=>
   simp only [hL] at hv
   cases hF:O.prog n with
   | none=>simp [hF] at hv
   | some F=>
    grind
def Yz (hO:er O):∀n,mC O (ev O.prog O.az n):=by
 intro n
 induction n using vm with
 | _ n ih=>
  refine amb hO (fun v s ex s' hv c h l k hc=>?_)
  cases n with
  | zero=>rw [F8] at hv;cases hv
  | succ n=>
   rw [F9,<-hc] at hv;exact abw hO n (fun k hk=>ih k (by omega)) h c l k n (yA _) s ex s' hv
def sound (hO:er O) {n f:Nat} {ao:List AV} {r:AV} (h:WH O.prog O.az n f ao=some r):dS O f ao r:=(Yz hO n).pure f ao r h
end
end
def gQ:List Nat->List Nat->Bool
 | [],_=>true
 | a::x,b::y=>yp a b&&gQ x y
 | _::_,[]=>false
def lc (sub:List Nat):List Nat->Nat->Option Nat
 | [],k=>bif gQ sub [] then some k else none
 | b::r,k=>bif gQ sub (b::r) then some k else lc sub r (k+1)
def Lq:List AV->Option AV
 | [.str s,.str sep]=>
  bif yI s.length 4294967281 then
   match lc sep s 0 with
   | some i=>some (.aa [.str (s.take i),.str (s.drop (i+sep.length)),.bool true])
   | none=>some (.aa [.str s,.str [],.bool false])
  else none
 | _=>none
def Jv:List AV->Option AV
 | [.str s,.str p]=>some (bif gQ p s then .aa [.str (s.drop p.length),.bool true] else .aa [.str s,.bool false])
 | _=>none
def Jw:List AV->Option AV
 | [.str s,.str p]=>some (.bool (gQ p s))
 | _=>none
def Jl:List AV->Option AV
 | [.str s,.str p]=>some (.str (bif gQ p s then s.drop p.length else s))
 | _=>none
def Dg (i:Nat):List Nat->Bool
 | []=>false
 | j::r=>bif yp j i then true else Dg i r
def jK (set:List Nat):List Nat->List Nat
 | []=>[]
 | b::r=>bif Dg b set then jK set r else b::r
def CT:List Nat->Bool
 | []=>true
 | b::r=>yI b 128&&CT r
def trimS:List AV->Option AV
 | [.str s,.str set]=>bif CT set&&(yI s.length 4294967281&&yI set.length 4294967281) then some (.str (jK set (jK set s.reverse).reverse)) else none
 | _=>none
def gl (s:List Nat):Nat->List Nat
 | 0=>[]
 | n+1=>s++gl s n
def zq:List AV->Option AV
 | [.str s,.int .i64 (.ofNat n)]=>bif yy n 1099511627776&&yy (s.length*n) 1099511627776 then some (.str (gl s n)) else none
 | _=>none
def lS:Nat->Nat->List Nat->List Nat
 | 0,_,acc=>acc
 | f+1,n,acc=>bif yI n 10 then (48+n)::acc else lS f (n/10) ((48+n%10)::acc)
def aq (n:Nat):List Nat:=lS (n+1) n []
def aU:Int->List Nat
 | .ofNat n=>aq n
 | .negSucc n=>45::aq (n+1)
def zN:Int->Bool
 | .ofNat n=>yI n 9223372036854775808
 | .negSucc n=>yI n 9223372036854775808
def G2:List AV->Option AV
 | [.int .i64 n]=>bif zN n then some (.str (aU n)) else none
 | _=>none
def sX:List AV->Option AV
 | [.int .u64 (.ofNat n),.int .i64 10]=>bif yI n 18446744073709551616 then some (.str (aq n)) else none
 | _=>none
def cC:List Nat->Nat->Option Nat
 | [],a=>some a
 | b::r,a=>bif yy 48 b&&yy b 57 then cC r (10*a+(b-48)) else none
def G3:List AV->Option AV
 | [.str s]=>
  bif yI 0 s.length&&yy s.length 18 then
   match cC s 0 with | some n=>some (.aa [.int .i64 n,.undef]) | none=>none
  else none
 | _=>none
def mH:List AV->Option AV
 | [.int .u64 (.ofNat x),.int .u64 (.ofNat y),.int .u64 (.ofNat c)]=>
  bif yy c 1&&(yI x 18446744073709551616&&yI y 18446744073709551616) then some (.aa [.int .u64 ((x+y+c)%18446744073709551616:Nat),.int .u64 ((x+y+c)/18446744073709551616:Nat)]) else none
 | _=>none
def zA:List AV->Option AV
 | [.int .u64 (.ofNat x),.int .u64 (.ofNat y),.int .u64 (.ofNat c)]=>
  bif yy c 1&&(yI x 18446744073709551616&&yI y 18446744073709551616) then some (.aa [.int .u64 ((x+18446744073709551616*2-y-c)%18446744073709551616:Nat),.int .u64 (bif yy (y+c) x then 0 else 1)]) else none
 | _=>none
def p6:List AV->Option AV
 | [.int .u64 (.ofNat x),.int .u64 (.ofNat y)]=>bif yI x 18446744073709551616&&yI y 18446744073709551616 then some (.aa [.int .u64 (x*y/18446744073709551616:Nat),.int .u64 (x*y%18446744073709551616:Nat)]) else none
 | _=>none
def dK:Nat->Nat->Nat
 | 0,_=>0
 | f+1,n=>bif yp n 0 then 0 else 1+dK f (n/2)
def Gk:List AV->Option AV
 | [.int .u64 (.ofNat x)]=>bif yI x 18446744073709551616 then some (.int .i64 (dK 64 x)) else none
 | _=>none
def Db:List AV->Option AV
 | [.int .u64 (.ofNat x)]=>bif yI x 18446744073709551616 then some (.int .i64 (64-dK 64 x:Nat)) else none
 | _=>none
def JZ:List AV->Option AV
 | [.aw .f64 b]=>some (.int .u64 b)
 | _=>none
def Jj:List AV->Option AV
 | [.int .u64 (.ofNat n)]=>some (.aw .f64 n)
 | _=>none
section
open Go
section
variable {O:bh} {n:Nat}
def FE {w w':yi} (h:RowKit.Below w.heap.size w w'):Calm w w':=⟨h.os,h.tape,h.output,h.size,h.block⟩
def anb {w:yi} (k:Nat):Calm w (w.drewN k):=⟨rfl,rfl,rfl,yA _,fun _ _=>rfl⟩
def anc {w:yi} (h:zK O w) {a:Addr} {v:yg} (hc:O.w0.cell? a=some v):w.cell? a=some v:=by
 have hb:a.block<O.w0.heap.size:=by
  unfold World.cell? at hc
  cases hq:O.w0.heap[a.block]? with
  | none=>simp [hq] at hc
  | some o=>exact (xo.1 hq).1
 unfold World.cell? at hc ⊢;rw [h.1 _ hb];exact hc
def mA {ao:List AV} {r:AV} (hr:∀S w' lo u,ah O.af eF S w' r u->mb O.af S w' lo r u)
  (eV:∀args w,(callFunc (O.af n) args).run O.P w= .ok (.enter (O.af n) args) w)
  (h:∀w S args,zK O w->av O.af eF S w ao args.toList->xX O.P (O.af n) args w fun e w'=>∃u,e= .returned u/\Calm w w'/\∀S,ah O.af eF S w' r u):dS O n ao r:=by
 intro w S args hg hS dw _;refine .inl ⟨eV args w,Go.callsIn_wide.2 ((h w S args hg dw).mono ?_)⟩;rintro e w' ⟨u,rfl,hc,hu⟩;exact ⟨u,S,rfl,hc,fun _ h=>h,fun _ h=> .inl h,fun b hb=>yE (hS b hb) hc.size,hr S w' _ u (hu S)⟩
def JJ {ao:List AV} {r:AV} (hr:∀S w' lo u,ah O.af eF S w' r u->mb O.af S w' lo r u)
  (h:∀w S args,av O.af eF S w ao args.toList->∃u,(callFunc (O.af n) args).run O.P w= .ok (.value u) w/\∀S,ah O.af eF S w r u):dS O n ao r:=by
 intro w S args _ hS dw _;obtain ⟨u,h1,h2⟩:=h w S args dw;exact .inr ⟨u,w,h1,u,S,rfl,Calm.refl,fun _ h=>h,fun _ h=> .inl h,hS,hr S w _ u (h2 S)⟩
def Ga {s:List Nat}:∀S w' lo u,ah O.af eF S w' (.str s) u->mb O.af S w' lo (.str s) u:=fun S w' lo u h=>⟨[],rfl,h,rfl⟩
def Pu {k:IntKind} {z:Int}:∀S w' lo u,ah O.af eF S w' (.int k z) u->mb O.af S w' lo (.int k z) u:=fun S w' lo u h=>⟨[],rfl,h,rfl⟩
def aqW {k:FloatKind} {z:Nat}:∀S w' lo u,ah O.af eF S w' (.aw k z) u->mb O.af S w' lo (.aw k z) u:=fun S w' lo u h=>⟨[],rfl,h,rfl⟩
def aav {b:Bool}:∀S w' lo u,ah O.af eF S w' (.bool b) u->mb O.af S w' lo (.bool b) u:=fun S w' lo u h=>⟨[],rfl,h,rfl⟩
def Y0 {S:Nat->Prop} {w':yi} {lo:Nat}:∀{vs:List AV} {us:List yg},(∀v,v∈vs->(∀ex sz k cs,v≠.bI ex sz k cs)/\bk v=true)->av O.af eF S w' vs us->jP O.af S w' lo vs us []
 | [],us,_,h=>by simp only [av] at h;exact ⟨h,rfl⟩
 | v::vs,us,hv,h=>by
  simp only [av] at h;obtain ⟨u,t,rfl,h1,h2⟩:=h;have h3:=hv v (by simp);refine ⟨u,t,[],[],rfl,rfl,?_,Y0 (fun v hm=>hv v (by simp [hm])) h2⟩;cases v<;>first | exact ⟨rfl,h1,h3.2⟩ | exact absurd rfl (h3.1 _ _ _ _)
def CP {vs:List AV} (hv:∀v,v∈vs->(∀ex sz k cs,v≠.bI ex sz k cs)/\bk v=true):∀S w' lo u,ah O.af eF S w' (.aa vs) u->mb O.af S w' lo (.aa vs) u:=by
 intro S w' lo u h;obtain ⟨xs,rfl,h⟩:=h;exact ⟨xs,[],rfl,Y0 hv h,by simp⟩
def BC {S:Nat->Prop} {w:yi} {a:AV} {args:Array yg} (h:av O.af eF S w [a] args.toList):∃u,args=#[u]/\ah O.af eF S w a u:=by
 simp only [av] at h
 grind
def zO {S:Nat->Prop} {w:yi} {a b:AV} {args:Array yg} (h:av O.af eF S w [a,b] args.toList):∃u v,args=#[u,v]/\ah O.af eF S w a u/\ah O.af eF S w b v:=by
 simp only [av] at h
 grind
def afR {S:Nat->Prop} {w:yi} {a b c:AV} {args:Array yg} (h:av O.af eF S w [a,b,c] args.toList):∃u v x,args=#[u,v,x]/\ah O.af eF S w a u/\ah O.af eF S w b v/\ah O.af eF S w c x:=by
 simp only [av] at h
 grind
def FF {S:Nat->Prop} {w:yi} {s:List Nat} {l:List UInt8} (h:l.map xf=s):ah O.af eF S w (.str s) (.string ⟨l.toArray⟩):=by
 simp only [ah];exact ⟨_,rfl,h⟩
def toNat_inj {a b:UInt8}:yp a.toNat b.toNat=(a==b):=by
 by_cases h:a=b
 ·simp_all
 ·have h':a.toNat≠b.toNat:=fun e=>h (UInt8.toNat_inj.1 e)
  have e:(a==b)=false:=by simp_all
  rw [e]
  cases hq:yp a.toNat b.toNat with
  | false=>rfl
  | true=>exact absurd (yj hq) h'
def FM:∀(p s:List UInt8),gQ (p.map xf) (s.map xf)=p.isPrefixOf s
 | [],s=>by cases s<;>rfl
 | a::p,[]=>rfl
 | a::p,b::s=>by
  simp only [xm,gQ,List.isPrefixOf,FM p s,toNat_inj]
def Y1:∀(s sep:List UInt8) (k:Nat),lc (sep.map xf) (s.map xf) k=if 0<=Lib.index s sep then some (k+(Lib.index s sep).toNat) else none
 | [],sep,k=>by
  simp only [List.map_nil,lc,Lib.index]
  cases sep with
  | nil=>simp [gQ]
  | cons a r=>simp [gQ]
 | b::s,sep,k=>by
  have ih:=Y1 s sep (k+1);have hp:=FM sep (b::s);simp only [xm,lc,hp,Lib.index]
  grind
def aaw (b:UInt8):∀cs:List UInt8,Dg b.toNat (cs.map xf)=cs.contains b
 | []=>rfl
 | c::cs=>by
  simp only [xm,Dg,aaw b cs,List.contains_cons,toNat_inj]
  grind
def OL (cs:List UInt8):∀l:List UInt8,jK (cs.map xf) (l.map xf)=(l.dropWhile (cs.contains ·)).map xf
 | []=>rfl
 | b::l=>by
  simp only [xm,jK,aaw,List.dropWhile_cons,OL cs l]
  grind
def aax (l:List UInt8):∀n,gl (l.map xf) n=(Lib.repeatL l n).map xf
 | 0=>rfl
 | n+1=>by simp only [gl,Lib.repeatL,xH,aax l n]
def YA:∀(f n:Nat) (acc:List Nat),n<f->lS f n acc=(Lib.decDigits n).map xf++acc
 | 0,n,acc,h=>by omega
 | f+1,n,acc,h=>by
  rw [lS,Lib.decDigits];by_cases hn:n<10
  ·rw [show yI n 10=true from yr hn,yz,dif_pos hn]
   have:(ybG (48+n)).toNat=48+n:=by
    rw [yaA];omega
   grind
  ·have hb:yI n 10=false:=by
    cases hq:yI n 10 with
    | false=>rfl
    | true=>exact absurd (yo hq) (by omega)
   rw [hb,yX,dif_neg hn,YA f (n/10) _ (by omega),xH,List.append_assoc]
   have:(ybG (48+n%10)).toNat=48+n%10:=by
    rw [yaA];omega
   grind
def O8 (n:Nat):aq n=(Lib.decDigits n).map xf:=by
 rw [aq,YA (n+1) n [] (by omega),List.append_nil]
def aoY (n:Int):aU n=(Lib.itoa n).map xf:=by
 cases n with
 | ofNat k=>
  have:¬ybe k<0:=by simp
  simp only [aU,Lib.itoa,this,xk,O8];rfl
 | negSucc k=>
  have:Int.negSucc k<0:=Int.negSucc_lt_zero k
  simp only [aU,Lib.itoa,this,xR,O8,xm];rfl
def O9:∀f x:Nat,dK f x=Lib.bitLenAux f x
 | 0,_=>rfl
 | f+1,x=>by
  rw [dK,Lib.bitLenAux];by_cases h:x=0
  ·simp_all
  ·have hb:yp x 0=false:=by
    cases hq:yp x 0 with
    | false=>rfl
    | true=>exact absurd (yj hq) h
   rw [hb,yX,yu h,O9 f]
def Y2:∀{cs:List UInt8},CT (cs.map xf)=true->∀(j:Nat) b,cs[j]? =some b->b.toNat<128
 | [],_,j,b,h=>by simp at h
 | c::cs,h,j,b,hb=>by
  simp only [xm,CT,yf] at h
  cases j with
  | zero=>
   simp_all
  | succ j=>exact Y2 h.2 j b (by simpa using hb)
def aay:∀{l:List UInt8} {a z:Nat},cC (l.map xf) a=some z->Lib.decFrom a l=some z
 | [],a,z,h=>h
 | b::l,a,z,h=>by
  simp only [xm,cC] at h
  cases hb:(yy 48 b.toNat&&yy b.toNat 57) with
  | false=>rw [hb] at h;cases h
  | true=>
   rw [hb] at h;simp only [yf] at hb;have h1:=yo hb.1;have h2:=yo hb.2
   have:=aay h
   rw [Lib.decFrom,Lib.digitVal,yL ⟨h1,h2⟩]
   grind
def aoZ {l:List UInt8} {z:Nat} (h:cC (l.map xf) 0=some z) (h0:0<l.length):Lib.atoi l=some (z:Int):=by
 cases l with
 | nil=>simp at h0
 | cons b r=>
  have hd:=aay h;have hb:48<=b.toNat:=by
   simp only [xm,cC] at h
   cases hb:(yy 48 b.toNat&&yy b.toNat 57) with
   | false=>rw [hb] at h;cases h
   | true=>
    simp_all
  have h1:(b==45)=false:=by
   have:b≠45:=fun e=>by subst e;exact absurd hb (by decide)
   grind
  have h2:(b==43)=false:=by
   have:b≠43:=fun e=>by subst e;exact absurd hb (by decide)
   grind
  simp only [Lib.atoi,h1,h2,yB,xk,Lib.decNat,List.isEmpty_cons,hd,Option.map_some]
section
variable {f:tA}
def ak7 (hf:O.af n=f) (eV:∀args w,(callFunc f args).run O.P w= .ok (.enter f args) w)
  (hc:∀(s p:ByteArray) (w:yi),xX O.P f #[.string s,.string p] w fun e w'=>e= .returned (.tuple #[.string ⟨(Lib.trimPrefix s.data.toList p.data.toList).toArray⟩,.bool (Lib.hasPrefix s.data.toList p.data.toList)])/\w'=w):
  ∀ao r,Jv ao=some r->dS O n ao r:=by
 intro ao r h;unfold Jv at h
 split at h
 ·rename_i s p;simp only [yb] at h;subst h;refine mA ?_ (by rw [hf];exact eV) ?_
  ·cases gQ p s<;>exact CP (by simp [bk])
  ·intro w S args hg dw;obtain ⟨u,v,rfl,h1,h2⟩:=zO dw;obtain ⟨t1,rfl,rfl⟩:=h1;obtain ⟨t2,rfl,rfl⟩:=h2;rw [hf];refine (hc t1 t2 w).mono ?_;rintro e w' ⟨rfl,rfl⟩;refine ⟨_,rfl,Calm.refl,fun S=>?_⟩;rw [FM,xy];unfold Lib.trimPrefix Lib.hasPrefix
   cases hp:t2.data.toList.isPrefixOf t1.data.toList with
   | true=>
    simp only [yz,xR,ah,av]
    simp_all
   | false=>
    simp only [yX,yB,xk,ah,av]
    grind
 ·cases h
def ak8 (hf:O.af n=f) (eV:∀args w,(callFunc f args).run O.P w= .ok (.enter f args) w)
  (hc:∀(s p:ByteArray) (w:yi),xX O.P f #[.string s,.string p] w fun e w'=>e= .returned (.bool (Lib.hasPrefix s.data.toList p.data.toList))/\w'=w):
  ∀ao r,Jw ao=some r->dS O n ao r:=by
 intro ao r h;unfold Jw at h
 split at h
 ·rename_i s p;simp only [yb] at h;subst h;refine mA aav (by rw [hf];exact eV) ?_
  intro w S args hg dw;obtain ⟨u,v,rfl,h1,h2⟩:=zO dw;obtain ⟨t1,rfl,rfl⟩:=h1;obtain ⟨t2,rfl,rfl⟩:=h2;rw [hf];refine (hc t1 t2 w).mono ?_;rintro e w' ⟨rfl,rfl⟩;refine ⟨_,rfl,Calm.refl,fun S=>?_⟩;rw [FM];simp only [ah,Lib.hasPrefix]
 ·cases h
def ak4 (hf:O.af n=f) (eV:∀args w,(callFunc f args).run O.P w= .ok (.enter f args) w)
  (hc:∀(s p:ByteArray) (w:yi),xX O.P f #[.string s,.string p] w fun e w'=>e= .returned (.string ⟨(Lib.trimPrefix s.data.toList p.data.toList).toArray⟩)/\w'=w):
  ∀ao r,Jl ao=some r->dS O n ao r:=by
 intro ao r h;unfold Jl at h
 split at h
 ·rename_i s p;simp only [yb] at h;subst h;refine mA Ga (by rw [hf];exact eV) ?_
  intro w S args hg dw;obtain ⟨u,v,rfl,h1,h2⟩:=zO dw;obtain ⟨t1,rfl,rfl⟩:=h1;obtain ⟨t2,rfl,rfl⟩:=h2;rw [hf];refine (hc t1 t2 w).mono ?_;rintro e w' ⟨rfl,rfl⟩;refine ⟨_,rfl,Calm.refl,fun S=>?_⟩;rw [FM,xy];refine FF ?_;unfold Lib.trimPrefix Lib.hasPrefix
  cases hp:t2.data.toList.isPrefixOf t1.data.toList with
  | true=>simp [List.map_drop]
  | false=>simp
 ·cases h
def aqX (hf:O.af n=f) (eV:∀args w,(callFunc f args).run O.P w= .ok (.enter f args) w) {a:Addr} {m:Int} (hm:O.w0.cell? a=some (.int .i64 m))
  (hc:∀(s sep:ByteArray) (w:yi),s.size<4294967281->w.cell? a=some (.int .i64 m)->xX O.P f #[.string s,.string sep] w fun e w'=>e= .returned (.tuple #[.string ⟨(Lib.cut s.data.toList sep.data.toList).1.toArray⟩,.string ⟨(Lib.cut s.data.toList sep.data.toList).2.1.toArray⟩,.bool (Lib.cut s.data.toList sep.data.toList).2.2])/\∃n,w'=w.drewN n):
  ∀ao r,Lq ao=some r->dS O n ao r:=by
 intro ao r h;unfold Lq at h
 split at h
 ·rename_i s sep
  cases hb:yI s.length 4294967281 with
  | false=>rw [hb] at h;cases h
  | true=>
   rw [hb] at h;have key:∀(q:List UInt8×List UInt8×Bool),(∀t1 t2:ByteArray,t1.data.toList.map xf=s->t2.data.toList.map xf=sep->r= .aa [.str ((Lib.cut t1.data.toList t2.data.toList).1.map xf),.str ((Lib.cut t1.data.toList t2.data.toList).2.1.map xf),.bool (Lib.cut t1.data.toList t2.data.toList).2.2])->
     (∃a b c,r= .aa [.str a,.str b,.bool c])->dS O n [.str s,.str sep] r:=by
    intro q hq ati;obtain ⟨a',b',c',rfl⟩:=ati;refine mA (CP (by simp [bk])) (by rw [hf];exact eV) ?_
    intro w S args hg dw;obtain ⟨u,v,rfl,h1,h2⟩:=zO dw;obtain ⟨t1,rfl,e1⟩:=h1;obtain ⟨t2,rfl,e2⟩:=h2;rw [hf];have hl:t1.size<4294967281:=by
     have:=lU hb
     rw [<-e1,xy] at this
     simp_all
    refine (hc t1 t2 w hl (anc hg hm)).mono ?_;rintro e w' ⟨rfl,k,rfl⟩;refine ⟨_,rfl,anb k,fun S=>?_⟩;simp only [ah,av]
    grind
   refine key ([],[],false) ?_ ?_
   ·intro t1 t2 e1 e2;subst e1;subst e2;rw [Y1] at h;unfold Lib.cut;by_cases h0:0<=Lib.index t1.data.toList t2.data.toList
    ·simp_all
    ·grind
   ·grind
 ·cases h
def ao0 (hf:O.af n=f) (eV:∀args w,(callFunc f args).run O.P w= .ok (.enter f args) w)
  (hc:∀(s cs:ByteArray) (w:yi),s.size<=9223372036854775807->cs.size<4294967281->(∀(j:Nat) b,cs.data.toList[j]? =some b->b.toNat<128)->xX O.P f #[.string s,.string cs] w fun e w'=>e= .returned (.string ⟨(Lib.trimS s.data.toList cs.data.toList).toArray⟩)/\RowKit.Below w.heap.size w w'):
  ∀ao r,trimS ao=some r->dS O n ao r:=by
 intro ao r h;unfold trimS at h
 split at h
 ·rename_i s cs
  cases hb:(CT cs&&(yI s.length 4294967281&&yI cs.length 4294967281)) with
  | false=>rw [hb] at h;cases h
  | true=>
   rw [hb] at h;simp only [yz,yb] at h;subst h;simp only [yf] at hb;refine mA Ga (by rw [hf];exact eV) ?_
   intro w S args hg dw;obtain ⟨u,v,rfl,h1,h2⟩:=zO dw;obtain ⟨t1,rfl,rfl⟩:=h1;obtain ⟨t2,rfl,rfl⟩:=h2;have mi:=lU hb.2.1;have qQ:=lU hb.2.2;rw [xy] at mi qQ;rw [hf];refine (hc t1 t2 w (by rw [Lib.size_eq];omega) (by rw [Lib.size_eq];omega) (Y2 hb.1)).mono ?_;rintro e w' ⟨rfl,hw⟩;refine ⟨_,rfl,FE hw,fun S=>FF ?_⟩;simp only [Lib.trimS,Lib.trimLeftS,Lib.trimRightS];rw [<-yae,OL,<-yae,OL]
 ·cases h
def amc (hf:O.af n=f) (eV:∀args w,(callFunc f args).run O.P w= .ok (.enter f args) w)
  (hc:∀(s:ByteArray) (c:Nat) (w:yi),c<=9223372036854775807->s.size*c<=140737488355328->xX O.P f #[.string s,.int .i64 c] w fun e w'=>e= .returned (.string ⟨(Lib.repeatL s.data.toList c).toArray⟩)/\RowKit.Below w.heap.size w w'):
  ∀ao r,zq ao=some r->dS O n ao r:=by
 intro ao r h;unfold zq at h
 split at h
 ·rename_i s c
  cases hb:(yy c 1099511627776&&yy (s.length*c) 1099511627776) with
  | false=>rw [hb] at h;cases h
  | true=>
   rw [hb] at h;simp only [yz,yb] at h;subst h;simp only [yf] at hb;have l1:=yo hb.1;have l2:=yo hb.2;refine mA Ga (by rw [hf];exact eV) ?_
   intro w S args hg dw;obtain ⟨u,v,rfl,h1,h2⟩:=zO dw;obtain ⟨t1,rfl,rfl⟩:=h1;subst h2;rw [hf];rw [xy] at l2;refine (hc t1 c w (by omega) (by rw [Lib.size_eq];omega)).mono ?_;rintro e w' ⟨rfl,hw⟩;exact ⟨_,rfl,FE hw,fun S=>FF (aax _ _).symm⟩
 ·cases h
def ao1 (hf:O.af n=f) (eV:∀args w,(callFunc f args).run O.P w= .ok (.enter f args) w)
  (hc:∀(z:Int) (w:yi),-9223372036854775808<=z->z<=9223372036854775807->zK O w->xX O.P f #[.int .i64 z] w fun e w'=>e= .returned (.string ⟨(Lib.itoa z).toArray⟩)/\Calm w w'):
  ∀ao r,G2 ao=some r->dS O n ao r:=by
 intro ao r h;unfold G2 at h
 split at h
 ·rename_i z
  cases hb:zN z with
  | false=>rw [hb] at h;cases h
  | true=>
   rw [hb] at h;simp only [yz,yb] at h;subst h;have hz: -9223372036854775808<=z/\z<=9223372036854775807:=by
    cases z with
    | ofNat k=>have:=lU hb;show -9223372036854775808<=(k:Int)/\(k:Int)<=9223372036854775807;omega
    | negSucc k=>have:=lU hb;omega
   refine mA Ga (by rw [hf];exact eV) ?_
   intro w S args hg dw;obtain ⟨u,rfl,h1⟩:=BC dw;subst h1;rw [hf];refine (hc z w hz.1 hz.2 hg).mono ?_;rintro e w' ⟨rfl,hw⟩;exact ⟨_,rfl,hw,fun S=>FF (aoY z).symm⟩
 ·cases h
def ak5 (hf:O.af n=f) (eV:∀args w,(callFunc f args).run O.P w= .ok (.enter f args) w)
  (hc:∀(z:Nat) (w:yi),z<18446744073709551616->zK O w->xX O.P f #[.int .u64 z,.int .i64 10] w fun e w'=>e= .returned (.string ⟨(Lib.decDigits z).toArray⟩)/\Calm w w'):
  ∀ao r,sX ao=some r->dS O n ao r:=by
 intro ao r h;unfold sX at h
 split at h
 ·rename_i z
  cases hb:yI z 18446744073709551616 with
  | false=>rw [hb] at h;cases h
  | true=>
   rw [hb] at h;simp only [yz,yb] at h;subst h;refine mA Ga (by rw [hf];exact eV) ?_
   intro w S args hg dw;obtain ⟨u,v,rfl,h1,h2⟩:=zO dw;subst h1;subst h2;rw [hf];refine (hc z w (lU hb) hg).mono ?_;rintro e w' ⟨rfl,hw⟩;exact ⟨_,rfl,hw,fun S=>FF (O8 z).symm⟩
 ·cases h
def ao2 (hf:O.af n=f) (eV:∀args w,(callFunc f args).run O.P w= .ok (.enter f args) w)
  (hc:∀(s:ByteArray) (z:Int) (w:yi),s.size<=18->Lib.atoi s.data.toList=some z->xX O.P f #[.string s] w fun e w'=>e= .returned (.tuple #[.int .i64 z,.nilIface])/\Calm w w'):
  ∀ao r,G3 ao=some r->dS O n ao r:=by
 intro ao r h;unfold G3 at h
 split at h
 ·rename_i s
  cases hb:(yI 0 s.length&&yy s.length 18) with
  | false=>rw [hb] at h;cases h
  | true=>
   rw [hb] at h;simp only [yz] at h;simp only [yf] at hb;have l1:=lU hb.1;have l2:=yo hb.2
   split at h
   ·rename_i z hz;simp only [yb] at h;subst h;refine mA (CP (by simp [bk])) (by rw [hf];exact eV) ?_
    intro w S args hg dw;obtain ⟨u,rfl,h1⟩:=BC dw;obtain ⟨t1,rfl,rfl⟩:=h1;rw [xy] at l1 l2;have ha:Lib.atoi t1.data.toList=some (z:Int):=aoZ hz l1;rw [hf];refine (hc t1 z w (by rw [Lib.size_eq];exact l2) ha).mono ?_
    simp only [ah,av]
    grind
   ·cases h
 ·cases h
def ane (hf:O.af n=f) (eV:∀args w,(callFunc f args).run O.P w= .ok (.enter f args) w)
  (hc:∀(x y:Nat) (w:yi),x<18446744073709551616->y<18446744073709551616->xX O.P f #[.int .u64 x,.int .u64 y] w fun e w'=>e= .returned (.tuple #[.int .u64 ((x*y/18446744073709551616:Nat):Int),.int .u64 ((x*y%18446744073709551616:Nat):Int)])/\w'=w):
  ∀ao r,p6 ao=some r->dS O n ao r:=by
 intro ao r h;unfold p6 at h
 split at h
 ·rename_i x y
  cases hb:(yI x 18446744073709551616&&yI y 18446744073709551616) with
  | false=>rw [hb] at h;cases h
  | true=>
   rw [hb] at h;simp only [yz,yb] at h;subst h;simp only [yf] at hb;refine mA (CP (by simp [bk])) (by rw [hf];exact eV) ?_
   intro w S args hg dw;obtain ⟨u,v,rfl,h1,h2⟩:=zO dw;subst h1;subst h2;rw [hf];refine (hc x y w (lU hb.1) (lU hb.2)).mono ?_;rintro e w' ⟨rfl,rfl⟩;refine ⟨_,rfl,Calm.refl,fun S=>?_⟩;simp only [ah,av]
   grind
 ·cases h
def anf (hf:O.af n=f) (eV:∀args w,(callFunc f args).run O.P w= .ok (.enter f args) w)
  (hc:∀(x:Int) (w:yi),0<=x->x<=18446744073709551615->xX O.P f #[.int .u64 x] w fun e w'=>e= .returned (.int .i64 (Lib.bitLen x.toNat:Nat))/\w'=w):
  ∀ao r,Gk ao=some r->dS O n ao r:=by
 intro ao r h;unfold Gk at h
 split at h
 ·rename_i x
  cases hb:yI x 18446744073709551616 with
  | false=>rw [hb] at h;cases h
  | true=>
   rw [hb] at h;simp only [yz,yb] at h;subst h
   have:=lU hb
   refine mA Pu (by rw [hf];exact eV) ?_
   intro w S args hg dw;obtain ⟨u,rfl,h1⟩:=BC dw;subst h1;rw [hf];refine (hc (ybe x) w (tZ x) (by show (x:Int)<=_;omega)).mono ?_;rintro e w' ⟨rfl,rfl⟩;refine ⟨_,rfl,Calm.refl,fun S=>?_⟩;rw [O9];rfl
 ·cases h
def ao3 (hf:O.af n=f) (eV:∀args w,(callFunc f args).run O.P w= .ok (.enter f args) w)
  (hc:∀(x:Int) (w:yi),0<=x->x<=18446744073709551615->xX O.P f #[.int .u64 x] w fun e w'=>e= .returned (.int .i64 (64-(Lib.bitLen x.toNat:Nat)))/\w'=w):
  ∀ao r,Db ao=some r->dS O n ao r:=by
 intro ao r h;unfold Db at h
 split at h
 ·rename_i x
  cases hb:yI x 18446744073709551616 with
  | false=>rw [hb] at h;cases h
  | true=>
   rw [hb] at h;simp only [yz,yb] at h;subst h
   have:=lU hb
   have hle:∀f x,Lib.bitLenAux f x<=f:=by
    intro f
    induction f with
    | zero=>intro x;exact yA _
    | succ f ih=>
     intro x;rw [Lib.bitLenAux]
     grind
   refine mA Pu (by rw [hf];exact eV) ?_
   intro w S args hg dw;obtain ⟨u,rfl,h1⟩:=BC dw;subst h1;rw [hf];refine (hc (ybe x) w (tZ x) (by show (x:Int)<=_;omega)).mono ?_;rintro e w' ⟨rfl,rfl⟩;refine ⟨_,rfl,Calm.refl,fun S=>?_⟩;simp only [ah,O9];show Value.int .i64 (64-(Lib.bitLenAux 64 x:Int))=Value.int .i64 ((64-Lib.bitLenAux 64 x:Nat):Int)
   grind
 ·cases h
def alv (hf:O.af n=f) (hc:∀(b:Nat) (w:yi),(callFunc f #[.float .f64 b]).run O.P w= .ok (.value (.int .u64 b)) w):
  ∀ao r,JZ ao=some r->dS O n ao r:=by
 intro ao r h;unfold JZ at h
 split at h
 ·rename_i b;simp only [yb] at h;subst h;refine JJ Pu ?_;intro w S args dw;obtain ⟨u,rfl,h1⟩:=BC dw;simp only [ah] at h1;subst h1;rw [hf];exact ⟨_,hc b w,fun S=>rfl⟩
 ·cases h
def ak2 (hf:O.af n=f) (hc:∀(b:Nat) (w:yi),(callFunc f #[.int .u64 b]).run O.P w= .ok (.value (.float .f64 b)) w):
  ∀ao r,Jj ao=some r->dS O n ao r:=by
 intro ao r h;unfold Jj at h
 split at h
 ·rename_i b;simp only [yb] at h;subst h;refine JJ aqW ?_;intro w S args dw;obtain ⟨u,rfl,h1⟩:=BC dw;simp only [ah] at h1;subst h1;rw [hf];exact ⟨_,hc b w,fun S=>rfl⟩
 ·cases h
def ang (hf:O.af n=f)
  (hc:∀(x y c:Nat) (w:yi),c<=1->(callFunc f #[.int .u64 x,.int .u64 y,.int .u64 c]).run O.P w= .ok (.value (.tuple #[.int .u64 (((x+y+c)%18446744073709551616:Nat):Int),.int .u64 (((x+y+c)/18446744073709551616:Nat):Int)])) w):
  ∀ao r,mH ao=some r->dS O n ao r:=by
 intro ao r h;unfold mH at h
 split at h
 ·rename_i x y c
  cases hb:(yy c 1&&(yI x 18446744073709551616&&yI y 18446744073709551616)) with
  | false=>rw [hb] at h;cases h
  | true=>
   rw [hb] at h;simp only [yz,yb] at h;subst h;simp only [yf] at hb;refine JJ (CP (by simp [bk])) ?_;intro w S args dw;obtain ⟨u,v,z,rfl,h1,h2,h3⟩:=afR dw;subst h1;subst h2;subst h3;rw [hf];refine ⟨_,hc x y c w (yo hb.1),fun S=>?_⟩;simp only [ah,av]
   grind
 ·cases h
def anh (hf:O.af n=f)
  (hc:∀(x y b:Nat) (w:yi),b<=1->(callFunc f #[.int .u64 x,.int .u64 y,.int .u64 b]).run O.P w= .ok (.value (.tuple #[.int .u64 (((x+18446744073709551616-y-b)%18446744073709551616:Nat):Int),.int .u64 ((if x<y+b then 1 else 0:Nat):Int)])) w):
  ∀ao r,zA ao=some r->dS O n ao r:=by
 intro ao r h;unfold zA at h
 split at h
 ·rename_i x y c
  cases hb:(yy c 1&&(yI x 18446744073709551616&&yI y 18446744073709551616)) with
  | false=>rw [hb] at h;cases h
  | true=>
   rw [hb] at h;simp only [yz,yb] at h;subst h;simp only [yf] at hb;have dU:=yo hb.1;have hy:=lU hb.2.2;refine JJ (CP (by simp [bk])) ?_;intro w S args dw;obtain ⟨u,v,z,rfl,h1,h2,h3⟩:=afR dw;subst h1;subst h2;subst h3;rw [hf];refine ⟨_,hc x y c w dU,fun S=>?_⟩;simp only [ah,av];refine ⟨_,rfl,_,_,rfl,?_,_,_,rfl,?_,rfl⟩
   ·grind
   ·congr 1
    by_cases h:x<y+c
    ·have:yy (y+c) x=false:=by
      cases hq:yy (y+c) x with
      | false=>rfl
      | true=>have:=yo hq;omega
     grind
    ·rw [yr (by omega),yu h];rfl
 ·cases h
end
end
end
end VE
