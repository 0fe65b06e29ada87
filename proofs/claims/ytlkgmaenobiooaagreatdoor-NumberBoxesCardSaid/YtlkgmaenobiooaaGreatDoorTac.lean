import Derived.RangeFuncLeaves
import Derived.Test.YtlkgmaenobiooaaGreatDoorTab
set_option linter.all false
set_option maxRecDepth 100000
open Array renaming getElem?_eq_some_iff→xp,length_toList→vR
open Bool renaming and_eq_true→yg
open Go renaming Call→yas,Ending→uZ,Exit→uL,FuncId→yaQ,Next→yab,Oper→yZ,Operand→xu,Program→xe,RoundIn→yaH,TypeId→yt,TypeInfo→ycc,Value→yf,World→yh,sizeOf→vJ
open List renaming append_assoc→xD,eq_nil_of_length_eq_zero→yN,getElem?_append_left→wz,getElem?_append_right→xU,length_append→yU,length_drop→wm,length_take→yR,mem_append→wI,size_toArray→uK,take_of_length_le→yK
open Nat renaming add_mul→wL,beq→yu,beq_refl→vj,ble→yG,blt→yL,eq_of_beq_eq_true→yo,eq_zero_or_pos→xj,le_of_ble_eq_true→yv,le_refl→yA,le_trans→yS,lt_of_lt_of_le→yO,min_le_left→yaS,mul_le_mul_right→yY
open Option.some renaming injEq→yc
open Prod.mk renaming injEq→yq
open UInt8 renaming toNat→xf
namespace VE
section
open Go
def Kb {hp:Hp} {id i:Nat}:aF (eT hp id) i=if id=i then none else aF hp i:=by
 induction hp with
 | nil=>simp [eT,aF]
 | cons x r ih=>
  obtain ⟨j,q⟩:=x;simp only [eT];by_cases hj:j=id
  ·subst hj;simp only [vj,yB,ih,aF];by_cases hi:j=i
   ·grind
   ·have:yu j i=false:=by
     cases hq:yu j i with
     | false=>rfl
     | true=>exact absurd (yo hq) hi
    grind
  ·have hb:yu j id=false:=by
    cases hq:yu j id with
    | false=>rfl
    | true=>exact absurd (yo hq) hj
   simp only [hb,yM];rw [show aF ((j,q)::eT r id) i=bif yu j i then some q else aF (eT r id) i from rfl,ih];by_cases hi:j=i
   ·subst hi
    have:¬id=j:=fun h=>hj h.symm
    simp [vj,this,aF]
   ·have zg:yu j i=false:=by
     cases hq:yu j i with
     | false=>rfl
     | true=>exact absurd (yo hq) hi
    simp [zg,aF]
section
variable {O:bw} {H:Hint} {m:Mp} {S:Nat->Prop} {w:yh} {tm:Env} {a:Act} {hp:Hp} {ct:Nat}
def Src (P:xe) (w:yh) (size n:Nat) (news:List yf) (x:yf):Prop:=
 (∀w',(Builtin.lenOf x).run P w'= .ok n w')/\news.length=n*size/\
 ∀w',w'.heap=w.heap->∀k,k<=n->(Builtin.firstCells size k x).run P w'= .ok (news.take (k*size)).toArray w'
def Kc {P:xe} {size n c:Nat} {b:Addr} {news:List yf} (hl:news.length=n*size) (hc:∀j u,news[j]? =some u->w.cell? (b.add j)=some u):
  Src P w size n news (.slice (some b) n c):=by
 refine ⟨fun w'=>by simp [Builtin.lenOf],hl,fun w' hw k hk=>?_⟩;have hle:k*size<=news.length:=by rw [hl];exact yY _ hk
 refine run_firstCells_some (P:=P) w' size k b n c (news.take (k*size)) (by rw [yR];omega) (fun j v hv=>?_);rw [List.getElem?_take] at hv
 split at hv
 ·have:=hc j v hv
  simpa [World.cell?,hw] using this
 ·cases hv
def ag0 {P:xe} {size:Nat}:Src P w size 0 [] (.slice none 0 0):=
 ⟨fun w'=>by simp [Builtin.lenOf],by simp,fun w' _ k hk=>by simp [Builtin.firstCells]⟩
def aqY (s:ByteArray) (k:Nat):(s.extract 0 k).data.map (fun b=>Value.int .u8 b.toNat)=((s.data.toList.map fun b=>Value.int .u8 (b.toNat:Int)).take k).toArray:=by
 have:(s.extract 0 k).data=s.data.extract 0 k:=by simp
 grind
def avU {P:xe} {s:ByteArray}:Src P w 1 s.size (s.data.toList.map fun b=>Value.int .u8 (b.toNat:Int)) (.string s):=by
 refine ⟨fun w'=>by simp [Builtin.lenOf],by simp,fun w' _ k hk=>?_⟩;simp only [Builtin.firstCells,Sem.run_pure,Nat.mul_one];rw [aqY]
def aed {aj:Nat->Nat}:∀l:List UInt8,aA aj m S w (OY (l.map xf)) (l.map fun b=>Value.int .u8 (b.toNat:Int))
 | []=>by simp [OY,aA]
 | b::r=>by
  exact ⟨_,_,rfl,by simp [an],aed r⟩
def aeD {size n:Nat} {vx:AV} {x:yf} {cs:List AV} (hh:aX O m S w hp ct) (hx:an O.aj m S w vx x) (h:rb hp size vx=some (n,cs)):
  ∃us,aA O.aj m S w cs us/\Src O.P w size n us x:=by
 cases vx<;>simp only [rb,reduceCtorEq] at h
 case aa=>
  obtain ⟨rfl,rfl⟩:=h;subst hx;exact ⟨[],by simp [aA],ag0⟩
 case ap ex n' eG=>
  cases hc:yu eG.length (n'*size) with
  | false=>rw [hc] at h;cases h
  | true=>
   rw [hc] at h;obtain ⟨rfl,rfl⟩:=h;have hl:=yo hc;rcases hx with ⟨b,o,c,rfl,h1,h2,h3,h4,h5⟩ | ⟨ad,rfl,rfl,rfl⟩
   ·obtain ⟨us,g1,g2,g3⟩:=zG _ b o h5;exact ⟨us,g1,Kc (by omega) (fun j u hj=>by rw [pH];exact g3 j u hj)⟩
   ·exact ⟨[],by simp [aA],Kc (by simp) (fun j u hj=>by simp at hj)⟩
 case ay id o n'=>
  cases hg:aF hp id with
  | none=>simp [hg] at h
  | some ob=>
   cases ob<;>simp only [hg,reduceCtorEq] at h
   rename_i rw pu ex z eG
   cases hc:yG (o+n'*size) eG.length with
   | false=>rw [hc] at h;cases h
   | true=>
    rw [hc] at h;simp only [yB,yc,yq] at h;obtain ⟨rfl,rfl⟩:=h;have hl:=yv hc;obtain ⟨p,c,hm,rfl,h1,h2⟩:=hx;have hr:=UX (o:=0) (n:=0) hh hg hm;have lH:=DL (n'*size) _ _ _ (rY o _ _ _ hr);obtain ⟨us,g1,g2,g3⟩:=zG _ p.b (p.o+o) lH;refine ⟨us,g1,Kc ?_ (fun j u hj=>by rw [pH];exact g3 j u hj)⟩
    grind
def arW {size n:Nat} {vx:AV} {x:yf} {cs:List AV} (hh:aX O m S w hp ct) (hx:an O.aj m S w vx x) (h:zX hp size vx=some (n,cs)):
  ∃us,aA O.aj m S w cs us/\Src O.P w size n us x:=by
 cases vx<;>try exact aeD hh hx h
 simp only [zX] at h
 cases hc:yu size 1 with
 | false=>rw [hc] at h;cases h
 | true=>
  rw [hc] at h;obtain ⟨rfl,rfl⟩:=h
  have:=yo hc
  subst this;obtain ⟨t,rfl,rfl⟩:=hx;refine ⟨_,aed _,?_⟩
  have:(List.map xf t.data.toList).length=t.size:=by simp
  rw [this];exact avU
def aqe {P:xe} {t u ty e:yt} {i:ycc} (ht:P.underlying t=some (.slice e)) (hu:(∃e',P.underlying u=some (.slice e'))\/P.underlying u=some .string) (hi:P.info? e=some i)
  {g o iI rD:Nat} {Nh:Array yf} {te:yt} (hg:w.heap[g]? =some (.cells Nh te (0,0))) {x:yf} {n:Nat} {news:List yf} (hs:Src P w i.size n news x) (h1:∀u∈news,u.oneCell'=true)
  (GW:iI+n<=rD) (WR:o+iI*i.size+news.length<=Nh.size):
  (Builtin.append_ #[t,u] ty #[.slice (some ⟨g,o,none⟩) iI rD,x]).run P w=
   .ok (.slice (some ⟨g,o,none⟩) (iI+n) rD) (w.setRow g (Nh.toList.take (o+iI*i.size)++news++Nh.toList.drop (o+iI*i.size+news.length)).toArray):=by
 obtain ⟨nS,Bj,hs3⟩:=hs;have hf:=hs3 w rfl n (yA _);rw [yK (by omega)] at hf;have aY:=run_storeCells_at P g (o+iI*i.size) te news 0 Nh w hg (by omega) h1;rcases hu with ⟨e',hd⟩ | hd<;>
  simp [Builtin.append_,run_underlying ht,run_underlying hd,vJ,typeInfo,hi,nS,GW,hf,pH,aY]
def TW {P:xe} {t u ty e:yt} {i:ycc} {z:yf} (ht:P.underlying t=some (.slice e)) (hu:(∃e',P.underlying u=some (.slice e'))\/P.underlying u=some .string) (hi:P.info? e=some i) (hz:i.zero=some z)
  {s:yf} {base:Option Addr} {iI rD:Nat} (es:s= .slice base iI rD) {nH:List yf} (ho:Src P w i.size iI nH s) {x:yf} {n:Nat} {news:List yf} (hs:Src P w i.size n news x)
  (hg:rD<iI+n) (h63:iI+n<=1099511627776) (hby:(iI+n)*i.bytes<=1099511627776):
  (Builtin.append_ #[t,u] ty #[s,x]).run P w=
   .ok (.slice (some ⟨w.heap.size,0,none⟩) (iI+n) (grownCap w (iI+n) rD e))
    (w.drew.alloc (.cells ((nH++news).toArray++Builtin.zeroCells z.cells (grownCap w (iI+n) rD e-(iI+n))) e)):=by
 obtain ⟨nS,Bj,hs3⟩:=hs;obtain ⟨ho1,ho2,ho3⟩:=ho;have hf:=hs3 w.drew rfl n (yA _);rw [yK (by omega)] at hf;have hfo:=ho3 w.drew rfl iI (yA _);have hn:¬(iI+n<=rD):=by omega
 have aDg:¬(9223372036854775807<((iI:Int)+(n:Int))):=by omega
 have WR:=growslice_fits (need:=iI+n) (old:=rD) (bytes:=i.bytes) hg (by omega);have aDh:¬(281474976710656<Builtin.nextslicecap (iI+n) rD*i.bytes):=by omega
 subst es;rcases hu with ⟨e',hd⟩ | hd
 all_goals
  simp [Builtin.append_,run_underlying ht,run_underlying hd,vJ,typeInfo,zeroValue,hi,hz,nS,hn,aDg,aDh,Question.forced,hf,hfo,newRow,askRoom,grownCap]
  grind
def UD {e:yt} {z:yf} {sz need cap:Nat} {cs:List AV} {us:List yf} (hh:aX O m S w hp ct) (hr:aA O.aj m S w cs us) (hl:us.length=need*sz) (hz:z.cells.size=sz)
  (PO:Bool) (hpp:PO=true->aO cs=true) (hc:need<=cap):
  let w':=w.drew.alloc (.cells (us.toArray++Builtin.zeroCells z.cells (cap-need)) e)
  let p:Pl:=⟨w.heap.size,0,cap*sz,sz⟩
  ∀m',dN m m'->m' ct=some p->fF O m' S w' ct (.cells true PO false sz cs):=by
 intro w' p m' hm hi;have aY:fS S w w':=fun b hb=>by
  have:=hh.slt b hb
  exact RowKit.Below.heap_alloc w.drew _ b (by simpa using this)
 have lZ:w'.heap[w.heap.size]? =some (.cells (us.toArray++Builtin.zeroCells z.cells (cap-need)) e (0,0)):=heap_alloc_new w.drew _;have lF:=iY _ _ hr;refine ⟨p,_,e,hi,lZ,rfl,?_,?_,by simp,?_,hpp,?_,by simp⟩
 ·show cs.length<=cap*sz
  rw [<-lF,hl];exact yY _ hc
 ·show 0+cap*sz<=_
  rw [Array.size_append,uK,size_zeroCells,hz,hl,<-wL]
  grind
 ·refine UA lZ cs us 0 (ib hm (fun _ h=>h) aY _ _ hr) (fun j u hj=>?_)
  grind
 ·intro _ hS
  have:=hh.slt _ hS
  grind
def ap2 (hh:aX O m S w hp ct) (g:Go.Obj):fS S w (w.drew.alloc g):=fun b hb=>by
 have:=hh.slt b hb
 exact RowKit.Below.heap_alloc w.drew _ b (by simpa using this)
def UE (hh:aX O m S w hp ct) {hp0:Hp} {g:Go.Obj} {p:Pl} {o:Obj} (Qb:∀i q,aF hp0 i=some q->aF hp i=some q) (hb:p.b=w.heap.size)
  (ho:∀m',dN m m'->m' ct=some p->fF O m' S (w.drew.alloc g) ct o):
  aX O (fG m ct p) S (w.drew.alloc g) ((ct,o)::hp0) (ct+1)/\cC m S w hp (fG m ct p) S (w.drew.alloc g) ((ct,o)::hp0) ct:=by
 have hn:m ct=none:=by
  cases h:m ct with
  | none=>rfl
  | some q=>have:=hh.lt _ _ h;omega
 have hle:=kW hn (p:=p);have aY:=ap2 hh g;have hold:∀b,b<w.heap.size->(w.drew.alloc g).heap[b]? =w.heap[b]? :=fun b hb=>RowKit.Below.heap_alloc w.drew _ b (by simpa using hb)
 have eY:(w.drew.alloc g).heap.size=w.heap.size+1:=by simp
 have iD:∀i q,aF ((ct,o)::hp0) i=some q->i≠ct->aF hp i=some q:=fun i q h hi=>by
  rw [ic,yp (fun e=>hi e.symm)] at h
  grind
 refine ⟨⟨?_,?_,?_,?_,?_,?_,?_,?_,fun i q hq=>(by
  by_cases hc:i=ct
  ·omega
  ·have:=hh.aZ _ _ (iD i q hq hc);omega)⟩,⟨rfl,rfl,rfl,by omega,?_,fun _ h=>h,fun b hb=>aY b hb,fun b hb=> .inl hb,?_,fun i q _ h=>hle i q h,fun b r hb=>⟨r,(hold b (xp.1 hb).1).trans hb⟩⟩⟩
 ·intro i q pi hi bW;by_cases hc:i=ct
  ·subst hc;rw [ic] at hi;simp only [xm,yc] at hi;subst hi;exact ho _ hle eP
  ·rw [eO hc] at bW;exact r9 hle (fun _ h=>h) aY (fun q' cm=>hold _ (hh.blt i q' cm)) (fun _ _ h=>h) (hh.obj i q pi (iD i q hi hc) bW)
 ·intro i q bW;by_cases hc:i=ct
  ·omega
  ·rw [eO hc] at bW;have:=hh.lt i q bW;omega
 ·intro i j oi oj pi pj hi hj bW gA e;by_cases ci:i=ct
  ·by_cases cj:j=ct
   ·grind
   ·subst ci;rw [eP] at bW;rw [eO cj] at gA;injection bW with bW
    subst bW
    have:=hh.blt j pj gA
    omega
  ·rw [eO ci] at bW;by_cases cj:j=ct
   ·subst cj;rw [eP] at gA;injection gA with gA
    subst gA
    have:=hh.blt i pi bW
    omega
   ·rw [eO cj] at gA;exact hh.inj i j oi oj pi pj (iD i oi hi ci) (iD j oj hj cj) bW gA e
 ·intro b hb;have:=hh.slt b hb;omega
 ·intro i q bW;by_cases hc:i=ct
  ·subst hc;rw [eP] at bW;injection bW with bW
   subst bW;omega
  ·rw [eO hc] at bW;have:=hh.blt i q bW;omega
 ·intro i q bW;have h0:=hh.fT;by_cases hc:i=ct
  ·subst hc;rw [eP] at bW;injection bW with bW
   subst bW;omega
  ·rw [eO hc] at bW;exact hh.low i q bW
 ·intro b hb;have h0:=hh.fT;exact (hold b (by omega)).trans (hh.lY b hb)
 ·have h0:=hh.fT;omega
 ·intro b hb _;exact hold b hb
 ·rintro b ⟨i,q,pi,h1,h2,h3⟩;by_cases hc:i=ct
  ·subst hc;rw [eP] at h2;injection h2 with h2
   subst h2;exact .inr (by omega)
  ·rw [eO hc] at h2;exact .inl ⟨i,q,pi,iD i q h1 hc,h2,h3⟩
def arX (hh:aX O m S w hp ct) {id:Nat} {o o':Obj} {p p':Pl} {w':yh} (hg:aF hp id=some o) (hm:m id=some p) (hn:¬S p.b) (hw:One w w' p.b) (hk:∀r:Loop,w.heap[p.b]? =some (.loop r)->∃r':Loop,w'.heap[p.b]? =some (.loop r')) (hb:p'.b=p.b)
  (ho:∀m',dN m m'->m' ct=some p'->fF O m' S w' ct o'):
  aX O (fG m ct p') S w' ((ct,o')::eT hp id) (ct+1)/\cC m S w hp (fG m ct p') S w' ((ct,o')::eT hp id) ct:=by
 have mU:m ct=none:=by
  cases h:m ct with
  | none=>rfl
  | some q=>have:=hh.lt _ _ h;omega
 have hle:=kW mU (p:=p');have aY:fS S w w':=fun b hb=>hw.other b (fun e=>hn (e▸hb))
 have iD:∀i q,aF ((ct,o')::eT hp id) i=some q->i≠ct->aF hp i=some q/\i≠id:=fun i q h hi=>by
  rw [ic,yp (fun e=>hi e.symm),Kb] at h
  grind
 have al6:∀i q pi,aF hp i=some q->i≠id->m i=some pi->pi.b≠p.b:=fun i q pi h hi bW e=>hi (hh.inj i id q o pi p h hg bW hm e)
 refine ⟨⟨?_,?_,?_,?_,?_,?_,?_,?_,fun i q hq=>(by
  by_cases hc:i=ct
  ·omega
  ·have:=hh.aZ _ _ (iD i q hq hc).1;omega)⟩,⟨hw.os,hw.tape,hw.output,by rw [hw.size];exact yA _,?_,fun _ h=>h,fun b hb=>aY b hb,fun b hb=> .inl hb,?_,fun i q _ h=>hle i q h,fun b r hb=>(by
  by_cases hc:b=p.b
  ·grind
  ·exact ⟨r,(hw.other b hc).trans hb⟩)⟩⟩
 ·intro i q pi hi bW;by_cases hc:i=ct
  ·subst hc;rw [ic] at hi;simp only [xm,yc] at hi;subst hi;exact ho _ hle eP
  ·rw [eO hc] at bW;obtain ⟨h1,h2⟩:=iD i q hi hc;exact r9 hle (fun _ h=>h) aY (fun q' cm=>hw.other _ (al6 i q q' h1 h2 cm)) (fun _ _ h=>h) (hh.obj i q pi h1 bW)
 ·intro i q bW;by_cases hc:i=ct
  ·omega
  ·rw [eO hc] at bW;have:=hh.lt i q bW;omega
 ·intro i j oi oj pi pj hi hj bW gA e;by_cases ci:i=ct
  ·by_cases cj:j=ct
   ·grind
   ·subst ci;rw [eP] at bW;rw [eO cj] at gA
    grind
  ·rw [eO ci] at bW;obtain ⟨h1,h2⟩:=iD i oi hi ci;by_cases cj:j=ct
   ·subst cj;rw [eP] at gA;injection gA with gA
    subst gA;exact (al6 i oi pi h1 h2 bW (by rw [e,hb])).elim
   ·rw [eO cj] at gA;exact hh.inj i j oi oj pi pj h1 (iD j oj hj cj).1 bW gA e
 ·intro b hb;rw [hw.size];exact hh.slt b hb
 ·intro i q bW;rw [hw.size];by_cases hc:i=ct
  ·subst hc;rw [eP] at bW;injection bW with bW
   subst bW;rw [hb];exact hh.blt id p hm
  ·rw [eO hc] at bW;exact hh.blt i q bW
 ·intro i q bW;by_cases hc:i=ct
  ·subst hc;rw [eP] at bW;injection bW with bW
   subst bW;rw [hb];exact hh.low id p hm
  ·rw [eO hc] at bW;exact hh.low i q bW
 ·intro b hb
  rw [hw.other b (fun e=>by have:=hh.low id p hm;omega)];exact hh.lY b hb
 ·rw [hw.size];exact hh.fT
 ·intro b _ da;exact hw.other b (fun e=>da (e▸KO hg hm))
 ·rintro b ⟨i,q,pi,h1,h2,h3⟩;by_cases hc:i=ct
  ·subst hc;rw [eP] at h2;injection h2 with h2
   subst h2;exact .inl ⟨id,o,p,hg,hm,by rw [<-h3,hb]⟩
  ·rw [eO hc] at h2;exact .inl ⟨i,q,pi,(iD i q h1 hc).1,h2,h3⟩
def avV {P:xe} {e:yt} {s cO:Nat} {z:AV} (hs:cU P e=some s) (hb:C6 P e=some cO) (hz:nD P e=some z):
  ∃ti zv,P.info? e=some ti/\ti.size=s/\ti.bytes=cO/\ti.zero=some zv/\z=eS zv:=by
 unfold cU at hs;unfold C6 at hb;unfold nD at hz
 cases hi:P.info? e with
 | none=>simp [hi] at hs
 | some ti=>
  simp only [hi,yc] at hs hb hz
  cases mg:ti.zero with
  | none=>simp [mg] at hz
  | some zv=>
   grind
def Ko {o:yZ} {v:AV} {u:yf} {w':yh} {m':Mp} {S':Nat->Prop} {aw:Hp} {a6:Nat} (h1:(execOp a.eval o).run O.P w= .ok (.value u) w') (h2:aX O m' S' w' aw a6) (h3:an O.aj m' S' w' v u)
  (h4:dN m m') (h5:cC m S w hp m' S' w' aw ct):Ah O m S w a hp ct o v aw a6:=⟨_,u,w',m',S',h1,.inl rfl,h2,h3,h4,h5⟩
def atM {o:yZ} {b':yt} {t u e:yt} {sz cO:Nat} {z:AV} {x y:xu} {v:AV} {aw:Hp} {a6:Nat} (hH:fM O H) (ht:cA O m S w tm a.tmps) (hh:aX O m S w hp ct)
  (gN:(execOp a.eval o).run O.P w=((do pure (.value (<-Builtin.append_ #[t,u] b' #[a.eval x,a.eval y])):Sem yab)).run O.P w)
  (Dc:O.P.underlying t=some (.slice e)) (hu:(∃e',O.P.underlying u=some (.slice e'))\/O.P.underlying u=some .string) (hs:cU O.P e=some sz) (hb:C6 O.P e=some cO) (hz:nD O.P e=some z) (Bf:(cellsOf z).length=sz)
  (hv:dz tm hp ct (.a7 sz cO (aT H x) (aT H y))=some (v,aw,a6)):Ah O m S w a hp ct o v aw a6:=by
 simp only [dz] at hv;obtain ⟨ti,zv,Bh,rfl,rfl,hzv,rfl⟩:=avV hs hb hz;have aM:∀u' w',(Builtin.append_ #[t,u] b' #[a.eval x,a.eval y]).run O.P w= .ok u' w'->(execOp a.eval o).run O.P w= .ok (.value u') w':=fun u' w' h=>by
  rw [gN,Sem.run_bind,h];rfl
 have sA:m ct=none:=by
  cases h:m ct with
  | none=>rfl
  | some q=>have:=hh.lt _ _ h;omega
 have Ng:zv.cells.size=ti.size:=by
  have:=iY _ _ (FV (aj:=O.aj) (m:=m) (S:=S) (w:=w) zv)
  rw [<-Bf,<-this];simp
 cases Ev:zX hp ti.size (aG tm (aT H y)) with
 | none=>simp [Ev] at hv
 | some q=>
  obtain ⟨n,new⟩:=q;simp only [Ev] at hv;obtain ⟨news,lI,eM⟩:=arW hh (cL hH ht y) Ev;have SF:=iY _ _ lI;have rx:=cL hH ht x
  cases hx:aG tm (aT H x) with
  | aa=>
   rw [hx] at hv rx;simp only at hv;simp only [an] at rx
   cases h0:yu n 0 with
   | true=>
    rw [h0] at hv;simp only [yB,yc,yq] at hv;obtain ⟨rfl,rfl,rfl⟩:=hv;have Dd:=yo h0;subst Dd;have Wp:news=[]:=yN (by rw [eM.2.1];simp)
    subst Wp;have hf:=eM.2.2 w rfl 0 (yA _);have kM:=eM.1 w;refine ⟨.value (.slice none 0 0),.slice none 0 0,w,m,S,?_,.inl rfl,hh,by simp [an],dN.refl,cC.refl⟩;rw [gN,rx];rcases hu with ⟨e',hu⟩ | hu<;>
     simp [Builtin.append_,run_underlying Dc,run_underlying hu,vJ,typeInfo,Bh,kM,hf]
   | false=>
    rw [h0] at hv;simp only [yM] at hv
    cases hc:(yG n room&&(yG (n*ti.bytes) room&&yL 0 ti.size)) with
    | false=>rw [hc] at hv;cases hv
    | true=>
     rw [hc] at hv;simp only [yB,yc,yq] at hv;obtain ⟨rfl,rfl,rfl⟩:=hv;simp only [yg] at hc;have c1:=yv hc.1;have c2:=yv hc.2.1;simp only [room] at c1 c2;have Dd:0<n:=by
      rcases xj n with h | h
      ·subst h;simp at h0
      ·exact h
     have hr:=TW (P:=O.P) (ty:=b') (w:=w) Dc hu Bh hzv (s:= .slice none 0 0) rfl (ag0 (P:=O.P) (size:=ti.size)) eM (by omega) (by omega) (by simpa using c2);simp only [Nat.zero_add,List.nil_append] at hr;have mh:=grownCap_ge w n 0 e;have lZ:=UD (e:=e) (z:=zv) (cap:=grownCap w n 0 e) hh lI (need:=n) (sz:=ti.size) eM.2.1 Ng (aO new) (fun h=>h) mh;obtain ⟨k1,k2⟩:=UE hh (hp0:=hp) (p:=⟨w.heap.size,0,grownCap w n 0 e*ti.size,ti.size⟩) (fun _ _ h=>h) rfl lZ;exact Ko (aM _ _ (by rw [rx];exact hr)) k1 (by simp only [an];exact ⟨_,_,eP,rfl,mh,by simp⟩) (kW sA) k2
  | ap ex k cs=>
   rw [hx] at hv rx
   cases ex with
   | false=>simp at hv
   | true=>
    simp only at hv;have rx0:=rx;simp only [an] at rx;have rx1:∃ad nH,a.eval x= .slice (some ad) k k/\aA O.aj m S w cs nH/\nH.length=cs.length/\(∀(j:Nat) (u:yf),nH[j]? =some u->w.cell? (ad.add j)=some u)/\aO cs=true:=by
     rcases rx with ⟨bb,oo,c,ex,h1,h2,h3,h4,h5⟩ | ⟨ad,ex,rfl,rfl⟩
     ·have rL:c=k:=h2 (by trivial);subst rL;obtain ⟨nH,g1,g2,g3⟩:=zG cs bb oo h5;exact ⟨_,nH,ex,g1,g2,fun j u hj=>by rw [pH];exact g3 j u hj,h4⟩
     ·exact ⟨ad,[],ex,by simp [aA],rfl,fun j u hj=>by simp at hj,rfl⟩
    obtain ⟨ad,nH,ex,g1,g2,g3,h4⟩:=rx1
    cases h0:yu n 0 with
    | true=>
     rw [h0] at hv;simp only [yB,yc,yq] at hv;obtain ⟨rfl,rfl,rfl⟩:=hv;have Dd:=yo h0;subst Dd;have Wp:news=[]:=yN (by rw [eM.2.1];simp)
     subst Wp;have hf:=eM.2.2 w rfl 0 (yA _);have kM:=eM.1 w;refine ⟨.value (a.eval x),a.eval x,w,m,S,?_,.inl rfl,hh,rx0,dN.refl,cC.refl⟩;rw [gN,ex];rcases hu with ⟨e',hu⟩ | hu<;>
      simp [Builtin.append_,run_underlying Dc,run_underlying hu,vJ,typeInfo,Bh,kM,hf,storeCells]
    | false=>
     rw [h0] at hv;simp only [yM] at hv
     cases hc:(yG (k+n) room&&(yG ((k+n)*ti.bytes) room&&(yu cs.length (k*ti.size)&&yL 0 ti.size))) with
     | false=>rw [hc] at hv;cases hv
     | true=>
      rw [hc] at hv;simp only [yB,yc,yq] at hv;obtain ⟨rfl,rfl,rfl⟩:=hv;simp only [yg] at hc;have c1:=yv hc.1;have c2:=yv hc.2.1;have c3:=yo hc.2.2.1;simp only [room] at c1 c2;have Dd:0<n:=by
       rcases xj n with h | h
       ·subst h;simp at h0
       ·exact h
      have hso:Src O.P w ti.size k nH (.slice (some ad) k k):=Kc (by omega) g3;have hr:=TW (P:=O.P) (ty:=b') (w:=w) Dc hu Bh hzv rfl hso eM (by omega) c1 c2;have mh:=grownCap_ge w (k+n) k e;have lZ:=UD (e:=e) (z:=zv) (cap:=grownCap w (k+n) k e) hh (mr g1 lI) (need:=k+n) (sz:=ti.size) (by rw [yU,g2,c3,eM.2.1,wL]) Ng (aO cs&&aO new)
       (fun h=>by simp only [yg] at h;exact FW h.1 h.2) mh
      obtain ⟨k1,k2⟩:=UE hh (hp0:=hp) (p:=⟨w.heap.size,0,grownCap w (k+n) k e*ti.size,ti.size⟩) (fun _ _ h=>h) rfl lZ;exact Ko (aM _ _ (by rw [ex];exact hr)) k1 (by simp only [an];exact ⟨_,_,eP,rfl,mh,by simp⟩) (kW sA) k2
  | ay id o0 k=>
   rw [hx] at hv rx;simp only at hv;simp only [an] at rx;obtain ⟨p,c,hm,ex,h1,h2⟩:=rx
   split at hv
   case h_2=>cases hv
   rename_i pu SE zz cs hg
   cases hc:(yu zz ti.size&&(yG (k+n) room&&(yG ((k+n)*ti.bytes) room&&(yG (o0+k*ti.size) cs.length&&(yL 0 ti.size&&cr new))))) with
   | false=>rw [hc] at hv;cases hv
   | true=>
    rw [hc] at hv;simp only [yB,yc,yq] at hv;obtain ⟨rfl,rfl,rfl⟩:=hv;simp only [yg] at hc;have c0:=yo hc.1;have c1:=yv hc.2.1;have c2:=yv hc.2.2.1;have c3:=yv hc.2.2.2.1;have c4:=hc.2.2.2.2.2;simp only [room] at c1 c2;obtain ⟨p',arr,t',g1,g2,g3,g4,g5,g6,g7,g8,g9,g10⟩:=hh.obj id _ _ hg hm;rw [hm] at g1;injection g1 with g1
    subst g1;subst c0;rw [g3] at h2;have Fo:b7 O.aj m S w (slice o0 (k*ti.size) cs) p.b (p.o+o0):=DL _ _ _ _ (rY _ _ _ _ g7);obtain ⟨nH,f1,f2,f3⟩:=zG _ _ _ Fo;have al7:(slice o0 (k*ti.size) cs).length=k*ti.size:=by simp only [slice,yR,wm];omega
    have kO:(pu&&aO new)=true->aO (slice o0 (k*ti.size) cs++new)=true:=fun h=>by
     simp only [yg] at h;exact FW (DI _ (BJ _ _ (g8 h.1))) h.2
    by_cases GW:k+n<=c
    ·have fO:=Oo lI c4;have WR:p.o+o0+k*ti.size+news.length<=arr.size:=by
      rw [eM.2.1]
      have:(k+n)*ti.size<=c*ti.size:=yY _ GW
      rw [wL] at this;omega
     have hr:=aqe (P:=O.P) (ty:=b') (w:=w) Dc hu Bh g2 eM fO GW WR;have ho:∀m',dN m m'->m' ct=some ⟨p.b,p.o+o0,c*ti.size,ti.size⟩->
       fF O m' S (w.setRow p.b (arr.toList.take (p.o+o0+k*ti.size)++news++arr.toList.drop (p.o+o0+k*ti.size+news.length)).toArray) ct
        (.cells true (pu&&aO new) false ti.size (slice o0 (k*ti.size) cs++new)):=by
      intro m' hle hi;have aY:fS S w (w.setRow p.b (arr.toList.take (p.o+o0+k*ti.size)++news++arr.toList.drop (p.o+o0+k*ti.size+news.length)).toArray):=fun b hb=>setRow_other w p.b b _ (fun e=>g9 rfl (e▸hb))
      refine ⟨_,_,t',hi,setRow_heap w p.b arr _ t' _ g2,rfl,?_,?_,by simp,?_,kO,fun _=>g9 rfl,by simp⟩
      ·show (slice o0 (k*ti.size) cs++new).length<=c*ti.size
       rw [yU,al7,<-SF,eM.2.1,<-wL];exact yY _ GW
      ·show p.o+o0+c*ti.size<=_
       rw [uK,yU,yU,yR,wm,vR];omega
      ·refine Ga _ (nH++news) _ (mr (ib hle (fun _ h=>h) aY _ _ f1) (ib hle (fun _ h=>h) aY _ _ lI)) (fun j u hj=>?_);show World.cell? _ ⟨p.b,p.o+o0+j,none⟩=some u
       simp only [World.cell?,setRow_heap w p.b arr _ t' _ g2,Option.isSome_none,Bool.false_eq_true,y9];rw [List.getElem?_toArray];have e1:(arr.toList.take (p.o+o0+k*ti.size)).length=p.o+o0+k*ti.size:=by rw [yR,vR];omega
       by_cases hj1:j<k*ti.size
       ·rw [wz (by omega)] at hj;rw [xD,wz (by omega),List.getElem?_take_of_lt (by omega)]
        have:=f3 j u hj
        simpa [World.cell?,g2] using this
       ·rw [xU (by omega)] at hj;have hjl:=(List.getElem?_eq_some_iff.1 hj).1;rw [xD,xU (by omega),e1,wz (by omega),show p.o+o0+j-(p.o+o0+k*ti.size)=j-nH.length by omega];exact hj
     obtain ⟨k1,k2⟩:=arX (p':=⟨p.b,p.o+o0,c*ti.size,ti.size⟩) hh hg hm (g9 rfl) (Uk w p.b _) (fun r hr=>by rw [g2] at hr;cases hr) rfl ho;exact Ko (aM _ _ (by rw [ex];exact hr)) k1 (by simp only [an];exact ⟨_,c,eP,rfl,GW,by simp⟩) (kW sA) k2
    ·have hso:Src O.P w ti.size k nH (.slice (some ⟨p.b,p.o+o0,none⟩) k c):=Kc (by omega) (fun j u hj=>by rw [pH];exact f3 j u hj)
     have hr:=TW (P:=O.P) (ty:=b') (w:=w) Dc hu Bh hzv rfl hso eM (by omega) c1 c2;have mh:=grownCap_ge w (k+n) c e;have lZ:=UD (e:=e) (z:=zv) (cap:=grownCap w (k+n) c e) hh (mr f1 lI) (need:=k+n) (sz:=ti.size) (by rw [yU,f2,al7,eM.2.1,wL]) Ng (pu&&aO new) kO mh;obtain ⟨k1,k2⟩:=UE hh (hp0:=eT hp id) (p:=⟨w.heap.size,0,grownCap w (k+n) c e*ti.size,ti.size⟩) (fun i q h=>by
      rw [Kb] at h;by_cases hi:id=i
      ·simp [hi] at h
      ·simpa only [hi,y9] using h) rfl lZ
     exact Ko (aM _ _ (by rw [ex];exact hr)) k1 (by simp only [an];exact ⟨_,_,eP,rfl,mh,by simp⟩) (kW sA) k2
  | _=>rw [hx] at hv;simp at hv
end
end
section
open Go
section
variable {O:bw} {H:Hint} {m:Mp} {S:Nat->Prop} {w:yh} {tm:Env} {a:Act} {hp:Hp} {ct:Nat}
def aqt {n:Nat} {cs:List AV} (h:aO cs=true):aO (cs.take n)=true:=DI n h
def adZ:∀(n:Nat) {cs:List AV},cr cs=true->cr (cs.take n)=true
 | 0,_,_=>by simp [cr]
 | n+1,[],_=>by simp [cr]
 | n+1,c::cs,h=>by
  simp only [List.take_succ_cons,cr,yg] at h ⊢;exact ⟨h.1,adZ n h.2⟩
def atN {o:yZ} {b':yt} {t u e:yt} {sz:Nat} {x y:xu} {v:AV} {aw:Hp} {a6:Nat} (hH:fM O H) (ht:cA O m S w tm a.tmps) (hh:aX O m S w hp ct)
  (gN:(execOp a.eval o).run O.P w=((do pure (.value (<-Builtin.copy_ #[t,u] b' #[a.eval x,a.eval y])):Sem yab)).run O.P w)
  (Dc:O.P.underlying t=some (.slice e)) (hs:cU O.P e=some sz)
  (hv:dz tm hp ct (.qD sz (aT H x) (aT H y))=some (v,aw,a6)):Ah O m S w a hp ct o v aw a6:=by
 simp only [dz] at hv
 cases Ev:rb hp sz (aG tm (aT H y)) with
 | none=>simp [Ev] at hv
 | some q=>
  obtain ⟨n,new⟩:=q;simp only [Ev] at hv;obtain ⟨news,lI,eM⟩:=aeD hh (cL hH ht y) Ev;have SF:=iY _ _ lI;have rx:=cL hH ht x;cases hx:aG tm (aT H x)<;>rw [hx] at hv rx<;>simp only [reduceCtorEq] at hv
  rename_i id o0 k;simp only [an] at rx;obtain ⟨p,c,hm,ex,h1,h2⟩:=rx
  split at hv
  case h_2=>cases hv
  rename_i pu SE zz cs hg
  cases hc:(yu zz sz&&(yG (o0+k*sz) cs.length&&cr new)) with
  | false=>rw [hc] at hv;cases hv
  | true=>
   rw [hc] at hv;simp only [yB,yc,yq] at hv;obtain ⟨rfl,rfl,rfl⟩:=hv;simp only [yg] at hc;have c0:=yo hc.1;have c1:=yv hc.2.1;subst c0;obtain ⟨p',arr,t',g1,g2,g3,g4,g5,g6,g7,g8,g9,g10⟩:=hh.obj id _ _ hg hm;rw [hm] at g1;injection g1 with g1
   subst g1;have al8:min n k*zz<=k*zz:=yY _ (Nat.min_le_right _ _);have aKD:min n k*zz<=n*zz:=yY _ (yaS _ _);have rt:=F3 (min n k*zz) lI;have zi:(news.take (min n k*zz)).length=min n k*zz:=by rw [yR,eM.2.1];omega
   have aKM:(new.take (min n k*zz)).length=min n k*zz:=by rw [yR,<-SF,eM.2.1];omega
   have fO:=Oo rt (adZ _ hc.2.2);have hf:=eM.2.2 w rfl (min n k) (yaS _ _);have aY:=run_storeCells_at O.P p.b (p.o+o0) t' (news.take (min n k*zz)) 0 arr w g2 (by rw [zi];omega) fO;simp only [Nat.add_zero] at aY;have oT:fF O m S (w.setRow p.b (arr.toList.take (p.o+o0)++news.take (min n k*zz)++arr.toList.drop (p.o+o0+(news.take (min n k*zz)).length)).toArray) id
     (.cells true (pu&&aO new) SE zz (over o0 (new.take (min n k*zz)) cs)):=by
    refine ⟨p,_,t',hm,setRow_heap w p.b arr _ t' _ g2,g3,by rw [OF (by omega)];exact g4,?_,fun h=>by rw [OF (by omega)];exact g6 h,?_,?_,fun _=>g9 rfl,by simp⟩
    ·rw [uK,yU,yU,yR,wm,vR,zi];omega
    ·exact af3 g2 g7 rt (by omega) (by omega) dN.refl (fun _ h=>h) (fun b hb=>setRow_other w p.b b _ (fun e=>g9 rfl (e▸hb))) (setRow_heap w p.b arr _ t' _ g2)
    ·intro h;simp only [yg] at h;exact aeB (g8 h.1) (aqt h.2)
   obtain ⟨e1,e2⟩:=Kn hh hg hm (g9 rfl) (Uk w p.b _) oT (fun r hr=>by rw [g2] at hr;cases hr)
   refine Ko (u:=goInt ((min n k:Nat):Int)) (m':=m) (S':=S) ?_ e1 (by simp [an,goInt]) dN.refl e2;rw [gN,ex];simp [Builtin.copy_,run_underlying Dc,eM.1 w,n8 hs,show Nat.min n k=min n k from rfl,hf,aY]
def avW {o:yZ} {k:Nat} {v:AV} {aw:Hp} {a6:Nat} (hH:fM O H) (ht:cA O m S w tm a.tmps) (hh:aX O m S w hp ct)
  (hv:dz tm hp ct (bi O.P H k o)=some (v,aw,a6)):Ah O m S w a hp ct o v aw a6:=by
 have mJ:∀{r:AV×Hp×Nat},dz tm hp ct bad=some r->False:=fun h=>by simp [bad,dz] at h
 cases ho:o.op with
 | call c=>
  obtain ⟨callee,args,ts⟩:=c;simp only [bi,ho] at hv
  split at hv
  ·cases hmd:H.mode k<;>simp [hmd,dz] at hv
  ·rename_i _ b
   split at hv
   ·rename_i x y t u gW qG;obtain ⟨al⟩:=args;obtain ⟨tl⟩:=ts;simp only at gW qG;subst gW;subst qG;obtain ⟨cs,gN⟩:=JV (O:=O) (w:=w) (a:=a) ho;have Wq:(execOp a.eval o).run O.P w=((do pure (.value (<-Builtin.append_ #[t,u] o.type #[a.eval x,a.eval y])):Sem yab)).run O.P w:=by
     rw [gN];simp [builtin]
    have key:∀{z:AV} {sz cO:Nat} {e:yt},O.P.underlying t=some (.slice e)->((∃e',O.P.underlying u=some (.slice e'))\/O.P.underlying u=some .string)->cU O.P e=some sz->C6 O.P e=some cO->nD O.P e=some z->
      dz tm hp ct (bif yu (cellsOf z).length sz then .a7 sz cO (aT H x) (aT H y) else bad)=some (v,aw,a6)->Ah O m S w a hp ct o v aw a6:=by
     intro z sz cO e h1 h2 h3 h4 h5 h
     cases hb:yu (cellsOf z).length sz with
     | false=>rw [hb] at h;exact (mJ h).elim
     | true=>
      rw [hb] at h;exact atM hH ht hh Wq h1 h2 h3 h4 h5 (yo hb) h
    split at hv
    ·rename_i e e' h1 h2
     split at hv
     ·rename_i sz cO z h3 h4 h5
      exact key h1 (.inl ⟨_,h2⟩) h3 h4 h5 hv
     ·exact (mJ hv).elim
    ·rename_i e h1 h2
     split at hv
     ·rename_i sz cO z h3 h4 h5
      exact key h1 (.inr h2) h3 h4 h5 hv
     ·exact (mJ hv).elim
    ·exact (mJ hv).elim
   ·repeat' split at hv
    all_goals simp [dz,bad] at hv
   ·rename_i x y t u gW qG;obtain ⟨al⟩:=args;obtain ⟨tl⟩:=ts;simp only at gW qG;subst gW;subst qG;obtain ⟨cs,gN⟩:=JV (O:=O) (w:=w) (a:=a) ho;have Wq:(execOp a.eval o).run O.P w=((do pure (.value (<-Builtin.copy_ #[t,u] o.type #[a.eval x,a.eval y])):Sem yab)).run O.P w:=by
     rw [gN];simp [builtin]
    split at hv
    ·rename_i e h1
     split at hv
     ·rename_i sz h3;exact atN hH ht hh Wq h1 h3 hv
     ·exact (mJ hv).elim
    ·exact (mJ hv).elim
   ·simp [dz] at hv
   ·simp [dz] at hv
   ·exact (mJ hv).elim
  ·exact (mJ hv).elim
 | store t x y=>
  simp only [bi,ho] at hv
  split at hv
  ·rename_i s hs;exact avS hH ht hh ho hs hv
  ·exact (mJ hv).elim
 | mapUpdate t x k y=>
  simp only [bi,ho] at hv
  split at hv
  ·rename_i kt e hu
   split at hv
   ·rename_i kk zc;exact af4 hH ht hh (.inl ho) hu zc hv
   ·exact (mJ hv).elim
  ·exact (mJ hv).elim
 | insert t x k y=>
  simp only [bi,ho] at hv
  split at hv
  ·rename_i kt e hu
   split at hv
   ·rename_i kk zc;exact af4 hH ht hh (.inr ho) hu zc hv
   ·exact (mJ hv).elim
  ·exact (mJ hv).elim
 | next x b=>
  cases b with
  | false=>simp only [bi,ho] at hv;exact (mJ hv).elim
  | true=>exact atL hH ht hh ho (by simpa only [bi,ho] using hv)
 | binOp op t x y ty=>
  cases op<;>simp only [bi,ho,sq,zP] at hv
  case eql=>
        repeat' split at hv
        all_goals first
         | (simp [dz,bad] at hv;done)
         | (cases hb:(O.P.stoodInHeld t||O.P.eqGuardType O.P.depth t)<;>rw [hb] at hv<;>simp [dz,bad] at hv)
  case neq=>
        repeat' split at hv
        all_goals first
         | (simp [dz,bad] at hv;done)
         | (cases hb:(O.P.stoodInHeld t||O.P.eqGuardType O.P.depth t)<;>rw [hb] at hv<;>simp [dz,bad] at hv)
  all_goals simp [dz] at hv
 | buildSlice t n parts=>
  simp only [bi,ho] at hv
  repeat' split at hv
  all_goals first
   | (simp [dz,bad] at hv;done)
   | (
     revert hv;generalize yG _ _=bb;intro hv;cases bb<;>simp [dz,bad] at hv
     try (split at hv<;>simp [dz,bad] at hv))
 | makeMap t r=>
  cases r<;>simp only [bi,ho] at hv
  ·repeat' split at hv
   all_goals simp [dz,bad] at hv
  ·exact (mJ hv).elim
 | _=>
  simp only [bi,ho] at hv
  (repeat' split at hv)
  all_goals first
   | contradiction
   | (simp [dz,bad] at hv;done)
end
end
section
section
variable {hp H:Hp} {tm cE:Env}
def ag1 (hl:dC hp H) {id:Nat} {rw pu ex:Bool} {sz:Nat} {cs:List AV} (h:aF hp id=some (.cells rw pu ex sz cs)):∃fm,aF H id=some (.cells fm pu ex sz cs):=by
 obtain ⟨o',h1,fm,rfl,_⟩:=hl id _ h;exact ⟨fm,h1⟩
def ag2 (hl:dC hp H) {id:Nat} {rw:Bool} {ks vs:List AV} (h:aF hp id=some (.mp rw ks vs)):∃fm,aF H id=some (.mp fm ks vs):=by
 obtain ⟨o',h1,fm,rfl,_⟩:=hl id _ h;exact ⟨fm,h1⟩
def ag3 (hl:dC hp H) {sz:Nat} {ag:Bool} {x v:AV} (h:jf hp sz ag x=some v):jf H sz ag x=some v:=by
 cases x<;>simp only [jf,reduceCtorEq] at h ⊢
 ·rename_i id o
  cases hg:aF hp id with
  | none=>simp [hg] at h
  | some ob=>
   cases ob<;>simp only [hg,reduceCtorEq] at h
   obtain ⟨r,h1⟩:=ag1 hl hg;simp only [h1];exact h
 ·exact h
def atO (hl:dC hp H) {k x:AV} {v:Option AV} (h:Cj hp k x=some v):Cj H k x=some v:=by
 cases x<;>simp only [Cj,reduceCtorEq] at h ⊢
 ·exact h
 ·rename_i id
  cases hg:aF hp id with
  | none=>simp [hg] at h
  | some ob=>
   cases ob<;>simp only [hg,reduceCtorEq] at h
   obtain ⟨r,h1⟩:=ag2 hl hg;simp only [h1];exact h
 ·exact h
def atP (hl:dC hp H) {k:Nat} {x v:AV} (h:jb hp k x=some v):jb H k x=some v:=by
 unfold jb at h ⊢
 split at h
 all_goals first
  | exact h
  | cases h
  | skip
 rename_i id
 cases hg:aF hp id with
 | none=>simp [hg] at h
 | some ob=>
  cases ob<;>simp only [hg,reduceCtorEq] at h
  obtain ⟨r,h1⟩:=ag2 hl hg;simp only [h1];exact h
def atQ (hl:dC hp H) {k:Cut} {x v:AV} {lo hi:Option X} (h:fC hp k x tm lo hi=some v):fC H k x tm lo hi=some v:=by
 unfold fC at h ⊢
 split at h
 all_goals first
  | exact h
  | cases h
  | skip
 rename_i sz id o n
 cases hg:aF hp id with
 | none=>simp [hg] at h
 | some ob=>
  cases ob<;>simp only [hg,reduceCtorEq] at h
  obtain ⟨r,h1⟩:=ag1 hl hg;simp only [h1];exact h
def arY (hl:dC hp H) {o:Op} {v:AV} (h:bH tm hp o=some v):bH tm H o=some v:=by
 cases o<;>simp only [bH,reduceCtorEq] at h ⊢<;>first
  | exact h
  | exact ag3 hl h
  | exact atP hl h
  | exact atQ hl h
  | skip
 rename_i kk zero ok m k
 cases hk:zO kk (aG tm k) with
 | false=>rw [hk] at h;cases h
 | true=>
  rw [hk] at h;simp only [yB] at h ⊢
  cases hr:Cj hp (aG tm k) (aG tm m) with
  | none=>simp [hr] at h
  | some r=>rw [atO hl hr];simpa only [hr] using h
def arZ {o:Op} (hk:bK o=0) (hp H:Hp):bH tm hp o=bH tm H o:=by
 cases o with
 | eF k x lo hi=>
  cases k with
  | str=>simp only [bH,fC];cases aG tm x<;>rfl
  | sl sz=>simp [bK] at hk
  | ar n sz=>simp [bK] at hk
 | len k x=>
  match k,hk with
  | 0,_=>simp only [bH];unfold jb;split<;>simp_all
  | 1,_=>simp only [bH];unfold jb;split<;>simp_all
  | k+2,hk=>simp [bK] at hk
 | call md f xs=>cases md<;>simp [bK] at hk
 | _=>first
  | rfl
  | simp [bK] at hk
end
section
variable {tm cE:Env}
def ek {x:X} (h:∀t,t∈jM x->ak cE t=ak tm t):aG cE x=aG tm x:=by
 cases x with
 | t i=>exact h i (by simp [jM])
 | c v=>rfl
def DM:∀{xs:List X},(∀t,t∈zY xs->ak cE t=ak tm t)->dK cE xs=dK tm xs
 | [],_=>rfl
 | x::r,h=>by
  simp only [dK]
  rw [ek (x:=x) (fun t ht=>h t (by simp [zY,ht])),DM (fun t ht=>h t (by simp [zY,ht]))]
def UF:∀{ps:List (Nat×Nat×X)} {z:List AV},(∀t,t∈Lv ps->ak cE t=ak tm t)->fill cE z ps=fill tm z ps
 | [],_,_=>rfl
 | (o,s,x)::r,z,h=>by
  simp only [fill]
  rw [ek (x:=x) (fun t ht=>h t (by simp [Lv,ht]))]
  rw [UF (ps:=r) (fun t ht=>h t (by simp [Lv,ht]))]
def aeE {d:Nat} {x:Option X} (h:∀t,t∈Lu x->ak cE t=ak tm t):dE cE d x=dE tm d x:=by
 cases x with
 | none=>rfl
 | some x=>simp only [dE];rw [ek h]
def aqZ {hp:Hp} {k:Cut} {x:AV} {lo hi:Option X} (h1:∀t,t∈Lu lo->ak cE t=ak tm t) (h2:∀t,t∈Lu hi->ak cE t=ak tm t):
  fC hp k x cE lo hi=fC hp k x tm lo hi:=by
 unfold fC;simp only [aeE h1,aeE h2]
def aqu {hp:Hp} {o:Op} (h:∀t,t∈kY o->ak cE t=ak tm t):bH cE hp o=bH tm hp o:=by
 cases o<;>simp only [kY,wI] at h<;>simp only [bH]
 case pick c a b=>rw [ek (x:=c) fun t ht=>h t (.inl ht),ek (x:=a) fun t ht=>h t (.inr (.inl ht)),ek (x:=b) fun t ht=>h t (.inr (.inr ht))]
 case cK z ps=>rw [UF h]
 case Ip f a b=>rw [DM (xs:=a) fun t ht=>h t (.inl ht),DM (xs:=b) fun t ht=>h t (.inr ht)]
 case eF k x lo hi=>rw [ek (x:=x) fun t ht=>h t (.inl ht),aqZ (fun t ht=>h t (.inr (.inl ht))) (fun t ht=>h t (.inr (.inr ht)))]
 case mn xs=>rw [DM h]
 case mx xs=>rw [DM h]
 case bin op x y=>rw [ek (x:=x) fun t ht=>h t (.inl ht),ek (x:=y) fun t ht=>h t (.inr ht)]
 case eq n k x y=>rw [ek (x:=x) fun t ht=>h t (.inl ht),ek (x:=y) fun t ht=>h t (.inr ht)]
 case bz s x y=>rw [ek (x:=x) fun t ht=>h t (.inl ht),ek (x:=y) fun t ht=>h t (.inr ht)]
 case Iq l s x y=>rw [ek (x:=x) fun t ht=>h t (.inl ht),ek (x:=y) fun t ht=>h t (.inr ht)]
 case lE x y=>rw [ek (x:=x) fun t ht=>h t (.inl ht),ek (x:=y) fun t ht=>h t (.inr ht)]
 case Ir l s g x y=>rw [ek (x:=x) fun t ht=>h t (.inl ht),ek (x:=y) fun t ht=>h t (.inr ht)]
 case SB kk z ok x y=>rw [ek (x:=x) fun t ht=>h t (.inl ht),ek (x:=y) fun t ht=>h t (.inr ht)]
 all_goals first
  | rfl
  | (rename_i x;rw [ek (x:=x) h])
def JW {hp aw:Hp} {ct:Nat} {o:Op} (h:∀t,t∈kY o->ak cE t=ak tm t):de cE aw ct o=de tm hp ct o:=by
 cases o<;>simp only [kY,wI] at h<;>simp only [de]
 case box s x=>rw [ek (x:=x) h]
 case cQ n s z ps=>rw [UF h]
 case iA s b z x y=>rw [ek (x:=x) fun t ht=>h t (.inl ht),ek (x:=y) fun t ht=>h t (.inr ht)]
 case qB x=>rw [ek (x:=x) h]
def FX {hp:Hp} {ct:Nat} {o:Op} (h:∀t,t∈kY o->ak cE t=ak tm t):dz cE hp ct o=dz tm hp ct o:=by
 cases o<;>simp only [kY,wI] at h<;>simp only [dz]
 case st s x y=>rw [ek (x:=x) fun t ht=>h t (.inl ht),ek (x:=y) fun t ht=>h t (.inr ht)]
 case qw kk c a b=>rw [ek (x:=c) fun t ht=>h t (.inl ht),ek (x:=a) fun t ht=>h t (.inr (.inl ht)),ek (x:=b) fun t ht=>h t (.inr (.inr ht))]
 case qC x=>rw [ek (x:=x) h]
 case a7 s b x y=>rw [ek (x:=x) fun t ht=>h t (.inl ht),ek (x:=y) fun t ht=>h t (.inr ht)]
 case qD s x y=>rw [ek (x:=x) fun t ht=>h t (.inl ht),ek (x:=y) fun t ht=>h t (.inr ht)]
end
end
section
open Go
structure Calm (w w':yh):Prop where
 os:w'.os=w.os
 tape:w'.tape=w.tape
 output:w'.output=w.output
 size:w.heap.size<=w'.heap.size
 same:∀b,b<w.heap.size->w'.heap[b]? =w.heap[b]?
def Calm.refl {w:yh}:Calm w w:=⟨rfl,rfl,rfl,yA _,fun _ _=>rfl⟩
def Calm.trans {w w' Fi:yh} (h:Calm w w') (k:Calm w' Fi):Calm w Fi:=
 ⟨k.os.trans h.os,k.tape.trans h.tape,k.output.trans h.output,yS h.size k.size,fun b hb=>(k.same b (yO hb h.size)).trans (h.same b hb)⟩
def Cl (O:bw) (w:yh):Prop:=(∀b,b<O.w0.heap.size->w.heap[b]? =O.w0.heap[b]?)/\O.w0.heap.size<=w.heap.size
def ff:Mp:=fun _=>none
def ir (aj:Nat->Nat) (S:Nat->Prop) (w:yh) (lo:Nat):AV->yf->List Nat->Prop
 | .bV ex sz n cs,u,bs=>∃b o c arr t,bs=[b]/\u= .slice (some ⟨b,o,none⟩) n c/\n<=c/\(ex=true->c=n)/\lo<=b/\¬S b/\w.heap[b]? =some (.cells arr t (0,0))/\cs.length=n*sz/\
   o+c*sz<=arr.size/\b7 aj ff S w cs b o/\aO cs=true
 | r,u,bs=>bs=[]/\an aj ff S w r u/\bg r=true
def lA (aj:Nat->Nat) (S:Nat->Prop) (w:yh) (lo:Nat):List AV->List yf->List Nat->Prop
 | [],us,bs=>us=[]/\bs=[]
 | v::r,us,bs=>∃u t b1 b2,us=u::t/\bs=b1++b2/\ir aj S w lo v u b1/\lA aj S w lo r t b2
def nI (aj:Nat->Nat) (S:Nat->Prop) (w:yh) (lo:Nat) (r:AV) (u:yf):Prop:=
 match r with
 | .af vs=>∃(us:Array yf) (bs:List Nat),u= .tuple us/\lA aj S w lo vs us.toList bs/\bs.Nodup
 | r=>∃bs,ir aj S w lo r u bs
def BV (P:xe) (f:yaQ) (args:Array yf) (w:yh) (R:uZ->yh->Prop):Prop:=
 ((callFunc f args).run P w= .ok (.enter f args) w/\CallsIn Fence.wide 0 P f args w R)\/∃u w',(callFunc f args).run P w= .ok (.value u) w'/\R (.returned u) w'
def af5 (O:bw) (w:yh) (S:Nat->Prop) (r:AV) (e:uZ) (w':yh):Prop:=
 ∃u S',e= .returned u/\Calm w w'/\(∀b,S b->S' b)/\(∀b,S' b->S b\/w.heap.size<=b)/\(∀b,S' b->b<w'.heap.size)/\nI O.aj S' w' w.heap.size r u
def dF (O:bw) (n:Nat) (av:List AV) (r:AV):Prop:=
 ∀(w:yh) (S:Nat->Prop) (args:Array yf),Cl O w->(∀b,S b->b<w.heap.size)->aA O.aj ff S w av args.toList->aO av=true->
  BV O.P (O.aj n) args w (af5 O w S r)
def zK (O:bw) (m:Mp) (S:Nat->Prop) (w:yh) (hp:Hp) (ct:Nat) (v:AV) (aw:Hp) (a6:Nat) (e:uZ) (w':yh):Prop:=
 ∃u m' S',e= .returned u/\aX O m' S' w' aw a6/\ct<=a6/\an O.aj m' S' w' v u/\cC m S w hp m' S' w' aw ct
def Cm (O:bw) (n:Nat) (hp:Hp) (ct:Nat) (av:List AV) (v:AV) (aw:Hp) (a6:Nat):Prop:=
 ∀(m:Mp) (S:Nat->Prop) (w:yh) (args:Array yf),aX O m S w hp ct->aA O.aj m S w av args.toList->BV O.P (O.aj n) args w (zK O m S w hp ct v aw a6)
section
variable {aj:Nat->Nat} {m m':Mp} {S S':Nat->Prop} {w w':yh}
mutual
def qZ (hS:∀b,S b->S' b) (hw:fS S w w'):∀(v:AV) (u:yf),bg v=true->an aj m S w v u->an aj m' S' w' v u
 | .int _ _,_,_,h | .bool _,_,_,h | .b5 _ _,_,_,h | .str _,_,_,h | .lm,_,_,h | .aa,_,_,h | .jd,_,_,h | .kD,_,_,h | .undef,_,_,h=>by
  simpa only [an] using h
 | .ptr id o,u,hp,h=>by simp [bg] at hp
 | .cz cs,u,hp,h=>by
  simp only [an] at h ⊢;obtain ⟨b,o,h1,h2,h3,h4⟩:=h;refine ⟨b,o,h1,h2.imp id (hS b),h3,?_⟩;rcases h2 with rfl | h2
  ·simp only [b7]
  ·exact Ul hS hw cs b o h3 h2 h4
 | .ap ex n cs,u,hp,h=>by
  simp only [an] at h ⊢;rcases h with ⟨b,o,c,h1,h2,h3,h4,h5,h6⟩ | h
  ·refine .inl ⟨b,o,c,h1,h2,h3,h4.imp id (hS b),h5,?_⟩;rcases h4 with rfl | h4
   ·simp only [b7]
   ·exact Ul hS hw cs b o h5 h4 h6
  ·exact .inr h
 | .bV _ _ _ _,u,hp,h=>by simp [bg] at hp
 | .ay id o n,u,hp,h=>by simp [bg] at hp
 | .fn (.f g) first cap,u,hp,h=>by
  simp only [an] at h ⊢;simp only [bg,yg] at hp;obtain ⟨fi,ca,h1,h2,h3⟩:=h;exact ⟨fi,ca,h1,zH hS hw first _ hp.1 h2,zH hS hw cap _ hp.2 h3⟩
 | .fn (.y l) _ _,u,hp,h=>by simp [bg] at hp
 | .map id,u,hp,h=>by simp [bg] at hp
 | .jD ks vs,u,hp,h=>by
  simp only [an] at h ⊢;obtain ⟨b,es,clock,h1,h2,h3,h4,h5,h6,h7⟩:=h;exact ⟨b,es,clock,h1,hS b h2,h3,h4,(hw b h2).trans h5,zH hS hw ks _ h3 h6,zH hS hw vs _ h4 h7⟩
 | .it id,u,hp,h=>by simp [bg] at hp
 | .agg cs,u,hp,h=>by
  simp only [an] at h ⊢;simp only [bg] at hp;obtain ⟨xs,h1,h2⟩:=h;exact ⟨xs,h1,zH hS hw cs _ hp h2⟩
 | .af cs,u,hp,h=>by
  simp only [an] at h ⊢;simp only [bg] at hp;obtain ⟨xs,h1,h2⟩:=h;exact ⟨xs,h1,zH hS hw cs _ hp h2⟩
def zH (hS:∀b,S b->S' b) (hw:fS S w w'):∀(vs:List AV) (us:List yf),aO vs=true->aA aj m S w vs us->aA aj m' S' w' vs us
 | [],us,_,h=>by simpa only [aA] using h
 | v::r,us,hp,h=>by
  simp only [aA] at h ⊢;simp only [aO,yg] at hp;obtain ⟨u,t,h1,h2,h3⟩:=h;exact ⟨u,t,h1,qZ hS hw v u hp.1 h2,zH hS hw r t hp.2 h3⟩
def Ul (hS:∀b,S b->S' b) (hw:fS S w w'):∀(cs:List AV) (b o:Nat),aO cs=true->S b->b7 aj m S w cs b o->b7 aj m' S' w' cs b o
 | [],_,_,_,_,_=>by simp only [b7]
 | c::cs,b,o,hp,hb,h=>by
  simp only [b7] at h ⊢;simp only [aO,yg] at hp;obtain ⟨⟨u,h1,h2⟩,h3⟩:=h;exact ⟨⟨u,(N5 (hw b hb)).trans h1,qZ hS hw c u hp.1 h2⟩,Ul hS hw cs b (o+1) hp.2 hb h3⟩
end
def DJ (hS:∀b,S b->S' b) (hw:fS S w w'):∀(cs:List AV) (b o:Nat),aO cs=true->w'.heap[b]? =w.heap[b]? ->b7 aj m S w cs b o->b7 aj m' S' w' cs b o
 | [],_,_,_,_,_=>by simp only [b7]
 | c::cs,b,o,hp,hb,h=>by
  simp only [aO,yg] at hp;obtain ⟨⟨u,h1,h2⟩,h3⟩:=h;exact ⟨⟨u,(N5 hb).trans h1,qZ hS hw c u hp.1 h2⟩,DJ hS hw cs b (o+1) hp.2 hb h3⟩
end
section
variable {O:bw} {m:Mp} {S S':Nat->Prop} {w w':yh} {hp:Hp} {ct:Nat}
def ar0 (hh:aX O m S w hp ct) (hw:Calm w w'):fS S w w':=fun b hb=>hw.same b (hh.slt b hb)
def F5 (hh:aX O m S w hp ct) (hw:Calm w w') (hS:∀b,S b->S' b) (hn:∀b,S' b->S b\/w.heap.size<=b) (hl:∀b,S' b->b<w'.heap.size):aX O m S' w' hp ct where
 obj id o p ho hm:=r9 (fun _ _ h=>h) hS (ar0 hh hw) (fun q hq=>hw.same _ (hh.blt id q hq)) (fun q hq hs=>(hn _ hs).resolve_right (by have:=hh.blt id q hq;omega)) (hh.obj id o p ho hm)
 lt:=hh.lt
 inj:=hh.inj
 slt:=hl
 blt id p h:=yO (hh.blt id p h) hw.size
 low:=hh.low
 lY b hb:=(hw.same b (yO hb hh.fT)).trans (hh.lY b hb)
 fT:=yS hh.fT hw.size
 aZ:=hh.aZ
def DP {base:Nat} (hh:aX O m S w hp ct) (hw:Calm w w') (hS:∀b,S b->S' b) (hn:∀b,S' b->S b\/w.heap.size<=b):cC m S w hp m S' w' hp base where
 os:=hw.os
 tape:=hw.tape
 output:=hw.output
 size:=hw.size
 same b hb _:=hw.same b hb
 sub:=hS
 still b hb:=hw.same b (hh.slt b hb)
 new b hb:=(hn b hb).imp id .inr
 own b hb:= .inl hb
 old _ _ _ h:=h
 loops b r hb:=⟨r,(hw.same b (xp.1 hb).1).trans hb⟩
def atS {i:Nat} (hh:aX O m S w hp ct) (hi:m i=none) (It:i<ct) {p:Pl} (hb:p.b<w.heap.size) (a8:O.w0.heap.size<=p.b) (Iu:¬S p.b) (oU:∀j q,m j=some q->q.b≠p.b)
  (hf:∀o,aF hp i=some o->(fF O (fG m i p) S w i o/\¬jv o)\/(jv o/\fF O (fG m i p) (fun b=>S b\/b=p.b) w i o)):
  ∃S',aX O (fG m i p) S' w hp ct/\(∀b,S b->S' b)/\∀b,S' b->S b\/b=p.b:=by
 have aY:fS S w w:=fun _ _=>rfl
 have gen:∀S':Nat->Prop,(∀b,S b->S' b)->(∀b,S' b->S b\/b=p.b)->(∀o,aF hp i=some o->fF O (fG m i p) S' w i o)->aX O (fG m i p) S' w hp ct:=by
  intro S' h1 h2 h3;refine ⟨?_,?_,?_,?_,?_,?_,hh.lY,hh.fT,hh.aZ⟩
  ·intro id o q ho hm;by_cases hc:id=i
   ·grind
   ·rw [eO hc] at hm;refine r9 (kW hi) h1 aY (fun _ _=>rfl) (fun q' cm hs=>?_) (hh.obj id o q ho hm)
    grind
  ·intro id q hm;by_cases hc:id=i
   ·grind
   ·rw [eO hc] at hm;exact hh.lt id q hm
  ·intro a b oa ob pa pb ha da Fl Ap e;by_cases ca:a=i
   ·by_cases cb:b=i
    ·grind
    ·subst ca;rw [eP] at Fl;rw [eO cb] at Ap
     grind
   ·rw [eO ca] at Fl;by_cases cb:b=i
    ·subst cb;rw [eP] at Ap
     grind
    ·rw [eO cb] at Ap;exact hh.inj a b oa ob pa pb ha da Fl Ap e
  ·intro b hs;rcases h2 b hs with h | h
   ·exact hh.slt b h
   ·grind
  ·intro id q hm;by_cases hc:id=i
   ·subst hc;rw [eP] at hm
    grind
   ·rw [eO hc] at hm;exact hh.blt id q hm
  ·intro id q hm;by_cases hc:id=i
   ·subst hc;rw [eP] at hm
    grind
   ·rw [eO hc] at hm;exact hh.low id q hm
 cases ho:aF hp i with
 | none=>exact ⟨S,gen S (fun _ h=>h) (fun _ h=> .inl h) (fun o h=>by rw [ho] at h;cases h),fun _ h=>h,fun _ h=> .inl h⟩
 | some o=>
  rcases hf o ho with ⟨h1,_⟩ | ⟨_,h1⟩
  ·exact ⟨S,gen S (fun _ h=>h) (fun _ h=> .inl h) (fun o' h=>by rw [ho] at h;injection h with h;subst h;exact h1),fun _ h=>h,fun _ h=> .inl h⟩
  ·exact ⟨_,gen (fun b=>S b\/b=p.b) (fun _ h=> .inl h) (fun _ h=>h) (fun o' h=>by rw [ho] at h;injection h with h;subst h;exact h1),fun _ h=> .inl h,fun _ h=>h⟩
def afi {aj:Nat->Nat} {lo:Nat} {r:AV} {u:yf} {bs:List Nat} (h:ir aj S w lo r u bs) (m:Mp) (hS:∀b,S b->S' b) (hbs:∀b,b∈bs->S' b):an aj m S' w (b6 r) u:=by
 have aY:fS S w w:=fun _ _=>rfl
 cases r with
 | bV ex sz n cs=>
  obtain ⟨b,o,c,arr,t,rfl,rfl,h1,h2,h3,h4,h5,h6,h7,h8,h9⟩:=h;exact .inl ⟨b,o,c,rfl,h1,h2,.inr (hbs b (by simp)),h9,DJ hS aY cs b o h9 rfl h8⟩
 | _=>simp only [ir] at h;exact qZ hS aY _ _ h.2.2 h.2.1
def afj {aj:Nat->Nat} {lo:Nat} (m:Mp) (hS:∀b,S b->S' b):∀{vs:List AV} {us:List yf} {bs:List Nat},lA aj S w lo vs us bs->(∀b,b∈bs->S' b)->aA aj m S' w (Ek vs) us
 | [],us,bs,h,_=>by simp only [lA] at h;exact h.1
 | v::r,us,bs,h,hb=>by
  obtain ⟨u,t,b1,b2,rfl,rfl,h1,h2⟩:=h;exact ⟨u,t,rfl,afi h1 m hS (fun b da=>hb b (by simp [da])),afj m hS h2 (fun b da=>hb b (by simp [da]))⟩
def Vs {aj:Nat->Nat} {lo:Nat} {r:AV} {u:yf} {bs:List Nat} (h:ir aj S w lo r u bs):∀b,b∈bs->lo<=b/\b<w.heap.size:=by
 intro b hb
 cases r with
 | bV ex sz n cs=>
  simp only [ir] at h
  grind
 | _=>simp only [ir] at h;rw [h.1] at hb;cases hb
def Vt {aj:Nat->Nat} {lo:Nat}:∀{vs:List AV} {us:List yf} {bs:List Nat},lA aj S w lo vs us bs->∀b,b∈bs->lo<=b/\b<w.heap.size
 | [],us,bs,h,b,hb=>by simp only [lA] at h;rw [h.2] at hb;cases hb
 | v::r,us,bs,h,b,hb=>by
  obtain ⟨u,t,b1,b2,rfl,rfl,h1,h2⟩:=h;rcases wI.1 hb with hb | hb
  ·exact Vs h1 b hb
  ·exact Vt h2 b hb
def afk {aj:Nat->Nat} {lo:Nat} {r:AV} {u:yf} (h:nI aj S w lo r u) (m:Mp):∃S',(∀b,S b->S' b)/\(∀b,S' b->S b\/(lo<=b/\b<w.heap.size))/\an aj m S' w (shut r) u:=by
 have one:∀(r:AV) (bs:List Nat),shut r=b6 r->ir aj S w lo r u bs->∃S',(∀b,S b->S' b)/\(∀b,S' b->S b\/(lo<=b/\b<w.heap.size))/\an aj m S' w (shut r) u:=by
  intro r bs hs h;refine ⟨fun b=>S b\/b∈bs,fun _ h=> .inl h,fun b hb=>hb.imp (fun x=>x) (fun hb=>Vs h b hb),?_⟩;rw [hs];exact afi h m (fun _ h=> .inl h) (fun _ h=> .inr h)
 cases r with
 | af vs=>
  obtain ⟨us,bs,rfl,h1,h2⟩:=h;refine ⟨fun b=>S b\/b∈bs,fun _ h=> .inl h,fun b hb=>hb.imp (fun x=>x) (fun hb=>Vt h1 b hb),?_⟩;exact ⟨us,rfl,afj m (fun _ h=> .inl h) h1 (fun _ h=> .inr h)⟩
 | _=>
  obtain ⟨bs,h⟩:=h;exact one _ bs rfl h
end
end
section
open Go
section
variable {O:bw} {m:Mp} {S:Nat->Prop} {w:yh} {H:Hp} {cH:Nat}
def O4 {hp:Hp} {ct:Nat} {r:AV}:ct<=(fu hp ct r).2.2:=by
 cases r<;>simp only [fu]<;>omega
def O5:∀{vs:List AV} {hp:Hp} {ct:Nat},ct<=(jQ hp ct vs).2.2
 | [],hp,ct=>by simp [jQ]
 | v::r,hp,ct=>by
  simp only [jQ];have h1:=O4 (hp:=hp) (ct:=ct) (r:=v);have h2:=O5 (vs:=r) (hp:=(fu hp ct v).2.1) (ct:=(fu hp ct v).2.2);omega
def Vu {hp:Hp} {ct:Nat} {r:AV} (hf:∀id o,aF hp id=some o->id<ct):∀id o,aF hp id=some o->aF (fu hp ct r).2.1 id=some o:=by
 intro id o h;cases r<;>simp only [fu]<;>try exact h
 rw [ic,yp (by have:=hf id o h;omega)];exact h
def ag4 {hp:Hp} {ct lo:Nat} {r:AV} {u:yf} {bs:List Nat} (hh:aX O m S w H cH) (hl:dC (fu hp ct r).2.1 H) (eh:(fu hp ct r).2.2<=cH) (hn:∀id,ct<=id->id<(fu hp ct r).2.2->m id=none)
  (hr:ir O.aj S w lo r u bs) (a8:O.w0.heap.size<=lo) (oU:∀j q,m j=some q->q.b∉bs):
  ∃m' S',aX O m' S' w H cH/\dN m m'/\(∀id p,m' id=some p->m id=some p\/(ct<=id/\id<(fu hp ct r).2.2/\p.b∈bs))/\an O.aj m' S' w (fu hp ct r).1 u/\(∀b,S b->S' b)/\(∀b,S' b->S b\/b∈bs):=by
 have aY:fS S w w:=fun _ _=>rfl
 cases r with
 | bV ex sz n cs=>
  simp only [fu] at hl eh hn;obtain ⟨b,o,c,arr,t,rfl,rfl,h1,h2,h3,h4,h5,h6,h7,h8,h9⟩:=hr;have bW:m ct=none:=hn ct (yA _) (Nat.lt_succ_self _);have aDi:b<w.heap.size:=(xp.1 h5).1;have oT:fF O (fG m ct ⟨b,o,c*sz,sz⟩) S w ct (.cells true true ex sz cs):=by
   refine ⟨_,arr,t,eP,h5,rfl,?_,h7,fun hx=>?_,DJ (fun _ h=>h) aY cs b o h9 rfl h8,fun _=>h9,fun _=>h4,by simp⟩
   ·show cs.length<=c*sz
    rw [h6];exact yY _ h1
   ·grind
  obtain ⟨S',k1,k2,k3⟩:=atS (p:=⟨b,o,c*sz,sz⟩) hh bW (by omega) aDi (by show _<=b;omega) h4 (fun j q hq e=>oU j q hq (by rw [e];simp)) (fun o' nQ=>by
   obtain ⟨o'',g1,g2⟩:=hl ct (.cells true true ex sz cs) (by rw [ic];simp)
   rw [nQ] at g1;injection g1 with g1
   subst g1
   exact aec (p:=⟨b,o,c*sz,sz⟩) g2 eP oT (by simp [jv]))
  refine ⟨_,S',k1,kW bW,fun id p aw=>?_,?_,k2,fun b' da=>(k3 b' da).imp (fun h=>h) (fun h=>by rw [h];simp)⟩
  ·by_cases hc:id=ct
   ·subst hc;rw [eP] at aw;injection aw with aw
    subst aw;exact .inr ⟨yA _,by simp [fu],by simp⟩
   ·rw [eO hc] at aw;exact .inl aw
  ·simp only [fu,an];exact ⟨_,c,eP,by simp,h1,by simp⟩
 | _=>
  exact ⟨m,S,hh,dN.refl,fun _ _ h=> .inl h,qZ (fun _ h=>h) aY _ _ hr.2.2 hr.2.1,fun _ h=>h,fun _ h=> .inl h⟩
def Kz {hp:Hp} {ct:Nat} {r:AV} (hf:∀id o,aF hp id=some o->id<ct):∀id o,aF (fu hp ct r).2.1 id=some o->id<(fu hp ct r).2.2:=by
 intro id o h;cases r<;>simp only [fu] at h ⊢<;>try exact hf id o h
 rw [ic] at h
 grind
def O6:∀{vs:List AV} {hp:Hp} {ct:Nat},(∀id o,aF hp id=some o->id<ct)->∀id o,aF hp id=some o->aF (jQ hp ct vs).2.1 id=some o
 | [],hp,ct,_,id,o,h=>by simpa [jQ] using h
 | v::r,hp,ct,hf,id,o,h=>by
  exact O6 (Kz hf) id o (Vu hf id o h)
def ag5 {lo:Nat} (a8:O.w0.heap.size<=lo):∀{vs:List AV} {us:List yf} {bs:List Nat} {hp:Hp} {ct:Nat} {m:Mp} {S:Nat->Prop},aX O m S w H cH->dC (jQ hp ct vs).2.1 H->(jQ hp ct vs).2.2<=cH->
  (∀id o,aF hp id=some o->id<ct)->(∀id,ct<=id->id<(jQ hp ct vs).2.2->m id=none)->
  lA O.aj S w lo vs us bs->bs.Nodup->(∀j q,m j=some q->q.b∉bs)->
  ∃m' S',aX O m' S' w H cH/\dN m m'/\(∀id p,m' id=some p->m id=some p\/(ct<=id/\id<(jQ hp ct vs).2.2/\p.b∈bs))/\aA O.aj m' S' w (jQ hp ct vs).1 us/\(∀b,S b->S' b)/\(∀b,S' b->S b\/b∈bs)
 | [],us,bs,hp,ct,m,S,hh,hl,eh,hf,hn,hr,jI,oU=>by
  simp only [lA] at hr;exact ⟨m,S,hh,dN.refl,fun _ _ h=> .inl h,by simp only [jQ,aA];exact hr.1,fun _ h=>h,fun _ h=> .inl h⟩
 | v::r,us,bs,hp,ct,m,S,hh,hl,eh,hf,hn,hr,jI,oU=>by
  simp only [lA] at hr;obtain ⟨u,t,b1,b2,rfl,rfl,h1,h2⟩:=hr;simp only [jQ] at hl eh hn ⊢;have eN:=O4 (hp:=hp) (ct:=ct) (r:=v);have zj:=O5 (vs:=r) (hp:=(fu hp ct v).2.1) (ct:=(fu hp ct v).2.2);rw [List.nodup_append] at jI;obtain ⟨m1,S1,k1,k2,k3,k4,k5,k6⟩:=ag4 (hp:=hp) (ct:=ct) (lo:=lo) hh ((fun id o h=>hl id o (O6 (Kz hf) id o h))) (by omega) (fun id g1 g2=>hn id g1 (by omega)) h1 a8
   (fun j q hq hb=>oU j q hq (by simp [hb]))
  have h2':lA O.aj S1 w lo r t b2:=by
   clear k4;have WS:∀b,S1 b->S b\/b∈b1:=k6;have hd:∀b,b∈b2->b∉b1:=fun b hb kQ=>jI.2.2 b kQ b hb rfl
   have one:∀{v:AV} {u:yf} {bb:List Nat},(∀b,b∈bb->b∉b1)->ir O.aj S w lo v u bb->ir O.aj S1 w lo v u bb:=by
    intro v u bb zd h
    cases v with
    | bV ex sz n cs=>
     simp only [ir] at h ⊢;obtain ⟨b,o,c,arr,tt,rfl,rfl,g1,g2,g3,g4,g5,g6,g7,g8,g9⟩:=h;exact ⟨b,o,c,arr,tt,rfl,rfl,g1,g2,g3,fun hs=>(WS b hs).elim g4 (zd b (by simp)),g5,g6,g7,DJ k5 (fun _ _=>rfl) cs b o g9 rfl g8,g9⟩
    | _=>simp only [ir] at h ⊢;exact ⟨h.1,qZ k5 (fun _ _=>rfl) _ _ h.2.2 h.2.1,h.2.2⟩
   clear k1 k2 k3 hl eh hn oU jI;revert hd h2;generalize b2=bb
   induction r generalizing t bb with
   | nil=>intro h2 hd;simpa only [lA] using h2
   | cons v' r ih=>
    intro h2 hd;simp only [lA] at h2 ⊢;obtain ⟨u',t',c1,c2,rfl,rfl,g1,g2⟩:=h2
    exact ⟨u',t',c1,c2,rfl,rfl,one (fun b hb=>hd b (by simp [hb])) g1,ih _ (by
     have:=O5 (vs:=r) (hp:=(fu hp ct v).2.1) (ct:=(fu hp ct v).2.2)
     exact this) _ g2 (fun b hb=>hd b (by simp [hb]))⟩
  obtain ⟨m2,S2,g1,g2,g3,g4,g5,g6⟩:=ag5 a8 (vs:=r) (us:=t) (bs:=b2) (m:=m1) (S:=S1) k1 hl eh (Kz hf) (fun id q1 q2=>by
   cases hq:m1 id with
   | none=>rfl
   | some p=>
    rcases k3 id p hq with h | ⟨_,h,_⟩
    ·rw [hn id (by omega) q2] at h;cases h
    ·omega) h2' jI.2.1 (fun j q hq hb=>by
     rcases k3 j q hq with h | ⟨_,_,h⟩
     ·exact oU j q h (by simp [hb])
     ·exact jI.2.2 q.b h q.b hb rfl)
  refine ⟨m2,S2,g1,k2.trans g2,fun id p aw=>?_,?_,fun b hb=>g5 b (k5 b hb),fun b hb=>?_⟩
  ·rcases g3 id p aw with h | ⟨a1,a2,a3⟩
   ·rcases k3 id p h with h | ⟨a1,a2,a3⟩
    ·exact .inl h
    ·exact .inr ⟨a1,by omega,by simp [a3]⟩
   ·exact .inr ⟨by omega,a2,by simp [a3]⟩
  ·simp only [aA];exact ⟨u,t,rfl,mv g2 g5 (fun _ _=>rfl) _ _ k4,g4⟩
  ·rcases g6 b hb with h | h
   ·exact (k6 b h).imp (fun h=>h) (fun h=>by simp [h])
   ·exact .inr (by simp [h])
def ax3 {hp:Hp} {ct lo:Nat} {r:AV} {u:yf} (hh:aX O m S w H cH) (hl:dC (own hp ct r).2.1 H) (eh:(own hp ct r).2.2<=cH) (hf:∀id o,aF hp id=some o->id<ct)
  (hn:∀id,ct<=id->id<(own hp ct r).2.2->m id=none) (hr:nI O.aj S w lo r u) (a8:O.w0.heap.size<=lo) (Nf:∀j q,m j=some q->q.b<lo):
  ∃m' S',aX O m' S' w H cH/\dN m m'/\(∀id p,m' id=some p->m id=some p\/(ct<=id/\id<(own hp ct r).2.2/\lo<=p.b))/\an O.aj m' S' w (own hp ct r).1 u/\(∀b,S b->S' b)/\(∀b,S' b->S b\/lo<=b):=by
 have one:∀(r:AV) (bs:List Nat),own hp ct r=fu hp ct r->ir O.aj S w lo r u bs->dC (own hp ct r).2.1 H->(own hp ct r).2.2<=cH->(∀id,ct<=id->id<(own hp ct r).2.2->m id=none)->
   ∃m' S',aX O m' S' w H cH/\dN m m'/\(∀id p,m' id=some p->m id=some p\/(ct<=id/\id<(own hp ct r).2.2/\lo<=p.b))/\an O.aj m' S' w (own hp ct r).1 u/\(∀b,S b->S' b)/\(∀b,S' b->S b\/lo<=b):=by
  intro r bs he hr hl eh hn;rw [he] at hl eh hn ⊢;have Ew:=Vs hr;obtain ⟨m',S',k1,k2,k3,k4,k5,k6⟩:=ag4 hh hl eh hn hr a8 (fun j q hq hb=>by have:=Nf j q hq;have:=(Ew _ hb).1;omega)
  exact ⟨m',S',k1,k2,fun id p h=>(k3 id p h).imp (fun h=>h) (fun h=>⟨h.1,h.2.1,(Ew _ h.2.2).1⟩),k4,k5,fun b hb=>(k6 b hb).imp (fun h=>h) (fun h=>(Ew _ h).1)⟩
 cases r with
 | af vs=>
  simp only [own] at hl eh hn ⊢;simp only [nI] at hr;obtain ⟨us,bs,rfl,h1,h2⟩:=hr;have Ew:=Vt h1;obtain ⟨m',S',k1,k2,k3,k4,k5,k6⟩:=ag5 a8 hh hl eh hf hn h1 h2 (fun j q hq hb=>by have:=Nf j q hq;have:=(Ew _ hb).1;omega)
  exact ⟨m',S',k1,k2,fun id p h=>(k3 id p h).imp (fun h=>h) (fun h=>⟨h.1,h.2.1,(Ew _ h.2.2).1⟩),by simp only [an];exact ⟨us,rfl,k4⟩,k5,fun b hb=>(k6 b hb).imp (fun h=>h) (fun h=>(Ew _ h).1)⟩
 | _=>
  simp only [nI] at hr;obtain ⟨bs,hr⟩:=hr;exact one _ bs rfl hr hl eh hn
end
end
section
open Go
section
variable {O:bw} {m m':Mp} {S:Nat->Prop} {w:yh} {f:Nat->Option Nat}
def GX (f:Nat->Option Nat) (m m':Mp):Prop:=∀id j,f id=some j->m' j=m id
mutual
def ag6 {aj:Nat->Nat} (hf:GX f m m'):∀(v:AV) (u:yf),an aj m S w v u->an aj m' S w (cy f v) u
 | .int _ _,_,h | .bool _,_,h | .b5 _ _,_,h | .str _,_,h | .lm,_,h | .aa,_,h | .jd,_,h | .kD,_,h | .undef,_,h=>by
  simpa only [cy,an] using h
 | .ptr id o,u,h=>by
  simp only [cy]
  cases hi:f id with
  | none=>simp only [an]
  | some j=>
   simp only [an] at h ⊢;rw [hf id j hi];exact h
 | .cz cs,u,h=>by
  simp only [cy];exact qZ (fun _ h=>h) (fun _ _=>rfl) _ _ (by simp [bg]) h
 | .ap ex n cs,u,h=>by
  simp only [cy];exact qZ (fun _ h=>h) (fun _ _=>rfl) _ _ (by simp [bg]) h
 | .bV _ _ _ _,u,h=>by simp only [an] at h
 | .ay id o n,u,h=>by
  simp only [cy]
  cases hi:f id with
  | none=>simp only [an]
  | some j=>
   simp only [an] at h ⊢;rw [hf id j hi];exact h
 | .fn (.f g) first cap,u,h=>by
  simp only [cy,an] at h ⊢;obtain ⟨fi,ca,h1,h2,h3⟩:=h;exact ⟨fi,ca,h1,BO hf first _ h2,BO hf cap _ h3⟩
 | .fn (.y l) first cap,u,h=>by
  simp only [cy]
  cases hi:f l with
  | none=>simp only [an]
  | some j=>
   simp only [an] at h ⊢;rw [hf l j hi];exact h
 | .map id,u,h=>by
  simp only [cy]
  cases hi:f id with
  | none=>simp only [an]
  | some j=>
   simp only [an] at h ⊢;rw [hf id j hi];exact h
 | .jD ks vs,u,h=>by
  simp only [cy];exact qZ (fun _ h=>h) (fun _ _=>rfl) _ _ (by simp [bg]) h
 | .it id,u,h=>by
  simp only [cy]
  cases hi:f id with
  | none=>simp only [an]
  | some j=>
   simp only [an] at h ⊢;rw [hf id j hi];exact h
 | .agg cs,u,h=>by
  simp only [cy,an] at h ⊢;obtain ⟨xs,h1,h2⟩:=h;exact ⟨xs,h1,BO hf cs _ h2⟩
 | .af cs,u,h=>by
  simp only [cy,an] at h ⊢;obtain ⟨xs,h1,h2⟩:=h;exact ⟨xs,h1,BO hf cs _ h2⟩
def BO {aj:Nat->Nat} (hf:GX f m m'):∀(vs:List AV) (us:List yf),aA aj m S w vs us->aA aj m' S w (fN f vs) us
 | [],us,h=>by simpa only [fN,aA] using h
 | v::r,us,h=>by
  simp only [fN,aA] at h ⊢;obtain ⟨u,t,h1,h2,h3⟩:=h;exact ⟨u,t,h1,ag6 hf v u h2,BO hf r t h3⟩
end
def ar1 {aj:Nat->Nat} (hf:GX f m m') {cs:List AV} {b o:Nat} (h:b7 aj m S w cs b o):b7 aj m' S w (fN f cs) b o:=by
 obtain ⟨us,h1,_,h3⟩:=zG cs b o h;exact Ga _ us o (BO hf cs us h1) h3
def U2:∀cs:List AV,(fN f cs).length=cs.length
 | []=>rfl
 | c::r=>by simp [fN,U2 r]
def af6:∀(tm:Env) (i:Nat),ak (lz f tm) i=cy f (ak tm i)
 | [],i=>by simp [lz,ak,cy]
 | (j,v)::r,i=>by
  simp only [lz,ak]
  cases yu j i with
  | true=>rfl
  | false=>exact af6 r i
def afl (tm:Env) (i:Nat):∀live:List Nat,ak (eC tm live) i=ak tm i\/ak (eC tm live) i= .undef
 | []=> .inr rfl
 | j::r=>by
  simp only [eC,ak]
  cases hb:yu j i with
  | true=>rw [yo hb];exact .inl rfl
  | false=>exact afl tm i r
def af7 {tm:Env} {tmps:Array yf} (hf:GX f m m') (h:cA O m S w tm tmps):cA O m' S w (lz f tm) tmps:=fun i=>by
 rw [af6];exact ag6 hf _ _ (h i)
def atT {id j:Nat} {o:Obj} {p:Pl} (hf:GX f m m') (hm:m id=some p) (hj:m' j=some p) (h:fF O m S w id o):fF O m' S w j (lW f o):=by
 cases o with
 | cells rw pu ex sz cs=>
  obtain ⟨q,arr,t,h1,h2,h3,h4,h5,h6,h7,h8,h9,iS⟩:=h;rw [hm] at h1;injection h1 with h1;subst h1
  cases pu with
  | true=>exact ⟨p,arr,t,hj,h2,h3,h4,h5,h6,DJ (fun _ h=>h) (fun _ _=>rfl) _ _ _ (h8 rfl) rfl h7,h8,h9,iS⟩
  | false=>exact ⟨p,arr,t,hj,h2,h3,by rw [yM,U2];exact h4,h5,by rw [yM,U2];exact h6,ar1 hf h7,by simp,h9,iS⟩
 | mp rw ks vs=>
  obtain ⟨q,es,clock,h1,h2,h3,h4,h5,h6⟩:=h;rw [hm] at h1;injection h1 with h1;subst h1
  exact ⟨p,es,clock,hj,h2,BO hf _ _ h3,BO hf _ _ h4,h5,h6⟩
 | si s pos=>
  obtain ⟨q,t,h1,h2,h3,h4⟩:=h;rw [hm] at h1;injection h1 with h1;subst h1
  exact ⟨p,t,hj,h2,h3,h4⟩
 | lp tm ps cT body st pe=>
  obtain ⟨q,l,hi,h1,h2,h3,h4,h5,h6,h7,h8⟩:=h;rw [hm] at h1;injection h1 with h1;subst h1
  exact ⟨p,l,hi,hj,h2,h3,h4,h5,h6,af7 hf h7,h8⟩
def afm {i:Nat}:∀{l:List Nat} {k j:Nat},mH i l k=some j->k<=j/\l[j-k]? =some i
 | [],k,j,h=>by simp [mH] at h
 | x::r,k,j,h=>by
  simp only [mH] at h
  cases hb:yu x i with
  | true=>
   simp_all
  | false=>
   rw [hb] at h;obtain ⟨h1,h2⟩:=afm h
   grind
def zR {a b:Nat}:yL a b=true↔a<b:=by simp_all
def Oc {hp:Hp} {j:Nat} {o':Obj}:∀{l:List Nat} {k:Nat} {acc:Hp},aF (lh hp f l k acc) j=some o'->
  (∃i id o,l[i]? =some id/\j=k+i/\aF hp id=some o/\o'=lW f o)\/aF acc j=some o'
 | [],k,acc,h=> .inr h
 | x::r,k,acc,h=>by
  simp only [lh] at h
  cases hx:aF hp x with
  | none=>
   simp only [hx] at h;rcases Oc h with ⟨i,id,o,h1,h2,h3,h4⟩ | h
   ·exact .inl ⟨i+1,id,o,by simpa using h1,by omega,h3,h4⟩
   ·grind
  | some o=>
   simp only [hx] at h;rcases Oc h with ⟨i,id,o,h1,h2,h3,h4⟩ | h
   ·exact .inl ⟨i+1,id,o,by simpa using h1,by omega,h3,h4⟩
   ·rw [ic] at h;by_cases hc:k=j
    ·simp only [hc,xm,yc] at h;exact .inl ⟨0,x,o,by simp,by omega,hx,h.symm⟩
    ·grind
def Od {base:Nat} {j:Nat} {o':Obj}:∀{hp:Hp},aF (mE base f hp) j=some o'->j<base/\∃o,aF hp j=some o/\o'=lW f o
 | [],h=>by simp [mE,aF] at h
 | (i,q)::r,h=>by
  simp only [mE] at h
  cases hb:yL i base with
  | true=>
   rw [hb] at h;simp only [yB] at h;rw [ic] at h;by_cases hc:i=j
   ·simp only [hc,xm,yc] at h;exact ⟨by rw [<-hc];exact zR.1 hb,q,by rw [ic];simp [hc],h.symm⟩
   ·simp only [hc,y9] at h;obtain ⟨h1,o,h2,h3⟩:=Od h;exact ⟨h1,o,by rw [ic];simp [hc,h2],h3⟩
  | false=>
   rw [hb] at h;obtain ⟨h1,o,h2,h3⟩:=Od h;have hc:¬i=j:=fun e=>by
    have:=zR.2 h1
    grind
   exact ⟨h1,o,by rw [ic];simp [hc,h2],h3⟩
def pU (m:Mp) (base:Nat) (seen:List Nat):Mp:=fun j=>
 if j<base then m j else match seen[j-base]? with
  | some id=>if lf base seen id=some j then m id else none
  | none=>none
def UG {base:Nat} {seen:List Nat} {j:Nat} {p:Pl} (h:pU m base seen j=some p):∃id,lf base seen id=some j/\m id=some p/\(j<base->id=j):=by
 unfold pU at h
 split at h
 ·rename_i hj;exact ⟨j,by simp [lf,zR.2 hj],h,fun _=>rfl⟩
 ·grind
def atU {base:Nat} {seen:List Nat}:GX (lf base seen) m (pU m base seen):=by
 intro id j h;have h0:=h;unfold lf at h
 cases hb:yL id base with
 | true=>
  rw [hb] at h;simp only [yB,yc] at h;subst h;simp [pU,zR.1 hb]
 | false=>
  rw [hb] at h;obtain ⟨h1,h2⟩:=afm h
  have:¬j<base:=by omega
  simp only [pU,this,y9,h2,h0,xm]
def Um {s:St} {tmps:Array yf} {live:List Nat} (ht:cA O m S w s.tm tmps) (hh:aX O m S w s.hp s.ct) (hb:s.base<=s.ct):
  ∃m',cA O m' S w (bS live s).tm tmps/\aX O m' S w (bS live s).hp (bS live s).ct/\(bS live s).base=s.base/\s.base<=(bS live s).ct/\cC m S w s.hp m' S w (bS live s).hp s.base:=by
 simp only [bS];generalize alm:reach s.hp s.base 100000 (jC (eC s.tm live)++ju s.base s.hp) []=seen;have hr:=atU (m:=m) (base:=s.base) (seen:=seen);have aZ:∀j p,pU m s.base seen j=some p->j<s.base+seen.length:=by
  intro j p h;unfold pU at h
  grind
 have back:∀j o' p,aF (lh s.hp (lf s.base seen) seen s.base (mE s.base (lf s.base seen) s.hp)) j=some o'->pU m s.base seen j=some p->
   ∃id o,lf s.base seen id=some j/\aF s.hp id=some o/\m id=some p/\o'=lW (lf s.base seen) o:=by
  intro j o' p ho hm;obtain ⟨id,h1,h2,h3⟩:=UG hm;rcases Oc ho with ⟨i,id',o,g1,g2,g3,g4⟩ | ho
  ·have hj:¬j<s.base:=by omega
   have:pU m s.base seen j=if lf s.base seen id'=some j then m id' else none:=by
    simp only [pU,hj,y9,show j-s.base=i by omega,g1]
   grind
  ·obtain ⟨g1,o,g2,g3⟩:=Od ho
   grind
 refine ⟨pU m s.base seen,?_,⟨?_,aZ,?_,hh.slt,?_,?_,hh.lY,hh.fT,fun j o' ho=>(by
  rcases Oc ho with ⟨i,id',o,g1,g2,g3,g4⟩ | ho
  ·grind
  ·have:=(Od ho).1;omega)⟩,by trivial,by omega,⟨rfl,rfl,rfl,yA _,fun _ _ _=>rfl,fun _ h=>h,fun _ _=>rfl,fun _ h=> .inl h,?_,?_,fun _ r h=>⟨r,h⟩⟩⟩
 ·refine af7 hr (fun i=>?_);rcases afl s.tm i live with h | h
  ·rw [h];exact ht i
  ·rw [h];simp only [an]
 ·intro j o' p ho hm;obtain ⟨id,o,h1,h2,h3,rfl⟩:=back j o' p ho hm;exact atT hr h3 hm (hh.obj id o p h2 h3)
 ·intro i j oi oj pi pj hi hj bW gA e;obtain ⟨idi,o1,a1,a2,a3,_⟩:=back i oi pi hi bW;obtain ⟨idj,o2,b1,b2,b3,_⟩:=back j oj pj hj gA
  have:=hh.inj idi idj o1 o2 pi pj a2 b2 a3 b3 e
  grind
 ·intro j p hm;obtain ⟨id,_,h2,_⟩:=UG hm;exact hh.blt id p h2
 ·intro j p hm;obtain ⟨id,_,h2,_⟩:=UG hm;exact hh.low id p h2
 ·rintro b ⟨j,o',p,h1,h2,h3⟩;obtain ⟨id,o,_,g2,g3,_⟩:=back j o' p h1 h2;exact .inl ⟨id,o,p,g2,g3,h3⟩
 ·intro id p hid hm;simp [pU,hid,hm]
end
end
section
open Go
section
variable {O:bw} {m:Mp} {S:Nat->Prop} {w:yh} {hp:Hp} {ct:Nat}
def af8 (hh:aX O m S w hp ct) (id:Nat):aX O m S w (eT hp id) ct:=by
 have sub:∀i o,aF (eT hp id) i=some o->aF hp i=some o:=fun i o h=>by
  rw [Kb] at h
  grind
 exact ⟨fun i o p h hm=>hh.obj i o p (sub i o h) hm,hh.lt,fun i j oi oj pi pj hi hj=>hh.inj i j oi oj pi pj (sub i oi hi) (sub j oj hj),hh.slt,hh.blt,hh.low,hh.lY,hh.fT,fun i o h=>hh.aZ i o (sub i o h)⟩
def ag7 {id b:Nat} (h:eI m (eT hp id) b):eI m hp b:=by
 obtain ⟨i,o,p,h1,h2,h3⟩:=h;rw [Kb] at h1;by_cases hc:id=i
 ·grind
 ·simp only [hc,y9] at h1;exact ⟨i,o,p,h1,h2,h3⟩
def aee (hh:aX O m S w hp ct) {id:Nat} {o:Obj} {p:Pl} (hg:aF hp id=some o) (hm:m id=some p):¬eI m (eT hp id) p.b:=by
 rintro ⟨i,o',q,h1,h2,h3⟩;rw [Kb] at h1;by_cases hc:id=i
 ·grind
 ·simp only [hc,y9] at h1;exact hc (hh.inj i id o' o q p h1 hg h2 hm h3).symm
def avX {aw:Hp} (hd:j0 hp aw) {b:Nat} (h:eI m aw b):eI m hp b:=by
 obtain ⟨i,o,p,h1,h2,h3⟩:=h
 have:=hd i
 rw [h1] at this
 cases hq:aF hp i with
 | none=>rw [hq] at this;cases this
 | some q=>exact ⟨i,q,p,hq,h2,h3⟩
def aeF {lo:Nat} {v v':AV} {aw:Hp} {n:Nat} (hh:aX O m S w hp ct) (hf:freeze n hp v=some (v',aw)) {u:yf} (hv:an O.aj m S w v u):
  ∃S',aX O m S' w aw ct/\(∀b,S b->S' b)/\(∀b,S' b->S b\/eI m hp b)/\bg v'=true/\an O.aj ff S' w v' u/\ir O.aj S' w lo v' u []:=by
 obtain ⟨h1,h2,h3⟩:=UC (O:=O) hf;obtain ⟨S',g1,g2,g3⟩:=agY hh h1 (fun id o p ho hm=>by
  have:=h2 id
  rw [ho] at this
  cases hq:aF hp id with
  | none=>rw [hq] at this;cases this
  | some q=>exact ⟨q,rfl⟩) (yA _) (fun id o ho=>(by
  have:=h2 id
  rw [ho] at this
  cases hq:aF hp id with
  | none=>rw [hq] at this;cases this
  | some q=>exact hh.aZ id q hq))
 obtain ⟨k1,k2⟩:=h3 aw m S' w ct dC.refl g1;have hr:=k1 u (mv (fun _ _ h=>h) g2 (fun _ _=>rfl) v u hv);have cM:an O.aj ff S' w v' u:=qZ (fun _ h=>h) (fun _ _=>rfl) v' u k2 hr;refine ⟨S',g1,g2,g3,k2,cM,?_⟩
 cases v' with
 | bV _ _ _ _=>simp [bg] at k2
 | _=>exact ⟨rfl,cM,k2⟩
def ar2 {S':Nat->Prop} {lo:Nat} {v:AV} {u:yf} {bs:List Nat} (hS:∀b,S b->S' b) (hn:∀b,b∈bs->¬S' b) (h:ir O.aj S w lo v u bs):ir O.aj S' w lo v u bs:=by
 cases v with
 | bV ex sz n cs=>
  obtain ⟨b,o,c,arr,t,rfl,rfl,g1,g2,g3,g4,g5,g6,g7,g8,g9⟩:=h;exact ⟨b,o,c,arr,t,rfl,rfl,g1,g2,g3,hn b (by simp),g5,g6,g7,DJ hS (fun _ _=>rfl) cs b o g9 rfl g8,g9⟩
 | _=>simp only [ir] at h ⊢;exact ⟨h.1,qZ hS (fun _ _=>rfl) _ _ h.2.2 h.2.1,h.2.2⟩
def afn {lo:Nat} {v v':AV} {aw:Hp} {n:Nat} (hh:aX O m S w hp ct) (hf:D2 n hp v=some (v',aw)) {u:yf} (hv:an O.aj m S w v u) (a8:∀b,eI m hp b->lo<=b):
  ∃S' bs,aX O m S' w aw ct/\(∀b,S b->S' b)/\(∀b,S' b->S b\/eI m hp b)/\ir O.aj S' w lo v' u bs/\bs.Nodup/\(∀b,b∈bs->eI m hp b/\¬eI m aw b)/\(∀b,eI m aw b->eI m hp b):=by
 have frozen:freeze n hp v=some (v',aw)->∃S' bs,aX O m S' w aw ct/\(∀b,S b->S' b)/\(∀b,S' b->S b\/eI m hp b)/\ir O.aj S' w lo v' u bs/\bs.Nodup/\(∀b,b∈bs->eI m hp b/\¬eI m aw b)/\(∀b,eI m aw b->eI m hp b):=by
  intro hz;obtain ⟨S',g1,g2,g3,g4,g5,g6⟩:=aeF (lo:=lo) hh hz hv
  exact ⟨S',[],g1,g2,g3,g6,by simp,by simp,fun b hb=>avX (UC (O:=O) hz).2.1 hb⟩
 unfold D2 at hf
 split at hf
 ·rename_i id o k
  split at hf
  ·rename_i ex sz cs hg
   cases hc:yG (o+k*sz) cs.length with
   | false=>rw [hc] at hf;cases hf
   | true=>
    rw [hc] at hf;obtain ⟨rfl,rfl⟩:=hf;have hle:=yv hc;obtain ⟨p,c,hm,rfl,h1,h2⟩:=hv;obtain ⟨p',arr,t,g1,g2,g3,g4,g5,g6,g7,g8,g9,g10⟩:=hh.obj id _ _ hg hm;rw [hm] at g1;injection g1 with g1
    subst g1;rw [g3] at h2;refine ⟨S,[p.b],af8 hh id,fun _ h=>h,fun _ h=> .inl h,?_,by simp,?_,fun b hb=>ag7 hb⟩
    ·refine ⟨p.b,p.o+o,c,arr,t,rfl,rfl,h1,?_,a8 _ (KO hg hm),g9 rfl,g2,?_,by omega,?_,DI _ (BJ _ _ (g8 rfl))⟩
     ·intro hx;simp only [yg] at hx;have e1:=yo hx.2;have e2:=zR.1 hx.1.2;have e3:=g6 hx.1.1
      have:c*sz=k*sz:=by omega
      exact Nat.eq_of_mul_eq_mul_right e2 this
     ·simp only [slice,yR,wm];omega
     ·exact DJ (fun _ h=>h) (fun _ _=>rfl) _ _ _ (DI _ (BJ _ _ (g8 rfl))) rfl (DL _ _ _ _ (rY _ _ _ _ g7))
    ·intro b hb;simp only [List.mem_singleton] at hb;subst hb;exact ⟨KO hg hm,aee hh hg hm⟩
  ·grind
 ·grind
def aeG {lo n:Nat}:∀{vs eH:List AV} {us:List yf} {hp aw:Hp} {S:Nat->Prop},aX O m S w hp ct->Gj n hp vs=some (eH,aw)->aA O.aj m S w vs us->(∀b,eI m hp b->lo<=b)->
  ∃S' bs,(∀b,S b->S' b)/\(∀b,S' b->S b\/eI m hp b)/\lA O.aj S' w lo eH us bs/\bs.Nodup/\(∀b,b∈bs->eI m hp b)/\(∀b,S' b->b<w.heap.size)
 | [],eH,us,hp,aw,S,hh,hf,hv,a8=>by
  obtain ⟨rfl,rfl⟩:=hf;exact ⟨S,[],fun _ h=>h,fun _ h=> .inl h,by simp only [lA];exact ⟨hv,by trivial⟩,by simp,by simp,hh.slt⟩
 | v::r,eH,us,hp,aw,S,hh,hf,hv,a8=>by
  simp only [Gj] at hf
  cases h1:D2 n hp v with
  | none=>simp [h1] at hf
  | some q=>
   obtain ⟨v1,bI⟩:=q;simp only [h1] at hf
   cases h2:Gj n bI r with
   | none=>simp [h2] at hf
   | some q2=>
    simp only [h2,yc,yq] at hf;obtain ⟨rfl,rfl⟩:=hf;obtain ⟨u,t,rfl,fg,dM⟩:=hv;obtain ⟨S1,b1,k1,k2,k3,k4,k5,k6,k7⟩:=afn (lo:=lo) hh h1 fg a8;obtain ⟨S2,b2,g1,g2,g3,g4,g5,g6⟩:=aeG (us:=t) k1 h2 (ib (fun _ _ h=>h) k2 (fun _ _=>rfl) _ _ dM) (fun b hb=>a8 b (k7 b hb));have WS:∀b,b∈b1->¬S2 b:=by
     intro b hb hs;rcases g2 b hs with h | h
     ·cases v1 with
      | bV ex sz n cs=>
       simp only [ir] at k4
       grind
      | _=>simp only [ir] at k4;rw [k4.1] at hb;cases hb
     ·grind
    refine ⟨S2,b1++b2,fun b hb=>g1 b (k2 b hb),fun b hb=>?_,?_,?_,?_,g6⟩
    ·grind
    ·simp only [lA];exact ⟨u,t,b1,b2,rfl,rfl,ar2 g1 WS k4,g3⟩
    ·grind
    ·grind
def UH {lo:Nat}:∀{cs:List AV} {us:List yf},aO cs=true->aA O.aj ff S w cs us->lA O.aj S w lo cs us []
 | [],us,_,h=>by simp only [aA] at h;exact ⟨h,by trivial⟩
 | c::r,us,hp,h=>by
  obtain ⟨u,t,rfl,h1,h2⟩:=h;simp only [aO,yg] at hp;refine ⟨u,t,[],[],rfl,rfl,?_,UH hp.2 h2⟩
  cases c with
  | bV _ _ _ _=>simp [bg] at hp
  | _=>exact ⟨rfl,h1,hp.1⟩
def ar3 {lo:Nat} {v r:AV} {u:yf} (hh:aX O m S w hp ct) (hr:result hp v=some r) (hv:an O.aj m S w v u) (a8:∀b,eI m hp b->lo<=b):
  ∃S',(∀b,S b->S' b)/\(∀b,S' b->S b\/eI m hp b)/\(∀b,S' b->b<w.heap.size)/\nI O.aj S' w lo r u:=by
 unfold result at hr
 split at hr
 ·rename_i vs
  split at hr
  ·cases h1:Gj deep hp vs with
   | none=>simp [h1] at hr
   | some q=>
    simp only [h1,yc] at hr;subst hr;obtain ⟨us,rfl,hv⟩:=hv;obtain ⟨S',bs,g1,g2,g3,g4,g5,g6⟩:=aeG (lo:=lo) hh h1 hv a8;exact ⟨S',g1,g2,g6,us,bs,rfl,g3,g4⟩
  ·cases h1:freeze deep hp (.af vs) with
   | none=>simp [h1] at hr
   | some q=>
    obtain ⟨v',aw⟩:=q;simp only [h1,yc] at hr;subst hr;obtain ⟨S',g1,g2,g3,g4,g5,g6⟩:=aeF (lo:=lo) hh h1 hv;refine ⟨S',g2,g3,g1.slt,?_⟩
    cases v' with
    | af cs=>
     obtain ⟨xs,rfl,g5⟩:=g5;exact ⟨xs,[],rfl,UH (by simpa [bg] using g4) g5,by simp⟩
    | _=>exact ⟨[],g6⟩
 ·rename_i SG
  cases h1:D2 deep hp v with
  | none=>simp [h1] at hr
  | some q=>
   obtain ⟨v',aw⟩:=q;simp only [h1,yc] at hr;subst hr;obtain ⟨S',bs,g1,g2,g3,g4,_⟩:=afn (lo:=lo) hh h1 hv a8;refine ⟨S',g2,g3,g1.slt,?_⟩
   cases v' with
   | af cs=>
    obtain ⟨rfl,h2,h3⟩:=g4;obtain ⟨xs,rfl,h2⟩:=h2;exact ⟨xs,[],rfl,UH (by simpa [bg] using h3) h2,by simp⟩
   | _=>exact ⟨bs,g4⟩
end
end
section
open Go
def WF (ro:Option Nat):Fence:={Fence.wide with round:=ro}
section
variable {O:bw}
def aj2 (O:bw) (hp:Hp) (ct:Nat) (l:Nat) (xs:List AV) (v:AV) (aw:Hp) (a6:Nat):Prop:=
 ∀(m:Mp) (S:Nat->Prop) (w:yh) (args:Array yf) (p:Pl),aX O m S w hp ct->m l=some p->aA O.aj m S w xs args.toList->
  ∃f tmps assign body,(Instr.yield p.b args).run O.P w= .ok (.round p.b f tmps assign body) w/\yaH Fence.wide 0 O.P p.b f tmps assign body w (zK O m S w hp ct v aw a6)
structure og (O:bw) (run:cN):Prop where
 pure:∀n av r,bZ O.prog O.aE run n av=some r->dF O n av r
 heap:∀hp ct n av v aw a6,ja O.prog O.aE run hp ct n av=some (v,aw,a6)->Cm O n hp ct av v aw a6
 round:∀hp ct l xs v aw a6,oe run hp ct l xs=some (v,aw,a6)->aj2 O hp ct l xs v aw a6
end
section
variable {P:xe} {o:yZ} {a:Act} {w:yh} {ro:Option Nat} {next:Act->yh->Prop} {Q:uL->Act->yh->Prop}
def Oe {c:yas} {f:xu} (ho:o.op= .call c) (hc:c.callee= .value f) {g:yaQ} {fi ca:Array yf} (hf:a.eval f= .func (.func g) fi ca) {R:uZ->yh->Prop}
  (h:BV P g (fi++c.args.map a.eval++ca) w R) (hn:∀e w',R e w'->∃u,e= .returned u/\next (a.put o.dst u) w'):o.wpIn (WF ro) 0 P a w next Q:=by
 have gN:(o.semAt ro a.eval).run P w=(callFunc g (fi++c.args.map a.eval++ca)).run P w:=by
  rw [Oper.semAt_eq _ _ _ (fun c' h'=>by rw [ho] at h';cases h')];simp only [execOp,ho,resolve,hc,Deferred.ofValue,hf,Sem.run_bind,Sem.run_pure,Result.andThen_ok,invoke]
 refine ⟨fun _ _=>trivial,?_⟩;show o.uponIn (WF ro) 0 P a next Q ((o.semAt ro a.eval).run P w)
 rw [gN];rcases h with ⟨h1,h2⟩ | ⟨u,w',h1,h2⟩
 ·rw [h1,Oper.uponIn_enter];refine ⟨fun h=>by simp [WF,Fence.wide] at h,?_⟩;have h3:CallsIn (WF ro) 0 P g (fi++c.args.map a.eval++ca) w R:=h2;refine CallsIn.mono h3 (fun e w' he=>?_);obtain ⟨u,rfl,hq⟩:=hn e w' he;exact hq
 ·rw [h1];obtain ⟨u',e,hq⟩:=hn _ _ h2;injection e with e
  subst e;exact hq
def atV {c:yas} {f:xu} (ho:o.op= .call c) (hc:c.callee= .value f) {l:Nat} (hf:a.eval f= .func (.yield l) #[] #[]) {R:uZ->yh->Prop} {g:yaQ} {tmps:Array yf} {assign body:Code}
  (hy:(Instr.yield l (c.args.map a.eval)).run P w= .ok (.round l g tmps assign body) w) (h:yaH Fence.wide 0 P l g tmps assign body w R) (hn:∀e w',R e w'->∃u,e= .returned u/\next (a.put o.dst u) w'):o.wpIn (WF ro) 0 P a w next Q:=by
 have gN:(o.semAt ro a.eval).run P w= .ok (.round l g tmps assign body) w:=by
  rw [Oper.semAt_eq _ _ _ (fun c' h'=>by rw [ho] at h';cases h')];simp only [execOp,ho,resolve,hc,Deferred.ofValue,hf,Sem.run_bind,Sem.run_pure,Result.andThen_ok,invoke,Array.empty_append];exact hy
 refine ⟨fun _ _=>trivial,?_⟩;show o.uponIn (WF ro) 0 P a next Q ((o.semAt ro a.eval).run P w)
 rw [gN,Oper.uponIn_round];refine ⟨fun h=>by simp [WF,Fence.wide] at h,?_⟩;have h3:yaH (WF ro) 0 P l g tmps assign body w R:=h;refine RoundIn.mono h3 (fun e w' he=>?_);obtain ⟨u,rfl,hq⟩:=hn e w' he;exact hq
def Pt {n:yab} {u:yf} {w':yh} (hd:∀c,o.op≠.defer c) (h:(execOp a.eval o).run P w= .ok n w') (hn:n= .value u\/(n= .skip/\u=undef)) (hq:next (a.put o.dst u) w'):o.wpIn (WF ro) 0 P a w next Q:=by
 refine ⟨fun _ _=>trivial,?_⟩;show o.uponIn (WF ro) 0 P a next Q ((o.semAt ro a.eval).run P w)
 rw [Oper.semAt_eq _ _ _ hd,h];rcases hn with rfl | ⟨rfl,rfl⟩
 ·exact hq
 ·exact hq
end
def Aq (P:xe) (H:Hint) (q:Op) (o:yZ):Prop:=
 (∃k,q=bi P H k o)\/(∃c f rs,o.op= .call c/\c.callee= .value f/\q= .jA rs (aT H f) (gY H c.args.toList))\/
  ∃t x y sz rs,o.op= .store t x y/\cU P t=some sz/\q= .jT rs sz (aT H x) (aT H y)
def nE:Op->Op
 | .jA _ f xs=> .jA [] f xs
 | .jT _ s x v=> .st s x v
 | o=>o
section
variable {O:bw} {H:Hint} {m:Mp} {S:Nat->Prop} {w:yh} {tm:Env} {a:Act} {hp:Hp} {ct:Nat} {self:cN} {ro:Option Nat} {next:Act->yh->Prop} {Q:uL->Act->yh->Prop}
def O7 {o:yZ} {k:Nat} {md:Md} {x:X} {xs:List X} (h:bi O.P H k o= .call md x xs) (hb:x≠.c .undef):∃c f,o.op= .call c/\c.callee= .value f/\x=aT H f/\xs=gY H c.args.toList:=by
 have nb:bad= .call md x xs->False:=fun h=>by simp only [bad,Op.call.injEq] at h;exact hb h.2.1.symm
 cases ho:o.op with
 | call c=>
  obtain ⟨callee,args,ts⟩:=c;simp only [bi,ho] at h
  split at h
  ·rename_i f;cases hm:H.mode k<;>simp only [hm,Op.call.injEq,reduceCtorEq] at h
   all_goals exact ⟨_,f,rfl,rfl,h.2.1.symm,h.2.2.symm⟩
  ·repeat' split at h
   all_goals first
    | exact (nb h).elim
    | (cases h;done)
    | (revert h;generalize yu _ _=bb;intro h;cases bb<;>first | exact (nb h).elim | (cases h;done))
  ·exact (nb h).elim
 | binOp op t x' y ty=>
  cases op<;>simp only [bi,ho,sq,zP] at h
  case eql=>
        repeat' split at h
        all_goals first
         | exact (nb h).elim
         | (cases h;done)
         | (cases da:(O.P.stoodInHeld t||O.P.eqGuardType O.P.depth t)<;>rw [da] at h<;>first | exact (nb h).elim | (cases h;done))
  case neq=>
        repeat' split at h
        all_goals first
         | exact (nb h).elim
         | (cases h;done)
         | (cases da:(O.P.stoodInHeld t||O.P.eqGuardType O.P.depth t)<;>rw [da] at h<;>first | exact (nb h).elim | (cases h;done))
  all_goals cases h
 | buildSlice t n parts=>
  simp only [bi,ho] at h
  repeat' split at h
  all_goals first
   | exact (nb h).elim
   | (cases h;done)
   | (revert h;generalize yG _ _=bb;intro h;cases bb<;>first | exact (nb h).elim | (simp only [yB] at h;cases h;done))
 | makeMap t r=>
  cases r<;>simp only [bi,ho] at h
  ·repeat' split at h
   all_goals first
    | exact (nb h).elim
    | (cases h;done)
  ·exact (nb h).elim
 | next x' b=>
  cases b<;>simp only [bi,ho] at h
  ·exact (nb h).elim
  ·cases h
 | _=>
  simp only [bi,ho] at h
  (repeat' split at h)
  all_goals first
   | contradiction
   | exact (nb h).elim
   | (cases h;done)
def aq0 {o:yZ} {k:Nat} {r:AV×Hp×Nat} (hv:bn O.prog O.aE self tm hp ct (bi O.P H k o)=some r):∀c,o.op≠.defer c:=by
 intro c ho;simp [bi,ho,bad,bn,fe,aG] at hv
end
end
section
open Go
section
variable {O:bw} {H:Hint} {m:Mp} {S:Nat->Prop} {w:yh} {tm:Env} {a:Act} {hp aw Hq:Hp} {ct a6 cH:Nat} {self:cN} {ro:Option Nat} {next:Act->yh->Prop} {Q:uL->Act->yh->Prop}
def ar4 {g:Go.Obj} {p:Pl} {S':Nat->Prop} {base:Nat} (hh:aX O m S w Hq cH) (hi:m ct=none) (hb:p.b=w.heap.size) (h1:∀b,S b->S' b) (h2:∀b,S' b->S b\/b=w.heap.size):
  cC m S w Hq (fG m ct p) S' (w.alloc g) Hq base where
 os:=rfl
 tape:=rfl
 output:=rfl
 size:=by simp
 same b hb _:=alloc_old hb
 sub:=h1
 still b hb:=alloc_old (hh.slt b hb)
 new b hb:=(h2 b hb).imp (fun h=>h) (fun h=> .inr (by omega))
 own b hb:=by
  obtain ⟨i,o,q,g1,g2,g3⟩:=hb;by_cases hc:i=ct
  ·subst hc;rw [eP] at g2
   grind
  ·rw [eO hc] at g2;exact .inl ⟨i,o,q,g1,g2,g3⟩
 old i q _ h:=kW hi i q h
 loops b r hb:=⟨r,(alloc_old (xp.1 hb).1).trans hb⟩
def aef {PP av:List AV} {us:List yf} {bI:Hp} (hz:dc deep hp PP=some (av,bI)) (hl:dC bI Hq) (hh:aX O m S w Hq cH) (hr:aA O.aj m S w PP us):aA O.aj ff S w av us/\aO av=true:=by
 obtain ⟨_,_,h3⟩:=Uj (O:=O) hz;obtain ⟨k1,k2⟩:=h3 Hq m S w cH hl hh;exact ⟨zH (fun _ h=>h) (fun _ _=>rfl) _ _ k2 (k1 us hr),k2⟩
def Vv (hh:aX O m S w Hq cH):Cl O w:=⟨hh.lY,hh.fT⟩
def OG (hH:fM O H) (ht:cA O m S w tm a.tmps) {f:xu} {g:Nat} {first cap:List AV} {args:Array xu} (hf:aG tm (aT H f)= .fn (.f g) first cap):
  ∃fi ca:Array yf,a.eval f= .func (.func (O.aj g)) fi ca/\aA O.aj m S w (first++(dK tm (gY H args.toList)++cap)) (fi++args.map a.eval++ca).toList:=by
 have rf:=cL hH ht f;rw [hf] at rf;obtain ⟨fi,ca,h1,h2,h3⟩:=rf;refine ⟨fi,ca,h1,?_⟩
 have:=mr h2 (mr (D4 hH ht args.toList) h3)
 simp_all
def aq1 (hC:og O self) (hH:fM O H) {o:yZ} {c:yas} {f:xu} (ho:o.op= .call c) (iT:c.callee= .value f) {g:Nat} {first cap av:List AV} {bI:Hp} {r:AV}
  (hf:aG tm (aT H f)= .fn (.f g) first cap) (hz:dc deep hp (first++(dK tm (gY H c.args.toList)++cap))=some (av,bI)) (hr:bZ O.prog O.aE self g av=some r)
  (hl:dC bI Hq) (ht:cA O m S w tm a.tmps) (hh:aX O m S w Hq cH)
  (hn:∀u S' w',aX O m S' w' Hq cH->an O.aj m S' w' (shut r) u->cC m S w Hq m S' w' Hq cH->next (a.put o.dst u) w'):o.wpIn (WF ro) 0 O.P a w next Q:=by
 obtain ⟨fi,ca,h1,h2⟩:=OG hH ht (args:=c.args) hf;obtain ⟨h3,h4⟩:=aef hz hl hh h2;refine Oe ho iT h1 (hC.pure g av r hr w S _ (Vv hh) hh.slt h3 h4) ?_;rintro e w' ⟨u,S',rfl,hw,g1,g2,g3,g4⟩;refine ⟨u,rfl,?_⟩;obtain ⟨S2,k1,k2,k3⟩:=afk g4 m;have hS:∀b,S b->S2 b:=fun b hb=>k1 b (g1 b hb)
 have Ni:∀b,S2 b->S b\/w.heap.size<=b:=fun b hb=>(k2 b hb).elim (g2 b) (fun h=> .inr h.1)
 have hl:∀b,S2 b->b<w'.heap.size:=fun b hb=>(k2 b hb).elim (g3 b) (fun h=>h.2)
 exact hn u S2 w' (F5 hh hw hS Ni hl) k3 (DP hh hw hS Ni)
def ar5 (hC:og O self) (hH:fM O H) {o:yZ} {c:yas} {f:xu} (ho:o.op= .call c) (iT:c.callee= .value f) {g:Nat} {first cap av:List AV} {bI:Hp} {r:AV}
  (hf:aG tm (aT H f)= .fn (.f g) first cap) (hz:dc deep hp (first++(dK tm (gY H c.args.toList)++cap))=some (av,bI)) (hr:bZ O.prog O.aE self g av=some r)
  (hl:dC (own bI ct r).2.1 Hq) (eh:(own bI ct r).2.2<=cH) (aZ:∀id o,aF hp id=some o->id<ct) (De:∀id,ct<=id->id<(own bI ct r).2.2->m id=none)
  (ht:cA O m S w tm a.tmps) (hh:aX O m S w Hq cH)
  (hn:∀u m' S' w',aX O m' S' w' Hq cH->dN m m'->(∀id p,m' id=some p->m id=some p\/(ct<=id/\id<(own bI ct r).2.2))->an O.aj m' S' w' (own bI ct r).1 u->cC m S w Hq m' S' w' Hq cH->next (a.put o.dst u) w'):
  o.wpIn (WF ro) 0 O.P a w next Q:=by
 obtain ⟨fi,ca,h1,h2⟩:=OG hH ht (args:=c.args) hf;obtain ⟨z1,z2,z3⟩:=Uj (O:=O) hz;have WT:∀id o,aF bI id=some o->id<ct:=fun id o h=>by
  have:=z2 id
  rw [h] at this
  cases hq:aF hp id with
  | none=>rw [hq] at this;cases this
  | some q=>exact aZ id q hq
 have ax4:∀id o,aF bI id=some o->aF (own bI ct r).2.1 id=some o:=fun id o h=>by
  cases r with
  | af vs=>exact O6 WT id o h
  | _=>exact Vu WT id o h
 have nR:dC bI Hq:=fun id o h=>hl id o (ax4 id o h)
 obtain ⟨h3,h4⟩:=aef hz nR hh h2;refine Oe ho iT h1 (hC.pure g av r hr w S _ (Vv hh) hh.slt h3 h4) ?_;rintro e w' ⟨u,S',rfl,hw,g1,g2,g3,g4⟩;refine ⟨u,rfl,?_⟩;have Df:=F5 hh hw g1 g2 g3;have Da:=DP (base:=cH) hh hw g1 g2;obtain ⟨m',S2,k1,k2,k3,k4,k5,k6⟩:=ax3 (lo:=w.heap.size) Df hl eh WT De g4 hh.fT (fun j q hq=>hh.blt j q hq);refine hn u m' S2 w' k1 k2 (fun id p h=>(k3 id p h).imp (fun h=>h) (fun h=>⟨h.1,h.2.1⟩)) k4 ⟨hw.os,hw.tape,hw.output,hw.size,fun b hb _=>hw.same b hb,fun b hb=>k5 b (g1 b hb),fun b hb=>hw.same b (hh.slt b hb),?_,?_,fun i q _ h=>k2 i q h,Da.loops⟩
 ·grind
 ·rintro b ⟨i,ob,q,q1,q2,q3⟩;rcases k3 i q q2 with h | h
  ·exact .inl ⟨i,ob,q,q1,h,q3⟩
  ·grind
def quiet_step (hC:og O self) (hH:fM O H) {o:yZ} {q:Op} {v:AV} (hk:bK q<=1) (hq:Aq O.P H q o) (hd:∀c,o.op≠.defer c) (hv:bn O.prog O.aE self tm hp ct q=some (v,aw,a6)) (hl:dC aw Hq) (eh:a6<=cH)
  (aZ:∀id o,aF hp id=some o->id<ct) (De:∀id,ct<=id->id<a6->m id=none) (ht:cA O m S w tm a.tmps) (hh:aX O m S w Hq cH)
  (hn:∀u m' S' w',aX O m' S' w' Hq cH->dN m m'->(∀id p,m' id=some p->m id=some p\/(ct<=id/\id<a6))->an O.aj m' S' w' v u->cC m S w Hq m' S' w' Hq cH->next (a.put o.dst u) w'):
  o.wpIn (WF ro) 0 O.P a w next Q:=by
 have gn:∃k,q=bi O.P H k o:=by
  rcases hq with h | ⟨c,f,rs,_,_,rfl⟩ | ⟨_,_,_,_,_,_,_,rfl⟩
  ·grind
  ·simp [bK] at hk
  ·simp [bK] at hk
 obtain ⟨k,hq⟩:=gn;have read:∀{v:AV},bH tm hp q=some v->dC hp Hq->(∀u m' S' w',aX O m' S' w' Hq cH->dN m m'->(∀id p,m' id=some p->m id=some p\/(ct<=id/\id<a6))->an O.aj m' S' w' v u->cC m S w Hq m' S' w' Hq cH->next (a.put o.dst u) w')->o.wpIn (WF ro) 0 O.P a w next Q:=by
  intro v hr hl hn;have cM:=arY hl hr;rw [hq] at cM;obtain ⟨u,h1,h2⟩:=agX hH ht hh cM;exact Pt hd h1 (.inl rfl) (hn u m S w hh dN.refl (fun _ _ h=> .inl h) h2 cC.refl)
 have makes:∀{v:AV} {b:Obj},de tm hp ct q=some (v,b)->dC ((ct,b)::hp) Hq->ct+1<=cH->m ct=none->(∀u m' S' w',aX O m' S' w' Hq cH->dN m m'->(∀id p,m' id=some p->m id=some p\/(ct<=id/\id<ct+1))->an O.aj m' S' w' v u->cC m S w Hq m' S' w' Hq cH->next (a.put o.dst u) w')->o.wpIn (WF ro) 0 O.P a w next Q:=by
  intro v b hr hl hc hi hn;rw [hq] at hr;have cM:de tm Hq ct (bi O.P H k o)=some (v,b):=by rw [<-hr];exact JW (fun _ _=>rfl)
  obtain ⟨u,g,p,h1,h2,h3,h4⟩:=avR hH ht hh cM;obtain ⟨S',k1,k2,k3⟩:=af0 (i:=ct) (g:=g) (p:=p) hh hi hc h2 (fun o' nQ=>by
   obtain ⟨o'',g1,g2⟩:=hl ct b (by rw [ic];simp)
   rw [nQ] at g1;injection g1 with g1
   subst g1
   have:=aec g2 eP (h4 _ (kW hi) eP).1 h3
   rwa [h2] at this)
  refine Pt hd h1 (.inl rfl) (hn u _ S' _ k1 (kW hi) (fun id q hq=>?_) (mv (fun _ _ h=>h) k2 (fun _ _=>rfl) _ _ (h4 _ (kW hi) eP).2) (ar4 hh hi h2 k2 k3));by_cases hc:id=ct
  ·grind
  ·rw [eO hc] at hq;exact .inl hq
 have cV:∀{q:Op},(match de tm hp ct q with | some (v,b)=>some (v,(ct,b)::hp,ct+1) | none=>(none:gP))=some (v,aw,a6)->∃b,de tm hp ct q=some (v,b)/\aw=(ct,b)::hp/\a6=ct+1:=by
  intro q h
  cases hm:de tm hp ct q with
  | none=>simp [hm] at h
  | some r=>
   grind
 have mV:∀{q:Op},(match bH tm hp q with | some v=>some (v,hp,ct) | none=>(none:gP))=some (v,aw,a6)->bH tm hp q=some v/\aw=hp/\a6=ct:=by
  intro q h
  cases hm:bH tm hp q with
  | none=>simp [hm] at h
  | some r=>
   grind
 have KP:(∃b,de tm hp ct q=some (v,b)/\aw=(ct,b)::hp/\a6=ct+1)->o.wpIn (WF ro) 0 O.P a w next Q:=by
  grind
 have ax5:(bH tm hp q=some v/\aw=hp/\a6=ct)->o.wpIn (WF ro) 0 O.P a w next Q:=by
  grind
 cases q with
 | st _ _ _=>simp [bK] at hk
 | qw _ _ _ _=>simp [bK] at hk
 | qC _=>simp [bK] at hk
 | a7 _ _ _ _=>simp [bK] at hk
 | qD _ _ _=>simp [bK] at hk
 | jA _ _ _=>simp [bK] at hk
 | jT _ _ _ _=>simp [bK] at hk
 | box s x=>exact KP (cV (by simp only [bn] at hv;exact hv))
 | cQ n s z ps=>exact KP (cV (by simp only [bn] at hv;exact hv))
 | iA s b z x y=>exact KP (cV (by simp only [bn] at hv;exact hv))
 | AY=>exact KP (cV (by simp only [bn] at hv;exact hv))
 | qB x=>exact KP (cV (by simp only [bn] at hv;exact hv))
 | call md x xs=>
  cases md with
  | heap=>simp [bK] at hk
  | dyn=>simp [bK] at hk
  | pure=>
   simp only [bn,fe] at hv
   split at hv
   ·rename_i g first cap hx
    (try simp only at hv)
    cases hz:dc deep hp (first++(dK tm xs++cap)) with
    | none=>simp [hz] at hv
    | some z=>
     obtain ⟨av,bI⟩:=z;simp only [hz] at hv
     cases hr:bZ O.prog O.aE self g av with
     | none=>simp [hr] at hv
     | some r=>
      simp only [hr,yc,yq] at hv;obtain ⟨rfl,rfl,rfl⟩:=hv;obtain ⟨c,f,ho,iT,rfl,rfl⟩:=O7 hq.symm (by rintro rfl;simp [aG] at hx);exact aq1 hC hH ho iT hx hz hr hl ht hh (fun u S' w' h1 h2 h3=>hn u m S' w' h1 dN.refl (fun _ _ h=> .inl h) h2 h3)
   ·simp at hv
   ·cases hv
  | own=>
   simp only [bn,fe] at hv
   split at hv
   ·rename_i g first cap hx
    (try simp only at hv)
    cases hz:dc deep hp (first++(dK tm xs++cap)) with
    | none=>simp [hz] at hv
    | some z=>
     obtain ⟨av,bI⟩:=z;simp only [hz] at hv
     cases hr:bZ O.prog O.aE self g av with
     | none=>simp [hr] at hv
     | some r=>
      simp only [hr,yc] at hv;obtain ⟨c,f,ho,iT,rfl,rfl⟩:=O7 hq.symm (by rintro rfl;simp [aG] at hx);have e1:v=(own bI ct r).1:=by rw [hv]
      have e2:aw=(own bI ct r).2.1:=by rw [hv]
      have e3:a6=(own bI ct r).2.2:=by rw [hv]
      subst e1;subst e2;subst e3;exact ar5 hC hH ho iT hx hz hr hl eh aZ De ht hh hn
   ·simp at hv
   ·cases hv
 | _=>exact ax5 (mV (by simp only [bn] at hv;exact hv))
end
end
end VE
