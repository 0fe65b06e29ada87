import Derived.Test.YtkhmakhdoedjiaaGreatDoorTag
set_option linter.all false
set_option maxRecDepth 100000
section
namespace VE
open Go
theorem zeD {hp:Hp} {id i:Nat}:zq (hdel hp id) i=if id=i then none else zq hp i:=by
 induction hp with
 | nil=>simp [hdel,zq]
 | cons x r ih=>
  obtain ⟨j,q⟩:=x;simp only [hdel];by_cases hj:j=id
  ·subst hj;simp only [Nat.beq_refl,cond_true,ih,zq];by_cases hi:j=i
   ·subst hi;simp
   ·have:Nat.beq j i=false:=by
     cases hq:Nat.beq j i with
     | false=>rfl
     | true=>exact absurd (Nat.eq_of_beq_eq_true hq) hi
    simp [this,hi]
  ·have hb:Nat.beq j id=false:=by
    cases hq:Nat.beq j id with
    | false=>rfl
    | true=>exact absurd (Nat.eq_of_beq_eq_true hq) hj
   simp only [hb,cond_false];rw [show zq ((j,q)::hdel r id) i=bif Nat.beq j i then some q else zq (hdel r id) i from rfl,ih];by_cases hi:j=i
   ·subst hi
    have:¬id=j:=fun h=>hj h.symm
    simp [Nat.beq_refl,this,zq]
   ·have hbi:Nat.beq j i=false:=by
     cases hq:Nat.beq j i with
     | false=>rfl
     | true=>exact absurd (Nat.eq_of_beq_eq_true hq) hi
    simp [hbi,zq]
section
variable {Λ:Link} {H:zbH} {m:Mp} {S:Nat→Prop} {w:World} {tm:Env} {a:Act} {hp:Hp} {ct:Nat}
def Src (P:Program) (w:World) (size n:Nat) (news:List Value) (x:Value):Prop:=
 (∀w',(Builtin.lenOf x).run P w'= .ok n w')∧news.length=n*size∧
 ∀w',w'.heap=w.heap→∀k,k≤n→(Builtin.firstCells size k x).run P w'= .ok (news.take (k*size)).toArray w'
theorem zeE {P:Program} {size n c:Nat} {b:Addr} {news:List Value} (hl:news.length=n*size) (hc:∀j u,news[j]? =some u→w.cell? (b.add j)=some u):
  Src P w size n news (.slice (some b) n c):=by
 refine ⟨fun w'=>by simp [Builtin.lenOf],hl,fun w' hw k hk=>?_⟩;have hle:k*size≤news.length:=by rw [hl];exact Nat.mul_le_mul_right _ hk
 refine run_firstCells_some (P:=P) w' size k b n c (news.take (k*size)) (by rw [List.length_take];omega) (fun j v hv=>?_);rw [List.getElem?_take] at hv
 split at hv
 ·have:=hc j v hv
  simpa [World.cell?,hw] using this
 ·cases hv
theorem zsx {P:Program} {size:Nat}:Src P w size 0 [] (.slice none 0 0):=
 ⟨fun w'=>by simp [Builtin.lenOf],by simp,fun w' _ k hk=>by simp [Builtin.firstCells]⟩
theorem zpU (s:ByteArray) (k:Nat):(s.extract 0 k).data.map (fun b=>Value.int .u8 b.toNat)=((s.data.toList.map fun b=>Value.int .u8 (b.toNat:Int)).take k).toArray:=by
 have:(s.extract 0 k).data=s.data.extract 0 k:=by simp
 rw [this];apply Array.ext';simp []
theorem zC8 {P:Program} {s:ByteArray}:Src P w 1 s.size (s.data.toList.map fun b=>Value.int .u8 (b.toNat:Int)) (.string s):=by
 refine ⟨fun w'=>by simp [Builtin.lenOf],by simp,fun w' _ k hk=>?_⟩;simp only [Builtin.firstCells,Sem.run_pure,Nat.mul_one];rw [zpU]
theorem ziu {fid:Nat→Nat}:∀l:List UInt8,zi fid m S w (zg8 (l.map UInt8.toNat)) (l.map fun b=>Value.int .u8 (b.toNat:Int))
 | []=>by simp [zg8,zi]
 | b::r=>by
  simp only [List.map_cons,zg8,zi];exact ⟨_,_,rfl,by simp [zm],ziu r⟩
theorem zkD {size n:Nat} {vx:AV} {x:Value} {cs:List AV} (hh:zR Λ m S w hp ct) (hx:zm Λ.fid m S w vx x) (h:zcC hp size vx=some (n,cs)):
  ∃us,zi Λ.fid m S w cs us∧Src Λ.P w size n us x:=by
 cases vx<;>simp only [zcC,reduceCtorEq] at h
 case nils=>
  simp only [Option.some.injEq,Prod.mk.injEq] at h;obtain ⟨rfl,rfl⟩:=h;simp only [zm] at hx;subst hx;exact ⟨[],by simp [zi],zsx⟩
 case vsl ex n' cs'=>
  cases hc:Nat.beq cs'.length (n'*size) with
  | false=>rw [hc] at h;cases h
  | true=>
   rw [hc] at h;simp only [cond_true,Option.some.injEq,Prod.mk.injEq] at h;obtain ⟨rfl,rfl⟩:=h;have hl:=Nat.eq_of_beq_eq_true hc;simp only [zm] at hx;rcases hx with ⟨b,o,c,rfl,h1,h2,h3,h4,h5⟩ | ⟨ad,rfl,rfl,rfl⟩
   ·obtain ⟨us,g1,g2,g3⟩:=zbu _ b o h5;exact ⟨us,g1,zeE (by omega) (fun j u hj=>by rw [zdt];exact g3 j u hj)⟩
   ·exact ⟨[],by simp [zi],zeE (by simp) (fun j u hj=>by simp at hj)⟩
 case osl id o n'=>
  cases hg:zq hp id with
  | none=>simp [hg] at h
  | some ob=>
   cases ob<;>simp only [hg,reduceCtorEq] at h
   rename_i rw pu ex z cs'
   cases hc:Nat.ble (o+n'*size) cs'.length with
   | false=>rw [hc] at h;cases h
   | true=>
    rw [hc] at h;simp only [cond_true,Option.some.injEq,Prod.mk.injEq] at h;obtain ⟨rfl,rfl⟩:=h;have hl:=Nat.le_of_ble_eq_true hc;simp only [zm] at hx;obtain ⟨p,c,hm,rfl,h1,h2⟩:=hx;have hr:=zk0 (o:=0) (n:=0) hh hg hm;have hr2:=zcg (n'*size) _ _ _ (zbh o _ _ _ hr);obtain ⟨us,g1,g2,g3⟩:=zbu _ p.b (p.o+o) hr2;refine ⟨us,g1,zeE ?_ (fun j u hj=>by rw [zdt];exact g3 j u hj)⟩
    rw [g2,List.length_take,List.length_drop];omega
theorem zu2 {size n:Nat} {vx:AV} {x:Value} {cs:List AV} (hh:zR Λ m S w hp ct) (hx:zm Λ.fid m S w vx x) (h:zeU hp size vx=some (n,cs)):
  ∃us,zi Λ.fid m S w cs us∧Src Λ.P w size n us x:=by
 cases vx<;>try exact zkD hh hx h
 rename_i b;simp only [zeU] at h
 cases hc:Nat.beq size 1 with
 | false=>rw [hc] at h;cases h
 | true=>
  rw [hc] at h;simp only [cond_true,Option.some.injEq,Prod.mk.injEq] at h;obtain ⟨rfl,rfl⟩:=h
  have:=Nat.eq_of_beq_eq_true hc
  subst this;simp only [zm] at hx;obtain ⟨t,rfl,rfl⟩:=hx;refine ⟨_,ziu _,?_⟩
  have:(List.map UInt8.toNat t.data.toList).length=t.size:=by simp
  rw [this];exact zC8
theorem zmM {P:Program} {t u ty e:TypeId} {i:TypeInfo} (ht:P.underlying t=some (.slice e)) (hu:(∃e',P.underlying u=some (.slice e'))∨P.underlying u=some .string) (hi:P.info? e=some i)
  {g o sLen sCap:Nat} {cur:Array Value} {te:TypeId} (hg:w.heap[g]? =some (.cells cur te (0,0))) {x:Value} {n:Nat} {news:List Value} (hs:Src P w i.size n news x) (h1:∀u∈news,u.oneCell'=true)
  (hroom:sLen+n≤sCap) (hfit:o+sLen*i.size+news.length≤cur.size):
  (Builtin.append_ #[t,u] ty #[.slice (some ⟨g,o,none⟩) sLen sCap,x]).run P w=
   .ok (.slice (some ⟨g,o,none⟩) (sLen+n) sCap) (w.setRow g (cur.toList.take (o+sLen*i.size)++news++cur.toList.drop (o+sLen*i.size+news.length)).toArray):=by
 obtain ⟨hs1,hs2,hs3⟩:=hs;have hf:=hs3 w rfl n (Nat.le_refl _);rw [List.take_of_length_le (by omega)] at hf;have hst:=run_storeCells_at P g (o+sLen*i.size) te news 0 cur w hg (by omega) h1;simp only [Nat.add_zero] at hst;rcases hu with ⟨e',hd⟩ | hd<;>
  simp [Builtin.append_,run_underlying ht,run_underlying hd,Go.sizeOf,typeInfo,hi,hs1,hroom,hf,zdt,hst]
theorem ze2 {P:Program} {t u ty e:TypeId} {i:TypeInfo} {z:Value} (ht:P.underlying t=some (.slice e)) (hu:(∃e',P.underlying u=some (.slice e'))∨P.underlying u=some .string) (hi:P.info? e=some i) (hz:i.zero=some z)
  {s:Value} {base:Option Addr} {sLen sCap:Nat} (es:s= .slice base sLen sCap) {olds:List Value} (ho:Src P w i.size sLen olds s) {x:Value} {n:Nat} {news:List Value} (hs:Src P w i.size n news x)
  (hg:sCap<sLen+n) (h63:sLen+n≤1099511627776) (hby:(sLen+n)*i.bytes≤1099511627776):
  (Builtin.append_ #[t,u] ty #[s,x]).run P w=
   .ok (.slice (some ⟨w.heap.size,0,none⟩) (sLen+n) (grownCap w (sLen+n) sCap e))
    (w.drew.alloc (.cells ((olds++news).toArray++Builtin.zeroCells z.cells (grownCap w (sLen+n) sCap e-(sLen+n))) e)):=by
 obtain ⟨hs1,hs2,hs3⟩:=hs;obtain ⟨ho1,ho2,ho3⟩:=ho;have hf:=hs3 w.drew rfl n (Nat.le_refl _);rw [List.take_of_length_le (by omega)] at hf;have hfo:=ho3 w.drew rfl sLen (Nat.le_refl _);rw [List.take_of_length_le (by omega)] at hfo;have hn:¬(sLen+n≤sCap):=by omega
 have h63':¬(9223372036854775807<((sLen:Int)+(n:Int))):=by omega
 have hfit:=growslice_fits (need:=sLen+n) (old:=sCap) (bytes:=i.bytes) hg (by omega);have h48':¬(281474976710656<Builtin.nextslicecap (sLen+n) sCap*i.bytes):=by omega
 subst es;rcases hu with ⟨e',hd⟩ | hd
 all_goals
  simp [Builtin.append_,run_underlying ht,run_underlying hd,Go.sizeOf,typeInfo,zeroValue,hi,hz,hs1,hn,h63',h48',Question.forced,hf,hfo,newRow,askRoom,grownCap]
  congr 2
  apply Array.ext';simp [List.append_assoc]
theorem zib {e:TypeId} {z:Value} {sz need cap:Nat} {cs:List AV} {us:List Value} (hh:zR Λ m S w hp ct) (hr:zi Λ.fid m S w cs us) (hl:us.length=need*sz) (hz:z.cells.size=sz)
  (hpure:Bool) (hpp:hpure=true→zn cs=true) (hc:need≤cap):
  let w':=w.drew.alloc (.cells (us.toArray++Builtin.zeroCells z.cells (cap-need)) e)
  let p:Pl:=⟨w.heap.size,0,cap*sz,sz⟩
  ∀m',MLe m m'→m' ct=some p→zcB Λ m' S w' ct (.cells true hpure false sz cs):=by
 intro w' p m' hm hi;have hst:zaP S w w':=fun b hb=>by
  have:=hh.slt b hb
  exact RowKit.Below.heap_alloc w.drew _ b (by simpa using this)
 have hnew:w'.heap[w.heap.size]? =some (.cells (us.toArray++Builtin.zeroCells z.cells (cap-need)) e (0,0)):=heap_alloc_new w.drew _;have hcl:=zax _ _ hr;refine ⟨p,_,e,hi,hnew,rfl,?_,?_,by simp,?_,hpp,?_,by simp⟩
 ·show cs.length≤cap*sz
  rw [←hcl,hl];exact Nat.mul_le_mul_right _ hc
 ·show 0+cap*sz≤_
  rw [Array.size_append,List.size_toArray,size_zeroCells,hz,hl,←Nat.add_mul];rw [Nat.zero_add];exact Nat.mul_le_mul_right _ (by omega)
 ·refine zhV hnew cs us 0 (zah hm (fun _ h=>h) hst _ _ hr) (fun j u hj=>?_);rw [Nat.zero_add,Array.getElem?_append_left (by rw [List.size_toArray];exact (List.getElem?_eq_some_iff.1 hj).1),List.getElem?_toArray]
  exact hj
 ·intro _ hS
  have:=hh.slt _ hS
  simp [p] at this
theorem ziU (hh:zR Λ m S w hp ct) (g:Go.Obj):zaP S w (w.drew.alloc g):=fun b hb=>by
 have:=hh.slt b hb
 exact RowKit.Below.heap_alloc w.drew _ b (by simpa using this)
theorem zij (hh:zR Λ m S w hp ct) {hp0:Hp} {g:Go.Obj} {p:Pl} {o:Obj} (hsub:∀i q,zq hp0 i=some q→zq hp i=some q) (hb:p.b=w.heap.size)
  (ho:∀m',MLe m m'→m' ct=some p→zcB Λ m' S (w.drew.alloc g) ct o):
  zR Λ (zcw m ct p) S (w.drew.alloc g) ((ct,o)::hp0) (ct+1)∧Fwd m S w hp (zcw m ct p) S (w.drew.alloc g) ((ct,o)::hp0) ct:=by
 have hn:m ct=none:=by
  cases h:m ct with
  | none=>rfl
  | some q=>have:=hh.lt _ _ h;omega
 have hle:=zbf hn (p:=p);have hst:=ziU hh g;have hold:∀b,b<w.heap.size→(w.drew.alloc g).heap[b]? =w.heap[b]? :=fun b hb=>RowKit.Below.heap_alloc w.drew _ b (by simpa using hb)
 have hsz:(w.drew.alloc g).heap.size=w.heap.size+1:=by simp
 have hin:∀i q,zq ((ct,o)::hp0) i=some q→i≠ct→zq hp i=some q:=fun i q h hi=>by
  rw [zag,if_neg (fun e=>hi e.symm)] at h;exact hsub i q h
 refine ⟨⟨?_,?_,?_,?_,?_,?_,?_,?_,fun i q hq=>(by
  by_cases hc:i=ct
  ·omega
  ·have:=hh.hlt _ _ (hin i q hq hc);omega)⟩,⟨rfl,rfl,rfl,by omega,?_,fun _ h=>h,fun b hb=>hst b hb,fun b hb=> .inl hb,?_,fun i q _ h=>hle i q h,fun b r hb=>⟨r,(hold b (Array.getElem?_eq_some_iff.1 hb).1).trans hb⟩⟩⟩
 ·intro i q pi hi hmi;by_cases hc:i=ct
  ·subst hc;rw [zag] at hi;simp only [if_true,Option.some.injEq] at hi;subst hi;exact ho _ hle zQ
  ·rw [zJ hc] at hmi;exact zbE hle (fun _ h=>h) hst (fun q' hq'=>hold _ (hh.blt i q' hq')) (fun _ _ h=>h) (hh.obj i q pi (hin i q hi hc) hmi)
 ·intro i q hmi;by_cases hc:i=ct
  ·omega
  ·rw [zJ hc] at hmi;have:=hh.lt i q hmi;omega
 ·intro i j oi oj pi pj hi hj hmi hmj e;by_cases ci:i=ct
  ·by_cases cj:j=ct
   ·rw [ci,cj]
   ·subst ci;rw [zQ] at hmi;rw [zJ cj] at hmj;injection hmi with hmi
    subst hmi
    have:=hh.blt j pj hmj
    omega
  ·rw [zJ ci] at hmi;by_cases cj:j=ct
   ·subst cj;rw [zQ] at hmj;injection hmj with hmj
    subst hmj
    have:=hh.blt i pi hmi
    omega
   ·rw [zJ cj] at hmj;exact hh.inj i j oi oj pi pj (hin i oi hi ci) (hin j oj hj cj) hmi hmj e
 ·intro b hb;have:=hh.slt b hb;omega
 ·intro i q hmi;by_cases hc:i=ct
  ·subst hc;rw [zQ] at hmi;injection hmi with hmi
   subst hmi;omega
  ·rw [zJ hc] at hmi;have:=hh.blt i q hmi;omega
 ·intro i q hmi;have h0:=hh.goodS;by_cases hc:i=ct
  ·subst hc;rw [zQ] at hmi;injection hmi with hmi
   subst hmi;omega
  ·rw [zJ hc] at hmi;exact hh.low i q hmi
 ·intro b hb;have h0:=hh.goodS;exact (hold b (by omega)).trans (hh.good b hb)
 ·have h0:=hh.goodS;omega
 ·intro b hb _;exact hold b hb
 ·rintro b ⟨i,q,pi,h1,h2,h3⟩;by_cases hc:i=ct
  ·subst hc;rw [zQ] at h2;injection h2 with h2
   subst h2;exact .inr (by omega)
  ·rw [zJ hc] at h2;exact .inl ⟨i,q,pi,hin i q h1 hc,h2,h3⟩
theorem zuD (hh:zR Λ m S w hp ct) {id:Nat} {o o':Obj} {p p':Pl} {w':World} (hg:zq hp id=some o) (hm:m id=some p) (hn:¬S p.b) (hw:One w w' p.b) (hk:∀r:Loop,w.heap[p.b]? =some (.loop r)→∃r':Loop,w'.heap[p.b]? =some (.loop r')) (hb:p'.b=p.b)
  (ho:∀m',MLe m m'→m' ct=some p'→zcB Λ m' S w' ct o'):
  zR Λ (zcw m ct p') S w' ((ct,o')::hdel hp id) (ct+1)∧Fwd m S w hp (zcw m ct p') S w' ((ct,o')::hdel hp id) ct:=by
 have hn':m ct=none:=by
  cases h:m ct with
  | none=>rfl
  | some q=>have:=hh.lt _ _ h;omega
 have hle:=zbf hn' (p:=p');have hst:zaP S w w':=fun b hb=>hw.other b (fun e=>hn (e▸hb))
 have hin:∀i q,zq ((ct,o')::hdel hp id) i=some q→i≠ct→zq hp i=some q∧i≠id:=fun i q h hi=>by
  rw [zag,if_neg (fun e=>hi e.symm),zeD] at h;by_cases hc:id=i
  ·simp [hc] at h
  ·simp only [hc,if_false] at h;exact ⟨h,fun e=>hc e.symm⟩
 have hoth:∀i q pi,zq hp i=some q→i≠id→m i=some pi→pi.b≠p.b:=fun i q pi h hi hmi e=>hi (hh.inj i id q o pi p h hg hmi hm e)
 refine ⟨⟨?_,?_,?_,?_,?_,?_,?_,?_,fun i q hq=>(by
  by_cases hc:i=ct
  ·omega
  ·have:=hh.hlt _ _ (hin i q hq hc).1;omega)⟩,⟨hw.os,hw.tape,hw.output,by rw [hw.size];exact Nat.le_refl _,?_,fun _ h=>h,fun b hb=>hst b hb,fun b hb=> .inl hb,?_,fun i q _ h=>hle i q h,fun b r hb=>(by
  by_cases hc:b=p.b
  ·subst hc;exact hk r hb
  ·exact ⟨r,(hw.other b hc).trans hb⟩)⟩⟩
 ·intro i q pi hi hmi;by_cases hc:i=ct
  ·subst hc;rw [zag] at hi;simp only [if_true,Option.some.injEq] at hi;subst hi;exact ho _ hle zQ
  ·rw [zJ hc] at hmi;obtain ⟨h1,h2⟩:=hin i q hi hc;exact zbE hle (fun _ h=>h) hst (fun q' hq'=>hw.other _ (hoth i q q' h1 h2 hq')) (fun _ _ h=>h) (hh.obj i q pi h1 hmi)
 ·intro i q hmi;by_cases hc:i=ct
  ·omega
  ·rw [zJ hc] at hmi;have:=hh.lt i q hmi;omega
 ·intro i j oi oj pi pj hi hj hmi hmj e;by_cases ci:i=ct
  ·by_cases cj:j=ct
   ·rw [ci,cj]
   ·subst ci;rw [zQ] at hmi;rw [zJ cj] at hmj;injection hmi with hmi
    subst hmi;obtain ⟨h1,h2⟩:=hin j oj hj cj;exact (hoth j oj pj h1 h2 hmj (by rw [←e,hb])).elim
  ·rw [zJ ci] at hmi;obtain ⟨h1,h2⟩:=hin i oi hi ci;by_cases cj:j=ct
   ·subst cj;rw [zQ] at hmj;injection hmj with hmj
    subst hmj;exact (hoth i oi pi h1 h2 hmi (by rw [e,hb])).elim
   ·rw [zJ cj] at hmj;exact hh.inj i j oi oj pi pj h1 (hin j oj hj cj).1 hmi hmj e
 ·intro b hb;rw [hw.size];exact hh.slt b hb
 ·intro i q hmi;rw [hw.size];by_cases hc:i=ct
  ·subst hc;rw [zQ] at hmi;injection hmi with hmi
   subst hmi;rw [hb];exact hh.blt id p hm
  ·rw [zJ hc] at hmi;exact hh.blt i q hmi
 ·intro i q hmi;by_cases hc:i=ct
  ·subst hc;rw [zQ] at hmi;injection hmi with hmi
   subst hmi;rw [hb];exact hh.low id p hm
  ·rw [zJ hc] at hmi;exact hh.low i q hmi
 ·intro b hb
  rw [hw.other b (fun e=>by have:=hh.low id p hm;omega)];exact hh.good b hb
 ·rw [hw.size];exact hh.goodS
 ·intro b _ hb';exact hw.other b (fun e=>hb' (e▸zks hg hm))
 ·rintro b ⟨i,q,pi,h1,h2,h3⟩;by_cases hc:i=ct
  ·subst hc;rw [zQ] at h2;injection h2 with h2
   subst h2;exact .inl ⟨id,o,p,hg,hm,by rw [←h3,hb]⟩
  ·rw [zJ hc] at h2;exact .inl ⟨i,q,pi,(hin i q h1 hc).1,h2,h3⟩
theorem zz0 {P:Program} {e:TypeId} {s by':Nat} {z:AV} (hs:szT P e=some s) (hb:byT P e=some by') (hz:zea P e=some z):
  ∃ti zv,P.info? e=some ti∧ti.size=s∧ti.bytes=by'∧ti.zero=some zv∧z=zaU zv:=by
 unfold szT at hs;unfold byT at hb;unfold zea at hz
 cases hi:P.info? e with
 | none=>simp [hi] at hs
 | some ti=>
  simp only [hi,Option.some.injEq] at hs hb hz
  cases hz':ti.zero with
  | none=>simp [hz'] at hz
  | some zv=>
   simp only [hz',Option.some.injEq] at hz;exact ⟨ti,zv,rfl,hs,hb,hz',hz.symm⟩
theorem zfB {o:Oper} {v:AV} {u:Value} {w':World} {m':Mp} {S':Nat→Prop} {hp':Hp} {ct':Nat} (h1:(execOp a.eval o).run Λ.P w= .ok (.value u) w') (h2:zR Λ m' S' w' hp' ct') (h3:zm Λ.fid m' S' w' v u)
  (h4:MLe m m') (h5:Fwd m S w hp m' S' w' hp' ct):zhf Λ m S w a hp ct o v hp' ct':=⟨_,u,w',m',S',h1,.inl rfl,h2,h3,h4,h5⟩
theorem zwY {o:Oper} {b':TypeId} {t u e:TypeId} {sz by':Nat} {z:AV} {x y:Operand} {v:AV} {hp':Hp} {ct':Nat} (hH:zaM Λ H) (ht:zaB Λ m S w tm a.tmps) (hh:zR Λ m S w hp ct)
  (hrun:(execOp a.eval o).run Λ.P w=((do pure (.value (←Builtin.append_ #[t,u] b' #[a.eval x,a.eval y])):Sem Next)).run Λ.P w)
  (htt:Λ.P.underlying t=some (.slice e)) (hu:(∃e',Λ.P.underlying u=some (.slice e'))∨Λ.P.underlying u=some .string) (hs:szT Λ.P e=some sz) (hb:byT Λ.P e=some by') (hz:zea Λ.P e=some z) (hzl:(cellsOf z).length=sz)
  (hv:zV tm hp ct (.app sz by' (opX H x) (opX H y))=some (v,hp',ct')):zhf Λ m S w a hp ct o v hp' ct':=by
 simp only [zV] at hv;obtain ⟨ti,zv,hti,rfl,rfl,hzv,rfl⟩:=zz0 hs hb hz;have hval:∀u' w',(Builtin.append_ #[t,u] b' #[a.eval x,a.eval y]).run Λ.P w= .ok u' w'→(execOp a.eval o).run Λ.P w= .ok (.value u') w':=fun u' w' h=>by
  rw [hrun,Sem.run_bind,h];rfl
 have hnone:m ct=none:=by
  cases h:m ct with
  | none=>rfl
  | some q=>have:=hh.lt _ _ h;omega
 have hzs:zv.cells.size=ti.size:=by
  have:=zax _ _ (zbF (fid:=Λ.fid) (m:=m) (S:=S) (w:=w) zv)
  rw [←hzl,←this];simp
 cases hsrc:zeU hp ti.size (zp tm (opX H y)) with
 | none=>simp [hsrc] at hv
 | some q=>
  obtain ⟨n,new⟩:=q;simp only [hsrc] at hv;obtain ⟨news,hn1,hn2⟩:=zu2 hh (zad hH ht y) hsrc;have hnl:=zax _ _ hn1;have rx:=zad hH ht x
  cases hx:zp tm (opX H x) with
  | nils=>
   rw [hx] at hv rx;simp only at hv;simp only [zm] at rx
   cases h0:Nat.beq n 0 with
   | true=>
    rw [h0] at hv;simp only [cond_true,Option.some.injEq,Prod.mk.injEq] at hv;obtain ⟨rfl,rfl,rfl⟩:=hv;have hn0:=Nat.eq_of_beq_eq_true h0;subst hn0;have hnews:news=[]:=List.eq_nil_of_length_eq_zero (by rw [hn2.2.1];simp)
    subst hnews;have hf:=hn2.2.2 w rfl 0 (Nat.le_refl _);have hl0:=hn2.1 w;refine ⟨.value (.slice none 0 0),.slice none 0 0,w,m,S,?_,.inl rfl,hh,by simp [zm],MLe.refl,Fwd.refl⟩;rw [hrun,rx];rcases hu with ⟨e',hu⟩ | hu<;>
     simp [Builtin.append_,run_underlying htt,run_underlying hu,Go.sizeOf,typeInfo,hti,hl0,hf]
   | false=>
    rw [h0] at hv;simp only [cond_false] at hv
    cases hc:(Nat.ble n zb1&&(Nat.ble (n*ti.bytes) zb1&&Nat.blt 0 ti.size)) with
    | false=>rw [hc] at hv;cases hv
    | true=>
     rw [hc] at hv;simp only [cond_true,Option.some.injEq,Prod.mk.injEq] at hv;obtain ⟨rfl,rfl,rfl⟩:=hv;simp only [Bool.and_eq_true] at hc;have c1:=Nat.le_of_ble_eq_true hc.1;have c2:=Nat.le_of_ble_eq_true hc.2.1;simp only [zb1] at c1 c2;have hn0:0<n:=by
      rcases Nat.eq_zero_or_pos n with h | h
      ·subst h;simp at h0
      ·exact h
     have hr:=ze2 (P:=Λ.P) (ty:=b') (w:=w) htt hu hti hzv (s:= .slice none 0 0) rfl (zsx (P:=Λ.P) (size:=ti.size)) hn2 (by omega) (by omega) (by simpa using c2);simp only [Nat.zero_add,List.nil_append] at hr;have hge:=grownCap_ge w n 0 e;have hnew:=zib (e:=e) (z:=zv) (cap:=grownCap w n 0 e) hh hn1 (need:=n) (sz:=ti.size) hn2.2.1 hzs (zn new) (fun h=>h) hge;obtain ⟨k1,k2⟩:=zij hh (hp0:=hp) (p:=⟨w.heap.size,0,grownCap w n 0 e*ti.size,ti.size⟩) (fun _ _ h=>h) rfl hnew;exact zfB (hval _ _ (by rw [rx];exact hr)) k1 (by simp only [zm];exact ⟨_,_,zQ,rfl,hge,by simp⟩) (zbf hnone) k2
  | vsl ex k cs=>
   rw [hx] at hv rx
   cases ex with
   | false=>simp at hv
   | true=>
    simp only at hv;have rx0:=rx;simp only [zm] at rx;have rx1:∃ad olds,a.eval x= .slice (some ad) k k∧zi Λ.fid m S w cs olds∧olds.length=cs.length∧(∀(j:Nat) (u:Value),olds[j]? =some u→w.cell? (ad.add j)=some u)∧zn cs=true:=by
     rcases rx with ⟨bb,oo,c,ex,h1,h2,h3,h4,h5⟩ | ⟨ad,ex,rfl,rfl⟩
     ·have hck:c=k:=h2 (by trivial);subst hck;obtain ⟨olds,g1,g2,g3⟩:=zbu cs bb oo h5;exact ⟨_,olds,ex,g1,g2,fun j u hj=>by rw [zdt];exact g3 j u hj,h4⟩
     ·exact ⟨ad,[],ex,by simp [zi],rfl,fun j u hj=>by simp at hj,rfl⟩
    obtain ⟨ad,olds,ex,g1,g2,g3,h4⟩:=rx1
    cases h0:Nat.beq n 0 with
    | true=>
     rw [h0] at hv;simp only [cond_true,Option.some.injEq,Prod.mk.injEq] at hv;obtain ⟨rfl,rfl,rfl⟩:=hv;have hn0:=Nat.eq_of_beq_eq_true h0;subst hn0;have hnews:news=[]:=List.eq_nil_of_length_eq_zero (by rw [hn2.2.1];simp)
     subst hnews;have hf:=hn2.2.2 w rfl 0 (Nat.le_refl _);have hl0:=hn2.1 w;refine ⟨.value (a.eval x),a.eval x,w,m,S,?_,.inl rfl,hh,rx0,MLe.refl,Fwd.refl⟩;rw [hrun,ex];rcases hu with ⟨e',hu⟩ | hu<;>
      simp [Builtin.append_,run_underlying htt,run_underlying hu,Go.sizeOf,typeInfo,hti,hl0,hf,storeCells]
    | false=>
     rw [h0] at hv;simp only [cond_false] at hv
     cases hc:(Nat.ble (k+n) zb1&&(Nat.ble ((k+n)*ti.bytes) zb1&&(Nat.beq cs.length (k*ti.size)&&Nat.blt 0 ti.size))) with
     | false=>rw [hc] at hv;cases hv
     | true=>
      rw [hc] at hv;simp only [cond_true,Option.some.injEq,Prod.mk.injEq] at hv;obtain ⟨rfl,rfl,rfl⟩:=hv;simp only [Bool.and_eq_true] at hc;have c1:=Nat.le_of_ble_eq_true hc.1;have c2:=Nat.le_of_ble_eq_true hc.2.1;have c3:=Nat.eq_of_beq_eq_true hc.2.2.1;simp only [zb1] at c1 c2;have hn0:0<n:=by
       rcases Nat.eq_zero_or_pos n with h | h
       ·subst h;simp at h0
       ·exact h
      have hso:Src Λ.P w ti.size k olds (.slice (some ad) k k):=zeE (by omega) g3;have hr:=ze2 (P:=Λ.P) (ty:=b') (w:=w) htt hu hti hzv rfl hso hn2 (by omega) c1 c2;have hge:=grownCap_ge w (k+n) k e;have hnew:=zib (e:=e) (z:=zv) (cap:=grownCap w (k+n) k e) hh (zar g1 hn1) (need:=k+n) (sz:=ti.size) (by rw [List.length_append,g2,c3,hn2.2.1,Nat.add_mul]) hzs (zn cs&&zn new)
       (fun h=>by simp only [Bool.and_eq_true] at h;exact zbZ h.1 h.2) hge
      obtain ⟨k1,k2⟩:=zij hh (hp0:=hp) (p:=⟨w.heap.size,0,grownCap w (k+n) k e*ti.size,ti.size⟩) (fun _ _ h=>h) rfl hnew;exact zfB (hval _ _ (by rw [ex];exact hr)) k1 (by simp only [zm];exact ⟨_,_,zQ,rfl,hge,by simp⟩) (zbf hnone) k2
  | osl id o0 k=>
   rw [hx] at hv rx;simp only at hv;simp only [zm] at rx;obtain ⟨p,c,hm,ex,h1,h2⟩:=rx
   split at hv
   case h_2=>cases hv
   rename_i pu exb zz cs hg
   cases hc:(Nat.beq zz ti.size&&(Nat.ble (k+n) zb1&&(Nat.ble ((k+n)*ti.bytes) zb1&&(Nat.ble (o0+k*ti.size) cs.length&&(Nat.blt 0 ti.size&&zH new))))) with
   | false=>rw [hc] at hv;cases hv
   | true=>
    rw [hc] at hv;simp only [cond_true,Option.some.injEq,Prod.mk.injEq] at hv;obtain ⟨rfl,rfl,rfl⟩:=hv;simp only [Bool.and_eq_true] at hc;have c0:=Nat.eq_of_beq_eq_true hc.1;have c1:=Nat.le_of_ble_eq_true hc.2.1;have c2:=Nat.le_of_ble_eq_true hc.2.2.1;have c3:=Nat.le_of_ble_eq_true hc.2.2.2.1;have c4:=hc.2.2.2.2.2;simp only [zb1] at c1 c2;obtain ⟨p',arr,t',g1,g2,g3,g4,g5,g6,g7,g8,g9,g10⟩:=hh.obj id _ _ hg hm;rw [hm] at g1;injection g1 with g1
    subst g1;subst c0;rw [g3] at h2;have hsl:zX Λ.fid m S w (slice o0 (k*ti.size) cs) p.b (p.o+o0):=zcg _ _ _ _ (zbh _ _ _ _ g7);obtain ⟨olds,f1,f2,f3⟩:=zbu _ _ _ hsl;have hsll:(slice o0 (k*ti.size) cs).length=k*ti.size:=by simp only [slice,List.length_take,List.length_drop];omega
    have hpl:(pu&&zn new)=true→zn (slice o0 (k*ti.size) cs++new)=true:=fun h=>by
     simp only [Bool.and_eq_true] at h;exact zbZ (zbW _ (zbU _ _ (g8 h.1))) h.2
    by_cases hroom:k+n≤c
    ·have hone:=zfR hn1 c4;have hfit:p.o+o0+k*ti.size+news.length≤arr.size:=by
      rw [hn2.2.1]
      have:(k+n)*ti.size≤c*ti.size:=Nat.mul_le_mul_right _ hroom
      rw [Nat.add_mul] at this;omega
     have hr:=zmM (P:=Λ.P) (ty:=b') (w:=w) htt hu hti g2 hn2 hone hroom hfit;have ho:∀m',MLe m m'→m' ct=some ⟨p.b,p.o+o0,c*ti.size,ti.size⟩→
       zcB Λ m' S (w.setRow p.b (arr.toList.take (p.o+o0+k*ti.size)++news++arr.toList.drop (p.o+o0+k*ti.size+news.length)).toArray) ct
        (.cells true (pu&&zn new) false ti.size (slice o0 (k*ti.size) cs++new)):=by
      intro m' hle hi;have hst:zaP S w (w.setRow p.b (arr.toList.take (p.o+o0+k*ti.size)++news++arr.toList.drop (p.o+o0+k*ti.size+news.length)).toArray):=fun b hb=>setRow_other w p.b b _ (fun e=>g9 rfl (e▸hb))
      refine ⟨_,_,t',hi,setRow_heap w p.b arr _ t' _ g2,rfl,?_,?_,by simp,?_,hpl,fun _=>g9 rfl,by simp⟩
      ·show (slice o0 (k*ti.size) cs++new).length≤c*ti.size
       rw [List.length_append,hsll,←hnl,hn2.2.1,←Nat.add_mul];exact Nat.mul_le_mul_right _ hroom
      ·show p.o+o0+c*ti.size≤_
       rw [List.size_toArray,List.length_append,List.length_append,List.length_take,List.length_drop,Array.length_toList];omega
      ·refine zew _ (olds++news) _ (zar (zah hle (fun _ h=>h) hst _ _ f1) (zah hle (fun _ h=>h) hst _ _ hn1)) (fun j u hj=>?_);show World.cell? _ ⟨p.b,p.o+o0+j,none⟩=some u
       simp only [World.cell?,setRow_heap w p.b arr _ t' _ g2,Option.isSome_none,Bool.false_eq_true,if_false];rw [List.getElem?_toArray];have e1:(arr.toList.take (p.o+o0+k*ti.size)).length=p.o+o0+k*ti.size:=by rw [List.length_take,Array.length_toList];omega
       by_cases hj1:j<k*ti.size
       ·rw [List.getElem?_append_left (by omega)] at hj;rw [List.append_assoc,List.getElem?_append_left (by omega),List.getElem?_take_of_lt (by omega)]
        have:=f3 j u hj
        simpa [World.cell?,g2] using this
       ·rw [List.getElem?_append_right (by omega)] at hj;have hjl:=(List.getElem?_eq_some_iff.1 hj).1;rw [List.append_assoc,List.getElem?_append_right (by omega),e1,List.getElem?_append_left (by omega),show p.o+o0+j-(p.o+o0+k*ti.size)=j-olds.length by omega];exact hj
     obtain ⟨k1,k2⟩:=zuD (p':=⟨p.b,p.o+o0,c*ti.size,ti.size⟩) hh hg hm (g9 rfl) (zgz w p.b _) (fun r hr=>by rw [g2] at hr;cases hr) rfl ho;exact zfB (hval _ _ (by rw [ex];exact hr)) k1 (by simp only [zm];exact ⟨_,c,zQ,rfl,hroom,by simp⟩) (zbf hnone) k2
    ·have hso:Src Λ.P w ti.size k olds (.slice (some ⟨p.b,p.o+o0,none⟩) k c):=zeE (by omega) (fun j u hj=>by rw [zdt];exact f3 j u hj)
     have hr:=ze2 (P:=Λ.P) (ty:=b') (w:=w) htt hu hti hzv rfl hso hn2 (by omega) c1 c2;have hge:=grownCap_ge w (k+n) c e;have hnew:=zib (e:=e) (z:=zv) (cap:=grownCap w (k+n) c e) hh (zar f1 hn1) (need:=k+n) (sz:=ti.size) (by rw [List.length_append,f2,hsll,hn2.2.1,Nat.add_mul]) hzs (pu&&zn new) hpl hge;obtain ⟨k1,k2⟩:=zij hh (hp0:=hdel hp id) (p:=⟨w.heap.size,0,grownCap w (k+n) c e*ti.size,ti.size⟩) (fun i q h=>by
      rw [zeD] at h;by_cases hi:id=i
      ·simp [hi] at h
      ·simpa only [hi,if_false] using h) rfl hnew
     exact zfB (hval _ _ (by rw [ex];exact hr)) k1 (by simp only [zm];exact ⟨_,_,zQ,rfl,hge,by simp⟩) (zbf hnone) k2
  | _=>rw [hx] at hv;simp at hv
end
end VE
end
section
namespace VE
open Go
section
variable {Λ:Link} {H:zbH} {m:Mp} {S:Nat→Prop} {w:World} {tm:Env} {a:Act} {hp:Hp} {ct:Nat}
theorem znt {n:Nat} {cs:List AV} (h:zn cs=true):zn (cs.take n)=true:=zbW n h
theorem zgj:∀(n:Nat) {cs:List AV},zH cs=true→zH (cs.take n)=true
 | 0,_,_=>by simp [zH]
 | n+1,[],_=>by simp [zH]
 | n+1,c::cs,h=>by
  simp only [List.take_succ_cons,zH,Bool.and_eq_true] at h ⊢;exact ⟨h.1,zgj n h.2⟩
theorem zwd {o:Oper} {b':TypeId} {t u e:TypeId} {sz:Nat} {x y:Operand} {v:AV} {hp':Hp} {ct':Nat} (hH:zaM Λ H) (ht:zaB Λ m S w tm a.tmps) (hh:zR Λ m S w hp ct)
  (hrun:(execOp a.eval o).run Λ.P w=((do pure (.value (←Builtin.copy_ #[t,u] b' #[a.eval x,a.eval y])):Sem Next)).run Λ.P w)
  (htt:Λ.P.underlying t=some (.slice e)) (hs:szT Λ.P e=some sz)
  (hv:zV tm hp ct (.cpy sz (opX H x) (opX H y))=some (v,hp',ct')):zhf Λ m S w a hp ct o v hp' ct':=by
 simp only [zV] at hv
 cases hsrc:zcC hp sz (zp tm (opX H y)) with
 | none=>simp [hsrc] at hv
 | some q=>
  obtain ⟨n,new⟩:=q;simp only [hsrc] at hv;obtain ⟨news,hn1,hn2⟩:=zkD hh (zad hH ht y) hsrc;have hnl:=zax _ _ hn1;have rx:=zad hH ht x;cases hx:zp tm (opX H x)<;>rw [hx] at hv rx<;>simp only [reduceCtorEq] at hv
  rename_i id o0 k;simp only [zm] at rx;obtain ⟨p,c,hm,ex,h1,h2⟩:=rx
  split at hv
  case h_2=>cases hv
  rename_i pu exb zz cs hg
  cases hc:(Nat.beq zz sz&&(Nat.ble (o0+k*sz) cs.length&&zH new)) with
  | false=>rw [hc] at hv;cases hv
  | true=>
   rw [hc] at hv;simp only [cond_true,Option.some.injEq,Prod.mk.injEq] at hv;obtain ⟨rfl,rfl,rfl⟩:=hv;simp only [Bool.and_eq_true] at hc;have c0:=Nat.eq_of_beq_eq_true hc.1;have c1:=Nat.le_of_ble_eq_true hc.2.1;subst c0;obtain ⟨p',arr,t',g1,g2,g3,g4,g5,g6,g7,g8,g9,g10⟩:=hh.obj id _ _ hg hm;rw [hm] at g1;injection g1 with g1
   subst g1;have hmin:min n k*zz≤k*zz:=Nat.mul_le_mul_right _ (Nat.min_le_right _ _);have hminn:min n k*zz≤n*zz:=Nat.mul_le_mul_right _ (Nat.min_le_left _ _);have rt:=zdJ (min n k*zz) hn1;have hll:(news.take (min n k*zz)).length=min n k*zz:=by rw [List.length_take,hn2.2.1];omega
   have hll':(new.take (min n k*zz)).length=min n k*zz:=by rw [List.length_take,←hnl,hn2.2.1];omega
   have hone:=zfR rt (zgj _ hc.2.2);have hf:=hn2.2.2 w rfl (min n k) (Nat.min_le_left _ _);have hst:=run_storeCells_at Λ.P p.b (p.o+o0) t' (news.take (min n k*zz)) 0 arr w g2 (by rw [hll];omega) hone;simp only [Nat.add_zero] at hst;have hor:zcB Λ m S (w.setRow p.b (arr.toList.take (p.o+o0)++news.take (min n k*zz)++arr.toList.drop (p.o+o0+(news.take (min n k*zz)).length)).toArray) id
     (.cells true (pu&&zn new) exb zz (zb6 o0 (new.take (min n k*zz)) cs)):=by
    refine ⟨p,_,t',hm,setRow_heap w p.b arr _ t' _ g2,g3,by rw [zhh (by omega)];exact g4,?_,fun h=>by rw [zhh (by omega)];exact g6 h,?_,?_,fun _=>g9 rfl,by simp⟩
    ·rw [List.size_toArray,List.length_append,List.length_append,List.length_take,List.length_drop,Array.length_toList,hll];omega
    ·exact znD g2 g7 rt (by omega) (by omega) MLe.refl (fun _ h=>h) (fun b hb=>setRow_other w p.b b _ (fun e=>g9 rfl (e▸hb))) (setRow_heap w p.b arr _ t' _ g2)
    ·intro h;simp only [Bool.and_eq_true] at h;exact zj5 (g8 h.1) (znt h.2)
   obtain ⟨e1,e2⟩:=zfJ hh hg hm (g9 rfl) (zgz w p.b _) hor (fun r hr=>by rw [g2] at hr;cases hr)
   refine zfB (u:=goInt ((min n k:Nat):Int)) (m':=m) (S':=S) ?_ e1 (by simp [zm,goInt]) MLe.refl e2;rw [hrun,ex];simp [Builtin.copy_,run_underlying htt,hn2.1 w,zaC hs,show Nat.min n k=min n k from rfl,hf,hst]
theorem zBy {o:Oper} {k:Nat} {v:AV} {hp':Hp} {ct':Nat} (hH:zaM Λ H) (ht:zaB Λ m S w tm a.tmps) (hh:zR Λ m S w hp ct)
  (hv:zV tm hp ct (zt Λ.P H k o)=some (v,hp',ct')):zhf Λ m S w a hp ct o v hp' ct':=by
 have badW:∀{r:AV×Hp×Nat},zV tm hp ct bad=some r→False:=fun h=>by simp [bad,zV] at h
 cases ho:o.op with
 | call c=>
  obtain ⟨callee,args,ts⟩:=c;simp only [zt,ho] at hv
  split at hv
  ·cases hmd:H.mode k<;>simp [hmd,zV] at hv
  ·rename_i _ b
   split at hv
   ·rename_i x y t u hargs hts;obtain ⟨al⟩:=args;obtain ⟨tl⟩:=ts;simp only at hargs hts;subst hargs;subst hts;obtain ⟨cs,hrun⟩:=zdl (Λ:=Λ) (w:=w) (a:=a) ho;have hrun':(execOp a.eval o).run Λ.P w=((do pure (.value (←Builtin.append_ #[t,u] o.type #[a.eval x,a.eval y])):Sem Next)).run Λ.P w:=by
     rw [hrun];simp [builtin]
    have key:∀{z:AV} {sz by':Nat} {e:TypeId},Λ.P.underlying t=some (.slice e)→((∃e',Λ.P.underlying u=some (.slice e'))∨Λ.P.underlying u=some .string)→szT Λ.P e=some sz→byT Λ.P e=some by'→zea Λ.P e=some z→
      zV tm hp ct (bif Nat.beq (cellsOf z).length sz then .app sz by' (opX H x) (opX H y) else bad)=some (v,hp',ct')→zhf Λ m S w a hp ct o v hp' ct':=by
     intro z sz by' e h1 h2 h3 h4 h5 h
     cases hb:Nat.beq (cellsOf z).length sz with
     | false=>rw [hb] at h;exact (badW h).elim
     | true=>
      rw [hb] at h;exact zwY hH ht hh hrun' h1 h2 h3 h4 h5 (Nat.eq_of_beq_eq_true hb) h
    split at hv
    ·rename_i e e' h1 h2
     split at hv
     ·rename_i sz by' z h3 h4 h5
      exact key h1 (.inl ⟨_,h2⟩) h3 h4 h5 hv
     ·exact (badW hv).elim
    ·rename_i e h1 h2
     split at hv
     ·rename_i sz by' z h3 h4 h5
      exact key h1 (.inr h2) h3 h4 h5 hv
     ·exact (badW hv).elim
    ·exact (badW hv).elim
   ·repeat' split at hv
    all_goals simp [zV,bad] at hv
   ·rename_i x y t u hargs hts;obtain ⟨al⟩:=args;obtain ⟨tl⟩:=ts;simp only at hargs hts;subst hargs;subst hts;obtain ⟨cs,hrun⟩:=zdl (Λ:=Λ) (w:=w) (a:=a) ho;have hrun':(execOp a.eval o).run Λ.P w=((do pure (.value (←Builtin.copy_ #[t,u] o.type #[a.eval x,a.eval y])):Sem Next)).run Λ.P w:=by
     rw [hrun];simp [builtin]
    split at hv
    ·rename_i e h1
     split at hv
     ·rename_i sz h3;exact zwd hH ht hh hrun' h1 h3 hv
     ·exact (badW hv).elim
    ·exact (badW hv).elim
   ·simp [zV] at hv
   ·simp [zV] at hv
   ·exact (badW hv).elim
  ·exact (badW hv).elim
 | store t x y=>
  simp only [zt,ho] at hv
  split at hv
  ·rename_i s hs;exact zCp hH ht hh ho hs hv
  ·exact (badW hv).elim
 | mapUpdate t x k y=>
  simp only [zt,ho] at hv
  split at hv
  ·rename_i kt e hu
   split at hv
   ·rename_i kk hkk;exact zn1 hH ht hh (.inl ho) hu hkk hv
   ·exact (badW hv).elim
  ·exact (badW hv).elim
 | insert t x k y=>
  simp only [zt,ho] at hv
  split at hv
  ·rename_i kt e hu
   split at hv
   ·rename_i kk hkk;exact zn1 hH ht hh (.inr ho) hu hkk hv
   ·exact (badW hv).elim
  ·exact (badW hv).elim
 | next x b=>
  cases b with
  | false=>simp only [zt,ho] at hv;exact (badW hv).elim
  | true=>exact zyU hH ht hh ho (by simpa only [zt,ho] using hv)
 | binOp op t x y ty=>
  cases op<;>simp only [zt,ho,zeu,zdI] at hv
  case eql=>
        repeat' split at hv
        all_goals first
         | (simp [zV,bad] at hv;done)
         | (cases hb:(Λ.P.stoodInHeld t||Λ.P.eqGuardType Λ.P.depth t)<;>rw [hb] at hv<;>simp [zV,bad] at hv)
  case neq=>
        repeat' split at hv
        all_goals first
         | (simp [zV,bad] at hv;done)
         | (cases hb:(Λ.P.stoodInHeld t||Λ.P.eqGuardType Λ.P.depth t)<;>rw [hb] at hv<;>simp [zV,bad] at hv)
  all_goals simp [zV] at hv
 | buildSlice t n parts=>
  simp only [zt,ho] at hv
  repeat' split at hv
  all_goals first
   | (simp [zV,bad] at hv;done)
   | (
     revert hv;generalize Nat.ble _ _=bb;intro hv;cases bb<;>simp [zV,bad] at hv
     try (split at hv<;>simp [zV,bad] at hv))
 | makeMap t r=>
  cases r<;>simp only [zt,ho] at hv
  ·repeat' split at hv
   all_goals simp [zV,bad] at hv
  ·exact (badW hv).elim
 | _=>
  simp only [zt,ho] at hv
  (repeat' split at hv)
  all_goals first
   | contradiction
   | (simp [zV,bad] at hv;done)
end
end VE
end
