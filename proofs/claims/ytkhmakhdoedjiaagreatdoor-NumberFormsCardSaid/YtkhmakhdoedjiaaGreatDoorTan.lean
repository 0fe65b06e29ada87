import Derived.Test.YtkhmakhdoedjiaaGreatDoorTam
import Derived.Test.YtkhmakhdoedjiaaGreatDoorTaa
set_option linter.all false
set_option maxRecDepth 100000
section
namespace VE
open Go
section
variable {Λ:Link} {m:Mp} {S:Nat→Prop} {w:World} {hp:Hp} {ct:Nat}
theorem zjB (hh:zR Λ m S w hp ct) {g:Nat} {w':World} (hw:One w w' g) (hg:¬S g) (ho:¬Own m hp g) (hlo:Λ.w0.heap.size≤g):zR Λ m S w' hp ct:=by
 have hst:zaP S w w':=fun b hb=>hw.other b (fun e=>hg (e▸hb))
 refine ⟨fun id o p h1 h2=>?_,hh.lt,hh.inj,fun b hb=>by rw [hw.size];exact hh.slt b hb,fun id p h=>by rw [hw.size];exact hh.blt id p h,hh.low,fun b hb=>?_,by rw [hw.size];exact hh.goodS,hh.hlt⟩
 ·exact zbE (fun _ _ h=>h) (fun _ h=>h) hst (fun q hq=>hw.other _ (fun e=>ho ⟨id,o,q,h1,hq,e⟩)) (fun _ _ h=>h) (hh.obj id o p h1 h2)
 ·rw [hw.other b (by omega)];exact hh.good b hb
theorem zkS {P:Program} {b:Nat} {o:Go.Obj} (h:w.heap[b]? =some o) (hc:∀c t f,o≠.cells c t f):(getObj b).run P w= .ok o w:=by
 simp only [getObj,Sem.run,h]
 try (cases o<;>first | rfl | exact absurd rfl (hc _ _ _))
theorem zeN {P:Program} {b:Nat} {o x:Go.Obj} (h:w.heap[b]? =some o) (hc:∀c t f,o≠.cells c t f):(setObj b x).run P w= .ok () {w with heap:=w.heap.setIfInBounds b x}:=by
 simp only [setObj,Sem.run,h]
 try (cases o<;>first | rfl | exact absurd rfl (hc _ _ _))
theorem zdn {P:Program} {b:Nat} {r:Loop} (h:w.heap[b]? =some (.loop r)):(Instr.getLoop b).run P w= .ok r w:=by
 simp only [Instr.getLoop,Sem.run_bind,zkS (P:=P) h (fun _ _ _=>by simp),Result.andThen_ok,Sem.run_pure]
theorem zhx (hh:zR Λ m S w hp ct) {l:Nat} {tm:Env} {ps:List Nat} {as_ body:VC} {st:Nat} {pe:Jump} {p:Pl} (hg:zq hp l=some (.lp tm ps as_ body st pe)) (hm:m l=some p):
  ∃(r:Loop) (h:Nat),w.heap[p.b]? =some (.loop r)∧¬S p.b∧r.state=zoI st∧st≤2∧r.pending=zfb pe∧zaB Λ m S w tm r.tmps∧r.params.toList=ps∧Cod Λ.P (Λ.hint h) as_ r.assign∧Cod Λ.P (Λ.hint h) body r.body∧
   (Λ.hint h).n≤r.tmps.size∧zhg (Λ.hint h).n ps=true:=by
 obtain ⟨q,r,h,g1,g2,g3⟩:=hh.obj l _ p hg hm;rw [hm] at g1;injection g1 with g1
 subst g1;exact ⟨r,h,g2,g3⟩
theorem zlR (hh:zR Λ m S w hp ct) {l:Nat} {tm:Env} {ps:List Nat} {as_ body:VC} {st:Nat} {pe:Jump} {p:Pl} (hg:zq hp l=some (.lp tm ps as_ body st pe)) (hm:m l=some p) {r:Loop} (hr:w.heap[p.b]? =some (.loop r))
  {st':Nat} {pe':Jump} (h2:st'≤2):
  zR Λ m S {w with heap:=w.heap.setIfInBounds p.b (.loop {r with state:=zoI st',pending:=zfb pe'})} (z7 hp l (.lp tm ps as_ body st' pe')) ct∧
  Fwd m S w hp m S {w with heap:=w.heap.setIfInBounds p.b (.loop {r with state:=zoI st',pending:=zfb pe'})} (z7 hp l (.lp tm ps as_ body st' pe')) ct:=by
 obtain ⟨r',h,g1,g2,g3,g4,g5,g6,g7,g8,g9,g10,g11⟩:=zhx hh hg hm;rw [hr] at g1;injection g1 with g1
 injection g1 with g1
 subst g1;have hone:=zcY w p.b (.loop {r with state:=zoI st',pending:=zfb pe'})
 refine zfJ hh hg hm g2 hone ⟨p,{r with state:=zoI st',pending:=zfb pe'},h,hm,zcU hr,g2,rfl,h2,rfl,?_,g7,g8,g9,g10,g11⟩ (fun _ _=>⟨_,zcU hr⟩);exact zcq (fun _ _ h=>h) (fun _ h=>h) (fun b hb=>hone.other b (fun e=>g2 (e▸hb))) g6
theorem zlA {n:Nat}:∀{ps:List Nat} {vs:List AV} {us:List Value} {tm tm':Env} {tmps:Array Value},zet tm ps vs=some tm'→zi Λ.fid m S w vs us→zaB Λ m S w tm tmps→n≤tmps.size→zhg n ps=true→
  ps.length=us.length∧zaB Λ m S w tm' ((ps.zip us).foldl (fun t (x:Nat×Value)=>t.setIfInBounds x.1 x.2) tmps)∧((ps.zip us).foldl (fun t (x:Nat×Value)=>t.setIfInBounds x.1 x.2) tmps).size=tmps.size
 | [],[],us,tm,tm',tmps,h,hr,ht,hn,ha=>by
  simp only [zet,Option.some.injEq] at h;subst h;simp only [zi] at hr;subst hr;exact ⟨rfl,ht,rfl⟩
 | [],_::_,us,tm,tm',tmps,h,hr,ht,hn,ha=>by simp [zet] at h
 | _::_,[],us,tm,tm',tmps,h,hr,ht,hn,ha=>by simp [zet] at h
 | p::ps,v::vs,us,tm,tm',tmps,h,hr,ht,hn,ha=>by
  simp only [zet] at h;simp only [zi] at hr;obtain ⟨u,t,rfl,h1,h2⟩:=hr;simp only [zhg,Bool.and_eq_true] at ha;have hp:=blt_iff.1 ha.1;have ht1:zaB Λ m S w ((p,v)::tm) (tmps.setIfInBounds p u):=zkZ (a:=⟨tmps,[]⟩) (d:=some p) ht (fun i hi=>by injection hi with hi;show i<tmps.size;omega) h1
  obtain ⟨g1,g2,g3⟩:=zlA (n:=n) h h2 ht1 (by simpa using hn) ha.2;refine ⟨by simp [g1],?_,?_⟩
  ·simp only [List.zip_cons_cons,List.foldl_cons];exact g2
  ·simp only [List.zip_cons_cons,List.foldl_cons];rw [g3];simp
theorem zyJ (ps:Array Tmp) (args:Array Value) (tmps:Array Value):(ps.zip args).foldl (fun tmps (x:Tmp×Value)=>tmps.setIfInBounds x.1 x.2) tmps=(ps.toList.zip args.toList).foldl (fun t (x:Nat×Value)=>t.setIfInBounds x.1 x.2) tmps:=by
 rw [←Array.foldl_toList,Array.toList_zip]
theorem zmG {P:Program} {b:Nat} {r:Loop} (h:w.heap[b]? =some (.loop r)) (jump:Option Code):
  (Instr.endRound b jump).run P w= .ok (.bool jump.isNone) {w with heap:=w.heap.setIfInBounds b (.loop {r with state:=if jump.isNone then .ready else .done,pending:=jump})}:=by
 simp only [Instr.endRound,Sem.run_bind,zdn h,Result.andThen_ok,zeN (P:=P) h (fun _ _ _=>by simp),Sem.run_pure]
theorem zkC {P:Program} {b:Nat} {r:Loop} (h:w.heap[b]? =some (.loop r)) (hs:r.state= .ready):
  (Instr.beginRound b).run P w= .ok () {w with heap:=w.heap.setIfInBounds b (.loop {r with state:= .busy})}:=by
 simp only [Instr.beginRound,Sem.run_bind,zdn h,Result.andThen_ok,zeN (P:=P) h (fun _ _ _=>by simp),hs,Sem.run_pure]
theorem zv9 {self:Run} (hS:∀v s ex s',self v s=some (ex,s')→∀c h l k,(comp Λ.P (Λ.hint h) c l k).1=v→ziH Λ h c s ex s') {l:Nat} {xs:List AV} {v:AV} {hp':Hp} {ct':Nat}
  (hv:zb3 self hp ct l xs=some (v,hp',ct')):zvT Λ hp ct l xs v hp' ct':=by
 intro m S w args p hh hm hargs;unfold zb3 at hv
 split at hv
 case h_2=>cases hv
 rename_i tm ps as_ body pe hg;obtain ⟨r,h,g1,g2,g3,g4,g5,g6,g7,⟨ca,ka,g8⟩,⟨cb,kb,g9⟩,g10,g11⟩:=zhx hh hg hm
 cases hb:zet tm ps xs with
 | none=>simp [hb] at hv
 | some tm'=>
  simp only [hb] at hv;obtain ⟨b1,b2,b3⟩:=zlA hb hargs g6 g10 g11;rw [←g7] at b1 b2 b3;have hsz:args.size=r.params.size:=by
   have:r.params.toList.length=args.toList.length:=b1
   simpa using this.symm
  let tmps:Array Value:=(r.params.zip args).foldl (fun tmps (x:Tmp×Value)=>tmps.setIfInBounds x.1 x.2) r.tmps
  have hzip:tmps=(r.params.toList.zip args.toList).foldl (fun t (x:Nat×Value)=>t.setIfInBounds x.1 x.2) r.tmps:=zyJ _ _ _;refine ⟨r.fn,tmps,r.assign,r.body,?_,?_⟩
  ·simp only [Instr.yield,Sem.run_bind,zdn g1,Result.andThen_ok,hsz,ne_eq,not_true_eq_false,if_false,Sem.run_pure];rfl
  refine roundIn_of_wpIn (F:=Fence.wide) trivial ?_
  cases h1:self as_ ⟨tm',hp,ct,ct⟩ with
  | none=>simp [h1] at hv
  | some q=>
   obtain ⟨ex1,s1⟩:=q
   cases ex1 with
   | ret=>simp [h1] at hv
   | exit id=>simp [h1] at hv
   | normal=>
    simp only [h1] at hv;have hc1:=hS _ _ _ _ h1 r.assign h ca ka g8;have hro:∀w',Fwd m S w hp m S w' hp ct→ze9 (some p.b) w':=fun w' hf=>zfW hf (fun l hl=>⟨r,by injection hl with hl;subst hl;exact g1⟩)
    refine wpIn_mono (hc1 (some p.b) w.heap.size m S w ⟨tmps,[]⟩ (hro w Fwd.refl) (by rw [hzip];exact b2) hh (Nat.le_refl _) (by show _≤tmps.size;rw [hzip,b3];exact g10) hh.goodS (Nat.le_refl _) ⟨[],rfl,by simp,by simp⟩) ?_
    rintro e a1 w1 ⟨rfl,m1,S1,k1,k2,k3,k4,k5,k6,k7⟩;simp only [zkJ,Exit.then];have hm1:m1 l=some p:=k5.old l p (hh.lt l p hm) hm
    split at hv
    case h_2=>cases hv
    rename_i tm1 ps1 as1 body1 pe1 hg1;obtain ⟨r1,hh1,f1,f2,f3,f4,f5,f6,f7,f8,f9,f10,f11⟩:=zhx k2 hg1 hm1;have hbr:=zkC (P:=Λ.P) f1 f3;obtain ⟨q1,q2⟩:=zlR k2 hg1 hm1 f1 (st':=1) (pe':=pe1) (by omega)
    have hr1:({r1 with state:=zoI 1,pending:=zfb pe1}:Loop)={r1 with state:= .busy}:=by rw [←f5];rfl
    rw [hr1] at q1 q2;refine ⟨_,hbr,?_⟩
    cases h2:self body ⟨s1.tm,z7 s1.hp l (.lp tm1 ps1 as1 body1 1 pe1),s1.ct,s1.ct⟩ with
    | none=>simp [h2] at hv
    | some q=>
     obtain ⟨ex,s2⟩:=q;simp only [h2] at hv;have hc2:=hS _ _ _ _ h2 r.body h cb kb g9
     have hro2:ze9 (some p.b) {w1 with heap:=w1.heap.setIfInBounds p.b (.loop {r1 with state:= .busy})}:=fun l hl=>by
      injection hl with hl;subst hl;exact ⟨_,zcU f1⟩
     have ht2:zaB Λ m1 S1 {w1 with heap:=w1.heap.setIfInBounds p.b (.loop {r1 with state:= .busy})} s1.tm a1.tmps:=
      zcq (fun _ _ h=>h) (fun _ h=>h) (fun b hb=>q2.still b hb) k1
     have hsz1:(Λ.hint h).n≤a1.tmps.size:=by
      rw [k6];show _≤tmps.size
      rw [hzip,b3];exact g10
     refine wpIn_mono (hc2 (some p.b) w.heap.size m1 S1 _ a1 hro2 ht2 q1 (Nat.le_refl _) hsz1 hh.goodS (Nat.le_trans k5.size q2.size) (zct k2 q2 k7)) ?_;rintro e a2 w2 ⟨rfl,m2,S2,j1,j2,j3,j4,j5,j6,j7⟩;have hm2:m2 l=some p:=j5.old l p (k2.lt l p hm1) hm1
     split at hv
     case h_2=>cases hv
     rename_i tm2 ps2 as2 body2 pe2 hg2;obtain ⟨r2,hh2,d1,d2,d3,d4,d5,d6,d7,d8,d9,d10,d11⟩:=zhx j2 hg2 hm2;have fwd2:Fwd m S w hp m2 S2 w2 s2.hp ct:=(k5.trans (q2.weak k4)).trans (j5.weak k4);have hct2:ct≤s2.ct:=Nat.le_trans k4 j4;have fin:∀(jump:Option Code) (st':Nat) (pe':Jump),zfb pe'=jump→zoI st'=(if jump.isNone then .ready else .done)→st'≤2→
       ∃v' w',(Instr.endRound p.b jump).run Λ.P w2= .ok v' w'∧zcx Λ m S w hp ct (.bool jump.isNone) (z7 s2.hp l (.lp tm2 ps2 as2 body2 st' pe')) s2.ct (.returned v') w':=by
      intro jump st' pe' e1 e2 e3;obtain ⟨z1,z2⟩:=zlR j2 hg2 hm2 d1 (st':=st') (pe':=pe') e3;rw [e1,e2] at z1 z2;exact ⟨_,_,zmG d1 jump,_,m2,S2,rfl,z1,hct2,by simp [zm],fwd2.trans (z2.weak hct2)⟩
     cases ex with
     | normal=>
      simp only [Option.some.injEq,Prod.mk.injEq] at hv;obtain ⟨rfl,rfl,rfl⟩:=hv;simp only [zkJ,roundPost];exact fin none 0 .none rfl rfl (by omega)
     | ret=>
      simp only [zo3,Option.some.injEq,Prod.mk.injEq] at hv;obtain ⟨rfl,rfl,rfl⟩:=hv;simp only [zkJ,roundPost];exact fin (some .ret) 2 .ret rfl rfl (by omega)
     | exit id=>
      simp only [zo3,Option.some.injEq,Prod.mk.injEq] at hv;obtain ⟨rfl,rfl,rfl⟩:=hv;simp only [zkJ,roundPost];exact fin (some (.exit id)) 2 (.exit id) rfl rfl (by omega)
end
end VE
end
section
namespace VE
open Go
section
variable {Λ:Link} {self:Run}
theorem zhs {P:Program} {f:FuncId} {fn:Func} {args:Array Value} {w:World} (hf:P.funcs[f]? =some fn) (hb:fn.body.isSome=true) (hn:fn.name≠ "runtime.NumGoroutine"):(callFunc f args).run P w= .ok (.enter f args) w:=by
 have h1:fn.body≠none:=fun e=>by rw [e] at hb;cases hb
 simp [callFunc,program,Sem.run,hf,h1,hn]
theorem zfL {P:Program} {H:zbH} {fn:Func} {F:Fnc} (h:zhY P H fn=some F):∃c,fn.body=some c∧F.body=(comp P H c 0 0).1∧zca P fn.results.toList=some F.res∧H.n≤fn.ntmps:=by
 unfold zhY at h
 split at h
 ·rename_i c rs h1 h2
  cases hb:Nat.ble H.n fn.ntmps with
  | false=>rw [hb] at h;cases h
  | true=>
   rw [hb] at h;simp only [cond_true,Option.some.injEq] at h;subst h;exact ⟨c,h1,rfl,h2,Nat.le_of_ble_eq_true hb⟩
 ·cases h
theorem zwD {m:Mp} {S:Nat→Prop} {w:World} {hp:Hp} {ct:Nat} {tm:Env} {a:Act} {ro:Option Nat} (fn:FuncId) (ps:Array Tmp) (assign body:Code) {as_ b':VC} {h:Nat} (hh:zR Λ m S w hp ct) (ht:zaB Λ m S w tm a.tmps) (hro:ze9 ro w)
  (hca:Cod Λ.P (Λ.hint h) as_ assign) (hcb:Cod Λ.P (Λ.hint h) b' body) (hn:(Λ.hint h).n≤a.tmps.size) (hps:zhg (Λ.hint h).n ps.toList=true) {lo:Nat} (hlw:lo≤w.heap.size) (hmk:zeK lo S w a.defers):
  ∃l mark w1,(Instr.enterLoop fn a.tmps ps assign body ro).run Λ.P w= .ok (l,mark) w1∧zR Λ (zcw m ct ⟨l,0,0,0⟩) S w1 ((ct,.lp tm ps.toList as_ b' 0 .none)::hp) (ct+1)∧
   Fwd m S w hp (zcw m ct ⟨l,0,0,0⟩) S w1 ((ct,.lp tm ps.toList as_ b' 0 .none)::hp) ct∧m ct=none∧zeK lo S w1 (mark++a.defers)∧w.heap.size≤l:=by
 have hmi:m ct=none:=by
  cases hq:m ct with
  | none=>rfl
  | some p=>have:=hh.lt ct p hq;omega
 have lay:∀(w':World) (d:Nat),Calm w w'→zeK lo S w' a.defers→
   zR Λ (zcw m ct ⟨w'.heap.size,0,0,0⟩) S (w'.alloc (.loop {state:= .ready,pending:=none,fn:=fn,tmps:=a.tmps,params:=ps,assign:=assign,body:=body,defers:=d})) ((ct,.lp tm ps.toList as_ b' 0 .none)::hp) (ct+1)∧
   Fwd m S w hp (zcw m ct ⟨w'.heap.size,0,0,0⟩) S (w'.alloc (.loop {state:= .ready,pending:=none,fn:=fn,tmps:=a.tmps,params:=ps,assign:=assign,body:=body,defers:=d})) ((ct,.lp tm ps.toList as_ b' 0 .none)::hp) ct:=by
  intro w' d hw hmk';have hh1:zR Λ m S w' hp ct:=zdM hh hw (fun _ h=>h) (fun _ h=> .inl h) (fun b hb=>Nat.lt_of_lt_of_le (hh.slt b hb) hw.size);have hf1:Fwd m S w hp m S w' hp ct:=zd2 hh hw (fun _ h=>h) (fun _ h=> .inl h);have hg:Grows hp ct ((ct,.lp tm ps.toList as_ b' 0 .none)::hp) (ct+1):=by
   refine ⟨fun id o ho=>⟨o,?_,oLe.refl o⟩,by omega,fun id o ho=>?_,fun id o ho hi=>?_⟩
   ·rw [zag,if_neg (by have:=hh.hlt id o ho;omega)];exact ho
   ·rw [zag] at ho;by_cases hc:ct=id
    ·omega
    ·simp only [hc,if_false] at ho;have:=hh.hlt id o ho;omega
   ·rw [zag,if_neg (by omega)] at ho;exact ⟨o,ho⟩
  have hin:∀i q,zq ((ct,Obj.lp tm ps.toList as_ b' 0 .none)::hp) i=some q→i≠ct→zq hp i=some q:=fun i q h hi=>by
   rw [zag,if_neg (fun e=>hi e.symm)] at h;exact h
  have hh2:zR Λ m S w' ((ct,.lp tm ps.toList as_ b' 0 .none)::hp) (ct+1):=by
   have hne:∀id p,m id=some p→id≠ct:=fun id p hm e=>by have:=hh.lt id p hm;omega
   exact ⟨fun id o p ho hm=>hh1.obj id o p (hin id o ho (hne id p hm)) hm,fun id p hm=>by have:=hh.lt id p hm;omega,
    fun i j oi oj pi pj hi hj hmi hmj e=>hh1.inj i j oi oj pi pj (hin i oi hi (hne i pi hmi)) (hin j oj hj (hne j pj hmj)) hmi hmj e,hh1.slt,hh1.blt,hh1.low,hh1.good,hh1.goodS,hg.lt⟩
  have hor:zcB Λ (zcw m ct ⟨w'.heap.size,0,0,0⟩) S (w'.alloc (.loop {state:= .ready,pending:=none,fn:=fn,tmps:=a.tmps,params:=ps,assign:=assign,body:=body,defers:=d})) ct (.lp tm ps.toList as_ b' 0 .none):=by
   refine ⟨⟨w'.heap.size,0,0,0⟩,_,h,zQ,heap_alloc_new w' _,?_,rfl,by omega,rfl,?_,rfl,hca,hcb,hn,hps⟩
   ·intro hS
    have:=hh1.slt _ hS
    simp at this
   ·exact zcq (zbf hmi) (fun _ h=>h) (fun b hb=>(zd0 hh1 _ b hb).trans (hw.same b (hh.slt b hb))) ht
  obtain ⟨S',k1,k2,k3⟩:=znj (i:=ct) (p:=⟨w'.heap.size,0,0,0⟩) hh2 hmi (by omega) rfl (fun o ho=>by
   rw [zag] at ho;simp only [if_true,Option.some.injEq] at ho;subst ho
   exact .inl ⟨hor,by simp [zaN]⟩)
  have k1':zR Λ (zcw m ct ⟨w'.heap.size,0,0,0⟩) S (w'.alloc (.loop {state:= .ready,pending:=none,fn:=fn,tmps:=a.tmps,params:=ps,assign:=assign,body:=body,defers:=d})) ((ct,.lp tm ps.toList as_ b' 0 .none)::hp) (ct+1):=by
   have hmb:∀id q,m id=some q→q.b≠w'.heap.size:=fun id q hq=>by have:=hh1.blt id q hq;omega
   refine ⟨?_,k1.lt,k1.inj,fun b hb=>k1.slt b (k2 b hb),k1.blt,k1.low,k1.good,k1.goodS,k1.hlt⟩;intro id o q ho hm;by_cases hc:id=ct
   ·subst hc;rw [zag] at ho;simp only [if_true,Option.some.injEq] at ho;subst ho;exact hor
   ·rw [zJ hc] at hm;exact zbE (zbf hmi) (fun _ h=>h) (zd0 hh1 _) (fun q' hq'=>za4 (hh1.blt id q' hq')) (fun _ _ h=>h) (hh1.obj id o q (hin id o ho hc) hm)
  refine ⟨k1',hf1.trans ⟨rfl,rfl,rfl,by simp,fun b hb _=>za4 hb,fun _ h=>h,fun b hb=>zd0 hh1 _ b hb,fun b hb=> .inl hb,?_,fun i q _ hq=>zbf hmi i q hq,fun b r hb=>⟨r,(za4 (Array.getElem?_eq_some_iff.1 hb).1).trans hb⟩⟩⟩;rintro b ⟨i,o,q,g1,g2,g3⟩;by_cases hc:i=ct
  ·subst hc;rw [zQ] at g2;injection g2 with g2
   subst g2;exact .inr (by rw [←g3];exact Nat.le_refl _)
  ·rw [zJ hc] at g2;exact .inl ⟨i,o,q,hin i o g1 hc,g2,g3⟩
 cases ro with
 | none=>
  have hcalm:Calm w (w.alloc (.deferred (some []))):=⟨rfl,rfl,rfl,by simp,fun b hb=>za4 hb⟩;obtain ⟨rs,r1,r2,r3⟩:=hmk;have hmk1:zeK lo S (w.alloc (.deferred (some []))) a.defers:=⟨rs,r1,r2,fun r hr=>⟨(za4 (Array.getElem?_eq_some_iff.1 (r3 r hr).1).1).trans (r3 r hr).1,(r3 r hr).2⟩⟩;obtain ⟨k1,k2⟩:=lay (w.alloc (.deferred (some []))) w.heap.size hcalm hmk1
  refine ⟨(w.alloc (.deferred (some []))).heap.size,[{target:= .collected w.heap.size,args:=#[]}],_,?_,k1,k2,hmi,?_,by simp⟩
  ·simp [Instr.enterLoop,newObj,Sem.run]
  ·have hold:∀(b:Nat) (x:Go.Obj),(w.alloc (.deferred (some []))).heap[b]? =some x→((w.alloc (.deferred (some []))).alloc (.loop {state:= .ready,pending:=none,fn:=fn,tmps:=a.tmps,params:=ps,assign:=assign,body:=body,defers:=w.heap.size})).heap[b]? =some x:=fun b x hb=>
    (za4 (Array.getElem?_eq_some_iff.1 hb).1).trans hb
   refine ⟨w.heap.size::rs,by rw [r1];rfl,?_,?_⟩
   ·rw [List.nodup_cons];refine ⟨fun hm=>?_,r2⟩
    have:=(Array.getElem?_eq_some_iff.1 (r3 _ hm).1).1
    omega
   ·intro r hr;rcases List.mem_cons.1 hr with rfl | hr
    ·exact ⟨hold _ _ (heap_alloc_new w _),fun hs=>by have:=hh.slt _ hs;omega,hlw⟩
    ·exact ⟨hold _ _ ((za4 (Array.getElem?_eq_some_iff.1 (r3 r hr).1).1).trans (r3 r hr).1),(r3 r hr).2⟩
 | some l0=>
  obtain ⟨r0,hr0⟩:=hro l0 rfl;obtain ⟨k1,k2⟩:=lay w r0.defers Calm.refl hmk;refine ⟨w.heap.size,[],_,?_,k1,k2,hmi,?_,Nat.le_refl _⟩
  ·simp [Instr.enterLoop,zdn hr0,newObj,Sem.run]
  ·exact zct hh k2 hmk
theorem zNk (hΛ:zav Λ) (hC:zb0 Λ self) {h:Nat} {f:Operand} {ps:Array Tmp} {assign body:Code} {as_ b':VC} (hca:Cod Λ.P (Λ.hint h) as_ assign) (hcb:Cod Λ.P (Λ.hint h) b' body) (hps:zhg (Λ.hint h).n ps.toList=true)
  {s:St} {ex:Ex} {s':St} (hv:zF Λ.prog Λ.lib self (.rf (opX (Λ.hint h) f) ps.toList as_ b') s=some (ex,s')):ziH Λ h (.rangeFunc f ps assign body) s ex s':=by
 intro ro lo m S w a hro ht hh hb hn hlo hlw hmk;simp only [zF] at hv
 split at hv
 case h_2=>cases hv
 rename_i n first cap hx
 split at hv
 case h_1=>cases hv
 rename_i hL
 cases he:zbj Λ.prog Λ.lib self ((s.ct,.lp s.tm ps.toList as_ b' 0 .none)::s.hp) (s.ct+1) n (first++(.fn (.y s.ct) [] []::cap)) with
 | none=>simp [he] at hv
 | some q=>
  obtain ⟨v,hp1,ct1⟩:=q;simp only [he] at hv
  split at hv
  case h_2=>cases hv
  rename_i tm2 ps2 as2 body2 st pe hg2
  cases hst:Nat.beq st 1 with
  | true=>rw [hst] at hv;cases hv
  | false=>
   rw [hst] at hv;simp only [cond_false] at hv;refine wpIn_rangeFunc (fun fn _=>?_);obtain ⟨l,mark,w1,e1,e2,e3,e4,e5,e6⟩:=zwD (ro:=ro) fn ps assign body hh ht hro hca hcb hn hps hlw hmk;have rf:=zad (hΛ.hint h) ht f;rw [hx] at rf;simp only [zm] at rf;obtain ⟨fi,ca,hf,r2,r3⟩:=rf;have hle:=zbf e4 (p:=⟨l,0,0,0⟩);have hst1:zaP S w w1:=fun b hb=>e3.still b hb
   have hargs:zi Λ.fid (zcw m s.ct ⟨l,0,0,0⟩) S w1 (first++(.fn (.y s.ct) [] []::cap)) (fi++#[Value.func (.yield l) #[] #[]]++ca).toList:=by
    have:=zar (zah hle (fun _ h=>h) hst1 _ _ r2) (zar (a:=[.fn (.y s.ct) [] []]) (x:=[Value.func (.yield l) #[] #[]]) (by
     simp only [zi]
     exact ⟨_,[],rfl,by simp only [zm];exact ⟨_,zQ,rfl⟩,rfl⟩) (zah hle (fun _ h=>h) hst1 _ _ r3))
    simpa using this
   have hcall:=hC.heap _ _ _ _ _ _ _ he _ S w1 _ e2 hargs;have hP:∃F,Λ.prog n=some F:=by
    unfold zbj at he;rw [hL] at he
    cases hq:Λ.prog n with
    | none=>simp [hq] at he
    | some F=>exact ⟨F,rfl⟩
   obtain ⟨F,hF⟩:=hP;obtain ⟨fn',q1,q2,q3⟩:=hΛ.prog n F hF;obtain ⟨cb,q4,_⟩:=zfL q2;have hent:(callFunc (Λ.fid n) (fi++#[Value.func (.yield l) #[] #[]]++ca)).run Λ.P w1= .ok (.enter (Λ.fid n) (fi++#[Value.func (.yield l) #[] #[]]++ca)) w1:=zhs q1 (by rw [q4];rfl) q3
   refine ⟨l,mark,w1,{target:= .fn (.func (Λ.fid n)) ca,args:=fi++#[Value.func (.yield l) #[] #[]]},w1,Λ.fid n,fi++#[Value.func (.yield l) #[] #[]]++ca,w1,e1,?_,fun _ _=>trivial,?_,fun hd=>by simp [WF,Fence.wide] at hd,?_⟩
   ·show Sem.run Λ.P (Deferred.ofValue (a.eval f) _) w1=_
    rw [hf];simp [Deferred.ofValue,Act.eval]
   ·simp only [invoke];exact hent
   ·rcases hcall with ⟨_,hcall⟩ | ⟨u,w',h1,_⟩
    case inr=>rw [hent] at h1;cases h1
    have hcall':CallsIn (WF ro) 0 Λ.P (Λ.fid n) (fi++#[Value.func (.yield l) #[] #[]]++ca) w1 (zcx Λ (zcw m s.ct ⟨l,0,0,0⟩) S w1 ((s.ct,.lp s.tm ps.toList as_ b' 0 .none)::s.hp) (s.ct+1) v hp1 ct1):=hcall;refine CallsIn.mono hcall' ?_;rintro e w3 ⟨u,m',S',rfl,k1,k2,k3,k4⟩;have hm':m' s.ct=some ⟨l,0,0,0⟩:=k4.old s.ct _ (Nat.lt_succ_self _) zQ;obtain ⟨r,hh2,d1,d2,d3,d4,d5,d6,_⟩:=zhx k1 hg2 hm';have hnb:(r.state==LoopState.busy)=false:=by
     rw [d3];rcases st with _ | _ | st
     ·rfl
     ·simp at hst
     ·have:st=0:=by omega
      subst this;rfl
    have hone:=zcY w3 l (.loop {r with state:= .exhausted});have hdl:=zn4 k1 s.ct;have hno:¬Own m' (hdel hp1 s.ct) l:=ziQ k1 hg2 hm'
    have z1:zR Λ m' S' {w3 with heap:=w3.heap.setIfInBounds l (.loop {r with state:= .exhausted})} (VE.hdel hp1 s.ct) ct1:=zjB hdl hone d2 hno (by have:=hh.goodS;omega)
    have z2:Fwd m' S' w3 hp1 m' S' {w3 with heap:=w3.heap.setIfInBounds l (.loop {r with state:= .exhausted})} (VE.hdel hp1 s.ct) s.base:=by
     refine ⟨rfl,rfl,rfl,by rw [hone.size];exact Nat.le_refl _,fun b _ hb=>hone.other b (fun e=>hb (e▸zks hg2 hm')),fun _ h=>h,fun b hb=>hone.other b (fun e=>d2 (e▸hb)),fun b hb=> .inl hb,fun b hb=> .inl (zsa hb),fun _ _ _ h=>h,fun b x hb=>?_⟩
     by_cases hc:b=l
     ·subst hc;exact ⟨_,zcU d1⟩
     ·exact ⟨x,(hone.other b hc).trans hb⟩
    have hfwd:Fwd m S w s.hp m' S' {w3 with heap:=w3.heap.setIfInBounds l (.loop {r with state:= .exhausted})} (VE.hdel hp1 s.ct) s.base:=
     ((e3.weak hb).trans (k4.weak (by omega))).trans z2
    have hend:(Instr.endLoop l).run Λ.P w3= .ok (zfb pe) {w3 with heap:=w3.heap.setIfInBounds l (.loop {r with state:= .exhausted})}:=by
     simp only [Instr.endLoop,Sem.run_bind,zdn d1,Result.andThen_ok,hnb,Bool.false_eq_true,if_false,Sem.run_pure,zeN (P:=Λ.P) d1 (fun _ _ _=>by simp),d5]
    have hmk':zeK lo S' {w3 with heap:=w3.heap.setIfInBounds l (.loop {r with state:= .exhausted})} (mark++a.defers):=zct k1 z2 (zct e2 k4 e5)
    have ht':zaB Λ m' S' {w3 with heap:=w3.heap.setIfInBounds l (.loop {r with state:= .exhausted})} s.tm a.tmps:=by
     refine zcq (fun id p hp=>?_) hfwd.sub (fun b hb=>hfwd.still b hb) ht;have h1:=hh.lt id p hp;exact k4.old id p (by omega) (hle id p hp)
    have post:∀ex',s'={s with hp:=VE.hdel hp1 s.ct,ct:=ct1}→ex=ex'→Post Λ m S w s ex s' a.tmps.size lo (zkJ ex') {a with defers:=mark++a.defers} {w3 with heap:=w3.heap.setIfInBounds l (.loop {r with state:= .exhausted})}:=by
     rintro ex' rfl rfl;exact ⟨rfl,m',S',ht',z1,rfl,by show s.base≤ct1;omega,hfwd,rfl,hmk'⟩
    refine ⟨_,_,hend,?_⟩
    cases pe with
    | none=>
     simp only [Option.some.injEq,Prod.mk.injEq] at hv;exact post .normal hv.2.symm hv.1.symm
    | ret=>
     simp only [Option.some.injEq,Prod.mk.injEq] at hv;exact wpIn_ret (post .ret hv.2.symm hv.1.symm)
    | exit id=>
     simp only [Option.some.injEq,Prod.mk.injEq] at hv;exact wpIn_exit (post (.exit id) hv.2.symm hv.1.symm)
end
end VE
end
section
namespace VE
def Le (f g:Run):Prop:=∀c s r,f c s=some r→g c s=some r
section
variable {P:zN} {L:Lib} {f g:Run}
theorem zes (h:Le f g) (n:Nat) (vals:List AV) (r:AV) (hr:zk P L f n vals=some r):zk P L g n vals=some r:=by
 unfold zk at hr ⊢
 cases hL:L.pure n with
 | some sp=>simpa only [hL] using hr
 | none=>
  simp only [hL] at hr ⊢
  cases hP:P n with
  | none=>simp [hP] at hr
  | some F=>
   simp only [hP] at hr ⊢
   cases hf:f F.body ⟨zab 0 vals,[],0,0⟩ with
   | none=>simp [hf] at hr
   | some q=>rw [h _ _ _ hf];simpa only [hf] using hr
theorem zfw (h:Le f g) (hp:Hp) (ct:Nat) (n:Nat) (vals:List AV) (r:AV×Hp×Nat) (hr:zbj P L f hp ct n vals=some r):zbj P L g hp ct n vals=some r:=by
 unfold zbj at hr ⊢
 cases hL:L.heap n with
 | some sp=>simpa only [hL] using hr
 | none=>
  simp only [hL] at hr ⊢
  cases hP:P n with
  | none=>simp [hP] at hr
  | some F=>
   simp only [hP] at hr ⊢
   cases hf:f F.body ⟨zab 0 vals,hp,ct,ct⟩ with
   | none=>simp [hf] at hr
   | some q=>rw [h _ _ _ hf];simpa only [hf] using hr
theorem zhn (h:Le f g) (hp:Hp) (ct:Nat) (l:Nat) (xs:List AV) (r:AV×Hp×Nat) (hr:zb3 f hp ct l xs=some r):zb3 g hp ct l xs=some r:=by
 unfold zb3 at hr ⊢
 cases hl:zq hp l with
 | none=>simp [hl] at hr
 | some o=>
  simp only [hl] at hr ⊢
  split at hr
  ·rename_i tm ps as_ body pe heq;simp only [Option.some.injEq] at heq;subst heq
   (try simp only at hr ⊢)
   cases hb:zet tm ps xs with
   | none=>simp [hb] at hr
   | some tm'=>
    simp only [hb] at hr ⊢
    cases h1:f as_ ⟨tm',hp,ct,ct⟩ with
    | none=>simp [h1] at hr
    | some q=>
     rw [h _ _ _ h1];simp only [h1] at hr ⊢
     split at hr
     ·rename_i s1 heq2;simp only [Option.some.injEq] at heq2;subst heq2
      (try simp only at hr ⊢)
      split at hr
      ·rename_i tm1 ps1 as1 body1 pe1 heq3
       (try simp only [heq3])
       cases h2:f body ⟨s1.tm,z7 s1.hp l (.lp tm1 ps1 as1 body1 1 pe1),s1.ct,s1.ct⟩ with
       | none=>simp [h2] at hr
       | some q2=>rw [h _ _ _ h2];simpa only [h2] using hr
      ·simp at hr
     ·simp at hr
  ·simp at hr
theorem zix (h:Le f g) (hp:Hp) (ct:Nat) (m:Md) (fv:AV) (xs:List AV) (r:AV×Hp×Nat) (hr:zaw P L f hp ct m fv xs=some r):zaw P L g hp ct m fv xs=some r:=by
 unfold zaw at hr ⊢
 split at hr
 ·rename_i n first cap
  cases m with
  | pure=>
   simp only at hr ⊢
   cases hz:zT zcJ hp (first++(xs++cap)) with
   | none=>simp [hz] at hr
   | some q=>
    simp only [hz] at hr ⊢
    cases hc:zk P L f n q.1 with
    | none=>simp [hc] at hr
    | some u=>rw [zes h n q.1 u hc];simpa only [hc] using hr
  | own=>
   simp only at hr ⊢
   cases hz:zT zcJ hp (first++(xs++cap)) with
   | none=>simp [hz] at hr
   | some q=>
    simp only [hz] at hr ⊢
    cases hc:zk P L f n q.1 with
    | none=>simp [hc] at hr
    | some u=>rw [zes h n q.1 u hc];simpa only [hc] using hr
  | heap=>exact zfw h _ _ _ _ _ hr
  | dyn=>
   simp only at hr ⊢
   cases hz:zn (first++(xs++cap)) with
   | true=>
    simp only [hz,cond_true] at hr ⊢
    cases hc:zk P L f n (first++(xs++cap)) with
    | none=>simp [hc] at hr
    | some u=>rw [zes h n _ u hc];simpa only [hc] using hr
   | false=>
    simp only [hz,cond_false] at hr ⊢;exact zfw h _ _ _ _ _ hr
 ·split at hr
  ·exact zhn h _ _ _ _ _ hr
  ·exact zhn h _ _ _ _ _ hr
  ·simp at hr
 ·simp at hr
theorem zlU (h:Le f g) (tm:Env) (hp:Hp) (ct:Nat) (o:Op) (r:AV×Hp×Nat) (hr:zZ P L f tm hp ct o=some r):zZ P L g tm hp ct o=some r:=by
 unfold zZ at hr ⊢
 split at hr
 ·exact zix h _ _ _ _ _ _ hr
 ·rename_i rs fv xs
  (try simp only at hr ⊢)
  cases hc:zaw P L f hp ct .dyn (zp tm fv) (zaz tm xs) with
  | none=>simp [hc] at hr
  | some q=>rw [zix h _ _ _ _ _ _ hc];simpa only [hc] using hr
 all_goals simpa only using hr
theorem zfh (h:Le f g):∀(ops:List ROp) (s s':St),zaF P L f ops s=some s'→zaF P L g ops s=some s'
 | [],s,s',hr=>by simpa only [zaF] using hr
 | ⟨d,gd,o⟩::r,s,s',hr=>by
  simp only [zaF] at hr ⊢
  split at hr
  ·rename_i hw
   try simp only [hw]
   cases ho:zZ P L f s.tm s.hp s.ct o with
   | none=>simp [ho] at hr
   | some q=>rw [zlU h _ _ _ _ _ ho];simp only [ho] at hr ⊢;exact zfh h r _ _ hr
  ·rename_i hw
   (try simp only [hw]);exact zfh h r _ _ hr
  ·simp at hr
theorem zaS (h:Le f g):∀(c:VC) (s:St) (r:Ex×St),zF P L f c s=some r→zF P L g c s=some r
 | .skip,s,r,hr=>by simpa only [zF] using hr
 | .reg ops,s,r,hr=>by
  simp only [zF] at hr ⊢
  cases ho:zaF P L f ops s with
  | none=>simp [ho] at hr
  | some s'=>rw [zfh h _ _ _ ho];simpa only [ho] using hr
 | .seq a b,s,r,hr=>by
  simp only [zF] at hr ⊢
  cases ha:zF P L f a s with
  | none=>simp [ha] at hr
  | some q=>
   rw [zaS h a s q ha];obtain ⟨ex,s1⟩:=q
   cases ex with
   | normal=>simp only [ha] at hr ⊢;exact zaS h b s1 r hr
   | ret=>simpa only [ha] using hr
   | exit id=>simpa only [ha] using hr
 | .cond x a b,s,r,hr=>by
  simp only [zF] at hr ⊢
  split at hr
  ·rename_i t ht
   try simp only [ht]
   cases t with
   | true=>simp only [cond_true] at hr ⊢;exact zaS h a s r hr
   | false=>simp only [cond_false] at hr ⊢;exact zaS h b s r hr
  ·simp at hr
 | .blk id a,s,r,hr=>by
  simp only [zF] at hr ⊢
  cases ha:zF P L f a s with
  | none=>simp [ha] at hr
  | some q=>rw [zaS h a s q ha];simpa only [ha] using hr
 | .kp live,s,r,hr=>by simpa only [zF] using hr
 | .fz ts,s,r,hr=>by simpa only [zF] using hr
 | .loop live a,s,r,hr=>by
  simp only [zF] at hr ⊢
  cases ha:zF P L f a (zA live s) with
  | none=>simp [ha] at hr
  | some q=>
   rw [zaS h a _ q ha];obtain ⟨ex,s1⟩:=q
   cases ex with
   | normal=>simp only [ha] at hr ⊢;exact h _ _ _ hr
   | ret=>simpa only [ha] using hr
   | exit id=>simpa only [ha] using hr
 | .rf fv ps as_ body,s,r,hr=>by
  simp only [zF] at hr ⊢
  split at hr
  ·rename_i n first cap hx
   try simp only [hx]
   split at hr
   ·simp at hr
   ·rename_i hL
    try simp only [hL]
    cases hc:zbj P L f ((s.ct,.lp s.tm ps as_ body 0 .none)::s.hp) (s.ct+1) n (first++(.fn (.y s.ct) [] []::cap)) with
    | none=>simp [hc] at hr
    | some q=>rw [zfw h _ _ _ _ _ hc];simpa only [hc] using hr
  ·simp at hr
 | .exit id,s,r,hr=>by simpa only [zF] using hr
 | .ret,s,r,hr=>by simpa only [zF] using hr
end
theorem zhc (P:zN) (L:Lib) (c:VC) (s:St):ev P L 0 c s=none:=rfl
theorem zfV (P:zN) (L:Lib) (n:Nat):ev P L (n+1)=zF P L (ev P L n):=rfl
theorem zDf (P:zN) (L:Lib):∀n,Le (ev P L n) (ev P L (n+1))
 | 0=>fun c s r h=>by rw [zhc] at h;cases h
 | n+1=>fun c s r h=>by
  rw [zfV] at h ⊢;exact zaS (zDf P L n) c s r h
theorem zmA (P:zN) (L:Lib) {n m:Nat} (h:n≤m):Le (ev P L n) (ev P L m):=by
 induction h with
 | refl=>exact fun _ _ _ h=>h
 | step _ ih=>exact fun c s r hr=>zDf P L _ c s r (ih c s r hr)
end VE
end
