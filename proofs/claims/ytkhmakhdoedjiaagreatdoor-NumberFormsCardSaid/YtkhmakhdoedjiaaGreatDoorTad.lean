import Derived.ChangeKeysEq
import Derived.Test.YtkhmakhdoedjiaaGreatDoorTac
set_option linter.all false
set_option maxRecDepth 100000
section
namespace VE
open Go
theorem zl1 (p q:ByteArray):(p==q)=eqL (zcn p) (zcn q):=by
 have h:(p==q)=(p.data==q.data):=by cases p;cases q;rfl
 rw [h,zl6,ByteArray.toList_eq,ByteArray.toList_eq];rw [Bool.eq_iff_iff,beq_iff_eq,beq_iff_eq];constructor
 ·intro e;rw [e]
 ·intro e;have:=congrArg List.toArray e;simpa using this
def zAY:TypeDesc→Bool
 | .bool | .int _ | .string=>true
 | _=>false
def zka (d:TypeDesc) (v:AV):Bool:=
 match d,v with
 | .int _,.int _ _ | .string,.str _ | .bool,.bool _=>true
 | _,_=>false
def zDI (fid:Nat→Nat) (m:Mp) (S:Nat→Prop) (w:World) (f:Option (Option (Nat×Value))):Option AV→Prop
 | none=>f=some none
 | some v=>∃j u,f=some (some (j,u))∧zm fid m S w v u
section
variable {Λ:Link} {fid:Nat→Nat} {m:Mp} {S:Nat→Prop} {w:World}
theorem zoj {vk vk':AV} {k k':Value} {r:Bool} {d:TypeDesc} (hk:zm fid m S w vk k) (hk':zm fid m S w vk' k') (h:zll vk vk'=some r)
  (hd:zka d vk=true):Instr.sameNow d k k'=some r:=by
 unfold zll at h
 split at h
 ·rename_i j x j' y;simp only [zm] at hk hk';subst hk;subst hk';by_cases hj:j=j'
  ·simp only [hj,if_true,Option.some.injEq] at h;subst hj;cases d<;>simp [zka] at hd
   simpa [Instr.sameNow] using h
  ·simp [hj] at h
 ·simp only [zm] at hk hk';obtain ⟨s,rfl,rfl⟩:=hk;obtain ⟨s',rfl,rfl⟩:=hk';simp only [Option.some.injEq] at h;cases d<;>simp [zka] at hd
  simp only [Instr.sameNow,zl1];rw [←h];rfl
 ·simp only [zm] at hk hk';subst hk;subst hk';simp only [Option.some.injEq] at h;cases d<;>simp [zka] at hd
  simp [Instr.sameNow,h]
 ·cases h
theorem zjr {vk:AV} {k:Value} {d:TypeDesc} (hk:zm fid m S w vk k)
  (hd:zka d vk=true):∀(ks vs:List AV) (es:List MapEntry) (i:Nat) (r:Option AV),
  zi fid m S w ks (es.map (·.key))→zi fid m S w vs (es.map (·.val))→zj3 vk ks vs=some r→zDI fid m S w (Instr.findNow d k es i) r
 | [],vs,es,i,r,h1,h2,h=>by
  simp only [zi,List.map_eq_nil_iff] at h1;subst h1;simp only [zj3,Option.some.injEq] at h;subst h;rfl
 | c::ks,[],es,i,r,h1,h2,h=>by simp only [zj3] at h;cases h
 | c::ks,v::vs,es,i,r,h1,h2,h=>by
  cases es with
  | nil=>simp [zi] at h1
  | cons e es=>
   simp only [List.map_cons,zi,List.cons.injEq] at h1 h2;obtain ⟨u,t,⟨rfl,rfl⟩,hc,hks⟩:=h1;obtain ⟨u',t',⟨rfl,rfl⟩,hv,hvs⟩:=h2;simp only [zj3] at h
   cases hke:zll vk c with
   | none=>simp [hke] at h
   | some b=>
    have hs:=zoj (d:=d) hk hc hke hd
    cases b with
    | true=>
     simp only [hke,Option.some.injEq] at h;subst h;exact ⟨i,e.val,by simp [Instr.findNow,hs],hv⟩
    | false=>
     simp only [hke] at h;have ih:=zjr hk hd ks vs es (i+1) r hks hvs h;simpa [Instr.findNow,hs] using ih
theorem zbm {P:Program} {kt:TypeId} {d:TypeDesc} (hu:P.underlying kt=some d) (hd:zAY d=true) (b:Bool) (k:Value):(Instr.checkKey b 10000 kt k).run P w= .ok () w:=by
 have:∀n,(Instr.checkKey b (n+1) kt k).run P w= .ok () w:=by
  intro n;cases d<;>simp [zAY] at hd<;>simp [Instr.checkKey,run_underlying hu]
 exact this 9999
theorem zKm {t kt e:TypeId} {d:TypeDesc} {ok:Bool} {hp:Hp} {ct:Nat} {vx vk v:AV} {x k zero:Value} (hh:zR Λ m S w hp ct) (hu:Λ.P.underlying t=some (.map kt e)) (hk:Λ.P.underlying kt=some d) (hd:zAY d=true)
  (hdk:zka d vk=true)
  (hz:(zeroValue e).run Λ.P w= .ok zero w) (hx:zm Λ.fid m S w vx x) (hkr:zm Λ.fid m S w vk k) {z:AV} (hzr:zm Λ.fid m S w z zero)
  {r:Option AV}
  (hr:ziw hp vk vx=some r)
  (hv:(match r with | some u=>(bif ok then AV.tup [u,.bool true] else u) | none=>(bif ok then AV.tup [z,.bool false] else z))=v):
  ∃u,(Instr.lookup t x k ok).run Λ.P w= .ok u w∧zm Λ.fid m S w v u:=by
 have fin:∀(u:AV) (uu:Value) (b:Bool),zm Λ.fid m S w u uu→zm Λ.fid m S w (bif ok then AV.tup [u,.bool b] else u) (if ok then .tuple #[uu,.bool b] else uu):=by
  intro u uu b h
  cases ok with
  | true=>simp only [cond_true,if_true,zm,zi];exact ⟨_,rfl,_,_,rfl,h,_,_,rfl,rfl,rfl⟩
  | false=>simpa using h
 have body:∀(x':Value) (es:Array MapEntry),((x'= .map none∧es=#[])∨∃b clock,x'= .map (some b)∧w.heap[b]? =some (.map es clock))→zDI Λ.fid m S w (Instr.findNow d k es.toList 0) r→
   ∃u,(Instr.lookup t x' k ok).run Λ.P w= .ok u w∧zm Λ.fid m S w v u:=by
  intro x' es hl hf
  cases r with
  | none=>
   have hf':Instr.findNow d k es.toList 0=some none:=hf;refine ⟨if ok then .tuple #[zero,.bool false] else zero,?_,by rw [←hv];exact fin z zero false hzr⟩
   rcases hl with ⟨rfl,rfl⟩ | ⟨b,clock,rfl,hb⟩
   ·have hf'':Instr.findNow d k [] 0=some none:=rfl;simp [Instr.lookup,run_underlying hu,zbm hk hd,Instr.findKey,run_underlying hk,hf'',hz]
   ·simp [Instr.lookup,run_underlying hu,getObj,Sem.run,hb,zbm hk hd,Instr.findKey,run_underlying hk,hf',hz]
  | some v'=>
   obtain ⟨j,u,h1,h2⟩:=hf;refine ⟨if ok then .tuple #[u,.bool true] else u,?_,by rw [←hv];exact fin v' u true h2⟩
   rcases hl with ⟨rfl,rfl⟩ | ⟨b,clock,rfl,hb⟩
   ·have hf'':Instr.findNow d k [] 0=some none:=rfl;rw [show (#[]:Array MapEntry).toList=[] from rfl,hf''] at h1;cases h1
   ·simp [Instr.lookup,run_underlying hu,getObj,Sem.run,hb,zbm hk hd,Instr.findKey,run_underlying hk,h1]
 cases vx<;>simp only [ziw,reduceCtorEq] at hr
 case nilm=>
  simp only [Option.some.injEq] at hr;subst hr;simp only [zm] at hx;subst hx;exact body _ #[] (.inl ⟨rfl,rfl⟩) rfl
 case map id=>
  simp only [zm] at hx;obtain ⟨p,hm,rfl⟩:=hx
  split at hr
  case h_2=>cases hr
  rename_i rw0 ks vs hget0;obtain ⟨p',es,clock,hm',hb,h1,h2,_⟩:=hh.obj id _ _ hget0 hm;rw [hm] at hm';injection hm' with hm';subst hm'
  exact body _ es (.inr ⟨_,_,rfl,hb⟩) (zjr hkr hdk ks vs es.toList 0 r h1 h2 hr)
 case vmap ks vs=>
  simp only [zm] at hx;obtain ⟨b,es,clock,rfl,_,_,_,hb,h1,h2⟩:=hx;exact body _ es (.inr ⟨_,_,rfl,hb⟩) (zjr hkr hdk ks vs es.toList 0 r h1 h2 hr)
end
end VE
end
section
namespace VE
open Go
theorem zbO:∀(k1 k2:List Nat) (a b:List AV) (r:Bool),zaa (k1++k2) a b=some r→
  ∃r1 r2,zaa k1 (a.take k1.length) (b.take k1.length)=some r1∧zaa k2 (a.drop k1.length) (b.drop k1.length)=some r2∧r=(r1&&r2)
 | [],k2,a,b,r,h=>⟨true,r,by simp [zaa],by simpa using h,by simp⟩
 | k::k1,k2,[],b,r,h=>by
  simp only [List.cons_append] at h;unfold zaa at h
  split at h<;>simp_all
 | k::k1,k2,x::a,[],r,h=>by
  simp only [List.cons_append] at h;unfold zaa at h
  split at h<;>simp_all
 | k::k1,k2,x::a,y::b,r,h=>by
  simp only [List.cons_append] at h;have step:∀(q:Bool) (f:Bool→Bool),(match zaa (k1++k2) a b with | some r=>some (f r) | none=>none)=some q→∃r0,zaa (k1++k2) a b=some r0∧q=f r0:=by
   intro q f hq
   cases he:zaa (k1++k2) a b with
   | none=>simp [he] at hq
   | some r0=>simp only [he,Option.some.injEq] at hq;exact ⟨r0,rfl,hq.symm⟩
  unfold zaa at h
  split at h
  ·simp_all
  ·rename_i e1 e2 e3;simp only [List.cons.injEq] at e1 e2 e3;obtain ⟨rfl,rfl⟩:=e1;obtain ⟨rfl,rfl⟩:=e2;obtain ⟨rfl,rfl⟩:=e3;obtain ⟨r0,h0,rfl⟩:=step r _ h;obtain ⟨r1,r2,h1,h2,rfl⟩:=zbO k1 k2 _ _ r0 h0;exact ⟨_,r2,by simp only [List.length_cons,List.take_succ_cons,zaa,h1],by simpa using h2,(Bool.and_assoc _ _ _).symm⟩
  ·rename_i e1 e2 e3;simp only [List.cons.injEq] at e1 e2 e3;obtain ⟨rfl,rfl⟩:=e1;obtain ⟨rfl,rfl⟩:=e2;obtain ⟨rfl,rfl⟩:=e3
   split at h
   ·rename_i hk;obtain ⟨r0,h0,rfl⟩:=step r _ h;obtain ⟨r1,r2,h1,h2,rfl⟩:=zbO k1 k2 _ _ r0 h0;exact ⟨_,r2,by simp only [List.length_cons,List.take_succ_cons,zaa,h1,hk,if_true],by simpa using h2,(Bool.and_assoc _ _ _).symm⟩
   ·cases h
  ·rename_i e1 e2 e3;simp only [List.cons.injEq] at e1 e2 e3;obtain ⟨rfl,rfl⟩:=e1;obtain ⟨rfl,rfl⟩:=e2;obtain ⟨rfl,rfl⟩:=e3;obtain ⟨r0,h0,rfl⟩:=step r _ h;obtain ⟨r1,r2,h1,h2,rfl⟩:=zbO k1 k2 _ _ r0 h0;exact ⟨_,r2,by simp only [List.length_cons,List.take_succ_cons,zaa,h1],by simpa using h2,(Bool.and_assoc _ _ _).symm⟩
  ·cases h
theorem ziK:∀(ks:List Nat) (a b:List AV) (r:Bool),zaa ks a b=some r→a.length=ks.length∧b.length=ks.length
 | [],a,b,r,h=>by
  unfold zaa at h
  split at h<;>simp_all
 | k::ks,[],b,r,h=>by
  unfold zaa at h
  split at h<;>simp_all
 | k::ks,x::a,[],r,h=>by
  unfold zaa at h
  split at h<;>simp_all
 | k::ks,x::a,y::b,r,h=>by
  have:∃r0,zaa ks a b=some r0:=by
   cases he:zaa ks a b with
   | some r0=>exact ⟨r0,rfl⟩
   | none=>unfold zaa at h;split at h<;>simp_all
  obtain ⟨r0,h0⟩:=this
  have:=ziK ks a b r0 h0
  simp [this]
def VOf (P:Program) (t:TypeId) (x:Value) (xs:List Value):Prop:=(zbx P t=some true∧x= .agg xs.toArray)∨(zbx P t=some false∧xs=[x])
section
variable {P:Program} {fid:Nat→Nat} {m:Mp} {S:Nat→Prop} {w:World}
theorem zgW {t:TypeId} {ag:Bool} (ha:zbx P t=some ag):(isAgg t).run P w= .ok ag w:=by
 unfold zbx at ha
 cases hu:P.underlying t with
 | none=>simp [hu] at ha
 | some d=>cases d<;>simp_all [isAgg,underlying]
theorem zxp {t:TypeId} {s o:Nat} {xs:List Value} (hz:szT P t=some s) (ha:∃ag,zbx P t=some ag) (h1:zbx P t=some false→s=1) (hl:o+s≤xs.length):
  ∃u,(part t xs.toArray o).run P w= .ok u w∧VOf P t u ((xs.drop o).take s):=by
 obtain ⟨ag,ha⟩:=ha
 cases ag with
 | true=>
  refine ⟨.agg ((xs.drop o).take s).toArray,?_,.inl ⟨ha,rfl⟩⟩;simp [part,zgW ha,zaC hz,List.extract_eq_take_drop]
 | false=>
  have hs:=h1 ha;subst hs;have hlt:o<xs.length:=by omega
  refine ⟨xs[o],?_,.inr ⟨ha,?_⟩⟩
  ·simp [part,zgW ha,List.getElem?_eq_getElem hlt]
  ·rw [List.drop_eq_getElem_cons hlt,List.take_succ_cons,List.take_zero]
theorem zts {n:Nat} {t:TypeId} {ks:List Nat} (h:zcQ P n t=some ks):∃ag,zbx P t=some ag∧(ag=false→ks.length=1):=by
 cases n with
 | zero=>simp [zcQ] at h
 | succ n=>
  unfold zcQ at h;unfold zbx
  split at h<;>simp_all
  all_goals (rw [←h];rfl)
def zv8 (P:Program) (fid:Nat→Nat) (m:Mp) (S:Nat→Prop) (w:World) (n:Nat):Prop:=
 ∀(t:TypeId) (ks:List Nat),zcQ P n t=some ks→P.stoodInHeld t=false→∀(d:Nat),n≤d→∀(xs ys:List Value) (cs cs':List AV) (r:Bool) (x y:Value),
  zi fid m S w cs xs→zi fid m S w cs' ys→zaa ks cs cs'=some r→VOf P t x xs→VOf P t y ys→(Op.equalIn d t x y).run P w= .ok r w
theorem zlZ {n:Nat} (ih:zv8 P fid m S w n) {t:TypeId} {ks:List Nat} {s o d:Nat} (hk:zcQ P n t=some ks) (hst:P.stoodInHeld t=false) (hz:szT P t=some s) (hs:ks.length=s) (hd:n≤d)
  {xs ys:List Value} {cs cs':List AV} (h1:zi fid m S w cs xs) (h2:zi fid m S w cs' ys) {r:Bool} (he:zaa ks ((cs.drop o).take s) ((cs'.drop o).take s)=some r):
  ∃u u',(part t xs.toArray o).run P w= .ok u w∧(part t ys.toArray o).run P w= .ok u' w∧(Op.equalIn d t u u').run P w= .ok r w:=by
 obtain ⟨ag,ha,h1s⟩:=zts hk;obtain ⟨l1,l2⟩:=ziK _ _ _ _ he;have q1:=zax _ _ h1;have q2:=zax _ _ h2;simp only [List.length_take,List.length_drop] at l1 l2;have hs1:zbx P t=some false→s=1:=fun h=>by
  rw [h] at ha;injection ha with ha
  rw [←hs];exact h1s ha.symm
 have hl1:o+s≤xs.length∨s=0:=by omega
 have hl2:o+s≤ys.length∨s=0:=by omega
 have get:∀(zs:List Value),(o+s≤zs.length∨s=0)→∃u,(part t zs.toArray o).run P w= .ok u w∧VOf P t u ((zs.drop o).take s):=by
  intro zs hl;rcases hl with hl | hl
  ·exact zxp hz ⟨ag,ha⟩ hs1 hl
  ·subst hl
   cases ag with
   | false=>have:=hs1 ha;omega
   | true=>
    refine ⟨.agg ((zs.drop o).take 0).toArray,?_,.inl ⟨ha,rfl⟩⟩;simp [part,zgW ha,zaC hz]
 obtain ⟨u,p1,v1⟩:=get xs hl1;obtain ⟨u',p2,v2⟩:=get ys hl2;exact ⟨u,u',p1,p2,ih t ks hk hst d hd _ _ _ _ r u u' (zdJ s (zeM o h1)) (zdJ s (zeM o h2)) he v1 v2⟩
theorem ziE {n:Nat} (ih:zv8 P fid m S w n) {d:Nat} (hd:n≤d) {xs ys:List Value} {cs cs':List AV} (h1:zi fid m S w cs xs) (h2:zi fid m S w cs' ys):
  ∀(fs:List Field) (o:Nat) (ks:List Nat) (r:Bool),zcX P (fun u=>zcQ P n u) fs o=some ks→zaa ks (cs.drop o) (cs'.drop o)=some r→(Op.eqFields d xs.toArray ys.toArray fs).run P w= .ok r w
 | [],o,ks,r,h,he=>by
  simp only [zcX,Option.some.injEq] at h;subst h;unfold zaa at he
  split at he<;>simp_all [Op.eqFields]
 | f::fs,o,ks,r,h,he=>by
  simp only [zcX] at h
  cases hk:zcQ P n f.type with
  | none=>simp [hk] at h
  | some kf=>
   cases hz:szT P f.type with
   | none=>simp [hk,hz] at h
   | some s=>
    simp only [hk,hz] at h
    cases hc:(f.name != "_"&&Nat.beq f.offset o&&Nat.beq kf.length s&& !P.stoodInHeld f.type) with
    | false=>rw [hc] at h;cases h
    | true=>
     rw [hc] at h;simp only [cond_true] at h;simp only [Bool.and_eq_true,bne_iff_ne,Bool.not_eq_true'] at hc;obtain ⟨⟨⟨hn,ho⟩,hl⟩,hst⟩:=hc;have ho:=Nat.eq_of_beq_eq_true ho;have hl:=Nat.eq_of_beq_eq_true hl
     cases hr:zcX P (fun u=>zcQ P n u) fs (o+s) with
     | none=>simp [hr] at h
     | some kr=>
      simp only [hr,Option.some.injEq] at h;subst h;obtain ⟨r1,r2,e1,e2,rfl⟩:=zbO _ _ _ _ _ he;rw [hl] at e1 e2;rw [List.drop_drop,List.drop_drop] at e2;obtain ⟨u,u',p1,p2,p3⟩:=zlZ ih (o:=o) hk hst hz hl hd h1 h2 e1;have rest:=ziE ih hd h1 h2 fs (o+s) kr r2 hr e2;subst ho;simp only [Op.eqFields]
      cases r1 with
      | true=>simp [hn,p1,p2,p3,rest]
      | false=>simp [hn,p1,p2,p3]
theorem zj4 {n:Nat} (ih:zv8 P fid m S w n) {d:Nat} (hd:n≤d) {xs ys:List Value} {cs cs':List AV} (h1:zi fid m S w cs xs) (h2:zi fid m S w cs' ys)
  {e:TypeId} {ks:List Nat} {s:Nat} (hk:zcQ P n e=some ks) (hst:P.stoodInHeld e=false) (hz:szT P e=some s) (hl:ks.length=s):
  ∀(k j:Nat) (r:Bool),zaa (List.replicate k ks).flatten (cs.drop (j*s)) (cs'.drop (j*s))=some r→(Op.eqItems d e s xs.toArray ys.toArray (List.range' j k)).run P w= .ok r w
 | 0,j,r,he=>by
  unfold zaa at he
  split at he<;>simp_all [Op.eqItems]
 | k+1,j,r,he=>by
  rw [List.replicate_succ,List.flatten_cons] at he;obtain ⟨r1,r2,e1,e2,rfl⟩:=zbO _ _ _ _ _ he;rw [hl] at e1 e2;rw [List.drop_drop,List.drop_drop,show j*s+s=(j+1)*s by rw [Nat.add_mul,Nat.one_mul]] at e2;obtain ⟨u,u',p1,p2,p3⟩:=zlZ ih (o:=j*s) hk hst hz hl hd h1 h2 e1;have rest:=zj4 ih hd h1 h2 hk hst hz hl k (j+1) r2 e2;rw [List.range'_succ];simp only [Op.eqItems]
  cases r1 with
  | true=>simp [p1,p2,p3,rest]
  | false=>simp [p1,p2,p3]
theorem zoR:∀(n:Nat) (t:TypeId) (ks:List Nat),zcQ P n t=some ks→P.stoodInHeld t=false→∀(d:Nat),n≤d→∀(xs ys:List Value) (cs cs':List AV) (r:Bool) (x y:Value),
  zi fid m S w cs xs→zi fid m S w cs' ys→zaa ks cs cs'=some r→VOf P t x xs→VOf P t y ys→(Op.equalIn d t x y).run P w= .ok r w
 | 0,t,ks,h,_,_,_,_,_,_,_,_,_,_,_,_,_,_,_=>by simp [zcQ] at h
 | n+1,t,ks,h,hst,0,hd,_,_,_,_,_,_,_,_,_,_,_,_=>by omega
 | n+1,t,ks,h,hst,d+1,hd,xs,ys,cs,cs',r,x,y,h1,h2,he,hx,hy=>by
  unfold zcQ at h;have one:∀{k:Nat},ks=[k]→zbx P t=some false→∃c c',cs=[c]∧cs'=[c']∧zm fid m S w c x∧zm fid m S w c' y:=by
   intro k hk ha;rcases hx with ⟨hx,_⟩ | ⟨_,rfl⟩
   ·rw [ha] at hx;cases hx
   rcases hy with ⟨hy,_⟩ | ⟨_,rfl⟩
   ·rw [ha] at hy;cases hy
   have l1:=zax _ _ h1;have l2:=zax _ _ h2
   match cs,cs',l1,l2 with
   | [c],[c'],_,_=>
    simp only [zi] at h1 h2;obtain ⟨u,q,e1,e2,_⟩:=h1;obtain ⟨u',q',e1',e2',_⟩:=h2;simp only [List.cons.injEq] at e1 e1';obtain ⟨rfl,_⟩:=e1;obtain ⟨rfl,_⟩:=e1';exact ⟨c,c',rfl,rfl,e2,e2'⟩
  split at h
  ·rename_i hu;simp only [Option.some.injEq] at h;have ha:zbx P t=some false:=by simp [zbx,hu]
   obtain ⟨c,c',rfl,rfl,r1,r2⟩:=one h.symm ha;subst h;unfold zaa at he
   split at he<;>simp_all [zaa]
   subst he;simp only [zm] at r1 r2;subst r1;subst r2;simp [Op.equalIn,run_underlying hu]
  ·rename_i k0 hu;simp only [Option.some.injEq] at h;have ha:zbx P t=some false:=by simp [zbx,hu]
   obtain ⟨c,c',rfl,rfl,r1,r2⟩:=one h.symm ha;subst h;unfold zaa at he
   split at he<;>simp_all [zaa]
   obtain ⟨hk,he⟩:=he;subst he;simp only [zm] at r1 r2;subst r1;subst r2;simp [Op.equalIn,run_underlying hu]
  ·rename_i hu;simp only [Option.some.injEq] at h;have ha:zbx P t=some false:=by simp [zbx,hu]
   obtain ⟨c,c',rfl,rfl,r1,r2⟩:=one h.symm ha;subst h;unfold zaa at he
   split at he<;>simp_all [zaa]
   subst he;simp only [zm] at r1 r2;obtain ⟨s,rfl,rfl⟩:=r1;obtain ⟨s',rfl,rfl⟩:=r2;simp only [Op.equalIn,Sem.run_bind,run_underlying hu,Result.andThen_ok,Sem.run_pure,zl1];rfl
  ·rename_i fs hu;have ha:zbx P t=some true:=by simp [zbx,hu]
   rcases hx with ⟨_,rfl⟩ | ⟨hx,_⟩
   ·rcases hy with ⟨_,rfl⟩ | ⟨hy,_⟩
    ·have hf:P.fieldsOf t=fs:=by simp [Program.fieldsOf,hu]
     rw [run_equalIn_struct w d t _ _ (by rw [hf];exact hu) hst,hf]
     exact ziE (zoR n) (by omega) h1 h2 fs.toList 0 ks r h (by simpa using he)
    ·rw [ha] at hy;cases hy
   ·rw [ha] at hx;cases hx
  ·rename_i k e hu;have ha:zbx P t=some true:=by simp [zbx,hu]
   rcases hx with ⟨_,rfl⟩ | ⟨hx,_⟩
   ·rcases hy with ⟨_,rfl⟩ | ⟨hy,_⟩
    ·cases hk:zcQ P n e with
     | none=>simp [hk] at h
     | some ke=>
      cases hz:szT P e with
      | none=>simp [hk,hz] at h
      | some s=>
       simp only [hk,hz] at h
       cases hc:(Nat.beq ke.length s&& !P.stoodInHeld e) with
       | false=>rw [hc] at h;cases h
       | true=>
        rw [hc] at h;simp only [cond_true,Option.some.injEq] at h;subst h;simp only [Bool.and_eq_true,Bool.not_eq_true'] at hc;have hz':=hz;unfold szT at hz'
        cases hi:P.info? e with
        | none=>simp [hi] at hz'
        | some i=>
         simp only [hi,Option.some.injEq] at hz';have hcs:P.cellsOf e=s:=by simp [Program.cellsOf,hi,hz']
         rw [run_equalIn_array w d _ _ hu hi,hcs,List.range_eq_range'];exact zj4 (zoR n) (by omega) h1 h2 hk hc.2 hz (Nat.eq_of_beq_eq_true hc.1) k 0 r (by simpa using he)
    ·rw [ha] at hy;cases hy
   ·rw [ha] at hx;cases hx
  ·cases h
end
end VE
end
section
namespace VE
open Go
theorem zP {tm:Env} {hp:Hp} {v:AV} (h:zB tm hp bad=some v):False:=by simp [bad,zB] at h
section
variable {Λ:Link} {H:zbH} {m:Mp} {S:Nat→Prop} {w:World} {tm:Env} {a:Act} {hp:Hp} {ct:Nat}
theorem zzX {fid:Nat→Nat} {va vb v:AV} {x y:Value} (hx:zm fid m S w va x) (hy:zm fid m S w vb y) (h:VE.min2 va vb=some v):∃u,(Builtin.min2 x y).run Λ.P w= .ok u w∧zm fid m S w v u:=by
 unfold VE.min2 at h
 split at h
 ·simp only [zm] at hx hy;subst hx;subst hy;simp only [Option.some.injEq] at h;subst h;exact ⟨_,by simp only [Builtin.min2,Sem.run_pure];rfl,by simp only [zm]⟩
 ·rename_i k p k' q;simp only [zm] at hx hy;subst hx;subst hy
  cases ho:k.format.order p q with
  | none=>simp [ho] at h
  | some c=>cases c<;>(simp only [ho,Option.some.injEq] at h;subst h;exact ⟨_,by simp only [Builtin.min2,ho,Sem.run_pure];rfl,by simp only [zm]⟩)
 ·cases h
theorem zAn {fid:Nat→Nat} {va vb v:AV} {x y:Value} (hx:zm fid m S w va x) (hy:zm fid m S w vb y) (h:VE.max2 va vb=some v):∃u,(Builtin.max2 x y).run Λ.P w= .ok u w∧zm fid m S w v u:=by
 unfold VE.max2 at h
 split at h
 ·simp only [zm] at hx hy;subst hx;subst hy;simp only [Option.some.injEq] at h;subst h;exact ⟨_,by simp only [Builtin.max2,Sem.run_pure];rfl,by simp only [zm]⟩
 ·rename_i k p k' q;simp only [zm] at hx hy;subst hx;subst hy
  cases ho:k.format.order p q with
  | none=>simp [ho] at h
  | some c=>cases c<;>(simp only [ho,Option.some.injEq] at h;subst h;exact ⟨_,by simp only [Builtin.max2,ho,Sem.run_pure];rfl,by simp only [zm]⟩)
 ·cases h
theorem zmF {fid:Nat→Nat} {f:AV→AV→Option AV} {g:Value→Value→Sem Value} (hfg:∀va vb v x y,zm fid m S w va x→zm fid m S w vb y→f va vb=some v→∃u,(g x y).run Λ.P w= .ok u w∧zm fid m S w v u):
  ∀(l:List AV) (us:List Value) (va v:AV) (x:Value),zm fid m S w va x→zi fid m S w l us→ziv f va l=some v→∃u,(us.foldlM g x).run Λ.P w= .ok u w∧zm fid m S w v u
 | [],us,va,v,x,hx,hl,h=>by
  simp only [zi] at hl;subst hl;simp only [ziv,Option.some.injEq] at h;subst h;exact ⟨x,by simp,hx⟩
 | b::l,us,va,v,x,hx,hl,h=>by
  simp only [zi] at hl;obtain ⟨u,r,rfl,hu,hr⟩:=hl;simp only [ziv] at h
  cases hf:f va b with
  | none=>simp [hf] at h
  | some c=>
   simp only [hf] at h;obtain ⟨u1,h1,h2⟩:=hfg _ _ _ _ _ hx hu hf;obtain ⟨u2,h3,h4⟩:=zmF hfg l r c v u1 h2 hr h;exact ⟨u2,by simp [h1,h3],h4⟩
theorem zpq {t:TypeId} {vx v:AV} {x:Value} {ty:TypeId} (hh:zR Λ m S w hp ct) (hx:zm Λ.fid m S w vx x)
  {k:Nat} (hu:(k=0∧Λ.P.underlying t=some .string)∨(k=1∧∃e,Λ.P.underlying t=some (.slice e))∨(k=2∧∃kt e,Λ.P.underlying t=some (.map kt e)))
  (h:zb8 hp k vx=some v):∃u,(Builtin.len_ #[t] ty #[x]).run Λ.P w= .ok u w∧zm Λ.fid m S w v u:=by
 rcases hu with ⟨rfl,hu⟩ | ⟨rfl,e,hu⟩ | ⟨rfl,kt,e,hu⟩
 all_goals cases vx<;>simp only [zb8,reduceCtorEq] at h
 case inl.str s=>
  simp only [zm] at hx;obtain ⟨b,rfl,rfl⟩:=hx;simp only [Option.some.injEq] at h;subst h;refine ⟨_,by simp [Builtin.len_,run_underlying hu];rfl,?_⟩
  simp only [zm,goInt];rw [Lib.size_eq];simp
 case inr.inl.nils=>
  simp only [zm] at hx;subst hx;simp only [Option.some.injEq] at h;subst h;exact ⟨_,by simp [Builtin.len_,run_underlying hu];rfl,by simp [zm,goInt]⟩
 case inr.inl.vsl ex n cs=>
  simp only [zm] at hx;rcases hx with ⟨b,o,c,rfl,_⟩ | ⟨a,rfl,rfl,rfl⟩
  all_goals
   simp only [Option.some.injEq] at h;subst h;exact ⟨_,by simp [Builtin.len_,run_underlying hu];rfl,by simp [zm,goInt]⟩
 case inr.inl.osl id o n=>
  simp only [zm] at hx;obtain ⟨p,c,_,rfl,_⟩:=hx;simp only [Option.some.injEq] at h;subst h;exact ⟨_,by simp [Builtin.len_,run_underlying hu];rfl,by simp [zm,goInt]⟩
 case inr.inr.nilm=>
  simp only [zm] at hx;subst hx;simp only [Option.some.injEq] at h;subst h;exact ⟨_,by simp [Builtin.len_,run_underlying hu];rfl,by simp [zm,goInt]⟩
 case inr.inr.vmap ks vs=>
  simp only [zm] at hx;obtain ⟨b,es,clock,rfl,_,_,_,hb,h1,_⟩:=hx;simp only [Option.some.injEq] at h;subst h;refine ⟨_,by simp [Builtin.len_,run_underlying hu,getObj,Sem.run,hb];rfl,?_⟩
  have:=zax _ _ h1
  simp only [zm,goInt];rw [←this];simp
 case inr.inr.map id=>
  simp only [zm] at hx;obtain ⟨p,hm,rfl⟩:=hx
  split at h
  case h_2=>cases h
  rename_i rw0 ks vs hget0;simp only [Option.some.injEq] at h;subst h;obtain ⟨p',es,clock,hm',hb,h1,_⟩:=hh.obj id _ _ hget0 hm;rw [hm] at hm';injection hm' with hm';subst hm'
  refine ⟨_,by simp [Builtin.len_,run_underlying hu,getObj,Sem.run,hb];rfl,?_⟩
  have:=zax _ _ h1
  simp only [zm,goInt];rw [←this];simp
end
end VE
end
section
namespace VE
open Go
section
variable {Λ:Link} {H:zbH} {m:Mp} {S:Nat→Prop} {w:World} {tm:Env} {a:Act} {hp:Hp} {ct:Nat}
theorem zf0 {t:TypeId} {z:AV} (h:zea Λ.P t=some z):∃v,(zeroValue t).run Λ.P w= .ok v w∧z=zaU v:=by
 unfold zea at h
 cases hi:Λ.P.info? t with
 | none=>simp [hi] at h
 | some i=>
  simp only [hi] at h
  cases hz:i.zero with
  | none=>simp [hz] at h
  | some v=>
   simp only [hz,Option.some.injEq] at h;exact ⟨v,by simp [zeroValue,typeInfo,hi,hz],h.symm⟩
def zg9 (Λ:Link) (m:Mp) (S:Nat→Prop) (w:World) (a:Act) (o:Oper) (v:AV):Prop:=
 ∃u,(execOp a.eval o).run Λ.P w= .ok (.value u) w∧zm Λ.fid m S w v u
theorem zaO {o:Oper} {v:AV} {s:Sem Value} (he:execOp a.eval o=(do pure (.value (←s)):Sem Next)) (h:∃u,s.run Λ.P w= .ok u w∧zm Λ.fid m S w v u):zg9 Λ m S w a o v:=by
 obtain ⟨u,h1,h2⟩:=h;exact ⟨u,by rw [he];simp [h1],h2⟩
theorem zxV {o:Oper} {op:BinOp} {t ty:TypeId} {x y:Operand} {k:Nat} {v:AV} (hH:zaM Λ H) (ht:zaB Λ m S w tm a.tmps) (ho:o.op= .binOp op t x y ty)
  (hv:zB tm hp (zt Λ.P H k o)=some v):zg9 Λ m S w a o v:=by
 have rx:=zad hH ht x;have ry:=zad hH ht y;have guard:∀{u:Value},(∀xs ys,¬(a.eval x= .agg xs∧a.eval y= .agg ys))∨Λ.P.eqGuardType Λ.P.depth t=false→a.eval x≠.nilIface→(Go.binOp op t (a.eval x) (a.eval y)).run Λ.P w= .ok u w→
   (do eqGuard op t x y (a.eval x) (a.eval y);Go.binOp op t (a.eval x) (a.eval y):Sem Value).run Λ.P w= .ok u w:=by
  intro u h1 h2 h3
  simp only [Sem.run_bind,zpd (P:=Λ.P) (w:=w) (t:=t) (op:=op) (x:=x) (y:=y) (h1.symm) h2,Result.andThen_ok,h3]
 have ziI:zB tm hp (.bin op (opX H x) (opX H y))=some v→zg9 Λ m S w a o v:=by
  intro hv;simp only [zB] at hv;obtain ⟨u,h1,h2⟩:=zv7 (P:=Λ.P) (t:=t) rx ry hv
  refine zaO (s:=do eqGuard op t x y (a.eval x) (a.eval y);Go.binOp op t (a.eval x) (a.eval y)) (by simp only [execOp,ho]) ⟨u,guard (.inl ?_) ?_ h1,h2⟩
  ·rintro xs ys ⟨e1,e2⟩;rw [e1] at rx;unfold VE.binOp at hv
   split at hv
   ·rename_i h3 _;rw [h3] at rx;simp [zm] at rx
   ·rename_i h3 _;rw [h3] at rx;simp [zm] at rx
   ·rename_i h3 _;rw [h3] at rx;simp [zm] at rx
   ·cases hv
  ·intro e1;rw [e1] at rx;unfold VE.binOp at hv
   split at hv
   ·rename_i h3 _;rw [h3] at rx;simp [zm] at rx
   ·rename_i h3 _;rw [h3] at rx;simp [zm] at rx
   ·rename_i h3 _;rw [h3] at rx;simp [zm] at rx
   ·cases hv
 have other:∀(ne:Bool) (kd:VE.EqK),(op= .eql∧ne=false∨op= .neq∧ne=true)→(∀r,zeI kd (zp tm (opX H x)) (zp tm (opX H y))=some r→(Op.equal t (a.eval x) (a.eval y)).run Λ.P w= .ok r w∧
    ((∀xs ys,¬(a.eval x= .agg xs∧a.eval y= .agg ys))∨Λ.P.eqGuardType Λ.P.depth t=false)∧a.eval x≠.nilIface∧
    ∀q:Bool,(op= .eql→Go.binOp op t (a.eval x) (a.eval y)=(do pure (.bool (←Op.equal t (a.eval x) (a.eval y)))))∧(op= .neq→Go.binOp op t (a.eval x) (a.eval y)=(do pure (.bool (!(←Op.equal t (a.eval x) (a.eval y)))))))→
   zB tm hp (.eq ne kd (opX H x) (opX H y))=some v→zg9 Λ m S w a o v:=by
  intro ne kd hop hall hv;simp only [zB] at hv
  cases he:zeI kd (zp tm (opX H x)) (zp tm (opX H y)) with
  | none=>simp [he] at hv
  | some r=>
   simp only [he,Option.some.injEq] at hv;subst hv;obtain ⟨h1,h2,h3,h4⟩:=hall r he;obtain ⟨h5,h6⟩:=h4 true
   refine zaO (s:=do eqGuard op t x y (a.eval x) (a.eval y);Go.binOp op t (a.eval x) (a.eval y)) (by simp only [execOp,ho]) ⟨.bool (ne !=r),guard h2 h3 ?_,by simp [zm]⟩
   rcases hop with ⟨rfl,rfl⟩ | ⟨rfl,rfl⟩
   ·rw [h5 rfl];simp [h1]
   ·rw [h6 rfl];simp [h1]
 have pB:Λ.P.underlying t=some .bool→∀r,zeI .b (zp tm (opX H x)) (zp tm (opX H y))=some r→∃p q,a.eval x= .bool p∧a.eval y= .bool q∧(Op.equal t (a.eval x) (a.eval y)).run Λ.P w= .ok r w:=by
  intro hu r he;cases hx:zp tm (opX H x)<;>cases hy:zp tm (opX H y)<;>rw [hx,hy] at he<;>simp only [zeI,reduceCtorEq] at he
  rw [hx] at rx;rw [hy] at ry;simp only [zm] at rx ry;simp only [Option.some.injEq] at he;refine ⟨_,_,rx,ry,?_⟩;rw [rx,ry,zg6,←he];exact zHB hu
 have pS:∀e,Λ.P.underlying t=some (.slice e)→∀r,zeI .sl (zp tm (opX H x)) (zp tm (opX H y))=some r→∃p n c q n' c',a.eval x= .slice p n c∧a.eval y= .slice q n' c'∧(Op.equal t (a.eval x) (a.eval y)).run Λ.P w= .ok r w:=by
  intro e hu r he;have h1:=zAG hu rx ry he;have sl:∀{v:AV} {u:Value},zm Λ.fid m S w v u→(v= .nils∨(∃a b c,v= .vsl a b c)∨∃a b c,v= .osl a b c)→∃p n c,u= .slice p n c:=by
   intro v u hr hv;rcases hv with rfl | ⟨_,_,_,rfl⟩ | ⟨_,_,_,rfl⟩
   ·simp only [zm] at hr;exact ⟨_,_,_,hr⟩
   ·simp only [zm] at hr;rcases hr with ⟨b,o,c,hr,_⟩ | ⟨_,hr,_⟩<;>exact ⟨_,_,_,hr⟩
   ·simp only [zm] at hr;obtain ⟨b,c,_,hr,_⟩:=hr;exact ⟨_,_,_,hr⟩
  have hv2:(zp tm (opX H x)= .nils∨(∃a b c,zp tm (opX H x)= .vsl a b c)∨∃a b c,zp tm (opX H x)= .osl a b c)∧
    (zp tm (opX H y)= .nils∨(∃a b c,zp tm (opX H y)= .vsl a b c)∨∃a b c,zp tm (opX H y)= .osl a b c):=by
   cases hx:zp tm (opX H x)<;>cases hy:zp tm (opX H y)<;>rw [hx,hy] at he<;>simp [zeI] at he ⊢
  obtain ⟨p,n,c,e1⟩:=sl rx hv2.1;obtain ⟨q,n',c',e2⟩:=sl ry hv2.2;exact ⟨p,n,c,q,n',c',e1,e2,h1⟩
 have pF:∀ps rs vr,Λ.P.underlying t=some (.func ps rs vr)→∀r,zeI .fn (zp tm (opX H x)) (zp tm (opX H y))=some r→
   ((a.eval x= .nilFunc∨∃f p q,a.eval x= .func f p q)∧(a.eval y= .nilFunc∨∃f p q,a.eval y= .func f p q))∧(Op.equal t (a.eval x) (a.eval y)).run Λ.P w= .ok r w:=by
  intro ps rs vr hu r he;have h1:=zCN hu rx ry he;have sl:∀{v:AV} {u:Value},zm Λ.fid m S w v u→(v= .nilf∨(∃a b c,v= .fn a b c))→(u= .nilFunc∨∃f p q,u= .func f p q):=by
   intro v u hr hv;rcases hv with rfl | ⟨f,_,_,rfl⟩
   ·simp only [zm] at hr;exact .inl hr
   ·cases f with
    | f g=>simp only [zm] at hr;obtain ⟨b,c,hr,_⟩:=hr;exact .inr ⟨_,_,_,hr⟩
    | y l=>simp only [zm] at hr;obtain ⟨b,_,hr⟩:=hr;exact .inr ⟨_,_,_,hr⟩
  have hv2:(zp tm (opX H x)= .nilf∨(∃a b c,zp tm (opX H x)= .fn a b c))∧(zp tm (opX H y)= .nilf∨(∃a b c,zp tm (opX H y)= .fn a b c)):=by
   cases hx:zp tm (opX H x)<;>cases hy:zp tm (opX H y)<;>rw [hx,hy] at he<;>simp [zeI] at he ⊢
  exact ⟨⟨sl rx hv2.1,sl ry hv2.2⟩,h1⟩
 have pA:∀ks,zcQ Λ.P 20 t=some ks→zbx Λ.P t=some true→Λ.P.stoodInHeld t=false→∀r,zeI (.ag ks) (zp tm (opX H x)) (zp tm (opX H y))=some r→∃p q,a.eval x= .agg p∧a.eval y= .agg q∧(Op.equal t (a.eval x) (a.eval y)).run Λ.P w= .ok r w:=by
  intro ks hk ha hst r he;cases hx:zp tm (opX H x)<;>cases hy:zp tm (opX H y)<;>rw [hx,hy] at he<;>simp only [zeI,reduceCtorEq] at he
  rw [hx] at rx;rw [hy] at ry;simp only [zm] at rx ry;obtain ⟨p,e1,h1⟩:=rx;obtain ⟨q,e2,h2⟩:=ry;refine ⟨p,q,e1,e2,?_⟩;rw [e1,e2,zg6];exact zoR 20 t ks hk hst 10000 (by omega) _ _ _ _ r _ _ h1 h2 he (.inl ⟨ha,by simp⟩) (.inl ⟨ha,by simp⟩)
 have eqs:∀(ne:Bool),(op= .eql∧ne=false∨op= .neq∧ne=true)→zB tm hp (zeu Λ.P H ne op t x y)=some v→zg9 Λ m S w a o v:=by
  intro ne hop hv;have agg:zbx Λ.P t=some true→zB tm hp (zdI Λ.P H ne t x y)=some v→zg9 Λ m S w a o v:=by
   intro ha hv;unfold zdI at hv
   cases hk:zcQ Λ.P 20 t with
   | none=>rw [hk] at hv;exact (zP hv).elim
   | some ks=>
    simp only [hk] at hv
    cases hc:(Λ.P.stoodInHeld t||Λ.P.eqGuardType Λ.P.depth t) with
    | true=>rw [hc] at hv;exact (zP hv).elim
    | false=>
     rw [hc] at hv;simp only [cond_false] at hv;simp only [Bool.or_eq_false_iff] at hc;refine other ne (.ag ks) hop (fun r hr=>?_) hv;obtain ⟨p,q,e1,e2,h1⟩:=pA ks hk ha hc.1 r hr;refine ⟨h1,.inr hc.2,by rw [e1];simp,fun _=>?_⟩
     rw [e1,e2];exact ⟨fun e=>by subst e;rfl,fun e=>by subst e;rfl⟩
  unfold zeu at hv
  split at hv
  ·exact ziI hv
  ·exact ziI hv
  ·exact ziI hv
  ·rename_i hu;refine other ne .b hop (fun r hr=>?_) hv;obtain ⟨p,q,e1,e2,h1⟩:=pB hu r hr;refine ⟨h1,.inl (by rw [e1];simp),by rw [e1];simp,fun _=>?_⟩
   rw [e1,e2];exact ⟨fun e=>by subst e;rfl,fun e=>by subst e;rfl⟩
  ·rename_i e hu;refine other ne .sl hop (fun r hr=>?_) hv;obtain ⟨p,n,c,q,n',c',e1,e2,h1⟩:=pS e hu r hr;refine ⟨h1,.inl (by rw [e1];simp),by rw [e1];simp,fun _=>?_⟩
   rw [e1,e2];exact ⟨fun e=>by subst e;rfl,fun e=>by subst e;rfl⟩
  ·rename_i ps rs vr hu;refine other ne .fn hop (fun r hr=>?_) hv;obtain ⟨⟨e1,e2⟩,h1⟩:=pF ps rs vr hu r hr;refine ⟨h1,.inl ?_,?_,fun _=>?_⟩
   ·rcases e1 with e1 | ⟨_,_,_,e1⟩<;>rw [e1]<;>simp
   ·rcases e1 with e1 | ⟨_,_,_,e1⟩<;>rw [e1]<;>simp
   ·rcases e1 with e1 | ⟨_,_,_,e1⟩<;>rcases e2 with e2 | ⟨_,_,_,e2⟩<;>rw [e1,e2]<;>exact ⟨fun e=>by subst e;rfl,fun e=>by subst e;rfl⟩
  ·rename_i fs hu;exact agg (by simp [zbx,hu]) hv
  ·rename_i k0 e hu;exact agg (by simp [zbx,hu]) hv
  ·exact (zP hv).elim
 cases op
 case eql=>exact eqs false (.inl ⟨rfl,rfl⟩) (by simpa only [zt,ho] using hv)
 case neq=>exact eqs true (.inr ⟨rfl,rfl⟩) (by simpa only [zt,ho] using hv)
 all_goals exact ziI (by simpa only [zt,ho] using hv)
end
end VE
end
