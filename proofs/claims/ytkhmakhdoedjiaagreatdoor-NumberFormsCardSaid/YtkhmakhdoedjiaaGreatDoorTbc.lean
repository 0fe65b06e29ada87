import Derived.ChangeSlices
import Derived.ChangeReads
import Derived.ChangeSame
import Derived.OpenShut
import Derived.Lib.AtoiErrMem
import Derived.Laws.Externs
import Derived.Test.YtkhmakhdoedjiaaGreatDoorTau
import Derived.Test.YtkhmakhdoedjiaaGreatDoorTap
import Derived.Test.YtkhmakhdoedjiaaGreatDoorTar
import Derived.Test.YtkhmakhdoedjiaaGreatDoorTav
import Derived.Test.YtkhmakhdoedjiaaGreatDoorTbb
set_option linter.all false
set_option maxRecDepth 100000
section
namespace VE
open Go
section
variable (P:Program)
def zcm (self:TypeId→Bool):List Field→Nat→Nat→Bool
 | [],o,n=>Nat.beq o n
 | f::r,o,n=>Nat.beq f.offset o&&(self f.type&&zcm self r (o+P.cellsOf f.type) n)
def flat:Nat→TypeId→Bool
 | 0,_=>false
 | n+1,t=>
  match P.underlying t with
  | some .bool | some (.int _) | some (.float _) | some .string=>Nat.beq (P.cellsOf t) 1
  | some (.slice e)=>Nat.beq (P.cellsOf t) 1&&(Nat.blt 0 (P.cellsOf e)&&flat n e)
  | some (.struct fs)=>zcm P (fun u=>flat n u) fs.toList 0 (P.cellsOf t)
  | some (.array k e)=>Nat.beq (P.cellsOf t) (k*P.cellsOf e)&&flat n e
  | _=>false
def avs {H:Type}:Nat→TypeId→DataW H→List AV
 | 0,_,_=>[]
 | n+1,t,d=>
  match P.underlying t,d with
  | some .bool,.lit (.bool b)=>[.bool b]
  | some (.int k),.lit (.int _ m)=>[.int k m]
  | some (.float k),.lit (.float _ b)=>[.flt k b]
  | some .string,.lit (.string s)=>[.str (s.map UInt8.toNat)]
  | some (.slice _),.nil=>[.nils]
  | some (.slice e),.slice elems spare=>[.vsl spare.isEmpty elems.length (elems.flatMap fun x=>avs n e x)]
  | some (.struct fs),.agg parts=>(fs.toList.zip parts).flatMap fun x=>avs n x.1.type x.2
  | some (.array _ e),.agg parts=>parts.flatMap fun x=>avs n e x
  | _,_=>[]
end
section
variable {fid:Nat→Nat} {m:Mp} {S:Nat→Prop} {w:World}
theorem zln:∀{a b:List AV} {blk o:Nat},zX fid m S w a blk o→zX fid m S w b blk (o+a.length)→zX fid m S w (a++b) blk o
 | [],b,blk,o,_,h=>by simpa using h
 | x::a,b,blk,o,h1,h2=>by
  simp only [zX,List.cons_append] at h1 ⊢;exact ⟨h1.1,zln h1.2 (by rw [List.length_cons] at h2;rw [show o+1+a.length=o+(a.length+1) by omega];exact h2)⟩
theorem zeW:∀{a b:List AV},zn a=true→zn b=true→zn (a++b)=true
 | [],_,_,h=>h
 | x::a,b,h1,h2=>by
  simp only [zn,List.cons_append,Bool.and_eq_true] at h1 ⊢;exact ⟨h1.1,zeW h1.2 h2⟩
theorem zlO:∀{a:List AV} {us:List Value},zi fid m S w a us→a.length=us.length
 | [],us,h=>by simp only [zi] at h;subst h;rfl
 | x::a,us,h=>by
  simp only [zi] at h;obtain ⟨u,r,rfl,_,h2⟩:=h;simp [zlO h2]
end
section
variable {H:Type} {enc:TypeId×Value→H} {P:Program} {w:World} {held:Bool} {fid:Nat→Nat} {m:Mp} {S:Nat→Prop}
theorem ztn {a:Addr} {i:Nat} {u:Value} (h:w.cell? (a.add i)=some u):w.cell? ⟨a.block,a.off+i,none⟩=some u∧(i=0→a.spot=none):=by
 by_cases hi:i=0
 ·subst hi;have e:a.add 0=a:=by simp [Addr.add]
  rw [e] at h;have hs:a.spot=none:=by
   cases hq:a.spot with
   | none=>rfl
   | some k=>
    unfold World.cell? at h
    split at h
    ·simp [hq] at h
    all_goals simp_all
  obtain ⟨b,o,sp⟩:=a;simp only at hs;subst hs;exact ⟨by simpa using h,fun _=>rfl⟩
 ·have e:a.add i=⟨a.block,a.off+i,none⟩:=by simp [Addr.add,hi]
  rw [e] at h;exact ⟨h,fun h=>(hi h).elim⟩
theorem zuy (a:Addr) (i:Nat):(a.add i).block=a.block:=by unfold Addr.add;split<;>rfl
theorem zCM (a:Addr) (i:Nat):(a.add i).off=a.off+i:=by unfold Addr.add;split<;>simp_all
theorem zf1 {α β:Type} {f:α→Option β}:∀{l:List α} {r:List β},l.mapM f=some r→r.length=l.length
 | [],r,h=>by simp only [List.mapM_nil,Option.pure_def,Option.some.injEq] at h;subst h;rfl
 | x::l,r,h=>by
  rw [List.mapM_cons] at h
  cases h1:f x with
  | none=>simp [h1] at h
  | some y=>
   cases h2:l.mapM f with
   | none=>simp [h1,h2] at h
   | some ys=>
    simp only [h1,h2,Option.bind_some,Option.bind_eq_bind,Option.pure_def,Option.some.injEq] at h;subst h;simp [zf1 h2]
theorem zyv {c:AV} {l:List AV} {b o:Nat} (h:zX fid m S w (c::l) b o):b<w.heap.size:=by
 simp only [zX] at h;obtain ⟨⟨u,h1,_⟩,_⟩:=h;unfold World.cell? at h1
 cases hq:w.heap[b]? with
 | none=>simp [hq] at h1
 | some o=>exact (Array.getElem?_eq_some_iff.1 hq).1
theorem zhI {e:TypeId} {fuel sz:Nat} {f:DataW H→List AV} {a:Addr} (hsz:0<sz)
  (IH:∀(cs:List Value) (d:DataW H) (ps:List MemPlace),DataW.trod enc P w 0 (fun _=>true) held fuel e cs=some (d,ps)→zi fid m S w (f d) cs∧zn (f d)=true∧cs.length=sz):
  ∀(k j:Nat) (xs:List (DataW H×List MemPlace)),(List.range' j k).mapM (fun i=>(w.cells? 0 (a.add (i*sz)) sz).bind (DataW.trod enc P w 0 (fun _=>true) held fuel e))=some xs→
   zX fid m S w ((xs.map (·.1)).flatMap f) a.block (a.off+j*sz)∧zn ((xs.map (·.1)).flatMap f)=true∧((xs.map (·.1)).flatMap f).length=k*sz∧xs.length=k∧(0<k→a.spot=none∨0<j)
 | 0,j,xs,h=>by
  simp only [List.range'_zero,List.mapM_nil,Option.pure_def,Option.some.injEq] at h;subst h;simp [zX,zn]
 | k+1,j,xs,h=>by
  rw [List.range'_succ,List.mapM_cons] at h
  cases h1:(w.cells? 0 (a.add (j*sz)) sz) with
  | none=>simp [h1] at h
  | some us=>
   cases h2:DataW.trod enc P w 0 (fun _=>true) held fuel e us with
   | none=>simp [h1,h2] at h
   | some x=>
    cases h3:(List.range' (j+1) k).mapM (fun i=>(w.cells? 0 (a.add (i*sz)) sz).bind (DataW.trod enc P w 0 (fun _=>true) held fuel e)) with
    | none=>simp [h1,h2,h3] at h
    | some ys=>
     simp only [h1,h2,h3,Option.bind_some,Option.bind_eq_bind,Option.pure_def,Option.some.injEq] at h;subst h;obtain ⟨d,ps⟩:=x;obtain ⟨g1,g2,g3⟩:=IH us d ps h2;obtain ⟨k1,k2,k3,k4,_⟩:=zhI hsz IH k (j+1) ys h3;obtain ⟨_,c2,c3⟩:=World.cells?_some h1;have hl:(f d).length=sz:=by rw [zlO g1,g3]
     have hc:∀(i:Nat) (u:Value),us[i]? =some u→w.cell? ⟨a.block,a.off+j*sz+i,none⟩=some u:=by
      intro i u hi;have hil:i<sz:=by have:=(List.getElem?_eq_some_iff.1 hi).1;omega
      have h:=c3 i hil;rw [hi] at h
      have:=(ztn h).1
      rwa [zuy,zCM] at this
     refine ⟨?_,?_,?_,by simp [k4],?_⟩
     ·simp only [List.map_cons,List.flatMap_cons];refine zln (zew _ us _ g1 hc) ?_;rw [hl,show a.off+j*sz+sz=a.off+(j+1)*sz by rw [Nat.add_mul];omega];exact k1
     ·simp only [List.map_cons,List.flatMap_cons];exact zeW g2 k2
     ·simp only [List.map_cons,List.flatMap_cons,List.length_append,hl,k3,Nat.add_mul];omega
     ·intro _;rcases Nat.eq_zero_or_pos j with hj | hj
      ·left
       have h:=c3 0 hsz;have hlt:0<us.length:=by omega
       have hu:us[0]? =some us[0]:=by simp [hlt]
       rw [hu] at h
       have:=(ztn h).2 rfl
       subst hj;simpa [Addr.add] using this
      ·exact .inr hj
theorem zkM {fuel N:Nat} {n:Nat} {cs:List Value} (hN:cs.length=N)
  (IH:∀(t:TypeId) (cs:List Value) (d:DataW H) (ps:List MemPlace),flat P n t=true→DataW.trod enc P w 0 (fun _=>true) held fuel t cs=some (d,ps)→zi fid m S w (avs P n t d) cs∧zn (avs P n t d)=true∧cs.length=P.cellsOf t):
  ∀(r:List Field) (o:Nat) (xs:List (DataW H×List MemPlace)),zcm P (fun u=>flat P n u) r o N=true→r.mapM (fun f=>DataW.trod enc P w 0 (fun _=>true) held fuel f.type ((cs.drop f.offset).take (P.cellsOf f.type)))=some xs→
   zi fid m S w ((r.zip (xs.map (·.1))).flatMap fun x=>avs P n x.1.type x.2) (cs.drop o)∧zn ((r.zip (xs.map (·.1))).flatMap fun x=>avs P n x.1.type x.2)=true
 | [],o,xs,hf,h=>by
  simp only [List.mapM_nil,Option.pure_def,Option.some.injEq] at h;subst h;simp only [zcm] at hf
  have:=Nat.eq_of_beq_eq_true hf
  rw [List.drop_eq_nil_of_le (by omega)];simp [zi,zn]
 | f::r,o,xs,hf,h=>by
  simp only [zcm,Bool.and_eq_true] at hf;obtain ⟨e1,e2,e3⟩:=hf;have e1:=Nat.eq_of_beq_eq_true e1;rw [List.mapM_cons] at h
  cases h2:DataW.trod enc P w 0 (fun _=>true) held fuel f.type ((cs.drop f.offset).take (P.cellsOf f.type)) with
  | none=>simp [h2] at h
  | some x=>
   cases h3:r.mapM (fun f=>DataW.trod enc P w 0 (fun _=>true) held fuel f.type ((cs.drop f.offset).take (P.cellsOf f.type))) with
   | none=>simp [h2,h3] at h
   | some ys=>
    simp only [h2,h3,Option.bind_some,Option.bind_eq_bind,Option.pure_def,Option.some.injEq] at h;subst h;obtain ⟨d,ps⟩:=x;obtain ⟨g1,g2,g3⟩:=IH f.type _ d ps e2 h2;obtain ⟨k1,k2⟩:=zkM hN IH r _ ys e3 h3;rw [e1] at g1;have e:cs.drop o=(cs.drop o).take (P.cellsOf f.type)++cs.drop (o+P.cellsOf f.type):=by rw [←List.drop_drop];exact (List.take_append_drop _ _).symm
    simp only [List.map_cons,List.zip_cons_cons,List.flatMap_cons];rw [e];exact ⟨zar g1 k1,zeW g2 k2⟩
theorem zsH {fuel sz:Nat} {e:TypeId} {f:DataW H→List AV} {cs:List Value}
  (IH:∀(cs:List Value) (d:DataW H) (ps:List MemPlace),DataW.trod enc P w 0 (fun _=>true) held fuel e cs=some (d,ps)→zi fid m S w (f d) cs∧zn (f d)=true∧cs.length=sz):
  ∀(k j:Nat) (xs:List (DataW H×List MemPlace)),(List.range' j k).mapM (fun i=>DataW.trod enc P w 0 (fun _=>true) held fuel e ((cs.drop (i*sz)).take sz))=some xs→cs.length=(j+k)*sz→
   zi fid m S w ((xs.map (·.1)).flatMap f) (cs.drop (j*sz))∧zn ((xs.map (·.1)).flatMap f)=true
 | 0,j,xs,h,hl=>by
  simp only [List.range'_zero,List.mapM_nil,Option.pure_def,Option.some.injEq] at h;subst h;rw [List.drop_eq_nil_of_le (by rw [hl];simp)]
  simp [zi,zn]
 | k+1,j,xs,h,hl=>by
  rw [List.range'_succ,List.mapM_cons] at h
  cases h2:DataW.trod enc P w 0 (fun _=>true) held fuel e ((cs.drop (j*sz)).take sz) with
  | none=>simp [h2] at h
  | some x=>
   cases h3:(List.range' (j+1) k).mapM (fun i=>DataW.trod enc P w 0 (fun _=>true) held fuel e ((cs.drop (i*sz)).take sz)) with
   | none=>simp [h2,h3] at h
   | some ys=>
    simp only [h2,h3,Option.bind_some,Option.bind_eq_bind,Option.pure_def,Option.some.injEq] at h;subst h;obtain ⟨d,ps⟩:=x;obtain ⟨g1,g2,g3⟩:=IH _ d ps h2;obtain ⟨k1,k2⟩:=zsH IH k (j+1) ys h3 (by rw [hl];congr 1;omega)
    have e:cs.drop (j*sz)=(cs.drop (j*sz)).take sz++cs.drop ((j+1)*sz):=by rw [Nat.add_mul,Nat.one_mul,←List.drop_drop];exact (List.take_append_drop _ _).symm
    simp only [List.map_cons,List.flatMap_cons];rw [e];exact ⟨zar g1 k1,zeW g2 k2⟩
theorem znA (hS:∀b,b<w.heap.size→S b):∀(n fuel:Nat) (t:TypeId) (cs:List Value) (d:DataW H) (ps:List MemPlace),flat P n t=true→DataW.trod enc P w 0 (fun _=>true) held fuel t cs=some (d,ps)→
  zi fid m S w (avs P n t d) cs∧zn (avs P n t d)=true∧cs.length=P.cellsOf t
 | 0,fuel,t,cs,d,ps,hf,h=>by simp [flat] at hf
 | n+1,0,t,cs,d,ps,hf,h=>by simp [DataW.trod] at h
 | n+1,fuel+1,t,cs,d,ps,hf,h=>by
  have IH:=znA hS n fuel;unfold DataW.trod at h;simp only [flat] at hf
  split at h
  ·rename_i hu;simp only [hu] at hf;simp only [Option.some.injEq,Prod.mk.injEq] at h;obtain ⟨rfl,rfl⟩:=h;simp only [avs,hu];exact ⟨by simp [zi,zm],by simp [zn,zx],by rw [Nat.eq_of_beq_eq_true hf];rfl⟩
  ·rename_i hu;simp only [hu] at hf
   split at h
   ·rename_i hk;simp only [Option.some.injEq,Prod.mk.injEq] at h;obtain ⟨rfl,rfl⟩:=h;simp only [avs,hu];refine ⟨?_,by simp [zn,zx],by rw [Nat.eq_of_beq_eq_true hf];rfl⟩
    rw [hk.1];simp [zi,zm]
   ·cases h
  ·rename_i hu;simp only [hu] at hf
   split at h
   ·rename_i hk;simp only [Option.some.injEq,Prod.mk.injEq] at h;obtain ⟨rfl,rfl⟩:=h;simp only [avs,hu];refine ⟨?_,by simp [zn,zx],by rw [Nat.eq_of_beq_eq_true hf];rfl⟩
    rw [hk.1];simp [zi,zm]
   ·cases h
  ·rename_i hu;simp only [hu] at hf
   split at h
   ·simp only [Option.some.injEq,Prod.mk.injEq] at h;obtain ⟨rfl,rfl⟩:=h;simp only [avs,hu];refine ⟨?_,by simp [zn,zx],by rw [Nat.eq_of_beq_eq_true hf];rfl⟩
    simp only [zi,zm];exact ⟨_,_,rfl,⟨_,rfl,rfl⟩,rfl⟩
   ·cases h
  ·rename_i hu;simp [hu] at hf
  ·rename_i hu;simp [hu] at hf
  ·rename_i hu;simp only [hu,Bool.and_eq_true] at hf;simp only [Option.some.injEq,Prod.mk.injEq] at h;obtain ⟨rfl,rfl⟩:=h;simp only [avs,hu];exact ⟨by simp [zi,zm],by simp [zn,zx],by rw [Nat.eq_of_beq_eq_true hf.1];rfl⟩
  ·rename_i e a len cap hu;simp only [hu,Bool.and_eq_true] at hf;obtain ⟨f1,f2,f3⟩:=hf;have hsz:=blt_iff.1 f2;simp only at h
   split at h
   case isFalse=>cases h
   rename_i hc;simp only [if_true] at h
   cases h1:(List.range len).mapM fun i=>(w.cells? 0 (a.add (i*P.cellsOf e)) (P.cellsOf e)).bind (DataW.trod enc P w 0 (fun _=>true) held fuel e) with
   | none=>rw [h1] at h;simp at h
   | some elems=>
    cases h2:(List.range (cap-len)).mapM fun j=>(w.cells? 0 (a.add ((len+j)*P.cellsOf e)) (P.cellsOf e)).bind (DataW.trod enc P w 0 (fun _=>true) held fuel e) with
    | none=>rw [h1] at h;simp [h2] at h
    | some rest=>
     rw [h1] at h;simp only [Option.bind_some,h2,Option.map_some,Option.some.injEq,Prod.mk.injEq] at h;obtain ⟨rfl,rfl⟩:=h;have hIH:=fun cs d ps h=>IH e cs d ps f3 h
     rw [List.range_eq_range'] at h1 h2;obtain ⟨k1,k2,k3,k4,k5⟩:=zhI (fid:=fid) (m:=m) (S:=S) hsz hIH len 0 elems h1;have hrl:rest.length=cap-len:=by rw [zf1 h2];simp
     have hsp:cap≠0→a.spot=none:=by
      intro hcap;rcases Nat.eq_zero_or_pos len with h0 | h0
      ·subst h0;simp only [Nat.zero_add,Nat.sub_zero] at h2;obtain ⟨_,_,_,_,q5⟩:=zhI (fid:=fid) (m:=m) (S:=S) hsz hIH cap 0 rest h2;exact (q5 (by omega)).resolve_right (by omega)
      ·exact (k5 h0).resolve_right (by omega)
     simp only [avs,hu,List.length_map];refine ⟨?_,by simp [zn,zx],by rw [Nat.eq_of_beq_eq_true f1];rfl⟩
     simp only [zi];refine ⟨_,_,rfl,?_,rfl⟩;simp only [zm];by_cases hcap:cap=0
     ·subst hcap;have hl0:len=0:=by omega
      subst hl0;have he:elems=[]:=List.eq_nil_of_length_eq_zero k4;subst he;exact .inr ⟨a,rfl,rfl,rfl⟩
     ·obtain ⟨b,o,sp⟩:=a;have hsp:=hsp hcap;simp only at hsp;subst hsp;refine .inl ⟨b,o,cap,by rw [k4],by omega,fun hx=>?_,?_,k2,by simpa using k1⟩
      ·have:rest.length=0:=by simpa using hx
       omega
      ·generalize hg:((elems.map (·.1)).flatMap fun x=>avs P n e x)=l at k1
       cases l with
       | nil=>exact .inl rfl
       | cons c l=>exact .inr (hS b (zyv k1))
  ·rename_i cs1 x1 cs2 fs hu;simp only [hu] at hf
   split at h
   case isFalse=>cases h
   rename_i hlen
   cases h1:fs.toList.mapM fun f=>DataW.trod enc P w 0 (fun _=>true) held fuel f.type ((cs1.drop f.offset).take (P.cellsOf f.type)) with
   | none=>rw [h1] at h;simp at h
   | some xs=>
    rw [h1] at h;simp only [Option.map_some,Option.some.injEq,Prod.mk.injEq] at h;obtain ⟨rfl,rfl⟩:=h;obtain ⟨k1,k2⟩:=zkM hlen (fun t cs d ps hf h=>IH t cs d ps hf h) fs.toList 0 xs hf h1;simp only [avs,hu];exact ⟨by simpa using k1,k2,hlen⟩
  ·rename_i cs1 x1 cs2 k e hu;simp only [hu,Bool.and_eq_true] at hf;obtain ⟨f1,f2⟩:=hf;have f1:=Nat.eq_of_beq_eq_true f1
   split at h
   case isFalse=>cases h
   rename_i hlen
   cases h1:(List.range k).mapM fun i=>DataW.trod enc P w 0 (fun _=>true) held fuel e ((cs1.drop (i*P.cellsOf e)).take (P.cellsOf e)) with
   | none=>rw [h1] at h;simp at h
   | some xs=>
    rw [h1] at h;simp only [Option.map_some,Option.some.injEq,Prod.mk.injEq] at h;obtain ⟨rfl,rfl⟩:=h;rw [List.range_eq_range'] at h1;obtain ⟨k1,k2⟩:=zsH (fid:=fid) (m:=m) (S:=S) (fun cs d ps h=>IH e cs d ps f2 h) k 0 xs h1 (by rw [hlen,f1];simp)
    simp only [avs,hu];exact ⟨by simpa using k1,k2,hlen⟩
  all_goals first
   | (cases h;done)
   | (simp_all;done)
def zdx (P:Program) (n:Nat) (t:TypeId) (d:DataW H):AV:=
 match P.underlying t with
 | some (.struct _) | some (.array _ _)=> .agg (avs P n t d)
 | _=>(avs P n t d).headD .undef
theorem zAl (hS:∀b,b<w.heap.size→S b) {n base:Nat} {t:TypeId} {v:Value} {d:DataW H} {ps:List MemPlace} (hf:flat P n t=true) (h:DataW.Trod enc P w 0 (fun _=>true) held t v d ps)
  (hv:Value.okWide P w .any base t v):zm fid m S w (zdx P n t d) v∧zx (zdx P n t d)=true:=by
 obtain ⟨fuel,h⟩:=h;obtain ⟨h1,h2,h3⟩:=znA (fid:=fid) (m:=m) hS n fuel t _ d ps hf h;have one:v.cells=#[v]→(∀fs,P.underlying t≠some (.struct fs))→(∀k e,P.underlying t≠some (.array k e))→zm fid m S w (zdx P n t d) v∧zx (zdx P n t d)=true:=by
  intro hc hns hna;have e:zdx P n t d=(avs P n t d).headD .undef:=by
   unfold zdx
   split
   ·rename_i fs hu;exact (hns fs hu).elim
   ·rename_i k e hu;exact (hna k e hu).elim
   ·rfl
  rw [e];rw [hc] at h1;generalize avs P n t d=l at h1 h2
  cases l with
  | nil=>simp [zi] at h1
  | cons x l=>
   simp only [zi] at h1;obtain ⟨u,r,he,g1,g2⟩:=h1;simp only [List.cons.injEq] at he;simp only [zn,Bool.and_eq_true] at h2;rw [List.headD_cons,he.1];exact ⟨g1,h2.1⟩
 cases n with
 | zero=>simp [flat] at hf
 | succ n=>
  unfold Value.okWide at hv;simp only [flat] at hf
  cases hu:P.underlying t with
  | none=>simp [hu] at hf
  | some ty=>
   rw [hu] at hv hf;cases ty<;>simp only [Bool.false_eq_true] at hf hv
   case struct fs=>
    obtain ⟨cs,rfl,_,_⟩:=hv;have e:zdx P (n+1) t d= .agg (avs P (n+1) t d):=by simp only [zdx,hu]
    rw [e];exact ⟨by simp only [zm];exact ⟨cs,rfl,h1⟩,by simpa only [zx] using h2⟩
   case array k e=>
    obtain ⟨cs,rfl,_,_⟩:=hv;have e:zdx P (n+1) t d= .agg (avs P (n+1) t d):=by simp only [zdx,hu]
    rw [e];exact ⟨by simp only [zm];exact ⟨cs,rfl,h1⟩,by simpa only [zx] using h2⟩
   all_goals
    refine one ?_ (by simp [hu]) (by simp [hu])
    cases v with
    | agg cs=>exfalso;simp only [Cell.okWide,Cell.ok,hu] at hv
    | _=>rfl
def argsAV (P:Program) (n:Nat):List TypeId→List (DataW H)→List AV
 | t::ts,d::ds=>zdx P n t d::argsAV P n ts ds
 | _,_=>[]
theorem znf (hS:∀b,b<w.heap.size→S b) {n base:Nat}:∀{ts:List TypeId} {vs:List Value} {ds:List (DataW H)} {ps:List MemPlace},ts.all (flat P n)=true→DataW.TrodAll enc P w 0 (fun _=>true) held ts vs ds ps→
  (∀(j:Nat) t v,ts[j]? =some t→vs[j]? =some v→Value.okWide P w .any base t v)→zi fid m S w (argsAV P n ts ds) vs∧zn (argsAV P n ts ds)=true
 | [],[],[],_,_,_,_=>by simp [argsAV,zi,zn]
 | t::ts,v::vs,d::ds,ps,hf,h,hv=>by
  simp only [List.all_cons,Bool.and_eq_true] at hf;obtain ⟨p,q,h1,h2,_⟩:=h;obtain ⟨a1,a2⟩:=zAl (fid:=fid) (m:=m) hS hf.1 h1 (hv 0 t v rfl rfl);obtain ⟨b1,b2⟩:=znf hS hf.2 h2 (fun j t v h1 h2=>hv (j+1) t v h1 h2);simp only [argsAV,zi,zn,Bool.and_eq_true];exact ⟨⟨v,vs,rfl,a1,b1⟩,a2,b2⟩
 | [],_::_,_,_,_,h,_=>by simp [DataW.TrodAll] at h
 | [],[],_::_,_,_,h,_=>by simp [DataW.TrodAll] at h
 | _::_,[],_,_,_,h,_=>by simp [DataW.TrodAll] at h
 | _::_,_::_,[],_,_,h,_=>by simp [DataW.TrodAll] at h
end
end VE
end
section
namespace VE
open Go
section
variable {H:Type} {enc:TypeId×Value→H} {P:Program} {w w':World} {held:Bool} {sp:Nat→Bool}
theorem zoQ (hs:∀b,b<w.heap.size→w'.heap[b]? =w.heap[b]?) {a:Addr} {u:Value} (h:w.cell? a=some u):w'.cell? a=some u:=by
 have hb:a.block<w.heap.size:=by
  unfold World.cell? at h
  cases hq:w.heap[a.block]? with
  | none=>simp [hq] at h
  | some o=>exact (Array.getElem?_eq_some_iff.1 hq).1
 unfold World.cell? at h ⊢;rw [hs _ hb];exact h
theorem zn3 (hs:∀b,b<w.heap.size→w'.heap[b]? =w.heap[b]?) {base:Nat} {a:Addr} {n:Nat} {us:List Value} (h:w.cells? base a n=some us):w'.cells? base a n=some us:=by
 unfold World.cells? at h ⊢
 split at h
 ·rename_i hb;rw [if_pos hb];exact mapM_carry h (fun x y _ _ hx=>zoQ hs hx)
 ·cases h
theorem zAp {a:Addr} {n:Nat} (h:0<n):MemPlace.cell a.block (a.off+0)∈MemPlace.row a n:=by
 unfold MemPlace.row;exact List.mem_map.2 ⟨0,List.mem_range.2 h,rfl⟩
theorem zjG (hs:∀b,b<w.heap.size→w'.heap[b]? =w.heap[b]?):∀(n fuel:Nat) (t:TypeId) (cs:List Value) (d:DataW H) (ps:List MemPlace),flat P n t=true→DataW.trod enc P w 0 (fun _=>true) held fuel t cs=some (d,ps)→
  (∀p,p∈ps→sp p.block=true)→DataW.trod enc P w' 0 sp held fuel t cs=some (d,ps)
 | 0,fuel,t,cs,d,ps,hf,h,hp=>by simp [flat] at hf
 | n+1,0,t,cs,d,ps,hf,h,hp=>by simp [DataW.trod] at h
 | n+1,fuel+1,t,cs,d,ps,hf,h,hp=>by
  have IH:=zjG hs n fuel;have elem:∀{e:TypeId} {a:Addr} {y:DataW H×List MemPlace},flat P n e=true→(w.cells? 0 a (P.cellsOf e)).bind (DataW.trod enc P w 0 (fun _=>true) held fuel e)=some y→(∀p,p∈y.2→sp p.block=true)→
    (w'.cells? 0 a (P.cellsOf e)).bind (DataW.trod enc P w' 0 sp held fuel e)=some y:=by
   intro e a y he h hq
   cases h1:w.cells? 0 a (P.cellsOf e) with
   | none=>simp [h1] at h
   | some us=>
    rw [h1] at h;rw [zn3 hs h1];simp only [Option.bind_some] at h ⊢;obtain ⟨d,ps⟩:=y;exact IH e us d ps he h hq
  unfold DataW.trod at h ⊢;simp only [flat] at hf
  split at h
  ·exact h
  ·exact h
  ·exact h
  ·exact h
  ·rename_i hu;simp [hu] at hf
  ·rename_i hu;simp [hu] at hf
  ·exact h
  ·rename_i e a len cap hu;simp only [hu,Bool.and_eq_true] at hf;obtain ⟨f1,f2,f3⟩:=hf;have hsz:=blt_iff.1 f2;simp only at h ⊢
   split at h
   case isFalse=>cases h
   rename_i hc;rw [if_pos hc];simp only [if_true] at h
   cases h1:(List.range len).mapM fun i=>(w.cells? 0 (a.add (i*P.cellsOf e)) (P.cellsOf e)).bind (DataW.trod enc P w 0 (fun _=>true) held fuel e) with
   | none=>rw [h1] at h;simp at h
   | some elems=>
    cases h2:(List.range (cap-len)).mapM fun j=>(w.cells? 0 (a.add ((len+j)*P.cellsOf e)) (P.cellsOf e)).bind (DataW.trod enc P w 0 (fun _=>true) held fuel e) with
    | none=>rw [h1] at h;simp [h2] at h
    | some rest=>
     rw [h1] at h;simp only [Option.bind_some,h2,Option.map_some,Option.some.injEq,Prod.mk.injEq] at h;obtain ⟨rfl,rfl⟩:=h;have k1:((List.range len).mapM fun i=>(w'.cells? 0 (a.add (i*P.cellsOf e)) (P.cellsOf e)).bind (DataW.trod enc P w' 0 sp held fuel e))=some elems:=
      mapM_carry h1 (fun x y _ hy hx=>elem f3 hx (fun p hq=>hp p (List.mem_append_right _ (List.mem_flatMap.2 ⟨y,List.mem_append_left _ hy,hq⟩))))
     have k2:((List.range (cap-len)).mapM fun j=>(w'.cells? 0 (a.add ((len+j)*P.cellsOf e)) (P.cellsOf e)).bind (DataW.trod enc P w' 0 sp held fuel e))=some rest:=
      mapM_carry h2 (fun x y _ hy hx=>elem f3 hx (fun p hq=>hp p (List.mem_append_right _ (List.mem_flatMap.2 ⟨y,List.mem_append_right _ hy,hq⟩))))
     have hr:(if sp a.block=true then (List.range (cap-len)).mapM fun j=>(w'.cells? 0 (a.add ((len+j)*P.cellsOf e)) (P.cellsOf e)).bind (DataW.trod enc P w' 0 sp held fuel e) else some [])=some rest:=by
      by_cases hsp:sp a.block=true
      ·rw [if_pos hsp];exact k2
      ·rw [if_neg hsp];have h0:¬0<(elems.length+rest.length)*P.cellsOf e:=fun h0=>hsp (hp _ (List.mem_append_left _ (zAp h0)))
       have hz:elems.length+rest.length=0:=by
        rcases Nat.eq_zero_or_pos (elems.length+rest.length) with h | h
        ·exact h
        ·exact (h0 (Nat.mul_pos h hsz)).elim
       have:rest=[]:=List.eq_nil_of_length_eq_zero (by omega)
       rw [this]
     rw [k1];simp only [Option.bind_some];rw [hr];rfl
  ·rename_i cs1 x1 cs2 fs hu;simp only [hu] at hf
   split at h
   case isFalse=>cases h
   rename_i hlen;rw [if_pos hlen]
   cases h1:fs.toList.mapM fun f=>DataW.trod enc P w 0 (fun _=>true) held fuel f.type ((cs1.drop f.offset).take (P.cellsOf f.type)) with
   | none=>rw [h1] at h;simp at h
   | some xs=>
    rw [h1] at h;simp only [Option.map_some,Option.some.injEq,Prod.mk.injEq] at h;obtain ⟨rfl,rfl⟩:=h;have hfl:∀(r:List Field) (o:Nat),zcm P (fun u=>flat P n u) r o (P.cellsOf t)=true→∀f,f∈r→flat P n f.type=true:=by
     intro r
     induction r with
     | nil=>intro o _ f hm;cases hm
     | cons g r ih=>
      intro o hq f hm;simp only [zcm,Bool.and_eq_true] at hq;rcases List.mem_cons.1 hm with rfl | hm
      ·exact hq.2.1
      ·exact ih _ hq.2.2 f hm
    have k1:(fs.toList.mapM fun f=>DataW.trod enc P w' 0 sp held fuel f.type ((cs1.drop f.offset).take (P.cellsOf f.type)))=some xs:=
     mapM_carry h1 (fun f y hm hy hx=>IH _ _ y.1 y.2 (hfl _ _ hf f hm) hx (fun p hq=>hp p (List.mem_flatMap.2 ⟨y,hy,hq⟩)))
    rw [k1];rfl
  ·rename_i cs1 x1 cs2 k e hu;simp only [hu,Bool.and_eq_true] at hf
   split at h
   case isFalse=>cases h
   rename_i hlen;rw [if_pos hlen]
   cases h1:(List.range k).mapM fun i=>DataW.trod enc P w 0 (fun _=>true) held fuel e ((cs1.drop (i*P.cellsOf e)).take (P.cellsOf e)) with
   | none=>rw [h1] at h;simp at h
   | some xs=>
    rw [h1] at h;simp only [Option.map_some,Option.some.injEq,Prod.mk.injEq] at h;obtain ⟨rfl,rfl⟩:=h;have k1:((List.range k).mapM fun i=>DataW.trod enc P w' 0 sp held fuel e ((cs1.drop (i*P.cellsOf e)).take (P.cellsOf e)))=some xs:=
     mapM_carry h1 (fun i y _ hy hx=>IH _ _ y.1 y.2 hf.2 hx (fun p hq=>hp p (List.mem_flatMap.2 ⟨y,hy,hq⟩)))
    rw [k1];rfl
  all_goals first
   | (cases h;done)
   | (simp_all;done)
theorem zgn (hs:∀b,b<w.heap.size→w'.heap[b]? =w.heap[b]?) {n:Nat}:∀{ts:List TypeId} {vs:List Value} {ds:List (DataW H)} {ps:List MemPlace},ts.all (flat P n)=true→DataW.TrodAll enc P w 0 (fun _=>true) held ts vs ds ps→
  (∀p,p∈ps→sp p.block=true)→DataW.TrodAll enc P w' 0 sp held ts vs ds ps
 | [],[],[],ps,_,h,_=>by simpa only [DataW.TrodAll] using h
 | t::ts,v::vs,d::ds,ps,hf,h,hp=>by
  simp only [List.all_cons,Bool.and_eq_true] at hf;obtain ⟨p,q,⟨fuel,h1⟩,h2,rfl⟩:=h;exact ⟨p,q,⟨fuel,zjG hs n fuel t _ d p hf.1 h1 (fun x hx=>hp x (List.mem_append_left _ hx))⟩,zgn hs hf.2 h2 (fun x hx=>hp x (List.mem_append_right _ hx)),rfl⟩
 | [],_::_,_,_,_,h,_=>by simp [DataW.TrodAll] at h
 | [],[],_::_,_,_,h,_=>by simp [DataW.TrodAll] at h
 | _::_,[],_,_,_,h,_=>by simp [DataW.TrodAll] at h
 | _::_,_::_,[],_,_,h,_=>by simp [DataW.TrodAll] at h
end
end VE
end
section
namespace VE
open Go Go.ChangeShapes Go.WideShapes
section
variable {H:Type} {enc:TypeId×Value→H} {P:Program} {W W':World}
theorem zuT (hc:Calm W W') (may:MemPlace→Prop):W.keptBut W' may:=by
 refine ⟨hc.os,hc.output,fun i hi=>?_⟩;rw [hc.same i hi]
 cases hq:W.heap[i]? with
 | none=>rfl
 | some o=>cases o<;>simp
theorem zoi (hc:Calm W W') {b off:Nat} (hb:b<W.heap.size):W'.frozen? ⟨b,off,none⟩=W.frozen? ⟨b,off,none⟩:=by
 unfold World.frozen?;simp only;rw [hc.same b hb]
theorem zwg {fn:Func} {s:ChangeSpec} {apart fresh handsOn again:Bool} {args:Array Value} {ds gs:List (DataW H)} {before:List MemPlace} {n:Nat} {tb:TypeId}
  (hW:DataW.Whole enc P fn.params.toList s.vars apart W args.toList ds gs before) (hv:s.vars=[]) (hflat:fn.params.toList.all (flat P n)=true) (hc:Calm W W')
  (hfn:s.fn H (ds++gs)={results:=[.lit (.bool true)],args:=ds}) (hres:fn.resultTypes=#[tb]) (htb:P.underlying tb=some .bool):
  s.post enc P fn apart fresh handsOn again W args (.bool true) W':=by
 have hlt:=hW.lt;have hW0:=hW;obtain ⟨p,q,hA,hV,hpq,hz,hn⟩:=hW;rw [hv] at hV;have hq:gs=[]∧q=[]:=by
  cases gs with
  | nil=>exact ⟨rfl,by simpa only [DataW.TrodVars] using hV⟩
  | cons g gs=>simp [DataW.TrodVars] at hV
 obtain ⟨rfl,rfl⟩:=hq;have hbp:before=p:=by rw [hpq];simp
 subst hbp;have hargs:∀sp:Nat→Bool,(∀p∈before,sp p.block=true)→DataW.TrodAll enc P W' 0 sp true fn.params.toList args.toList ds before:=fun sp h=>zgn hc.same hflat hA h
 have hres':∀(b:Nat) (sp:Nat→Bool) (hd:Bool),DataW.TrodAll enc P W' b sp hd fn.resultTypes.toList ((Value.bool true).resultList fn.resultTypes.size) [.lit (.bool true)] []:=by
  intro b sp hd;rw [hres];refine ⟨[],[],⟨1,?_⟩,rfl,rfl⟩;simp [DataW.trod,htb,Value.cells]
 have hold:∀p∈before,(fun b=>decide (b<W.heap.size)) p.block=true:=fun p hp=>by simpa using hlt p hp
 have hvars:∀sp:Nat→Bool,DataW.TrodVars enc P W' sp s.vars ([]:List (DataW H)) []:=fun sp=>by rw [hv];rfl
 refine ⟨ds,[],before,[],before,[],hW0,by rw [hfn];exact hres' _ _ _,by rw [hfn];exact hargs _ hold,by rw [hfn];exact hvars _,zuT hc _,fun _=>?_⟩
 refine ⟨?_,[.lit (.bool true)]++ds,[],[]++before++[],⟨[]++before,[],trodAll_append (hargs _ (fun _ _=>rfl)) (hres' _ _ _),hvars _,rfl,?_,?_⟩,?_⟩
 ·intro j t r h1 h2;rw [hres] at h1 h2
  cases j with
  | zero=>
   simp only [List.getElem?_toArray,List.getElem?_cons_zero,Option.some.injEq] at h1;simp only [Value.resultList,List.size_toArray,List.length_cons,List.length_nil,if_true,Nat.zero_add,List.getElem?_cons_zero,Option.some.injEq] at h2;subst h1;subst h2;simp [Value.okWide,htb,Cell.okWide,Cell.ok]
  | succ j=>simp at h1
 ·intro b off hp;have hp:MemPlace.cell b off∈before:=by simpa using hp
  rw [zoi hc (b:=b) (hlt _ hp)];exact hz b off hp
 ·intro ha
  have:=hn ha
  simpa using this
 ·intro p hp _;simpa using hp
theorem law_calls {Λ:Link} {n k:Nat} {fn:Func} {s:ChangeSpec} {apart fresh handsOn again:Bool} {base:Nat} {args:Array Value} {ds gs:List (DataW H)} {before:List MemPlace} {tb:TypeId}
  (hp:PureC Λ n (argsAV Λ.P k fn.params.toList ds) (.bool true)) (hw0:Λ.w0=W) (hfn:Λ.P.funcs[Λ.fid n]? =some fn) (hb:fn.body.isSome=true) (hnn:fn.name≠ "runtime.NumGoroutine")
  (hval:∀(j:Nat) t v,fn.params[j]? =some t→args[j]? =some v→Value.okWide Λ.P W .any base t v)
  (hW:DataW.Whole enc Λ.P fn.params.toList s.vars apart W args.toList ds gs before) (hv:s.vars=[]) (hflat:fn.params.toList.all (flat Λ.P k)=true)
  (hfs:s.fn H (ds++gs)={results:=[.lit (.bool true)],args:=ds}) (hres:fn.resultTypes=#[tb]) (htb:Λ.P.underlying tb=some .bool):
  Calls Λ.P (Λ.fid n) args W fun e W'=>∃v,e= .returned v∧s.post enc Λ.P fn apart fresh handsOn again W args v W':=by
 have hA:=hW;obtain ⟨p,q,hA,_⟩:=hA;obtain ⟨h1,h2⟩:=znf (fid:=Λ.fid) (m:=noM) (S:=fun b=>b<W.heap.size) (fun b hb=>hb) hflat hA (fun j t v a b=>hval j t v (by simpa using a) (by simpa using b));have hi:=hp W (fun b=>b<W.heap.size) args ⟨fun b _=>by rw [hw0],by rw [hw0];exact Nat.le_refl _⟩ (fun b hb=>hb) h1 h2
 have key:∀e W',znX Λ W (fun b=>b<W.heap.size) (.bool true) e W'→∃v,e= .returned v∧s.post enc Λ.P fn apart fresh handsOn again W args v W':=by
  rintro e W' ⟨u,S',rfl,hc,_,_,_,hr⟩;simp only [zf7,zcM,zm] at hr;obtain ⟨_,_,hu,_⟩:=hr;subst hu;exact ⟨_,rfl,zwg hW hv hflat hc hfs hres htb⟩
 rcases hi with ⟨_,hi⟩ | ⟨u,w',hi,_⟩
 ·exact callsIn_wide.1 (hi.mono key)
 ·rw [zhs hfn hb hnn] at hi;cases hi
end
end VE
end
section
namespace VE
namespace J1
open Go Go.Proofs
noncomputable def Λ (W:World):Link:=⟨Tryz.prog,VE.lib,zmB Lk1.fid,VE.prog,zr5 Lk1.ren Lk1.hd,W⟩
theorem zlv {w:World} {k:Nat} {os:Array Go.Obj}:Calm w (Go.Sort.grow (w.drewN k) os):=calm_below (Lib.below_grow w.heap.size w (Nat.le_refl _) k os)
theorem zna {W w:World} (h:Lib.TabIs Tryz.prog W "internal/strconv.uint64pow10" .u64 Lib.pow10Tab) (hg:ziP (Λ W) w):Lib.TabIs Tryz.prog w "internal/strconv.uint64pow10" .u64 Lib.pow10Tab:=by
 unfold Lib.TabIs World.var? at h ⊢
 cases hn:Tryz.prog.globalNamed "internal/strconv.uint64pow10" with
 | none=>rw [hn] at h;exact h
 | some g=>
  rw [hn] at h;simp only [Option.bind_some] at h ⊢;have hb:g<W.heap.size:=by
   cases hq:W.heap[g]? with
   | none=>rw [hq] at h;cases h
   | some o=>exact (Array.getElem?_eq_some_iff.1 hq).1
  rw [hg.1 g hb];exact h
theorem zQT:∀args w,(callFunc 102 args).run Tryz.prog w= .ok (.enter 102 args) w:=enters_of Tryz.func102 (by kernel_rfl) rfl
theorem zQk:∀args w,(callFunc 101 args).run Tryz.prog w= .ok (.enter 101 args) w:=enters_of Tryz.func101 (by kernel_rfl) rfl
theorem zQE:∀args w,(callFunc 172 args).run Tryz.prog w= .ok (.enter 172 args) w:=enters_of Tryz.func172 (by kernel_rfl) rfl
theorem zQa:∀args w,(callFunc 173 args).run Tryz.prog w= .ok (.enter 173 args) w:=enters_of Tryz.func173 (by kernel_rfl) rfl
theorem zPX:∀args w,(callFunc 174 args).run Tryz.prog w= .ok (.enter 174 args) w:=enters_of Tryz.func174 (by kernel_rfl) rfl
theorem zQz:∀args w,(callFunc 158 args).run Tryz.prog w= .ok (.enter 158 args) w:=enters_of Tryz.func158 (by kernel_rfl) rfl
theorem zQj:∀args w,(callFunc 145 args).run Tryz.prog w= .ok (.enter 145 args) w:=enters_of Tryz.func145 (by kernel_rfl) rfl
theorem zQG:∀args w,(callFunc 146 args).run Tryz.prog w= .ok (.enter 146 args) w:=enters_of Tryz.func146 (by kernel_rfl) rfl
theorem zPW:∀args w,(callFunc 147 args).run Tryz.prog w= .ok (.enter 147 args) w:=enters_of Tryz.func147 (by kernel_rfl) rfl
theorem zP7:∀args w,(callFunc 144 args).run Tryz.prog w= .ok (.enter 144 args) w:=enters_of Tryz.func144 (by kernel_rfl) rfl
theorem zQU:∀args w,(callFunc 191 args).run Tryz.prog w= .ok (.enter 191 args) w:=enters_of Tryz.func191 (by kernel_rfl) rfl
theorem zQd:∀args w,(callFunc 134 args).run Tryz.prog w= .ok (.enter 134 args) w:=enters_of Tryz.func134 (by kernel_rfl) rfl
theorem zCw (b:Nat) (w:World):(callFunc 168 #[.float .f64 b]).run Tryz.prog w= .ok (.value (.int .u64 b)) w:=by
 rw [run_callFunc_extern Tryz.func168 (by kernel_rfl) (by kernel_rfl) (by kernel_rfl) (e:=Extern.MathFloatBits.float64bits) (by kernel_rfl)];rfl
theorem zok (b:Nat) (w:World):(callFunc 171 #[.int .u64 b]).run Tryz.prog w= .ok (.value (.float .f64 b)) w:=by
 rw [run_callFunc_extern Tryz.func171 (by kernel_rfl) (by kernel_rfl) (by kernel_rfl) (e:=Extern.MathFloatBits.float64frombits) (by kernel_rfl)];rfl
def zMU (W:World) (n:Nat) (sp:List AV→Option AV):Prop:=∀vals r,sp vals=some r→PureC (Λ W) n vals r
section
variable {W:World} {m:Int} (hm:W.cell? ⟨1,0,none⟩=some (.int .i64 m)) (ht:Lib.TabIs Tryz.prog W "internal/strconv.uint64pow10" .u64 Lib.pow10Tab)
include hm ht
theorem zKs:libT.All (zMU W):=
 (Tr.all_n (zyn (Λ:=Λ W) (f:=147) (by rfl) zPW (fun s z w hl h=>(Tryz.strconv_Atoi s z hl h w).mono fun _ _ ⟨h1,t,h2⟩=>⟨h1,h2▸calm_below (Lib.bytesWorld_below _ _ _)⟩))
  (Tr.all_n (zpc (Λ:=Λ W) (f:=174) (by rfl) zPX Tryz.strings_Repeat)
  (Tr.all_n (zwo (Λ:=Λ W) (f:=172) (by rfl) zQE (fun z w h0 h1 hg=>(Tryz.strconv_Itoa z h0 h1 w (zna ht hg)).mono fun _ _ ⟨h1,k,os,h2⟩=>⟨h1,h2▸zlv⟩))
  (Tr.all_n (zlg (Λ:=Λ W) (f:=101) (by rfl) zQk Tryz.strings_CutPrefix)
  (Tr.all_n (zCc (Λ:=Λ W) (f:=102) (by rfl) zQT (a:=⟨1,0,none⟩) (m:=m) hm (fun s sep w hs hc=>Tryz.strings_Cut s sep m w hs hc))
  Tr.all_l Tr.all_l) Tr.all_l) (Tr.all_n (zkY (Λ:=Λ W) (f:=173) (by rfl) zQa (fun z w hz hg=>(Tryz.strconv_FormatUint z hz w (zna ht hg)).mono fun _ _ ⟨h1,k,os,h2⟩=>⟨h1,h2▸zlv⟩))
  Tr.all_l Tr.all_l)) (Tr.all_n (zk5 (Λ:=Λ W) (f:=145) (by rfl) zQj Tryz.strings_HasPrefix)
  (Tr.all_n (zuC (Λ:=Λ W) (f:=158) (by rfl) zQz (fun x y w hx hy=>Tryz.bits_Mul64 x y hx hy w))
  Tr.all_l Tr.all_l) (Tr.all_n (zkt (Λ:=Λ W) (f:=146) (by rfl) zQG Tryz.strings_TrimPrefix)
  Tr.all_l Tr.all_l))) (Tr.all_n (zuO (Λ:=Λ W) (f:=195) (by rfl) (fun x y b w h=>Tryz.bits_Sub64 x y b h w))
  (Tr.all_n (zye (Λ:=Λ W) (f:=191) (by rfl) zQU (fun x w h0 h1=>Tryz.bits_LeadingZeros64 x w h0 h1))
  (Tr.all_n (zwG (Λ:=Λ W) (f:=144) (by rfl) zP7 (fun s cs w hs hcs ha=>Tryz.strings_Trim s cs w hs hcs ha))
  Tr.all_l Tr.all_l) (Tr.all_n (zvw (Λ:=Λ W) (f:=194) (by rfl) (fun x y c w h=>Tryz.bits_Add64 x y c h w))
  Tr.all_l Tr.all_l)) (Tr.all_n (zof (Λ:=Λ W) (f:=168) (by rfl) zCw)
  (Tr.all_n (ztZ (Λ:=Λ W) (f:=134) (by rfl) zQd (fun x w h0 h1=>Tryz.bits_Len64 x w h0 h1))
  Tr.all_l Tr.all_l) (Tr.all_n (ziY (Λ:=Λ W) (f:=171) (by rfl) zok)
  Tr.all_l Tr.all_l))))
theorem link_ok:zav (Λ W) where
 hint n f g h:=Tr.all_find (p:=fun f g=>zmB Lk1.fid g=f) (zgD Lk1.ren_ok) h
 mixed:=by kernel_rfl
 prog n F h:=Tr.all_find Lk1.prog_ok h
 lib n sp vals r h hs:=Tr.all_find (zKs hm ht) h vals r hs
 libH n sp hp ct vals v hp' ct' h:=by cases h
end
end J1
end VE
end
