import Derived.ChangeSlices
import Derived.ChangeReads
import Derived.ChangeSame
import Derived.OpenShut
import Derived.Lib.AtoiErrMem
import Derived.Laws.Externs
import Derived.Attr
import Derived.Test.YtlkgmaenobiooaaGreatDoorTai
import Derived.Test.YtlkgmaenobiooaaGreatDoorTae
import Derived.Test.YtlkgmaenobiooaaGreatDoorTag
import Derived.Test.YtlkgmaenobiooaaGreatDoorTaj
import Derived.Test.YtlkgmaenobiooaaGreatDoorTap
import Derived.Test.YtlkgmaenobiooaaGreatDoorTad
import Derived.Test.YtlkgmaenobiooaaGreatDoorTah
set_option linter.all false
set_option maxRecDepth 100000
open Array renaming getElem?_eq_some_iff→xp
open Bool renaming and_eq_true→yg,and_true→tM,true_and→xV
open Go renaming Addr→vY,ChangeSpec→ybL,DataW→xv,Field→uJ,IntKind→yV,MemPlace→wh,Program→xe,TypeId→yt,Value→yf,World→yh
open List renaming all_cons→ybi,append_nil→wG,cons_append→xk,drop_drop→vG,drop_eq_getElem_cons→yX,drop_eq_nil_of_le→xn,drop_zero→ye,eq_nil_of_length_eq_zero→yN,flatMap_cons→yau,getD_cons_succ→yah,getD_eq_getElem?_getD→wA,getElem?_cons_zero→vv,length→ybM,length_append→yU,length_cons→yx,length_map→xq,length_nil→yJ,length_singleton→tR,length_take→yR,mapM_cons→vQ,mapM_nil→tH,map_cons→xi,mem_append_left→ux,mem_append_right→vz,mem_flatMap→vW,range→wS,range'→wa,range'_succ→vN,range'_zero→yaI,range_eq_range'→yaa,replicate→yF,replicate_succ→vd,set_cons_succ→yap,take_append_drop→xS,take_of_length_le→yK,take_succ_eq_append_getElem→xH
open Nat renaming add_mul→wL,add_sub_cancel→tz,add_zero→yW,beq→yu,beq_refl→vj,ble→yG,ble_eq_true_of_le→yy,blt→yL,eq_of_beq_eq_true→yo,eq_zero_or_pos→xj,le_div_iff_mul_le→yad,le_max_left→vM,le_max_right→vD,le_of_lt→uB,le_refl→yA,lt_of_le_of_lt→xL,lt_of_mul_lt_mul_right→tC,min_eq_left→xP,mul_add→xz,mul_assoc→xo,mul_comm→xB,mul_le_mul_left→yT,mul_le_mul_right→yY,mul_pos→yaT,mul_zero→xG,pow_le_pow_right→xx,pow_succ→xh,reduceEqDiff→ya,zero_add→yd
open Option renaming bind_eq_bind→wW,bind_some→xJ,map_some→wC,pure_def→wD
open Option.some renaming injEq→yc
open Prod.mk renaming injEq→yq
namespace VE
section
open Go
section
variable (P:xe)
def F1 (self:yt->Bool):List uJ->Nat->Nat->Bool
 | [],o,n=>yu o n
 | f::r,o,n=>yu f.offset o&&(self f.type&&F1 self r (o+P.cellsOf f.type) n)
def flat:Nat->yt->Bool
 | 0,_=>false
 | n+1,t=>
  match P.underlying t with
  | some .bool | some (.int _) | some (.float _) | some .string=>yu (P.cellsOf t) 1
  | some (.slice e)=>yu (P.cellsOf t) 1&&(yL 0 (P.cellsOf e)&&flat n e)
  | some (.struct fs)=>F1 P (fun u=>flat n u) fs.toList 0 (P.cellsOf t)
  | some (.array k e)=>yu (P.cellsOf t) (k*P.cellsOf e)&&flat n e
  | _=>false
def df {H:Type}:Nat->yt->xv H->List AV
 | 0,_,_=>[]
 | n+1,t,d=>
  match P.underlying t,d with
  | some .bool,.lit (.bool b)=>[.bool b]
  | some (.int k),.lit (.int _ m)=>[.int k m]
  | some (.float k),.lit (.float _ b)=>[.b5 k b]
  | some .string,.lit (.string s)=>[.str (s.map UInt8.toNat)]
  | some (.slice _),.nil=>[.aa]
  | some (.slice e),.slice jN spare=>[.ap spare.isEmpty jN.length (jN.flatMap fun x=>df n e x)]
  | some (.struct fs),.agg parts=>(fs.toList.zip parts).flatMap fun x=>df n x.1.type x.2
  | some (.array _ e),.agg parts=>parts.flatMap fun x=>df n e x
  | _,_=>[]
end
section
variable {aj:Nat->Nat} {m:Mp} {S:Nat->Prop} {w:yh}
def afz:∀{a b:List AV} {aQ o:Nat},b7 aj m S w a aQ o->b7 aj m S w b aQ (o+a.length)->b7 aj m S w (a++b) aQ o
 | [],b,aQ,o,_,h=>by simpa using h
 | x::a,b,aQ,o,h1,h2=>by
  exact ⟨h1.1,afz h1.2 (by rw [yx] at h2;rw [show o+1+a.length=o+(a.length+1) by omega];exact h2)⟩
def Oj:∀{a b:List AV},aO a=true->aO b=true->aO (a++b)=true
 | [],_,_,h=>h
 | x::a,b,h1,h2=>by
  simp only [aO,xk,yg] at h1 ⊢;exact ⟨h1.1,Oj h1.2 h2⟩
def afA:∀{a:List AV} {us:List yf},aA aj m S w a us->a.length=us.length
 | [],us,h=>by simp only [aA] at h;subst h;rfl
 | x::a,us,h=>by
  obtain ⟨u,r,rfl,_,h2⟩:=h;simp [afA h2]
end
section
variable {H:Type} {enc:yt×yf->H} {P:xe} {w:yh} {held:Bool} {aj:Nat->Nat} {m:Mp} {S:Nat->Prop}
def ajE {a:vY} {i:Nat} {u:yf} (h:w.cell? (a.add i)=some u):w.cell? ⟨a.block,a.off+i,none⟩=some u/\(i=0->a.spot=none):=by
 by_cases hi:i=0
 ·subst hi;have e:a.add 0=a:=by simp [Addr.add]
  rw [e] at h;have hs:a.spot=none:=by
   cases hq:a.spot with
   | none=>rfl
   | some k=>
    unfold World.cell? at h
    split at h
    ·simp [hq] at h
    all_goals simp_all
  obtain ⟨b,o,sp⟩:=a;simp only at hs;subst hs;exact ⟨by simpa using h,fun _=>rfl⟩
 ·have e:a.add i=⟨a.block,a.off+i,none⟩:=by simp [Addr.add,hi]
  rw [e] at h;exact ⟨h,fun h=>(hi h).elim⟩
def asn (a:vY) (i:Nat):(a.add i).block=a.block:=by unfold Addr.add;split<;>rfl
def awh (a:vY) (i:Nat):(a.add i).off=a.off+i:=by unfold Addr.add;split<;>simp_all
def Ow {α β:Type} {f:α->Option β}:∀{l:List α} {r:List β},l.mapM f=some r->r.length=l.length
 | [],r,h=>by simp only [tH,wD,yc] at h;subst h;rfl
 | x::l,r,h=>by
  rw [vQ] at h
  cases h1:f x with
  | none=>simp [h1] at h
  | some y=>
   cases h2:l.mapM f with
   | none=>simp [h1,h2] at h
   | some ys=>
    simp only [h1,h2,xJ,wW,wD,yc] at h;subst h;simp [Ow h2]
def aul {c:AV} {l:List AV} {b o:Nat} (h:b7 aj m S w (c::l) b o):b<w.heap.size:=by
 obtain ⟨⟨u,h1,_⟩,_⟩:=h;unfold World.cell? at h1
 cases hq:w.heap[b]? with
 | none=>simp [hq] at h1
 | some o=>exact (xp.1 hq).1
def UN {e:yt} {bk sz:Nat} {f:xv H->List AV} {a:vY} (eY:0<sz)
  (IH:∀(cs:List yf) (d:xv H) (ps:List wh),DataW.trod enc P w 0 (fun _=>true) held bk e cs=some (d,ps)->aA aj m S w (f d) cs/\aO (f d)=true/\cs.length=sz):
  ∀(k j:Nat) (xs:List (xv H×List wh)),(wa j k).mapM (fun i=>(w.cells? 0 (a.add (i*sz)) sz).bind (DataW.trod enc P w 0 (fun _=>true) held bk e))=some xs->
   b7 aj m S w ((xs.map (·.1)).flatMap f) a.block (a.off+j*sz)/\aO ((xs.map (·.1)).flatMap f)=true/\((xs.map (·.1)).flatMap f).length=k*sz/\xs.length=k/\(0<k->a.spot=none\/0<j)
 | 0,j,xs,h=>by
  simp only [yaI,tH,wD,yc] at h;subst h;simp [b7,aO]
 | k+1,j,xs,h=>by
  rw [vN,vQ] at h
  cases h1:(w.cells? 0 (a.add (j*sz)) sz) with
  | none=>simp [h1] at h
  | some us=>
   cases h2:DataW.trod enc P w 0 (fun _=>true) held bk e us with
   | none=>simp [h1,h2] at h
   | some x=>
    cases h3:(wa (j+1) k).mapM (fun i=>(w.cells? 0 (a.add (i*sz)) sz).bind (DataW.trod enc P w 0 (fun _=>true) held bk e)) with
    | none=>simp [h1,h2,h3] at h
    | some ys=>
     simp only [h1,h2,h3,xJ,wW,wD,yc] at h;subst h;obtain ⟨d,ps⟩:=x;obtain ⟨g1,g2,g3⟩:=IH us d ps h2;obtain ⟨k1,k2,k3,k4,_⟩:=UN eY IH k (j+1) ys h3;obtain ⟨_,c2,c3⟩:=World.cells?_some h1;have hl:(f d).length=sz:=by rw [afA g1,g3]
     have hc:∀(i:Nat) (u:yf),us[i]? =some u->w.cell? ⟨a.block,a.off+j*sz+i,none⟩=some u:=by
      intro i u hi;have Iw:i<sz:=by grind
      have h:=c3 i Iw;rw [hi] at h
      have:=(ajE h).1
      rwa [asn,awh] at this
     refine ⟨?_,?_,?_,by simp [k4],?_⟩
     ·simp only [xi,yau];refine afz (Ga _ us _ g1 hc) ?_
      grind
     ·simp only [xi,yau];exact Oj g2 k2
     ·grind
     ·intro _;rcases xj j with hj | hj
      ·left
       have h:=c3 0 eY;have hu:us[0]? =some us[0]:=by simp_all
       rw [hu] at h
       have:=(ajE h).2 rfl
       subst hj;simpa [Addr.add] using this
      ·grind
def aeS {bk N:Nat} {n:Nat} {cs:List yf} (hN:cs.length=N)
  (IH:∀(t:yt) (cs:List yf) (d:xv H) (ps:List wh),flat P n t=true->DataW.trod enc P w 0 (fun _=>true) held bk t cs=some (d,ps)->aA aj m S w (df P n t d) cs/\aO (df P n t d)=true/\cs.length=P.cellsOf t):
  ∀(r:List uJ) (o:Nat) (xs:List (xv H×List wh)),F1 P (fun u=>flat P n u) r o N=true->r.mapM (fun f=>DataW.trod enc P w 0 (fun _=>true) held bk f.type ((cs.drop f.offset).take (P.cellsOf f.type)))=some xs->
   aA aj m S w ((r.zip (xs.map (·.1))).flatMap fun x=>df P n x.1.type x.2) (cs.drop o)/\aO ((r.zip (xs.map (·.1))).flatMap fun x=>df P n x.1.type x.2)=true
 | [],o,xs,hf,h=>by
  have:=yo hf
  rw [xn (by omega)];simp [aA,aO]
 | f::r,o,xs,hf,h=>by
  simp only [F1,yg] at hf;obtain ⟨e1,e2,e3⟩:=hf;have e1:=yo e1;rw [vQ] at h
  cases h2:DataW.trod enc P w 0 (fun _=>true) held bk f.type ((cs.drop f.offset).take (P.cellsOf f.type)) with
  | none=>simp [h2] at h
  | some x=>
   cases h3:r.mapM (fun f=>DataW.trod enc P w 0 (fun _=>true) held bk f.type ((cs.drop f.offset).take (P.cellsOf f.type))) with
   | none=>simp [h2,h3] at h
   | some ys=>
    simp only [h2,h3,xJ,wW,wD,yc] at h;subst h;obtain ⟨d,ps⟩:=x;obtain ⟨g1,g2,g3⟩:=IH f.type _ d ps e2 h2;obtain ⟨k1,k2⟩:=aeS hN IH r _ ys e3 h3;rw [e1] at g1;have e:cs.drop o=(cs.drop o).take (P.cellsOf f.type)++cs.drop (o+P.cellsOf f.type):=by rw [<-vG];exact (xS _ _).symm
    rw [e];exact ⟨mr g1 k1,Oj g2 k2⟩
def ajF {bk sz:Nat} {e:yt} {f:xv H->List AV} {cs:List yf}
  (IH:∀(cs:List yf) (d:xv H) (ps:List wh),DataW.trod enc P w 0 (fun _=>true) held bk e cs=some (d,ps)->aA aj m S w (f d) cs/\aO (f d)=true/\cs.length=sz):
  ∀(k j:Nat) (xs:List (xv H×List wh)),(wa j k).mapM (fun i=>DataW.trod enc P w 0 (fun _=>true) held bk e ((cs.drop (i*sz)).take sz))=some xs->cs.length=(j+k)*sz->
   aA aj m S w ((xs.map (·.1)).flatMap f) (cs.drop (j*sz))/\aO ((xs.map (·.1)).flatMap f)=true
 | 0,j,xs,h,hl=>by
  simp only [yaI,tH,wD,yc] at h;subst h;rw [xn (by rw [hl];simp)]
  simp [aA,aO]
 | k+1,j,xs,h,hl=>by
  rw [vN,vQ] at h
  cases h2:DataW.trod enc P w 0 (fun _=>true) held bk e ((cs.drop (j*sz)).take sz) with
  | none=>simp [h2] at h
  | some x=>
   cases h3:(wa (j+1) k).mapM (fun i=>DataW.trod enc P w 0 (fun _=>true) held bk e ((cs.drop (i*sz)).take sz)) with
   | none=>simp [h2,h3] at h
   | some ys=>
    simp only [h2,h3,xJ,wW,wD,yc] at h;subst h;obtain ⟨d,ps⟩:=x;obtain ⟨g1,g2,g3⟩:=IH _ d ps h2;obtain ⟨k1,k2⟩:=ajF IH k (j+1) ys h3 (by rw [hl];congr 1;omega)
    have e:cs.drop (j*sz)=(cs.drop (j*sz)).take sz++cs.drop ((j+1)*sz):=by rw [wL,Nat.one_mul,<-vG];exact (xS _ _).symm
    rw [e];exact ⟨mr g1 k1,Oj g2 k2⟩
def agl (hS:∀b,b<w.heap.size->S b):∀(n bk:Nat) (t:yt) (cs:List yf) (d:xv H) (ps:List wh),flat P n t=true->DataW.trod enc P w 0 (fun _=>true) held bk t cs=some (d,ps)->
  aA aj m S w (df P n t d) cs/\aO (df P n t d)=true/\cs.length=P.cellsOf t
 | 0,bk,t,cs,d,ps,hf,h=>by simp [flat] at hf
 | n+1,0,t,cs,d,ps,hf,h=>by simp [DataW.trod] at h
 | n+1,bk+1,t,cs,d,ps,hf,h=>by
  have IH:=agl hS n bk;unfold DataW.trod at h;simp only [flat] at hf
  split at h
  ·rename_i hu;simp only [hu] at hf;simp only [yc,yq] at h;obtain ⟨rfl,rfl⟩:=h;simp only [df,hu];exact ⟨by simp [aA,an],by simp [aO,bg],by rw [yo hf];rfl⟩
  ·rename_i hu;simp only [hu] at hf
   split at h
   ·rename_i hk;simp only [yc,yq] at h;obtain ⟨rfl,rfl⟩:=h;simp only [df,hu];refine ⟨?_,by simp [aO,bg],by rw [yo hf];rfl⟩
    rw [hk.1];simp [aA,an]
   ·cases h
  ·rename_i hu;simp only [hu] at hf
   split at h
   ·rename_i hk;simp only [yc,yq] at h;obtain ⟨rfl,rfl⟩:=h;simp only [df,hu];refine ⟨?_,by simp [aO,bg],by rw [yo hf];rfl⟩
    rw [hk.1];simp [aA,an]
   ·cases h
  ·rename_i hu;simp only [hu] at hf
   split at h
   ·simp only [yc,yq] at h;obtain ⟨rfl,rfl⟩:=h;simp only [df,hu];refine ⟨?_,by simp [aO,bg],by rw [yo hf];rfl⟩
    simp only [aA,an];exact ⟨_,_,rfl,⟨_,rfl,rfl⟩,rfl⟩
   ·cases h
  ·rename_i hu;simp [hu] at hf
  ·rename_i hu;simp [hu] at hf
  ·rename_i hu;simp only [hu,yg] at hf;simp only [yc,yq] at h;obtain ⟨rfl,rfl⟩:=h;simp only [df,hu];exact ⟨by simp [aA,an],by simp [aO,bg],by rw [yo hf.1];rfl⟩
  ·rename_i e a len cap hu;simp only [hu,yg] at hf;obtain ⟨f1,f2,f3⟩:=hf;have eY:=zR.1 f2;simp only at h
   split at h
   case isFalse=>cases h
   rename_i hc;simp only [xm] at h
   cases h1:(wS len).mapM fun i=>(w.cells? 0 (a.add (i*P.cellsOf e)) (P.cellsOf e)).bind (DataW.trod enc P w 0 (fun _=>true) held bk e) with
   | none=>rw [h1] at h;simp at h
   | some jN=>
    cases h2:(wS (cap-len)).mapM fun j=>(w.cells? 0 (a.add ((len+j)*P.cellsOf e)) (P.cellsOf e)).bind (DataW.trod enc P w 0 (fun _=>true) held bk e) with
    | none=>rw [h1] at h;simp [h2] at h
    | some rest=>
     rw [h1] at h;simp only [xJ,h2,wC,yc,yq] at h;obtain ⟨rfl,rfl⟩:=h;have hIH:=fun cs d ps h=>IH e cs d ps f3 h
     rw [yaa] at h1 h2;obtain ⟨k1,k2,k3,k4,k5⟩:=UN (aj:=aj) (m:=m) (S:=S) eY hIH len 0 jN h1;have hrl:rest.length=cap-len:=by rw [Ow h2];simp
     have jm:cap≠0->a.spot=none:=by
      intro abc;rcases xj len with h0 | h0
      ·subst h0;simp only [yd,Nat.sub_zero] at h2;obtain ⟨_,_,_,_,q5⟩:=UN (aj:=aj) (m:=m) (S:=S) eY hIH cap 0 rest h2;exact (q5 (by omega)).resolve_right (by omega)
      ·exact (k5 h0).resolve_right (by omega)
     simp only [df,hu,xq];refine ⟨?_,by simp [aO,bg],by rw [yo f1];rfl⟩
     simp only [aA];refine ⟨_,_,rfl,?_,rfl⟩;simp only [an];by_cases abc:cap=0
     ·subst abc;have kM:len=0:=by omega
      subst kM;have he:jN=[]:=yN k4;subst he;exact .inr ⟨a,rfl,rfl,rfl⟩
     ·obtain ⟨b,o,sp⟩:=a;have jm:=jm abc;simp only at jm;subst jm;refine .inl ⟨b,o,cap,by rw [k4],by omega,fun hx=>?_,?_,k2,by simpa using k1⟩
      ·have:rest.length=0:=by simpa using hx
       omega
      ·generalize hg:((jN.map (·.1)).flatMap fun x=>df P n e x)=l at k1
       cases l with
       | nil=>exact .inl rfl
       | cons c l=>exact .inr (hS b (aul k1))
  ·rename_i zh x1 Nz fs hu;simp only [hu] at hf
   split at h
   case isFalse=>cases h
   rename_i hlen
   cases h1:fs.toList.mapM fun f=>DataW.trod enc P w 0 (fun _=>true) held bk f.type ((zh.drop f.offset).take (P.cellsOf f.type)) with
   | none=>rw [h1] at h;simp at h
   | some xs=>
    rw [h1] at h;simp only [wC,yc,yq] at h;obtain ⟨rfl,rfl⟩:=h;obtain ⟨k1,k2⟩:=aeS hlen (fun t cs d ps hf h=>IH t cs d ps hf h) fs.toList 0 xs hf h1;simp only [df,hu];exact ⟨by simpa using k1,k2,hlen⟩
  ·rename_i zh x1 Nz k e hu;simp only [hu,yg] at hf;obtain ⟨f1,f2⟩:=hf;have f1:=yo f1
   split at h
   case isFalse=>cases h
   rename_i hlen
   cases h1:(wS k).mapM fun i=>DataW.trod enc P w 0 (fun _=>true) held bk e ((zh.drop (i*P.cellsOf e)).take (P.cellsOf e)) with
   | none=>rw [h1] at h;simp at h
   | some xs=>
    rw [h1] at h;simp only [wC,yc,yq] at h;obtain ⟨rfl,rfl⟩:=h;rw [yaa] at h1;obtain ⟨k1,k2⟩:=ajF (aj:=aj) (m:=m) (S:=S) (fun cs d ps h=>IH e cs d ps f2 h) k 0 xs h1 (by rw [hlen,f1];simp)
    simp only [df,hu];exact ⟨by simpa using k1,k2,hlen⟩
  all_goals first
   | (cases h;done)
   | (simp_all;done)
def lS (P:xe) (n:Nat) (t:yt) (d:xv H):AV:=
 match P.underlying t with
 | some (.struct _) | some (.array _ _)=> .agg (df P n t d)
 | _=>(df P n t d).headD .undef
def awi (hS:∀b,b<w.heap.size->S b) {n base:Nat} {t:yt} {v:yf} {d:xv H} {ps:List wh} (hf:flat P n t=true) (h:DataW.Trod enc P w 0 (fun _=>true) held t v d ps)
  (hv:Value.okWide P w .any base t v):an aj m S w (lS P n t d) v/\bg (lS P n t d)=true:=by
 obtain ⟨bk,h⟩:=h;obtain ⟨h1,h2,h3⟩:=agl (aj:=aj) (m:=m) hS n bk t _ d ps hf h;have one:v.cells=#[v]->(∀fs,P.underlying t≠some (.struct fs))->(∀k e,P.underlying t≠some (.array k e))->an aj m S w (lS P n t d) v/\bg (lS P n t d)=true:=by
  intro hc Iu hna;have e:lS P n t d=(df P n t d).headD .undef:=by
   unfold lS
   grind
  rw [e];rw [hc] at h1;generalize df P n t d=l at h1 h2
  cases l with
  | nil=>simp [aA] at h1
  | cons x l=>
   simp only [aA] at h1;simp only [aO,yg] at h2
   grind
 cases n with
 | zero=>simp [flat] at hf
 | succ n=>
  unfold Value.okWide at hv;simp only [flat] at hf
  cases hu:P.underlying t with
  | none=>simp [hu] at hf
  | some ty=>
   rw [hu] at hv hf;cases ty<;>simp only [Bool.false_eq_true] at hf hv
   case struct fs=>
    obtain ⟨cs,rfl,_,_⟩:=hv;have e:lS P (n+1) t d= .agg (df P (n+1) t d):=by simp only [lS,hu]
    rw [e];exact ⟨by simp only [an];exact ⟨cs,rfl,h1⟩,by simpa only [bg] using h2⟩
   case array k e=>
    obtain ⟨cs,rfl,_,_⟩:=hv;have e:lS P (n+1) t d= .agg (df P (n+1) t d):=by simp only [lS,hu]
    rw [e];exact ⟨by simp only [an];exact ⟨cs,rfl,h1⟩,by simpa only [bg] using h2⟩
   all_goals
    refine one ?_ (by simp [hu]) (by simp [hu])
    cases v with
    | agg cs=>exfalso;simp only [Cell.okWide,Cell.ok,hu] at hv
    | _=>rfl
def ot (P:xe) (n:Nat):List yt->List (xv H)->List AV
 | t::ts,d::ds=>lS P n t d::ot P n ts ds
 | _,_=>[]
def agm (hS:∀b,b<w.heap.size->S b) {n base:Nat}:∀{ts:List yt} {vs:List yf} {ds:List (xv H)} {ps:List wh},ts.all (flat P n)=true->DataW.TrodAll enc P w 0 (fun _=>true) held ts vs ds ps->
  (∀(j:Nat) t v,ts[j]? =some t->vs[j]? =some v->Value.okWide P w .any base t v)->aA aj m S w (ot P n ts ds) vs/\aO (ot P n ts ds)=true
 | [],[],[],_,_,_,_=>by simp [ot,aA,aO]
 | t::ts,v::vs,d::ds,ps,hf,h,hv=>by
  simp only [ybi,yg] at hf;obtain ⟨p,q,h1,h2,_⟩:=h;obtain ⟨a1,a2⟩:=awi (aj:=aj) (m:=m) hS hf.1 h1 (hv 0 t v rfl rfl);obtain ⟨b1,b2⟩:=agm hS hf.2 h2 (fun j t v h1 h2=>hv (j+1) t v h1 h2);simp only [ot,aA,aO,yg]
  grind
 | [],_::_,_,_,_,h,_=>by simp [DataW.TrodAll] at h
 | [],[],_::_,_,_,h,_=>by simp [DataW.TrodAll] at h
 | _::_,[],_,_,_,h,_=>by simp [DataW.TrodAll] at h
 | _::_,_::_,[],_,_,h,_=>by simp [DataW.TrodAll] at h
end
end
section
open Go
section
variable {H:Type} {enc:yt×yf->H} {P:xe} {w w':yh} {held:Bool} {sp:Nat->Bool}
def ara (hs:∀b,b<w.heap.size->w'.heap[b]? =w.heap[b]?) {a:vY} {u:yf} (h:w.cell? a=some u):w'.cell? a=some u:=by
 have hb:a.block<w.heap.size:=by
  unfold World.cell? at h
  cases hq:w.heap[a.block]? with
  | none=>simp [hq] at h
  | some o=>exact (xp.1 hq).1
 unfold World.cell? at h ⊢;rw [hs _ hb];exact h
def aqH (hs:∀b,b<w.heap.size->w'.heap[b]? =w.heap[b]?) {base:Nat} {a:vY} {n:Nat} {us:List yf} (h:w.cells? base a n=some us):w'.cells? base a n=some us:=by
 unfold World.cells? at h ⊢
 split at h
 ·rename_i hb;rw [yz hb];exact mapM_carry h (fun x y _ _ hx=>ara hs hx)
 ·cases h
def awj {a:vY} {n:Nat} (h:0<n):MemPlace.cell a.block (a.off+0)∈MemPlace.row a n:=by
 unfold MemPlace.row;exact List.mem_map.2 ⟨0,List.mem_range.2 h,rfl⟩
def aeT (hs:∀b,b<w.heap.size->w'.heap[b]? =w.heap[b]?):∀(n bk:Nat) (t:yt) (cs:List yf) (d:xv H) (ps:List wh),flat P n t=true->DataW.trod enc P w 0 (fun _=>true) held bk t cs=some (d,ps)->
  (∀p,p∈ps->sp p.block=true)->DataW.trod enc P w' 0 sp held bk t cs=some (d,ps)
 | 0,bk,t,cs,d,ps,hf,h,hp=>by simp [flat] at hf
 | n+1,0,t,cs,d,ps,hf,h,hp=>by simp [DataW.trod] at h
 | n+1,bk+1,t,cs,d,ps,hf,h,hp=>by
  have IH:=aeT hs n bk;have elem:∀{e:yt} {a:vY} {y:xv H×List wh},flat P n e=true->(w.cells? 0 a (P.cellsOf e)).bind (DataW.trod enc P w 0 (fun _=>true) held bk e)=some y->(∀p,p∈y.2->sp p.block=true)->
    (w'.cells? 0 a (P.cellsOf e)).bind (DataW.trod enc P w' 0 sp held bk e)=some y:=by
   intro e a y he h hq
   cases h1:w.cells? 0 a (P.cellsOf e) with
   | none=>simp [h1] at h
   | some us=>
    rw [h1] at h;rw [aqH hs h1];simp only [xJ] at h ⊢;obtain ⟨d,ps⟩:=y;exact IH e us d ps he h hq
  unfold DataW.trod at h ⊢;simp only [flat] at hf
  split at h
  ·exact h
  ·exact h
  ·exact h
  ·exact h
  ·rename_i hu;simp [hu] at hf
  ·rename_i hu;simp [hu] at hf
  ·exact h
  ·rename_i e a len cap hu;simp only [hu,yg] at hf;obtain ⟨f1,f2,f3⟩:=hf;have eY:=zR.1 f2;simp only at h ⊢
   split at h
   case isFalse=>cases h
   rename_i hc;rw [yz hc];simp only [xm] at h
   cases h1:(wS len).mapM fun i=>(w.cells? 0 (a.add (i*P.cellsOf e)) (P.cellsOf e)).bind (DataW.trod enc P w 0 (fun _=>true) held bk e) with
   | none=>rw [h1] at h;simp at h
   | some jN=>
    cases h2:(wS (cap-len)).mapM fun j=>(w.cells? 0 (a.add ((len+j)*P.cellsOf e)) (P.cellsOf e)).bind (DataW.trod enc P w 0 (fun _=>true) held bk e) with
    | none=>rw [h1] at h;simp [h2] at h
    | some rest=>
     rw [h1] at h;simp only [xJ,h2,wC,yc,yq] at h;obtain ⟨rfl,rfl⟩:=h;have k1:((wS len).mapM fun i=>(w'.cells? 0 (a.add (i*P.cellsOf e)) (P.cellsOf e)).bind (DataW.trod enc P w' 0 sp held bk e))=some jN:=
      mapM_carry h1 (fun x y _ hy hx=>elem f3 hx (fun p hq=>hp p (vz _ (vW.2 ⟨y,ux _ hy,hq⟩))))
     have k2:((wS (cap-len)).mapM fun j=>(w'.cells? 0 (a.add ((len+j)*P.cellsOf e)) (P.cellsOf e)).bind (DataW.trod enc P w' 0 sp held bk e))=some rest:=
      mapM_carry h2 (fun x y _ hy hx=>elem f3 hx (fun p hq=>hp p (vz _ (vW.2 ⟨y,vz _ hy,hq⟩))))
     have hr:(if sp a.block=true then (wS (cap-len)).mapM fun j=>(w'.cells? 0 (a.add ((len+j)*P.cellsOf e)) (P.cellsOf e)).bind (DataW.trod enc P w' 0 sp held bk e) else some [])=some rest:=by
      by_cases jm:sp a.block=true
      ·rw [yz jm];exact k2
      ·rw [yp jm];have h0:¬0<(jN.length+rest.length)*P.cellsOf e:=fun h0=>jm (hp _ (ux _ (awj h0)))
       have hz:jN.length+rest.length=0:=by
        rcases xj (jN.length+rest.length) with h | h
        ·exact h
        ·exact (h0 (yaT h eY)).elim
       have:rest=[]:=yN (by omega)
       rw [this]
     rw [k1];simp only [xJ];rw [hr];rfl
  ·rename_i zh x1 Nz fs hu;simp only [hu] at hf
   split at h
   case isFalse=>cases h
   rename_i hlen;rw [yz hlen]
   cases h1:fs.toList.mapM fun f=>DataW.trod enc P w 0 (fun _=>true) held bk f.type ((zh.drop f.offset).take (P.cellsOf f.type)) with
   | none=>rw [h1] at h;simp at h
   | some xs=>
    rw [h1] at h;simp only [wC,yc,yq] at h;obtain ⟨rfl,rfl⟩:=h;have ze:∀(r:List uJ) (o:Nat),F1 P (fun u=>flat P n u) r o (P.cellsOf t)=true->∀f,f∈r->flat P n f.type=true:=by
     intro r
     induction r with
     | nil=>intro o _ f hm;cases hm
     | cons g r ih=>
      intro o hq f hm;simp only [F1,yg] at hq;rcases List.mem_cons.1 hm with rfl | hm
      ·exact hq.2.1
      ·exact ih _ hq.2.2 f hm
    have k1:(fs.toList.mapM fun f=>DataW.trod enc P w' 0 sp held bk f.type ((zh.drop f.offset).take (P.cellsOf f.type)))=some xs:=
     mapM_carry h1 (fun f y hm hy hx=>IH _ _ y.1 y.2 (ze _ _ hf f hm) hx (fun p hq=>hp p (vW.2 ⟨y,hy,hq⟩)))
    rw [k1];rfl
  ·rename_i zh x1 Nz k e hu;simp only [hu,yg] at hf
   split at h
   case isFalse=>cases h
   rename_i hlen;rw [yz hlen]
   cases h1:(wS k).mapM fun i=>DataW.trod enc P w 0 (fun _=>true) held bk e ((zh.drop (i*P.cellsOf e)).take (P.cellsOf e)) with
   | none=>rw [h1] at h;simp at h
   | some xs=>
    rw [h1] at h;simp only [wC,yc,yq] at h;obtain ⟨rfl,rfl⟩:=h;have k1:((wS k).mapM fun i=>DataW.trod enc P w' 0 sp held bk e ((zh.drop (i*P.cellsOf e)).take (P.cellsOf e)))=some xs:=
     mapM_carry h1 (fun i y _ hy hx=>IH _ _ y.1 y.2 hf.2 hx (fun p hq=>hp p (vW.2 ⟨y,hy,hq⟩)))
    rw [k1];rfl
  all_goals first
   | (cases h;done)
   | (simp_all;done)
def ad1 (hs:∀b,b<w.heap.size->w'.heap[b]? =w.heap[b]?) {n:Nat}:∀{ts:List yt} {vs:List yf} {ds:List (xv H)} {ps:List wh},ts.all (flat P n)=true->DataW.TrodAll enc P w 0 (fun _=>true) held ts vs ds ps->
  (∀p,p∈ps->sp p.block=true)->DataW.TrodAll enc P w' 0 sp held ts vs ds ps
 | [],[],[],ps,_,h,_=>by simpa only [DataW.TrodAll] using h
 | t::ts,v::vs,d::ds,ps,hf,h,hp=>by
  simp only [ybi,yg] at hf;obtain ⟨p,q,⟨bk,h1⟩,h2,rfl⟩:=h;exact ⟨p,q,⟨bk,aeT hs n bk t _ d p hf.1 h1 (fun x hx=>hp x (ux _ hx))⟩,ad1 hs hf.2 h2 (fun x hx=>hp x (vz _ hx)),rfl⟩
 | [],_::_,_,_,_,h,_=>by simp [DataW.TrodAll] at h
 | [],[],_::_,_,_,h,_=>by simp [DataW.TrodAll] at h
 | _::_,[],_,_,_,h,_=>by simp [DataW.TrodAll] at h
 | _::_,_::_,[],_,_,h,_=>by simp [DataW.TrodAll] at h
end
end
section
open Go Go.ChangeShapes Go.WideShapes
section
variable {H:Type} {enc:yt×yf->H} {P:xe} {W W':yh}
def aso (hc:Calm W W') (may:wh->Prop):W.keptBut W' may:=by
 refine ⟨hc.os,hc.output,fun i hi=>?_⟩;rw [hc.same i hi]
 cases hq:W.heap[i]? with
 | none=>rfl
 | some o=>cases o<;>simp
def aqI (hc:Calm W W') {b off:Nat} (hb:b<W.heap.size):W'.frozen? ⟨b,off,none⟩=W.frozen? ⟨b,off,none⟩:=by
 unfold World.frozen?;simp only;rw [hc.same b hb]
def aum {fn:Func} {s:ybL} {apart fresh handsOn again:Bool} {args:Array yf} {ds gs:List (xv H)} {before:List wh} {n:Nat} {tb:yt}
  (hW:DataW.Whole enc P fn.params.toList s.vars apart W args.toList ds gs before) (hv:s.vars=[]) (PV:fn.params.toList.all (flat P n)=true) (hc:Calm W W')
  (gR:s.fn H (ds++gs)={results:=[.lit (.bool true)],args:=ds}) (HY:fn.resultTypes=#[tb]) (kS:P.underlying tb=some .bool):
  s.post enc P fn apart fresh handsOn again W args (.bool true) W':=by
 have aZ:=hW.lt;have hW0:=hW;obtain ⟨p,q,hA,hV,hpq,hz,hn⟩:=hW;rw [hv] at hV;have hq:gs=[]/\q=[]:=by
  cases gs with
  | nil=>exact ⟨rfl,by simpa only [DataW.TrodVars] using hV⟩
  | cons g gs=>simp [DataW.TrodVars] at hV
 obtain ⟨rfl,rfl⟩:=hq;have hbp:before=p:=by rw [hpq];simp
 subst hbp;have gW:∀sp:Nat->Bool,(∀p∈before,sp p.block=true)->DataW.TrodAll enc P W' 0 sp true fn.params.toList args.toList ds before:=fun sp h=>ad1 hc.same PV hA h
 have alw:∀(b:Nat) (sp:Nat->Bool) (hd:Bool),DataW.TrodAll enc P W' b sp hd fn.resultTypes.toList ((Value.bool true).resultList fn.resultTypes.size) [.lit (.bool true)] []:=by
  intro b sp hd;rw [HY];refine ⟨[],[],⟨1,?_⟩,rfl,rfl⟩;simp [DataW.trod,kS,Value.cells]
 have hold:∀p∈before,(fun b=>decide (b<W.heap.size)) p.block=true:=fun p hp=>by simpa using aZ p hp
 have alx:∀sp:Nat->Bool,DataW.TrodVars enc P W' sp s.vars ([]:List (xv H)) []:=fun sp=>by rw [hv];rfl
 refine ⟨ds,[],before,[],before,[],hW0,by rw [gR];exact alw _ _ _,by rw [gR];exact gW _ hold,by rw [gR];exact alx _,aso hc _,fun _=>?_⟩
 refine ⟨?_,[.lit (.bool true)]++ds,[],[]++before++[],⟨[]++before,[],trodAll_append (gW _ (fun _ _=>rfl)) (alw _ _ _),alx _,rfl,?_,?_⟩,?_⟩
 ·intro j t r h1 h2;rw [HY] at h1 h2
  cases j with
  | zero=>
   simp only [List.getElem?_toArray,vv,yc] at h1;simp only [Value.resultList,List.size_toArray,yx,yJ,xm,yd,vv,yc] at h2;subst h1;subst h2;simp [Value.okWide,kS,Cell.okWide,Cell.ok]
  | succ j=>simp at h1
 ·intro b off hp;have hp:MemPlace.cell b off∈before:=by simpa using hp
  rw [aqI hc (b:=b) (aZ _ hp)];exact hz b off hp
 ·intro ha
  have:=hn ha
  simpa using this
 ·intro p hp _;simpa using hp
def Kf {O:bw} {n k:Nat} {fn:Func} {s:ybL} {apart fresh handsOn again:Bool} {base:Nat} {args:Array yf} {ds gs:List (xv H)} {before:List wh} {tb:yt}
  (hp:dF O n (ot O.P k fn.params.toList ds) (.bool true)) (Dl:O.w0=W) (gR:O.P.funcs[O.aj n]? =some fn) (hb:fn.body.isSome=true) (De:fn.name≠ "runtime.NumGoroutine")
  (aM:∀(j:Nat) t v,fn.params[j]? =some t->args[j]? =some v->Value.okWide O.P W .any base t v)
  (hW:DataW.Whole enc O.P fn.params.toList s.vars apart W args.toList ds gs before) (hv:s.vars=[]) (PV:fn.params.toList.all (flat O.P k)=true)
  (hfs:s.fn H (ds++gs)={results:=[.lit (.bool true)],args:=ds}) (HY:fn.resultTypes=#[tb]) (kS:O.P.underlying tb=some .bool):
  Calls O.P (O.aj n) args W fun e W'=>∃v,e= .returned v/\s.post enc O.P fn apart fresh handsOn again W args v W':=by
 have hA:=hW;obtain ⟨p,q,hA,_⟩:=hA;obtain ⟨h1,h2⟩:=agm (aj:=O.aj) (m:=ff) (S:=fun b=>b<W.heap.size) (fun b hb=>hb) PV hA (fun j t v a b=>aM j t v (by simpa using a) (by simpa using b));have hi:=hp W (fun b=>b<W.heap.size) args ⟨fun b _=>by rw [Dl],by rw [Dl];exact yA _⟩ (fun b hb=>hb) h1 h2
 have key:∀e W',af5 O W (fun b=>b<W.heap.size) (.bool true) e W'->∃v,e= .returned v/\s.post enc O.P fn apart fresh handsOn again W args v W':=by
  rintro e W' ⟨u,S',rfl,hc,_,_,_,hr⟩;simp only [nI,ir,an] at hr;obtain ⟨_,_,hu,_⟩:=hr;subst hu;exact ⟨_,rfl,aum hW hv PV hc hfs HY kS⟩
 rcases hi with ⟨_,hi⟩ | ⟨u,w',hi,_⟩
 ·exact callsIn_wide.1 (hi.mono key)
 ·rw [OL gR hb De] at hi;cases hi
end
end
section
namespace J1
open Go Go.Proofs
noncomputable def O (W:yh):bw:=⟨Tryz.prog,VE.aE,AB zq.aj,VE.prog,PU zq.cy zq.hd,W⟩
def afB {w:yh} {k:Nat} {os:Array Go.Obj}:Calm w (Go.Sort.grow (w.drewN k) os):=J4 (Lib.below_grow w.heap.size w (yA _) k os)
def agn {W w:yh} (h:Lib.TabIs Tryz.prog W "internal/strconv.uint64pow10" .u64 Lib.pow10Tab) (hg:Cl (O W) w):Lib.TabIs Tryz.prog w "internal/strconv.uint64pow10" .u64 Lib.pow10Tab:=by
 unfold Lib.TabIs World.var? at h ⊢
 cases hn:Tryz.prog.globalNamed "internal/strconv.uint64pow10" with
 | none=>rw [hn] at h;exact h
 | some g=>
  rw [hn] at h;simp only [xJ] at h ⊢;have hb:g<W.heap.size:=by
   cases hq:W.heap[g]? with
   | none=>rw [hq] at h;cases h
   | some o=>exact (xp.1 hq).1
  rw [hg.1 g hb];exact h
def aDr:∀args w,(callFunc 159 args).run Tryz.prog w= .ok (.enter 159 args) w:=enters_of Tryz.func159 (by kernel_rfl) rfl
def aDs:∀args w,(callFunc 165 args).run Tryz.prog w= .ok (.enter 165 args) w:=enters_of Tryz.func165 (by kernel_rfl) rfl
def aDt:∀args w,(callFunc 223 args).run Tryz.prog w= .ok (.enter 223 args) w:=enters_of Tryz.func223 (by kernel_rfl) rfl
def aDu:∀args w,(callFunc 224 args).run Tryz.prog w= .ok (.enter 224 args) w:=enters_of Tryz.func224 (by kernel_rfl) rfl
def aDv:∀args w,(callFunc 225 args).run Tryz.prog w= .ok (.enter 225 args) w:=enters_of Tryz.func225 (by kernel_rfl) rfl
def aDw:∀args w,(callFunc 200 args).run Tryz.prog w= .ok (.enter 200 args) w:=enters_of Tryz.func200 (by kernel_rfl) rfl
def aDx:∀args w,(callFunc 208 args).run Tryz.prog w= .ok (.enter 208 args) w:=enters_of Tryz.func208 (by kernel_rfl) rfl
def aDy:∀args w,(callFunc 209 args).run Tryz.prog w= .ok (.enter 209 args) w:=enters_of Tryz.func209 (by kernel_rfl) rfl
def aDz:∀args w,(callFunc 210 args).run Tryz.prog w= .ok (.enter 210 args) w:=enters_of Tryz.func210 (by kernel_rfl) rfl
def aDA:∀args w,(callFunc 213 args).run Tryz.prog w= .ok (.enter 213 args) w:=enters_of Tryz.func213 (by kernel_rfl) rfl
def aDB:∀args w,(callFunc 244 args).run Tryz.prog w= .ok (.enter 244 args) w:=enters_of Tryz.func244 (by kernel_rfl) rfl
def aDC:∀args w,(callFunc 188 args).run Tryz.prog w= .ok (.enter 188 args) w:=enters_of Tryz.func188 (by kernel_rfl) rfl
def awk (b:Nat) (w:yh):(callFunc 219 #[.float .f64 b]).run Tryz.prog w= .ok (.value (.int .u64 b)) w:=by
 rw [run_callFunc_extern Tryz.func219 (by kernel_rfl) (by kernel_rfl) (by kernel_rfl) (e:=Extern.MathFloatBits.float64bits) (by kernel_rfl)];rfl
def aqJ (b:Nat) (w:yh):(callFunc 222 #[.int .u64 b]).run Tryz.prog w= .ok (.value (.float .f64 b)) w:=by
 rw [run_callFunc_extern Tryz.func222 (by kernel_rfl) (by kernel_rfl) (by kernel_rfl) (e:=Extern.MathFloatBits.float64frombits) (by kernel_rfl)];rfl
def aCe (W:yh) (n:Nat) (sp:List AV->Option AV):Prop:=∀av r,sp av=some r->dF (O W) n av r
section
variable {W:yh} {m:Int} (hm:W.cell? ⟨1,0,none⟩=some (.int .i64 m)) (ht:Lib.TabIs Tryz.prog W "internal/strconv.uint64pow10" .u64 Lib.pow10Tab)
include hm ht
def azD:amh.mj (aCe W):=
 (Tr.il (auc (O:=O W) (f:=210) (by rfl) aDz (fun s z w hl h=>(Tryz.strconv_Atoi s z hl h w).mono fun _ _ ⟨h1,t,h2⟩=>⟨h1,h2▸J4 (Lib.bytesWorld_below _ _ _)⟩))
  (Tr.il (aq8 (O:=O W) (f:=225) (by rfl) aDv Tryz.strings_Repeat)
  (Tr.il (aub (O:=O W) (f:=223) (by rfl) aDt (fun z w h0 h1 hg=>(Tryz.strconv_Itoa z h0 h1 w (agn ht hg)).mono fun _ _ ⟨h1,k,os,h2⟩=>⟨h1,h2▸afB⟩))
  (Tr.il (ap7 (O:=O W) (f:=165) (by rfl) aDs Tryz.strings_CutPrefix)
  (Tr.il (av2 (O:=O W) (f:=159) (by rfl) aDr (a:=⟨1,0,none⟩) (m:=m) hm (fun s sep w hs hc=>Tryz.strings_Cut s sep m w hs hc))
  Tr.fD Tr.fD) Tr.fD) (Tr.il (ap6 (O:=O W) (f:=224) (by rfl) aDu (fun z w hz hg=>(Tryz.apY z hz w (agn ht hg)).mono fun _ _ ⟨h1,k,os,h2⟩=>⟨h1,h2▸afB⟩))
  Tr.fD Tr.fD)) (Tr.il (ap8 (O:=O W) (f:=208) (by rfl) aDx Tryz.strings_HasPrefix)
  (Tr.il (asf (O:=O W) (f:=200) (by rfl) aDw (fun x y w hx hy=>Tryz.bits_Mul64 x y hx hy w))
  Tr.fD Tr.fD) (Tr.il (ap5 (O:=O W) (f:=209) (by rfl) aDy Tryz.strings_TrimPrefix)
  Tr.fD Tr.fD))) (Tr.il (asi (O:=O W) (f:=230) (by rfl) (fun x y b w h=>Tryz.bits_Sub64 x y b h w))
  (Tr.il (aud (O:=O W) (f:=244) (by rfl) aDB (fun x w h0 h1=>Tryz.bits_LeadingZeros64 x w h0 h1))
  (Tr.il (aua (O:=O W) (f:=213) (by rfl) aDA (fun s cs w hs C9 ha=>Tryz.aql s cs w hs C9 ha))
  Tr.fD Tr.fD) (Tr.il (ash (O:=O W) (f:=228) (by rfl) (fun x y c w h=>Tryz.bits_Add64 x y c h w))
  Tr.fD Tr.fD)) (Tr.il (aqw (O:=O W) (f:=219) (by rfl) awk)
  (Tr.il (asg (O:=O W) (f:=188) (by rfl) aDC (fun x w h0 h1=>Tryz.bits_Len64 x w h0 h1))
  Tr.fD Tr.fD) (Tr.il (ap3 (O:=O W) (f:=222) (by rfl) aqJ)
  Tr.fD Tr.fD))))
def KF:ep (O W) where
 hint n f g h:=Tr.DQ (p:=fun f g=>AB zq.aj g=f) (Up zq.ayj) h
 mixed:=by kernel_rfl
 prog n F h:=Tr.DQ zq.awg h
 aE n sp av r h hs:=Tr.DQ (azD hm ht) h av r hs
 Ha n sp hp ct av v aw a6 h:=by cases h
end
end J1
end
section
def cX:List Int->Int
 | []=>0
 | a::r=>if a=0 then cX r else a
def aep {l:List Int} {i:Nat} (h:i<l.length):cX (l.drop i)=if l[i]=0 then cX (l.drop (i+1)) else l[i]:=by
 rw [yX h,cX]
def oG (lo hi:Int):List Int->Bool
 | []=>false
 | a::r=>if a<lo\/hi<a then true else oG lo hi r
def ago {lo hi:Int} {l:List Int} (h:oG lo hi l=false):∀i (fy:i<l.length),lo<=l[i]/\l[i]<=hi:=by
 induction l with
 | nil=>intro i fy;exact absurd fy (Nat.not_lt_zero _)
 | cons a r ih=>
  simp only [oG] at h
  grind
def asp {lo hi:Int} {l:List Int} (h:oG lo hi l=false):∀i,oG lo hi (l.take i)=false:=by
 induction l with
 | nil=>intro i;simp [oG]
 | cons a r ih=>
  intro i;simp only [oG] at h
  split at h
  ·grind
  ·rename_i hc
   cases i with
   | zero=>simp [oG]
   | succ i=>simp only [List.take_succ_cons,oG,hc,y9,ih h i]
end
section
def dv:List Int->Nat
 | []=>0
 | a::r=>a.toNat+1000000000*dv r
def nk:∀(a b:List Int),dv (a++b)=dv a+1000000000^a.length*dv b
 | [],b=>by simp [dv]
 | x::a,b=>by
  simp only [xk,dv,nk a b,yx,xh,xz]
  grind
def px {l:List Int} (i:Nat):dv (l.take (i+1))=dv (l.take i)+1000000000^i*(l.getD i 0).toNat:=by
 by_cases h:i<l.length
 ·rw [xH h,nk,yR,xP (by omega)];simp [dv,wA,List.getElem?_eq_getElem h]
 ·rw [yK (by omega),yK (by omega)]
  grind
abbrev dg (l:List Int):Prop:=oG 0 999999999 l=false
def ie {a b:List Int}:dg (a++b)↔dg a/\dg b:=by
 induction a with
 | nil=>simp [dg,oG]
 | cons x a ih=>
  simp only [dg,xk,oG] at ih ⊢
  grind
def kZ {x:Int}:dg [x]↔0<=x/\x<1000000000:=by
 simp only [dg,oG]
 grind
def ij {l:List Int} (h:dg l) (i:Nat):0<=l.getD i 0/\l.getD i 0<1000000000:=by
 by_cases hi:i<l.length
 ·have:=ago h i hi
  grind
 ·grind
def DX {l:List Int} (h:dg l) (i:Nat):dg (l.take i):=asp h i
def jO:∀{l:List Int},dg l->dv l<1000000000^l.length
 | [],_=>by simp [dv]
 | x::l,h=>by
  have h':dg ([x]++l):=h;obtain ⟨h1,h2⟩:=ie.1 h';have h1:=kZ.1 h1
  have:=jO h2
  simp only [dv,yx,xh];omega
def et:List Int->List Int
 | []=>[]
 | a::r=>match et r with | []=>if a=0 then [] else [a] | t::q=>a::t::q
def J6:∀l:List Int,et (l++[0])=et l
 | []=>rfl
 | a::l=>by simp only [xk,et,J6 l]
def Ok {a:Int} (h:a≠0):∀l:List Int,et (l++[a])=l++[a]
 | []=>by simp [et,h]
 | b::l=>by
  simp only [xk,et,Ok h l]
  cases hq:l++[a] with
  | nil=>simp at hq
  | cons t q=>rfl
def zL:∀l:List Int,dv (et l)=dv l
 | []=>rfl
 | a::l=>by
  have ih:=zL l;simp only [et,dv]
  split
  ·rename_i h;rw [h] at ih
   split
   ·rename_i h0;subst h0;simp [dv,<-ih]
   ·simp [dv,<-ih]
  ·rename_i t q h;rw [h] at ih;simp only [dv] at ih ⊢;omega
def BP:∀{l:List Int},dg l->dg (et l)
 | [],_=>rfl
 | a::l,h=>by
  have h':dg ([a]++l):=h;obtain ⟨h1,h2⟩:=ie.1 h';have ih:=BP h2;simp only [et]
  split
  ·grind
  ·rename_i t q hq;rw [hq] at ih
   exact (ie (a:=[a]) (b:=t::q)).2 ⟨h1,ih⟩
def Ox:∀l:List Int,(et l).length<=l.length
 | []=>yA _
 | a::l=>by
  have ih:=Ox l;simp only [et]
  grind
def snoc {α:Type} (l:List α):l=[]\/∃m a,l=m++[a]:=by
 rcases List.eq_nil_or_concat l with h | ⟨m,a,h⟩
 ·grind
 ·grind
def aqK:∀(n:Nat) (l:List Int),l.length=n->et (et l)=et l:=by
 intro n
 induction n with
 | zero=>intro l h;rw [yN h];rfl
 | succ n ih=>
  intro l h;rcases snoc l with rfl | ⟨m,a,rfl⟩
  ·rfl
  ·by_cases h0:a=0
   ·subst h0;rw [J6]
    grind
   ·rw [Ok h0,Ok h0]
def arb (l:List Int):et (et l)=et l:=aqK _ l rfl
abbrev nz (l:List Int):Prop:=et l=l
def Gp (l:List Int):nz (et l):=arb l
def PW {l:List Int} (h:nz l) (hd:dg l) (h0:l≠[]):1000000000^(l.length-1)<=dv l:=by
 rcases snoc l with rfl | ⟨m,a,rfl⟩
 ·grind
 ·by_cases ha:a=0
  ·subst ha
   have:=Ox m
   have e:=congrArg ybM h;rw [J6] at e
   grind
  ·rw [nk]
   have:=kZ.1 (ie.1 hd).2
   simp only [dv,yU,tR,tz,xG,yW];have h1:1<=a.toNat:=by omega
   have:=yT (1000000000^m.length) h1
   omega
def Vy {l:List Int} (h:nz l) (hd:dg l) (h0:dv l=0):l=[]:=by
 by_cases hl:l=[]
 ·grind
 ·have:=PW h hd hl
  grind
def VX {a b:List Int} (ha:dg a) (hb:nz b) (da:dg b) (h:a.length<b.length):dv a<dv b:=by
 have h1:=jO ha;have h2:=PW hb da (fun e=>by subst e;simp at h);have h3:1000000000^a.length<=1000000000^(b.length-1):=xx (by decide) (by omega);omega
def ef (m n:Nat):Int:=if m<n then -1 else if n<m then 1 else 0
def akN {l:List Int} {i:Nat} (h:i<l.length):dv l=dv (l.take i)+1000000000^i*(l[i].toNat+1000000000*dv (l.drop (i+1))):=by
 have e:l=l.take i++l[i]::l.drop (i+1):=by simp_all
 have:dv l=dv (l.take i++l[i]::l.drop (i+1)):=congrArg dv e
 rw [this,nk,yR,xP (by omega)];rfl
def ajG {a b:List Int} {i:Nat} (ha:dg a) (hb:dg b) (h1:i<a.length) (h2:i<b.length) (he:a.drop (i+1)=b.drop (i+1)) (h:a[i]<b[i]):dv a<dv b:=by
 rw [akN h1,akN h2,he];have hl:=jO (DX ha i);have g1:=ago ha i h1;have h3:a[i].toNat+1000000000*dv (b.drop (i+1))+1<=b[i].toNat+1000000000*dv (b.drop (i+1)):=by omega
 have:=yT (1000000000^i) h3
 grind
def VY:∀{l:List Int} {j:Nat} {x:Int},j<l.length->dv (l.set j x)+1000000000^j*(l.getD j 0).toNat=dv l+1000000000^j*x.toNat
 | [],j,x,h=>by simp at h
 | a::l,0,x,_=>by simp [dv];omega
 | a::l,j+1,x,h=>by
  have ih:=VY (l:=l) (j:=j) (x:=x) (by simpa using h);simp only [yap,dv,yah,xh]
  grind
def Pw {l:List Int} (h:dg l) {j:Nat} {x:Int} (hx:0<=x/\x<1000000000):dg (l.set j x):=by
 by_cases hj:j<l.length
 ·rw [List.set_eq_take_append_cons_drop,yz hj];have e:l=l.take (j+1)++l.drop (j+1):=(xS _ _).symm;have hd:dg (l.drop (j+1)):=by rw [e] at h;exact (ie.1 h).2
  exact ie.2 ⟨DX h j,(ie (a:=[x]) (b:=l.drop (j+1))).2 ⟨kZ.2 hx,hd⟩⟩
 ·rw [List.set_eq_of_length_le (by omega)];exact h
def agp {l:List Int} {j m:Nat} {x:Int} (h:m≠j):(l.set j x).getD m 0=l.getD m 0:=by grind
def aun {V0 V V' p q A X Y o c s:Nat} (hs:s=o+A*X+c) (bf:V'+p*q*o=V+p*q*(s%1000000000)) (hv:V+p*q*c=V0+p*(A*Y)):
  V'+p*(q*1000000000)*(s/1000000000)=V0+p*(A*(Y+q*X)):=by
 have e:=Nat.mod_add_div s 1000000000;have e2:p*q*s=p*q*(s%1000000000)+p*(q*1000000000)*(s/1000000000):=by
  conv=>lhs;rw [<-e]
  rw [xz,<-xo (p*q),<-xo p q]
 have e3:p*q*s=p*q*o+p*q*(A*X)+p*q*c:=by rw [hs,xz,xz]
 have e4:p*(A*(Y+q*X))=p*(A*Y)+p*q*(A*X):=by
  rw [xz,xz,xo p q,<-xo A q X,xB A q,xo q A X]
 omega
def agq (n:Nat):dv (yF n 0)=0:=by
 induction n with
 | zero=>rfl
 | succ n ih=>simp [vd,dv,ih]
def agr (n:Nat):dg (yF n 0):=by
 induction n with
 | zero=>rfl
 | succ n ih=>exact (ie (a:=[0]) (b:=yF n 0)).2 ⟨by decide,ih⟩
end
section
def bv (b:Nat):List Nat->Nat
 | []=>0
 | a::r=>a+b*bv b r
def lo (b:Nat) (l:List Nat):Prop:=∀x,x∈l->x<b
section
variable {b:Nat}
def Ce (a:Nat):bv b [a]=a:=by simp [bv]
def sd:∀(l m:List Nat),bv b (l++m)=bv b l+b^l.length*bv b m
 | [],m=>by simp [bv]
 | x::l,m=>by
  simp only [xk,bv,sd l m,yx,xh,xz]
  grind
def gd {l:List Nat} {i:Nat} (h:i<l.length):l[i]=l.getD i 0:=by simp_all
def VZ {l:List Nat} {i:Nat} (h:l.length<=i):l.getD i 0=0:=by simp_all
def jw {l:List Nat} (i:Nat):bv b (l.take (i+1))=bv b (l.take i)+b^i*l.getD i 0:=by
 by_cases h:i<l.length
 ·rw [xH h,sd,yR,xP (by omega),Ce,gd h]
 ·rw [yK (by omega),yK (by omega),VZ (by omega),xG,yW]
def Px:lo b []:=fun _ h=>by simp at h
def Oy {l m:List Nat}:lo b (l++m)↔lo b l/\lo b m:=by
 constructor
 ·intro h;exact ⟨fun x hx=>h x (by simp [hx]),fun x hx=>h x (by simp [hx])⟩
 ·rintro ⟨h1,h2⟩ x hx;rcases List.mem_append.1 hx with h | h
  ·exact h1 x h
  ·exact h2 x h
def GK {x:Nat}:lo b [x]↔x<b:=by simp [lo]
def gI (hb:0<b) {l:List Nat} (h:lo b l) (i:Nat):l.getD i 0<b:=by
 by_cases hi:i<l.length
 ·rw [<-gd hi];exact h _ (List.getElem_mem hi)
 ·grind
def BX {l:List Nat} (h:lo b l) (i:Nat):lo b (l.take i):=fun x hx=>h x (List.mem_of_mem_take hx)
def ajH {l:List Nat} (h:lo b l) (i:Nat):lo b (l.drop i):=fun x hx=>h x (List.mem_of_mem_drop hx)
def mC {l:List Nat} (h:lo b l) {i x:Nat} (hx:x<b):lo b (l.set i x):=fun y hy=>by
 rcases List.mem_or_eq_of_mem_set hy with h1 | h1
 ·exact h y h1
 ·omega
def GL (hb:0<b) (n:Nat):lo b (yF n 0):=fun x hx=>by
 grind
def GM (n:Nat):bv b (yF n 0)=0:=by
 induction n with
 | zero=>rfl
 | succ n ih=>simp [vd,bv,ih]
def DY (n m:Nat):(yF n (0:Nat)).getD m 0=0:=by grind
def mG:∀{l:List Nat},lo b l->bv b l<b^l.length
 | [],_=>by simp [bv]
 | x::l,h=>by
  have h1:=h x (by simp);have h2:=mG (l:=l) (fun y hy=>h y (by simp [hy]));simp only [bv,yx,xh,xB _ b]
  have:=yT b (show bv b l+1<=b^l.length from h2)
  grind
def ow:∀{l:List Nat} {i x:Nat},i<l.length->bv b (l.set i x)+b^i*l.getD i 0=bv b l+b^i*x
 | [],i,x,h=>by simp at h
 | a::l,0,x,_=>by simp [bv];omega
 | a::l,i+1,x,h=>by
  have ih:=ow (l:=l) (i:=i) (x:=x) (by simpa using h)
  have:=congrArg (fun t=>b*t) ih
  simp only [xz] at this;simp only [yap,bv,yah,xh,xB _ b,xo] at this ⊢;omega
def py {l:List Nat} {i m x:Nat} (h:i≠m):(l.set i x).getD m 0=l.getD m 0:=by simp_all
def arc {l:List Nat} {i x:Nat} (h:i<l.length):(l.set i x).getD i 0=x:=by simp_all
def Kp (l:List Nat) (i:Nat) (h:i<=l.length):bv b l=bv b (l.take i)+b^i*bv b (l.drop i):=by
 have:=sd (b:=b) (l.take i) (l.drop i)
 simp_all
def ez:List Nat->List Nat
 | []=>[]
 | a::r=>match ez r with | []=>if a=0 then [] else [a] | t::q=>a::t::q
def Ol:∀l:List Nat,ez (l++[0])=ez l
 | []=>rfl
 | a::l=>by simp only [xk,ez,Ol l]
def F2 {a:Nat} (h:a≠0):∀l:List Nat,ez (l++[a])=l++[a]
 | []=>by simp [ez,h]
 | b::l=>by
  simp only [xk,ez,F2 h l]
  cases hq:l++[a] with
  | nil=>simp at hq
  | cons t q=>rfl
abbrev gB (l:List Nat):Prop:=ez l=l
def ard:∀(n:Nat) (l:List Nat),l.length=n->∃i,i<=n/\ez l=l.take i/\gB (l.take i)/\bv b (l.take i)=bv b l:=by
 intro n
 induction n with
 | zero=>intro l h;rw [yN h];exact ⟨0,yA _,rfl,rfl,rfl⟩
 | succ n ih=>
  intro l h;rcases snoc l with rfl | ⟨m,a,rfl⟩
  ·grind
  ·have hm:m.length=n:=by simp_all
   by_cases h0:a=0
   ·subst h0;obtain ⟨i,h1,h2,h3,h4⟩:=ih m hm;have e:(m++[0]).take i=m.take i:=by grind
    refine ⟨i,by omega,by rw [Ol,h2,e],by rw [e];exact h3,?_⟩
    rw [e,h4,sd];simp [bv]
   ·have e:(m++[a]).take (n+1)=m++[a]:=yK (by simp [hm]);exact ⟨n+1,yA _,by rw [e,F2 h0],by rw [e];exact F2 h0 m,by rw [e]⟩
def Oz (l:List Nat):∃i,i<=l.length/\ez l=l.take i/\gB (ez l)/\bv b (ez l)=bv b l:=by
 obtain ⟨i,h1,h2,h3,h4⟩:=ard (b:=b) l.length l rfl
 grind
def BQ (l:List Nat):bv b (ez l)=bv b l:=by
 obtain ⟨_,_,_,_,h⟩:=Oz (b:=b) l;exact h
def BR (l:List Nat):gB (ez l):=by
 obtain ⟨_,_,_,h,_⟩:=Oz (b:=2) l;exact h
def BS {l:List Nat} (h:lo b l):lo b (ez l):=by
 obtain ⟨i,_,h2,_⟩:=Oz (b:=b) l;rw [h2];exact BX h i
def asq (l:List Nat):(ez l).length<=l.length:=by
 obtain ⟨i,_,h2,_⟩:=Oz (b:=2) l
 grind
def OM {l:List Nat} (h:gB l) (h0:l≠[]):l.getD (l.length-1) 0≠0:=by
 rcases snoc l with rfl | ⟨m,a,rfl⟩
 ·grind
 ·intro ha
  have:a=0:=by
   grind
  subst this;have e:=congrArg ybM h;rw [Ol] at e
  have:=asq m
  grind
def Py (hb:0<b) {l:List Nat} (h:gB l) (h0:l≠[]):b^(l.length-1)<=bv b l:=by
 rcases snoc l with rfl | ⟨m,a,rfl⟩
 ·grind
 ·have ha:=OM h h0;simp [wA] at ha;rw [sd,Ce];simp only [yU,tR,tz]
  have:=yT (b^m.length) (show 1<=a by omega)
  omega
def auo (hb:0<b) {l:List Nat} (h:gB l) (h0:bv b l=0):l=[]:=by
 by_cases hl:l=[]
 ·grind
 ·have:=Py hb h hl
  grind
def O8 (hb:1<b) {l m:List Nat} (hl:lo b l) (hm:gB m) (h:l.length<m.length):bv b l<bv b m:=by
 have h1:=mG hl;have h2:=Py (b:=b) (by omega) hm (fun e=>by subst e;simp at h);have h3:b^l.length<=b^(m.length-1):=xx (by omega) (by omega);omega
def ajI {l m:List Nat} (hl:lo b l) {i:Nat} (h1:i<l.length) (h2:i<m.length) (he:l.drop (i+1)=m.drop (i+1)) (h:l.getD i 0<m.getD i 0):bv b l<bv b m:=by
 rw [Kp l (i+1) (by omega),Kp m (i+1) (by omega),he,jw,jw]
 have:=mG (BX hl i)
 have:=yT (b^i) (show l.getD i 0+1<=m.getD i 0 from h)
 grind
def asr (hb:1<b) {l:List Nat} {k:Nat} (h:gB l) (hk:bv b l<b^k):l.length<=k:=by
 by_cases h0:l=[]
 ·grind
 ·have h1:=Py (b:=b) (by omega) h h0;have h2:b^(l.length-1)<b^k:=xL h1 hk
  have:=(Nat.pow_lt_pow_iff_right hb).1 h2
  omega
def aeU {V v1 v2 vr U u0 u1 u2 ur p t r:Nat} (hV:V=(v1*b+v2)*p+vr) (hU:U=((u0*b+u1)*b+u2)*p+ur) (hur:ur<p)
  (ht:t*v1+r=u0*b+u1) (h:r*b+u2<t*v2):U/V<=t-1:=by
 have h1:U<t*V:=by
  have e:t*((v1*b+v2)*p)=((t*v1)*b+t*v2)*p:=by
   grind
  have h2:((u0*b+u1)*b+u2)+1<=(t*v1)*b+t*v2:=by rw [<-ht,wL];omega
  have h3:=yY p h2;rw [hV,hU,xz,e]
  grind
 have rQ:0<V:=by
  grind
 have:=(Nat.div_lt_iff_lt_mul rQ).2 h1
 omega
def afC {V v1 v2 vr U u0 u1 u2 ur p t r:Nat} (hb:0<b) (hV:V=(v1*b+v2)*p+vr) (NA:vr<p) (hU:U=((u0*b+u1)*b+u2)*p+ur) (fg:0<v1) (dM:v2<b) (kS:t<b)
  (ht:t*v1+r=u0*b+u1) (h:b<=r\/t*v2<=r*b+u2):t<=U/V+1:=by
 have h2:t*v2<=r*b+u2:=by
  rcases h with h | h
  ·have:=Nat.mul_le_mul (uB kS) (uB dM)
   have:=yY b h
   omega
  ·exact h
 have h3:t*(v1*b+v2)<=(u0*b+u1)*b+u2:=by
  rw [xz,<-xo,<-ht,wL];omega
 have hp:0<p:=by omega
 have aKN:b<=v1*b:=Nat.le_mul_of_pos_left b fg;have rQ:0<V:=by
  have:=yaT (show 0<v1*b+v2 by omega) hp
  omega
 rcases xj t with h0 | h0
 ·grind
 ·obtain ⟨s,rfl⟩:∃s,t=s+1:=⟨t-1,by omega⟩;have h4:s*V<=U:=by
   have h5:V<=(v1*b+v2+1)*p:=by grind
   have h6:=yT s h5;have h7:s*(v1*b+v2+1)<=(s+1)*(v1*b+v2):=by
    grind
   have h8:=yY p (Nat.le_trans h7 h3)
   grind
  exact Nat.succ_le_succ ((yad rQ).2 h4)
def Ud {V v1 v2 vr U u0 u1 u2 ur p:Nat} (hV:V=(v1*b+v2)*p+vr) (hU:U=((u0*b+u1)*b+u2)*p+ur) (hur:ur<p) (Bn:u2<b) (fg:0<v1):U/V<=(u0*b+u1)/v1:=by
 by_cases rQ:V=0
 ·grind
 ·refine (yad fg).2 ?_;have h1:=Nat.div_mul_le_self U V;generalize U/V=q at h1 ⊢;have h2:q*v1*(b*p)<=q*V:=by
   rw [hV,xo]
   grind
  have h3:U<(u0*b+u1+1)*(b*p):=by
   have:(u0*b+u1)*b+u2+1<=(u0*b+u1+1)*b:=by grind
   have:=yY p this
   grind
  have h4:q*v1*(b*p)<(u0*b+u1+1)*(b*p):=by omega
  have:=tC h4
  omega
def afD {V v1 v2 vr U u0 u1 u2 ur p:Nat} (hV:V=(v1*b+v2)*p+vr) (hU:U=((u0*b+u1)*b+u2)*p+ur) (NA:vr<p) (dM:v2<b) (h:U<b*V):u0<=v1:=by
 refine Nat.le_of_lt_succ ?_;have h1:V<(v1+1)*(b*p):=by
  have:v1*b+v2+1<=(v1+1)*b:=by grind
  have:=yY p this
  grind
 have h2:u0*(b*(b*p))<=U:=by
  grind
 have h3:=yT b (uB h1);have e:b*((v1+1)*(b*p))=(v1+1)*(b*(b*p)):=by grind
 rw [e] at h3;have h4:u0*(b*(b*p))<(v1+1)*(b*(b*p)):=xL h2 (Nat.lt_of_lt_of_le h h3);exact tC h4
end
end
section
section
variable {P:aJ} {L:Lib} {f:cN} {F:Nat->cN}
def Dm (f:cN) (F:Nat->cN):Prop:=∀c s r,f c s=some r->∃n,F n c s=some r
def Mon (F:Nat->cN):Prop:=∀n m,n<=m->Le (F n) (F m)
def N6 (h:Dm f F) (n:Nat) (av:List AV) (r:AV) (hr:bZ P L f n av=some r):∃k,bZ P L (F k) n av=some r:=by
 unfold bZ at hr ⊢
 cases hL:L.pure n with
 | some sp=>exact ⟨0,by simpa only [hL] using hr⟩
 | none=>
  simp only [hL] at hr ⊢
  cases hP:P n with
  | none=>simp [hP] at hr
  | some G=>
   simp only [hP] at hr ⊢
   cases hf:f G.body ⟨fL 0 av,[],0,0⟩ with
   | none=>simp [hf] at hr
   | some q=>
    obtain ⟨k,hk⟩:=h _ _ _ hf
    grind
def Uq (h:Dm f F) (hp:Hp) (ct:Nat) (n:Nat) (av:List AV) (r:AV×Hp×Nat) (hr:ja P L f hp ct n av=some r):∃k,ja P L (F k) hp ct n av=some r:=by
 unfold ja at hr ⊢
 cases hL:L.heap n with
 | some sp=>exact ⟨0,by simpa only [hL] using hr⟩
 | none=>
  simp only [hL] at hr ⊢
  cases hP:P n with
  | none=>simp [hP] at hr
  | some G=>
   simp only [hP] at hr ⊢
   cases hf:f G.body ⟨fL 0 av,hp,ct,ct⟩ with
   | none=>simp [hf] at hr
   | some q=>
    obtain ⟨k,hk⟩:=h _ _ _ hf
    grind
def aeq (h:Dm f F) (hm:Mon F) (hp:Hp) (ct:Nat) (l:Nat) (xs:List AV) (r:AV×Hp×Nat) (hr:oe f hp ct l xs=some r):∃k,oe (F k) hp ct l xs=some r:=by
 have key:∃k,∀g,Le (F k) g->oe g hp ct l xs=some r:=by
  unfold oe at hr
  cases hl:aF hp l with
  | none=>simp [hl] at hr
  | some o=>
   split at hr
   ·rename_i tm ps cT body pe oV
    cases hb:so tm ps xs with
    | none=>simp [hb] at hr
    | some cE=>
     simp only [hb] at hr
     cases h1:f cT ⟨cE,hp,ct,ct⟩ with
     | none=>simp [h1] at hr
     | some q=>
      obtain ⟨k1,nT⟩:=h _ _ _ h1
      split at hr
      ·rename_i s1 WZ
       split at hr
       ·rename_i jU nP AZ Em A0 ame
        cases h2:f body ⟨s1.tm,bf s1.hp l (.lp jU nP AZ Em 1 A0),s1.ct,s1.ct⟩ with
        | none=>simp [h2] at hr
        | some q2=>
         obtain ⟨k2,Bg⟩:=h _ _ _ h2;refine ⟨max k1 k2,fun g hg=>?_⟩;have e1:=hg _ _ _ (hm k1 _ (vM k1 k2) _ _ _ nT);have e2:=hg _ _ _ (hm k2 _ (vD k1 k2) _ _ _ Bg);unfold oe
         grind
       ·simp at hr
      ·simp at hr
   ·simp at hr
 obtain ⟨k,hk⟩:=key;exact ⟨k,hk _ (fun _ _ _ h=>h)⟩
def aeV (h:Dm f F) (hm:Mon F) (hp:Hp) (ct:Nat) (m:Md) (fv:AV) (xs:List AV) (r:AV×Hp×Nat) (hr:fe P L f hp ct m fv xs=some r):∃k,fe P L (F k) hp ct m fv xs=some r:=by
 unfold fe at hr ⊢
 split at hr
 ·rename_i n first cap
  cases m with
  | pure=>
   cases hz:dc deep hp (first++(xs++cap)) with
   | none=>simp [hz] at hr
   | some q=>
    simp only [hz] at hr ⊢
    cases hc:bZ P L f n q.1 with
    | none=>simp [hc] at hr
    | some u=>
     obtain ⟨k,hk⟩:=N6 h n q.1 u hc
     grind
  | own=>
   cases hz:dc deep hp (first++(xs++cap)) with
   | none=>simp [hz] at hr
   | some q=>
    simp only [hz] at hr ⊢
    cases hc:bZ P L f n q.1 with
    | none=>simp [hc] at hr
    | some u=>
     obtain ⟨k,hk⟩:=N6 h n q.1 u hc
     grind
  | heap=>exact Uq h _ _ _ _ _ hr
  | dyn=>
   cases hz:aO (first++(xs++cap)) with
   | true=>
    simp only [hz,yB] at hr ⊢
    cases hc:bZ P L f n (first++(xs++cap)) with
    | none=>simp [hc] at hr
    | some u=>
     obtain ⟨k,hk⟩:=N6 h n _ u hc
     grind
   | false=>
    simp only [hz,yM] at hr ⊢;exact Uq h _ _ _ _ _ hr
 ·split at hr
  ·exact aeq h hm _ _ _ _ _ hr
  ·exact aeq h hm _ _ _ _ _ hr
  ·simp at hr
 ·simp at hr
def aup (h:Dm f F) (hm:Mon F) (tm:Env) (hp:Hp) (ct:Nat) (o:Op) (r:AV×Hp×Nat) (hr:bn P L f tm hp ct o=some r):∃k,bn P L (F k) tm hp ct o=some r:=by
 unfold bn at hr ⊢
 split at hr
 ·exact aeV h hm _ _ _ _ _ _ hr
 ·rename_i rs fv xs
  cases hc:fe P L f hp ct .dyn (aG tm fv) (dK tm xs) with
  | none=>simp [hc] at hr
  | some q=>
   obtain ⟨k,hk⟩:=aeV h hm _ _ _ _ _ _ hc
   grind
 all_goals exact ⟨0,by simpa only using hr⟩
def UO (h:Dm f F) (hm:Mon F):∀(ops:List bc) (s s':St),dT P L f ops s=some s'->∃k,dT P L (F k) ops s=some s'
 | [],s,s',hr=>⟨0,by simpa only [dT] using hr⟩
 | ⟨d,gd,o⟩::r,s,s',hr=>by
  simp only [dT] at hr ⊢
  split at hr
  ·rename_i hw
   cases ho:bn P L f s.tm s.hp s.ct o with
   | none=>simp [ho] at hr
   | some q=>
    obtain ⟨k1,nT⟩:=aup h hm _ _ _ _ _ ho;simp only [ho] at hr;obtain ⟨k2,Bg⟩:=UO h hm r _ _ hr;refine ⟨max k1 k2,?_⟩;rw [afv (hm k1 _ (vM k1 k2)) _ _ _ _ _ nT];exact Og (hm k2 _ (vD k1 k2)) r _ _ Bg
  ·rename_i hw;exact UO h hm r _ _ hr
  ·simp at hr
def DN (h:Dm f F) (hm:Mon F):∀(c:VC) (s:St) (r:Ex×St),bR P L f c s=some r->∃k,bR P L (F k) c s=some r
 | .skip,s,r,hr=>⟨0,by simpa only [bR] using hr⟩
 | .aS ops,s,r,hr=>by
  simp only [bR] at hr ⊢
  cases ho:dT P L f ops s with
  | none=>simp [ho] at hr
  | some s'=>
   obtain ⟨k,hk⟩:=UO h hm _ _ _ ho
   grind
 | .seq a b,s,r,hr=>by
  simp only [bR] at hr ⊢
  cases ha:bR P L f a s with
  | none=>simp [ha] at hr
  | some q=>
   obtain ⟨k1,nT⟩:=DN h hm a s q ha;obtain ⟨ex,s1⟩:=q
   cases ex with
   | normal=>
    simp only [ha] at hr;obtain ⟨k2,Bg⟩:=DN h hm b s1 r hr;refine ⟨max k1 k2,?_⟩;rw [qW (hm k1 _ (vM k1 k2)) a s _ nT];exact qW (hm k2 _ (vD k1 k2)) b s1 r Bg
   | ret=>exact ⟨k1,by rw [nT];simpa only [ha] using hr⟩
   | exit id=>exact ⟨k1,by rw [nT];simpa only [ha] using hr⟩
 | .cond x a b,s,r,hr=>by
  simp only [bR] at hr ⊢
  split at hr
  ·rename_i t ht
   cases t with
   | true=>simp only [yB] at hr ⊢;exact DN h hm a s r hr
   | false=>simp only [yM] at hr ⊢;exact DN h hm b s r hr
  ·simp at hr
 | .aQ id a,s,r,hr=>by
  simp only [bR] at hr ⊢
  cases ha:bR P L f a s with
  | none=>simp [ha] at hr
  | some q=>
   obtain ⟨k,hk⟩:=DN h hm a s q ha
   grind
 | .kp live,s,r,hr=>⟨0,by simpa only [bR] using hr⟩
 | .fz ts,s,r,hr=>⟨0,by simpa only [bR] using hr⟩
 | .loop live a,s,r,hr=>by
  simp only [bR] at hr ⊢
  cases ha:bR P L f a (bS live s) with
  | none=>simp [ha] at hr
  | some q=>
   obtain ⟨k1,nT⟩:=DN h hm a _ q ha;obtain ⟨ex,s1⟩:=q
   cases ex with
   | normal=>
    simp only [ha] at hr;obtain ⟨k2,Bg⟩:=h _ _ _ hr;refine ⟨max k1 k2,?_⟩;rw [qW (hm k1 _ (vM k1 k2)) a _ _ nT];exact hm k2 _ (vD k1 k2) _ _ _ Bg
   | ret=>exact ⟨k1,by rw [nT];simpa only [ha] using hr⟩
   | exit id=>exact ⟨k1,by rw [nT];simpa only [ha] using hr⟩
 | .rf fv ps cT body,s,r,hr=>by
  simp only [bR] at hr ⊢
  split at hr
  ·rename_i n first cap hx
   split at hr
   ·grind
   ·rename_i hL
    cases hc:ja P L f ((s.ct,.lp s.tm ps cT body 0 .none)::s.hp) (s.ct+1) n (first++(.fn (.y s.ct) [] []::cap)) with
    | none=>simp [hc] at hr
    | some q=>
     obtain ⟨k,hk⟩:=Uq h _ _ _ _ _ hc
     grind
  ·simp at hr
 | .exit id,s,r,hr=>⟨0,by simpa only [bR] using hr⟩
 | .ret,s,r,hr=>⟨0,by simpa only [bR] using hr⟩
end
section
variable (P:aJ) (L:Lib)
noncomputable def D:cN:=fun c s=>@dite _ (∃r n,ev P L n c s=some r) (Classical.propDecidable _) (fun h=>some h.choose) (fun _=>none)
variable {P L}
def am5 {c:VC} {s:St} {r:Ex×St} {n:Nat} (h:ev P L n c s=some r):D P L c s=some r:=by
 have hx:∃r n,ev P L n c s=some r:=⟨r,n,h⟩;unfold D;obtain ⟨m,hm⟩:=hx.choose_spec;have e1:=Vw P L (vM n m) _ _ _ h;have e2:=Vw P L (vD n m) _ _ _ hm
 grind
def abd {c:VC} {s:St} {r:Ex×St} (h:D P L c s=some r):∃n,ev P L n c s=some r:=by
 unfold D at h;by_cases hx:∃r n,ev P L n c s=some r
 ·grind
 ·grind
def aDD (n:Nat):Le (ev P L n) (D P L):=fun _ _ _ h=>am5 h
def aly:Dm (D P L) (ev P L):=fun _ _ _ h=>abd h
def azE:Mon (ev P L):=fun _ _ h=>Vw P L h
def mb (c:VC) (s:St):D P L c s=bR P L (D P L) c s:=by
 cases h:D P L c s with
 | some r=>
  obtain ⟨n,hn⟩:=abd h
  cases n with
  | zero=>rw [KC] at hn;cases hn
  | succ n=>rw [KD] at hn;exact (qW (aDD n) c s r hn).symm
 | none=>
  cases hs:bR P L (D P L) c s with
  | none=>rfl
  | some r=>
   obtain ⟨n,hn⟩:=DN aly azE c s r hs;rw [<-KD] at hn;rw [am5 hn] at h;cases h
def GN {f:Nat} {av:List AV} {r:AV} (h:bZ P L (D P L) f av=some r):∃n,evF P L n f av=some r:=N6 aly f av r h
end
end
section
open Go (IntKind BinOp UnOp)
section
variable {P:aJ} {L:Lib}
structure Has (P:aJ) (L:Lib) (n:Nat) (F:aI):Prop where
 pure:L.pure n=none
 heap:L.heap n=none
 code:P n=some F
noncomputable def nF (P:aJ) (L:Lib) (r:Option (Ex×St)) (b:VC):Option (Ex×St):=match r with | some (.normal,s)=>D P L b s | r=>r
def Ai (id:Nat) (r:Option (Ex×St)):Option (Ex×St):=match r with | some (.exit j,s)=>bif yu j id then some (.normal,s) else some (.exit j,s) | r=>r
noncomputable def LH (P:aJ) (L:Lib) (live:List Nat) (a:VC) (r:Option (Ex×St)):Option (Ex×St):=match r with | some (.normal,s)=>D P L (.loop live a) s | r=>r
def norm (r:Option St):Option (Ex×St):=match r with | some s=>some (.normal,s) | none=>none
noncomputable def PX (P:aJ) (L:Lib) (v:AV) (a b:VC) (s:St):Option (Ex×St):=match v with | .bool t=>bif t then D P L a s else D P L b s | _=>none
def azF (s:St):D P L .skip s=some (.normal,s):=by rw [mb];rfl
def azG (id:Nat) (s:St):D P L (.exit id) s=some (.exit id,s):=by rw [mb];rfl
def aCf (s:St):D P L .ret s=some (.ret,s):=by rw [mb];rfl
def am6 (live:List Nat) (s:St):D P L (.kp live) s=some (.normal,bS live s):=by rw [mb];rfl
def aDE (ts:List Nat) (s:St):D P L (.fz ts) s=norm (pO ts s):=by rw [mb];rfl
def aCg (ops:List bc) (s:St):D P L (.aS ops) s=norm (dT P L (D P L) ops s):=by rw [mb];rfl
def kA (a b:VC) (s:St):D P L (.seq a b) s=nF P L (D P L a s) b:=by
 rw [mb,mb a];simp only [bR,nF]
 cases bR P L (D P L) a s with
 | none=>rfl
 | some q=>
  obtain ⟨e,s1⟩:=q
  cases e with
  | normal=>exact (mb b s1).symm
  | ret=>rfl
  | exit id=>rfl
def azH (x:X) (a b:VC) (s:St):D P L (.cond x a b) s=PX P L (aG s.tm x) a b s:=by
 rw [mb];simp only [bR,PX]
 cases aG s.tm x with
 | bool t=>
  cases t with
  | true=>exact (mb a s).symm
  | false=>exact (mb b s).symm
 | _=>rfl
def aCh (id:Nat) (a:VC) (s:St):D P L (.aQ id a) s=Ai id (D P L a s):=by
 rw [mb,mb a];simp only [bR,Ai]
 cases bR P L (D P L) a s with
 | none=>rfl
 | some q=>obtain ⟨e,s1⟩:=q;cases e<;>rfl
def Lg (live:List Nat) (a:VC) (s:St):D P L (.loop live a) s=LH P L live a (D P L a (bS live s)):=by
 rw [mb,mb a];simp only [bR,LH]
 cases bR P L (D P L) a (bS live s) with
 | none=>rfl
 | some q=>obtain ⟨e,s1⟩:=q;cases e<;>rfl
def fY (s:St) (b:VC):nF P L (some (.normal,s)) b=D P L b s:=rfl
def awl (s:St) (b:VC):nF P L (some (.ret,s)) b=some (.ret,s):=rfl
def awm (id:Nat) (s:St) (b:VC):nF P L (some (.exit id,s)) b=some (.exit id,s):=rfl
def ajJ (live:List Nat) (a:VC) (s:St):LH P L live a (some (.normal,s))=D P L (.loop live a) s:=rfl
def awn (live:List Nat) (a:VC) (s:St):LH P L live a (some (.ret,s))=some (.ret,s):=rfl
def awo (live:List Nat) (a:VC) (id:Nat) (s:St):LH P L live a (some (.exit id,s))=some (.exit id,s):=rfl
def awp (id:Nat) (s:St):Ai id (some (.normal,s))=some (.normal,s):=rfl
def awq (id:Nat) (s:St):Ai id (some (.ret,s))=some (.ret,s):=rfl
def ajK (id:Nat) (s:St):Ai id (some (.exit id,s))=some (.normal,s):=by simp only [Ai,vj,yB]
def awr {id j:Nat} (s:St) (h:j≠id):Ai id (some (.exit j,s))=some (.exit j,s):=by
 have:yu j id=false:=by
  cases hq:yu j id with
  | false=>rfl
  | true=>exact absurd (yo hq) h
 simp only [Ai,this,yM]
def azI (s:St):norm (some s)=some (.normal,s):=rfl
def azJ:norm none=none:=rfl
def aws (a b:VC) (s:St):PX P L (.bool true) a b s=D P L a s:=rfl
def awt (a b:VC) (s:St):PX P L (.bool false) a b s=D P L b s:=rfl
noncomputable def Wt (P:aJ) (L:Lib) (d:Option Nat) (r:List bc) (tm:Env) (base:Nat) (q:gP):Option St:=
 match q with | some (v,hp,ct)=>dT P L (D P L) r ⟨put d v tm,hp,ct,base⟩ | none=>none
noncomputable def Ee (P:aJ) (L:Lib) (v:AV) (b:Bool) (d:Option Nat) (o:Op) (r:List bc) (s:St):Option St:=
 match v with
 | .bool c=>bif c==b then dT P L (D P L) (⟨d,none,o⟩::r) s else dT P L (D P L) r ⟨put d (.af []) s.tm,s.hp,s.ct,s.base⟩
 | .af []=>dT P L (D P L) r ⟨put d (.af []) s.tm,s.hp,s.ct,s.base⟩
 | _=>none
def awu (s:St):dT P L (D P L) [] s=some s:=rfl
def auq (d:Option Nat) (o:Op) (r:List bc) (tm:Env) (hp:Hp) (ct base:Nat):
  dT P L (D P L) (⟨d,none,o⟩::r) ⟨tm,hp,ct,base⟩=Wt P L d r tm base (bn P L (D P L) tm hp ct o):=by
 simp only [dT,Wt]
 grind
def ass (d:Option Nat) (t:Nat) (b:Bool) (o:Op) (r:List bc) (tm:Env) (hp:Hp) (ct base:Nat):
  dT P L (D P L) (⟨d,some (t,b),o⟩::r) ⟨tm,hp,ct,base⟩=Ee P L (ak tm t) b d o r ⟨tm,hp,ct,base⟩:=by
 simp only [dT,Ee]
 cases ak tm t with
 | bool c=>
  simp only
  cases hc:(c==b) with
  | true=>simp only [yB]
  | false=>simp only [yM]
 | af vs=>cases vs<;>rfl
 | _=>rfl
def awv (d:Option Nat) (r:List bc) (tm:Env) (base:Nat) (v:AV) (hp:Hp) (ct:Nat):Wt P L d r tm base (some (v,hp,ct))=dT P L (D P L) r ⟨put d v tm,hp,ct,base⟩:=rfl
def aCi (i:Nat) (v:AV) (tm:Env):put (some i) v tm=(i,v)::tm:=rfl
def aCj (v:AV) (tm:Env):put none v tm=tm:=rfl
def aur (d:Option Nat) (o:Op) (r:List bc) (s:St):Ee P L (.bool true) true d o r s=dT P L (D P L) (⟨d,none,o⟩::r) s:=rfl
def aus (d:Option Nat) (o:Op) (r:List bc) (s:St):Ee P L (.bool false) false d o r s=dT P L (D P L) (⟨d,none,o⟩::r) s:=rfl
def aut (d:Option Nat) (o:Op) (r:List bc) (tm:Env) (hp:Hp) (ct base:Nat):Ee P L (.bool true) false d o r ⟨tm,hp,ct,base⟩=dT P L (D P L) r ⟨put d (.af []) tm,hp,ct,base⟩:=rfl
def auu (d:Option Nat) (o:Op) (r:List bc) (tm:Env) (hp:Hp) (ct base:Nat):Ee P L (.bool false) true d o r ⟨tm,hp,ct,base⟩=dT P L (D P L) r ⟨put d (.af []) tm,hp,ct,base⟩:=rfl
def aww (b:Bool) (d:Option Nat) (o:Op) (r:List bc) (tm:Env) (hp:Hp) (ct base:Nat):Ee P L (.af []) b d o r ⟨tm,hp,ct,base⟩=dT P L (D P L) r ⟨put d (.af []) tm,hp,ct,base⟩:=rfl
def ig {j i:Nat} (h:j≠i):yu j i=false:=by
 cases hq:yu j i with
 | false=>rfl
 | true=>exact absurd (yo hq) h
def azK (tm:Env) (i:Nat):aG tm (.t i)=ak tm i:=rfl
def azL (tm:Env) (v:AV):aG tm (.c v)=v:=rfl
def ast (tm:Env):dK tm []=[]:=rfl
def are (tm:Env) (x:X) (r:List X):dK tm (x::r)=aG tm x::dK tm r:=rfl
def auv (i:Nat) (v:AV) (r:Env):ak ((i,v)::r) i=v:=by simp only [ak,vj,yB]
def asu {j i:Nat} (v:AV) (r:Env) (h:j≠i):ak ((j,v)::r) i=ak r i:=by simp only [ak,ig h,yM]
def ON (i:Nat) (o:Obj) (r:Hp):aF ((i,o)::r) i=some o:=by simp only [aF,vj,yB]
def asv {j i:Nat} (o:Obj) (r:Hp) (h:j≠i):aF ((j,o)::r) i=aF r i:=by simp only [aF,ig h,yM]
def auw (i:Nat) (o u:Obj) (r:Hp):bf ((i,o)::r) i u=(i,u)::r:=by simp only [bf,vj,yB]
def asw {j i:Nat} (o u:Obj) (r:Hp) (h:j≠i):bf ((j,o)::r) i u=(j,o)::bf r i u:=by simp only [bf,ig h,yM]
def auy (i:Nat):eT [] i=[]:=rfl
def auz (i:Nat) (o:Obj) (r:Hp):eT ((i,o)::r) i=eT r i:=by simp only [eT,vj,yB]
def asx {j i:Nat} (o:Obj) (r:Hp) (h:j≠i):eT ((j,o)::r) i=(j,o)::eT r i:=by simp only [eT,ig h,yM]
def rd (hp:Hp) (ct:Nat) (q:Option AV):gP:=match q with | some v=>some (v,hp,ct) | none=>none
def mk (hp:Hp) (ct:Nat) (q:Option (AV×Obj)):gP:=match q with | some (v,b)=>some (v,(ct,b)::hp,ct+1) | none=>none
def aDF (hp:Hp) (ct:Nat) (v:AV):rd hp ct (some v)=some (v,hp,ct):=rfl
def aDG (hp:Hp) (ct:Nat) (v:AV) (b:Obj):mk hp ct (some (v,b))=some (v,(ct,b)::hp,ct+1):=rfl
def Wu (c a b:AV):Option AV:=match c with | .bool t=>some (bif t then a else b) | _=>none
def NB (k:Nat->Option AV) (n:Option Nat):Option AV:=match n with | some i=>k i | none=>none
def alz (r:Option (List AV)):Option AV:=match r with | some cs=>some (.agg cs) | none=>none
def Mz (ne:Bool) (r:Option Bool):Option AV:=match r with | some b=>some (.bool (ne !=b)) | none=>none
def aDH:AV->Option AV
 | .ptr id o=>some (.ptr id o)
 | .cz cs=>some (.cz cs)
 | .fn f a b=>some (.fn f a b)
 | _=>none
def MA (i:Nat):AV->Option AV | .af vs=>vs[i]? | _=>none
section
variable {f:cN} {tm:Env} {hp:Hp} {ct:Nat}
def azM (x:X):bn P L f tm hp ct (.ck x)=some (aG tm x,hp,ct):=rfl
def awx (c a b:X):bn P L f tm hp ct (.pick c a b)=rd hp ct (Wu (aG tm c) (aG tm a) (aG tm b)):=by
 rfl
def auA (z:List AV) (ps:List (Nat×Nat×X)):bn P L f tm hp ct (.cK z ps)=rd hp ct (alz (fill tm z ps)):=by
 rfl
def aCk (sz:Nat) (ag:Bool) (x:X):bn P L f tm hp ct (.ld sz ag x)=rd hp ct (jf hp sz ag (aG tm x)):=rfl
def awy (x:X):bn P L f tm hp ct (.LP x)=rd hp ct (aDH (aG tm x)):=by
 rfl
def azN (op:BinOp) (x y:X):bn P L f tm hp ct (.bin op x y)=rd hp ct (binOp op (aG tm x) (aG tm y)):=rfl
def aCl (ne:Bool) (k:SA) (x y:X):bn P L f tm hp ct (.eq ne k x y)=rd hp ct (Mz ne (iH k (aG tm x) (aG tm y))):=by
 rfl
def aCm (op:UnOp) (x:X):bn P L f tm hp ct (.un op x)=rd hp ct (unOp op (aG tm x)):=rfl
def aCn (k:Conv) (x:X):bn P L f tm hp ct (.cv k x)=rd hp ct (oB k (aG tm x)):=rfl
def azO (g:Fr) (a b:List X):bn P L f tm hp ct (.Ip g a b)=some (.fn g (dK tm a) (dK tm b),hp,ct):=rfl
def azP (k:Cut) (x:X) (lo hi:Option X):bn P L f tm hp ct (.eF k x lo hi)=rd hp ct (fC hp k (aG tm x) tm lo hi):=rfl
def azQ (k:Nat) (x:X):bn P L f tm hp ct (.off k x)=rd hp ct (Lt k (aG tm x)):=rfl
def azR (o sz:Nat) (ag:Bool) (x:X):bn P L f tm hp ct (.M6 o sz ag x)=rd hp ct (PL o sz ag (aG tm x)):=rfl
def azS (sz:Nat) (x i:X):bn P L f tm hp ct (.bz sz x i)=rd hp ct (NB (fun j=>kw sz j (aG tm x)) (dP (aG tm i))):=by
 rfl
def azT (n sz:Nat) (x i:X):bn P L f tm hp ct (.Iq n sz x i)=rd hp ct (NB (fun j=>PM n sz j (aG tm x)) (dP (aG tm i))):=by
 rfl
def azU (x i:X):bn P L f tm hp ct (.lE x i)=rd hp ct (NB (fun j=>nC j (aG tm x)) (dP (aG tm i))):=by
 rfl
def azV (n sz:Nat) (ag:Bool) (x i:X):bn P L f tm hp ct (.Ir n sz ag x i)=rd hp ct (NB (fun j=>PN n sz ag j (aG tm x)) (dP (aG tm i))):=by
 rfl
def azW (i:Nat) (x:X):bn P L f tm hp ct (.ext i x)=rd hp ct (MA i (aG tm x)):=by
 rfl
def azX (k:Nat) (x:X):bn P L f tm hp ct (.len k x)=rd hp ct (jb hp k (aG tm x)):=rfl
def azY (sz:Nat) (x:X):bn P L f tm hp ct (.box sz x)=mk hp ct (de tm hp ct (.box sz x)):=rfl
def awz (n sz:Nat) (z:List AV) (ps:List (Nat×Nat×X)):bn P L f tm hp ct (.cQ n sz z ps)=mk hp ct (de tm hp ct (.cQ n sz z ps)):=rfl
def azZ (sz cO:Nat) (z:List AV) (l c:X):bn P L f tm hp ct (.iA sz cO z l c)=mk hp ct (de tm hp ct (.iA sz cO z l c)):=rfl
def az0:bn P L f tm hp ct .AY=some (.map ct,(ct,.mp true [] [])::hp,ct+1):=rfl
def az1 (x:X):bn P L f tm hp ct (.qB x)=mk hp ct (de tm hp ct (.qB x)):=rfl
def aCo (sz:Nat) (x v:X):bn P L f tm hp ct (.st sz x v)=dz tm hp ct (.st sz x v):=rfl
def az2 (sz cO:Nat) (s x:X):bn P L f tm hp ct (.a7 sz cO s x)=dz tm hp ct (.a7 sz cO s x):=rfl
def PY (hp:Hp) (ct:Nat) (r:Option AV):gP:=match r with | some v=>some (shut v,hp,ct) | none=>none
def R3 (hp:Hp) (ct:Nat) (r:Option AV):gP:=match r with | some v=>some (own hp ct v) | none=>none
def Wv (P:aJ) (L:Lib) (f:cN) (ct n:Nat) (q:Option (List AV×Hp)):gP:=match q with | some (av,hp)=>PY hp ct (bZ P L f n av) | none=>none
def Ww (P:aJ) (L:Lib) (f:cN) (ct n:Nat) (q:Option (List AV×Hp)):gP:=match q with | some (av,hp)=>R3 hp ct (bZ P L f n av) | none=>none
def Wx (P:aJ) (L:Lib) (f:cN) (hp:Hp) (ct:Nat) (fv:AV) (xs:List AV):gP:=fe P L f hp ct .pure fv xs
def Wy (P:aJ) (L:Lib) (f:cN) (hp:Hp) (ct:Nat) (fv:AV) (xs:List AV):gP:=fe P L f hp ct .own fv xs
def auB (g:X) (xs:List X):bn P L f tm hp ct (.call .pure g xs)=Wx P L f hp ct (aG tm g) (dK tm xs):=rfl
def auC (g:X) (xs:List X):bn P L f tm hp ct (.call .own g xs)=Wy P L f hp ct (aG tm g) (dK tm xs):=rfl
def auD (g:X) (xs:List X):bn P L f tm hp ct (.call .heap g xs)=fe P L f hp ct .heap (aG tm g) (dK tm xs):=rfl
def awA (n:Nat) (first cap xs:List AV):Wx P L f hp ct (.fn (.f n) first cap) xs=Wv P L f ct n (dc deep hp (first++(xs++cap))):=by
 simp only [Wx,fe,Wv,PY]
 cases dc deep hp (first++(xs++cap)) with
 | none=>rfl
 | some q=>cases bZ P L f n q.1<;>rfl
def awB (n:Nat) (first cap xs:List AV):Wy P L f hp ct (.fn (.f n) first cap) xs=Ww P L f ct n (dc deep hp (first++(xs++cap))):=by
 simp only [Wy,fe,Ww,R3]
 cases dc deep hp (first++(xs++cap)) with
 | none=>rfl
 | some q=>cases bZ P L f n q.1<;>rfl
def awC (n:Nat) (av:List AV):Wv P L f ct n (some (av,hp))=PY hp ct (bZ P L f n av):=rfl
def awD (n:Nat) (av:List AV):Ww P L f ct n (some (av,hp))=R3 hp ct (bZ P L f n av):=rfl
def awE (v:AV):PY hp ct (some v)=some (shut v,hp,ct):=rfl
def az3 (v:AV):R3 hp ct (some v)=some (own hp ct v):=rfl
def R4 (hp:Hp) (r:Option AV):Option AV:=match r with | some v=>result hp v | none=>none
def fV (rs:List RV) (q:Option (Ex×St)):Option AV:=
 match q with
 | some (.normal,s) | some (.ret,s)=>R4 s.hp (iX s rs)
 | _=>none
def ax {n:Nat} {F:aI} (h:Has P L n F) (av:List AV):bZ P L f n av=fV F.dU (f F.body ⟨fL 0 av,[],0,0⟩):=by
 simp only [bZ,h.pure,h.code]
 cases hq:f F.body ⟨fL 0 av,[],0,0⟩ with
 | none=>rfl
 | some q=>
  obtain ⟨e,s⟩:=q
  cases e with
  | normal=>rfl
  | ret=>rfl
  | exit id=>rfl
def az4 (rs:List RV) (s:St):fV rs (some (.normal,s))=R4 s.hp (iX s rs):=rfl
def az5 (rs:List RV) (s:St):fV rs (some (.ret,s))=R4 s.hp (iX s rs):=rfl
def az6 (v:AV):R4 hp (some v)=result hp v:=rfl
def abe (r:RV) (s:St):iX s [r]=results1 s r:=by
 simp only [iX,lO];cases results1 s r<;>rfl
def am7 (r:Option (List AV)):Option AV:=match r with | some vs=>some (.af vs) | none=>none
def aDI (r q:RV) (l:List RV) (s:St):iX s (r::q::l)=am7 (lO s (r::q::l)):=by
 simp only [iX,lO];cases results1 s r<;>cases results1 s q<;>cases lO s l<;>rfl
def alA (r:Option AV) (l:Option (List AV)):Option (List AV):=match r,l with | some v,some vs=>some (v::vs) | _,_=>none
def auE (s:St):lO s []=some []:=rfl
def asy (r:RV) (l:List RV) (s:St):lO s (r::l)=alA (results1 s r) (lO s l):=rfl
def awF (v:AV) (vs:List AV):alA (some v) (some vs)=some (v::vs):=rfl
def az7 (vs:List AV):am7 (some vs)=some (.af vs):=rfl
def Wz (i:Nat) (s:St):results1 s (.t i)=some (ak s.tm i):=rfl
def aCp (a:AV):fL 0 [a]=[(0,a)]:=rfl
def aCq (a b:AV):fL 0 [a,b]=[(0,a),(1,b)]:=rfl
def aCr (a b c:AV):fL 0 [a,b,c]=[(0,a),(1,b),(2,c)]:=rfl
def aCs (a b c d:AV):fL 0 [a,b,c,d]=[(0,a),(1,b),(2,c),(3,d)]:=rfl
def aCt (a b c d e:AV):fL 0 [a,b,c,d,e]=[(0,a),(1,b),(2,c),(3,d),(4,e)]:=rfl
def arf (k:yV) (n:Int):result hp (.int k n)=some (.int k n):=rfl
def aqL (b:Bool):result hp (.bool b)=some (.bool b):=rfl
def arh (s:List Nat):result hp (.str s)=some (.str s):=rfl
def aqM:result hp .aa=some .aa:=rfl
def ari (e:Bool) (n:Nat) (cs:List AV):result hp (.ap e n cs)=some (.ap e n cs):=rfl
def shut_int (k:yV) (n:Int):shut (.int k n)= .int k n:=rfl
def shut_bool (b:Bool):shut (.bool b)= .bool b:=rfl
def auF (s:List Nat):shut (.str s)= .str s:=rfl
def asz:shut .aa= .aa:=rfl
def auG (e:Bool) (n:Nat) (cs:List AV):shut (.ap e n cs)= .ap e n cs:=rfl
def auH (e:Bool) (sz n:Nat) (cs:List AV):shut (.bV e sz n cs)= .ap e n cs:=rfl
def bq (cs:List AV):shut (.agg cs)= .agg cs:=rfl
def awG (g:Fr) (a b:List AV):shut (.fn g a b)= .fn g a b:=rfl
def lP (vs:List AV):shut (.af vs)= .af (Ek vs):=rfl
def asA:Ek []=[]:=rfl
def arj (v:AV) (r:List AV):Ek (v::r)=b6 v::Ek r:=rfl
def asB (k:yV) (n:Int):b6 (.int k n)= .int k n:=rfl
def ark (b:Bool):b6 (.bool b)= .bool b:=rfl
def asC (s:List Nat):b6 (.str s)= .str s:=rfl
def arl:b6 .aa= .aa:=rfl
def asD (e:Bool) (n:Nat) (cs:List AV):b6 (.ap e n cs)= .ap e n cs:=rfl
def asE (e:Bool) (sz n:Nat) (cs:List AV):b6 (.bV e sz n cs)= .ap e n cs:=rfl
def mu (cs:List AV):b6 (.agg cs)= .agg cs:=rfl
def abf (n:Nat) (r:List AV) (q:Option (AV×Hp)):Option (List AV×Hp):=match q with | some (v,hp)=>(match dc n hp r with | some (vs,jF)=>some (v::vs,jF) | none=>none) | none=>none
def am8 (v:AV) (q:Option (List AV×Hp)):Option (List AV×Hp):=match q with | some (vs,hp)=>some (v::vs,hp) | none=>none
def auI (n:Nat):dc (n+1) hp []=some ([],hp):=rfl
def asF (n:Nat) (v:AV) (r:List AV):dc (n+1) hp (v::r)=abf n r (freeze n hp v):=by
 simp only [dc,abf];cases freeze n hp v<;>rfl
def az8 (n:Nat) (r:List AV) (v:AV):abf n r (some (v,hp))=am8 v (dc n hp r):=by
 rfl
def az9 (v:AV) (vs:List AV):am8 v (some (vs,hp))=some (v::vs,hp):=rfl
def awH (n:Nat) (k:yV) (a:Int):freeze (n+1) hp (.int k a)=some (.int k a,hp):=rfl
def auJ (n:Nat) (b:Bool):freeze (n+1) hp (.bool b)=some (.bool b,hp):=rfl
def awI (n:Nat) (s:List Nat):freeze (n+1) hp (.str s)=some (.str s,hp):=rfl
def auK (n:Nat):freeze (n+1) hp .aa=some (.aa,hp):=rfl
def awJ (n:Nat) (e:Bool) (k:Nat) (cs:List AV):freeze (n+1) hp (.ap e k cs)=some (.ap e k cs,hp):=rfl
def auL (n:Nat) (cs:List AV):freeze (n+1) hp (.cz cs)=some (.cz cs,hp):=rfl
end
end
section
variable {hp:Hp}
def aAa (a b:AV):Wu (.bool true) a b=some a:=rfl
def aAb (a b:AV):Wu (.bool false) a b=some b:=rfl
def aCu (k:Nat->Option AV) (n:Nat):NB k (some n)=k n:=rfl
def arm (k:yV) (n:Nat):dP (.int k (n:Int))=some n:=rfl
def aAc (k:yV):dP (.int k 0)=some 0:=rfl
def aAd (k:yV):dP (.int k 1)=some 1:=rfl
def aAe (k:yV):dP (.int k 2)=some 2:=rfl
def aAf (k:yV):dP (.int k 3)=some 3:=rfl
def aAg (k:yV):dP (.int k 4)=some 4:=rfl
def aAh (k:yV):dP (.int k 5)=some 5:=rfl
def aAi (k:yV):dP (.int k 6)=some 6:=rfl
def aAj (k:yV):dP (.int k 7)=some 7:=rfl
def aAk (k:yV):dP (.int k 8)=some 8:=rfl
def aAl (k:yV):dP (.int k 9)=some 9:=rfl
def awK (cs:List AV):alz (some cs)=some (.agg cs):=rfl
def ajL (k:yV) (a b:Int):binOp .add (.int k a) (.int k b)=some (.int k (k.wrap (a+b))):=by simp [binOp,lR]
def O9 (k:yV) (a b:Int):binOp .sub (.int k a) (.int k b)=some (.int k (k.wrap (a-b))):=by simp [binOp,lR]
def ajM (k:yV) (a b:Int):binOp .mul (.int k a) (.int k b)=some (.int k (k.wrap (a*b))):=by simp [binOp,lR]
def fq (k:yV) (a b:Int) (h:b≠0):binOp .quo (.int k a) (.int k b)=some (.int k (k.wrap (a.tdiv b))):=by simp [binOp,lR,h]
def gF (k:yV) (a b:Int) (h:b≠0):binOp .rem (.int k a) (.int k b)=some (.int k (a.tmod b)):=by simp [binOp,lR,h]
def awL (k:yV) (a b:Int):binOp .eql (.int k a) (.int k b)=some (.bool (decide (a=b))):=by
 simp [binOp,lR,intCmp,BEq.beq]
def awM (k:yV) (a b:Int):binOp .neq (.int k a) (.int k b)=some (.bool (!decide (a=b))):=by
 simp [binOp,lR,intCmp,bne,BEq.beq]
def awN (k:yV) (a b:Int):binOp .lss (.int k a) (.int k b)=some (.bool (decide (a<b))):=by simp [binOp,lR,intCmp]
def awO (k:yV) (a b:Int):binOp .leq (.int k a) (.int k b)=some (.bool (decide (a<=b))):=by simp [binOp,lR,intCmp]
def awP (k:yV) (a b:Int):binOp .gtr (.int k a) (.int k b)=some (.bool (decide (b<a))):=by simp [binOp,lR,intCmp]
def awQ (k:yV) (a b:Int):binOp .geq (.int k a) (.int k b)=some (.bool (decide (b<=a))):=by simp [binOp,lR,intCmp]
def aAm (k:yV) (a:Int):unOp .neg (.int k a)=some (.int k (k.wrap (0-a))):=rfl
def aAn (b:Bool):unOp .not (.bool b)=some (.bool !b):=rfl
def auM:jb hp 1 .aa=some (.int .i64 0):=rfl
def awR (e:Bool) (n:Nat) (cs:List AV):jb hp 1 (.ap e n cs)=some (.int .i64 n):=rfl
def awS (id o n:Nat):jb hp 1 (.ay id o n)=some (.int .i64 n):=rfl
def awT (s:List Nat):jb hp 0 (.str s)=some (.int .i64 s.length):=rfl
def Vz {sz i n:Nat} (e:Bool) (cs:List AV) (h:i<n):kw sz i (.ap e n cs)=some (.cz (cs.drop (i*sz))):=by
 have hb:yL i n=true:=yy h;simp only [kw]
 grind
def dD {sz i n:Nat} (id o:Nat) (h:i<n):kw sz i (.ay id o n)=some (.ptr id (o+i*sz)):=by
 have hb:yL i n=true:=yy h;simp only [kw]
 grind
def auN (v:AV) (cs:List AV):jf hp 1 false (.cz (v::cs))=some v:=rfl
def Tb (sz:Nat) (ag:Bool) (o:Nat) (q:Option Obj):Option AV:=match q with | some (.cells _ _ _ _ cs)=>hX sz ag (cs.drop o) | _=>none
def aAo (sz:Nat) (ag:Bool) (id o:Nat):jf hp sz ag (.ptr id o)=Tb sz ag o (aF hp id):=by
 rfl
def aCv (sz:Nat) (ag:Bool) (o:Nat) (rw pu ex:Bool) (z:Nat) (cs:List AV):Tb sz ag o (some (.cells rw pu ex z cs))=hX sz ag (cs.drop o):=rfl
def aCw (sz:Nat) (v:AV) (cs:List AV):hX sz false (v::cs)=some v:=rfl
def aDJ (a:AV) (l:List AV):MA 0 (.af (a::l))=some a:=rfl
def ext1 (a b:AV) (l:List AV):MA 1 (.af (a::b::l))=some b:=rfl
def aDK (a b c:AV) (l:List AV):MA 2 (.af (a::b::c::l))=some c:=rfl
def aDL (a b c d:AV) (l:List AV):MA 3 (.af (a::b::c::d::l))=some d:=rfl
end
def Aj:Env->Bool
 | []=>true
 | (_,v)::r=>bg v&&Aj r
mutual
def aR:∀{v:AV},bg v=true->refs v=[]
 | .int _ _,_ | .bool _,_ | .b5 _ _,_ | .str _,_ | .lm,_ | .cz _,_ | .aa,_ | .ap _ _ _,_ | .jd,_ | .kD,_ | .jD _ _,_ | .undef,_=>rfl
 | .ptr _ _,h | .ay _ _ _,h | .map _,h | .it _,h | .bV _ _ _ _,h=>by simp [bg] at h
 | .fn (.y _) _ _,h=>by simp [bg] at h
 | .fn (.f _) first cap,h=>by
  simp only [bg,yg] at h;simp only [refs,J7 h.1,J7 h.2,wG]
 | .agg cs,h=>by simp only [bg] at h;simp only [refs,J7 h]
 | .af cs,h=>by simp only [bg] at h;simp only [refs,J7 h]
def J7:∀{vs:List AV},aO vs=true->jB vs=[]
 | [],_=>rfl
 | v::r,h=>by
  simp only [aO,yg] at h;simp only [jB,aR h.1,J7 h.2,wG]
end
mutual
def aW (f:Nat->Option Nat):∀{v:AV},bg v=true->cy f v=v
 | .int _ _,_ | .bool _,_ | .b5 _ _,_ | .str _,_ | .lm,_ | .cz _,_ | .aa,_ | .ap _ _ _,_ | .jd,_ | .kD,_ | .jD _ _,_ | .undef,_=>rfl
 | .ptr _ _,h | .ay _ _ _,h | .map _,h | .it _,h | .bV _ _ _ _,h=>by simp [bg] at h
 | .fn (.y _) _ _,h=>by simp [bg] at h
 | .fn (.f _) first cap,h=>by
  simp only [bg,yg] at h;simp only [cy,Kg f h.1,Kg f h.2]
 | .agg cs,h=>by simp only [bg] at h;simp only [cy,Kg f h]
 | .af cs,h=>by simp only [bg] at h;simp only [cy,Kg f h]
def Kg (f:Nat->Option Nat):∀{vs:List AV},aO vs=true->fN f vs=vs
 | [],_=>rfl
 | v::r,h=>by
  simp only [aO,yg] at h;simp only [fN,aW f h.1,Kg f h.2]
end
def aeW:∀{tm:Env},Aj tm=true->jC tm=[]
 | [],_=>rfl
 | (i,v)::r,h=>by
  simp only [Aj,yg] at h;simp only [jC,aR h.1,aeW h.2,wG]
def afE (f:Nat->Option Nat):∀{tm:Env},Aj tm=true->lz f tm=tm
 | [],_=>rfl
 | (i,v)::r,h=>by
  simp only [Aj,yg] at h;simp only [lz,aW f h.1,afE f h.2]
def ad7 {live:List Nat} {tm:Env} {ct:Nat} (h:Aj (eC tm live)=true):bS live ⟨tm,[],ct,0⟩=⟨eC tm live,[],0,0⟩:=by
 simp only [bS,aeW h,ju,wG];simp only [reach,lh,mE,afE _ h,yJ,yW]
def aqN {tm:Env} {ct:Nat}:bS [] ⟨tm,[],ct,0⟩=⟨[],[],0,0⟩:=rfl
def Vf {P:aJ} {L:Lib} {live:List Nat} {a:VC} (I:Nat->St->Prop) (Q:Ex->St->Prop)
  (step:∀k s,I k s->(∃s' k',D P L a (bS live s)=some (.normal,s')/\k'<k/\I k' s')\/(∃ex s',D P L a (bS live s)=some (ex,s')/\ex≠.normal/\Q ex s')):
  ∀k s,I k s->∃ex s',D P L (.loop live a) s=some (ex,s')/\Q ex s':=by
 intro k
 induction k using Nat.strongRecOn with
 | _ k ih=>
  intro s hI;rw [Lg];rcases step k s hI with ⟨s',k',h1,h2,h3⟩ | ⟨ex,s',h1,h2,h3⟩
  ·rw [h1,ajJ];exact ih k' h2 s' h3
  ·rw [h1]
   cases ex with
   | normal=>exact absurd rfl h2
   | ret=>exact ⟨.ret,s',rfl,h3⟩
   | exit id=>exact ⟨.exit id,s',rfl,h3⟩
def cR {P:aJ} {L:Lib} {live:List Nat} {a:VC} (I:Nat->St->Prop) (Q:Ex->St->Prop)
  (step:∀k s,I k s->(∃s' k',D P L a s=some (.normal,s')/\k'<k/\I k' (bS live s'))\/(∃ex s',D P L a s=some (ex,s')/\ex≠.normal/\Q ex s')):
  ∀k s,I k (bS live s)->∃ex s',D P L (.loop live a) s=some (ex,s')/\Q ex s':=
 Vf (fun k s=>I k (bS live s)) Q (fun k s h=>step k _ h)
def cG {P:aJ} {L:Lib} {c:VC} {s:St} {q:Option (Ex×St)} {I:St->Prop} {Q:Ex->St->Prop} (hq:D P L c s=q) (key:∀s,I s->∃ex s',D P L c s=some (ex,s')/\Q ex s') (hI:I s):
  ∃ex s',q=some (ex,s')/\Q ex s':=by
 rw [<-hq];exact key s hI
def auO (tm:Env):eC tm []=[]:=rfl
def asG (tm:Env) (i:Nat) (r:List Nat):eC tm (i::r)=(i,ak tm i)::eC tm r:=rfl
def asH:Aj []=true:=rfl
def arn (i:Nat) (v:AV) (r:Env):Aj ((i,v)::r)=(bg v&&Aj r):=rfl
def V1 (k:yV) (n:Int):bg (.int k n)=true:=(rfl)
def awU (b:Bool):bg (.bool b)=true:=(rfl)
def aAp (s:List Nat):bg (.str s)=true:=(rfl)
def awV:bg .aa=true:=(rfl)
def aAq (e:Bool) (n:Nat) (cs:List AV):bg (.ap e n cs)=true:=(rfl)
def awW (cs:List AV):bg (.cz cs)=true:=(rfl)
def auP:bg .undef=true:=(rfl)
attribute [go_sem] deep aqN auO asG asH arn V1 awU aAp awV aAq awW auP tM xV
attribute [go_sem] azF azG aCf am6 aDE aCg kA azH aCh fY awl awm ajJ awn awo awp awq ajK awr azI azJ aws awt
 awu auq ass awv aCi aCj aur aus aut auu aww azK azL ast are auv asu ON asv auw asw auy auz asx
 aDF aDG azM awx auA aCk awy azN aCl aCm aCn azO azP azQ azR azS azT azU azV azW azX azY awz azZ az0 az1 aCo az2 auB auC auD
 awA awB awC awD awE az3 az4 az5 az6 abe aDI auE asy awF az7 Wz aCp aCq aCr aCs aCt
 arf aqL arh aqM ari shut_int shut_bool auF asz auG auH bq awG lP asA arj asB ark asC arl asD asE mu
 auI asF az8 az9 awH auJ awI auK awJ auL
 aAa aAb aCu arm aAc aAd aAe aAf aAg aAh aAi aAj aAk aAl awK ajL O9 ajM awL awM awN awO awP awQ aAm aAn auM awR awS awT auN aAo aCv aCw aDJ ext1 aDK aDL
 List.nil_append wG xk ym yk Bool.not_true Bool.not_false ne_eq not_false_eq_true
end
section
open Go (IntKind)
abbrev ab (n:Int):AV:= .int .i64 n
def db (v:AV) (cs:List AV):Prop:=(v= .aa/\cs=[])\/∃e,v= .ap e cs.length cs
section
variable {v:AV} {cs:List AV} {hp:Hp}
def db.len (h:db v cs) {hp:Hp}:jb hp 1 v=some (.int .i64 (cs.length:Nat)):=by
 rcases h with ⟨rfl,rfl⟩ | ⟨e,rfl⟩<;>rfl
def db.pu (h:db v cs):bg v=true:=by
 rcases h with ⟨rfl,rfl⟩ | ⟨e,rfl⟩<;>rfl
def db.ao (h:db v cs) (n:Nat) {hp:Hp}:freeze (n+1) hp v=some (v,hp):=by
 rcases h with ⟨rfl,rfl⟩ | ⟨e,rfl⟩<;>rfl
def db.shut (h:db v cs):shut v=v:=by
 rcases h with ⟨rfl,rfl⟩ | ⟨e,rfl⟩<;>rfl
def db.b6 (h:db v cs):b6 v=v:=by
 rcases h with ⟨rfl,rfl⟩ | ⟨e,rfl⟩<;>rfl
def db.dU (h:db v cs) {hp:Hp}:result hp v=some v:=by
 rcases h with ⟨rfl,rfl⟩ | ⟨e,rfl⟩<;>rfl
def db.bz (h:db v cs) {i:Nat} (hi:i<cs.length):kw 1 i v=some (.cz (cs[i]::cs.drop (i+1))):=by
 rcases h with ⟨rfl,rfl⟩ | ⟨e,rfl⟩
 ·grind
 ·rw [Vz e _ hi,Nat.mul_one,yX hi]
def db.one (h:db v cs):cP v=true:=by
 rcases h with ⟨rfl,rfl⟩ | ⟨e,rfl⟩<;>rfl
def db.cells (h:db v cs):cellsOf v=[v]:=by
 rcases h with ⟨rfl,rfl⟩ | ⟨e,rfl⟩<;>rfl
def VA (e:Bool) (cs:List AV):db (.ap e cs.length cs) cs:= .inr ⟨e,rfl⟩
def DR:db .aa []:= .inl ⟨rfl,rfl⟩
end
def bB (v:AV) (l:List Int):Prop:=db v (l.map ab)
section
variable {v:AV} {l:List Int}
def bB.len (h:bB v l) {hp:Hp}:jb hp 1 v=some (.int .i64 (l.length:Nat)):=by
 have:=db.len (hp:=hp) h
 grind
def bB.pu (h:bB v l):bg v=true:=db.pu h
def bB.ao (h:bB v l) (n:Nat) {hp:Hp}:freeze (n+1) hp v=some (v,hp):=db.ao h n
def bB.shut (h:bB v l):VE.shut v=v:=db.shut h
def bB.b6 (h:bB v l):VE.b6 v=v:=db.b6 h
def bB.dU (h:bB v l) {hp:Hp}:result hp v=some v:=db.dU h
def bB.one (h:bB v l):cP v=true:=db.one h
def bB.cells (h:bB v l):cellsOf v=[v]:=db.cells h
def bB.bz (h:bB v l) {i:Nat} (hi:i<l.length):kw 1 i v=some (.cz (.int .i64 l[i]::(l.map ab).drop (i+1))):=by
 have:=db.bz h (i:=i) (by simpa using hi)
 grind
def gG (e:Bool) (l:List Int):bB (.ap e l.length (l.map ab)) l:=by
 have:=VA e (l.map ab)
 rwa [xq] at this
end
def hJ {α β:Type} (p:α->β->Prop):List α->List β->Prop
 | [],[]=>True
 | a::r,b::s=>p a b/\hJ p r s
 | _,_=>False
section
variable {α β:Type} {p:α->β->Prop}
def hJ.len:∀{l:List α} {m:List β},hJ p l m->l.length=m.length
 | [],[],_=>rfl
 | _::_,_::_,h=>by rw [yx,yx,h.2.len]
def hJ.get:∀{l:List α} {m:List β} (_:hJ p l m) {i:Nat} (h1:i<l.length) (h2:i<m.length),p l[i] m[i]
 | a::r,b::s,h,0,_,_=>h.1
 | a::r,b::s,h,i+1,h1,h2=>by
  exact h.2.get (by simpa using h1) (by simpa using h2)
def hJ.append:∀{l l':List α} {m m':List β},hJ p l m->hJ p l' m'->hJ p (l++l') (m++m')
 | [],_,[],_,_,h=>h
 | _::_,_,_::_,_,h,k=>⟨h.1,h.2.append k⟩
end
def kT (v:AV) (s:List (List Int)):Prop:=∃rows,db v rows/\hJ bB rows s
section
variable {v:AV} {s:List (List Int)}
def kT.len (h:kT v s) {hp:Hp}:jb hp 1 v=some (.int .i64 (s.length:Nat)):=by
 obtain ⟨rows,h1,h2⟩:=h;rw [<-h2.len];exact h1.len
def kT.pu (h:kT v s):bg v=true:=by obtain ⟨rows,h1,h2⟩:=h;exact h1.pu
def kT.ao (h:kT v s) (n:Nat) {hp:Hp}:freeze (n+1) hp v=some (v,hp):=by obtain ⟨rows,h1,h2⟩:=h;exact h1.ao n
def kT.shut (h:kT v s):VE.shut v=v:=by obtain ⟨rows,h1,h2⟩:=h;exact h1.shut
def kT.b6 (h:kT v s):VE.b6 v=v:=by obtain ⟨rows,h1,h2⟩:=h;exact h1.b6
def kT.dU (h:kT v s) {hp:Hp}:result hp v=some v:=by obtain ⟨rows,h1,h2⟩:=h;exact h1.dU
def kT.one (h:kT v s):cP v=true:=by obtain ⟨rows,h1,h2⟩:=h;exact h1.one
def kT.cells (h:kT v s):cellsOf v=[v]:=by obtain ⟨rows,h1,h2⟩:=h;exact h1.cells
def kT.bz (h:kT v s) {i:Nat} (hi:i<s.length):∃r rest,bB r s[i]/\kw 1 i v=some (.cz (r::rest)):=by
 obtain ⟨rows,h1,h2⟩:=h;have fy:i<rows.length:=by rw [h2.len];exact hi
 exact ⟨_,_,h2.get fy hi,h1.bz fy⟩
end
def wrap64 {n:Int} (h1: -9223372036854775808<=n) (h2:n<9223372036854775808):IntKind.wrap .i64 n=n:=by
 simp only [IntKind.wrap,IntKind.bits,IntKind.signed,xV]
 grind
def wrapN {n:Nat} (h:n<9223372036854775808):IntKind.wrap .i64 (n:Int)=n:=wrap64 (by omega) (by omega)
end
section
open Go (IntKind)
section
variable {P:aJ} {L:Lib}
abbrev ai (P:aJ) (L:Lib) (f:Nat) (av:List AV) (r:AV):Prop:=bZ P L (D P L) f av=some r
def Tc {n:Nat} (h:Has P L n Di) {v:AV} {l:List Int} (hv:bB v l) (hl:l.length<=1000000):ai P L n [v] (ab (cX l)):=by
 unfold ai;rw [ax h];simp only [go_sem,Di];have key:=Vf (P:=P) (L:=L) (live:=[0,3]) (a:=PR)
  (I:=fun k s=>∃tm ct i,s=⟨tm,[],ct,0⟩/\ak tm 0=v/\ak tm 3=ab (i:Nat)/\i+k=l.length/\cX (l.drop i)=cX l)
  (Q:=fun ex s=>∃tm,s=⟨tm,[],0,0⟩/\((ex= .ret/\ak tm 2=ab (cX l))\/(ex= .exit 0/\cX l=0))) ?_ l.length
 ·generalize hq:D P L (.loop [0,3] PR) _=q;obtain ⟨ex,s,rfl,tm,rfl,h2⟩:=cG hq key ⟨_,_,0,rfl,rfl,rfl,by omega,rfl⟩;rcases h2 with ⟨rfl,h2⟩ | ⟨rfl,h2⟩
  ·simp only [go_sem,h2]
  ·rw [h2];simp only [go_sem]
 ·rintro k s ⟨tm,ct,i,rfl,h0,h3,hk,hf⟩;rw [ad7 (by simp only [go_sem,h0,h3,hv.pu])];simp only [go_sem,ya,h0,h3,PR,hv.len];by_cases hi:i<l.length
  ·have fy:(i:Int)<l.length:=by omega
   rw [aep hi] at hf;by_cases hz:l[i]=0
   ·left
    simp only [go_sem,ya,fy,hv.bz hi,hz];refine ⟨_,k-1,rfl,by omega,_,_,i+1,rfl,?_⟩;rw [wrap64 (by omega) (by omega)];rw [yz hz] at hf;simp only [go_sem,ya];exact ⟨trivial,rfl,by omega,hf⟩
   ·right
    simp only [go_sem,ya,fy,hv.bz hi,hz];rw [yp hz] at hf;refine ⟨_,_,rfl,by simp,_,rfl,.inl ⟨rfl,?_⟩⟩;simp only [go_sem,hf]
  ·right
   have fy:¬(i:Int)<l.length:=by omega
   simp only [go_sem,fy];refine ⟨_,_,rfl,by simp,_,rfl,.inr ⟨rfl,?_⟩⟩;rw [<-hf,xn (by omega)];rfl
end
end
section
open Go (IntKind)
section
variable {P:aJ} {L:Lib} {f:cN} {tm:Env} {hp:Hp} {ct:Nat}
def asI (k:yV) (n:Int):cellsOf (.int k n)=[.int k n]:=(rfl)
def aro (b:Bool):cellsOf (.bool b)=[.bool b]:=(rfl)
def asJ (s:List Nat):cellsOf (.str s)=[.str s]:=(rfl)
def arp:cellsOf .aa=[.aa]:=(rfl)
def asK (e:Bool) (n:Nat) (cs:List AV):cellsOf (.ap e n cs)=[.ap e n cs]:=(rfl)
def asL (id o n:Nat):cellsOf (.ay id o n)=[.ay id o n]:=(rfl)
def asM (id o:Nat):cellsOf (.ptr id o)=[.ptr id o]:=(rfl)
def auQ (g:Fr) (a b:List AV):cellsOf (.fn g a b)=[.fn g a b]:=(rfl)
def asN (cs:List AV):cellsOf (.agg cs)=cs:=(rfl)
def VB (k:yV) (n:Int):cP (.int k n)=true:=(rfl)
def auR (b:Bool):cP (.bool b)=true:=(rfl)
def awX (s:List Nat):cP (.str s)=true:=(rfl)
def auS:cP .aa=true:=(rfl)
def awY (e:Bool) (n:Nat) (cs:List AV):cP (.ap e n cs)=true:=(rfl)
def awZ (id o n:Nat):cP (.ay id o n)=true:=(rfl)
def aw0 (id o:Nat):cP (.ptr id o)=true:=(rfl)
def aAr (g:Fr) (a b:List AV):cP (.fn g a b)=true:=(rfl)
def auT:cr []=true:=(rfl)
def afF (v:AV) (r:List AV):cr (v::r)=(cP v&&cr r):=(rfl)
def asP:aO []=true:=(rfl)
def arq (v:AV) (r:List AV):aO (v::r)=(bg v&&aO r):=(rfl)
def aAs (id o:Nat):bg (.ptr id o)=false:=(rfl)
def aAt (id o n:Nat):bg (.ay id o n)=false:=(rfl)
def aCx (g:Nat) (a b:List AV):bg (.fn (.f g) a b)=(aO a&&aO b):=(rfl)
def aDM (l:Nat) (a b:List AV):bg (.fn (.y l) a b)=false:=(rfl)
def aAu (cs:List AV):bg (.agg cs)=aO cs:=(rfl)
def aAv (cs:List AV):bg (.af cs)=aO cs:=(rfl)
def EU (ct sz:Nat) (cs:List AV):Option (AV×Obj):=bif yu cs.length sz&&cr cs then some (.ptr ct 0,.cells true (aO cs) true sz cs) else none
def aAw (sz:Nat) (x:X):de tm hp ct (.box sz x)=EU ct sz (cellsOf (aG tm x)):=rfl
def aCy {v:AV} (h:cP v=true):EU ct 1 [v]=some (.ptr ct 0,.cells true (bg v&&true) true 1 [v]):=by
 simp [EU,cr,aO,h]
def az {cs:List AV} {n:Nat} (hn:cs.length=n) (h:cr cs=true):EU ct n cs=some (.ptr ct 0,.cells true (aO cs) true n cs):=by
 subst hn;simp [EU,h]
def gC (hp:Hp) (ct id o sz:Nat) (new:List AV) (q:Option Obj):gP:=
 match q with
 | some (.cells true pu ex z cs)=>bif yu new.length sz&&yG (o+sz) cs.length&&cr new then some (.af [],bf hp id (.cells true (pu&&aO new) ex z (over o new cs)),ct) else none
 | _=>none
def stV (hp:Hp) (ct sz:Nat) (p:AV) (new:List AV):gP:=match p with | .ptr id o=>gC hp ct id o sz new (aF hp id) | _=>none
def ags (sz:Nat) (x v:X):dz tm hp ct (.st sz x v)=stV hp ct sz (aG tm x) (cellsOf (aG tm v)):=rfl
def alB (sz id o:Nat) (new:List AV):stV hp ct sz (.ptr id o) new=gC hp ct id o sz new (aF hp id):=rfl
def aDN {v u:AV} {id z:Nat} {pu ex:Bool} (h:cP v=true):gC hp ct id 0 1 [v] (some (.cells true pu ex z [u]))=some (.af [],bf hp id (.cells true (pu&&(bg v&&true)) ex z [v]),ct):=by
 simp [gC,cr,aO,h,over];rfl
def rq {new cs:List AV} {id o sz z:Nat} {pu ex:Bool} (h1:new.length=sz) (h2:o+sz<=cs.length) (h:cr new=true):
  gC hp ct id o sz new (some (.cells true pu ex z cs))=some (.af [],bf hp id (.cells true (pu&&aO new) ex z (over o new cs)),ct):=by
 subst h1;simp [gC,h,yy h2]
def PZ (ct n sz:Nat) (q:Option (List AV)):Option (AV×Obj):=match q with | some cs=>bif yu cs.length (n*sz) then some (.ay ct 0 n,.cells true (aO cs) true sz cs) else none | none=>none
def aw1 (n sz:Nat) (z:List AV) (ps:List (Nat×Nat×X)):de tm hp ct (.cQ n sz z ps)=PZ ct n sz (fill tm z ps):=by
 simp only [de,PZ];cases fill tm z ps<;>rfl
def aw2 {n sz:Nat} {cs:List AV} (h:cs.length=n*sz):PZ ct n sz (some cs)=some (.ay ct 0 n,.cells true (aO cs) true sz cs):=by
 simp [PZ,h]
def lj (tm:Env) (cs:List AV) (o sz:Nat) (new:List AV) (r:List (Nat×Nat×X)):Option (List AV):=
 bif yu new.length sz&&yG (o+sz) cs.length&&cr new then fill tm (over o new cs) r else none
def auU (cs:List AV):fill tm cs []=some cs:=rfl
def asQ (cs:List AV) (o sz:Nat) (x:X) (r:List (Nat×Nat×X)):fill tm cs ((o,sz,x)::r)=lj tm cs o sz (cellsOf (aG tm x)) r:=rfl
def ajN {cs:List AV} {o:Nat} {v:AV} {r:List (Nat×Nat×X)} (h1:o+1<=cs.length) (h2:cP v=true):lj tm cs o 1 [v] r=fill tm (over o [v] cs) r:=by
 simp [lj,cr,h2,yy h1]
def zS {cs new:List AV} {o sz:Nat} {r:List (Nat×Nat×X)} (h0:new.length=sz) (h1:o+sz<=cs.length) (h2:cr new=true):lj tm cs o sz new r=fill tm (over o new cs) r:=by
 subst h0;simp [lj,h2,yy h1]
def aCz (v u:AV) (r:List AV):over 0 [v] (u::r)=v::r:=rfl
def aCA (v a u:AV) (r:List AV):over 1 [v] (a::u::r)=a::v::r:=rfl
def aCB (v a b u:AV) (r:List AV):over 2 [v] (a::b::u::r)=a::b::v::r:=rfl
def aCC (v a b c u:AV) (r:List AV):over 3 [v] (a::b::c::u::r)=a::b::c::v::r:=rfl
def aCD (v a b c d u:AV) (r:List AV):over 4 [v] (a::b::c::d::u::r)=a::b::c::d::v::r:=rfl
def aCE (v a b c d e u:AV) (r:List AV):over 5 [v] (a::b::c::d::e::u::r)=a::b::c::d::e::v::r:=rfl
def AH (ct sz cO:Nat) (zero:List AV) (l c:Option Nat):Option (AV×Obj):=
 match l,c with
 | some l,some c=>bif yG l c&&(yG c room&&(yG (c*cO) room&&(yu zero.length sz&&cr zero))) then some (.ay ct 0 l,.cells true (aO zero) (yu l c) sz (yF l zero).flatten) else none
 | _,_=>none
def aAx (sz cO:Nat) (z:List AV) (l c:X):de tm hp ct (.iA sz cO z l c)=AH ct sz cO z (dP (aG tm l)) (dP (aG tm c)):=by
 simp only [de,AH]
 grind
def Lh {sz cO l:Nat} {z:List AV} (h1:l<=1099511627776) (h2:l*cO<=1099511627776) (h3:z.length=sz) (h4:cr z=true):
  AH ct sz cO z (some l) (some l)=some (.ay ct 0 l,.cells true (aO z) true sz (yF l z).flatten):=by
 subst h3;simp [AH,h4,yy (show l<=room from h1),yy (show l*cO<=room from h2),yy (yA l)]
def CT (hp:Hp) (ct sz cO:Nat) (s:AV) (src:Option (Nat×List AV)):gP:=
 match src with
 | none=>none
 | some (m,new)=>
  match s with
  | .aa=>
   bif yu m 0 then some (.aa,hp,ct)
   else bif yG m room&&(yG (m*cO) room&&yL 0 sz) then some (.ay ct 0 m,(ct,.cells true (aO new) false sz new)::hp,ct+1) else none
  | .ap true n cs=>
   bif yu m 0 then some (.ap true n cs,hp,ct)
   else bif yG (n+m) room&&(yG ((n+m)*cO) room&&(yu cs.length (n*sz)&&yL 0 sz)) then some (.ay ct 0 (n+m),(ct,.cells true (aO cs&&aO new) false sz (cs++new))::hp,ct+1) else none
  | .ay id o n=>
   match aF hp id with
   | some (.cells true pu _ z cs)=>
    bif yu z sz&&(yG (n+m) room&&(yG ((n+m)*cO) room&&(yG (o+n*sz) cs.length&&(yL 0 sz&&cr new)))) then
     some (.ay ct 0 (n+m),(ct,.cells true (pu&&aO new) false sz (slice o (n*sz) cs++new))::eT hp id,ct+1)
    else none
   | _=>none
  | _=>none
def asR (sz cO:Nat) (s x:X):dz tm hp ct (.a7 sz cO s x)=CT hp ct sz cO (aG tm s) (zX hp sz (aG tm x)):=by
 simp only [dz,CT]
 cases zX hp sz (aG tm x) with
 | none=>rfl
 | some q=>obtain ⟨m,new⟩:=q;cases aG tm s<;>rfl
def ars (sz id o n:Nat):zX hp sz (.ay id o n)=rb hp sz (.ay id o n):=rfl
def art (sz:Nat) (e:Bool) (n:Nat) (cs:List AV):zX hp sz (.ap e n cs)=rb hp sz (.ap e n cs):=rfl
def aqO (sz:Nat):zX hp sz .aa=some (0,[]):=rfl
def atC (o n sz:Nat) (q:Option Obj):Option (Nat×List AV):=match q with | some (.cells _ _ _ _ cs)=>bif yG (o+n*sz) cs.length then some (n,slice o (n*sz) cs) else none | _=>none
def aqP (sz id o n:Nat):rb hp sz (.ay id o n)=atC o n sz (aF hp id):=rfl
def aCF (rw pu ex:Bool) (z:Nat) (v:AV):atC 0 1 1 (some (.cells rw pu ex z [v]))=some (1,[v]):=rfl
def nl {sz cO:Nat} {new:List AV} {m:Nat} (hm:0<m) (h1:m<=1099511627776) (h2:m*cO<=1099511627776) (hs:0<sz):
  CT hp ct sz cO .aa (some (m,new))=some (.ay ct 0 m,(ct,.cells true (aO new) false sz new)::hp,ct+1):=by
 have e1:yu m 0=false:=ig (by omega);have e2:yL 0 sz=true:=yy hs;simp [CT,e1,e2,yy (show m<=room from h1),yy (show m*cO<=room from h2)]
def my {sz cO id n m:Nat} {pu ex:Bool} {cs new:List AV} (hg:aF hp id=some (.cells true pu ex sz cs)) (hl:cs.length=n*sz) (h1:n+m<=1099511627776) (h2:(n+m)*cO<=1099511627776) (hs:0<sz) (ho:cr new=true):
  CT hp ct sz cO (.ay id 0 n) (some (m,new))=some (.ay ct 0 (n+m),(ct,.cells true (pu&&aO new) false sz (cs++new))::eT hp id,ct+1):=by
 have e2:yL 0 sz=true:=yy hs;simp only [CT,hg];simp [e2,ho,yy (show n+m<=room from h1),yy (show (n+m)*cO<=room from h2),<-hl,slice,yy (yA cs.length)]
def am9 (n:Nat) (g:Nat) (cap:List AV) (q:Option (List AV×Hp)):Option (AV×Hp):=match q with | some (first,hp)=>(match dc n hp cap with | some (P8,jF)=>some (.fn (.f g) first P8,jF) | none=>none) | none=>none
def ana (g:Nat) (first:List AV) (q:Option (List AV×Hp)):Option (AV×Hp):=match q with | some (cap,hp)=>some (.fn (.f g) first cap,hp) | none=>none
def aAy (n g:Nat) (first cap:List AV):freeze (n+1) hp (.fn (.f g) first cap)=am9 n g cap (dc n hp first):=rfl
def aAz (n g:Nat) (first cap:List AV):am9 n g cap (some (first,hp))=ana g first (dc n hp cap):=rfl
def aAA (g:Nat) (first cap:List AV):ana g first (some (cap,hp))=some (.fn (.f g) first cap,hp):=rfl
def anb (o:Nat) (q:Option (Bool×Nat×List AV×Hp)):Option (AV×Hp):=match q with | some (_,_,cs,hp)=>some (.cz (cs.drop o),hp) | none=>none
def aw3 (n id o:Nat):freeze (n+1) hp (.ptr id o)=anb o (rZ n hp id):=rfl
def aAB (o:Nat) (ex:Bool) (sz:Nat) (cs:List AV):anb o (some (ex,sz,cs,hp))=some (.cz (cs.drop o),hp):=rfl
def jR (o k:Nat) (q:Option (Bool×Nat×List AV×Hp)):Option (AV×Hp):=
 match q with
 | some (ex,sz,cs,hp)=>bif yG (o+k*sz) cs.length then some (.ap (ex&&yL 0 sz&&yu (o+k*sz) cs.length) k (slice o (k*sz) cs),hp) else none
 | none=>none
def aw4 (n id o k:Nat):freeze (n+1) hp (.ay id o k)=jR o k (rZ n hp id):=rfl
def q8 {sz k:Nat} {cs:List AV} (ex:Bool) (hl:cs.length=k*sz) (hs:0<sz):jR 0 k (some (ex,sz,cs,hp))=some (.ap ex k cs,hp):=by
 have e2:yL 0 sz=true:=yy hs;simp [jR,<-hl,e2,slice,yy (yA cs.length)]
def abg (n id:Nat) (hp:Hp) (q:Option Obj):Option (Bool×Nat×List AV×Hp):=
 match q with
 | some (.cells rw pu ex sz cs)=>
  bif pu then some (ex,sz,cs,bif rw then bf hp id (.cells false true ex sz cs) else hp)
  else match dc n hp cs with
   | some (eG,aw)=>some (ex,sz,eG,bf aw id (.cells false false ex sz cs))
   | none=>none
 | _=>none
def aw5 (n id:Nat):rZ (n+1) hp id=abg n id hp (aF hp id):=rfl
def aAC (n id:Nat) (ex:Bool) (sz:Nat) (cs:List AV):abg n id hp (some (.cells true true ex sz cs))=some (ex,sz,cs,bf hp id (.cells false true ex sz cs)):=rfl
def aAD (n id:Nat) (ex:Bool) (sz:Nat) (cs:List AV):abg n id hp (some (.cells false true ex sz cs))=some (ex,sz,cs,hp):=rfl
def aU (n:Nat) (cs:List AV) (h:dc n hp cs=some (cs,hp)):freeze (n+1) hp (.agg cs)=some (.agg cs,hp):=by
 simp only [freeze,h]
def Ur {id n sz:Nat} {ex:Bool} {cs:List AV} (hg:aF hp id=some (.cells true true ex sz cs)) (hl:cs.length=n*sz) (hs:0<sz):result hp (.ay id 0 n)=some (.bV ex sz n cs):=by
 have e2:yL 0 sz=true:=yy hs;simp only [result,D2,hg,yd,<-hl,yy (yA cs.length),yB,e2,tM,slice,ye,List.take_length]
 simp
def ap9 (b:Bool):result hp (.af [.aa,.bool b])=some (.af [.aa,.bool b]):=rfl
def aqa (k:yV) (b:Int):result hp (.af [.aa,.int k b])=some (.af [.aa,.int k b]):=rfl
def aqb (e:Bool) (n:Nat) (cs:List AV) (k:yV) (b:Int):result hp (.af [.ap e n cs,.int k b])=some (.af [.ap e n cs,.int k b]):=rfl
def asS (s:St):pO [] s=some s:=rfl
def fzC (t:Nat) (r:List Nat) (tm:Env) (ct base:Nat) (q:Option (AV×Hp)):Option St:=match q with | some (v,hp)=>pO r ⟨(t,v)::tm,hp,ct,base⟩ | none=>none
def aru (t:Nat) (r:List Nat) (tm:Env) (hp:Hp) (ct base:Nat):pO (t::r) ⟨tm,hp,ct,base⟩=fzC t r tm ct base (freeze deep hp (ak tm t)):=by
 simp only [pO,fzC];cases freeze deep hp (ak tm t)<;>rfl
def aCG (t:Nat) (r:List Nat) (tm:Env) (ct base:Nat) (v:AV) (hp:Hp):fzC t r tm ct base (some (v,hp))=pO r ⟨(t,v)::tm,hp,ct,base⟩:=rfl
end
attribute [go_sem] ap9 aqa aqb asI aro asJ arp asK asL asM auQ asN VB auR awX auS awY awZ aw0 aAr auT afF
 asP arq aAs aAt aCx aDM aAu aAv aAw aCy ags alB aDN aw1 auU asQ aCz aCA aCB aCC aCD aCE aAx
 asR ars art aqO aqP aCF aAy aAz aAA aw3 aAB aw4 q8 aw2 ajN aw5 aAC aAD asS aru aCG
 Bool.and_false Bool.false_and ye eq_self
end
end VE
