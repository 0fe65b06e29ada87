import Derived.Maps.Keyed
import Derived.ChangeKeysEq
import Derived.Laws.Tables
import Derived.Test.YtnilidoboioodaaGreatDoorTaa
set_option linter.all false
set_option maxRecDepth 100000
open Bool renaming and_assoc→uK,and_eq_true→yf,not_eq_true'→wJ
open ForInStep renaming yield→tq
open Go renaming Field→vd,MapEntry→wo,Oper→yL,Operand→xe,Program→yK,TypeDesc→vZ,TypeId→yq,Value→yg,World→yh,binOp→xF,sizeOf→vD
open List renaming all_cons→uB,cons_append→xd,drop_drop→vh,getElem?_eq_getElem→xh,length_cons→yH,map_cons→yW,map_eq_nil_iff→tz,replicate→yC,take_succ_cons→wN
open List.cons renaming injEq→ui
open Nat renaming add_assoc→uV,beq→ym,ble→yx,blt→yF,eq_of_beq_eq_true→yi
open Option.some renaming injEq→yb
open PUnit renaming unit→uJ
open Prod.mk renaming injEq→yk
namespace VE
section
open Go
def li {P:yK} {w:yh} {t:yq} {sz:Nat} (hz:bX P t=some sz):(vD t).run P w= .ok sz w:=by
 unfold bX at hz
 cases hi:P.info? t with
 | none=>simp [hi] at hz
 | some i=>simp_all [vD,typeInfo]
section
variable {O:bh} {H:Hint} {m:Mp} {S:Nat->Prop} {w:yh} {tm:Env} {a:Act} {hp:Hp} {ct:Nat}
def LZ {id o n:Nat} {rw pu ex:Bool} {sz:Nat} {cs:List AV} {p:Pl} (hh:aQ O m S w hp ct) (hg:ap hp id=some (.cells rw pu ex sz cs)) (hm:m id=some p):
  bF O.ab m S w cs p.b p.o:=by
 obtain ⟨p',arr,t',gk,_,_,_,_,_,hr,_⟩:=hh.obj id _ _ hg hm
 grind
def akM {t:yq} {sz:Nat} {ag:Bool} {vx v:AV} {x:yg} (hh:aQ O m S w hp ct) (hz:bX O.P t=some sz) (ha:cQ O.P t=some ag) (hx:ae O.ab m S w vx x)
  (h:eM hp sz ag vx=some v):∃u,(Instr.loadAt t x).run O.P w= .ok u w/\ae O.ab m S w v u:=by
 cases vx<;>simp only [eM,reduceCtorEq] at h
 case ptr id o=>
  obtain ⟨p,hm,rfl⟩:=hx
  split at h
  case h_2=>cases h
  rename_i OW pu0 oR z0 XU Aq;have hr:=LZ (id:=id) (o:=0) (n:=0) hh Aq hm;obtain ⟨u,h1,h2⟩:=Ix hz ha (ns o XU p.b p.o hr) h;exact ⟨u,by simp only [Instr.loadAt,Instr.sureAddr,Sem.run_bind,Sem.run_pure,Result.andThen_ok];exact h1,h2⟩
 case bR cs=>
  obtain ⟨b,o,rfl,_,_,hr⟩:=hx;obtain ⟨u,h1,h2⟩:=Ix hz ha hr h;exact ⟨u,by simp only [Instr.loadAt,Instr.sureAddr,Sem.run_bind,Sem.run_pure,Result.andThen_ok];exact h1,h2⟩
def pC:∀(k:Nat) (cs:List AV),aC cs=true->aC (cs.drop k)=true
 | 0,cs,h=>by simpa using h
 | k+1,[],h=>by simpa using h
 | k+1,c::cs,h=>by simp only [aC,yf] at h;simpa using pC k cs h.2
def LA {cs:List AV} {b o k:Nat} (h2:cs=[]\/S b) (h3:aC cs=true) (h4:bF O.ab m S w cs b o):ae O.ab m S w (.bR (cs.drop k)) (.pointer (some ⟨b,o+k,none⟩)):=by
 refine ⟨b,o+k,rfl,?_,pC k cs h3,ns k cs b o h4⟩
 grind
def ahD {t:yq} {fs:Array vd} {i:Nat} {f:vd} {sz:Nat} {vx v:AV} {x:yg} (hu:O.P.underlying t=some (.struct fs)) (hf:fs[i]? =some f) (hz:bX O.P f.type=some (sz+1))
  (hx:ae O.ab m S w vx x)
  (h:Fg f.offset vx=some v):∃u,(Instr.fieldAt t x i).run O.P w= .ok u w/\ae O.ab m S w v u:=by
 have Vc:∀(b o:Nat),(Instr.fieldAt t (.pointer (some ⟨b,o,none⟩)) i).run O.P w= .ok (.pointer (some ⟨b,o+f.offset,none⟩)) w:=by
  intro b o;simp only [Instr.fieldAt,Sem.run_bind,run_underlying hu,Result.andThen_ok,hf,Instr.sureAddr,Sem.run_pure,fieldPlace,li hz,Nat.succ_ne_zero,y8,lD]
 cases vx<;>simp only [Fg,reduceCtorEq] at h
 case ptr id o=>
  obtain ⟨p,hm,rfl⟩:=hx;simp only [yb] at h;subst h;exact ⟨_,Vc _ _,by simp only [ae];exact ⟨p,hm,by rw [uV]⟩⟩
 case bR cs=>
  obtain ⟨b,o,rfl,h2,h3,h4⟩:=hx
  cases hc:yx f.offset cs.length with
  | false=>rw [hc] at h;cases h
  | true=>
   rw [hc] at h;simp only [yp,yb] at h;subst h;exact ⟨_,Vc _ _,LA h2 h3 h4⟩
def ahE {t:yq} {fs:Array vd} {i:Nat} {f:vd} {sz:Nat} {ag:Bool} {vx v:AV} {x:yg} (hu:O.P.underlying t=some (.struct fs)) (hf:fs[i]? =some f)
  (hz:bX O.P f.type=some sz) (ha:cQ O.P f.type=some ag) (hx:ae O.ab m S w vx x)
  (h:I7 f.offset sz ag vx=some v):∃u,(Instr.field t x i).run O.P w= .ok u w/\ae O.ab m S w v u:=by
 cases vx<;>simp only [I7,reduceCtorEq] at h
 obtain ⟨xs,rfl,hr⟩:=hx;obtain ⟨u,h1,h2⟩:=TF hz ha hr h;exact ⟨u,by simp only [Instr.field,Sem.run_bind,run_underlying hu,Result.andThen_ok,hf,asAgg,Sem.run_pure];exact h1,h2⟩
def ahF {t e:yq} {sz k:Nat} {vx vi v:AV} {x i:yg} (hu:O.P.underlying t=some (.slice e)) (hz:bX O.P e=some sz) (hx:ae O.ab m S w vx x) (hi:ae O.ab m S w vi i)
  (hk:db vi=some k)
  (h:iv sz k vx=some v):∃u,(Instr.indexAt t x i).run O.P w= .ok u w/\ae O.ab m S w v u:=by
 obtain ⟨kd,rfl⟩:=pJ hi hk;have Fl:∀(b o n c:Nat),k<n->(Instr.indexAt t (.slice (some ⟨b,o,none⟩) n c) (.int kd (k:Int))).run O.P w= .ok (.pointer (some ⟨b,o+k*sz,none⟩)) w:=by
  intro b o n c oS;have hr:(0:Int)<=(k:Int)/\(k:Int)<(n:Int):=by omega
  simp [Instr.indexAt,asIntOf,run_underlying hu,li hz,hr,lD]
  grind
 cases vx<;>simp only [iv,reduceCtorEq] at h
 case ay id o n=>
  obtain ⟨p,c,hm,rfl,Gu,Km⟩:=hx
  cases hc:yF k n with
  | false=>rw [hc] at h;cases h
  | true=>
   rw [hc] at h;simp only [yp,yb] at h;subst h;have oS:k<n:=by simp_all
   exact ⟨_,Fl _ _ _ _ oS,by simp only [ae];exact ⟨p,hm,by rw [uV]⟩⟩
 case aq ex n cs=>
  rcases hx with ⟨b,o,c,rfl,Gu,hex,h2,h3,h4⟩ | ⟨a,rfl,rfl,rfl⟩
  case inr=>
   have:yF k 0=false:=by cases hq:yF k 0 with | false=>rfl | true=>simp only [yF,Nat.ble_eq] at hq;omega
   grind
  cases hc:yF k n with
  | false=>rw [hc] at h;cases h
  | true=>
   rw [hc] at h;simp only [yp,yb] at h;subst h;have oS:k<n:=by simp_all
   exact ⟨_,Fl _ _ _ _ oS,LA h2 h3 h4⟩
def ahG {t e:yq} {len sz k:Nat} {vx vi v:AV} {x i:yg} (hu:O.P.underlying t=some (.array len e)) (hz:bX O.P e=some sz) (hx:ae O.ab m S w vx x) (hi:ae O.ab m S w vi i)
  (hk:db vi=some k)
  (h:r7 len sz k vx=some v):∃u,(Instr.indexAt t x i).run O.P w= .ok u w/\ae O.ab m S w v u:=by
 obtain ⟨kd,rfl⟩:=pJ hi hk;have Fl:∀(b o:Nat),k<len->(Instr.indexAt t (.pointer (some ⟨b,o,none⟩)) (.int kd (k:Int))).run O.P w= .ok (.pointer (some ⟨b,o+k*sz,none⟩)) w:=by
  intro b o oS;have hr:(0:Int)<=(k:Int)/\(k:Int)<(len:Int):=by omega
  simp [Instr.indexAt,asIntOf,run_underlying hu,li hz,hr,lD,Instr.sureAddr]
  grind
 cases vx<;>simp only [r7,reduceCtorEq] at h
 case ptr id o=>
  obtain ⟨p,hm,rfl⟩:=hx
  cases hc:yF k len with
  | false=>rw [hc] at h;cases h
  | true=>
   rw [hc] at h;simp only [yp,yb] at h;subst h;have oS:k<len:=by simp_all
   exact ⟨_,Fl _ _ oS,by simp only [ae];exact ⟨p,hm,by rw [uV]⟩⟩
 case bR cs=>
  obtain ⟨b,o,rfl,h2,h3,h4⟩:=hx
  cases hc:yF k len with
  | false=>rw [hc] at h;cases h
  | true=>
   rw [hc] at h;simp only [yp,yb] at h;subst h;have oS:k<len:=by simp_all
   exact ⟨_,Fl _ _ oS,LA h2 h3 h4⟩
def ahH {t e:yq} {len sz k:Nat} {ag:Bool} {vx vi v:AV} {x i:yg} (hu:O.P.underlying t=some (.array len e)) (hz:bX O.P e=some sz) (ha:cQ O.P e=some ag)
  (hx:ae O.ab m S w vx x) (hi:ae O.ab m S w vi i) (hk:db vi=some k)
  (h:I8 len sz ag k vx=some v):
  ∃u,(Instr.index t x i).run O.P w= .ok u w/\ae O.ab m S w v u:=by
 obtain ⟨kd,rfl⟩:=pJ hi hk;cases vx<;>simp only [I8,reduceCtorEq] at h
 obtain ⟨xs,rfl,hr⟩:=hx
 cases hc:yF k len with
 | false=>rw [hc] at h;cases h
 | true=>
  rw [hc] at h;have oS:k<len:=by simp_all
  obtain ⟨u,h1,h2⟩:=TF hz ha hr h;have b9:(0:Int)<=(k:Int)/\(k:Int)<(len:Int):=by omega
  exact ⟨u,by simp [Instr.index,asIntOf,run_underlying hu,li hz,b9,h1];intro hle;exact absurd hle (by omega),h2⟩
def ahI {t:yq} {k:Nat} {vx vi v:AV} {x i:yg} (hu:O.P.underlying t=some .string) (hx:ae O.ab m S w vx x) (hi:ae O.ab m S w vi i) (hk:db vi=some k)
  (h:kI k vx=some v):
  ∃u,(Instr.index t x i).run O.P w= .ok u w/\ae O.ab m S w v u:=by
 obtain ⟨kd,rfl⟩:=pJ hi hk;cases vx<;>simp only [kI,reduceCtorEq] at h
 obtain ⟨b,rfl,rfl⟩:=hx
 cases hs:(b.data.toList.map UInt8.toNat)[k]? with
 | none=>rw [hs] at h;cases h
 | some q=>
  rw [hs] at h;simp only [yb] at h;subst h;rw [List.getElem?_map] at hs
  cases hb:b.data.toList[k]? with
  | none=>rw [hb] at hs;cases hs
  | some c=>
   rw [hb] at hs;simp only [Option.map_some,yb] at hs;subst hs;have bK:b[k]? =some c:=by
    have aO:k<b.data.toList.length:=by
     grind
    have dM:k<b.size:=by simp_all
    rw [getElem?_pos b k dM];rw [xh aO] at hb;rw [<-hb];rfl
   refine ⟨.int .u8 c.toNat,?_,by simp [ae]⟩;simp [Instr.index,asIntOf,run_underlying hu,bK]
end
end
section
open Go
section
variable {ab:Nat->Nat} {m:Mp} {S:Nat->Prop} {w:yh}
def LB:∀{v:AV} {u:yg},ae ab m S w v u->cd (cellsOf v)=true->au ab m S w (cellsOf v) u.cells.toList:=by
 intro v u h h1;cases v
 case undef=>simp [cellsOf,cd,cw] at h1
 case cx=>simp [cellsOf,cd,cw] at h1
 case fn f a b=>
  cases f with
  | f g=>have h':=h;obtain ⟨fi,ca,rfl,_⟩:=h';exact ⟨_,_,rfl,h,rfl⟩
  | y l=>have h':=h;obtain ⟨p,_,rfl⟩:=h';exact ⟨_,_,rfl,h,rfl⟩
 all_goals
  have h':=h;simp only [ae] at h';simp only [cellsOf,Value.cells,au]
  grind
def zG (v:yg):au ab m S w (cellsOf (dP v)) v.cells.toList:=by
 have h:=Iw (ab:=ab) (m:=m) (S:=S) (w:=w) v;cases v
 case agg xs=>
  obtain ⟨xs,e,hr⟩:=h;injection e with e
  subst e;exact hr
 case pointer p=>cases p<;>(simp only [dP] at h ⊢;exact ⟨_,_,rfl,h,rfl⟩)
 case map p=>cases p<;>(simp only [dP] at h ⊢;exact ⟨_,_,rfl,h,rfl⟩)
 case slice p n c=>
  cases p
  ·cases n
   ·cases c<;>(simp only [dP] at h ⊢;exact ⟨_,_,rfl,h,rfl⟩)
   ·simp only [dP] at h ⊢;exact ⟨_,_,rfl,h,rfl⟩
  ·simp only [dP] at h ⊢;exact ⟨_,_,rfl,h,rfl⟩
 all_goals (simp only [dP] at h ⊢;exact ⟨_,_,rfl,h,rfl⟩)
def jo:∀{a b:List AV} {x y:List yg},au ab m S w a x->au ab m S w b y->au ab m S w (a++b) (x++y)
 | [],b,x,y,h,k=>by simp only [au] at h;subst h;simpa using k
 | c::a,b,x,y,h,k=>by
  obtain ⟨u,r,rfl,h2,h3⟩:=h;exact ⟨u,r++y,rfl,h2,jo h3 k⟩
def Ee:∀(k:Nat) {cs:List AV} {us:List yg},au ab m S w cs us->au ab m S w (cs.drop k) (us.drop k)
 | 0,cs,us,h=>by simpa using h
 | k+1,[],us,h=>by simp only [au] at h;subst h;simp [au]
 | k+1,c::cs,us,h=>by simp only [au] at h;obtain ⟨u,r,rfl,_,h3⟩:=h;simpa using Ee k h3
def Bv:∀(k:Nat) {cs:List AV} {us:List yg},au ab m S w cs us->au ab m S w (cs.take k) (us.take k)
 | 0,cs,us,h=>by simp [au]
 | k+1,[],us,h=>by simp only [au] at h;subst h;simp [au]
 | k+1,c::cs,us,h=>by
  simp only [au] at h;obtain ⟨u,r,rfl,h2,h3⟩:=h;exact ⟨u,_,rfl,h2,Bv k h3⟩
def L2:∀{cs:List AV} {us:List yg} {i:Nat} {v:AV},au ab m S w cs us->cs[i]? =some v->∃u,us[i]? =some u/\ae ab m S w v u
 | [],us,i,v,_,h=>by simp at h
 | c::cs,us,0,v,h,e=>by
  simp only [au] at h;obtain ⟨u,r,rfl,h2,h3⟩:=h;simp at e;subst e;exact ⟨u,rfl,h2⟩
 | c::cs,us,i+1,v,h,e=>by
  simp only [au] at h;obtain ⟨u,r,rfl,h2,h3⟩:=h;simpa using L2 h3 e
end
def RP (off:Nat):∀(new:List yg) (j:Nat) (cells:Array yg),off+j+new.length<=cells.size->
  ((new.zipIdx j).foldl (fun (cs:Array yg) (p:yg×Nat)=>cs.setIfInBounds (off+p.2) p.1) cells).toList=
   cells.toList.take (off+j)++new++cells.toList.drop (off+j+new.length)
 | [],j,cells,_=>by simp
 | v::r,j,cells,h=>by
  simp only [yH] at h;have ih:=RP off r (j+1) (cells.setIfInBounds (off+j) v) (by simp;omega);simp only [List.zipIdx_cons,List.foldl_cons];rw [ih];have aO:off+j<cells.toList.length:=by grind
  have h1:(cells.setIfInBounds (off+j) v).toList=cells.toList.set (off+j) v:=by simp
  rw [h1,show off+(j+1)=off+j+1 by omega];have h2:(cells.toList.set (off+j) v).take (off+j+1)=cells.toList.take (off+j)++[v]:=by
   rw [List.take_succ_eq_append_getElem (by simpa using aO)];simp [List.take_set_of_le]
  have h3:(cells.toList.set (off+j) v).drop (off+j+1+r.length)=cells.toList.drop (off+j+(r.length+1)):=by
   rw [List.drop_set_of_lt (by omega)];congr 1;omega
  grind
section
variable {O:bh} {H:Hint} {m:Mp} {S:Nat->Prop} {w:yh} {tm:Env} {a:Act}
def Iy (hH:dZ O H) (ht:bH O m S w tm a.tmps) {place:Nat->Option (Nat×Nat)}:∀(parts:List (Nat×xe)) (ps:List (Nat×Nat×X)) (zero cs:List AV) (cells:Array yg),
  partsOf H place parts=some ps->au O.ab m S w zero cells.toList->fill tm zero ps=some cs->
  ∃out,Instr.fill place cells (parts.map fun p=>(p.1,a.eval p.2))=some out/\au O.ab m S w cs out.toList
 | [],ps,zero,cs,cells,hp,hz,hf=>by
  simp only [partsOf,yb] at hp;subst hp;simp only [fill,yb] at hf;subst hf;exact ⟨cells,rfl,hz⟩
 | (i,x)::r,ps,zero,cs,cells,hp,hz,hf=>by
  simp only [partsOf] at hp
  cases kS:place i with
  | none=>simp [kS] at hp
  | some q=>
   obtain ⟨o,s⟩:=q;simp only [kS] at hp
   cases lW:partsOf H place r with
   | none=>simp [lW] at hp
   | some l=>
    simp only [lW,yb] at hp;subst hp;simp only [fill] at hf
    cases hc:(ym (cellsOf (ao tm (aH H x))).length s&&yx (o+s) zero.length&&cd (cellsOf (ao tm (aH H x)))) with
    | false=>rw [hc] at hf;cases hf
    | true=>
     rw [hc] at hf;simp only [yf] at hc;have hle:=Nat.le_of_ble_eq_true hc.1.2;have XV:=LB (bI hH ht x) hc.2;have lX:=eZ _ _ XV;have qO:=eZ _ _ hz;have dM:(a.eval x).cells.size=s:=by simp_all
     have gO:cells.size=zero.length:=by omega
     have akN:=RP o (a.eval x).cells.toList 0 cells (by simp;omega);have fF:au O.ab m S w (over o (cellsOf (ao tm (aH H x))) zero)
       ((a.eval x).cells.zipIdx.foldl (fun (cs:Array yg) (p:yg×Nat)=>cs.setIfInBounds (o+p.2) p.1) cells).toList:=by
      rw [<-Array.foldl_toList,Array.toList_zipIdx,akN];rw [show (a.eval x).cells.toList.length=(cellsOf (ao tm (aH H x))).length from lX];exact jo (jo (Bv o hz) XV) (Ee _ hz)
     obtain ⟨out,h1,h2⟩:=Iy hH ht r l _ cs _ lW fF hf;simp only [yW,Instr.fill,kS,dM]
     grind
end
end
section
open Go
def LC (p q:ByteArray):(p==q)=bV (jU p) (jU q):=by
 have h:(p==q)=(p.data==q.data):=by cases p;rfl
 rw [h,RM,ByteArray.toList_eq,ByteArray.toList_eq]
 simp_all
def NK:vZ->Bool
 | .bool | .int _ | .string=>true
 | _=>false
def fits (d:vZ) (v:AV):Bool:=
 match d,v with
 | .int _,.int _ _ | .string,.str _ | .bool,.bool _=>true
 | _,_=>false
section
variable {O:bh} {ab:Nat->Nat} {m:Mp} {S:Nat->Prop} {w:yh}
def adt {vk XW:AV} {k k':yg} {r:Bool} {d:vZ} (hk:ae ab m S w vk k) (oT:ae ab m S w XW k') (h:lJ vk XW=some r)
  (hd:fits d vk=true):Instr.sameNow d k k'=some r:=by
 unfold lJ at h
 split at h
 ·rename_i j x j' y;simp only [ae] at hk oT;subst hk;subst oT;by_cases hj:j=j'
  ·simp only [hj,xm,yb] at h;subst hj;cases d<;>simp [fits] at hd
   simpa [Instr.sameNow] using h
  ·simp [hj] at h
 ·simp only [ae] at hk oT;obtain ⟨s,rfl,rfl⟩:=hk;obtain ⟨s',rfl,rfl⟩:=oT;simp only [yb] at h;cases d<;>simp [fits] at hd
  simp only [Instr.sameNow,LC];rw [<-h];rfl
 ·simp only [ae] at hk oT;subst hk;subst oT;simp only [yb] at h;cases d<;>simp [fits] at hd
  simp [Instr.sameNow,h]
 ·cases d<;>simp [fits] at hd
 ·cases h
def ZI {P:yK} {kt:yq} {d:vZ} (hu:P.underlying kt=some d) (hd:NK d=true) (b:Bool) (k:yg):(Instr.checkKey b 10000 kt k).run P w= .ok () w:=by
 have:∀n,(Instr.checkKey b (n+1) kt k).run P w= .ok () w:=by
  cases d<;>simp [NK] at hd<;>simp [Instr.checkKey,run_underlying hu]
 grind
end
end
section
open Go
def D3:∀(k1 k2:List Nat) (a b:List AV) (r:Bool),cG (k1++k2) a b=some r->
  ∃r1 r2,cG k1 (a.take k1.length) (b.take k1.length)=some r1/\cG k2 (a.drop k1.length) (b.drop k1.length)=some r2/\r=(r1&&r2)
 | [],k2,a,b,r,h=>⟨true,r,by simp [cG],by simpa using h,by simp⟩
 | k::k1,k2,[],b,r,h=>by
  simp only [xd] at h;unfold cG at h
  grind
 | k::k1,k2,x::a,[],r,h=>by
  unfold cG at h
  grind
 | k::k1,k2,x::a,y::b,r,h=>by
  have step:∀(q:Bool) (f:Bool->Bool),(match cG (k1++k2) a b with | some r=>some (f r) | none=>none)=some q->∃r0,cG (k1++k2) a b=some r0/\q=f r0:=by grind
  unfold cG at h
  split at h
  ·grind
  ·rename_i e1 e2 e3;obtain ⟨rfl,rfl⟩:=e1;obtain ⟨rfl,rfl⟩:=e2;obtain ⟨rfl,rfl⟩:=e3;obtain ⟨r0,h0,rfl⟩:=step r _ h;obtain ⟨r1,r2,h1,h2,rfl⟩:=D3 k1 k2 _ _ r0 h0;exact ⟨_,r2,by simp only [yH,wN,cG,h1],by simpa using h2,(uK _ _ _).symm⟩
  ·rename_i e1 e2 e3;obtain ⟨rfl,rfl⟩:=e1;obtain ⟨rfl,rfl⟩:=e2;obtain ⟨rfl,rfl⟩:=e3
   split at h
   ·rename_i hk;obtain ⟨r0,h0,rfl⟩:=step r _ h;obtain ⟨r1,r2,h1,h2,rfl⟩:=D3 k1 k2 _ _ r0 h0;exact ⟨_,r2,by simp only [yH,wN,cG,h1,hk,xm],by simpa using h2,(uK _ _ _).symm⟩
   ·cases h
  ·rename_i e1 e2 e3;obtain ⟨rfl,rfl⟩:=e1;obtain ⟨rfl,rfl⟩:=e2;obtain ⟨rfl,rfl⟩:=e3;obtain ⟨r0,h0,rfl⟩:=step r _ h;obtain ⟨r1,r2,h1,h2,rfl⟩:=D3 k1 k2 _ _ r0 h0;exact ⟨_,r2,by simp only [yH,wN,cG,h1],by simpa using h2,(uK _ _ _).symm⟩
  ·cases h
def Qz:∀(ks:List Nat) (a b:List AV) (r:Bool),cG ks a b=some r->a.length=ks.length/\b.length=ks.length
 | [],a,b,r,h=>by
  unfold cG at h
  grind
 | k::ks,[],b,r,h=>by
  unfold cG at h
  grind
 | k::ks,x::a,[],r,h=>by
  unfold cG at h
  grind
 | k::ks,x::a,y::b,r,h=>by
  have:∃r0,cG ks a b=some r0:=by
   cases he:cG ks a b with
   | some r0=>exact ⟨r0,rfl⟩
   | none=>unfold cG at h;split at h<;>simp_all
  obtain ⟨r0,h0⟩:=this
  have:=Qz ks a b r0 h0
  simp [this]
def CI (P:yK) (t:yq) (x:yg) (xs:List yg):Prop:=(cQ P t=some true/\x= .agg xs.toArray)\/(cQ P t=some false/\xs=[x])
section
variable {P:yK} {ab:Nat->Nat} {m:Mp} {S:Nat->Prop} {w:yh}
def HB {t:yq} {ag:Bool} (ha:cQ P t=some ag):(isAgg t).run P w= .ok ag w:=by
 unfold cQ at ha
 cases hu:P.underlying t with
 | none=>simp [hu] at ha
 | some d=>cases d<;>simp_all [isAgg,underlying]
def adu {t:yq} {s o:Nat} {xs:List yg} (hz:bX P t=some s) (ha:∃ag,cQ P t=some ag) (h1:cQ P t=some false->s=1) (hl:o+s<=xs.length):
  ∃u,(part t xs.toArray o).run P w= .ok u w/\CI P t u ((xs.drop o).take s):=by
 obtain ⟨ag,ha⟩:=ha
 cases ag with
 | true=>
  refine ⟨.agg ((xs.drop o).take s).toArray,?_,.inl ⟨ha,rfl⟩⟩;simp [part,HB ha,li hz,List.extract_eq_take_drop]
 | false=>
  have hs:=h1 ha;subst hs;have aO:o<xs.length:=by omega
  refine ⟨xs[o],?_,.inr ⟨ha,?_⟩⟩
  ·simp [part,HB ha,xh aO]
  ·rw [List.drop_eq_getElem_cons aO,wN,List.take_zero]
def RQ {n:Nat} {t:yq} {ks:List Nat} (h:kinds P n t=some ks):∃ag,cQ P t=some ag/\(ag=false->ks.length=1):=by
 cases n with
 | zero=>simp [kinds] at h
 | succ n=>
  unfold kinds at h;unfold cQ
  split at h<;>simp_all
  all_goals (rw [<-h];rfl)
def Nj (P:yK) (ab:Nat->Nat) (m:Mp) (S:Nat->Prop) (w:yh) (n:Nat):Prop:=
 ∀(t:yq) (ks:List Nat),kinds P n t=some ks->P.stoodInHeld t=false->∀(d:Nat),n<=d->∀(xs ys:List yg) (cs b8:List AV) (r:Bool) (x y:yg),
  au ab m S w cs xs->au ab m S w b8 ys->cG ks cs b8=some r->CI P t x xs->CI P t y ys->(Op.equalIn d t x y).run P w= .ok r w
def RR {n:Nat} (ih:Nj P ab m S w n) {t:yq} {ks:List Nat} {s o d:Nat} (hk:kinds P n t=some ks) (aP:P.stoodInHeld t=false) (hz:bX P t=some s) (hs:ks.length=s) (hd:n<=d)
  {xs ys:List yg} {cs b8:List AV} (h1:au ab m S w cs xs) (h2:au ab m S w b8 ys) {r:Bool} (he:cG ks ((cs.drop o).take s) ((b8.drop o).take s)=some r):
  ∃u u',(part t xs.toArray o).run P w= .ok u w/\(part t ys.toArray o).run P w= .ok u' w/\(Op.equalIn d t u u').run P w= .ok r w:=by
 obtain ⟨ag,ha,h1s⟩:=RQ hk;obtain ⟨l1,l2⟩:=Qz _ _ _ _ he;have q1:=eZ _ _ h1;have q2:=eZ _ _ h2;simp only [List.length_take,List.length_drop] at l1 l2;have kT:cQ P t=some false->s=1:=fun h=>by
  grind
 have lX:o+s<=xs.length\/s=0:=by omega
 have qO:o+s<=ys.length\/s=0:=by omega
 have get:∀(zs:List yg),(o+s<=zs.length\/s=0)->∃u,(part t zs.toArray o).run P w= .ok u w/\CI P t u ((zs.drop o).take s):=by
  intro zs hl;rcases hl with hl | hl
  ·exact adu hz ⟨ag,ha⟩ kT hl
  ·subst hl
   cases ag with
   | false=>have:=kT ha;omega
   | true=>
    refine ⟨.agg ((zs.drop o).take 0).toArray,?_,.inl ⟨ha,rfl⟩⟩;simp [part,HB ha,li hz]
 obtain ⟨u,p1,v1⟩:=get xs lX;obtain ⟨u',p2,v2⟩:=get ys qO;exact ⟨u,u',p1,p2,ih t ks hk aP d hd _ _ _ _ r u u' (Bv s (Ee o h1)) (Bv s (Ee o h2)) he v1 v2⟩
def QA {n:Nat} (ih:Nj P ab m S w n) {d:Nat} (hd:n<=d) {xs ys:List yg} {cs b8:List AV} (h1:au ab m S w cs xs) (h2:au ab m S w b8 ys):
  ∀(fs:List vd) (o:Nat) (ks:List Nat) (r:Bool),lj P (fun u=>kinds P n u) fs o=some ks->cG ks (cs.drop o) (b8.drop o)=some r->(Op.eqFields d xs.toArray ys.toArray fs).run P w= .ok r w
 | [],o,ks,r,h,he=>by
  simp only [lj,yb] at h;unfold cG at he
  split at he<;>simp_all [Op.eqFields]
 | f::fs,o,ks,r,h,he=>by
  simp only [lj] at h
  cases hk:kinds P n f.type with
  | none=>simp [hk] at h
  | some kf=>
   cases hz:bX P f.type with
   | none=>simp [hk,hz] at h
   | some s=>
    simp only [hk,hz] at h
    cases hc:(f.name != "_"&&ym f.offset o&&ym kf.length s&& !P.stoodInHeld f.type) with
    | false=>rw [hc] at h;cases h
    | true=>
     rw [hc] at h;simp only [yp] at h;simp only [yf,bne_iff_ne,wJ] at hc;obtain ⟨⟨⟨hn,ho⟩,hl⟩,aP⟩:=hc;have ho:=yi ho;have hl:=yi hl
     cases hr:lj P (fun u=>kinds P n u) fs (o+s) with
     | none=>simp [hr] at h
     | some kr=>
      simp only [hr,yb] at h;subst h;obtain ⟨r1,r2,e1,e2,rfl⟩:=D3 _ _ _ _ _ he;rw [hl] at e1 e2;rw [vh,vh] at e2;obtain ⟨u,u',p1,p2,p3⟩:=RR ih (o:=o) hk aP hz hl hd h1 h2 e1;have rest:=QA ih hd h1 h2 fs (o+s) kr r2 hr e2;subst ho;simp only [Op.eqFields]
      cases r1 with
      | true=>simp [hn,p1,p2,p3,rest]
      | false=>simp [hn,p1,p2,p3]
def QY {n:Nat} (ih:Nj P ab m S w n) {d:Nat} (hd:n<=d) {xs ys:List yg} {cs b8:List AV} (h1:au ab m S w cs xs) (h2:au ab m S w b8 ys)
  {e:yq} {ks:List Nat} {s:Nat} (hk:kinds P n e=some ks) (aP:P.stoodInHeld e=false) (hz:bX P e=some s) (hl:ks.length=s):
  ∀(k j:Nat) (r:Bool),cG (yC k ks).flatten (cs.drop (j*s)) (b8.drop (j*s))=some r->(Op.eqItems d e s xs.toArray ys.toArray (List.range' j k)).run P w= .ok r w
 | 0,j,r,he=>by
  unfold cG at he
  split at he<;>simp_all [Op.eqItems]
 | k+1,j,r,he=>by
  obtain ⟨r1,r2,e1,e2,rfl⟩:=D3 _ _ _ _ _ he;rw [hl] at e1 e2;rw [vh,vh,show j*s+s=(j+1)*s by rw [Nat.add_mul,Nat.one_mul]] at e2;obtain ⟨u,u',p1,p2,p3⟩:=RR ih (o:=j*s) hk aP hz hl hd h1 h2 e1;have rest:=QY ih hd h1 h2 hk aP hz hl k (j+1) r2 e2;rw [List.range'_succ];simp only [Op.eqItems]
  cases r1 with
  | true=>simp [p1,p2,p3,rest]
  | false=>simp [p1,p2,p3]
def IU:∀(n:Nat) (t:yq) (ks:List Nat),kinds P n t=some ks->P.stoodInHeld t=false->∀(d:Nat),n<=d->∀(xs ys:List yg) (cs b8:List AV) (r:Bool) (x y:yg),
  au ab m S w cs xs->au ab m S w b8 ys->cG ks cs b8=some r->CI P t x xs->CI P t y ys->(Op.equalIn d t x y).run P w= .ok r w
 | 0,t,ks,h,_,_,_,_,_,_,_,_,_,_,_,_,_,_,_=>by simp [kinds] at h
 | n+1,t,ks,h,aP,0,hd,_,_,_,_,_,_,_,_,_,_,_,_=>by omega
 | n+1,t,ks,h,aP,d+1,hd,xs,ys,cs,b8,r,x,y,h1,h2,he,hx,hy=>by
  unfold kinds at h;have one:∀{k:Nat},ks=[k]->cQ P t=some false->∃c c',cs=[c]/\b8=[c']/\ae ab m S w c x/\ae ab m S w c' y:=by
   intro k hk ha;rcases hx with ⟨hx,_⟩ | ⟨_,rfl⟩
   ·grind
   rcases hy with ⟨hy,_⟩ | ⟨_,rfl⟩
   ·grind
   have l1:=eZ _ _ h1;have l2:=eZ _ _ h2
   match cs,b8,l1,l2 with
   | [c],[c'],_,_=>
    simp only [au] at h1 h2
    grind
  split at h
  ·rename_i hu;simp only [yb] at h;have ha:cQ P t=some false:=by simp [cQ,hu]
   obtain ⟨c,c',rfl,rfl,r1,r2⟩:=one h.symm ha;subst h;unfold cG at he
   split at he<;>simp_all [cG]
   subst he;simp only [ae] at r1 r2;subst r1;subst r2;simp [Op.equalIn,run_underlying hu]
  ·rename_i k0 hu;simp only [yb] at h;have ha:cQ P t=some false:=by simp [cQ,hu]
   obtain ⟨c,c',rfl,rfl,r1,r2⟩:=one h.symm ha;subst h;unfold cG at he
   split at he<;>simp_all [cG]
   obtain ⟨hk,he⟩:=he;subst he;simp only [ae] at r1 r2;subst r1;subst r2;simp [Op.equalIn,run_underlying hu]
  ·rename_i hu;simp only [yb] at h;have ha:cQ P t=some false:=by simp [cQ,hu]
   obtain ⟨c,c',rfl,rfl,r1,r2⟩:=one h.symm ha;subst h;unfold cG at he
   split at he<;>simp_all [cG]
   subst he;simp only [ae] at r1 r2;obtain ⟨s,rfl,rfl⟩:=r1;obtain ⟨s',rfl,rfl⟩:=r2;simp only [Op.equalIn,Sem.run_bind,run_underlying hu,Result.andThen_ok,Sem.run_pure,LC];rfl
  ·rename_i fs hu;have ha:cQ P t=some true:=by simp [cQ,hu]
   rcases hx with ⟨_,rfl⟩ | ⟨hx,_⟩
   ·rcases hy with ⟨_,rfl⟩ | ⟨hy,_⟩
    ·have hf:P.fieldsOf t=fs:=by simp [Program.fieldsOf,hu]
     rw [run_equalIn_struct w d t _ _ (by rw [hf];exact hu) aP,hf]
     exact QA (IU n) (by omega) h1 h2 fs.toList 0 ks r h (by simpa using he)
    ·rw [ha] at hy;cases hy
   ·rw [ha] at hx;cases hx
  ·rename_i k e hu;have ha:cQ P t=some true:=by simp [cQ,hu]
   rcases hx with ⟨_,rfl⟩ | ⟨hx,_⟩
   ·rcases hy with ⟨_,rfl⟩ | ⟨hy,_⟩
    ·cases hk:kinds P n e with
     | none=>simp [hk] at h
     | some ke=>
      cases hz:bX P e with
      | none=>simp [hk,hz] at h
      | some s=>
       simp only [hk,hz] at h
       cases hc:(ym ke.length s&& !P.stoodInHeld e) with
       | false=>rw [hc] at h;cases h
       | true=>
        rw [hc] at h;simp only [yp,yb] at h;subst h;simp only [yf,wJ] at hc;have fF:=hz;unfold bX at fF
        cases hi:P.info? e with
        | none=>simp [hi] at fF
        | some i=>
         simp only [hi,yb] at fF;have gO:P.cellsOf e=s:=by simp [Program.cellsOf,hi,fF]
         rw [run_equalIn_array w d _ _ hu hi,gO,List.range_eq_range'];exact QY (IU n) (by omega) h1 h2 hk hc.2 hz (yi hc.1) k 0 r (by simpa using he)
    ·rw [ha] at hy;cases hy
   ·rw [ha] at hx;cases hx
  ·cases h
end
end
section
open Go
inductive nQ (E:yg->Bool->Prop):List wo->Nat->Option (Nat×yg)->Prop
 | nil {i:Nat}:nQ E [] i none
 | hit {e:wo} {es:List wo} {i:Nat}:E e.key true->nQ E (e::es) i (some (i,e.val))
 | Ay {e:wo} {es:List wo} {i:Nat} {f:Option (Nat×yg)}:E e.key false->nQ E es (i+1) f->nQ E (e::es) i f
def afz {d:vZ} {k:yg} {es:List wo} {i:Nat} {f:Option (Nat×yg)} (h:nQ (fun u b=>Instr.sameNow d k u=some b) es i f):Instr.findNow d k es i=some f:=by
 induction h with
 | nil=>rfl
 | hit h=>simp [Instr.findNow,h]
 | Ay h _ ih=>simp [Instr.findNow,h,ih]
def TJ {P:yK} {w:yh} {kt:yq} {k:yg} {es:List wo} {i:Nat} {f:Option (Nat×yg)} (h:nQ (fun u b=>(Op.equal kt k u).run P w= .ok b w) es i f):
  (Instr.findAsking kt k es i).run P w= .ok f w:=by
 induction h with
 | nil=>simp [Instr.findAsking]
 | hit h=>simp [Instr.findAsking,h]
 | Ay h _ ih=>simp [Instr.findAsking,h,ih]
section
variable {O:bh} {ab:Nat->Nat} {m:Mp} {S:Nat->Prop} {w:yh}
def Found (ab:Nat->Nat) (m:Mp) (S:Nat->Prop) (w:yh) (f:Option (Nat×yg)):Option AV->Prop
 | none=>f=none
 | some v=>∃j u,f=some (j,u)/\ae ab m S w v u
def L3 {vk:AV} {E:yg->Bool->Prop} (hE:∀c u b,ae ab m S w c u->lJ vk c=some b->E u b):∀(ks vs:List AV) (es:List wo) (i:Nat) (r:Option AV),
  au ab m S w ks (es.map (·.key))->au ab m S w vs (es.map (·.val))->Al vk ks vs=some r->∃f,nQ E es i f/\Found ab m S w f r
 | [],vs,es,i,r,h1,h2,h=>by
  simp only [au,tz] at h1;subst h1;simp only [Al,yb] at h;subst h;exact ⟨none,.nil,rfl⟩
 | c::ks,[],es,i,r,h1,h2,h=>by simp only [Al] at h;cases h
 | c::ks,v::vs,es,i,r,h1,h2,h=>by
  cases es with
  | nil=>simp [au] at h1
  | cons e es=>
   simp only [yW,au,ui] at h1 h2;obtain ⟨u,t,⟨rfl,rfl⟩,hc,mX⟩:=h1;obtain ⟨u',t',⟨rfl,rfl⟩,hv,qP⟩:=h2;simp only [Al] at h
   cases oU:lJ vk c with
   | none=>simp [oU] at h
   | some b=>
    have hs:=hE _ _ _ hc oU
    cases b with
    | true=>
     simp only [oU,yb] at h;subst h;exact ⟨_,.hit hs,i,e.val,rfl,hv⟩
    | false=>
     simp only [oU] at h;obtain ⟨f,h1,h2⟩:=L3 hE ks vs es (i+1) r mX qP h;exact ⟨f,.Ay hs h1,h2⟩
def Put (ab:Nat->Nat) (m:Mp) (S:Nat->Prop) (w:yh) (E:yg->Bool->Prop) (k x:yg) (es:List wo) (i:Nat) (iS dA:List AV):Prop:=
 (nQ E es i none/\au ab m S w iS (es.map (·.key)++[k])/\au ab m S w dA (es.map (·.val)++[x]))\/
 ∃(j:Nat) (e0:wo) (c vk:AV),nQ E es i (some (i+j,e0.val))/\es[j]? =some e0/\(ae ab m S w vk k/\ae ab m S w c e0.key/\lJ vk c=some true)/\au ab m S w iS (es.map (·.key))/\au ab m S w dA ((es.map (·.val)).set j x)
def TK {vk vx:AV} {k x:yg} {E:yg->Bool->Prop} (hE:∀c u b,ae ab m S w c u->lJ vk c=some b->E u b) (hk:ae ab m S w vk k) (hx:ae ab m S w vx x):∀(ks vs:List AV) (es:List wo) (i:Nat) (iS dA:List AV),
  au ab m S w ks (es.map (·.key))->au ab m S w vs (es.map (·.val))->qd vk vx ks vs=some (iS,dA)->Put ab m S w E k x es i iS dA
 | [],[],es,i,iS,dA,h1,h2,h=>by
  simp only [au,tz] at h1;subst h1;simp only [qd,yb,yk] at h;obtain ⟨rfl,rfl⟩:=h;exact .inl ⟨.nil,by simp [au,hk],by simp [au,hx]⟩
 | [],_::_,es,i,iS,dA,h1,h2,h=>by simp [qd] at h
 | _::_,[],es,i,iS,dA,h1,h2,h=>by simp [qd] at h
 | c::ks,v::vs,es,i,iS,dA,h1,h2,h=>by
  cases es with
  | nil=>simp [au] at h1
  | cons e es=>
   simp only [yW,au,ui] at h1 h2;obtain ⟨u,t,⟨rfl,rfl⟩,hc,mX⟩:=h1;obtain ⟨u',t',⟨rfl,rfl⟩,hv,qP⟩:=h2;simp only [qd] at h
   cases oU:lJ vk c with
   | none=>simp [oU] at h
   | some b=>
    have hs:=hE _ _ _ hc oU
    cases b with
    | true=>
     simp only [oU,yb,yk] at h;obtain ⟨rfl,rfl⟩:=h;refine .inr ⟨0,e,c,vk,.hit hs,rfl,⟨hk,hc,oU⟩,?_,?_⟩
     ·simp only [yW,au];exact ⟨_,_,rfl,hc,mX⟩
     ·simp only [yW,List.set_cons_zero,au];exact ⟨_,_,rfl,hx,qP⟩
    | false=>
     simp only [oU] at h
     cases hm:qd vk vx ks vs with
     | none=>simp [hm] at h
     | some q=>
      obtain ⟨k1,v1⟩:=q;simp only [hm,yb,yk] at h;obtain ⟨rfl,rfl⟩:=h;rcases TK hE hk hx ks vs es (i+1) k1 v1 mX qP hm with ⟨g1,g2,g3⟩ | ⟨j,e0,c0,XX,g1,g2,g3,g4,g5⟩
      ·refine .inl ⟨.Ay hs g1,?_,?_⟩
       ·simp only [yW,xd,au];exact ⟨_,_,rfl,hc,g2⟩
       ·simp only [yW,xd,au];exact ⟨_,_,rfl,hv,g3⟩
      ·refine .inr ⟨j+1,e0,c0,XX,?_,by simpa using g2,g3,?_,?_⟩
       ·rw [show i+(j+1)=i+1+j by omega];exact .Ay hs g1
       ·simp only [yW,au];exact ⟨_,_,rfl,hc,g4⟩
       ·simp only [yW,List.set_cons_succ,au];exact ⟨_,_,rfl,hv,g5⟩
def RS:∀(n:Nat) (a b:List AV) (x y:List yg),cG (yC n 1) a b=some true->au ab m S w a x->au ab m S w b y->x=y/\(x.zip x).all (fun (p,q)=>Instr.sameBits 9999 p q)=true
 | 0,a,b,x,y,h,hx,hy=>by
  match a,b with
  | [],[]=>simp only [au] at hx hy;subst hx;subst hy;exact ⟨rfl,rfl⟩
  | [],_::_=>simp [cG] at h
  | _::_,[]=>simp [cG] at h
  | _::_,_::_=>simp [cG] at h
 | n+1,a,b,x,y,h,hx,hy=>by
  rw [List.replicate_succ] at h;unfold cG at h
  split at h
  any_goals (cases h;done)
  ·simp_all
  ·simp_all
  ·rename_i ks k p xs k' q ys mX;simp only [ui,ua] at mX;subst mX;by_cases hk:k=k'
   ·subst hk;simp only [xm] at h
    cases hr:cG (yC n 1) xs ys with
    | none=>simp [hr] at h
    | some r=>
     simp only [hr,yb,yf,uf] at h;obtain ⟨rfl,rfl⟩:=h;simp only [au] at hx hy;obtain ⟨u,us,rfl,e1,e2⟩:=hx;obtain ⟨u',Gq,rfl,XY,e2'⟩:=hy;simp only [ae] at e1 XY;subst e1;subst XY;obtain ⟨rfl,g⟩:=RS n xs ys us Gq hr e2 e2';refine ⟨rfl,?_⟩;simp only [List.zip_cons_cons,uB,g,Bool.and_true];simp [Instr.sameBits]
   ·simp [hk] at h
  ·simp_all
def adv {vk c:AV} {k u:yg} (hk:ae ab m S w vk k) (hc:ae ab m S w c u) (h:lJ vk c=some true):k=u/\Instr.sameBits 10000 k k=true:=by
 unfold lJ at h
 split at h
 ·rename_i j x j' y;simp only [ae] at hk hc;subst hk;subst hc;by_cases hj:j=j'
  ·simp only [hj,xm,yb,uf] at h;exact ⟨by rw [hj,h],by simp [Instr.sameBits]⟩
  ·simp [hj] at h
 ·simp only [ae] at hk hc;obtain ⟨s,rfl,rfl⟩:=hk;obtain ⟨s',rfl,rfl⟩:=hc;simp only [yb] at h;have h2:(s==s')=true:=by rw [LC];exact h
  have h3:(s.data==s'.data)=true:=by cases s;cases s';exact h2
  rw [uf] at h3;have e:s=s':=by cases s;cases s';simp only at h3;rw [h3]
  subst e;exact ⟨rfl,by simp [Instr.sameBits,h2]⟩
 ·simp only [ae] at hk hc;subst hk;subst hc;simp only [yb,uf] at h;exact ⟨by rw [h],by simp [Instr.sameBits]⟩
 ·rename_i a b;simp only [ae] at hk hc;obtain ⟨xs,rfl,hx⟩:=hk;obtain ⟨ys,rfl,hy⟩:=hc;obtain ⟨e,g⟩:=RS _ _ _ _ _ h hx hy;have e':xs=ys:=by cases xs;cases ys;simp only at e;rw [e]
  subst e';refine ⟨rfl,?_⟩;simp only [Instr.sameBits,ub,Bool.true_and];exact g
 ·cases h
def QZ {P:yK} {kt:yq} {kk:Nat} {vk:AV} (hk:keyOf P kt=some kk) (h:lz kk vk=true):
  (∃d,P.underlying kt=some d/\NK d=true/\fits d vk=true)\/
  ∃fs ks cs,P.underlying kt=some (.struct fs)/\fs.toList.all (fun f=>qg P f.type)=true/\P.stoodInHeld kt=false/\kinds P 20 kt=some ks/\ks.length=fs.size/\vk= .agg cs/\cs.length=fs.size:=by
 unfold keyOf at hk
 split at hk
 ·rename_i hu;simp only [yb] at hk;subst hk;refine .inl ⟨_,hu,rfl,?_⟩;cases vk<;>simp_all [lz,fits]
 ·rename_i hu;simp only [yb] at hk;subst hk;refine .inl ⟨_,hu,rfl,?_⟩;cases vk<;>simp_all [lz,fits]
 ·rename_i hu;simp only [yb] at hk;subst hk;refine .inl ⟨_,hu,rfl,?_⟩;cases vk<;>simp_all [lz,fits]
 ·rename_i fs hu
  cases hc:(fs.toList.all (fun f=>qg P f.type)&& !P.stoodInHeld kt) with
  | false=>rw [hc] at hk;cases hk
  | true=>
   rw [hc] at hk;simp only [yp] at hk;simp only [yf,wJ] at hc
   cases hs:kinds P 20 kt with
   | none=>simp [hs] at hk
   | some ks=>
    simp only [hs] at hk
    cases hl:ym ks.length fs.size with
    | false=>rw [hl] at hk;cases hk
    | true=>
     rw [hl] at hk;simp only [yp,yb] at hk;subst hk;cases vk<;>simp only [lz,Bool.false_eq_true] at h
     exact .inr ⟨fs,ks,_,hu,hc.1,hc.2,rfl,yi hl,rfl,yi h⟩
 ·cases hk
def Qo {P:yK} {n:Nat}:∀(fs:List vd) (o:Nat) (ks:List Nat),fs.all (fun f=>qg P f.type)=true->lj P (fun u=>kinds P n u) fs o=some ks->ks=yC fs.length 1
 | [],o,ks,_,h=>by simp only [lj,yb] at h;subst h;rfl
 | f::fs,o,ks,ha,h=>by
  simp only [uB,yf] at ha;simp only [lj] at h
  cases hk:kinds P n f.type with
  | none=>simp [hk] at h
  | some kf=>
   cases hz:bX P f.type with
   | none=>simp [hk,hz] at h
   | some s=>
    simp only [hk,hz] at h
    cases hc:(f.name != "_"&&ym f.offset o&&ym kf.length s&& !P.stoodInHeld f.type) with
    | false=>rw [hc] at h;cases h
    | true=>
     rw [hc] at h;simp only [yp] at h
     cases hr:lj P (fun u=>kinds P n u) fs (o+s) with
     | none=>simp [hr] at h
     | some kr=>
      simp only [hr,yb] at h;subst h;have hkf:kf=[1]:=by
       have hi:=ha.1;unfold qg at hi
       cases n with
       | zero=>simp [kinds] at hk
       | succ n=>
        unfold kinds at hk
        split at hi
        ·rename_i hu;simp only [hu,yb] at hk;exact hk.symm
        ·cases hi
      rw [hkf,Qo fs (o+s) kr ha.2 hr];rfl
def aaL {P:yK} {kt:yq} {fs:Array vd} {ks:List Nat} (hu:P.underlying kt=some (.struct fs)) (ha:fs.toList.all (fun f=>qg P f.type)=true) (hk:kinds P 20 kt=some ks):
  ks=yC fs.size 1:=by
 unfold kinds at hk;simp only [hu] at hk
 have:=Qo (n:=19) fs.toList 0 ks ha hk
 simpa using this
def aaf {P:yK} {b:Bool} {n:Nat} {t:yq} {k:IntKind} {u:yg} (hu:P.underlying t=some (.int k)):(Instr.checkKey b (n+1) t u).run P w= .ok () w:=by
 simp [Instr.checkKey,run_underlying hu]
def Qp {P:yK} {b:Bool} {q q':Nat} (hq:q=q'+1) {cs:Array yg}:∀(fs:List vd) (o n:Nat) (ks:List Nat),fs.all (fun f=>qg P f.type)=true->lj P (fun u=>kinds P n u) fs o=some ks->o+ks.length<=cs.size->
  Sem.run P (forIn fs uJ fun f _=>
      if f.name≠ "_" then do
       let x <-part f.type cs f.offset
       Instr.checkKey b q f.type x
       pure (tq uJ)
      else pure (tq uJ)) w= .ok uJ w
 | [],o,n,ks,_,h,_=>by simp
 | f::fs,o,n,ks,ha,h,hl=>by
  simp only [uB,yf] at ha;simp only [lj] at h
  cases hk:kinds P n f.type with
  | none=>simp [hk] at h
  | some kf=>
   cases hz:bX P f.type with
   | none=>simp [hk,hz] at h
   | some s=>
    simp only [hk,hz] at h
    cases hc:(f.name != "_"&&ym f.offset o&&ym kf.length s&& !P.stoodInHeld f.type) with
    | false=>rw [hc] at h;cases h
    | true=>
     rw [hc] at h;simp only [yp] at h;simp only [yf,bne_iff_ne,wJ] at hc;obtain ⟨⟨⟨hn,ho⟩,XZ⟩,aP⟩:=hc;have ho:=yi ho;have XZ:=yi XZ
     cases hr:lj P (fun u=>kinds P n u) fs (o+s) with
     | none=>simp [hr] at h
     | some kr=>
      simp only [hr,yb] at h;subst h;rw [List.length_append] at hl;have hi:=ha.1;unfold qg at hi
      split at hi
      ·rename_i kd hu;obtain ⟨ag,oV,h1⟩:=RQ hk;have Wr:cQ P f.type=some false:=by simp [cQ,hu]
       have h2:=oV;rw [Wr] at h2;injection h2 with h2
       have aO:f.offset<cs.size:=by have:=h1 h2.symm;omega
       have hp:(part f.type cs f.offset).run P w= .ok cs[f.offset] w:=by
        simp [part,HB Wr,Array.getElem?_eq_getElem aO]
       have ic:(Instr.checkKey b q f.type cs[f.offset]).run P w= .ok () w:=by
        rw [hq];exact aaf hu
       have rest:=Qp (b:=b) hq (cs:=cs) fs (o+s) n kr ha.2 hr (by omega);rw [List.forIn_cons];simp only [hn,ne_eq,ybn,xm,Sem.run_bind,hp,ic,Result.andThen_ok,Sem.run_pure];simpa only [ne_eq] using rest
      ·cases hi
def ZP {P:yK} {b:Bool} {q q':Nat} (hq:q=q'+1) {kt:yq} {fs:Array vd} {cs:Array yg} {ks:List Nat} (hu:P.underlying kt=some (.struct fs)) (ha:fs.toList.all (fun f=>qg P f.type)=true) (hk:kinds P 20 kt=some ks)
  (hl:ks.length<=cs.size):(Instr.checkKey b (q+1) kt (.agg cs)).run P w= .ok () w:=by
 unfold kinds at hk;simp only [hu] at hk;have h:=Qp (w:=w) (b:=b) hq (cs:=cs) fs.toList 0 19 ks ha hk (by omega);simp only [Instr.checkKey,Sem.run_bind,run_underlying hu,Result.andThen_ok,<-Array.forIn_toList];rw [h]
 simp
def QB {P:yK} {kt:yq} {kk:Nat} {vk:AV} {k:yg} (hk:keyOf P kt=some kk) (h:lz kk vk=true) (hr:ae ab m S w vk k) (b:Bool):(Instr.checkKey b 10000 kt k).run P w= .ok () w:=by
 rcases QZ hk h with ⟨d,h1,h2,h3⟩ | ⟨fs,ks,cs,hu,ha,aP,mX,hl,rfl,dR⟩
 ·exact ZI h1 h2 b k
 ·simp only [ae] at hr;obtain ⟨xs,rfl,hx⟩:=hr;have OX:=eZ _ _ hx;rw [Array.length_toList] at OX
  exact ZP (q:=9999) (q':=9998) rfl hu ha mX (by omega)
def Q0 {P:yK} {kt:yq} {kk:Nat} {vk:AV} {k:yg} (hk:keyOf P kt=some kk) (h:lz kk vk=true) (hr:ae ab m S w vk k):
  ∃E:yg->Bool->Prop,(∀c u b,ae ab m S w c u->lJ vk c=some b->E u b)/\∀es f,nQ E es 0 f->(Instr.findKey kt k es).run P w= .ok f w:=by
 rcases QZ hk h with ⟨d,h1,h2,h3⟩ | ⟨fs,ks,cs,hu,ha,aP,mX,hl,rfl,dR⟩
 ·refine ⟨fun u b=>Instr.sameNow d k u=some b,fun c u b hc he=>adt hr hc he h3,fun es f hf=>?_⟩;simp [Instr.findKey,run_underlying h1,afz hf]
 ·refine ⟨fun u b=>(Op.equal kt k u).run P w= .ok b w,fun c u b hc he=>?_,fun es f hf=>?_⟩
  ·cases c<;>simp only [lJ,reduceCtorEq] at he
   rename_i b8;simp only [ae] at hr hc;obtain ⟨xs,rfl,hx⟩:=hr;obtain ⟨ys,rfl,hy⟩:=hc;rw [dR,<-aaL hu ha mX] at he;have oV:cQ P kt=some true:=by simp [cQ,hu]
   rw [LY];exact IU 20 kt ks mX aP 10000 (by omega) _ _ _ _ b _ _ hx hy he (.inl ⟨oV,by simp⟩) (.inl ⟨oV,by simp⟩)
  ·simp only [ae] at hr;obtain ⟨xs,rfl,hx⟩:=hr
   cases hf with
   | nil=>simp [Instr.findKey,run_underlying hu,Instr.findNow]
   | hit g=>simp [Instr.findKey,run_underlying hu,Instr.findNow,Instr.sameNow,TJ (.hit g)]
   | Ay g g'=>simp [Instr.findKey,run_underlying hu,Instr.findNow,Instr.sameNow,TJ (.Ay g g')]
def ahJ {t kt e:yq} {kk:Nat} {ok:Bool} {hp:Hp} {ct:Nat} {vx vk v:AV} {x k zero:yg} (hh:aQ O m S w hp ct) (hu:O.P.underlying t=some (.map kt e)) (hk:keyOf O.P kt=some kk)
  (X0:lz kk vk=true)
  (hz:(zeroValue e).run O.P w= .ok zero w) (hx:ae O.ab m S w vx x) (X1:ae O.ab m S w vk k) {z:AV} (OY:ae O.ab m S w z zero)
  {r:Option AV}
  (hr:r8 hp vk vx=some r)
  (hv:(match r with | some u=>(bif ok then AV.av [u,.bool true] else u) | none=>(bif ok then AV.av [z,.bool false] else z))=v):
  ∃u,(Instr.lookup t x k ok).run O.P w= .ok u w/\ae O.ab m S w v u:=by
 have fin:∀(u:AV) (uu:yg) (b:Bool),ae O.ab m S w u uu->ae O.ab m S w (bif ok then AV.av [u,.bool b] else u) (if ok then .tuple #[uu,.bool b] else uu):=by
  intro u uu b h
  cases ok with
  | true=>simp only [yp,xm,ae,au];exact ⟨_,rfl,_,_,rfl,h,_,_,rfl,rfl,rfl⟩
  | false=>simpa using h
 have ic:=fun b:Bool=>QB (P:=O.P) (w:=w) hk X0 X1 b
 obtain ⟨E,hE,hF⟩:=Q0 (P:=O.P) hk X0 X1;have body:∀(x':yg) (es:Array wo),((x'= .map none/\es=#[])\/∃b clock,x'= .map (some b)/\w.heap[b]? =some (.map es clock))->(∃f,nQ E es.toList 0 f/\Found O.ab m S w f r)->
   ∃u,(Instr.lookup t x' k ok).run O.P w= .ok u w/\ae O.ab m S w v u:=by
  rintro x' es hl ⟨f,hf,fG⟩;have de:=hF _ _ hf
  cases r with
  | none=>
   have gl:f=none:=fG;subst gl;refine ⟨if ok then .tuple #[zero,.bool false] else zero,?_,by rw [<-hv];exact fin z zero false OY⟩
   rcases hl with ⟨rfl,rfl⟩ | ⟨b,clock,rfl,hb⟩
   ·have Ar:(Instr.findKey kt k []).run O.P w= .ok none w:=de;simp [Instr.lookup,run_underlying hu,ic,Ar,hz]
   ·simp [Instr.lookup,run_underlying hu,getObj,Sem.run,hb];rw [ic];simp [de,hz]
  | some v'=>
   obtain ⟨j,u,rfl,h2⟩:=fG;refine ⟨if ok then .tuple #[u,.bool true] else u,?_,by rw [<-hv];exact fin v' u true h2⟩
   rcases hl with ⟨rfl,rfl⟩ | ⟨b,clock,rfl,hb⟩
   ·cases hf
   ·simp [Instr.lookup,run_underlying hu,getObj,Sem.run,hb];rw [ic];simp [de]
 cases vx<;>simp only [r8,reduceCtorEq] at hr
 case iO=>
  simp only [yb] at hr;subst hr;simp only [ae] at hx;subst hx;exact body _ #[] (.inl ⟨rfl,rfl⟩) ⟨none,.nil,rfl⟩
 case map id=>
  simp only [ae] at hx;obtain ⟨p,hm,rfl⟩:=hx
  split at hr
  case h_2=>cases hr
  rename_i OW ks vs Aq;obtain ⟨p',es,clock,gk,hb,h1,h2,_⟩:=hh.obj id _ _ Aq hm;rw [hm] at gk;injection gk with gk;subst gk
  exact body _ es (.inr ⟨_,_,rfl,hb⟩) (L3 hE ks vs es.toList 0 r h1 h2 hr)
 case iP ks vs=>
  simp only [ae] at hx;obtain ⟨b,es,clock,rfl,_,_,_,hb,h1,h2⟩:=hx;exact body _ es (.inr ⟨_,_,rfl,hb⟩) (L3 hE ks vs es.toList 0 r h1 h2 hr)
end
end
section
open Go
def cP {tm:Env} {hp:Hp} {v:AV} (h:a7 tm hp bad=some v):False:=by simp [bad,a7] at h
section
variable {O:bh} {H:Hint} {m:Mp} {S:Nat->Prop} {w:yh} {tm:Env} {a:Act} {hp:Hp} {ct:Nat}
def afA {ab:Nat->Nat} {va vb v:AV} {x y:yg} (hx:ae ab m S w va x) (hy:ae ab m S w vb y) (h:VE.min2 va vb=some v):∃u,(Builtin.min2 x y).run O.P w= .ok u w/\ae ab m S w v u:=by
 unfold VE.min2 at h
 split at h
 ·simp only [ae] at hx hy;subst hx;subst hy;simp only [yb] at h;subst h;exact ⟨_,by simp only [Builtin.min2,Sem.run_pure];rfl,by simp only [ae]⟩
 ·rename_i k p k' q;subst hx;subst hy
  cases ho:k.format.order p q with
  | none=>simp [ho] at h
  | some c=>cases c<;>(simp only [ho,yb] at h;subst h;exact ⟨_,by simp only [Builtin.min2,ho,Sem.run_pure];rfl,by simp only [ae]⟩)
 ·cases h
def afB {ab:Nat->Nat} {va vb v:AV} {x y:yg} (hx:ae ab m S w va x) (hy:ae ab m S w vb y) (h:VE.max2 va vb=some v):∃u,(Builtin.max2 x y).run O.P w= .ok u w/\ae ab m S w v u:=by
 unfold VE.max2 at h
 split at h
 ·simp only [ae] at hx hy;subst hx;subst hy;simp only [yb] at h;subst h;exact ⟨_,by simp only [Builtin.max2,Sem.run_pure];rfl,by simp only [ae]⟩
 ·rename_i k p k' q;subst hx;subst hy
  cases ho:k.format.order p q with
  | none=>simp [ho] at h
  | some c=>cases c<;>(simp only [ho,yb] at h;subst h;exact ⟨_,by simp only [Builtin.max2,ho,Sem.run_pure];rfl,by simp only [ae]⟩)
 ·cases h
def Mr {ab:Nat->Nat} {f:AV->AV->Option AV} {g:yg->yg->Sem yg} (X2:∀va vb v x y,ae ab m S w va x->ae ab m S w vb y->f va vb=some v->∃u,(g x y).run O.P w= .ok u w/\ae ab m S w v u):
  ∀(l:List AV) (us:List yg) (va v:AV) (x:yg),ae ab m S w va x->au ab m S w l us->r5 f va l=some v->∃u,(us.foldlM g x).run O.P w= .ok u w/\ae ab m S w v u
 | [],us,va,v,x,hx,hl,h=>by
  simp only [au] at hl;simp only [r5,yb] at h
  simp_all
 | b::l,us,va,v,x,hx,hl,h=>by
  obtain ⟨u,r,rfl,hu,hr⟩:=hl;simp only [r5] at h
  cases hf:f va b with
  | none=>simp [hf] at h
  | some c=>
   simp only [hf] at h;obtain ⟨u1,h1,h2⟩:=X2 _ _ _ _ _ hx hu hf;obtain ⟨u2,h3,h4⟩:=Mr X2 l r c v u1 h2 hr h
   simp_all
def MQ {t:yq} {vx v:AV} {x:yg} {ty:yq} (hh:aQ O m S w hp ct) (hx:ae O.ab m S w vx x)
  {k:Nat} (hu:(k=0/\O.P.underlying t=some .string)\/(k=1/\∃e,O.P.underlying t=some (.slice e))\/(k=2/\∃kt e,O.P.underlying t=some (.map kt e)))
  (h:gF hp k vx=some v):∃u,(Builtin.len_ #[t] ty #[x]).run O.P w= .ok u w/\ae O.ab m S w v u:=by
 rcases hu with ⟨rfl,hu⟩ | ⟨rfl,e,hu⟩ | ⟨rfl,kt,e,hu⟩
 all_goals cases vx<;>simp only [gF,reduceCtorEq] at h
 case inl.str s=>
  simp only [ae] at hx;obtain ⟨b,rfl,rfl⟩:=hx;simp only [yb] at h;subst h;refine ⟨_,by simp [Builtin.len_,run_underlying hu];rfl,?_⟩
  simp only [ae,goInt]
  simp_all
 case inr.inl.af=>
  simp only [ae] at hx;subst hx;simp only [yb] at h;subst h;exact ⟨_,by simp [Builtin.len_,run_underlying hu];rfl,by simp [ae,goInt]⟩
 case inr.inl.aq ex n cs=>
  simp only [ae] at hx;rcases hx with ⟨b,o,c,rfl,_⟩ | ⟨a,rfl,rfl,rfl⟩
  all_goals
   simp only [yb] at h;subst h;exact ⟨_,by simp [Builtin.len_,run_underlying hu];rfl,by simp [ae,goInt]⟩
 case inr.inl.ay id o n=>
  simp only [ae] at hx;obtain ⟨p,c,_,rfl,_⟩:=hx;simp only [yb] at h;subst h;exact ⟨_,by simp [Builtin.len_,run_underlying hu];rfl,by simp [ae,goInt]⟩
 case inr.inr.iO=>
  simp only [ae] at hx;subst hx;simp only [yb] at h;subst h;exact ⟨_,by simp [Builtin.len_,run_underlying hu];rfl,by simp [ae,goInt]⟩
 case inr.inr.iP ks vs=>
  simp only [ae] at hx;obtain ⟨b,es,clock,rfl,_,_,_,hb,h1,_⟩:=hx;simp only [yb] at h;subst h;refine ⟨_,by simp [Builtin.len_,run_underlying hu,getObj,Sem.run,hb];rfl,?_⟩
  have:=eZ _ _ h1
  simp only [ae,goInt];rw [<-this];simp
 case inr.inr.map id=>
  simp only [ae] at hx;obtain ⟨p,hm,rfl⟩:=hx
  split at h
  case h_2=>cases h
  rename_i OW ks vs Aq;simp only [yb] at h;subst h;obtain ⟨p',es,clock,gk,hb,h1,_⟩:=hh.obj id _ _ Aq hm;rw [hm] at gk;injection gk with gk;subst gk
  refine ⟨_,by simp [Builtin.len_,run_underlying hu,getObj,Sem.run,hb];rfl,?_⟩
  have:=eZ _ _ h1
  simp only [ae,goInt];rw [<-this];simp
end
end
section
open Go
section
variable {O:bh} {H:Hint} {m:Mp} {S:Nat->Prop} {w:yh} {tm:Env} {a:Act} {hp:Hp} {ct:Nat}
def BE {t:yq} {z:AV} (h:jz O.P t=some z):∃v,(zeroValue t).run O.P w= .ok v w/\z=dP v:=by
 unfold jz at h
 cases hi:O.P.info? t with
 | none=>simp [hi] at h
 | some i=>
  simp only [hi] at h
  cases hz:i.zero with
  | none=>simp [hz] at h
  | some v=>
   simp only [hz,yb] at h;exact ⟨v,by simp [zeroValue,typeInfo,hi,hz],h.symm⟩
def Reads (O:bh) (m:Mp) (S:Nat->Prop) (w:yh) (a:Act) (o:yL) (v:AV):Prop:=
 ∃u,(execOp a.eval o).run O.P w= .ok (.value u) w/\ae O.ab m S w v u
def iI {o:yL} {v:AV} {s:Sem yg} (he:execOp a.eval o=(do pure (.value (<-s)):Sem Next)) (h:∃u,s.run O.P w= .ok u w/\ae O.ab m S w v u):Reads O m S w a o v:=by
 obtain ⟨u,h1,h2⟩:=h;exact ⟨u,by rw [he];simp [h1],h2⟩
def adw {o:yL} {op:BinOp} {t ty:yq} {x y:xe} {k:Nat} {v:AV} (hH:dZ O H) (ht:bH O m S w tm a.tmps) (ho:o.op= .binOp op t x y ty)
  (hv:a7 tm hp (aJ O.P H k o)=some v):Reads O m S w a o v:=by
 have rx:=bI hH ht x;have ry:=bI hH ht y;have guard:∀{u:yg},(∀xs ys,¬(a.eval x= .agg xs/\a.eval y= .agg ys))\/O.P.eqGuardType O.P.depth t=false->a.eval x≠.nilIface->(xF op t (a.eval x) (a.eval y)).run O.P w= .ok u w->
   (do eqGuard op t x y (a.eval x) (a.eval y);xF op t (a.eval x) (a.eval y):Sem yg).run O.P w= .ok u w:=by
  intro u h1 h2 h3
  simp only [Sem.run_bind,aaK (P:=O.P) (w:=w) (t:=t) (op:=op) (x:=x) (y:=y) (h1.symm) h2,Result.andThen_ok,h3]
 have plain:a7 tm hp (.bin op (aH H x) (aH H y))=some v->Reads O m S w a o v:=by
  intro hv;simp only [a7] at hv;obtain ⟨u,h1,h2⟩:=adq (P:=O.P) (t:=t) rx ry hv
  refine iI (s:=do eqGuard op t x y (a.eval x) (a.eval y);xF op t (a.eval x) (a.eval y)) (by simp only [execOp,ho]) ⟨u,guard (.inl ?_) ?_ h1,h2⟩
  ·rintro xs ys ⟨e1,e2⟩;rw [e1] at rx;unfold VE.binOp at hv
   split at hv
   ·rename_i h3 _;rw [h3] at rx;simp [ae] at rx
   ·rename_i h3 _;rw [h3] at rx;simp [ae] at rx
   ·rename_i h3 _;rw [h3] at rx;simp [ae] at rx
   ·rename_i h3 _;rw [h3] at rx;simp [ae] at rx
   ·cases hv
  ·intro e1;rw [e1] at rx;unfold VE.binOp at hv
   split at hv
   ·rename_i h3 _;rw [h3] at rx;simp [ae] at rx
   ·rename_i h3 _;rw [h3] at rx;simp [ae] at rx
   ·rename_i h3 _;rw [h3] at rx;simp [ae] at rx
   ·rename_i h3 _;rw [h3] at rx;simp [ae] at rx
   ·cases hv
 have other:∀(ne:Bool) (kd:VE.Kj),(op= .eql/\ne=false\/op= .neq/\ne=true)->(∀r,ib kd (ao tm (aH H x)) (ao tm (aH H y))=some r->(Op.equal t (a.eval x) (a.eval y)).run O.P w= .ok r w/\
    ((∀xs ys,¬(a.eval x= .agg xs/\a.eval y= .agg ys))\/O.P.eqGuardType O.P.depth t=false)/\a.eval x≠.nilIface/\
    ∀q:Bool,(op= .eql->xF op t (a.eval x) (a.eval y)=(do pure (.bool (<-Op.equal t (a.eval x) (a.eval y)))))/\(op= .neq->xF op t (a.eval x) (a.eval y)=(do pure (.bool (!(<-Op.equal t (a.eval x) (a.eval y)))))))->
   a7 tm hp (.eq ne kd (aH H x) (aH H y))=some v->Reads O m S w a o v:=by
  intro ne kd fk jg hv;simp only [a7] at hv
  cases he:ib kd (ao tm (aH H x)) (ao tm (aH H y)) with
  | none=>simp [he] at hv
  | some r=>
   simp only [he,yb] at hv;subst hv;obtain ⟨h1,h2,h3,h4⟩:=jg r he;obtain ⟨h5,h6⟩:=h4 true
   refine iI (s:=do eqGuard op t x y (a.eval x) (a.eval y);xF op t (a.eval x) (a.eval y)) (by simp only [execOp,ho]) ⟨.bool (ne !=r),guard h2 h3 ?_,by simp [ae]⟩
   rcases fk with ⟨rfl,rfl⟩ | ⟨rfl,rfl⟩
   ·rw [h5 rfl];simp [h1]
   ·rw [h6 rfl];simp [h1]
 have pB:O.P.underlying t=some .bool->∀r,ib .b (ao tm (aH H x)) (ao tm (aH H y))=some r->∃p q,a.eval x= .bool p/\a.eval y= .bool q/\(Op.equal t (a.eval x) (a.eval y)).run O.P w= .ok r w:=by
  intro hu r he;cases hx:ao tm (aH H x)<;>cases hy:ao tm (aH H y)<;>rw [hx,hy] at he<;>simp only [ib,reduceCtorEq] at he
  rw [hx] at rx;rw [hy] at ry;simp only [ae] at rx ry;simp only [yb] at he;refine ⟨_,_,rx,ry,?_⟩;rw [rx,ry,LY,<-he];exact ahC hu
 have pS:∀e,O.P.underlying t=some (.slice e)->∀r,ib .sl (ao tm (aH H x)) (ao tm (aH H y))=some r->∃p n c q n' c',a.eval x= .slice p n c/\a.eval y= .slice q n' c'/\(Op.equal t (a.eval x) (a.eval y)).run O.P w= .ok r w:=by
  intro e hu r he;have h1:=afw hu rx ry he;have sl:∀{v:AV} {u:yg},ae O.ab m S w v u->(v= .af\/(∃a b c,v= .aq a b c)\/∃a b c,v= .ay a b c)->∃p n c,u= .slice p n c:=by
   intro v u hr hv;rcases hv with rfl | ⟨_,_,_,rfl⟩ | ⟨_,_,_,rfl⟩
   ·simp only [ae] at hr;exact ⟨_,_,_,hr⟩
   ·simp only [ae] at hr;rcases hr with ⟨b,o,c,hr,_⟩ | ⟨_,hr,_⟩<;>exact ⟨_,_,_,hr⟩
   ·simp only [ae] at hr;obtain ⟨b,c,_,hr,_⟩:=hr;exact ⟨_,_,_,hr⟩
  have cZ:(ao tm (aH H x)= .af\/(∃a b c,ao tm (aH H x)= .aq a b c)\/∃a b c,ao tm (aH H x)= .ay a b c)/\
    (ao tm (aH H y)= .af\/(∃a b c,ao tm (aH H y)= .aq a b c)\/∃a b c,ao tm (aH H y)= .ay a b c):=by
   cases hx:ao tm (aH H x)<;>cases hy:ao tm (aH H y)<;>rw [hx,hy] at he<;>simp [ib] at he ⊢
  obtain ⟨p,n,c,e1⟩:=sl rx cZ.1;obtain ⟨q,n',c',e2⟩:=sl ry cZ.2;exact ⟨p,n,c,q,n',c',e1,e2,h1⟩
 have pF:∀ps rs vr,O.P.underlying t=some (.func ps rs vr)->∀r,ib .fn (ao tm (aH H x)) (ao tm (aH H y))=some r->
   ((a.eval x= .nilFunc\/∃f p q,a.eval x= .func f p q)/\(a.eval y= .nilFunc\/∃f p q,a.eval y= .func f p q))/\(Op.equal t (a.eval x) (a.eval y)).run O.P w= .ok r w:=by
  intro ps rs vr hu r he;have h1:=afx hu rx ry he;have sl:∀{v:AV} {u:yg},ae O.ab m S w v u->(v= .gK\/(∃a b c,v= .fn a b c))->(u= .nilFunc\/∃f p q,u= .func f p q):=by
   intro v u hr hv;rcases hv with rfl | ⟨f,_,_,rfl⟩
   ·simp only [ae] at hr;exact .inl hr
   ·cases f with
    | f g=>simp only [ae] at hr;obtain ⟨b,c,hr,_⟩:=hr;exact .inr ⟨_,_,_,hr⟩
    | y l=>simp only [ae] at hr;obtain ⟨b,_,hr⟩:=hr;exact .inr ⟨_,_,_,hr⟩
  have cZ:(ao tm (aH H x)= .gK\/(∃a b c,ao tm (aH H x)= .fn a b c))/\(ao tm (aH H y)= .gK\/(∃a b c,ao tm (aH H y)= .fn a b c)):=by
   cases hx:ao tm (aH H x)<;>cases hy:ao tm (aH H y)<;>rw [hx,hy] at he<;>simp [ib] at he ⊢
  exact ⟨⟨sl rx cZ.1,sl ry cZ.2⟩,h1⟩
 have pA:∀ks,kinds O.P 20 t=some ks->cQ O.P t=some true->O.P.stoodInHeld t=false->∀r,ib (.ag ks) (ao tm (aH H x)) (ao tm (aH H y))=some r->∃p q,a.eval x= .agg p/\a.eval y= .agg q/\(Op.equal t (a.eval x) (a.eval y)).run O.P w= .ok r w:=by
  intro ks hk ha aP r he;cases hx:ao tm (aH H x)<;>cases hy:ao tm (aH H y)<;>rw [hx,hy] at he<;>simp only [ib,reduceCtorEq] at he
  rw [hx] at rx;rw [hy] at ry;simp only [ae] at rx ry;obtain ⟨p,e1,h1⟩:=rx;obtain ⟨q,e2,h2⟩:=ry;refine ⟨p,q,e1,e2,?_⟩;rw [e1,e2,LY];exact IU 20 t ks hk aP 10000 (by omega) _ _ _ _ r _ _ h1 h2 he (.inl ⟨ha,by simp⟩) (.inl ⟨ha,by simp⟩)
 have eqs:∀(ne:Bool),(op= .eql/\ne=false\/op= .neq/\ne=true)->a7 tm hp (kF O.P H ne op t x y)=some v->Reads O m S w a o v:=by
  intro ne fk hv;have agg:cQ O.P t=some true->a7 tm hp (lB O.P H ne t x y)=some v->Reads O m S w a o v:=by
   intro ha hv;unfold lB at hv
   cases hk:kinds O.P 20 t with
   | none=>rw [hk] at hv;exact (cP hv).elim
   | some ks=>
    simp only [hk] at hv
    cases hc:(O.P.stoodInHeld t||O.P.eqGuardType O.P.depth t) with
    | true=>rw [hc] at hv;exact (cP hv).elim
    | false=>
     rw [hc] at hv;simp only [yI] at hv;simp only [Bool.or_eq_false_iff] at hc;refine other ne (.ag ks) fk (fun r hr=>?_) hv;obtain ⟨p,q,e1,e2,h1⟩:=pA ks hk ha hc.1 r hr;refine ⟨h1,.inr hc.2,by rw [e1];simp,fun _=>?_⟩
     rw [e1,e2];exact ⟨fun e=>by subst e;rfl,fun e=>by subst e;rfl⟩
  unfold kF at hv
  split at hv
  ·exact plain hv
  ·exact plain hv
  ·exact plain hv
  ·exact plain hv
  ·rename_i hu;refine other ne .b fk (fun r hr=>?_) hv;obtain ⟨p,q,e1,e2,h1⟩:=pB hu r hr;refine ⟨h1,.inl (by rw [e1];simp),by rw [e1];simp,fun _=>?_⟩
   rw [e1,e2];exact ⟨fun e=>by subst e;rfl,fun e=>by subst e;rfl⟩
  ·rename_i e hu;refine other ne .sl fk (fun r hr=>?_) hv;obtain ⟨p,n,c,q,n',c',e1,e2,h1⟩:=pS e hu r hr;refine ⟨h1,.inl (by rw [e1];simp),by rw [e1];simp,fun _=>?_⟩
   rw [e1,e2];exact ⟨fun e=>by subst e;rfl,fun e=>by subst e;rfl⟩
  ·rename_i ps rs vr hu;refine other ne .fn fk (fun r hr=>?_) hv;obtain ⟨⟨e1,e2⟩,h1⟩:=pF ps rs vr hu r hr;refine ⟨h1,.inl ?_,?_,fun _=>?_⟩
   ·rcases e1 with e1 | ⟨_,_,_,e1⟩<;>rw [e1]<;>simp
   ·rcases e1 with e1 | ⟨_,_,_,e1⟩<;>rw [e1]<;>simp
   ·rcases e1 with e1 | ⟨_,_,_,e1⟩<;>rcases e2 with e2 | ⟨_,_,_,e2⟩<;>rw [e1,e2]<;>exact ⟨fun e=>by subst e;rfl,fun e=>by subst e;rfl⟩
  ·rename_i fs hu;exact agg (by simp [cQ,hu]) hv
  ·rename_i k0 e hu;exact agg (by simp [cQ,hu]) hv
  ·exact (cP hv).elim
 cases op
 case eql=>exact eqs false (.inl ⟨rfl,rfl⟩) (by simpa only [aJ,ho] using hv)
 case neq=>exact eqs true (.inr ⟨rfl,rfl⟩) (by simpa only [aJ,ho] using hv)
 all_goals exact plain (by simpa only [aJ,ho] using hv)
end
end
section
open Go
section
variable {O:bh} {H:Hint} {m:Mp} {S:Nat->Prop} {w:yh} {tm:Env} {a:Act} {hp:Hp} {ct:Nat}
def pz {o:yL} {b:Builtin} {args:Array xe} {ts:Array yq} (ho:o.op= .call {callee:= .builtin b,args:=args,argTypes:=ts}):
  ∃cs,(execOp a.eval o).run O.P w=(builtin b ts o.type cs (args.map a.eval)).run O.P w:=by
 exact ⟨_,by simp only [execOp,ho,resolve,Sem.run_bind,Sem.run_pure,Result.andThen_ok,invoke];rfl⟩
def abE {o:yL} {c:Call} {k:Nat} {v:AV} (hH:dZ O H) (ht:bH O m S w tm a.tmps) (hh:aQ O m S w hp ct) (ho:o.op= .call c)
  (hv:a7 tm hp (aJ O.P H k o)=some v):Reads O m S w a o v:=by
 obtain ⟨callee,args,ts⟩:=c;simp only [aJ,ho] at hv
 split at hv
 ·cases Gv:H.mode k<;>simp [Gv,a7] at hv
 ·rename_i _ b
  split at hv
  ·have key:∀{bb:Bool} {sz by':Nat} {x y:X},a7 tm hp (bif bb then .cD sz by' x y else bad)=some v->False:=by
    intro bb sz by' x y h
    cases bb
    ·exact cP h
    ·simp [a7] at h
   split at hv
   ·split at hv
    ·exact (key hv).elim
    ·exact (cP hv).elim
   ·split at hv
    ·exact (key hv).elim
    ·exact (cP hv).elim
   ·exact (cP hv).elim
  ·rename_i x t dF kq;obtain ⟨al⟩:=args;obtain ⟨tl⟩:=ts;simp only at dF kq;subst dF;subst kq;obtain ⟨cs,de⟩:=pz (O:=O) (w:=w) (a:=a) ho;have fin:(∃u,(Builtin.len_ #[t] o.type #[a.eval x]).run O.P w= .ok u w/\ae O.ab m S w v u)->Reads O m S w a o v:=by
    rintro ⟨u,h1,h2⟩;refine ⟨u,?_,h2⟩;rw [de];simp [builtin,h1]
   split at hv
   ·rename_i n e hu;simp only [a7,ao,yb] at hv;subst hv;exact fin ⟨_,by simp [Builtin.len_,run_underlying hu];rfl,by simp [ae,goInt]⟩
   ·rename_i hu;simp only [a7] at hv;exact fin (MQ hh (bI hH ht x) (.inl ⟨rfl,hu⟩) hv)
   ·rename_i e hu;simp only [a7] at hv;exact fin (MQ hh (bI hH ht x) (.inr (.inl ⟨rfl,e,hu⟩)) hv)
   ·rename_i kt e hu;simp only [a7] at hv;exact fin (MQ hh (bI hH ht x) (.inr (.inr ⟨rfl,kt,e,hu⟩)) hv)
   ·exact (cP hv).elim
  ·split at hv
   ·split at hv
    ·simp [a7] at hv
    ·exact (cP hv).elim
   ·exact (cP hv).elim
  ·simp only [a7] at hv;obtain ⟨cs,de⟩:=pz (O:=O) (w:=w) (a:=a) ho;have hl:=zW hH ht args.toList
   cases hx:cX tm (fC H args.toList) with
   | nil=>simp [hx] at hv
   | cons c r=>
    simp only [hx] at hv;rw [hx] at hl;simp only [au] at hl;obtain ⟨u,us,h1,h2,h3⟩:=hl;obtain ⟨q,h4,h5⟩:=Mr (O:=O) (g:=Builtin.min2) (fun va vb v x y hx hy h=>afA hx hy h) r us c v u h2 h3 hv;refine ⟨q,?_,h5⟩;rw [de];simp [builtin,Builtin.min_,h1,h4]
  ·simp only [a7] at hv;obtain ⟨cs,de⟩:=pz (O:=O) (w:=w) (a:=a) ho;have hl:=zW hH ht args.toList
   cases hx:cX tm (fC H args.toList) with
   | nil=>simp [hx] at hv
   | cons c r=>
    simp only [hx] at hv;rw [hx] at hl;simp only [au] at hl;obtain ⟨u,us,h1,h2,h3⟩:=hl;obtain ⟨q,h4,h5⟩:=Mr (O:=O) (g:=Builtin.max2) (fun va vb v x y hx hy h=>afB hx hy h) r us c v u h2 h3 hv;refine ⟨q,?_,h5⟩;rw [de];simp [builtin,Builtin.max_,h1,h4]
  ·rename_i X3 x dF;obtain ⟨al⟩:=args;simp only at dF;subst dF;obtain ⟨cs,de⟩:=pz (O:=O) (w:=w) (a:=a) ho;simp only [a7] at hv;have rx:=bI hH ht x;cases hx:ao tm (aH H x)<;>rw [hx] at hv rx<;>simp only [kL,reduceCtorEq,yb] at hv
   rename_i k0 p0 q0;subst hv;simp only [ae] at rx;have e1:(#[x]:Array xe).map a.eval=#[Value.complex k0 p0 q0]:=by simp [rx]
   have e2:Builtin.real_ ts o.type #[Value.complex k0 p0 q0]=pure (.float k0 p0):=rfl;exact ⟨.float k0 p0,by rw [de,e1];simp [builtin,e2],by simp [ae]⟩
  ·rename_i X3 x dF;obtain ⟨al⟩:=args;simp only at dF;subst dF;obtain ⟨cs,de⟩:=pz (O:=O) (w:=w) (a:=a) ho;simp only [a7] at hv;have rx:=bI hH ht x;cases hx:ao tm (aH H x)<;>rw [hx] at hv rx<;>simp only [kL,reduceCtorEq,yb] at hv
   rename_i k0 p0 q0;subst hv;simp only [ae] at rx;have e1:(#[x]:Array xe).map a.eval=#[Value.complex k0 p0 q0]:=by simp [rx]
   have e2:Builtin.imag_ ts o.type #[Value.complex k0 p0 q0]=pure (.float k0 q0):=rfl;exact ⟨.float k0 q0,by rw [de,e1];simp [builtin,e2],by simp [ae]⟩
  ·rename_i X3 x y dF;obtain ⟨al⟩:=args;simp only at dF;subst dF;obtain ⟨cs,de⟩:=pz (O:=O) (w:=w) (a:=a) ho;simp only [a7] at hv;have rx:=bI hH ht x;have ry:=bI hH ht y;cases hx:ao tm (aH H x)<;>cases hy:ao tm (aH H y)<;>rw [hx] at hv rx<;>rw [hy] at hv ry<;>simp only [U8,reduceCtorEq] at hv
   rename_i k1 a1 k2 b1;simp only [ae] at rx ry;by_cases hk:k1=k2
   ·subst hk;simp only [xm,yb] at hv;subst hv;have e1:(#[x,y]:Array xe).map a.eval=#[Value.float k1 a1,Value.float k1 b1]:=by simp [rx,ry]
    have e2:Builtin.complex_ ts o.type #[Value.float k1 a1,Value.float k1 b1]=pure (.complex k1 a1 b1):=by
     show (if k1=k1 then _ else _)=_
     simp
    exact ⟨.complex k1 a1 b1,by rw [de,e1];simp [builtin,e2],by simp [ae]⟩
   ·simp [hk] at hv
  ·exact (cP hv).elim
 ·exact (cP hv).elim
def TL {o:yL} {k:Nat} {v:AV} (hH:dZ O H) (ht:bH O m S w tm a.tmps) (hh:aQ O m S w hp ct)
  (hv:a7 tm hp (aJ O.P H k o)=some v):Reads O m S w a o v:=by
 cases ho:o.op with
 | call c=>exact abE hH ht hh ho hv
 | binOp op t x y ty=>exact adw hH ht ho hv
 | move x=>
  simp only [aJ,ho,a7,yb] at hv;subst hv;exact ⟨_,by simp only [execOp,ho,Sem.run_pure],bI hH ht x⟩
 | assign x=>
  simp only [aJ,ho,a7,yb] at hv;subst hv;exact ⟨_,by simp only [execOp,ho,Sem.run_pure],bI hH ht x⟩
 | pick c x y=>
  simp only [aJ,ho,a7] at hv;have rc:=bI hH ht c;cases hc:ao tm (aH H c)<;>rw [hc] at hv<;>simp only [reduceCtorEq] at hv
  rename_i b;rw [hc] at rc;simp only [ae] at rc;simp only [yb] at hv;subst hv
  cases b with
  | true=>exact ⟨a.eval x,by simp [execOp,ho,rc,asBool],bI hH ht x⟩
  | false=>exact ⟨a.eval y,by simp [execOp,ho,rc,asBool],bI hH ht y⟩
 | load t x=>
  simp only [aJ,ho] at hv
  split at hv
  ·rename_i s ag hz ha;simp only [a7] at hv;exact iI (by simp only [execOp,ho]) (akM hh hz ha (bI hH ht x) hv)
  ·exact (cP hv).elim
 | fieldAddr t x i=>
  simp only [aJ,ho] at hv
  split at hv
  ·rename_i fs hu
   split at hv
   ·rename_i f hf
    split at hv
    ·rename_i s hz;simp only [a7] at hv;exact iI (by simp only [execOp,ho]) (ahD hu hf hz (bI hH ht x) hv)
    ·exact (cP hv).elim
   ·exact (cP hv).elim
  ·exact (cP hv).elim
 | field t x i=>
  simp only [aJ,ho] at hv
  split at hv
  ·rename_i fs hu
   split at hv
   ·rename_i f hf
    split at hv
    ·rename_i s ag hz ha;simp only [a7] at hv;exact iI (by simp only [execOp,ho]) (ahE hu hf hz ha (bI hH ht x) hv)
    ·exact (cP hv).elim
   ·exact (cP hv).elim
  ·exact (cP hv).elim
 | nilCheck x=>
  simp only [aJ,ho,a7] at hv;have rx:=bI hH ht x;cases hx:ao tm (aH H x)<;>rw [hx] at hv rx<;>simp only [reduceCtorEq,yb] at hv
  ·subst hv;have r':=rx;simp only [ae] at r';obtain ⟨p,_,e⟩:=r';exact ⟨a.eval x,by simp only [execOp,ho,e,Sem.run_pure],rx⟩
  ·subst hv;have r':=rx;simp only [ae] at r';obtain ⟨b,o',e,_⟩:=r';exact ⟨a.eval x,by simp only [execOp,ho,e,Sem.run_pure],rx⟩
  ·subst hv;rename_i f _ _
   cases f with
   | f g=>
    have r':=rx;simp only [ae] at r';obtain ⟨fi,ca,e,_⟩:=r';exact ⟨a.eval x,by simp only [execOp,ho,e,Sem.run_pure],rx⟩
   | y l=>
    have r':=rx;simp only [ae] at r';obtain ⟨p,_,e⟩:=r';exact ⟨a.eval x,by simp only [execOp,ho,e,Sem.run_pure],rx⟩
 | unOp op t x=>
  simp only [aJ,ho,a7] at hv;exact iI (by simp only [execOp,ho]) (afy (bI hH ht x) hv)
 | convert s d x=>
  simp only [aJ,ho] at hv
  split at hv
  ·rename_i k1 k2 hs hd;simp only [a7] at hv;exact iI (by simp only [execOp,ho]) (SF hd (.inl ⟨_,hs⟩) (bI hH ht x) hv)
  ·rename_i k1 k2 hs hd;simp only [a7] at hv;exact iI (by simp only [execOp,ho]) (SF hd (.inr ⟨_,hs⟩) (bI hH ht x) hv)
  ·rename_i k1 k2 hs hd;simp only [a7] at hv;exact iI (by simp only [execOp,ho]) (SG hd (.inl ⟨_,hs⟩) (bI hH ht x) hv)
  ·rename_i k1 k2 hs hd;simp only [a7] at hv;exact iI (by simp only [execOp,ho]) (SG hd (.inr ⟨_,hs⟩) (bI hH ht x) hv)
  ·rename_i hs hd;simp only [a7] at hv;exact iI (by simp only [execOp,ho]) (adr hd hs (bI hH ht x) hv)
  ·exact (cP hv).elim
 | makeFunc fn first cap=>
  cases fn with
  | func f=>
   simp only [aJ,ho] at hv
   split at hv
   ·rename_i g hg;simp only [a7,yb] at hv;subst hv;refine ⟨.func (.func f) (first.map a.eval) (cap.map a.eval),by simp [execOp,ho,Instr.makeFunc],?_⟩;simp only [ae];exact ⟨_,_,by rw [hH f g hg],by simpa using zW hH ht first.toList,by simpa using zW hH ht cap.toList⟩
   ·exact (cP hv).elim
  | _=>simp only [aJ,ho] at hv;exact (cP hv).elim
 | slice t x lo hi mx=>
  cases mx with
  | some q=>simp only [aJ,ho] at hv;exact (cP hv).elim
  | none=>
   simp only [aJ,ho] at hv
   split at hv
   ·rename_i hu;simp only [a7] at hv;exact iI (by simp only [execOp,ho];rfl) (abD hH ht hu (bI hH ht x) hv)
   ·rename_i e hu
    split at hv
    ·rename_i s hz;simp only [a7] at hv;exact iI (by simp only [execOp,ho];rfl) (ads hH ht hu hz hh (bI hH ht x) hv)
    ·exact (cP hv).elim
   ·split at hv
    ·simp only [a7] at hv;cases hx:ao tm (aH H x)<;>rw [hx] at hv<;>simp [eB] at hv
    ·exact (cP hv).elim
   ·exact (cP hv).elim
 | indexAddr t x i=>
  simp only [aJ,ho] at hv
  split at hv
  ·rename_i e hu
   split at hv
   ·rename_i s hz;simp only [a7] at hv
    cases hk:db (ao tm (aH H i)) with
    | none=>simp [hk] at hv
    | some j=>
     simp only [hk] at hv;exact iI (by simp only [execOp,ho]) (ahF hu hz (bI hH ht x) (bI hH ht i) hk hv)
   ·exact (cP hv).elim
  ·rename_i n e hu
   split at hv
   ·rename_i s hz;simp only [a7] at hv
    cases hk:db (ao tm (aH H i)) with
    | none=>simp [hk] at hv
    | some j=>
     simp only [hk] at hv;exact iI (by simp only [execOp,ho]) (ahG hu hz (bI hH ht x) (bI hH ht i) hk hv)
   ·exact (cP hv).elim
  ·exact (cP hv).elim
 | index t x i=>
  simp only [aJ,ho] at hv
  split at hv
  ·rename_i hu;simp only [a7] at hv
   cases hk:db (ao tm (aH H i)) with
   | none=>simp [hk] at hv
   | some j=>
    simp only [hk] at hv;exact iI (by simp only [execOp,ho]) (ahI hu (bI hH ht x) (bI hH ht i) hk hv)
  ·rename_i n e hu
   split at hv
   ·rename_i s ag hz ha;simp only [a7] at hv
    cases hk:db (ao tm (aH H i)) with
    | none=>simp [hk] at hv
    | some j=>
     simp only [hk] at hv;exact iI (by simp only [execOp,ho]) (ahH hu hz ha (bI hH ht x) (bI hH ht i) hk hv)
   ·exact (cP hv).elim
  ·exact (cP hv).elim
 | lookup t x i ok=>
  simp only [aJ,ho] at hv
  split at hv
  ·rename_i kt e hu
   split at hv
   ·rename_i kk z nR hz;simp only [a7] at hv
    cases hf:lz kk (ao tm (aH H i)) with
    | false=>simp [hf] at hv
    | true=>
     simp only [hf,yp] at hv;obtain ⟨zv,ku,rfl⟩:=BE (w:=w) hz
     cases hr:r8 hp (ao tm (aH H i)) (ao tm (aH H x)) with
     | none=>simp [hr] at hv
     | some r=>
      refine iI (by simp only [execOp,ho]) (ahJ (ok:=ok) (r:=r) (z:=dP zv) hh hu nR hf ku (bI hH ht x) (bI hH ht i) (Iw zv) hr ?_);cases r<;>simpa [hr] using hv
   ·exact (cP hv).elim
  ·exact (cP hv).elim
 | extract x i=>
  simp only [aJ,ho,a7] at hv;have rx:=bI hH ht x;cases hx:ao tm (aH H x)<;>rw [hx] at hv rx<;>simp only [reduceCtorEq] at hv
  simp only [ae] at rx;obtain ⟨xs,e,hr⟩:=rx;obtain ⟨u,h1,h2⟩:=L2 hr hv;refine ⟨u,?_,h2⟩;have OZ:xs[i]? =some u:=by simpa using h1
  simp [execOp,ho,e,Instr.extract,OZ]
 | build t parts=>
  simp only [aJ,ho] at hv
  split at hv
  ·rename_i fs z hu hz
   split at hv
   ·rename_i pl amf;have kS:=run_places (P:=O.P) w fs.toList pl amf
    split at hv
    case h_2=>exact (cP hv).elim
    rename_i ps fR;simp only [a7] at hv
    cases hf:fill tm z ps with
    | none=>simp [hf] at hv
    | some cs=>
     simp only [hf,yb] at hv;subst hv;obtain ⟨zv,ku,gP⟩:=BE (w:=w) hz;have qQ:au O.ab m S w z zv.cells.toList:=by
      have:=zG (ab:=O.ab) (m:=m) (S:=S) (w:=w) zv
      rw [<-gP] at this;exact this
     obtain ⟨out,h1,h2⟩:=Iy hH ht (place:=fun i=>pl[i]?) parts.toList ps z cs zv.cells fR qQ hf;refine ⟨.agg out,?_,by simp only [ae];exact ⟨out,rfl,h2⟩⟩
     have hm:(Array.mapM (fun f=>Functor.map (Prod.mk f.offset) (vD f.type)) fs:Sem (Array (Nat×Nat))).run O.P w= .ok pl.toArray w:=by
      rw [Array.mapM_eq_mapM_toList];simp [kS]
     simp [execOp,ho,Instr.build,ku,run_underlying hu,hm,h1]
   ·exact (cP hv).elim
  ·rename_i n e z hu hz
   split at hv
   ·rename_i s hs
    split at hv
    ·rename_i ps fR;simp only [a7] at hv
     cases hf:fill tm z ps with
     | none=>simp [hf] at hv
     | some cs=>
      simp only [hf,yb] at hv;subst hv;obtain ⟨zv,ku,gP⟩:=BE (w:=w) hz;have qQ:au O.ab m S w z zv.cells.toList:=by
       have:=zG (ab:=O.ab) (m:=m) (S:=S) (w:=w) zv
       rw [<-gP] at this;exact this
      obtain ⟨out,h1,h2⟩:=Iy hH ht (place:=fun i=>some (i*s,s)) parts.toList ps z cs zv.cells fR qQ hf;refine ⟨.agg out,?_,by simp only [ae];exact ⟨out,rfl,h2⟩⟩
      simp [execOp,ho,Instr.build,ku,run_underlying hu,li hs,h1]
    ·exact (cP hv).elim
   ·exact (cP hv).elim
  ·exact (cP hv).elim
 | alloc t=>simp only [aJ,ho] at hv;split at hv<;>simp [a7,bad] at hv
 | box t x=>simp only [aJ,ho] at hv;split at hv<;>simp [a7,bad] at hv
 | buildSlice t n parts=>
  simp only [aJ,ho] at hv
  split at hv
  ·split at hv
   ·rename_i s z _ _
    cases hc:yx (n*s) 16777216 with
    | false=>rw [hc] at hv;exact (cP hv).elim
    | true=>
     rw [hc] at hv;simp only [yp] at hv
     split at hv
     ·simp [a7] at hv
     ·exact (cP hv).elim
   ·exact (cP hv).elim
  ·exact (cP hv).elim
 | makeMap t r=>
  cases r<;>simp only [aJ,ho] at hv
  ·repeat' split at hv
   all_goals simp [a7,bad] at hv
  ·exact (cP hv).elim
 | makeSlice t l c=>
  simp only [aJ,ho] at hv
  repeat' split at hv
  all_goals simp [a7,bad] at hv
 | insert t x k y=>
  simp only [aJ,ho] at hv
  repeat' split at hv
  all_goals simp [a7,bad] at hv
 | mapUpdate t x k y=>
  simp only [aJ,ho] at hv
  repeat' split at hv
  all_goals simp [a7,bad] at hv
 | store t x y=>simp only [aJ,ho] at hv;split at hv<;>simp [a7,bad] at hv
 | range t x=>simp only [aJ,ho] at hv;split at hv<;>simp [a7,bad] at hv
 | next x b=>cases b<;>simp [aJ,ho,a7,bad] at hv
 | _=>simp [aJ,ho,a7,bad] at hv
end
end
section
open Go
def ew (m:Mp) (id:Nat) (p:Pl):Mp:=fun i=>if i=id then some p else m i
def cV {m:Mp} {id:Nat} {p:Pl}:ew m id p id=some p:=by simp [ew]
def dD {m:Mp} {id i:Nat} {p:Pl} (h:i≠id):ew m id p i=m i:=by simp [ew,h]
section
variable {O:bh} {m:Mp} {S:Nat->Prop} {w:yh} {hp:Hp} {ct:Nat}
def cJ (m m':Mp):Prop:=∀id p,m id=some p->m' id=some p
def cJ.refl {m:Mp}:cJ m m:=fun _ _ h=>h
def cJ.trans {m m' Gt:Mp} (h:cJ m m') (k:cJ m' Gt):cJ m Gt:=fun id p hp=>k id p (h id p hp)
def gB {i:Nat} (h:m i=none) {p:Pl}:cJ m (ew m i p):=by
 intro id q hq;rw [dD]
 ·grind
 ·grind
def rB {tm:Env} {tmps:Array yg} {m':Mp} {S':Nat->Prop} {w':yh} (hm:∀id p,m id=some p->m' id=some p) (hS:∀b,S b->S' b) (hw:eF S w w')
  (h:bH O m S w tm tmps):bH O m' S' w' tm tmps:=fun i=>jr hm hS hw _ _ (h i)
def alloc_old {o:Go.Obj} {b:Nat} (hb:b<w.heap.size):(w.alloc o).heap[b]? =w.heap[b]? :=RowKit.Below.heap_alloc w o b hb
def n7 {m':Mp} {S':Nat->Prop} {w':yh} {id:Nat} {o:Obj} (hm:∀id p,m id=some p->m' id=some p) (hS:∀b,S b->S' b) (hw:eF S w w') (hb:∀p,m id=some p->w'.heap[p.b]? =w.heap[p.b]?)
  (hn:∀p,m id=some p->S' p.b->S p.b) (h:dX O m S w id o):dX O m' S' w' id o:=by
 have rowAt:∀(cs:List AV) (b k:Nat),w'.heap[b]? =w.heap[b]? ->bF O.ab m S w cs b k->bF O.ab m' S' w' cs b k:=by
  intro cs
  induction cs with
  | nil=>intro b k _ _;simp only [bF]
  | cons c cs ih=>
   intro b k oW hr;obtain ⟨⟨u,h1,h2⟩,h3⟩:=hr;exact ⟨⟨u,(Ht oW).trans h1,jr hm hS hw _ _ h2⟩,ih b (k+1) oW h3⟩
 cases o with
 | cells rw pu ex sz cs=>
  obtain ⟨p,arr,t,h1,h2,h3,h4,h5,h6,h7,h8,h9,fH⟩:=h;exact ⟨p,arr,t,hm _ _ h1,(hb p h1).trans h2,h3,h4,h5,h6,rowAt cs p.b p.o (hb p h1) h7,h8,fun hr hs=>h9 hr (hn p h1 hs),fun hr=>hS _ (fH hr)⟩
 | mp rw ks vs=>
  obtain ⟨p,es,clock,h1,h2,h3,h4,h5,h6⟩:=h;exact ⟨p,es,clock,hm _ _ h1,(hb p h1).trans h2,fu hm hS hw _ _ h3,fu hm hS hw _ _ h4,fun hr hs=>h5 hr (hn p h1 hs),fun hr=>hS _ (h6 hr)⟩
 | si s pos=>
  obtain ⟨p,t,h1,h2,h3,h4⟩:=h;exact ⟨p,t,hm _ _ h1,(hb p h1).trans h2,h3,fun hs=>h4 (hn p h1 hs)⟩
 | lp tm ps cf body st pe=>
  obtain ⟨p,l,hi,h1,h2,h3,h4,h5,h6,h7,h8⟩:=h;exact ⟨p,l,hi,hm _ _ h1,(hb p h1).trans h2,fun hs=>h3 (hn p h1 hs),h4,h5,h6,rB hm hS hw h7,h8⟩
def ep {id i:Nat} {o:Obj}:ap ((id,o)::hp) i=if id=i then some o else ap hp i:=by
 simp only [ap]
 simp_all
def D8 (hh:aQ O m S w hp ct) (g:Go.Obj):eF S w (w.alloc g):=fun b hb=>alloc_old (hh.slt b hb)
def gm:Obj->Obj->Prop
 | .cells rw pu ex sz cs,o'=>∃ef,o'= .cells ef pu ex sz cs/\(ef=true->rw=true)
 | .mp rw ks vs,o'=>∃ef,o'= .mp ef ks vs/\(ef=true->rw=true)
 | .si s pos,o'=>o'= .si s pos
 | .lp tm ps cf body st pe,o'=>o'= .lp tm ps cf body st pe
def gm.refl:∀o,gm o o
 | .cells rw _ _ _ _=>⟨rw,rfl,fun h=>h⟩
 | .mp rw _ _=>⟨rw,rfl,fun h=>h⟩
 | .si _ _=>rfl
 | .lp _ _ _ _ _ _=>rfl
def gm.trans {a b c:Obj} (h:gm a b) (k:gm b c):gm a c:=by
 cases a with
 | cells rw pu ex sz cs=>
  obtain ⟨r1,rfl,h1⟩:=h;obtain ⟨r2,rfl,h2⟩:=k;exact ⟨r2,rfl,fun h=>h1 (h2 h)⟩
 | mp rw ks vs=>
  obtain ⟨r1,rfl,h1⟩:=h;obtain ⟨r2,rfl,h2⟩:=k;exact ⟨r2,rfl,fun h=>h1 (h2 h)⟩
 | si s pos=>simp only [gm] at h;subst h;exact k
 | lp tm ps cf body st pe=>simp only [gm] at h;subst h;exact k
def cy (hp an:Hp):Prop:=∀id o,ap hp id=some o->∃o',ap an id=some o'/\gm o o'
def cy.refl {hp:Hp}:cy hp hp:=fun _ o h=>⟨o,h,gm.refl o⟩
def cy.trans {a b c:Hp} (h:cy a b) (k:cy b c):cy a c:=fun id o ho=>
 let ⟨o1,h1,l1⟩:=h id o ho
 let ⟨o2,h2,l2⟩:=k id o1 h1
 ⟨o2,h2,l1.trans l2⟩
def fV:Obj->Prop
 | .cells rw _ _ _ _=>rw=false
 | .mp rw _ _=>rw=false
 | _=>False
def TM {an:Hp} {aT:Nat} (hh:aQ O m S w hp ct) (hl:cy hp an) (hd:∀id o p,ap an id=some o->m id=some p->∃o',ap hp id=some o') (eU:ct<=aT) (amg:∀id o,ap an id=some o->id<aT):
  ∃S',aQ O m S' w an aT/\(∀b,S b->S' b)/\∀b,S' b->S b\/dB m hp b:=by
 refine ⟨fun b=>S b\/∃id p o,m id=some p/\p.b=b/\ap an id=some o/\fV o,?_,fun b h=> .inl h,?_⟩
 ·refine ⟨?_,fun id p h=>Nat.lt_of_lt_of_le (hh.lt id p h) eU,?_,?_,hh.blt,hh.low,hh.jF,hh.eK,amg⟩
  ·intro id o' p gi hm;obtain ⟨o,ho⟩:=hd id o' p gi hm;obtain ⟨O0,h1,h2⟩:=hl id o ho;rw [gi] at h1;injection h1 with h1
   subst h1;have h3:=hh.obj id o p ho hm;have hS:∀b,S b->(S b\/∃id p o,m id=some p/\p.b=b/\ap an id=some o/\fV o):=fun b h=> .inl h
   have lY:∀q,m id=some q->(∃id p o,m id=some p/\p.b=q.b/\ap an id=some o/\fV o)->fV o':=by
    rintro q hq ⟨j,pj,oj,O1,hj2,hj3,hj4⟩;obtain ⟨Gw,hj5⟩:=hd j oj pj hj3 O1
    have:=hh.inj id j o Gw q pj ho hj5 hq O1 hj2.symm
    grind
   have aP:eF S w w:=fun _ _=>rfl
   cases o with
   | cells rw pu ex sz cs=>
    obtain ⟨ef,rfl,sU⟩:=h2;obtain ⟨q,arr,t,h1,h2,h3,h4,h5,h6,h7,h8,h9,fH⟩:=h3;refine ⟨q,arr,t,h1,h2,h3,h4,h5,h6,?_,h8,?_,?_⟩
    ·clear h4 h6 h8;revert h7;generalize q.o=k
     induction cs generalizing k with
     | nil=>intro _;simp only [bF]
     | cons c cs ih=>
      intro hr;simp only [bF] at hr ⊢;obtain ⟨⟨u,g1,g2⟩,g3⟩:=hr
      exact ⟨⟨u,g1,jr (fun _ _ h=>h) hS aP _ _ g2⟩,by
       have AW:∀(cs:List AV) (b k:Nat),bF O.ab m S w cs b k->bF O.ab m (fun b=>S b\/∃id p o,m id=some p/\p.b=b/\ap an id=some o/\fV o) w cs b k:=by
        intro cs
        induction cs with
        | nil=>intro b k _;simp only [bF]
        | cons c cs ih=>
         intro b k hr;simp only [bF] at hr ⊢;obtain ⟨⟨u,g1,g2⟩,g3⟩:=hr;exact ⟨⟨u,g1,jr (fun _ _ h=>h) hS aP _ _ g2⟩,ih b (k+1) g3⟩
       exact AW _ _ _ g3⟩
    ·rintro hr (hs | hs)
     ·grind
     ·have:=lY q h1 hs
      simp only [fV] at this
      grind
    ·intro hr;exact .inr ⟨id,q,_,h1,rfl,gi,hr⟩
   | mp rw ks vs=>
    obtain ⟨ef,rfl,sU⟩:=h2;obtain ⟨q,es,clock,h1,h2,h3,h4,h5,h6⟩:=h3;refine ⟨q,es,clock,h1,h2,fu (fun _ _ h=>h) hS aP _ _ h3,fu (fun _ _ h=>h) hS aP _ _ h4,?_,?_⟩
    ·rintro hr (hs | hs)
     ·grind
     ·have:=lY q h1 hs
      simp only [fV] at this
      grind
    ·intro hr;exact .inr ⟨id,q,_,h1,rfl,gi,hr⟩
   | si s pos=>
    simp only [gm] at h2;subst h2;refine n7 (fun _ _ h=>h) hS aP (fun _ _=>rfl) (fun q hq hs=>?_) h3;rcases hs with hs | hs
    ·grind
    ·exact (lY q hq hs).elim
   | lp tm ps cf body st pe=>
    simp only [gm] at h2;subst h2;refine n7 (fun _ _ h=>h) hS aP (fun _ _=>rfl) (fun q hq hs=>?_) h3;rcases hs with hs | hs
    ·grind
    ·exact (lY q hq hs).elim
  ·intro i j oi oj pi pj hi hj br eV e;obtain ⟨Gx,dJ⟩:=hd i oi pi hi br;obtain ⟨Gw,O2⟩:=hd j oj pj hj eV;exact hh.inj i j Gx Gw pi pj dJ O2 br eV e
  ·rintro b (hb | ⟨id,p,o,h1,rfl,_,_⟩)
   ·exact hh.slt b hb
   ·exact hh.blt id p h1
 ·rintro b (hb | ⟨id,p,o,h1,rfl,h3,_⟩)
  ·exact .inl hb
  ·obtain ⟨o',gi⟩:=hd id o p h3 h1;exact .inr ⟨id,o',p,gi,h1,rfl⟩
def L4 {i:Nat} (hh:aQ O m S w hp ct) (hi:m i=none) (CJ:i<ct) {g:Go.Obj} {p:Pl} (hb:p.b=w.heap.size)
  (hf:∀o,ap hp i=some o->(dX O (ew m i p) S (w.alloc g) i o/\¬fV o)\/
   (fV o/\dX O (ew m i p) (fun b=>S b\/b=w.heap.size) (w.alloc g) i o)):
  ∃S',aQ O (ew m i p) S' (w.alloc g) hp ct/\(∀b,S b->S' b)/\∀b,S' b->S b\/b=w.heap.size:=by
 have dM:(w.alloc g).heap.size=w.heap.size+1:=by simp
 have aY:O.w0.heap.size<=w.heap.size:=hh.eK;have gen:∀S':Nat->Prop,(∀b,S b->S' b)->(∀b,S' b->S b\/b=w.heap.size)->(∀o,ap hp i=some o->dX O (ew m i p) S' (w.alloc g) i o)->aQ O (ew m i p) S' (w.alloc g) hp ct:=by
  intro S' h1 h2 h3;have Gy:∀id q,m id=some q->¬q.b=w.heap.size:=fun id q hq=>by have:=hh.blt id q hq;omega
  refine ⟨?_,?_,?_,?_,?_,?_,?_,?_,hh.aO⟩
  ·intro id o q ho hm;by_cases hc:id=i
   ·grind
   ·rw [dD hc] at hm;refine n7 (gB hi) h1 (D8 hh g) (fun q' bB=>alloc_old (hh.blt id q' bB)) (fun q' bB hs=>?_) (hh.obj id o q ho hm)
    grind
  ·intro id q hm;by_cases hc:id=i
   ·grind
   ·rw [dD hc] at hm;exact hh.lt id q hm
  ·intro a b oa ob pa pb ha bK AY qh e;by_cases ca:a=i
   ·by_cases cb:b=i
    ·grind
    ·subst ca;rw [cV] at AY;rw [dD cb] at qh
     grind
   ·rw [dD ca] at AY;by_cases cb:b=i
    ·subst cb;rw [cV] at qh
     grind
    ·rw [dD cb] at qh;exact hh.inj a b oa ob pa pb ha bK AY qh e
  ·intro b hs;rcases h2 b hs with h | h
   ·have:=hh.slt b h;omega
   ·omega
  ·intro id q hm;by_cases hc:id=i
   ·subst hc;rw [cV] at hm
    grind
   ·rw [dD hc] at hm
    have:=hh.blt id q hm
    omega
  ·intro id q hm;by_cases hc:id=i
   ·subst hc;rw [cV] at hm
    grind
   ·rw [dD hc] at hm;exact hh.low id q hm
  ·intro b oW;exact (alloc_old (by omega)).trans (hh.jF b oW)
  ·omega
 cases ho:ap hp i with
 | none=>exact ⟨S,gen S (fun _ h=>h) (fun _ h=> .inl h) (fun o h=>by rw [ho] at h;cases h),fun _ h=>h,fun _ h=> .inl h⟩
 | some o=>
  rcases hf o ho with ⟨h1,_⟩ | ⟨_,h1⟩
  ·exact ⟨S,gen S (fun _ h=>h) (fun _ h=> .inl h) (fun o' h=>by rw [ho] at h;injection h with h;subst h;exact h1),fun _ h=>h,fun _ h=> .inl h⟩
  ·exact ⟨_,gen (fun b=>S b\/b=w.heap.size) (fun _ h=> .inl h) (fun _ h=>h) (fun o' h=>by rw [ho] at h;injection h with h;subst h;exact h1),fun _ h=> .inl h,fun _ h=>h⟩
def Lf {id:Nat} {o o':Obj} {p:Pl} (hl:gm o o') (hm:m id=some p) (h:dX O m S w id o) (hn:¬fV o):
  (dX O m S w id o'/\¬fV o')\/(fV o'/\dX O m (fun b=>S b\/b=p.b) w id o'):=by
 have hS:∀b,S b->(S b\/b=p.b):=fun _ h=> .inl h
 have aP:eF S w w:=fun _ _=>rfl
 cases o with
 | cells rw pu ex sz cs=>
  obtain ⟨ef,rfl,sU⟩:=hl
  cases ef with
  | true=>
   grind
  | false=>
   refine .inr ⟨rfl,?_⟩;obtain ⟨q,arr,t,h1,h2,h3,h4,h5,h6,h7,h8,h9,fH⟩:=h;rw [hm] at h1;injection h1 with h1
   subst h1;have AW:∀(cs:List AV) (b k:Nat),bF O.ab m S w cs b k->bF O.ab m (fun b=>S b\/b=p.b) w cs b k:=by
    intro cs
    induction cs with
    | nil=>intro b k _;simp only [bF]
    | cons c cs ih=>
     intro b k hr;obtain ⟨⟨u,g1,g2⟩,g3⟩:=hr;exact ⟨⟨u,g1,jr (fun _ _ h=>h) hS aP _ _ g2⟩,ih b (k+1) g3⟩
   exact ⟨p,arr,t,hm,h2,h3,h4,h5,h6,AW _ _ _ h7,h8,by simp,fun _=> .inr rfl⟩
 | mp rw ks vs=>
  obtain ⟨ef,rfl,sU⟩:=hl
  cases ef with
  | true=>
   grind
  | false=>
   refine .inr ⟨rfl,?_⟩;obtain ⟨q,es,clock,h1,h2,h3,h4,h5,h6⟩:=h;rw [hm] at h1;injection h1 with h1
   subst h1;exact ⟨p,es,clock,hm,h2,fu (fun _ _ h=>h) hS aP _ _ h3,fu (fun _ _ h=>h) hS aP _ _ h4,by simp,fun _=> .inr rfl⟩
 | si s pos=>simp only [gm] at hl;subst hl;exact .inl ⟨h,hn⟩
 | lp tm ps cf body st pe=>simp only [gm] at hl;subst hl;exact .inl ⟨h,hn⟩
end
end
end VE
