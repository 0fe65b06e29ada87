import Derived.WideLaws
import Derived.Maps.Keyed
import Derived.ChangeKeysEq
import Derived.Test.YtflgmingejdfnaaGreatDoorXaa
set_option linter.all false
set_option maxRecDepth 100000
open Bool renaming and_assoc→ue,and_eq_true→yf,false_eq_true→yt,not_eq_true'→uf
open Go renaming Addr→vB,Field→vK,IntKind→yJ,MapEntry→vC,Oper→yL,Operand→xh,Program→yM,TypeDesc→wz,TypeId→yp,Value→ye,World→yg,binOp→xo,sizeOf→vm
open List renaming cons_append→yH,drop_drop→wV,getElem?_eq_getElem→xP,length_cons→yz,map_cons→yV,take_succ_cons→xK
open Nat renaming add_assoc→vH,add_mul→vd,beq→yq,ble→yA,blt→yB,eq_of_beq_eq_true→yk,le_of_ble_eq_true→yr,le_refl→yC
open Option renaming map_none→wM,map_some→xM
open Option.some renaming injEq→yb
open UInt8 renaming toNat→yN
namespace VE
section
open Go
section
variable {ae:Nat->Nat} {P:yM} {m:Mp} {S:Nat->Prop} {w:yg} {t:yp}
def XD {op:BinOp} {x y:xh} {a b:ye} (h:P.eqGuardType P.depth t=false\/∀xs ys,¬(a= .agg xs/\b= .agg ys)) (hn:a≠.nilIface):
  (eqGuard op t x y a b).run P w= .ok () w:=by
 unfold eqGuard;cases op
 all_goals first
  | rfl
  | (
    cases a
    all_goals first
     | rfl
     | exact absurd rfl hn
     | (
      cases b
      all_goals first
       | rfl
       | (
         rcases h with h | h
         ·simp [h]
         ·exact absurd ⟨rfl,rfl⟩ (h _ _))))
def aek {d:Nat} {p q:Bool} (ht:P.underlying t=some .bool):(Op.equalIn (d+1) t (.bool p) (.bool q)).run P w= .ok (p==q) w:=by
 simp [Op.equalIn,underlying,ht]
def I3 {d:Nat} {e:yp} (ht:P.underlying t=some (.slice e)) (y:Option vB) (n c n' c':Nat):
  (Op.equalIn (d+1) t (.slice none n c) (.slice y n' c')).run P w= .ok y.isNone w:=by simp [Op.equalIn,underlying,ht]
def RP {d:Nat} {e:yp} (ht:P.underlying t=some (.slice e)) (x:vB) (n c n' c':Nat):
  (Op.equalIn (d+1) t (.slice (some x) n c) (.slice none n' c')).run P w= .ok false w:=by simp [Op.equalIn,underlying,ht]
def agW {d:Nat} {ps rs:Array yp} {vr:Bool} (ht:P.underlying t=some (.func ps rs vr)):
  (Op.equalIn (d+1) t .nilFunc .nilFunc).run P w= .ok true w:=by simp [Op.equalIn,underlying,ht]
def RQ {d:Nat} {ps rs:Array yp} {vr:Bool} (ht:P.underlying t=some (.func ps rs vr)) (f:Go.Fn) (a b:Array ye):
  (Op.equalIn (d+1) t .nilFunc (.func f a b)).run P w= .ok false w:=by simp [Op.equalIn,underlying,ht]
def RR {d:Nat} {ps rs:Array yp} {vr:Bool} (ht:P.underlying t=some (.func ps rs vr)) (f:Go.Fn) (a b:Array ye):
  (Op.equalIn (d+1) t (.func f a b) .nilFunc).run P w= .ok false w:=by simp [Op.equalIn,underlying,ht]
def DU (x y:ye):Op.equal t x y=Op.equalIn (9999+1) t x y:=rfl
def ab8 {vx vy:AV} {x y:ye} {r:Bool} {e:yp} (ht:P.underlying t=some (.slice e)) (hx:af ae m S w vx x) (hy:af ae m S w vy y)
  (h:gN .sl vx vy=some r):(Op.equal t x y).run P w= .ok r w:=by
 rw [DU];unfold gN at h
 split at h<;>simp_all only [yb,reduceCtorEq]
 all_goals subst h
 all_goals simp only [af] at hx hy
 ·subst hx;subst hy;exact I3 ht _ _ _ _ _
 ·rcases hy with ⟨b,o,c,rfl,_⟩ | ⟨_,rfl,_⟩<;>(subst hx;exact I3 ht _ _ _ _ _)
 ·obtain ⟨p,c,_,rfl,_⟩:=hy;subst hx;exact I3 ht _ _ _ _ _
 ·rcases hx with ⟨b,o,c,rfl,_⟩ | ⟨_,rfl,_⟩<;>(subst hy;exact RP ht _ _ _ _ _)
 ·obtain ⟨p,c,_,rfl,_⟩:=hx;subst hy;exact RP ht _ _ _ _ _
def ab9 {vx vy:AV} {x y:ye} {r:Bool} {ps rs:Array yp} {vr:Bool} (ht:P.underlying t=some (.func ps rs vr)) (hx:af ae m S w vx x) (hy:af ae m S w vy y)
  (h:gN .fn vx vy=some r):(Op.equal t x y).run P w= .ok r w:=by
 rw [DU];unfold gN at h
 split at h<;>simp_all only [yb,reduceCtorEq]
 all_goals subst h
 ·simp only [af] at hx hy;subst hx;subst hy;exact agW ht
 ·rename_i f _ _
  cases f with
  | f g=>simp only [af] at hx hy;obtain ⟨fi,ca,rfl,_⟩:=hy;subst hx;exact RQ ht _ _ _
  | y l=>simp only [af] at hx hy;obtain ⟨p,_,rfl⟩:=hy;subst hx;exact RQ ht _ _ _
 ·rename_i f _ _
  cases f with
  | f g=>simp only [af] at hx hy;obtain ⟨fi,ca,rfl,_⟩:=hx;subst hy;exact RR ht _ _ _
  | y l=>simp only [af] at hx hy;obtain ⟨p,_,rfl⟩:=hx;subst hy;exact RR ht _ _ _
def aca {op:UnOp} {vx v:AV} {x:ye} (hx:af ae m S w vx x) (h:VE.unOp op vx=some v):∃u,(Op.unary op x).run P w= .ok u w/\af ae m S w v u:=by
 unfold VE.unOp at h
 split at h
 ·rename_i k n;simp only [af] at hx;subst hx;simp only [yb] at h;subst h;exact ⟨_,by simp [Op.unary,Op.intArith];rfl,by simp [af]⟩
 ·rename_i k n;simp only [af] at hx;subst hx;simp only [iw,yb] at h;subst h;exact ⟨_,by simp [Op.unary,Op.intBits];rfl,by simp [af]⟩
 ·rename_i b;simp only [af] at hx;subst hx;simp only [yb] at h;subst h;exact ⟨_,by simp [Op.unary];rfl,by simp [af]⟩
 ·rename_i k b;simp only [af] at hx;subst hx;simp only [yb] at h;subst h;exact ⟨_,by simp [Op.unary,Op.negFloat];rfl,by simp [af]⟩
 ·cases h
def NK {s d:yp} {k:yJ} {vx v:AV} {x:ye} (hd:P.underlying d=some (.int k)) (hs:(∃k',P.underlying s=some (.int k'))\/∃k',P.underlying s=some (.float k'))
  (hx:af ae m S w vx x) (h:lL (.toInt k) vx=some v):∃u,(convert s d x).run P w= .ok u w/\af ae m S w v u:=by
 cases vx<;>simp only [lL,reduceCtorEq] at h
 case int k0 n=>
  simp only [af] at hx;subst hx;simp only [yb] at h;subst h;refine ⟨.int k (k.wrap n),?_,by simp [af]⟩;rcases hs with ⟨k',h'⟩ | ⟨k',h'⟩<;>simp [convert,underlying,Conv.intToInt,hd,h']
 case cu sk b=>
  simp only [af] at hx;subst hx
  cases hi:(sk.decode b).toInt .zero with
  | none=>simp [hi] at h
  | some n=>
   simp only [hi] at h;by_cases hr:k.min<=n/\n<=k.max
   ·simp only [hr,and_self,yQ,yb] at h;subst h;refine ⟨.int k n,?_,by simp [af]⟩;rcases hs with ⟨k',h'⟩ | ⟨k',h'⟩<;>simp [convert,underlying,Conv.floatToInt,hd,h',hi,hr]
   ·simp [hr] at h
def NL {s d:yp} {k:FloatKind} {vx v:AV} {x:ye} (hd:P.underlying d=some (.float k)) (hs:(∃k',P.underlying s=some (.int k'))\/∃k',P.underlying s=some (.float k'))
  (hx:af ae m S w vx x) (h:lL (.toFlt k) vx=some v):∃u,(convert s d x).run P w= .ok u w/\af ae m S w v u:=by
 cases vx<;>simp only [lL,reduceCtorEq] at h
 case int k0 n=>
  simp only [af] at hx;subst hx;simp only [yb] at h;subst h;refine ⟨.float k (k.nearest n),?_,by simp [af]⟩;rcases hs with ⟨k',h'⟩ | ⟨k',h'⟩<;>simp [convert,underlying,Conv.intToFloat,hd,h']
 case cu sk b=>
  simp only [af] at hx;subst hx;by_cases he:sk=k
  ·subst he;simp only [yQ,yb] at h;subst h;refine ⟨.float sk b,?_,by simp [af]⟩;rcases hs with ⟨k',h'⟩ | ⟨k',h'⟩<;>simp [convert,underlying,Conv.floatToFloat,hd,h']
  ·simp only [he,yG] at h
   cases E7:sk.decode b with
   | nan _ _=>simp [E7] at h
   | infinity _=>simp [E7] at h
   | number sg mm ee=>
    simp only [E7] at h
    cases Jn:(k.decode (k.encode (.number sg mm ee))).isInfinity with
    | true=>simp [Jn] at h
    | false=>
     simp only [Jn,yt,yG,yb] at h;subst h;refine ⟨.float k (k.encode (.number sg mm ee)),?_,by simp [af]⟩;rcases hs with ⟨k',h'⟩ | ⟨k',h'⟩<;>simp [convert,underlying,Conv.floatToFloat,hd,h',he,E7,Jn]
def Z5 {s d:yp} {vx v:AV} {x:ye} (hd:P.underlying d=some .string) (hs:P.underlying s=some .string)
  (hx:af ae m S w vx x) (h:lL .str vx=some v):∃u,(convert s d x).run P w= .ok u w/\af ae m S w v u:=by
 cases vx<;>simp only [lL,reduceCtorEq] at h
 simp only [yb] at h;subst h;simp only [af] at hx;obtain ⟨b,rfl,hb⟩:=hx;exact ⟨.string b,by simp [convert,underlying,hs,hd],by simp only [af];exact ⟨b,rfl,hb⟩⟩
end
end
section
open Go
def Yr {v:AV} {k:Nat} (h:cP v=some k):∃kd,v= .int kd (k:Int):=by
 cases v<;>simp only [cP,reduceCtorEq] at h
 rename_i kd n
 cases n with
 | ofNat j=>simp only [yb] at h;subst h;exact ⟨kd,rfl⟩
 | negSucc j=>cases h
section
variable {O:aZ} {H:Hint} {m:Mp} {S:Nat->Prop} {w:yg} {tm:Env} {a:Act}
def nm {ae:Nat->Nat} {v:AV} {x:ye} {k:Nat} (hx:af ae m S w v x) (h:cP v=some k):∃kd,x= .int kd (k:Int):=by
 obtain ⟨kd,rfl⟩:=Yr h;simp only [af] at hx
 grind
def run_sliceBound {P:yM} {kd:yJ} {k y:Nat} {code:BoundsCode} (h:k<=y):(Instr.sliceBound (.int kd (k:Int)) y code).run P w= .ok k w:=by
 have:(0:Int)<=(k:Int)/\(k:Int)<=(y:Int):=by omega
 simp [Instr.sliceBound,asIntOf,this]
def MN {P:yM} {isSlice:Bool} {len cap l h:Nat} {lo hi:Option xh} (hH:dW O H) (ht:bJ O m S w tm a.tmps)
  (hl:cI tm 0 (lo.map (aF H))=some l) (hh:cI tm len (hi.map (aF H))=some h) (h1:l<=h) (h2:h<=cap):
  (Instr.sliceBounds isSlice len cap (lo.map a.eval) (hi.map a.eval) none).run P w= .ok (l,h,cap) w:=by
 cases lo with
 | none=>
  simp only [wM,cI,yb] at hl;subst hl
  cases hi with
  | none=>
   simp only [wM,cI,yb] at hh;subst hh;simp [Instr.sliceBounds]
  | some y=>
   obtain ⟨kd,e⟩:=nm (bN hH ht y) hh;simp only [Instr.sliceBounds,wM,xM,e,Sem.run_bind,Sem.run_pure,Result.andThen_ok,run_sliceBound h2]
 | some x=>
  obtain ⟨kd,e⟩:=nm (bN hH ht x) hl
  cases hi with
  | none=>
   simp only [wM,cI,yb] at hh;subst hh;simp only [Instr.sliceBounds,wM,xM,e,Sem.run_bind,Sem.run_pure,Result.andThen_ok,run_sliceBound h1]
  | some y=>
   obtain ⟨J0,e'⟩:=nm (bN hH ht y) hh;simp only [Instr.sliceBounds,xM,e,e',Sem.run_bind,Sem.run_pure,Result.andThen_ok,run_sliceBound h2,run_sliceBound h1]
def Ys {t:yp} {lo hi:Option xh} {vx v:AV} {x:ye} (hH:dW O H) (ht:bJ O m S w tm a.tmps) (hu:O.P.underlying t=some .string)
  (hx:af O.ae m S w vx x) {hp:Hp} (h:fg hp .str vx tm (lo.map (aF H)) (hi.map (aF H))=some v):
  ∃u,(Instr.sliceAt t x (lo.map a.eval) (hi.map a.eval) none).run O.P w= .ok u w/\af O.ae m S w v u:=by
 cases vx<;>simp only [fg,reduceCtorEq] at h
 obtain ⟨b,rfl,rfl⟩:=hx
 cases hl:cI tm 0 (lo.map (aF H)) with
 | none=>simp [hl] at h
 | some l=>
  simp only [hl] at h
  cases hh:cI tm (b.data.toList.map yN).length (hi.map (aF H)) with
  | none=>rw [hh] at h;cases h
  | some g=>
   rw [hh] at h;simp only at h
   cases hc:(yA l g&&yA g (b.data.toList.map yN).length) with
   | false=>rw [hc] at h;cases h
   | true=>
    rw [hc] at h;simp only [ym,yb] at h;subst h;simp only [yf] at hc;have h1:=yr hc.1;have h2:=yr hc.2;have hlen:(b.data.toList.map yN).length=b.size:=MM b;rw [hlen] at hh h2;refine ⟨.string (b.extract l g),?_,?_⟩
    ·simp only [Instr.sliceAt,Sem.run_bind,run_underlying hu,Result.andThen_ok,Instr.slice,Option.isSome_none,yt,yG,Sem.run_pure,
      MN (P:=O.P) (isSlice:=false) (len:=b.size) (cap:=b.size) hH ht hl hh h1 h2]
    ·simp only [af];refine ⟨_,rfl,?_⟩;rw [Lib.extract_data,List.map_take,List.map_drop,List.drop_take]
def Z6 {t e:yp} {sz:Nat} {lo hi:Option xh} {vx v:AV} {x:ye} (hH:dW O H) (ht:bJ O m S w tm a.tmps) (hu:O.P.underlying t=some (.slice e)) (hz:bQ O.P e=some sz)
  {hp:Hp} {ct:Nat} (hh:aH O m S w hp ct)
  (hx:af O.ae m S w vx x) (h:fg hp (.sl sz) vx tm (lo.map (aF H)) (hi.map (aF H))=some v):
  ∃u,(Instr.sliceAt t x (lo.map a.eval) (hi.map a.eval) none).run O.P w= .ok u w/\af O.ae m S w v u:=by
 have eU:(vm e).run O.P w= .ok sz w:=by
  unfold bQ at hz
  cases hi:O.P.info? e with
  | none=>simp [hi] at hz
  | some i=>simp_all [vm,typeInfo]
 have Bc:∀(ad:Option vB) (n c l g:Nat),cI tm 0 (lo.map (aF H))=some l->cI tm n (hi.map (aF H))=some g->l<=g->g<=c->
   (Instr.sliceAt t (.slice ad n c) (lo.map a.eval) (hi.map a.eval) none).run O.P w= .ok (.slice (if c=l then ad else ad.map (·.add (l*sz))) (g-l) (c-l)) w:=by
  intro ad n c l g hl hg h1 h2
  simp only [Instr.sliceAt,Sem.run_bind,run_underlying hu,Result.andThen_ok,Instr.slice,Sem.run_pure,eU,
   MN (P:=O.P) (isSlice:=true) (len:=n) (cap:=c) hH ht hl hg h1 h2]
 cases vx<;>simp only [fg,reduceCtorEq] at h
 case ab=>
  simp only [af] at hx;subst hx
  cases hl:cI tm 0 (lo.map (aF H)) with
  | none=>simp [hl] at h
  | some l=>
   cases l with
   | succ l=>simp [hl] at h
   | zero=>
    simp only [hl] at h
    cases hh:cI tm 0 (hi.map (aF H)) with
    | none=>simp [hh] at h
    | some g=>
     cases g with
     | succ g=>simp [hh] at h
     | zero=>
      simp only [hh,yb] at h;subst h;exact ⟨_,Bc none 0 0 0 0 hl hh (yC _) (yC _),by simp [af]⟩
 case aC ex n cs=>
  simp only [af] at hx;rcases hx with ⟨b,o,c,rfl,Ct,hex,hS,Cu,Cv⟩ | ⟨ad,rfl,rfl,rfl⟩
  case inr=>
   cases hl:cI tm 0 (lo.map (aF H)) with
   | none=>simp [hl] at h
   | some l=>
    simp only [hl] at h
    cases hh:cI tm 0 (hi.map (aF H)) with
    | none=>simp [hh] at h
    | some g=>
     simp only [hh] at h
     cases hc:(yA l g&&yA g 0) with
     | false=>rw [hc] at h;cases h
     | true=>
      rw [hc] at h;simp only [ym,yb] at h;subst h;simp only [yf] at hc;have h1:=yr hc.1;have h2:=yr hc.2;have hg:g=0:=by omega
      subst hg;have mO:l=0:=by omega
      subst mO;refine ⟨_,Bc (some ad) 0 0 0 0 hl hh h1 h2,?_⟩;simp only [af];exact .inr ⟨ad,by simp,by simp,by simp [slice]⟩
  cases hl:cI tm 0 (lo.map (aF H)) with
  | none=>simp [hl] at h
  | some l=>
   simp only [hl] at h
   cases hh:cI tm n (hi.map (aF H)) with
   | none=>simp [hh] at h
   | some g=>
    simp only [hh] at h
    cases hc:(yA l g&&yA g n) with
    | false=>rw [hc] at h;cases h
    | true=>
     rw [hc] at h;simp only [ym,yb] at h;subst h;simp only [yf] at hc;have h1:=yr hc.1;have h2:=yr hc.2;refine ⟨_,Bc (some ⟨b,o,none⟩) n c l g hl hh h1 (by omega),?_⟩;have EF:ax (slice (l*sz) ((g-l)*sz) cs)=true:=by
      have pd:∀(k:Nat) (cs:List AV),ax cs=true->ax (cs.drop k)=true:=by
       intro k
       induction k with
       | zero=>intro cs h;simpa using h
       | succ k ih=>intro cs h;cases cs with
        | nil=>simpa using h
        | cons c cs=>simp only [ax,yf] at h;simpa using ih cs h.2
      have pt:∀(k:Nat) (cs:List AV),ax cs=true->ax (cs.take k)=true:=by
       intro k
       induction k with
       | zero=>intro cs h;simp [ax]
       | succ k ih=>intro cs h;cases cs with
        | nil=>simp [ax]
        | cons c cs=>simp only [ax,yf,xK] at h ⊢;exact ⟨h.1,ih cs h.2⟩
      exact pt _ _ (pd _ _ Cu)
     have SU:(ex&&yq g n)=true->c-l=g-l:=by
      intro hq;simp only [yf] at hq
      have:=hex hq.1
      have:=yk hq.2
      omega
     simp only [af];by_cases fX:c=l
     ·have h0:g-l=0:=by omega
      have kT:slice (l*sz) ((g-l)*sz) cs=[]:=by simp [slice,h0]
      rw [kT];exact .inl ⟨b,o,c-l,by simp [fX],by omega,SU,.inl rfl,rfl,by simp [bt]⟩
     ·refine .inl ⟨b,o+l*sz,c-l,by simp [fX,j8],by omega,SU,?_,EF,?_⟩
      ·rcases hS with rfl | hS
       ·exact .inl (by simp [slice])
       ·exact .inr hS
      ·exact qt _ _ _ _ (mh _ _ _ _ Cv)
 case aq id o n=>
  simp only [af] at hx;obtain ⟨p,c,hm,rfl,Ct,FK⟩:=hx
  split at h
  case h_2=>cases h
  rename_i J3 pu0 mP z0 UW rh;obtain ⟨p',arr,t',ek,_,fH,_⟩:=hh.obj id _ _ rh hm;rw [hm] at ek;injection ek with ek
  subst ek
  cases hl:cI tm 0 (lo.map (aF H)) with
  | none=>simp [hl] at h
  | some l=>
   simp only [hl] at h
   cases hh:cI tm n (hi.map (aF H)) with
   | none=>simp [hh] at h
   | some g=>
    simp only [hh] at h
    cases hc:(yA l g&&yA g n&&yq z0 sz) with
    | false=>rw [hc] at h;cases h
    | true=>
     rw [hc] at h;simp only [ym] at h;simp only [yf] at hc;have h1:=yr hc.1.1;have h2:=yr hc.1.2;have hpz:p.z=sz:=fH.trans (yk hc.2)
     cases he:(yq l g&& !yq l 0) with
     | true=>
      rw [he] at h;simp only [ym,yb] at h;subst h;simp only [yf] at he;have rV:=yk he.1;refine ⟨_,Bc (some ⟨p.b,p.o+o,none⟩) n c l g hl hh h1 (by omega),?_⟩;simp only [af];by_cases fX:c=l
      ·exact .inl ⟨p.b,p.o+o,c-l,by simp [fX];omega,by omega,by simp,by simp,by simp [ax],by simp [bt]⟩
      ·exact .inl ⟨p.b,p.o+o+l*sz,c-l,by simp [fX,j8];omega,by omega,by simp,by simp,by simp [ax],by simp [bt]⟩
     | false=>
      rw [he] at h;simp only [yu,yb] at h;subst h;have fX:c=l->l=0:=by
       intro fX;have rV:l=g:=by omega
       cases mO:yq l 0 with
       | true=>exact yk mO
       | false=>rw [rV,Nat.beq_refl,<-rV,mO] at he;cases he
      refine ⟨_,Bc (some ⟨p.b,p.o+o,none⟩) n c l g hl hh h1 (by omega),?_⟩;simp only [af];refine ⟨p,c-l,hm,?_,by omega,?_⟩
      ·by_cases Jo:c=l
       ·have:=fX Jo;subst this;subst Jo;simp
       ·simp [Jo,j8,vH]
      ·rw [hpz] at FK ⊢
       have:c*sz=l*sz+(c-l)*sz:=by rw [<-vd];congr 1;omega
       omega
end
end
section
open Go
def jw {P:yM} {w:yg} {t:yp} {sz:Nat} (hz:bQ P t=some sz):(vm t).run P w= .ok sz w:=by
 unfold bQ at hz
 cases hi:P.info? t with
 | none=>simp [hi] at hz
 | some i=>simp_all [vm,typeInfo]
section
variable {O:aZ} {H:Hint} {m:Mp} {S:Nat->Prop} {w:yg} {tm:Env} {a:Act} {hp:Hp} {ct:Nat}
def HS {id o n:Nat} {rw pu ex:Bool} {sz:Nat} {cs:List AV} {p:Pl} (hh:aH O m S w hp ct) (hg:aj hp id=some (.cells rw pu ex sz cs)) (hm:m id=some p):
  bt O.ae m S w cs p.b p.o:=by
 obtain ⟨p',arr,t',ek,_,_,_,_,_,hr,_⟩:=hh.obj id _ _ hg hm
 grind
def agX {t:yp} {sz:Nat} {ag:Bool} {vx v:AV} {x:ye} (hh:aH O m S w hp ct) (hz:bQ O.P t=some sz) (ha:cQ O.P t=some ag) (hx:af O.ae m S w vx x)
  (h:fT hp sz ag vx=some v):∃u,(Instr.loadAt t x).run O.P w= .ok u w/\af O.ae m S w v u:=by
 cases vx<;>simp only [fT,reduceCtorEq] at h
 case ptr id o=>
  obtain ⟨p,hm,rfl⟩:=hx
  split at h
  case h_2=>cases h
  rename_i J3 pu0 mP z0 UW rh;have hr:=HS (id:=id) (o:=0) (n:=0) hh rh hm;obtain ⟨u,h1,h2⟩:=Eb hz ha (mh o UW p.b p.o hr) h;exact ⟨u,by simp only [Instr.loadAt,Instr.sureAddr,Sem.run_bind,Sem.run_pure,Result.andThen_ok];exact h1,h2⟩
 case aO cs=>
  obtain ⟨b,o,rfl,_,_,hr⟩:=hx;obtain ⟨u,h1,h2⟩:=Eb hz ha hr h;exact ⟨u,by simp only [Instr.loadAt,Instr.sureAddr,Sem.run_bind,Sem.run_pure,Result.andThen_ok];exact h1,h2⟩
def oH:∀(k:Nat) (cs:List AV),ax cs=true->ax (cs.drop k)=true
 | 0,cs,h=>by simpa using h
 | k+1,[],h=>by simpa using h
 | k+1,c::cs,h=>by simp only [ax,yf] at h;simpa using oH k cs h.2
def Hl {cs:List AV} {b o k:Nat} (h2:cs=[]\/S b) (h3:ax cs=true) (h4:bt O.ae m S w cs b o):af O.ae m S w (.aO (cs.drop k)) (.pointer (some ⟨b,o+k,none⟩)):=by
 refine ⟨b,o+k,rfl,?_,oH k cs h3,mh k cs b o h4⟩
 grind
def ael {t:yp} {fs:Array vK} {i:Nat} {f:vK} {sz:Nat} {vx v:AV} {x:ye} (hu:O.P.underlying t=some (.struct fs)) (hf:fs[i]? =some f) (hz:bQ O.P f.type=some (sz+1))
  (hx:af O.ae m S w vx x)
  (h:BE f.offset vx=some v):∃u,(Instr.fieldAt t x i).run O.P w= .ok u w/\af O.ae m S w v u:=by
 have RS:∀(b o:Nat),(Instr.fieldAt t (.pointer (some ⟨b,o,none⟩)) i).run O.P w= .ok (.pointer (some ⟨b,o+f.offset,none⟩)) w:=by
  intro b o;simp only [Instr.fieldAt,Sem.run_bind,run_underlying hu,Result.andThen_ok,hf,Instr.sureAddr,Sem.run_pure,fieldPlace,jw hz,Nat.succ_ne_zero,yG,j8]
 cases vx<;>simp only [BE,reduceCtorEq] at h
 case ptr id o=>
  obtain ⟨p,hm,rfl⟩:=hx;simp only [yb] at h;subst h;exact ⟨_,RS _ _,by simp only [af];exact ⟨p,hm,by rw [vH]⟩⟩
 case aO cs=>
  obtain ⟨b,o,rfl,h2,h3,h4⟩:=hx
  cases hc:yA f.offset cs.length with
  | false=>rw [hc] at h;cases h
  | true=>
   rw [hc] at h;simp only [ym,yb] at h;subst h;exact ⟨_,RS _ _,Hl h2 h3 h4⟩
def aem {t:yp} {fs:Array vK} {i:Nat} {f:vK} {sz:Nat} {ag:Bool} {vx v:AV} {x:ye} (hu:O.P.underlying t=some (.struct fs)) (hf:fs[i]? =some f)
  (hz:bQ O.P f.type=some sz) (ha:cQ O.P f.type=some ag) (hx:af O.ae m S w vx x)
  (h:ED f.offset sz ag vx=some v):∃u,(Instr.field t x i).run O.P w= .ok u w/\af O.ae m S w v u:=by
 cases vx<;>simp only [ED,reduceCtorEq] at h
 obtain ⟨xs,rfl,hr⟩:=hx;obtain ⟨u,h1,h2⟩:=ON hz ha hr h;exact ⟨u,by simp only [Instr.field,Sem.run_bind,run_underlying hu,Result.andThen_ok,hf,asAgg,Sem.run_pure];exact h1,h2⟩
def aen {t e:yp} {sz k:Nat} {vx vi v:AV} {x i:ye} (hu:O.P.underlying t=some (.slice e)) (hz:bQ O.P e=some sz) (hx:af O.ae m S w vx x) (hi:af O.ae m S w vi i)
  (hk:cP vi=some k)
  (h:fh sz k vx=some v):∃u,(Instr.indexAt t x i).run O.P w= .ok u w/\af O.ae m S w v u:=by
 obtain ⟨kd,rfl⟩:=nm hi hk;have BK:∀(b o n c:Nat),k<n->(Instr.indexAt t (.slice (some ⟨b,o,none⟩) n c) (.int kd (k:Int))).run O.P w= .ok (.pointer (some ⟨b,o+k*sz,none⟩)) w:=by
  intro b o n c mQ;have hr:(0:Int)<=(k:Int)/\(k:Int)<(n:Int):=by omega
  simp [Instr.indexAt,asIntOf,run_underlying hu,jw hz,hr,j8]
  grind
 cases vx<;>simp only [fh,reduceCtorEq] at h
 case aq id o n=>
  obtain ⟨p,c,hm,rfl,Ct,FK⟩:=hx
  cases hc:yB k n with
  | false=>rw [hc] at h;cases h
  | true=>
   rw [hc] at h;simp only [ym,yb] at h;subst h;have mQ:k<n:=by simp_all
   exact ⟨_,BK _ _ _ _ mQ,by simp only [af];exact ⟨p,hm,by rw [vH]⟩⟩
 case aC ex n cs=>
  rcases hx with ⟨b,o,c,rfl,Ct,hex,h2,h3,h4⟩ | ⟨a,rfl,rfl,rfl⟩
  case inr=>
   have:yB k 0=false:=by cases hq:yB k 0 with | false=>rfl | true=>simp only [yB,Nat.ble_eq] at hq;omega
   grind
  cases hc:yB k n with
  | false=>rw [hc] at h;cases h
  | true=>
   rw [hc] at h;simp only [ym,yb] at h;subst h;have mQ:k<n:=by simp_all
   exact ⟨_,BK _ _ _ _ mQ,Hl h2 h3 h4⟩
def aeo {t e:yp} {len sz k:Nat} {vx vi v:AV} {x i:ye} (hu:O.P.underlying t=some (.array len e)) (hz:bQ O.P e=some sz) (hx:af O.ae m S w vx x) (hi:af O.ae m S w vi i)
  (hk:cP vi=some k)
  (h:EE len sz k vx=some v):∃u,(Instr.indexAt t x i).run O.P w= .ok u w/\af O.ae m S w v u:=by
 obtain ⟨kd,rfl⟩:=nm hi hk;have BK:∀(b o:Nat),k<len->(Instr.indexAt t (.pointer (some ⟨b,o,none⟩)) (.int kd (k:Int))).run O.P w= .ok (.pointer (some ⟨b,o+k*sz,none⟩)) w:=by
  intro b o mQ;have hr:(0:Int)<=(k:Int)/\(k:Int)<(len:Int):=by omega
  simp [Instr.indexAt,asIntOf,run_underlying hu,jw hz,hr,j8,Instr.sureAddr]
  grind
 cases vx<;>simp only [EE,reduceCtorEq] at h
 case ptr id o=>
  obtain ⟨p,hm,rfl⟩:=hx
  cases hc:yB k len with
  | false=>rw [hc] at h;cases h
  | true=>
   rw [hc] at h;simp only [ym,yb] at h;subst h;have mQ:k<len:=by simp_all
   exact ⟨_,BK _ _ mQ,by simp only [af];exact ⟨p,hm,by rw [vH]⟩⟩
 case aO cs=>
  obtain ⟨b,o,rfl,h2,h3,h4⟩:=hx
  cases hc:yB k len with
  | false=>rw [hc] at h;cases h
  | true=>
   rw [hc] at h;simp only [ym,yb] at h;subst h;have mQ:k<len:=by simp_all
   exact ⟨_,BK _ _ mQ,Hl h2 h3 h4⟩
def aep {t e:yp} {len sz k:Nat} {ag:Bool} {vx vi v:AV} {x i:ye} (hu:O.P.underlying t=some (.array len e)) (hz:bQ O.P e=some sz) (ha:cQ O.P e=some ag)
  (hx:af O.ae m S w vx x) (hi:af O.ae m S w vi i) (hk:cP vi=some k)
  (h:BF len sz ag k vx=some v):
  ∃u,(Instr.index t x i).run O.P w= .ok u w/\af O.ae m S w v u:=by
 obtain ⟨kd,rfl⟩:=nm hi hk;cases vx<;>simp only [BF,reduceCtorEq] at h
 obtain ⟨xs,rfl,hr⟩:=hx
 cases hc:yB k len with
 | false=>rw [hc] at h;cases h
 | true=>
  rw [hc] at h;have mQ:k<len:=by simp_all
  obtain ⟨u,h1,h2⟩:=ON hz ha hr h;have dj:(0:Int)<=(k:Int)/\(k:Int)<(len:Int):=by omega
  exact ⟨u,by simp [Instr.index,asIntOf,run_underlying hu,jw hz,dj,h1];intro hle;exact absurd hle (by omega),h2⟩
def aeq {t:yp} {k:Nat} {vx vi v:AV} {x i:ye} (hu:O.P.underlying t=some .string) (hx:af O.ae m S w vx x) (hi:af O.ae m S w vi i) (hk:cP vi=some k)
  (h:lH k vx=some v):
  ∃u,(Instr.index t x i).run O.P w= .ok u w/\af O.ae m S w v u:=by
 obtain ⟨kd,rfl⟩:=nm hi hk;cases vx<;>simp only [lH,reduceCtorEq] at h
 obtain ⟨b,rfl,rfl⟩:=hx
 cases hs:(b.data.toList.map yN)[k]? with
 | none=>rw [hs] at h;cases h
 | some q=>
  rw [hs] at h;simp only [yb] at h;subst h;rw [List.getElem?_map] at hs
  cases hb:b.data.toList[k]? with
  | none=>rw [hb] at hs;cases hs
  | some c=>
   rw [hb] at hs;simp only [xM,yb] at hs;subst hs;have dn:b[k]? =some c:=by
    have aU:k<b.data.toList.length:=by
     grind
    have eU:k<b.size:=by simp_all
    rw [getElem?_pos b k eU];rw [xP aU] at hb;rw [<-hb];rfl
   refine ⟨.int .u8 c.toNat,?_,by simp [af]⟩;simp [Instr.index,asIntOf,run_underlying hu,dn]
end
end
section
open Go
section
variable {ae:Nat->Nat} {m:Mp} {S:Nat->Prop} {w:yg}
def Hm:∀{v:AV} {u:ye},af ae m S w v u->bT (cellsOf v)=true->ak ae m S w (cellsOf v) u.cells.toList:=by
 intro v u h h1;cases v
 case agg cs=>
  simp only [af] at h;obtain ⟨xs,rfl,hr⟩:=h;exact hr
 case ay vs=>simp [cellsOf,bT,cg] at h1
 case undef=>simp [cellsOf,bT,cg] at h1
 case bS=>simp [cellsOf,bT,cg] at h1
 case fn f a b=>
  cases f with
  | f g=>have h':=h;simp only [af] at h';obtain ⟨fi,ca,rfl,_⟩:=h';simp only [cellsOf,Value.cells,ak];exact ⟨_,_,rfl,h,rfl⟩
  | y l=>have h':=h;simp only [af] at h';obtain ⟨p,_,rfl⟩:=h';simp only [cellsOf,Value.cells,ak];exact ⟨_,_,rfl,h,rfl⟩
 case str s=>have h':=h;simp only [af] at h';obtain ⟨b,rfl,_⟩:=h';simp only [cellsOf,Value.cells,ak];exact ⟨_,_,rfl,h,rfl⟩
 case ptr id o=>have h':=h;simp only [af] at h';obtain ⟨b,_,rfl⟩:=h';simp only [cellsOf,Value.cells,ak];exact ⟨_,_,rfl,h,rfl⟩
 case aO cs=>have h':=h;simp only [af] at h';obtain ⟨b,o,rfl,_⟩:=h';simp only [cellsOf,Value.cells,ak];exact ⟨_,_,rfl,h,rfl⟩
 case aC e n cs=>have h':=h;simp only [af] at h';rcases h' with ⟨b,o,c,rfl,_⟩ | ⟨a,rfl,_,_⟩<;>(simp only [cellsOf,Value.cells,ak];exact ⟨_,_,rfl,h,rfl⟩)
 case aq id o n=>have h':=h;simp only [af] at h';obtain ⟨p,c,_,rfl,_⟩:=h';simp only [cellsOf,Value.cells,ak];exact ⟨_,_,rfl,h,rfl⟩
 case map id=>have h':=h;simp only [af] at h';obtain ⟨p,_,rfl⟩:=h';simp only [cellsOf,Value.cells,ak];exact ⟨_,_,rfl,h,rfl⟩
 case fS ks vs=>have h':=h;simp only [af] at h';obtain ⟨b,es,cl,rfl,_⟩:=h';simp only [cellsOf,Value.cells,ak];exact ⟨_,_,rfl,h,rfl⟩
 case it id=>have h':=h;simp only [af] at h';obtain ⟨p,_,rfl⟩:=h';simp only [cellsOf,Value.cells,ak];exact ⟨_,_,rfl,h,rfl⟩
 all_goals
  have h':=h;simp only [af] at h';subst h';simp only [cellsOf,Value.cells,ak];exact ⟨_,_,rfl,h,rfl⟩
def sE (v:ye):ak ae m S w (cellsOf (dl v)) v.cells.toList:=by
 have h:=Ea (ae:=ae) (m:=m) (S:=S) (w:=w) v;cases v
 case agg xs=>
  obtain ⟨l⟩:=xs;simp only [dl,af] at h ⊢;obtain ⟨xs,e,hr⟩:=h;injection e with e
  subst e;exact hr
 case tuple xs=>obtain ⟨l⟩:=xs;simp only [dl] at h ⊢;simp only [cellsOf,Value.cells,ak];exact ⟨_,_,rfl,h,rfl⟩
 case pointer p=>cases p<;>(simp only [dl] at h ⊢;simp only [cellsOf,Value.cells,ak];exact ⟨_,_,rfl,h,rfl⟩)
 case map p=>cases p<;>(simp only [dl] at h ⊢;simp only [cellsOf,Value.cells,ak];exact ⟨_,_,rfl,h,rfl⟩)
 case slice p n c=>
  cases p
  ·cases n
   ·cases c<;>(simp only [dl] at h ⊢;simp only [cellsOf,Value.cells,ak];exact ⟨_,_,rfl,h,rfl⟩)
   ·simp only [dl] at h ⊢;simp only [cellsOf,Value.cells,ak];exact ⟨_,_,rfl,h,rfl⟩
  ·simp only [dl] at h ⊢;simp only [cellsOf,Value.cells,ak];exact ⟨_,_,rfl,h,rfl⟩
 all_goals (simp only [dl] at h ⊢;simp only [cellsOf,Value.cells,ak];exact ⟨_,_,rfl,h,rfl⟩)
def iM:∀{a b:List AV} {x y:List ye},ak ae m S w a x->ak ae m S w b y->ak ae m S w (a++b) (x++y)
 | [],b,x,y,h,k=>by simp only [ak] at h;subst h;simpa using k
 | c::a,b,x,y,h,k=>by
  simp only [ak] at h;obtain ⟨u,r,rfl,h2,h3⟩:=h;simp only [yH,ak];exact ⟨u,r++y,rfl,h2,iM h3 k⟩
def AN:∀(k:Nat) {cs:List AV} {us:List ye},ak ae m S w cs us->ak ae m S w (cs.drop k) (us.drop k)
 | 0,cs,us,h=>by simpa using h
 | k+1,[],us,h=>by simp only [ak] at h;subst h;simp [ak]
 | k+1,c::cs,us,h=>by simp only [ak] at h;obtain ⟨u,r,rfl,_,h3⟩:=h;simpa using AN k h3
def sO:∀(k:Nat) {cs:List AV} {us:List ye},ak ae m S w cs us->ak ae m S w (cs.take k) (us.take k)
 | 0,cs,us,h=>by simp [ak]
 | k+1,[],us,h=>by simp only [ak] at h;subst h;simp [ak]
 | k+1,c::cs,us,h=>by
  simp only [ak] at h;obtain ⟨u,r,rfl,h2,h3⟩:=h;simp only [xK,ak];exact ⟨u,_,rfl,h2,sO k h3⟩
def HT:∀{cs:List AV} {us:List ye} {i:Nat} {v:AV},ak ae m S w cs us->cs[i]? =some v->∃u,us[i]? =some u/\af ae m S w v u
 | [],us,i,v,_,h=>by simp at h
 | c::cs,us,0,v,h,e=>by
  simp only [ak] at h;obtain ⟨u,r,rfl,h2,h3⟩:=h;simp at e;subst e;exact ⟨u,rfl,h2⟩
 | c::cs,us,i+1,v,h,e=>by
  simp only [ak] at h;obtain ⟨u,r,rfl,h2,h3⟩:=h;simp at e;simpa using HT h3 e
end
def MO (off:Nat):∀(new:List ye) (j:Nat) (cells:Array ye),off+j+new.length<=cells.size->
  ((new.zipIdx j).foldl (fun (cs:Array ye) (p:ye×Nat)=>cs.setIfInBounds (off+p.2) p.1) cells).toList=
   cells.toList.take (off+j)++new++cells.toList.drop (off+j+new.length)
 | [],j,cells,_=>by simp
 | v::r,j,cells,h=>by
  simp only [yz] at h;have ih:=MO off r (j+1) (cells.setIfInBounds (off+j) v) (by simp;omega);simp only [List.zipIdx_cons,List.foldl_cons];rw [ih];have aU:off+j<cells.toList.length:=by simp;omega
  have h1:(cells.setIfInBounds (off+j) v).toList=cells.toList.set (off+j) v:=by simp
  rw [h1,show off+(j+1)=off+j+1 by omega];have h2:(cells.toList.set (off+j) v).take (off+j+1)=cells.toList.take (off+j)++[v]:=by
   rw [List.take_succ_eq_append_getElem (by simpa using aU)];simp [List.take_set_of_le]
  have h3:(cells.toList.set (off+j) v).drop (off+j+1+r.length)=cells.toList.drop (off+j+(r.length+1)):=by
   rw [List.drop_set_of_lt (by omega)];congr 1;omega
  rw [h2,h3]
  simp
section
variable {O:aZ} {H:Hint} {m:Mp} {S:Nat->Prop} {w:yg} {tm:Env} {a:Act}
def Ec (hH:dW O H) (ht:bJ O m S w tm a.tmps) {place:Nat->Option (Nat×Nat)}:∀(parts:List (Nat×xh)) (ps:List (Nat×Nat×X)) (zero cs:List AV) (cells:Array ye),
  partsOf H place parts=some ps->ak O.ae m S w zero cells.toList->fill tm zero ps=some cs->
  ∃out,Instr.fill place cells (parts.map fun p=>(p.1,a.eval p.2))=some out/\ak O.ae m S w cs out.toList
 | [],ps,zero,cs,cells,hp,hz,hf=>by
  simp only [partsOf,yb] at hp;subst hp;simp only [fill,yb] at hf;subst hf;exact ⟨cells,rfl,hz⟩
 | (i,x)::r,ps,zero,cs,cells,hp,hz,hf=>by
  simp only [partsOf] at hp
  cases mR:place i with
  | none=>simp [mR] at hp
  | some q=>
   obtain ⟨o,s⟩:=q;simp only [mR] at hp
   cases pL:partsOf H place r with
   | none=>simp [pL] at hp
   | some l=>
    simp only [pL,yb] at hp;subst hp;simp only [fill] at hf
    cases hc:(yq (cellsOf (ao tm (aF H x))).length s&&yA (o+s) zero.length&&bT (cellsOf (ao tm (aF H x)))) with
    | false=>rw [hc] at hf;cases hf
    | true=>
     rw [hc] at hf;simp only [ym] at hf;simp only [yf] at hc;have hs:=yk hc.1.1;have hle:=yr hc.1.2;have UX:=Hm (bN hH ht x) hc.2;have kU:=fI _ _ UX;have mS:=fI _ _ hz;have eU:(a.eval x).cells.size=s:=by rw [<-hs,<-kU];simp
     have pM:cells.size=zero.length:=by rw [<-mS];simp
     have agY:=MO o (a.eval x).cells.toList 0 cells (by simp;omega);have fH:ak O.ae m S w (over o (cellsOf (ao tm (aF H x))) zero)
       ((a.eval x).cells.zipIdx.foldl (fun (cs:Array ye) (p:ye×Nat)=>cs.setIfInBounds (o+p.2) p.1) cells).toList:=by
      rw [<-Array.foldl_toList,Array.toList_zipIdx,agY];simp only [over,Nat.add_zero];rw [show (a.eval x).cells.toList.length=(cellsOf (ao tm (aF H x))).length from kU];exact iM (iM (sO o hz) UX) (AN _ hz)
     obtain ⟨out,h1,h2⟩:=Ec hH ht r l _ cs _ pL fH hf;refine ⟨out,?_,h2⟩;simp only [yV,Instr.fill,mR,eU];rw [yD (by simp;omega)];exact h1
end
end
section
open Go
def MP (p q:ByteArray):(p==q)=dI (iO p) (iO q):=by
 have h:(p==q)=(p.data==q.data):=by cases p;cases q;rfl
 rw [h,ML,ByteArray.toList_eq,ByteArray.toList_eq];rw [Bool.eq_iff_iff,ta,ta];constructor
 ·intro e;rw [e]
 ·intro e;have:=congrArg List.toArray e;simpa using this
def E8:wz->Bool
 | .bool | .int _ | .string=>true
 | _=>false
def fits (d:wz) (v:AV):Bool:=
 match d,v with
 | .int _,.int _ _ | .string,.str _ | .bool,.bool _=>true
 | _,_=>false
def Found (ae:Nat->Nat) (m:Mp) (S:Nat->Prop) (w:yg) (f:Option (Option (Nat×ye))):Option AV->Prop
 | none=>f=some none
 | some v=>∃j u,f=some (some (j,u))/\af ae m S w v u
section
variable {O:aZ} {ae:Nat->Nat} {m:Mp} {S:Nat->Prop} {w:yg}
def NM {vk UY:AV} {k k':ye} {r:Bool} {d:wz} (hk:af ae m S w vk k) (kV:af ae m S w UY k') (h:zi vk UY=some r)
  (hd:fits d vk=true):Instr.sameNow d k k'=some r:=by
 unfold zi at h
 split at h
 ·rename_i j x j' y;simp only [af] at hk kV;subst hk;subst kV;by_cases hj:j=j'
  ·simp only [hj,yQ,yb] at h;subst hj;cases d<;>simp [fits] at hd
   simpa [Instr.sameNow] using h
  ·simp [hj] at h
 ·simp only [af] at hk kV;obtain ⟨s,rfl,rfl⟩:=hk;obtain ⟨s',rfl,rfl⟩:=kV;simp only [yb] at h;cases d<;>simp [fits] at hd
  simp only [Instr.sameNow,MP];rw [<-h];rfl
 ·simp only [af] at hk kV;subst hk;subst kV;simp only [yb] at h;cases d<;>simp [fits] at hd
  simp [Instr.sameNow,h]
 ·cases h
def HU {vk:AV} {k:ye} {d:wz} (hk:af ae m S w vk k)
  (hd:fits d vk=true):∀(ks vs:List AV) (es:List vC) (i:Nat) (r:Option AV),
  ak ae m S w ks (es.map (·.key))->ak ae m S w vs (es.map (·.val))->rb vk ks vs=some r->Found ae m S w (Instr.findNow d k es i) r
 | [],vs,es,i,r,h1,h2,h=>by
  simp only [ak,List.map_eq_nil_iff] at h1;subst h1;simp only [rb,yb] at h;subst h;rfl
 | c::ks,[],es,i,r,h1,h2,h=>by simp only [rb] at h;cases h
 | c::ks,v::vs,es,i,r,h1,h2,h=>by
  cases es with
  | nil=>simp [ak] at h1
  | cons e es=>
   simp only [yV,ak,List.cons.injEq] at h1 h2;obtain ⟨u,t,⟨rfl,rfl⟩,hc,FL⟩:=h1;obtain ⟨u',t',⟨rfl,rfl⟩,hv,FM⟩:=h2;simp only [rb] at h
   cases n5:zi vk c with
   | none=>simp [n5] at h
   | some b=>
    have hs:=NM (d:=d) hk hc n5 hd
    cases b with
    | true=>
     simp only [n5,yb] at h;subst h;exact ⟨i,e.val,by simp [Instr.findNow,hs],hv⟩
    | false=>
     simp only [n5] at h;have ih:=HU hk hd ks vs es (i+1) r FL FM h;simpa [Instr.findNow,hs] using ih
def Di {P:yM} {kt:yp} {d:wz} (hu:P.underlying kt=some d) (hd:E8 d=true) (b:Bool) (k:ye):(Instr.checkKey b 10000 kt k).run P w= .ok () w:=by
 have:∀n,(Instr.checkKey b (n+1) kt k).run P w= .ok () w:=by
  intro n;cases d<;>simp [E8] at hd<;>simp [Instr.checkKey,run_underlying hu]
 exact this 9999
def aer {t kt e:yp} {d:wz} {ok:Bool} {hp:Hp} {ct:Nat} {vx vk v:AV} {x k zero:ye} (hh:aH O m S w hp ct) (hu:O.P.underlying t=some (.map kt e)) (hk:O.P.underlying kt=some d) (hd:E8 d=true)
  (UZ:fits d vk=true)
  (hz:(zeroValue e).run O.P w= .ok zero w) (hx:af O.ae m S w vx x) (U1:af O.ae m S w vk k) {z:AV} (J4:af O.ae m S w z zero)
  {r:Option AV}
  (hr:o7 hp vk vx=some r)
  (hv:(match r with | some u=>(bif ok then AV.ay [u,.bool true] else u) | none=>(bif ok then AV.ay [z,.bool false] else z))=v):
  ∃u,(Instr.lookup t x k ok).run O.P w= .ok u w/\af O.ae m S w v u:=by
 have fin:∀(u:AV) (uu:ye) (b:Bool),af O.ae m S w u uu->af O.ae m S w (bif ok then AV.ay [u,.bool b] else u) (if ok then .tuple #[uu,.bool b] else uu):=by
  intro u uu b h
  cases ok with
  | true=>simp only [ym,yQ,af,ak];exact ⟨_,rfl,_,_,rfl,h,_,_,rfl,rfl,rfl⟩
  | false=>simpa using h
 have body:∀(x':ye) (es:Array vC),((x'= .map none/\es=#[])\/∃b clock,x'= .map (some b)/\w.heap[b]? =some (.map es clock))->Found O.ae m S w (Instr.findNow d k es.toList 0) r->
   ∃u,(Instr.lookup t x' k ok).run O.P w= .ok u w/\af O.ae m S w v u:=by
  intro x' es hl hf
  cases r with
  | none=>
   have pN:Instr.findNow d k es.toList 0=some none:=hf;refine ⟨if ok then .tuple #[zero,.bool false] else zero,?_,by rw [<-hv];exact fin z zero false J4⟩
   rcases hl with ⟨rfl,rfl⟩ | ⟨b,clock,rfl,hb⟩
   ·have Jp:Instr.findNow d k [] 0=some none:=rfl;simp [Instr.lookup,run_underlying hu,Di hk hd,Instr.findKey,run_underlying hk,Jp,hz]
   ·simp [Instr.lookup,run_underlying hu,getObj,Sem.run,hb,Di hk hd,Instr.findKey,run_underlying hk,pN,hz]
  | some v'=>
   obtain ⟨j,u,h1,h2⟩:=hf;refine ⟨if ok then .tuple #[u,.bool true] else u,?_,by rw [<-hv];exact fin v' u true h2⟩
   rcases hl with ⟨rfl,rfl⟩ | ⟨b,clock,rfl,hb⟩
   ·have Jp:Instr.findNow d k [] 0=some none:=rfl;rw [show (#[]:Array vC).toList=[] from rfl,Jp] at h1;cases h1
   ·simp [Instr.lookup,run_underlying hu,getObj,Sem.run,hb,Di hk hd,Instr.findKey,run_underlying hk,h1]
 cases vx<;>simp only [o7,reduceCtorEq] at hr
 case gm=>
  simp only [yb] at hr;subst hr;simp only [af] at hx;subst hx;exact body _ #[] (.inl ⟨rfl,rfl⟩) rfl
 case map id=>
  simp only [af] at hx;obtain ⟨p,hm,rfl⟩:=hx
  split at hr
  case h_2=>cases hr
  rename_i J3 ks vs rh;obtain ⟨p',es,clock,ek,hb,h1,h2,_⟩:=hh.obj id _ _ rh hm;rw [hm] at ek;injection ek with ek;subst ek
  exact body _ es (.inr ⟨_,_,rfl,hb⟩) (HU U1 UZ ks vs es.toList 0 r h1 h2 hr)
 case fS ks vs=>
  simp only [af] at hx;obtain ⟨b,es,clock,rfl,_,_,_,hb,h1,h2⟩:=hx;exact body _ es (.inr ⟨_,_,rfl,hb⟩) (HU U1 UZ ks vs es.toList 0 r h1 h2 hr)
end
end
section
open Go
def Ay:∀(k1 k2:List Nat) (a b:List AV) (r:Bool),dd (k1++k2) a b=some r->
  ∃r1 r2,dd k1 (a.take k1.length) (b.take k1.length)=some r1/\dd k2 (a.drop k1.length) (b.drop k1.length)=some r2/\r=(r1&&r2)
 | [],k2,a,b,r,h=>⟨true,r,by simp [dd],by simpa using h,by simp⟩
 | k::k1,k2,[],b,r,h=>by
  simp only [yH] at h;unfold dd at h
  grind
 | k::k1,k2,x::a,[],r,h=>by
  unfold dd at h
  grind
 | k::k1,k2,x::a,y::b,r,h=>by
  have step:∀(q:Bool) (f:Bool->Bool),(match dd (k1++k2) a b with | some r=>some (f r) | none=>none)=some q->∃r0,dd (k1++k2) a b=some r0/\q=f r0:=by grind
  unfold dd at h
  split at h
  ·grind
  ·rename_i e1 e2 e3;obtain ⟨rfl,rfl⟩:=e1;obtain ⟨rfl,rfl⟩:=e2;obtain ⟨rfl,rfl⟩:=e3;obtain ⟨r0,h0,rfl⟩:=step r _ h;obtain ⟨r1,r2,h1,h2,rfl⟩:=Ay k1 k2 _ _ r0 h0;exact ⟨_,r2,by simp only [yz,xK,dd,h1],by simpa using h2,(ue _ _ _).symm⟩
  ·rename_i e1 e2 e3;obtain ⟨rfl,rfl⟩:=e1;obtain ⟨rfl,rfl⟩:=e2;obtain ⟨rfl,rfl⟩:=e3
   split at h
   ·rename_i hk;obtain ⟨r0,h0,rfl⟩:=step r _ h;obtain ⟨r1,r2,h1,h2,rfl⟩:=Ay k1 k2 _ _ r0 h0;exact ⟨_,r2,by simp only [yz,xK,dd,h1,hk,yQ],by simpa using h2,(ue _ _ _).symm⟩
   ·cases h
  ·rename_i e1 e2 e3;obtain ⟨rfl,rfl⟩:=e1;obtain ⟨rfl,rfl⟩:=e2;obtain ⟨rfl,rfl⟩:=e3;obtain ⟨r0,h0,rfl⟩:=step r _ h;obtain ⟨r1,r2,h1,h2,rfl⟩:=Ay k1 k2 _ _ r0 h0;exact ⟨_,r2,by simp only [yz,xK,dd,h1],by simpa using h2,(ue _ _ _).symm⟩
  ·cases h
def LD:∀(ks:List Nat) (a b:List AV) (r:Bool),dd ks a b=some r->a.length=ks.length/\b.length=ks.length
 | [],a,b,r,h=>by
  unfold dd at h
  grind
 | k::ks,[],b,r,h=>by
  unfold dd at h
  grind
 | k::ks,x::a,[],r,h=>by
  unfold dd at h
  grind
 | k::ks,x::a,y::b,r,h=>by
  have:∃r0,dd ks a b=some r0:=by
   cases he:dd ks a b with
   | some r0=>exact ⟨r0,rfl⟩
   | none=>unfold dd at h;split at h<;>simp_all
  obtain ⟨r0,h0⟩:=this
  have:=LD ks a b r0 h0
  simp [this]
def zV (P:yM) (t:yp) (x:ye) (xs:List ye):Prop:=(cQ P t=some true/\x= .agg xs.toArray)\/(cQ P t=some false/\xs=[x])
section
variable {P:yM} {ae:Nat->Nat} {m:Mp} {S:Nat->Prop} {w:yg}
def G5 {t:yp} {ag:Bool} (ha:cQ P t=some ag):(isAgg t).run P w= .ok ag w:=by
 unfold cQ at ha
 cases hu:P.underlying t with
 | none=>simp [hu] at ha
 | some d=>cases d<;>simp_all [isAgg,underlying]
def Z7 {t:yp} {s o:Nat} {xs:List ye} (hz:bQ P t=some s) (ha:∃ag,cQ P t=some ag) (h1:cQ P t=some false->s=1) (hl:o+s<=xs.length):
  ∃u,(part t xs.toArray o).run P w= .ok u w/\zV P t u ((xs.drop o).take s):=by
 obtain ⟨ag,ha⟩:=ha
 cases ag with
 | true=>
  refine ⟨.agg ((xs.drop o).take s).toArray,?_,.inl ⟨ha,rfl⟩⟩;simp [part,G5 ha,jw hz,List.extract_eq_take_drop]
 | false=>
  have hs:=h1 ha;subst hs;have aU:o<xs.length:=by omega
  refine ⟨xs[o],?_,.inr ⟨ha,?_⟩⟩
  ·simp [part,G5 ha,xP aU]
  ·rw [List.drop_eq_getElem_cons aU,xK,List.take_zero]
def Yt {n:Nat} {t:yp} {ks:List Nat} (h:kinds P n t=some ks):∃ag,cQ P t=some ag/\(ag=false->ks.length=1):=by
 cases n with
 | zero=>simp [kinds] at h
 | succ n=>
  unfold kinds at h;unfold cQ
  split at h<;>simp_all
  all_goals (rw [<-h];rfl)
def I4 (P:yM) (ae:Nat->Nat) (m:Mp) (S:Nat->Prop) (w:yg) (n:Nat):Prop:=
 ∀(t:yp) (ks:List Nat),kinds P n t=some ks->P.stoodInHeld t=false->∀(d:Nat),n<=d->∀(xs ys:List ye) (cs cK:List AV) (r:Bool) (x y:ye),
  ak ae m S w cs xs->ak ae m S w cK ys->dd ks cs cK=some r->zV P t x xs->zV P t y ys->(Op.equalIn d t x y).run P w= .ok r w
def MQ {n:Nat} (ih:I4 P ae m S w n) {t:yp} {ks:List Nat} {s o d:Nat} (hk:kinds P n t=some ks) (aQ:P.stoodInHeld t=false) (hz:bQ P t=some s) (hs:ks.length=s) (hd:n<=d)
  {xs ys:List ye} {cs cK:List AV} (h1:ak ae m S w cs xs) (h2:ak ae m S w cK ys) {r:Bool} (he:dd ks ((cs.drop o).take s) ((cK.drop o).take s)=some r):
  ∃u u',(part t xs.toArray o).run P w= .ok u w/\(part t ys.toArray o).run P w= .ok u' w/\(Op.equalIn d t u u').run P w= .ok r w:=by
 obtain ⟨ag,ha,h1s⟩:=Yt hk;obtain ⟨l1,l2⟩:=LD _ _ _ _ he;have q1:=fI _ _ h1;have q2:=fI _ _ h2;simp only [List.length_take,List.length_drop] at l1 l2;have pO:cQ P t=some false->s=1:=fun h=>by
  grind
 have kU:o+s<=xs.length\/s=0:=by omega
 have mS:o+s<=ys.length\/s=0:=by omega
 have get:∀(zs:List ye),(o+s<=zs.length\/s=0)->∃u,(part t zs.toArray o).run P w= .ok u w/\zV P t u ((zs.drop o).take s):=by
  intro zs hl;rcases hl with hl | hl
  ·exact Z7 hz ⟨ag,ha⟩ pO hl
  ·subst hl
   cases ag with
   | false=>have:=pO ha;omega
   | true=>
    refine ⟨.agg ((zs.drop o).take 0).toArray,?_,.inl ⟨ha,rfl⟩⟩;simp [part,G5 ha,jw hz]
 obtain ⟨u,p1,v1⟩:=get xs kU;obtain ⟨u',p2,v2⟩:=get ys mS;exact ⟨u,u',p1,p2,ih t ks hk aQ d hd _ _ _ _ r u u' (sO s (AN o h1)) (sO s (AN o h2)) he v1 v2⟩
def LF {n:Nat} (ih:I4 P ae m S w n) {d:Nat} (hd:n<=d) {xs ys:List ye} {cs cK:List AV} (h1:ak ae m S w cs xs) (h2:ak ae m S w cK ys):
  ∀(fs:List vK) (o:Nat) (ks:List Nat) (r:Bool),sI P (fun u=>kinds P n u) fs o=some ks->dd ks (cs.drop o) (cK.drop o)=some r->(Op.eqFields d xs.toArray ys.toArray fs).run P w= .ok r w
 | [],o,ks,r,h,he=>by
  simp only [sI,yb] at h;unfold dd at he
  split at he<;>simp_all [Op.eqFields]
 | f::fs,o,ks,r,h,he=>by
  simp only [sI] at h
  cases hk:kinds P n f.type with
  | none=>simp [hk] at h
  | some kf=>
   cases hz:bQ P f.type with
   | none=>simp [hk,hz] at h
   | some s=>
    simp only [hk,hz] at h
    cases hc:(f.name != "_"&&yq f.offset o&&yq kf.length s&& !P.stoodInHeld f.type) with
    | false=>rw [hc] at h;cases h
    | true=>
     rw [hc] at h;simp only [ym] at h;simp only [yf,bne_iff_ne,uf] at hc;obtain ⟨⟨⟨hn,ho⟩,hl⟩,aQ⟩:=hc;have ho:=yk ho;have hl:=yk hl
     cases hr:sI P (fun u=>kinds P n u) fs (o+s) with
     | none=>simp [hr] at h
     | some kr=>
      simp only [hr,yb] at h;subst h;obtain ⟨r1,r2,e1,e2,rfl⟩:=Ay _ _ _ _ _ he;rw [hl] at e1 e2;rw [wV,wV] at e2;obtain ⟨u,u',p1,p2,p3⟩:=MQ ih (o:=o) hk aQ hz hl hd h1 h2 e1;have rest:=LF ih hd h1 h2 fs (o+s) kr r2 hr e2;subst ho;simp only [Op.eqFields]
      cases r1 with
      | true=>simp [hn,p1,p2,p3,rest]
      | false=>simp [hn,p1,p2,p3]
def L3 {n:Nat} (ih:I4 P ae m S w n) {d:Nat} (hd:n<=d) {xs ys:List ye} {cs cK:List AV} (h1:ak ae m S w cs xs) (h2:ak ae m S w cK ys)
  {e:yp} {ks:List Nat} {s:Nat} (hk:kinds P n e=some ks) (aQ:P.stoodInHeld e=false) (hz:bQ P e=some s) (hl:ks.length=s):
  ∀(k j:Nat) (r:Bool),dd (List.replicate k ks).flatten (cs.drop (j*s)) (cK.drop (j*s))=some r->(Op.eqItems d e s xs.toArray ys.toArray (List.range' j k)).run P w= .ok r w
 | 0,j,r,he=>by
  unfold dd at he
  split at he<;>simp_all [Op.eqItems]
 | k+1,j,r,he=>by
  obtain ⟨r1,r2,e1,e2,rfl⟩:=Ay _ _ _ _ _ he;rw [hl] at e1 e2;rw [wV,wV,show j*s+s=(j+1)*s by rw [vd,Nat.one_mul]] at e2;obtain ⟨u,u',p1,p2,p3⟩:=MQ ih (o:=j*s) hk aQ hz hl hd h1 h2 e1;have rest:=L3 ih hd h1 h2 hk aQ hz hl k (j+1) r2 e2;rw [List.range'_succ];simp only [Op.eqItems]
  cases r1 with
  | true=>simp [p1,p2,p3,rest]
  | false=>simp [p1,p2,p3]
def IM:∀(n:Nat) (t:yp) (ks:List Nat),kinds P n t=some ks->P.stoodInHeld t=false->∀(d:Nat),n<=d->∀(xs ys:List ye) (cs cK:List AV) (r:Bool) (x y:ye),
  ak ae m S w cs xs->ak ae m S w cK ys->dd ks cs cK=some r->zV P t x xs->zV P t y ys->(Op.equalIn d t x y).run P w= .ok r w
 | 0,t,ks,h,_,_,_,_,_,_,_,_,_,_,_,_,_,_,_=>by simp [kinds] at h
 | n+1,t,ks,h,aQ,0,hd,_,_,_,_,_,_,_,_,_,_,_,_=>by omega
 | n+1,t,ks,h,aQ,d+1,hd,xs,ys,cs,cK,r,x,y,h1,h2,he,hx,hy=>by
  unfold kinds at h;have one:∀{k:Nat},ks=[k]->cQ P t=some false->∃c c',cs=[c]/\cK=[c']/\af ae m S w c x/\af ae m S w c' y:=by
   intro k hk ha;rcases hx with ⟨hx,_⟩ | ⟨_,rfl⟩
   ·grind
   rcases hy with ⟨hy,_⟩ | ⟨_,rfl⟩
   ·grind
   have l1:=fI _ _ h1;have l2:=fI _ _ h2
   match cs,cK,l1,l2 with
   | [c],[c'],_,_=>
    simp only [ak] at h1 h2
    grind
  split at h
  ·rename_i hu;simp only [yb] at h;have ha:cQ P t=some false:=by simp [cQ,hu]
   obtain ⟨c,c',rfl,rfl,r1,r2⟩:=one h.symm ha;subst h;unfold dd at he
   split at he<;>simp_all [dd]
   subst he;simp only [af] at r1 r2;subst r1;subst r2;simp [Op.equalIn,run_underlying hu]
  ·rename_i k0 hu;simp only [yb] at h;have ha:cQ P t=some false:=by simp [cQ,hu]
   obtain ⟨c,c',rfl,rfl,r1,r2⟩:=one h.symm ha;subst h;unfold dd at he
   split at he<;>simp_all [dd]
   obtain ⟨hk,he⟩:=he;subst he;simp only [af] at r1 r2;subst r1;subst r2;simp [Op.equalIn,run_underlying hu]
  ·rename_i hu;simp only [yb] at h;have ha:cQ P t=some false:=by simp [cQ,hu]
   obtain ⟨c,c',rfl,rfl,r1,r2⟩:=one h.symm ha;subst h;unfold dd at he
   split at he<;>simp_all [dd]
   subst he;simp only [af] at r1 r2;obtain ⟨s,rfl,rfl⟩:=r1;obtain ⟨s',rfl,rfl⟩:=r2;simp only [Op.equalIn,Sem.run_bind,run_underlying hu,Result.andThen_ok,Sem.run_pure,MP];rfl
  ·rename_i fs hu;have ha:cQ P t=some true:=by simp [cQ,hu]
   rcases hx with ⟨_,rfl⟩ | ⟨hx,_⟩
   ·rcases hy with ⟨_,rfl⟩ | ⟨hy,_⟩
    ·have hf:P.fieldsOf t=fs:=by simp [Program.fieldsOf,hu]
     rw [run_equalIn_struct w d t _ _ (by rw [hf];exact hu) aQ,hf]
     exact LF (IM n) (by omega) h1 h2 fs.toList 0 ks r h (by simpa using he)
    ·rw [ha] at hy;cases hy
   ·rw [ha] at hx;cases hx
  ·rename_i k e hu;have ha:cQ P t=some true:=by simp [cQ,hu]
   rcases hx with ⟨_,rfl⟩ | ⟨hx,_⟩
   ·rcases hy with ⟨_,rfl⟩ | ⟨hy,_⟩
    ·cases hk:kinds P n e with
     | none=>simp [hk] at h
     | some ke=>
      cases hz:bQ P e with
      | none=>simp [hk,hz] at h
      | some s=>
       simp only [hk,hz] at h
       cases hc:(yq ke.length s&& !P.stoodInHeld e) with
       | false=>rw [hc] at h;cases h
       | true=>
        rw [hc] at h;simp only [ym,yb] at h;subst h;simp only [yf,uf] at hc;have fH:=hz;unfold bQ at fH
        cases hi:P.info? e with
        | none=>simp [hi] at fH
        | some i=>
         simp only [hi,yb] at fH;have pM:P.cellsOf e=s:=by simp [Program.cellsOf,hi,fH]
         rw [run_equalIn_array w d _ _ hu hi,pM,List.range_eq_range'];exact L3 (IM n) (by omega) h1 h2 hk hc.2 hz (yk hc.1) k 0 r (by simpa using he)
    ·rw [ha] at hy;cases hy
   ·rw [ha] at hx;cases hx
  ·cases h
end
end
section
open Go
def cL {tm:Env} {hp:Hp} {v:AV} (h:bc tm hp bad=some v):False:=by simp [bad,bc] at h
section
variable {O:aZ} {H:Hint} {m:Mp} {S:Nat->Prop} {w:yg} {tm:Env} {a:Act} {hp:Hp} {ct:Nat}
def acb {ae:Nat->Nat} {va vb v:AV} {x y:ye} (hx:af ae m S w va x) (hy:af ae m S w vb y) (h:VE.min2 va vb=some v):∃u,(Builtin.min2 x y).run O.P w= .ok u w/\af ae m S w v u:=by
 unfold VE.min2 at h
 split at h
 ·simp only [af] at hx hy;subst hx;subst hy;simp only [yb] at h;subst h;exact ⟨_,by simp only [Builtin.min2,Sem.run_pure];rfl,by simp only [af]⟩
 ·rename_i k p k' q;simp only [af] at hx hy;subst hx;subst hy
  cases ho:k.format.order p q with
  | none=>simp [ho] at h
  | some c=>cases c<;>(simp only [ho,yb] at h;subst h;exact ⟨_,by simp only [Builtin.min2,ho,Sem.run_pure];rfl,by simp only [af]⟩)
 ·cases h
def acd {ae:Nat->Nat} {va vb v:AV} {x y:ye} (hx:af ae m S w va x) (hy:af ae m S w vb y) (h:VE.max2 va vb=some v):∃u,(Builtin.max2 x y).run O.P w= .ok u w/\af ae m S w v u:=by
 unfold VE.max2 at h
 split at h
 ·simp only [af] at hx hy;subst hx;subst hy;simp only [yb] at h;subst h;exact ⟨_,by simp only [Builtin.max2,Sem.run_pure];rfl,by simp only [af]⟩
 ·rename_i k p k' q;simp only [af] at hx hy;subst hx;subst hy
  cases ho:k.format.order p q with
  | none=>simp [ho] at h
  | some c=>cases c<;>(simp only [ho,yb] at h;subst h;exact ⟨_,by simp only [Builtin.max2,ho,Sem.run_pure];rfl,by simp only [af]⟩)
 ·cases h
def It {ae:Nat->Nat} {f:AV->AV->Option AV} {g:ye->ye->Sem ye} (U2:∀va vb v x y,af ae m S w va x->af ae m S w vb y->f va vb=some v->∃u,(g x y).run O.P w= .ok u w/\af ae m S w v u):
  ∀(l:List AV) (us:List ye) (va v:AV) (x:ye),af ae m S w va x->ak ae m S w l us->o6 f va l=some v->∃u,(us.foldlM g x).run O.P w= .ok u w/\af ae m S w v u
 | [],us,va,v,x,hx,hl,h=>by
  simp only [ak] at hl;subst hl;simp only [o6,yb] at h;subst h;exact ⟨x,by simp,hx⟩
 | b::l,us,va,v,x,hx,hl,h=>by
  simp only [ak] at hl;obtain ⟨u,r,rfl,hu,hr⟩:=hl;simp only [o6] at h
  cases hf:f va b with
  | none=>simp [hf] at h
  | some c=>
   simp only [hf] at h;obtain ⟨u1,h1,h2⟩:=U2 _ _ _ _ _ hx hu hf;obtain ⟨u2,h3,h4⟩:=It U2 l r c v u1 h2 hr h;exact ⟨u2,by simp [h1,h3],h4⟩
def IN {t:yp} {vx v:AV} {x:ye} {ty:yp} (hh:aH O m S w hp ct) (hx:af O.ae m S w vx x)
  {k:Nat} (hu:(k=0/\O.P.underlying t=some .string)\/(k=1/\∃e,O.P.underlying t=some (.slice e))\/(k=2/\∃kt e,O.P.underlying t=some (.map kt e)))
  (h:eY hp k vx=some v):∃u,(Builtin.len_ #[t] ty #[x]).run O.P w= .ok u w/\af O.ae m S w v u:=by
 rcases hu with ⟨rfl,hu⟩ | ⟨rfl,e,hu⟩ | ⟨rfl,kt,e,hu⟩
 all_goals cases vx<;>simp only [eY,reduceCtorEq] at h
 case inl.str s=>
  simp only [af] at hx;obtain ⟨b,rfl,rfl⟩:=hx;simp only [yb] at h;subst h;refine ⟨_,by simp [Builtin.len_,run_underlying hu];rfl,?_⟩
  simp only [af,goInt];rw [Lib.size_eq];simp
 case inr.inl.ab=>
  simp only [af] at hx;subst hx;simp only [yb] at h;subst h;exact ⟨_,by simp [Builtin.len_,run_underlying hu];rfl,by simp [af,goInt]⟩
 case inr.inl.aC ex n cs=>
  simp only [af] at hx;rcases hx with ⟨b,o,c,rfl,_⟩ | ⟨a,rfl,rfl,rfl⟩
  all_goals
   simp only [yb] at h;subst h;exact ⟨_,by simp [Builtin.len_,run_underlying hu];rfl,by simp [af,goInt]⟩
 case inr.inl.aq id o n=>
  simp only [af] at hx;obtain ⟨p,c,_,rfl,_⟩:=hx;simp only [yb] at h;subst h;exact ⟨_,by simp [Builtin.len_,run_underlying hu];rfl,by simp [af,goInt]⟩
 case inr.inr.gm=>
  simp only [af] at hx;subst hx;simp only [yb] at h;subst h;exact ⟨_,by simp [Builtin.len_,run_underlying hu];rfl,by simp [af,goInt]⟩
 case inr.inr.fS ks vs=>
  simp only [af] at hx;obtain ⟨b,es,clock,rfl,_,_,_,hb,h1,_⟩:=hx;simp only [yb] at h;subst h;refine ⟨_,by simp [Builtin.len_,run_underlying hu,getObj,Sem.run,hb];rfl,?_⟩
  have:=fI _ _ h1
  simp only [af,goInt];rw [<-this];simp
 case inr.inr.map id=>
  simp only [af] at hx;obtain ⟨p,hm,rfl⟩:=hx
  split at h
  case h_2=>cases h
  rename_i J3 ks vs rh;simp only [yb] at h;subst h;obtain ⟨p',es,clock,ek,hb,h1,_⟩:=hh.obj id _ _ rh hm;rw [hm] at ek;injection ek with ek;subst ek
  refine ⟨_,by simp [Builtin.len_,run_underlying hu,getObj,Sem.run,hb];rfl,?_⟩
  have:=fI _ _ h1
  simp only [af,goInt];rw [<-this];simp
end
end
section
open Go
section
variable {O:aZ} {H:Hint} {m:Mp} {S:Nat->Prop} {w:yg} {tm:Env} {a:Act} {hp:Hp} {ct:Nat}
def sT {t:yp} {z:AV} (h:jh O.P t=some z):∃v,(zeroValue t).run O.P w= .ok v w/\z=dl v:=by
 unfold jh at h
 cases hi:O.P.info? t with
 | none=>simp [hi] at h
 | some i=>
  simp only [hi] at h
  cases hz:i.zero with
  | none=>simp [hz] at h
  | some v=>
   simp only [hz,yb] at h;exact ⟨v,by simp [zeroValue,typeInfo,hi,hz],h.symm⟩
def Reads (O:aZ) (m:Mp) (S:Nat->Prop) (w:yg) (a:Act) (o:yL) (v:AV):Prop:=
 ∃u,(execOp a.eval o).run O.P w= .ok (.value u) w/\af O.ae m S w v u
def gG {o:yL} {v:AV} {s:Sem ye} (he:execOp a.eval o=(do pure (.value (<-s)):Sem Next)) (h:∃u,s.run O.P w= .ok u w/\af O.ae m S w v u):Reads O m S w a o v:=by
 obtain ⟨u,h1,h2⟩:=h;exact ⟨u,by rw [he];simp [h1],h2⟩
def Z8 {o:yL} {op:BinOp} {t ty:yp} {x y:xh} {k:Nat} {v:AV} (hH:dW O H) (ht:bJ O m S w tm a.tmps) (ho:o.op= .binOp op t x y ty)
  (hv:bc tm hp (aV O.P H k o)=some v):Reads O m S w a o v:=by
 have rx:=bN hH ht x;have ry:=bN hH ht y;have guard:∀{u:ye},(∀xs ys,¬(a.eval x= .agg xs/\a.eval y= .agg ys))\/O.P.eqGuardType O.P.depth t=false->a.eval x≠.nilIface->(xo op t (a.eval x) (a.eval y)).run O.P w= .ok u w->
   (do eqGuard op t x y (a.eval x) (a.eval y);xo op t (a.eval x) (a.eval y):Sem ye).run O.P w= .ok u w:=by
  intro u h1 h2 h3
  simp only [Sem.run_bind,XD (P:=O.P) (w:=w) (t:=t) (op:=op) (x:=x) (y:=y) (h1.symm) h2,Result.andThen_ok,h3]
 have plain:bc tm hp (.bin op (aF H x) (aF H y))=some v->Reads O m S w a o v:=by
  intro hv;simp only [bc] at hv;obtain ⟨u,h1,h2⟩:=Z4 (P:=O.P) (t:=t) rx ry hv
  refine gG (s:=do eqGuard op t x y (a.eval x) (a.eval y);xo op t (a.eval x) (a.eval y)) (by simp only [execOp,ho]) ⟨u,guard (.inl ?_) ?_ h1,h2⟩
  ·rintro xs ys ⟨e1,e2⟩;rw [e1] at rx;unfold VE.binOp at hv
   split at hv
   ·rename_i h3 _;rw [h3] at rx;simp [af] at rx
   ·rename_i h3 _;rw [h3] at rx;simp [af] at rx
   ·rename_i h3 _;rw [h3] at rx;simp [af] at rx
   ·cases hv
  ·intro e1;rw [e1] at rx;unfold VE.binOp at hv
   split at hv
   ·rename_i h3 _;rw [h3] at rx;simp [af] at rx
   ·rename_i h3 _;rw [h3] at rx;simp [af] at rx
   ·rename_i h3 _;rw [h3] at rx;simp [af] at rx
   ·cases hv
 have other:∀(ne:Bool) (kd:VE.FI),(op= .eql/\ne=false\/op= .neq/\ne=true)->(∀r,gN kd (ao tm (aF H x)) (ao tm (aF H y))=some r->(Op.equal t (a.eval x) (a.eval y)).run O.P w= .ok r w/\
    ((∀xs ys,¬(a.eval x= .agg xs/\a.eval y= .agg ys))\/O.P.eqGuardType O.P.depth t=false)/\a.eval x≠.nilIface/\
    ∀q:Bool,(op= .eql->xo op t (a.eval x) (a.eval y)=(do pure (.bool (<-Op.equal t (a.eval x) (a.eval y)))))/\(op= .neq->xo op t (a.eval x) (a.eval y)=(do pure (.bool (!(<-Op.equal t (a.eval x) (a.eval y)))))))->
   bc tm hp (.eq ne kd (aF H x) (aF H y))=some v->Reads O m S w a o v:=by
  intro ne kd gC rA hv;simp only [bc] at hv
  cases he:gN kd (ao tm (aF H x)) (ao tm (aF H y)) with
  | none=>simp [he] at hv
  | some r=>
   simp only [he,yb] at hv;subst hv;obtain ⟨h1,h2,h3,h4⟩:=rA r he;obtain ⟨h5,h6⟩:=h4 true
   refine gG (s:=do eqGuard op t x y (a.eval x) (a.eval y);xo op t (a.eval x) (a.eval y)) (by simp only [execOp,ho]) ⟨.bool (ne !=r),guard h2 h3 ?_,by simp [af]⟩
   rcases gC with ⟨rfl,rfl⟩ | ⟨rfl,rfl⟩
   ·rw [h5 rfl];simp [h1]
   ·rw [h6 rfl];simp [h1]
 have pB:O.P.underlying t=some .bool->∀r,gN .b (ao tm (aF H x)) (ao tm (aF H y))=some r->∃p q,a.eval x= .bool p/\a.eval y= .bool q/\(Op.equal t (a.eval x) (a.eval y)).run O.P w= .ok r w:=by
  intro hu r he;cases hx:ao tm (aF H x)<;>cases hy:ao tm (aF H y)<;>rw [hx,hy] at he<;>simp only [gN,reduceCtorEq] at he
  rw [hx] at rx;rw [hy] at ry;simp only [af] at rx ry;simp only [yb] at he;refine ⟨_,_,rx,ry,?_⟩;rw [rx,ry,DU,<-he];exact aek hu
 have pS:∀e,O.P.underlying t=some (.slice e)->∀r,gN .sl (ao tm (aF H x)) (ao tm (aF H y))=some r->∃p n c q n' c',a.eval x= .slice p n c/\a.eval y= .slice q n' c'/\(Op.equal t (a.eval x) (a.eval y)).run O.P w= .ok r w:=by
  intro e hu r he;have h1:=ab8 hu rx ry he;have sl:∀{v:AV} {u:ye},af O.ae m S w v u->(v= .ab\/(∃a b c,v= .aC a b c)\/∃a b c,v= .aq a b c)->∃p n c,u= .slice p n c:=by
   intro v u hr hv;rcases hv with rfl | ⟨_,_,_,rfl⟩ | ⟨_,_,_,rfl⟩
   ·simp only [af] at hr;exact ⟨_,_,_,hr⟩
   ·simp only [af] at hr;rcases hr with ⟨b,o,c,hr,_⟩ | ⟨_,hr,_⟩<;>exact ⟨_,_,_,hr⟩
   ·simp only [af] at hr;obtain ⟨b,c,_,hr,_⟩:=hr;exact ⟨_,_,_,hr⟩
  have cR:(ao tm (aF H x)= .ab\/(∃a b c,ao tm (aF H x)= .aC a b c)\/∃a b c,ao tm (aF H x)= .aq a b c)/\
    (ao tm (aF H y)= .ab\/(∃a b c,ao tm (aF H y)= .aC a b c)\/∃a b c,ao tm (aF H y)= .aq a b c):=by
   cases hx:ao tm (aF H x)<;>cases hy:ao tm (aF H y)<;>rw [hx,hy] at he<;>simp [gN] at he ⊢
  obtain ⟨p,n,c,e1⟩:=sl rx cR.1;obtain ⟨q,n',c',e2⟩:=sl ry cR.2;exact ⟨p,n,c,q,n',c',e1,e2,h1⟩
 have pF:∀ps rs vr,O.P.underlying t=some (.func ps rs vr)->∀r,gN .fn (ao tm (aF H x)) (ao tm (aF H y))=some r->
   ((a.eval x= .nilFunc\/∃f p q,a.eval x= .func f p q)/\(a.eval y= .nilFunc\/∃f p q,a.eval y= .func f p q))/\(Op.equal t (a.eval x) (a.eval y)).run O.P w= .ok r w:=by
  intro ps rs vr hu r he;have h1:=ab9 hu rx ry he;have sl:∀{v:AV} {u:ye},af O.ae m S w v u->(v= .eZ\/(∃a b c,v= .fn a b c))->(u= .nilFunc\/∃f p q,u= .func f p q):=by
   intro v u hr hv;rcases hv with rfl | ⟨f,_,_,rfl⟩
   ·simp only [af] at hr;exact .inl hr
   ·cases f with
    | f g=>simp only [af] at hr;obtain ⟨b,c,hr,_⟩:=hr;exact .inr ⟨_,_,_,hr⟩
    | y l=>simp only [af] at hr;obtain ⟨b,_,hr⟩:=hr;exact .inr ⟨_,_,_,hr⟩
  have cR:(ao tm (aF H x)= .eZ\/(∃a b c,ao tm (aF H x)= .fn a b c))/\(ao tm (aF H y)= .eZ\/(∃a b c,ao tm (aF H y)= .fn a b c)):=by
   cases hx:ao tm (aF H x)<;>cases hy:ao tm (aF H y)<;>rw [hx,hy] at he<;>simp [gN] at he ⊢
  exact ⟨⟨sl rx cR.1,sl ry cR.2⟩,h1⟩
 have pA:∀ks,kinds O.P 20 t=some ks->cQ O.P t=some true->O.P.stoodInHeld t=false->∀r,gN (.ag ks) (ao tm (aF H x)) (ao tm (aF H y))=some r->∃p q,a.eval x= .agg p/\a.eval y= .agg q/\(Op.equal t (a.eval x) (a.eval y)).run O.P w= .ok r w:=by
  intro ks hk ha aQ r he;cases hx:ao tm (aF H x)<;>cases hy:ao tm (aF H y)<;>rw [hx,hy] at he<;>simp only [gN,reduceCtorEq] at he
  rw [hx] at rx;rw [hy] at ry;simp only [af] at rx ry;obtain ⟨p,e1,h1⟩:=rx;obtain ⟨q,e2,h2⟩:=ry;refine ⟨p,q,e1,e2,?_⟩;rw [e1,e2,DU];exact IM 20 t ks hk aQ 10000 (by omega) _ _ _ _ r _ _ h1 h2 he (.inl ⟨ha,by simp⟩) (.inl ⟨ha,by simp⟩)
 have eqs:∀(ne:Bool),(op= .eql/\ne=false\/op= .neq/\ne=true)->bc tm hp (mv O.P H ne op t x y)=some v->Reads O m S w a o v:=by
  intro ne gC hv;have agg:cQ O.P t=some true->bc tm hp (nl O.P H ne t x y)=some v->Reads O m S w a o v:=by
   intro ha hv;unfold nl at hv
   cases hk:kinds O.P 20 t with
   | none=>rw [hk] at hv;exact (cL hv).elim
   | some ks=>
    simp only [hk] at hv
    cases hc:(O.P.stoodInHeld t||O.P.eqGuardType O.P.depth t) with
    | true=>rw [hc] at hv;exact (cL hv).elim
    | false=>
     rw [hc] at hv;simp only [yu] at hv;simp only [Bool.or_eq_false_iff] at hc;refine other ne (.ag ks) gC (fun r hr=>?_) hv;obtain ⟨p,q,e1,e2,h1⟩:=pA ks hk ha hc.1 r hr;refine ⟨h1,.inr hc.2,by rw [e1];simp,fun _=>?_⟩
     rw [e1,e2];exact ⟨fun e=>by subst e;rfl,fun e=>by subst e;rfl⟩
  unfold mv at hv
  split at hv
  ·exact plain hv
  ·exact plain hv
  ·exact plain hv
  ·rename_i hu;refine other ne .b gC (fun r hr=>?_) hv;obtain ⟨p,q,e1,e2,h1⟩:=pB hu r hr;refine ⟨h1,.inl (by rw [e1];simp),by rw [e1];simp,fun _=>?_⟩
   rw [e1,e2];exact ⟨fun e=>by subst e;rfl,fun e=>by subst e;rfl⟩
  ·rename_i e hu;refine other ne .sl gC (fun r hr=>?_) hv;obtain ⟨p,n,c,q,n',c',e1,e2,h1⟩:=pS e hu r hr;refine ⟨h1,.inl (by rw [e1];simp),by rw [e1];simp,fun _=>?_⟩
   rw [e1,e2];exact ⟨fun e=>by subst e;rfl,fun e=>by subst e;rfl⟩
  ·rename_i ps rs vr hu;refine other ne .fn gC (fun r hr=>?_) hv;obtain ⟨⟨e1,e2⟩,h1⟩:=pF ps rs vr hu r hr;refine ⟨h1,.inl ?_,?_,fun _=>?_⟩
   ·rcases e1 with e1 | ⟨_,_,_,e1⟩<;>rw [e1]<;>simp
   ·rcases e1 with e1 | ⟨_,_,_,e1⟩<;>rw [e1]<;>simp
   ·rcases e1 with e1 | ⟨_,_,_,e1⟩<;>rcases e2 with e2 | ⟨_,_,_,e2⟩<;>rw [e1,e2]<;>exact ⟨fun e=>by subst e;rfl,fun e=>by subst e;rfl⟩
  ·rename_i fs hu;exact agg (by simp [cQ,hu]) hv
  ·rename_i k0 e hu;exact agg (by simp [cQ,hu]) hv
  ·exact (cL hv).elim
 cases op
 case eql=>exact eqs false (.inl ⟨rfl,rfl⟩) (by simpa only [aV,ho] using hv)
 case neq=>exact eqs true (.inr ⟨rfl,rfl⟩) (by simpa only [aV,ho] using hv)
 all_goals exact plain (by simpa only [aV,ho] using hv)
end
end
end VE
