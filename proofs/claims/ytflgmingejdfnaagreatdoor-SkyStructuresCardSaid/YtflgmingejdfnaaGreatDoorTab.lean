import Derived.WideLaws
import Derived.Maps.Keyed
import Derived.ChangeKeysEq
import Derived.Test.YtflgmingejdfnaaGreatDoorTaa
set_option linter.all false
set_option maxRecDepth 100000
open Bool renaming and_assoc→vZ,and_eq_true→ye,false_eq_true→yq,not_eq_true'→ua
open Go renaming Addr→vA,Field→vK,IntKind→yG,MapEntry→vB,Oper→yI,Operand→y8,Program→yJ,TypeDesc→wq,TypeId→yj,Value→yd,World→yf,binOp→xk,sizeOf→vl
open List renaming cons_append→yH,drop_drop→wR,getElem?_eq_getElem→xP,length_cons→yx,map_cons→yP,take_succ_cons→xQ
open Nat renaming add_assoc→vG,add_mul→w7,beq→yk,ble→yy,blt→yA,eq_of_beq_eq_true→yh,le_of_ble_eq_true→yo,le_refl→yC
open Option renaming map_none→wE,map_some→xN
open Option.some renaming injEq→yb
open UInt8 renaming toNat→yK
namespace VE
section
open Go
section
variable {ae:Nat->Nat} {P:yJ} {m:Mp} {S:Nat->Prop} {w:yf} {t:yj}
def XY {op:BinOp} {x y:y8} {a b:yd} (h:P.eqGuardType P.depth t=false\/∀xs ys,¬(a= .agg xs/\b= .agg ys)) (hn:a≠.nilIface):
  (eqGuard op t x y a b).run P w= .ok () w:=by
 unfold eqGuard;cases op
 all_goals first
  | rfl
  | (
    cases a
    all_goals first
     | rfl
     | exact absurd rfl hn
     | (
      cases b
      all_goals first
       | rfl
       | (
         rcases h with h | h
         ·simp [h]
         ·exact absurd ⟨rfl,rfl⟩ (h _ _))))
def aeJ {d:Nat} {p q:Bool} (ht:P.underlying t=some .bool):(Op.equalIn (d+1) t (.bool p) (.bool q)).run P w= .ok (p==q) w:=by
 simp [Op.equalIn,underlying,ht]
def Jg {d:Nat} {e:yj} (ht:P.underlying t=some (.slice e)) (y:Option vA) (n c n' c':Nat):
  (Op.equalIn (d+1) t (.slice none n c) (.slice y n' c')).run P w= .ok y.isNone w:=by simp [Op.equalIn,underlying,ht]
def RC {d:Nat} {e:yj} (ht:P.underlying t=some (.slice e)) (x:vA) (n c n' c':Nat):
  (Op.equalIn (d+1) t (.slice (some x) n c) (.slice none n' c')).run P w= .ok false w:=by simp [Op.equalIn,underlying,ht]
def ahl {d:Nat} {ps rs:Array yj} {vr:Bool} (ht:P.underlying t=some (.func ps rs vr)):
  (Op.equalIn (d+1) t .nilFunc .nilFunc).run P w= .ok true w:=by simp [Op.equalIn,underlying,ht]
def RD {d:Nat} {ps rs:Array yj} {vr:Bool} (ht:P.underlying t=some (.func ps rs vr)) (f:Go.Fn) (a b:Array yd):
  (Op.equalIn (d+1) t .nilFunc (.func f a b)).run P w= .ok false w:=by simp [Op.equalIn,underlying,ht]
def RE {d:Nat} {ps rs:Array yj} {vr:Bool} (ht:P.underlying t=some (.func ps rs vr)) (f:Go.Fn) (a b:Array yd):
  (Op.equalIn (d+1) t (.func f a b) .nilFunc).run P w= .ok false w:=by simp [Op.equalIn,underlying,ht]
def DR (x y:yd):Op.equal t x y=Op.equalIn (9999+1) t x y:=rfl
def acC {vx vy:AV} {x y:yd} {r:Bool} {e:yj} (ht:P.underlying t=some (.slice e)) (hx:af ae m S w vx x) (hy:af ae m S w vy y)
  (h:gX .sl vx vy=some r):(Op.equal t x y).run P w= .ok r w:=by
 rw [DR];unfold gX at h
 split at h<;>simp_all only [yb,reduceCtorEq]
 all_goals subst h
 all_goals simp only [af] at hx hy
 ·subst hx;subst hy;exact Jg ht _ _ _ _ _
 ·rcases hy with ⟨b,o,c,rfl,_⟩ | ⟨_,rfl,_⟩<;>(subst hx;exact Jg ht _ _ _ _ _)
 ·obtain ⟨p,c,_,rfl,_⟩:=hy;subst hx;exact Jg ht _ _ _ _ _
 ·rcases hx with ⟨b,o,c,rfl,_⟩ | ⟨_,rfl,_⟩<;>(subst hy;exact RC ht _ _ _ _ _)
 ·obtain ⟨p,c,_,rfl,_⟩:=hx;subst hy;exact RC ht _ _ _ _ _
def acD {vx vy:AV} {x y:yd} {r:Bool} {ps rs:Array yj} {vr:Bool} (ht:P.underlying t=some (.func ps rs vr)) (hx:af ae m S w vx x) (hy:af ae m S w vy y)
  (h:gX .fn vx vy=some r):(Op.equal t x y).run P w= .ok r w:=by
 rw [DR];unfold gX at h
 split at h<;>simp_all only [yb,reduceCtorEq]
 all_goals subst h
 ·simp only [af] at hx hy;subst hx;subst hy;exact ahl ht
 ·rename_i f _ _
  cases f with
  | f g=>simp only [af] at hx hy;obtain ⟨fi,ca,rfl,_⟩:=hy;subst hx;exact RD ht _ _ _
  | y l=>simp only [af] at hx hy;obtain ⟨p,_,rfl⟩:=hy;subst hx;exact RD ht _ _ _
 ·rename_i f _ _
  cases f with
  | f g=>simp only [af] at hx hy;obtain ⟨fi,ca,rfl,_⟩:=hx;subst hy;exact RE ht _ _ _
  | y l=>simp only [af] at hx hy;obtain ⟨p,_,rfl⟩:=hx;subst hy;exact RE ht _ _ _
def acE {op:UnOp} {vx v:AV} {x:yd} (hx:af ae m S w vx x) (h:VE.unOp op vx=some v):∃u,(Op.unary op x).run P w= .ok u w/\af ae m S w v u:=by
 unfold VE.unOp at h
 split at h
 ·rename_i k n;simp only [af] at hx;subst hx;simp only [yb] at h;subst h;exact ⟨_,by simp [Op.unary,Op.intArith];rfl,by simp [af]⟩
 ·rename_i k n;simp only [af] at hx;subst hx;simp only [iF,yb] at h;subst h;exact ⟨_,by simp [Op.unary,Op.intBits];rfl,by simp [af]⟩
 ·rename_i b;simp only [af] at hx;subst hx;simp only [yb] at h;subst h;exact ⟨_,by simp [Op.unary];rfl,by simp [af]⟩
 ·rename_i k b;simp only [af] at hx;subst hx;simp only [yb] at h;subst h;exact ⟨_,by simp [Op.unary,Op.negFloat];rfl,by simp [af]⟩
 ·cases h
def NX {s d:yj} {k:yG} {vx v:AV} {x:yd} (hd:P.underlying d=some (.int k)) (hs:(∃k',P.underlying s=some (.int k'))\/∃k',P.underlying s=some (.float k'))
  (hx:af ae m S w vx x) (h:lC (.toInt k) vx=some v):∃u,(convert s d x).run P w= .ok u w/\af ae m S w v u:=by
 cases vx<;>simp only [lC,reduceCtorEq] at h
 case int k0 n=>
  simp only [af] at hx;subst hx;simp only [yb] at h;subst h;refine ⟨.int k (k.wrap n),?_,by simp [af]⟩;rcases hs with ⟨k',h'⟩ | ⟨k',h'⟩<;>simp [convert,underlying,Conv.intToInt,hd,h']
 case cx sk b=>
  simp only [af] at hx;subst hx
  cases hi:(sk.decode b).toInt .zero with
  | none=>simp [hi] at h
  | some n=>
   simp only [hi] at h;by_cases hr:k.min<=n/\n<=k.max
   ·simp only [hr,and_self,yR,yb] at h;subst h;refine ⟨.int k n,?_,by simp [af]⟩;rcases hs with ⟨k',h'⟩ | ⟨k',h'⟩<;>simp [convert,underlying,Conv.floatToInt,hd,h',hi,hr]
   ·simp [hr] at h
def NY {s d:yj} {k:FloatKind} {vx v:AV} {x:yd} (hd:P.underlying d=some (.float k)) (hs:(∃k',P.underlying s=some (.int k'))\/∃k',P.underlying s=some (.float k'))
  (hx:af ae m S w vx x) (h:lC (.toFlt k) vx=some v):∃u,(convert s d x).run P w= .ok u w/\af ae m S w v u:=by
 cases vx<;>simp only [lC,reduceCtorEq] at h
 case int k0 n=>
  simp only [af] at hx;subst hx;simp only [yb] at h;subst h;refine ⟨.float k (k.nearest n),?_,by simp [af]⟩;rcases hs with ⟨k',h'⟩ | ⟨k',h'⟩<;>simp [convert,underlying,Conv.intToFloat,hd,h']
 case cx sk b=>
  simp only [af] at hx;subst hx;by_cases he:sk=k
  ·subst he;simp only [yR,yb] at h;subst h;refine ⟨.float sk b,?_,by simp [af]⟩;rcases hs with ⟨k',h'⟩ | ⟨k',h'⟩<;>simp [convert,underlying,Conv.floatToFloat,hd,h']
  ·simp only [he,yM] at h
   cases E4:sk.decode b with
   | nan _ _=>simp [E4] at h
   | infinity _=>simp [E4] at h
   | number sg mm ee=>
    simp only [E4] at h
    cases JB:(k.decode (k.encode (.number sg mm ee))).isInfinity with
    | true=>simp [JB] at h
    | false=>
     simp only [JB,yq,yM,yb] at h;subst h;refine ⟨.float k (k.encode (.number sg mm ee)),?_,by simp [af]⟩;rcases hs with ⟨k',h'⟩ | ⟨k',h'⟩<;>simp [convert,underlying,Conv.floatToFloat,hd,h',he,E4,JB]
def aap {s d:yj} {vx v:AV} {x:yd} (hd:P.underlying d=some .string) (hs:P.underlying s=some .string)
  (hx:af ae m S w vx x) (h:lC .str vx=some v):∃u,(convert s d x).run P w= .ok u w/\af ae m S w v u:=by
 cases vx<;>simp only [lC,reduceCtorEq] at h
 simp only [yb] at h;subst h;simp only [af] at hx;obtain ⟨b,rfl,hb⟩:=hx;exact ⟨.string b,by simp [convert,underlying,hs,hd],by simp only [af];exact ⟨b,rfl,hb⟩⟩
end
end
section
open Go
def YH {v:AV} {k:Nat} (h:cQ v=some k):∃kd,v= .int kd (k:Int):=by
 cases v<;>simp only [cQ,reduceCtorEq] at h
 rename_i kd n
 cases n with
 | ofNat j=>simp only [yb] at h;subst h;exact ⟨kd,rfl⟩
 | negSucc j=>cases h
section
variable {O:a8} {H:Hint} {m:Mp} {S:Nat->Prop} {w:yf} {tm:Env} {a:Act}
def nm {ae:Nat->Nat} {v:AV} {x:yd} {k:Nat} (hx:af ae m S w v x) (h:cQ v=some k):∃kd,x= .int kd (k:Int):=by
 obtain ⟨kd,rfl⟩:=YH h;simp only [af] at hx
 grind
def run_sliceBound {P:yJ} {kd:yG} {k y:Nat} {code:BoundsCode} (h:k<=y):(Instr.sliceBound (.int kd (k:Int)) y code).run P w= .ok k w:=by
 have:(0:Int)<=(k:Int)/\(k:Int)<=(y:Int):=by omega
 simp [Instr.sliceBound,asIntOf,this]
def M7 {P:yJ} {isSlice:Bool} {len cap l h:Nat} {lo hi:Option y8} (hH:dY O H) (ht:bM O m S w tm a.tmps)
  (hl:cR tm 0 (lo.map (aH H))=some l) (hh:cR tm len (hi.map (aH H))=some h) (h1:l<=h) (h2:h<=cap):
  (Instr.sliceBounds isSlice len cap (lo.map a.eval) (hi.map a.eval) none).run P w= .ok (l,h,cap) w:=by
 cases lo with
 | none=>
  simp only [wE,cR,yb] at hl;subst hl
  cases hi with
  | none=>
   simp only [wE,cR,yb] at hh;subst hh;simp [Instr.sliceBounds]
  | some y=>
   obtain ⟨kd,e⟩:=nm (bQ hH ht y) hh;simp only [Instr.sliceBounds,wE,xN,e,Sem.run_bind,Sem.run_pure,Result.andThen_ok,run_sliceBound h2]
 | some x=>
  obtain ⟨kd,e⟩:=nm (bQ hH ht x) hl
  cases hi with
  | none=>
   simp only [wE,cR,yb] at hh;subst hh;simp only [Instr.sliceBounds,wE,xN,e,Sem.run_bind,Sem.run_pure,Result.andThen_ok,run_sliceBound h1]
  | some y=>
   obtain ⟨Km,e'⟩:=nm (bQ hH ht y) hh;simp only [Instr.sliceBounds,xN,e,e',Sem.run_bind,Sem.run_pure,Result.andThen_ok,run_sliceBound h2,run_sliceBound h1]
def YI {t:yj} {lo hi:Option y8} {vx v:AV} {x:yd} (hH:dY O H) (ht:bM O m S w tm a.tmps) (hu:O.P.underlying t=some .string)
  (hx:af O.ae m S w vx x) {hp:Hp} (h:fu hp .str vx tm (lo.map (aH H)) (hi.map (aH H))=some v):
  ∃u,(Instr.sliceAt t x (lo.map a.eval) (hi.map a.eval) none).run O.P w= .ok u w/\af O.ae m S w v u:=by
 cases vx<;>simp only [fu,reduceCtorEq] at h
 obtain ⟨b,rfl,rfl⟩:=hx
 cases hl:cR tm 0 (lo.map (aH H)) with
 | none=>simp [hl] at h
 | some l=>
  simp only [hl] at h
  cases hh:cR tm (b.data.toList.map yK).length (hi.map (aH H)) with
  | none=>rw [hh] at h;cases h
  | some g=>
   rw [hh] at h;simp only at h
   cases hc:(yy l g&&yy g (b.data.toList.map yK).length) with
   | false=>rw [hc] at h;cases h
   | true=>
    rw [hc] at h;simp only [yi,yb] at h;subst h;simp only [ye] at hc;have h1:=yo hc.1;have h2:=yo hc.2;have hlen:(b.data.toList.map yK).length=b.size:=M6 b;rw [hlen] at hh h2;refine ⟨.string (b.extract l g),?_,?_⟩
    ·simp only [Instr.sliceAt,Sem.run_bind,run_underlying hu,Result.andThen_ok,Instr.slice,Option.isSome_none,yq,yM,Sem.run_pure,
      M7 (P:=O.P) (isSlice:=false) (len:=b.size) (cap:=b.size) hH ht hl hh h1 h2]
    ·simp only [af];refine ⟨_,rfl,?_⟩;rw [Lib.extract_data,List.map_take,List.map_drop,List.drop_take]
def aaq {t e:yj} {sz:Nat} {lo hi:Option y8} {vx v:AV} {x:yd} (hH:dY O H) (ht:bM O m S w tm a.tmps) (hu:O.P.underlying t=some (.slice e)) (hz:bU O.P e=some sz)
  {hp:Hp} {ct:Nat} (hh:aJ O m S w hp ct)
  (hx:af O.ae m S w vx x) (h:fu hp (.sl sz) vx tm (lo.map (aH H)) (hi.map (aH H))=some v):
  ∃u,(Instr.sliceAt t x (lo.map a.eval) (hi.map a.eval) none).run O.P w= .ok u w/\af O.ae m S w v u:=by
 have eZ:(vl e).run O.P w= .ok sz w:=by
  unfold bU at hz
  cases hi:O.P.info? e with
  | none=>simp [hi] at hz
  | some i=>simp_all [vl,typeInfo]
 have A8:∀(ad:Option vA) (n c l g:Nat),cR tm 0 (lo.map (aH H))=some l->cR tm n (hi.map (aH H))=some g->l<=g->g<=c->
   (Instr.sliceAt t (.slice ad n c) (lo.map a.eval) (hi.map a.eval) none).run O.P w= .ok (.slice (if c=l then ad else ad.map (·.add (l*sz))) (g-l) (c-l)) w:=by
  intro ad n c l g hl hg h1 h2
  simp only [Instr.sliceAt,Sem.run_bind,run_underlying hu,Result.andThen_ok,Instr.slice,Sem.run_pure,eZ,
   M7 (P:=O.P) (isSlice:=true) (len:=n) (cap:=c) hH ht hl hg h1 h2]
 cases vx<;>simp only [fu,reduceCtorEq] at h
 case aa=>
  simp only [af] at hx;subst hx
  cases hl:cR tm 0 (lo.map (aH H)) with
  | none=>simp [hl] at h
  | some l=>
   cases l with
   | succ l=>simp [hl] at h
   | zero=>
    simp only [hl] at h
    cases hh:cR tm 0 (hi.map (aH H)) with
    | none=>simp [hh] at h
    | some g=>
     cases g with
     | succ g=>simp [hh] at h
     | zero=>
      simp only [hh,yb] at h;subst h;exact ⟨_,A8 none 0 0 0 0 hl hh (yC _) (yC _),by simp [af]⟩
 case aB ex n cs=>
  simp only [af] at hx;rcases hx with ⟨b,o,c,rfl,Cy,hex,hS,Cz,CA⟩ | ⟨ad,rfl,rfl,rfl⟩
  case inr=>
   cases hl:cR tm 0 (lo.map (aH H)) with
   | none=>simp [hl] at h
   | some l=>
    simp only [hl] at h
    cases hh:cR tm 0 (hi.map (aH H)) with
    | none=>simp [hh] at h
    | some g=>
     simp only [hh] at h
     cases hc:(yy l g&&yy g 0) with
     | false=>rw [hc] at h;cases h
     | true=>
      rw [hc] at h;simp only [yi,yb] at h;subst h;simp only [ye] at hc;have h1:=yo hc.1;have h2:=yo hc.2;have hg:g=0:=by omega
      subst hg;have mI:l=0:=by omega
      subst mI;refine ⟨_,A8 (some ad) 0 0 0 0 hl hh h1 h2,?_⟩;simp only [af];exact .inr ⟨ad,by simp,by simp,by simp [slice]⟩
  cases hl:cR tm 0 (lo.map (aH H)) with
  | none=>simp [hl] at h
  | some l=>
   simp only [hl] at h
   cases hh:cR tm n (hi.map (aH H)) with
   | none=>simp [hh] at h
   | some g=>
    simp only [hh] at h
    cases hc:(yy l g&&yy g n) with
    | false=>rw [hc] at h;cases h
    | true=>
     rw [hc] at h;simp only [yi,yb] at h;subst h;simp only [ye] at hc;have h1:=yo hc.1;have h2:=yo hc.2;refine ⟨_,A8 (some ⟨b,o,none⟩) n c l g hl hh h1 (by omega),?_⟩;have EH:az (slice (l*sz) ((g-l)*sz) cs)=true:=by
      have pd:∀(k:Nat) (cs:List AV),az cs=true->az (cs.drop k)=true:=by
       intro k
       induction k with
       | zero=>intro cs h;simpa using h
       | succ k ih=>intro cs h;cases cs with
        | nil=>simpa using h
        | cons c cs=>simp only [az,ye] at h;simpa using ih cs h.2
      have pt:∀(k:Nat) (cs:List AV),az cs=true->az (cs.take k)=true:=by
       intro k
       induction k with
       | zero=>intro cs h;simp [az]
       | succ k ih=>intro cs h;cases cs with
        | nil=>simp [az]
        | cons c cs=>simp only [az,ye,xQ] at h ⊢;exact ⟨h.1,ih cs h.2⟩
      exact pt _ _ (pd _ _ Cz)
     have Th:(ex&&yk g n)=true->c-l=g-l:=by
      intro hq;simp only [ye] at hq
      have:=hex hq.1
      have:=yh hq.2
      omega
     simp only [af];by_cases gr:c=l
     ·have h0:g-l=0:=by omega
      have jX:slice (l*sz) ((g-l)*sz) cs=[]:=by simp [slice,h0]
      rw [jX];exact .inl ⟨b,o,c-l,by simp [gr],by omega,Th,.inl rfl,rfl,by simp [bC]⟩
     ·refine .inl ⟨b,o+l*sz,c-l,by simp [gr,kx],by omega,Th,?_,EH,?_⟩
      ·rcases hS with rfl | hS
       ·exact .inl (by simp [slice])
       ·exact .inr hS
      ·exact p9 _ _ _ _ (lY _ _ _ _ CA)
 case au id o n=>
  simp only [af] at hx;obtain ⟨p,c,hm,rfl,Cy,FL⟩:=hx
  split at h
  case h_2=>cases h
  rename_i Kn pu0 mJ z0 U9 qV;obtain ⟨p',arr,t',eu,_,ew,_⟩:=hh.obj id _ _ qV hm;rw [hm] at eu;injection eu with eu
  subst eu
  cases hl:cR tm 0 (lo.map (aH H)) with
  | none=>simp [hl] at h
  | some l=>
   simp only [hl] at h
   cases hh:cR tm n (hi.map (aH H)) with
   | none=>simp [hh] at h
   | some g=>
    simp only [hh] at h
    cases hc:(yy l g&&yy g n&&yk z0 sz) with
    | false=>rw [hc] at h;cases h
    | true=>
     rw [hc] at h;simp only [yi] at h;simp only [ye] at hc;have h1:=yo hc.1.1;have h2:=yo hc.1.2;have hpz:p.z=sz:=ew.trans (yh hc.2)
     cases he:(yk l g&& !yk l 0) with
     | true=>
      rw [he] at h;simp only [yi,yb] at h;subst h;simp only [ye] at he;have rP:=yh he.1;refine ⟨_,A8 (some ⟨p.b,p.o+o,none⟩) n c l g hl hh h1 (by omega),?_⟩;simp only [af];by_cases gr:c=l
      ·exact .inl ⟨p.b,p.o+o,c-l,by simp [gr];omega,by omega,by simp,by simp,by simp [az],by simp [bC]⟩
      ·exact .inl ⟨p.b,p.o+o+l*sz,c-l,by simp [gr,kx];omega,by omega,by simp,by simp,by simp [az],by simp [bC]⟩
     | false=>
      rw [he] at h;simp only [yr,yb] at h;subst h;have gr:c=l->l=0:=by
       intro gr;have rP:l=g:=by omega
       cases mI:yk l 0 with
       | true=>exact yh mI
       | false=>rw [rP,Nat.beq_refl,<-rP,mI] at he;cases he
      refine ⟨_,A8 (some ⟨p.b,p.o+o,none⟩) n c l g hl hh h1 (by omega),?_⟩;simp only [af];refine ⟨p,c-l,hm,?_,by omega,?_⟩
      ·by_cases JC:c=l
       ·have:=gr JC;subst this;subst JC;simp
       ·simp [JC,kx,vG]
      ·rw [hpz] at FL ⊢
       have:c*sz=l*sz+(c-l)*sz:=by rw [<-w7];congr 1;omega
       omega
end
end
section
open Go
def jG {P:yJ} {w:yf} {t:yj} {sz:Nat} (hz:bU P t=some sz):(vl t).run P w= .ok sz w:=by
 unfold bU at hz
 cases hi:P.info? t with
 | none=>simp [hi] at hz
 | some i=>simp_all [vl,typeInfo]
section
variable {O:a8} {H:Hint} {m:Mp} {S:Nat->Prop} {w:yf} {tm:Env} {a:Act} {hp:Hp} {ct:Nat}
def HS {id o n:Nat} {rw pu ex:Bool} {sz:Nat} {cs:List AV} {p:Pl} (hh:aJ O m S w hp ct) (hg:ak hp id=some (.cells rw pu ex sz cs)) (hm:m id=some p):
  bC O.ae m S w cs p.b p.o:=by
 obtain ⟨p',arr,t',eu,_,_,_,_,_,hr,_⟩:=hh.obj id _ _ hg hm
 grind
def ahm {t:yj} {sz:Nat} {ag:Bool} {vx v:AV} {x:yd} (hh:aJ O m S w hp ct) (hz:bU O.P t=some sz) (ha:cS O.P t=some ag) (hx:af O.ae m S w vx x)
  (h:gk hp sz ag vx=some v):∃u,(Instr.loadAt t x).run O.P w= .ok u w/\af O.ae m S w v u:=by
 cases vx<;>simp only [gk,reduceCtorEq] at h
 case ptr id o=>
  obtain ⟨p,hm,rfl⟩:=hx
  split at h
  case h_2=>cases h
  rename_i Kn pu0 mJ z0 U9 qV;have hr:=HS (id:=id) (o:=0) (n:=0) hh qV hm;obtain ⟨u,h1,h2⟩:=D8 hz ha (lY o U9 p.b p.o hr) h;exact ⟨u,by simp only [Instr.loadAt,Instr.sureAddr,Sem.run_bind,Sem.run_pure,Result.andThen_ok];exact h1,h2⟩
 case ay cs=>
  obtain ⟨b,o,rfl,_,_,hr⟩:=hx;obtain ⟨u,h1,h2⟩:=D8 hz ha hr h;exact ⟨u,by simp only [Instr.loadAt,Instr.sureAddr,Sem.run_bind,Sem.run_pure,Result.andThen_ok];exact h1,h2⟩
def ou:∀(k:Nat) (cs:List AV),az cs=true->az (cs.drop k)=true
 | 0,cs,h=>by simpa using h
 | k+1,[],h=>by simpa using h
 | k+1,c::cs,h=>by simp only [az,ye] at h;simpa using ou k cs h.2
def Hm {cs:List AV} {b o k:Nat} (h2:cs=[]\/S b) (h3:az cs=true) (h4:bC O.ae m S w cs b o):af O.ae m S w (.ay (cs.drop k)) (.pointer (some ⟨b,o+k,none⟩)):=by
 refine ⟨b,o+k,rfl,?_,ou k cs h3,lY k cs b o h4⟩
 grind
def aeK {t:yj} {fs:Array vK} {i:Nat} {f:vK} {sz:Nat} {vx v:AV} {x:yd} (hu:O.P.underlying t=some (.struct fs)) (hf:fs[i]? =some f) (hz:bU O.P f.type=some (sz+1))
  (hx:af O.ae m S w vx x)
  (h:Bz f.offset vx=some v):∃u,(Instr.fieldAt t x i).run O.P w= .ok u w/\af O.ae m S w v u:=by
 have RF:∀(b o:Nat),(Instr.fieldAt t (.pointer (some ⟨b,o,none⟩)) i).run O.P w= .ok (.pointer (some ⟨b,o+f.offset,none⟩)) w:=by
  intro b o;simp only [Instr.fieldAt,Sem.run_bind,run_underlying hu,Result.andThen_ok,hf,Instr.sureAddr,Sem.run_pure,fieldPlace,jG hz,Nat.succ_ne_zero,yM,kx]
 cases vx<;>simp only [Bz,reduceCtorEq] at h
 case ptr id o=>
  obtain ⟨p,hm,rfl⟩:=hx;simp only [yb] at h;subst h;exact ⟨_,RF _ _,by simp only [af];exact ⟨p,hm,by rw [vG]⟩⟩
 case ay cs=>
  obtain ⟨b,o,rfl,h2,h3,h4⟩:=hx
  cases hc:yy f.offset cs.length with
  | false=>rw [hc] at h;cases h
  | true=>
   rw [hc] at h;simp only [yi,yb] at h;subst h;exact ⟨_,RF _ _,Hm h2 h3 h4⟩
def aeL {t:yj} {fs:Array vK} {i:Nat} {f:vK} {sz:Nat} {ag:Bool} {vx v:AV} {x:yd} (hu:O.P.underlying t=some (.struct fs)) (hf:fs[i]? =some f)
  (hz:bU O.P f.type=some sz) (ha:cS O.P f.type=some ag) (hx:af O.ae m S w vx x)
  (h:EF f.offset sz ag vx=some v):∃u,(Instr.field t x i).run O.P w= .ok u w/\af O.ae m S w v u:=by
 cases vx<;>simp only [EF,reduceCtorEq] at h
 obtain ⟨xs,rfl,hr⟩:=hx;obtain ⟨u,h1,h2⟩:=OT hz ha hr h;exact ⟨u,by simp only [Instr.field,Sem.run_bind,run_underlying hu,Result.andThen_ok,hf,asAgg,Sem.run_pure];exact h1,h2⟩
def aeM {t e:yj} {sz k:Nat} {vx vi v:AV} {x i:yd} (hu:O.P.underlying t=some (.slice e)) (hz:bU O.P e=some sz) (hx:af O.ae m S w vx x) (hi:af O.ae m S w vi i)
  (hk:cQ vi=some k)
  (h:fw sz k vx=some v):∃u,(Instr.indexAt t x i).run O.P w= .ok u w/\af O.ae m S w v u:=by
 obtain ⟨kd,rfl⟩:=nm hi hk;have BF:∀(b o n c:Nat),k<n->(Instr.indexAt t (.slice (some ⟨b,o,none⟩) n c) (.int kd (k:Int))).run O.P w= .ok (.pointer (some ⟨b,o+k*sz,none⟩)) w:=by
  intro b o n c mK;have hr:(0:Int)<=(k:Int)/\(k:Int)<(n:Int):=by omega
  simp [Instr.indexAt,asIntOf,run_underlying hu,jG hz,hr,kx]
  grind
 cases vx<;>simp only [fw,reduceCtorEq] at h
 case au id o n=>
  obtain ⟨p,c,hm,rfl,Cy,FL⟩:=hx
  cases hc:yA k n with
  | false=>rw [hc] at h;cases h
  | true=>
   rw [hc] at h;simp only [yi,yb] at h;subst h;have mK:k<n:=by simp_all
   exact ⟨_,BF _ _ _ _ mK,by simp only [af];exact ⟨p,hm,by rw [vG]⟩⟩
 case aB ex n cs=>
  rcases hx with ⟨b,o,c,rfl,Cy,hex,h2,h3,h4⟩ | ⟨a,rfl,rfl,rfl⟩
  case inr=>
   have:yA k 0=false:=by cases hq:yA k 0 with | false=>rfl | true=>simp only [yA,Nat.ble_eq] at hq;omega
   grind
  cases hc:yA k n with
  | false=>rw [hc] at h;cases h
  | true=>
   rw [hc] at h;simp only [yi,yb] at h;subst h;have mK:k<n:=by simp_all
   exact ⟨_,BF _ _ _ _ mK,Hm h2 h3 h4⟩
def aeN {t e:yj} {len sz k:Nat} {vx vi v:AV} {x i:yd} (hu:O.P.underlying t=some (.array len e)) (hz:bU O.P e=some sz) (hx:af O.ae m S w vx x) (hi:af O.ae m S w vi i)
  (hk:cQ vi=some k)
  (h:EG len sz k vx=some v):∃u,(Instr.indexAt t x i).run O.P w= .ok u w/\af O.ae m S w v u:=by
 obtain ⟨kd,rfl⟩:=nm hi hk;have BF:∀(b o:Nat),k<len->(Instr.indexAt t (.pointer (some ⟨b,o,none⟩)) (.int kd (k:Int))).run O.P w= .ok (.pointer (some ⟨b,o+k*sz,none⟩)) w:=by
  intro b o mK;have hr:(0:Int)<=(k:Int)/\(k:Int)<(len:Int):=by omega
  simp [Instr.indexAt,asIntOf,run_underlying hu,jG hz,hr,kx,Instr.sureAddr]
  grind
 cases vx<;>simp only [EG,reduceCtorEq] at h
 case ptr id o=>
  obtain ⟨p,hm,rfl⟩:=hx
  cases hc:yA k len with
  | false=>rw [hc] at h;cases h
  | true=>
   rw [hc] at h;simp only [yi,yb] at h;subst h;have mK:k<len:=by simp_all
   exact ⟨_,BF _ _ mK,by simp only [af];exact ⟨p,hm,by rw [vG]⟩⟩
 case ay cs=>
  obtain ⟨b,o,rfl,h2,h3,h4⟩:=hx
  cases hc:yA k len with
  | false=>rw [hc] at h;cases h
  | true=>
   rw [hc] at h;simp only [yi,yb] at h;subst h;have mK:k<len:=by simp_all
   exact ⟨_,BF _ _ mK,Hm h2 h3 h4⟩
def aeO {t e:yj} {len sz k:Nat} {ag:Bool} {vx vi v:AV} {x i:yd} (hu:O.P.underlying t=some (.array len e)) (hz:bU O.P e=some sz) (ha:cS O.P e=some ag)
  (hx:af O.ae m S w vx x) (hi:af O.ae m S w vi i) (hk:cQ vi=some k)
  (h:BA len sz ag k vx=some v):
  ∃u,(Instr.index t x i).run O.P w= .ok u w/\af O.ae m S w v u:=by
 obtain ⟨kd,rfl⟩:=nm hi hk;cases vx<;>simp only [BA,reduceCtorEq] at h
 obtain ⟨xs,rfl,hr⟩:=hx
 cases hc:yA k len with
 | false=>rw [hc] at h;cases h
 | true=>
  rw [hc] at h;have mK:k<len:=by simp_all
  obtain ⟨u,h1,h2⟩:=OT hz ha hr h;have dG:(0:Int)<=(k:Int)/\(k:Int)<(len:Int):=by omega
  exact ⟨u,by simp [Instr.index,asIntOf,run_underlying hu,jG hz,dG,h1];intro hle;exact absurd hle (by omega),h2⟩
def aeP {t:yj} {k:Nat} {vx vi v:AV} {x i:yd} (hu:O.P.underlying t=some .string) (hx:af O.ae m S w vx x) (hi:af O.ae m S w vi i) (hk:cQ vi=some k)
  (h:kB k vx=some v):
  ∃u,(Instr.index t x i).run O.P w= .ok u w/\af O.ae m S w v u:=by
 obtain ⟨kd,rfl⟩:=nm hi hk;cases vx<;>simp only [kB,reduceCtorEq] at h
 obtain ⟨b,rfl,rfl⟩:=hx
 cases hs:(b.data.toList.map yK)[k]? with
 | none=>rw [hs] at h;cases h
 | some q=>
  rw [hs] at h;simp only [yb] at h;subst h;rw [List.getElem?_map] at hs
  cases hb:b.data.toList[k]? with
  | none=>rw [hb] at hs;cases hs
  | some c=>
   rw [hb] at hs;simp only [xN,yb] at hs;subst hs;have db:b[k]? =some c:=by
    have aV:k<b.data.toList.length:=by
     grind
    have eZ:k<b.size:=by simp_all
    rw [getElem?_pos b k eZ];rw [xP aV] at hb;rw [<-hb];rfl
   refine ⟨.int .u8 c.toNat,?_,by simp [af]⟩;simp [Instr.index,asIntOf,run_underlying hu,db]
end
end
section
open Go
section
variable {ae:Nat->Nat} {m:Mp} {S:Nat->Prop} {w:yf}
def Hn:∀{v:AV} {u:yd},af ae m S w v u->bY (cellsOf v)=true->an ae m S w (cellsOf v) u.cells.toList:=by
 intro v u h h1;cases v
 case agg cs=>
  simp only [af] at h;obtain ⟨xs,rfl,hr⟩:=h;exact hr
 case aw vs=>simp [cellsOf,bY,cm] at h1
 case undef=>simp [cellsOf,bY,cm] at h1
 case bX=>simp [cellsOf,bY,cm] at h1
 case fn f a b=>
  cases f with
  | f g=>have h':=h;simp only [af] at h';obtain ⟨fi,ca,rfl,_⟩:=h';simp only [cellsOf,Value.cells,an];exact ⟨_,_,rfl,h,rfl⟩
  | y l=>have h':=h;simp only [af] at h';obtain ⟨p,_,rfl⟩:=h';simp only [cellsOf,Value.cells,an];exact ⟨_,_,rfl,h,rfl⟩
 case str s=>have h':=h;simp only [af] at h';obtain ⟨b,rfl,_⟩:=h';simp only [cellsOf,Value.cells,an];exact ⟨_,_,rfl,h,rfl⟩
 case ptr id o=>have h':=h;simp only [af] at h';obtain ⟨b,_,rfl⟩:=h';simp only [cellsOf,Value.cells,an];exact ⟨_,_,rfl,h,rfl⟩
 case ay cs=>have h':=h;simp only [af] at h';obtain ⟨b,o,rfl,_⟩:=h';simp only [cellsOf,Value.cells,an];exact ⟨_,_,rfl,h,rfl⟩
 case aB e n cs=>have h':=h;simp only [af] at h';rcases h' with ⟨b,o,c,rfl,_⟩ | ⟨a,rfl,_,_⟩<;>(simp only [cellsOf,Value.cells,an];exact ⟨_,_,rfl,h,rfl⟩)
 case au id o n=>have h':=h;simp only [af] at h';obtain ⟨p,c,_,rfl,_⟩:=h';simp only [cellsOf,Value.cells,an];exact ⟨_,_,rfl,h,rfl⟩
 case map id=>have h':=h;simp only [af] at h';obtain ⟨p,_,rfl⟩:=h';simp only [cellsOf,Value.cells,an];exact ⟨_,_,rfl,h,rfl⟩
 case gj ks vs=>have h':=h;simp only [af] at h';obtain ⟨b,es,cl,rfl,_⟩:=h';simp only [cellsOf,Value.cells,an];exact ⟨_,_,rfl,h,rfl⟩
 case it id=>have h':=h;simp only [af] at h';obtain ⟨p,_,rfl⟩:=h';simp only [cellsOf,Value.cells,an];exact ⟨_,_,rfl,h,rfl⟩
 all_goals
  have h':=h;simp only [af] at h';subst h';simp only [cellsOf,Value.cells,an];exact ⟨_,_,rfl,h,rfl⟩
def sA (v:yd):an ae m S w (cellsOf (du v)) v.cells.toList:=by
 have h:=D7 (ae:=ae) (m:=m) (S:=S) (w:=w) v;cases v
 case agg xs=>
  obtain ⟨l⟩:=xs;simp only [du,af] at h ⊢;obtain ⟨xs,e,hr⟩:=h;injection e with e
  subst e;exact hr
 case tuple xs=>obtain ⟨l⟩:=xs;simp only [du] at h ⊢;simp only [cellsOf,Value.cells,an];exact ⟨_,_,rfl,h,rfl⟩
 case pointer p=>cases p<;>(simp only [du] at h ⊢;simp only [cellsOf,Value.cells,an];exact ⟨_,_,rfl,h,rfl⟩)
 case map p=>cases p<;>(simp only [du] at h ⊢;simp only [cellsOf,Value.cells,an];exact ⟨_,_,rfl,h,rfl⟩)
 case slice p n c=>
  cases p
  ·cases n
   ·cases c<;>(simp only [du] at h ⊢;simp only [cellsOf,Value.cells,an];exact ⟨_,_,rfl,h,rfl⟩)
   ·simp only [du] at h ⊢;simp only [cellsOf,Value.cells,an];exact ⟨_,_,rfl,h,rfl⟩
  ·simp only [du] at h ⊢;simp only [cellsOf,Value.cells,an];exact ⟨_,_,rfl,h,rfl⟩
 all_goals (simp only [du] at h ⊢;simp only [cellsOf,Value.cells,an];exact ⟨_,_,rfl,h,rfl⟩)
def iS:∀{a b:List AV} {x y:List yd},an ae m S w a x->an ae m S w b y->an ae m S w (a++b) (x++y)
 | [],b,x,y,h,k=>by simp only [an] at h;subst h;simpa using k
 | c::a,b,x,y,h,k=>by
  simp only [an] at h;obtain ⟨u,r,rfl,h2,h3⟩:=h;simp only [yH,an];exact ⟨u,r++y,rfl,h2,iS h3 k⟩
def AL:∀(k:Nat) {cs:List AV} {us:List yd},an ae m S w cs us->an ae m S w (cs.drop k) (us.drop k)
 | 0,cs,us,h=>by simpa using h
 | k+1,[],us,h=>by simp only [an] at h;subst h;simp [an]
 | k+1,c::cs,us,h=>by simp only [an] at h;obtain ⟨u,r,rfl,_,h3⟩:=h;simpa using AL k h3
def sI:∀(k:Nat) {cs:List AV} {us:List yd},an ae m S w cs us->an ae m S w (cs.take k) (us.take k)
 | 0,cs,us,h=>by simp [an]
 | k+1,[],us,h=>by simp only [an] at h;subst h;simp [an]
 | k+1,c::cs,us,h=>by
  simp only [an] at h;obtain ⟨u,r,rfl,h2,h3⟩:=h;simp only [xQ,an];exact ⟨u,_,rfl,h2,sI k h3⟩
def HT:∀{cs:List AV} {us:List yd} {i:Nat} {v:AV},an ae m S w cs us->cs[i]? =some v->∃u,us[i]? =some u/\af ae m S w v u
 | [],us,i,v,_,h=>by simp at h
 | c::cs,us,0,v,h,e=>by
  simp only [an] at h;obtain ⟨u,r,rfl,h2,h3⟩:=h;simp at e;subst e;exact ⟨u,rfl,h2⟩
 | c::cs,us,i+1,v,h,e=>by
  simp only [an] at h;obtain ⟨u,r,rfl,h2,h3⟩:=h;simp at e;simpa using HT h3 e
end
def M8 (off:Nat):∀(new:List yd) (j:Nat) (cells:Array yd),off+j+new.length<=cells.size->
  ((new.zipIdx j).foldl (fun (cs:Array yd) (p:yd×Nat)=>cs.setIfInBounds (off+p.2) p.1) cells).toList=
   cells.toList.take (off+j)++new++cells.toList.drop (off+j+new.length)
 | [],j,cells,_=>by simp
 | v::r,j,cells,h=>by
  simp only [yx] at h;have ih:=M8 off r (j+1) (cells.setIfInBounds (off+j) v) (by simp;omega);simp only [List.zipIdx_cons,List.foldl_cons];rw [ih];have aV:off+j<cells.toList.length:=by simp;omega
  have h1:(cells.setIfInBounds (off+j) v).toList=cells.toList.set (off+j) v:=by simp
  rw [h1,show off+(j+1)=off+j+1 by omega];have h2:(cells.toList.set (off+j) v).take (off+j+1)=cells.toList.take (off+j)++[v]:=by
   rw [List.take_succ_eq_append_getElem (by simpa using aV)];simp [List.take_set_of_le]
  have h3:(cells.toList.set (off+j) v).drop (off+j+1+r.length)=cells.toList.drop (off+j+(r.length+1)):=by
   rw [List.drop_set_of_lt (by omega)];congr 1;omega
  rw [h2,h3]
  simp
section
variable {O:a8} {H:Hint} {m:Mp} {S:Nat->Prop} {w:yf} {tm:Env} {a:Act}
def D9 (hH:dY O H) (ht:bM O m S w tm a.tmps) {place:Nat->Option (Nat×Nat)}:∀(parts:List (Nat×y8)) (ps:List (Nat×Nat×X)) (zero cs:List AV) (cells:Array yd),
  partsOf H place parts=some ps->an O.ae m S w zero cells.toList->fill tm zero ps=some cs->
  ∃out,Instr.fill place cells (parts.map fun p=>(p.1,a.eval p.2))=some out/\an O.ae m S w cs out.toList
 | [],ps,zero,cs,cells,hp,hz,hf=>by
  simp only [partsOf,yb] at hp;subst hp;simp only [fill,yb] at hf;subst hf;exact ⟨cells,rfl,hz⟩
 | (i,x)::r,ps,zero,cs,cells,hp,hz,hf=>by
  simp only [partsOf] at hp
  cases mL:place i with
  | none=>simp [mL] at hp
  | some q=>
   obtain ⟨o,s⟩:=q;simp only [mL] at hp
   cases pz:partsOf H place r with
   | none=>simp [pz] at hp
   | some l=>
    simp only [pz,yb] at hp;subst hp;simp only [fill] at hf
    cases hc:(yk (cellsOf (aq tm (aH H x))).length s&&yy (o+s) zero.length&&bY (cellsOf (aq tm (aH H x)))) with
    | false=>rw [hc] at hf;cases hf
    | true=>
     rw [hc] at hf;simp only [yi] at hf;simp only [ye] at hc;have hs:=yh hc.1.1;have hle:=yo hc.1.2;have Va:=Hn (bQ hH ht x) hc.2;have kP:=fU _ _ Va;have mM:=fU _ _ hz;have eZ:(a.eval x).cells.size=s:=by rw [<-hs,<-kP];simp
     have pC:cells.size=zero.length:=by rw [<-mM];simp
     have ahn:=M8 o (a.eval x).cells.toList 0 cells (by simp;omega);have ew:an O.ae m S w (over o (cellsOf (aq tm (aH H x))) zero)
       ((a.eval x).cells.zipIdx.foldl (fun (cs:Array yd) (p:yd×Nat)=>cs.setIfInBounds (o+p.2) p.1) cells).toList:=by
      rw [<-Array.foldl_toList,Array.toList_zipIdx,ahn];simp only [over,Nat.add_zero];rw [show (a.eval x).cells.toList.length=(cellsOf (aq tm (aH H x))).length from kP];exact iS (iS (sI o hz) Va) (AL _ hz)
     obtain ⟨out,h1,h2⟩:=D9 hH ht r l _ cs _ pz ew hf;refine ⟨out,?_,h2⟩;simp only [yP,Instr.fill,mL,eZ];rw [yE (by simp;omega)];exact h1
end
end
section
open Go
def M9 (p q:ByteArray):(p==q)=dA (iV p) (iV q):=by
 have h:(p==q)=(p.data==q.data):=by cases p;cases q;rfl
 rw [h,M5,ByteArray.toList_eq,ByteArray.toList_eq];rw [Bool.eq_iff_iff,uY,uY];constructor
 ·intro e;rw [e]
 ·intro e;have:=congrArg List.toArray e;simpa using this
def E5:wq->Bool
 | .bool | .int _ | .string=>true
 | _=>false
def fits (d:wq) (v:AV):Bool:=
 match d,v with
 | .int _,.int _ _ | .string,.str _ | .bool,.bool _=>true
 | _,_=>false
def Found (ae:Nat->Nat) (m:Mp) (S:Nat->Prop) (w:yf) (f:Option (Option (Nat×yd))):Option AV->Prop
 | none=>f=some none
 | some v=>∃j u,f=some (some (j,u))/\af ae m S w v u
section
variable {O:a8} {ae:Nat->Nat} {m:Mp} {S:Nat->Prop} {w:yf}
def NZ {vk Vb:AV} {k k':yd} {r:Bool} {d:wq} (hk:af ae m S w vk k) (pE:af ae m S w Vb k') (h:zc vk Vb=some r)
  (hd:fits d vk=true):Instr.sameNow d k k'=some r:=by
 unfold zc at h
 split at h
 ·rename_i j x j' y;simp only [af] at hk pE;subst hk;subst pE;by_cases hj:j=j'
  ·simp only [hj,yR,yb] at h;subst hj;cases d<;>simp [fits] at hd
   simpa [Instr.sameNow] using h
  ·simp [hj] at h
 ·simp only [af] at hk pE;obtain ⟨s,rfl,rfl⟩:=hk;obtain ⟨s',rfl,rfl⟩:=pE;simp only [yb] at h;cases d<;>simp [fits] at hd
  simp only [Instr.sameNow,M9];rw [<-h];rfl
 ·simp only [af] at hk pE;subst hk;subst pE;simp only [yb] at h;cases d<;>simp [fits] at hd
  simp [Instr.sameNow,h]
 ·cases h
def HU {vk:AV} {k:yd} {d:wq} (hk:af ae m S w vk k)
  (hd:fits d vk=true):∀(ks vs:List AV) (es:List vB) (i:Nat) (r:Option AV),
  an ae m S w ks (es.map (·.key))->an ae m S w vs (es.map (·.val))->qS vk ks vs=some r->Found ae m S w (Instr.findNow d k es i) r
 | [],vs,es,i,r,h1,h2,h=>by
  simp only [an,List.map_eq_nil_iff] at h1;subst h1;simp only [qS,yb] at h;subst h;rfl
 | c::ks,[],es,i,r,h1,h2,h=>by simp only [qS] at h;cases h
 | c::ks,v::vs,es,i,r,h1,h2,h=>by
  cases es with
  | nil=>simp [an] at h1
  | cons e es=>
   simp only [yP,an,List.cons.injEq] at h1 h2;obtain ⟨u,t,⟨rfl,rfl⟩,hc,FM⟩:=h1;obtain ⟨u',t',⟨rfl,rfl⟩,hv,FN⟩:=h2;simp only [qS] at h
   cases nW:zc vk c with
   | none=>simp [nW] at h
   | some b=>
    have hs:=NZ (d:=d) hk hc nW hd
    cases b with
    | true=>
     simp only [nW,yb] at h;subst h;exact ⟨i,e.val,by simp [Instr.findNow,hs],hv⟩
    | false=>
     simp only [nW] at h;have ih:=HU hk hd ks vs es (i+1) r FM FN h;simpa [Instr.findNow,hs] using ih
def Dg {P:yJ} {kt:yj} {d:wq} (hu:P.underlying kt=some d) (hd:E5 d=true) (b:Bool) (k:yd):(Instr.checkKey b 10000 kt k).run P w= .ok () w:=by
 have:∀n,(Instr.checkKey b (n+1) kt k).run P w= .ok () w:=by
  intro n;cases d<;>simp [E5] at hd<;>simp [Instr.checkKey,run_underlying hu]
 exact this 9999
def aeQ {t kt e:yj} {d:wq} {ok:Bool} {hp:Hp} {ct:Nat} {vx vk v:AV} {x k zero:yd} (hh:aJ O m S w hp ct) (hu:O.P.underlying t=some (.map kt e)) (hk:O.P.underlying kt=some d) (hd:E5 d=true)
  (Vc:fits d vk=true)
  (hz:(zeroValue e).run O.P w= .ok zero w) (hx:af O.ae m S w vx x) (Vd:af O.ae m S w vk k) {z:AV} (Ko:af O.ae m S w z zero)
  {r:Option AV}
  (hr:oR hp vk vx=some r)
  (hv:(match r with | some u=>(bif ok then AV.aw [u,.bool true] else u) | none=>(bif ok then AV.aw [z,.bool false] else z))=v):
  ∃u,(Instr.lookup t x k ok).run O.P w= .ok u w/\af O.ae m S w v u:=by
 have fin:∀(u:AV) (uu:yd) (b:Bool),af O.ae m S w u uu->af O.ae m S w (bif ok then AV.aw [u,.bool b] else u) (if ok then .tuple #[uu,.bool b] else uu):=by
  intro u uu b h
  cases ok with
  | true=>simp only [yi,yR,af,an];exact ⟨_,rfl,_,_,rfl,h,_,_,rfl,rfl,rfl⟩
  | false=>simpa using h
 have body:∀(x':yd) (es:Array vB),((x'= .map none/\es=#[])\/∃b clock,x'= .map (some b)/\w.heap[b]? =some (.map es clock))->Found O.ae m S w (Instr.findNow d k es.toList 0) r->
   ∃u,(Instr.lookup t x' k ok).run O.P w= .ok u w/\af O.ae m S w v u:=by
  intro x' es hl hf
  cases r with
  | none=>
   have pG:Instr.findNow d k es.toList 0=some none:=hf;refine ⟨if ok then .tuple #[zero,.bool false] else zero,?_,by rw [<-hv];exact fin z zero false Ko⟩
   rcases hl with ⟨rfl,rfl⟩ | ⟨b,clock,rfl,hb⟩
   ·have JD:Instr.findNow d k [] 0=some none:=rfl;simp [Instr.lookup,run_underlying hu,Dg hk hd,Instr.findKey,run_underlying hk,JD,hz]
   ·simp [Instr.lookup,run_underlying hu,getObj,Sem.run,hb,Dg hk hd,Instr.findKey,run_underlying hk,pG,hz]
  | some v'=>
   obtain ⟨j,u,h1,h2⟩:=hf;refine ⟨if ok then .tuple #[u,.bool true] else u,?_,by rw [<-hv];exact fin v' u true h2⟩
   rcases hl with ⟨rfl,rfl⟩ | ⟨b,clock,rfl,hb⟩
   ·have JD:Instr.findNow d k [] 0=some none:=rfl;rw [show (#[]:Array vB).toList=[] from rfl,JD] at h1;cases h1
   ·simp [Instr.lookup,run_underlying hu,getObj,Sem.run,hb,Dg hk hd,Instr.findKey,run_underlying hk,h1]
 cases vx<;>simp only [oR,reduceCtorEq] at hr
 case gH=>
  simp only [yb] at hr;subst hr;simp only [af] at hx;subst hx;exact body _ #[] (.inl ⟨rfl,rfl⟩) rfl
 case map id=>
  simp only [af] at hx;obtain ⟨p,hm,rfl⟩:=hx
  split at hr
  case h_2=>cases hr
  rename_i Kn ks vs qV;obtain ⟨p',es,clock,eu,hb,h1,h2,_⟩:=hh.obj id _ _ qV hm;rw [hm] at eu;injection eu with eu;subst eu
  exact body _ es (.inr ⟨_,_,rfl,hb⟩) (HU Vd Vc ks vs es.toList 0 r h1 h2 hr)
 case gj ks vs=>
  simp only [af] at hx;obtain ⟨b,es,clock,rfl,_,_,_,hb,h1,h2⟩:=hx;exact body _ es (.inr ⟨_,_,rfl,hb⟩) (HU Vd Vc ks vs es.toList 0 r h1 h2 hr)
end
end
section
open Go
def Aw:∀(k1 k2:List Nat) (a b:List AV) (r:Bool),dh (k1++k2) a b=some r->
  ∃r1 r2,dh k1 (a.take k1.length) (b.take k1.length)=some r1/\dh k2 (a.drop k1.length) (b.drop k1.length)=some r2/\r=(r1&&r2)
 | [],k2,a,b,r,h=>⟨true,r,by simp [dh],by simpa using h,by simp⟩
 | k::k1,k2,[],b,r,h=>by
  simp only [yH] at h;unfold dh at h
  grind
 | k::k1,k2,x::a,[],r,h=>by
  unfold dh at h
  grind
 | k::k1,k2,x::a,y::b,r,h=>by
  have step:∀(q:Bool) (f:Bool->Bool),(match dh (k1++k2) a b with | some r=>some (f r) | none=>none)=some q->∃r0,dh (k1++k2) a b=some r0/\q=f r0:=by grind
  unfold dh at h
  split at h
  ·grind
  ·rename_i e1 e2 e3;obtain ⟨rfl,rfl⟩:=e1;obtain ⟨rfl,rfl⟩:=e2;obtain ⟨rfl,rfl⟩:=e3;obtain ⟨r0,h0,rfl⟩:=step r _ h;obtain ⟨r1,r2,h1,h2,rfl⟩:=Aw k1 k2 _ _ r0 h0;exact ⟨_,r2,by simp only [yx,xQ,dh,h1],by simpa using h2,(vZ _ _ _).symm⟩
  ·rename_i e1 e2 e3;obtain ⟨rfl,rfl⟩:=e1;obtain ⟨rfl,rfl⟩:=e2;obtain ⟨rfl,rfl⟩:=e3
   split at h
   ·rename_i hk;obtain ⟨r0,h0,rfl⟩:=step r _ h;obtain ⟨r1,r2,h1,h2,rfl⟩:=Aw k1 k2 _ _ r0 h0;exact ⟨_,r2,by simp only [yx,xQ,dh,h1,hk,yR],by simpa using h2,(vZ _ _ _).symm⟩
   ·cases h
  ·rename_i e1 e2 e3;obtain ⟨rfl,rfl⟩:=e1;obtain ⟨rfl,rfl⟩:=e2;obtain ⟨rfl,rfl⟩:=e3;obtain ⟨r0,h0,rfl⟩:=step r _ h;obtain ⟨r1,r2,h1,h2,rfl⟩:=Aw k1 k2 _ _ r0 h0;exact ⟨_,r2,by simp only [yx,xQ,dh,h1],by simpa using h2,(vZ _ _ _).symm⟩
  ·cases h
def LY:∀(ks:List Nat) (a b:List AV) (r:Bool),dh ks a b=some r->a.length=ks.length/\b.length=ks.length
 | [],a,b,r,h=>by
  unfold dh at h
  grind
 | k::ks,[],b,r,h=>by
  unfold dh at h
  grind
 | k::ks,x::a,[],r,h=>by
  unfold dh at h
  grind
 | k::ks,x::a,y::b,r,h=>by
  have:∃r0,dh ks a b=some r0:=by
   cases he:dh ks a b with
   | some r0=>exact ⟨r0,rfl⟩
   | none=>unfold dh at h;split at h<;>simp_all
  obtain ⟨r0,h0⟩:=this
  have:=LY ks a b r0 h0
  simp [this]
def zK (P:yJ) (t:yj) (x:yd) (xs:List yd):Prop:=(cS P t=some true/\x= .agg xs.toArray)\/(cS P t=some false/\xs=[x])
section
variable {P:yJ} {ae:Nat->Nat} {m:Mp} {S:Nat->Prop} {w:yf}
def G8 {t:yj} {ag:Bool} (ha:cS P t=some ag):(isAgg t).run P w= .ok ag w:=by
 unfold cS at ha
 cases hu:P.underlying t with
 | none=>simp [hu] at ha
 | some d=>cases d<;>simp_all [isAgg,underlying]
def aar {t:yj} {s o:Nat} {xs:List yd} (hz:bU P t=some s) (ha:∃ag,cS P t=some ag) (h1:cS P t=some false->s=1) (hl:o+s<=xs.length):
  ∃u,(part t xs.toArray o).run P w= .ok u w/\zK P t u ((xs.drop o).take s):=by
 obtain ⟨ag,ha⟩:=ha
 cases ag with
 | true=>
  refine ⟨.agg ((xs.drop o).take s).toArray,?_,.inl ⟨ha,rfl⟩⟩;simp [part,G8 ha,jG hz,List.extract_eq_take_drop]
 | false=>
  have hs:=h1 ha;subst hs;have aV:o<xs.length:=by omega
  refine ⟨xs[o],?_,.inr ⟨ha,?_⟩⟩
  ·simp [part,G8 ha,xP aV]
  ·rw [List.drop_eq_getElem_cons aV,xQ,List.take_zero]
def YJ {n:Nat} {t:yj} {ks:List Nat} (h:kinds P n t=some ks):∃ag,cS P t=some ag/\(ag=false->ks.length=1):=by
 cases n with
 | zero=>simp [kinds] at h
 | succ n=>
  unfold kinds at h;unfold cS
  split at h<;>simp_all
  all_goals (rw [<-h];rfl)
def Jh (P:yJ) (ae:Nat->Nat) (m:Mp) (S:Nat->Prop) (w:yf) (n:Nat):Prop:=
 ∀(t:yj) (ks:List Nat),kinds P n t=some ks->P.stoodInHeld t=false->∀(d:Nat),n<=d->∀(xs ys:List yd) (cs cF:List AV) (r:Bool) (x y:yd),
  an ae m S w cs xs->an ae m S w cF ys->dh ks cs cF=some r->zK P t x xs->zK P t y ys->(Op.equalIn d t x y).run P w= .ok r w
def Nb {n:Nat} (ih:Jh P ae m S w n) {t:yj} {ks:List Nat} {s o d:Nat} (hk:kinds P n t=some ks) (aT:P.stoodInHeld t=false) (hz:bU P t=some s) (hs:ks.length=s) (hd:n<=d)
  {xs ys:List yd} {cs cF:List AV} (h1:an ae m S w cs xs) (h2:an ae m S w cF ys) {r:Bool} (he:dh ks ((cs.drop o).take s) ((cF.drop o).take s)=some r):
  ∃u u',(part t xs.toArray o).run P w= .ok u w/\(part t ys.toArray o).run P w= .ok u' w/\(Op.equalIn d t u u').run P w= .ok r w:=by
 obtain ⟨ag,ha,h1s⟩:=YJ hk;obtain ⟨l1,l2⟩:=LY _ _ _ _ he;have q1:=fU _ _ h1;have q2:=fU _ _ h2;simp only [List.length_take,List.length_drop] at l1 l2;have pH:cS P t=some false->s=1:=fun h=>by
  grind
 have kP:o+s<=xs.length\/s=0:=by omega
 have mM:o+s<=ys.length\/s=0:=by omega
 have get:∀(zs:List yd),(o+s<=zs.length\/s=0)->∃u,(part t zs.toArray o).run P w= .ok u w/\zK P t u ((zs.drop o).take s):=by
  intro zs hl;rcases hl with hl | hl
  ·exact aar hz ⟨ag,ha⟩ pH hl
  ·subst hl
   cases ag with
   | false=>have:=pH ha;omega
   | true=>
    refine ⟨.agg ((zs.drop o).take 0).toArray,?_,.inl ⟨ha,rfl⟩⟩;simp [part,G8 ha,jG hz]
 obtain ⟨u,p1,v1⟩:=get xs kP;obtain ⟨u',p2,v2⟩:=get ys mM;exact ⟨u,u',p1,p2,ih t ks hk aT d hd _ _ _ _ r u u' (sI s (AL o h1)) (sI s (AL o h2)) he v1 v2⟩
def LZ {n:Nat} (ih:Jh P ae m S w n) {d:Nat} (hd:n<=d) {xs ys:List yd} {cs cF:List AV} (h1:an ae m S w cs xs) (h2:an ae m S w cF ys):
  ∀(fs:List vK) (o:Nat) (ks:List Nat) (r:Bool),sE P (fun u=>kinds P n u) fs o=some ks->dh ks (cs.drop o) (cF.drop o)=some r->(Op.eqFields d xs.toArray ys.toArray fs).run P w= .ok r w
 | [],o,ks,r,h,he=>by
  simp only [sE,yb] at h;unfold dh at he
  split at he<;>simp_all [Op.eqFields]
 | f::fs,o,ks,r,h,he=>by
  simp only [sE] at h
  cases hk:kinds P n f.type with
  | none=>simp [hk] at h
  | some kf=>
   cases hz:bU P f.type with
   | none=>simp [hk,hz] at h
   | some s=>
    simp only [hk,hz] at h
    cases hc:(f.name != "_"&&yk f.offset o&&yk kf.length s&& !P.stoodInHeld f.type) with
    | false=>rw [hc] at h;cases h
    | true=>
     rw [hc] at h;simp only [yi] at h;simp only [ye,bne_iff_ne,ua] at hc;obtain ⟨⟨⟨hn,ho⟩,hl⟩,aT⟩:=hc;have ho:=yh ho;have hl:=yh hl
     cases hr:sE P (fun u=>kinds P n u) fs (o+s) with
     | none=>simp [hr] at h
     | some kr=>
      simp only [hr,yb] at h;subst h;obtain ⟨r1,r2,e1,e2,rfl⟩:=Aw _ _ _ _ _ he;rw [hl] at e1 e2;rw [wR,wR] at e2;obtain ⟨u,u',p1,p2,p3⟩:=Nb ih (o:=o) hk aT hz hl hd h1 h2 e1;have rest:=LZ ih hd h1 h2 fs (o+s) kr r2 hr e2;subst ho;simp only [Op.eqFields]
      cases r1 with
      | true=>simp [hn,p1,p2,p3,rest]
      | false=>simp [hn,p1,p2,p3]
def Mm {n:Nat} (ih:Jh P ae m S w n) {d:Nat} (hd:n<=d) {xs ys:List yd} {cs cF:List AV} (h1:an ae m S w cs xs) (h2:an ae m S w cF ys)
  {e:yj} {ks:List Nat} {s:Nat} (hk:kinds P n e=some ks) (aT:P.stoodInHeld e=false) (hz:bU P e=some s) (hl:ks.length=s):
  ∀(k j:Nat) (r:Bool),dh (List.replicate k ks).flatten (cs.drop (j*s)) (cF.drop (j*s))=some r->(Op.eqItems d e s xs.toArray ys.toArray (List.range' j k)).run P w= .ok r w
 | 0,j,r,he=>by
  unfold dh at he
  split at he<;>simp_all [Op.eqItems]
 | k+1,j,r,he=>by
  obtain ⟨r1,r2,e1,e2,rfl⟩:=Aw _ _ _ _ _ he;rw [hl] at e1 e2;rw [wR,wR,show j*s+s=(j+1)*s by rw [w7,Nat.one_mul]] at e2;obtain ⟨u,u',p1,p2,p3⟩:=Nb ih (o:=j*s) hk aT hz hl hd h1 h2 e1;have rest:=Mm ih hd h1 h2 hk aT hz hl k (j+1) r2 e2;rw [List.range'_succ];simp only [Op.eqItems]
  cases r1 with
  | true=>simp [p1,p2,p3,rest]
  | false=>simp [p1,p2,p3]
def IY:∀(n:Nat) (t:yj) (ks:List Nat),kinds P n t=some ks->P.stoodInHeld t=false->∀(d:Nat),n<=d->∀(xs ys:List yd) (cs cF:List AV) (r:Bool) (x y:yd),
  an ae m S w cs xs->an ae m S w cF ys->dh ks cs cF=some r->zK P t x xs->zK P t y ys->(Op.equalIn d t x y).run P w= .ok r w
 | 0,t,ks,h,_,_,_,_,_,_,_,_,_,_,_,_,_,_,_=>by simp [kinds] at h
 | n+1,t,ks,h,aT,0,hd,_,_,_,_,_,_,_,_,_,_,_,_=>by omega
 | n+1,t,ks,h,aT,d+1,hd,xs,ys,cs,cF,r,x,y,h1,h2,he,hx,hy=>by
  unfold kinds at h;have one:∀{k:Nat},ks=[k]->cS P t=some false->∃c c',cs=[c]/\cF=[c']/\af ae m S w c x/\af ae m S w c' y:=by
   intro k hk ha;rcases hx with ⟨hx,_⟩ | ⟨_,rfl⟩
   ·grind
   rcases hy with ⟨hy,_⟩ | ⟨_,rfl⟩
   ·grind
   have l1:=fU _ _ h1;have l2:=fU _ _ h2
   match cs,cF,l1,l2 with
   | [c],[c'],_,_=>
    simp only [an] at h1 h2
    grind
  split at h
  ·rename_i hu;simp only [yb] at h;have ha:cS P t=some false:=by simp [cS,hu]
   obtain ⟨c,c',rfl,rfl,r1,r2⟩:=one h.symm ha;subst h;unfold dh at he
   split at he<;>simp_all [dh]
   subst he;simp only [af] at r1 r2;subst r1;subst r2;simp [Op.equalIn,run_underlying hu]
  ·rename_i k0 hu;simp only [yb] at h;have ha:cS P t=some false:=by simp [cS,hu]
   obtain ⟨c,c',rfl,rfl,r1,r2⟩:=one h.symm ha;subst h;unfold dh at he
   split at he<;>simp_all [dh]
   obtain ⟨hk,he⟩:=he;subst he;simp only [af] at r1 r2;subst r1;subst r2;simp [Op.equalIn,run_underlying hu]
  ·rename_i hu;simp only [yb] at h;have ha:cS P t=some false:=by simp [cS,hu]
   obtain ⟨c,c',rfl,rfl,r1,r2⟩:=one h.symm ha;subst h;unfold dh at he
   split at he<;>simp_all [dh]
   subst he;simp only [af] at r1 r2;obtain ⟨s,rfl,rfl⟩:=r1;obtain ⟨s',rfl,rfl⟩:=r2;simp only [Op.equalIn,Sem.run_bind,run_underlying hu,Result.andThen_ok,Sem.run_pure,M9];rfl
  ·rename_i fs hu;have ha:cS P t=some true:=by simp [cS,hu]
   rcases hx with ⟨_,rfl⟩ | ⟨hx,_⟩
   ·rcases hy with ⟨_,rfl⟩ | ⟨hy,_⟩
    ·have hf:P.fieldsOf t=fs:=by simp [Program.fieldsOf,hu]
     rw [run_equalIn_struct w d t _ _ (by rw [hf];exact hu) aT,hf]
     exact LZ (IY n) (by omega) h1 h2 fs.toList 0 ks r h (by simpa using he)
    ·rw [ha] at hy;cases hy
   ·rw [ha] at hx;cases hx
  ·rename_i k e hu;have ha:cS P t=some true:=by simp [cS,hu]
   rcases hx with ⟨_,rfl⟩ | ⟨hx,_⟩
   ·rcases hy with ⟨_,rfl⟩ | ⟨hy,_⟩
    ·cases hk:kinds P n e with
     | none=>simp [hk] at h
     | some ke=>
      cases hz:bU P e with
      | none=>simp [hk,hz] at h
      | some s=>
       simp only [hk,hz] at h
       cases hc:(yk ke.length s&& !P.stoodInHeld e) with
       | false=>rw [hc] at h;cases h
       | true=>
        rw [hc] at h;simp only [yi,yb] at h;subst h;simp only [ye,ua] at hc;have ew:=hz;unfold bU at ew
        cases hi:P.info? e with
        | none=>simp [hi] at ew
        | some i=>
         simp only [hi,yb] at ew;have pC:P.cellsOf e=s:=by simp [Program.cellsOf,hi,ew]
         rw [run_equalIn_array w d _ _ hu hi,pC,List.range_eq_range'];exact Mm (IY n) (by omega) h1 h2 hk hc.2 hz (yh hc.1) k 0 r (by simpa using he)
    ·rw [ha] at hy;cases hy
   ·rw [ha] at hx;cases hx
  ·cases h
end
end
section
open Go
def cG {tm:Env} {hp:Hp} {v:AV} (h:bf tm hp bad=some v):False:=by simp [bad,bf] at h
section
variable {O:a8} {H:Hint} {m:Mp} {S:Nat->Prop} {w:yf} {tm:Env} {a:Act} {hp:Hp} {ct:Nat}
def acF {ae:Nat->Nat} {va vb v:AV} {x y:yd} (hx:af ae m S w va x) (hy:af ae m S w vb y) (h:VE.min2 va vb=some v):∃u,(Builtin.min2 x y).run O.P w= .ok u w/\af ae m S w v u:=by
 unfold VE.min2 at h
 split at h
 ·simp only [af] at hx hy;subst hx;subst hy;simp only [yb] at h;subst h;exact ⟨_,by simp only [Builtin.min2,Sem.run_pure];rfl,by simp only [af]⟩
 ·rename_i k p k' q;simp only [af] at hx hy;subst hx;subst hy
  cases ho:k.format.order p q with
  | none=>simp [ho] at h
  | some c=>cases c<;>(simp only [ho,yb] at h;subst h;exact ⟨_,by simp only [Builtin.min2,ho,Sem.run_pure];rfl,by simp only [af]⟩)
 ·cases h
def acG {ae:Nat->Nat} {va vb v:AV} {x y:yd} (hx:af ae m S w va x) (hy:af ae m S w vb y) (h:VE.max2 va vb=some v):∃u,(Builtin.max2 x y).run O.P w= .ok u w/\af ae m S w v u:=by
 unfold VE.max2 at h
 split at h
 ·simp only [af] at hx hy;subst hx;subst hy;simp only [yb] at h;subst h;exact ⟨_,by simp only [Builtin.max2,Sem.run_pure];rfl,by simp only [af]⟩
 ·rename_i k p k' q;simp only [af] at hx hy;subst hx;subst hy
  cases ho:k.format.order p q with
  | none=>simp [ho] at h
  | some c=>cases c<;>(simp only [ho,yb] at h;subst h;exact ⟨_,by simp only [Builtin.max2,ho,Sem.run_pure];rfl,by simp only [af]⟩)
 ·cases h
def Iv {ae:Nat->Nat} {f:AV->AV->Option AV} {g:yd->yd->Sem yd} (Ve:∀va vb v x y,af ae m S w va x->af ae m S w vb y->f va vb=some v->∃u,(g x y).run O.P w= .ok u w/\af ae m S w v u):
  ∀(l:List AV) (us:List yd) (va v:AV) (x:yd),af ae m S w va x->an ae m S w l us->oQ f va l=some v->∃u,(us.foldlM g x).run O.P w= .ok u w/\af ae m S w v u
 | [],us,va,v,x,hx,hl,h=>by
  simp only [an] at hl;subst hl;simp only [oQ,yb] at h;subst h;exact ⟨x,by simp,hx⟩
 | b::l,us,va,v,x,hx,hl,h=>by
  simp only [an] at hl;obtain ⟨u,r,rfl,hu,hr⟩:=hl;simp only [oQ] at h
  cases hf:f va b with
  | none=>simp [hf] at h
  | some c=>
   simp only [hf] at h;obtain ⟨u1,h1,h2⟩:=Ve _ _ _ _ _ hx hu hf;obtain ⟨u2,h3,h4⟩:=Iv Ve l r c v u1 h2 hr h;exact ⟨u2,by simp [h1,h3],h4⟩
def IZ {t:yj} {vx v:AV} {x:yd} {ty:yj} (hh:aJ O m S w hp ct) (hx:af O.ae m S w vx x)
  {k:Nat} (hu:(k=0/\O.P.underlying t=some .string)\/(k=1/\∃e,O.P.underlying t=some (.slice e))\/(k=2/\∃kt e,O.P.underlying t=some (.map kt e)))
  (h:fh hp k vx=some v):∃u,(Builtin.len_ #[t] ty #[x]).run O.P w= .ok u w/\af O.ae m S w v u:=by
 rcases hu with ⟨rfl,hu⟩ | ⟨rfl,e,hu⟩ | ⟨rfl,kt,e,hu⟩
 all_goals cases vx<;>simp only [fh,reduceCtorEq] at h
 case inl.str s=>
  simp only [af] at hx;obtain ⟨b,rfl,rfl⟩:=hx;simp only [yb] at h;subst h;refine ⟨_,by simp [Builtin.len_,run_underlying hu];rfl,?_⟩
  simp only [af,goInt];rw [Lib.size_eq];simp
 case inr.inl.aa=>
  simp only [af] at hx;subst hx;simp only [yb] at h;subst h;exact ⟨_,by simp [Builtin.len_,run_underlying hu];rfl,by simp [af,goInt]⟩
 case inr.inl.aB ex n cs=>
  simp only [af] at hx;rcases hx with ⟨b,o,c,rfl,_⟩ | ⟨a,rfl,rfl,rfl⟩
  all_goals
   simp only [yb] at h;subst h;exact ⟨_,by simp [Builtin.len_,run_underlying hu];rfl,by simp [af,goInt]⟩
 case inr.inl.au id o n=>
  simp only [af] at hx;obtain ⟨p,c,_,rfl,_⟩:=hx;simp only [yb] at h;subst h;exact ⟨_,by simp [Builtin.len_,run_underlying hu];rfl,by simp [af,goInt]⟩
 case inr.inr.gH=>
  simp only [af] at hx;subst hx;simp only [yb] at h;subst h;exact ⟨_,by simp [Builtin.len_,run_underlying hu];rfl,by simp [af,goInt]⟩
 case inr.inr.gj ks vs=>
  simp only [af] at hx;obtain ⟨b,es,clock,rfl,_,_,_,hb,h1,_⟩:=hx;simp only [yb] at h;subst h;refine ⟨_,by simp [Builtin.len_,run_underlying hu,getObj,Sem.run,hb];rfl,?_⟩
  have:=fU _ _ h1
  simp only [af,goInt];rw [<-this];simp
 case inr.inr.map id=>
  simp only [af] at hx;obtain ⟨p,hm,rfl⟩:=hx
  split at h
  case h_2=>cases h
  rename_i Kn ks vs qV;simp only [yb] at h;subst h;obtain ⟨p',es,clock,eu,hb,h1,_⟩:=hh.obj id _ _ qV hm;rw [hm] at eu;injection eu with eu;subst eu
  refine ⟨_,by simp [Builtin.len_,run_underlying hu,getObj,Sem.run,hb];rfl,?_⟩
  have:=fU _ _ h1
  simp only [af,goInt];rw [<-this];simp
end
end
section
open Go
section
variable {O:a8} {H:Hint} {m:Mp} {S:Nat->Prop} {w:yf} {tm:Env} {a:Act} {hp:Hp} {ct:Nat}
def sO {t:yj} {z:AV} (h:ju O.P t=some z):∃v,(zeroValue t).run O.P w= .ok v w/\z=du v:=by
 unfold ju at h
 cases hi:O.P.info? t with
 | none=>simp [hi] at h
 | some i=>
  simp only [hi] at h
  cases hz:i.zero with
  | none=>simp [hz] at h
  | some v=>
   simp only [hz,yb] at h;exact ⟨v,by simp [zeroValue,typeInfo,hi,hz],h.symm⟩
def Reads (O:a8) (m:Mp) (S:Nat->Prop) (w:yf) (a:Act) (o:yI) (v:AV):Prop:=
 ∃u,(execOp a.eval o).run O.P w= .ok (.value u) w/\af O.ae m S w v u
def gR {o:yI} {v:AV} {s:Sem yd} (he:execOp a.eval o=(do pure (.value (<-s)):Sem Next)) (h:∃u,s.run O.P w= .ok u w/\af O.ae m S w v u):Reads O m S w a o v:=by
 obtain ⟨u,h1,h2⟩:=h;exact ⟨u,by rw [he];simp [h1],h2⟩
def aas {o:yI} {op:BinOp} {t ty:yj} {x y:y8} {k:Nat} {v:AV} (hH:dY O H) (ht:bM O m S w tm a.tmps) (ho:o.op= .binOp op t x y ty)
  (hv:bf tm hp (aW O.P H k o)=some v):Reads O m S w a o v:=by
 have rx:=bQ hH ht x;have ry:=bQ hH ht y;have guard:∀{u:yd},(∀xs ys,¬(a.eval x= .agg xs/\a.eval y= .agg ys))\/O.P.eqGuardType O.P.depth t=false->a.eval x≠.nilIface->(xk op t (a.eval x) (a.eval y)).run O.P w= .ok u w->
   (do eqGuard op t x y (a.eval x) (a.eval y);xk op t (a.eval x) (a.eval y):Sem yd).run O.P w= .ok u w:=by
  intro u h1 h2 h3
  simp only [Sem.run_bind,XY (P:=O.P) (w:=w) (t:=t) (op:=op) (x:=x) (y:=y) (h1.symm) h2,Result.andThen_ok,h3]
 have plain:bf tm hp (.bin op (aH H x) (aH H y))=some v->Reads O m S w a o v:=by
  intro hv;simp only [bf] at hv;obtain ⟨u,h1,h2⟩:=aao (P:=O.P) (t:=t) rx ry hv
  refine gR (s:=do eqGuard op t x y (a.eval x) (a.eval y);xk op t (a.eval x) (a.eval y)) (by simp only [execOp,ho]) ⟨u,guard (.inl ?_) ?_ h1,h2⟩
  ·rintro xs ys ⟨e1,e2⟩;rw [e1] at rx;unfold VE.binOp at hv
   split at hv
   ·rename_i h3 _;rw [h3] at rx;simp [af] at rx
   ·rename_i h3 _;rw [h3] at rx;simp [af] at rx
   ·rename_i h3 _;rw [h3] at rx;simp [af] at rx
   ·cases hv
  ·intro e1;rw [e1] at rx;unfold VE.binOp at hv
   split at hv
   ·rename_i h3 _;rw [h3] at rx;simp [af] at rx
   ·rename_i h3 _;rw [h3] at rx;simp [af] at rx
   ·rename_i h3 _;rw [h3] at rx;simp [af] at rx
   ·cases hv
 have other:∀(ne:Bool) (kd:VE.FJ),(op= .eql/\ne=false\/op= .neq/\ne=true)->(∀r,gX kd (aq tm (aH H x)) (aq tm (aH H y))=some r->(Op.equal t (a.eval x) (a.eval y)).run O.P w= .ok r w/\
    ((∀xs ys,¬(a.eval x= .agg xs/\a.eval y= .agg ys))\/O.P.eqGuardType O.P.depth t=false)/\a.eval x≠.nilIface/\
    ∀q:Bool,(op= .eql->xk op t (a.eval x) (a.eval y)=(do pure (.bool (<-Op.equal t (a.eval x) (a.eval y)))))/\(op= .neq->xk op t (a.eval x) (a.eval y)=(do pure (.bool (!(<-Op.equal t (a.eval x) (a.eval y)))))))->
   bf tm hp (.eq ne kd (aH H x) (aH H y))=some v->Reads O m S w a o v:=by
  intro ne kd gL ri hv;simp only [bf] at hv
  cases he:gX kd (aq tm (aH H x)) (aq tm (aH H y)) with
  | none=>simp [he] at hv
  | some r=>
   simp only [he,yb] at hv;subst hv;obtain ⟨h1,h2,h3,h4⟩:=ri r he;obtain ⟨h5,h6⟩:=h4 true
   refine gR (s:=do eqGuard op t x y (a.eval x) (a.eval y);xk op t (a.eval x) (a.eval y)) (by simp only [execOp,ho]) ⟨.bool (ne !=r),guard h2 h3 ?_,by simp [af]⟩
   rcases gL with ⟨rfl,rfl⟩ | ⟨rfl,rfl⟩
   ·rw [h5 rfl];simp [h1]
   ·rw [h6 rfl];simp [h1]
 have pB:O.P.underlying t=some .bool->∀r,gX .b (aq tm (aH H x)) (aq tm (aH H y))=some r->∃p q,a.eval x= .bool p/\a.eval y= .bool q/\(Op.equal t (a.eval x) (a.eval y)).run O.P w= .ok r w:=by
  intro hu r he;cases hx:aq tm (aH H x)<;>cases hy:aq tm (aH H y)<;>rw [hx,hy] at he<;>simp only [gX,reduceCtorEq] at he
  rw [hx] at rx;rw [hy] at ry;simp only [af] at rx ry;simp only [yb] at he;refine ⟨_,_,rx,ry,?_⟩;rw [rx,ry,DR,<-he];exact aeJ hu
 have pS:∀e,O.P.underlying t=some (.slice e)->∀r,gX .sl (aq tm (aH H x)) (aq tm (aH H y))=some r->∃p n c q n' c',a.eval x= .slice p n c/\a.eval y= .slice q n' c'/\(Op.equal t (a.eval x) (a.eval y)).run O.P w= .ok r w:=by
  intro e hu r he;have h1:=acC hu rx ry he;have sl:∀{v:AV} {u:yd},af O.ae m S w v u->(v= .aa\/(∃a b c,v= .aB a b c)\/∃a b c,v= .au a b c)->∃p n c,u= .slice p n c:=by
   intro v u hr hv;rcases hv with rfl | ⟨_,_,_,rfl⟩ | ⟨_,_,_,rfl⟩
   ·simp only [af] at hr;exact ⟨_,_,_,hr⟩
   ·simp only [af] at hr;rcases hr with ⟨b,o,c,hr,_⟩ | ⟨_,hr,_⟩<;>exact ⟨_,_,_,hr⟩
   ·simp only [af] at hr;obtain ⟨b,c,_,hr,_⟩:=hr;exact ⟨_,_,_,hr⟩
  have cT:(aq tm (aH H x)= .aa\/(∃a b c,aq tm (aH H x)= .aB a b c)\/∃a b c,aq tm (aH H x)= .au a b c)/\
    (aq tm (aH H y)= .aa\/(∃a b c,aq tm (aH H y)= .aB a b c)\/∃a b c,aq tm (aH H y)= .au a b c):=by
   cases hx:aq tm (aH H x)<;>cases hy:aq tm (aH H y)<;>rw [hx,hy] at he<;>simp [gX] at he ⊢
  obtain ⟨p,n,c,e1⟩:=sl rx cT.1;obtain ⟨q,n',c',e2⟩:=sl ry cT.2;exact ⟨p,n,c,q,n',c',e1,e2,h1⟩
 have pF:∀ps rs vr,O.P.underlying t=some (.func ps rs vr)->∀r,gX .fn (aq tm (aH H x)) (aq tm (aH H y))=some r->
   ((a.eval x= .nilFunc\/∃f p q,a.eval x= .func f p q)/\(a.eval y= .nilFunc\/∃f p q,a.eval y= .func f p q))/\(Op.equal t (a.eval x) (a.eval y)).run O.P w= .ok r w:=by
  intro ps rs vr hu r he;have h1:=acD hu rx ry he;have sl:∀{v:AV} {u:yd},af O.ae m S w v u->(v= .fk\/(∃a b c,v= .fn a b c))->(u= .nilFunc\/∃f p q,u= .func f p q):=by
   intro v u hr hv;rcases hv with rfl | ⟨f,_,_,rfl⟩
   ·simp only [af] at hr;exact .inl hr
   ·cases f with
    | f g=>simp only [af] at hr;obtain ⟨b,c,hr,_⟩:=hr;exact .inr ⟨_,_,_,hr⟩
    | y l=>simp only [af] at hr;obtain ⟨b,_,hr⟩:=hr;exact .inr ⟨_,_,_,hr⟩
  have cT:(aq tm (aH H x)= .fk\/(∃a b c,aq tm (aH H x)= .fn a b c))/\(aq tm (aH H y)= .fk\/(∃a b c,aq tm (aH H y)= .fn a b c)):=by
   cases hx:aq tm (aH H x)<;>cases hy:aq tm (aH H y)<;>rw [hx,hy] at he<;>simp [gX] at he ⊢
  exact ⟨⟨sl rx cT.1,sl ry cT.2⟩,h1⟩
 have pA:∀ks,kinds O.P 20 t=some ks->cS O.P t=some true->O.P.stoodInHeld t=false->∀r,gX (.ag ks) (aq tm (aH H x)) (aq tm (aH H y))=some r->∃p q,a.eval x= .agg p/\a.eval y= .agg q/\(Op.equal t (a.eval x) (a.eval y)).run O.P w= .ok r w:=by
  intro ks hk ha aT r he;cases hx:aq tm (aH H x)<;>cases hy:aq tm (aH H y)<;>rw [hx,hy] at he<;>simp only [gX,reduceCtorEq] at he
  rw [hx] at rx;rw [hy] at ry;simp only [af] at rx ry;obtain ⟨p,e1,h1⟩:=rx;obtain ⟨q,e2,h2⟩:=ry;refine ⟨p,q,e1,e2,?_⟩;rw [e1,e2,DR];exact IY 20 t ks hk aT 10000 (by omega) _ _ _ _ r _ _ h1 h2 he (.inl ⟨ha,by simp⟩) (.inl ⟨ha,by simp⟩)
 have eqs:∀(ne:Bool),(op= .eql/\ne=false\/op= .neq/\ne=true)->bf tm hp (mj O.P H ne op t x y)=some v->Reads O m S w a o v:=by
  intro ne gL hv;have agg:cS O.P t=some true->bf tm hp (nl O.P H ne t x y)=some v->Reads O m S w a o v:=by
   intro ha hv;unfold nl at hv
   cases hk:kinds O.P 20 t with
   | none=>rw [hk] at hv;exact (cG hv).elim
   | some ks=>
    simp only [hk] at hv
    cases hc:(O.P.stoodInHeld t||O.P.eqGuardType O.P.depth t) with
    | true=>rw [hc] at hv;exact (cG hv).elim
    | false=>
     rw [hc] at hv;simp only [yr] at hv;simp only [Bool.or_eq_false_iff] at hc;refine other ne (.ag ks) gL (fun r hr=>?_) hv;obtain ⟨p,q,e1,e2,h1⟩:=pA ks hk ha hc.1 r hr;refine ⟨h1,.inr hc.2,by rw [e1];simp,fun _=>?_⟩
     rw [e1,e2];exact ⟨fun e=>by subst e;rfl,fun e=>by subst e;rfl⟩
  unfold mj at hv
  split at hv
  ·exact plain hv
  ·exact plain hv
  ·exact plain hv
  ·rename_i hu;refine other ne .b gL (fun r hr=>?_) hv;obtain ⟨p,q,e1,e2,h1⟩:=pB hu r hr;refine ⟨h1,.inl (by rw [e1];simp),by rw [e1];simp,fun _=>?_⟩
   rw [e1,e2];exact ⟨fun e=>by subst e;rfl,fun e=>by subst e;rfl⟩
  ·rename_i e hu;refine other ne .sl gL (fun r hr=>?_) hv;obtain ⟨p,n,c,q,n',c',e1,e2,h1⟩:=pS e hu r hr;refine ⟨h1,.inl (by rw [e1];simp),by rw [e1];simp,fun _=>?_⟩
   rw [e1,e2];exact ⟨fun e=>by subst e;rfl,fun e=>by subst e;rfl⟩
  ·rename_i ps rs vr hu;refine other ne .fn gL (fun r hr=>?_) hv;obtain ⟨⟨e1,e2⟩,h1⟩:=pF ps rs vr hu r hr;refine ⟨h1,.inl ?_,?_,fun _=>?_⟩
   ·rcases e1 with e1 | ⟨_,_,_,e1⟩<;>rw [e1]<;>simp
   ·rcases e1 with e1 | ⟨_,_,_,e1⟩<;>rw [e1]<;>simp
   ·rcases e1 with e1 | ⟨_,_,_,e1⟩<;>rcases e2 with e2 | ⟨_,_,_,e2⟩<;>rw [e1,e2]<;>exact ⟨fun e=>by subst e;rfl,fun e=>by subst e;rfl⟩
  ·rename_i fs hu;exact agg (by simp [cS,hu]) hv
  ·rename_i k0 e hu;exact agg (by simp [cS,hu]) hv
  ·exact (cG hv).elim
 cases op
 case eql=>exact eqs false (.inl ⟨rfl,rfl⟩) (by simpa only [aW,ho] using hv)
 case neq=>exact eqs true (.inr ⟨rfl,rfl⟩) (by simpa only [aW,ho] using hv)
 all_goals exact plain (by simpa only [aW,ho] using hv)
end
end
end VE
