import Derived.WideLaws
import Derived.Maps.Keyed
import Derived.ChangeKeysEq
import Derived.Test.YtflgmingejdfnaaGreatDoorVaa
set_option linter.all false
set_option maxRecDepth 100000
open Bool renaming and_assoc→uQ,and_eq_true→yf,false_eq_true→yC,not_eq_true'→uR
open Go renaming Addr→uh,Field→uv,IntKind→yU,MapEntry→ui,Oper→yY,Operand→xB,Program→y5,TypeDesc→vl,TypeId→yx,Value→ye,World→yh,binOp→xI,sizeOf→vX
open List.cons renaming injEq→tL
open List renaming cons_append→y8,drop_drop→vC,getElem?_eq_getElem→wh,length_cons→yv,map_cons→y9,take_succ_cons→wm
open Nat renaming add_assoc→uk,add_mul→wG,beq→yr,ble→yE,blt→yG,eq_of_beq_eq_true→yo,le_of_ble_eq_true→yt,le_refl→yD
open Option renaming map_none→vB,map_some→wq
open Option.some renaming injEq→yc
open UInt8 renaming toNat→yW
namespace VE
section
open Go
section
variable {ah:Nat->Nat} {P:y5} {m:Mp} {S:Nat->Prop} {w:yh} {t:yx}
def aip {op:BinOp} {x y:xB} {a b:ye} (h:P.eqGuardType P.depth t=false\/∀xs ys,¬(a= .agg xs/\b= .agg ys)) (hn:a≠.nilIface):
  (eqGuard op t x y a b).run P w= .ok () w:=by
 unfold eqGuard;cases op
 all_goals first
  | rfl
  | (
    cases a
    all_goals first
     | rfl
     | exact absurd rfl hn
     | (
      cases b
      all_goals first
       | rfl
       | (
         rcases h with h | h
         ·simp [h]
         ·exact absurd ⟨rfl,rfl⟩ (h _ _))))
def apQ {d:Nat} {p q:Bool} (ht:P.underlying t=some .bool):(Op.equalIn (d+1) t (.bool p) (.bool q)).run P w= .ok (p==q) w:=by
 simp [Op.equalIn,underlying,ht]
def R4 {d:Nat} {e:yx} (ht:P.underlying t=some (.slice e)) (y:Option uh) (n c n' c':Nat):
  (Op.equalIn (d+1) t (.slice none n c) (.slice y n' c')).run P w= .ok y.isNone w:=by simp [Op.equalIn,underlying,ht]
def adg {d:Nat} {e:yx} (ht:P.underlying t=some (.slice e)) (x:uh) (n c n' c':Nat):
  (Op.equalIn (d+1) t (.slice (some x) n c) (.slice none n' c')).run P w= .ok false w:=by simp [Op.equalIn,underlying,ht]
def asi {d:Nat} {ps rs:Array yx} {vr:Bool} (ht:P.underlying t=some (.func ps rs vr)):
  (Op.equalIn (d+1) t .nilFunc .nilFunc).run P w= .ok true w:=by simp [Op.equalIn,underlying,ht]
def adh {d:Nat} {ps rs:Array yx} {vr:Bool} (ht:P.underlying t=some (.func ps rs vr)) (f:Go.Fn) (a b:Array ye):
  (Op.equalIn (d+1) t .nilFunc (.func f a b)).run P w= .ok false w:=by simp [Op.equalIn,underlying,ht]
def adi {d:Nat} {ps rs:Array yx} {vr:Bool} (ht:P.underlying t=some (.func ps rs vr)) (f:Go.Fn) (a b:Array ye):
  (Op.equalIn (d+1) t (.func f a b) .nilFunc).run P w= .ok false w:=by simp [Op.equalIn,underlying,ht]
def Li (x y:ye):Op.equal t x y=Op.equalIn (9999+1) t x y:=rfl
def anG {vx vy:AV} {x y:ye} {r:Bool} {e:yx} (ht:P.underlying t=some (.slice e)) (hx:aj ah m S w vx x) (hy:aj ah m S w vy y)
  (h:im .sl vx vy=some r):(Op.equal t x y).run P w= .ok r w:=by
 rw [Li];unfold im at h
 split at h<;>simp_all only [yc,reduceCtorEq]
 all_goals subst h
 all_goals simp only [aj] at hx hy
 ·subst hx;subst hy;exact R4 ht _ _ _ _ _
 ·rcases hy with ⟨b,o,c,rfl,_⟩ | ⟨_,rfl,_⟩<;>(subst hx;exact R4 ht _ _ _ _ _)
 ·obtain ⟨p,c,_,rfl,_⟩:=hy;subst hx;exact R4 ht _ _ _ _ _
 ·rcases hx with ⟨b,o,c,rfl,_⟩ | ⟨_,rfl,_⟩<;>(subst hy;exact adg ht _ _ _ _ _)
 ·obtain ⟨p,c,_,rfl,_⟩:=hx;subst hy;exact adg ht _ _ _ _ _
def anH {vx vy:AV} {x y:ye} {r:Bool} {ps rs:Array yx} {vr:Bool} (ht:P.underlying t=some (.func ps rs vr)) (hx:aj ah m S w vx x) (hy:aj ah m S w vy y)
  (h:im .fn vx vy=some r):(Op.equal t x y).run P w= .ok r w:=by
 rw [Li];unfold im at h
 split at h<;>simp_all only [yc,reduceCtorEq]
 all_goals subst h
 ·simp only [aj] at hx hy;subst hx;subst hy;exact asi ht
 ·rename_i f _ _
  cases f with
  | f g=>simp only [aj] at hx hy;obtain ⟨fi,ca,rfl,_⟩:=hy;subst hx;exact adh ht _ _ _
  | y l=>simp only [aj] at hx hy;obtain ⟨p,_,rfl⟩:=hy;subst hx;exact adh ht _ _ _
 ·rename_i f _ _
  cases f with
  | f g=>simp only [aj] at hx hy;obtain ⟨fi,ca,rfl,_⟩:=hx;subst hy;exact adi ht _ _ _
  | y l=>simp only [aj] at hx hy;obtain ⟨p,_,rfl⟩:=hx;subst hy;exact adi ht _ _ _
def anI {op:UnOp} {vx v:AV} {x:ye} (hx:aj ah m S w vx x) (h:VE.unOp op vx=some v):∃u,(Op.unary op x).run P w= .ok u w/\aj ah m S w v u:=by
 unfold VE.unOp at h
 split at h
 ·rename_i k n;simp only [aj] at hx;subst hx;simp only [yc] at h;subst h;exact ⟨_,by simp [Op.unary,Op.intArith];rfl,by simp [aj]⟩
 ·rename_i k n;simp only [aj] at hx;subst hx;simp only [lz,yc] at h;subst h;exact ⟨_,by simp [Op.unary,Op.intBits];rfl,by simp [aj]⟩
 ·rename_i b;simp only [aj] at hx;subst hx;simp only [yc] at h;subst h;exact ⟨_,by simp [Op.unary];rfl,by simp [aj]⟩
 ·rename_i k b;simp only [aj] at hx;subst hx;simp only [yc] at h;subst h;exact ⟨_,by simp [Op.unary,Op.negFloat];rfl,by simp [aj]⟩
 ·cases h
def Zr {s d:yx} {k:yU} {vx v:AV} {x:ye} (hd:P.underlying d=some (.int k)) (hs:(∃k',P.underlying s=some (.int k'))\/∃k',P.underlying s=some (.float k'))
  (hx:aj ah m S w vx x) (h:mY (.toInt k) vx=some v):∃u,(convert s d x).run P w= .ok u w/\aj ah m S w v u:=by
 cases vx<;>simp only [mY,reduceCtorEq] at h
 case int k0 n=>
  simp only [aj] at hx;subst hx;simp only [yc] at h;subst h;refine ⟨.int k (k.wrap n),?_,by simp [aj]⟩;rcases hs with ⟨k',h'⟩ | ⟨k',h'⟩<;>simp [convert,underlying,Conv.intToInt,hd,h']
 case dB sk b=>
  simp only [aj] at hx;subst hx
  cases hi:(sk.decode b).toInt .zero with
  | none=>simp [hi] at h
  | some n=>
   simp only [hi] at h;by_cases hr:k.min<=n/\n<=k.max
   ·simp only [hr,and_self,y7,yc] at h;subst h;refine ⟨.int k n,?_,by simp [aj]⟩;rcases hs with ⟨k',h'⟩ | ⟨k',h'⟩<;>simp [convert,underlying,Conv.floatToInt,hd,h',hi,hr]
   ·simp [hr] at h
def Zs {s d:yx} {k:FloatKind} {vx v:AV} {x:ye} (hd:P.underlying d=some (.float k)) (hs:(∃k',P.underlying s=some (.int k'))\/∃k',P.underlying s=some (.float k'))
  (hx:aj ah m S w vx x) (h:mY (.toFlt k) vx=some v):∃u,(convert s d x).run P w= .ok u w/\aj ah m S w v u:=by
 cases vx<;>simp only [mY,reduceCtorEq] at h
 case int k0 n=>
  simp only [aj] at hx;subst hx;simp only [yc] at h;subst h;refine ⟨.float k (k.nearest n),?_,by simp [aj]⟩;rcases hs with ⟨k',h'⟩ | ⟨k',h'⟩<;>simp [convert,underlying,Conv.intToFloat,hd,h']
 case dB sk b=>
  simp only [aj] at hx;subst hx;by_cases he:sk=k
  ·subst he;simp only [y7,yc] at h;subst h;refine ⟨.float sk b,?_,by simp [aj]⟩;rcases hs with ⟨k',h'⟩ | ⟨k',h'⟩<;>simp [convert,underlying,Conv.floatToFloat,hd,h']
  ·simp only [he,yR] at h
   cases MU:sk.decode b with
   | nan _ _=>simp [MU] at h
   | infinity _=>simp [MU] at h
   | number sg mm ee=>
    simp only [MU] at h
    cases Sv:(k.decode (k.encode (.number sg mm ee))).isInfinity with
    | true=>simp [Sv] at h
    | false=>
     simp only [Sv,yC,yR,yc] at h;subst h;refine ⟨.float k (k.encode (.number sg mm ee)),?_,by simp [aj]⟩;rcases hs with ⟨k',h'⟩ | ⟨k',h'⟩<;>simp [convert,underlying,Conv.floatToFloat,hd,h',he,MU,Sv]
def alf {s d:yx} {vx v:AV} {x:ye} (hd:P.underlying d=some .string) (hs:P.underlying s=some .string)
  (hx:aj ah m S w vx x) (h:mY .str vx=some v):∃u,(convert s d x).run P w= .ok u w/\aj ah m S w v u:=by
 cases vx<;>simp only [mY,reduceCtorEq] at h
 simp only [yc] at h;subst h;simp only [aj] at hx;obtain ⟨b,rfl,hb⟩:=hx;exact ⟨.string b,by simp [convert,underlying,hs,hd],by simp only [aj];exact ⟨b,rfl,hb⟩⟩
end
end
section
open Go
def ajk {v:AV} {k:Nat} (h:dV v=some k):∃kd,v= .int kd (k:Int):=by
 cases v<;>simp only [dV,reduceCtorEq] at h
 rename_i kd n
 cases n with
 | ofNat j=>simp only [yc] at h;subst h;exact ⟨kd,rfl⟩
 | negSucc j=>cases h
section
variable {O:bw} {H:Hint} {m:Mp} {S:Nat->Prop} {w:yh} {tm:Env} {a:Act}
def sN {ah:Nat->Nat} {v:AV} {x:ye} {k:Nat} (hx:aj ah m S w v x) (h:dV v=some k):∃kd,x= .int kd (k:Int):=by
 obtain ⟨kd,rfl⟩:=ajk h;simp only [aj] at hx
 grind
def run_sliceBound {P:y5} {kd:yU} {k y:Nat} {code:BoundsCode} (h:k<=y):(Instr.sliceBound (.int kd (k:Int)) y code).run P w= .ok k w:=by
 have:(0:Int)<=(k:Int)/\(k:Int)<=(y:Int):=by omega
 simp [Instr.sliceBound,asIntOf,this]
def Yr {P:y5} {isSlice:Bool} {len cap l h:Nat} {lo hi:Option xB} (hH:fF O H) (ht:cp O m S w tm a.tmps)
  (hl:cV tm 0 (lo.map (aR H))=some l) (hh:cV tm len (hi.map (aR H))=some h) (h1:l<=h) (h2:h<=cap):
  (Instr.sliceBounds isSlice len cap (lo.map a.eval) (hi.map a.eval) none).run P w= .ok (l,h,cap) w:=by
 cases lo with
 | none=>
  simp only [vB,cV,yc] at hl;subst hl
  cases hi with
  | none=>
   simp only [vB,cV,yc] at hh;subst hh;simp [Instr.sliceBounds]
  | some y=>
   obtain ⟨kd,e⟩:=sN (cF hH ht y) hh;simp only [Instr.sliceBounds,vB,wq,e,Sem.run_bind,Sem.run_pure,Result.andThen_ok,run_sliceBound h2]
 | some x=>
  obtain ⟨kd,e⟩:=sN (cF hH ht x) hl
  cases hi with
  | none=>
   simp only [vB,cV,yc] at hh;subst hh;simp only [Instr.sliceBounds,vB,wq,e,Sem.run_bind,Sem.run_pure,Result.andThen_ok,run_sliceBound h1]
  | some y=>
   obtain ⟨Uj,e'⟩:=sN (cF hH ht y) hh;simp only [Instr.sliceBounds,wq,e,e',Sem.run_bind,Sem.run_pure,Result.andThen_ok,run_sliceBound h2,run_sliceBound h1]
def ajl {t:yx} {lo hi:Option xB} {vx v:AV} {x:ye} (hH:fF O H) (ht:cp O m S w tm a.tmps) (hu:O.P.underlying t=some .string)
  (hx:aj O.ah m S w vx x) {hp:Hp} (h:fA hp .str vx tm (lo.map (aR H)) (hi.map (aR H))=some v):
  ∃u,(Instr.sliceAt t x (lo.map a.eval) (hi.map a.eval) none).run O.P w= .ok u w/\aj O.ah m S w v u:=by
 cases vx<;>simp only [fA,reduceCtorEq] at h
 obtain ⟨b,rfl,rfl⟩:=hx
 cases hl:cV tm 0 (lo.map (aR H)) with
 | none=>simp [hl] at h
 | some l=>
  simp only [hl] at h
  cases hh:cV tm (b.data.toList.map yW).length (hi.map (aR H)) with
  | none=>rw [hh] at h;cases h
  | some g=>
   rw [hh] at h;simp only at h
   cases hc:(yE l g&&yE g (b.data.toList.map yW).length) with
   | false=>rw [hc] at h;cases h
   | true=>
    rw [hc] at h;simp only [ym,yc] at h;subst h;simp only [yf] at hc;have h1:=yt hc.1;have h2:=yt hc.2;have hlen:(b.data.toList.map yW).length=b.size:=Yq b;rw [hlen] at hh h2;refine ⟨.string (b.extract l g),?_,?_⟩
    ·simp only [Instr.sliceAt,Sem.run_bind,run_underlying hu,Result.andThen_ok,Instr.slice,Option.isSome_none,yC,yR,Sem.run_pure,
      Yr (P:=O.P) (isSlice:=false) (len:=b.size) (cap:=b.size) hH ht hl hh h1 h2]
    ·simp only [aj];refine ⟨_,rfl,?_⟩;rw [Lib.extract_data,List.map_take,List.map_drop,List.drop_take]
def alg {t e:yx} {sz:Nat} {lo hi:Option xB} {vx v:AV} {x:ye} (hH:fF O H) (ht:cp O m S w tm a.tmps) (hu:O.P.underlying t=some (.slice e)) (hz:cP O.P e=some sz)
  {hp:Hp} {ct:Nat} (hh:aZ O m S w hp ct)
  (hx:aj O.ah m S w vx x) (h:fA hp (.sl sz) vx tm (lo.map (aR H)) (hi.map (aR H))=some v):
  ∃u,(Instr.sliceAt t x (lo.map a.eval) (hi.map a.eval) none).run O.P w= .ok u w/\aj O.ah m S w v u:=by
 have eQ:(vX e).run O.P w= .ok sz w:=by
  unfold cP at hz
  cases hi:O.P.info? e with
  | none=>simp [hi] at hz
  | some i=>simp_all [vX,typeInfo]
 have HS:∀(ad:Option uh) (n c l g:Nat),cV tm 0 (lo.map (aR H))=some l->cV tm n (hi.map (aR H))=some g->l<=g->g<=c->
   (Instr.sliceAt t (.slice ad n c) (lo.map a.eval) (hi.map a.eval) none).run O.P w= .ok (.slice (if c=l then ad else ad.map (·.add (l*sz))) (g-l) (c-l)) w:=by
  intro ad n c l g hl hg h1 h2
  simp only [Instr.sliceAt,Sem.run_bind,run_underlying hu,Result.andThen_ok,Instr.slice,Sem.run_pure,eQ,
   Yr (P:=O.P) (isSlice:=true) (len:=n) (cap:=c) hH ht hl hg h1 h2]
 cases vx<;>simp only [fA,reduceCtorEq] at h
 case ab=>
  simp only [aj] at hx;subst hx
  cases hl:cV tm 0 (lo.map (aR H)) with
  | none=>simp [hl] at h
  | some l=>
   cases l with
   | succ l=>simp [hl] at h
   | zero=>
    simp only [hl] at h
    cases hh:cV tm 0 (hi.map (aR H)) with
    | none=>simp [hh] at h
    | some g=>
     cases g with
     | succ g=>simp [hh] at h
     | zero=>
      simp only [hh,yc] at h;subst h;exact ⟨_,HS none 0 0 0 0 hl hh (yD _) (yD _),by simp [aj]⟩
 case aE ex n cs=>
  simp only [aj] at hx;rcases hx with ⟨b,o,c,rfl,JB,hex,hS,gQ,C8⟩ | ⟨ad,rfl,rfl,rfl⟩
  case inr=>
   cases hl:cV tm 0 (lo.map (aR H)) with
   | none=>simp [hl] at h
   | some l=>
    simp only [hl] at h
    cases hh:cV tm 0 (hi.map (aR H)) with
    | none=>simp [hh] at h
    | some g=>
     simp only [hh] at h
     cases hc:(yE l g&&yE g 0) with
     | false=>rw [hc] at h;cases h
     | true=>
      rw [hc] at h;simp only [ym,yc] at h;subst h;simp only [yf] at hc;have h1:=yt hc.1;have h2:=yt hc.2;have hg:g=0:=by omega
      subst hg;have lL:l=0:=by omega
      subst lL;refine ⟨_,HS (some ad) 0 0 0 0 hl hh h1 h2,?_⟩;simp only [aj];exact .inr ⟨ad,by simp,by simp,by simp [slice]⟩
  cases hl:cV tm 0 (lo.map (aR H)) with
  | none=>simp [hl] at h
  | some l=>
   simp only [hl] at h
   cases hh:cV tm n (hi.map (aR H)) with
   | none=>simp [hh] at h
   | some g=>
    simp only [hh] at h
    cases hc:(yE l g&&yE g n) with
    | false=>rw [hc] at h;cases h
    | true=>
     rw [hc] at h;simp only [ym,yc] at h;subst h;simp only [yf] at hc;have h1:=yt hc.1;have h2:=yt hc.2;refine ⟨_,HS (some ⟨b,o,none⟩) n c l g hl hh h1 (by omega),?_⟩;have Mq:aJ (slice (l*sz) ((g-l)*sz) cs)=true:=by
      have pd:∀(k:Nat) (cs:List AV),aJ cs=true->aJ (cs.drop k)=true:=by
       intro k
       induction k with
       | zero=>intro cs h;simpa using h
       | succ k ih=>intro cs h;cases cs with
        | nil=>simpa using h
        | cons c cs=>simp only [aJ,yf] at h;simpa using ih cs h.2
      have pt:∀(k:Nat) (cs:List AV),aJ cs=true->aJ (cs.take k)=true:=by
       intro k
       induction k with
       | zero=>intro cs h;simp [aJ]
       | succ k ih=>intro cs h;cases cs with
        | nil=>simp [aJ]
        | cons c cs=>simp only [aJ,yf,wm] at h ⊢;exact ⟨h.1,ih cs h.2⟩
      exact pt _ _ (pd _ _ gQ)
     have aeS:(ex&&yr g n)=true->c-l=g-l:=by
      intro hq;simp only [yf] at hq
      have:=hex hq.1
      have:=yo hq.2
      omega
     simp only [aj];by_cases ix:c=l
     ·have h0:g-l=0:=by omega
      have iy:slice (l*sz) ((g-l)*sz) cs=[]:=by simp [slice,h0]
      rw [iy];exact .inl ⟨b,o,c-l,by simp [ix],by omega,aeS,.inl rfl,rfl,by simp [bT]⟩
     ·refine .inl ⟨b,o+l*sz,c-l,by simp [ix,oE],by omega,aeS,?_,Mq,?_⟩
      ·rcases hS with rfl | hS
       ·exact .inl (by simp [slice])
       ·exact .inr hS
      ·exact B8 _ _ _ _ (qM _ _ _ _ C8)
 case ak id o n=>
  simp only [aj] at hx;obtain ⟨p,c,hm,rfl,JB,N9⟩:=hx
  split at h
  case h_2=>cases h
  rename_i Uk pu0 rP z0 cs0 CC;obtain ⟨p',arr,t',fV,_,ia,_⟩:=hh.obj id _ _ CC hm;rw [hm] at fV;injection fV with fV
  subst fV
  cases hl:cV tm 0 (lo.map (aR H)) with
  | none=>simp [hl] at h
  | some l=>
   simp only [hl] at h
   cases hh:cV tm n (hi.map (aR H)) with
   | none=>simp [hh] at h
   | some g=>
    simp only [hh] at h
    cases hc:(yE l g&&yE g n&&yr z0 sz) with
    | false=>rw [hc] at h;cases h
    | true=>
     rw [hc] at h;simp only [ym] at h;simp only [yf] at hc;have h1:=yt hc.1.1;have h2:=yt hc.1.2;have hpz:p.z=sz:=ia.trans (yo hc.2)
     cases he:(yr l g&& !yr l 0) with
     | true=>
      rw [he] at h;simp only [ym,yc] at h;subst h;simp only [yf] at he;have C9:=yo he.1;refine ⟨_,HS (some ⟨p.b,p.o+o,none⟩) n c l g hl hh h1 (by omega),?_⟩;simp only [aj];by_cases ix:c=l
      ·exact .inl ⟨p.b,p.o+o,c-l,by simp [ix];omega,by omega,by simp,by simp,by simp [aJ],by simp [bT]⟩
      ·exact .inl ⟨p.b,p.o+o+l*sz,c-l,by simp [ix,oE];omega,by omega,by simp,by simp,by simp [aJ],by simp [bT]⟩
     | false=>
      rw [he] at h;simp only [yB,yc] at h;subst h;have ix:c=l->l=0:=by
       intro ix;have C9:l=g:=by omega
       cases lL:yr l 0 with
       | true=>exact yo lL
       | false=>rw [C9,Nat.beq_refl,<-C9,lL] at he;cases he
      refine ⟨_,HS (some ⟨p.b,p.o+o,none⟩) n c l g hl hh h1 (by omega),?_⟩;simp only [aj];refine ⟨p,c-l,hm,?_,by omega,?_⟩
      ·by_cases Sw:c=l
       ·have:=ix Sw;subst this;subst Sw;simp
       ·simp [Sw,oE,uk]
      ·rw [hpz] at N9 ⊢
       have:c*sz=l*sz+(c-l)*sz:=by rw [<-wG];congr 1;omega
       omega
end
end
section
open Go
def ns {P:y5} {w:yh} {t:yx} {sz:Nat} (hz:cP P t=some sz):(vX t).run P w= .ok sz w:=by
 unfold cP at hz
 cases hi:P.info? t with
 | none=>simp [hi] at hz
 | some i=>simp_all [vX,typeInfo]
section
variable {O:bw} {H:Hint} {m:Mp} {S:Nat->Prop} {w:yh} {tm:Env} {a:Act} {hp:Hp} {ct:Nat}
def Qp {id o n:Nat} {rw pu ex:Bool} {sz:Nat} {cs:List AV} {p:Pl} (hh:aZ O m S w hp ct) (hg:ap hp id=some (.cells rw pu ex sz cs)) (hm:m id=some p):
  bT O.ah m S w cs p.b p.o:=by
 obtain ⟨p',arr,t',fV,_,_,_,_,_,hr,_⟩:=hh.obj id _ _ hg hm
 grind
def asj {t:yx} {sz:Nat} {ag:Bool} {vx v:AV} {x:ye} (hh:aZ O m S w hp ct) (hz:cP O.P t=some sz) (ha:dW O.P t=some ag) (hx:aj O.ah m S w vx x)
  (h:iK hp sz ag vx=some v):∃u,(Instr.loadAt t x).run O.P w= .ok u w/\aj O.ah m S w v u:=by
 cases vx<;>simp only [iK,reduceCtorEq] at h
 case ptr id o=>
  obtain ⟨p,hm,rfl⟩:=hx
  split at h
  case h_2=>cases h
  rename_i Uk pu0 rP z0 cs0 CC;have hr:=Qp (id:=id) (o:=0) (n:=0) hh CC hm;obtain ⟨u,h1,h2⟩:=LK hz ha (qM o cs0 p.b p.o hr) h;exact ⟨u,by simp only [Instr.loadAt,Instr.sureAddr,Sem.run_bind,Sem.run_pure,Result.andThen_ok];exact h1,h2⟩
 case aF cs=>
  obtain ⟨b,o,rfl,_,_,hr⟩:=hx;obtain ⟨u,h1,h2⟩:=LK hz ha hr h;exact ⟨u,by simp only [Instr.loadAt,Instr.sureAddr,Sem.run_bind,Sem.run_pure,Result.andThen_ok];exact h1,h2⟩
def Aw:∀(k:Nat) (cs:List AV),aJ cs=true->aJ (cs.drop k)=true
 | 0,cs,h=>by simpa using h
 | k+1,[],h=>by simpa using h
 | k+1,c::cs,h=>by simp only [aJ,yf] at h;simpa using Aw k cs h.2
def PX {cs:List AV} {b o k:Nat} (h2:cs=[]\/S b) (h3:aJ cs=true) (h4:bT O.ah m S w cs b o):aj O.ah m S w (.aF (cs.drop k)) (.pointer (some ⟨b,o+k,none⟩)):=by
 refine ⟨b,o+k,rfl,?_,Aw k cs h3,qM k cs b o h4⟩
 grind
def apR {t:yx} {fs:Array uv} {i:Nat} {f:uv} {sz:Nat} {vx v:AV} {x:ye} (hu:O.P.underlying t=some (.struct fs)) (hf:fs[i]? =some f) (hz:cP O.P f.type=some (sz+1))
  (hx:aj O.ah m S w vx x)
  (h:Es f.offset vx=some v):∃u,(Instr.fieldAt t x i).run O.P w= .ok u w/\aj O.ah m S w v u:=by
 have adj:∀(b o:Nat),(Instr.fieldAt t (.pointer (some ⟨b,o,none⟩)) i).run O.P w= .ok (.pointer (some ⟨b,o+f.offset,none⟩)) w:=by
  intro b o;simp only [Instr.fieldAt,Sem.run_bind,run_underlying hu,Result.andThen_ok,hf,Instr.sureAddr,Sem.run_pure,fieldPlace,ns hz,Nat.succ_ne_zero,yR,oE]
 cases vx<;>simp only [Es,reduceCtorEq] at h
 case ptr id o=>
  obtain ⟨p,hm,rfl⟩:=hx;simp only [yc] at h;subst h;exact ⟨_,adj _ _,by simp only [aj];exact ⟨p,hm,by rw [uk]⟩⟩
 case aF cs=>
  obtain ⟨b,o,rfl,h2,h3,h4⟩:=hx
  cases hc:yE f.offset cs.length with
  | false=>rw [hc] at h;cases h
  | true=>
   rw [hc] at h;simp only [ym,yc] at h;subst h;exact ⟨_,adj _ _,PX h2 h3 h4⟩
def apS {t:yx} {fs:Array uv} {i:Nat} {f:uv} {sz:Nat} {ag:Bool} {vx v:AV} {x:ye} (hu:O.P.underlying t=some (.struct fs)) (hf:fs[i]? =some f)
  (hz:cP O.P f.type=some sz) (ha:dW O.P f.type=some ag) (hx:aj O.ah m S w vx x)
  (h:Mo f.offset sz ag vx=some v):∃u,(Instr.field t x i).run O.P w= .ok u w/\aj O.ah m S w v u:=by
 cases vx<;>simp only [Mo,reduceCtorEq] at h
 obtain ⟨xs,rfl,hr⟩:=hx;obtain ⟨u,h1,h2⟩:=aas hz ha hr h;exact ⟨u,by simp only [Instr.field,Sem.run_bind,run_underlying hu,Result.andThen_ok,hf,asAgg,Sem.run_pure];exact h1,h2⟩
def apT {t e:yx} {sz k:Nat} {vx vi v:AV} {x i:ye} (hu:O.P.underlying t=some (.slice e)) (hz:cP O.P e=some sz) (hx:aj O.ah m S w vx x) (hi:aj O.ah m S w vi i)
  (hk:dV vi=some k)
  (h:gZ sz k vx=some v):∃u,(Instr.indexAt t x i).run O.P w= .ok u w/\aj O.ah m S w v u:=by
 obtain ⟨kd,rfl⟩:=sN hi hk;have Iw:∀(b o n c:Nat),k<n->(Instr.indexAt t (.slice (some ⟨b,o,none⟩) n c) (.int kd (k:Int))).run O.P w= .ok (.pointer (some ⟨b,o+k*sz,none⟩)) w:=by
  intro b o n c rQ;have hr:(0:Int)<=(k:Int)/\(k:Int)<(n:Int):=by omega
  simp [Instr.indexAt,asIntOf,run_underlying hu,ns hz,hr,oE]
  grind
 cases vx<;>simp only [gZ,reduceCtorEq] at h
 case ak id o n=>
  obtain ⟨p,c,hm,rfl,JB,N9⟩:=hx
  cases hc:yG k n with
  | false=>rw [hc] at h;cases h
  | true=>
   rw [hc] at h;simp only [ym,yc] at h;subst h;have rQ:k<n:=by simp_all
   exact ⟨_,Iw _ _ _ _ rQ,by simp only [aj];exact ⟨p,hm,by rw [uk]⟩⟩
 case aE ex n cs=>
  rcases hx with ⟨b,o,c,rfl,JB,hex,h2,h3,h4⟩ | ⟨a,rfl,rfl,rfl⟩
  case inr=>
   have:yG k 0=false:=by cases hq:yG k 0 with | false=>rfl | true=>simp only [yG,Nat.ble_eq] at hq;omega
   grind
  cases hc:yG k n with
  | false=>rw [hc] at h;cases h
  | true=>
   rw [hc] at h;simp only [ym,yc] at h;subst h;have rQ:k<n:=by simp_all
   exact ⟨_,Iw _ _ _ _ rQ,PX h2 h3 h4⟩
def apU {t e:yx} {len sz k:Nat} {vx vi v:AV} {x i:ye} (hu:O.P.underlying t=some (.array len e)) (hz:cP O.P e=some sz) (hx:aj O.ah m S w vx x) (hi:aj O.ah m S w vi i)
  (hk:dV vi=some k)
  (h:Et len sz k vx=some v):∃u,(Instr.indexAt t x i).run O.P w= .ok u w/\aj O.ah m S w v u:=by
 obtain ⟨kd,rfl⟩:=sN hi hk;have Iw:∀(b o:Nat),k<len->(Instr.indexAt t (.pointer (some ⟨b,o,none⟩)) (.int kd (k:Int))).run O.P w= .ok (.pointer (some ⟨b,o+k*sz,none⟩)) w:=by
  intro b o rQ;have hr:(0:Int)<=(k:Int)/\(k:Int)<(len:Int):=by omega
  simp [Instr.indexAt,asIntOf,run_underlying hu,ns hz,hr,oE,Instr.sureAddr]
  grind
 cases vx<;>simp only [Et,reduceCtorEq] at h
 case ptr id o=>
  obtain ⟨p,hm,rfl⟩:=hx
  cases hc:yG k len with
  | false=>rw [hc] at h;cases h
  | true=>
   rw [hc] at h;simp only [ym,yc] at h;subst h;have rQ:k<len:=by simp_all
   exact ⟨_,Iw _ _ rQ,by simp only [aj];exact ⟨p,hm,by rw [uk]⟩⟩
 case aF cs=>
  obtain ⟨b,o,rfl,h2,h3,h4⟩:=hx
  cases hc:yG k len with
  | false=>rw [hc] at h;cases h
  | true=>
   rw [hc] at h;simp only [ym,yc] at h;subst h;have rQ:k<len:=by simp_all
   exact ⟨_,Iw _ _ rQ,PX h2 h3 h4⟩
def apV {t e:yx} {len sz k:Nat} {ag:Bool} {vx vi v:AV} {x i:ye} (hu:O.P.underlying t=some (.array len e)) (hz:cP O.P e=some sz) (ha:dW O.P e=some ag)
  (hx:aj O.ah m S w vx x) (hi:aj O.ah m S w vi i) (hk:dV vi=some k)
  (h:Ir len sz ag k vx=some v):
  ∃u,(Instr.index t x i).run O.P w= .ok u w/\aj O.ah m S w v u:=by
 obtain ⟨kd,rfl⟩:=sN hi hk;cases vx<;>simp only [Ir,reduceCtorEq] at h
 obtain ⟨xs,rfl,hr⟩:=hx
 cases hc:yG k len with
 | false=>rw [hc] at h;cases h
 | true=>
  rw [hc] at h;have rQ:k<len:=by simp_all
  obtain ⟨u,h1,h2⟩:=aas hz ha hr h;have bX:(0:Int)<=(k:Int)/\(k:Int)<(len:Int):=by omega
  exact ⟨u,by simp [Instr.index,asIntOf,run_underlying hu,ns hz,bX,h1];intro hle;exact absurd hle (by omega),h2⟩
def apW {t:yx} {k:Nat} {vx vi v:AV} {x i:ye} (hu:O.P.underlying t=some .string) (hx:aj O.ah m S w vx x) (hi:aj O.ah m S w vi i) (hk:dV vi=some k)
  (h:mR k vx=some v):
  ∃u,(Instr.index t x i).run O.P w= .ok u w/\aj O.ah m S w v u:=by
 obtain ⟨kd,rfl⟩:=sN hi hk;cases vx<;>simp only [mR,reduceCtorEq] at h
 obtain ⟨b,rfl,rfl⟩:=hx
 cases hs:(b.data.toList.map yW)[k]? with
 | none=>rw [hs] at h;cases h
 | some q=>
  rw [hs] at h;simp only [yc] at h;subst h;rw [List.getElem?_map] at hs
  cases hb:b.data.toList[k]? with
  | none=>rw [hb] at hs;cases hs
  | some c=>
   rw [hb] at hs;simp only [wq,yc] at hs;subst hs;have cS:b[k]? =some c:=by
    have bi:k<b.data.toList.length:=by
     grind
    have eQ:k<b.size:=by simp_all
    rw [getElem?_pos b k eQ];rw [wh bi] at hb;rw [<-hb];rfl
   refine ⟨.int .u8 c.toNat,?_,by simp [aj]⟩;simp [Instr.index,asIntOf,run_underlying hu,cS]
end
end
section
open Go
section
variable {ah:Nat->Nat} {m:Mp} {S:Nat->Prop} {w:yh}
def PY:∀{v:AV} {u:ye},aj ah m S w v u->bQ (cellsOf v)=true->au ah m S w (cellsOf v) u.cells.toList:=by
 intro v u h h1;cases v
 case agg cs=>
  simp only [aj] at h;obtain ⟨xs,rfl,hr⟩:=h;exact hr
 case aq vs=>simp [cellsOf,bQ,bA] at h1
 case undef=>simp [cellsOf,bQ,bA] at h1
 case cG=>simp [cellsOf,bQ,bA] at h1
 case fn f a b=>
  cases f with
  | f g=>have h':=h;simp only [aj] at h';obtain ⟨fi,ca,rfl,_⟩:=h';simp only [cellsOf,Value.cells,au];exact ⟨_,_,rfl,h,rfl⟩
  | y l=>have h':=h;simp only [aj] at h';obtain ⟨p,_,rfl⟩:=h';simp only [cellsOf,Value.cells,au];exact ⟨_,_,rfl,h,rfl⟩
 case str s=>have h':=h;simp only [aj] at h';obtain ⟨b,rfl,_⟩:=h';simp only [cellsOf,Value.cells,au];exact ⟨_,_,rfl,h,rfl⟩
 case ptr id o=>have h':=h;simp only [aj] at h';obtain ⟨b,_,rfl⟩:=h';simp only [cellsOf,Value.cells,au];exact ⟨_,_,rfl,h,rfl⟩
 case aF cs=>have h':=h;simp only [aj] at h';obtain ⟨b,o,rfl,_⟩:=h';simp only [cellsOf,Value.cells,au];exact ⟨_,_,rfl,h,rfl⟩
 case aE e n cs=>have h':=h;simp only [aj] at h';rcases h' with ⟨b,o,c,rfl,_⟩ | ⟨a,rfl,_,_⟩<;>(simp only [cellsOf,Value.cells,au];exact ⟨_,_,rfl,h,rfl⟩)
 case ak id o n=>have h':=h;simp only [aj] at h';obtain ⟨p,c,_,rfl,_⟩:=h';simp only [cellsOf,Value.cells,au];exact ⟨_,_,rfl,h,rfl⟩
 case map id=>have h':=h;simp only [aj] at h';obtain ⟨p,_,rfl⟩:=h';simp only [cellsOf,Value.cells,au];exact ⟨_,_,rfl,h,rfl⟩
 case jf ks vs=>have h':=h;simp only [aj] at h';obtain ⟨b,es,cl,rfl,_⟩:=h';simp only [cellsOf,Value.cells,au];exact ⟨_,_,rfl,h,rfl⟩
 case it id=>have h':=h;simp only [aj] at h';obtain ⟨p,_,rfl⟩:=h';simp only [cellsOf,Value.cells,au];exact ⟨_,_,rfl,h,rfl⟩
 all_goals
  have h':=h;simp only [aj] at h';subst h';simp only [cellsOf,Value.cells,au];exact ⟨_,_,rfl,h,rfl⟩
def DE (v:ye):au ah m S w (cellsOf (eJ v)) v.cells.toList:=by
 have h:=LJ (ah:=ah) (m:=m) (S:=S) (w:=w) v;cases v
 case agg xs=>
  obtain ⟨l⟩:=xs;simp only [eJ,aj] at h ⊢;obtain ⟨xs,e,hr⟩:=h;injection e with e
  subst e;exact hr
 case tuple xs=>obtain ⟨l⟩:=xs;simp only [eJ] at h ⊢;simp only [cellsOf,Value.cells,au];exact ⟨_,_,rfl,h,rfl⟩
 case pointer p=>cases p<;>(simp only [eJ] at h ⊢;simp only [cellsOf,Value.cells,au];exact ⟨_,_,rfl,h,rfl⟩)
 case map p=>cases p<;>(simp only [eJ] at h ⊢;simp only [cellsOf,Value.cells,au];exact ⟨_,_,rfl,h,rfl⟩)
 case slice p n c=>
  cases p
  ·cases n
   ·cases c<;>(simp only [eJ] at h ⊢;simp only [cellsOf,Value.cells,au];exact ⟨_,_,rfl,h,rfl⟩)
   ·simp only [eJ] at h ⊢;simp only [cellsOf,Value.cells,au];exact ⟨_,_,rfl,h,rfl⟩
  ·simp only [eJ] at h ⊢;simp only [cellsOf,Value.cells,au];exact ⟨_,_,rfl,h,rfl⟩
 all_goals (simp only [eJ] at h ⊢;simp only [cellsOf,Value.cells,au];exact ⟨_,_,rfl,h,rfl⟩)
def lU:∀{a b:List AV} {x y:List ye},au ah m S w a x->au ah m S w b y->au ah m S w (a++b) (x++y)
 | [],b,x,y,h,k=>by simp only [au] at h;subst h;simpa using k
 | c::a,b,x,y,h,k=>by
  simp only [au] at h;obtain ⟨u,r,rfl,h2,h3⟩:=h;simp only [y8,au];exact ⟨u,r++y,rfl,h2,lU h3 k⟩
def Hf:∀(k:Nat) {cs:List AV} {us:List ye},au ah m S w cs us->au ah m S w (cs.drop k) (us.drop k)
 | 0,cs,us,h=>by simpa using h
 | k+1,[],us,h=>by simp only [au] at h;subst h;simp [au]
 | k+1,c::cs,us,h=>by simp only [au] at h;obtain ⟨u,r,rfl,_,h3⟩:=h;simpa using Hf k h3
def DN:∀(k:Nat) {cs:List AV} {us:List ye},au ah m S w cs us->au ah m S w (cs.take k) (us.take k)
 | 0,cs,us,h=>by simp [au]
 | k+1,[],us,h=>by simp only [au] at h;subst h;simp [au]
 | k+1,c::cs,us,h=>by
  simp only [au] at h;obtain ⟨u,r,rfl,h2,h3⟩:=h;simp only [wm,au];exact ⟨u,_,rfl,h2,DN k h3⟩
def Qq:∀{cs:List AV} {us:List ye} {i:Nat} {v:AV},au ah m S w cs us->cs[i]? =some v->∃u,us[i]? =some u/\aj ah m S w v u
 | [],us,i,v,_,h=>by simp at h
 | c::cs,us,0,v,h,e=>by
  simp only [au] at h;obtain ⟨u,r,rfl,h2,h3⟩:=h;simp at e;subst e;exact ⟨u,rfl,h2⟩
 | c::cs,us,i+1,v,h,e=>by
  simp only [au] at h;obtain ⟨u,r,rfl,h2,h3⟩:=h;simp at e;simpa using Qq h3 e
end
def Ys (off:Nat):∀(new:List ye) (j:Nat) (cells:Array ye),off+j+new.length<=cells.size->
  ((new.zipIdx j).foldl (fun (cs:Array ye) (p:ye×Nat)=>cs.setIfInBounds (off+p.2) p.1) cells).toList=
   cells.toList.take (off+j)++new++cells.toList.drop (off+j+new.length)
 | [],j,cells,_=>by simp
 | v::r,j,cells,h=>by
  simp only [yv] at h;have ih:=Ys off r (j+1) (cells.setIfInBounds (off+j) v) (by simp;omega);simp only [List.zipIdx_cons,List.foldl_cons];rw [ih];have bi:off+j<cells.toList.length:=by simp;omega
  have h1:(cells.setIfInBounds (off+j) v).toList=cells.toList.set (off+j) v:=by simp
  rw [h1,show off+(j+1)=off+j+1 by omega];have h2:(cells.toList.set (off+j) v).take (off+j+1)=cells.toList.take (off+j)++[v]:=by
   rw [List.take_succ_eq_append_getElem (by simpa using bi)];simp [List.take_set_of_le]
  have h3:(cells.toList.set (off+j) v).drop (off+j+1+r.length)=cells.toList.drop (off+j+(r.length+1)):=by
   rw [List.drop_set_of_lt (by omega)];congr 1;omega
  rw [h2,h3]
  simp
section
variable {O:bw} {H:Hint} {m:Mp} {S:Nat->Prop} {w:yh} {tm:Env} {a:Act}
def LL (hH:fF O H) (ht:cp O m S w tm a.tmps) {place:Nat->Option (Nat×Nat)}:∀(parts:List (Nat×xB)) (ps:List (Nat×Nat×X)) (zero cs:List AV) (cells:Array ye),
  partsOf H place parts=some ps->au O.ah m S w zero cells.toList->fill tm zero ps=some cs->
  ∃out,Instr.fill place cells (parts.map fun p=>(p.1,a.eval p.2))=some out/\au O.ah m S w cs out.toList
 | [],ps,zero,cs,cells,hp,hz,hf=>by
  simp only [partsOf,yc] at hp;subst hp;simp only [fill,yc] at hf;subst hf;exact ⟨cells,rfl,hz⟩
 | (i,x)::r,ps,zero,cs,cells,hp,hz,hf=>by
  simp only [partsOf] at hp
  cases pg:place i with
  | none=>simp [pg] at hp
  | some q=>
   obtain ⟨o,s⟩:=q;simp only [pg] at hp
   cases nR:partsOf H place r with
   | none=>simp [nR] at hp
   | some l=>
    simp only [nR,yc] at hp;subst hp;simp only [fill] at hf
    cases hc:(yr (cellsOf (az tm (aR H x))).length s&&yE (o+s) zero.length&&bQ (cellsOf (az tm (aR H x)))) with
    | false=>rw [hc] at hf;cases hf
    | true=>
     rw [hc] at hf;simp only [ym] at hf;simp only [yf] at hc;have hs:=yo hc.1.1;have hle:=yt hc.1.2;have hrx:=PY (cF hH ht x) hc.2;have nd:=iF _ _ hrx;have rR:=iF _ _ hz;have eQ:(a.eval x).cells.size=s:=by rw [<-hs,<-nd];simp
     have qh:cells.size=zero.length:=by rw [<-rR];simp
     have asl:=Ys o (a.eval x).cells.toList 0 cells (by simp;omega);have ia:au O.ah m S w (over o (cellsOf (az tm (aR H x))) zero)
       ((a.eval x).cells.zipIdx.foldl (fun (cs:Array ye) (p:ye×Nat)=>cs.setIfInBounds (o+p.2) p.1) cells).toList:=by
      rw [<-Array.foldl_toList,Array.toList_zipIdx,asl];simp only [over,Nat.add_zero];rw [show (a.eval x).cells.toList.length=(cellsOf (az tm (aR H x))).length from nd];exact lU (lU (DN o hz) hrx) (Hf _ hz)
     obtain ⟨out,h1,h2⟩:=LL hH ht r l _ cs _ nR ia hf;refine ⟨out,?_,h2⟩;simp only [y9,Instr.fill,pg,eQ];rw [yz (by simp;omega)];exact h1
end
end
section
open Go
def Yt (p q:ByteArray):(p==q)=cI (mb p) (mb q):=by
 have h:(p==q)=(p.data==q.data):=by cases p;cases q;rfl
 rw [h,Yp,ByteArray.toList_eq,ByteArray.toList_eq];rw [Bool.eq_iff_iff,yaa,yaa];constructor
 ·intro e;rw [e]
 ·intro e;have:=congrArg List.toArray e;simpa using this
def MV:vl->Bool
 | .bool | .int _ | .string=>true
 | _=>false
def fits (d:vl) (v:AV):Bool:=
 match d,v with
 | .int _,.int _ _ | .string,.str _ | .bool,.bool _=>true
 | _,_=>false
def Found (ah:Nat->Nat) (m:Mp) (S:Nat->Prop) (w:yh) (f:Option (Option (Nat×ye))):Option AV->Prop
 | none=>f=some none
 | some v=>∃j u,f=some (some (j,u))/\aj ah m S w v u
section
variable {O:bw} {ah:Nat->Nat} {m:Mp} {S:Nat->Prop} {w:yh}
def Zt {vk vk':AV} {k k':ye} {r:Bool} {d:vl} (hk:aj ah m S w vk k) (pk:aj ah m S w vk' k') (h:Er vk vk'=some r)
  (hd:fits d vk=true):Instr.sameNow d k k'=some r:=by
 unfold Er at h
 split at h
 ·rename_i j x j' y;simp only [aj] at hk pk;subst hk;subst pk;by_cases hj:j=j'
  ·simp only [hj,y7,yc] at h;subst hj;cases d<;>simp [fits] at hd
   simpa [Instr.sameNow] using h
  ·simp [hj] at h
 ·simp only [aj] at hk pk;obtain ⟨s,rfl,rfl⟩:=hk;obtain ⟨s',rfl,rfl⟩:=pk;simp only [yc] at h;cases d<;>simp [fits] at hd
  simp only [Instr.sameNow,Yt];rw [<-h];rfl
 ·simp only [aj] at hk pk;subst hk;subst pk;simp only [yc] at h;cases d<;>simp [fits] at hd
  simp [Instr.sameNow,h]
 ·cases h
def Qr {vk:AV} {k:ye} {d:vl} (hk:aj ah m S w vk k)
  (hd:fits d vk=true):∀(ks vs:List AV) (es:List ui) (i:Nat) (r:Option AV),
  au ah m S w ks (es.map (·.key))->au ah m S w vs (es.map (·.val))->CA vk ks vs=some r->Found ah m S w (Instr.findNow d k es i) r
 | [],vs,es,i,r,h1,h2,h=>by
  simp only [au,List.map_eq_nil_iff] at h1;subst h1;simp only [CA,yc] at h;subst h;rfl
 | c::ks,[],es,i,r,h1,h2,h=>by simp only [CA] at h;cases h
 | c::ks,v::vs,es,i,r,h1,h2,h=>by
  cases es with
  | nil=>simp [au] at h1
  | cons e es=>
   simp only [y9,au,tL] at h1 h2;obtain ⟨u,t,⟨rfl,rfl⟩,hc,Oa⟩:=h1;obtain ⟨u',t',⟨rfl,rfl⟩,hv,zU⟩:=h2;simp only [CA] at h
   cases zV:Er vk c with
   | none=>simp [zV] at h
   | some b=>
    have hs:=Zt (d:=d) hk hc zV hd
    cases b with
    | true=>
     simp only [zV,yc] at h;subst h;exact ⟨i,e.val,by simp [Instr.findNow,hs],hv⟩
    | false=>
     simp only [zV] at h;have ih:=Qr hk hd ks vs es (i+1) r Oa zU h;simpa [Instr.findNow,hs] using ih
def KA {P:y5} {kt:yx} {d:vl} (hu:P.underlying kt=some d) (hd:MV d=true) (b:Bool) (k:ye):(Instr.checkKey b 10000 kt k).run P w= .ok () w:=by
 have:∀n,(Instr.checkKey b (n+1) kt k).run P w= .ok () w:=by
  intro n;cases d<;>simp [MV] at hd<;>simp [Instr.checkKey,run_underlying hu]
 exact this 9999
def apX {t kt e:yx} {d:vl} {ok:Bool} {hp:Hp} {ct:Nat} {vx vk v:AV} {x k zero:ye} (hh:aZ O m S w hp ct) (hu:O.P.underlying t=some (.map kt e)) (hk:O.P.underlying kt=some d) (hd:MV d=true)
  (hdk:fits d vk=true)
  (hz:(zeroValue e).run O.P w= .ok zero w) (hx:aj O.ah m S w vx x) (hkr:aj O.ah m S w vk k) {z:AV} (Ul:aj O.ah m S w z zero)
  {r:Option AV}
  (hr:AY hp vk vx=some r)
  (hv:(match r with | some u=>(bif ok then AV.aq [u,.bool true] else u) | none=>(bif ok then AV.aq [z,.bool false] else z))=v):
  ∃u,(Instr.lookup t x k ok).run O.P w= .ok u w/\aj O.ah m S w v u:=by
 have fin:∀(u:AV) (uu:ye) (b:Bool),aj O.ah m S w u uu->aj O.ah m S w (bif ok then AV.aq [u,.bool b] else u) (if ok then .tuple #[uu,.bool b] else uu):=by
  intro u uu b h
  cases ok with
  | true=>simp only [ym,y7,aj,au];exact ⟨_,rfl,_,_,rfl,h,_,_,rfl,rfl,rfl⟩
  | false=>simpa using h
 have body:∀(x':ye) (es:Array ui),((x'= .map none/\es=#[])\/∃b clock,x'= .map (some b)/\w.heap[b]? =some (.map es clock))->Found O.ah m S w (Instr.findNow d k es.toList 0) r->
   ∃u,(Instr.lookup t x' k ok).run O.P w= .ok u w/\aj O.ah m S w v u:=by
  intro x' es hl hf
  cases r with
  | none=>
   have nS:Instr.findNow d k es.toList 0=some none:=hf;refine ⟨if ok then .tuple #[zero,.bool false] else zero,?_,by rw [<-hv];exact fin z zero false Ul⟩
   rcases hl with ⟨rfl,rfl⟩ | ⟨b,clock,rfl,hb⟩
   ·have Sx:Instr.findNow d k [] 0=some none:=rfl;simp [Instr.lookup,run_underlying hu,KA hk hd,Instr.findKey,run_underlying hk,Sx,hz]
   ·simp [Instr.lookup,run_underlying hu,getObj,Sem.run,hb,KA hk hd,Instr.findKey,run_underlying hk,nS,hz]
  | some v'=>
   obtain ⟨j,u,h1,h2⟩:=hf;refine ⟨if ok then .tuple #[u,.bool true] else u,?_,by rw [<-hv];exact fin v' u true h2⟩
   rcases hl with ⟨rfl,rfl⟩ | ⟨b,clock,rfl,hb⟩
   ·have Sx:Instr.findNow d k [] 0=some none:=rfl;rw [show (#[]:Array ui).toList=[] from rfl,Sx] at h1;cases h1
   ·simp [Instr.lookup,run_underlying hu,getObj,Sem.run,hb,KA hk hd,Instr.findKey,run_underlying hk,h1]
 cases vx<;>simp only [AY,reduceCtorEq] at hr
 case jz=>
  simp only [yc] at hr;subst hr;simp only [aj] at hx;subst hx;exact body _ #[] (.inl ⟨rfl,rfl⟩) rfl
 case map id=>
  simp only [aj] at hx;obtain ⟨p,hm,rfl⟩:=hx
  split at hr
  case h_2=>cases hr
  rename_i Uk ks vs CC;obtain ⟨p',es,clock,fV,hb,h1,h2,_⟩:=hh.obj id _ _ CC hm;rw [hm] at fV;injection fV with fV;subst fV
  exact body _ es (.inr ⟨_,_,rfl,hb⟩) (Qr hkr hdk ks vs es.toList 0 r h1 h2 hr)
 case jf ks vs=>
  simp only [aj] at hx;obtain ⟨b,es,clock,rfl,_,_,_,hb,h1,h2⟩:=hx;exact body _ es (.inr ⟨_,_,rfl,hb⟩) (Qr hkr hdk ks vs es.toList 0 r h1 h2 hr)
end
end
section
open Go
def GZ:∀(k1 k2:List Nat) (a b:List AV) (r:Bool),dN (k1++k2) a b=some r->
  ∃r1 r2,dN k1 (a.take k1.length) (b.take k1.length)=some r1/\dN k2 (a.drop k1.length) (b.drop k1.length)=some r2/\r=(r1&&r2)
 | [],k2,a,b,r,h=>⟨true,r,by simp [dN],by simpa using h,by simp⟩
 | k::k1,k2,[],b,r,h=>by
  simp only [y8] at h;unfold dN at h
  grind
 | k::k1,k2,x::a,[],r,h=>by
  unfold dN at h
  grind
 | k::k1,k2,x::a,y::b,r,h=>by
  have step:∀(q:Bool) (f:Bool->Bool),(match dN (k1++k2) a b with | some r=>some (f r) | none=>none)=some q->∃r0,dN (k1++k2) a b=some r0/\q=f r0:=by grind
  unfold dN at h
  split at h
  ·grind
  ·rename_i e1 e2 e3;obtain ⟨rfl,rfl⟩:=e1;obtain ⟨rfl,rfl⟩:=e2;obtain ⟨rfl,rfl⟩:=e3;obtain ⟨r0,h0,rfl⟩:=step r _ h;obtain ⟨r1,r2,h1,h2,rfl⟩:=GZ k1 k2 _ _ r0 h0;exact ⟨_,r2,by simp only [yv,wm,dN,h1],by simpa using h2,(uQ _ _ _).symm⟩
  ·rename_i e1 e2 e3;obtain ⟨rfl,rfl⟩:=e1;obtain ⟨rfl,rfl⟩:=e2;obtain ⟨rfl,rfl⟩:=e3
   split at h
   ·rename_i hk;obtain ⟨r0,h0,rfl⟩:=step r _ h;obtain ⟨r1,r2,h1,h2,rfl⟩:=GZ k1 k2 _ _ r0 h0;exact ⟨_,r2,by simp only [yv,wm,dN,h1,hk,y7],by simpa using h2,(uQ _ _ _).symm⟩
   ·cases h
  ·rename_i e1 e2 e3;obtain ⟨rfl,rfl⟩:=e1;obtain ⟨rfl,rfl⟩:=e2;obtain ⟨rfl,rfl⟩:=e3;obtain ⟨r0,h0,rfl⟩:=step r _ h;obtain ⟨r1,r2,h1,h2,rfl⟩:=GZ k1 k2 _ _ r0 h0;exact ⟨_,r2,by simp only [yv,wm,dN,h1],by simpa using h2,(uQ _ _ _).symm⟩
  ·cases h
def Xh:∀(ks:List Nat) (a b:List AV) (r:Bool),dN ks a b=some r->a.length=ks.length/\b.length=ks.length
 | [],a,b,r,h=>by
  unfold dN at h
  grind
 | k::ks,[],b,r,h=>by
  unfold dN at h
  grind
 | k::ks,x::a,[],r,h=>by
  unfold dN at h
  grind
 | k::ks,x::a,y::b,r,h=>by
  have:∃r0,dN ks a b=some r0:=by
   cases he:dN ks a b with
   | some r0=>exact ⟨r0,rfl⟩
   | none=>unfold dN at h;split at h<;>simp_all
  obtain ⟨r0,h0⟩:=this
  have:=Xh ks a b r0 h0
  simp [this]
def Fb (P:y5) (t:yx) (x:ye) (xs:List ye):Prop:=(dW P t=some true/\x= .agg xs.toArray)\/(dW P t=some false/\xs=[x])
section
variable {P:y5} {ah:Nat->Nat} {m:Mp} {S:Nat->Prop} {w:yh}
def PG {t:yx} {ag:Bool} (ha:dW P t=some ag):(isAgg t).run P w= .ok ag w:=by
 unfold dW at ha
 cases hu:P.underlying t with
 | none=>simp [hu] at ha
 | some d=>cases d<;>simp_all [isAgg,underlying]
def alh {t:yx} {s o:Nat} {xs:List ye} (hz:cP P t=some s) (ha:∃ag,dW P t=some ag) (h1:dW P t=some false->s=1) (hl:o+s<=xs.length):
  ∃u,(part t xs.toArray o).run P w= .ok u w/\Fb P t u ((xs.drop o).take s):=by
 obtain ⟨ag,ha⟩:=ha
 cases ag with
 | true=>
  refine ⟨.agg ((xs.drop o).take s).toArray,?_,.inl ⟨ha,rfl⟩⟩;simp [part,PG ha,ns hz,List.extract_eq_take_drop]
 | false=>
  have hs:=h1 ha;subst hs;have bi:o<xs.length:=by omega
  refine ⟨xs[o],?_,.inr ⟨ha,?_⟩⟩
  ·simp [part,PG ha,wh bi]
  ·rw [List.drop_eq_getElem_cons bi,wm,List.take_zero]
def ajm {n:Nat} {t:yx} {ks:List Nat} (h:kinds P n t=some ks):∃ag,dW P t=some ag/\(ag=false->ks.length=1):=by
 cases n with
 | zero=>simp [kinds] at h
 | succ n=>
  unfold kinds at h;unfold dW
  split at h<;>simp_all
  all_goals (rw [<-h];rfl)
def R5 (P:y5) (ah:Nat->Nat) (m:Mp) (S:Nat->Prop) (w:yh) (n:Nat):Prop:=
 ∀(t:yx) (ks:List Nat),kinds P n t=some ks->P.stoodInHeld t=false->∀(d:Nat),n<=d->∀(xs ys:List ye) (cs dK:List AV) (r:Bool) (x y:ye),
  au ah m S w cs xs->au ah m S w dK ys->dN ks cs dK=some r->Fb P t x xs->Fb P t y ys->(Op.equalIn d t x y).run P w= .ok r w
def Yu {n:Nat} (ih:R5 P ah m S w n) {t:yx} {ks:List Nat} {s o d:Nat} (hk:kinds P n t=some ks) (bf:P.stoodInHeld t=false) (hz:cP P t=some s) (hs:ks.length=s) (hd:n<=d)
  {xs ys:List ye} {cs dK:List AV} (h1:au ah m S w cs xs) (h2:au ah m S w dK ys) {r:Bool} (he:dN ks ((cs.drop o).take s) ((dK.drop o).take s)=some r):
  ∃u u',(part t xs.toArray o).run P w= .ok u w/\(part t ys.toArray o).run P w= .ok u' w/\(Op.equalIn d t u u').run P w= .ok r w:=by
 obtain ⟨ag,ha,h1s⟩:=ajm hk;obtain ⟨l1,l2⟩:=Xh _ _ _ _ he;have q1:=iF _ _ h1;have q2:=iF _ _ h2;simp only [List.length_take,List.length_drop] at l1 l2;have lM:dW P t=some false->s=1:=fun h=>by
  grind
 have nd:o+s<=xs.length\/s=0:=by omega
 have rR:o+s<=ys.length\/s=0:=by omega
 have get:∀(zs:List ye),(o+s<=zs.length\/s=0)->∃u,(part t zs.toArray o).run P w= .ok u w/\Fb P t u ((zs.drop o).take s):=by
  intro zs hl;rcases hl with hl | hl
  ·exact alh hz ⟨ag,ha⟩ lM hl
  ·subst hl
   cases ag with
   | false=>have:=lM ha;omega
   | true=>
    refine ⟨.agg ((zs.drop o).take 0).toArray,?_,.inl ⟨ha,rfl⟩⟩;simp [part,PG ha,ns hz]
 obtain ⟨u,p1,v1⟩:=get xs nd;obtain ⟨u',p2,v2⟩:=get ys rR;exact ⟨u,u',p1,p2,ih t ks hk bf d hd _ _ _ _ r u u' (DN s (Hf o h1)) (DN s (Hf o h2)) he v1 v2⟩
def Xi {n:Nat} (ih:R5 P ah m S w n) {d:Nat} (hd:n<=d) {xs ys:List ye} {cs dK:List AV} (h1:au ah m S w cs xs) (h2:au ah m S w dK ys):
  ∀(fs:List uv) (o:Nat) (ks:List Nat) (r:Bool),DI P (fun u=>kinds P n u) fs o=some ks->dN ks (cs.drop o) (dK.drop o)=some r->(Op.eqFields d xs.toArray ys.toArray fs).run P w= .ok r w
 | [],o,ks,r,h,he=>by
  simp only [DI,yc] at h;unfold dN at he
  split at he<;>simp_all [Op.eqFields]
 | f::fs,o,ks,r,h,he=>by
  simp only [DI] at h
  cases hk:kinds P n f.type with
  | none=>simp [hk] at h
  | some kf=>
   cases hz:cP P f.type with
   | none=>simp [hk,hz] at h
   | some s=>
    simp only [hk,hz] at h
    cases hc:(f.name != "_"&&yr f.offset o&&yr kf.length s&& !P.stoodInHeld f.type) with
    | false=>rw [hc] at h;cases h
    | true=>
     rw [hc] at h;simp only [ym] at h;simp only [yf,bne_iff_ne,uR] at hc;obtain ⟨⟨⟨hn,ho⟩,hl⟩,bf⟩:=hc;have ho:=yo ho;have hl:=yo hl
     cases hr:DI P (fun u=>kinds P n u) fs (o+s) with
     | none=>simp [hr] at h
     | some kr=>
      simp only [hr,yc] at h;subst h;obtain ⟨r1,r2,e1,e2,rfl⟩:=GZ _ _ _ _ _ he;rw [hl] at e1 e2;rw [vC,vC] at e2;obtain ⟨u,u',p1,p2,p3⟩:=Yu ih (o:=o) hk bf hz hl hd h1 h2 e1;have rest:=Xi ih hd h1 h2 fs (o+s) kr r2 hr e2;subst ho;simp only [Op.eqFields]
      cases r1 with
      | true=>simp [hn,p1,p2,p3,rest]
      | false=>simp [hn,p1,p2,p3]
def XH {n:Nat} (ih:R5 P ah m S w n) {d:Nat} (hd:n<=d) {xs ys:List ye} {cs dK:List AV} (h1:au ah m S w cs xs) (h2:au ah m S w dK ys)
  {e:yx} {ks:List Nat} {s:Nat} (hk:kinds P n e=some ks) (bf:P.stoodInHeld e=false) (hz:cP P e=some s) (hl:ks.length=s):
  ∀(k j:Nat) (r:Bool),dN (List.replicate k ks).flatten (cs.drop (j*s)) (dK.drop (j*s))=some r->(Op.eqItems d e s xs.toArray ys.toArray (List.range' j k)).run P w= .ok r w
 | 0,j,r,he=>by
  unfold dN at he
  split at he<;>simp_all [Op.eqItems]
 | k+1,j,r,he=>by
  obtain ⟨r1,r2,e1,e2,rfl⟩:=GZ _ _ _ _ _ he;rw [hl] at e1 e2;rw [vC,vC,show j*s+s=(j+1)*s by rw [wG,Nat.one_mul]] at e2;obtain ⟨u,u',p1,p2,p3⟩:=Yu ih (o:=j*s) hk bf hz hl hd h1 h2 e1;have rest:=XH ih hd h1 h2 hk bf hz hl k (j+1) r2 e2;rw [List.range'_succ];simp only [Op.eqItems]
  cases r1 with
  | true=>simp [p1,p2,p3,rest]
  | false=>simp [p1,p2,p3]
def Rx:∀(n:Nat) (t:yx) (ks:List Nat),kinds P n t=some ks->P.stoodInHeld t=false->∀(d:Nat),n<=d->∀(xs ys:List ye) (cs dK:List AV) (r:Bool) (x y:ye),
  au ah m S w cs xs->au ah m S w dK ys->dN ks cs dK=some r->Fb P t x xs->Fb P t y ys->(Op.equalIn d t x y).run P w= .ok r w
 | 0,t,ks,h,_,_,_,_,_,_,_,_,_,_,_,_,_,_,_=>by simp [kinds] at h
 | n+1,t,ks,h,bf,0,hd,_,_,_,_,_,_,_,_,_,_,_,_=>by omega
 | n+1,t,ks,h,bf,d+1,hd,xs,ys,cs,dK,r,x,y,h1,h2,he,hx,hy=>by
  unfold kinds at h;have one:∀{k:Nat},ks=[k]->dW P t=some false->∃c c',cs=[c]/\dK=[c']/\aj ah m S w c x/\aj ah m S w c' y:=by
   intro k hk ha;rcases hx with ⟨hx,_⟩ | ⟨_,rfl⟩
   ·grind
   rcases hy with ⟨hy,_⟩ | ⟨_,rfl⟩
   ·grind
   have l1:=iF _ _ h1;have l2:=iF _ _ h2
   match cs,dK,l1,l2 with
   | [c],[c'],_,_=>
    simp only [au] at h1 h2
    grind
  split at h
  ·rename_i hu;simp only [yc] at h;have ha:dW P t=some false:=by simp [dW,hu]
   obtain ⟨c,c',rfl,rfl,r1,r2⟩:=one h.symm ha;subst h;unfold dN at he
   split at he<;>simp_all [dN]
   subst he;simp only [aj] at r1 r2;subst r1;subst r2;simp [Op.equalIn,run_underlying hu]
  ·rename_i k0 hu;simp only [yc] at h;have ha:dW P t=some false:=by simp [dW,hu]
   obtain ⟨c,c',rfl,rfl,r1,r2⟩:=one h.symm ha;subst h;unfold dN at he
   split at he<;>simp_all [dN]
   obtain ⟨hk,he⟩:=he;subst he;simp only [aj] at r1 r2;subst r1;subst r2;simp [Op.equalIn,run_underlying hu]
  ·rename_i hu;simp only [yc] at h;have ha:dW P t=some false:=by simp [dW,hu]
   obtain ⟨c,c',rfl,rfl,r1,r2⟩:=one h.symm ha;subst h;unfold dN at he
   split at he<;>simp_all [dN]
   subst he;simp only [aj] at r1 r2;obtain ⟨s,rfl,rfl⟩:=r1;obtain ⟨s',rfl,rfl⟩:=r2;simp only [Op.equalIn,Sem.run_bind,run_underlying hu,Result.andThen_ok,Sem.run_pure,Yt];rfl
  ·rename_i fs hu;have ha:dW P t=some true:=by simp [dW,hu]
   rcases hx with ⟨_,rfl⟩ | ⟨hx,_⟩
   ·rcases hy with ⟨_,rfl⟩ | ⟨hy,_⟩
    ·have hf:P.fieldsOf t=fs:=by simp [Program.fieldsOf,hu]
     rw [run_equalIn_struct w d t _ _ (by rw [hf];exact hu) bf,hf]
     exact Xi (Rx n) (by omega) h1 h2 fs.toList 0 ks r h (by simpa using he)
    ·rw [ha] at hy;cases hy
   ·rw [ha] at hx;cases hx
  ·rename_i k e hu;have ha:dW P t=some true:=by simp [dW,hu]
   rcases hx with ⟨_,rfl⟩ | ⟨hx,_⟩
   ·rcases hy with ⟨_,rfl⟩ | ⟨hy,_⟩
    ·cases hk:kinds P n e with
     | none=>simp [hk] at h
     | some ke=>
      cases hz:cP P e with
      | none=>simp [hk,hz] at h
      | some s=>
       simp only [hk,hz] at h
       cases hc:(yr ke.length s&& !P.stoodInHeld e) with
       | false=>rw [hc] at h;cases h
       | true=>
        rw [hc] at h;simp only [ym,yc] at h;subst h;simp only [yf,uR] at hc;have ia:=hz;unfold cP at ia
        cases hi:P.info? e with
        | none=>simp [hi] at ia
        | some i=>
         simp only [hi,yc] at ia;have qh:P.cellsOf e=s:=by simp [Program.cellsOf,hi,ia]
         rw [run_equalIn_array w d _ _ hu hi,qh,List.range_eq_range'];exact XH (Rx n) (by omega) h1 h2 hk hc.2 hz (yo hc.1) k 0 r (by simpa using he)
    ·rw [ha] at hy;cases hy
   ·rw [ha] at hx;cases hx
  ·cases h
end
end
section
open Go
def dM {tm:Env} {hp:Hp} {v:AV} (h:bC tm hp bad=some v):False:=by simp [bad,bC] at h
section
variable {O:bw} {H:Hint} {m:Mp} {S:Nat->Prop} {w:yh} {tm:Env} {a:Act} {hp:Hp} {ct:Nat}
def anJ {ah:Nat->Nat} {va vb v:AV} {x y:ye} (hx:aj ah m S w va x) (hy:aj ah m S w vb y) (h:VE.min2 va vb=some v):∃u,(Builtin.min2 x y).run O.P w= .ok u w/\aj ah m S w v u:=by
 unfold VE.min2 at h
 split at h
 ·simp only [aj] at hx hy;subst hx;subst hy;simp only [yc] at h;subst h;exact ⟨_,by simp only [Builtin.min2,Sem.run_pure];rfl,by simp only [aj]⟩
 ·rename_i k p k' q;simp only [aj] at hx hy;subst hx;subst hy
  cases ho:k.format.order p q with
  | none=>simp [ho] at h
  | some c=>cases c<;>(simp only [ho,yc] at h;subst h;exact ⟨_,by simp only [Builtin.min2,ho,Sem.run_pure];rfl,by simp only [aj]⟩)
 ·cases h
def anK {ah:Nat->Nat} {va vb v:AV} {x y:ye} (hx:aj ah m S w va x) (hy:aj ah m S w vb y) (h:VE.max2 va vb=some v):∃u,(Builtin.max2 x y).run O.P w= .ok u w/\aj ah m S w v u:=by
 unfold VE.max2 at h
 split at h
 ·simp only [aj] at hx hy;subst hx;subst hy;simp only [yc] at h;subst h;exact ⟨_,by simp only [Builtin.max2,Sem.run_pure];rfl,by simp only [aj]⟩
 ·rename_i k p k' q;simp only [aj] at hx hy;subst hx;subst hy
  cases ho:k.format.order p q with
  | none=>simp [ho] at h
  | some c=>cases c<;>(simp only [ho,yc] at h;subst h;exact ⟨_,by simp only [Builtin.max2,ho,Sem.run_pure];rfl,by simp only [aj]⟩)
 ·cases h
def QV {ah:Nat->Nat} {f:AV->AV->Option AV} {g:ye->ye->Sem ye} (hfg:∀va vb v x y,aj ah m S w va x->aj ah m S w vb y->f va vb=some v->∃u,(g x y).run O.P w= .ok u w/\aj ah m S w v u):
  ∀(l:List AV) (us:List ye) (va v:AV) (x:ye),aj ah m S w va x->au ah m S w l us->AX f va l=some v->∃u,(us.foldlM g x).run O.P w= .ok u w/\aj ah m S w v u
 | [],us,va,v,x,hx,hl,h=>by
  simp only [au] at hl;subst hl;simp only [AX,yc] at h;subst h;exact ⟨x,by simp,hx⟩
 | b::l,us,va,v,x,hx,hl,h=>by
  simp only [au] at hl;obtain ⟨u,r,rfl,hu,hr⟩:=hl;simp only [AX] at h
  cases hf:f va b with
  | none=>simp [hf] at h
  | some c=>
   simp only [hf] at h;obtain ⟨u1,h1,h2⟩:=hfg _ _ _ _ _ hx hu hf;obtain ⟨u2,h3,h4⟩:=QV hfg l r c v u1 h2 hr h;exact ⟨u2,by simp [h1,h3],h4⟩
def Ry {t:yx} {vx v:AV} {x:ye} {ty:yx} (hh:aZ O m S w hp ct) (hx:aj O.ah m S w vx x)
  {k:Nat} (hu:(k=0/\O.P.underlying t=some .string)\/(k=1/\∃e,O.P.underlying t=some (.slice e))\/(k=2/\∃kt e,O.P.underlying t=some (.map kt e)))
  (h:gK hp k vx=some v):∃u,(Builtin.len_ #[t] ty #[x]).run O.P w= .ok u w/\aj O.ah m S w v u:=by
 rcases hu with ⟨rfl,hu⟩ | ⟨rfl,e,hu⟩ | ⟨rfl,kt,e,hu⟩
 all_goals cases vx<;>simp only [gK,reduceCtorEq] at h
 case inl.str s=>
  simp only [aj] at hx;obtain ⟨b,rfl,rfl⟩:=hx;simp only [yc] at h;subst h;refine ⟨_,by simp [Builtin.len_,run_underlying hu];rfl,?_⟩
  simp only [aj,goInt];rw [Lib.size_eq];simp
 case inr.inl.ab=>
  simp only [aj] at hx;subst hx;simp only [yc] at h;subst h;exact ⟨_,by simp [Builtin.len_,run_underlying hu];rfl,by simp [aj,goInt]⟩
 case inr.inl.aE ex n cs=>
  simp only [aj] at hx;rcases hx with ⟨b,o,c,rfl,_⟩ | ⟨a,rfl,rfl,rfl⟩
  all_goals
   simp only [yc] at h;subst h;exact ⟨_,by simp [Builtin.len_,run_underlying hu];rfl,by simp [aj,goInt]⟩
 case inr.inl.ak id o n=>
  simp only [aj] at hx;obtain ⟨p,c,_,rfl,_⟩:=hx;simp only [yc] at h;subst h;exact ⟨_,by simp [Builtin.len_,run_underlying hu];rfl,by simp [aj,goInt]⟩
 case inr.inr.jz=>
  simp only [aj] at hx;subst hx;simp only [yc] at h;subst h;exact ⟨_,by simp [Builtin.len_,run_underlying hu];rfl,by simp [aj,goInt]⟩
 case inr.inr.jf ks vs=>
  simp only [aj] at hx;obtain ⟨b,es,clock,rfl,_,_,_,hb,h1,_⟩:=hx;simp only [yc] at h;subst h;refine ⟨_,by simp [Builtin.len_,run_underlying hu,getObj,Sem.run,hb];rfl,?_⟩
  have:=iF _ _ h1
  simp only [aj,goInt];rw [<-this];simp
 case inr.inr.map id=>
  simp only [aj] at hx;obtain ⟨p,hm,rfl⟩:=hx
  split at h
  case h_2=>cases h
  rename_i Uk ks vs CC;simp only [yc] at h;subst h;obtain ⟨p',es,clock,fV,hb,h1,_⟩:=hh.obj id _ _ CC hm;rw [hm] at fV;injection fV with fV;subst fV
  refine ⟨_,by simp [Builtin.len_,run_underlying hu,getObj,Sem.run,hb];rfl,?_⟩
  have:=iF _ _ h1
  simp only [aj,goInt];rw [<-this];simp
end
end
section
open Go
section
variable {O:bw} {H:Hint} {m:Mp} {S:Nat->Prop} {w:yh} {tm:Env} {a:Act} {hp:Hp} {ct:Nat}
def DX {t:yx} {z:AV} (h:mS O.P t=some z):∃v,(zeroValue t).run O.P w= .ok v w/\z=eJ v:=by
 unfold mS at h
 cases hi:O.P.info? t with
 | none=>simp [hi] at h
 | some i=>
  simp only [hi] at h
  cases hz:i.zero with
  | none=>simp [hz] at h
  | some v=>
   simp only [hz,yc] at h;exact ⟨v,by simp [zeroValue,typeInfo,hi,hz],h.symm⟩
def Reads (O:bw) (m:Mp) (S:Nat->Prop) (w:yh) (a:Act) (o:yY) (v:AV):Prop:=
 ∃u,(execOp a.eval o).run O.P w= .ok (.value u) w/\aj O.ah m S w v u
def jJ {o:yY} {v:AV} {s:Sem ye} (he:execOp a.eval o=(do pure (.value (<-s)):Sem Next)) (h:∃u,s.run O.P w= .ok u w/\aj O.ah m S w v u):Reads O m S w a o v:=by
 obtain ⟨u,h1,h2⟩:=h;exact ⟨u,by rw [he];simp [h1],h2⟩
def ali {o:yY} {op:BinOp} {t ty:yx} {x y:xB} {k:Nat} {v:AV} (hH:fF O H) (ht:cp O m S w tm a.tmps) (ho:o.op= .binOp op t x y ty)
  (hv:bC tm hp (br O.P H k o)=some v):Reads O m S w a o v:=by
 have rx:=cF hH ht x;have ry:=cF hH ht y;have guard:∀{u:ye},(∀xs ys,¬(a.eval x= .agg xs/\a.eval y= .agg ys))\/O.P.eqGuardType O.P.depth t=false->a.eval x≠.nilIface->(xI op t (a.eval x) (a.eval y)).run O.P w= .ok u w->
   (do eqGuard op t x y (a.eval x) (a.eval y);xI op t (a.eval x) (a.eval y):Sem ye).run O.P w= .ok u w:=by
  intro u h1 h2 h3
  simp only [Sem.run_bind,aip (P:=O.P) (w:=w) (t:=t) (op:=op) (x:=x) (y:=y) (h1.symm) h2,Result.andThen_ok,h3]
 have plain:bC tm hp (.bin op (aR H x) (aR H y))=some v->Reads O m S w a o v:=by
  intro hv;simp only [bC] at hv;obtain ⟨u,h1,h2⟩:=ale (P:=O.P) (t:=t) rx ry hv
  refine jJ (s:=do eqGuard op t x y (a.eval x) (a.eval y);xI op t (a.eval x) (a.eval y)) (by simp only [execOp,ho]) ⟨u,guard (.inl ?_) ?_ h1,h2⟩
  ·rintro xs ys ⟨e1,e2⟩;rw [e1] at rx;unfold VE.binOp at hv
   split at hv
   ·rename_i h3 _;rw [h3] at rx;simp [aj] at rx
   ·rename_i h3 _;rw [h3] at rx;simp [aj] at rx
   ·rename_i h3 _;rw [h3] at rx;simp [aj] at rx
   ·cases hv
  ·intro e1;rw [e1] at rx;unfold VE.binOp at hv
   split at hv
   ·rename_i h3 _;rw [h3] at rx;simp [aj] at rx
   ·rename_i h3 _;rw [h3] at rx;simp [aj] at rx
   ·rename_i h3 _;rw [h3] at rx;simp [aj] at rx
   ·cases hv
 have other:∀(ne:Bool) (kd:VE.N7),(op= .eql/\ne=false\/op= .neq/\ne=true)->(∀r,im kd (az tm (aR H x)) (az tm (aR H y))=some r->(Op.equal t (a.eval x) (a.eval y)).run O.P w= .ok r w/\
    ((∀xs ys,¬(a.eval x= .agg xs/\a.eval y= .agg ys))\/O.P.eqGuardType O.P.depth t=false)/\a.eval x≠.nilIface/\
    ∀q:Bool,(op= .eql->xI op t (a.eval x) (a.eval y)=(do pure (.bool (<-Op.equal t (a.eval x) (a.eval y)))))/\(op= .neq->xI op t (a.eval x) (a.eval y)=(do pure (.bool (!(<-Op.equal t (a.eval x) (a.eval y)))))))->
   bC tm hp (.eq ne kd (aR H x) (aR H y))=some v->Reads O m S w a o v:=by
  intro ne kd jF mq hv;simp only [bC] at hv
  cases he:im kd (az tm (aR H x)) (az tm (aR H y)) with
  | none=>simp [he] at hv
  | some r=>
   simp only [he,yc] at hv;subst hv;obtain ⟨h1,h2,h3,h4⟩:=mq r he;obtain ⟨h5,h6⟩:=h4 true
   refine jJ (s:=do eqGuard op t x y (a.eval x) (a.eval y);xI op t (a.eval x) (a.eval y)) (by simp only [execOp,ho]) ⟨.bool (ne !=r),guard h2 h3 ?_,by simp [aj]⟩
   rcases jF with ⟨rfl,rfl⟩ | ⟨rfl,rfl⟩
   ·rw [h5 rfl];simp [h1]
   ·rw [h6 rfl];simp [h1]
 have pB:O.P.underlying t=some .bool->∀r,im .b (az tm (aR H x)) (az tm (aR H y))=some r->∃p q,a.eval x= .bool p/\a.eval y= .bool q/\(Op.equal t (a.eval x) (a.eval y)).run O.P w= .ok r w:=by
  intro hu r he;cases hx:az tm (aR H x)<;>cases hy:az tm (aR H y)<;>rw [hx,hy] at he<;>simp only [im,reduceCtorEq] at he
  rw [hx] at rx;rw [hy] at ry;simp only [aj] at rx ry;simp only [yc] at he;refine ⟨_,_,rx,ry,?_⟩;rw [rx,ry,Li,<-he];exact apQ hu
 have pS:∀e,O.P.underlying t=some (.slice e)->∀r,im .sl (az tm (aR H x)) (az tm (aR H y))=some r->∃p n c q n' c',a.eval x= .slice p n c/\a.eval y= .slice q n' c'/\(Op.equal t (a.eval x) (a.eval y)).run O.P w= .ok r w:=by
  intro e hu r he;have h1:=anG hu rx ry he;have sl:∀{v:AV} {u:ye},aj O.ah m S w v u->(v= .ab\/(∃a b c,v= .aE a b c)\/∃a b c,v= .ak a b c)->∃p n c,u= .slice p n c:=by
   intro v u hr hv;rcases hv with rfl | ⟨_,_,_,rfl⟩ | ⟨_,_,_,rfl⟩
   ·simp only [aj] at hr;exact ⟨_,_,_,hr⟩
   ·simp only [aj] at hr;rcases hr with ⟨b,o,c,hr,_⟩ | ⟨_,hr,_⟩<;>exact ⟨_,_,_,hr⟩
   ·simp only [aj] at hr;obtain ⟨b,c,_,hr,_⟩:=hr;exact ⟨_,_,_,hr⟩
  have cZ:(az tm (aR H x)= .ab\/(∃a b c,az tm (aR H x)= .aE a b c)\/∃a b c,az tm (aR H x)= .ak a b c)/\
    (az tm (aR H y)= .ab\/(∃a b c,az tm (aR H y)= .aE a b c)\/∃a b c,az tm (aR H y)= .ak a b c):=by
   cases hx:az tm (aR H x)<;>cases hy:az tm (aR H y)<;>rw [hx,hy] at he<;>simp [im] at he ⊢
  obtain ⟨p,n,c,e1⟩:=sl rx cZ.1;obtain ⟨q,n',c',e2⟩:=sl ry cZ.2;exact ⟨p,n,c,q,n',c',e1,e2,h1⟩
 have pF:∀ps rs vr,O.P.underlying t=some (.func ps rs vr)->∀r,im .fn (az tm (aR H x)) (az tm (aR H y))=some r->
   ((a.eval x= .nilFunc\/∃f p q,a.eval x= .func f p q)/\(a.eval y= .nilFunc\/∃f p q,a.eval y= .func f p q))/\(Op.equal t (a.eval x) (a.eval y)).run O.P w= .ok r w:=by
  intro ps rs vr hu r he;have h1:=anH hu rx ry he;have sl:∀{v:AV} {u:ye},aj O.ah m S w v u->(v= .hO\/(∃a b c,v= .fn a b c))->(u= .nilFunc\/∃f p q,u= .func f p q):=by
   intro v u hr hv;rcases hv with rfl | ⟨f,_,_,rfl⟩
   ·simp only [aj] at hr;exact .inl hr
   ·cases f with
    | f g=>simp only [aj] at hr;obtain ⟨b,c,hr,_⟩:=hr;exact .inr ⟨_,_,_,hr⟩
    | y l=>simp only [aj] at hr;obtain ⟨b,_,hr⟩:=hr;exact .inr ⟨_,_,_,hr⟩
  have cZ:(az tm (aR H x)= .hO\/(∃a b c,az tm (aR H x)= .fn a b c))/\(az tm (aR H y)= .hO\/(∃a b c,az tm (aR H y)= .fn a b c)):=by
   cases hx:az tm (aR H x)<;>cases hy:az tm (aR H y)<;>rw [hx,hy] at he<;>simp [im] at he ⊢
  exact ⟨⟨sl rx cZ.1,sl ry cZ.2⟩,h1⟩
 have pA:∀ks,kinds O.P 20 t=some ks->dW O.P t=some true->O.P.stoodInHeld t=false->∀r,im (.ag ks) (az tm (aR H x)) (az tm (aR H y))=some r->∃p q,a.eval x= .agg p/\a.eval y= .agg q/\(Op.equal t (a.eval x) (a.eval y)).run O.P w= .ok r w:=by
  intro ks hk ha bf r he;cases hx:az tm (aR H x)<;>cases hy:az tm (aR H y)<;>rw [hx,hy] at he<;>simp only [im,reduceCtorEq] at he
  rw [hx] at rx;rw [hy] at ry;simp only [aj] at rx ry;obtain ⟨p,e1,h1⟩:=rx;obtain ⟨q,e2,h2⟩:=ry;refine ⟨p,q,e1,e2,?_⟩;rw [e1,e2,Li];exact Rx 20 t ks hk bf 10000 (by omega) _ _ _ _ r _ _ h1 h2 he (.inl ⟨ha,by simp⟩) (.inl ⟨ha,by simp⟩)
 have eqs:∀(ne:Bool),(op= .eql/\ne=false\/op= .neq/\ne=true)->bC tm hp (qZ O.P H ne op t x y)=some v->Reads O m S w a o v:=by
  intro ne jF hv;have agg:dW O.P t=some true->bC tm hp (sM O.P H ne t x y)=some v->Reads O m S w a o v:=by
   intro ha hv;unfold sM at hv
   cases hk:kinds O.P 20 t with
   | none=>rw [hk] at hv;exact (dM hv).elim
   | some ks=>
    simp only [hk] at hv
    cases hc:(O.P.stoodInHeld t||O.P.eqGuardType O.P.depth t) with
    | true=>rw [hc] at hv;exact (dM hv).elim
    | false=>
     rw [hc] at hv;simp only [yB] at hv;simp only [Bool.or_eq_false_iff] at hc;refine other ne (.ag ks) jF (fun r hr=>?_) hv;obtain ⟨p,q,e1,e2,h1⟩:=pA ks hk ha hc.1 r hr;refine ⟨h1,.inr hc.2,by rw [e1];simp,fun _=>?_⟩
     rw [e1,e2];exact ⟨fun e=>by subst e;rfl,fun e=>by subst e;rfl⟩
  unfold qZ at hv
  split at hv
  ·exact plain hv
  ·exact plain hv
  ·exact plain hv
  ·rename_i hu;refine other ne .b jF (fun r hr=>?_) hv;obtain ⟨p,q,e1,e2,h1⟩:=pB hu r hr;refine ⟨h1,.inl (by rw [e1];simp),by rw [e1];simp,fun _=>?_⟩
   rw [e1,e2];exact ⟨fun e=>by subst e;rfl,fun e=>by subst e;rfl⟩
  ·rename_i e hu;refine other ne .sl jF (fun r hr=>?_) hv;obtain ⟨p,n,c,q,n',c',e1,e2,h1⟩:=pS e hu r hr;refine ⟨h1,.inl (by rw [e1];simp),by rw [e1];simp,fun _=>?_⟩
   rw [e1,e2];exact ⟨fun e=>by subst e;rfl,fun e=>by subst e;rfl⟩
  ·rename_i ps rs vr hu;refine other ne .fn jF (fun r hr=>?_) hv;obtain ⟨⟨e1,e2⟩,h1⟩:=pF ps rs vr hu r hr;refine ⟨h1,.inl ?_,?_,fun _=>?_⟩
   ·rcases e1 with e1 | ⟨_,_,_,e1⟩<;>rw [e1]<;>simp
   ·rcases e1 with e1 | ⟨_,_,_,e1⟩<;>rw [e1]<;>simp
   ·rcases e1 with e1 | ⟨_,_,_,e1⟩<;>rcases e2 with e2 | ⟨_,_,_,e2⟩<;>rw [e1,e2]<;>exact ⟨fun e=>by subst e;rfl,fun e=>by subst e;rfl⟩
  ·rename_i fs hu;exact agg (by simp [dW,hu]) hv
  ·rename_i k0 e hu;exact agg (by simp [dW,hu]) hv
  ·exact (dM hv).elim
 cases op
 case eql=>exact eqs false (.inl ⟨rfl,rfl⟩) (by simpa only [br,ho] using hv)
 case neq=>exact eqs true (.inr ⟨rfl,rfl⟩) (by simpa only [br,ho] using hv)
 all_goals exact plain (by simpa only [br,ho] using hv)
end
end
end VE
