import Derived.WideLaws
import Derived.Maps.Keyed
import Derived.ChangeKeysEq
import Derived.Test.YtmedhadbdofioaaGreatDoorTaa
set_option linter.all false
set_option maxRecDepth 100000
open Bool renaming and_assoc→uL,and_eq_true→yg,false_eq_true→yD,not_eq_true'→uM
open Go renaming Addr→ue,Field→uk,IntKind→yV,MapEntry→uf,Oper→yZ,Operand→xA,Program→y6,TypeDesc→wV,TypeId→yx,Value→yf,World→yi,binOp→xJ,sizeOf→vU
open List renaming cons_append→y7,drop_drop→wX,getElem?_eq_getElem→xz,length_cons→yr,map_cons→yU,take_succ_cons→wh
open Nat renaming add_assoc→ui,add_mul→wj,beq→yu,ble→yG,ble_eq→ybq,blt→yK,eq_of_beq_eq_true→yp,le_of_ble_eq_true→yy,le_refl→yC
open Option renaming map_none→vh,map_some→wm
open Option.some renaming injEq→yc
open UInt8 renaming toNat→yY
namespace VE
section
open Go
section
variable {ai:Nat->Nat} {P:y6} {m:Mp} {S:Nat->Prop} {w:yi} {t:yx}
def aje {op:BinOp} {x y:xA} {a b:yf} (h:P.eqGuardType P.depth t=false\/∀xs ys,¬(a= .agg xs/\b= .agg ys)) (hn:a≠.nilIface):
  (eqGuard op t x y a b).run P w= .ok () w:=by
 unfold eqGuard;cases op
 all_goals first
  | rfl
  | (
    cases a
    all_goals first
     | rfl
     | exact absurd rfl hn
     | (
      cases b
      all_goals first
       | rfl
       | (
         rcases h with h | h
         ·simp [h]
         ·exact absurd ⟨rfl,rfl⟩ (h _ _))))
def aqF {d:Nat} {p q:Bool} (ht:P.underlying t=some .bool):(Op.equalIn (d+1) t (.bool p) (.bool q)).run P w= .ok (p==q) w:=by
 simp [Op.equalIn,underlying,ht]
def S6 {d:Nat} {e:yx} (ht:P.underlying t=some (.slice e)) (y:Option ue) (n c n' c':Nat):
  (Op.equalIn (d+1) t (.slice none n c) (.slice y n' c')).run P w= .ok y.isNone w:=by simp [Op.equalIn,underlying,ht]
def adR {d:Nat} {e:yx} (ht:P.underlying t=some (.slice e)) (x:ue) (n c n' c':Nat):
  (Op.equalIn (d+1) t (.slice (some x) n c) (.slice none n' c')).run P w= .ok false w:=by simp [Op.equalIn,underlying,ht]
def atp {d:Nat} {ps rs:Array yx} {vr:Bool} (ht:P.underlying t=some (.func ps rs vr)):
  (Op.equalIn (d+1) t .nilFunc .nilFunc).run P w= .ok true w:=by simp [Op.equalIn,underlying,ht]
def adS {d:Nat} {ps rs:Array yx} {vr:Bool} (ht:P.underlying t=some (.func ps rs vr)) (f:Go.Fn) (a b:Array yf):
  (Op.equalIn (d+1) t .nilFunc (.func f a b)).run P w= .ok false w:=by simp [Op.equalIn,underlying,ht]
def adT {d:Nat} {ps rs:Array yx} {vr:Bool} (ht:P.underlying t=some (.func ps rs vr)) (f:Go.Fn) (a b:Array yf):
  (Op.equalIn (d+1) t (.func f a b) .nilFunc).run P w= .ok false w:=by simp [Op.equalIn,underlying,ht]
def Mh (x y:yf):Op.equal t x y=Op.equalIn (9999+1) t x y:=rfl
def aoA {vx vy:AV} {x y:yf} {r:Bool} {e:yx} (ht:P.underlying t=some (.slice e)) (hx:aj ai m S w vx x) (hy:aj ai m S w vy y)
  (h:gH .sl vx vy=some r):(Op.equal t x y).run P w= .ok r w:=by
 rw [Mh];unfold gH at h
 split at h<;>simp_all only [yc,reduceCtorEq]
 all_goals subst h
 all_goals simp only [aj] at hx hy
 ·subst hx;subst hy;exact S6 ht _ _ _ _ _
 ·rcases hy with ⟨b,o,c,rfl,_⟩ | ⟨_,rfl,_⟩<;>(subst hx;exact S6 ht _ _ _ _ _)
 ·obtain ⟨p,c,_,rfl,_⟩:=hy;subst hx;exact S6 ht _ _ _ _ _
 ·rcases hx with ⟨b,o,c,rfl,_⟩ | ⟨_,rfl,_⟩<;>(subst hy;exact adR ht _ _ _ _ _)
 ·obtain ⟨p,c,_,rfl,_⟩:=hx;subst hy;exact adR ht _ _ _ _ _
def aoB {vx vy:AV} {x y:yf} {r:Bool} {ps rs:Array yx} {vr:Bool} (ht:P.underlying t=some (.func ps rs vr)) (hx:aj ai m S w vx x) (hy:aj ai m S w vy y)
  (h:gH .fn vx vy=some r):(Op.equal t x y).run P w= .ok r w:=by
 rw [Mh];unfold gH at h
 split at h<;>simp_all only [yc,reduceCtorEq]
 all_goals subst h
 ·simp only [aj] at hx hy;subst hx;subst hy;exact atp ht
 ·rename_i f _ _
  cases f with
  | f g=>simp only [aj] at hx hy;obtain ⟨fi,ca,rfl,_⟩:=hy;subst hx;exact adS ht _ _ _
  | y l=>simp only [aj] at hx hy;obtain ⟨p,_,rfl⟩:=hy;subst hx;exact adS ht _ _ _
 ·rename_i f _ _
  cases f with
  | f g=>simp only [aj] at hx hy;obtain ⟨fi,ca,rfl,_⟩:=hx;subst hy;exact adT ht _ _ _
  | y l=>simp only [aj] at hx hy;obtain ⟨p,_,rfl⟩:=hx;subst hy;exact adT ht _ _ _
def aoC {op:UnOp} {vx v:AV} {x:yf} (hx:aj ai m S w vx x) (h:VE.unOp op vx=some v):∃u,(Op.unary op x).run P w= .ok u w/\aj ai m S w v u:=by
 unfold VE.unOp at h
 split at h
 ·rename_i k n;simp only [aj] at hx;subst hx;simp only [yc] at h;subst h;exact ⟨_,by simp [Op.unary,Op.intArith];rfl,by simp [aj]⟩
 ·rename_i k n;simp only [aj] at hx;subst hx;simp only [lL,yc] at h;subst h;exact ⟨_,by simp [Op.unary,Op.intBits];rfl,by simp [aj]⟩
 ·rename_i b;simp only [aj] at hx;subst hx;simp only [yc] at h;subst h;exact ⟨_,by simp [Op.unary];rfl,by simp [aj]⟩
 ·rename_i k b;simp only [aj] at hx;subst hx;simp only [yc] at h;subst h;exact ⟨_,by simp [Op.unary,Op.negFloat];rfl,by simp [aj]⟩
 ·cases h
def Z9 {s d:yx} {k:yV} {vx v:AV} {x:yf} (hd:P.underlying d=some (.int k)) (hs:(∃k',P.underlying s=some (.int k'))\/∃k',P.underlying s=some (.float k'))
  (hx:aj ai m S w vx x) (h:oT (.toInt k) vx=some v):∃u,(convert s d x).run P w= .ok u w/\aj ai m S w v u:=by
 cases vx<;>simp only [oT,reduceCtorEq] at h
 case int k0 n=>
  simp only [aj] at hx;subst hx;simp only [yc] at h;subst h;refine ⟨.int k (k.wrap n),?_,by simp [aj]⟩;rcases hs with ⟨k',h'⟩ | ⟨k',h'⟩<;>simp [convert,underlying,Conv.intToInt,hd,h']
 case dE sk b=>
  simp only [aj] at hx;subst hx
  cases hi:(sk.decode b).toInt .zero with
  | none=>simp [hi] at h
  | some n=>
   simp only [hi] at h;by_cases hr:k.min<=n/\n<=k.max
   ·simp only [hr,and_self,y5,yc] at h;subst h;refine ⟨.int k n,?_,by simp [aj]⟩;rcases hs with ⟨k',h'⟩ | ⟨k',h'⟩<;>simp [convert,underlying,Conv.floatToInt,hd,h',hi,hr]
   ·simp [hr] at h
def aaa {s d:yx} {k:FloatKind} {vx v:AV} {x:yf} (hd:P.underlying d=some (.float k)) (hs:(∃k',P.underlying s=some (.int k'))\/∃k',P.underlying s=some (.float k'))
  (hx:aj ai m S w vx x) (h:oT (.toFlt k) vx=some v):∃u,(convert s d x).run P w= .ok u w/\aj ai m S w v u:=by
 cases vx<;>simp only [oT,reduceCtorEq] at h
 case int k0 n=>
  simp only [aj] at hx;subst hx;simp only [yc] at h;subst h;refine ⟨.float k (k.nearest n),?_,by simp [aj]⟩;rcases hs with ⟨k',h'⟩ | ⟨k',h'⟩<;>simp [convert,underlying,Conv.intToFloat,hd,h']
 case dE sk b=>
  simp only [aj] at hx;subst hx;by_cases he:sk=k
  ·subst he;simp only [y5,yc] at h;subst h;refine ⟨.float sk b,?_,by simp [aj]⟩;rcases hs with ⟨k',h'⟩ | ⟨k',h'⟩<;>simp [convert,underlying,Conv.floatToFloat,hd,h']
  ·simp only [he,yO] at h
   cases NS:sk.decode b with
   | nan _ _=>simp [NS] at h
   | infinity _=>simp [NS] at h
   | number sg mm ee=>
    simp only [NS] at h
    cases TA:(k.decode (k.encode (.number sg mm ee))).isInfinity with
    | true=>simp [TA] at h
    | false=>
     simp only [TA,yD,yO,yc] at h;subst h;refine ⟨.float k (k.encode (.number sg mm ee)),?_,by simp [aj]⟩;rcases hs with ⟨k',h'⟩ | ⟨k',h'⟩<;>simp [convert,underlying,Conv.floatToFloat,hd,h',he,NS,TA]
def al9 {s d:yx} {vx v:AV} {x:yf} (hd:P.underlying d=some .string) (hs:P.underlying s=some .string)
  (hx:aj ai m S w vx x) (h:oT .str vx=some v):∃u,(convert s d x).run P w= .ok u w/\aj ai m S w v u:=by
 cases vx<;>simp only [oT,reduceCtorEq] at h
 simp only [yc] at h;subst h;simp only [aj] at hx;obtain ⟨b,rfl,hb⟩:=hx;exact ⟨.string b,by simp [convert,underlying,hs,hd],by simp only [aj];exact ⟨b,rfl,hb⟩⟩
end
end
section
open Go
def akb {v:AV} {k:Nat} (h:dY v=some k):∃kd,v= .int kd (k:Int):=by
 cases v<;>simp only [dY,reduceCtorEq] at h
 rename_i kd n
 cases n with
 | ofNat j=>simp only [yc] at h;subst h;exact ⟨kd,rfl⟩
 | negSucc j=>cases h
section
variable {O:bA} {H:Hint} {m:Mp} {S:Nat->Prop} {w:yi} {tm:Env} {a:Act}
def sU {ai:Nat->Nat} {v:AV} {x:yf} {k:Nat} (hx:aj ai m S w v x) (h:dY v=some k):∃kd,x= .int kd (k:Int):=by
 obtain ⟨kd,rfl⟩:=akb h;simp only [aj] at hx
 grind
def run_sliceBound {P:y6} {kd:yV} {k y:Nat} {code:BoundsCode} (h:k<=y):(Instr.sliceBound (.int kd (k:Int)) y code).run P w= .ok k w:=by
 have:(0:Int)<=(k:Int)/\(k:Int)<=(y:Int):=by omega
 simp [Instr.sliceBound,asIntOf,this]
def Za {P:y6} {isSlice:Bool} {len cap l h:Nat} {lo hi:Option xA} (hH:fT O H) (ht:cw O m S w tm a.tmps)
  (hl:cP tm 0 (lo.map (aT H))=some l) (hh:cP tm len (hi.map (aT H))=some h) (h1:l<=h) (h2:h<=cap):
  (Instr.sliceBounds isSlice len cap (lo.map a.eval) (hi.map a.eval) none).run P w= .ok (l,h,cap) w:=by
 cases lo with
 | none=>
  simp only [vh,cP,yc] at hl;subst hl
  cases hi with
  | none=>
   simp only [vh,cP,yc] at hh;subst hh;simp [Instr.sliceBounds]
  | some y=>
   obtain ⟨kd,e⟩:=sU (cI hH ht y) hh;simp only [Instr.sliceBounds,vh,wm,e,Sem.run_bind,Sem.run_pure,Result.andThen_ok,run_sliceBound h2]
 | some x=>
  obtain ⟨kd,e⟩:=sU (cI hH ht x) hl
  cases hi with
  | none=>
   simp only [vh,cP,yc] at hh;subst hh;simp only [Instr.sliceBounds,vh,wm,e,Sem.run_bind,Sem.run_pure,Result.andThen_ok,run_sliceBound h1]
  | some y=>
   obtain ⟨Vu,e'⟩:=sU (cI hH ht y) hh;simp only [Instr.sliceBounds,wm,e,e',Sem.run_bind,Sem.run_pure,Result.andThen_ok,run_sliceBound h2,run_sliceBound h1]
def akc {t:yx} {lo hi:Option xA} {vx v:AV} {x:yf} (hH:fT O H) (ht:cw O m S w tm a.tmps) (hu:O.P.underlying t=some .string)
  (hx:aj O.ai m S w vx x) {hp:Hp} (h:fL hp .str vx tm (lo.map (aT H)) (hi.map (aT H))=some v):
  ∃u,(Instr.sliceAt t x (lo.map a.eval) (hi.map a.eval) none).run O.P w= .ok u w/\aj O.ai m S w v u:=by
 cases vx<;>simp only [fL,reduceCtorEq] at h
 obtain ⟨b,rfl,rfl⟩:=hx
 cases hl:cP tm 0 (lo.map (aT H)) with
 | none=>simp [hl] at h
 | some l=>
  simp only [hl] at h
  cases hh:cP tm (b.data.toList.map yY).length (hi.map (aT H)) with
  | none=>rw [hh] at h;cases h
  | some g=>
   rw [hh] at h;simp only at h
   cases hc:(yG l g&&yG g (b.data.toList.map yY).length) with
   | false=>rw [hc] at h;cases h
   | true=>
    rw [hc] at h;simp only [ym,yc] at h;subst h;simp only [yg] at hc;have h1:=yy hc.1;have h2:=yy hc.2;have hlen:(b.data.toList.map yY).length=b.size:=Y9 b;rw [hlen] at hh h2;refine ⟨.string (b.extract l g),?_,?_⟩
    ·simp only [Instr.sliceAt,Sem.run_bind,run_underlying hu,Result.andThen_ok,Instr.slice,Option.isSome_none,yD,yO,Sem.run_pure,
      Za (P:=O.P) (isSlice:=false) (len:=b.size) (cap:=b.size) hH ht hl hh h1 h2]
    ·simp only [aj];refine ⟨_,rfl,?_⟩;rw [Lib.extract_data,List.map_take,List.map_drop,List.drop_take]
def ama {t e:yx} {sz:Nat} {lo hi:Option xA} {vx v:AV} {x:yf} (hH:fT O H) (ht:cw O m S w tm a.tmps) (hu:O.P.underlying t=some (.slice e)) (hz:cT O.P e=some sz)
  {hp:Hp} {ct:Nat} (hh:bf O m S w hp ct)
  (hx:aj O.ai m S w vx x) (h:fL hp (.sl sz) vx tm (lo.map (aT H)) (hi.map (aT H))=some v):
  ∃u,(Instr.sliceAt t x (lo.map a.eval) (hi.map a.eval) none).run O.P w= .ok u w/\aj O.ai m S w v u:=by
 have fa:(vU e).run O.P w= .ok sz w:=by
  unfold cT at hz
  cases hi:O.P.info? e with
  | none=>simp [hi] at hz
  | some i=>simp_all [vU,typeInfo]
 have Iu:∀(ad:Option ue) (n c l g:Nat),cP tm 0 (lo.map (aT H))=some l->cP tm n (hi.map (aT H))=some g->l<=g->g<=c->
   (Instr.sliceAt t (.slice ad n c) (lo.map a.eval) (hi.map a.eval) none).run O.P w= .ok (.slice (if c=l then ad else ad.map (·.add (l*sz))) (g-l) (c-l)) w:=by
  intro ad n c l g hl hg h1 h2
  simp only [Instr.sliceAt,Sem.run_bind,run_underlying hu,Result.andThen_ok,Instr.slice,Sem.run_pure,fa,
   Za (P:=O.P) (isSlice:=true) (len:=n) (cap:=c) hH ht hl hg h1 h2]
 cases vx<;>simp only [fL,reduceCtorEq] at h
 case ab=>
  simp only [aj] at hx;subst hx
  cases hl:cP tm 0 (lo.map (aT H)) with
  | none=>simp [hl] at h
  | some l=>
   cases l with
   | succ l=>simp [hl] at h
   | zero=>
    simp only [hl] at h
    cases hh:cP tm 0 (hi.map (aT H)) with
    | none=>simp [hh] at h
    | some g=>
     cases g with
     | succ g=>simp [hh] at h
     | zero=>
      simp only [hh,yc] at h;subst h;exact ⟨_,Iu none 0 0 0 0 hl hh (yC _) (yC _),by simp [aj]⟩
 case aE ex n cs=>
  simp only [aj] at hx;rcases hx with ⟨b,o,c,rfl,Ko,hex,hS,ij,Ds⟩ | ⟨ad,rfl,rfl,rfl⟩
  case inr=>
   cases hl:cP tm 0 (lo.map (aT H)) with
   | none=>simp [hl] at h
   | some l=>
    simp only [hl] at h
    cases hh:cP tm 0 (hi.map (aT H)) with
    | none=>simp [hh] at h
    | some g=>
     simp only [hh] at h
     cases hc:(yG l g&&yG g 0) with
     | false=>rw [hc] at h;cases h
     | true=>
      rw [hc] at h;simp only [ym,yc] at h;subst h;simp only [yg] at hc;have h1:=yy hc.1;have h2:=yy hc.2;have hg:g=0:=by omega
      subst hg;have kE:l=0:=by omega
      subst kE;refine ⟨_,Iu (some ad) 0 0 0 0 hl hh h1 h2,?_⟩;simp only [aj];exact .inr ⟨ad,by simp,by simp,by simp [slice]⟩
  cases hl:cP tm 0 (lo.map (aT H)) with
  | none=>simp [hl] at h
  | some l=>
   simp only [hl] at h
   cases hh:cP tm n (hi.map (aT H)) with
   | none=>simp [hh] at h
   | some g=>
    simp only [hh] at h
    cases hc:(yG l g&&yG g n) with
    | false=>rw [hc] at h;cases h
    | true=>
     rw [hc] at h;simp only [ym,yc] at h;subst h;simp only [yg] at hc;have h1:=yy hc.1;have h2:=yy hc.2;refine ⟨_,Iu (some ⟨b,o,none⟩) n c l g hl hh h1 (by omega),?_⟩;have Nk:aH (slice (l*sz) ((g-l)*sz) cs)=true:=by
      have pd:∀(k:Nat) (cs:List AV),aH cs=true->aH (cs.drop k)=true:=by
       intro k
       induction k with
       | zero=>intro cs h;simpa using h
       | succ k ih=>intro cs h;cases cs with
        | nil=>simpa using h
        | cons c cs=>simp only [aH,yg] at h;simpa using ih cs h.2
      have pt:∀(k:Nat) (cs:List AV),aH cs=true->aH (cs.take k)=true:=by
       intro k
       induction k with
       | zero=>intro cs h;simp [aH]
       | succ k ih=>intro cs h;cases cs with
        | nil=>simp [aH]
        | cons c cs=>simp only [aH,yg,wh] at h ⊢;exact ⟨h.1,ih cs h.2⟩
      exact pt _ _ (pd _ _ ij)
     have afs:(ex&&yu g n)=true->c-l=g-l:=by
      intro hq;simp only [yg] at hq
      have:=hex hq.1
      have:=yp hq.2
      omega
     simp only [aj];by_cases iR:c=l
     ·have h0:g-l=0:=by omega
      have ji:slice (l*sz) ((g-l)*sz) cs=[]:=by simp [slice,h0]
      rw [ji];exact .inl ⟨b,o,c-l,by simp [iR],by omega,afs,.inl rfl,rfl,by simp [bW]⟩
     ·refine .inl ⟨b,o+l*sz,c-l,by simp [iR,oL],by omega,afs,?_,Nk,?_⟩
      ·rcases hS with rfl | hS
       ·exact .inl (by simp [slice])
       ·exact .inr hS
      ·exact Ci _ _ _ _ (qZ _ _ _ _ Ds)
 case an id o n=>
  simp only [aj] at hx;obtain ⟨p,c,hm,rfl,Ko,Ph⟩:=hx
  split at h
  case h_2=>cases h
  rename_i Vv pu0 rX z0 cs0 CR;obtain ⟨p',arr,t',gK,_,fQ,_⟩:=hh.obj id _ _ CR hm;rw [hm] at gK;injection gK with gK
  subst gK
  cases hl:cP tm 0 (lo.map (aT H)) with
  | none=>simp [hl] at h
  | some l=>
   simp only [hl] at h
   cases hh:cP tm n (hi.map (aT H)) with
   | none=>simp [hh] at h
   | some g=>
    simp only [hh] at h
    cases hc:(yG l g&&yG g n&&yu z0 sz) with
    | false=>rw [hc] at h;cases h
    | true=>
     rw [hc] at h;simp only [ym] at h;simp only [yg] at hc;have h1:=yy hc.1.1;have h2:=yy hc.1.2;have hpz:p.z=sz:=fQ.trans (yp hc.2)
     cases he:(yu l g&& !yu l 0) with
     | true=>
      rw [he] at h;simp only [ym,yc] at h;subst h;simp only [yg] at he;have Dt:=yp he.1;refine ⟨_,Iu (some ⟨p.b,p.o+o,none⟩) n c l g hl hh h1 (by omega),?_⟩;simp only [aj];by_cases iR:c=l
      ·exact .inl ⟨p.b,p.o+o,c-l,by simp [iR];omega,by omega,by simp,by simp,by simp [aH],by simp [bW]⟩
      ·exact .inl ⟨p.b,p.o+o+l*sz,c-l,by simp [iR,oL];omega,by omega,by simp,by simp,by simp [aH],by simp [bW]⟩
     | false=>
      rw [he] at h;simp only [yA,yc] at h;subst h;have iR:c=l->l=0:=by
       intro iR;have Dt:l=g:=by omega
       cases kE:yu l 0 with
       | true=>exact yp kE
       | false=>rw [Dt,Nat.beq_refl,<-Dt,kE] at he;cases he
      refine ⟨_,Iu (some ⟨p.b,p.o+o,none⟩) n c l g hl hh h1 (by omega),?_⟩;simp only [aj];refine ⟨p,c-l,hm,?_,by omega,?_⟩
      ·by_cases TB:c=l
       ·have:=iR TB;subst this;subst TB;simp
       ·simp [TB,oL,ui]
      ·rw [hpz] at Ph ⊢
       have:c*sz=l*sz+(c-l)*sz:=by rw [<-wj];congr 1;omega
       omega
end
end
section
open Go
def nA {P:y6} {w:yi} {t:yx} {sz:Nat} (hz:cT P t=some sz):(vU t).run P w= .ok sz w:=by
 unfold cT at hz
 cases hi:P.info? t with
 | none=>simp [hi] at hz
 | some i=>simp_all [vU,typeInfo]
section
variable {O:bA} {H:Hint} {m:Mp} {S:Nat->Prop} {w:yi} {tm:Env} {a:Act} {hp:Hp} {ct:Nat}
def RE {id o n:Nat} {rw pu ex:Bool} {sz:Nat} {cs:List AV} {p:Pl} (hh:bf O m S w hp ct) (hg:ak hp id=some (.cells rw pu ex sz cs)) (hm:m id=some p):
  bW O.ai m S w cs p.b p.o:=by
 obtain ⟨p',arr,t',gK,_,_,_,_,_,hr,_⟩:=hh.obj id _ _ hg hm
 grind
def atq {t:yx} {sz:Nat} {ag:Bool} {vx v:AV} {x:yf} (hh:bf O m S w hp ct) (hz:cT O.P t=some sz) (ha:dZ O.P t=some ag) (hx:aj O.ai m S w vx x)
  (h:jd hp sz ag vx=some v):∃u,(Instr.loadAt t x).run O.P w= .ok u w/\aj O.ai m S w v u:=by
 cases vx<;>simp only [jd,reduceCtorEq] at h
 case ptr id o=>
  obtain ⟨p,hm,rfl⟩:=hx
  split at h
  case h_2=>cases h
  rename_i Vv pu0 rX z0 cs0 CR;have hr:=RE (id:=id) (o:=0) (n:=0) hh CR hm;obtain ⟨u,h1,h2⟩:=MH hz ha (qZ o cs0 p.b p.o hr) h;exact ⟨u,by simp only [Instr.loadAt,Instr.sureAddr,Sem.run_bind,Sem.run_pure,Result.andThen_ok];exact h1,h2⟩
 case aI cs=>
  obtain ⟨b,o,rfl,_,_,hr⟩:=hx;obtain ⟨u,h1,h2⟩:=MH hz ha hr h;exact ⟨u,by simp only [Instr.loadAt,Instr.sureAddr,Sem.run_bind,Sem.run_pure,Result.andThen_ok];exact h1,h2⟩
def AL:∀(k:Nat) (cs:List AV),aH cs=true->aH (cs.drop k)=true
 | 0,cs,h=>by simpa using h
 | k+1,[],h=>by simpa using h
 | k+1,c::cs,h=>by simp only [aH,yg] at h;simpa using AL k cs h.2
def Q2 {cs:List AV} {b o k:Nat} (h2:cs=[]\/S b) (h3:aH cs=true) (h4:bW O.ai m S w cs b o):aj O.ai m S w (.aI (cs.drop k)) (.pointer (some ⟨b,o+k,none⟩)):=by
 refine ⟨b,o+k,rfl,?_,AL k cs h3,qZ k cs b o h4⟩
 grind
def aqG {t:yx} {fs:Array uk} {i:Nat} {f:uk} {sz:Nat} {vx v:AV} {x:yf} (hu:O.P.underlying t=some (.struct fs)) (hf:fs[i]? =some f) (hz:cT O.P f.type=some (sz+1))
  (hx:aj O.ai m S w vx x)
  (h:EV f.offset vx=some v):∃u,(Instr.fieldAt t x i).run O.P w= .ok u w/\aj O.ai m S w v u:=by
 have adU:∀(b o:Nat),(Instr.fieldAt t (.pointer (some ⟨b,o,none⟩)) i).run O.P w= .ok (.pointer (some ⟨b,o+f.offset,none⟩)) w:=by
  intro b o;simp only [Instr.fieldAt,Sem.run_bind,run_underlying hu,Result.andThen_ok,hf,Instr.sureAddr,Sem.run_pure,fieldPlace,nA hz,Nat.succ_ne_zero,yO,oL]
 cases vx<;>simp only [EV,reduceCtorEq] at h
 case ptr id o=>
  obtain ⟨p,hm,rfl⟩:=hx;simp only [yc] at h;subst h;exact ⟨_,adU _ _,by simp only [aj];exact ⟨p,hm,by rw [ui]⟩⟩
 case aI cs=>
  obtain ⟨b,o,rfl,h2,h3,h4⟩:=hx
  cases hc:yG f.offset cs.length with
  | false=>rw [hc] at h;cases h
  | true=>
   rw [hc] at h;simp only [ym,yc] at h;subst h;exact ⟨_,adU _ _,Q2 h2 h3 h4⟩
def aqH {t:yx} {fs:Array uk} {i:Nat} {f:uk} {sz:Nat} {ag:Bool} {vx v:AV} {x:yf} (hu:O.P.underlying t=some (.struct fs)) (hf:fs[i]? =some f)
  (hz:cT O.P f.type=some sz) (ha:dZ O.P f.type=some ag) (hx:aj O.ai m S w vx x)
  (h:Nj f.offset sz ag vx=some v):∃u,(Instr.field t x i).run O.P w= .ok u w/\aj O.ai m S w v u:=by
 cases vx<;>simp only [Nj,reduceCtorEq] at h
 obtain ⟨xs,rfl,hr⟩:=hx;obtain ⟨u,h1,h2⟩:=aa8 hz ha hr h;exact ⟨u,by simp only [Instr.field,Sem.run_bind,run_underlying hu,Result.andThen_ok,hf,asAgg,Sem.run_pure];exact h1,h2⟩
def aqI {t e:yx} {sz k:Nat} {vx vi v:AV} {x i:yf} (hu:O.P.underlying t=some (.slice e)) (hz:cT O.P e=some sz) (hx:aj O.ai m S w vx x) (hi:aj O.ai m S w vi i)
  (hk:dY vi=some k)
  (h:jx sz k vx=some v):∃u,(Instr.indexAt t x i).run O.P w= .ok u w/\aj O.ai m S w v u:=by
 obtain ⟨kd,rfl⟩:=sU hi hk;have I8:∀(b o n c:Nat),k<n->(Instr.indexAt t (.slice (some ⟨b,o,none⟩) n c) (.int kd (k:Int))).run O.P w= .ok (.pointer (some ⟨b,o+k*sz,none⟩)) w:=by
  intro b o n c rY;have hr:(0:Int)<=(k:Int)/\(k:Int)<(n:Int):=by omega
  simp [Instr.indexAt,asIntOf,run_underlying hu,nA hz,hr,oL]
  grind
 cases vx<;>simp only [jx,reduceCtorEq] at h
 case an id o n=>
  obtain ⟨p,c,hm,rfl,Ko,Ph⟩:=hx
  cases hc:yK k n with
  | false=>rw [hc] at h;cases h
  | true=>
   rw [hc] at h;simp only [ym,yc] at h;subst h;have rY:k<n:=by simp_all
   exact ⟨_,I8 _ _ _ _ rY,by simp only [aj];exact ⟨p,hm,by rw [ui]⟩⟩
 case aE ex n cs=>
  rcases hx with ⟨b,o,c,rfl,Ko,hex,h2,h3,h4⟩ | ⟨a,rfl,rfl,rfl⟩
  case inr=>
   have:yK k 0=false:=by cases hq:yK k 0 with | false=>rfl | true=>simp only [yK,ybq] at hq;omega
   grind
  cases hc:yK k n with
  | false=>rw [hc] at h;cases h
  | true=>
   rw [hc] at h;simp only [ym,yc] at h;subst h;have rY:k<n:=by simp_all
   exact ⟨_,I8 _ _ _ _ rY,Q2 h2 h3 h4⟩
def aqJ {t e:yx} {len sz k:Nat} {vx vi v:AV} {x i:yf} (hu:O.P.underlying t=some (.array len e)) (hz:cT O.P e=some sz) (hx:aj O.ai m S w vx x) (hi:aj O.ai m S w vi i)
  (hk:dY vi=some k)
  (h:I2 len sz k vx=some v):∃u,(Instr.indexAt t x i).run O.P w= .ok u w/\aj O.ai m S w v u:=by
 obtain ⟨kd,rfl⟩:=sU hi hk;have I8:∀(b o:Nat),k<len->(Instr.indexAt t (.pointer (some ⟨b,o,none⟩)) (.int kd (k:Int))).run O.P w= .ok (.pointer (some ⟨b,o+k*sz,none⟩)) w:=by
  intro b o rY;have hr:(0:Int)<=(k:Int)/\(k:Int)<(len:Int):=by omega
  simp [Instr.indexAt,asIntOf,run_underlying hu,nA hz,hr,oL,Instr.sureAddr]
  grind
 cases vx<;>simp only [I2,reduceCtorEq] at h
 case ptr id o=>
  obtain ⟨p,hm,rfl⟩:=hx
  cases hc:yK k len with
  | false=>rw [hc] at h;cases h
  | true=>
   rw [hc] at h;simp only [ym,yc] at h;subst h;have rY:k<len:=by simp_all
   exact ⟨_,I8 _ _ rY,by simp only [aj];exact ⟨p,hm,by rw [ui]⟩⟩
 case aI cs=>
  obtain ⟨b,o,rfl,h2,h3,h4⟩:=hx
  cases hc:yK k len with
  | false=>rw [hc] at h;cases h
  | true=>
   rw [hc] at h;simp only [ym,yc] at h;subst h;have rY:k<len:=by simp_all
   exact ⟨_,I8 _ _ rY,Q2 h2 h3 h4⟩
def aqK {t e:yx} {len sz k:Nat} {ag:Bool} {vx vi v:AV} {x i:yf} (hu:O.P.underlying t=some (.array len e)) (hz:cT O.P e=some sz) (ha:dZ O.P e=some ag)
  (hx:aj O.ai m S w vx x) (hi:aj O.ai m S w vi i) (hk:dY vi=some k)
  (h:I3 len sz ag k vx=some v):
  ∃u,(Instr.index t x i).run O.P w= .ok u w/\aj O.ai m S w v u:=by
 obtain ⟨kd,rfl⟩:=sU hi hk;cases vx<;>simp only [I3,reduceCtorEq] at h
 simp only [aj] at hx;obtain ⟨xs,rfl,hr⟩:=hx
 cases hc:yK k len with
 | false=>rw [hc] at h;cases h
 | true=>
  rw [hc] at h;simp only [ym] at h;have rY:k<len:=by simp only [yK,ybq] at hc;omega
  obtain ⟨u,h1,h2⟩:=aa8 hz ha hr h;have bX:(0:Int)<=(k:Int)/\(k:Int)<(len:Int):=by omega
  exact ⟨u,by simp [Instr.index,asIntOf,run_underlying hu,nA hz,bX,h1];intro hle;exact absurd hle (by omega),h2⟩
def aqL {t:yx} {k:Nat} {vx vi v:AV} {x i:yf} (hu:O.P.underlying t=some .string) (hx:aj O.ai m S w vx x) (hi:aj O.ai m S w vi i) (hk:dY vi=some k)
  (h:mX k vx=some v):
  ∃u,(Instr.index t x i).run O.P w= .ok u w/\aj O.ai m S w v u:=by
 obtain ⟨kd,rfl⟩:=sU hi hk;cases vx<;>simp only [mX,reduceCtorEq] at h
 rename_i s;simp only [aj] at hx;obtain ⟨b,rfl,rfl⟩:=hx
 cases hs:(b.data.toList.map yY)[k]? with
 | none=>rw [hs] at h;cases h
 | some q=>
  rw [hs] at h;simp only [yc] at h;subst h;rw [List.getElem?_map] at hs
  cases hb:b.data.toList[k]? with
  | none=>rw [hb] at hs;cases hs
  | some c=>
   rw [hb] at hs;simp only [wm,yc] at hs;subst hs;have cY:b[k]? =some c:=by
    have bi:k<b.data.toList.length:=by
     rcases Nat.lt_or_ge k b.data.toList.length with h | h
     ·exact h
     ·rw [List.getElem?_eq_none h] at hb;cases hb
    have fa:k<b.size:=by rw [Lib.size_eq];exact bi
    rw [getElem?_pos b k fa];rw [xz bi] at hb;injection hb with hb
    rw [<-hb];rfl
   refine ⟨.int .u8 c.toNat,?_,by simp [aj]⟩;simp [Instr.index,asIntOf,run_underlying hu,cY]
end
end
section
open Go
section
variable {ai:Nat->Nat} {m:Mp} {S:Nat->Prop} {w:yi}
def Q3:∀{v:AV} {u:yf},aj ai m S w v u->bK (cellsOf v)=true->au ai m S w (cellsOf v) u.cells.toList:=by
 intro v u h h1;cases v
 case agg cs=>
  simp only [aj] at h;obtain ⟨xs,rfl,hr⟩:=h;exact hr
 case ap vs=>simp [cellsOf,bK,bm] at h1
 case undef=>simp [cellsOf,bK,bm] at h1
 case cJ=>simp [cellsOf,bK,bm] at h1
 case fn f a b=>
  cases f with
  | f g=>have h':=h;simp only [aj] at h';obtain ⟨fi,ca,rfl,_⟩:=h';simp only [cellsOf,Value.cells,au];exact ⟨_,_,rfl,h,rfl⟩
  | y l=>have h':=h;simp only [aj] at h';obtain ⟨p,_,rfl⟩:=h';simp only [cellsOf,Value.cells,au];exact ⟨_,_,rfl,h,rfl⟩
 case str s=>have h':=h;simp only [aj] at h';obtain ⟨b,rfl,_⟩:=h';simp only [cellsOf,Value.cells,au];exact ⟨_,_,rfl,h,rfl⟩
 case ptr id o=>have h':=h;simp only [aj] at h';obtain ⟨b,_,rfl⟩:=h';simp only [cellsOf,Value.cells,au];exact ⟨_,_,rfl,h,rfl⟩
 case aI cs=>have h':=h;simp only [aj] at h';obtain ⟨b,o,rfl,_⟩:=h';simp only [cellsOf,Value.cells,au];exact ⟨_,_,rfl,h,rfl⟩
 case aE e n cs=>have h':=h;simp only [aj] at h';rcases h' with ⟨b,o,c,rfl,_⟩ | ⟨a,rfl,_,_⟩<;>(simp only [cellsOf,Value.cells,au];exact ⟨_,_,rfl,h,rfl⟩)
 case an id o n=>have h':=h;simp only [aj] at h';obtain ⟨p,c,_,rfl,_⟩:=h';simp only [cellsOf,Value.cells,au];exact ⟨_,_,rfl,h,rfl⟩
 case map id=>have h':=h;simp only [aj] at h';obtain ⟨p,_,rfl⟩:=h';simp only [cellsOf,Value.cells,au];exact ⟨_,_,rfl,h,rfl⟩
 case jy ks vs=>have h':=h;simp only [aj] at h';obtain ⟨b,es,cl,rfl,_⟩:=h';simp only [cellsOf,Value.cells,au];exact ⟨_,_,rfl,h,rfl⟩
 case it id=>have h':=h;simp only [aj] at h';obtain ⟨p,_,rfl⟩:=h';simp only [cellsOf,Value.cells,au];exact ⟨_,_,rfl,h,rfl⟩
 all_goals
  have h':=h;simp only [aj] at h';subst h';simp only [cellsOf,Value.cells,au];exact ⟨_,_,rfl,h,rfl⟩
def D2 (v:yf):au ai m S w (cellsOf (eR v)) v.cells.toList:=by
 have h:=MG (ai:=ai) (m:=m) (S:=S) (w:=w) v;cases v
 case agg xs=>
  obtain ⟨l⟩:=xs;simp only [eR,aj] at h ⊢;obtain ⟨xs,e,hr⟩:=h;injection e with e
  subst e;exact hr
 case tuple xs=>obtain ⟨l⟩:=xs;simp only [eR] at h ⊢;simp only [cellsOf,Value.cells,au];exact ⟨_,_,rfl,h,rfl⟩
 case pointer p=>cases p<;>(simp only [eR] at h ⊢;simp only [cellsOf,Value.cells,au];exact ⟨_,_,rfl,h,rfl⟩)
 case map p=>cases p<;>(simp only [eR] at h ⊢;simp only [cellsOf,Value.cells,au];exact ⟨_,_,rfl,h,rfl⟩)
 case slice p n c=>
  cases p
  ·cases n
   ·cases c<;>(simp only [eR] at h ⊢;simp only [cellsOf,Value.cells,au];exact ⟨_,_,rfl,h,rfl⟩)
   ·simp only [eR] at h ⊢;simp only [cellsOf,Value.cells,au];exact ⟨_,_,rfl,h,rfl⟩
  ·simp only [eR] at h ⊢;simp only [cellsOf,Value.cells,au];exact ⟨_,_,rfl,h,rfl⟩
 all_goals (simp only [eR] at h ⊢;simp only [cellsOf,Value.cells,au];exact ⟨_,_,rfl,h,rfl⟩)
def mf:∀{a b:List AV} {x y:List yf},au ai m S w a x->au ai m S w b y->au ai m S w (a++b) (x++y)
 | [],b,x,y,h,k=>by simp only [au] at h;subst h;simpa using k
 | c::a,b,x,y,h,k=>by
  simp only [au] at h;obtain ⟨u,r,rfl,h2,h3⟩:=h;simp only [y7,au];exact ⟨u,r++y,rfl,h2,mf h3 k⟩
def HJ:∀(k:Nat) {cs:List AV} {us:List yf},au ai m S w cs us->au ai m S w (cs.drop k) (us.drop k)
 | 0,cs,us,h=>by simpa using h
 | k+1,[],us,h=>by simp only [au] at h;subst h;simp [au]
 | k+1,c::cs,us,h=>by simp only [au] at h;obtain ⟨u,r,rfl,_,h3⟩:=h;simpa using HJ k h3
def Ed:∀(k:Nat) {cs:List AV} {us:List yf},au ai m S w cs us->au ai m S w (cs.take k) (us.take k)
 | 0,cs,us,h=>by simp [au]
 | k+1,[],us,h=>by simp only [au] at h;subst h;simp [au]
 | k+1,c::cs,us,h=>by
  simp only [au] at h;obtain ⟨u,r,rfl,h2,h3⟩:=h;simp only [wh,au];exact ⟨u,_,rfl,h2,Ed k h3⟩
def RF:∀{cs:List AV} {us:List yf} {i:Nat} {v:AV},au ai m S w cs us->cs[i]? =some v->∃u,us[i]? =some u/\aj ai m S w v u
 | [],us,i,v,_,h=>by simp at h
 | c::cs,us,0,v,h,e=>by
  simp only [au] at h;obtain ⟨u,r,rfl,h2,h3⟩:=h;simp at e;subst e;exact ⟨u,rfl,h2⟩
 | c::cs,us,i+1,v,h,e=>by
  simp only [au] at h;obtain ⟨u,r,rfl,h2,h3⟩:=h;simp at e;simpa using RF h3 e
end
def Zb (off:Nat):∀(new:List yf) (j:Nat) (cells:Array yf),off+j+new.length<=cells.size->
  ((new.zipIdx j).foldl (fun (cs:Array yf) (p:yf×Nat)=>cs.setIfInBounds (off+p.2) p.1) cells).toList=
   cells.toList.take (off+j)++new++cells.toList.drop (off+j+new.length)
 | [],j,cells,_=>by simp
 | v::r,j,cells,h=>by
  simp only [yr] at h;have ih:=Zb off r (j+1) (cells.setIfInBounds (off+j) v) (by simp;omega);simp only [List.zipIdx_cons,List.foldl_cons];rw [ih];have bi:off+j<cells.toList.length:=by simp;omega
  have h1:(cells.setIfInBounds (off+j) v).toList=cells.toList.set (off+j) v:=by simp
  rw [h1,show off+(j+1)=off+j+1 by omega];have h2:(cells.toList.set (off+j) v).take (off+j+1)=cells.toList.take (off+j)++[v]:=by
   rw [List.take_succ_eq_append_getElem (by simpa using bi)];simp [List.take_set_of_le]
  have h3:(cells.toList.set (off+j) v).drop (off+j+1+r.length)=cells.toList.drop (off+j+(r.length+1)):=by
   rw [List.drop_set_of_lt (by omega)];congr 1;omega
  rw [h2,h3]
  simp
section
variable {O:bA} {H:Hint} {m:Mp} {S:Nat->Prop} {w:yi} {tm:Env} {a:Act}
def MI (hH:fT O H) (ht:cw O m S w tm a.tmps) {place:Nat->Option (Nat×Nat)}:∀(parts:List (Nat×xA)) (ps:List (Nat×Nat×X)) (zero cs:List AV) (cells:Array yf),
  partsOf H place parts=some ps->au O.ai m S w zero cells.toList->fill tm zero ps=some cs->
  ∃out,Instr.fill place cells (parts.map fun p=>(p.1,a.eval p.2))=some out/\au O.ai m S w cs out.toList
 | [],ps,zero,cs,cells,hp,hz,hf=>by
  simp only [partsOf,yc] at hp;subst hp;simp only [fill,yc] at hf;subst hf;exact ⟨cells,rfl,hz⟩
 | (i,x)::r,ps,zero,cs,cells,hp,hz,hf=>by
  simp only [partsOf] at hp
  cases py:place i with
  | none=>simp [py] at hp
  | some q=>
   obtain ⟨o,s⟩:=q;simp only [py] at hp
   cases n5:partsOf H place r with
   | none=>simp [n5] at hp
   | some l=>
    simp only [n5,yc] at hp;subst hp;simp only [fill] at hf
    cases hc:(yu (cellsOf (aA tm (aT H x))).length s&&yG (o+s) zero.length&&bK (cellsOf (aA tm (aT H x)))) with
    | false=>rw [hc] at hf;cases hf
    | true=>
     rw [hc] at hf;simp only [ym] at hf;simp only [yg] at hc;have hs:=yp hc.1.1;have hle:=yy hc.1.2;have hrx:=Q3 (cI hH ht x) hc.2;have ni:=iY _ _ hrx;have rZ:=iY _ _ hz;have fa:(a.eval x).cells.size=s:=by rw [<-hs,<-ni];simp
     have jj:cells.size=zero.length:=by rw [<-rZ];simp
     have atr:=Zb o (a.eval x).cells.toList 0 cells (by simp;omega);have fQ:au O.ai m S w (over o (cellsOf (aA tm (aT H x))) zero)
       ((a.eval x).cells.zipIdx.foldl (fun (cs:Array yf) (p:yf×Nat)=>cs.setIfInBounds (o+p.2) p.1) cells).toList:=by
      rw [<-Array.foldl_toList,Array.toList_zipIdx,atr];simp only [over,Nat.add_zero];rw [show (a.eval x).cells.toList.length=(cellsOf (aA tm (aT H x))).length from ni];exact mf (mf (Ed o hz) hrx) (HJ _ hz)
     obtain ⟨out,h1,h2⟩:=MI hH ht r l _ cs _ n5 fQ hf;refine ⟨out,?_,h2⟩;simp only [yU,Instr.fill,py,fa];rw [yB (by simp;omega)];exact h1
end
end
section
open Go
def Zc (p q:ByteArray):(p==q)=cA (mo p) (mo q):=by
 have h:(p==q)=(p.data==q.data):=by cases p;cases q;rfl
 rw [h,Y8,ByteArray.toList_eq,ByteArray.toList_eq];rw [Bool.eq_iff_iff,tH,tH];constructor
 ·intro e;rw [e]
 ·intro e;have:=congrArg List.toArray e;simpa using this
def NT:wV->Bool
 | .bool | .int _ | .string=>true
 | _=>false
def fits (d:wV) (v:AV):Bool:=
 match d,v with
 | .int _,.int _ _ | .string,.str _ | .bool,.bool _=>true
 | _,_=>false
def Found (ai:Nat->Nat) (m:Mp) (S:Nat->Prop) (w:yi) (f:Option (Option (Nat×yf))):Option AV->Prop
 | none=>f=some none
 | some v=>∃j u,f=some (some (j,u))/\aj ai m S w v u
section
variable {O:bA} {ai:Nat->Nat} {m:Mp} {S:Nat->Prop} {w:yi}
def aab {vk vk':AV} {k k':yf} {r:Bool} {d:wV} (hk:aj ai m S w vk k) (pz:aj ai m S w vk' k') (h:EU vk vk'=some r)
  (hd:fits d vk=true):Instr.sameNow d k k'=some r:=by
 unfold EU at h
 split at h
 ·rename_i j x j' y;simp only [aj] at hk pz;subst hk;subst pz;by_cases hj:j=j'
  ·simp only [hj,y5,yc] at h;subst hj;cases d<;>simp [fits] at hd
   simpa [Instr.sameNow] using h
  ·simp [hj] at h
 ·simp only [aj] at hk pz;obtain ⟨s,rfl,rfl⟩:=hk;obtain ⟨s',rfl,rfl⟩:=pz;simp only [yc] at h;cases d<;>simp [fits] at hd
  simp only [Instr.sameNow,Zc];rw [<-h];rfl
 ·simp only [aj] at hk pz;subst hk;subst pz;simp only [yc] at h;cases d<;>simp [fits] at hd
  simp [Instr.sameNow,h]
 ·cases h
def RG {vk:AV} {k:yf} {d:wV} (hk:aj ai m S w vk k)
  (hd:fits d vk=true):∀(ks vs:List AV) (es:List uf) (i:Nat) (r:Option AV),
  au ai m S w ks (es.map (·.key))->au ai m S w vs (es.map (·.val))->CP vk ks vs=some r->Found ai m S w (Instr.findNow d k es i) r
 | [],vs,es,i,r,h1,h2,h=>by
  simp only [au,List.map_eq_nil_iff] at h1;subst h1;simp only [CP,yc] at h;subst h;rfl
 | c::ks,[],es,i,r,h1,h2,h=>by simp only [CP] at h;cases h
 | c::ks,v::vs,es,i,r,h1,h2,h=>by
  cases es with
  | nil=>simp [au] at h1
  | cons e es=>
   simp only [yU,au,List.cons.injEq] at h1 h2;obtain ⟨u,t,⟨rfl,rfl⟩,hc,Pj⟩:=h1;obtain ⟨u',t',⟨rfl,rfl⟩,hv,Aa⟩:=h2;simp only [CP] at h
   cases Ab:EU vk c with
   | none=>simp [Ab] at h
   | some b=>
    have hs:=aab (d:=d) hk hc Ab hd
    cases b with
    | true=>
     simp only [Ab,yc] at h;subst h;exact ⟨i,e.val,by simp [Instr.findNow,hs],hv⟩
    | false=>
     simp only [Ab] at h;have ih:=RG hk hd ks vs es (i+1) r Pj Aa h;simpa [Instr.findNow,hs] using ih
def Lv {P:y6} {kt:yx} {d:wV} (hu:P.underlying kt=some d) (hd:NT d=true) (b:Bool) (k:yf):(Instr.checkKey b 10000 kt k).run P w= .ok () w:=by
 have:∀n,(Instr.checkKey b (n+1) kt k).run P w= .ok () w:=by
  intro n;cases d<;>simp [NT] at hd<;>simp [Instr.checkKey,run_underlying hu]
 exact this 9999
def aqM {t kt e:yx} {d:wV} {ok:Bool} {hp:Hp} {ct:Nat} {vx vk v:AV} {x k zero:yf} (hh:bf O m S w hp ct) (hu:O.P.underlying t=some (.map kt e)) (hk:O.P.underlying kt=some d) (hd:NT d=true)
  (hdk:fits d vk=true)
  (hz:(zeroValue e).run O.P w= .ok zero w) (hx:aj O.ai m S w vx x) (hkr:aj O.ai m S w vk k) {z:AV} (Vw:aj O.ai m S w z zero)
  {r:Option AV}
  (hr:Bb hp vk vx=some r)
  (hv:(match r with | some u=>(bif ok then AV.ap [u,.bool true] else u) | none=>(bif ok then AV.ap [z,.bool false] else z))=v):
  ∃u,(Instr.lookup t x k ok).run O.P w= .ok u w/\aj O.ai m S w v u:=by
 have fin:∀(u:AV) (uu:yf) (b:Bool),aj O.ai m S w u uu->aj O.ai m S w (bif ok then AV.ap [u,.bool b] else u) (if ok then .tuple #[uu,.bool b] else uu):=by
  intro u uu b h
  cases ok with
  | true=>simp only [ym,y5,aj,au];exact ⟨_,rfl,_,_,rfl,h,_,_,rfl,rfl,rfl⟩
  | false=>simpa using h
 have body:∀(x':yf) (es:Array uf),((x'= .map none/\es=#[])\/∃b clock,x'= .map (some b)/\w.heap[b]? =some (.map es clock))->Found O.ai m S w (Instr.findNow d k es.toList 0) r->
   ∃u,(Instr.lookup t x' k ok).run O.P w= .ok u w/\aj O.ai m S w v u:=by
  intro x' es hl hf
  cases r with
  | none=>
   have n7:Instr.findNow d k es.toList 0=some none:=hf;refine ⟨if ok then .tuple #[zero,.bool false] else zero,?_,by rw [<-hv];exact fin z zero false Vw⟩
   rcases hl with ⟨rfl,rfl⟩ | ⟨b,clock,rfl,hb⟩
   ·have TC:Instr.findNow d k [] 0=some none:=rfl;simp [Instr.lookup,run_underlying hu,Lv hk hd,Instr.findKey,run_underlying hk,TC,hz]
   ·simp [Instr.lookup,run_underlying hu,getObj,Sem.run,hb,Lv hk hd,Instr.findKey,run_underlying hk,n7,hz]
  | some v'=>
   obtain ⟨j,u,h1,h2⟩:=hf;refine ⟨if ok then .tuple #[u,.bool true] else u,?_,by rw [<-hv];exact fin v' u true h2⟩
   rcases hl with ⟨rfl,rfl⟩ | ⟨b,clock,rfl,hb⟩
   ·have TC:Instr.findNow d k [] 0=some none:=rfl;rw [show (#[]:Array uf).toList=[] from rfl,TC] at h1;cases h1
   ·simp [Instr.lookup,run_underlying hu,getObj,Sem.run,hb,Lv hk hd,Instr.findKey,run_underlying hk,h1]
 cases vx<;>simp only [Bb,reduceCtorEq] at hr
 case jP=>
  simp only [yc] at hr;subst hr;simp only [aj] at hx;subst hx;exact body _ #[] (.inl ⟨rfl,rfl⟩) rfl
 case map id=>
  simp only [aj] at hx;obtain ⟨p,hm,rfl⟩:=hx
  split at hr
  case h_2=>cases hr
  rename_i Vv ks vs CR;obtain ⟨p',es,clock,gK,hb,h1,h2,_⟩:=hh.obj id _ _ CR hm;rw [hm] at gK;injection gK with gK;subst gK
  exact body _ es (.inr ⟨_,_,rfl,hb⟩) (RG hkr hdk ks vs es.toList 0 r h1 h2 hr)
 case jy ks vs=>
  simp only [aj] at hx;obtain ⟨b,es,clock,rfl,_,_,_,hb,h1,h2⟩:=hx;exact body _ es (.inr ⟨_,_,rfl,hb⟩) (RG hkr hdk ks vs es.toList 0 r h1 h2 hr)
end
end
section
open Go
def Hr:∀(k1 k2:List Nat) (a b:List AV) (r:Bool),dJ (k1++k2) a b=some r->
  ∃r1 r2,dJ k1 (a.take k1.length) (b.take k1.length)=some r1/\dJ k2 (a.drop k1.length) (b.drop k1.length)=some r2/\r=(r1&&r2)
 | [],k2,a,b,r,h=>⟨true,r,by simp [dJ],by simpa using h,by simp⟩
 | k::k1,k2,[],b,r,h=>by
  simp only [y7] at h;unfold dJ at h
  grind
 | k::k1,k2,x::a,[],r,h=>by
  unfold dJ at h
  grind
 | k::k1,k2,x::a,y::b,r,h=>by
  have step:∀(q:Bool) (f:Bool->Bool),(match dJ (k1++k2) a b with | some r=>some (f r) | none=>none)=some q->∃r0,dJ (k1++k2) a b=some r0/\q=f r0:=by grind
  unfold dJ at h
  split at h
  ·grind
  ·rename_i e1 e2 e3;obtain ⟨rfl,rfl⟩:=e1;obtain ⟨rfl,rfl⟩:=e2;obtain ⟨rfl,rfl⟩:=e3;obtain ⟨r0,h0,rfl⟩:=step r _ h;obtain ⟨r1,r2,h1,h2,rfl⟩:=Hr k1 k2 _ _ r0 h0;exact ⟨_,r2,by simp only [yr,wh,dJ,h1],by simpa using h2,(uL _ _ _).symm⟩
  ·rename_i e1 e2 e3;obtain ⟨rfl,rfl⟩:=e1;obtain ⟨rfl,rfl⟩:=e2;obtain ⟨rfl,rfl⟩:=e3
   split at h
   ·rename_i hk;obtain ⟨r0,h0,rfl⟩:=step r _ h;obtain ⟨r1,r2,h1,h2,rfl⟩:=Hr k1 k2 _ _ r0 h0;exact ⟨_,r2,by simp only [yr,wh,dJ,h1,hk,y5],by simpa using h2,(uL _ _ _).symm⟩
   ·cases h
  ·rename_i e1 e2 e3;obtain ⟨rfl,rfl⟩:=e1;obtain ⟨rfl,rfl⟩:=e2;obtain ⟨rfl,rfl⟩:=e3;obtain ⟨r0,h0,rfl⟩:=step r _ h;obtain ⟨r1,r2,h1,h2,rfl⟩:=Hr k1 k2 _ _ r0 h0;exact ⟨_,r2,by simp only [yr,wh,dJ,h1],by simpa using h2,(uL _ _ _).symm⟩
  ·cases h
def X2:∀(ks:List Nat) (a b:List AV) (r:Bool),dJ ks a b=some r->a.length=ks.length/\b.length=ks.length
 | [],a,b,r,h=>by
  unfold dJ at h
  grind
 | k::ks,[],b,r,h=>by
  unfold dJ at h
  grind
 | k::ks,x::a,[],r,h=>by
  unfold dJ at h
  grind
 | k::ks,x::a,y::b,r,h=>by
  have:∃r0,dJ ks a b=some r0:=by
   cases he:dJ ks a b with
   | some r0=>exact ⟨r0,rfl⟩
   | none=>unfold dJ at h;split at h<;>simp_all
  obtain ⟨r0,h0⟩:=this
  have:=X2 ks a b r0 h0
  simp [this]
def FH (P:y6) (t:yx) (x:yf) (xs:List yf):Prop:=(dZ P t=some true/\x= .agg xs.toArray)\/(dZ P t=some false/\xs=[x])
section
variable {P:y6} {ai:Nat->Nat} {m:Mp} {S:Nat->Prop} {w:yi}
def QM {t:yx} {ag:Bool} (ha:dZ P t=some ag):(isAgg t).run P w= .ok ag w:=by
 unfold dZ at ha
 cases hu:P.underlying t with
 | none=>simp [hu] at ha
 | some d=>cases d<;>simp_all [isAgg,underlying]
def amb {t:yx} {s o:Nat} {xs:List yf} (hz:cT P t=some s) (ha:∃ag,dZ P t=some ag) (h1:dZ P t=some false->s=1) (hl:o+s<=xs.length):
  ∃u,(part t xs.toArray o).run P w= .ok u w/\FH P t u ((xs.drop o).take s):=by
 obtain ⟨ag,ha⟩:=ha
 cases ag with
 | true=>
  refine ⟨.agg ((xs.drop o).take s).toArray,?_,.inl ⟨ha,rfl⟩⟩;simp [part,QM ha,nA hz,List.extract_eq_take_drop]
 | false=>
  have hs:=h1 ha;subst hs;have bi:o<xs.length:=by omega
  refine ⟨xs[o],?_,.inr ⟨ha,?_⟩⟩
  ·simp [part,QM ha,xz bi]
  ·rw [List.drop_eq_getElem_cons bi,wh,List.take_zero]
def akd {n:Nat} {t:yx} {ks:List Nat} (h:kinds P n t=some ks):∃ag,dZ P t=some ag/\(ag=false->ks.length=1):=by
 cases n with
 | zero=>simp [kinds] at h
 | succ n=>
  unfold kinds at h;unfold dZ
  split at h<;>simp_all
  all_goals (rw [<-h];rfl)
def S7 (P:y6) (ai:Nat->Nat) (m:Mp) (S:Nat->Prop) (w:yi) (n:Nat):Prop:=
 ∀(t:yx) (ks:List Nat),kinds P n t=some ks->P.stoodInHeld t=false->∀(d:Nat),n<=d->∀(xs ys:List yf) (cs dN:List AV) (r:Bool) (x y:yf),
  au ai m S w cs xs->au ai m S w dN ys->dJ ks cs dN=some r->FH P t x xs->FH P t y ys->(Op.equalIn d t x y).run P w= .ok r w
def Zd {n:Nat} (ih:S7 P ai m S w n) {t:yx} {ks:List Nat} {s o d:Nat} (hk:kinds P n t=some ks) (aX:P.stoodInHeld t=false) (hz:cT P t=some s) (hs:ks.length=s) (hd:n<=d)
  {xs ys:List yf} {cs dN:List AV} (h1:au ai m S w cs xs) (h2:au ai m S w dN ys) {r:Bool} (he:dJ ks ((cs.drop o).take s) ((dN.drop o).take s)=some r):
  ∃u u',(part t xs.toArray o).run P w= .ok u w/\(part t ys.toArray o).run P w= .ok u' w/\(Op.equalIn d t u u').run P w= .ok r w:=by
 obtain ⟨ag,ha,h1s⟩:=akd hk;obtain ⟨l1,l2⟩:=X2 _ _ _ _ he;have q1:=iY _ _ h1;have q2:=iY _ _ h2;simp only [List.length_take,List.length_drop] at l1 l2;have nj:dZ P t=some false->s=1:=fun h=>by
  grind
 have ni:o+s<=xs.length\/s=0:=by omega
 have rZ:o+s<=ys.length\/s=0:=by omega
 have get:∀(zs:List yf),(o+s<=zs.length\/s=0)->∃u,(part t zs.toArray o).run P w= .ok u w/\FH P t u ((zs.drop o).take s):=by
  intro zs hl;rcases hl with hl | hl
  ·exact amb hz ⟨ag,ha⟩ nj hl
  ·subst hl
   cases ag with
   | false=>have:=nj ha;omega
   | true=>
    refine ⟨.agg ((zs.drop o).take 0).toArray,?_,.inl ⟨ha,rfl⟩⟩;simp [part,QM ha,nA hz]
 obtain ⟨u,p1,v1⟩:=get xs ni;obtain ⟨u',p2,v2⟩:=get ys rZ;exact ⟨u,u',p1,p2,ih t ks hk aX d hd _ _ _ _ r u u' (Ed s (HJ o h1)) (Ed s (HJ o h2)) he v1 v2⟩
def X3 {n:Nat} (ih:S7 P ai m S w n) {d:Nat} (hd:n<=d) {xs ys:List yf} {cs dN:List AV} (h1:au ai m S w cs xs) (h2:au ai m S w dN ys):
  ∀(fs:List uk) (o:Nat) (ks:List Nat) (r:Bool),D8 P (fun u=>kinds P n u) fs o=some ks->dJ ks (cs.drop o) (dN.drop o)=some r->(Op.eqFields d xs.toArray ys.toArray fs).run P w= .ok r w
 | [],o,ks,r,h,he=>by
  simp only [D8,yc] at h;unfold dJ at he
  split at he<;>simp_all [Op.eqFields]
 | f::fs,o,ks,r,h,he=>by
  simp only [D8] at h
  cases hk:kinds P n f.type with
  | none=>simp [hk] at h
  | some kf=>
   cases hz:cT P f.type with
   | none=>simp [hk,hz] at h
   | some s=>
    simp only [hk,hz] at h
    cases hc:(f.name != "_"&&yu f.offset o&&yu kf.length s&& !P.stoodInHeld f.type) with
    | false=>rw [hc] at h;cases h
    | true=>
     rw [hc] at h;simp only [ym] at h;simp only [yg,bne_iff_ne,uM] at hc;obtain ⟨⟨⟨hn,ho⟩,hl⟩,aX⟩:=hc;have ho:=yp ho;have hl:=yp hl
     cases hr:D8 P (fun u=>kinds P n u) fs (o+s) with
     | none=>simp [hr] at h
     | some kr=>
      simp only [hr,yc] at h;subst h;obtain ⟨r1,r2,e1,e2,rfl⟩:=Hr _ _ _ _ _ he;rw [hl] at e1 e2;rw [wX,wX] at e2;obtain ⟨u,u',p1,p2,p3⟩:=Zd ih (o:=o) hk aX hz hl hd h1 h2 e1;have rest:=X3 ih hd h1 h2 fs (o+s) kr r2 hr e2;subst ho;simp only [Op.eqFields]
      cases r1 with
      | true=>simp [hn,p1,p2,p3,rest]
      | false=>simp [hn,p1,p2,p3]
def Ys {n:Nat} (ih:S7 P ai m S w n) {d:Nat} (hd:n<=d) {xs ys:List yf} {cs dN:List AV} (h1:au ai m S w cs xs) (h2:au ai m S w dN ys)
  {e:yx} {ks:List Nat} {s:Nat} (hk:kinds P n e=some ks) (aX:P.stoodInHeld e=false) (hz:cT P e=some s) (hl:ks.length=s):
  ∀(k j:Nat) (r:Bool),dJ (List.replicate k ks).flatten (cs.drop (j*s)) (dN.drop (j*s))=some r->(Op.eqItems d e s xs.toArray ys.toArray (List.range' j k)).run P w= .ok r w
 | 0,j,r,he=>by
  unfold dJ at he
  split at he<;>simp_all [Op.eqItems]
 | k+1,j,r,he=>by
  obtain ⟨r1,r2,e1,e2,rfl⟩:=Hr _ _ _ _ _ he;rw [hl] at e1 e2;rw [wX,wX,show j*s+s=(j+1)*s by rw [wj,Nat.one_mul]] at e2;obtain ⟨u,u',p1,p2,p3⟩:=Zd ih (o:=j*s) hk aX hz hl hd h1 h2 e1;have rest:=Ys ih hd h1 h2 hk aX hz hl k (j+1) r2 e2;rw [List.range'_succ];simp only [Op.eqItems]
  cases r1 with
  | true=>simp [p1,p2,p3,rest]
  | false=>simp [p1,p2,p3]
def SC:∀(n:Nat) (t:yx) (ks:List Nat),kinds P n t=some ks->P.stoodInHeld t=false->∀(d:Nat),n<=d->∀(xs ys:List yf) (cs dN:List AV) (r:Bool) (x y:yf),
  au ai m S w cs xs->au ai m S w dN ys->dJ ks cs dN=some r->FH P t x xs->FH P t y ys->(Op.equalIn d t x y).run P w= .ok r w
 | 0,t,ks,h,_,_,_,_,_,_,_,_,_,_,_,_,_,_,_=>by simp [kinds] at h
 | n+1,t,ks,h,aX,0,hd,_,_,_,_,_,_,_,_,_,_,_,_=>by omega
 | n+1,t,ks,h,aX,d+1,hd,xs,ys,cs,dN,r,x,y,h1,h2,he,hx,hy=>by
  unfold kinds at h;have one:∀{k:Nat},ks=[k]->dZ P t=some false->∃c c',cs=[c]/\dN=[c']/\aj ai m S w c x/\aj ai m S w c' y:=by
   intro k hk ha;rcases hx with ⟨hx,_⟩ | ⟨_,rfl⟩
   ·grind
   rcases hy with ⟨hy,_⟩ | ⟨_,rfl⟩
   ·grind
   have l1:=iY _ _ h1;have l2:=iY _ _ h2
   match cs,dN,l1,l2 with
   | [c],[c'],_,_=>
    simp only [au] at h1 h2
    grind
  split at h
  ·rename_i hu;simp only [yc] at h;have ha:dZ P t=some false:=by simp [dZ,hu]
   obtain ⟨c,c',rfl,rfl,r1,r2⟩:=one h.symm ha;subst h;unfold dJ at he
   split at he<;>simp_all [dJ]
   subst he;simp only [aj] at r1 r2;subst r1;subst r2;simp [Op.equalIn,run_underlying hu]
  ·rename_i k0 hu;simp only [yc] at h;have ha:dZ P t=some false:=by simp [dZ,hu]
   obtain ⟨c,c',rfl,rfl,r1,r2⟩:=one h.symm ha;subst h;unfold dJ at he
   split at he<;>simp_all [dJ]
   obtain ⟨hk,he⟩:=he;subst he;simp only [aj] at r1 r2;subst r1;subst r2;simp [Op.equalIn,run_underlying hu]
  ·rename_i hu;simp only [yc] at h;have ha:dZ P t=some false:=by simp [dZ,hu]
   obtain ⟨c,c',rfl,rfl,r1,r2⟩:=one h.symm ha;subst h;unfold dJ at he
   split at he<;>simp_all [dJ]
   subst he;simp only [aj] at r1 r2;obtain ⟨s,rfl,rfl⟩:=r1;obtain ⟨s',rfl,rfl⟩:=r2;simp only [Op.equalIn,Sem.run_bind,run_underlying hu,Result.andThen_ok,Sem.run_pure,Zc];rfl
  ·rename_i fs hu;have ha:dZ P t=some true:=by simp [dZ,hu]
   rcases hx with ⟨_,rfl⟩ | ⟨hx,_⟩
   ·rcases hy with ⟨_,rfl⟩ | ⟨hy,_⟩
    ·have hf:P.fieldsOf t=fs:=by simp [Program.fieldsOf,hu]
     rw [run_equalIn_struct w d t _ _ (by rw [hf];exact hu) aX,hf]
     exact X3 (SC n) (by omega) h1 h2 fs.toList 0 ks r h (by simpa using he)
    ·rw [ha] at hy;cases hy
   ·rw [ha] at hx;cases hx
  ·rename_i k e hu;have ha:dZ P t=some true:=by simp [dZ,hu]
   rcases hx with ⟨_,rfl⟩ | ⟨hx,_⟩
   ·rcases hy with ⟨_,rfl⟩ | ⟨hy,_⟩
    ·cases hk:kinds P n e with
     | none=>simp [hk] at h
     | some ke=>
      cases hz:cT P e with
      | none=>simp [hk,hz] at h
      | some s=>
       simp only [hk,hz] at h
       cases hc:(yu ke.length s&& !P.stoodInHeld e) with
       | false=>rw [hc] at h;cases h
       | true=>
        rw [hc] at h;simp only [ym,yc] at h;subst h;simp only [yg,uM] at hc;have fQ:=hz;unfold cT at fQ
        cases hi:P.info? e with
        | none=>simp [hi] at fQ
        | some i=>
         simp only [hi,yc] at fQ;have jj:P.cellsOf e=s:=by simp [Program.cellsOf,hi,fQ]
         rw [run_equalIn_array w d _ _ hu hi,jj,List.range_eq_range'];exact Ys (SC n) (by omega) h1 h2 hk hc.2 hz (yp hc.1) k 0 r (by simpa using he)
    ·rw [ha] at hy;cases hy
   ·rw [ha] at hx;cases hx
  ·cases h
end
end
section
open Go
def dP {tm:Env} {hp:Hp} {v:AV} (h:bE tm hp bad=some v):False:=by simp [bad,bE] at h
section
variable {O:bA} {H:Hint} {m:Mp} {S:Nat->Prop} {w:yi} {tm:Env} {a:Act} {hp:Hp} {ct:Nat}
def aoD {ai:Nat->Nat} {va vb v:AV} {x y:yf} (hx:aj ai m S w va x) (hy:aj ai m S w vb y) (h:VE.min2 va vb=some v):∃u,(Builtin.min2 x y).run O.P w= .ok u w/\aj ai m S w v u:=by
 unfold VE.min2 at h
 split at h
 ·simp only [aj] at hx hy;subst hx;subst hy;simp only [yc] at h;subst h;exact ⟨_,by simp only [Builtin.min2,Sem.run_pure];rfl,by simp only [aj]⟩
 ·rename_i k p k' q;simp only [aj] at hx hy;subst hx;subst hy
  cases ho:k.format.order p q with
  | none=>simp [ho] at h
  | some c=>cases c<;>(simp only [ho,yc] at h;subst h;exact ⟨_,by simp only [Builtin.min2,ho,Sem.run_pure];rfl,by simp only [aj]⟩)
 ·cases h
def aoE {ai:Nat->Nat} {va vb v:AV} {x y:yf} (hx:aj ai m S w va x) (hy:aj ai m S w vb y) (h:VE.max2 va vb=some v):∃u,(Builtin.max2 x y).run O.P w= .ok u w/\aj ai m S w v u:=by
 unfold VE.max2 at h
 split at h
 ·simp only [aj] at hx hy;subst hx;subst hy;simp only [yc] at h;subst h;exact ⟨_,by simp only [Builtin.max2,Sem.run_pure];rfl,by simp only [aj]⟩
 ·rename_i k p k' q;simp only [aj] at hx hy;subst hx;subst hy
  cases ho:k.format.order p q with
  | none=>simp [ho] at h
  | some c=>cases c<;>(simp only [ho,yc] at h;subst h;exact ⟨_,by simp only [Builtin.max2,ho,Sem.run_pure];rfl,by simp only [aj]⟩)
 ·cases h
def R5 {ai:Nat->Nat} {f:AV->AV->Option AV} {g:yf->yf->Sem yf} (hfg:∀va vb v x y,aj ai m S w va x->aj ai m S w vb y->f va vb=some v->∃u,(g x y).run O.P w= .ok u w/\aj ai m S w v u):
  ∀(l:List AV) (us:List yf) (va v:AV) (x:yf),aj ai m S w va x->au ai m S w l us->Ba f va l=some v->∃u,(us.foldlM g x).run O.P w= .ok u w/\aj ai m S w v u
 | [],us,va,v,x,hx,hl,h=>by
  simp only [au] at hl;subst hl;simp only [Ba,yc] at h;subst h;exact ⟨x,by simp,hx⟩
 | b::l,us,va,v,x,hx,hl,h=>by
  simp only [au] at hl;obtain ⟨u,r,rfl,hu,hr⟩:=hl;simp only [Ba] at h
  cases hf:f va b with
  | none=>simp [hf] at h
  | some c=>
   simp only [hf] at h;obtain ⟨u1,h1,h2⟩:=hfg _ _ _ _ _ hx hu hf;obtain ⟨u2,h3,h4⟩:=R5 hfg l r c v u1 h2 hr h;exact ⟨u2,by simp [h1,h3],h4⟩
def SD {t:yx} {vx v:AV} {x:yf} {ty:yx} (hh:bf O m S w hp ct) (hx:aj O.ai m S w vx x)
  {k:Nat} (hu:(k=0/\O.P.underlying t=some .string)\/(k=1/\∃e,O.P.underlying t=some (.slice e))\/(k=2/\∃kt e,O.P.underlying t=some (.map kt e)))
  (h:iI hp k vx=some v):∃u,(Builtin.len_ #[t] ty #[x]).run O.P w= .ok u w/\aj O.ai m S w v u:=by
 rcases hu with ⟨rfl,hu⟩ | ⟨rfl,e,hu⟩ | ⟨rfl,kt,e,hu⟩
 all_goals cases vx<;>simp only [iI,reduceCtorEq] at h
 case inl.str s=>
  simp only [aj] at hx;obtain ⟨b,rfl,rfl⟩:=hx;simp only [yc] at h;subst h;refine ⟨_,by simp [Builtin.len_,run_underlying hu];rfl,?_⟩
  simp only [aj,goInt];rw [Lib.size_eq];simp
 case inr.inl.ab=>
  simp only [aj] at hx;subst hx;simp only [yc] at h;subst h;exact ⟨_,by simp [Builtin.len_,run_underlying hu];rfl,by simp [aj,goInt]⟩
 case inr.inl.aE ex n cs=>
  simp only [aj] at hx;rcases hx with ⟨b,o,c,rfl,_⟩ | ⟨a,rfl,rfl,rfl⟩
  all_goals
   simp only [yc] at h;subst h;exact ⟨_,by simp [Builtin.len_,run_underlying hu];rfl,by simp [aj,goInt]⟩
 case inr.inl.an id o n=>
  simp only [aj] at hx;obtain ⟨p,c,_,rfl,_⟩:=hx;simp only [yc] at h;subst h;exact ⟨_,by simp [Builtin.len_,run_underlying hu];rfl,by simp [aj,goInt]⟩
 case inr.inr.jP=>
  simp only [aj] at hx;subst hx;simp only [yc] at h;subst h;exact ⟨_,by simp [Builtin.len_,run_underlying hu];rfl,by simp [aj,goInt]⟩
 case inr.inr.jy ks vs=>
  simp only [aj] at hx;obtain ⟨b,es,clock,rfl,_,_,_,hb,h1,_⟩:=hx;simp only [yc] at h;subst h;refine ⟨_,by simp [Builtin.len_,run_underlying hu,getObj,Sem.run,hb];rfl,?_⟩
  have:=iY _ _ h1
  simp only [aj,goInt];rw [<-this];simp
 case inr.inr.map id=>
  simp only [aj] at hx;obtain ⟨p,hm,rfl⟩:=hx
  split at h
  case h_2=>cases h
  rename_i Vv ks vs CR;simp only [yc] at h;subst h;obtain ⟨p',es,clock,gK,hb,h1,_⟩:=hh.obj id _ _ CR hm;rw [hm] at gK;injection gK with gK;subst gK
  refine ⟨_,by simp [Builtin.len_,run_underlying hu,getObj,Sem.run,hb];rfl,?_⟩
  have:=iY _ _ h1
  simp only [aj,goInt];rw [<-this];simp
end
end
section
open Go
section
variable {O:bA} {H:Hint} {m:Mp} {S:Nat->Prop} {w:yi} {tm:Env} {a:Act} {hp:Hp} {ct:Nat}
def Em {t:yx} {z:AV} (h:mY O.P t=some z):∃v,(zeroValue t).run O.P w= .ok v w/\z=eR v:=by
 unfold mY at h
 cases hi:O.P.info? t with
 | none=>simp [hi] at h
 | some i=>
  simp only [hi] at h
  cases hz:i.zero with
  | none=>simp [hz] at h
  | some v=>
   simp only [hz,yc] at h;exact ⟨v,by simp [zeroValue,typeInfo,hi,hz],h.symm⟩
def Reads (O:bA) (m:Mp) (S:Nat->Prop) (w:yi) (a:Act) (o:yZ) (v:AV):Prop:=
 ∃u,(execOp a.eval o).run O.P w= .ok (.value u) w/\aj O.ai m S w v u
def jZ {o:yZ} {v:AV} {s:Sem yf} (he:execOp a.eval o=(do pure (.value (<-s)):Sem Next)) (h:∃u,s.run O.P w= .ok u w/\aj O.ai m S w v u):Reads O m S w a o v:=by
 obtain ⟨u,h1,h2⟩:=h;exact ⟨u,by rw [he];simp [h1],h2⟩
def amc {o:yZ} {op:BinOp} {t ty:yx} {x y:xA} {k:Nat} {v:AV} (hH:fT O H) (ht:cw O m S w tm a.tmps) (ho:o.op= .binOp op t x y ty)
  (hv:bE tm hp (bt O.P H k o)=some v):Reads O m S w a o v:=by
 have rx:=cI hH ht x;have ry:=cI hH ht y;have guard:∀{u:yf},(∀xs ys,¬(a.eval x= .agg xs/\a.eval y= .agg ys))\/O.P.eqGuardType O.P.depth t=false->a.eval x≠.nilIface->(xJ op t (a.eval x) (a.eval y)).run O.P w= .ok u w->
   (do eqGuard op t x y (a.eval x) (a.eval y);xJ op t (a.eval x) (a.eval y):Sem yf).run O.P w= .ok u w:=by
  intro u h1 h2 h3
  simp only [Sem.run_bind,aje (P:=O.P) (w:=w) (t:=t) (op:=op) (x:=x) (y:=y) (h1.symm) h2,Result.andThen_ok,h3]
 have plain:bE tm hp (.bin op (aT H x) (aT H y))=some v->Reads O m S w a o v:=by
  intro hv;simp only [bE] at hv;obtain ⟨u,h1,h2⟩:=al8 (P:=O.P) (t:=t) rx ry hv
  refine jZ (s:=do eqGuard op t x y (a.eval x) (a.eval y);xJ op t (a.eval x) (a.eval y)) (by simp only [execOp,ho]) ⟨u,guard (.inl ?_) ?_ h1,h2⟩
  ·rintro xs ys ⟨e1,e2⟩;rw [e1] at rx;unfold VE.binOp at hv
   split at hv
   ·rename_i h3 _;rw [h3] at rx;simp [aj] at rx
   ·rename_i h3 _;rw [h3] at rx;simp [aj] at rx
   ·rename_i h3 _;rw [h3] at rx;simp [aj] at rx
   ·cases hv
  ·intro e1;rw [e1] at rx;unfold VE.binOp at hv
   split at hv
   ·rename_i h3 _;rw [h3] at rx;simp [aj] at rx
   ·rename_i h3 _;rw [h3] at rx;simp [aj] at rx
   ·rename_i h3 _;rw [h3] at rx;simp [aj] at rx
   ·cases hv
 have other:∀(ne:Bool) (kd:VE.Pf),(op= .eql/\ne=false\/op= .neq/\ne=true)->(∀r,gH kd (aA tm (aT H x)) (aA tm (aT H y))=some r->(Op.equal t (a.eval x) (a.eval y)).run O.P w= .ok r w/\
    ((∀xs ys,¬(a.eval x= .agg xs/\a.eval y= .agg ys))\/O.P.eqGuardType O.P.depth t=false)/\a.eval x≠.nilIface/\
    ∀q:Bool,(op= .eql->xJ op t (a.eval x) (a.eval y)=(do pure (.bool (<-Op.equal t (a.eval x) (a.eval y)))))/\(op= .neq->xJ op t (a.eval x) (a.eval y)=(do pure (.bool (!(<-Op.equal t (a.eval x) (a.eval y)))))))->
   bE tm hp (.eq ne kd (aT H x) (aT H y))=some v->Reads O m S w a o v:=by
  intro ne kd jU mE hv;simp only [bE] at hv
  cases he:gH kd (aA tm (aT H x)) (aA tm (aT H y)) with
  | none=>simp [he] at hv
  | some r=>
   simp only [he,yc] at hv;subst hv;obtain ⟨h1,h2,h3,h4⟩:=mE r he;obtain ⟨h5,h6⟩:=h4 true
   refine jZ (s:=do eqGuard op t x y (a.eval x) (a.eval y);xJ op t (a.eval x) (a.eval y)) (by simp only [execOp,ho]) ⟨.bool (ne !=r),guard h2 h3 ?_,by simp [aj]⟩
   rcases jU with ⟨rfl,rfl⟩ | ⟨rfl,rfl⟩
   ·rw [h5 rfl];simp [h1]
   ·rw [h6 rfl];simp [h1]
 have pB:O.P.underlying t=some .bool->∀r,gH .b (aA tm (aT H x)) (aA tm (aT H y))=some r->∃p q,a.eval x= .bool p/\a.eval y= .bool q/\(Op.equal t (a.eval x) (a.eval y)).run O.P w= .ok r w:=by
  intro hu r he;cases hx:aA tm (aT H x)<;>cases hy:aA tm (aT H y)<;>rw [hx,hy] at he<;>simp only [gH,reduceCtorEq] at he
  rw [hx] at rx;rw [hy] at ry;simp only [aj] at rx ry;simp only [yc] at he;refine ⟨_,_,rx,ry,?_⟩;rw [rx,ry,Mh,<-he];exact aqF hu
 have pS:∀e,O.P.underlying t=some (.slice e)->∀r,gH .sl (aA tm (aT H x)) (aA tm (aT H y))=some r->∃p n c q n' c',a.eval x= .slice p n c/\a.eval y= .slice q n' c'/\(Op.equal t (a.eval x) (a.eval y)).run O.P w= .ok r w:=by
  intro e hu r he;have h1:=aoA hu rx ry he;have sl:∀{v:AV} {u:yf},aj O.ai m S w v u->(v= .ab\/(∃a b c,v= .aE a b c)\/∃a b c,v= .an a b c)->∃p n c,u= .slice p n c:=by
   intro v u hr hv;rcases hv with rfl | ⟨_,_,_,rfl⟩ | ⟨_,_,_,rfl⟩
   ·simp only [aj] at hr;exact ⟨_,_,_,hr⟩
   ·simp only [aj] at hr;rcases hr with ⟨b,o,c,hr,_⟩ | ⟨_,hr,_⟩<;>exact ⟨_,_,_,hr⟩
   ·simp only [aj] at hr;obtain ⟨b,c,_,hr,_⟩:=hr;exact ⟨_,_,_,hr⟩
  have cX:(aA tm (aT H x)= .ab\/(∃a b c,aA tm (aT H x)= .aE a b c)\/∃a b c,aA tm (aT H x)= .an a b c)/\
    (aA tm (aT H y)= .ab\/(∃a b c,aA tm (aT H y)= .aE a b c)\/∃a b c,aA tm (aT H y)= .an a b c):=by
   cases hx:aA tm (aT H x)<;>cases hy:aA tm (aT H y)<;>rw [hx,hy] at he<;>simp [gH] at he ⊢
  obtain ⟨p,n,c,e1⟩:=sl rx cX.1;obtain ⟨q,n',c',e2⟩:=sl ry cX.2;exact ⟨p,n,c,q,n',c',e1,e2,h1⟩
 have pF:∀ps rs vr,O.P.underlying t=some (.func ps rs vr)->∀r,gH .fn (aA tm (aT H x)) (aA tm (aT H y))=some r->
   ((a.eval x= .nilFunc\/∃f p q,a.eval x= .func f p q)/\(a.eval y= .nilFunc\/∃f p q,a.eval y= .func f p q))/\(Op.equal t (a.eval x) (a.eval y)).run O.P w= .ok r w:=by
  intro ps rs vr hu r he;have h1:=aoB hu rx ry he;have sl:∀{v:AV} {u:yf},aj O.ai m S w v u->(v= .iA\/(∃a b c,v= .fn a b c))->(u= .nilFunc\/∃f p q,u= .func f p q):=by
   intro v u hr hv;rcases hv with rfl | ⟨f,_,_,rfl⟩
   ·simp only [aj] at hr;exact .inl hr
   ·cases f with
    | f g=>simp only [aj] at hr;obtain ⟨b,c,hr,_⟩:=hr;exact .inr ⟨_,_,_,hr⟩
    | y l=>simp only [aj] at hr;obtain ⟨b,_,hr⟩:=hr;exact .inr ⟨_,_,_,hr⟩
  have cX:(aA tm (aT H x)= .iA\/(∃a b c,aA tm (aT H x)= .fn a b c))/\(aA tm (aT H y)= .iA\/(∃a b c,aA tm (aT H y)= .fn a b c)):=by
   cases hx:aA tm (aT H x)<;>cases hy:aA tm (aT H y)<;>rw [hx,hy] at he<;>simp [gH] at he ⊢
  exact ⟨⟨sl rx cX.1,sl ry cX.2⟩,h1⟩
 have pA:∀ks,kinds O.P 20 t=some ks->dZ O.P t=some true->O.P.stoodInHeld t=false->∀r,gH (.ag ks) (aA tm (aT H x)) (aA tm (aT H y))=some r->∃p q,a.eval x= .agg p/\a.eval y= .agg q/\(Op.equal t (a.eval x) (a.eval y)).run O.P w= .ok r w:=by
  intro ks hk ha aX r he;cases hx:aA tm (aT H x)<;>cases hy:aA tm (aT H y)<;>rw [hx,hy] at he<;>simp only [gH,reduceCtorEq] at he
  rw [hx] at rx;rw [hy] at ry;simp only [aj] at rx ry;obtain ⟨p,e1,h1⟩:=rx;obtain ⟨q,e2,h2⟩:=ry;refine ⟨p,q,e1,e2,?_⟩;rw [e1,e2,Mh];exact SC 20 t ks hk aX 10000 (by omega) _ _ _ _ r _ _ h1 h2 he (.inl ⟨ha,by simp⟩) (.inl ⟨ha,by simp⟩)
 have eqs:∀(ne:Bool),(op= .eql/\ne=false\/op= .neq/\ne=true)->bE tm hp (rn O.P H ne op t x y)=some v->Reads O m S w a o v:=by
  intro ne jU hv;have agg:dZ O.P t=some true->bE tm hp (sT O.P H ne t x y)=some v->Reads O m S w a o v:=by
   intro ha hv;unfold sT at hv
   cases hk:kinds O.P 20 t with
   | none=>rw [hk] at hv;exact (dP hv).elim
   | some ks=>
    simp only [hk] at hv
    cases hc:(O.P.stoodInHeld t||O.P.eqGuardType O.P.depth t) with
    | true=>rw [hc] at hv;exact (dP hv).elim
    | false=>
     rw [hc] at hv;simp only [yA] at hv;simp only [Bool.or_eq_false_iff] at hc;refine other ne (.ag ks) jU (fun r hr=>?_) hv;obtain ⟨p,q,e1,e2,h1⟩:=pA ks hk ha hc.1 r hr;refine ⟨h1,.inr hc.2,by rw [e1];simp,fun _=>?_⟩
     rw [e1,e2];exact ⟨fun e=>by subst e;rfl,fun e=>by subst e;rfl⟩
  unfold rn at hv
  split at hv
  ·exact plain hv
  ·exact plain hv
  ·exact plain hv
  ·rename_i hu;refine other ne .b jU (fun r hr=>?_) hv;obtain ⟨p,q,e1,e2,h1⟩:=pB hu r hr;refine ⟨h1,.inl (by rw [e1];simp),by rw [e1];simp,fun _=>?_⟩
   rw [e1,e2];exact ⟨fun e=>by subst e;rfl,fun e=>by subst e;rfl⟩
  ·rename_i e hu;refine other ne .sl jU (fun r hr=>?_) hv;obtain ⟨p,n,c,q,n',c',e1,e2,h1⟩:=pS e hu r hr;refine ⟨h1,.inl (by rw [e1];simp),by rw [e1];simp,fun _=>?_⟩
   rw [e1,e2];exact ⟨fun e=>by subst e;rfl,fun e=>by subst e;rfl⟩
  ·rename_i ps rs vr hu;refine other ne .fn jU (fun r hr=>?_) hv;obtain ⟨⟨e1,e2⟩,h1⟩:=pF ps rs vr hu r hr;refine ⟨h1,.inl ?_,?_,fun _=>?_⟩
   ·rcases e1 with e1 | ⟨_,_,_,e1⟩<;>rw [e1]<;>simp
   ·rcases e1 with e1 | ⟨_,_,_,e1⟩<;>rw [e1]<;>simp
   ·rcases e1 with e1 | ⟨_,_,_,e1⟩<;>rcases e2 with e2 | ⟨_,_,_,e2⟩<;>rw [e1,e2]<;>exact ⟨fun e=>by subst e;rfl,fun e=>by subst e;rfl⟩
  ·rename_i fs hu;exact agg (by simp [dZ,hu]) hv
  ·rename_i k0 e hu;exact agg (by simp [dZ,hu]) hv
  ·exact (dP hv).elim
 cases op
 case eql=>exact eqs false (.inl ⟨rfl,rfl⟩) (by simpa only [bt,ho] using hv)
 case neq=>exact eqs true (.inr ⟨rfl,rfl⟩) (by simpa only [bt,ho] using hv)
 all_goals exact plain (by simpa only [bt,ho] using hv)
end
end
end VE
