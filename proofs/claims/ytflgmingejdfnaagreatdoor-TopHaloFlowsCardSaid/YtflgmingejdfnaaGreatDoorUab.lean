import Derived.WideLaws
import Derived.Maps.Keyed
import Derived.ChangeKeysEq
import Derived.Test.YtflgmingejdfnaaGreatDoorUaa
set_option linter.all false
set_option maxRecDepth 100000
open Bool renaming and_assoc→tc,and_eq_true→yg,false_eq_true→yA,not_eq_true'→tf
open Go renaming Addr→uA,Field→uF,IntKind→yU,MapEntry→uB,Oper→yY,Operand→xB,Program→y7,TypeDesc→vl,TypeId→yv,Value→yf,World→yh,binOp→xI,sizeOf→uj
open List.cons renaming injEq→tS
open List renaming cons_append→yW,drop_drop→vH,getElem?_eq_getElem→wQ,length_cons→yy,map_cons→y8,take_succ_cons→wm
open Nat renaming add_assoc→uC,add_mul→wZ,beq→yx,ble→yE,blt→yJ,eq_of_beq_eq_true→yo,le_of_ble_eq_true→yC,le_refl→yB
open Option renaming map_none→vG,map_some→wu
open Option.some renaming injEq→yc
open UInt8 renaming toNat→yX
namespace VE
section
open Go
section
variable {ai:Nat->Nat} {P:y7} {m:Mp} {S:Nat->Prop} {w:yh} {t:yv}
def ak6 {op:BinOp} {x y:xB} {a b:yf} (h:P.eqGuardType P.depth t=false\/∀xs ys,¬(a= .agg xs/\b= .agg ys)) (hn:a≠.nilIface):
  (eqGuard op t x y a b).run P w= .ok () w:=by
 unfold eqGuard;cases op
 all_goals first
  | rfl
  | (
    cases a
    all_goals first
     | rfl
     | exact absurd rfl hn
     | (
      cases b
      all_goals first
       | rfl
       | (
         rcases h with h | h
         ·simp [h]
         ·exact absurd ⟨rfl,rfl⟩ (h _ _))))
def asD {d:Nat} {p q:Bool} (ht:P.underlying t=some .bool):(Op.equalIn (d+1) t (.bool p) (.bool q)).run P w= .ok (p==q) w:=by
 simp [Op.equalIn,underlying,ht]
def UR {d:Nat} {e:yv} (ht:P.underlying t=some (.slice e)) (y:Option uA) (n c n' c':Nat):
  (Op.equalIn (d+1) t (.slice none n c) (.slice y n' c')).run P w= .ok y.isNone w:=by simp [Op.equalIn,underlying,ht]
def age {d:Nat} {e:yv} (ht:P.underlying t=some (.slice e)) (x:uA) (n c n' c':Nat):
  (Op.equalIn (d+1) t (.slice (some x) n c) (.slice none n' c')).run P w= .ok false w:=by simp [Op.equalIn,underlying,ht]
def avr {d:Nat} {ps rs:Array yv} {vr:Bool} (ht:P.underlying t=some (.func ps rs vr)):
  (Op.equalIn (d+1) t .nilFunc .nilFunc).run P w= .ok true w:=by simp [Op.equalIn,underlying,ht]
def agf {d:Nat} {ps rs:Array yv} {vr:Bool} (ht:P.underlying t=some (.func ps rs vr)) (f:Go.Fn) (a b:Array yf):
  (Op.equalIn (d+1) t .nilFunc (.func f a b)).run P w= .ok false w:=by simp [Op.equalIn,underlying,ht]
def agh {d:Nat} {ps rs:Array yv} {vr:Bool} (ht:P.underlying t=some (.func ps rs vr)) (f:Go.Fn) (a b:Array yf):
  (Op.equalIn (d+1) t (.func f a b) .nilFunc).run P w= .ok false w:=by simp [Op.equalIn,underlying,ht]
def ND (x y:yf):Op.equal t x y=Op.equalIn (9999+1) t x y:=rfl
def aqj {vx vy:AV} {x y:yf} {r:Bool} {e:yv} (ht:P.underlying t=some (.slice e)) (hx:aj ai m S w vx x) (hy:aj ai m S w vy y)
  (h:iV .sl vx vy=some r):(Op.equal t x y).run P w= .ok r w:=by
 rw [ND];unfold iV at h
 split at h<;>simp_all only [yc,reduceCtorEq]
 all_goals subst h
 all_goals simp only [aj] at hx hy
 ·subst hx;subst hy;exact UR ht _ _ _ _ _
 ·rcases hy with ⟨b,o,c,rfl,_⟩ | ⟨_,rfl,_⟩<;>(subst hx;exact UR ht _ _ _ _ _)
 ·obtain ⟨p,c,_,rfl,_⟩:=hy;subst hx;exact UR ht _ _ _ _ _
 ·rcases hx with ⟨b,o,c,rfl,_⟩ | ⟨_,rfl,_⟩<;>(subst hy;exact age ht _ _ _ _ _)
 ·obtain ⟨p,c,_,rfl,_⟩:=hx;subst hy;exact age ht _ _ _ _ _
def aqk {vx vy:AV} {x y:yf} {r:Bool} {ps rs:Array yv} {vr:Bool} (ht:P.underlying t=some (.func ps rs vr)) (hx:aj ai m S w vx x) (hy:aj ai m S w vy y)
  (h:iV .fn vx vy=some r):(Op.equal t x y).run P w= .ok r w:=by
 rw [ND];unfold iV at h
 split at h<;>simp_all only [yc,reduceCtorEq]
 all_goals subst h
 ·simp only [aj] at hx hy;subst hx;subst hy;exact avr ht
 ·rename_i f _ _
  cases f with
  | f g=>simp only [aj] at hx hy;obtain ⟨fi,ca,rfl,_⟩:=hy;subst hx;exact agf ht _ _ _
  | y l=>simp only [aj] at hx hy;obtain ⟨p,_,rfl⟩:=hy;subst hx;exact agf ht _ _ _
 ·rename_i f _ _
  cases f with
  | f g=>simp only [aj] at hx hy;obtain ⟨fi,ca,rfl,_⟩:=hx;subst hy;exact agh ht _ _ _
  | y l=>simp only [aj] at hx hy;obtain ⟨p,_,rfl⟩:=hx;subst hy;exact agh ht _ _ _
def aql {op:UnOp} {vx v:AV} {x:yf} (hx:aj ai m S w vx x) (h:VE.unOp op vx=some v):∃u,(Op.unary op x).run P w= .ok u w/\aj ai m S w v u:=by
 unfold VE.unOp at h
 split at h
 ·rename_i k n;simp only [aj] at hx;subst hx;simp only [yc] at h;subst h;exact ⟨_,by simp [Op.unary,Op.intArith];rfl,by simp [aj]⟩
 ·rename_i k n;simp only [aj] at hx;subst hx;simp only [mB,yc] at h;subst h;exact ⟨_,by simp [Op.unary,Op.intBits];rfl,by simp [aj]⟩
 ·rename_i b;simp only [aj] at hx;subst hx;simp only [yc] at h;subst h;exact ⟨_,by simp [Op.unary];rfl,by simp [aj]⟩
 ·rename_i k b;simp only [aj] at hx;subst hx;simp only [yc] at h;subst h;exact ⟨_,by simp [Op.unary,Op.negFloat];rfl,by simp [aj]⟩
 ·cases h
def abP {s d:yv} {k:yU} {vx v:AV} {x:yf} (hd:P.underlying d=some (.int k)) (hs:(∃k',P.underlying s=some (.int k'))\/∃k',P.underlying s=some (.float k'))
  (hx:aj ai m S w vx x) (h:oP (.toInt k) vx=some v):∃u,(convert s d x).run P w= .ok u w/\aj ai m S w v u:=by
 cases vx<;>simp only [oP,reduceCtorEq] at h
 case int k0 n=>
  simp only [aj] at hx;subst hx;simp only [yc] at h;subst h;refine ⟨.int k (k.wrap n),?_,by simp [aj]⟩;rcases hs with ⟨k',h'⟩ | ⟨k',h'⟩<;>simp [convert,underlying,Conv.intToInt,hd,h']
 case dP sk b=>
  simp only [aj] at hx;subst hx
  cases hi:(sk.decode b).toInt .zero with
  | none=>simp [hi] at h
  | some n=>
   simp only [hi] at h;by_cases hr:k.min<=n/\n<=k.max
   ·simp only [hr,and_self,yV,yc] at h;subst h;refine ⟨.int k n,?_,by simp [aj]⟩;rcases hs with ⟨k',h'⟩ | ⟨k',h'⟩<;>simp [convert,underlying,Conv.floatToInt,hd,h',hi,hr]
   ·simp [hr] at h
def abQ {s d:yv} {k:FloatKind} {vx v:AV} {x:yf} (hd:P.underlying d=some (.float k)) (hs:(∃k',P.underlying s=some (.int k'))\/∃k',P.underlying s=some (.float k'))
  (hx:aj ai m S w vx x) (h:oP (.toFlt k) vx=some v):∃u,(convert s d x).run P w= .ok u w/\aj ai m S w v u:=by
 cases vx<;>simp only [oP,reduceCtorEq] at h
 case int k0 n=>
  simp only [aj] at hx;subst hx;simp only [yc] at h;subst h;refine ⟨.float k (k.nearest n),?_,by simp [aj]⟩;rcases hs with ⟨k',h'⟩ | ⟨k',h'⟩<;>simp [convert,underlying,Conv.intToFloat,hd,h']
 case dP sk b=>
  simp only [aj] at hx;subst hx;by_cases he:sk=k
  ·subst he;simp only [yV,yc] at h;subst h;refine ⟨.float sk b,?_,by simp [aj]⟩;rcases hs with ⟨k',h'⟩ | ⟨k',h'⟩<;>simp [convert,underlying,Conv.floatToFloat,hd,h']
  ·simp only [he,yN] at h
   cases Ph:sk.decode b with
   | nan _ _=>simp [Ph] at h
   | infinity _=>simp [Ph] at h
   | number sg mm ee=>
    simp only [Ph] at h
    cases Vj:(k.decode (k.encode (.number sg mm ee))).isInfinity with
    | true=>simp [Vj] at h
    | false=>
     simp only [Vj,yA,yN,yc] at h;subst h;refine ⟨.float k (k.encode (.number sg mm ee)),?_,by simp [aj]⟩;rcases hs with ⟨k',h'⟩ | ⟨k',h'⟩<;>simp [convert,underlying,Conv.floatToFloat,hd,h',he,Ph,Vj]
def anU {s d:yv} {vx v:AV} {x:yf} (hd:P.underlying d=some .string) (hs:P.underlying s=some .string)
  (hx:aj ai m S w vx x) (h:oP .str vx=some v):∃u,(convert s d x).run P w= .ok u w/\aj ai m S w v u:=by
 cases vx<;>simp only [oP,reduceCtorEq] at h
 simp only [yc] at h;subst h;simp only [aj] at hx;obtain ⟨b,rfl,hb⟩:=hx;exact ⟨.string b,by simp [convert,underlying,hs,hd],by simp only [aj];exact ⟨b,rfl,hb⟩⟩
end
end
section
open Go
def al0 {v:AV} {k:Nat} (h:eC v=some k):∃kd,v= .int kd (k:Int):=by
 cases v<;>simp only [eC,reduceCtorEq] at h
 rename_i kd n
 cases n with
 | ofNat j=>simp only [yc] at h;subst h;exact ⟨kd,rfl⟩
 | negSucc j=>cases h
section
variable {O:bD} {H:Hint} {m:Mp} {S:Nat->Prop} {w:yh} {tm:Env} {a:Act}
def Am {ai:Nat->Nat} {v:AV} {x:yf} {k:Nat} (hx:aj ai m S w v x) (h:eC v=some k):∃kd,x= .int kd (k:Int):=by
 obtain ⟨kd,rfl⟩:=al0 h;simp only [aj] at hx
 grind
def run_sliceBound {P:y7} {kd:yU} {k y:Nat} {code:BoundsCode} (h:k<=y):(Instr.sliceBound (.int kd (k:Int)) y code).run P w= .ok k w:=by
 have:(0:Int)<=(k:Int)/\(k:Int)<=(y:Int):=by omega
 simp [Instr.sliceBound,asIntOf,this]
def aaO {P:y7} {isSlice:Bool} {len cap l h:Nat} {lo hi:Option xB} (hH:gl O H) (ht:cF O m S w tm a.tmps)
  (hl:de tm 0 (lo.map (aV H))=some l) (hh:de tm len (hi.map (aV H))=some h) (h1:l<=h) (h2:h<=cap):
  (Instr.sliceBounds isSlice len cap (lo.map a.eval) (hi.map a.eval) none).run P w= .ok (l,h,cap) w:=by
 cases lo with
 | none=>
  simp only [vG,de,yc] at hl;subst hl
  cases hi with
  | none=>
   simp only [vG,de,yc] at hh;subst hh;simp [Instr.sliceBounds]
  | some y=>
   obtain ⟨kd,e⟩:=Am (cQ hH ht y) hh;simp only [Instr.sliceBounds,vG,wu,e,Sem.run_bind,Sem.run_pure,Result.andThen_ok,run_sliceBound h2]
 | some x=>
  obtain ⟨kd,e⟩:=Am (cQ hH ht x) hl
  cases hi with
  | none=>
   simp only [vG,de,yc] at hh;subst hh;simp only [Instr.sliceBounds,vG,wu,e,Sem.run_bind,Sem.run_pure,Result.andThen_ok,run_sliceBound h1]
  | some y=>
   obtain ⟨WT,e'⟩:=Am (cQ hH ht y) hh;simp only [Instr.sliceBounds,wu,e,e',Sem.run_bind,Sem.run_pure,Result.andThen_ok,run_sliceBound h2,run_sliceBound h1]
def al1 {t:yv} {lo hi:Option xB} {vx v:AV} {x:yf} (hH:gl O H) (ht:cF O m S w tm a.tmps) (hu:O.P.underlying t=some .string)
  (hx:aj O.ai m S w vx x) {hp:Hp} (h:fT hp .str vx tm (lo.map (aV H)) (hi.map (aV H))=some v):
  ∃u,(Instr.sliceAt t x (lo.map a.eval) (hi.map a.eval) none).run O.P w= .ok u w/\aj O.ai m S w v u:=by
 cases vx<;>simp only [fT,reduceCtorEq] at h
 obtain ⟨b,rfl,rfl⟩:=hx
 cases hl:de tm 0 (lo.map (aV H)) with
 | none=>simp [hl] at h
 | some l=>
  simp only [hl] at h
  cases hh:de tm (b.data.toList.map yX).length (hi.map (aV H)) with
  | none=>rw [hh] at h;cases h
  | some g=>
   rw [hh] at h;simp only at h
   cases hc:(yE l g&&yE g (b.data.toList.map yX).length) with
   | false=>rw [hc] at h;cases h
   | true=>
    rw [hc] at h;simp only [ym,yc] at h;subst h;simp only [yg] at hc;have h1:=yC hc.1;have h2:=yC hc.2;have hlen:(b.data.toList.map yX).length=b.size:=aaN b;rw [hlen] at hh h2;refine ⟨.string (b.extract l g),?_,?_⟩
    ·simp only [Instr.sliceAt,Sem.run_bind,run_underlying hu,Result.andThen_ok,Instr.slice,Option.isSome_none,yA,yN,Sem.run_pure,
      aaO (P:=O.P) (isSlice:=false) (len:=b.size) (cap:=b.size) hH ht hl hh h1 h2]
    ·simp only [aj];refine ⟨_,rfl,?_⟩;rw [Lib.extract_data,List.map_take,List.map_drop,List.drop_take]
def anV {t e:yv} {sz:Nat} {lo hi:Option xB} {vx v:AV} {x:yf} (hH:gl O H) (ht:cF O m S w tm a.tmps) (hu:O.P.underlying t=some (.slice e)) (hz:da O.P e=some sz)
  {hp:Hp} {ct:Nat} (hh:bg O m S w hp ct)
  (hx:aj O.ai m S w vx x) (h:fT hp (.sl sz) vx tm (lo.map (aV H)) (hi.map (aV H))=some v):
  ∃u,(Instr.sliceAt t x (lo.map a.eval) (hi.map a.eval) none).run O.P w= .ok u w/\aj O.ai m S w v u:=by
 have fk:(uj e).run O.P w= .ok sz w:=by
  unfold da at hz
  cases hi:O.P.info? e with
  | none=>simp [hi] at hz
  | some i=>simp_all [uj,typeInfo]
 have JP:∀(ad:Option uA) (n c l g:Nat),de tm 0 (lo.map (aV H))=some l->de tm n (hi.map (aV H))=some g->l<=g->g<=c->
   (Instr.sliceAt t (.slice ad n c) (lo.map a.eval) (hi.map a.eval) none).run O.P w= .ok (.slice (if c=l then ad else ad.map (·.add (l*sz))) (g-l) (c-l)) w:=by
  intro ad n c l g hl hg h1 h2
  simp only [Instr.sliceAt,Sem.run_bind,run_underlying hu,Result.andThen_ok,Instr.slice,Sem.run_pure,fk,
   aaO (P:=O.P) (isSlice:=true) (len:=n) (cap:=c) hH ht hl hg h1 h2]
 cases vx<;>simp only [fT,reduceCtorEq] at h
 case ae=>
  simp only [aj] at hx;subst hx
  cases hl:de tm 0 (lo.map (aV H)) with
  | none=>simp [hl] at h
  | some l=>
   cases l with
   | succ l=>simp [hl] at h
   | zero=>
    simp only [hl] at h
    cases hh:de tm 0 (hi.map (aV H)) with
    | none=>simp [hh] at h
    | some g=>
     cases g with
     | succ g=>simp [hh] at h
     | zero=>
      simp only [hh,yc] at h;subst h;exact ⟨_,JP none 0 0 0 0 hl hh (yB _) (yB _),by simp [aj]⟩
 case aO ex n cs=>
  simp only [aj] at hx;rcases hx with ⟨b,o,c,rfl,LC,hex,hS,ix,EG⟩ | ⟨ad,rfl,rfl,rfl⟩
  case inr=>
   cases hl:de tm 0 (lo.map (aV H)) with
   | none=>simp [hl] at h
   | some l=>
    simp only [hl] at h
    cases hh:de tm 0 (hi.map (aV H)) with
    | none=>simp [hh] at h
    | some g=>
     simp only [hh] at h
     cases hc:(yE l g&&yE g 0) with
     | false=>rw [hc] at h;cases h
     | true=>
      rw [hc] at h;simp only [ym,yc] at h;subst h;simp only [yg] at hc;have h1:=yC hc.1;have h2:=yC hc.2;have hg:g=0:=by omega
      subst hg;have mM:l=0:=by omega
      subst mM;refine ⟨_,JP (some ad) 0 0 0 0 hl hh h1 h2,?_⟩;simp only [aj];exact .inr ⟨ad,by simp,by simp,by simp [slice]⟩
  cases hl:de tm 0 (lo.map (aV H)) with
  | none=>simp [hl] at h
  | some l=>
   simp only [hl] at h
   cases hh:de tm n (hi.map (aV H)) with
   | none=>simp [hh] at h
   | some g=>
    simp only [hh] at h
    cases hc:(yE l g&&yE g n) with
    | false=>rw [hc] at h;cases h
    | true=>
     rw [hc] at h;simp only [ym,yc] at h;subst h;simp only [yg] at hc;have h1:=yC hc.1;have h2:=yC hc.2;refine ⟨_,JP (some ⟨b,o,none⟩) n c l g hl hh h1 (by omega),?_⟩;have OD:aK (slice (l*sz) ((g-l)*sz) cs)=true:=by
      have pd:∀(k:Nat) (cs:List AV),aK cs=true->aK (cs.drop k)=true:=by
       intro k
       induction k with
       | zero=>intro cs h;simpa using h
       | succ k ih=>intro cs h;cases cs with
        | nil=>simpa using h
        | cons c cs=>simp only [aK,yg] at h;simpa using ih cs h.2
      have pt:∀(k:Nat) (cs:List AV),aK cs=true->aK (cs.take k)=true:=by
       intro k
       induction k with
       | zero=>intro cs h;simp [aK]
       | succ k ih=>intro cs h;cases cs with
        | nil=>simp [aK]
        | cons c cs=>simp only [aK,yg,wm] at h ⊢;exact ⟨h.1,ih cs h.2⟩
      exact pt _ _ (pd _ _ ix)
     have ahp:(ex&&yx g n)=true->c-l=g-l:=by
      intro hq;simp only [yg] at hq
      have:=hex hq.1
      have:=yo hq.2
      omega
     simp only [aj];by_cases jg:c=l
     ·have h0:g-l=0:=by omega
      have fQ:slice (l*sz) ((g-l)*sz) cs=[]:=by simp [slice,h0]
      rw [fQ];exact .inl ⟨b,o,c-l,by simp [jg],by omega,ahp,.inl rfl,rfl,by simp [ck]⟩
     ·refine .inl ⟨b,o+l*sz,c-l,by simp [jg,pR],by omega,ahp,?_,OD,?_⟩
      ·rcases hS with rfl | hS
       ·exact .inl (by simp [slice])
       ·exact .inr hS
      ·exact Dw _ _ _ _ (sG _ _ _ _ EG)
 case ak id o n=>
  simp only [aj] at hx;obtain ⟨p,c,hm,rfl,LC,Qn⟩:=hx
  split at h
  case h_2=>cases h
  rename_i WU pu0 zG z0 cs0 D3;obtain ⟨p',arr,t',fR,_,fZ,_⟩:=hh.obj id _ _ D3 hm;rw [hm] at fR;injection fR with fR
  subst fR
  cases hl:de tm 0 (lo.map (aV H)) with
  | none=>simp [hl] at h
  | some l=>
   simp only [hl] at h
   cases hh:de tm n (hi.map (aV H)) with
   | none=>simp [hh] at h
   | some g=>
    simp only [hh] at h
    cases hc:(yE l g&&yE g n&&yx z0 sz) with
    | false=>rw [hc] at h;cases h
    | true=>
     rw [hc] at h;simp only [ym] at h;simp only [yg] at hc;have h1:=yC hc.1.1;have h2:=yC hc.1.2;have hpz:p.z=sz:=fZ.trans (yo hc.2)
     cases he:(yx l g&& !yx l 0) with
     | true=>
      rw [he] at h;simp only [ym,yc] at h;subst h;simp only [yg] at he;have EH:=yo he.1;refine ⟨_,JP (some ⟨p.b,p.o+o,none⟩) n c l g hl hh h1 (by omega),?_⟩;simp only [aj];by_cases jg:c=l
      ·exact .inl ⟨p.b,p.o+o,c-l,by simp [jg];omega,by omega,by simp,by simp,by simp [aK],by simp [ck]⟩
      ·exact .inl ⟨p.b,p.o+o+l*sz,c-l,by simp [jg,pR];omega,by omega,by simp,by simp,by simp [aK],by simp [ck]⟩
     | false=>
      rw [he] at h;simp only [yD,yc] at h;subst h;have jg:c=l->l=0:=by
       intro jg;have EH:l=g:=by omega
       cases mM:yx l 0 with
       | true=>exact yo mM
       | false=>rw [EH,Nat.beq_refl,<-EH,mM] at he;cases he
      refine ⟨_,JP (some ⟨p.b,p.o+o,none⟩) n c l g hl hh h1 (by omega),?_⟩;simp only [aj];refine ⟨p,c-l,hm,?_,by omega,?_⟩
      ·by_cases Vk:c=l
       ·have:=jg Vk;subst this;subst Vk;simp
       ·simp [Vk,pR,uC]
      ·rw [hpz] at Qn ⊢
       have:c*sz=l*sz+(c-l)*sz:=by rw [<-wZ];congr 1;omega
       omega
end
end
section
open Go
def oC {P:y7} {w:yh} {t:yv} {sz:Nat} (hz:da P t=some sz):(uj t).run P w= .ok sz w:=by
 unfold da at hz
 cases hi:P.info? t with
 | none=>simp [hi] at hz
 | some i=>simp_all [uj,typeInfo]
section
variable {O:bD} {H:Hint} {m:Mp} {S:Nat->Prop} {w:yh} {tm:Env} {a:Act} {hp:Hp} {ct:Nat}
def SX {id o n:Nat} {rw pu ex:Bool} {sz:Nat} {cs:List AV} {p:Pl} (hh:bg O m S w hp ct) (hg:ap hp id=some (.cells rw pu ex sz cs)) (hm:m id=some p):
  ck O.ai m S w cs p.b p.o:=by
 obtain ⟨p',arr,t',fR,_,_,_,_,_,hr,_⟩:=hh.obj id _ _ hg hm
 grind
def avt {t:yv} {sz:Nat} {ag:Bool} {vx v:AV} {x:yf} (hh:bg O m S w hp ct) (hz:da O.P t=some sz) (ha:eD O.P t=some ag) (hx:aj O.ai m S w vx x)
  (h:jx hp sz ag vx=some v):∃u,(Instr.loadAt t x).run O.P w= .ok u w/\aj O.ai m S w v u:=by
 cases vx<;>simp only [jx,reduceCtorEq] at h
 case ptr id o=>
  obtain ⟨p,hm,rfl⟩:=hx
  split at h
  case h_2=>cases h
  rename_i WU pu0 zG z0 cs0 D3;have hr:=SX (id:=id) (o:=0) (n:=0) hh D3 hm;obtain ⟨u,h1,h2⟩:=N2 hz ha (sG o cs0 p.b p.o hr) h;exact ⟨u,by simp only [Instr.loadAt,Instr.sureAddr,Sem.run_bind,Sem.run_pure,Result.andThen_ok];exact h1,h2⟩
 case bi cs=>
  obtain ⟨b,o,rfl,_,_,hr⟩:=hx;obtain ⟨u,h1,h2⟩:=N2 hz ha hr h;exact ⟨u,by simp only [Instr.loadAt,Instr.sureAddr,Sem.run_bind,Sem.run_pure,Result.andThen_ok];exact h1,h2⟩
def BL:∀(k:Nat) (cs:List AV),aK cs=true->aK (cs.drop k)=true
 | 0,cs,h=>by simpa using h
 | k+1,[],h=>by simpa using h
 | k+1,c::cs,h=>by simp only [aK,yg] at h;simpa using BL k cs h.2
def So {cs:List AV} {b o k:Nat} (h2:cs=[]\/S b) (h3:aK cs=true) (h4:ck O.ai m S w cs b o):aj O.ai m S w (.bi (cs.drop k)) (.pointer (some ⟨b,o+k,none⟩)):=by
 refine ⟨b,o+k,rfl,?_,BL k cs h3,sG k cs b o h4⟩
 grind
def asE {t:yv} {fs:Array uF} {i:Nat} {f:uF} {sz:Nat} {vx v:AV} {x:yf} (hu:O.P.underlying t=some (.struct fs)) (hf:fs[i]? =some f) (hz:da O.P f.type=some (sz+1))
  (hx:aj O.ai m S w vx x)
  (h:Gm f.offset vx=some v):∃u,(Instr.fieldAt t x i).run O.P w= .ok u w/\aj O.ai m S w v u:=by
 have agi:∀(b o:Nat),(Instr.fieldAt t (.pointer (some ⟨b,o,none⟩)) i).run O.P w= .ok (.pointer (some ⟨b,o+f.offset,none⟩)) w:=by
  intro b o;simp only [Instr.fieldAt,Sem.run_bind,run_underlying hu,Result.andThen_ok,hf,Instr.sureAddr,Sem.run_pure,fieldPlace,oC hz,Nat.succ_ne_zero,yN,pR]
 cases vx<;>simp only [Gm,reduceCtorEq] at h
 case ptr id o=>
  obtain ⟨p,hm,rfl⟩:=hx;simp only [yc] at h;subst h;exact ⟨_,agi _ _,by simp only [aj];exact ⟨p,hm,by rw [uC]⟩⟩
 case bi cs=>
  obtain ⟨b,o,rfl,h2,h3,h4⟩:=hx
  cases hc:yE f.offset cs.length with
  | false=>rw [hc] at h;cases h
  | true=>
   rw [hc] at h;simp only [ym,yc] at h;subst h;exact ⟨_,agi _ _,So h2 h3 h4⟩
def asF {t:yv} {fs:Array uF} {i:Nat} {f:uF} {sz:Nat} {ag:Bool} {vx v:AV} {x:yf} (hu:O.P.underlying t=some (.struct fs)) (hf:fs[i]? =some f)
  (hz:da O.P f.type=some sz) (ha:eD O.P f.type=some ag) (hx:aj O.ai m S w vx x)
  (h:OB f.offset sz ag vx=some v):∃u,(Instr.field t x i).run O.P w= .ok u w/\aj O.ai m S w v u:=by
 cases vx<;>simp only [OB,reduceCtorEq] at h
 obtain ⟨xs,rfl,hr⟩:=hx;obtain ⟨u,h1,h2⟩:=ac0 hz ha hr h;exact ⟨u,by simp only [Instr.field,Sem.run_bind,run_underlying hu,Result.andThen_ok,hf,asAgg,Sem.run_pure];exact h1,h2⟩
def asG {t e:yv} {sz k:Nat} {vx vi v:AV} {x i:yf} (hu:O.P.underlying t=some (.slice e)) (hz:da O.P e=some sz) (hx:aj O.ai m S w vx x) (hi:aj O.ai m S w vi i)
  (hk:eC vi=some k)
  (h:iF sz k vx=some v):∃u,(Instr.indexAt t x i).run O.P w= .ok u w/\aj O.ai m S w v u:=by
 obtain ⟨kd,rfl⟩:=Am hi hk;have Kr:∀(b o n c:Nat),k<n->(Instr.indexAt t (.slice (some ⟨b,o,none⟩) n c) (.int kd (k:Int))).run O.P w= .ok (.pointer (some ⟨b,o+k*sz,none⟩)) w:=by
  intro b o n c zH;have hr:(0:Int)<=(k:Int)/\(k:Int)<(n:Int):=by omega
  simp [Instr.indexAt,asIntOf,run_underlying hu,oC hz,hr,pR]
  grind
 cases vx<;>simp only [iF,reduceCtorEq] at h
 case ak id o n=>
  obtain ⟨p,c,hm,rfl,LC,Qn⟩:=hx
  cases hc:yJ k n with
  | false=>rw [hc] at h;cases h
  | true=>
   rw [hc] at h;simp only [ym,yc] at h;subst h;have zH:k<n:=by simp_all
   exact ⟨_,Kr _ _ _ _ zH,by simp only [aj];exact ⟨p,hm,by rw [uC]⟩⟩
 case aO ex n cs=>
  rcases hx with ⟨b,o,c,rfl,LC,hex,h2,h3,h4⟩ | ⟨a,rfl,rfl,rfl⟩
  case inr=>
   have:yJ k 0=false:=by cases hq:yJ k 0 with | false=>rfl | true=>simp only [yJ,Nat.ble_eq] at hq;omega
   grind
  cases hc:yJ k n with
  | false=>rw [hc] at h;cases h
  | true=>
   rw [hc] at h;simp only [ym,yc] at h;subst h;have zH:k<n:=by simp_all
   exact ⟨_,Kr _ _ _ _ zH,So h2 h3 h4⟩
def asH {t e:yv} {len sz k:Nat} {vx vi v:AV} {x i:yf} (hu:O.P.underlying t=some (.array len e)) (hz:da O.P e=some sz) (hx:aj O.ai m S w vx x) (hi:aj O.ai m S w vi i)
  (hk:eC vi=some k)
  (h:OC len sz k vx=some v):∃u,(Instr.indexAt t x i).run O.P w= .ok u w/\aj O.ai m S w v u:=by
 obtain ⟨kd,rfl⟩:=Am hi hk;have Kr:∀(b o:Nat),k<len->(Instr.indexAt t (.pointer (some ⟨b,o,none⟩)) (.int kd (k:Int))).run O.P w= .ok (.pointer (some ⟨b,o+k*sz,none⟩)) w:=by
  intro b o zH;have hr:(0:Int)<=(k:Int)/\(k:Int)<(len:Int):=by omega
  simp [Instr.indexAt,asIntOf,run_underlying hu,oC hz,hr,pR,Instr.sureAddr]
  grind
 cases vx<;>simp only [OC,reduceCtorEq] at h
 case ptr id o=>
  obtain ⟨p,hm,rfl⟩:=hx
  cases hc:yJ k len with
  | false=>rw [hc] at h;cases h
  | true=>
   rw [hc] at h;simp only [ym,yc] at h;subst h;have zH:k<len:=by simp_all
   exact ⟨_,Kr _ _ zH,by simp only [aj];exact ⟨p,hm,by rw [uC]⟩⟩
 case bi cs=>
  obtain ⟨b,o,rfl,h2,h3,h4⟩:=hx
  cases hc:yJ k len with
  | false=>rw [hc] at h;cases h
  | true=>
   rw [hc] at h;simp only [ym,yc] at h;subst h;have zH:k<len:=by simp_all
   exact ⟨_,Kr _ _ zH,So h2 h3 h4⟩
def asI {t e:yv} {len sz k:Nat} {ag:Bool} {vx vi v:AV} {x i:yf} (hu:O.P.underlying t=some (.array len e)) (hz:da O.P e=some sz) (ha:eD O.P e=some ag)
  (hx:aj O.ai m S w vx x) (hi:aj O.ai m S w vi i) (hk:eC vi=some k)
  (h:Km len sz ag k vx=some v):
  ∃u,(Instr.index t x i).run O.P w= .ok u w/\aj O.ai m S w v u:=by
 obtain ⟨kd,rfl⟩:=Am hi hk;cases vx<;>simp only [Km,reduceCtorEq] at h
 obtain ⟨xs,rfl,hr⟩:=hx
 cases hc:yJ k len with
 | false=>rw [hc] at h;cases h
 | true=>
  rw [hc] at h;have zH:k<len:=by simp_all
  obtain ⟨u,h1,h2⟩:=ac0 hz ha hr h;have bW:(0:Int)<=(k:Int)/\(k:Int)<(len:Int):=by omega
  exact ⟨u,by simp [Instr.index,asIntOf,run_underlying hu,oC hz,bW,h1];intro hle;exact absurd hle (by omega),h2⟩
def asJ {t:yv} {k:Nat} {vx vi v:AV} {x i:yf} (hu:O.P.underlying t=some .string) (hx:aj O.ai m S w vx x) (hi:aj O.ai m S w vi i) (hk:eC vi=some k)
  (h:nX k vx=some v):
  ∃u,(Instr.index t x i).run O.P w= .ok u w/\aj O.ai m S w v u:=by
 obtain ⟨kd,rfl⟩:=Am hi hk;cases vx<;>simp only [nX,reduceCtorEq] at h
 obtain ⟨b,rfl,rfl⟩:=hx
 cases hs:(b.data.toList.map yX)[k]? with
 | none=>rw [hs] at h;cases h
 | some q=>
  rw [hs] at h;simp only [yc] at h;subst h;rw [List.getElem?_map] at hs
  cases hb:b.data.toList[k]? with
  | none=>rw [hb] at hs;cases hs
  | some c=>
   rw [hb] at hs;simp only [wu,yc] at hs;subst hs;have dl:b[k]? =some c:=by
    have bm:k<b.data.toList.length:=by
     grind
    have fk:k<b.size:=by simp_all
    rw [getElem?_pos b k fk];rw [wQ bm] at hb;rw [<-hb];rfl
   refine ⟨.int .u8 c.toNat,?_,by simp [aj]⟩;simp [Instr.index,asIntOf,run_underlying hu,dl]
end
end
section
open Go
section
variable {ai:Nat->Nat} {m:Mp} {S:Nat->Prop} {w:yh}
def Sr:∀{v:AV} {u:yf},aj ai m S w v u->cf (cellsOf v)=true->au ai m S w (cellsOf v) u.cells.toList:=by
 intro v u h h1;cases v
 case agg cs=>
  simp only [aj] at h;obtain ⟨xs,rfl,hr⟩:=h;exact hr
 case aw vs=>simp [cellsOf,cf,bE] at h1
 case undef=>simp [cellsOf,cf,bE] at h1
 case cR=>simp [cellsOf,cf,bE] at h1
 case fn f a b=>
  cases f with
  | f g=>have h':=h;simp only [aj] at h';obtain ⟨fi,ca,rfl,_⟩:=h';simp only [cellsOf,Value.cells,au];exact ⟨_,_,rfl,h,rfl⟩
  | y l=>have h':=h;simp only [aj] at h';obtain ⟨p,_,rfl⟩:=h';simp only [cellsOf,Value.cells,au];exact ⟨_,_,rfl,h,rfl⟩
 case str s=>have h':=h;simp only [aj] at h';obtain ⟨b,rfl,_⟩:=h';simp only [cellsOf,Value.cells,au];exact ⟨_,_,rfl,h,rfl⟩
 case ptr id o=>have h':=h;simp only [aj] at h';obtain ⟨b,_,rfl⟩:=h';simp only [cellsOf,Value.cells,au];exact ⟨_,_,rfl,h,rfl⟩
 case bi cs=>have h':=h;simp only [aj] at h';obtain ⟨b,o,rfl,_⟩:=h';simp only [cellsOf,Value.cells,au];exact ⟨_,_,rfl,h,rfl⟩
 case aO e n cs=>have h':=h;simp only [aj] at h';rcases h' with ⟨b,o,c,rfl,_⟩ | ⟨a,rfl,_,_⟩<;>(simp only [cellsOf,Value.cells,au];exact ⟨_,_,rfl,h,rfl⟩)
 case ak id o n=>have h':=h;simp only [aj] at h';obtain ⟨p,c,_,rfl,_⟩:=h';simp only [cellsOf,Value.cells,au];exact ⟨_,_,rfl,h,rfl⟩
 case map id=>have h':=h;simp only [aj] at h';obtain ⟨p,_,rfl⟩:=h';simp only [cellsOf,Value.cells,au];exact ⟨_,_,rfl,h,rfl⟩
 case jS ks vs=>have h':=h;simp only [aj] at h';obtain ⟨b,es,cl,rfl,_⟩:=h';simp only [cellsOf,Value.cells,au];exact ⟨_,_,rfl,h,rfl⟩
 case it id=>have h':=h;simp only [aj] at h';obtain ⟨p,_,rfl⟩:=h';simp only [cellsOf,Value.cells,au];exact ⟨_,_,rfl,h,rfl⟩
 all_goals
  have h':=h;simp only [aj] at h';subst h';simp only [cellsOf,Value.cells,au];exact ⟨_,_,rfl,h,rfl⟩
def Fg (v:yf):au ai m S w (cellsOf (fe v)) v.cells.toList:=by
 have h:=N1 (ai:=ai) (m:=m) (S:=S) (w:=w) v;cases v
 case agg xs=>
  obtain ⟨l⟩:=xs;simp only [fe,aj] at h ⊢;obtain ⟨xs,e,hr⟩:=h;injection e with e
  subst e;exact hr
 case tuple xs=>obtain ⟨l⟩:=xs;simp only [fe] at h ⊢;simp only [cellsOf,Value.cells,au];exact ⟨_,_,rfl,h,rfl⟩
 case pointer p=>cases p<;>(simp only [fe] at h ⊢;simp only [cellsOf,Value.cells,au];exact ⟨_,_,rfl,h,rfl⟩)
 case map p=>cases p<;>(simp only [fe] at h ⊢;simp only [cellsOf,Value.cells,au];exact ⟨_,_,rfl,h,rfl⟩)
 case slice p n c=>
  cases p
  ·cases n
   ·cases c<;>(simp only [fe] at h ⊢;simp only [cellsOf,Value.cells,au];exact ⟨_,_,rfl,h,rfl⟩)
   ·simp only [fe] at h ⊢;simp only [cellsOf,Value.cells,au];exact ⟨_,_,rfl,h,rfl⟩
  ·simp only [fe] at h ⊢;simp only [cellsOf,Value.cells,au];exact ⟨_,_,rfl,h,rfl⟩
 all_goals (simp only [fe] at h ⊢;simp only [cellsOf,Value.cells,au];exact ⟨_,_,rfl,h,rfl⟩)
def mW:∀{a b:List AV} {x y:List yf},au ai m S w a x->au ai m S w b y->au ai m S w (a++b) (x++y)
 | [],b,x,y,h,k=>by simp only [au] at h;subst h;simpa using k
 | c::a,b,x,y,h,k=>by
  simp only [au] at h;obtain ⟨u,r,rfl,h2,h3⟩:=h;simp only [yW,au];exact ⟨u,r++y,rfl,h2,mW h3 k⟩
def Jk:∀(k:Nat) {cs:List AV} {us:List yf},au ai m S w cs us->au ai m S w (cs.drop k) (us.drop k)
 | 0,cs,us,h=>by simpa using h
 | k+1,[],us,h=>by simp only [au] at h;subst h;simp [au]
 | k+1,c::cs,us,h=>by simp only [au] at h;obtain ⟨u,r,rfl,_,h3⟩:=h;simpa using Jk k h3
def Fv:∀(k:Nat) {cs:List AV} {us:List yf},au ai m S w cs us->au ai m S w (cs.take k) (us.take k)
 | 0,cs,us,h=>by simp [au]
 | k+1,[],us,h=>by simp only [au] at h;subst h;simp [au]
 | k+1,c::cs,us,h=>by
  simp only [au] at h;obtain ⟨u,r,rfl,h2,h3⟩:=h;simp only [wm,au];exact ⟨u,_,rfl,h2,Fv k h3⟩
def SY:∀{cs:List AV} {us:List yf} {i:Nat} {v:AV},au ai m S w cs us->cs[i]? =some v->∃u,us[i]? =some u/\aj ai m S w v u
 | [],us,i,v,_,h=>by simp at h
 | c::cs,us,0,v,h,e=>by
  simp only [au] at h;obtain ⟨u,r,rfl,h2,h3⟩:=h;simp at e;subst e;exact ⟨u,rfl,h2⟩
 | c::cs,us,i+1,v,h,e=>by
  simp only [au] at h;obtain ⟨u,r,rfl,h2,h3⟩:=h;simp at e;simpa using SY h3 e
end
def aaP (off:Nat):∀(new:List yf) (j:Nat) (cells:Array yf),off+j+new.length<=cells.size->
  ((new.zipIdx j).foldl (fun (cs:Array yf) (p:yf×Nat)=>cs.setIfInBounds (off+p.2) p.1) cells).toList=
   cells.toList.take (off+j)++new++cells.toList.drop (off+j+new.length)
 | [],j,cells,_=>by simp
 | v::r,j,cells,h=>by
  simp only [yy] at h;have ih:=aaP off r (j+1) (cells.setIfInBounds (off+j) v) (by simp;omega);simp only [List.zipIdx_cons,List.foldl_cons];rw [ih];have bm:off+j<cells.toList.length:=by simp;omega
  have h1:(cells.setIfInBounds (off+j) v).toList=cells.toList.set (off+j) v:=by simp
  rw [h1,show off+(j+1)=off+j+1 by omega];have h2:(cells.toList.set (off+j) v).take (off+j+1)=cells.toList.take (off+j)++[v]:=by
   rw [List.take_succ_eq_append_getElem (by simpa using bm)];simp [List.take_set_of_le]
  have h3:(cells.toList.set (off+j) v).drop (off+j+1+r.length)=cells.toList.drop (off+j+(r.length+1)):=by
   rw [List.drop_set_of_lt (by omega)];congr 1;omega
  rw [h2,h3]
  simp
section
variable {O:bD} {H:Hint} {m:Mp} {S:Nat->Prop} {w:yh} {tm:Env} {a:Act}
def N3 (hH:gl O H) (ht:cF O m S w tm a.tmps) {place:Nat->Option (Nat×Nat)}:∀(parts:List (Nat×xB)) (ps:List (Nat×Nat×X)) (zero cs:List AV) (cells:Array yf),
  partsOf H place parts=some ps->au O.ai m S w zero cells.toList->fill tm zero ps=some cs->
  ∃out,Instr.fill place cells (parts.map fun p=>(p.1,a.eval p.2))=some out/\au O.ai m S w cs out.toList
 | [],ps,zero,cs,cells,hp,hz,hf=>by
  simp only [partsOf,yc] at hp;subst hp;simp only [fill,yc] at hf;subst hf;exact ⟨cells,rfl,hz⟩
 | (i,x)::r,ps,zero,cs,cells,hp,hz,hf=>by
  simp only [partsOf] at hp
  cases qK:place i with
  | none=>simp [qK] at hp
  | some q=>
   obtain ⟨o,s⟩:=q;simp only [qK] at hp
   cases pc:partsOf H place r with
   | none=>simp [pc] at hp
   | some l=>
    simp only [pc,yc] at hp;subst hp;simp only [fill] at hf
    cases hc:(yx (cellsOf (aC tm (aV H x))).length s&&yE (o+s) zero.length&&cf (cellsOf (aC tm (aV H x)))) with
    | false=>rw [hc] at hf;cases hf
    | true=>
     rw [hc] at hf;simp only [ym] at hf;simp only [yg] at hc;have hs:=yo hc.1.1;have hle:=yC hc.1.2;have hrx:=Sr (cQ hH ht x) hc.2;have og:=jo _ _ hrx;have zI:=jo _ _ hz;have fk:(a.eval x).cells.size=s:=by rw [<-hs,<-og];simp
     have rR:cells.size=zero.length:=by rw [<-zI];simp
     have avu:=aaP o (a.eval x).cells.toList 0 cells (by simp;omega);have fZ:au O.ai m S w (over o (cellsOf (aC tm (aV H x))) zero)
       ((a.eval x).cells.zipIdx.foldl (fun (cs:Array yf) (p:yf×Nat)=>cs.setIfInBounds (o+p.2) p.1) cells).toList:=by
      rw [<-Array.foldl_toList,Array.toList_zipIdx,avu];simp only [over,Nat.add_zero];rw [show (a.eval x).cells.toList.length=(cellsOf (aC tm (aV H x))).length from og];exact mW (mW (Fv o hz) hrx) (Jk _ hz)
     obtain ⟨out,h1,h2⟩:=N3 hH ht r l _ cs _ pc fZ hf;refine ⟨out,?_,h2⟩;simp only [y8,Instr.fill,qK,fk];rw [yr (by simp;omega)];exact h1
end
end
section
open Go
def aaQ (p q:ByteArray):(p==q)=cN (nd p) (nd q):=by
 have h:(p==q)=(p.data==q.data):=by cases p;cases q;rfl
 rw [h,aaM,ByteArray.toList_eq,ByteArray.toList_eq];rw [Bool.eq_iff_iff,yai,yai];constructor
 ·intro e;rw [e]
 ·intro e;have:=congrArg List.toArray e;simpa using this
def Pj:vl->Bool
 | .bool | .int _ | .string=>true
 | _=>false
def fits (d:vl) (v:AV):Bool:=
 match d,v with
 | .int _,.int _ _ | .string,.str _ | .bool,.bool _=>true
 | _,_=>false
def Found (ai:Nat->Nat) (m:Mp) (S:Nat->Prop) (w:yh) (f:Option (Option (Nat×yf))):Option AV->Prop
 | none=>f=some none
 | some v=>∃j u,f=some (some (j,u))/\aj ai m S w v u
section
variable {O:bD} {ai:Nat->Nat} {m:Mp} {S:Nat->Prop} {w:yh}
def abR {vk vk':AV} {k k':yf} {r:Bool} {d:vl} (hk:aj ai m S w vk k) (qM:aj ai m S w vk' k') (h:Gl vk vk'=some r)
  (hd:fits d vk=true):Instr.sameNow d k k'=some r:=by
 unfold Gl at h
 split at h
 ·rename_i j x j' y;simp only [aj] at hk qM;subst hk;subst qM;by_cases hj:j=j'
  ·simp only [hj,yV,yc] at h;subst hj;cases d<;>simp [fits] at hd
   simpa [Instr.sameNow] using h
  ·simp [hj] at h
 ·simp only [aj] at hk qM;obtain ⟨s,rfl,rfl⟩:=hk;obtain ⟨s',rfl,rfl⟩:=qM;simp only [yc] at h;cases d<;>simp [fits] at hd
  simp only [Instr.sameNow,aaQ];rw [<-h];rfl
 ·simp only [aj] at hk qM;subst hk;subst qM;simp only [yc] at h;cases d<;>simp [fits] at hd
  simp [Instr.sameNow,h]
 ·cases h
def SZ {vk:AV} {k:yf} {d:vl} (hk:aj ai m S w vk k)
  (hd:fits d vk=true):∀(ks vs:List AV) (es:List uB) (i:Nat) (r:Option AV),
  au ai m S w ks (es.map (·.key))->au ai m S w vs (es.map (·.val))->D1 vk ks vs=some r->Found ai m S w (Instr.findNow d k es i) r
 | [],vs,es,i,r,h1,h2,h=>by
  simp only [au,List.map_eq_nil_iff] at h1;subst h1;simp only [D1,yc] at h;subst h;rfl
 | c::ks,[],es,i,r,h1,h2,h=>by simp only [D1] at h;cases h
 | c::ks,v::vs,es,i,r,h1,h2,h=>by
  cases es with
  | nil=>simp [au] at h1
  | cons e es=>
   simp only [y8,au,tS] at h1 h2;obtain ⟨u,t,⟨rfl,rfl⟩,hc,Qo⟩:=h1;obtain ⟨u',t',⟨rfl,rfl⟩,hv,Bc⟩:=h2;simp only [D1] at h
   cases Be:Gl vk c with
   | none=>simp [Be] at h
   | some b=>
    have hs:=abR (d:=d) hk hc Be hd
    cases b with
    | true=>
     simp only [Be,yc] at h;subst h;exact ⟨i,e.val,by simp [Instr.findNow,hs],hv⟩
    | false=>
     simp only [Be] at h;have ih:=SZ hk hd ks vs es (i+1) r Qo Bc h;simpa [Instr.findNow,hs] using ih
def MQ {P:y7} {kt:yv} {d:vl} (hu:P.underlying kt=some d) (hd:Pj d=true) (b:Bool) (k:yf):(Instr.checkKey b 10000 kt k).run P w= .ok () w:=by
 have:∀n,(Instr.checkKey b (n+1) kt k).run P w= .ok () w:=by
  intro n;cases d<;>simp [Pj] at hd<;>simp [Instr.checkKey,run_underlying hu]
 exact this 9999
def asK {t kt e:yv} {d:vl} {ok:Bool} {hp:Hp} {ct:Nat} {vx vk v:AV} {x k zero:yf} (hh:bg O m S w hp ct) (hu:O.P.underlying t=some (.map kt e)) (hk:O.P.underlying kt=some d) (hd:Pj d=true)
  (hdk:fits d vk=true)
  (hz:(zeroValue e).run O.P w= .ok zero w) (hx:aj O.ai m S w vx x) (hkr:aj O.ai m S w vk k) {z:AV} (WV:aj O.ai m S w z zero)
  {r:Option AV}
  (hr:Cg hp vk vx=some r)
  (hv:(match r with | some u=>(bif ok then AV.aw [u,.bool true] else u) | none=>(bif ok then AV.aw [z,.bool false] else z))=v):
  ∃u,(Instr.lookup t x k ok).run O.P w= .ok u w/\aj O.ai m S w v u:=by
 have fin:∀(u:AV) (uu:yf) (b:Bool),aj O.ai m S w u uu->aj O.ai m S w (bif ok then AV.aw [u,.bool b] else u) (if ok then .tuple #[uu,.bool b] else uu):=by
  intro u uu b h
  cases ok with
  | true=>simp only [ym,yV,aj,au];exact ⟨_,rfl,_,_,rfl,h,_,_,rfl,rfl,rfl⟩
  | false=>simpa using h
 have body:∀(x':yf) (es:Array uB),((x'= .map none/\es=#[])\/∃b clock,x'= .map (some b)/\w.heap[b]? =some (.map es clock))->Found O.ai m S w (Instr.findNow d k es.toList 0) r->
   ∃u,(Instr.lookup t x' k ok).run O.P w= .ok u w/\aj O.ai m S w v u:=by
  intro x' es hl hf
  cases r with
  | none=>
   have nG:Instr.findNow d k es.toList 0=some none:=hf;refine ⟨if ok then .tuple #[zero,.bool false] else zero,?_,by rw [<-hv];exact fin z zero false WV⟩
   rcases hl with ⟨rfl,rfl⟩ | ⟨b,clock,rfl,hb⟩
   ·have Vm:Instr.findNow d k [] 0=some none:=rfl;simp [Instr.lookup,run_underlying hu,MQ hk hd,Instr.findKey,run_underlying hk,Vm,hz]
   ·simp [Instr.lookup,run_underlying hu,getObj,Sem.run,hb,MQ hk hd,Instr.findKey,run_underlying hk,nG,hz]
  | some v'=>
   obtain ⟨j,u,h1,h2⟩:=hf;refine ⟨if ok then .tuple #[u,.bool true] else u,?_,by rw [<-hv];exact fin v' u true h2⟩
   rcases hl with ⟨rfl,rfl⟩ | ⟨b,clock,rfl,hb⟩
   ·have Vm:Instr.findNow d k [] 0=some none:=rfl;rw [show (#[]:Array uB).toList=[] from rfl,Vm] at h1;cases h1
   ·simp [Instr.lookup,run_underlying hu,getObj,Sem.run,hb,MQ hk hd,Instr.findKey,run_underlying hk,h1]
 cases vx<;>simp only [Cg,reduceCtorEq] at hr
 case kF=>
  simp only [yc] at hr;subst hr;simp only [aj] at hx;subst hx;exact body _ #[] (.inl ⟨rfl,rfl⟩) rfl
 case map id=>
  simp only [aj] at hx;obtain ⟨p,hm,rfl⟩:=hx
  split at hr
  case h_2=>cases hr
  rename_i WU ks vs D3;obtain ⟨p',es,clock,fR,hb,h1,h2,_⟩:=hh.obj id _ _ D3 hm;rw [hm] at fR;injection fR with fR;subst fR
  exact body _ es (.inr ⟨_,_,rfl,hb⟩) (SZ hkr hdk ks vs es.toList 0 r h1 h2 hr)
 case jS ks vs=>
  simp only [aj] at hx;obtain ⟨b,es,clock,rfl,_,_,_,hb,h1,h2⟩:=hx;exact body _ es (.inr ⟨_,_,rfl,hb⟩) (SZ hkr hdk ks vs es.toList 0 r h1 h2 hr)
end
end
section
open Go
def I2:∀(k1 k2:List Nat) (a b:List AV) (r:Bool),ef (k1++k2) a b=some r->
  ∃r1 r2,ef k1 (a.take k1.length) (b.take k1.length)=some r1/\ef k2 (a.drop k1.length) (b.drop k1.length)=some r2/\r=(r1&&r2)
 | [],k2,a,b,r,h=>⟨true,r,by simp [ef],by simpa using h,by simp⟩
 | k::k1,k2,[],b,r,h=>by
  simp only [yW] at h;unfold ef at h
  grind
 | k::k1,k2,x::a,[],r,h=>by
  unfold ef at h
  grind
 | k::k1,k2,x::a,y::b,r,h=>by
  have step:∀(q:Bool) (f:Bool->Bool),(match ef (k1++k2) a b with | some r=>some (f r) | none=>none)=some q->∃r0,ef (k1++k2) a b=some r0/\q=f r0:=by grind
  unfold ef at h
  split at h
  ·grind
  ·rename_i e1 e2 e3;obtain ⟨rfl,rfl⟩:=e1;obtain ⟨rfl,rfl⟩:=e2;obtain ⟨rfl,rfl⟩:=e3;obtain ⟨r0,h0,rfl⟩:=step r _ h;obtain ⟨r1,r2,h1,h2,rfl⟩:=I2 k1 k2 _ _ r0 h0;exact ⟨_,r2,by simp only [yy,wm,ef,h1],by simpa using h2,(tc _ _ _).symm⟩
  ·rename_i e1 e2 e3;obtain ⟨rfl,rfl⟩:=e1;obtain ⟨rfl,rfl⟩:=e2;obtain ⟨rfl,rfl⟩:=e3
   split at h
   ·rename_i hk;obtain ⟨r0,h0,rfl⟩:=step r _ h;obtain ⟨r1,r2,h1,h2,rfl⟩:=I2 k1 k2 _ _ r0 h0;exact ⟨_,r2,by simp only [yy,wm,ef,h1,hk,yV],by simpa using h2,(tc _ _ _).symm⟩
   ·cases h
  ·rename_i e1 e2 e3;obtain ⟨rfl,rfl⟩:=e1;obtain ⟨rfl,rfl⟩:=e2;obtain ⟨rfl,rfl⟩:=e3;obtain ⟨r0,h0,rfl⟩:=step r _ h;obtain ⟨r1,r2,h1,h2,rfl⟩:=I2 k1 k2 _ _ r0 h0;exact ⟨_,r2,by simp only [yy,wm,ef,h1],by simpa using h2,(tc _ _ _).symm⟩
  ·cases h
def ZD:∀(ks:List Nat) (a b:List AV) (r:Bool),ef ks a b=some r->a.length=ks.length/\b.length=ks.length
 | [],a,b,r,h=>by
  unfold ef at h
  grind
 | k::ks,[],b,r,h=>by
  unfold ef at h
  grind
 | k::ks,x::a,[],r,h=>by
  unfold ef at h
  grind
 | k::ks,x::a,y::b,r,h=>by
  have:∃r0,ef ks a b=some r0:=by
   cases he:ef ks a b with
   | some r0=>exact ⟨r0,rfl⟩
   | none=>unfold ef at h;split at h<;>simp_all
  obtain ⟨r0,h0⟩:=this
  have:=ZD ks a b r0 h0
  simp [this]
def Hf (P:y7) (t:yv) (x:yf) (xs:List yf):Prop:=(eD P t=some true/\x= .agg xs.toArray)\/(eD P t=some false/\xs=[x])
section
variable {P:y7} {ai:Nat->Nat} {m:Mp} {S:Nat->Prop} {w:yh}
def R7 {t:yv} {ag:Bool} (ha:eD P t=some ag):(isAgg t).run P w= .ok ag w:=by
 unfold eD at ha
 cases hu:P.underlying t with
 | none=>simp [hu] at ha
 | some d=>cases d<;>simp_all [isAgg,underlying]
def anW {t:yv} {s o:Nat} {xs:List yf} (hz:da P t=some s) (ha:∃ag,eD P t=some ag) (h1:eD P t=some false->s=1) (hl:o+s<=xs.length):
  ∃u,(part t xs.toArray o).run P w= .ok u w/\Hf P t u ((xs.drop o).take s):=by
 obtain ⟨ag,ha⟩:=ha
 cases ag with
 | true=>
  refine ⟨.agg ((xs.drop o).take s).toArray,?_,.inl ⟨ha,rfl⟩⟩;simp [part,R7 ha,oC hz,List.extract_eq_take_drop]
 | false=>
  have hs:=h1 ha;subst hs;have bm:o<xs.length:=by omega
  refine ⟨xs[o],?_,.inr ⟨ha,?_⟩⟩
  ·simp [part,R7 ha,wQ bm]
  ·rw [List.drop_eq_getElem_cons bm,wm,List.take_zero]
def al2 {n:Nat} {t:yv} {ks:List Nat} (h:kinds P n t=some ks):∃ag,eD P t=some ag/\(ag=false->ks.length=1):=by
 cases n with
 | zero=>simp [kinds] at h
 | succ n=>
  unfold kinds at h;unfold eD
  split at h<;>simp_all
  all_goals (rw [<-h];rfl)
def US (P:y7) (ai:Nat->Nat) (m:Mp) (S:Nat->Prop) (w:yh) (n:Nat):Prop:=
 ∀(t:yv) (ks:List Nat),kinds P n t=some ks->P.stoodInHeld t=false->∀(d:Nat),n<=d->∀(xs ys:List yf) (cs dZ:List AV) (r:Bool) (x y:yf),
  au ai m S w cs xs->au ai m S w dZ ys->ef ks cs dZ=some r->Hf P t x xs->Hf P t y ys->(Op.equalIn d t x y).run P w= .ok r w
def aaR {n:Nat} (ih:US P ai m S w n) {t:yv} {ks:List Nat} {s o d:Nat} (hk:kinds P n t=some ks) (bh:P.stoodInHeld t=false) (hz:da P t=some s) (hs:ks.length=s) (hd:n<=d)
  {xs ys:List yf} {cs dZ:List AV} (h1:au ai m S w cs xs) (h2:au ai m S w dZ ys) {r:Bool} (he:ef ks ((cs.drop o).take s) ((dZ.drop o).take s)=some r):
  ∃u u',(part t xs.toArray o).run P w= .ok u w/\(part t ys.toArray o).run P w= .ok u' w/\(Op.equalIn d t u u').run P w= .ok r w:=by
 obtain ⟨ag,ha,h1s⟩:=al2 hk;obtain ⟨l1,l2⟩:=ZD _ _ _ _ he;have q1:=jo _ _ h1;have q2:=jo _ _ h2;simp only [List.length_take,List.length_drop] at l1 l2;have oh:eD P t=some false->s=1:=fun h=>by
  grind
 have og:o+s<=xs.length\/s=0:=by omega
 have zI:o+s<=ys.length\/s=0:=by omega
 have get:∀(zs:List yf),(o+s<=zs.length\/s=0)->∃u,(part t zs.toArray o).run P w= .ok u w/\Hf P t u ((zs.drop o).take s):=by
  intro zs hl;rcases hl with hl | hl
  ·exact anW hz ⟨ag,ha⟩ oh hl
  ·subst hl
   cases ag with
   | false=>have:=oh ha;omega
   | true=>
    refine ⟨.agg ((zs.drop o).take 0).toArray,?_,.inl ⟨ha,rfl⟩⟩;simp [part,R7 ha,oC hz]
 obtain ⟨u,p1,v1⟩:=get xs og;obtain ⟨u',p2,v2⟩:=get ys zI;exact ⟨u,u',p1,p2,ih t ks hk bh d hd _ _ _ _ r u u' (Fv s (Jk o h1)) (Fv s (Jk o h2)) he v1 v2⟩
def ZE {n:Nat} (ih:US P ai m S w n) {d:Nat} (hd:n<=d) {xs ys:List yf} {cs dZ:List AV} (h1:au ai m S w cs xs) (h2:au ai m S w dZ ys):
  ∀(fs:List uF) (o:Nat) (ks:List Nat) (r:Bool),Fm P (fun u=>kinds P n u) fs o=some ks->ef ks (cs.drop o) (dZ.drop o)=some r->(Op.eqFields d xs.toArray ys.toArray fs).run P w= .ok r w
 | [],o,ks,r,h,he=>by
  simp only [Fm,yc] at h;unfold ef at he
  split at he<;>simp_all [Op.eqFields]
 | f::fs,o,ks,r,h,he=>by
  simp only [Fm] at h
  cases hk:kinds P n f.type with
  | none=>simp [hk] at h
  | some kf=>
   cases hz:da P f.type with
   | none=>simp [hk,hz] at h
   | some s=>
    simp only [hk,hz] at h
    cases hc:(f.name != "_"&&yx f.offset o&&yx kf.length s&& !P.stoodInHeld f.type) with
    | false=>rw [hc] at h;cases h
    | true=>
     rw [hc] at h;simp only [ym] at h;simp only [yg,bne_iff_ne,tf] at hc;obtain ⟨⟨⟨hn,ho⟩,hl⟩,bh⟩:=hc;have ho:=yo ho;have hl:=yo hl
     cases hr:Fm P (fun u=>kinds P n u) fs (o+s) with
     | none=>simp [hr] at h
     | some kr=>
      simp only [hr,yc] at h;subst h;obtain ⟨r1,r2,e1,e2,rfl⟩:=I2 _ _ _ _ _ he;rw [hl] at e1 e2;rw [vH,vH] at e2;obtain ⟨u,u',p1,p2,p3⟩:=aaR ih (o:=o) hk bh hz hl hd h1 h2 e1;have rest:=ZE ih hd h1 h2 fs (o+s) kr r2 hr e2;subst ho;simp only [Op.eqFields]
      cases r1 with
      | true=>simp [hn,p1,p2,p3,rest]
      | false=>simp [hn,p1,p2,p3]
def Z3 {n:Nat} (ih:US P ai m S w n) {d:Nat} (hd:n<=d) {xs ys:List yf} {cs dZ:List AV} (h1:au ai m S w cs xs) (h2:au ai m S w dZ ys)
  {e:yv} {ks:List Nat} {s:Nat} (hk:kinds P n e=some ks) (bh:P.stoodInHeld e=false) (hz:da P e=some s) (hl:ks.length=s):
  ∀(k j:Nat) (r:Bool),ef (List.replicate k ks).flatten (cs.drop (j*s)) (dZ.drop (j*s))=some r->(Op.eqItems d e s xs.toArray ys.toArray (List.range' j k)).run P w= .ok r w
 | 0,j,r,he=>by
  unfold ef at he
  split at he<;>simp_all [Op.eqItems]
 | k+1,j,r,he=>by
  obtain ⟨r1,r2,e1,e2,rfl⟩:=I2 _ _ _ _ _ he;rw [hl] at e1 e2;rw [vH,vH,show j*s+s=(j+1)*s by rw [wZ,Nat.one_mul]] at e2;obtain ⟨u,u',p1,p2,p3⟩:=aaR ih (o:=j*s) hk bh hz hl hd h1 h2 e1;have rest:=Z3 ih hd h1 h2 hk bh hz hl k (j+1) r2 e2;rw [List.range'_succ];simp only [Op.eqItems]
  cases r1 with
  | true=>simp [p1,p2,p3,rest]
  | false=>simp [p1,p2,p3]
def Um:∀(n:Nat) (t:yv) (ks:List Nat),kinds P n t=some ks->P.stoodInHeld t=false->∀(d:Nat),n<=d->∀(xs ys:List yf) (cs dZ:List AV) (r:Bool) (x y:yf),
  au ai m S w cs xs->au ai m S w dZ ys->ef ks cs dZ=some r->Hf P t x xs->Hf P t y ys->(Op.equalIn d t x y).run P w= .ok r w
 | 0,t,ks,h,_,_,_,_,_,_,_,_,_,_,_,_,_,_,_=>by simp [kinds] at h
 | n+1,t,ks,h,bh,0,hd,_,_,_,_,_,_,_,_,_,_,_,_=>by omega
 | n+1,t,ks,h,bh,d+1,hd,xs,ys,cs,dZ,r,x,y,h1,h2,he,hx,hy=>by
  unfold kinds at h;have one:∀{k:Nat},ks=[k]->eD P t=some false->∃c c',cs=[c]/\dZ=[c']/\aj ai m S w c x/\aj ai m S w c' y:=by
   intro k hk ha;rcases hx with ⟨hx,_⟩ | ⟨_,rfl⟩
   ·grind
   rcases hy with ⟨hy,_⟩ | ⟨_,rfl⟩
   ·grind
   have l1:=jo _ _ h1;have l2:=jo _ _ h2
   match cs,dZ,l1,l2 with
   | [c],[c'],_,_=>
    simp only [au] at h1 h2
    grind
  split at h
  ·rename_i hu;simp only [yc] at h;have ha:eD P t=some false:=by simp [eD,hu]
   obtain ⟨c,c',rfl,rfl,r1,r2⟩:=one h.symm ha;subst h;unfold ef at he
   split at he<;>simp_all [ef]
   subst he;simp only [aj] at r1 r2;subst r1;subst r2;simp [Op.equalIn,run_underlying hu]
  ·rename_i k0 hu;simp only [yc] at h;have ha:eD P t=some false:=by simp [eD,hu]
   obtain ⟨c,c',rfl,rfl,r1,r2⟩:=one h.symm ha;subst h;unfold ef at he
   split at he<;>simp_all [ef]
   obtain ⟨hk,he⟩:=he;subst he;simp only [aj] at r1 r2;subst r1;subst r2;simp [Op.equalIn,run_underlying hu]
  ·rename_i hu;simp only [yc] at h;have ha:eD P t=some false:=by simp [eD,hu]
   obtain ⟨c,c',rfl,rfl,r1,r2⟩:=one h.symm ha;subst h;unfold ef at he
   split at he<;>simp_all [ef]
   subst he;simp only [aj] at r1 r2;obtain ⟨s,rfl,rfl⟩:=r1;obtain ⟨s',rfl,rfl⟩:=r2;simp only [Op.equalIn,Sem.run_bind,run_underlying hu,Result.andThen_ok,Sem.run_pure,aaQ];rfl
  ·rename_i fs hu;have ha:eD P t=some true:=by simp [eD,hu]
   rcases hx with ⟨_,rfl⟩ | ⟨hx,_⟩
   ·rcases hy with ⟨_,rfl⟩ | ⟨hy,_⟩
    ·have hf:P.fieldsOf t=fs:=by simp [Program.fieldsOf,hu]
     rw [run_equalIn_struct w d t _ _ (by rw [hf];exact hu) bh,hf]
     exact ZE (Um n) (by omega) h1 h2 fs.toList 0 ks r h (by simpa using he)
    ·rw [ha] at hy;cases hy
   ·rw [ha] at hx;cases hx
  ·rename_i k e hu;have ha:eD P t=some true:=by simp [eD,hu]
   rcases hx with ⟨_,rfl⟩ | ⟨hx,_⟩
   ·rcases hy with ⟨_,rfl⟩ | ⟨hy,_⟩
    ·cases hk:kinds P n e with
     | none=>simp [hk] at h
     | some ke=>
      cases hz:da P e with
      | none=>simp [hk,hz] at h
      | some s=>
       simp only [hk,hz] at h
       cases hc:(yx ke.length s&& !P.stoodInHeld e) with
       | false=>rw [hc] at h;cases h
       | true=>
        rw [hc] at h;simp only [ym,yc] at h;subst h;simp only [yg,tf] at hc;have fZ:=hz;unfold da at fZ
        cases hi:P.info? e with
        | none=>simp [hi] at fZ
        | some i=>
         simp only [hi,yc] at fZ;have rR:P.cellsOf e=s:=by simp [Program.cellsOf,hi,fZ]
         rw [run_equalIn_array w d _ _ hu hi,rR,List.range_eq_range'];exact Z3 (Um n) (by omega) h1 h2 hk hc.2 hz (yo hc.1) k 0 r (by simpa using he)
    ·rw [ha] at hy;cases hy
   ·rw [ha] at hx;cases hx
  ·cases h
end
end
section
open Go
def eb {tm:Env} {hp:Hp} {v:AV} (h:bH tm hp bad=some v):False:=by simp [bad,bH] at h
section
variable {O:bD} {H:Hint} {m:Mp} {S:Nat->Prop} {w:yh} {tm:Env} {a:Act} {hp:Hp} {ct:Nat}
def aqm {ai:Nat->Nat} {va vb v:AV} {x y:yf} (hx:aj ai m S w va x) (hy:aj ai m S w vb y) (h:VE.min2 va vb=some v):∃u,(Builtin.min2 x y).run O.P w= .ok u w/\aj ai m S w v u:=by
 unfold VE.min2 at h
 split at h
 ·simp only [aj] at hx hy;subst hx;subst hy;simp only [yc] at h;subst h;exact ⟨_,by simp only [Builtin.min2,Sem.run_pure];rfl,by simp only [aj]⟩
 ·rename_i k p k' q;simp only [aj] at hx hy;subst hx;subst hy
  cases ho:k.format.order p q with
  | none=>simp [ho] at h
  | some c=>cases c<;>(simp only [ho,yc] at h;subst h;exact ⟨_,by simp only [Builtin.min2,ho,Sem.run_pure];rfl,by simp only [aj]⟩)
 ·cases h
def aqn {ai:Nat->Nat} {va vb v:AV} {x y:yf} (hx:aj ai m S w va x) (hy:aj ai m S w vb y) (h:VE.max2 va vb=some v):∃u,(Builtin.max2 x y).run O.P w= .ok u w/\aj ai m S w v u:=by
 unfold VE.max2 at h
 split at h
 ·simp only [aj] at hx hy;subst hx;subst hy;simp only [yc] at h;subst h;exact ⟨_,by simp only [Builtin.max2,Sem.run_pure];rfl,by simp only [aj]⟩
 ·rename_i k p k' q;simp only [aj] at hx hy;subst hx;subst hy
  cases ho:k.format.order p q with
  | none=>simp [ho] at h
  | some c=>cases c<;>(simp only [ho,yc] at h;subst h;exact ⟨_,by simp only [Builtin.max2,ho,Sem.run_pure];rfl,by simp only [aj]⟩)
 ·cases h
def TE {ai:Nat->Nat} {f:AV->AV->Option AV} {g:yf->yf->Sem yf} (hfg:∀va vb v x y,aj ai m S w va x->aj ai m S w vb y->f va vb=some v->∃u,(g x y).run O.P w= .ok u w/\aj ai m S w v u):
  ∀(l:List AV) (us:List yf) (va v:AV) (x:yf),aj ai m S w va x->au ai m S w l us->Cf f va l=some v->∃u,(us.foldlM g x).run O.P w= .ok u w/\aj ai m S w v u
 | [],us,va,v,x,hx,hl,h=>by
  simp only [au] at hl;subst hl;simp only [Cf,yc] at h;subst h;exact ⟨x,by simp,hx⟩
 | b::l,us,va,v,x,hx,hl,h=>by
  simp only [au] at hl;obtain ⟨u,r,rfl,hu,hr⟩:=hl;simp only [Cf] at h
  cases hf:f va b with
  | none=>simp [hf] at h
  | some c=>
   simp only [hf] at h;obtain ⟨u1,h1,h2⟩:=hfg _ _ _ _ _ hx hu hf;obtain ⟨u2,h3,h4⟩:=TE hfg l r c v u1 h2 hr h;exact ⟨u2,by simp [h1,h3],h4⟩
def Un {t:yv} {vx v:AV} {x:yf} {ty:yv} (hh:bg O m S w hp ct) (hx:aj O.ai m S w vx x)
  {k:Nat} (hu:(k=0/\O.P.underlying t=some .string)\/(k=1/\∃e,O.P.underlying t=some (.slice e))\/(k=2/\∃kt e,O.P.underlying t=some (.map kt e)))
  (h:im hp k vx=some v):∃u,(Builtin.len_ #[t] ty #[x]).run O.P w= .ok u w/\aj O.ai m S w v u:=by
 rcases hu with ⟨rfl,hu⟩ | ⟨rfl,e,hu⟩ | ⟨rfl,kt,e,hu⟩
 all_goals cases vx<;>simp only [im,reduceCtorEq] at h
 case inl.str s=>
  simp only [aj] at hx;obtain ⟨b,rfl,rfl⟩:=hx;simp only [yc] at h;subst h;refine ⟨_,by simp [Builtin.len_,run_underlying hu];rfl,?_⟩
  simp only [aj,goInt];rw [Lib.size_eq];simp
 case inr.inl.ae=>
  simp only [aj] at hx;subst hx;simp only [yc] at h;subst h;exact ⟨_,by simp [Builtin.len_,run_underlying hu];rfl,by simp [aj,goInt]⟩
 case inr.inl.aO ex n cs=>
  simp only [aj] at hx;rcases hx with ⟨b,o,c,rfl,_⟩ | ⟨a,rfl,rfl,rfl⟩
  all_goals
   simp only [yc] at h;subst h;exact ⟨_,by simp [Builtin.len_,run_underlying hu];rfl,by simp [aj,goInt]⟩
 case inr.inl.ak id o n=>
  simp only [aj] at hx;obtain ⟨p,c,_,rfl,_⟩:=hx;simp only [yc] at h;subst h;exact ⟨_,by simp [Builtin.len_,run_underlying hu];rfl,by simp [aj,goInt]⟩
 case inr.inr.kF=>
  simp only [aj] at hx;subst hx;simp only [yc] at h;subst h;exact ⟨_,by simp [Builtin.len_,run_underlying hu];rfl,by simp [aj,goInt]⟩
 case inr.inr.jS ks vs=>
  simp only [aj] at hx;obtain ⟨b,es,clock,rfl,_,_,_,hb,h1,_⟩:=hx;simp only [yc] at h;subst h;refine ⟨_,by simp [Builtin.len_,run_underlying hu,getObj,Sem.run,hb];rfl,?_⟩
  have:=jo _ _ h1
  simp only [aj,goInt];rw [<-this];simp
 case inr.inr.map id=>
  simp only [aj] at hx;obtain ⟨p,hm,rfl⟩:=hx
  split at h
  case h_2=>cases h
  rename_i WU ks vs D3;simp only [yc] at h;subst h;obtain ⟨p',es,clock,fR,hb,h1,_⟩:=hh.obj id _ _ D3 hm;rw [hm] at fR;injection fR with fR;subst fR
  refine ⟨_,by simp [Builtin.len_,run_underlying hu,getObj,Sem.run,hb];rfl,?_⟩
  have:=jo _ _ h1
  simp only [aj,goInt];rw [<-this];simp
end
end
section
open Go
section
variable {O:bD} {H:Hint} {m:Mp} {S:Nat->Prop} {w:yh} {tm:Env} {a:Act} {hp:Hp} {ct:Nat}
def FH {t:yv} {z:AV} (h:nY O.P t=some z):∃v,(zeroValue t).run O.P w= .ok v w/\z=fe v:=by
 unfold nY at h
 cases hi:O.P.info? t with
 | none=>simp [hi] at h
 | some i=>
  simp only [hi] at h
  cases hz:i.zero with
  | none=>simp [hz] at h
  | some v=>
   simp only [hz,yc] at h;exact ⟨v,by simp [zeroValue,typeInfo,hi,hz],h.symm⟩
def Reads (O:bD) (m:Mp) (S:Nat->Prop) (w:yh) (a:Act) (o:yY) (v:AV):Prop:=
 ∃u,(execOp a.eval o).run O.P w= .ok (.value u) w/\aj O.ai m S w v u
def kR {o:yY} {v:AV} {s:Sem yf} (he:execOp a.eval o=(do pure (.value (<-s)):Sem Next)) (h:∃u,s.run O.P w= .ok u w/\aj O.ai m S w v u):Reads O m S w a o v:=by
 obtain ⟨u,h1,h2⟩:=h;exact ⟨u,by rw [he];simp [h1],h2⟩
def anX {o:yY} {op:BinOp} {t ty:yv} {x y:xB} {k:Nat} {v:AV} (hH:gl O H) (ht:cF O m S w tm a.tmps) (ho:o.op= .binOp op t x y ty)
  (hv:bH tm hp (bw O.P H k o)=some v):Reads O m S w a o v:=by
 have rx:=cQ hH ht x;have ry:=cQ hH ht y;have guard:∀{u:yf},(∀xs ys,¬(a.eval x= .agg xs/\a.eval y= .agg ys))\/O.P.eqGuardType O.P.depth t=false->a.eval x≠.nilIface->(xI op t (a.eval x) (a.eval y)).run O.P w= .ok u w->
   (do eqGuard op t x y (a.eval x) (a.eval y);xI op t (a.eval x) (a.eval y):Sem yf).run O.P w= .ok u w:=by
  intro u h1 h2 h3
  simp only [Sem.run_bind,ak6 (P:=O.P) (w:=w) (t:=t) (op:=op) (x:=x) (y:=y) (h1.symm) h2,Result.andThen_ok,h3]
 have plain:bH tm hp (.bin op (aV H x) (aV H y))=some v->Reads O m S w a o v:=by
  intro hv;simp only [bH] at hv;obtain ⟨u,h1,h2⟩:=anT (P:=O.P) (t:=t) rx ry hv
  refine kR (s:=do eqGuard op t x y (a.eval x) (a.eval y);xI op t (a.eval x) (a.eval y)) (by simp only [execOp,ho]) ⟨u,guard (.inl ?_) ?_ h1,h2⟩
  ·rintro xs ys ⟨e1,e2⟩;rw [e1] at rx;unfold VE.binOp at hv
   split at hv
   ·rename_i h3 _;rw [h3] at rx;simp [aj] at rx
   ·rename_i h3 _;rw [h3] at rx;simp [aj] at rx
   ·rename_i h3 _;rw [h3] at rx;simp [aj] at rx
   ·cases hv
  ·intro e1;rw [e1] at rx;unfold VE.binOp at hv
   split at hv
   ·rename_i h3 _;rw [h3] at rx;simp [aj] at rx
   ·rename_i h3 _;rw [h3] at rx;simp [aj] at rx
   ·rename_i h3 _;rw [h3] at rx;simp [aj] at rx
   ·cases hv
 have other:∀(ne:Bool) (kd:VE.Ql),(op= .eql/\ne=false\/op= .neq/\ne=true)->(∀r,iV kd (aC tm (aV H x)) (aC tm (aV H y))=some r->(Op.equal t (a.eval x) (a.eval y)).run O.P w= .ok r w/\
    ((∀xs ys,¬(a.eval x= .agg xs/\a.eval y= .agg ys))\/O.P.eqGuardType O.P.depth t=false)/\a.eval x≠.nilIface/\
    ∀q:Bool,(op= .eql->xI op t (a.eval x) (a.eval y)=(do pure (.bool (<-Op.equal t (a.eval x) (a.eval y)))))/\(op= .neq->xI op t (a.eval x) (a.eval y)=(do pure (.bool (!(<-Op.equal t (a.eval x) (a.eval y)))))))->
   bH tm hp (.eq ne kd (aV H x) (aV H y))=some v->Reads O m S w a o v:=by
  intro ne kd kK nt hv;simp only [bH] at hv
  cases he:iV kd (aC tm (aV H x)) (aC tm (aV H y)) with
  | none=>simp [he] at hv
  | some r=>
   simp only [he,yc] at hv;subst hv;obtain ⟨h1,h2,h3,h4⟩:=nt r he;obtain ⟨h5,h6⟩:=h4 true
   refine kR (s:=do eqGuard op t x y (a.eval x) (a.eval y);xI op t (a.eval x) (a.eval y)) (by simp only [execOp,ho]) ⟨.bool (ne !=r),guard h2 h3 ?_,by simp [aj]⟩
   rcases kK with ⟨rfl,rfl⟩ | ⟨rfl,rfl⟩
   ·rw [h5 rfl];simp [h1]
   ·rw [h6 rfl];simp [h1]
 have pB:O.P.underlying t=some .bool->∀r,iV .b (aC tm (aV H x)) (aC tm (aV H y))=some r->∃p q,a.eval x= .bool p/\a.eval y= .bool q/\(Op.equal t (a.eval x) (a.eval y)).run O.P w= .ok r w:=by
  intro hu r he;cases hx:aC tm (aV H x)<;>cases hy:aC tm (aV H y)<;>rw [hx,hy] at he<;>simp only [iV,reduceCtorEq] at he
  rw [hx] at rx;rw [hy] at ry;simp only [aj] at rx ry;simp only [yc] at he;refine ⟨_,_,rx,ry,?_⟩;rw [rx,ry,ND,<-he];exact asD hu
 have pS:∀e,O.P.underlying t=some (.slice e)->∀r,iV .sl (aC tm (aV H x)) (aC tm (aV H y))=some r->∃p n c q n' c',a.eval x= .slice p n c/\a.eval y= .slice q n' c'/\(Op.equal t (a.eval x) (a.eval y)).run O.P w= .ok r w:=by
  intro e hu r he;have h1:=aqj hu rx ry he;have sl:∀{v:AV} {u:yf},aj O.ai m S w v u->(v= .ae\/(∃a b c,v= .aO a b c)\/∃a b c,v= .ak a b c)->∃p n c,u= .slice p n c:=by
   intro v u hr hv;rcases hv with rfl | ⟨_,_,_,rfl⟩ | ⟨_,_,_,rfl⟩
   ·simp only [aj] at hr;exact ⟨_,_,_,hr⟩
   ·simp only [aj] at hr;rcases hr with ⟨b,o,c,hr,_⟩ | ⟨_,hr,_⟩<;>exact ⟨_,_,_,hr⟩
   ·simp only [aj] at hr;obtain ⟨b,c,_,hr,_⟩:=hr;exact ⟨_,_,_,hr⟩
  have di:(aC tm (aV H x)= .ae\/(∃a b c,aC tm (aV H x)= .aO a b c)\/∃a b c,aC tm (aV H x)= .ak a b c)/\
    (aC tm (aV H y)= .ae\/(∃a b c,aC tm (aV H y)= .aO a b c)\/∃a b c,aC tm (aV H y)= .ak a b c):=by
   cases hx:aC tm (aV H x)<;>cases hy:aC tm (aV H y)<;>rw [hx,hy] at he<;>simp [iV] at he ⊢
  obtain ⟨p,n,c,e1⟩:=sl rx di.1;obtain ⟨q,n',c',e2⟩:=sl ry di.2;exact ⟨p,n,c,q,n',c',e1,e2,h1⟩
 have pF:∀ps rs vr,O.P.underlying t=some (.func ps rs vr)->∀r,iV .fn (aC tm (aV H x)) (aC tm (aV H y))=some r->
   ((a.eval x= .nilFunc\/∃f p q,a.eval x= .func f p q)/\(a.eval y= .nilFunc\/∃f p q,a.eval y= .func f p q))/\(Op.equal t (a.eval x) (a.eval y)).run O.P w= .ok r w:=by
  intro ps rs vr hu r he;have h1:=aqk hu rx ry he;have sl:∀{v:AV} {u:yf},aj O.ai m S w v u->(v= .iH\/(∃a b c,v= .fn a b c))->(u= .nilFunc\/∃f p q,u= .func f p q):=by
   intro v u hr hv;rcases hv with rfl | ⟨f,_,_,rfl⟩
   ·simp only [aj] at hr;exact .inl hr
   ·cases f with
    | f g=>simp only [aj] at hr;obtain ⟨b,c,hr,_⟩:=hr;exact .inr ⟨_,_,_,hr⟩
    | y l=>simp only [aj] at hr;obtain ⟨b,_,hr⟩:=hr;exact .inr ⟨_,_,_,hr⟩
  have di:(aC tm (aV H x)= .iH\/(∃a b c,aC tm (aV H x)= .fn a b c))/\(aC tm (aV H y)= .iH\/(∃a b c,aC tm (aV H y)= .fn a b c)):=by
   cases hx:aC tm (aV H x)<;>cases hy:aC tm (aV H y)<;>rw [hx,hy] at he<;>simp [iV] at he ⊢
  exact ⟨⟨sl rx di.1,sl ry di.2⟩,h1⟩
 have pA:∀ks,kinds O.P 20 t=some ks->eD O.P t=some true->O.P.stoodInHeld t=false->∀r,iV (.ag ks) (aC tm (aV H x)) (aC tm (aV H y))=some r->∃p q,a.eval x= .agg p/\a.eval y= .agg q/\(Op.equal t (a.eval x) (a.eval y)).run O.P w= .ok r w:=by
  intro ks hk ha bh r he;cases hx:aC tm (aV H x)<;>cases hy:aC tm (aV H y)<;>rw [hx,hy] at he<;>simp only [iV,reduceCtorEq] at he
  rw [hx] at rx;rw [hy] at ry;simp only [aj] at rx ry;obtain ⟨p,e1,h1⟩:=rx;obtain ⟨q,e2,h2⟩:=ry;refine ⟨p,q,e1,e2,?_⟩;rw [e1,e2,ND];exact Um 20 t ks hk bh 10000 (by omega) _ _ _ _ r _ _ h1 h2 he (.inl ⟨ha,by simp⟩) (.inl ⟨ha,by simp⟩)
 have eqs:∀(ne:Bool),(op= .eql/\ne=false\/op= .neq/\ne=true)->bH tm hp (sS O.P H ne op t x y)=some v->Reads O m S w a o v:=by
  intro ne kK hv;have agg:eD O.P t=some true->bH tm hp (Al O.P H ne t x y)=some v->Reads O m S w a o v:=by
   intro ha hv;unfold Al at hv
   cases hk:kinds O.P 20 t with
   | none=>rw [hk] at hv;exact (eb hv).elim
   | some ks=>
    simp only [hk] at hv
    cases hc:(O.P.stoodInHeld t||O.P.eqGuardType O.P.depth t) with
    | true=>rw [hc] at hv;exact (eb hv).elim
    | false=>
     rw [hc] at hv;simp only [yD] at hv;simp only [Bool.or_eq_false_iff] at hc;refine other ne (.ag ks) kK (fun r hr=>?_) hv;obtain ⟨p,q,e1,e2,h1⟩:=pA ks hk ha hc.1 r hr;refine ⟨h1,.inr hc.2,by rw [e1];simp,fun _=>?_⟩
     rw [e1,e2];exact ⟨fun e=>by subst e;rfl,fun e=>by subst e;rfl⟩
  unfold sS at hv
  split at hv
  ·exact plain hv
  ·exact plain hv
  ·exact plain hv
  ·rename_i hu;refine other ne .b kK (fun r hr=>?_) hv;obtain ⟨p,q,e1,e2,h1⟩:=pB hu r hr;refine ⟨h1,.inl (by rw [e1];simp),by rw [e1];simp,fun _=>?_⟩
   rw [e1,e2];exact ⟨fun e=>by subst e;rfl,fun e=>by subst e;rfl⟩
  ·rename_i e hu;refine other ne .sl kK (fun r hr=>?_) hv;obtain ⟨p,n,c,q,n',c',e1,e2,h1⟩:=pS e hu r hr;refine ⟨h1,.inl (by rw [e1];simp),by rw [e1];simp,fun _=>?_⟩
   rw [e1,e2];exact ⟨fun e=>by subst e;rfl,fun e=>by subst e;rfl⟩
  ·rename_i ps rs vr hu;refine other ne .fn kK (fun r hr=>?_) hv;obtain ⟨⟨e1,e2⟩,h1⟩:=pF ps rs vr hu r hr;refine ⟨h1,.inl ?_,?_,fun _=>?_⟩
   ·rcases e1 with e1 | ⟨_,_,_,e1⟩<;>rw [e1]<;>simp
   ·rcases e1 with e1 | ⟨_,_,_,e1⟩<;>rw [e1]<;>simp
   ·rcases e1 with e1 | ⟨_,_,_,e1⟩<;>rcases e2 with e2 | ⟨_,_,_,e2⟩<;>rw [e1,e2]<;>exact ⟨fun e=>by subst e;rfl,fun e=>by subst e;rfl⟩
  ·rename_i fs hu;exact agg (by simp [eD,hu]) hv
  ·rename_i k0 e hu;exact agg (by simp [eD,hu]) hv
  ·exact (eb hv).elim
 cases op
 case eql=>exact eqs false (.inl ⟨rfl,rfl⟩) (by simpa only [bw,ho] using hv)
 case neq=>exact eqs true (.inr ⟨rfl,rfl⟩) (by simpa only [bw,ho] using hv)
 all_goals exact plain (by simpa only [bw,ho] using hv)
end
end
end VE
