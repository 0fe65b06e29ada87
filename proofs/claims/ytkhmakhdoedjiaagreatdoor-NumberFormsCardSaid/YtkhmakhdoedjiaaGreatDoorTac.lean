import Derived.WideLaws
import Derived.Maps.Keyed
import Derived.Test.YtkhmakhdoedjiaaGreatDoorTab
set_option linter.all false
set_option maxRecDepth 100000
section
namespace VE
open Go
section
variable {fid:Nat→Nat} {P:Program} {m:Mp} {S:Nat→Prop} {w:World} {t:TypeId}
theorem zpd {op:BinOp} {x y:Operand} {a b:Value} (h:P.eqGuardType P.depth t=false∨∀xs ys,¬(a= .agg xs∧b= .agg ys)) (hn:a≠.nilIface):
  (eqGuard op t x y a b).run P w= .ok () w:=by
 unfold eqGuard;cases op
 all_goals first
  | rfl
  | (
    cases a
    all_goals first
     | rfl
     | exact absurd rfl hn
     | (
      cases b
      all_goals first
       | rfl
       | (
         rcases h with h | h
         ·simp [h]
         ·exact absurd ⟨rfl,rfl⟩ (h _ _))))
theorem zHB {d:Nat} {p q:Bool} (ht:P.underlying t=some .bool):(Op.equalIn (d+1) t (.bool p) (.bool q)).run P w= .ok (p==q) w:=by
 simp [Op.equalIn,underlying,ht]
theorem zxn {d:Nat} {e:TypeId} (ht:P.underlying t=some (.slice e)) (y:Option Addr) (n c n' c':Nat):
  (Op.equalIn (d+1) t (.slice none n c) (.slice y n' c')).run P w= .ok y.isNone w:=by simp [Op.equalIn,underlying,ht]
theorem zDD {d:Nat} {e:TypeId} (ht:P.underlying t=some (.slice e)) (x:Addr) (n c n' c':Nat):
  (Op.equalIn (d+1) t (.slice (some x) n c) (.slice none n' c')).run P w= .ok false w:=by simp [Op.equalIn,underlying,ht]
theorem zMW {d:Nat} {ps rs:Array TypeId} {vr:Bool} (ht:P.underlying t=some (.func ps rs vr)):
  (Op.equalIn (d+1) t .nilFunc .nilFunc).run P w= .ok true w:=by simp [Op.equalIn,underlying,ht]
theorem zDk {d:Nat} {ps rs:Array TypeId} {vr:Bool} (ht:P.underlying t=some (.func ps rs vr)) (f:Go.Fn) (a b:Array Value):
  (Op.equalIn (d+1) t .nilFunc (.func f a b)).run P w= .ok false w:=by simp [Op.equalIn,underlying,ht]
theorem zDd {d:Nat} {ps rs:Array TypeId} {vr:Bool} (ht:P.underlying t=some (.func ps rs vr)) (f:Go.Fn) (a b:Array Value):
  (Op.equalIn (d+1) t (.func f a b) .nilFunc).run P w= .ok false w:=by simp [Op.equalIn,underlying,ht]
theorem zg6 (x y:Value):Op.equal t x y=Op.equalIn (9999+1) t x y:=rfl
theorem zAG {vx vy:AV} {x y:Value} {r:Bool} {e:TypeId} (ht:P.underlying t=some (.slice e)) (hx:zm fid m S w vx x) (hy:zm fid m S w vy y)
  (h:zeI .sl vx vy=some r):(Op.equal t x y).run P w= .ok r w:=by
 rw [zg6];unfold zeI at h
 split at h<;>simp_all only [Option.some.injEq,reduceCtorEq]
 all_goals subst h
 all_goals simp only [zm] at hx hy
 ·subst hx;subst hy;exact zxn ht _ _ _ _ _
 ·rcases hy with ⟨b,o,c,rfl,_⟩ | ⟨_,rfl,_⟩<;>(subst hx;exact zxn ht _ _ _ _ _)
 ·obtain ⟨p,c,_,rfl,_⟩:=hy;subst hx;exact zxn ht _ _ _ _ _
 ·rcases hx with ⟨b,o,c,rfl,_⟩ | ⟨_,rfl,_⟩<;>(subst hy;exact zDD ht _ _ _ _ _)
 ·obtain ⟨p,c,_,rfl,_⟩:=hx;subst hy;exact zDD ht _ _ _ _ _
theorem zCN {vx vy:AV} {x y:Value} {r:Bool} {ps rs:Array TypeId} {vr:Bool} (ht:P.underlying t=some (.func ps rs vr)) (hx:zm fid m S w vx x) (hy:zm fid m S w vy y)
  (h:zeI .fn vx vy=some r):(Op.equal t x y).run P w= .ok r w:=by
 rw [zg6];unfold zeI at h
 split at h<;>simp_all only [Option.some.injEq,reduceCtorEq]
 all_goals subst h
 ·simp only [zm] at hx hy;subst hx;subst hy;exact zMW ht
 ·rename_i f _ _
  cases f with
  | f g=>simp only [zm] at hx hy;obtain ⟨fi,ca,rfl,_⟩:=hy;subst hx;exact zDk ht _ _ _
  | y l=>simp only [zm] at hx hy;obtain ⟨p,_,rfl⟩:=hy;subst hx;exact zDk ht _ _ _
 ·rename_i f _ _
  cases f with
  | f g=>simp only [zm] at hx hy;obtain ⟨fi,ca,rfl,_⟩:=hx;subst hy;exact zDd ht _ _ _
  | y l=>simp only [zm] at hx hy;obtain ⟨p,_,rfl⟩:=hx;subst hy;exact zDd ht _ _ _
theorem zzZ {op:UnOp} {vx v:AV} {x:Value} (hx:zm fid m S w vx x) (h:VE.unOp op vx=some v):∃u,(Op.unary op x).run P w= .ok u w∧zm fid m S w v u:=by
 unfold VE.unOp at h
 split at h
 ·rename_i k n;simp only [zm] at hx;subst hx;simp only [Option.some.injEq] at h;subst h;exact ⟨_,by simp [Op.unary,Op.intArith];rfl,by simp [zm]⟩
 ·rename_i k n;simp only [zm] at hx;subst hx;simp only [zdy,Option.some.injEq] at h;subst h;exact ⟨_,by simp [Op.unary,Op.intBits];rfl,by simp [zm]⟩
 ·rename_i b;simp only [zm] at hx;subst hx;simp only [Option.some.injEq] at h;subst h;exact ⟨_,by simp [Op.unary];rfl,by simp [zm]⟩
 ·rename_i k b;simp only [zm] at hx;subst hx;simp only [Option.some.injEq] at h;subst h;exact ⟨_,by simp [Op.unary,Op.negFloat];rfl,by simp [zm]⟩
 ·cases h
theorem znq {s d:TypeId} {k:IntKind} {vx v:AV} {x:Value} (hd:P.underlying d=some (.int k)) (hs:(∃k',P.underlying s=some (.int k'))∨∃k',P.underlying s=some (.float k'))
  (hx:zm fid m S w vx x) (h:ziV (.toInt k) vx=some v):∃u,(convert s d x).run P w= .ok u w∧zm fid m S w v u:=by
 cases vx<;>simp only [ziV,reduceCtorEq] at h
 case int k0 n=>
  simp only [zm] at hx;subst hx;simp only [Option.some.injEq] at h;subst h;refine ⟨.int k (k.wrap n),?_,by simp [zm]⟩;rcases hs with ⟨k',h'⟩ | ⟨k',h'⟩<;>simp [convert,underlying,Conv.intToInt,hd,h']
 case flt sk b=>
  simp only [zm] at hx;subst hx
  cases hi:(sk.decode b).toInt .zero with
  | none=>simp [hi] at h
  | some n=>
   simp only [hi] at h;by_cases hr:k.min≤n∧n≤k.max
   ·simp only [hr,and_self,if_true,Option.some.injEq] at h;subst h;refine ⟨.int k n,?_,by simp [zm]⟩;rcases hs with ⟨k',h'⟩ | ⟨k',h'⟩<;>simp [convert,underlying,Conv.floatToInt,hd,h',hi,hr]
   ·simp [hr] at h
theorem zns {s d:TypeId} {k:FloatKind} {vx v:AV} {x:Value} (hd:P.underlying d=some (.float k)) (hs:(∃k',P.underlying s=some (.int k'))∨∃k',P.underlying s=some (.float k'))
  (hx:zm fid m S w vx x) (h:ziV (.toFlt k) vx=some v):∃u,(convert s d x).run P w= .ok u w∧zm fid m S w v u:=by
 cases vx<;>simp only [ziV,reduceCtorEq] at h
 case int k0 n=>
  simp only [zm] at hx;subst hx;simp only [Option.some.injEq] at h;subst h;refine ⟨.float k (k.nearest n),?_,by simp [zm]⟩;rcases hs with ⟨k',h'⟩ | ⟨k',h'⟩<;>simp [convert,underlying,Conv.intToFloat,hd,h']
 case flt sk b=>
  simp only [zm] at hx;subst hx;by_cases he:sk=k
  ·subst he;simp only [if_true,Option.some.injEq] at h;subst h;refine ⟨.float sk b,?_,by simp [zm]⟩;rcases hs with ⟨k',h'⟩ | ⟨k',h'⟩<;>simp [convert,underlying,Conv.floatToFloat,hd,h']
  ·simp only [he,if_false] at h
   cases hdec:sk.decode b with
   | nan _ _=>simp [hdec] at h
   | infinity _=>simp [hdec] at h
   | number sg mm ee=>
    simp only [hdec] at h
    cases hinf:(k.decode (k.encode (.number sg mm ee))).isInfinity with
    | true=>simp [hinf] at h
    | false=>
     simp only [hinf,Bool.false_eq_true,if_false,Option.some.injEq] at h;subst h;refine ⟨.float k (k.encode (.number sg mm ee)),?_,by simp [zm]⟩;rcases hs with ⟨k',h'⟩ | ⟨k',h'⟩<;>simp [convert,underlying,Conv.floatToFloat,hd,h',he,hdec,hinf]
theorem zxL {s d:TypeId} {vx v:AV} {x:Value} (hd:P.underlying d=some .string) (hs:P.underlying s=some .string)
  (hx:zm fid m S w vx x) (h:ziV .str vx=some v):∃u,(convert s d x).run P w= .ok u w∧zm fid m S w v u:=by
 cases vx<;>simp only [ziV,reduceCtorEq] at h
 simp only [Option.some.injEq] at h;subst h;simp only [zm] at hx;obtain ⟨b,rfl,hb⟩:=hx;exact ⟨.string b,by simp [convert,underlying,hs,hd],by simp only [zm];exact ⟨b,rfl,hb⟩⟩
end
end VE
end
section
namespace VE
open Go
theorem zur {v:AV} {k:Nat} (h:zaE v=some k):∃kd,v= .int kd (k:Int):=by
 cases v<;>simp only [zaE,reduceCtorEq] at h
 rename_i kd n
 cases n with
 | ofNat j=>simp only [Option.some.injEq] at h;subst h;exact ⟨kd,rfl⟩
 | negSucc j=>cases h
section
variable {Λ:Link} {H:zbH} {m:Mp} {S:Nat→Prop} {w:World} {tm:Env} {a:Act}
theorem zdG {fid:Nat→Nat} {v:AV} {x:Value} {k:Nat} (hx:zm fid m S w v x) (h:zaE v=some k):∃kd,x= .int kd (k:Int):=by
 obtain ⟨kd,rfl⟩:=zur h;simp only [zm] at hx;exact ⟨kd,hx⟩
theorem zcE {P:Program} {kd:IntKind} {k y:Nat} {code:BoundsCode} (h:k≤y):(Instr.sliceBound (.int kd (k:Int)) y code).run P w= .ok k w:=by
 have:(0:Int)≤(k:Int)∧(k:Int)≤(y:Int):=by omega
 simp [Instr.sliceBound,asIntOf,this]
theorem zl9 {P:Program} {isSlice:Bool} {len cap l h:Nat} {lo hi:Option Operand} (hH:zaM Λ H) (ht:zaB Λ m S w tm a.tmps)
  (hl:zao tm 0 (lo.map (opX H))=some l) (hh:zao tm len (hi.map (opX H))=some h) (h1:l≤h) (h2:h≤cap):
  (Instr.sliceBounds isSlice len cap (lo.map a.eval) (hi.map a.eval) none).run P w= .ok (l,h,cap) w:=by
 cases lo with
 | none=>
  simp only [Option.map_none,zao,Option.some.injEq] at hl;subst hl
  cases hi with
  | none=>
   simp only [Option.map_none,zao,Option.some.injEq] at hh;subst hh;simp [Instr.sliceBounds]
  | some y=>
   simp only [Option.map_some,zao] at hh;obtain ⟨kd,e⟩:=zdG (zad hH ht y) hh;simp only [Instr.sliceBounds,Option.map_none,Option.map_some,e,Sem.run_bind,Sem.run_pure,Result.andThen_ok,zcE h2]
 | some x=>
  simp only [Option.map_some,zao] at hl;obtain ⟨kd,e⟩:=zdG (zad hH ht x) hl
  cases hi with
  | none=>
   simp only [Option.map_none,zao,Option.some.injEq] at hh;subst hh;simp only [Instr.sliceBounds,Option.map_none,Option.map_some,e,Sem.run_bind,Sem.run_pure,Result.andThen_ok,zcE h1]
  | some y=>
   simp only [Option.map_some,zao] at hh;obtain ⟨kd',e'⟩:=zdG (zad hH ht y) hh;simp only [Instr.sliceBounds,Option.map_some,e,e',Sem.run_bind,Sem.run_pure,Result.andThen_ok,zcE h2,zcE h1]
theorem ztF {t:TypeId} {lo hi:Option Operand} {vx v:AV} {x:Value} (hH:zaM Λ H) (ht:zaB Λ m S w tm a.tmps) (hu:Λ.P.underlying t=some .string)
  (hx:zm Λ.fid m S w vx x) {hp:Hp} (h:zbe hp .str vx tm (lo.map (opX H)) (hi.map (opX H))=some v):
  ∃u,(Instr.sliceAt t x (lo.map a.eval) (hi.map a.eval) none).run Λ.P w= .ok u w∧zm Λ.fid m S w v u:=by
 cases vx<;>simp only [zbe,reduceCtorEq] at h
 rename_i s;simp only [zm] at hx;obtain ⟨b,rfl,rfl⟩:=hx
 cases hl:zao tm 0 (lo.map (opX H)) with
 | none=>simp [hl] at h
 | some l=>
  simp only [hl] at h
  cases hh:zao tm (b.data.toList.map UInt8.toNat).length (hi.map (opX H)) with
  | none=>rw [hh] at h;cases h
  | some g=>
   rw [hh] at h;simp only at h
   cases hc:(Nat.ble l g&&Nat.ble g (b.data.toList.map UInt8.toNat).length) with
   | false=>rw [hc] at h;cases h
   | true=>
    rw [hc] at h;simp only [cond_true,Option.some.injEq] at h;subst h;simp only [Bool.and_eq_true] at hc;have h1:=Nat.le_of_ble_eq_true hc.1;have h2:=Nat.le_of_ble_eq_true hc.2;have hlen:(b.data.toList.map UInt8.toNat).length=b.size:=zls b;rw [hlen] at hh h2;refine ⟨.string (b.extract l g),?_,?_⟩
    ·simp only [Instr.sliceAt,Sem.run_bind,run_underlying hu,Result.andThen_ok,Instr.slice,Option.isSome_none,Bool.false_eq_true,if_false,Sem.run_pure,
      zl9 (P:=Λ.P) (isSlice:=false) (len:=b.size) (cap:=b.size) hH ht hl hh h1 h2]
    ·simp only [zm];refine ⟨_,rfl,?_⟩;rw [Lib.extract_data,List.map_take,List.map_drop,List.drop_take]
theorem zy6 {t e:TypeId} {sz:Nat} {lo hi:Option Operand} {vx v:AV} {x:Value} (hH:zaM Λ H) (ht:zaB Λ m S w tm a.tmps) (hu:Λ.P.underlying t=some (.slice e)) (hz:szT Λ.P e=some sz)
  {hp:Hp} {ct:Nat} (hh:zR Λ m S w hp ct)
  (hx:zm Λ.fid m S w vx x) (h:zbe hp (.sl sz) vx tm (lo.map (opX H)) (hi.map (opX H))=some v):
  ∃u,(Instr.sliceAt t x (lo.map a.eval) (hi.map a.eval) none).run Λ.P w= .ok u w∧zm Λ.fid m S w v u:=by
 have hsz:(Go.sizeOf e).run Λ.P w= .ok sz w:=by
  unfold szT at hz
  cases hi:Λ.P.info? e with
  | none=>simp [hi] at hz
  | some i=>simp_all [Go.sizeOf,typeInfo]
 have run_sl:∀(ad:Option Addr) (n c l g:Nat),zao tm 0 (lo.map (opX H))=some l→zao tm n (hi.map (opX H))=some g→l≤g→g≤c→
   (Instr.sliceAt t (.slice ad n c) (lo.map a.eval) (hi.map a.eval) none).run Λ.P w= .ok (.slice (if c=l then ad else ad.map (·.add (l*sz))) (g-l) (c-l)) w:=by
  intro ad n c l g hl hg h1 h2
  simp only [Instr.sliceAt,Sem.run_bind,run_underlying hu,Result.andThen_ok,Instr.slice,Sem.run_pure,hsz,
   zl9 (P:=Λ.P) (isSlice:=true) (len:=n) (cap:=c) hH ht hl hg h1 h2]
 cases vx<;>simp only [zbe,reduceCtorEq] at h
 case nils=>
  simp only [zm] at hx;subst hx
  cases hl:zao tm 0 (lo.map (opX H)) with
  | none=>simp [hl] at h
  | some l=>
   cases l with
   | succ l=>simp [hl] at h
   | zero=>
    simp only [hl] at h
    cases hh:zao tm 0 (hi.map (opX H)) with
    | none=>simp [hh] at h
    | some g=>
     cases g with
     | succ g=>simp [hh] at h
     | zero=>
      simp only [hh,Option.some.injEq] at h;subst h;exact ⟨_,run_sl none 0 0 0 0 hl hh (Nat.le_refl _) (Nat.le_refl _),by simp [zm]⟩
 case vsl ex n cs=>
  simp only [zm] at hx;rcases hx with ⟨b,o,c,rfl,hnc,hex,hS,hpu,hra⟩ | ⟨ad,rfl,rfl,rfl⟩
  case inr=>
   cases hl:zao tm 0 (lo.map (opX H)) with
   | none=>simp [hl] at h
   | some l=>
    simp only [hl] at h
    cases hh:zao tm 0 (hi.map (opX H)) with
    | none=>simp [hh] at h
    | some g=>
     simp only [hh] at h
     cases hc:(Nat.ble l g&&Nat.ble g 0) with
     | false=>rw [hc] at h;cases h
     | true=>
      rw [hc] at h;simp only [cond_true,Option.some.injEq] at h;subst h;simp only [Bool.and_eq_true] at hc;have h1:=Nat.le_of_ble_eq_true hc.1;have h2:=Nat.le_of_ble_eq_true hc.2;have hg:g=0:=by omega
      subst hg;have hl0:l=0:=by omega
      subst hl0;refine ⟨_,run_sl (some ad) 0 0 0 0 hl hh h1 h2,?_⟩;simp only [zm];exact .inr ⟨ad,by simp,by simp,by simp [slice]⟩
  cases hl:zao tm 0 (lo.map (opX H)) with
  | none=>simp [hl] at h
  | some l=>
   simp only [hl] at h
   cases hh:zao tm n (hi.map (opX H)) with
   | none=>simp [hh] at h
   | some g=>
    simp only [hh] at h
    cases hc:(Nat.ble l g&&Nat.ble g n) with
    | false=>rw [hc] at h;cases h
    | true=>
     rw [hc] at h;simp only [cond_true,Option.some.injEq] at h;subst h;simp only [Bool.and_eq_true] at hc;have h1:=Nat.le_of_ble_eq_true hc.1;have h2:=Nat.le_of_ble_eq_true hc.2;refine ⟨_,run_sl (some ⟨b,o,none⟩) n c l g hl hh h1 (by omega),?_⟩;have hpure:zn (slice (l*sz) ((g-l)*sz) cs)=true:=by
      have pd:∀(k:Nat) (cs:List AV),zn cs=true→zn (cs.drop k)=true:=by
       intro k
       induction k with
       | zero=>intro cs h;simpa using h
       | succ k ih=>intro cs h;cases cs with
        | nil=>simpa using h
        | cons c cs=>simp only [zn,Bool.and_eq_true] at h;simpa using ih cs h.2
      have pt:∀(k:Nat) (cs:List AV),zn cs=true→zn (cs.take k)=true:=by
       intro k
       induction k with
       | zero=>intro cs h;simp [zn]
       | succ k ih=>intro cs h;cases cs with
        | nil=>simp [zn]
        | cons c cs=>simp only [zn,Bool.and_eq_true,List.take_succ_cons] at h ⊢;exact ⟨h.1,ih cs h.2⟩
      exact pt _ _ (pd _ _ hpu)
     have hex':(ex&&Nat.beq g n)=true→c-l=g-l:=by
      intro hq;simp only [Bool.and_eq_true] at hq
      have:=hex hq.1
      have:=Nat.eq_of_beq_eq_true hq.2
      omega
     simp only [zm];by_cases hcl:c=l
     ·have h0:g-l=0:=by omega
      have hs0:slice (l*sz) ((g-l)*sz) cs=[]:=by simp [slice,h0]
      rw [hs0];exact .inl ⟨b,o,c-l,by simp [hcl],by omega,hex',.inl rfl,rfl,by simp [zX]⟩
     ·refine .inl ⟨b,o+l*sz,c-l,by simp [hcl,zdt],by omega,hex',?_,hpure,?_⟩
      ·rcases hS with rfl | hS
       ·exact .inl (by simp [slice])
       ·exact .inr hS
      ·exact zcg _ _ _ _ (zbh _ _ _ _ hra)
 case osl id o n=>
  simp only [zm] at hx;obtain ⟨p,c,hm,rfl,hnc,hoc⟩:=hx
  split at h
  case h_2=>cases h
  rename_i rw0 pu0 ex0 z0 cs0 hget0;obtain ⟨p',arr,t',hm',_,hz',_⟩:=hh.obj id _ _ hget0 hm;rw [hm] at hm';injection hm' with hm'
  subst hm'
  cases hl:zao tm 0 (lo.map (opX H)) with
  | none=>simp [hl] at h
  | some l=>
   simp only [hl] at h
   cases hh:zao tm n (hi.map (opX H)) with
   | none=>simp [hh] at h
   | some g=>
    simp only [hh] at h
    cases hc:(Nat.ble l g&&Nat.ble g n&&Nat.beq z0 sz) with
    | false=>rw [hc] at h;cases h
    | true=>
     rw [hc] at h;simp only [cond_true] at h;simp only [Bool.and_eq_true] at hc;have h1:=Nat.le_of_ble_eq_true hc.1.1;have h2:=Nat.le_of_ble_eq_true hc.1.2;have hpz:p.z=sz:=hz'.trans (Nat.eq_of_beq_eq_true hc.2)
     cases he:(Nat.beq l g&& !Nat.beq l 0) with
     | true=>
      rw [he] at h;simp only [cond_true,Option.some.injEq] at h;subst h;simp only [Bool.and_eq_true] at he;have hlg:=Nat.eq_of_beq_eq_true he.1;refine ⟨_,run_sl (some ⟨p.b,p.o+o,none⟩) n c l g hl hh h1 (by omega),?_⟩;simp only [zm];by_cases hcl:c=l
      ·exact .inl ⟨p.b,p.o+o,c-l,by simp [hcl];omega,by omega,by simp,by simp,by simp [zn],by simp [zX]⟩
      ·exact .inl ⟨p.b,p.o+o+l*sz,c-l,by simp [hcl,zdt];omega,by omega,by simp,by simp,by simp [zn],by simp [zX]⟩
     | false=>
      rw [he] at h;simp only [cond_false,Option.some.injEq] at h;subst h;have hcl:c=l→l=0:=by
       intro hcl;have hlg:l=g:=by omega
       cases hl0:Nat.beq l 0 with
       | true=>exact Nat.eq_of_beq_eq_true hl0
       | false=>rw [hlg,Nat.beq_refl,←hlg,hl0] at he;cases he
      refine ⟨_,run_sl (some ⟨p.b,p.o+o,none⟩) n c l g hl hh h1 (by omega),?_⟩;simp only [zm];refine ⟨p,c-l,hm,?_,by omega,?_⟩
      ·by_cases hcl':c=l
       ·have:=hcl hcl';subst this;subst hcl';simp
       ·simp [hcl',zdt,Nat.add_assoc]
      ·rw [hpz] at hoc ⊢
       have:c*sz=l*sz+(c-l)*sz:=by rw [←Nat.add_mul];congr 1;omega
       omega
end
end VE
end
section
namespace VE
open Go
theorem zaC {P:Program} {w:World} {t:TypeId} {sz:Nat} (hz:szT P t=some sz):(Go.sizeOf t).run P w= .ok sz w:=by
 unfold szT at hz
 cases hi:P.info? t with
 | none=>simp [hi] at hz
 | some i=>simp_all [Go.sizeOf,typeInfo]
section
variable {Λ:Link} {H:zbH} {m:Mp} {S:Nat→Prop} {w:World} {tm:Env} {a:Act} {hp:Hp} {ct:Nat}
theorem zk0 {id o n:Nat} {rw pu ex:Bool} {sz:Nat} {cs:List AV} {p:Pl} (hh:zR Λ m S w hp ct) (hg:zq hp id=some (.cells rw pu ex sz cs)) (hm:m id=some p):
  zX Λ.fid m S w cs p.b p.o:=by
 obtain ⟨p',arr,t',hm',_,_,_,_,_,hr,_⟩:=hh.obj id _ _ hg hm;rw [hm] at hm';injection hm' with hm'
 subst hm';exact hr
theorem zNB {t:TypeId} {sz:Nat} {ag:Bool} {vx v:AV} {x:Value} (hh:zR Λ m S w hp ct) (hz:szT Λ.P t=some sz) (ha:zbx Λ.P t=some ag) (hx:zm Λ.fid m S w vx x)
  (h:zeF hp sz ag vx=some v):∃u,(Instr.loadAt t x).run Λ.P w= .ok u w∧zm Λ.fid m S w v u:=by
 cases vx<;>simp only [zeF,reduceCtorEq] at h
 case ptr id o=>
  simp only [zm] at hx;obtain ⟨p,hm,rfl⟩:=hx
  split at h
  case h_2=>cases h
  rename_i rw0 pu0 ex0 z0 cs0 hget0;have hr:=zk0 (id:=id) (o:=0) (n:=0) hh hget0 hm;obtain ⟨u,h1,h2⟩:=zjl hz ha (zbh o cs0 p.b p.o hr) h;exact ⟨u,by simp only [Instr.loadAt,Instr.sureAddr,Sem.run_bind,Sem.run_pure,Result.andThen_ok];exact h1,h2⟩
 case vptr cs=>
  simp only [zm] at hx;obtain ⟨b,o,rfl,_,_,hr⟩:=hx;obtain ⟨u,h1,h2⟩:=zjl hz ha hr h;exact ⟨u,by simp only [Instr.loadAt,Instr.sureAddr,Sem.run_bind,Sem.run_pure,Result.andThen_ok];exact h1,h2⟩
theorem zbU:∀(k:Nat) (cs:List AV),zn cs=true→zn (cs.drop k)=true
 | 0,cs,h=>by simpa using h
 | k+1,[],h=>by simpa using h
 | k+1,c::cs,h=>by simp only [zn,Bool.and_eq_true] at h;simpa using zbU k cs h.2
theorem zhU {cs:List AV} {b o k:Nat} (h2:cs=[]∨S b) (h3:zn cs=true) (h4:zX Λ.fid m S w cs b o):zm Λ.fid m S w (.vptr (cs.drop k)) (.pointer (some ⟨b,o+k,none⟩)):=by
 simp only [zm];refine ⟨b,o+k,rfl,?_,zbU k cs h3,zbh k cs b o h4⟩;rcases h2 with rfl | h2
 ·exact .inl (by simp)
 ·exact .inr h2
theorem zGf {t:TypeId} {fs:Array Field} {i:Nat} {f:Field} {sz:Nat} {vx v:AV} {x:Value} (hu:Λ.P.underlying t=some (.struct fs)) (hf:fs[i]? =some f) (hz:szT Λ.P f.type=some (sz+1))
  (hx:zm Λ.fid m S w vx x)
  (h:zod f.offset vx=some v):∃u,(Instr.fieldAt t x i).run Λ.P w= .ok u w∧zm Λ.fid m S w v u:=by
 have run_f:∀(b o:Nat),(Instr.fieldAt t (.pointer (some ⟨b,o,none⟩)) i).run Λ.P w= .ok (.pointer (some ⟨b,o+f.offset,none⟩)) w:=by
  intro b o;simp only [Instr.fieldAt,Sem.run_bind,run_underlying hu,Result.andThen_ok,hf,Instr.sureAddr,Sem.run_pure,fieldPlace,zaC hz,Nat.succ_ne_zero,if_false,zdt]
 cases vx<;>simp only [zod,reduceCtorEq] at h
 case ptr id o=>
  simp only [zm] at hx;obtain ⟨p,hm,rfl⟩:=hx;simp only [Option.some.injEq] at h;subst h;exact ⟨_,run_f _ _,by simp only [zm];exact ⟨p,hm,by rw [Nat.add_assoc]⟩⟩
 case vptr cs=>
  simp only [zm] at hx;obtain ⟨b,o,rfl,h2,h3,h4⟩:=hx
  cases hc:Nat.ble f.offset cs.length with
  | false=>rw [hc] at h;cases h
  | true=>
   rw [hc] at h;simp only [cond_true,Option.some.injEq] at h;subst h;exact ⟨_,run_f _ _,zhU h2 h3 h4⟩
theorem zFf {t:TypeId} {fs:Array Field} {i:Nat} {f:Field} {sz:Nat} {ag:Bool} {vx v:AV} {x:Value} (hu:Λ.P.underlying t=some (.struct fs)) (hf:fs[i]? =some f)
  (hz:szT Λ.P f.type=some sz) (ha:zbx Λ.P f.type=some ag) (hx:zm Λ.fid m S w vx x)
  (h:zqW f.offset sz ag vx=some v):∃u,(Instr.field t x i).run Λ.P w= .ok u w∧zm Λ.fid m S w v u:=by
 cases vx<;>simp only [zqW,reduceCtorEq] at h
 simp only [zm] at hx;obtain ⟨xs,rfl,hr⟩:=hx;obtain ⟨u,h1,h2⟩:=zrM hz ha hr h;exact ⟨u,by simp only [Instr.field,Sem.run_bind,run_underlying hu,Result.andThen_ok,hf,asAgg,Sem.run_pure];exact h1,h2⟩
theorem zJI {t e:TypeId} {sz k:Nat} {vx vi v:AV} {x i:Value} (hu:Λ.P.underlying t=some (.slice e)) (hz:szT Λ.P e=some sz) (hx:zm Λ.fid m S w vx x) (hi:zm Λ.fid m S w vi i)
  (hk:zaE vi=some k)
  (h:zdh sz k vx=some v):∃u,(Instr.indexAt t x i).run Λ.P w= .ok u w∧zm Λ.fid m S w v u:=by
 obtain ⟨kd,rfl⟩:=zdG hi hk;have run_i:∀(b o n c:Nat),k<n→(Instr.indexAt t (.slice (some ⟨b,o,none⟩) n c) (.int kd (k:Int))).run Λ.P w= .ok (.pointer (some ⟨b,o+k*sz,none⟩)) w:=by
  intro b o n c hkn;have hr:(0:Int)≤(k:Int)∧(k:Int)<(n:Int):=by omega
  simp [Instr.indexAt,asIntOf,run_underlying hu,zaC hz,hr,zdt];intro hle;exact absurd hle (by omega)
 cases vx<;>simp only [zdh,reduceCtorEq] at h
 case osl id o n=>
  simp only [zm] at hx;obtain ⟨p,c,hm,rfl,hnc,hoc⟩:=hx
  cases hc:Nat.blt k n with
  | false=>rw [hc] at h;cases h
  | true=>
   rw [hc] at h;simp only [cond_true,Option.some.injEq] at h;subst h;have hkn:k<n:=by simp only [Nat.blt,Nat.ble_eq] at hc;omega
   exact ⟨_,run_i _ _ _ _ hkn,by simp only [zm];exact ⟨p,hm,by rw [Nat.add_assoc]⟩⟩
 case vsl ex n cs=>
  simp only [zm] at hx;rcases hx with ⟨b,o,c,rfl,hnc,hex,h2,h3,h4⟩ | ⟨a,rfl,rfl,rfl⟩
  case inr=>
   have:Nat.blt k 0=false:=by cases hq:Nat.blt k 0 with | false=>rfl | true=>simp only [Nat.blt,Nat.ble_eq] at hq;omega
   rw [this] at h;cases h
  cases hc:Nat.blt k n with
  | false=>rw [hc] at h;cases h
  | true=>
   rw [hc] at h;simp only [cond_true,Option.some.injEq] at h;subst h;have hkn:k<n:=by simp only [Nat.blt,Nat.ble_eq] at hc;omega
   exact ⟨_,run_i _ _ _ _ hkn,zhU h2 h3 h4⟩
theorem zG3 {t e:TypeId} {len sz k:Nat} {vx vi v:AV} {x i:Value} (hu:Λ.P.underlying t=some (.array len e)) (hz:szT Λ.P e=some sz) (hx:zm Λ.fid m S w vx x) (hi:zm Λ.fid m S w vi i)
  (hk:zaE vi=some k)
  (h:zlk len sz k vx=some v):∃u,(Instr.indexAt t x i).run Λ.P w= .ok u w∧zm Λ.fid m S w v u:=by
 obtain ⟨kd,rfl⟩:=zdG hi hk;have run_i:∀(b o:Nat),k<len→(Instr.indexAt t (.pointer (some ⟨b,o,none⟩)) (.int kd (k:Int))).run Λ.P w= .ok (.pointer (some ⟨b,o+k*sz,none⟩)) w:=by
  intro b o hkn;have hr:(0:Int)≤(k:Int)∧(k:Int)<(len:Int):=by omega
  simp [Instr.indexAt,asIntOf,run_underlying hu,zaC hz,hr,zdt,Instr.sureAddr];intro hle;exact absurd hle (by omega)
 cases vx<;>simp only [zlk,reduceCtorEq] at h
 case ptr id o=>
  simp only [zm] at hx;obtain ⟨p,hm,rfl⟩:=hx
  cases hc:Nat.blt k len with
  | false=>rw [hc] at h;cases h
  | true=>
   rw [hc] at h;simp only [cond_true,Option.some.injEq] at h;subst h;have hkn:k<len:=by simp only [Nat.blt,Nat.ble_eq] at hc;omega
   exact ⟨_,run_i _ _ hkn,by simp only [zm];exact ⟨p,hm,by rw [Nat.add_assoc]⟩⟩
 case vptr cs=>
  simp only [zm] at hx;obtain ⟨b,o,rfl,h2,h3,h4⟩:=hx
  cases hc:Nat.blt k len with
  | false=>rw [hc] at h;cases h
  | true=>
   rw [hc] at h;simp only [cond_true,Option.some.injEq] at h;subst h;have hkn:k<len:=by simp only [Nat.blt,Nat.ble_eq] at hc;omega
   exact ⟨_,run_i _ _ hkn,zhU h2 h3 h4⟩
theorem zJR {t e:TypeId} {len sz k:Nat} {ag:Bool} {vx vi v:AV} {x i:Value} (hu:Λ.P.underlying t=some (.array len e)) (hz:szT Λ.P e=some sz) (ha:zbx Λ.P e=some ag)
  (hx:zm Λ.fid m S w vx x) (hi:zm Λ.fid m S w vi i) (hk:zaE vi=some k)
  (h:zsR len sz ag k vx=some v):
  ∃u,(Instr.index t x i).run Λ.P w= .ok u w∧zm Λ.fid m S w v u:=by
 obtain ⟨kd,rfl⟩:=zdG hi hk;cases vx<;>simp only [zsR,reduceCtorEq] at h
 simp only [zm] at hx;obtain ⟨xs,rfl,hr⟩:=hx
 cases hc:Nat.blt k len with
 | false=>rw [hc] at h;cases h
 | true=>
  rw [hc] at h;simp only [cond_true] at h;have hkn:k<len:=by simp only [Nat.blt,Nat.ble_eq] at hc;omega
  obtain ⟨u,h1,h2⟩:=zrM hz ha hr h;have hr':(0:Int)≤(k:Int)∧(k:Int)<(len:Int):=by omega
  exact ⟨u,by simp [Instr.index,asIntOf,run_underlying hu,zaC hz,hr',h1];intro hle;exact absurd hle (by omega),h2⟩
theorem zFZ {t:TypeId} {k:Nat} {vx vi v:AV} {x i:Value} (hu:Λ.P.underlying t=some .string) (hx:zm Λ.fid m S w vx x) (hi:zm Λ.fid m S w vi i) (hk:zaE vi=some k)
  (h:zeb k vx=some v):
  ∃u,(Instr.index t x i).run Λ.P w= .ok u w∧zm Λ.fid m S w v u:=by
 obtain ⟨kd,rfl⟩:=zdG hi hk;cases vx<;>simp only [zeb,reduceCtorEq] at h
 rename_i s;simp only [zm] at hx;obtain ⟨b,rfl,rfl⟩:=hx
 cases hs:(b.data.toList.map UInt8.toNat)[k]? with
 | none=>rw [hs] at h;cases h
 | some q=>
  rw [hs] at h;simp only [Option.some.injEq] at h;subst h;rw [List.getElem?_map] at hs
  cases hb:b.data.toList[k]? with
  | none=>rw [hb] at hs;cases hs
  | some c=>
   rw [hb] at hs;simp only [Option.map_some,Option.some.injEq] at hs;subst hs;have hb':b[k]? =some c:=by
    have hlt:k<b.data.toList.length:=by
     rcases Nat.lt_or_ge k b.data.toList.length with h | h
     ·exact h
     ·rw [List.getElem?_eq_none h] at hb;cases hb
    have hsz:k<b.size:=by rw [Lib.size_eq];exact hlt
    rw [getElem?_pos b k hsz];rw [List.getElem?_eq_getElem hlt] at hb;injection hb with hb
    rw [←hb];rfl
   refine ⟨.int .u8 c.toNat,?_,by simp [zm]⟩;simp [Instr.index,asIntOf,run_underlying hu,hb']
end
end VE
end
section
namespace VE
open Go
section
variable {fid:Nat→Nat} {m:Mp} {S:Nat→Prop} {w:World}
theorem zhH:∀{v:AV} {u:Value},zm fid m S w v u→zH (cellsOf v)=true→zi fid m S w (cellsOf v) u.cells.toList:=by
 intro v u h h1;cases v
 case agg cs=>
  simp only [zm] at h;obtain ⟨xs,rfl,hr⟩:=h;exact hr
 case tup vs=>simp [cellsOf,zH,z9] at h1
 case undef=>simp [cellsOf,zH,z9] at h1
 case fsl=>simp [cellsOf,zH,z9] at h1
 case fn f a b=>
  cases f with
  | f g=>have h':=h;simp only [zm] at h';obtain ⟨fi,ca,rfl,_⟩:=h';simp only [cellsOf,Value.cells,zi];exact ⟨_,_,rfl,h,rfl⟩
  | y l=>have h':=h;simp only [zm] at h';obtain ⟨p,_,rfl⟩:=h';simp only [cellsOf,Value.cells,zi];exact ⟨_,_,rfl,h,rfl⟩
 case str s=>have h':=h;simp only [zm] at h';obtain ⟨b,rfl,_⟩:=h';simp only [cellsOf,Value.cells,zi];exact ⟨_,_,rfl,h,rfl⟩
 case ptr id o=>have h':=h;simp only [zm] at h';obtain ⟨b,_,rfl⟩:=h';simp only [cellsOf,Value.cells,zi];exact ⟨_,_,rfl,h,rfl⟩
 case vptr cs=>have h':=h;simp only [zm] at h';obtain ⟨b,o,rfl,_⟩:=h';simp only [cellsOf,Value.cells,zi];exact ⟨_,_,rfl,h,rfl⟩
 case vsl e n cs=>have h':=h;simp only [zm] at h';rcases h' with ⟨b,o,c,rfl,_⟩ | ⟨a,rfl,_,_⟩<;>(simp only [cellsOf,Value.cells,zi];exact ⟨_,_,rfl,h,rfl⟩)
 case osl id o n=>have h':=h;simp only [zm] at h';obtain ⟨p,c,_,rfl,_⟩:=h';simp only [cellsOf,Value.cells,zi];exact ⟨_,_,rfl,h,rfl⟩
 case map id=>have h':=h;simp only [zm] at h';obtain ⟨p,_,rfl⟩:=h';simp only [cellsOf,Value.cells,zi];exact ⟨_,_,rfl,h,rfl⟩
 case vmap ks vs=>have h':=h;simp only [zm] at h';obtain ⟨b,es,cl,rfl,_⟩:=h';simp only [cellsOf,Value.cells,zi];exact ⟨_,_,rfl,h,rfl⟩
 case it id=>have h':=h;simp only [zm] at h';obtain ⟨p,_,rfl⟩:=h';simp only [cellsOf,Value.cells,zi];exact ⟨_,_,rfl,h,rfl⟩
 all_goals
  have h':=h;simp only [zm] at h';subst h';simp only [cellsOf,Value.cells,zi];exact ⟨_,_,rfl,h,rfl⟩
theorem zbF (v:Value):zi fid m S w (cellsOf (zaU v)) v.cells.toList:=by
 have h:=zi4 (fid:=fid) (m:=m) (S:=S) (w:=w) v;cases v
 case agg xs=>
  obtain ⟨l⟩:=xs;simp only [zaU,zm] at h ⊢;obtain ⟨xs,e,hr⟩:=h;injection e with e
  subst e;exact hr
 case tuple xs=>obtain ⟨l⟩:=xs;simp only [zaU] at h ⊢;simp only [cellsOf,Value.cells,zi];exact ⟨_,_,rfl,h,rfl⟩
 case pointer p=>cases p<;>(simp only [zaU] at h ⊢;simp only [cellsOf,Value.cells,zi];exact ⟨_,_,rfl,h,rfl⟩)
 case map p=>cases p<;>(simp only [zaU] at h ⊢;simp only [cellsOf,Value.cells,zi];exact ⟨_,_,rfl,h,rfl⟩)
 case slice p n c=>
  cases p
  ·cases n
   ·cases c<;>(simp only [zaU] at h ⊢;simp only [cellsOf,Value.cells,zi];exact ⟨_,_,rfl,h,rfl⟩)
   ·simp only [zaU] at h ⊢;simp only [cellsOf,Value.cells,zi];exact ⟨_,_,rfl,h,rfl⟩
  ·simp only [zaU] at h ⊢;simp only [cellsOf,Value.cells,zi];exact ⟨_,_,rfl,h,rfl⟩
 all_goals (simp only [zaU] at h ⊢;simp only [cellsOf,Value.cells,zi];exact ⟨_,_,rfl,h,rfl⟩)
theorem zar:∀{a b:List AV} {x y:List Value},zi fid m S w a x→zi fid m S w b y→zi fid m S w (a++b) (x++y)
 | [],b,x,y,h,k=>by simp only [zi] at h;subst h;simpa using k
 | c::a,b,x,y,h,k=>by
  simp only [zi] at h;obtain ⟨u,r,rfl,h2,h3⟩:=h;simp only [List.cons_append,zi];exact ⟨u,r++y,rfl,h2,zar h3 k⟩
theorem zeM:∀(k:Nat) {cs:List AV} {us:List Value},zi fid m S w cs us→zi fid m S w (cs.drop k) (us.drop k)
 | 0,cs,us,h=>by simpa using h
 | k+1,[],us,h=>by simp only [zi] at h;subst h;simp [zi]
 | k+1,c::cs,us,h=>by simp only [zi] at h;obtain ⟨u,r,rfl,_,h3⟩:=h;simpa using zeM k h3
theorem zdJ:∀(k:Nat) {cs:List AV} {us:List Value},zi fid m S w cs us→zi fid m S w (cs.take k) (us.take k)
 | 0,cs,us,h=>by simp [zi]
 | k+1,[],us,h=>by simp only [zi] at h;subst h;simp [zi]
 | k+1,c::cs,us,h=>by
  simp only [zi] at h;obtain ⟨u,r,rfl,h2,h3⟩:=h;simp only [List.take_succ_cons,zi];exact ⟨u,_,rfl,h2,zdJ k h3⟩
theorem zkd:∀{cs:List AV} {us:List Value} {i:Nat} {v:AV},zi fid m S w cs us→cs[i]? =some v→∃u,us[i]? =some u∧zm fid m S w v u
 | [],us,i,v,_,h=>by simp at h
 | c::cs,us,0,v,h,e=>by
  simp only [zi] at h;obtain ⟨u,r,rfl,h2,h3⟩:=h;simp at e;subst e;exact ⟨u,rfl,h2⟩
 | c::cs,us,i+1,v,h,e=>by
  simp only [zi] at h;obtain ⟨u,r,rfl,h2,h3⟩:=h;simp at e;simpa using zkd h3 e
end
theorem zlI (off:Nat):∀(new:List Value) (j:Nat) (cells:Array Value),off+j+new.length≤cells.size→
  ((new.zipIdx j).foldl (fun (cs:Array Value) (p:Value×Nat)=>cs.setIfInBounds (off+p.2) p.1) cells).toList=
   cells.toList.take (off+j)++new++cells.toList.drop (off+j+new.length)
 | [],j,cells,_=>by simp
 | v::r,j,cells,h=>by
  simp only [List.length_cons] at h;have ih:=zlI off r (j+1) (cells.setIfInBounds (off+j) v) (by simp;omega);simp only [List.zipIdx_cons,List.foldl_cons];rw [ih];have hlt:off+j<cells.toList.length:=by simp;omega
  have h1:(cells.setIfInBounds (off+j) v).toList=cells.toList.set (off+j) v:=by simp
  rw [h1,show off+(j+1)=off+j+1 by omega];have h2:(cells.toList.set (off+j) v).take (off+j+1)=cells.toList.take (off+j)++[v]:=by
   rw [List.take_succ_eq_append_getElem (by simpa using hlt)];simp [List.take_set_of_le]
  have h3:(cells.toList.set (off+j) v).drop (off+j+1+r.length)=cells.toList.drop (off+j+(r.length+1)):=by
   rw [List.drop_set_of_lt (by omega)];congr 1;omega
  rw [h2,h3]
  simp
section
variable {Λ:Link} {H:zbH} {m:Mp} {S:Nat→Prop} {w:World} {tm:Env} {a:Act}
theorem zja (hH:zaM Λ H) (ht:zaB Λ m S w tm a.tmps) {place:Nat→Option (Nat×Nat)}:∀(parts:List (Nat×Operand)) (ps:List (Nat×Nat×X)) (zero cs:List AV) (cells:Array Value),
  zdD H place parts=some ps→zi Λ.fid m S w zero cells.toList→fill tm zero ps=some cs→
  ∃out,Instr.fill place cells (parts.map fun p=>(p.1,a.eval p.2))=some out∧zi Λ.fid m S w cs out.toList
 | [],ps,zero,cs,cells,hp,hz,hf=>by
  simp only [zdD,Option.some.injEq] at hp;subst hp;simp only [fill,Option.some.injEq] at hf;subst hf;exact ⟨cells,rfl,hz⟩
 | (i,x)::r,ps,zero,cs,cells,hp,hz,hf=>by
  simp only [zdD] at hp
  cases hpl:place i with
  | none=>simp [hpl] at hp
  | some q=>
   obtain ⟨o,s⟩:=q;simp only [hpl] at hp
   cases hpr:zdD H place r with
   | none=>simp [hpr] at hp
   | some l=>
    simp only [hpr,Option.some.injEq] at hp;subst hp;simp only [fill] at hf
    cases hc:(Nat.beq (cellsOf (zp tm (opX H x))).length s&&Nat.ble (o+s) zero.length&&zH (cellsOf (zp tm (opX H x)))) with
    | false=>rw [hc] at hf;cases hf
    | true=>
     rw [hc] at hf;simp only [cond_true] at hf;simp only [Bool.and_eq_true] at hc;have hs:=Nat.eq_of_beq_eq_true hc.1.1;have hle:=Nat.le_of_ble_eq_true hc.1.2;have hrx:=zhH (zad hH ht x) hc.2;have hl1:=zax _ _ hrx;have hl2:=zax _ _ hz;have hsz:(a.eval x).cells.size=s:=by rw [←hs,←hl1];simp
     have hcs:cells.size=zero.length:=by rw [←hl2];simp
     have hfold:=zlI o (a.eval x).cells.toList 0 cells (by simp;omega);have hz':zi Λ.fid m S w (zb6 o (cellsOf (zp tm (opX H x))) zero)
       ((a.eval x).cells.zipIdx.foldl (fun (cs:Array Value) (p:Value×Nat)=>cs.setIfInBounds (o+p.2) p.1) cells).toList:=by
      rw [←Array.foldl_toList,Array.toList_zipIdx,hfold];simp only [zb6,Nat.add_zero];rw [show (a.eval x).cells.toList.length=(cellsOf (zp tm (opX H x))).length from hl1];exact zar (zar (zdJ o hz) hrx) (zeM _ hz)
     obtain ⟨out,h1,h2⟩:=zja hH ht r l _ cs _ hpr hz' hf;refine ⟨out,?_,h2⟩;simp only [List.map_cons,Instr.fill,hpl,hsz];rw [if_neg (by simp;omega)];exact h1
end
end VE
end
