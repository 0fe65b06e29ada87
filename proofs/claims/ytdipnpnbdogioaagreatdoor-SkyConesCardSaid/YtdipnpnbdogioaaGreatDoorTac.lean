import Derived.WideLaws
import Derived.Maps.Keyed
import Derived.Test.YtdipnpnbdogioaaGreatDoorTab
set_option linter.all false
set_option maxRecDepth 100000
section
namespace VE
open Go
section
variable {fid:Nat→Nat} {P:Program} {m:Mp} {S:Nat→Prop} {w:World} {t:TypeId}
theorem zpN {op:BinOp} {x y:Operand} {a b:Value} (h:P.eqGuardType P.depth t=false∨∀xs ys,¬(a= .agg xs∧b= .agg ys)) (hn:a≠.nilIface):
  (eqGuard op t x y a b).run P w= .ok () w:=by
 unfold eqGuard;cases op
 all_goals first
  | rfl
  | (
    cases a
    all_goals first
     | rfl
     | exact absurd rfl hn
     | (
      cases b
      all_goals first
       | rfl
       | (
         rcases h with h | h
         ·simp [h]
         ·exact absurd ⟨rfl,rfl⟩ (h _ _))))
theorem zDB {d:Nat} {p q:Bool} (ht:P.underlying t=some .bool):(Op.equalIn (d+1) t (.bool p) (.bool q)).run P w= .ok (p==q) w:=by
 simp [Op.equalIn,underlying,ht]
theorem zvH {d:Nat} {e:TypeId} (ht:P.underlying t=some (.slice e)) (y:Option Addr) (n c n' c':Nat):
  (Op.equalIn (d+1) t (.slice none n c) (.slice y n' c')).run P w= .ok y.isNone w:=by simp [Op.equalIn,underlying,ht]
theorem zBR {d:Nat} {e:TypeId} (ht:P.underlying t=some (.slice e)) (x:Addr) (n c n' c':Nat):
  (Op.equalIn (d+1) t (.slice (some x) n c) (.slice none n' c')).run P w= .ok false w:=by simp [Op.equalIn,underlying,ht]
theorem zHd {d:Nat} {ps rs:Array TypeId} {vr:Bool} (ht:P.underlying t=some (.func ps rs vr)):
  (Op.equalIn (d+1) t .nilFunc .nilFunc).run P w= .ok true w:=by simp [Op.equalIn,underlying,ht]
theorem zBk {d:Nat} {ps rs:Array TypeId} {vr:Bool} (ht:P.underlying t=some (.func ps rs vr)) (f:Go.Fn) (a b:Array Value):
  (Op.equalIn (d+1) t .nilFunc (.func f a b)).run P w= .ok false w:=by simp [Op.equalIn,underlying,ht]
theorem zCp {d:Nat} {ps rs:Array TypeId} {vr:Bool} (ht:P.underlying t=some (.func ps rs vr)) (f:Go.Fn) (a b:Array Value):
  (Op.equalIn (d+1) t (.func f a b) .nilFunc).run P w= .ok false w:=by simp [Op.equalIn,underlying,ht]
theorem zh8 (x y:Value):Op.equal t x y=Op.equalIn (9999+1) t x y:=rfl
theorem zy7 {vx vy:AV} {x y:Value} {r:Bool} {e:TypeId} (ht:P.underlying t=some (.slice e)) (hx:zq fid m S w vx x) (hy:zq fid m S w vy y)
  (h:zex .sl vx vy=some r):(Op.equal t x y).run P w= .ok r w:=by
 rw [zh8];unfold zex at h
 split at h<;>simp_all only [Option.some.injEq,reduceCtorEq]
 all_goals subst h
 all_goals simp only [zq] at hx hy
 ·subst hx;subst hy;exact zvH ht _ _ _ _ _
 ·rcases hy with ⟨b,o,c,rfl,_⟩ | ⟨_,rfl,_⟩<;>(subst hx;exact zvH ht _ _ _ _ _)
 ·obtain ⟨p,c,_,rfl,_⟩:=hy;subst hx;exact zvH ht _ _ _ _ _
 ·rcases hx with ⟨b,o,c,rfl,_⟩ | ⟨_,rfl,_⟩<;>(subst hy;exact zBR ht _ _ _ _ _)
 ·obtain ⟨p,c,_,rfl,_⟩:=hx;subst hy;exact zBR ht _ _ _ _ _
theorem zzC {vx vy:AV} {x y:Value} {r:Bool} {ps rs:Array TypeId} {vr:Bool} (ht:P.underlying t=some (.func ps rs vr)) (hx:zq fid m S w vx x) (hy:zq fid m S w vy y)
  (h:zex .fn vx vy=some r):(Op.equal t x y).run P w= .ok r w:=by
 rw [zh8];unfold zex at h
 split at h<;>simp_all only [Option.some.injEq,reduceCtorEq]
 all_goals subst h
 ·simp only [zq] at hx hy;subst hx;subst hy;exact zHd ht
 ·rename_i f _ _
  cases f with
  | f g=>simp only [zq] at hx hy;obtain ⟨fi,ca,rfl,_⟩:=hy;subst hx;exact zBk ht _ _ _
  | y l=>simp only [zq] at hx hy;obtain ⟨p,_,rfl⟩:=hy;subst hx;exact zBk ht _ _ _
 ·rename_i f _ _
  cases f with
  | f g=>simp only [zq] at hx hy;obtain ⟨fi,ca,rfl,_⟩:=hx;subst hy;exact zCp ht _ _ _
  | y l=>simp only [zq] at hx hy;obtain ⟨p,_,rfl⟩:=hx;subst hy;exact zCp ht _ _ _
theorem zzR {op:UnOp} {vx v:AV} {x:Value} (hx:zq fid m S w vx x) (h:VE.unOp op vx=some v):∃u,(Op.unary op x).run P w= .ok u w∧zq fid m S w v u:=by
 unfold VE.unOp at h
 split at h
 ·rename_i k n;simp only [zq] at hx;subst hx;simp only [Option.some.injEq] at h;subst h;exact ⟨_,by simp [Op.unary,Op.intArith];rfl,by simp [zq]⟩
 ·rename_i k n;simp only [zq] at hx;subst hx;simp only [zdW,Option.some.injEq] at h;subst h;exact ⟨_,by simp [Op.unary,Op.intBits];rfl,by simp [zq]⟩
 ·rename_i b;simp only [zq] at hx;subst hx;simp only [Option.some.injEq] at h;subst h;exact ⟨_,by simp [Op.unary];rfl,by simp [zq]⟩
 ·rename_i k b;simp only [zq] at hx;subst hx;simp only [Option.some.injEq] at h;subst h;exact ⟨_,by simp [Op.unary,Op.negFloat];rfl,by simp [zq]⟩
 ·cases h
theorem zpj {s d:TypeId} {k:IntKind} {vx v:AV} {x:Value} (hd:P.underlying d=some (.int k)) (hs:(∃k',P.underlying s=some (.int k'))∨∃k',P.underlying s=some (.float k'))
  (hx:zq fid m S w vx x) (h:zjx (.toInt k) vx=some v):∃u,(convert s d x).run P w= .ok u w∧zq fid m S w v u:=by
 cases vx<;>simp only [zjx,reduceCtorEq] at h
 case int k0 n=>
  simp only [zq] at hx;subst hx;simp only [Option.some.injEq] at h;subst h;refine ⟨.int k (k.wrap n),?_,by simp [zq]⟩;rcases hs with ⟨k',h'⟩ | ⟨k',h'⟩<;>simp [convert,underlying,Conv.intToInt,hd,h']
 case flt sk b=>
  simp only [zq] at hx;subst hx
  cases hi:(sk.decode b).toInt .zero with
  | none=>simp [hi] at h
  | some n=>
   simp only [hi] at h;by_cases hr:k.min≤n∧n≤k.max
   ·simp only [hr,and_self,if_true,Option.some.injEq] at h;subst h;refine ⟨.int k n,?_,by simp [zq]⟩;rcases hs with ⟨k',h'⟩ | ⟨k',h'⟩<;>simp [convert,underlying,Conv.floatToInt,hd,h',hi,hr]
   ·simp [hr] at h
theorem zox {s d:TypeId} {k:FloatKind} {vx v:AV} {x:Value} (hd:P.underlying d=some (.float k)) (hs:(∃k',P.underlying s=some (.int k'))∨∃k',P.underlying s=some (.float k'))
  (hx:zq fid m S w vx x) (h:zjx (.toFlt k) vx=some v):∃u,(convert s d x).run P w= .ok u w∧zq fid m S w v u:=by
 cases vx<;>simp only [zjx,reduceCtorEq] at h
 case int k0 n=>
  simp only [zq] at hx;subst hx;simp only [Option.some.injEq] at h;subst h;refine ⟨.float k (k.nearest n),?_,by simp [zq]⟩;rcases hs with ⟨k',h'⟩ | ⟨k',h'⟩<;>simp [convert,underlying,Conv.intToFloat,hd,h']
 case flt sk b=>
  simp only [zq] at hx;subst hx;by_cases he:sk=k
  ·subst he;simp only [if_true,Option.some.injEq] at h;subst h;refine ⟨.float sk b,?_,by simp [zq]⟩;rcases hs with ⟨k',h'⟩ | ⟨k',h'⟩<;>simp [convert,underlying,Conv.floatToFloat,hd,h']
  ·simp only [he,if_false] at h
   cases hdec:sk.decode b with
   | nan _ _=>simp [hdec] at h
   | infinity _=>simp [hdec] at h
   | number sg mm ee=>
    simp only [hdec] at h
    cases hinf:(k.decode (k.encode (.number sg mm ee))).isInfinity with
    | true=>simp [hinf] at h
    | false=>
     simp only [hinf,Bool.false_eq_true,if_false,Option.some.injEq] at h;subst h;refine ⟨.float k (k.encode (.number sg mm ee)),?_,by simp [zq]⟩;rcases hs with ⟨k',h'⟩ | ⟨k',h'⟩<;>simp [convert,underlying,Conv.floatToFloat,hd,h',he,hdec,hinf]
theorem zwh {s d:TypeId} {vx v:AV} {x:Value} (hd:P.underlying d=some .string) (hs:P.underlying s=some .string)
  (hx:zq fid m S w vx x) (h:zjx .str vx=some v):∃u,(convert s d x).run P w= .ok u w∧zq fid m S w v u:=by
 cases vx<;>simp only [zjx,reduceCtorEq] at h
 simp only [Option.some.injEq] at h;subst h;simp only [zq] at hx;obtain ⟨b,rfl,hb⟩:=hx;exact ⟨.string b,by simp [convert,underlying,hs,hd],by simp only [zq];exact ⟨b,rfl,hb⟩⟩
end
end VE
end
section
namespace VE
open Go
theorem ztU {v:AV} {k:Nat} (h:zaL v=some k):∃kd,v= .int kd (k:Int):=by
 cases v<;>simp only [zaL,reduceCtorEq] at h
 rename_i kd n
 cases n with
 | ofNat j=>simp only [Option.some.injEq] at h;subst h;exact ⟨kd,rfl⟩
 | negSucc j=>cases h
section
variable {Λ:Link} {H:zbY} {m:Mp} {S:Nat→Prop} {w:World} {tm:Env} {a:Act}
theorem zd1 {fid:Nat→Nat} {v:AV} {x:Value} {k:Nat} (hx:zq fid m S w v x) (h:zaL v=some k):∃kd,x= .int kd (k:Int):=by
 obtain ⟨kd,rfl⟩:=ztU h;simp only [zq] at hx;exact ⟨kd,hx⟩
theorem zc8 {P:Program} {kd:IntKind} {k y:Nat} {code:BoundsCode} (h:k≤y):(Instr.sliceBound (.int kd (k:Int)) y code).run P w= .ok k w:=by
 have:(0:Int)≤(k:Int)∧(k:Int)≤(y:Int):=by omega
 simp [Instr.sliceBound,asIntOf,this]
theorem zlX {P:Program} {isSlice:Bool} {len cap l h:Nat} {lo hi:Option Operand} (hH:zaT Λ H) (ht:zaI Λ m S w tm a.tmps)
  (hl:zat tm 0 (lo.map (opX H))=some l) (hh:zat tm len (hi.map (opX H))=some h) (h1:l≤h) (h2:h≤cap):
  (Instr.sliceBounds isSlice len cap (lo.map a.eval) (hi.map a.eval) none).run P w= .ok (l,h,cap) w:=by
 cases lo with
 | none=>
  simp only [Option.map_none,zat,Option.some.injEq] at hl;subst hl
  cases hi with
  | none=>
   simp only [Option.map_none,zat,Option.some.injEq] at hh;subst hh;simp [Instr.sliceBounds]
  | some y=>
   simp only [Option.map_some,zat] at hh;obtain ⟨kd,e⟩:=zd1 (zan hH ht y) hh;simp only [Instr.sliceBounds,Option.map_none,Option.map_some,e,Sem.run_bind,Sem.run_pure,Result.andThen_ok,zc8 h2]
 | some x=>
  simp only [Option.map_some,zat] at hl;obtain ⟨kd,e⟩:=zd1 (zan hH ht x) hl
  cases hi with
  | none=>
   simp only [Option.map_none,zat,Option.some.injEq] at hh;subst hh;simp only [Instr.sliceBounds,Option.map_none,Option.map_some,e,Sem.run_bind,Sem.run_pure,Result.andThen_ok,zc8 h1]
  | some y=>
   simp only [Option.map_some,zat] at hh;obtain ⟨kd',e'⟩:=zd1 (zan hH ht y) hh;simp only [Instr.sliceBounds,Option.map_some,e,e',Sem.run_bind,Sem.run_pure,Result.andThen_ok,zc8 h2,zc8 h1]
theorem zs4 {t:TypeId} {lo hi:Option Operand} {vx v:AV} {x:Value} (hH:zaT Λ H) (ht:zaI Λ m S w tm a.tmps) (hu:Λ.P.underlying t=some .string)
  (hx:zq Λ.fid m S w vx x) {hp:Hp} (h:zbt hp .str vx tm (lo.map (opX H)) (hi.map (opX H))=some v):
  ∃u,(Instr.sliceAt t x (lo.map a.eval) (hi.map a.eval) none).run Λ.P w= .ok u w∧zq Λ.fid m S w v u:=by
 cases vx<;>simp only [zbt,reduceCtorEq] at h
 rename_i s;simp only [zq] at hx;obtain ⟨b,rfl,rfl⟩:=hx
 cases hl:zat tm 0 (lo.map (opX H)) with
 | none=>simp [hl] at h
 | some l=>
  simp only [hl] at h
  cases hh:zat tm (b.data.toList.map UInt8.toNat).length (hi.map (opX H)) with
  | none=>rw [hh] at h;cases h
  | some g=>
   rw [hh] at h;simp only at h
   cases hc:(Nat.ble l g&&Nat.ble g (b.data.toList.map UInt8.toNat).length) with
   | false=>rw [hc] at h;cases h
   | true=>
    rw [hc] at h;simp only [cond_true,Option.some.injEq] at h;subst h;simp only [Bool.and_eq_true] at hc;have h1:=Nat.le_of_ble_eq_true hc.1;have h2:=Nat.le_of_ble_eq_true hc.2;have hlen:(b.data.toList.map UInt8.toNat).length=b.size:=zmB b;rw [hlen] at hh h2;refine ⟨.string (b.extract l g),?_,?_⟩
    ·simp only [Instr.sliceAt,Sem.run_bind,run_underlying hu,Result.andThen_ok,Instr.slice,Option.isSome_none,Bool.false_eq_true,if_false,Sem.run_pure,
      zlX (P:=Λ.P) (isSlice:=false) (len:=b.size) (cap:=b.size) hH ht hl hh h1 h2]
    ·simp only [zq];refine ⟨_,rfl,?_⟩;rw [Lib.extract_data,List.map_take,List.map_drop,List.drop_take]
theorem zuG {t e:TypeId} {sz:Nat} {lo hi:Option Operand} {vx v:AV} {x:Value} (hH:zaT Λ H) (ht:zaI Λ m S w tm a.tmps) (hu:Λ.P.underlying t=some (.slice e)) (hz:szT Λ.P e=some sz)
  {hp:Hp} {ct:Nat} (hh:zW Λ m S w hp ct)
  (hx:zq Λ.fid m S w vx x) (h:zbt hp (.sl sz) vx tm (lo.map (opX H)) (hi.map (opX H))=some v):
  ∃u,(Instr.sliceAt t x (lo.map a.eval) (hi.map a.eval) none).run Λ.P w= .ok u w∧zq Λ.fid m S w v u:=by
 have hsz:(Go.sizeOf e).run Λ.P w= .ok sz w:=by
  unfold szT at hz
  cases hi:Λ.P.info? e with
  | none=>simp [hi] at hz
  | some i=>simp_all [Go.sizeOf,typeInfo]
 have run_sl:∀(ad:Option Addr) (n c l g:Nat),zat tm 0 (lo.map (opX H))=some l→zat tm n (hi.map (opX H))=some g→l≤g→g≤c→
   (Instr.sliceAt t (.slice ad n c) (lo.map a.eval) (hi.map a.eval) none).run Λ.P w= .ok (.slice (if c=l then ad else ad.map (·.add (l*sz))) (g-l) (c-l)) w:=by
  intro ad n c l g hl hg h1 h2
  simp only [Instr.sliceAt,Sem.run_bind,run_underlying hu,Result.andThen_ok,Instr.slice,Sem.run_pure,hsz,
   zlX (P:=Λ.P) (isSlice:=true) (len:=n) (cap:=c) hH ht hl hg h1 h2]
 cases vx<;>simp only [zbt,reduceCtorEq] at h
 case nils=>
  simp only [zq] at hx;subst hx
  cases hl:zat tm 0 (lo.map (opX H)) with
  | none=>simp [hl] at h
  | some l=>
   cases l with
   | succ l=>simp [hl] at h
   | zero=>
    simp only [hl] at h
    cases hh:zat tm 0 (hi.map (opX H)) with
    | none=>simp [hh] at h
    | some g=>
     cases g with
     | succ g=>simp [hh] at h
     | zero=>
      simp only [hh,Option.some.injEq] at h;subst h;exact ⟨_,run_sl none 0 0 0 0 hl hh (Nat.le_refl _) (Nat.le_refl _),by simp [zq]⟩
 case vsl ex n cs=>
  simp only [zq] at hx;rcases hx with ⟨b,o,c,rfl,hnc,hex,hS,hpu,hra⟩ | ⟨ad,rfl,rfl,rfl⟩
  case inr=>
   cases hl:zat tm 0 (lo.map (opX H)) with
   | none=>simp [hl] at h
   | some l=>
    simp only [hl] at h
    cases hh:zat tm 0 (hi.map (opX H)) with
    | none=>simp [hh] at h
    | some g=>
     simp only [hh] at h
     cases hc:(Nat.ble l g&&Nat.ble g 0) with
     | false=>rw [hc] at h;cases h
     | true=>
      rw [hc] at h;simp only [cond_true,Option.some.injEq] at h;subst h;simp only [Bool.and_eq_true] at hc;have h1:=Nat.le_of_ble_eq_true hc.1;have h2:=Nat.le_of_ble_eq_true hc.2;have hg:g=0:=by omega
      subst hg;have hl0:l=0:=by omega
      subst hl0;refine ⟨_,run_sl (some ad) 0 0 0 0 hl hh h1 h2,?_⟩;simp only [zq];exact .inr ⟨ad,by simp,by simp,by simp [slice]⟩
  cases hl:zat tm 0 (lo.map (opX H)) with
  | none=>simp [hl] at h
  | some l=>
   simp only [hl] at h
   cases hh:zat tm n (hi.map (opX H)) with
   | none=>simp [hh] at h
   | some g=>
    simp only [hh] at h
    cases hc:(Nat.ble l g&&Nat.ble g n) with
    | false=>rw [hc] at h;cases h
    | true=>
     rw [hc] at h;simp only [cond_true,Option.some.injEq] at h;subst h;simp only [Bool.and_eq_true] at hc;have h1:=Nat.le_of_ble_eq_true hc.1;have h2:=Nat.le_of_ble_eq_true hc.2;refine ⟨_,run_sl (some ⟨b,o,none⟩) n c l g hl hh h1 (by omega),?_⟩;have hpure:zt (slice (l*sz) ((g-l)*sz) cs)=true:=by
      have pd:∀(k:Nat) (cs:List AV),zt cs=true→zt (cs.drop k)=true:=by
       intro k
       induction k with
       | zero=>intro cs h;simpa using h
       | succ k ih=>intro cs h;cases cs with
        | nil=>simpa using h
        | cons c cs=>simp only [zt,Bool.and_eq_true] at h;simpa using ih cs h.2
      have pt:∀(k:Nat) (cs:List AV),zt cs=true→zt (cs.take k)=true:=by
       intro k
       induction k with
       | zero=>intro cs h;simp [zt]
       | succ k ih=>intro cs h;cases cs with
        | nil=>simp [zt]
        | cons c cs=>simp only [zt,Bool.and_eq_true,List.take_succ_cons] at h ⊢;exact ⟨h.1,ih cs h.2⟩
      exact pt _ _ (pd _ _ hpu)
     have hex':(ex&&Nat.beq g n)=true→c-l=g-l:=by
      intro hq;simp only [Bool.and_eq_true] at hq
      have:=hex hq.1
      have:=Nat.eq_of_beq_eq_true hq.2
      omega
     simp only [zq];by_cases hcl:c=l
     ·have h0:g-l=0:=by omega
      have hs0:slice (l*sz) ((g-l)*sz) cs=[]:=by simp [slice,h0]
      rw [hs0];exact .inl ⟨b,o,c-l,by simp [hcl],by omega,hex',.inl rfl,rfl,by simp [z5]⟩
     ·refine .inl ⟨b,o+l*sz,c-l,by simp [hcl,zdS],by omega,hex',?_,hpure,?_⟩
      ·rcases hS with rfl | hS
       ·exact .inl (by simp [slice])
       ·exact .inr hS
      ·exact zcE _ _ _ _ (zbu _ _ _ _ hra)
 case osl id o n=>
  simp only [zq] at hx;obtain ⟨p,c,hm,rfl,hnc,hoc⟩:=hx
  split at h
  case h_2=>cases h
  rename_i rw0 pu0 ex0 z0 cs0 hget0;obtain ⟨p',arr,t',hm',_,hz',_⟩:=hh.obj id _ _ hget0 hm;rw [hm] at hm';injection hm' with hm'
  subst hm'
  cases hl:zat tm 0 (lo.map (opX H)) with
  | none=>simp [hl] at h
  | some l=>
   simp only [hl] at h
   cases hh:zat tm n (hi.map (opX H)) with
   | none=>simp [hh] at h
   | some g=>
    simp only [hh] at h
    cases hc:(Nat.ble l g&&Nat.ble g n&&Nat.beq z0 sz) with
    | false=>rw [hc] at h;cases h
    | true=>
     rw [hc] at h;simp only [cond_true] at h;simp only [Bool.and_eq_true] at hc;have h1:=Nat.le_of_ble_eq_true hc.1.1;have h2:=Nat.le_of_ble_eq_true hc.1.2;have hpz:p.z=sz:=hz'.trans (Nat.eq_of_beq_eq_true hc.2)
     cases he:(Nat.beq l g&& !Nat.beq l 0) with
     | true=>
      rw [he] at h;simp only [cond_true,Option.some.injEq] at h;subst h;simp only [Bool.and_eq_true] at he;have hlg:=Nat.eq_of_beq_eq_true he.1;refine ⟨_,run_sl (some ⟨p.b,p.o+o,none⟩) n c l g hl hh h1 (by omega),?_⟩;simp only [zq];by_cases hcl:c=l
      ·exact .inl ⟨p.b,p.o+o,c-l,by simp [hcl];omega,by omega,by simp,by simp,by simp [zt],by simp [z5]⟩
      ·exact .inl ⟨p.b,p.o+o+l*sz,c-l,by simp [hcl,zdS];omega,by omega,by simp,by simp,by simp [zt],by simp [z5]⟩
     | false=>
      rw [he] at h;simp only [cond_false,Option.some.injEq] at h;subst h;have hcl:c=l→l=0:=by
       intro hcl;have hlg:l=g:=by omega
       cases hl0:Nat.beq l 0 with
       | true=>exact Nat.eq_of_beq_eq_true hl0
       | false=>rw [hlg,Nat.beq_refl,←hlg,hl0] at he;cases he
      refine ⟨_,run_sl (some ⟨p.b,p.o+o,none⟩) n c l g hl hh h1 (by omega),?_⟩;simp only [zq];refine ⟨p,c-l,hm,?_,by omega,?_⟩
      ·by_cases hcl':c=l
       ·have:=hcl hcl';subst this;subst hcl';simp
       ·simp [hcl',zdS,Nat.add_assoc]
      ·rw [hpz] at hoc ⊢
       have:c*sz=l*sz+(c-l)*sz:=by rw [←Nat.add_mul];congr 1;omega
       omega
end
end VE
end
section
namespace VE
open Go
theorem zaJ {P:Program} {w:World} {t:TypeId} {sz:Nat} (hz:szT P t=some sz):(Go.sizeOf t).run P w= .ok sz w:=by
 unfold szT at hz
 cases hi:P.info? t with
 | none=>simp [hi] at hz
 | some i=>simp_all [Go.sizeOf,typeInfo]
section
variable {Λ:Link} {H:zbY} {m:Mp} {S:Nat→Prop} {w:World} {tm:Env} {a:Act} {hp:Hp} {ct:Nat}
theorem zjZ {id o n:Nat} {rw pu ex:Bool} {sz:Nat} {cs:List AV} {p:Pl} (hh:zW Λ m S w hp ct) (hg:zA hp id=some (.cells rw pu ex sz cs)) (hm:m id=some p):
  z5 Λ.fid m S w cs p.b p.o:=by
 obtain ⟨p',arr,t',hm',_,_,_,_,_,hr,_⟩:=hh.obj id _ _ hg hm;rw [hm] at hm';injection hm' with hm'
 subst hm';exact hr
theorem zHs {t:TypeId} {sz:Nat} {ag:Bool} {vx v:AV} {x:Value} (hh:zW Λ m S w hp ct) (hz:szT Λ.P t=some sz) (ha:zbI Λ.P t=some ag) (hx:zq Λ.fid m S w vx x)
  (h:ze6 hp sz ag vx=some v):∃u,(Instr.loadAt t x).run Λ.P w= .ok u w∧zq Λ.fid m S w v u:=by
 cases vx<;>simp only [ze6,reduceCtorEq] at h
 case ptr id o=>
  simp only [zq] at hx;obtain ⟨p,hm,rfl⟩:=hx
  split at h
  case h_2=>cases h
  rename_i rw0 pu0 ex0 z0 cs0 hget0;have hr:=zjZ (id:=id) (o:=0) (n:=0) hh hget0 hm;obtain ⟨u,h1,h2⟩:=zjQ hz ha (zbu o cs0 p.b p.o hr) h;exact ⟨u,by simp only [Instr.loadAt,Instr.sureAddr,Sem.run_bind,Sem.run_pure,Result.andThen_ok];exact h1,h2⟩
 case vptr cs=>
  simp only [zq] at hx;obtain ⟨b,o,rfl,_,_,hr⟩:=hx;obtain ⟨u,h1,h2⟩:=zjQ hz ha hr h;exact ⟨u,by simp only [Instr.loadAt,Instr.sureAddr,Sem.run_bind,Sem.run_pure,Result.andThen_ok];exact h1,h2⟩
theorem zcd:∀(k:Nat) (cs:List AV),zt cs=true→zt (cs.drop k)=true
 | 0,cs,h=>by simpa using h
 | k+1,[],h=>by simpa using h
 | k+1,c::cs,h=>by simp only [zt,Bool.and_eq_true] at h;simpa using zcd k cs h.2
theorem ziP {cs:List AV} {b o k:Nat} (h2:cs=[]∨S b) (h3:zt cs=true) (h4:z5 Λ.fid m S w cs b o):zq Λ.fid m S w (.vptr (cs.drop k)) (.pointer (some ⟨b,o+k,none⟩)):=by
 simp only [zq];refine ⟨b,o+k,rfl,?_,zcd k cs h3,zbu k cs b o h4⟩;rcases h2 with rfl | h2
 ·exact .inl (by simp)
 ·exact .inr h2
theorem zFC {t:TypeId} {fs:Array Field} {i:Nat} {f:Field} {sz:Nat} {vx v:AV} {x:Value} (hu:Λ.P.underlying t=some (.struct fs)) (hf:fs[i]? =some f) (hz:szT Λ.P f.type=some (sz+1))
  (hx:zq Λ.fid m S w vx x)
  (h:znR f.offset vx=some v):∃u,(Instr.fieldAt t x i).run Λ.P w= .ok u w∧zq Λ.fid m S w v u:=by
 have run_f:∀(b o:Nat),(Instr.fieldAt t (.pointer (some ⟨b,o,none⟩)) i).run Λ.P w= .ok (.pointer (some ⟨b,o+f.offset,none⟩)) w:=by
  intro b o;simp only [Instr.fieldAt,Sem.run_bind,run_underlying hu,Result.andThen_ok,hf,Instr.sureAddr,Sem.run_pure,fieldPlace,zaJ hz,Nat.succ_ne_zero,if_false,zdS]
 cases vx<;>simp only [znR,reduceCtorEq] at h
 case ptr id o=>
  simp only [zq] at hx;obtain ⟨p,hm,rfl⟩:=hx;simp only [Option.some.injEq] at h;subst h;exact ⟨_,run_f _ _,by simp only [zq];exact ⟨p,hm,by rw [Nat.add_assoc]⟩⟩
 case vptr cs=>
  simp only [zq] at hx;obtain ⟨b,o,rfl,h2,h3,h4⟩:=hx
  cases hc:Nat.ble f.offset cs.length with
  | false=>rw [hc] at h;cases h
  | true=>
   rw [hc] at h;simp only [cond_true,Option.some.injEq] at h;subst h;exact ⟨_,run_f _ _,ziP h2 h3 h4⟩
theorem zEn {t:TypeId} {fs:Array Field} {i:Nat} {f:Field} {sz:Nat} {ag:Bool} {vx v:AV} {x:Value} (hu:Λ.P.underlying t=some (.struct fs)) (hf:fs[i]? =some f)
  (hz:szT Λ.P f.type=some sz) (ha:zbI Λ.P f.type=some ag) (hx:zq Λ.fid m S w vx x)
  (h:zq7 f.offset sz ag vx=some v):∃u,(Instr.field t x i).run Λ.P w= .ok u w∧zq Λ.fid m S w v u:=by
 cases vx<;>simp only [zq7,reduceCtorEq] at h
 simp only [zq] at hx;obtain ⟨xs,rfl,hr⟩:=hx;obtain ⟨u,h1,h2⟩:=zrj hz ha hr h;exact ⟨u,by simp only [Instr.field,Sem.run_bind,run_underlying hu,Result.andThen_ok,hf,asAgg,Sem.run_pure];exact h1,h2⟩
theorem zER {t e:TypeId} {sz k:Nat} {vx vi v:AV} {x i:Value} (hu:Λ.P.underlying t=some (.slice e)) (hz:szT Λ.P e=some sz) (hx:zq Λ.fid m S w vx x) (hi:zq Λ.fid m S w vi i)
  (hk:zaL vi=some k)
  (h:zdG sz k vx=some v):∃u,(Instr.indexAt t x i).run Λ.P w= .ok u w∧zq Λ.fid m S w v u:=by
 obtain ⟨kd,rfl⟩:=zd1 hi hk;have run_i:∀(b o n c:Nat),k<n→(Instr.indexAt t (.slice (some ⟨b,o,none⟩) n c) (.int kd (k:Int))).run Λ.P w= .ok (.pointer (some ⟨b,o+k*sz,none⟩)) w:=by
  intro b o n c hkn;have hr:(0:Int)≤(k:Int)∧(k:Int)<(n:Int):=by omega
  simp [Instr.indexAt,asIntOf,run_underlying hu,zaJ hz,hr,zdS];intro hle;exact absurd hle (by omega)
 cases vx<;>simp only [zdG,reduceCtorEq] at h
 case osl id o n=>
  simp only [zq] at hx;obtain ⟨p,c,hm,rfl,hnc,hoc⟩:=hx
  cases hc:Nat.blt k n with
  | false=>rw [hc] at h;cases h
  | true=>
   rw [hc] at h;simp only [cond_true,Option.some.injEq] at h;subst h;have hkn:k<n:=by simp only [Nat.blt,Nat.ble_eq] at hc;omega
   exact ⟨_,run_i _ _ _ _ hkn,by simp only [zq];exact ⟨p,hm,by rw [Nat.add_assoc]⟩⟩
 case vsl ex n cs=>
  simp only [zq] at hx;rcases hx with ⟨b,o,c,rfl,hnc,hex,h2,h3,h4⟩ | ⟨a,rfl,rfl,rfl⟩
  case inr=>
   have:Nat.blt k 0=false:=by cases hq:Nat.blt k 0 with | false=>rfl | true=>simp only [Nat.blt,Nat.ble_eq] at hq;omega
   rw [this] at h;cases h
  cases hc:Nat.blt k n with
  | false=>rw [hc] at h;cases h
  | true=>
   rw [hc] at h;simp only [cond_true,Option.some.injEq] at h;subst h;have hkn:k<n:=by simp only [Nat.blt,Nat.ble_eq] at hc;omega
   exact ⟨_,run_i _ _ _ _ hkn,ziP h2 h3 h4⟩
theorem zEl {t e:TypeId} {len sz k:Nat} {vx vi v:AV} {x i:Value} (hu:Λ.P.underlying t=some (.array len e)) (hz:szT Λ.P e=some sz) (hx:zq Λ.fid m S w vx x) (hi:zq Λ.fid m S w vi i)
  (hk:zaL vi=some k)
  (h:zr7 len sz k vx=some v):∃u,(Instr.indexAt t x i).run Λ.P w= .ok u w∧zq Λ.fid m S w v u:=by
 obtain ⟨kd,rfl⟩:=zd1 hi hk;have run_i:∀(b o:Nat),k<len→(Instr.indexAt t (.pointer (some ⟨b,o,none⟩)) (.int kd (k:Int))).run Λ.P w= .ok (.pointer (some ⟨b,o+k*sz,none⟩)) w:=by
  intro b o hkn;have hr:(0:Int)≤(k:Int)∧(k:Int)<(len:Int):=by omega
  simp [Instr.indexAt,asIntOf,run_underlying hu,zaJ hz,hr,zdS,Instr.sureAddr];intro hle;exact absurd hle (by omega)
 cases vx<;>simp only [zr7,reduceCtorEq] at h
 case ptr id o=>
  simp only [zq] at hx;obtain ⟨p,hm,rfl⟩:=hx
  cases hc:Nat.blt k len with
  | false=>rw [hc] at h;cases h
  | true=>
   rw [hc] at h;simp only [cond_true,Option.some.injEq] at h;subst h;have hkn:k<len:=by simp only [Nat.blt,Nat.ble_eq] at hc;omega
   exact ⟨_,run_i _ _ hkn,by simp only [zq];exact ⟨p,hm,by rw [Nat.add_assoc]⟩⟩
 case vptr cs=>
  simp only [zq] at hx;obtain ⟨b,o,rfl,h2,h3,h4⟩:=hx
  cases hc:Nat.blt k len with
  | false=>rw [hc] at h;cases h
  | true=>
   rw [hc] at h;simp only [cond_true,Option.some.injEq] at h;subst h;have hkn:k<len:=by simp only [Nat.blt,Nat.ble_eq] at hc;omega
   exact ⟨_,run_i _ _ hkn,ziP h2 h3 h4⟩
theorem zEQ {t e:TypeId} {len sz k:Nat} {ag:Bool} {vx vi v:AV} {x i:Value} (hu:Λ.P.underlying t=some (.array len e)) (hz:szT Λ.P e=some sz) (ha:zbI Λ.P e=some ag)
  (hx:zq Λ.fid m S w vx x) (hi:zq Λ.fid m S w vi i) (hk:zaL vi=some k)
  (h:zqQ len sz ag k vx=some v):
  ∃u,(Instr.index t x i).run Λ.P w= .ok u w∧zq Λ.fid m S w v u:=by
 obtain ⟨kd,rfl⟩:=zd1 hi hk;cases vx<;>simp only [zqQ,reduceCtorEq] at h
 simp only [zq] at hx;obtain ⟨xs,rfl,hr⟩:=hx
 cases hc:Nat.blt k len with
 | false=>rw [hc] at h;cases h
 | true=>
  rw [hc] at h;simp only [cond_true] at h;have hkn:k<len:=by simp only [Nat.blt,Nat.ble_eq] at hc;omega
  obtain ⟨u,h1,h2⟩:=zrj hz ha hr h;have hr':(0:Int)≤(k:Int)∧(k:Int)<(len:Int):=by omega
  exact ⟨u,by simp [Instr.index,asIntOf,run_underlying hu,zaJ hz,hr',h1];intro hle;exact absurd hle (by omega),h2⟩
theorem zDV {t:TypeId} {k:Nat} {vx vi v:AV} {x i:Value} (hu:Λ.P.underlying t=some .string) (hx:zq Λ.fid m S w vx x) (hi:zq Λ.fid m S w vi i) (hk:zaL vi=some k)
  (h:zeB k vx=some v):
  ∃u,(Instr.index t x i).run Λ.P w= .ok u w∧zq Λ.fid m S w v u:=by
 obtain ⟨kd,rfl⟩:=zd1 hi hk;cases vx<;>simp only [zeB,reduceCtorEq] at h
 rename_i s;simp only [zq] at hx;obtain ⟨b,rfl,rfl⟩:=hx
 cases hs:(b.data.toList.map UInt8.toNat)[k]? with
 | none=>rw [hs] at h;cases h
 | some q=>
  rw [hs] at h;simp only [Option.some.injEq] at h;subst h;rw [List.getElem?_map] at hs
  cases hb:b.data.toList[k]? with
  | none=>rw [hb] at hs;cases hs
  | some c=>
   rw [hb] at hs;simp only [Option.map_some,Option.some.injEq] at hs;subst hs;have hb':b[k]? =some c:=by
    have hlt:k<b.data.toList.length:=by
     rcases Nat.lt_or_ge k b.data.toList.length with h | h
     ·exact h
     ·rw [List.getElem?_eq_none h] at hb;cases hb
    have hsz:k<b.size:=by rw [Lib.size_eq];exact hlt
    rw [getElem?_pos b k hsz];rw [List.getElem?_eq_getElem hlt] at hb;injection hb with hb
    rw [←hb];rfl
   refine ⟨.int .u8 c.toNat,?_,by simp [zq]⟩;simp [Instr.index,asIntOf,run_underlying hu,hb']
end
end VE
end
section
namespace VE
open Go
section
variable {fid:Nat→Nat} {m:Mp} {S:Nat→Prop} {w:World}
theorem ziS:∀{v:AV} {u:Value},zq fid m S w v u→zK (cellsOf v)=true→zn fid m S w (cellsOf v) u.cells.toList:=by
 intro v u h h1;cases v
 case agg cs=>
  simp only [zq] at h;obtain ⟨xs,rfl,hr⟩:=h;exact hr
 case tup vs=>simp [cellsOf,zK,zX] at h1
 case undef=>simp [cellsOf,zK,zX] at h1
 case fsl=>simp [cellsOf,zK,zX] at h1
 case fn f a b=>
  cases f with
  | f g=>have h':=h;simp only [zq] at h';obtain ⟨fi,ca,rfl,_⟩:=h';simp only [cellsOf,Value.cells,zn];exact ⟨_,_,rfl,h,rfl⟩
  | y l=>have h':=h;simp only [zq] at h';obtain ⟨p,_,rfl⟩:=h';simp only [cellsOf,Value.cells,zn];exact ⟨_,_,rfl,h,rfl⟩
 case str s=>have h':=h;simp only [zq] at h';obtain ⟨b,rfl,_⟩:=h';simp only [cellsOf,Value.cells,zn];exact ⟨_,_,rfl,h,rfl⟩
 case ptr id o=>have h':=h;simp only [zq] at h';obtain ⟨b,_,rfl⟩:=h';simp only [cellsOf,Value.cells,zn];exact ⟨_,_,rfl,h,rfl⟩
 case vptr cs=>have h':=h;simp only [zq] at h';obtain ⟨b,o,rfl,_⟩:=h';simp only [cellsOf,Value.cells,zn];exact ⟨_,_,rfl,h,rfl⟩
 case vsl e n cs=>have h':=h;simp only [zq] at h';rcases h' with ⟨b,o,c,rfl,_⟩ | ⟨a,rfl,_,_⟩<;>(simp only [cellsOf,Value.cells,zn];exact ⟨_,_,rfl,h,rfl⟩)
 case osl id o n=>have h':=h;simp only [zq] at h';obtain ⟨p,c,_,rfl,_⟩:=h';simp only [cellsOf,Value.cells,zn];exact ⟨_,_,rfl,h,rfl⟩
 case map id=>have h':=h;simp only [zq] at h';obtain ⟨p,_,rfl⟩:=h';simp only [cellsOf,Value.cells,zn];exact ⟨_,_,rfl,h,rfl⟩
 case vmap ks vs=>have h':=h;simp only [zq] at h';obtain ⟨b,es,cl,rfl,_⟩:=h';simp only [cellsOf,Value.cells,zn];exact ⟨_,_,rfl,h,rfl⟩
 case it id=>have h':=h;simp only [zq] at h';obtain ⟨p,_,rfl⟩:=h';simp only [cellsOf,Value.cells,zn];exact ⟨_,_,rfl,h,rfl⟩
 all_goals
  have h':=h;simp only [zq] at h';subst h';simp only [cellsOf,Value.cells,zn];exact ⟨_,_,rfl,h,rfl⟩
theorem zbS (v:Value):zn fid m S w (cellsOf (za6 v)) v.cells.toList:=by
 have h:=zjM (fid:=fid) (m:=m) (S:=S) (w:=w) v;cases v
 case agg xs=>
  obtain ⟨l⟩:=xs;simp only [za6,zq] at h ⊢;obtain ⟨xs,e,hr⟩:=h;injection e with e
  subst e;exact hr
 case tuple xs=>obtain ⟨l⟩:=xs;simp only [za6] at h ⊢;simp only [cellsOf,Value.cells,zn];exact ⟨_,_,rfl,h,rfl⟩
 case pointer p=>cases p<;>(simp only [za6] at h ⊢;simp only [cellsOf,Value.cells,zn];exact ⟨_,_,rfl,h,rfl⟩)
 case map p=>cases p<;>(simp only [za6] at h ⊢;simp only [cellsOf,Value.cells,zn];exact ⟨_,_,rfl,h,rfl⟩)
 case slice p n c=>
  cases p
  ·cases n
   ·cases c<;>(simp only [za6] at h ⊢;simp only [cellsOf,Value.cells,zn];exact ⟨_,_,rfl,h,rfl⟩)
   ·simp only [za6] at h ⊢;simp only [cellsOf,Value.cells,zn];exact ⟨_,_,rfl,h,rfl⟩
  ·simp only [za6] at h ⊢;simp only [cellsOf,Value.cells,zn];exact ⟨_,_,rfl,h,rfl⟩
 all_goals (simp only [za6] at h ⊢;simp only [cellsOf,Value.cells,zn];exact ⟨_,_,rfl,h,rfl⟩)
theorem zaA:∀{a b:List AV} {x y:List Value},zn fid m S w a x→zn fid m S w b y→zn fid m S w (a++b) (x++y)
 | [],b,x,y,h,k=>by simp only [zn] at h;subst h;simpa using k
 | c::a,b,x,y,h,k=>by
  simp only [zn] at h;obtain ⟨u,r,rfl,h2,h3⟩:=h;simp only [List.cons_append,zn];exact ⟨u,r++y,rfl,h2,zaA h3 k⟩
theorem ze5:∀(k:Nat) {cs:List AV} {us:List Value},zn fid m S w cs us→zn fid m S w (cs.drop k) (us.drop k)
 | 0,cs,us,h=>by simpa using h
 | k+1,[],us,h=>by simp only [zn] at h;subst h;simp [zn]
 | k+1,c::cs,us,h=>by simp only [zn] at h;obtain ⟨u,r,rfl,_,h3⟩:=h;simpa using ze5 k h3
theorem zed:∀(k:Nat) {cs:List AV} {us:List Value},zn fid m S w cs us→zn fid m S w (cs.take k) (us.take k)
 | 0,cs,us,h=>by simp [zn]
 | k+1,[],us,h=>by simp only [zn] at h;subst h;simp [zn]
 | k+1,c::cs,us,h=>by
  simp only [zn] at h;obtain ⟨u,r,rfl,h2,h3⟩:=h;simp only [List.take_succ_cons,zn];exact ⟨u,_,rfl,h2,zed k h3⟩
theorem zlc:∀{cs:List AV} {us:List Value} {i:Nat} {v:AV},zn fid m S w cs us→cs[i]? =some v→∃u,us[i]? =some u∧zq fid m S w v u
 | [],us,i,v,_,h=>by simp at h
 | c::cs,us,0,v,h,e=>by
  simp only [zn] at h;obtain ⟨u,r,rfl,h2,h3⟩:=h;simp at e;subst e;exact ⟨u,rfl,h2⟩
 | c::cs,us,i+1,v,h,e=>by
  simp only [zn] at h;obtain ⟨u,r,rfl,h2,h3⟩:=h;simp at e;simpa using zlc h3 e
end
theorem zmg (off:Nat):∀(new:List Value) (j:Nat) (cells:Array Value),off+j+new.length≤cells.size→
  ((new.zipIdx j).foldl (fun (cs:Array Value) (p:Value×Nat)=>cs.setIfInBounds (off+p.2) p.1) cells).toList=
   cells.toList.take (off+j)++new++cells.toList.drop (off+j+new.length)
 | [],j,cells,_=>by simp
 | v::r,j,cells,h=>by
  simp only [List.length_cons] at h;have ih:=zmg off r (j+1) (cells.setIfInBounds (off+j) v) (by simp;omega);simp only [List.zipIdx_cons,List.foldl_cons];rw [ih];have hlt:off+j<cells.toList.length:=by simp;omega
  have h1:(cells.setIfInBounds (off+j) v).toList=cells.toList.set (off+j) v:=by simp
  rw [h1,show off+(j+1)=off+j+1 by omega];have h2:(cells.toList.set (off+j) v).take (off+j+1)=cells.toList.take (off+j)++[v]:=by
   rw [List.take_succ_eq_append_getElem (by simpa using hlt)];simp [List.take_set_of_le]
  have h3:(cells.toList.set (off+j) v).drop (off+j+1+r.length)=cells.toList.drop (off+j+(r.length+1)):=by
   rw [List.drop_set_of_lt (by omega)];congr 1;omega
  rw [h2,h3]
  simp
section
variable {Λ:Link} {H:zbY} {m:Mp} {S:Nat→Prop} {w:World} {tm:Env} {a:Act}
theorem zjV (hH:zaT Λ H) (ht:zaI Λ m S w tm a.tmps) {place:Nat→Option (Nat×Nat)}:∀(parts:List (Nat×Operand)) (ps:List (Nat×Nat×X)) (zero cs:List AV) (cells:Array Value),
  zd3 H place parts=some ps→zn Λ.fid m S w zero cells.toList→fill tm zero ps=some cs→
  ∃out,Instr.fill place cells (parts.map fun p=>(p.1,a.eval p.2))=some out∧zn Λ.fid m S w cs out.toList
 | [],ps,zero,cs,cells,hp,hz,hf=>by
  simp only [zd3,Option.some.injEq] at hp;subst hp;simp only [fill,Option.some.injEq] at hf;subst hf;exact ⟨cells,rfl,hz⟩
 | (i,x)::r,ps,zero,cs,cells,hp,hz,hf=>by
  simp only [zd3] at hp
  cases hpl:place i with
  | none=>simp [hpl] at hp
  | some q=>
   obtain ⟨o,s⟩:=q;simp only [hpl] at hp
   cases hpr:zd3 H place r with
   | none=>simp [hpr] at hp
   | some l=>
    simp only [hpr,Option.some.injEq] at hp;subst hp;simp only [fill] at hf
    cases hc:(Nat.beq (cellsOf (zy tm (opX H x))).length s&&Nat.ble (o+s) zero.length&&zK (cellsOf (zy tm (opX H x)))) with
    | false=>rw [hc] at hf;cases hf
    | true=>
     rw [hc] at hf;simp only [cond_true] at hf;simp only [Bool.and_eq_true] at hc;have hs:=Nat.eq_of_beq_eq_true hc.1.1;have hle:=Nat.le_of_ble_eq_true hc.1.2;have hrx:=ziS (zan hH ht x) hc.2;have hl1:=zaE _ _ hrx;have hl2:=zaE _ _ hz;have hsz:(a.eval x).cells.size=s:=by rw [←hs,←hl1];simp
     have hcs:cells.size=zero.length:=by rw [←hl2];simp
     have hfold:=zmg o (a.eval x).cells.toList 0 cells (by simp;omega);have hz':zn Λ.fid m S w (zcp o (cellsOf (zy tm (opX H x))) zero)
       ((a.eval x).cells.zipIdx.foldl (fun (cs:Array Value) (p:Value×Nat)=>cs.setIfInBounds (o+p.2) p.1) cells).toList:=by
      rw [←Array.foldl_toList,Array.toList_zipIdx,hfold];simp only [zcp,Nat.add_zero];rw [show (a.eval x).cells.toList.length=(cellsOf (zy tm (opX H x))).length from hl1];exact zaA (zaA (zed o hz) hrx) (ze5 _ hz)
     obtain ⟨out,h1,h2⟩:=zjV hH ht r l _ cs _ hpr hz' hf;refine ⟨out,?_,h2⟩;simp only [List.map_cons,Instr.fill,hpl,hsz];rw [if_neg (by simp;omega)];exact h1
end
end VE
end
