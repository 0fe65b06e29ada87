import Derived.Lib.Index
import Derived.Lib.ItoaNum
import Derived.Lib.Atoi
import Derived.Lib.BitFns
import Derived.Lib.Repeat
import Derived.Lib.SlTrimSet
import Derived.Shelf.Strings.Cut
import Derived.Shelf.Strings.Prefix
import Derived.Shelf.Small.Bits
import Derived.RowKit
import Derived.Test.YtjemkccfpkgopaaGreatDoorVac
import Derived.Test.YtjemkccfpkgopaaGreatDoorVaa
set_option linter.all false
set_option maxRecDepth 100000
open Array renaming replicate→uR
open Bool renaming and_eq_true→yh,false_eq_true→yL
open Go renaming Calls→xT,Func→ybh,LeavesInM→ybK,ResultVar→ybI,Value→yg,World→yi
open Int renaming natCast_nonneg→tC,ofNat→yaN
open List renaming length_map→yj,mapM_cons→uf,map_append→xg,map_cons→xc,map_reverse→tN
open Nat renaming beq→yx,ble→yG,ble_eq_true_of_le→yu,blt→yR,eq_of_beq_eq_true→yt,le_of_ble_eq_true→yz,le_refl→yv
open Option.some renaming injEq→yd
open UInt8 renaming ofNat→ybi,toNat→xb,toNat_ofNat'→yan
namespace VE
section
open Go
section
variable {O:bA} {m:Mp} {S:Nat->Prop} {w:yi}
def acP:∀(az:List AV) (j i:Nat),af (dM j az) (j+i)=az.getD i .undef
 | [],j,i=>by simp [dM,af]
 | v::r,j,i=>by
  cases i with
  | zero=>simp [dM,af]
  | succ i=>
   simp only [dM,af];have hb:yx j (j+(i+1))=false:=by
    cases hq:yx j (j+(i+1)) with
    | false=>rfl
    | true=>have:=yt hq;omega
   rw [hb,show j+(i+1)=j+1+i by omega];rw [acP r (j+1) i]
   simp
def acQ {az:List AV} {args:Array yg} (n:Nat) (h:aA O.ah m S w az args.toList):cm O m S w (dM 0 az) (args++uR n undef):=by
 intro i
 have:=acP az 0 i
 rw [Nat.zero_add] at this;rw [this,List.getD_eq_getElem?_getD]
 cases hv:az[i]? with
 | none=>simp only [Option.getD_none,ai]
 | some v=>
  obtain ⟨u,h1,h2⟩:=R9 h hv;have hl:i<args.size:=by
   grind
  have:(args++uR n undef).getD i undef=u:=by
   rw [Array.getD_eq_getD_getElem?,Array.getElem?_append_left hl]
   grind
  grind
def FK (tmps:Array yg):ybI->Sem yg
 | .tmp t=>pure (tmps.getD t undef)
 | .cell a t=>do loadVar t (<-asAddr (tmps.getD a undef))
def ao4 (fn:ybh) (tmps:Array yg):results fn tmps=(do let vs <-fn.results.mapM (FK tmps);pure (if h:vs.size=1 then vs[0] else .tuple vs)):=by
 rfl
def RD {s:St} {ct:Nat} {tmps:Array yg} (hh:aW O m S w s.hp ct) (ht:cm O m S w s.tm tmps):∀{rs:List ybI} {rv:List RV} {vs:List AV},oZ O.P rs=some rv->lj s rv=some vs->
  ∃us,(rs.mapM (FK tmps)).run O.P w= .ok us w/\aA O.ah m S w vs us
 | [],rv,vs,h1,h2=>by
  simp only [oZ,yd] at h1;subst h1;simp only [lj,yd] at h2;subst h2;exact ⟨[],by simp,by simp [aA]⟩
 | .tmp t::rs,rv,vs,h1,h2=>by
  simp only [oZ] at h1
  cases hc:oZ O.P rs with
  | none=>simp [hc] at h1
  | some l=>
   simp only [hc,yd] at h1;subst h1;simp only [lj,results1] at h2
   cases hl:lj s l with
   | none=>simp [hl] at h2
   | some Zx=>
    simp only [hl,yd] at h2;subst h2;obtain ⟨us,g1,g2⟩:=RD hh ht hc hl;refine ⟨tmps.getD t undef::us,?_,by simp only [aA];exact ⟨_,_,rfl,ht t,g2⟩⟩
    rw [uf];simp only [FK,Sem.run_bind,Sem.run_pure,Result.andThen_ok];rw [g1];rfl
 | .cell a t::rs,rv,vs,h1,h2=>by
  simp only [oZ] at h1
  cases hz:cR O.P t with
  | none=>simp [hz] at h1
  | some sz=>
   cases Lm:dU O.P t with
   | none=>simp [hz,Lm] at h1
   | some ag=>
    cases hc:oZ O.P rs with
    | none=>simp [hz,Lm,hc] at h1
    | some l=>
     simp only [hz,Lm,hc,yd] at h1;subst h1;simp only [lj] at h2
     cases cM:results1 s (.cell a sz ag) with
     | none=>simp [cM] at h2
     | some v=>
      cases hl:lj s l with
      | none=>simp [cM,hl] at h2
      | some Zx=>
       simp only [cM,hl,yd] at h2;subst h2;obtain ⟨us,g1,g2⟩:=RD hh ht hc hl;have ra:=ht a;have key:∃b o u,tmps.getD a undef= .pointer (some ⟨b,o,none⟩)/\(loadVar t ⟨b,o,none⟩).run O.P w= .ok u w/\ai O.ah m S w v u:=by
        simp only [results1] at cM;cases hta:af s.tm a<;>rw [hta] at cM ra<;>simp only [reduceCtorEq] at cM
        ·rename_i id o;simp only [ai] at ra;obtain ⟨p,hm,hp⟩:=ra
         cases hg:ay s.hp id with
         | none=>simp [hg] at cM
         | some ob=>
          cases ob<;>simp only [hg,reduceCtorEq] at cM
          have ZZ:=R8 (o:=0) (n:=0) hh hg hm;obtain ⟨u,q1,q2⟩:=Nf hz Lm (rM o _ p.b p.o ZZ) cM;exact ⟨p.b,p.o+o,u,hp,q1,q2⟩
        ·rename_i cs;simp only [ai] at ra;obtain ⟨b,o,hp,_,_,ZZ⟩:=ra;obtain ⟨u,q1,q2⟩:=Nf hz Lm ZZ cM;exact ⟨b,o,u,hp,q1,q2⟩
       obtain ⟨b,o,u,q1,q2,q3⟩:=key;refine ⟨u::us,?_,by simp only [aA];exact ⟨_,_,rfl,q3,g2⟩⟩
       rw [uf]
       have:(FK tmps (.cell a t)).run O.P w= .ok u w:=by
        simp only [FK];rw [q1];simp [asAddr,q2]
       rw [Sem.run_bind,this,Result.andThen_ok,Sem.run_bind,g1];rfl
def aor {s:St} {ct:Nat} {tmps:Array yg} {fn:ybh} {rv:List RV} {v:AV} (hh:aW O m S w s.hp ct) (ht:cm O m S w s.tm tmps) (h1:oZ O.P fn.results.toList=some rv) (h2:iT s rv=some v):
  ∃u,(results fn tmps).run O.P w= .ok u w/\ai O.ah m S w v u:=by
 unfold iT at h2
 cases hl:lj s rv with
 | none=>simp [hl] at h2
 | some vs=>
  obtain ⟨us,g1,g2⟩:=RD hh ht h1 hl;have hlen:=iU _ _ g2;have hm:(fn.results.mapM (FK tmps)).run O.P w= .ok us.toArray w:=by
   rw [Array.mapM_eq_mapM_toList];simp [g1]
  have gQ:(results fn tmps).run O.P w= .ok (if h:us.toArray.size=1 then us.toArray[0] else .tuple us.toArray) w:=by
   rw [ao4,Sem.run_bind,hm];rfl
  rw [hl] at h2
  split at h2
  ·rename_i v' mD;simp only [yd] at mD h2;subst mD;simp only [aA] at g2
   grind
  ·rename_i ej dH mD;simp only [yd] at mD h2;subst mD;subst h2;have h1:¬us.toArray.size=1:=by
    intro h
    have:vs.length=1:=by simp_all
    cases vs with
    | nil=>simp at this
    | cons x t=>
     cases t with
     | nil=>exact dH x rfl
     | cons y t=>simp at this
   simp only [ai]
   grind
  ·grind
def RX {s:St} {tmps:Array yg} {fn:ybh} {rv:List RV} {v:AV} {m0:Mp} {S0:Nat->Prop} {w0:yi} {hp0:Hp} {Ln:Nat} (h1:oZ O.P fn.results.toList=some rv) (h2:iT s rv=some v) (eX:Ln<=s.ct):∀(rs:List Nat) (w:yi),
  rs.Nodup->(∀r,r∈rs->w.heap[r]? =some (.deferred (some []))/\¬S r/\w0.heap.size<=r)->O.w0.heap.size<=w0.heap.size->aW O m S w s.hp s.ct->cm O m S w s.tm tmps->cp m0 S0 w0 hp0 m S w s.hp Ln->
  ybK Fence.wide 0 O.P fn tmps (zt O m0 S0 w0 hp0 Ln v s.hp s.ct) (rs.map (fun r=>{target:= .collected r,args:=#[]})) .returning w
 | [],w,_,_,_,hh,ht,hf=>by
  obtain ⟨u,g1,g2⟩:=aor hh ht h1 h2;exact ⟨u,g1,u,m,S,rfl,hh,eX,g2,hf⟩
 | r::rs,w,ko,hr,bk,hh,ht,hf=>by
  obtain ⟨e9,eB⟩:=List.nodup_cons.1 ko;obtain ⟨a1,a2,a3⟩:=hr r List.mem_cons_self;have gB:=EE w r (.deferred none);have oD:¬ek m s.hp r:=fun ho=>adF hh ho _ a1
  have B8:=ab1 hh gB a2 oD (Nat.le_trans bk a3)
  have aO:fX S w {w with heap:=w.heap.setIfInBounds r (.deferred none)}:=fun b hb=>gB.other b (fun e=>a2 (e▸hb))
  have B4:cp m0 S0 w0 hp0 m S {w with heap:=w.heap.setIfInBounds r (.deferred none)} s.hp Ln:=by
   refine ⟨hf.os,hf.tape,hf.output,by rw [gB.size];exact hf.size,fun b hb ho=>(gB.other b (by omega)).trans (hf.same b hb ho),hf.sub,fun b hb=>(gB.other b (fun e=>a2 (e▸hf.sub b hb))).trans (hf.still b hb),hf.new,hf.own,hf.old,fun b x hb=>?_⟩
   obtain ⟨x',hx⟩:=hf.loops b x hb;exact ⟨x',(gB.other b (fun e=>by subst e;rw [a1] at hx;cases hx)).trans hx⟩
  refine ⟨by simp,.inl ⟨r,_,rfl,?_,RX h1 h2 eX rs _ eB (fun r' bJ=>?_) bk B8 (AU (fun _ _ h=>h) (fun _ h=>h) aO ht) B4⟩⟩
  ·simp only [Instr.takeDeferred,Sem.run_bind,ab2 (P:=O.P) a1 (fun _ _ _=>by simp),Result.andThen_ok,Mq (P:=O.P) a1 (fun _ _ _=>by simp),Sem.run_pure]
  ·obtain ⟨b1,b2,b3⟩:=hr r' (List.mem_cons_of_mem _ bJ);exact ⟨(gB.other r' (fun e=>e9 (e▸bJ))).trans b1,b2,b3⟩
end
section
variable {O:bA} {self:cD}
def azS (hO:eR O) (hS:∀v s ex s',self v s=some (ex,s')->∀c h l k,(comp O.P (O.hint h) c l k).1=v->Bp O h c s ex s') {n:Nat} {F:aV} (hF:O.prog n=some F) {hp:Hp} {ct:Nat} {az:List AV} {ex:Ex} {s:St}
  (hv:self F.body ⟨dM 0 az,hp,ct,ct⟩=some (ex,s)) (hex:ex= .normal\/ex= .ret) {v:AV} (hr:iT s F.fO=some v):Bo O n hp ct az v s.hp s.ct:=by
 intro m S w args hh ic;obtain ⟨fn,q1,q2,q3⟩:=hO.prog n F hF;obtain ⟨c,q4,q5,q6,q7⟩:=Ro q2;refine .inl ⟨MX q1 (by rw [q4];rfl) q3,?_⟩
 have hc:=hS _ _ _ _ hv c n 0 0 q5.symm;have hw:=hc none w.heap.size m S w {tmps:=args++uR (fn.ntmps-args.size) undef,defers:=[]} (fun l hl=>by cases hl) (acQ _ ic) hh (yv _) (by simp;omega) hh.fY (yv _) ⟨[],rfl,by simp,by simp⟩
 refine callsIn_of_wp_marks (F:=Fence.wide) q1 q4 trivial (wpIn_mono hw ?_);rintro e a' w' ⟨rfl,m',S',k1,k2,k3,k4,k5,k6,rs,k7,k8,k9⟩;have main:ybK Fence.wide 0 O.P fn a'.tmps (zt O m S w hp ct v s.hp s.ct) a'.defers .returning w':=by
  rw [k7];exact RX q6 hr k4 rs w' k8 k9 hh.fY k2 k1 k5
 rcases hex with rfl | rfl
 ·exact main
 ·exact main
def A4.mono {P:Program} {f:FuncId} {args:Array yg} {w:yi} {R R':Ending->yi->Prop} (h:A4 P f args w R) (hr:∀e w',R e w'->R' e w'):A4 P f args w R':=by
 rcases h with ⟨h1,h2⟩ | ⟨u,w',h1,h2⟩
 ·exact .inl ⟨h1,CallsIn.mono h2 hr⟩
 ·exact .inr ⟨u,w',h1,hr _ _ h2⟩
def ap9 {w:yi} {S:Nat->Prop} (hg:Bn O w) (hs:∀b,S b->b<w.heap.size):aW O fa S w [] 0:=
 ⟨(fun id o p h _=>by simp [ay] at h),(fun id p h=>by cases h),(fun i j oi oj pi pj h=>by simp [ay] at h),hs,(fun id p h=>by cases h),(fun id p h=>by cases h),hg.1,hg.2,(fun id o h=>by simp [ay] at h)⟩
def Sj {b:Nat} (h:ek fa [] b):False:=by
 obtain ⟨_,_,_,h,_⟩:=h;simp [ay] at h
def Rg {n:Nat} {az:List AV} {v r:AV} {s:St} (h:Bo O n [] 0 az v s.hp s.ct) (hr:result s.hp v=some r):eH O n az r:=by
 intro w S args hg hs ic hp;refine A4.mono (h fa S w args (ap9 hg hs) ic) ?_;rintro e w' ⟨u,m',S',rfl,k1,k2,k3,k4⟩;have bk:∀b,ek m' s.hp b->w.heap.size<=b:=fun b hb=>(k4.own b hb).elim (fun h=>(Sj h).elim) (fun h=>h)
 obtain ⟨S2,g1,g2,g3,g4⟩:=ap0 (lo:=w.heap.size) k1 hr k3 bk;refine ⟨u,S2,rfl,⟨k4.os,k4.tape,k4.output,k4.size,fun b hb=>k4.same b hb Sj⟩,fun b hb=>g1 b (k4.sub b hb),fun b hb=>?_,g3,g4⟩;rcases g2 b hb with h | h
 ·rcases k4.new b h with h | h | h
  ·exact .inl h
  ·exact (Sj h).elim
  ·exact .inr h
 ·exact .inr (bk b h)
def ao5 (hO:eR O) (hS:∀v s ex s',self v s=some (ex,s')->∀c h l k,(comp O.P (O.hint h) c l k).1=v->Bp O h c s ex s'):nN O self:=by
 have heap:∀(n:Nat) (F:aV),O.prog n=some F->∀(hp:Hp) (ct:Nat) (az:List AV) (ex:Ex) (s:St) (v:AV),self F.body ⟨dM 0 az,hp,ct,ct⟩=some (ex,s)->(ex= .normal\/ex= .ret)->iT s F.fO=some v->Bo O n hp ct az v s.hp s.ct:=
  fun n F hF hp ct az ex s v h1 h2 h3=>azS hO hS hF h1 h2 h3
 refine ⟨?_,?_,fun hp ct l xs v ak aP hv=>arV hS hv⟩
 ·intro n az r hv;unfold bP at hv
  cases hL:O.aE.pure n with
  | some sp=>rw [hL] at hv;exact hO.aE n sp az r hL hv
  | none=>
   simp only [hL] at hv
   cases hF:O.prog n with
   | none=>simp [hF] at hv
   | some F=>
    simp only [hF] at hv
    split at hv
    ·rename_i s hb
     cases hr:iT s F.fO with
     | none=>simp [hr] at hv
     | some v=>simp only [hr] at hv;exact Rg (heap n F hF [] 0 az .normal s v hb (.inl rfl) hr) hv
    ·rename_i s hb
     cases hr:iT s F.fO with
     | none=>simp [hr] at hv
     | some v=>simp only [hr] at hv;exact Rg (heap n F hF [] 0 az .ret s v hb (.inr rfl) hr) hv
    ·cases hv
 ·intro hp ct n az v ak aP hv;unfold hZ at hv
  cases hL:O.aE.heap n with
  | some sp=>rw [hL] at hv;exact hO.FI n sp hp ct az v ak aP hL hv
  | none=>
   simp only [hL] at hv
   cases hF:O.prog n with
   | none=>simp [hF] at hv
   | some F=>
    grind
def abC (hO:eR O):∀n,nN O (ev O.prog O.aE n):=by
 intro n
 induction n using Nat.strongRecOn with
 | _ n ih=>
  refine ao5 hO (fun v s ex s' hv c h l k hc=>?_)
  cases n with
  | zero=>rw [IS] at hv;cases hv
  | succ n=>
   rw [IT,<-hc] at hv;exact aeR hO n (fun k hk=>ih k (by omega)) h c l k n (yv _) s ex s' hv
def sound (hO:eR O) {n f:Nat} {az:List AV} {r:AV} (h:Zy O.prog O.aE n f az=some r):eH O f az r:=(abC hO n).pure f az r h
end
end
section
open Go (IntKind)
def gN:List Nat->List Nat->Bool
 | [],_=>true
 | a::x,b::y=>yx a b&&gN x y
 | _::_,[]=>false
def me (sub:List Nat):List Nat->Nat->Option Nat
 | [],k=>bif gN sub [] then some k else none
 | b::r,k=>bif gN sub (b::r) then some k else me sub r (k+1)
def Oj:List AV->Option AV
 | [.str s,.str sep]=>
  bif yR s.length 4294967281 then
   match me sep s 0 with
   | some i=>some (.ae [.str (s.take i),.str (s.drop (i+sep.length)),.bool true])
   | none=>some (.ae [.str s,.str [],.bool false])
  else none
 | _=>none
def Ms:List AV->Option AV
 | [.str s,.str p]=>some (bif gN p s then .ae [.str (s.drop p.length),.bool true] else .ae [.str s,.bool false])
 | _=>none
def Mt:List AV->Option AV
 | [.str s,.str p]=>some (.bool (gN p s))
 | _=>none
def Mg:List AV->Option AV
 | [.str s,.str p]=>some (.str (bif gN p s then s.drop p.length else s))
 | _=>none
def FL (i:Nat):List Nat->Bool
 | []=>false
 | j::r=>bif yx j i then true else FL i r
def kO (set:List Nat):List Nat->List Nat
 | []=>[]
 | b::r=>bif FL b set then kO set r else b::r
def E3:List Nat->Bool
 | []=>true
 | b::r=>yR b 128&&E3 r
def trimS:List AV->Option AV
 | [.str s,.str set]=>bif E3 set&&(yR s.length 4294967281&&yR set.length 4294967281) then some (.str (kO set (kO set s.reverse).reverse)) else none
 | _=>none
def ij (s:List Nat):Nat->List Nat
 | 0=>[]
 | n+1=>s++ij s n
def A5:List AV->Option AV
 | [.str s,.int .i64 (.ofNat n)]=>bif yG n 1099511627776&&yG (s.length*n) 1099511627776 then some (.str (ij s n)) else none
 | _=>none
def mQ:Nat->Nat->List Nat->List Nat
 | 0,_,acc=>acc
 | f+1,n,acc=>bif yR n 10 then (48+n)::acc else mQ f (n/10) ((48+n%10)::acc)
def aD (n:Nat):List Nat:=mQ (n+1) n []
def aX:Int->List Nat
 | .ofNat n=>aD n
 | .negSucc n=>45::aD (n+1)
def Bq:Int->Bool
 | .ofNat n=>yR n 9223372036854775808
 | .negSucc n=>yR n 9223372036854775808
def JH:List AV->Option AV
 | [.int .i64 n]=>bif Bq n then some (.str (aX n)) else none
 | _=>none
def AP:List AV->Option AV
 | [.int .u64 (.ofNat n),.int .i64 10]=>bif yR n 18446744073709551616 then some (.str (aD n)) else none
 | _=>none
def cT:List Nat->Nat->Option Nat
 | [],a=>some a
 | b::r,a=>bif yG 48 b&&yG b 57 then cT r (10*a+(b-48)) else none
def JI:List AV->Option AV
 | [.str s]=>
  bif yR 0 s.length&&yG s.length 18 then
   match cT s 0 with | some n=>some (.ae [.int .i64 n,.undef]) | none=>none
  else none
 | _=>none
def nP:List AV->Option AV
 | [.int .u64 (.ofNat x),.int .u64 (.ofNat y),.int .u64 (.ofNat c)]=>
  bif yG c 1&&(yR x 18446744073709551616&&yR y 18446744073709551616) then some (.ae [.int .u64 ((x+y+c)%18446744073709551616:Nat),.int .u64 ((x+y+c)/18446744073709551616:Nat)]) else none
 | _=>none
def Bb:List AV->Option AV
 | [.int .u64 (.ofNat x),.int .u64 (.ofNat y),.int .u64 (.ofNat c)]=>
  bif yG c 1&&(yR x 18446744073709551616&&yR y 18446744073709551616) then some (.ae [.int .u64 ((x+18446744073709551616*2-y-c)%18446744073709551616:Nat),.int .u64 (bif yG (y+c) x then 0 else 1)]) else none
 | _=>none
def r8:List AV->Option AV
 | [.int .u64 (.ofNat x),.int .u64 (.ofNat y)]=>bif yR x 18446744073709551616&&yR y 18446744073709551616 then some (.ae [.int .u64 (x*y/18446744073709551616:Nat),.int .u64 (x*y%18446744073709551616:Nat)]) else none
 | _=>none
def eM:Nat->Nat->Nat
 | 0,_=>0
 | f+1,n=>bif yx n 0 then 0 else 1+eM f (n/2)
def I5:List AV->Option AV
 | [.int .u64 (.ofNat x)]=>bif yR x 18446744073709551616 then some (.int .i64 (eM 64 x)) else none
 | _=>none
def FB:List AV->Option AV
 | [.int .u64 (.ofNat x)]=>bif yR x 18446744073709551616 then some (.int .i64 (64-eM 64 x:Nat)) else none
 | _=>none
def Sk:List AV->Option AV
 | [.bU .f64 b]=>some (.int .u64 b)
 | _=>none
def Rh:List AV->Option AV
 | [.int .u64 (.ofNat n)]=>some (.bU .f64 n)
 | _=>none
end
section
open Go
section
variable {O:bA} {n:Nat}
def Ik {w w':yi} (h:RowKit.Below w.heap.size w w'):Calm w w':=⟨h.os,h.tape,h.output,h.size,h.block⟩
def aqa {w:yi} (k:Nat):Calm w (w.drewN k):=⟨rfl,rfl,rfl,yv _,fun _ _=>rfl⟩
def aqb {w:yi} (h:Bn O w) {a:Addr} {v:yg} (hc:O.w0.cell? a=some v):w.cell? a=some v:=by
 have hb:a.block<O.w0.heap.size:=by
  unfold World.cell? at hc
  cases hq:O.w0.heap[a.block]? with
  | none=>simp [hq] at hc
  | some o=>exact (Array.getElem?_eq_some_iff.1 hq).1
 unfold World.cell? at hc ⊢;rw [h.1 _ hb];exact hc
def oU {az:List AV} {r:AV} (hr:∀S w' lo u,ai O.ah fa S w' r u->nh O.ah S w' lo r u)
  (fT:∀args w,(callFunc (O.ah n) args).run O.P w= .ok (.enter (O.ah n) args) w)
  (h:∀w S args,Bn O w->aA O.ah fa S w az args.toList->xT O.P (O.ah n) args w fun e w'=>∃u,e= .returned u/\Calm w w'/\∀S,ai O.ah fa S w' r u):eH O n az r:=by
 intro w S args hg hS dQ _;refine .inl ⟨fT args w,Go.callsIn_wide.2 ((h w S args hg dQ).mono ?_)⟩;rintro e w' ⟨u,rfl,hc,hu⟩;exact ⟨u,S,rfl,hc,fun _ h=>h,fun _ h=> .inl h,fun b hb=>Nat.lt_of_lt_of_le (hS b hb) hc.size,hr S w' _ u (hu S)⟩
def MG {az:List AV} {r:AV} (hr:∀S w' lo u,ai O.ah fa S w' r u->nh O.ah S w' lo r u)
  (h:∀w S args,aA O.ah fa S w az args.toList->∃u,(callFunc (O.ah n) args).run O.P w= .ok (.value u) w/\∀S,ai O.ah fa S w r u):eH O n az r:=by
 intro w S args _ hS dQ _;obtain ⟨u,h1,h2⟩:=h w S args dQ;exact .inr ⟨u,w,h1,u,S,rfl,Calm.refl,fun _ h=>h,fun _ h=> .inl h,hS,hr S w _ u (h2 S)⟩
def IU {s:List Nat}:∀S w' lo u,ai O.ah fa S w' (.str s) u->nh O.ah S w' lo (.str s) u:=fun S w' lo u h=>⟨[],rfl,h,rfl⟩
def SI {k:IntKind} {z:Int}:∀S w' lo u,ai O.ah fa S w' (.int k z) u->nh O.ah S w' lo (.int k z) u:=fun S w' lo u h=>⟨[],rfl,h,rfl⟩
def atT {k:FloatKind} {z:Nat}:∀S w' lo u,ai O.ah fa S w' (.bU k z) u->nh O.ah S w' lo (.bU k z) u:=fun S w' lo u h=>⟨[],rfl,h,rfl⟩
def arX {b:Bool}:∀S w' lo u,ai O.ah fa S w' (.bool b) u->nh O.ah S w' lo (.bool b) u:=fun S w' lo u h=>⟨[],rfl,h,rfl⟩
def ab3 {S:Nat->Prop} {w':yi} {lo:Nat}:∀{vs:List AV} {us:List yg},(∀v,v∈vs->(∀ex sz k cs,v≠.bw ex sz k cs)/\a7 v=true)->aA O.ah fa S w' vs us->kS O.ah S w' lo vs us []
 | [],us,_,h=>by simp only [aA] at h;exact ⟨h,rfl⟩
 | v::vs,us,hv,h=>by
  simp only [aA] at h;obtain ⟨u,t,rfl,h1,h2⟩:=h;have h3:=hv v (by simp);refine ⟨u,t,[],[],rfl,rfl,?_,ab3 (fun v hm=>hv v (by simp [hm])) h2⟩;cases v<;>first | exact ⟨rfl,h1,h3.2⟩ | exact absurd rfl (h3.1 _ _ _ _)
def ER {vs:List AV} (hv:∀v,v∈vs->(∀ex sz k cs,v≠.bw ex sz k cs)/\a7 v=true):∀S w' lo u,ai O.ah fa S w' (.ae vs) u->nh O.ah S w' lo (.ae vs) u:=by
 intro S w' lo u h;obtain ⟨xs,rfl,h⟩:=h;exact ⟨xs,[],rfl,ab3 hv h,by simp⟩
def FC {S:Nat->Prop} {w:yi} {a:AV} {args:Array yg} (h:aA O.ah fa S w [a] args.toList):∃u,args=#[u]/\ai O.ah fa S w a u:=by
 simp only [aA] at h
 grind
def Br {S:Nat->Prop} {w:yi} {a b:AV} {args:Array yg} (h:aA O.ah fa S w [a,b] args.toList):∃u v,args=#[u,v]/\ai O.ah fa S w a u/\ai O.ah fa S w b v:=by
 simp only [aA] at h
 grind
def aja {S:Nat->Prop} {w:yi} {a b c:AV} {args:Array yg} (h:aA O.ah fa S w [a,b,c] args.toList):∃u v x,args=#[u,v,x]/\ai O.ah fa S w a u/\ai O.ah fa S w b v/\ai O.ah fa S w c x:=by
 simp only [aA] at h
 grind
def Il {S:Nat->Prop} {w:yi} {s:List Nat} {l:List UInt8} (h:l.map xb=s):ai O.ah fa S w (.str s) (.string ⟨l.toArray⟩):=by
 simp only [ai];exact ⟨_,rfl,h⟩
def toNat_inj {a b:UInt8}:yx a.toNat b.toNat=(a==b):=by
 by_cases h:a=b
 ·simp_all
 ·have h':a.toNat≠b.toNat:=fun e=>h (UInt8.toNat_inj.1 e)
  have e:(a==b)=false:=by simp_all
  rw [e]
  cases hq:yx a.toNat b.toNat with
  | false=>rfl
  | true=>exact absurd (yt hq) h'
def Iv:∀(p s:List UInt8),gN (p.map xb) (s.map xb)=p.isPrefixOf s
 | [],s=>by cases s<;>rfl
 | a::p,[]=>rfl
 | a::p,b::s=>by
  simp only [xc,gN,List.isPrefixOf,Iv p s,toNat_inj]
def ab4:∀(s sep:List UInt8) (k:Nat),me (sep.map xb) (s.map xb) k=if 0<=Lib.index s sep then some (k+(Lib.index s sep).toNat) else none
 | [],sep,k=>by
  simp only [List.map_nil,me,Lib.index]
  cases sep with
  | nil=>simp [gN]
  | cons a r=>simp [gN]
 | b::s,sep,k=>by
  have ih:=ab4 s sep (k+1);have hp:=Iv sep (b::s);simp only [xc,me,hp,Lib.index]
  grind
def adH (b:UInt8):∀cs:List UInt8,FL b.toNat (cs.map xb)=cs.contains b
 | []=>rfl
 | c::cs=>by
  simp only [xc,FL,adH b cs,List.contains_cons,toNat_inj]
  grind
def RY (cs:List UInt8):∀l:List UInt8,kO (cs.map xb) (l.map xb)=(l.dropWhile (cs.contains ·)).map xb
 | []=>rfl
 | b::l=>by
  simp only [xc,kO,adH,List.dropWhile_cons,RY cs l]
  grind
def adI (l:List UInt8):∀n,ij (l.map xb) n=(Lib.repeatL l n).map xb
 | 0=>rfl
 | n+1=>by simp only [ij,Lib.repeatL,xg,adI l n]
def abD:∀(f n:Nat) (acc:List Nat),n<f->mQ f n acc=(Lib.decDigits n).map xb++acc
 | 0,n,acc,h=>by omega
 | f+1,n,acc,h=>by
  rw [mQ,Lib.decDigits];by_cases hn:n<10
  ·rw [show yR n 10=true from yu hn,yA,dif_pos hn]
   have:(ybi (48+n)).toNat=48+n:=by
    rw [yan];omega
   grind
  ·have hb:yR n 10=false:=by
    cases hq:yR n 10 with
    | false=>rfl
    | true=>exact absurd (yz hq) (by omega)
   rw [hb,yV,dif_neg hn,abD f (n/10) _ (by omega),xg,List.append_assoc]
   have:(ybi (48+n%10)).toNat=48+n%10:=by
    rw [yan];omega
   grind
def Sl (n:Nat):aD n=(Lib.decDigits n).map xb:=by
 rw [aD,abD (n+1) n [] (by omega),List.append_nil]
def arY (n:Int):aX n=(Lib.itoa n).map xb:=by
 cases n with
 | ofNat k=>
  have:¬yaN k<0:=by simp
  simp only [aX,Lib.itoa,this,xi,Sl];rfl
 | negSucc k=>
  have:Int.negSucc k<0:=Int.negSucc_lt_zero k
  simp only [aX,Lib.itoa,this,xD,Sl,xc];rfl
def Sm:∀f x:Nat,eM f x=Lib.bitLenAux f x
 | 0,_=>rfl
 | f+1,x=>by
  rw [eM,Lib.bitLenAux];by_cases h:x=0
  ·simp_all
  ·have hb:yx x 0=false:=by
    cases hq:yx x 0 with
    | false=>rfl
    | true=>exact absurd (yt hq) h
   rw [hb,yV,yD h,Sm f]
def ab5:∀{cs:List UInt8},E3 (cs.map xb)=true->∀(j:Nat) b,cs[j]? =some b->b.toNat<128
 | [],_,j,b,h=>by simp at h
 | c::cs,h,j,b,hb=>by
  simp only [xc,E3,yh] at h
  cases j with
  | zero=>
   simp_all
  | succ j=>exact ab5 h.2 j b (by simpa using hb)
def pn {a b:Nat} (h:yR a b=true):a<b:=by simp_all
def adJ:∀{l:List UInt8} {a z:Nat},cT (l.map xb) a=some z->Lib.decFrom a l=some z
 | [],a,z,h=>h
 | b::l,a,z,h=>by
  simp only [xc,cT] at h
  cases hb:(yG 48 b.toNat&&yG b.toNat 57) with
  | false=>rw [hb] at h;cases h
  | true=>
   rw [hb] at h;simp only [yh] at hb;have h1:=yz hb.1;have h2:=yz hb.2
   have:=adJ h
   rw [Lib.decFrom,Lib.digitVal,yT ⟨h1,h2⟩]
   grind
def arZ {l:List UInt8} {z:Nat} (h:cT (l.map xb) 0=some z) (h0:0<l.length):Lib.atoi l=some (z:Int):=by
 cases l with
 | nil=>simp at h0
 | cons b r=>
  have hd:=adJ h;have hb:48<=b.toNat:=by
   simp only [xc,cT] at h
   cases hb:(yG 48 b.toNat&&yG b.toNat 57) with
   | false=>rw [hb] at h;cases h
   | true=>
    simp_all
  have h1:(b==45)=false:=by
   have:b≠45:=fun e=>by subst e;exact absurd hb (by decide)
   grind
  have h2:(b==43)=false:=by
   have:b≠43:=fun e=>by subst e;exact absurd hb (by decide)
   grind
  simp only [Lib.atoi,h1,h2,yL,xi,Lib.decNat,List.isEmpty_cons,hd,Option.map_some]
section
variable {f:FuncId}
def an3 (hf:O.ah n=f) (fT:∀args w,(callFunc f args).run O.P w= .ok (.enter f args) w)
  (hc:∀(s p:ByteArray) (w:yi),xT O.P f #[.string s,.string p] w fun e w'=>e= .returned (.tuple #[.string ⟨(Lib.trimPrefix s.data.toList p.data.toList).toArray⟩,.bool (Lib.hasPrefix s.data.toList p.data.toList)])/\w'=w):
  ∀az r,Ms az=some r->eH O n az r:=by
 intro az r h;unfold Ms at h
 split at h
 ·rename_i s p;simp only [yd] at h;subst h;refine oU ?_ (by rw [hf];exact fT) ?_
  ·cases gN p s<;>exact ER (by simp [a7])
  ·intro w S args hg dQ;obtain ⟨u,v,rfl,h1,h2⟩:=Br dQ;obtain ⟨t1,rfl,rfl⟩:=h1;obtain ⟨t2,rfl,rfl⟩:=h2;rw [hf];refine (hc t1 t2 w).mono ?_;rintro e w' ⟨rfl,rfl⟩;refine ⟨_,rfl,Calm.refl,fun S=>?_⟩;rw [Iv,yj];unfold Lib.trimPrefix Lib.hasPrefix
   cases hp:t2.data.toList.isPrefixOf t1.data.toList with
   | true=>
    simp only [yA,xD,ai,aA]
    simp_all
   | false=>
    simp only [yV,yL,xi,ai,aA]
    grind
 ·cases h
def an4 (hf:O.ah n=f) (fT:∀args w,(callFunc f args).run O.P w= .ok (.enter f args) w)
  (hc:∀(s p:ByteArray) (w:yi),xT O.P f #[.string s,.string p] w fun e w'=>e= .returned (.bool (Lib.hasPrefix s.data.toList p.data.toList))/\w'=w):
  ∀az r,Mt az=some r->eH O n az r:=by
 intro az r h;unfold Mt at h
 split at h
 ·rename_i s p;simp only [yd] at h;subst h;refine oU arX (by rw [hf];exact fT) ?_
  intro w S args hg dQ;obtain ⟨u,v,rfl,h1,h2⟩:=Br dQ;obtain ⟨t1,rfl,rfl⟩:=h1;obtain ⟨t2,rfl,rfl⟩:=h2;rw [hf];refine (hc t1 t2 w).mono ?_;rintro e w' ⟨rfl,rfl⟩;refine ⟨_,rfl,Calm.refl,fun S=>?_⟩;rw [Iv];simp only [ai,Lib.hasPrefix]
 ·cases h
def an0 (hf:O.ah n=f) (fT:∀args w,(callFunc f args).run O.P w= .ok (.enter f args) w)
  (hc:∀(s p:ByteArray) (w:yi),xT O.P f #[.string s,.string p] w fun e w'=>e= .returned (.string ⟨(Lib.trimPrefix s.data.toList p.data.toList).toArray⟩)/\w'=w):
  ∀az r,Mg az=some r->eH O n az r:=by
 intro az r h;unfold Mg at h
 split at h
 ·rename_i s p;simp only [yd] at h;subst h;refine oU IU (by rw [hf];exact fT) ?_
  intro w S args hg dQ;obtain ⟨u,v,rfl,h1,h2⟩:=Br dQ;obtain ⟨t1,rfl,rfl⟩:=h1;obtain ⟨t2,rfl,rfl⟩:=h2;rw [hf];refine (hc t1 t2 w).mono ?_;rintro e w' ⟨rfl,rfl⟩;refine ⟨_,rfl,Calm.refl,fun S=>?_⟩;rw [Iv,yj];refine Il ?_;unfold Lib.trimPrefix Lib.hasPrefix
  cases hp:t2.data.toList.isPrefixOf t1.data.toList with
  | true=>simp [List.map_drop]
  | false=>simp
 ·cases h
def atU (hf:O.ah n=f) (fT:∀args w,(callFunc f args).run O.P w= .ok (.enter f args) w) {a:Addr} {m:Int} (hm:O.w0.cell? a=some (.int .i64 m))
  (hc:∀(s sep:ByteArray) (w:yi),s.size<4294967281->w.cell? a=some (.int .i64 m)->xT O.P f #[.string s,.string sep] w fun e w'=>e= .returned (.tuple #[.string ⟨(Lib.cut s.data.toList sep.data.toList).1.toArray⟩,.string ⟨(Lib.cut s.data.toList sep.data.toList).2.1.toArray⟩,.bool (Lib.cut s.data.toList sep.data.toList).2.2])/\∃n,w'=w.drewN n):
  ∀az r,Oj az=some r->eH O n az r:=by
 intro az r h;unfold Oj at h
 split at h
 ·rename_i s sep
  cases hb:yR s.length 4294967281 with
  | false=>rw [hb] at h;cases h
  | true=>
   rw [hb] at h;have key:∀(q:List UInt8×List UInt8×Bool),(∀t1 t2:ByteArray,t1.data.toList.map xb=s->t2.data.toList.map xb=sep->r= .ae [.str ((Lib.cut t1.data.toList t2.data.toList).1.map xb),.str ((Lib.cut t1.data.toList t2.data.toList).2.1.map xb),.bool (Lib.cut t1.data.toList t2.data.toList).2.2])->
     (∃a b c,r= .ae [.str a,.str b,.bool c])->eH O n [.str s,.str sep] r:=by
    intro q hq av4;obtain ⟨a',b',c',rfl⟩:=av4;refine oU (ER (by simp [a7])) (by rw [hf];exact fT) ?_
    intro w S args hg dQ;obtain ⟨u,v,rfl,h1,h2⟩:=Br dQ;obtain ⟨t1,rfl,e1⟩:=h1;obtain ⟨t2,rfl,e2⟩:=h2;rw [hf];have hl:t1.size<4294967281:=by
     have:=pn hb
     rw [<-e1,yj] at this
     simp_all
    refine (hc t1 t2 w hl (aqb hg hm)).mono ?_;rintro e w' ⟨rfl,k,rfl⟩;refine ⟨_,rfl,aqa k,fun S=>?_⟩;simp only [ai,aA]
    grind
   refine key ([],[],false) ?_ ?_
   ·intro t1 t2 e1 e2;subst e1;subst e2;rw [ab4] at h;unfold Lib.cut;by_cases h0:0<=Lib.index t1.data.toList t2.data.toList
    ·simp_all
    ·grind
   ·grind
 ·cases h
def ar0 (hf:O.ah n=f) (fT:∀args w,(callFunc f args).run O.P w= .ok (.enter f args) w)
  (hc:∀(s cs:ByteArray) (w:yi),s.size<=9223372036854775807->cs.size<4294967281->(∀(j:Nat) b,cs.data.toList[j]? =some b->b.toNat<128)->xT O.P f #[.string s,.string cs] w fun e w'=>e= .returned (.string ⟨(Lib.trimS s.data.toList cs.data.toList).toArray⟩)/\RowKit.Below w.heap.size w w'):
  ∀az r,trimS az=some r->eH O n az r:=by
 intro az r h;unfold trimS at h
 split at h
 ·rename_i s cs
  cases hb:(E3 cs&&(yR s.length 4294967281&&yR cs.length 4294967281)) with
  | false=>rw [hb] at h;cases h
  | true=>
   rw [hb] at h;simp only [yA,yd] at h;subst h;simp only [yh] at hb;refine oU IU (by rw [hf];exact fT) ?_
   intro w S args hg dQ;obtain ⟨u,v,rfl,h1,h2⟩:=Br dQ;obtain ⟨t1,rfl,rfl⟩:=h1;obtain ⟨t2,rfl,rfl⟩:=h2;have ns:=pn hb.2.1;have oA:=pn hb.2.2;rw [yj] at ns oA;rw [hf];refine (hc t1 t2 w (by rw [Lib.size_eq];omega) (by rw [Lib.size_eq];omega) (ab5 hb.1)).mono ?_;rintro e w' ⟨rfl,hw⟩;refine ⟨_,rfl,Ik hw,fun S=>Il ?_⟩;simp only [Lib.trimS,Lib.trimLeftS,Lib.trimRightS];rw [<-tN,RY,<-tN,RY]
 ·cases h
def ao6 (hf:O.ah n=f) (fT:∀args w,(callFunc f args).run O.P w= .ok (.enter f args) w)
  (hc:∀(s:ByteArray) (c:Nat) (w:yi),c<=9223372036854775807->s.size*c<=140737488355328->xT O.P f #[.string s,.int .i64 c] w fun e w'=>e= .returned (.string ⟨(Lib.repeatL s.data.toList c).toArray⟩)/\RowKit.Below w.heap.size w w'):
  ∀az r,A5 az=some r->eH O n az r:=by
 intro az r h;unfold A5 at h
 split at h
 ·rename_i s c
  cases hb:(yG c 1099511627776&&yG (s.length*c) 1099511627776) with
  | false=>rw [hb] at h;cases h
  | true=>
   rw [hb] at h;simp only [yA,yd] at h;subst h;simp only [yh] at hb;have l1:=yz hb.1;have l2:=yz hb.2;refine oU IU (by rw [hf];exact fT) ?_
   intro w S args hg dQ;obtain ⟨u,v,rfl,h1,h2⟩:=Br dQ;obtain ⟨t1,rfl,rfl⟩:=h1;subst h2;rw [hf];rw [yj] at l2;refine (hc t1 c w (by omega) (by rw [Lib.size_eq];omega)).mono ?_;rintro e w' ⟨rfl,hw⟩;exact ⟨_,rfl,Ik hw,fun S=>Il (adI _ _).symm⟩
 ·cases h
def ar1 (hf:O.ah n=f) (fT:∀args w,(callFunc f args).run O.P w= .ok (.enter f args) w)
  (hc:∀(z:Int) (w:yi),-9223372036854775808<=z->z<=9223372036854775807->Bn O w->xT O.P f #[.int .i64 z] w fun e w'=>e= .returned (.string ⟨(Lib.itoa z).toArray⟩)/\Calm w w'):
  ∀az r,JH az=some r->eH O n az r:=by
 intro az r h;unfold JH at h
 split at h
 ·rename_i z
  cases hb:Bq z with
  | false=>rw [hb] at h;cases h
  | true=>
   rw [hb] at h;simp only [yA,yd] at h;subst h;have hz: -9223372036854775808<=z/\z<=9223372036854775807:=by
    cases z with
    | ofNat k=>have:=pn hb;show -9223372036854775808<=(k:Int)/\(k:Int)<=9223372036854775807;omega
    | negSucc k=>have:=pn hb;omega
   refine oU IU (by rw [hf];exact fT) ?_
   intro w S args hg dQ;obtain ⟨u,rfl,h1⟩:=FC dQ;subst h1;rw [hf];refine (hc z w hz.1 hz.2 hg).mono ?_;rintro e w' ⟨rfl,hw⟩;exact ⟨_,rfl,hw,fun S=>Il (arY z).symm⟩
 ·cases h
def an1 (hf:O.ah n=f) (fT:∀args w,(callFunc f args).run O.P w= .ok (.enter f args) w)
  (hc:∀(z:Nat) (w:yi),z<18446744073709551616->Bn O w->xT O.P f #[.int .u64 z,.int .i64 10] w fun e w'=>e= .returned (.string ⟨(Lib.decDigits z).toArray⟩)/\Calm w w'):
  ∀az r,AP az=some r->eH O n az r:=by
 intro az r h;unfold AP at h
 split at h
 ·rename_i z
  cases hb:yR z 18446744073709551616 with
  | false=>rw [hb] at h;cases h
  | true=>
   rw [hb] at h;simp only [yA,yd] at h;subst h;refine oU IU (by rw [hf];exact fT) ?_
   intro w S args hg dQ;obtain ⟨u,v,rfl,h1,h2⟩:=Br dQ;subst h1;subst h2;rw [hf];refine (hc z w (pn hb) hg).mono ?_;rintro e w' ⟨rfl,hw⟩;exact ⟨_,rfl,hw,fun S=>Il (Sl z).symm⟩
 ·cases h
def ar2 (hf:O.ah n=f) (fT:∀args w,(callFunc f args).run O.P w= .ok (.enter f args) w)
  (hc:∀(s:ByteArray) (z:Int) (w:yi),s.size<=18->Lib.atoi s.data.toList=some z->xT O.P f #[.string s] w fun e w'=>e= .returned (.tuple #[.int .i64 z,.nilIface])/\Calm w w'):
  ∀az r,JI az=some r->eH O n az r:=by
 intro az r h;unfold JI at h
 split at h
 ·rename_i s
  cases hb:(yR 0 s.length&&yG s.length 18) with
  | false=>rw [hb] at h;cases h
  | true=>
   rw [hb] at h;simp only [yA] at h;simp only [yh] at hb;have l1:=pn hb.1;have l2:=yz hb.2
   split at h
   ·rename_i z hz;simp only [yd] at h;subst h;refine oU (ER (by simp [a7])) (by rw [hf];exact fT) ?_
    intro w S args hg dQ;obtain ⟨u,rfl,h1⟩:=FC dQ;obtain ⟨t1,rfl,rfl⟩:=h1;rw [yj] at l1 l2;have ha:Lib.atoi t1.data.toList=some (z:Int):=arZ hz l1;rw [hf];refine (hc t1 z w (by rw [Lib.size_eq];exact l2) ha).mono ?_
    simp only [ai,aA]
    grind
   ·cases h
 ·cases h
def aqc (hf:O.ah n=f) (fT:∀args w,(callFunc f args).run O.P w= .ok (.enter f args) w)
  (hc:∀(x y:Nat) (w:yi),x<18446744073709551616->y<18446744073709551616->xT O.P f #[.int .u64 x,.int .u64 y] w fun e w'=>e= .returned (.tuple #[.int .u64 ((x*y/18446744073709551616:Nat):Int),.int .u64 ((x*y%18446744073709551616:Nat):Int)])/\w'=w):
  ∀az r,r8 az=some r->eH O n az r:=by
 intro az r h;unfold r8 at h
 split at h
 ·rename_i x y
  cases hb:(yR x 18446744073709551616&&yR y 18446744073709551616) with
  | false=>rw [hb] at h;cases h
  | true=>
   rw [hb] at h;simp only [yA,yd] at h;subst h;simp only [yh] at hb;refine oU (ER (by simp [a7])) (by rw [hf];exact fT) ?_
   intro w S args hg dQ;obtain ⟨u,v,rfl,h1,h2⟩:=Br dQ;subst h1;subst h2;rw [hf];refine (hc x y w (pn hb.1) (pn hb.2)).mono ?_;rintro e w' ⟨rfl,rfl⟩;refine ⟨_,rfl,Calm.refl,fun S=>?_⟩;simp only [ai,aA]
   grind
 ·cases h
def aqd (hf:O.ah n=f) (fT:∀args w,(callFunc f args).run O.P w= .ok (.enter f args) w)
  (hc:∀(x:Int) (w:yi),0<=x->x<=18446744073709551615->xT O.P f #[.int .u64 x] w fun e w'=>e= .returned (.int .i64 (Lib.bitLen x.toNat:Nat))/\w'=w):
  ∀az r,I5 az=some r->eH O n az r:=by
 intro az r h;unfold I5 at h
 split at h
 ·rename_i x
  cases hb:yR x 18446744073709551616 with
  | false=>rw [hb] at h;cases h
  | true=>
   rw [hb] at h;simp only [yA,yd] at h;subst h
   have:=pn hb
   refine oU SI (by rw [hf];exact fT) ?_
   intro w S args hg dQ;obtain ⟨u,rfl,h1⟩:=FC dQ;subst h1;rw [hf];refine (hc (yaN x) w (tC x) (by show (x:Int)<=_;omega)).mono ?_;rintro e w' ⟨rfl,rfl⟩;refine ⟨_,rfl,Calm.refl,fun S=>?_⟩;rw [Sm];rfl
 ·cases h
def ar3 (hf:O.ah n=f) (fT:∀args w,(callFunc f args).run O.P w= .ok (.enter f args) w)
  (hc:∀(x:Int) (w:yi),0<=x->x<=18446744073709551615->xT O.P f #[.int .u64 x] w fun e w'=>e= .returned (.int .i64 (64-(Lib.bitLen x.toNat:Nat)))/\w'=w):
  ∀az r,FB az=some r->eH O n az r:=by
 intro az r h;unfold FB at h
 split at h
 ·rename_i x
  cases hb:yR x 18446744073709551616 with
  | false=>rw [hb] at h;cases h
  | true=>
   rw [hb] at h;simp only [yA,yd] at h;subst h
   have:=pn hb
   have hle:∀f x,Lib.bitLenAux f x<=f:=by
    intro f
    induction f with
    | zero=>intro x;exact yv _
    | succ f ih=>
     intro x;rw [Lib.bitLenAux]
     grind
   refine oU SI (by rw [hf];exact fT) ?_
   intro w S args hg dQ;obtain ⟨u,rfl,h1⟩:=FC dQ;subst h1;rw [hf];refine (hc (yaN x) w (tC x) (by show (x:Int)<=_;omega)).mono ?_;rintro e w' ⟨rfl,rfl⟩;refine ⟨_,rfl,Calm.refl,fun S=>?_⟩;simp only [ai,Sm];show Value.int .i64 (64-(Lib.bitLenAux 64 x:Int))=Value.int .i64 ((64-Lib.bitLenAux 64 x:Nat):Int)
   grind
 ·cases h
def aos (hf:O.ah n=f) (hc:∀(b:Nat) (w:yi),(callFunc f #[.float .f64 b]).run O.P w= .ok (.value (.int .u64 b)) w):
  ∀az r,Sk az=some r->eH O n az r:=by
 intro az r h;unfold Sk at h
 split at h
 ·rename_i b;simp only [yd] at h;subst h;refine MG SI ?_;intro w S args dQ;obtain ⟨u,rfl,h1⟩:=FC dQ;simp only [ai] at h1;subst h1;rw [hf];exact ⟨_,hc b w,fun S=>rfl⟩
 ·cases h
def anX (hf:O.ah n=f) (hc:∀(b:Nat) (w:yi),(callFunc f #[.int .u64 b]).run O.P w= .ok (.value (.float .f64 b)) w):
  ∀az r,Rh az=some r->eH O n az r:=by
 intro az r h;unfold Rh at h
 split at h
 ·rename_i b;simp only [yd] at h;subst h;refine MG atT ?_;intro w S args dQ;obtain ⟨u,rfl,h1⟩:=FC dQ;simp only [ai] at h1;subst h1;rw [hf];exact ⟨_,hc b w,fun S=>rfl⟩
 ·cases h
def aqe (hf:O.ah n=f)
  (hc:∀(x y c:Nat) (w:yi),c<=1->(callFunc f #[.int .u64 x,.int .u64 y,.int .u64 c]).run O.P w= .ok (.value (.tuple #[.int .u64 (((x+y+c)%18446744073709551616:Nat):Int),.int .u64 (((x+y+c)/18446744073709551616:Nat):Int)])) w):
  ∀az r,nP az=some r->eH O n az r:=by
 intro az r h;unfold nP at h
 split at h
 ·rename_i x y c
  cases hb:(yG c 1&&(yR x 18446744073709551616&&yR y 18446744073709551616)) with
  | false=>rw [hb] at h;cases h
  | true=>
   rw [hb] at h;simp only [yA,yd] at h;subst h;simp only [yh] at hb;refine MG (ER (by simp [a7])) ?_;intro w S args dQ;obtain ⟨u,v,z,rfl,h1,h2,h3⟩:=aja dQ;subst h1;subst h2;subst h3;rw [hf];refine ⟨_,hc x y c w (yz hb.1),fun S=>?_⟩;simp only [ai,aA]
   grind
 ·cases h
def aqf (hf:O.ah n=f)
  (hc:∀(x y b:Nat) (w:yi),b<=1->(callFunc f #[.int .u64 x,.int .u64 y,.int .u64 b]).run O.P w= .ok (.value (.tuple #[.int .u64 (((x+18446744073709551616-y-b)%18446744073709551616:Nat):Int),.int .u64 ((if x<y+b then 1 else 0:Nat):Int)])) w):
  ∀az r,Bb az=some r->eH O n az r:=by
 intro az r h;unfold Bb at h
 split at h
 ·rename_i x y c
  cases hb:(yG c 1&&(yR x 18446744073709551616&&yR y 18446744073709551616)) with
  | false=>rw [hb] at h;cases h
  | true=>
   rw [hb] at h;simp only [yA,yd] at h;subst h;simp only [yh] at hb;have eC:=yz hb.1;have hy:=pn hb.2.2;refine MG (ER (by simp [a7])) ?_;intro w S args dQ;obtain ⟨u,v,z,rfl,h1,h2,h3⟩:=aja dQ;subst h1;subst h2;subst h3;rw [hf];refine ⟨_,hc x y c w eC,fun S=>?_⟩;simp only [ai,aA];refine ⟨_,rfl,_,_,rfl,?_,_,_,rfl,?_,rfl⟩
   ·grind
   ·congr 1
    by_cases h:x<y+c
    ·have:yG (y+c) x=false:=by
      cases hq:yG (y+c) x with
      | false=>rfl
      | true=>have:=yz hq;omega
     grind
    ·rw [yu (by omega),yD h];rfl
 ·cases h
end
end
end
end VE
