import Derived.Test.YtlkgmaenobiooaaGreatDoorTaq
import Derived.Test.YtlkgmaenobiooaaGreatDoorTae
import Derived.Test.YtlkgmaenobiooaaGreatDoorTai
set_option linter.all false
set_option maxRecDepth 100000
open BitVec renaming ofInt→xI,ofInt_natCast→ui,ofNat→uh,toNat_ofNat→vh
open Bool renaming and_eq_true→yg
open Go renaming IntKind→yV
open Int renaming ediv_emod_unique→uS,gcd→wq,gcd_dvd_left→uX,gcd_dvd_right→uO,gcd_pos_of_ne_zero_right→tk,lt_tmod_of_pos→yaw,mul_ediv_cancel'→yai,natAbs_ediv_of_dvd→vT,natCast_mul→xE,reduceLT→tT,tdiv_eq_ediv_of_dvd→tO,tmod_eq_emod_of_nonneg→wc,tmod_lt_of_pos→yav,toNat_natCast→xC
open List renaming cons_append→xk,drop→wK,drop_eq_getElem_cons→yX,drop_eq_nil_of_le→xn,getD_eq_getElem?_getD→wA,getElem?_eq_getElem→vl,length_append→yU,length_cons→yx,length_nil→yJ,length_take→yR,map_take→ybc,replicate→yF,take_length→xW,take_of_length_le→yK,take_succ_eq_append_getElem→xH
open Nat renaming add_mul→wL,add_zero→yW,beq→yu,beq_refl→vj,ble→yG,ble_eq_true_of_le→yy,blt→yL,div_le_self→wV,gcd→wu,gcd_comm→uG,gcd_rec→ybV,gcd_zero_right→yax,le_of_ble_eq_true→yv,le_of_lt→uB,le_refl→yA,lt_of_lt_of_le→yO,min_eq_left→xP,mod_eq_of_lt→yP,mod_lt→xr,mul_add→xz,mul_assoc→xo,mul_comm→xB,mul_le_mul→ve,mul_le_mul_left→yT,mul_le_mul_right→yY,mul_one→yj,mul_zero→xG,pow_add→xO,pow_le_pow_right→xx,pow_succ→xh,reduceAdd→yb,reduceEqDiff→ya,reduceLeDiff→yi,reduceMul→xT,strongRecOn→vV,zero_add→yd,zero_le→uF
open Option.some renaming injEq→yc
namespace VE
section
open Go (IntKind)
def agt:∀hp:Hp,ju 0 hp=[]
 | []=>rfl
 | (id,o)::r=>by
  have:yL id 0=false:=rfl
  simp only [ju,this,yM,agt r]
def akO (f:Nat->Option Nat):∀hp:Hp,mE 0 f hp=[]
 | []=>rfl
 | (id,o)::r=>by
  have:yL id 0=false:=rfl
  simp only [mE,this,yM,akO f r]
def pos (seen:List Nat):Nat->Option Nat:=fun id=>mH id seen 0
def abh (tm:Env) (hp:Hp) (seen:List Nat):St:=⟨lz (pos seen) tm,lh hp (pos seen) seen 0 [],seen.length,0⟩
def zt (hp:Hp):Nat->List Nat->List Nat->List Nat:=reach hp 0
def aH (live:List Nat) (tm:Env) (hp:Hp) (ct:Nat):bS live ⟨tm,hp,ct,0⟩=abh (eC tm live) hp (zt hp 100000 (jC (eC tm live)) []):=by
 have e:∀seen,lf 0 seen=pos seen:=fun seen=>by
  funext id
  have:yL id 0=false:=rfl
  simp only [lf,this,yM,pos]
 simp only [bS,agt,List.append_nil,e,akO,abh,zt,yd]
def asT:jC []=[]:=rfl
def arv (i:Nat) (v:AV) (r:Env):jC ((i,v)::r)=refs v++jC r:=rfl
def auV (k:yV) (n:Int):refs (.int k n)=[]:=rfl
def asU (b:Bool):refs (.bool b)=[]:=rfl
def auW (s:List Nat):refs (.str s)=[]:=rfl
def asV:refs .aa=[]:=rfl
def auX (e:Bool) (n:Nat) (cs:List AV):refs (.ap e n cs)=[]:=rfl
def asW (cs:List AV):refs (.cz cs)=[]:=rfl
def arw:refs .undef=[]:=rfl
def auY (id o:Nat):refs (.ptr id o)=[id]:=rfl
def auZ (id o n:Nat):refs (.ay id o n)=[id]:=rfl
def aw6 (g:Nat) (a b:List AV):refs (.fn (.f g) a b)=jB a++jB b:=rfl
def aAE (l:Nat) (a b:List AV):refs (.fn (.y l) a b)=[l]:=rfl
def au0 (cs:List AV):refs (.agg cs)=jB cs:=rfl
def asX:jB []=[]:=rfl
def arx (v:AV) (r:List AV):jB (v::r)=refs v++jB r:=rfl
def R5 (hp:Hp) (n id:Nat) (je seen:List Nat) (q:Option Obj):List Nat:=match q with | some o=>zt hp n (pN o++je) (seen++[id]) | none=>zt hp n je seen
def R6 (hp:Hp) (n id:Nat) (je seen:List Nat) (b:Bool):List Nat:=bif b then zt hp n je seen else R5 hp n id je seen (aF hp id)
def aw7 (hp:Hp) (n:Nat) (seen:List Nat):zt hp (n+1) [] seen=seen:=rfl
def au1 (hp:Hp) (n id:Nat) (je seen:List Nat):zt hp (n+1) (id::je) seen=R6 hp n id je seen (lX id seen):=by
 have:yL id 0=false:=rfl
 simp only [zt,reach,this,Bool.false_or,R6,R5]
 cases lX id seen with
 | true=>rfl
 | false=>simp only [yM];cases aF hp id<;>rfl
def aAF (hp:Hp) (n id:Nat) (je seen:List Nat):R6 hp n id je seen true=zt hp n je seen:=rfl
def aAG (hp:Hp) (n id:Nat) (je seen:List Nat):R6 hp n id je seen false=R5 hp n id je seen (aF hp id):=rfl
def aAH (hp:Hp) (n id:Nat) (je seen:List Nat) (o:Obj):R5 hp n id je seen (some o)=zt hp n (pN o++je) (seen++[id]):=rfl
def au2 (i:Nat):lX i []=false:=rfl
def au3 (i:Nat) (r:List Nat):lX i (i::r)=true:=by simp only [lX,vj,yB]
def asY {i j:Nat} (r:List Nat) (h:j≠i):lX i (j::r)=lX i r:=by simp only [lX,ig h,yM]
def aw8 (rw ex:Bool) (sz:Nat) (cs:List AV):pN (.cells rw true ex sz cs)=[]:=rfl
def aw9 (rw ex:Bool) (sz:Nat) (cs:List AV):pN (.cells rw false ex sz cs)=jB cs:=rfl
def au4 (tm:Env) (ps:List Nat) (a b:VC) (st:Nat) (pe:Ao):pN (.lp tm ps a b st pe)=jC tm:=rfl
def axa (i:Nat) (r:List Nat) (k:Nat):mH i (i::r) k=some k:=by simp only [mH,vj,yB]
def au5 {i j:Nat} (r:List Nat) (k:Nat) (h:j≠i):mH i (j::r) k=mH i r (k+1):=by simp only [mH,ig h,yM]
def alC (o:Nat) (q:Option Nat):AV:=match q with | some j=> .ptr j o | none=> .undef
def alD (o n:Nat) (q:Option Nat):AV:=match q with | some j=> .ay j o n | none=> .undef
def au6 (s:List Nat):lz (pos s) []=[]:=rfl
def asZ (s:List Nat) (i:Nat) (v:AV) (r:Env):lz (pos s) ((i,v)::r)=(i,cy (pos s) v)::lz (pos s) r:=rfl
def axb (s:List Nat) (k:yV) (n:Int):cy (pos s) (.int k n)= .int k n:=rfl
def au7 (s:List Nat) (b:Bool):cy (pos s) (.bool b)= .bool b:=rfl
def axc (s:List Nat) (t:List Nat):cy (pos s) (.str t)= .str t:=rfl
def au8 (s:List Nat):cy (pos s) .aa= .aa:=rfl
def axd (s:List Nat) (e:Bool) (n:Nat) (cs:List AV):cy (pos s) (.ap e n cs)= .ap e n cs:=rfl
def au9 (s:List Nat) (cs:List AV):cy (pos s) (.cz cs)= .cz cs:=rfl
def as3 (s:List Nat):cy (pos s) .undef= .undef:=rfl
def axe (s:List Nat) (id o:Nat):cy (pos s) (.ptr id o)=alC o (mH id s 0):=rfl
def axf (s:List Nat) (id o n:Nat):cy (pos s) (.ay id o n)=alD o n (mH id s 0):=rfl
def aAI (s:List Nat) (g:Nat) (a b:List AV):cy (pos s) (.fn (.f g) a b)= .fn (.f g) (fN (pos s) a) (fN (pos s) b):=rfl
def axg (s:List Nat) (cs:List AV):cy (pos s) (.agg cs)= .agg (fN (pos s) cs):=rfl
def ava (s:List Nat):fN (pos s) []=[]:=rfl
def as4 (s:List Nat) (v:AV) (r:List AV):fN (pos s) (v::r)=cy (pos s) v::fN (pos s) r:=rfl
def axh (o j:Nat):alC o (some j)= .ptr j o:=rfl
def axi (o n j:Nat):alD o n (some j)= .ay j o n:=rfl
def abi (hp:Hp) (f:Nat->Option Nat) (r:List Nat) (k:Nat) (acc:Hp) (q:Option Obj):Hp:=match q with | some o=>lh hp f r (k+1) ((k,lW f o)::acc) | none=>lh hp f r (k+1) acc
def as5 (hp:Hp) (s:List Nat) (k:Nat) (acc:Hp):lh hp (pos s) [] k acc=acc:=rfl
def ary (hp:Hp) (s:List Nat) (id:Nat) (r:List Nat) (k:Nat) (acc:Hp):lh hp (pos s) (id::r) k acc=abi hp (pos s) r k acc (aF hp id):=by
 simp only [lh,abi];cases aF hp id<;>rfl
def aAJ (hp:Hp) (s r:List Nat) (k:Nat) (acc:Hp) (o:Obj):abi hp (pos s) r k acc (some o)=lh hp (pos s) r (k+1) ((k,lW (pos s) o)::acc):=rfl
def aAK (f:Nat->Option Nat) (rw ex:Bool) (sz:Nat) (cs:List AV):lW f (.cells rw true ex sz cs)= .cells rw true ex sz cs:=rfl
def aAL (f:Nat->Option Nat) (rw ex:Bool) (sz:Nat) (cs:List AV):lW f (.cells rw false ex sz cs)= .cells rw false ex sz (fN f cs):=rfl
def axj (f:Nat->Option Nat) (tm:Env) (ps:List Nat) (a b:VC) (st:Nat) (pe:Ao):lW f (.lp tm ps a b st pe)= .lp (lz f tm) ps a b st pe:=rfl
def axk (tm:Env) (hp:Hp) (seen:List Nat):abh tm hp seen=⟨lz (pos seen) tm,lh hp (pos seen) seen 0 [],seen.length,0⟩:=rfl
attribute [go_sem] asT arv auV asU auW asV auX asW arw auY auZ aw6 aAE au0 asX arx aw7 au1 aAF aAG aAH
 au2 au3 asY aw8 aw9 au4 axa au5 au6 asZ axb au7 axc au8 axd au9 as3 axe axf aAI axg ava as4 axh axi
 as5 ary aAJ aAK aAL axj axk yx yJ
end
section
def kv (k:List (List Int)) (j i:Nat):Int:=(k.getD j []).getD i 0
end
section
open Go (IntKind)
section
variable {P:aJ} {L:Lib}
def DO {k:yV} {n:Int} (h:0<=n):dP (.int k n)=some n.toNat:=by
 cases n with
 | ofNat n=>rfl
 | negSucc n=>exact absurd h (by simp)
end
end
section
open Go (IntKind)
section
variable {P:aJ} {L:Lib}
def aP (k id o:Nat):Lt k (.ptr id o)=some (.ptr id (o+k)):=rfl
def bj {α:Type} (a:α) (l:List α):wK 1 (a::l)=l:=rfl
def aCH {α:Type} (a b:α) (l:List α):wK 2 (a::b::l)=l:=rfl
def alE {α:Type} (a b c:α) (l:List α):wK 3 (a::b::c::l)=l:=rfl
end
end
section
open Go (IntKind)
section
variable {P:aJ} {L:Lib}
abbrev Nm (n:Int):AV:= .agg [ab n,.aa]
def jy (hp:Hp) (ct id:Nat) (a:Int) (x y:AV):gC hp ct id 0 2 [.int .i64 a,.aa] (some (.cells true true true 2 [x,y]))=some (.af [],bf hp id (.cells true true true 2 [.int .i64 a,.aa]),ct):=rfl
def KG (hp:Hp):iH .sl .aa .aa=some true:=rfl
def cY (b:Bool):Mz false (some b)=some (.bool b):=by cases b<;>rfl
def V2 (f:cN) (tm:Env) (hp:Hp) (ct:Nat) (x y:X):bn P L f tm hp ct (.mn [x,y])=rd hp ct (min2 (aG tm x) (aG tm y)):=by
 simp only [bn,rd,bH,dK,Ci]
 grind
def GO (f:cN) (tm:Env) (hp:Hp) (ct:Nat) (x y:X):bn P L f tm hp ct (.mx [x,y])=rd hp ct (max2 (aG tm x) (aG tm y)):=by
 simp only [bn,rd,bH,dK,Ci]
 grind
def Vg (k k':yV) (x y:Int):min2 (.int k x) (.int k' y)=some (.int k (if y<x then y else x)):=rfl
def Gb (k k':yV) (x y:Int):max2 (.int k x) (.int k' y)=some (.int k (if y>x then y else x)):=rfl
def bG (n:Int):Int:=if n<0 then -1 else if n=0 then 0 else 1
def akP (n:Int):(if (if n<1 then n else 1)> -1 then (if n<1 then n else 1) else -1)=bG n:=by
 unfold bG
 grind
def n117 (h:Has P L 117 Qi) (n:Int):ai P L 117 [ab n] (Nm n):=by
 unfold ai;rw [ax h];simp only [go_sem,ya,yb,yi,Qi,az,yd,jy];rfl
def n147 (h:Has P L 147 sF) {n:Int} (hn: -9223372036854775808<n/\n<9223372036854775808):ai P L 147 [Nm n] (Nm (-n)):=by
 unfold ai;rw [ax h]
 simp only [go_sem,ya,yb,yi,sF,az,jy,KG,cY,aP,yd,bj,show ¬n= -9223372036854775808 by omega,wrap64 (n:=0-n) (by omega) (by omega)];simp only [Int.zero_sub];rfl
def n146 (h:Has P L 146 As) (n:Int):ai P L 146 [Nm n] (ab (bG n)):=by
 unfold ai;rw [ax h];simp only [go_sem,ya,yb,As,az,aP,yd,V2,GO,Vg,Gb,akP]
def pR (hp:Hp) (p q:Bool):iH .b (.bool p) (.bool q)=some (p==q):=rfl
end
end
section
open Go (IntKind)
section
variable {P:aJ} {L:Lib}
def jt {n:Nat} {sp:List AV->Option AV} (h:L.pure n=some sp) {f:cN} (av:List AV):bZ P L f n av=sp av:=by simp only [bZ,h]
abbrev U64 (n:Int):AV:= .int .u64 n
def aCI {n:Int} (h1:0<=n) (h2:n<18446744073709551616):IntKind.wrap .u64 n=n:=by
 simp only [IntKind.wrap,IntKind.signed,IntKind.bits]
 grind
def akQ (n:Int):oB (.toInt .u64) (ab n)=some (U64 (IntKind.wrap .u64 n)):=rfl
def Pz (n:Int):oB (.toInt .i64) (U64 n)=some (ab (IntKind.wrap .i64 n)):=rfl
def Li (b:Bool):Mz true (some b)=some (.bool (!b)):=by cases b<;>rfl
def aAM (a b c d:AV):over 0 [a,b] [c,d]=[a,b]:=rfl
def bL (a b:AV) (r:List AV):hX 2 true (a::b::r)=some (.agg [a,b]):=rfl
def gg (a b c d:AV) (r:List AV):hX 4 true (a::b::c::d::r)=some (.agg [a,b,c,d]):=rfl
def n163 (h:Has P L 163 At) (sM:Has P L 147 sF) {n:Int} (hn: -9223372036854775808<n/\n<9223372036854775808):ai P L 163 [Nm n] (Nm n.natAbs):=by
 have e1:=n147 sM hn;unfold ai at e1 ⊢;rw [ax h];by_cases h0:n<0
 ·simp only [go_sem,ya,yb,At,az,jy,aP,yd,h0,bL,aU,e1];rw [show -n=(n.natAbs:Int) by omega];rfl
 ·simp only [go_sem,ya,yb,At,az,jy,aP,yd,h0,bL];rw [show ((n.natAbs:Nat):Int)=n by omega];rfl
def afG {a b:Int} (hb:0<b):(a.tmod b<0->a/b=a.tdiv b-1/\a%b=a.tmod b+b)/\(¬a.tmod b<0->a/b=a.tdiv b/\a%b=a.tmod b):=by
 have h1:=Int.mul_tdiv_add_tmod a b;have h2:a.tmod b<b:=yav a hb;have h3: -b<a.tmod b:=yaw a hb;refine ⟨fun h=>(uS hb).2 ⟨?_,?_,?_⟩,fun h=>(uS hb).2 ⟨?_,?_,?_⟩⟩
 ·grind
 ·omega
 ·omega
 ·omega
 ·omega
 ·omega
def n164 (h:Has P L 164 iJ) {a b:Int} (ha: -4611686018427387904<a/\a<4611686018427387904) (hb:0<b/\b<4611686018427387904):ai P L 164 [Nm a,Nm b] (.af [Nm (a/b),Nm (a%b)]):=by
 obtain ⟨f1,f2⟩:=afG (a:=a) hb.1;have hq: -4611686018427387904<a.tdiv b/\a.tdiv b<4611686018427387904:=by
  have:=Int.natAbs_tdiv_le_natAbs a b
  omega
 have hr: -4611686018427387904<a.tmod b/\a.tmod b<4611686018427387904:=by
  have:=yav a hb.1
  have:=yaw a hb.1
  omega
 unfold ai;rw [ax h];by_cases h0:a.tmod b<0
 ·obtain ⟨g1,g2⟩:=f1 h0;rw [g1,g2]
  simp only [go_sem,ya,yb,yi,iJ,az,jy,KG,cY,aP,yd,bj,show ¬a= -9223372036854775808 by omega,fq _ _ _ (show b≠0 by omega),gF _ _ _ (show b≠0 by omega),h0,wrap64 (n:=a.tdiv b) (by omega) (by omega),wrap64 (n:=a.tdiv b-1) (by omega) (by omega),wrap64 (n:=a.tmod b+b) (by omega) (by omega)];rfl
 ·obtain ⟨g1,g2⟩:=f2 h0;rw [g1,g2]
  simp only [go_sem,ya,yb,yi,iJ,az,jy,KG,cY,aP,yd,bj,show ¬a= -9223372036854775808 by omega,fq _ _ _ (show b≠0 by omega),gF _ _ _ (show b≠0 by omega),h0,wrap64 (n:=a.tdiv b) (by omega) (by omega)];rfl
def n148 (h:Has P L 148 Hg) (pY:Has P L 146 As) (oH:Has P L 164 iJ) {a b:Int} (ha: -4611686018427387904<a/\a<4611686018427387904) (hb:0<b/\b<4611686018427387904):ai P L 148 [Nm a,Nm b] (Nm (a/b)):=by
 have e1:=n146 pY b;have e2:=n164 oH ha hb;have e3:bG b=1:=by unfold bG;rw [yp (by omega),yp (by omega)]
 rw [e3] at e1;unfold ai at e1 e2 ⊢;rw [ax h];simp only [go_sem,ya,yb,Hg,tT,yk,az,jy,yd,bL,aU,e1,e2,mu];rfl
def agu (a b:Nat) (hb:b≠0):wu b (a%b)=wu a b:=by
 rw [uG b,<-ybV,uG]
def aAN (pY:Has P L 146 As) (oH:Has P L 164 iJ) (G:Nat):
  ∀k s,(∃x y:Nat,bS [2,3,4] s=⟨[(2,.ptr 0 0),(3,.ptr 1 0),(4,.ptr 2 0)],[(2,.cells true true true 2 [ab 0,.aa]),(1,.cells true true true 2 [ab y,.aa]),(0,.cells true true true 2 [ab x,.aa])],3,0⟩/\x<4611686018427387904/\y<4611686018427387904/\wu x y=G/\y=k)->
   ∃ex s',D P L (.loop [2,3,4] Ab) s=some (ex,s')/\∃tm,s'=⟨tm,[(2,.cells true true true 2 [ab 0,.aa]),(1,.cells true true true 2 [ab 0,.aa]),(0,.cells true true true 2 [ab G,.aa])],3,0⟩/\ex= .exit 0/\ak tm 2= .ptr 0 0/\ak tm 4= .ptr 2 0:=by
 refine cR (I:=fun k s=>∃x y:Nat,s=⟨[(2,.ptr 0 0),(3,.ptr 1 0),(4,.ptr 2 0)],[(2,.cells true true true 2 [ab 0,.aa]),(1,.cells true true true 2 [ab y,.aa]),(0,.cells true true true 2 [ab x,.aa])],3,0⟩/\x<4611686018427387904/\y<4611686018427387904/\wu x y=G/\y=k)
  (Q:=fun ex s'=>∃tm,s'=⟨tm,[(2,.cells true true true 2 [ab 0,.aa]),(1,.cells true true true 2 [ab 0,.aa]),(0,.cells true true true 2 [ab G,.aa])],3,0⟩/\ex= .exit 0/\ak tm 2= .ptr 0 0/\ak tm 4= .ptr 2 0) ?_
 rintro k s ⟨x,y,rfl,hx,hy,hG,rfl⟩;have e1:=n146 pY (y:Int);by_cases gD:y=0
 ·right
  subst gD;have e3:bG ((0:Nat):Int)=0:=rfl;rw [e3] at e1;simp only [go_sem,ya,Ab,ym,Bool.not_true,bL,aU,e1];obtain rfl:x=G:=by rw [<-hG,yax]
  exact ⟨_,_,rfl,by simp,_,rfl,rfl,by simp only [go_sem,ya],by simp only [go_sem,ya]⟩
 ·left
  have e3:bG (y:Int)=1:=by unfold bG;rw [yp (by omega),yp (by omega)]
  rw [e3] at e1;have e2:=n164 oH (a:=x) (b:=y) (by omega) (by omega);rw [show ((x:Int)%(y:Int))=((x%y:Nat):Int) from rfl] at e2;have aZ:=xr x (show 0<y by omega);simp only [go_sem,ya,yb,Ab,Int.reduceEq,yk,Bool.not_false,az,jy,bL,aU,e1,e2,mu];refine ⟨_,x%y,rfl,aZ,y,x%y,?_,hy,by omega,by rw [<-hG];exact agu x y gD,rfl⟩
  simp only [go_sem,ya,yb,aH,aAM,Bool.true_and]
def n130 (h:Has P L 130 Hf) (EV:Has P L 163 At) (sM:Has P L 147 sF) (pY:Has P L 146 As) (oH:Has P L 164 iJ) {a b:Int} (ha: -4611686018427387904<a/\a<4611686018427387904) (hb: -4611686018427387904<b/\b<4611686018427387904):ai P L 130 [Nm a,Nm b] (Nm (wq a b:Nat)):=by
 have e1:=n163 EV sM (n:=a) (by omega);have e2:=n163 EV sM (n:=b) (by omega);unfold ai at e1 e2 ⊢;rw [ax h];simp only [go_sem,ya,yb,Hf,az,jy,bL,aU,e1,e2,bq,yd];generalize hq:D P L (.loop [2,3,4] Ab) _=q;obtain ⟨ex,s,rfl,tm,rfl,rfl,h2,h4⟩:=cG hq (aAN (P:=P) (L:=L) pY oH (wq a b) b.natAbs) ⟨a.natAbs,b.natAbs,by simp only [go_sem,ya,yb,aH],by omega,by omega,rfl,rfl⟩;simp only [go_sem,ya,yb,aH,h2,h4,jy,bL];rfl
abbrev Fq (n d:Int):AV:= .agg [ab n,.aa,ab d,.aa]
def akR (hp:Hp) (ct id:Nat) (a b:Int) (x y z w:AV):gC hp ct id 0 4 [.int .i64 a,.aa,.int .i64 b,.aa] (some (.cells true true true 4 [x,y,z,w]))=some (.af [],bf hp id (.cells true true true 4 [.int .i64 a,.aa,.int .i64 b,.aa]),ct):=rfl
def akS (tm:Env) (x y z w:AV) (a:Int) (r:List (Nat×Nat×X)):lj tm [x,y,z,w] 0 2 [.int .i64 a,.aa] r=fill tm [.int .i64 a,.aa,z,w] r:=rfl
def akT (tm:Env) (x y z w:AV) (a:Int) (r:List (Nat×Nat×X)):lj tm [x,y,z,w] 2 2 [.int .i64 a,.aa] r=fill tm [x,y,.int .i64 a,.aa] r:=rfl
def n101 (h:Has P L 101 lB) (R7:Has P L 148 Hg) (abj:Has P L 130 Hf) (EV:Has P L 163 At) (sM:Has P L 147 sF) (pY:Has P L 146 As) (oH:Has P L 164 iJ) {a b:Int} (ha: -4611686018427387904<a/\a<4611686018427387904) (hb:0<b/\b<4611686018427387904):
  ai P L 101 [Nm a,Nm b] (Fq (a/(wq a b:Nat)) (b/(wq a b:Nat))):=by
 have e1:=n146 pY b;have e3:bG b=1:=by unfold bG;rw [yp (by omega),yp (by omega)]
 rw [e3] at e1;have e2:=n130 abj EV sM pY oH ha (b:=b) (by omega);have hg:(0:Int)<(wq a b:Nat):=by
  have:=tk a (show b≠0 by omega)
  omega
 have Bk:((wq a b:Nat):Int)<4611686018427387904:=by
  have:=Int.gcd_le_natAbs_right a (show b≠0 by omega)
  omega
 have e4:=n148 R7 pY oH ha (b:=(wq a b:Nat)) ⟨hg,Bk⟩;have e5:=n148 R7 pY oH (a:=b) (b:=(wq a b:Nat)) (by omega) ⟨hg,Bk⟩;unfold ai at e1 e2 e4 e5 ⊢;rw [ax h];by_cases kQ:b=1
 ·subst kQ;rw [Int.gcd_one];simp only [go_sem,ya,yb,lB,tT,yk,ym,az,akR,bL,aU,e1,aP,yd,bj,KG,cY,akS,akT];rw [show a/((1:Nat):Int)=a from Int.ediv_one a];rfl
 ·simp only [go_sem,ya,yb,lB,tT,yk,az,jy,akR,bL,aU,e1,aP,yd,bj,KG,cY,kQ,e2,e4,e5,bq,akS,akT];rfl
end
end
section
def dJ (a b:Int):Int:=a/(wq a b:Nat)
def dL (a b:Int):Int:=b/(wq a b:Nat)
def Pa {a b:Int} (hb:0<b):(0:Int)<(wq a b:Nat):=by
 have:=tk a (show b≠0 by omega)
 omega
def aAO (a b:Int):a=(wq a b:Nat)*dJ a b:=(yai (uX a b)).symm
def aAP (a b:Int):b=(wq a b:Nat)*dL a b:=(yai (uO a b)).symm
def Kq {a b:Int} (hb:0<b):0<dL a b:=by
 have h1:=Pa (a:=a) hb;have h2:=aAP a b;rcases Int.lt_trichotomy (dL a b) 0 with h | h | h
 ·have:=Int.mul_neg_of_pos_of_neg h1 h;omega
 ·grind
 ·exact h
def agv (a b:Int):(dJ a b).natAbs<=a.natAbs:=by
 unfold dJ;rw [vT (uX a b)];exact wV _ _
def agw (a b:Int):(dL a b).natAbs<=b.natAbs:=by
 unfold dL;rw [vT (uO a b)];exact wV _ _
def pZ (a b:Int):List Nat:=if dL a b=1 then aV (dJ a b) else aV (dJ a b)++[47]++aV (dL a b)
end
section
def alF {a b:Nat} (h:¬a<b):yL a b=false:=by
 cases hb:yL a b with
 | false=>rfl
 | true=>exact absurd (yv hb) (by omega)
def VD:∀(f n:Nat) (acc:List Nat),n<f->nm f n acc=nm f n []++acc
 | 0,_,_,h=>by omega
 | f+1,n,acc,h=>by
  simp only [nm];by_cases h1:n<10
  ·rw [show yL n 10=true from yy h1];rfl
  ·rw [show yL n 10=false from alF (by omega)];rw [VD f (n/10) _ (by omega),VD f (n/10) [48+n%10] (by omega)]
   simp
def UP {f n:Nat} (h:n<10):nm (f+1) n []=[48+n]:=by
 simp only [nm];rw [show yL n 10=true from yy h];rfl
def VF {f n:Nat} (h:¬n<10) (hf:n<=f):nm (f+1) n []=nm f (n/10) []++[48+n%10]:=by
 rw [<-VD f (n/10) _ (by omega)];simp only [nm];rw [show yL n 10=false from alF (by omega)];rfl
def avb:∀(n f:Nat),n<f->nm f n []=au n:=by
 intro n
 induction n using vV with
 | _ n ih=>
  intro f hf;obtain ⟨g,rfl⟩:∃g,f=g+1:=⟨f-1,by omega⟩;by_cases h:n<10
  ·rw [UP h];unfold au;rw [UP h]
  ·rw [VF h (by omega),ih (n/10) (by omega) g (by omega)];unfold au;rw [VF h (yA n),ih (n/10) (by omega) n (by omega)];rfl
def n9 {n:Nat} (h:n<10):au n=[48+n]:=UP h
def po {n:Nat} (h:¬n<10):au n=au (n/10)++[48+n%10]:=by
 rw [show au n=nm (n+1) n [] from rfl,VF h (yA n),avb (n/10) n (by omega)]
def se:∀{k n:Nat},n<10^(k+1)->(au n).length<=k+1
 | 0,n,h=>by rw [n9 (by simpa using h)];simp
 | k+1,n,h=>by
  by_cases h1:n<10
  ·rw [n9 h1];simp
  ·rw [po h1,yU]
   have:n/10<10^(k+1):=by
    grind
   have:=se this
   grind
def Om {n:Nat} (h:n<18446744073709551616):(au n).length<=20:=se (k:=19) (by omega)
def jY (n:Nat):aV (n:Int)=au n:=rfl
def jZ {n:Int} (h:n<0):aV n=45::au n.natAbs:=by
 cases n with
 | ofNat n=>exact absurd h (by simp)
 | negSucc n=>rfl
def bX:List Nat->Nat
 | []=>0
 | b::r=>if b=47 then 0 else bX r+1
def aqQ {s:List Nat} {i:Nat} (h:i<s.length):bX (s.drop i)=if s[i]=47 then 0 else bX (s.drop (i+1))+1:=by
 rw [yX h];rfl
def Kh:∀s:List Nat,bX s<=s.length
 | []=>yA _
 | b::r=>by
  unfold bX
  have:=Kh r
  grind
def dG:List Nat->Bool
 | []=>true
 | b::r=>yG 48 b&&yG b 57&&dG r
def N9:∀(a b:List Nat),dG (a++b)=(dG a&&dG b)
 | [],b=>by simp [dG]
 | x::a,b=>by simp [dG,N9 a b,Bool.and_assoc]
def zI (n:Nat):dG (au n)=true:=by
 induction n using vV with
 | _ n ih=>
  by_cases h:n<10
  ·rw [n9 h];simp [dG];omega
  ·rw [po h,N9,ih (n/10) (by omega)];simp [dG];omega
def JY:∀{s:List Nat} (r:List Nat),dG s=true->bX (s++r)=s.length+bX r
 | [],r,_=>by simp
 | b::s,r,h=>by
  simp only [dG,yg] at h;have h1:=yv h.1.1;simp only [xk,bX,yx];rw [yp (by omega),JY r h.2];omega
def Oa:∀(l:List Nat) (a d:Nat),d<10->cW (l++[48+d]) a=(cW l a).map (fun v=>10*v+d)
 | [],a,d,h=>by
  simp only [List.nil_append,cW];rw [show yG 48 (48+d)=true from yy (by omega),show yG (48+d) 57=true from yy (by omega)]
  simp
 | b::l,a,d,h=>by
  simp only [xk,cW]
  cases (yG 48 b&&yG b 57) with
  | true=>exact Oa l _ d h
  | false=>rfl
def zJ (n:Nat):cW (au n) 0=some n:=by
 induction n using vV with
 | _ n ih=>
  by_cases h:n<10
  ·rw [n9 h]
   have:=Oa [] 0 n h
   simpa [cW] using this
  ·rw [po h,Oa _ _ _ (by omega),ih (n/10) (by omega)]
   simp;omega
def as6 {s:List Nat} {i a v:Nat} (h:i<s.length) (hv:cW (s.drop i) a=some v):48<=s[i]/\s[i]<=57/\cW (s.drop (i+1)) (10*a+(s[i]-48))=some v:=by
 rw [yX h] at hv;simp only [cW] at hv
 cases hb:(yG 48 s[i]&&yG s[i] 57) with
 | false=>rw [hb] at hv;cases hv
 | true=>
  simp_all
def iK:Nat->Nat->List Nat
 | 0,_=>[]
 | k+1,n=>iK k (n/10)++[48+n%10]
def Vh:∀k n,(iK k n).length=k
 | 0,_=>rfl
 | k+1,n=>by simp [iK,Vh k]
def OO:∀(k m r:Nat),0<m->r<10^k->au (m*10^k+r)=au m++iK k r
 | 0,m,r,_,h=>by simp at h;subst h;simp [iK]
 | k+1,m,r,hm,h=>by
  have h1:m*10^(k+1)+r=(m*10^k)*10+r:=by grind
  have hp:0<m*10^k:=Nat.mul_pos hm (Nat.pow_pos (by decide));have e1:(m*10^(k+1)+r)/10=m*10^k+r/10:=by omega
  have e2:(m*10^(k+1)+r)%10=r%10:=by omega
  rw [po (by omega),e1,e2,OO k m (r/10) hm (by rw [xh] at h;omega)];simp [iK]
def agx:∀(k r a:Nat),r<10^k->cW (iK k r) a=some (a*10^k+r)
 | 0,r,a,h=>by simp at h;subst h;simp [iK,cW]
 | k+1,r,a,h=>by
  rw [iK,Oa _ _ _ (xr _ (by decide)),agx k (r/10) a (by omega)];simp only [Option.map_some,yc,xh]
  grind
def avc {m:Nat} (h:1000000000<=m):au m=au (m/1000000000)++iK 9 (m%1000000000):=by
 have:=OO 9 (m/1000000000) (m%1000000000) (by omega) (by omega)
 grind
end
section
open Go (IntKind)
def iw (s:List Nat) (l h:Option Nat):Option AV:=
 match l,h with
 | some l,some h=>bif yG l h&&yG h s.length then some (.str ((s.take h).drop l)) else none
 | _,_=>none
def eR (hp:Hp) (s:List Nat) (tm:Env) (lo hi:Option X):fC hp .str (.str s) tm lo hi=iw s (dE tm 0 lo) (dE tm s.length hi):=by
 unfold iw;simp only [fC]
 grind
def eZ (tm:Env) (d:Nat):dE tm d none=some d:=rfl
def dO (tm:Env) (d:Nat) (x:X):dE tm d (some x)=dP (aG tm x):=rfl
def lQ {s:List Nat} {l h:Nat} (h1:l<=h) (h2:h<=s.length):iw s (some l) (some h)=some (.str ((s.take h).drop l)):=by
 simp [iw,yy h1,yy h2]
def gH {a b:List Nat} (h:a.length+b.length<=9223372036854775807):binOp .add (.str a) (.str b)=some (.str (a++b)):=by
 show Ls .add a b=_
 simp only [Ls,yy h,yB]
def axl (k:yV) (n:Int):oB (.toInt .i64) (.int k n)=some (ab (IntKind.wrap .i64 n)):=rfl
def iZ (a b:List Nat):binOp .eql (.str a) (.str b)=some (.bool (bQ a b)):=rfl
def re {s:List Nat} {i:Nat} (h:i<s.length):nC i (.str s)=some (.int .u8 (s[i]:Nat)):=by
 simp only [nC,vl h]
def aeX {r:Nat} (h:r<10):iw [48,49,50,51,52,53,54,55,56,57] (some r) (some (r+1))=some (.str [48+r]):=by
 have:r=0\/r=1\/r=2\/r=3\/r=4\/r=5\/r=6\/r=7\/r=8\/r=9:=by omega
 rcases this with rfl | rfl | rfl | rfl | rfl | rfl | rfl | rfl | rfl | rfl<;>rfl
section
variable {P:aJ} {L:Lib}
def abk (h:Has P L 292 Ax) {n:Nat} (hn:n<9223372036854775808):ai P L 292 [ab n,ab 1] (.str (au n)):=by
 have key:=cR (P:=P) (L:=L) (live:=[0,1,5]) (a:=om)
  (I:=fun k st=>∃(m:Nat) (s:List Nat),st=⟨[(0,ab m),(1,ab 1),(5,.str s)],[],0,0⟩/\m<=n/\m+(1-s.length)=k/\s.length<=20/\((s=[]/\m=n)\/(0<s.length/\(m=0->s=au n)/\(0<m->au n=au m++s))))
  (Q:=fun ex st=>∃tm ct,st=⟨tm,[],ct,0⟩/\ex= .exit 0/\ak tm 5= .str (au n)) ?_
 ·unfold ai;rw [ax h];simp only [go_sem,Ax];generalize hq:D P L (.loop [0,1,5] om) _=q;obtain ⟨ex,st,rfl,tm,ct,rfl,rfl,h2⟩:=cG hq (key (n+1)) ⟨n,[],by simp only [go_sem,ya,aH]<;>rfl,by omega,rfl,by simp,.inl ⟨rfl,rfl⟩⟩
  simp only [go_sem,aH,h2]
 ·rintro k st ⟨m,s,rfl,hm,hk,hl,hs⟩;by_cases zu:0<m\/s.length<1
  ·left
   have hc:((decide ((0:Int)<m))=true)\/((decide ((0:Int)<m))=false/\((s.length:Nat):Int)<1):=by
    by_cases h0:0<m
    ·exact .inl (yD (by omega))
    ·exact .inr ⟨yC (by omega),by omega⟩
   have hr:((m:Int)).tmod 10=((m%10:Nat):Int):=by rw [wc (by omega)];rfl
   have hq:((m:Int)).tdiv 10=((m/10:Nat):Int):=by rw [Int.tdiv_eq_ediv_of_nonneg (by omega)];rfl
   have hd:=aeX (r:=m%10) (by omega);have fin:∃s' k',D P L om ⟨[(0,ab m),(1,ab 1),(5,.str s)],[],0,0⟩=some (.normal,s')/\k'<k/\bS [0,1,5] s'=⟨[(0,ab (m/10:Nat)),(1,ab 1),(5,.str ([48+m%10]++s))],[],0,0⟩/\m/10+(1-([48+m%10]++s).length)=k':=by
    rcases hc with hc | ⟨hc,zj⟩
    ·have hc:(0:Int)<m:=of_decide_eq_true hc
     simp only [go_sem,ya,yb,om,hc,gF _ _ _ (show (10:Int)≠0 by decide),fq _ _ _ (show (10:Int)≠0 by decide),hr,hq,wrapN (n:=m%10+1) (by omega),wrap64 (n:=((m/10:Nat):Int)) (by omega) (by omega),eR,dO,show ((m%10:Nat):Int)+1=((m%10+1:Nat):Int) from rfl,hd,gH (a:=[48+m%10]) (b:=s) (by simp;omega)];refine ⟨_,_,rfl,?_,by simp only [go_sem,ya,aH],rfl⟩
     simp;omega
    ·have hc:¬(0:Int)<m:=of_decide_eq_false hc
     simp only [go_sem,ya,yb,om,hc,zj,gF _ _ _ (show (10:Int)≠0 by decide),fq _ _ _ (show (10:Int)≠0 by decide),hr,hq,wrapN (n:=m%10+1) (by omega),wrap64 (n:=((m/10:Nat):Int)) (by omega) (by omega),eR,dO,show ((m%10:Nat):Int)+1=((m%10+1:Nat):Int) from rfl,hd,gH (a:=[48+m%10]) (b:=s) (by simp;omega)];refine ⟨_,_,rfl,?_,by simp only [go_sem,ya,aH],rfl⟩
     simp;omega
   obtain ⟨s',k',f1,f2,f3,f4⟩:=fin;refine ⟨s',k',f1,f2,m/10,[48+m%10]++s,f3,by omega,f4,?_,.inr ⟨by simp,fun h0=>?_,fun h0=>?_⟩⟩
   ·have aKO:=Om (n:=n) (by omega);rcases hs with ⟨rfl,rfl⟩ | ⟨h1,h2,h3⟩
    ·simp
    ·by_cases h0:0<m
     ·have e:=congrArg List.length (h3 h0);have e2:0<(au m).length:=by
       by_cases h9:m<10
       ·rw [n9 h9];simp
       ·rw [po h9];simp
      simp only [yU] at e
      simp;omega
     ·omega
   ·have h9:m<10:=by omega
    rcases hs with ⟨rfl,rfl⟩ | ⟨h1,h2,h3⟩
    ·rw [n9 h9,yP h9];rfl
    ·have:0<m:=by omega
     rw [h3 this,n9 h9,yP h9]
   ·have h9:¬m<10:=by omega
    rcases hs with ⟨rfl,rfl⟩ | ⟨h1,h2,h3⟩
    ·rw [po h9];simp
    ·rw [h3 (by omega),po h9];simp
  ·right
   simp only [go_sem,ya,om,show ¬(0:Int)<m by omega,show ¬((s.length:Nat):Int)<1 by omega];refine ⟨_,_,rfl,by simp,_,_,rfl,rfl,?_⟩;simp only [go_sem,ya];rcases hs with ⟨rfl,rfl⟩ | ⟨h1,h2,h3⟩
   ·simp at zu
   ·rw [h2 (by omega)]
def aDO (h:Has P L 291 L6) {a b:Nat} (ha:a<9223372036854775808) (hb:b<9223372036854775808):ai P L 291 [ab a,ab b] (ab (wu a b)):=by
 have key:=cR (P:=P) (L:=L) (live:=[0,1]) (a:=K9)
  (I:=fun k st=>∃x y:Nat,st=⟨[(0,ab x),(1,ab y)],[],0,0⟩/\y=k/\wu x y=wu a b)
  (Q:=fun ex st=>∃tm ct,st=⟨tm,[],ct,0⟩/\ex= .exit 0/\ak tm 0=ab (wu a b)) ?_
 ·unfold ai;rw [ax h];simp only [go_sem,L6];generalize hq:D P L (.loop [0,1] K9) _=q;obtain ⟨ex,st,rfl,tm,ct,rfl,rfl,h2⟩:=cG hq (key b) ⟨a,b,by simp only [go_sem,ya,aH]<;>rfl,rfl,rfl⟩
  simp only [go_sem,aH,h2]
 ·rintro k st ⟨x,y,rfl,rfl,hg⟩;by_cases hy:y=0
  ·right
   subst hy;simp only [go_sem,ya,K9,show ¬(0:Int)<((0:Nat):Int) by omega];refine ⟨_,_,rfl,by simp,_,_,rfl,rfl,?_⟩;simp only [go_sem,ya];rw [<-hg,yax]
  ·left
   have hr:((x:Int)).tmod y=((x%y:Nat):Int):=by rw [wc (by omega)];rfl
   simp only [go_sem,ya,K9,show (0:Int)<y by omega,gF _ _ _ (show (y:Int)≠0 by omega),hr];refine ⟨_,x%y,rfl,xr _ (by omega),y,x%y,by simp only [go_sem,ya,aH],rfl,?_⟩;rw [<-hg,uG y,<-ybV,uG]
end
end
section
open Go (IntKind)
section
variable {P:aJ} {L:Lib}
def EW (h:Has P L 272 L3) {s:List Nat} (hl:s.length<=1000000000000):ai P L 272 [.str s] (ab (bX s)):=by
 have key:=cR (P:=P) (L:=L) (live:=[0,3]) (a:=GD)
  (I:=fun k st=>∃i:Nat,st=⟨[(0,.str s),(3,ab i)],[],0,0⟩/\i+k=s.length/\i+bX (s.drop i)=bX s)
  (Q:=fun ex st=>∃tm ct,st=⟨tm,[],ct,0⟩/\((ex= .ret/\ak tm 2=ab (bX s))\/(ex= .exit 0/\ak tm 0= .str s/\bX s=s.length))) ?_
 ·unfold ai;rw [ax h];simp only [go_sem,L3];generalize hq:D P L (.loop [0,3] GD) _=q;obtain ⟨ex,st,rfl,tm,ct,rfl,h2⟩:=cG hq (key s.length) ⟨0,by simp only [go_sem,ya,aH]<;>rfl,by omega,by simp⟩
  rcases h2 with ⟨rfl,h2⟩ | ⟨rfl,h2,h3⟩
  ·simp only [go_sem,h2]
  ·simp only [go_sem,aH,h2,h3]
 ·rintro k st ⟨i,rfl,hk,hs⟩;by_cases hi:i<s.length
  ·rw [aqQ hi] at hs;by_cases h7:s[i]=47
   ·right
    rw [yz h7] at hs;simp only [go_sem,ya,GD,show (i:Int)<s.length by omega,re hi,show ((s[i]:Nat):Int)=47 by omega];refine ⟨_,_,rfl,by simp,_,_,rfl,.inl ⟨rfl,?_⟩⟩;rw [<-hs];rfl
   ·left
    rw [yp h7] at hs;simp only [go_sem,ya,GD,show (i:Int)<s.length by omega,re hi,show ¬((s[i]:Nat):Int)=47 by omega];refine ⟨_,k-1,rfl,by omega,i+1,?_,by omega,by omega⟩;rw [wrap64 (by omega) (by omega)];simp only [go_sem,ya,aH]<;>rfl
  ·right
   simp only [go_sem,ya,GD,show ¬(i:Int)<s.length by omega];refine ⟨_,_,rfl,by simp,_,_,rfl,.inr ⟨rfl,by simp only [go_sem,ya],?_⟩⟩;rw [xn (by omega)] at hs;simp only [bX] at hs;omega
def MB (h:Has P L 290 Hw) {s:List Nat} {v:Nat} (hl:s.length<=18) (hv:cW s 0=some v):ai P L 290 [.str s] (ab v):=by
 have key:=cR (P:=P) (L:=L) (live:=[0,3,4]) (a:=K8)
  (I:=fun k st=>∃i a:Nat,st=⟨[(0,.str s),(3,ab a),(4,ab i)],[],0,0⟩/\i+k=s.length/\a<10^i/\cW (s.drop i) a=some v)
  (Q:=fun ex st=>∃tm ct,st=⟨tm,[],ct,0⟩/\ex= .exit 0/\ak tm 3=ab v) ?_
 ·unfold ai;rw [ax h];simp only [go_sem,Hw];generalize hq:D P L (.loop [0,3,4] K8) _=q;obtain ⟨ex,st,rfl,tm,ct,rfl,rfl,h2⟩:=cG hq (key s.length) ⟨0,0,by simp only [go_sem,ya,aH]<;>rfl,by omega,by simp,hv⟩
  simp only [go_sem,aH,h2]
 ·rintro k st ⟨i,a,rfl,hk,ha,hs⟩;by_cases hi:i<s.length
  ·left
   obtain ⟨h1,h2,h3⟩:=as6 hi hs;have hp:10^i<=10^17:=xx (by decide) (by omega);have hb:IntKind.wrap .i64 ((s[i]:Nat):Int)=((s[i]:Nat):Int):=wrap64 (by omega) (by omega)
   simp only [go_sem,ya,K8,show (i:Int)<s.length by omega,re hi,axl,hb,wrap64 (n:=10*(a:Int)) (by omega) (by omega),wrap64 (n:=10*(a:Int)+(s[i]:Nat)) (by omega) (by omega),wrap64 (n:=10*(a:Int)+(s[i]:Nat)-48) (by omega) (by omega)];refine ⟨_,k-1,rfl,by omega,i+1,10*a+(s[i]-48),?_,by omega,?_,h3⟩
   ·rw [wrap64 (by omega) (by omega),show 10*(a:Int)+(s[i]:Nat)-48=((10*a+(s[i]-48):Nat):Int) by omega];simp only [go_sem,ya,aH]<;>rfl
   ·rw [xh];omega
  ·right
   simp only [go_sem,ya,K8,show ¬(i:Int)<s.length by omega];refine ⟨_,_,rfl,by simp,_,_,rfl,rfl,?_⟩;rw [xn (by omega)] at hs;simp only [cW,yc] at hs;subst hs;simp only [go_sem,ya]
def Pb (a:Int):(if 0-a>a then 0-a else a)=(a.natAbs:Int):=by omega
def OP (a b:Int):a.tdiv (wq a b:Nat)=dJ a b:=tO (uX a b)
def OQ (a b:Int):b.tdiv (wq a b:Nat)=dL a b:=tO (uO a b)
def oc (n:Int):(if n<0 then [45] else [])++au n.natAbs=aV n:=by
 split
 ·rename_i h;rw [jZ h];rfl
 ·rename_i h;obtain ⟨m,rfl⟩:∃m:Nat,n=m:=⟨n.toNat,by omega⟩;rfl
def avd {n:Int} (h:n.natAbs<18446744073709551616):(aV n).length<=21:=by
 rw [<-oc]
 have:=Om h
 grind
def axm {a b:Int} (hb:0<b):pZ a b=(if 1<dL a b then (aV (dJ a b)++[47])++au (dL a b).natAbs else aV (dJ a b)):=by
 have h:=Kq (a:=a) hb;unfold pZ;by_cases h1:dL a b=1
 ·grind
 ·rw [yp h1,yz (by omega)];obtain ⟨m,hm⟩:∃m:Nat,dL a b=m:=⟨(dL a b).toNat,by omega⟩;rw [hm];rfl
def aDP (h:Has P L 277 EK) (abl:Has P L 291 L6) (p6:Has P L 292 Ax) {a b:Int} (ha: -4000000000000000000<=a/\a<=4000000000000000000) (hb:0<b/\b<=4000000000000000000):
  ai P L 277 [ab a,ab b] (.str (pZ a b)):=by
 have hn:=agv a b;have hd:=agw a b;have hp:=Kq (a:=a) hb.1;have e1:=aDO abl (a:=a.natAbs) (b:=b.natAbs) (by omega) (by omega);have e2:=abk p6 (n:=(dJ a b).natAbs) (by omega);have e3:=abk p6 (n:=(dL a b).natAbs) (by omega);have hg:=Pa (a:=a) hb.1;rw [show ((b.natAbs:Nat):Int)=b by omega,show wu a.natAbs b.natAbs=wq a b from rfl] at e1;rw [show (((dL a b).natAbs:Nat):Int)=dL a b by omega] at e3;have nR:=avd (n:=dJ a b) (by omega);have oR:=Om (n:=(dJ a b).natAbs) (by omega);have hl3:=Om (n:=(dL a b).natAbs) (by omega);have hT:=axm (a:=a) hb.1;have hS:=oc (dJ a b);unfold ai at e1 e2 e3 ⊢;rw [ax h];by_cases h0:dJ a b<0
 ·rw [yz h0] at hS;by_cases h1:1<dL a b
  ·rw [yz h1] at hT
   simp only [go_sem,ya,EK,show ¬a< -4000000000000000000 by omega,show ¬4000000000000000000<a by omega,show ¬b< -4000000000000000000 by omega,show ¬4000000000000000000<b by omega,show ¬b<0 by omega,wrap64 (n:=0-a) (by omega) (by omega),GO,Gb,Pb,e1,fq _ _ _ (show ((wq a b:Nat):Int)≠0 by omega),OP,OQ,wrap64 (n:=dJ a b) (by omega) (by omega),wrap64 (n:=dL a b) (by omega) (by omega),h0,wrap64 (n:=0-dJ a b) (by omega) (by omega),e2,gH (a:=[45]) (b:=au (dJ a b).natAbs) (by simp;omega),hS,h1,gH (a:=aV (dJ a b)) (b:=[47]) (by simp;omega),e3,gH (a:=aV (dJ a b)++[47]) (b:=au (dL a b).natAbs) (by simp;omega),hT]
  ·rw [yp h1] at hT
   simp only [go_sem,ya,EK,show ¬a< -4000000000000000000 by omega,show ¬4000000000000000000<a by omega,show ¬b< -4000000000000000000 by omega,show ¬4000000000000000000<b by omega,show ¬b<0 by omega,wrap64 (n:=0-a) (by omega) (by omega),GO,Gb,Pb,e1,fq _ _ _ (show ((wq a b:Nat):Int)≠0 by omega),OP,OQ,wrap64 (n:=dJ a b) (by omega) (by omega),wrap64 (n:=dL a b) (by omega) (by omega),h0,wrap64 (n:=0-dJ a b) (by omega) (by omega),e2,gH (a:=[45]) (b:=au (dJ a b).natAbs) (by simp;omega),hS,h1,hT]
 ·rw [yp h0] at hS;by_cases h1:1<dL a b
  ·rw [yz h1] at hT
   simp only [go_sem,ya,EK,show ¬a< -4000000000000000000 by omega,show ¬4000000000000000000<a by omega,show ¬b< -4000000000000000000 by omega,show ¬4000000000000000000<b by omega,show ¬b<0 by omega,wrap64 (n:=0-a) (by omega) (by omega),GO,Gb,Pb,e1,fq _ _ _ (show ((wq a b:Nat):Int)≠0 by omega),OP,OQ,wrap64 (n:=dJ a b) (by omega) (by omega),wrap64 (n:=dL a b) (by omega) (by omega),h0,wrap64 (n:=0-dJ a b) (by omega) (by omega),e2,gH (a:=[]) (b:=au (dJ a b).natAbs) (by simp;omega),hS,h1,gH (a:=aV (dJ a b)) (b:=[47]) (by simp;omega),e3,gH (a:=aV (dJ a b)++[47]) (b:=au (dL a b).natAbs) (by simp;omega),hT]
  ·rw [yp h1] at hT
   simp only [go_sem,ya,EK,show ¬a< -4000000000000000000 by omega,show ¬4000000000000000000<a by omega,show ¬b< -4000000000000000000 by omega,show ¬4000000000000000000<b by omega,show ¬b<0 by omega,wrap64 (n:=0-a) (by omega) (by omega),GO,Gb,Pb,e1,fq _ _ _ (show ((wq a b:Nat):Int)≠0 by omega),OP,OQ,wrap64 (n:=dJ a b) (by omega) (by omega),wrap64 (n:=dL a b) (by omega) (by omega),h0,wrap64 (n:=0-dJ a b) (by omega) (by omega),e2,gH (a:=[]) (b:=au (dJ a b).natAbs) (by simp;omega),hS,h1,hT]
end
end
section
open Go (IntKind)
def TT (n:Int) (d:Nat):List Nat:=aV n++(if d=1 then [] else 47::au d)
def axn {a b:Int} (hb:0<b):pZ a b=TT (dJ a b) (dL a b).toNat:=by
 have h:=Kq (a:=a) hb;unfold pZ TT;by_cases h1:dL a b=1
 ·grind
 ·rw [yp h1,yp (by omega)];obtain ⟨m,hm⟩:∃m:Nat,dL a b=m:=⟨(dL a b).toNat,by omega⟩;rw [hm,List.append_assoc];rfl
def sf (n:Nat):0<(au n).length:=by
 by_cases h:n<10
 ·rw [n9 h];simp
 ·rw [po h];simp
def KH:∀(n:Nat),n<10^(au n).length:=by
 intro n
 induction n using vV with
 | _ n ih=>
  by_cases h:n<10
  ·rw [n9 h];simpa using h
  ·have:=ih (n/10) (by omega)
   rw [po h,yU,List.length_singleton,xh];omega
def agy {n:Nat} (h:(au n).length<=9):n<1000000000:=
 yO (KH n) (by simpa using xx (show 0<10 by decide) h)
def F6 (n:Nat):∃b r,au n=b::r/\48<=b/\b<=57:=by
 cases hq:au n with
 | nil=>have:=sf n;rw [hq] at this;simp at this
 | cons b r=>
  have:=zI n
  rw [hq] at this;simp only [dG,yg] at this
  simp_all
section
variable {P:aJ} {L:Lib}
def EX (s:List Nat):nC 0 (.str (45::s))=some (.int .u8 45):=rfl
def V3 (q:Bool) (n:Int) (d:Nat):AV:=if q=true then .af [ab n,ab d,.bool true] else .af [ab 0,ab 0,.bool false]
def jc (d:Nat):List Nat:=if d=1 then [] else 47::au d
def Us (d:Nat):bX (jc d)=0:=by unfold jc;split<;>rfl
def aDQ (h:Has P L 276 pV) (AI:Has P L 272 L3) (AJ:Has P L 290 Hw) {n:Int} {d:Nat} (hl:(TT n d).length<=20000000000):
  ∃q:Bool,ai P L 276 [.str (TT n d)] (V3 q n d)/\(q=true->n.natAbs<1000000000/\d<1000000000):=by
 generalize hs:TT n d=s at hl;by_cases nW:20<s.length
 ·refine ⟨false,?_,fun h=>by cases h⟩;unfold ai;rw [ax h];simp only [go_sem,ya,pV,show (20:Int)<s.length by omega];rfl
 ·have hu:∃u,u=au n.natAbs++jc d:=⟨_,rfl⟩;obtain ⟨u,hu⟩:=hu;have hK:∃K,K=(au n.natAbs).length:=⟨_,rfl⟩;obtain ⟨K,hK⟩:=hK;have Fo:bX u=K:=by rw [hu,JY _ (zI _),Us,hK];rfl
  have hlen:u.length=K+(jc d).length:=by rw [hu,hK,yU]
  have hp:=sf n.natAbs;obtain ⟨b,r,hb,kQ,hb2⟩:=F6 n.natAbs;have Fy:(n<0/\s=45::u)\/(¬n<0/\s=u):=by
   by_cases h0:n<0
   ·left;refine ⟨h0,?_⟩;rw [<-hs,hu,TT,jZ h0];rfl
   ·right;refine ⟨h0,?_⟩;rw [<-hs,hu,TT,<-oc,yp h0];rfl
  have hul:u.length<=s.length:=by rcases Fy with ⟨_,e⟩ | ⟨_,e⟩<;>rw [e]<;>simp
  have Dn:0<u.length:=by omega
  have rM:u[0]=b:=by
   have:u=b::(r++jc d):=by rw [hu,hb];rfl
   simp [this]
  have e1:=EW AI (s:=u) (by omega);rw [Fo] at e1;have eN:iw u (some 0) (some K)=some (.str (au n.natAbs)):=by
   rw [lQ (by omega) (by omega),List.drop_zero,hu,hK,List.take_left]
  unfold ai at e1;by_cases h9:9<K
  ·refine ⟨false,?_,fun h=>by cases h⟩;unfold ai;rw [ax h];rcases Fy with ⟨h0,e⟩ | ⟨h0,e⟩
   ·have nW:¬20<u.length+1:=by rw [e] at nW;exact nW
    have lJ:iw (45::u) (some 1) (some (u.length+1))=some (.str u):=by rw [lQ (s:=45::u) (l:=1) (h:=u.length+1) (by omega) (by simp)];simp
    rw [e];simp only [go_sem,ya,pV,show ¬(20:Int)<((u.length+1:Nat):Int) by omega,show (0:Int)<((u.length+1:Nat):Int) by omega,EX,eR,eZ,dO,lJ,e1,show (9:Int)<(K:Int) by omega];rfl
   ·rw [e];simp only [go_sem,ya,pV,show ¬(20:Int)<(u.length:Nat) by omega,show (0:Int)<(u.length:Nat) by omega,re Dn,rM,show ¬((b:Nat):Int)=45 by omega,e1,show (9:Int)<(K:Int) by omega];rfl
  ·by_cases iS:10<(jc d).length
   ·refine ⟨false,?_,fun h=>by cases h⟩;unfold ai;rw [ax h];rcases Fy with ⟨h0,e⟩ | ⟨h0,e⟩
    ·have nW:¬20<u.length+1:=by rw [e] at nW;exact nW
     have lJ:iw (45::u) (some 1) (some (u.length+1))=some (.str u):=by rw [lQ (s:=45::u) (l:=1) (h:=u.length+1) (by omega) (by simp)];simp
     rw [e]
     simp only [go_sem,ya,pV,show ¬(20:Int)<((u.length+1:Nat):Int) by omega,show (0:Int)<((u.length+1:Nat):Int) by omega,EX,eR,eZ,dO,lJ,e1,show ¬(9:Int)<(K:Int) by omega,wrap64 (n:=(u.length:Int)-(K:Int)) (by omega) (by omega),show (10:Int)<(u.length:Int)-(K:Int) by omega];rfl
    ·rw [e]
     simp only [go_sem,ya,pV,show ¬(20:Int)<(u.length:Nat) by omega,show (0:Int)<(u.length:Nat) by omega,re Dn,rM,show ¬((b:Nat):Int)=45 by omega,e1,show ¬(9:Int)<(K:Int) by omega,wrap64 (n:=(u.length:Int)-(K:Int)) (by omega) (by omega),show (10:Int)<(u.length:Int)-(K:Int) by omega];rfl
   ·have e2:=MB AJ (s:=au n.natAbs) (by omega) (zJ n.natAbs);unfold ai at e2;have hm:=agy (n:=n.natAbs) (by omega);by_cases hd:d=1
    ·subst hd;have mi:jc 1=[]:=rfl;refine ⟨true,?_,fun _=>⟨hm,by decide⟩⟩;rw [mi] at hlen;simp only [yJ,yW] at hlen;unfold ai;rw [ax h];rcases Fy with ⟨h0,e⟩ | ⟨h0,e⟩
     ·have nW:¬20<u.length+1:=by rw [e] at nW;exact nW
      have lJ:iw (45::u) (some 1) (some (u.length+1))=some (.str u):=by rw [lQ (s:=45::u) (l:=1) (h:=u.length+1) (by omega) (by simp)];simp
      rw [e]
      simp only [go_sem,ya,pV,show ¬(20:Int)<((u.length+1:Nat):Int) by omega,show (0:Int)<((u.length+1:Nat):Int) by omega,EX,eR,eZ,dO,lJ,e1,show ¬(9:Int)<(K:Int) by omega,wrap64 (n:=(u.length:Int)-(K:Int)) (by omega) (by omega),show ¬(10:Int)<(u.length:Int)-(K:Int) by omega,eN,e2,show ¬(K:Int)<(u.length:Int) by omega,wrap64 (n:=0-(n.natAbs:Int)) (by omega) (by omega)];rw [show 0-(n.natAbs:Int)=n by omega];rfl
     ·rw [e]
      simp only [go_sem,ya,pV,show ¬(20:Int)<(u.length:Nat) by omega,show (0:Int)<(u.length:Nat) by omega,re Dn,rM,show ¬((b:Nat):Int)=45 by omega,eR,eZ,dO,e1,show ¬(9:Int)<(K:Int) by omega,wrap64 (n:=(u.length:Int)-(K:Int)) (by omega) (by omega),show ¬(10:Int)<(u.length:Int)-(K:Int) by omega,eN,e2,show ¬(K:Int)<(u.length:Int) by omega];rw [show (n.natAbs:Int)=n by omega];rfl
    ·have mi:jc d=47::au d:=yp hd;have NC:(jc d).length=(au d).length+1:=by rw [mi];rfl
     have hpd:=sf d;have hd9:=agy (n:=d) (by omega);have e3:=MB AJ (s:=au d) (by omega) (zJ d);unfold ai at e3;have zj:iw u (some (K+1)) (some u.length)=some (.str (au d)):=by
      rw [lQ (by omega) (yA _),xW,hu,mi,hK,show (au n.natAbs).length+1=(au n.natAbs++[47]).length by simp,show au n.natAbs++47::au d=(au n.natAbs++[47])++au d by simp,List.drop_left]
     refine ⟨true,?_,fun _=>⟨hm,hd9⟩⟩;unfold ai;rw [ax h];rcases Fy with ⟨h0,e⟩ | ⟨h0,e⟩
     ·have nW:¬20<u.length+1:=by rw [e] at nW;exact nW
      have lJ:iw (45::u) (some 1) (some (u.length+1))=some (.str u):=by rw [lQ (s:=45::u) (l:=1) (h:=u.length+1) (by omega) (by simp)];simp
      rw [e]
      simp only [go_sem,ya,pV,show ¬(20:Int)<((u.length+1:Nat):Int) by omega,show (0:Int)<((u.length+1:Nat):Int) by omega,EX,eR,eZ,dO,lJ,e1,show ¬(9:Int)<(K:Int) by omega,wrap64 (n:=(u.length:Int)-(K:Int)) (by omega) (by omega),show ¬(10:Int)<(u.length:Int)-(K:Int) by omega,eN,e2,show (K:Int)<(u.length:Int) by omega,wrapN (n:=K+1) (by omega),show (K:Int)+1=((K+1:Nat):Int) from rfl,zj,e3,wrap64 (n:=0-(n.natAbs:Int)) (by omega) (by omega)];rw [show 0-(n.natAbs:Int)=n by omega];rfl
     ·rw [e]
      simp only [go_sem,ya,pV,show ¬(20:Int)<(u.length:Nat) by omega,show (0:Int)<(u.length:Nat) by omega,re Dn,rM,show ¬((b:Nat):Int)=45 by omega,eR,eZ,dO,e1,show ¬(9:Int)<(K:Int) by omega,wrap64 (n:=(u.length:Int)-(K:Int)) (by omega) (by omega),show ¬(10:Int)<(u.length:Int)-(K:Int) by omega,eN,e2,show (K:Int)<(u.length:Int) by omega,wrapN (n:=K+1) (by omega),show (K:Int)+1=((K+1:Nat):Int) from rfl,zj,e3];rw [show (n.natAbs:Int)=n by omega];rfl
end
end
section
open Go (IntKind)
section
variable {P:aJ} {L:Lib}
def abm (h:Has P L 302 sJ) {v:AV} {l:List Int} (hv:bB v l) (i:Nat):ai P L 302 [v,ab i] (ab (l.getD i 0)):=by
 unfold ai;rw [ax h];by_cases hi:i<l.length
 ·simp only [go_sem,ya,sJ,hv.len,show (i:Int)<l.length by omega,hv.bz hi];simp [wA,vl hi]
 ·simp only [go_sem,ya,sJ,hv.len,show ¬(i:Int)<l.length by omega];simp [wA,List.getElem?_eq_none (Nat.le_of_not_lt hi)]
def ajO {hp:Hp} {e:Bool} {n:Nat} {cs:List AV} {tm:Env} {h:Nat} {x:X} (hx:dE tm n (some x)=some h) (hh:h<=n):
  fC hp (.sl 1) (.ap e n cs) tm none (some x)=some (.ap (e&&yu h n) h (cs.take h)):=by
 simp only [fC,hx,eZ];simp [yy hh,slice];rw [show yG 0 h=true from yy (uF _)];rfl
def CU (h:Has P L 300 ma) {v:AV} {l:List Int} (hv:bB v l) (hl:l.length<=20000000000):∃r,ai P L 300 [v] r/\bB r (et l)/\shut r=r:=by
 rcases hv with ⟨rfl,h0⟩ | ⟨e,rfl⟩
 ·have:l=[]:=by simpa using h0
  subst this;refine ⟨.aa,?_,DR,rfl⟩;unfold ai;rw [ax h];simp only [go_sem,ya,ma,Lg,Eb,aH,show ¬(0:Int)<0 by decide]
 ·have key:=cR (P:=P) (L:=L) (live:=[0]) (a:=Eb)
   (I:=fun k st=>∃(i:Nat) (e:Bool),st=⟨[(0,.ap e i ((l.take i).map ab))],[],0,0⟩/\i<=l.length/\i=k/\et (l.take i)=et l)
   (Q:=fun ex st=>∃tm ct,st=⟨tm,[],ct,0⟩/\ex= .exit 0/\∃i e,ak tm 0= .ap e i ((l.take i).map ab)/\i<=l.length/\l.take i=et l) ?_
  ·have hlen:(l.map ab).length=l.length:=by simp
   rw [hlen];have iz:∃i e',ai P L 300 [.ap e l.length (l.map ab)] (.ap e' i ((l.take i).map ab))/\i<=l.length/\l.take i=et l:=by
    unfold ai;rw [ax h];simp only [go_sem,ma];generalize hq:D P L (.loop [0] Eb) _=q;obtain ⟨ex,st,rfl,tm,ct,rfl,rfl,i,e',h2,h3,h4⟩:=cG hq (key l.length) ⟨l.length,e,by simp only [go_sem,ya,aH,xW],yA _,rfl,by rw [xW]⟩;simp only [go_sem,aH,h2];exact ⟨i,e',rfl,h3,h4⟩
   obtain ⟨i,e',g1,g2,g3⟩:=iz;refine ⟨_,g1,?_,rfl⟩;rw [<-g3]
   have:=gG e' (l.take i)
   rwa [yR,xP g2] at this
  ·rintro k st ⟨i,e,rfl,hi,rfl,ht⟩
   cases i with
   | zero=>
    right
    simp only [go_sem,ya,Eb,show ¬(0:Int)<((0:Nat):Int) by omega];exact ⟨_,_,rfl,by simp,_,_,rfl,rfl,0,e,by simp only [go_sem,ya],uF _,by simpa [et] using ht⟩
   | succ i=>
    have Fz:i<l.length:=by omega
    have eX:l.take (i+1)=l.take i++[l[i]]:=xH Fz;have iE:wK i ((l.take (i+1)).map ab)=[AV.int .i64 l[i]]:=by
     rw [eX,List.map_append,List.drop_left' (by simp;omega)];rfl
    have oX:kw 1 i (.ap e (i+1) ((l.take (i+1)).map ab))=some (.cz [AV.int .i64 l[i]]):=by
     rw [Vz e _ (by omega),yj,iE]
    by_cases h0:l[i]=0
    ·left
     have mc:∀tm x,dE tm (i+1) (some x)=some i->fC [] (.sl 1) (.ap e (i+1) ((l.take (i+1)).map ab)) tm none (some x)=some (.ap (e&&yu i (i+1)) i ((l.take i).map ab)):=fun tm x hx=>by
      rw [ajO hx (by omega),<-ybc,List.take_take,xP (by omega)]
     simp only [go_sem,ya,Eb,show (0:Int)<((i+1:Nat):Int) by omega,show ((i+1:Nat):Int)-1=(i:Int) by omega,wrapN (n:=i) (by omega),oX,h0,mc,dO];refine ⟨_,i,rfl,by omega,i,_,by simp only [go_sem,aH]<;>rfl,by omega,rfl,?_⟩
     rw [<-ht,eX,h0,J6]
    ·right
     simp only [go_sem,ya,Eb,show (0:Int)<((i+1:Nat):Int) by omega,show ((i+1:Nat):Int)-1=(i:Int) by omega,wrapN (n:=i) (by omega),oX,h0];refine ⟨_,_,rfl,by simp,_,_,rfl,rfl,i+1,e,by simp only [go_sem,ya],by omega,?_⟩;rw [<-ht,eX,Ok h0]
end
end
section
open Go (IntKind)
abbrev uc (n:Nat):AV:= .int .u64 (n:Int)
def bO (v:AV) (l:List Nat):Prop:=db v (l.map uc)
section
variable {v:AV} {l:List Nat}
def bO.len (h:bO v l) {hp:Hp}:jb hp 1 v=some (.int .i64 (l.length:Nat)):=by
 have:=db.len (hp:=hp) h
 grind
def bO.pu (h:bO v l):bg v=true:=db.pu h
def bO.ao (h:bO v l) (n:Nat) {hp:Hp}:freeze (n+1) hp v=some (v,hp):=db.ao h n
def bO.shut (h:bO v l):VE.shut v=v:=db.shut h
def bO.b6 (h:bO v l):VE.b6 v=v:=db.b6 h
def bO.dU (h:bO v l) {hp:Hp}:result hp v=some v:=db.dU h
def bO.one (h:bO v l):cP v=true:=db.one h
def bO.cells (h:bO v l):cellsOf v=[v]:=db.cells h
def bO.bz (h:bO v l) {i:Nat} (hi:i<l.length):kw 1 i v=some (.cz (uc (l.getD i 0)::(l.map uc).drop (i+1))):=by
 have:=db.bz h (i:=i) (by simpa using hi)
 grind
def ns (e:Bool) (l:List Nat):bO (.ap e l.length (l.map uc)) l:=by
 have:=VA e (l.map uc)
 rwa [List.length_map] at this
def od:bO .aa []:=DR
end
def kU {hp:Hp} {ct id o:Nat} {v:Nat} {ex:Bool} {l:List Nat} (h:o<l.length):gC hp ct id o 1 [.int .u64 (v:Int)] (some (.cells true true ex 1 (l.map uc)))=some (.af [],bf hp id (.cells true true ex 1 ((l.set o v).map uc)),ct):=by
 rw [rq (by rfl) (by simp;omega) (by rfl)]
 have:over o [uc v] (l.map uc)=(l.set o v).map uc:=by
  simp only [over,yx,yJ,yd];rw [List.map_set,List.set_eq_take_append_cons_drop,yz (by simpa using h)]
  simp
 rw [this];rfl
def Ak {l:List Nat} {o:Nat} (h:o<l.length):wK o (l.map uc)=uc (l.getD o 0)::wK (o+1) (l.map uc):=by
 rw [yX (by simpa using h)]
 grind
def axo (n:Nat):(yF n [AV.int .u64 0]).flatten=(yF n 0).map uc:=by simp_all
def EY (ct:Nat) {n:Nat} (h:n<=100000000000):AH ct 1 8 [.int .u64 0] (some n) (some n)=some (.ay ct 0 n,.cells true true true 1 ((yF n 0).map uc)):=by
 rw [Lh (sz:=1) (by omega) (by omega) (by rfl) (by rfl),axo];rfl
def CV (hp:Hp) {n:Nat} {l:List Nat} (h:l.length=n) (ex:Bool):jR 0 n (some (ex,1,l.map uc,hp))=some (.ap ex n (l.map uc),hp):=q8 ex (by simp [h]) (by decide)
def alG {n:Nat} (h:n<18446744073709551616):IntKind.wrap .u64 (n:Int)=n:=aCI (by omega) (by omega)
section
variable {P:aJ} {L:Lib} {f:cN}
def lk {a b:Nat} (h:a<b):yL a b=true:=by simp_all
def Ef (h:L.pure 171=some ol) {x y c:Nat} (hx:x<18446744073709551616) (hy:y<18446744073709551616) (hc:c<=1):
  bZ P L f 171 [uc x,uc y,uc c]=some (.af [uc ((x+y+c)%18446744073709551616),uc ((x+y+c)/18446744073709551616)]):=by
 rw [jt h];show (bif yG c 1&&(yL x 18446744073709551616&&yL y 18446744073709551616) then _ else none)=_
 rw [yy hc,lk hx,lk hy];rfl
def V4 (h:L.pure 173=some Ca) {x y c:Nat} (hx:x<18446744073709551616) (hy:y<18446744073709551616) (hc:c<=1):
  bZ P L f 173 [uc x,uc y,uc c]=some (.af [uc ((x+18446744073709551616*2-y-c)%18446744073709551616),uc (if y+c<=x then 0 else 1)]):=by
 rw [jt h];show (bif yG c 1&&(yL x 18446744073709551616&&yL y 18446744073709551616) then _ else none)=_
 rw [yy hc,lk hx,lk hy];by_cases hh:y+c<=x
 ·rw [yy hh,yz hh];rfl
 ·have:yG (y+c) x=false:=by
   cases hq:yG (y+c) x with
   | false=>rfl
   | true=>exact absurd (yv hq) hh
  grind
def PA (h:L.pure 143=some sr) {x y:Nat} (hx:x<18446744073709551616) (hy:y<18446744073709551616):
  bZ P L f 143 [uc x,uc y]=some (.af [uc (x*y/18446744073709551616),uc (x*y%18446744073709551616)]):=by
 rw [jt h];show (bif yL x 18446744073709551616&&yL y 18446744073709551616 then _ else none)=_
 rw [lk hx,lk hy];rfl
def ave {hp:Hp} {tm:Env} {x:X} (hx:dE tm 0 (some x)=some 0):fC hp (.sl 1) .aa tm none (some x)=some .aa:=by
 simp only [fC,hx,eZ]
def CW (h:Has P L 166 CA) {v:AV} {l:List Nat} (hv:bO v l) (hl:l.length<=100000000000):∃r,ai P L 166 [v] r/\bO r (ez l):=by
 rcases hv with ⟨rfl,h0⟩ | ⟨e,rfl⟩
 ·have:l=[]:=by simpa using h0
  subst this;refine ⟨.aa,?_,DR⟩;unfold ai;rw [ax h];simp only [go_sem,ya,CA,Lg,D8,aH,show ¬(0:Int)<0 by decide,ave,dO]
 ·have key:=cR (P:=P) (L:=L) (live:=[0,3]) (a:=D8)
   (I:=fun k st=>∃(i:Nat),st=⟨[(0,.ap e l.length (l.map uc)),(3,ab i)],[],0,0⟩/\i<=l.length/\i=k/\ez (l.take i)=ez l)
   (Q:=fun ex st=>∃tm ct,st=⟨tm,[],ct,0⟩/\ex= .exit 0/\∃i:Nat,ak tm 0= .ap e l.length (l.map uc)/\ak tm 3=ab i/\i<=l.length/\l.take i=ez l) ?_
  ·have hlen:(l.map uc).length=l.length:=by simp
   rw [hlen];have iz:∃i e',ai P L 166 [.ap e l.length (l.map uc)] (.ap e' i ((l.take i).map uc))/\i<=l.length/\l.take i=ez l:=by
    unfold ai;rw [ax h];simp only [go_sem,ya,CA];generalize hq:D P L (.loop [0,3] D8) _=q;obtain ⟨ex,st,rfl,tm,ct,rfl,rfl,i,h2,h3,h4,h5⟩:=cG hq (key l.length) ⟨l.length,by simp only [go_sem,ya,aH],yA _,rfl,by rw [xW]⟩;have mc:∀tm x,dE tm l.length (some x)=some i->fC [] (.sl 1) (.ap e l.length (l.map uc)) tm none (some x)=some (.ap (e&&yu i l.length) i ((l.map uc).take i)):=fun tm x hx=>ajO hx h4
    simp only [go_sem,ya,aH,h2,h3,mc,dO];exact ⟨i,_,by rw [ybc],h4,h5⟩
   obtain ⟨i,e',g1,g2,g3⟩:=iz;refine ⟨_,g1,?_⟩;rw [<-g3]
   have:=ns e' (l.take i)
   rwa [yR,xP g2] at this
  ·rintro k st ⟨i,rfl,hi,rfl,ht⟩
   cases i with
   | zero=>
    right
    simp only [go_sem,ya,D8,show ¬(0:Int)<((0:Nat):Int) by omega];exact ⟨_,_,rfl,by simp,_,_,rfl,rfl,0,by simp only [go_sem,ya],by simp only [go_sem,ya],uF _,by simpa [ez] using ht⟩
   | succ i=>
    have Fz:i<l.length:=by omega
    have eX:l.take (i+1)=l.take i++[l[i]]:=xH Fz;have oX:=(ns e l).bz Fz;rw [<-gd Fz] at oX;by_cases h0:l[i]=0
    ·left
     simp only [go_sem,ya,D8,show (0:Int)<((i+1:Nat):Int) by omega,show ((i+1:Nat):Int)-1=(i:Int) by omega,wrapN (n:=i) (by omega),oX,show ((l[i]:Nat):Int)=0 by omega];refine ⟨_,i,rfl,by omega,i,by simp only [go_sem,ya,aH],by omega,rfl,?_⟩;rw [<-ht,eX,h0,Ol]
    ·right
     simp only [go_sem,ya,D8,show (0:Int)<((i+1:Nat):Int) by omega,show ((i+1:Nat):Int)-1=(i:Int) by omega,wrapN (n:=i) (by omega),oX,show ¬((l[i]:Nat):Int)=0 by omega];refine ⟨_,_,rfl,by simp,_,_,rfl,rfl,i+1,by simp only [go_sem,ya],by simp only [go_sem,ya],by omega,?_⟩;rw [<-ht,eX,F2 h0]
end
end
section
open Go (IntKind)
def On (p b s:Nat):p*(s%b)+p*b*(s/b)=p*s:=by
 rw [xo,<-xz,Nat.mod_add_div]
def as7 {b:Nat} {x y out:List Nat} {i c:Nat} (hi:i<out.length) (hz:out.getD i 0=0) (hv:bv b out+b^i*c=bv b (x.take i)+bv b (y.take i)):
  bv b (out.set i ((x.getD i 0+y.getD i 0+c)%b))+b^(i+1)*((x.getD i 0+y.getD i 0+c)/b)=bv b (x.take (i+1))+bv b (y.take (i+1)):=by
 have h1:=ow (b:=b) (x:=(x.getD i 0+y.getD i 0+c)%b) hi;have h2:=On (b^i) b (x.getD i 0+y.getD i 0+c);rw [hz,xG,yW] at h1;rw [jw,jw,xh,h1]
 grind
def as8 {b:Nat} {x y out:List Nat} {i c z c':Nat} (hi:i<out.length) (hz:out.getD i 0=0) (hs:z+y.getD i 0+c=x.getD i 0+b*c') (hv:bv b out+bv b (y.take i)=bv b (x.take i)+b^i*c):
  bv b (out.set i z)+bv b (y.take (i+1))=bv b (x.take (i+1))+b^(i+1)*c':=by
 have h1:=ow (b:=b) (x:=z) hi;rw [hz,xG,yW] at h1;rw [jw,jw,xh,h1]
 grind
section
variable {P:aJ} {L:Lib}
def anc (h:Has P L 158 Hh) {v w:AV} {x y:List Nat} (hv:bO v x) (hw:bO w y) (hx:lo 18446744073709551616 x) (hy:lo 18446744073709551616 y) (nx:gB x) (ny:gB y) (lx:x.length<=100000000000) (ly:y.length<=100000000000):
  ai P L 158 [v,w] (ab (ef (bv 18446744073709551616 x) (bv 18446744073709551616 y))):=by
 unfold ai;rw [ax h];by_cases hlen:x.length=y.length
 ·have key:=cR (P:=P) (L:=L) (live:=[0,1,5]) (a:=D7)
   (I:=fun k st=>∃j:Nat,st=⟨[(0,v),(1,w),(5,ab ((j:Int)-1))],[],0,0⟩/\j<=x.length/\j=k/\x.drop j=y.drop j)
   (Q:=fun ex st=>∃tm ct,st=⟨tm,[],ct,0⟩/\((ex= .ret/\ak tm 4=ab (ef (bv 18446744073709551616 x) (bv 18446744073709551616 y)))\/(ex= .exit 0/\x=y))) ?_
  ·simp only [go_sem,ya,Hh,hv.len,hw.len,show (x.length:Int)=y.length by omega];generalize hq:D P L (.loop [0,1,5] D7) _=q;obtain ⟨ex,st,rfl,tm,ct,rfl,h2⟩:=cG hq (key x.length) ⟨x.length,by
    rw [wrap64 (by omega) (by omega),hlen]
    simp only [go_sem,ya,aH,aR hv.pu,aW _ hv.pu,aR hw.pu,aW _ hw.pu]<;>rfl,yA _,rfl,by rw [xn (yA _),xn (by omega)]⟩
   rcases h2 with ⟨rfl,h2⟩ | ⟨rfl,h2⟩
   ·simp only [go_sem,h2]
   ·simp only [go_sem,aH];subst h2;simp [ef]
  ·rintro k st ⟨j,rfl,hj,rfl,he⟩
   cases j with
   | zero=>
    right
    simp only [go_sem,ya,D7,show ¬(0:Int)<=((0:Nat):Int)-1 by omega];exact ⟨_,_,rfl,by simp,_,_,rfl,.inr ⟨rfl,by simpa using he⟩⟩
   | succ i=>
    have h1:i<x.length:=by omega
    have h2:i<y.length:=by omega
    have Ix:=ajI hx h1 h2 he;have aZ:=ajI hy h2 h1 he.symm;by_cases c0:x.getD i 0=y.getD i 0
    ·left
     simp only [go_sem,ya,D7,show ((i+1:Nat):Int)-1=(i:Int) by omega,show (0:Int)<=(i:Int) by omega,hv.bz h1,hw.bz h2,c0];refine ⟨_,i,rfl,by omega,i,?_,by omega,rfl,?_⟩
     ·rw [wrap64 (by omega) (by omega)];simp only [go_sem,ya,aH,aR hv.pu,aW _ hv.pu,aR hw.pu,aW _ hw.pu]<;>rfl
     ·rw [yX h1,yX h2,he,gd h1,gd h2,c0]
    ·by_cases c1:x.getD i 0<y.getD i 0
     ·right
      simp only [go_sem,ya,D7,show ((i+1:Nat):Int)-1=(i:Int) by omega,show (0:Int)<=(i:Int) by omega,hv.bz h1,hw.bz h2,show ¬((x.getD i 0:Nat):Int)=(y.getD i 0:Nat) by omega,show ((x.getD i 0:Nat):Int)<(y.getD i 0:Nat) by omega];refine ⟨_,_,rfl,by simp,_,_,rfl,.inl ⟨rfl,?_⟩⟩;simp only [go_sem];unfold ef;rw [yz (Ix c1)]
     ·right
      simp only [go_sem,ya,D7,show ((i+1:Nat):Int)-1=(i:Int) by omega,show (0:Int)<=(i:Int) by omega,hv.bz h1,hw.bz h2,show ¬((x.getD i 0:Nat):Int)=(y.getD i 0:Nat) by omega,show ¬((x.getD i 0:Nat):Int)<(y.getD i 0:Nat) by omega];refine ⟨_,_,rfl,by simp,_,_,rfl,.inl ⟨rfl,?_⟩⟩;simp only [go_sem];unfold ef;rw [yp (by omega),yz (by omega)]
 ·by_cases c1:x.length<y.length
  ·have:=O8 (b:=18446744073709551616) (by decide) hx ny c1
   simp only [go_sem,ya,Hh,hv.len,hw.len,show ¬(x.length:Int)=y.length by omega,show (x.length:Int)<y.length by omega];unfold ef;rw [yz this]
  ·have:=O8 (b:=18446744073709551616) (by decide) hy nx (show y.length<x.length by omega)
   simp only [go_sem,ya,Hh,hv.len,hw.len,show ¬(x.length:Int)=y.length by omega,show ¬(x.length:Int)<y.length by omega];unfold ef;rw [yp (by omega),yz this]
def akU (gO:L.pure 171=some ol) {v w:AV} {x y:List Nat} (hv:bO v x) (hw:bO w y) (hx:lo 18446744073709551616 x) (hy:lo 18446744073709551616 y) (lx:x.length<=99999999999) (ly:y.length<=x.length) {n:Nat} (hn:n=x.length+1):
  ∀k s,(∃(i c:Nat) (out:List Nat),bS [0,1,5,6,21,22] s=⟨[(0,v),(1,w),(5,.ay 0 0 n),(6,uc c),(21,ab x.length),(22,ab i)],[(0,.cells true true true 1 (out.map uc))],1,0⟩/\i+k=x.length/\out.length=n/\c<=1/\lo 18446744073709551616 out/\
    bv 18446744073709551616 out+18446744073709551616^i*c=bv 18446744073709551616 (x.take i)+bv 18446744073709551616 (y.take i)/\(∀m,i<=m->out.getD m 0=0))->
   ∃ex s',D P L (.loop [0,1,5,6,21,22] D6) s=some (ex,s')/\∃tm c out,s'=⟨tm,[(0,.cells true true true 1 (out.map uc))],1,0⟩/\ex= .exit 0/\ak tm 0=v/\ak tm 5= .ay 0 0 n/\ak tm 6=uc c/\out.length=n/\c<=1/\lo 18446744073709551616 out/\
    bv 18446744073709551616 out+18446744073709551616^x.length*c=bv 18446744073709551616 x+bv 18446744073709551616 y/\out.getD x.length 0=0:=by
 refine cR (I:=fun k s=>∃(i c:Nat) (out:List Nat),s=⟨[(0,v),(1,w),(5,.ay 0 0 n),(6,uc c),(21,ab x.length),(22,ab i)],[(0,.cells true true true 1 (out.map uc))],1,0⟩/\i+k=x.length/\out.length=n/\c<=1/\lo 18446744073709551616 out/\
    bv 18446744073709551616 out+18446744073709551616^i*c=bv 18446744073709551616 (x.take i)+bv 18446744073709551616 (y.take i)/\(∀m,i<=m->out.getD m 0=0))
  (Q:=fun ex s'=>∃tm c out,s'=⟨tm,[(0,.cells true true true 1 (out.map uc))],1,0⟩/\ex= .exit 0/\ak tm 0=v/\ak tm 5= .ay 0 0 n/\ak tm 6=uc c/\out.length=n/\c<=1/\lo 18446744073709551616 out/\
    bv 18446744073709551616 out+18446744073709551616^x.length*c=bv 18446744073709551616 x+bv 18446744073709551616 y/\out.getD x.length 0=0) ?_
 rintro k s ⟨i,c,out,rfl,hk,hlen,hc,a8,aM,fB⟩;by_cases hi:i<x.length
 ·left
  have hz:=fB i (yA _);have ll:=as7 (x:=x) (y:=y) (show i<out.length by omega) hz aM;have gx:=gI (show 0<18446744073709551616 by decide) hx i;have gy:=gI (show 0<18446744073709551616 by decide) hy i;have e1:=Ef (P:=P) (f:=D P L) gO gx gy hc;have ex:=hv.bz hi;generalize x.getD i 0=p at*
  by_cases hj:i<y.length
  ·have ey:=hw.bz hj;generalize y.getD i 0=q at*
   simp only [go_sem,ya,yj,D6,hw.len,show (i:Int)<x.length by omega,show (i:Int)<y.length by omega,ex,ey,e1,dD 0 0 (show i<n by omega),yd,kU (l:=out) (o:=i) (by omega)]
   refine ⟨_,k-1,rfl,by omega,i+1,(p+q+c)/18446744073709551616,_,?_,by omega,by simp [hlen],by omega,mC a8 (x:=(p+q+c)%18446744073709551616) (i:=i) (by omega),ll,fun m hm=>?_⟩
   ·rw [wrap64 (by omega) (by omega)];simp only [go_sem,ya,yb,aH,aR hv.pu,aW _ hv.pu,aR hw.pu,aW _ hw.pu]<;>rfl
   ·rw [py (by omega)];exact fB m (by omega)
  ·have gD:y.getD i 0=0:=VZ (by omega);rw [gD] at ll e1;rw [show (uc 0)=AV.int .u64 0 from rfl] at e1
   simp only [go_sem,ya,yj,D6,hw.len,show (i:Int)<x.length by omega,show ¬(i:Int)<y.length by omega,ex,e1,dD 0 0 (show i<n by omega),yd,kU (l:=out) (o:=i) (by omega)]
   refine ⟨_,k-1,rfl,by omega,i+1,(p+0+c)/18446744073709551616,_,?_,by omega,by simp [hlen],by omega,mC a8 (x:=(p+0+c)%18446744073709551616) (i:=i) (by omega),ll,fun m hm=>?_⟩
   ·rw [wrap64 (by omega) (by omega)];simp only [go_sem,ya,yb,aH,aR hv.pu,aW _ hv.pu,aR hw.pu,aW _ hw.pu]<;>rfl
   ·rw [py (by omega)];exact fB m (by omega)
 ·right
  have:i=x.length:=by omega
  subst this;rw [xW,yK ly] at aM;simp only [go_sem,ya,D6,show ¬(x.length:Int)<x.length by omega];exact ⟨_,_,rfl,by simp,_,c,out,rfl,rfl,by simp only [go_sem,ya],by simp only [go_sem,ya],by simp only [go_sem,ya],hlen,hc,a8,aM,fB _ (yA _)⟩
def aDR (h:Has P L 157 LU) (mN:Has P L 166 CA) (gO:L.pure 171=some ol) {v w:AV} {x y:List Nat} (hv:bO v x) (hw:bO w y) (hx:lo 18446744073709551616 x) (hy:lo 18446744073709551616 y) (lx:x.length<=99999999999) (ly:y.length<=99999999999):
  ∃r out,ai P L 157 [v,w] r/\bO r out/\lo 18446744073709551616 out/\gB out/\bv 18446744073709551616 out=bv 18446744073709551616 x+bv 18446744073709551616 y:=by
 have fin:∀{x y o:List Nat} {n c:Nat},n=x.length+1->x.length<=99999999999->o.length=n->c<=1->lo 18446744073709551616 o->bv 18446744073709551616 o+18446744073709551616^x.length*c=bv 18446744073709551616 x+bv 18446744073709551616 y->o.getD x.length 0=0->
   ∃r,bZ P L (D P L) 166 [.ap true n ((o.set x.length c).map uc)]=some r/\bO r (ez (o.set x.length c))/\lo 18446744073709551616 (ez (o.set x.length c))/\gB (ez (o.set x.length c))/\bv 18446744073709551616 (ez (o.set x.length c))=bv 18446744073709551616 x+bv 18446744073709551616 y:=by
  intro x y o n c hn lx hlen hc a8 aM hz;have bf:=ow (b:=18446744073709551616) (l:=o) (i:=x.length) (x:=c) (by omega);rw [hz,xG,yW,aM] at bf;have aDS:lo 18446744073709551616 (o.set x.length c):=mC a8 (by omega);have hf:=ns true (o.set x.length c);rw [List.length_set,hlen] at hf;obtain ⟨r,e1,hr⟩:=CW mN hf (by simp;omega);exact ⟨r,e1,hr,BS aDS,BR _,by rw [BQ];exact bf⟩
 by_cases hl:x.length<y.length
 ·obtain ⟨n,hn⟩:∃n,n=y.length+1:=⟨_,rfl⟩;unfold ai;rw [ax h]
  simp only [go_sem,ya,yb,LU,hv.len,hw.len,show (x.length:Int)<y.length by omega,wrapN (n:=n) (by omega),show (y.length:Int)+1=((y.length+1:Nat):Int) from rfl,<-hn,EY (n:=n) _ (by omega)];generalize hq:D P L (.loop [0,1,5,6,21,22] D6) _=q;obtain ⟨ex,s,rfl,tm,c,o,rfl,rfl,t0,t5,t6,hlen,hc,a8,aM,hz⟩:=cG hq (akU (P:=P) (L:=L) gO hw hv hy hx ly (by omega) hn y.length)
   ⟨0,0,yF n 0,by simp only [go_sem,ya,yb,aH,aR hv.pu,aW _ hv.pu,aR hw.pu,aW _ hw.pu]<;>rfl,by omega,by simp,by omega,GL (by decide) n,by rw [GM];simp [bv],fun m _=>DY n m⟩
  obtain ⟨r,e1,hr,f1,f2,f3⟩:=fin hn ly hlen hc a8 aM hz;refine ⟨r,_,?_,hr,f1,f2,by rw [f3];omega⟩
  simp only [go_sem,ya,yj,aH,aR hw.pu,aW _ hw.pu,hw.len,t0,t5,t6,dD 0 0 (show y.length<n by omega),yd,kU (l:=o) (o:=y.length) (by omega)]
  simp only [go_sem,CV _ (n:=n) (l:=o.set y.length c) (by simp [hlen]) true,e1,hr.shut,hr.dU]
 ·obtain ⟨n,hn⟩:∃n,n=x.length+1:=⟨_,rfl⟩;unfold ai;rw [ax h]
  simp only [go_sem,ya,yb,LU,hv.len,hw.len,show ¬(x.length:Int)<y.length by omega,wrapN (n:=n) (by omega),show (x.length:Int)+1=((x.length+1:Nat):Int) from rfl,<-hn,EY (n:=n) _ (by omega)];generalize hq:D P L (.loop [0,1,5,6,21,22] D6) _=q;obtain ⟨ex,s,rfl,tm,c,o,rfl,rfl,t0,t5,t6,hlen,hc,a8,aM,hz⟩:=cG hq (akU (P:=P) (L:=L) gO hv hw hx hy lx (by omega) hn x.length)
   ⟨0,0,yF n 0,by simp only [go_sem,ya,yb,aH,aR hv.pu,aW _ hv.pu,aR hw.pu,aW _ hw.pu]<;>rfl,by omega,by simp,by omega,GL (by decide) n,by rw [GM];simp [bv],fun m _=>DY n m⟩
  obtain ⟨r,e1,hr,f1,f2,f3⟩:=fin hn lx hlen hc a8 aM hz;refine ⟨r,_,?_,hr,f1,f2,f3⟩
  simp only [go_sem,ya,yj,aH,aR hv.pu,aW _ hv.pu,hv.len,t0,t5,t6,dD 0 0 (show x.length<n by omega),yd,kU (l:=o) (o:=x.length) (by omega)]
  simp only [go_sem,CV _ (n:=n) (l:=o.set x.length c) (by simp [hlen]) true,e1,hr.shut,hr.dU]
end
end
section
open Go (IntKind)
def as9 {b:Nat} {out:List Nat} {p j c t o x y Y bo ba:Nat} (ho:o=out.getD j 0) (hj:j<out.length) (ht:t=o+x*y+c) (hv:bo+p*c=ba+p*(x*Y)) (hb:bo=bv b out) (hp:p=b^j):
  bv b (out.set j (t%b))+p*b*(t/b)=ba+p*(x*(Y+0))+p*(x*y):=by
 have h1:=ow (b:=b) (x:=t%b) hj;have h2:=On p b t
 grind
section
variable {P:aJ} {L:Lib}
def Vi {x y c:Nat} (hx:x<18446744073709551616) (hy:y<18446744073709551616) (hc:c<=1):
  (x+18446744073709551616*2-y-c)%18446744073709551616+y+c=x+18446744073709551616*(if y+c<=x then 0 else 1):=by grind
def aAQ (sN:L.pure 173=some Ca) {v w:AV} {x y:List Nat} (hv:bO v x) (hw:bO w y) (hx:lo 18446744073709551616 x) (hy:lo 18446744073709551616 y) (lx:x.length<=99999999999) (ly:y.length<=x.length) (hle:bv 18446744073709551616 y<=bv 18446744073709551616 x) {n:Nat} (hn:n=x.length):
  ∀k s,(∃(i c:Nat) (out:List Nat),bS [0,1,5,6,13,14] s=⟨[(0,v),(1,w),(5,.ay 0 0 n),(6,uc c),(13,ab x.length),(14,ab i)],[(0,.cells true true true 1 (out.map uc))],1,0⟩/\i+k=x.length/\out.length=n/\c<=1/\lo 18446744073709551616 out/\
    bv 18446744073709551616 out+bv 18446744073709551616 (y.take i)=bv 18446744073709551616 (x.take i)+18446744073709551616^i*c/\(∀m,i<=m->out.getD m 0=0))->
   ∃ex s',D P L (.loop [0,1,5,6,13,14] Gy) s=some (ex,s')/\∃tm out,s'=⟨tm,[(0,.cells true true true 1 (out.map uc))],1,0⟩/\ex= .exit 0/\ak tm 5= .ay 0 0 n/\out.length=n/\lo 18446744073709551616 out/\
    bv 18446744073709551616 out+bv 18446744073709551616 y=bv 18446744073709551616 x:=by
 refine cR (I:=fun k s=>∃(i c:Nat) (out:List Nat),s=⟨[(0,v),(1,w),(5,.ay 0 0 n),(6,uc c),(13,ab x.length),(14,ab i)],[(0,.cells true true true 1 (out.map uc))],1,0⟩/\i+k=x.length/\out.length=n/\c<=1/\lo 18446744073709551616 out/\
    bv 18446744073709551616 out+bv 18446744073709551616 (y.take i)=bv 18446744073709551616 (x.take i)+18446744073709551616^i*c/\(∀m,i<=m->out.getD m 0=0))
  (Q:=fun ex s'=>∃tm out,s'=⟨tm,[(0,.cells true true true 1 (out.map uc))],1,0⟩/\ex= .exit 0/\ak tm 5= .ay 0 0 n/\out.length=n/\lo 18446744073709551616 out/\
    bv 18446744073709551616 out+bv 18446744073709551616 y=bv 18446744073709551616 x) ?_
 rintro k s ⟨i,c,out,rfl,hk,hlen,hc,a8,aM,fB⟩;by_cases hi:i<x.length
 ·left
  have hz:=fB i (yA _);have gx:=gI (show 0<18446744073709551616 by decide) hx i;have gy:=gI (show 0<18446744073709551616 by decide) hy i;have Td:=Vi gx gy hc;have ll:=as8 (x:=x) (y:=y) (show i<out.length by omega) hz Td aM;have e1:=V4 (P:=P) (f:=D P L) sN gx gy hc;have ex:=hv.bz hi;generalize x.getD i 0=p at*
  have qP:(if y.getD i 0+c<=p then 0 else 1)<=1:=by split<;>omega
  by_cases hj:i<y.length
  ·have ey:=hw.bz hj;generalize y.getD i 0=q at*
   generalize (if q+c<=p then 0 else 1)=c1 at*
   simp only [go_sem,ya,xT,yj,Gy,hw.len,show (i:Int)<x.length by omega,show (i:Int)<y.length by omega,ex,ey,e1,dD 0 0 (show i<n by omega),yd,kU (l:=out) (o:=i) (by omega)]
   refine ⟨_,k-1,rfl,by omega,i+1,c1,_,?_,by omega,by simp [hlen],qP,mC a8 (x:=(p+18446744073709551616*2-q-c)%18446744073709551616) (i:=i) (by omega),ll,fun m hm=>?_⟩
   ·rw [wrap64 (by omega) (by omega)];simp only [go_sem,ya,yb,xT,aH,aR hv.pu,aW _ hv.pu,aR hw.pu,aW _ hw.pu]<;>rfl
   ·rw [py (by omega)];exact fB m (by omega)
  ·have gD:y.getD i 0=0:=VZ (by omega);rw [gD] at ll e1 qP;rw [show (uc 0)=AV.int .u64 0 from rfl] at e1;generalize (if 0+c<=p then 0 else 1)=c1 at*
   simp only [go_sem,ya,xT,yj,Gy,hw.len,show (i:Int)<x.length by omega,show ¬(i:Int)<y.length by omega,ex,e1,dD 0 0 (show i<n by omega),yd,kU (l:=out) (o:=i) (by omega)]
   refine ⟨_,k-1,rfl,by omega,i+1,c1,_,?_,by omega,by simp [hlen],qP,mC a8 (x:=(p+18446744073709551616*2-0-c)%18446744073709551616) (i:=i) (by omega),ll,fun m hm=>?_⟩
   ·rw [wrap64 (by omega) (by omega)];simp only [go_sem,ya,yb,xT,aH,aR hv.pu,aW _ hv.pu,aR hw.pu,aW _ hw.pu]<;>rfl
   ·rw [py (by omega)];exact fB m (by omega)
 ·right
  have:i=x.length:=by omega
  subst this;rw [xW,yK ly] at aM;have aZ:=mG a8;rw [hlen,hn] at aZ;simp only [go_sem,ya,Gy,show ¬(x.length:Int)<x.length by omega];refine ⟨_,_,rfl,by simp,_,out,rfl,rfl,by simp only [go_sem,ya],hlen,a8,?_⟩;rcases (show c=0\/c=1 by omega) with rfl | rfl
  ·omega
  ·omega
def ane (h:Has P L 159 Qo) (mN:Has P L 166 CA) (sN:L.pure 173=some Ca) {v w:AV} {x y:List Nat} (hv:bO v x) (hw:bO w y) (hx:lo 18446744073709551616 x) (hy:lo 18446744073709551616 y) (ny:gB y) (lx:x.length<=99999999999) (hle:bv 18446744073709551616 y<=bv 18446744073709551616 x):
  ∃r out,ai P L 159 [v,w] r/\bO r out/\lo 18446744073709551616 out/\gB out/\bv 18446744073709551616 out+bv 18446744073709551616 y=bv 18446744073709551616 x:=by
 have ly:y.length<=x.length:=by
  by_cases hh:x.length<y.length
  ·have:=O8 (b:=18446744073709551616) (by decide) hx ny hh
   omega
  ·omega
 obtain ⟨n,hn⟩:∃n,n=x.length:=⟨_,rfl⟩;unfold ai;rw [ax h]
 simp only [go_sem,ya,yb,Qo,hv.len,<-hn,EY (n:=n) _ (by omega)];generalize hq:D P L (.loop [0,1,5,6,13,14] Gy) _=q;obtain ⟨ex,s,rfl,tm,o,rfl,rfl,t5,hlen,a8,aM⟩:=cG hq (aAQ (P:=P) (L:=L) sN hv hw hx hy lx ly hle hn x.length)
  ⟨0,0,yF n 0,by rw [hn];simp only [go_sem,ya,yb,aH,aR hv.pu,aW _ hv.pu,aR hw.pu,aW _ hw.pu]<;>rfl,by omega,by simp,by omega,GL (by decide) n,by rw [GM];simp [bv],fun m _=>DY n m⟩
 have hf:=ns true o;rw [hlen] at hf;obtain ⟨r,e1,hr⟩:=CW mN hf (by omega);refine ⟨r,_,?_,hr,BS a8,BR _,by rw [BQ];exact aM⟩
 simp only [go_sem,yb,aH,t5,CV _ (n:=n) (l:=o) hlen true,e1,hr.shut,hr.dU]
def avf {x y o c:Nat} (hx:x<18446744073709551616) (hy:y<18446744073709551616) (ho:o<18446744073709551616) (hc:c<18446744073709551616):
  o+x*y+c<18446744073709551616*18446744073709551616/\
  ((x*y%18446744073709551616+o+0)%18446744073709551616+c+0)%18446744073709551616=(o+x*y+c)%18446744073709551616/\
  x*y/18446744073709551616+(x*y%18446744073709551616+o+0)/18446744073709551616+((x*y%18446744073709551616+o+0)%18446744073709551616+c+0)/18446744073709551616=(o+x*y+c)/18446744073709551616:=by
 have h1:=ve (show x<=18446744073709551615 by omega) (show y<=18446744073709551615 by omega)
 grind
def aAR (mO:L.pure 143=some sr) (gO:L.pure 171=some ol) {v w:AV} {x y:List Nat} (hv:bO v x) (hw:bO w y) (hx:lo 18446744073709551616 x) (hy:lo 18446744073709551616 y) (lx:x.length<=49999999999) (ly:y.length<=49999999999) {n i:Nat} (hn:n=x.length+y.length) (hi:i<x.length) {a:Nat} (ha:a<18446744073709551616) {bo:Nat}:
  ∀k s,(∃(j c:Nat) (out:List Nat),bS [1,5,6,7,8,20,21,22,27,28,29] s=⟨[(1,w),(5,.ay 0 0 n),(6,ab i),(7,uc a),(8,uc c),(20,v),(21,ab x.length),(22,ab i),(27,w),(28,ab y.length),(29,ab j)],[(0,.cells true true true 1 (out.map uc))],1,0⟩/\j+k=y.length/\out.length=n/\c<18446744073709551616/\lo 18446744073709551616 out/\
    bv 18446744073709551616 out+18446744073709551616^(i+j)*c=bo+18446744073709551616^i*(a*bv 18446744073709551616 (y.take j))/\(∀m,i+y.length<=m->out.getD m 0=0))->
   ∃ex s',D P L (.loop [1,5,6,7,8,20,21,22,27,28,29] KU) s=some (ex,s')/\∃tm c out,s'=⟨tm,[(0,.cells true true true 1 (out.map uc))],1,0⟩/\ex= .exit 2/\ak tm 1=w/\ak tm 5= .ay 0 0 n/\ak tm 6=ab i/\ak tm 8=uc c/\ak tm 20=v/\ak tm 21=ab x.length/\ak tm 22=ab i/\out.length=n/\c<18446744073709551616/\lo 18446744073709551616 out/\
    bv 18446744073709551616 out+18446744073709551616^(i+y.length)*c=bo+18446744073709551616^i*(a*bv 18446744073709551616 y)/\(∀m,i+y.length<=m->out.getD m 0=0):=by
 refine cR (I:=fun k s=>∃(j c:Nat) (out:List Nat),s=⟨[(1,w),(5,.ay 0 0 n),(6,ab i),(7,uc a),(8,uc c),(20,v),(21,ab x.length),(22,ab i),(27,w),(28,ab y.length),(29,ab j)],[(0,.cells true true true 1 (out.map uc))],1,0⟩/\j+k=y.length/\out.length=n/\c<18446744073709551616/\lo 18446744073709551616 out/\
    bv 18446744073709551616 out+18446744073709551616^(i+j)*c=bo+18446744073709551616^i*(a*bv 18446744073709551616 (y.take j))/\(∀m,i+y.length<=m->out.getD m 0=0))
  (Q:=fun ex s'=>∃tm c out,s'=⟨tm,[(0,.cells true true true 1 (out.map uc))],1,0⟩/\ex= .exit 2/\ak tm 1=w/\ak tm 5= .ay 0 0 n/\ak tm 6=ab i/\ak tm 8=uc c/\ak tm 20=v/\ak tm 21=ab x.length/\ak tm 22=ab i/\out.length=n/\c<18446744073709551616/\lo 18446744073709551616 out/\
    bv 18446744073709551616 out+18446744073709551616^(i+y.length)*c=bo+18446744073709551616^i*(a*bv 18446744073709551616 y)/\(∀m,i+y.length<=m->out.getD m 0=0)) ?_
 rintro k s ⟨j,c,out,rfl,hk,hlen,hc,a8,aM,fB⟩;by_cases hj:j<y.length
 ·left
  have Dl:(0:Nat)<18446744073709551616:=by decide
  have gy:=gI Dl hy j;have nX:=gI Dl a8 (i+j);have ey:=hw.bz hj;have e3:=Ak (l:=out) (o:=i+j) (by omega);obtain ⟨q,hq⟩:∃q,q=y.getD j 0:=⟨_,rfl⟩;obtain ⟨o,ho⟩:∃o,o=out.getD (i+j) 0:=⟨_,rfl⟩;rw [<-hq] at gy ey;rw [<-ho] at nX e3;obtain ⟨m1,m2,m3⟩:=avf ha gy nX hc;have hpy:a*q<18446744073709551616*18446744073709551616:=by omega
  have f1:=PA (P:=P) (f:=D P L) mO ha gy;have f2:=Ef (P:=P) (f:=D P L) gO (x:=a*q%18446744073709551616) (y:=o) (c:=0) (xr _ Dl) nX (by omega);have f3:=Ef (P:=P) (f:=D P L) gO (x:=(a*q%18446744073709551616+o+0)%18446744073709551616) (y:=c) (c:=0) (xr _ Dl) hc (by omega);obtain ⟨t,ht⟩:∃t,t=o+a*q+c:=⟨_,rfl⟩;have ll:=as9 (b:=18446744073709551616) (out:=out) (p:=18446744073709551616^(i+j)) (j:=i+j) (c:=c) (t:=t) (x:=a) (y:=q) (Y:=0) (ba:=bo+18446744073709551616^i*(a*bv 18446744073709551616 (y.take j))) ho (by omega) ht (by simpa using aM) rfl rfl;rw [m2,<-ht] at f3;rw [<-ht] at m1 m3;obtain ⟨d1,kP⟩:∃d,d=(a*q%18446744073709551616+o+0)/18446744073709551616:=⟨_,rfl⟩;obtain ⟨d2,hZ⟩:∃d,d=((a*q%18446744073709551616+o+0)%18446744073709551616+c+0)/18446744073709551616:=⟨_,rfl⟩;rw [<-kP] at f2 m3;rw [<-hZ] at f3 m3
  rw [show (uc 0)=AV.int .u64 0 from rfl] at f2 f3;obtain ⟨h1,jj⟩:∃d,d=a*q/18446744073709551616:=⟨_,rfl⟩;rw [<-jj] at f1 m3;have nS:h1+d1<18446744073709551616:=by omega
  have Bj:h1+d1+d2<18446744073709551616:=by omega
  simp only [go_sem,ya,yj,KU,show (j:Int)<y.length by omega,ey,f1,wrapN (n:=i+j) (by omega),show (i:Int)+(j:Int)=((i+j:Nat):Int) from rfl,dD 0 0 (show i+j<n by omega),yd,e3,f2,f3,show (h1:Int)+(d1:Int)=((h1+d1:Nat):Int) from rfl,alG nS,show ((h1+d1:Nat):Int)+(d2:Int)=((h1+d1+d2:Nat):Int) from rfl,alG Bj,kU (l:=out) (o:=i+j) (by omega)]
  refine ⟨_,k-1,rfl,by omega,j+1,h1+d1+d2,_,?_,by omega,by simp [hlen],Bj,mC a8 (x:=t%18446744073709551616) (i:=i+j) (xr _ Dl),?_,fun m hm=>?_⟩
  ·rw [wrap64 (by omega) (by omega)];simp only [go_sem,ya,yb,aH,aR hv.pu,aW _ hv.pu,aR hw.pu,aW _ hw.pu]<;>rfl
  ·rw [m3,show i+(j+1)=i+j+1 by omega,xh,jw,<-hq,xz a,xz (18446744073709551616^i)];simp only [xG,yW] at ll;rw [ll,xO,<-Nat.add_assoc,xo (18446744073709551616^i),<-xo a,xB a (18446744073709551616^j),xo]
  ·rw [py (by omega)];exact fB m hm
 ·right
  have:j=y.length:=by omega
  subst this;rw [xW] at aM;simp only [go_sem,ya,KU,show ¬(y.length:Int)<y.length by omega];exact ⟨_,_,rfl,by simp,_,c,out,rfl,rfl,by simp only [go_sem,ya],by simp only [go_sem,ya],by simp only [go_sem,ya],by simp only [go_sem,ya],by simp only [go_sem,ya],by simp only [go_sem,ya],by simp only [go_sem,ya],hlen,hc,a8,aM,fB⟩
def aAS (mO:L.pure 143=some sr) (gO:L.pure 171=some ol) {v w:AV} {x y:List Nat} (hv:bO v x) (hw:bO w y) (hx:lo 18446744073709551616 x) (hy:lo 18446744073709551616 y) (lx:x.length<=49999999999) (ly:y.length<=49999999999) {n:Nat} (hn:n=x.length+y.length):
  ∀k s,(∃(i:Nat) (out:List Nat),bS [1,5,20,21,22] s=⟨[(1,w),(5,.ay 0 0 n),(20,v),(21,ab x.length),(22,ab i)],[(0,.cells true true true 1 (out.map uc))],1,0⟩/\i+k=x.length/\out.length=n/\lo 18446744073709551616 out/\
    bv 18446744073709551616 out=bv 18446744073709551616 (x.take i)*bv 18446744073709551616 y/\(∀m,i+y.length<=m->out.getD m 0=0))->
   ∃ex s',D P L (.loop [1,5,20,21,22] KV) s=some (ex,s')/\∃tm out,s'=⟨tm,[(0,.cells true true true 1 (out.map uc))],1,0⟩/\ex= .exit 0/\ak tm 5= .ay 0 0 n/\out.length=n/\lo 18446744073709551616 out/\
    bv 18446744073709551616 out=bv 18446744073709551616 x*bv 18446744073709551616 y:=by
 refine cR (I:=fun k s=>∃(i:Nat) (out:List Nat),s=⟨[(1,w),(5,.ay 0 0 n),(20,v),(21,ab x.length),(22,ab i)],[(0,.cells true true true 1 (out.map uc))],1,0⟩/\i+k=x.length/\out.length=n/\lo 18446744073709551616 out/\
    bv 18446744073709551616 out=bv 18446744073709551616 (x.take i)*bv 18446744073709551616 y/\(∀m,i+y.length<=m->out.getD m 0=0))
  (Q:=fun ex s'=>∃tm out,s'=⟨tm,[(0,.cells true true true 1 (out.map uc))],1,0⟩/\ex= .exit 0/\ak tm 5= .ay 0 0 n/\out.length=n/\lo 18446744073709551616 out/\
    bv 18446744073709551616 out=bv 18446744073709551616 x*bv 18446744073709551616 y) ?_
 rintro k s ⟨i,out,rfl,hk,hlen,a8,aM,fB⟩;by_cases hi:i<x.length
 ·left
  have gx:=gI (show 0<18446744073709551616 by decide) hx i;have ex:=hv.bz hi;obtain ⟨a,ha⟩:∃a,a=x.getD i 0:=⟨_,rfl⟩;simp only [go_sem,ya,KV,hw.len,show (i:Int)<x.length by omega,ex];generalize hq:D P L (.loop [1,5,6,7,8,20,21,22,27,28,29] KU) _=q;obtain ⟨ex,s,rfl,tm,c,sO,rfl,rfl,t1,t5,t6,t8,t20,t21,t22,WA,hc,aDT,WB,MC⟩:=cG hq (aAR (P:=P) (L:=L) mO gO hv hw hx hy lx ly hn hi gx (bo:=bv 18446744073709551616 out) y.length)
   ⟨0,0,out,by simp only [go_sem,ya,yb,aH,aR hv.pu,aW _ hv.pu,aR hw.pu,aW _ hw.pu]<;>rfl,by omega,hlen,by decide,a8,by simp [bv],fB⟩
  have hz:sO.getD (i+y.length) 0=0:=MC _ (yA _);have bf:=ow (b:=18446744073709551616) (l:=sO) (i:=i+y.length) (x:=c) (by omega);rw [hz,xG,yW,WB] at bf
  simp only [go_sem,ya,yj,aH,t1,t5,t6,t8,t20,t21,t22,hw.len,aR hv.pu,aW _ hv.pu,aR hw.pu,aW _ hw.pu,wrapN (n:=i+y.length) (by omega),show (i:Int)+(y.length:Int)=((i+y.length:Nat):Int) from rfl,dD 0 0 (show i+y.length<n by omega),yd,kU (l:=sO) (o:=i+y.length) (by omega)];refine ⟨_,k-1,rfl,by omega,i+1,sO.set (i+y.length) c,?_,by omega,by simp [WA],mC aDT hc,?_,fun m hm=>?_⟩
  ·rw [wrap64 (by omega) (by omega)];simp only [go_sem,ya,yb,aH,aR hv.pu,aW _ hv.pu,aR hw.pu,aW _ hw.pu]<;>rfl
  ·rw [bf,aM,jw,wL,<-ha,xo]
  ·rw [py (by omega)];exact MC m (by omega)
 ·right
  have:i=x.length:=by omega
  subst this;rw [xW] at aM;simp only [go_sem,ya,KV,show ¬(x.length:Int)<x.length by omega];exact ⟨_,_,rfl,by simp,_,out,rfl,rfl,by simp only [go_sem,ya],hlen,a8,aM⟩
def aDU (h:Has P L 144 Ql) (mN:Has P L 166 CA) (mO:L.pure 143=some sr) (gO:L.pure 171=some ol) {v w:AV} {x y:List Nat} (hv:bO v x) (hw:bO w y) (hx:lo 18446744073709551616 x) (hy:lo 18446744073709551616 y) (lx:x.length<=49999999999) (ly:y.length<=49999999999):
  ∃r out,ai P L 144 [v,w] r/\bO r out/\lo 18446744073709551616 out/\gB out/\bv 18446744073709551616 out=bv 18446744073709551616 x*bv 18446744073709551616 y:=by
 obtain ⟨n,hn⟩:∃n,n=x.length+y.length:=⟨_,rfl⟩;unfold ai;rw [ax h]
 simp only [go_sem,ya,yb,Ql,hv.len,hw.len,wrapN (n:=n) (by omega),show (x.length:Int)+(y.length:Int)=((x.length+y.length:Nat):Int) from rfl,<-hn,EY (n:=n) _ (by omega)];generalize hq:D P L (.loop [1,5,20,21,22] KV) _=q;obtain ⟨ex,s,rfl,tm,o,rfl,rfl,t5,hlen,a8,aM⟩:=cG hq (aAS (P:=P) (L:=L) mO gO hv hw hx hy lx ly hn x.length)
  ⟨0,yF n 0,by simp only [go_sem,ya,yb,aH,aR hv.pu,aW _ hv.pu,aR hw.pu,aW _ hw.pu]<;>rfl,by omega,by simp,GL (by decide) n,by rw [GM];simp [bv],fun m _=>DY n m⟩
 have hf:=ns true o;rw [hlen] at hf;obtain ⟨r,e1,hr⟩:=CW mN hf (by omega);refine ⟨r,_,?_,hr,BS a8,BR _,by rw [BQ];exact aM⟩
 simp only [go_sem,yb,aH,t5,CV _ (n:=n) (l:=o) hlen true,e1,hr.shut,hr.dU]
end
end
section
open Go (IntKind)
def P0 (n:Int):IntKind.wrap .u64 n=n%18446744073709551616:=by
 simp [IntKind.wrap,IntKind.signed,IntKind.bits]
def wrapM (n:Nat):IntKind.wrap .u64 (n:Int)=((n%18446744073709551616:Nat):Int):=by rw [P0];omega
def p7 (a b:Nat):binOp .mul (uc a) (uc b)=some (uc (a*b%18446744073709551616)):=by
 rw [ajM,<-xE,wrapM]
def Cq (a b:Nat):binOp .add (uc a) (uc b)=some (uc ((a+b)%18446744073709551616)):=by
 rw [ajL,<-Int.natCast_add,wrapM]
def EZ {a b c:Nat} (h:(a+18446744073709551616-b)%18446744073709551616=c) (hb:b<=18446744073709551616):binOp .sub (uc a) (uc b)=some (uc c):=by
 rw [O9,P0]
 grind
def aAT (k k':yV) (a b:Int):binOp .shl (.int k a) (.int k' b)=DV .shl k a b:=rfl
def aAU (k k':yV) (a b:Int):binOp .shr (.int k a) (.int k' b)=DV .shr k a b:=rfl
def MD (k:yV) (a:Nat) {s:Nat} (hs:s<=64):binOp .shl (.int .u64 (a:Int)) (.int k (s:Int))=some (uc (a*2^s%18446744073709551616)):=by
 rw [aAT];simp only [DV,yp (show ¬(s:Int)<0 by omega),xC,IntKind.bits,xP hs];rw [show ((2:Int)^s)=((2^s:Nat):Int) by simp,<-xE,wrapM]
def ME (k:yV) (a:Nat) {s:Nat} (hs:s<=64):binOp .shr (.int .u64 (a:Int)) (.int k (s:Int))=some (uc (a/2^s)):=by
 rw [aAU];simp only [DV,yp (show ¬(s:Int)<0 by omega),xC,IntKind.bits,xP hs]
 grind
def anf (a:Nat):binOp .and (.int .u64 (a:Int)) (.int .u64 4294967295)=some (uc (a%4294967296)):=by
 show some (AV.int .u64 (IntKind.wrap .u64 ((xI 64 (a:Int)&&&xI 64 4294967295).toNat:Int)))=_
 rw [show xI 64 (a:Int)=uh 64 a from ui 64 a,show xI 64 4294967295=uh 64 4294967295 from rfl];rw [BitVec.toNat_and,vh,vh,show (4294967295%2^64:Nat)=2^32-1 from rfl,Nat.and_two_pow_sub_one_eq_mod,wrapM]
 grind
def orU {a b:Nat} (ha:a<18446744073709551616) (hb:b<18446744073709551616):binOp .or (.int .u64 (a:Int)) (.int .u64 (b:Int))=some (uc (a|||b)):=by
 show some (AV.int .u64 (IntKind.wrap .u64 ((xI 64 (a:Int)|||xI 64 (b:Int)).toNat:Int)))=_
 congr 2
 rw [show xI 64 (a:Int)=uh 64 a from ui 64 a,show xI 64 (b:Int)=uh 64 b from ui 64 b];rw [BitVec.toNat_or,vh,vh,yP (show a<2^64 from ha),yP (show b<2^64 from hb),wrapM]
 have:a|||b<2^64:=Nat.or_lt_two_pow ha hb
 omega
def V5 {p s c:Nat} (h:c<2^s):(p*2^s)|||c=p*2^s+c:=by
 rw [<-Nat.shiftLeft_eq,<-Nat.shiftLeft_add_eq_or_of_lt h]
def aeY:∀(f n:Nat),n<2^f->eU f n<=f/\n<2^eU f n/\(0<n->0<eU f n/\2^(eU f n-1)<=n)
 | 0,n,h=>by simp [eU];simpa using h
 | f+1,n,h=>by
  simp only [eU];by_cases h0:n=0
  ·simp_all
  ·rw [ig h0,yM];obtain ⟨h1,h2,h3⟩:=aeY f (n/2) (by omega);refine ⟨by omega,?_,fun _=>⟨by omega,?_⟩⟩
   ·grind
   ·rw [Nat.add_sub_cancel_left];by_cases hn:0<n/2
    ·obtain ⟨h4,h5⟩:=h3 hn;obtain ⟨m,hm⟩:∃m,eU f (n/2)=m+1:=⟨eU f (n/2)-1,by omega⟩
     grind
    ·have hz:n/2=0:=by omega
     have:eU f 0=0:=by cases f with
      | zero=>rfl
      | succ f=>rfl
     grind
def Vj {y:Nat} (h0:0<y) (h:y<18446744073709551616):64-eU 64 y<64/\9223372036854775808<=y*2^(64-eU 64 y)/\y*2^(64-eU 64 y)<18446744073709551616:=by
 obtain ⟨h1,h2,h3⟩:=aeY 64 y h;obtain ⟨h4,h5⟩:=h3 h0;generalize eU 64 y=k at*
 refine ⟨by omega,?_,?_⟩
 ·have:=yY (2^(64-k)) h5
  rw [<-xO,show k-1+(64-k)=63 by omega] at this;exact this
 ·have:=Nat.mul_lt_mul_of_pos_right h2 (Nat.two_pow_pos (64-k))
  rw [<-xO,show k+(64-k)=64 by omega] at this;exact this
section
variable {P:aJ} {L:Lib} {f:cN}
def akV (h:L.pure 167=some GY) {x:Nat} (hx:x<18446744073709551616):bZ P L f 167 [uc x]=some (ab (64-eU 64 x:Nat)):=by
 rw [jt h];show (bif yL x 18446744073709551616 then _ else none)=_
 rw [lk hx];rfl
def ata {b v1 v2 u u2 t r:Nat} (dM:v2<b) (kS:t<b) (ht:t*v1+r=u) (h:b<=r\/t*v2<=b*r+u2):t*(v1*b+v2)<=u*b+u2:=by
 have h2:t*v2<=b*r+u2:=by
  rcases h with h | h
  ·have:=ve (uB kS) (uB dM)
   have:=yT b h
   omega
  ·exact h
 rw [xz,<-xo,<-ht,wL,xB r b];omega
def aCJ (n:Nat):oB (.toInt .u64) (.int .i64 (n:Int))=some (uc (n%18446744073709551616)):=by
 show some (AV.int .u64 (IntKind.wrap .u64 (n:Int)))=_
 rw [wrapM]
def aer {y v1 v2 u u2 q r:Nat} (hy:y=v1*4294967296+v2) (dM:v2<4294967296) (II:0<v1) (fg:v1<4294967296) (hu:u<y) (Bn:u2<4294967296) (hq:q*v1+r=u) (hr:r<4294967296) (hQ:(u*4294967296+u2)/y<=q):
  (4294967296<=q\/4294967296*r+u2<q*v2->0<q/\(q-1)*v1+(r+v1)=u/\(u*4294967296+u2)/y<=q-1/\(4294967296<=r+v1->(u*4294967296+u2)/y=q-1))/\
  (¬4294967296<=q->q*v2<=4294967296*r+u2->(u*4294967296+u2)/y=q):=by
 have gD:0<y:=by omega
 have Tf:∀t s,t*v1+s=u->4294967296<=t->s<4294967296:=fun t s h1 h2=>by
  have:=yY v1 h2
  grind
 have akW:∀t s,t*v1+s=u->t<4294967296->(4294967296<=s\/t*v2<=4294967296*s+u2)->(u*4294967296+u2)/y<=t->(u*4294967296+u2)/y=t:=fun t s h1 h2 h3 h4=>by
  have:=ata dM h2 h1 h3
  rw [<-hy] at this
  have:=(Nat.le_div_iff_mul_le gD).2 this
  omega
 constructor
 ·intro h;have Bo:0<q:=by
   grind
  have h1:(q-1)*v1+(r+v1)=u:=by
   obtain ⟨p,rfl⟩:∃p,q=p+1:=⟨q-1,by omega⟩
   grind
  have h2:(u*4294967296+u2)/y<=q-1:=by
   have aZ:u*4294967296+u2<q*y:=by
    rcases h with h | h
    ·have h3:u*4294967296+u2<4294967296*y:=by omega
     exact yO h3 (yY y h)
    ·rw [hy,xz,<-xo,<-hq,wL,xB r];omega
   have:=(Nat.div_lt_iff_lt_mul gD).2 aZ
   omega
  exact ⟨Bo,h1,h2,fun h3=>akW _ _ h1 (by
   by_cases hb:4294967296<=q-1
   ·have:=Tf _ _ h1 hb;omega
   ·omega) (.inl h3) h2⟩
 ·intro h1 h2;exact akW q r hq (by omega) (.inr h2) hQ
def aAV {y s v1 v2 u u2 z:Nat} (hy:y=v1*4294967296+v2) (dM:v2<4294967296) (II:0<v1) (fg:v1<4294967296) (hu:u<y) (Bn:u2<4294967296):
  ∀k st,(∃q r:Nat,bS [2,8,9,10,11,13,14,15,16] st=⟨[(2,uc y),(8,uc s),(9,uc v1),(10,uc v2),(11,uc u),(13,uc u2),(14,uc z),(15,uc q),(16,uc r)],[],0,0⟩/\q*v1+r=u/\r<4294967296/\(u*4294967296+u2)/y<=q/\q=k)->
   ∃ex st',D P L (.loop [2,8,9,10,11,13,14,15,16] Cb) st=some (ex,st')/\∃tm ct,st'=⟨tm,[],ct,0⟩/\ex= .exit 0/\ak tm 2=uc y/\ak tm 8=uc s/\ak tm 9=uc v1/\ak tm 10=uc v2/\ak tm 11=uc u/\ak tm 13=uc u2/\ak tm 14=uc z/\ak tm 15=uc ((u*4294967296+u2)/y):=by
 refine cR (I:=fun k st=>∃q r:Nat,st=⟨[(2,uc y),(8,uc s),(9,uc v1),(10,uc v2),(11,uc u),(13,uc u2),(14,uc z),(15,uc q),(16,uc r)],[],0,0⟩/\q*v1+r=u/\r<4294967296/\(u*4294967296+u2)/y<=q/\q=k)
  (Q:=fun ex st'=>∃tm ct,st'=⟨tm,[],ct,0⟩/\ex= .exit 0/\ak tm 2=uc y/\ak tm 8=uc s/\ak tm 9=uc v1/\ak tm 10=uc v2/\ak tm 11=uc u/\ak tm 13=uc u2/\ak tm 14=uc z/\ak tm 15=uc ((u*4294967296+u2)/y)) ?_
 rintro k st ⟨q,r,rfl,hq,hr,hQ,rfl⟩;obtain ⟨g1,g2⟩:=aer hy dM II fg hu Bn hq hr hQ;have hqb:q*1<=q*v1:=yT q II;have aDV:=yY 4294967296 (show v1<=4294967295 by omega);have oY:q<18446744073709551616:=by omega
 have hbr:=yT 4294967296 (show r<=4294967295 by omega);have e1:=p7 4294967296 r;rw [show uc 4294967296=AV.int .u64 4294967296 from rfl,yP (show 4294967296*r<18446744073709551616 by omega)] at e1;have e2:=Cq (4294967296*r) u2;rw [yP (show 4294967296*r+u2<18446744073709551616 by omega)] at e2;have e4:=Cq r v1;rw [yP (show r+v1<18446744073709551616 by omega)] at e4;by_cases hc:4294967296<=q\/4294967296*r+u2<q*v2
 ·obtain ⟨h0,h1,h2,h3⟩:=g1 hc;have e3:binOp .sub (uc q) (.int .u64 1)=some (uc (q-1)):=EZ (b:=1) (by omega) (by omega);by_cases hb:4294967296<=r+v1
  ·right
   have Bp:=h3 hb;rcases (show 4294967296<=q\/(¬4294967296<=q/\4294967296*r+u2<q*v2) by omega) with t1 | ⟨t1,t2⟩
   ·simp only [go_sem,ya,Cb,show (4294967296:Int)<=(q:Int) by omega,e3,e4,show (4294967296:Int)<=((r+v1:Nat):Int) by omega];exact ⟨_,_,rfl,by simp,_,_,rfl,rfl,by simp only [go_sem,ya],by simp only [go_sem,ya],by simp only [go_sem,ya],by simp only [go_sem,ya],by simp only [go_sem,ya],by simp only [go_sem,ya],by simp only [go_sem,ya],by rw [Bp];simp only [go_sem,ya]⟩
   ·have hqv:=ve (show q<=4294967295 by omega) (show v2<=4294967295 by omega);have e5:=p7 q v2;rw [yP (show q*v2<18446744073709551616 by omega)] at e5;simp only [go_sem,ya,Cb,show ¬(4294967296:Int)<=(q:Int) by omega,e5,e1,e2,show ((4294967296*r+u2:Nat):Int)<((q*v2:Nat):Int) by omega,e3,e4,show (4294967296:Int)<=((r+v1:Nat):Int) by omega];exact ⟨_,_,rfl,by simp,_,_,rfl,rfl,by simp only [go_sem,ya],by simp only [go_sem,ya],by simp only [go_sem,ya],by simp only [go_sem,ya],by simp only [go_sem,ya],by simp only [go_sem,ya],by simp only [go_sem,ya],by rw [Bp];simp only [go_sem,ya]⟩
  ·left
   rcases (show 4294967296<=q\/(¬4294967296<=q/\4294967296*r+u2<q*v2) by omega) with t1 | ⟨t1,t2⟩
   ·simp only [go_sem,ya,Cb,show (4294967296:Int)<=(q:Int) by omega,e3,e4,show ¬(4294967296:Int)<=((r+v1:Nat):Int) by omega];exact ⟨_,q-1,rfl,by omega,q-1,r+v1,by simp only [go_sem,ya,aH],h1,by omega,h2,rfl⟩
   ·have hqv:=ve (show q<=4294967295 by omega) (show v2<=4294967295 by omega);have e5:=p7 q v2;rw [yP (show q*v2<18446744073709551616 by omega)] at e5;simp only [go_sem,ya,Cb,show ¬(4294967296:Int)<=(q:Int) by omega,e5,e1,e2,show ((4294967296*r+u2:Nat):Int)<((q*v2:Nat):Int) by omega,e3,e4,show ¬(4294967296:Int)<=((r+v1:Nat):Int) by omega];exact ⟨_,q-1,rfl,by omega,q-1,r+v1,by simp only [go_sem,ya,aH],h1,by omega,h2,rfl⟩
 ·right
  have Bp:=g2 (by omega) (by omega);have e5:=p7 q v2;rw [yP (show q*v2<18446744073709551616 by omega)] at e5;simp only [go_sem,ya,Cb,show ¬(4294967296:Int)<=(q:Int) by omega,e5,e1,e2,show ¬((4294967296*r+u2:Nat):Int)<((q*v2:Nat):Int) by omega];exact ⟨_,_,rfl,by simp,_,_,rfl,rfl,by simp only [go_sem,ya],by simp only [go_sem,ya],by simp only [go_sem,ya],by simp only [go_sem,ya],by simp only [go_sem,ya],by simp only [go_sem,ya],by simp only [go_sem,ya],by rw [Bp];simp only [go_sem,ya]⟩
end
end
end VE
