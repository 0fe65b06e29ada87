import Ieee.Arith
import Derived.Test.YtfdcefmdjiokdaaGreatDoorUak
import Derived.Test.YtfdcefmdjiokdaaGreatDoorUah
import Derived.Test.YtfdcefmdjiokdaaGreatDoorUae
import Derived.Test.YtfdcefmdjiokdaaGreatDoorUad
import Derived.Test.YtfdcefmdjiokdaaGreatDoorUaf
import Derived.Test.YtfdcefmdjiokdaaGreatDoorUai
import Derived.Test.YtfdcefmdjiokdaaGreatDoorUaj
set_option linter.all false
set_option maxRecDepth 100000
open BitVec renaming ofInt→xH,toNat_and→tM,toNat_not→ybk,toNat_ofInt→vd
open Bool renaming and_eq_true→yg,and_false→ybX,and_self→wM,false_and→wB,false_eq_true→yD,not_false→yU,not_true→yT,true_and→wF
open Int renaming add_mul_emod_self_right→yak,add_zero→tQ,cast_ofNat_Int→ybu,compare_eq_eq→ybK,compare_eq_gt→ybL,compare_eq_lt→ybJ,emod_add_emod→ybI,emod_lt_of_pos→vv,emod_nonneg→vm,le_refl→yba,lt_trichotomy→uM,natAbs_natCast→xq,natCast_mul→wN,not_le→ybv,reduceEq→vM,tmod_eq_emod_of_nonneg→xr,toNat_natCast→wo,zero_add→ycM
open List renaming all_eq_true→ybA,append_assoc→xt,append_nil→xX,cons_append→yX,drop→vL,drop_zero→yo,filter_append→ybf,filter_eq_nil_iff→tD,getElem_map→ybH,getElem_mem→ybC,length_append→yR,length_cons→yz,length_map→xo,length_nil→yK,length_range'→ybg,length_take→yO,map_append→xC,map_cons→xm,mem_cons→wA,mem_range→tL,nil_append→xY,not_mem_nil→vX,range→xG,range'→xI,range_succ→tF,replicate→yy,take_of_length_le→yM
open List.cons renaming injEq→vW
open Nat renaming add_assoc→uE,add_comm→tx,add_mul→wh,add_mul_div_right→yaQ,add_mul_mod_self_right→yar,and_two_pow_sub_one_eq_mod→tX,beq→yr,beq_refl→xz,blt→yJ,div_eq_of_lt→xP,eq_of_testBit_eq→ybb,le_log2→ydb,le_refl→yA,le_trans→xg,log2_lt→yaZ,log2_self_le→ybR,lt_log2_self→ybS,lt_of_le_of_lt→we,lt_of_lt_of_le→yu,min_eq_left→xF,mod_eq_of_lt→yL,mul_assoc→xp,mul_comm→xy,mul_le_mul_left→yS,mul_le_mul_right→yQ,mul_lt_mul''→uQ,mul_lt_mul_of_pos_right→xS,mul_one→yk,mul_pos→vK,ne_of_gt→vG,not_lt_zero→tn,one_lt_two_pow→wO,one_mul→ybV,pos_of_ne_zero→uU,pow_add→xL,pow_le_pow_right→yV,pow_lt_pow_right→tB,pow_succ→y7,reduceAdd→yd,reduceEqDiff→ya,reduceLT→yI,reduceLeDiff→yp,reduceMul→xQ,shiftLeft_eq→ybO,succ_mul→ycO,succ_ne_zero→ybM,testBit→uV,testBit_lt_two_pow→yaJ,testBit_two_pow_mul_add→yam,two_pow_add_eq_or_of_lt→yal,two_pow_pos→xn,zero_add→yf,zero_le→tG,zero_mul→uv
open Option.some renaming inj→tA
open Rat renaming add_comm→ycN,add_mul→yaY,den_intCast→wY,den_pow→ydd,divInt→wi,divInt_eq_div→uN,div_def→ycX,floor_le→uB,intCast_add→wP,intCast_inj→ycb,intCast_le_intCast→wb,intCast_lt_intCast→xN,intCast_mul→th,intCast_natCast→vI,intCast_neg→yag,le_antisymm→yca,le_floor_iff→ybT,le_of_lt→vj,lt_floor_add_one→ui,lt_irrefl→vN,mul_assoc→wj,mul_comm→ycP,mul_inv_cancel→tK,mul_le_mul_of_nonneg_left→uj,mul_le_mul_of_nonneg_right→wL,mul_lt_mul_right→wH,mul_nonneg→vS,mul_one→wG,natCast_eq_zero_iff→yaE,natCast_le_natCast→vl,natCast_lt_natCast→vT,natCast_mul→wc,not_le→uF,not_lt→vz,num_divInt_den→ybs,num_intCast→wX,num_nonneg→yaq,num_pow→ydc,one_mul→uh,sub_eq_add_neg→yaj,zero_mul→yaK,zpow_natCast→uR,zpow_neg→ycQ
namespace VE
open Go (IntKind)
def pn (f g:Rat):List Rat:=[(1-f)*(1-g),f*(1-g),(1-f)*g,f*g]
def IsW (v:AV) (f g:Rat):Prop:=∃cs,v= .agg cs/\QL cs (pn f g)
def Z3 {f g:Rat} {K:Nat} (kf:Hq K f) (kg:Hq K g):∀x,x∈pn f g->Hq (2*K+6) x:=by
 intro x hx;have ku:=Cz.sub kf;have kv:=Cz.sub kg;simp only [pn,wA,vX,ybj] at hx;rcases hx with rfl | rfl | rfl | rfl
 ·exact (ku.mul kv).mono (by omega)
 ·exact (kf.mul kv).mono (by omega)
 ·exact (ku.mul kg).mono (by omega)
 ·exact (kf.mul kg).mono (by omega)
section
variable {tm:Env} {a b c d:AV} {r:List (Nat×Nat×X)} {x0 x1 x2 x3 x4 x5 x6 x7 x8 x9 xa xb xc xd xe xf:AV}
def alf (h1:bn a=true) (h2:bn b=true) (h3:bn c=true) (h4:bn d=true):jm tm [x0,x1,x2,x3,x4,x5,x6,x7,x8,x9,xa,xb,xc,xd,xe,xf] 0 4 [a,b,c,d] r=fill tm [a,b,c,d,x4,x5,x6,x7,x8,x9,xa,xb,xc,xd,xe,xf] r:=by
 rw [ni (by rfl) (by simp) (by simp [bL,h1,h2,h3,h4])];rfl
def alg (h1:bn a=true) (h2:bn b=true) (h3:bn c=true) (h4:bn d=true):jm tm [x0,x1,x2,x3,x4,x5,x6,x7,x8,x9,xa,xb,xc,xd,xe,xf] 4 4 [a,b,c,d] r=fill tm [x0,x1,x2,x3,a,b,c,d,x8,x9,xa,xb,xc,xd,xe,xf] r:=by
 rw [ni (by rfl) (by simp) (by simp [bL,h1,h2,h3,h4])];rfl
def alh (h1:bn a=true) (h2:bn b=true) (h3:bn c=true) (h4:bn d=true):jm tm [x0,x1,x2,x3,x4,x5,x6,x7,x8,x9,xa,xb,xc,xd,xe,xf] 8 4 [a,b,c,d] r=fill tm [x0,x1,x2,x3,x4,x5,x6,x7,a,b,c,d,xc,xd,xe,xf] r:=by
 rw [ni (by rfl) (by simp) (by simp [bL,h1,h2,h3,h4])];rfl
def ali (h1:bn a=true) (h2:bn b=true) (h3:bn c=true) (h4:bn d=true):jm tm [x0,x1,x2,x3,x4,x5,x6,x7,x8,x9,xa,xb,xc,xd,xe,xf] 12 4 [a,b,c,d] r=fill tm [x0,x1,x2,x3,x4,x5,x6,x7,x8,x9,xa,xb,a,b,c,d] r:=by
 rw [ni (by rfl) (by simp) (by simp [bL,h1,h2,h3,h4])];rfl
end
def aqs {cs:List AV} (hl:cs.length=16) (ho:bL cs=true) (an:aD cs=true) (hp:Hp) (ct id:Nat) (x0 x1 x2 x3 x4 x5 x6 x7 x8 x9 xa xb xc xd xe xf:AV):ij hp ct id 0 16 cs (some (.cells true true true 16 [x0,x1,x2,x3,x4,x5,x6,x7,x8,x9,xa,xb,xc,xd,xe,xf]))=some (.au [],aU hp id (.cells true true true 16 cs),ct):=by
 rw [sY hl (by simp) ho,an]
 match cs,hl with
 | [_,_,_,_,_,_,_,_,_,_,_,_,_,_,_,_],_=>rfl
def Zn:∀{l:List Rat} {cs:List AV},QL cs l->∀(n:Nat) (hp:Hp),cA (n+l.length*4+2) hp cs=some (cs,hp)
 | [],_,h,n,hp=>by rw [h.I3];rfl
 | x::l,cs,h,n,hp=>by
  obtain ⟨a,b,c,d,r,rfl,h1,h2⟩:=h.inv;have g:=h1.f4;have e:=Zn h2 n hp;rw [show n+(x::l).length*4+2=n+l.length*4+2+1+1+1+1 by simp only [yz];omega];simp only [go_sem,g.z1,g.z2,g.z3,g.z4,e]
def QL.ai {l:List Rat} {cs:List AV} (h:QL cs l) {n:Nat} (hn:l.length*4+3<=n) (hp:Hp):freeze n hp (.agg cs)=some (.agg cs,hp):=by
 obtain ⟨m,rfl⟩:∃m,n=m+l.length*4+3:=⟨n-(l.length*4+3),by omega⟩;exact bA _ _ (Zn h m hp)
def QL.dQ {l:List Rat} {cs:List AV} (h:QL cs l) (hl:l.length<=200) (hp:Hp):result hp (.agg cs)=some (.agg cs):=by
 show (match freeze 1000 hp (.agg cs) with | some (v',_)=>some v' | none=>none)=_
 rw [h.ai (by omega)]
def D3.gen {v:AV} {i j:Int} {f g:Rat} (h:D3 v i j f g):∃c1 c2 c3 c4 d1 d2 d3 d4,v= .agg [aa i,aa j,c1,c2,c3,c4,d1,d2,d3,d4]/\bO (.agg [c1,c2,c3,c4]) f/\bO (.agg [d1,d2,d3,d4]) g/\(∀ct:Nat,AP ct 10 [aa i,aa j,c1,c2,c3,c4,d1,d2,d3,d4]=some (.ptr ct 0,.cells true true true 10 [aa i,aa j,c1,c2,c3,c4,d1,d2,d3,d4]))/\∀(n:Nat) (hp:Hp),freeze (n+20) hp (.agg [aa i,aa j,c1,c2,c3,c4,d1,d2,d3,d4])=some (.agg [aa i,aa j,c1,c2,c3,c4,d1,d2,d3,d4],hp):=by
 obtain ⟨c1,c2,c3,c4,d1,d2,d3,d4,rfl,hf,hg⟩:=h;have gf:=hf.f4;have gg:=hg.f4;obtain ⟨U1,U2,U3,U4⟩:=gf.OF;obtain ⟨U5,U6,U7,U8⟩:=gg.OF;refine ⟨c1,c2,c3,c4,d1,d2,d3,d4,rfl,hf,hg,fun ct=>?_,fun n hp=>bA _ _ (by simp only [go_sem,gf.z1,gf.z2,gf.z3,gf.z4,gg.z1,gg.z2,gg.z3,gg.z4])⟩;rw [aM (by rfl) (by simp [bL,G2,gf.o1,gf.o2,gf.o3,gf.o4,gg.o1,gg.o2,gg.o3,gg.o4])];simp [aD,DP,U1,U2,U3,U4,U5,U6,U7,U8]
def QW (a b c d e f g h i j:AV):fV 10 true [a,b,c,d,e,f,g,h,i,j]=some (.agg [a,b,c,d,e,f,g,h,i,j]):=rfl
def alj (a b c d e f g h i j:AV):vL 2 [a,b,c,d,e,f,g,h,i,j]=[c,d,e,f,g,h,i,j]:=rfl
def alk (a b c d e f g h i j:AV):vL 6 [a,b,c,d,e,f,g,h,i,j]=[g,h,i,j]:=rfl
def alm (a b c d e f g h i j:AV):vL 1 [a,b,c,d,e,f,g,h,i,j]=[b,c,d,e,f,g,h,i,j]:=rfl
structure Vl (P:aF) (L:Lib):Prop extends Fr' P L where
 JM:Has P L 55 N2
 UK:Has P L 56 TP
 Ev:Has P L 103 Ig
 SY:Has P L 104 MC
 SZ:Has P L 105 MD
 S3:Has P L 106 ME
 I4:Has P L 134 Ed
 oO:Has P L 150 AJ
section
variable {P:aF} {L:Lib}
def auq (h:Fr' P L) (SY:Has P L 104 MC) {v:AV} {i j:Int} {f g:Rat} {K:Nat} (hv:D3 v i j f g) (kf:Hq K f) (kg:Hq K g) (hK:K<=1000000000):∃r,ah P L 104 [v] r/\IsW r f g:=by
 obtain ⟨c1,c2,c3,c4,d1,d2,d3,d4,rfl,hf,hg,bx,_⟩:=hv.gen;have k1:Hq (K+4) (1:Rat):=Cz.mono (by omega);have U9:Hq (K+4) f:=kf.mono (by omega);have Va:Hq (K+4) g:=kg.mono (by omega);have ku:Hq (K+4) (1-f):=(Cz.sub kf).mono (by omega);have kv:Hq (K+4) (1-g):=(Cz.sub kg).mono (by omega);obtain ⟨o,e1,ho⟩:=E8 h (z:=1) (by omega) (by omega);have iG:bO o 1:=ho;obtain ⟨u,e2,hu⟩:=JJ h iG hf k1 U9 (by omega);obtain ⟨w,e3,hw⟩:=JJ h iG hg k1 Va (by omega);obtain ⟨r1,e4,q1⟩:=zO h hu hw ku kv (by omega);obtain ⟨r2,e5,q2⟩:=zO h hf hw U9 kv (by omega);obtain ⟨r3,e6,q3⟩:=zO h hu hg ku Va (by omega);obtain ⟨r4,e7,q4⟩:=zO h hf hg U9 Va (by omega);have gf:=hf.f4;have gg:=hg.f4;obtain ⟨o1,o2,o3,o4,rfl,go⟩:=ho.gen;obtain ⟨u1,u2,u3,u4,rfl,gu⟩:=hu.gen;obtain ⟨w1,w2,w3,w4,rfl,gw⟩:=hw.gen;obtain ⟨x1,x2,x3,x4,rfl,gx⟩:=q1.gen;obtain ⟨y1,y2,y3,y4,rfl,gy⟩:=q2.gen
 obtain ⟨z1,z2,z3,z4,rfl,gz⟩:=q3.gen;obtain ⟨t1,t2,t3,t4,rfl,gt⟩:=q4.gen;have hq:QL [x1,x2,x3,x4,y1,y2,y3,y4,z1,z2,z3,z4,t1,t2,t3,t4] (pn f g):=⟨q1,q2,q3,q4,trivial⟩;have aO:=aqs (by rfl) hq.one hq.pu;refine ⟨_,?_,_,rfl,hq⟩;unfold ah at e1 e2 e3 e4 e5 e6 e7 ⊢;rw [aC SY];simp only [go_sem,ya,yd,MC,bx,aM,bl,yf,alj,alk,B2,e1,e2,e3,e4,e5,e6,e7,bc,go.st,gu.st,gw.st,go.ai,gu.ai,gw.ai,gf.ai,gg.ai,gx.o1,gx.o2,gx.o3,gx.o4,gy.o1,gy.o2,gy.o3,gy.o4,gz.o1,gz.o2,gz.o3,gz.o4,gt.o1,gt.o2,gt.o3,gt.o4,alf,alg,alh,ali,aO,de,df,yo];exact hq.dQ (by simp [pn]) _
def aur (SZ:Has P L 105 MD) (I4:Has P L 134 Ed) {v:AV} {i j:Int} {f g:Rat} {k:Int} {n:Int} (hv:D3 v i j f g) (hi:0<=i/\i<n) (hj:0<=j/\j<n) (hk:0<=k/\k<4) (hn:0<n) (gS:n<=1000000):ah P L 105 [v,aa k,aa n] (.au [aa ((i+k%2)%n),aa ((j+k/2)%n)]):=by
 obtain ⟨c1,c2,c3,c4,d1,d2,d3,d4,rfl,hf,hg,bx,_⟩:=hv.gen;have e1:=abT I4 (n:=i+k%2) hn gS;have e2:=abT I4 (n:=j+k/2) hn gS;have r1:k.tmod 2=k%2:=xr hk.1;have r2:k.tdiv 2=k/2:=Int.tdiv_eq_ediv_of_nonneg hk.1;unfold ah at e1 e2 ⊢;rw [aC SZ]
 simp only [go_sem,ya,MD,bx,bl,yf,alm,yo,fD _ _ _ (show (2:Int)≠0 by decide),eS _ _ _ (show (2:Int)≠0 by decide),r1,r2,wrap64 (n:=k/2) (by omega) (by omega),wrap64 (n:=i+k%2) (by omega) (by omega),wrap64 (n:=j+k/2) (by omega) (by omega),e1,e2];rfl
def aus (h:Fr' P L) (S3:Has P L 106 ME) {v w:AV} {s:Rat} {l:List Rat} {K M:Nat} (hv:bO v s) (hw:A0 w l) (ks:Hq M s) (kl:∀x,x∈l->Hq K x) (hl:l.length<=1000000) (hK:M+l.length*(K+1)+K<=1000000000):∃r,ah P L 106 [v,w,.fn (.f 74) [] []] r/\bO r (oN s l):=by
 have key:=jZ (P:=P) (L:=L) (live:=[2,3,6,9,10,11]) (a:=Hi)
  (I:=fun k st=>∃i:Nat,i+k=l.length/\∃c1 c2 c3 c4,bO (.agg [c1,c2,c3,c4]) (oN s (l.take i))/\st=⟨[(2,.fn (.f 74) [] []),(3,.ptr 0 0),(6,.ptr 1 0),(9,w),(10,aa l.length),(11,aa i)],[(1,.cells true true true 4 [.int .i64 0,.ae,.int .i64 0,.ae]),(0,.cells true true true 4 [c1,c2,c3,c4])],2,0⟩)
  (Q:=fun ex st=>∃tm hp ct c1 c2 c3 c4,bO (.agg [c1,c2,c3,c4]) (oN s l)/\st=⟨tm,hp,ct,0⟩/\ex= .exit 0/\aj tm 3= .ptr 0 0/\aj tm 6= .ptr 1 0/\ak hp 0=some (.cells true true true 4 [c1,c2,c3,c4])/\ak hp 1=some (.cells true true true 4 [.int .i64 0,.ae,.int .i64 0,.ae])) ?_
 ·have dX:=hv;obtain ⟨v1,v2,v3,v4,rfl,gv⟩:=hv.gen;unfold ah;rw [aC S3];simp only [go_sem,ya,yd,ME,gv.bx,aM,hw.len];generalize hq:D P L (.loop [2,3,6,9,10,11] Hi) _=q;obtain ⟨ex,st,rfl,tm,hp,ct,c1,c2,c3,c4,h1,rfl,rfl,t3,t6,g0,g1⟩:=b9 hq (key l.length) ⟨0,by omega,v1,v2,v3,v4,by simpa [oN] using dX,by simp only [go_sem,ya,yd,az,aE hw.pu,aJ _ hw.pu]<;>rfl⟩
  have g:=h1.f4;refine ⟨_,?_,h1⟩;simp only [go_sem,ya,yd,az,t3,t6,g0,g1,B2,g.st,de,df,yo];exact g.dQ _
 ·rintro k st ⟨i,hk,c1,c2,c3,c4,hs,rfl⟩;by_cases hi:i<l.length
  ·left
   obtain ⟨a,b,c,d,r,e1,hx⟩:=hw.br hi;obtain ⟨y,e2,hy⟩:=m74 h hs hx (K:=M+l.length*(K+1)+K) ((anN ks kl i).mono (by omega)) ((kl _ (ybC hi)).mono (by omega)) (by omega);rw [<-aiR hi] at hy;have se:=hy;obtain ⟨y1,y2,y3,y4,rfl,gy⟩:=hy.gen;have gs:=hs.f4;have gx:=hx.f4;simp only [go_sem,ya,yd,Hi,show (i:Int)<l.length by omega,e1,aum,B2,aM,gx.st,e2,gs.ai,gx.ai,gy.st,bc,yo];refine ⟨_,k-1,rfl,by omega,i+1,by omega,y1,y2,y3,y4,se,?_⟩;rw [wrap64 (by omega) (by omega)];simp only [go_sem,ya,yd,az,aE hw.pu,aJ _ hw.pu]<;>rfl
  ·right
   simp only [go_sem,ya,Hi,show ¬(i:Int)<l.length by omega];rw [yM (by omega)] at hs;exact ⟨_,_,rfl,by simp,_,_,_,c1,c2,c3,c4,hs,rfl,rfl,by simp only [go_sem,ya],by simp only [go_sem,ya],by simp only [go_sem,ya],by simp only [go_sem]⟩
def nC (s:List (List Int)) (i j:Int) (k:Int):Rat:=((eh s (i+k%2) (j+k/2):Int):Rat)
def lG (s:List (List Int)) (i j:Int) (f g:Rat):List Rat:=[(1-f)*(1-g)*nC s i j 0,f*(1-g)*nC s i j 1,(1-f)*g*nC s i j 2,f*g*nC s i j 3]
def Ny (s:List (List Int)) (i j:Int) (f g:Rat):Rat:=oN 0 (lG s i j f g)
def aln (s:List (List Int)) (i j:Int) (f g:Rat):∀(k:Nat) (hk:k<4),(lG s i j f g)[k]'hk=(pn f g)[k]'hk*nC s i j (k:Int)
 | 0,_=>rfl
 | 1,_=>rfl
 | 2,_=>rfl
 | 3,_=>rfl
 | k+4,hk=>absurd hk (by omega)
structure C9 (v:AV) (s:List (List Int)) (n:Nat):Prop where
 is:fJ v s
 len:s.length=n
 pos:0<n
 le:n<=16
 row:∀i (hi:i<s.length),s[i].length=n
 sq:jl n (-1000) 1000 s=0
def C9.cell {v:AV} {s:List (List Int)} {n:Nat} (h:C9 v s n) (c r:Int):∃q rest abh,jj 1 (r%n).toNat v=some (.aH (q::rest))/\jj 1 (c%n).toNat q=some (.aH (aa (eh s c r)::abh)):=by
 obtain ⟨h1,h2,h3⟩:=akH h.len h.pos h.row c r;obtain ⟨q,rest,eQ,E4⟩:=h.is.br h1;exact ⟨q,rest,_,E4,by rw [h3];exact eQ.br h2⟩
def C9.cB {v:AV} {s:List (List Int)} {n:Nat} (h:C9 v s n) (c r:Int): -1000<=eh s c r/\eh s c r<=1000:=af1 h.sq (by decide) c r
def aiU {s:List (List Int)} {n:Nat} (hn:s.length=n) (c r c' r':Int) (hc:c%n=c'%n) (hr:r%n=r'%n):eh s c r=eh s c' r':=by
 unfold eh;rw [hn,hc,hr]
def G8 {s:List (List Int)} {i j k:Int} (h:∀c r,-1000<=eh s c r/\eh s c r<=1000):Hq 64 (nC s i j k):=by
 have:=h (i+k%2) (j+k/2)
 unfold nC;exact ⟨by rw [wX];unfold Bd;omega,by rw [wY];exact wO (by omega)⟩
def Zo {s:List (List Int)} {i j:Int} {f g:Rat} {K:Nat} (h:∀c r,-1000<=eh s c r/\eh s c r<=1000) (kf:Hq K f) (kg:Hq K g):∀x,x∈lG s i j f g->Hq (2*K+70) x:=by
 intro x hx;have hw:=Z3 kf kg;simp only [lG,wA,vX,ybj] at hx;rcases hx with rfl | rfl | rfl | rfl
 ·exact ((hw _ (by simp [pn])).mul (G8 h)).mono (by omega)
 ·exact ((hw _ (by simp [pn])).mul (G8 h)).mono (by omega)
 ·exact ((hw _ (by simp [pn])).mul (G8 h)).mono (by omega)
 ·exact ((hw _ (by simp [pn])).mul (G8 h)).mono (by omega)
def QL.A2 {cs:List AV} {l:List Rat} (h:QL cs l) {k n:Nat} (hl:l.length=n) (hk:k<n):∃a b c d,HM n 4 true k (.agg cs)=some (.agg [a,b,c,d])/\bO (.agg [a,b,c,d]) (l[k]'(by omega)):=by
 obtain ⟨a,b,c,d,r,e,hq⟩:=h.get (i:=k) (by omega);refine ⟨a,b,c,d,?_,hq⟩;show (bif yJ k n then fV 4 true (cs.drop (k*4)) else none)=_
 rw [jQ hk,e];rfl
def m56 (h:Vl P L) {v w:AV} {s:List (List Int)} {n:Nat} {i j:Int} {f g:Rat} {K:Nat} (hv:D3 v i j f g) (hw:C9 w s n) (hi:0<=i/\i<n) (hj:0<=j/\j<n) (kf:Hq K f) (kg:Hq K g) (hK:K<=10000000):
  ∃r,ah P L 56 [v,w] r/\bO r (Ny s i j f g):=by
 obtain ⟨W,eW,hW⟩:=auq h.toFr' h.SY hv kf kg (by omega);obtain ⟨c1,c2,c3,c4,d1,d2,d3,d4,rfl,hf,hg,bx,fz⟩:=hv.gen;obtain ⟨cs,rfl,pX⟩:=hW;have hS:=hw.is;have hn:=hw.len;have n0:=hw.pos;have n1:=hw.le;have kp:=Zo (i:=i) (j:=j) hw.cB kf kg;have kw:=Z3 kf kg;have pW:aW (.agg cs)=true:=by simp only [aW,pX.pu]
 have key:=jZ (P:=P) (L:=L) (live:=[1,2,4,5,11,12]) (a:=D1)
  (I:=fun k st=>∃m:Nat,m+k=4/\((m=0/\st=⟨[(1,w),(2,.ptr 0 0),(4,.ptr 1 0),(5,.ae),(11,.agg cs),(12,aa m)],[(1,.cells true true true 4 [.int .i64 0,.ae,.int .i64 0,.ae]),(0,.cells true true true 10 [aa i,aa j,c1,c2,c3,c4,d1,d2,d3,d4])],2,0⟩)\/
   (0<m/\∃ps,QL ps ((lG s i j f g).take m)/\st=⟨[(1,w),(2,.ptr 0 0),(4,.ptr 1 0),(5,.ay 2 0 m),(11,.agg cs),(12,aa m)],[(2,.cells true true false 4 ps),(1,.cells true true true 4 [.int .i64 0,.ae,.int .i64 0,.ae]),(0,.cells true true true 10 [aa i,aa j,c1,c2,c3,c4,d1,d2,d3,d4])],3,0⟩)))
  (Q:=fun ex st=>∃tm hp ct ps,QL ps (lG s i j f g)/\st=⟨tm,hp,ct,0⟩/\ex= .exit 0/\aj tm 4= .ptr 1 0/\aj tm 5= .ay 2 0 4/\ak hp 1=some (.cells true true true 4 [.int .i64 0,.ae,.int .i64 0,.ae])/\ak hp 2=some (.cells true true false 4 ps)) ?_
 ·unfold ah at eW ⊢;rw [aC h.UK];simp only [go_sem,ya,yd,TP,bx,aM,QW,fz,eW,bc,yo];generalize hq:D P L (.loop [1,2,4,5,11,12] D1) _=q;obtain ⟨ex,st,rfl,tm,hp,ct,ps,eN,rfl,rfl,t4,t5,g1,g2⟩:=b9 hq (key 4) ⟨0,by omega,.inl ⟨rfl,by simp only [go_sem,ya,yd,az,aE hS.pu,aJ _ hS.pu,aE pW,aJ _ pW]<;>rfl⟩⟩
  have hl4:ps.length=4*4:=by rw [eN.len];rfl
  obtain ⟨z,e1,hz⟩:=E8 h.toFr' (z:=0) (by omega) (by omega);have fo:bO z 0:=hz;have iI:=hz;obtain ⟨z1,z2,z3,z4,rfl,gz⟩:=hz.gen;obtain ⟨r,e2,hr⟩:=aus h.toFr' h.S3 (K:=2*K+70) (M:=2) fo (w:= .aA false 4 ps) (ala false eN) acS kp (by simp [lG]) (by simp only [lG,yz,yK];omega);have bC:=hr;obtain ⟨r1,r2,r3,r4,rfl,gr⟩:=hr.gen;refine ⟨_,?_,bC⟩;unfold ah at e1 e2;simp only [go_sem,ya,yd,az,t4,t5,g1,g2,e1,gz.ai,nf false hl4 (show 0<4 by decide),e2,bc,gr.st,de,df,yo];exact gr.dQ _
 ·rintro k st ⟨m,hk,aO⟩;by_cases hm:m<4
  ·left
   obtain ⟨a,b,c,d,e1,hx⟩:=pX.A2 (n:=4) rfl hm;have e2:=aur h.SZ h.I4 hv (k:=(m:Int)) (n:=n) hi hj (by omega) (by omega) (by omega);obtain ⟨q,rest,abh,e3,e4⟩:=hw.cell (i+(m:Int)%2) (j+(m:Int)/2);have hb:=hw.cB (i+(m:Int)%2) (j+(m:Int)/2);obtain ⟨z,e5,hz⟩:=E8 h.toFr' (z:=eh s (i+(m:Int)%2) (j+(m:Int)/2)) (by omega) (by omega);obtain ⟨y,e6,hy⟩:=zO h.toFr' hx hz (K:=2*K+70) ((kw _ (ybC _)).mono (by omega)) ((G8 (i:=i) (j:=j) (k:=(m:Int)) hw.cB).mono (by omega)) (by omega);have a1:=vm (i+(m:Int)%2) (show (n:Int)≠0 by omega);have a2:=vm (j+(m:Int)/2) (show (n:Int)≠0 by omega);have se:=hy;obtain ⟨y1,y2,y3,y4,rfl,gy⟩:=hy.gen;obtain ⟨z1,z2,z3,z4,rfl,gz⟩:=hz.gen;have gx:=hx.f4;have bz:∀q,jm q [AV.int .i64 0,.ae,.int .i64 0,.ae] 0 4 [y1,y2,y3,y4] []=fill q [y1,y2,y3,y4] []:=fun q=>aqr gy.o1 gy.o2 gy.o3 gy.o4
   have hpg:(lG s i j f g)[m]'(by simp [lG];omega)=(pn f g)[m]'hm*nC s i j (m:Int):=aln _ _ _ _ _ m hm;have di:(lG s i j f g).take (m+1)=(lG s i j f g).take m++[(pn f g)[m]'hm*nC s i j (m:Int)]:=by rw [List.take_succ_eq_append_getElem (by simp [lG];omega),hpg]
   unfold nC at di;unfold ah at e2 e5 e6;obtain ⟨Vb,Vc,Vd,Ve⟩:=gy.OF;have pY:aD [y1,y2,y3,y4]=true:=by simp only [aD,Vb,Vc,Vd,Ve,wM]
   rcases aO with ⟨h0,rfl⟩ | ⟨h0,ps,eN,rfl⟩
   ·subst h0;simp only [go_sem,ya,yd,xQ,yI,yp,D1,show ((0:Nat):Int)<4 by omega,yx,Dm (show (0:Int)<=((0:Nat):Int) by omega),wo,e1,aM,gx.st,QW,B2,fz,hn,hS.len,e2,pD,Dm a1,Dm a2,e3,e4,e5,gx.ai,gz.ai,e6,bz,Vb,Vc,Vd,Ve,wM,abg,bc,yo,kW];refine ⟨_,k-1,rfl,by omega,1,by omega,.inr ⟨by omega,[y1,y2,y3,y4],?_,?_⟩⟩
    ·rw [di];exact ⟨se,trivial⟩
    ·rw [wrap64 (by omega) (by omega)];simp only [go_sem,ya,yd,az,aE hS.pu,aJ _ hS.pu,aE pW,aJ _ pW]<;>rfl
   ·simp only [go_sem,ya,yd,xQ,D1,show (m:Int)<4 by omega,yx,Dm (show (0:Int)<=m by omega),wo,e1,aM,gx.st,QW,B2,fz,hn,hS.len,e2,pD,Dm a1,Dm a2,e3,e4,e5,gx.ai,gz.ai,e6,bz,Vb,Vc,Vd,Ve,wM,abg,bc,yo]
    rw [kh (ex:=false) (pu:=true) (cs:=ps) (by simp only [go_sem,ya]) (by rw [eN.len,yO,xF (by simp [lG];omega)]) (by omega) (by omega) (by decide) (by simp only [go_sem,gy.o1,gy.o2,gy.o3,gy.o4])];simp only [go_sem,ya,yd,pY];refine ⟨_,k-1,rfl,by omega,m+1,by omega,.inr ⟨by omega,ps++[y1,y2,y3,y4],?_,?_⟩⟩
    ·rw [di];exact eN.snoc se
    ·rw [wrap64 (by omega) (by omega)];simp only [go_sem,ya,yd,az,aE hS.pu,aJ _ hS.pu,aE pW,aJ _ pW]<;>rfl
  ·right
   have h4:m=4:=by omega
   subst h4;rcases aO with ⟨h0,rfl⟩ | ⟨h0,ps,eN,rfl⟩
   ·exact absurd h0 (by decide)
   ·simp only [go_sem,ya,D1,show ¬((4:Nat):Int)<4 by decide,yE];exact ⟨_,_,rfl,by simp,_,_,_,ps,eN,rfl,rfl,by simp only [go_sem,ya],by simp only [go_sem,ya]<;>rfl,by simp only [go_sem,ya],by simp only [go_sem]⟩
def RC (tm:Env) (hp:Hp) (rs:List (Nat×Bool×Nat)) (q:fN):fN:=match q with | some (v,an,aV)=>bif lQ tm hp an rs then some (v,an,aV) else none | none=>none
def alo {f:cu} {tm:Env} {hp:Hp} {ct:Nat} (rs:List (Nat×Bool×Nat)) (g:X) (xs:List X):a6 P L f tm hp ct (.gZ rs g xs)=RC tm hp rs (dj P L f hp ct .dyn (aw tm g) (cZ tm xs)):=rfl
def anO {tm:Env} {hp an:Hp} {rs:List (Nat×Bool×Nat)} {v:AV} {aV:Nat} (h:lQ tm hp an rs=true):RC tm hp rs (some (v,an,aV))=some (v,an,aV):=by
 simp only [RC,h,yt]
section
variable {b n R st:Nat} {fnv:AV} {H:Hp} {rs:List (List AV)}
def alp {cs:List AV} {old:Hp} {ct:Nat} (h:ct=b+5+rs.length):(ct,Obj.cells true true true 1 cs)::(bf (b+5) rs++old)=bf (b+5) (cs::rs)++old:=by
 subst h;rfl
def alq {cs:List AV} {old:Hp} {x:Nat} (h:x=b+5+rs.length):ak (bf (b+5) (cs::rs)++old) x=some (.cells true true true 1 cs):=by
 subst h;simp only [bf,yX,KS]
def alr {cs du:List AV} {old:Hp} {x:Nat} (h:x=b+5+rs.length):aU (bf (b+5) (cs::rs)++old) x (.cells true true true 1 du)=bf (b+5) (du::rs)++old:=by
 subst h;simp only [bf,yX,Yc]
end
def Xz {B n r:Nat}:(fM B n (r+1)).drop r= .ay (B+r) 0 n::yy (n-(r+1)) .ae:=by
 unfold fM;rw [tF,xC,xt,List.drop_left' (by simp)];rfl
def XA {B:Nat}:∀{rs:List (List AV)} (p:Nat×Obj),p∈bf B rs->B<=p.1
 | [],p,h=>by simp [bf] at h
 | c::r,p,h=>by
  rcases wA.1 h with rfl | h
  ·show B<=B+r.length;omega
  ·exact XA p h
structure BuT (P:aF) (L:Lib):Prop where
 OA:Has P L 40 c40
 h96:Has P L 96 N5
 S4:Has P L 133 Ii
def jS (b n:Nat) (fnv:AV) (val:Nat->Nat->AV) (H:Hp):Hp:=
 bf (b+5) (fF val n n)++(b+3,.cells true false true 1 [.ay (b+2) 0 n])::(b+2,.cells true false true 1 (fM (b+5) n n))::(b+1,.cells true (aW fnv) true 1 [fnv])::(b,.cells true true true 1 [.int .i64 n])::H
def XB {x:Nat}:∀{H:Hp},(∀p,p∈H->p.1≠x)->db H x=H
 | [],_=>rfl
 | (id,o)::r,h=>by
  rw [db,bW (h (id,o) (by simp)),yG,XB (fun p hp=>h p (by simp [hp]))]
def agY {hp:Hp} {id i:Nat} {o:Obj}:ak (aU hp id o) i=if id=i then (if (ak hp id).isSome then some o else none) else ak hp i:=by
 induction hp with
 | nil=>simp [aU,ak]
 | cons x r ih=>
  obtain ⟨j,q⟩:=x;simp only [aU];by_cases hj:j=id
  ·subst hj;simp only [xz,yt,ak];by_cases hi:j=i
   ·subst hi;simp
   ·simp [bW hi,hi]
  ·simp only [bW hj,yG];rw [ak,ih];by_cases hi:j=i
   ·subst hi
    have:¬id=j:=fun h=>hj h.symm
    simp [xz,this,ak]
   ·simp [bW hi,ak,bW hj]
def Yz {B n:Nat} {row:Nat->List AV} (hlen:∀i,(row i).length=n):∀(l:List Nat) (k:Nat) (hp:Hp),l.length+3<=k->(∀i,i∈l->∃rw,ak hp (B+i)=some (.cells rw true true 1 (row i)))->
  ∃an,cA k hp (l.map fun i=> .ay (B+i) 0 n)=some (l.map fun i=> .aA true n (row i),an)
 | [],0,hp,hk,_=>by simp at hk
 | [],k+1,hp,_,_=>⟨hp,rfl⟩
 | i::l,0,hp,hk,_=>by simp at hk
 | i::l,1,hp,hk,_=>by simp at hk
 | i::l,2,hp,hk,_=>by simp at hk
 | i::l,k+3,hp,hk,h=>by
  simp only [yz] at hk;obtain ⟨rw,h1⟩:=h i (by simp);have hf:freeze (k+2) hp (.ay (B+i) 0 n)=some (.aA true n (row i),bif rw then aU hp (B+i) (.cells false true true 1 (row i)) else hp):=by
   rw [Qk,Ql,h1]
   cases rw with
   | true=>rw [ZE,nf true (by rw [hlen,yk]) (by decide)];rfl
   | false=>rw [ZF,nf true (by rw [hlen,yk]) (by decide)];rfl
  obtain ⟨an,h2⟩:=Yz hlen l (k+2) (bif rw then aU hp (B+i) (.cells false true true 1 (row i)) else hp) (by omega) (fun j hj=>by
   obtain ⟨dW,h3⟩:=h j (by simp [hj])
   cases rw with
   | false=>exact ⟨dW,h3⟩
   | true=>
    simp only [yt,agY,h1,Option.isSome_some,xA];by_cases e:B+i=B+j
    ·have:i=j:=by omega
     subst this;exact ⟨false,by rw [yN rfl]⟩
    ·exact ⟨dW,by rw [yB e,h3]⟩)
  exact ⟨an,by rw [xm,Xm,hf,ZC,h2];rfl⟩
def CC (val:Nat->Nat->AV) (n:Nat):AV:= .aA true n ((xG n).map fun r=> .aA true n ((xG n).map fun c=>val c r))
def XC {val:Nat->Nat->AV} {n:Nat}:∀r,(fF val n r).reverse=(xG r).map fun r=>(xG n).map fun c=>val c r
 | 0=>rfl
 | r+1=>by rw [fF,List.reverse_cons,XC r,tF,xC];rfl
def aiV {b n k:Nat} (hn:0<n) (fa:n<=900) {fnv:AV} {val:Nat->Nat->AV} {H:Hp} (hk:903<k):∃an,freeze (k+2) (jS b n fnv val H) (.ay (b+2) 0 n)=some (CC val n,an):=by
 have rR:ak (jS b n fnv val H) (b+2)=some (.cells true false true 1 (fM (b+5) n n)):=by
  rw [jS,qv (by omega),ak,bW (by omega),yG,ak,xz,yt]
 have D8:fM (b+5) n n=(xG n).map fun i=> .ay (b+5+i) 0 n:=by simp [fM]
 have hlen:(fF val n n).length=n:=BG val n n;obtain ⟨an,h1⟩:=Yz (B:=b+5) (n:=n) (row:=fun r=>(xG n).map fun c=>val c r) (fun i=>by simp) (xG n) k (jS b n fnv val H) (by simp;omega) (fun i hi=>by
  have cI:i<n:=tL.1 hi;refine ⟨true,?_⟩;rw [jS,KD (by omega)]
  simp only [XC,ybH,List.getElem_range])
 rw [Qk,Ql,rR];have hq:IN k (b+2) (jS b n fnv val H) (some (.cells true false true 1 (fM (b+5) n n)))=some (true,1,(xG n).map fun r=> .aA true n ((xG n).map fun c=>val c r),aU an (b+2) (.cells false false true 1 (fM (b+5) n n))):=by
  simp only [IN,yG,D8,h1]
 rw [hq,nf true (by simp) (by decide)];exact ⟨_,rfl⟩
def aiW {b n:Nat} (hn:0<n) (fa:n<=900) {fnv:AV} {val:Nat->Nat->AV} {H:Hp} {k:IntKind} {x:Int}:result (jS b n fnv val H) (.au [.ay (b+2) 0 n,.int k x])=some (.au [CC val n,.int k x]):=by
 have rR:ak (jS b n fnv val H) (b+2)=some (.cells true false true 1 (fM (b+5) n n)):=by
  rw [jS,qv (by omega),ak,bW (by omega),yG,ak,xz,yt]
 obtain ⟨an,h⟩:=aiV (b:=b) (k:=998) hn fa (fnv:=fnv) (val:=val) (H:=H) (by omega);have h1:DA [.ay (b+2) 0 n,.int k x]=some [b+2]:=rfl;simp only [result,h1,sF,qM,rR,deep,h];rfl
structure SmP (P:aF) (L:Lib):Prop extends BuT P L,Sq P L where
 h41:Has P L 41 c41
 h97:Has P L 97 c97
 I4:Has P L 134 Ed
def J4 {s:List (List Int)} (h:iq s=0):0<s.length/\s.length<=16/\jl s.length (-1000) 1000 s=0:=by
 unfold iq at h
 grind
def GI {b x:Nat} {H:Hp} (hx:x<b):∀{iE:Hp},(∀p,p∈iE->b<=p.1)->ak (iE++H) x=ak H x
 | [],_=>rfl
 | (id,o)::r,h=>by
  have:=h (id,o) (by simp)
  simp only [yX];rw [ak,bW (by simp only at this;omega),yG,GI hx (fun p hp=>h p (by simp [hp]))]
def XD {b x:Nat} {H:Hp} {o':Obj} (hx:x<b):∀{iE:Hp},(∀p,p∈iE->b<=p.1)->aU (iE++H) x o'=iE++aU H x o'
 | [],_=>rfl
 | (id,o)::r,h=>by
  have:=h (id,o) (by simp)
  simp only [yX];rw [aU,bW (by simp only at this;omega),yG,XD hx (fun p hp=>h p (by simp [hp]))]
structure ShP (P:aF) (L:Lib):Prop extends SmP P L where
 mv:Has P L 20 c20
 h51:Has P L 51 c51
 h58:Has P L 58 c58
 h34:Has P L 34 c34
end
def Du {a b:Nat} (h:ap a=ap b):a=b:=by
 have h1:=sB a;rw [h,sB b] at h1;exact (tA h1).symm
def Zp:∀(k n:Nat),n<k->n≠0->∃b r,ap n=b::r/\b≠48
 | 0,n,h,_=>absurd h (tn n)
 | k+1,n,h,h0=>by
  by_cases h1:n<10
  ·exact ⟨48+n,[],nc h1,by omega⟩
  ·obtain ⟨b,r,e,hb⟩:=Zp k (n/10) (by omega) (by omega);exact ⟨b,r++[48+n%10],by rw [od (by omega),e];rfl,hb⟩
def YA (n:Nat):dn (ap n)=true:=by
 unfold dn;rw [sA,wF];by_cases h0:n=0
 ·subst h0;decide
 ·obtain ⟨b,r,e,hb⟩:=Zp (n+1) n (by omega) h0;rw [e]
  have:yr b 48=false:=by
   cases hq:yr b 48 with
   | false=>rfl
   | true=>exact absurd (Nat.eq_of_beq_eq_true hq) hb
  simp [this]
def YB (n:Nat):eY (ap n)=n:=by unfold eY;rw [sB];rfl
def K6 {z:Int} (h:¬z<0):aP z=ap z.natAbs:=by
 obtain ⟨m,rfl⟩:∃m:Nat,z=m:=⟨z.toNat,by omega⟩;rw [j8,xq]
def Mk (r:Rat):RT r=aP r.num++iU r.den:=rfl
def YC (r:Rat):bG (RT r)=(aP r.num).length:=by rw [Mk,BC,O9];rfl
def Z4 {r:Rat} (h1:(ap r.num.natAbs).length<=600) (h2:(ap r.den).length<=600):bZ (RT r)=0:=by
 have key:∀neg:Bool,(neg=true->r.num.natAbs≠0)->mh neg (ap r.num.natAbs++iU r.den)=0:=by
  intro neg eL;have hco:Nat.gcd r.num.natAbs r.den=1:=r.reduced;have fB:r.den≠0:=r.den_nz;generalize r.num.natAbs=m at*
  generalize r.den=d at*
  have hs:bG (ap m++iU d)=(ap m).length:=by rw [Gr _ (sA m),O9];rfl
  have c1:¬((true=false)\/(neg=true/\ap m=[48])):=by
   rintro (h | ⟨h,h'⟩)
   ·cases h
   ·exact eL h (Du (h'.trans (by decide)))
  unfold mh;rw [hs,List.take_left,YA,yB c1];by_cases hd:d=1
  ·have hr:iU d=[]:=yN hd;rw [hr,xX,yB (by omega),yB (by omega),yB (by omega)]
  ·have hr:iU d=47::ap d:=yB hd;have ik:(ap m++iU d).drop ((ap m).length+1)=ap d:=by
    rw [hr,show ap m++47::ap d=(ap m++[47])++ap d by simp,show (ap m).length+1=(ap m++[47]).length by simp,List.drop_left]
   have hl:(ap m++iU d).length=(ap m).length+1+(ap d).length:=by rw [hr];simp;omega
   rw [ik,hl,YA,YB,YB];have n0:ap d≠[48]:=fun e=>fB (Du (e.trans (by decide)))
   have n1:ap d≠[49]:=fun e=>hd (Du (e.trans (by decide)))
   rw [yB (by simp [n0,n1]),yB (by omega),yB (by simp [hco])]
 rw [Mk];by_cases h0:r.num<0
 ·rw [jJ h0];show (if 45=45 then mh true (ap r.num.natAbs++iU r.den) else mh false (45::(ap r.num.natAbs++iU r.den)))=0
  rw [yN rfl];exact key true (fun _=>by omega)
 ·rw [K6 h0];have k:=key false (fun h=>by cases h);have hp:=qI r.num.natAbs;have kP:=sA r.num.natAbs
  cases hq:ap r.num.natAbs with
  | nil=>rw [hq] at hp;simp at hp
  | cons b t=>
   rw [hq] at k kP
   have:=Pz kP
   show (if b=45 then mh true (t++iU r.den) else mh false (b::(t++iU r.den)))=0
   rw [yB (by omega)];exact k
def als {a b:Int} (h:aP a=aP b):a=b:=by
 have hd:∀{z w:Int},z<0->¬w<0->aP z≠aP w:=by
  intro z w h1 h2 e;rw [jJ h1,K6 h2] at e
  have:=sA w.natAbs
  rw [<-e] at this
  have:=Pz this
  omega
 by_cases h1:a<0<;>by_cases h2:b<0
 ·rw [jJ h1,jJ h2,vW] at h
  have:=Du h.2
  omega
 ·exact absurd h (hd h1 h2)
 ·exact absurd h.symm (hd h2 h1)
 ·rw [K6 h1,K6 h2] at h
  have:=Du h
  omega
def Z5 {a b:Rat} (h:RT a=RT b):a=b:=by
 have hs:=YC a;rw [h,YC b] at hs;rw [Mk,Mk] at h;obtain ⟨h1,h2⟩:=List.append_inj h hs.symm;refine Rat.ext (als h1) ?_;have hp:∀n,ap n≠[]:=fun n e=>by have:=qI n;rw [e] at this;simp at this
 unfold iU at h2;by_cases ha:a.den=1<;>by_cases hb:b.den=1
 ·rw [ha,hb]
 ·rw [yN ha,yB hb] at h2;cases h2
 ·rw [yB ha,yN hb] at h2;cases h2
 ·rw [yB ha,yB hb,vW] at h2;exact Du h2.2
def alt {r:Rat} (h1:(ap r.num.natAbs).length<=600) (h2:(ap r.den).length<=600):bm (RT r)=r:=(Z5 (sE (Z4 h1 h2)).1).symm
def HJ {r:Rat} {K:Nat} (h:Hq K r) (hK:K<=1800):(ap r.num.natAbs).length<=600/\(ap r.den).length<=600:=by
 refine ⟨Pd (B:=K) hK (by decide) h.1,Pd (B:=K) hK (by decide) ?_⟩
 have:=h.2
 unfold Bd at this
 rwa [xq] at this
def Av {r:Rat} {K:Nat} (h:Hq K r) (hK:K<=1800):bZ (RT r)=0:=Z4 (HJ h hK).1 (HJ h hK).2
def RD {r:Rat} {K:Nat} (h:Hq K r) (hK:K<=1800):bm (RT r)=r:=alt (HJ h hK).1 (HJ h hK).2
def asd {r:Rat} {K:Nat} (h:Hq K r) (hK:K<=1800):LG r=false:=by
 obtain ⟨h1,h2⟩:=HJ h hK;unfold LG LN;rw [xq,yY (by omega),yY (by omega)];rfl
noncomputable def mO (k:Nat) (s:List Nat):Bool:=decide (s.length<=2*k+2)&&(decide (bZ s=0)&&(decide ((ap (bm s).num.natAbs).length<=k)&&decide ((ap (bm s).den).length<=k)))
def Dz {s:List Nat} (h:mO 6 s=true):s.length<=14/\bZ s=0/\Hq 24 (bm s):=by
 unfold mO at h;simp only [yg,um] at h;obtain ⟨h1,h2,h3,h4⟩:=h
 exact ⟨by omega,h2,Dr (k:=6) (by omega) (by omega),Dr (z:=((bm s).den:Int)) (k:=6) (by rw [xq];omega) (by omega)⟩
section
variable {P:aF} {L:Lib}
def ase (h:Rm P L) (zt:Has P L 359 rm) {k:Nat} (hk:k<=1000) {s:List Nat} (hs:s.length<9223372036854775808):ah P L 359 [.str s,aa k] (.bool (mO k s)):=by
 unfold ah mO;rw [aC zt];by_cases h1:s.length<=2*k+2
 ·have e1:=acQ h (s:=s) (by omega);unfold ah at e1;rw [xj (show s.length<=2*k+2 from h1),wF];by_cases h2:bZ s=0
  ·rw [h2] at e1;obtain ⟨hR,_⟩:=sE h2;have kr:=G7 h2 (yA 2400);obtain ⟨e2,e3,e4⟩:=anJ h kr (by omega);rw [<-hR] at e2 e4;have l1:=Lx kr.1;have l2:=Lx kr.2;rw [xq] at l2;rw [xj h2,wF];by_cases h3:(ap (bm s).num.natAbs).length<=k
   ·rw [xj h3,wF];by_cases h4:(ap (bm s).den).length<=k
    ·rw [xj h4]
     simp only [go_sem,ya,rm,wrap64 (n:=2*(k:Int)) (by omega) (by omega),wrap64 (n:=2*(k:Int)+2) (by omega) (by omega),yx,show (s.length:Int)<=2*(k:Int)+2 by omega,e1,e2,e3,e4,show ((ap (bm s).num.natAbs).length:Int)<=(k:Int) by omega,show ((ap (bm s).den).length:Int)<=(k:Int) by omega]
    ·rw [yY h4]
     simp only [go_sem,ya,rm,wrap64 (n:=2*(k:Int)) (by omega) (by omega),wrap64 (n:=2*(k:Int)+2) (by omega) (by omega),yx,show (s.length:Int)<=2*(k:Int)+2 by omega,e1,e2,e3,e4,show ((ap (bm s).num.natAbs).length:Int)<=(k:Int) by omega,show ¬((ap (bm s).den).length:Int)<=(k:Int) by omega,yE]
   ·rw [yY h3,wB]
    simp only [go_sem,ya,rm,wrap64 (n:=2*(k:Int)) (by omega) (by omega),wrap64 (n:=2*(k:Int)+2) (by omega) (by omega),yx,show (s.length:Int)<=2*(k:Int)+2 by omega,e1,e2,e3,show ¬((ap (bm s).num.natAbs).length:Int)<=(k:Int) by omega,yE]
  ·rw [yY h2,wB];have Tm:¬bZ s=0:=h2
   simp only [go_sem,ya,rm,wrap64 (n:=2*(k:Int)) (by omega) (by omega),wrap64 (n:=2*(k:Int)+2) (by omega) (by omega),yx,show (s.length:Int)<=2*(k:Int)+2 by omega,e1,Tm,yE]
 ·rw [yY (show ¬s.length<=2*k+2 from h1),wB]
  simp only [go_sem,ya,rm,wrap64 (n:=2*(k:Int)) (by omega) (by omega),wrap64 (n:=2*(k:Int)+2) (by omega) (by omega),show ¬(s.length:Int)<=2*(k:Int)+2 by omega,yE]
def ac1 (h:Rm P L) (zt:Has P L 359 rm) {s:List Nat} (hs:s.length<9223372036854775808):ah P L 359 [.str s,aa 6] (.bool (mO 6 s)):=ase h zt (k:=6) (by decide) hs
def aut (h:Ck P L) {s:List Nat} (h0:bZ s=0):∃r,ah P L 62 [.str s] r/\bO r (bm s):=by
 obtain ⟨hR,_⟩:=sE h0;have kr:=G7 h0 (yA 2400);have hl:=mE kr;obtain ⟨r,e,hr⟩:=UM h.toTx (a:=bm s) (by omega);rw [<-hR] at e;exact ⟨r,e,hr⟩
def CD (a:Rat):AV:=if LG a=true then .au [.str [],aa 4] else .au [.str (RT a),aa 0]
end
def fm (s:List (List Int)) (x y:Rat):Rat:=Ny s (x.floor%s.length) (y.floor%s.length) (iN x) (iN y)
def anP {s:List (List Int)} {i j:Int} {f g:Rat} {K:Nat} (h:∀c r,-1000<=eh s c r/\eh s c r<=1000) (kf:Hq K f) (kg:Hq K g):Hq (8*K+300) (Ny s i j f g):=
 (QV (acS.mono (yA _)) (Zo (i:=i) (j:=j) h kf kg)).mono (by simp only [lG,yz,yK];omega)
def aqt {s:List (List Int)} {x y:Rat} {K:Nat} (h:∀c r,-1000<=eh s c r/\eh s c r<=1000) (kx:Hq K x) (ky:Hq K y) (hK:1<=K):Hq (16*K+400) (fm s x y):=
 (anP h (Mj kx hK) (Mj ky hK)).mono (by omega)
def DS {w:AV} {s:List (List Int)} (hw:fJ w s) (h:iq s=0):C9 w s s.length:=by
 obtain ⟨a1,a2,a3⟩:=J4 h;exact ⟨hw,rfl,a1,a2,fun i hi=>(Dl a3 i hi).1,a3⟩
def lyT (w:AV) (hh sc st ox oy wx wy:List Nat):AV:= .agg [w,.str hh,.str sc,.str st,.str ox,.str oy,.str wx,.str wy]
noncomputable def auu (s:List (List Int)) (hh sc st ox oy wx wy:List Nat):Int:=cp [iq s,acR hh 0,acR sc 1,bZ st,cp [bZ ox,bZ oy],cp [bZ wx,bZ wy]]
structure Lp (P:aF) (L:Lib):Prop extends Sp P L,Vl P L,ShP P L where
 h24:Has P L 24 c24
 Gf:Has P L 57 EP
 h66:Has P L 66 c66
 h67:Has P L 67 c67
 ayA:Has P L 115 abN
 ayB:Has P L 116 abO
def gU (d k:Nat) (a:Rat):Prop:=∃z:Int,a*(d:Rat)=(z:Rat)/\z.natAbs<2^k
def gU.add {d k m:Nat} {a b:Rat} (ha:gU d k a) (hb:gU d m b):gU d (max k m+1) (a+b):=by
 obtain ⟨z,e1,h1⟩:=ha;obtain ⟨y,e2,h2⟩:=hb;refine ⟨z+y,by rw [yaY,e1,e2,wP],?_⟩;have a1:2^k<=2^(max k m):=yV (by decide) (Nat.le_max_left k m);have a2:2^m<=2^(max k m):=yV (by decide) (Nat.le_max_right k m);have a3:2^(max k m+1)=2^(max k m)*2:=y7 2 (max k m);generalize 2^(max k m)=M at*
 generalize 2^k=A at*
 generalize 2^m=B at*
 omega
def gU.mul {d e k m:Nat} {a b:Rat} (ha:gU d k a) (hb:gU e m b):gU (d*e) (k+m) (a*b):=by
 obtain ⟨z,e1,h1⟩:=ha;obtain ⟨y,e2,h2⟩:=hb;refine ⟨z*y,?_,?_⟩
 ·rw [wc,th,<-e1,<-e2];grind
 ·rw [Int.natAbs_mul,xL];exact uQ h1 h2
def gU.int {c:Int} {k:Nat} (h:c.natAbs<2^k):gU 1 k (c:Rat):=⟨c,by grind,h⟩
def gU.mono {d k m:Nat} {a:Rat} (h:gU d k a) (hk:k<=m):gU d m a:=by
 obtain ⟨z,e,h1⟩:=h;exact ⟨z,e,yu h1 (yV (by decide) hk)⟩
def gU.zero (d:Nat):gU d 0 0:=⟨0,by grind,by decide⟩
def gU.Hq {d k:Nat} {a:Rat} (h:gU d k a) (h0:0<d) (hd:d<2^k):Hq k a:=by
 obtain ⟨z,e,h1⟩:=h;have fB:(d:Rat)≠0:=by
  intro c
  have:=yaE.1 c
  omega
 have ha:a=wi z (d:Int):=by
  rw [uN,<-e,vI,ycX,wj,tK _ fB,wG]
 obtain ⟨p1,p2⟩:=Gn (a:=z) (b:=(d:Int)) (by omega);have hn:a.num=cU z d:=by rw [ha,p1];rfl
 have zK:(a.den:Int)=cW z d:=by rw [ha,p2];rfl
 have b1:=PW z d;have b2:=PX z d;refine ⟨?_,?_⟩
 ·unfold Bd;rw [hn];omega
 ·unfold Bd;rw [zK];omega
def QX {x:Rat} {K:Nat} (h:Hq K x):gU x.den K (iN x):=by
 have hd:=h.2;unfold Bd at hd;have h0:0<x.den:=x.den_pos;refine ⟨x.num%x.den,?_,?_⟩
 ·unfold iN;have fb:((x.den:Int):Rat)≠0:=by
   rw [vI];intro c;have:=yaE.1 c;omega
  have e0:(x.num:Rat)/((x.den:Int):Rat)=x:=by rw [<-uN];exact ybs x
  have e1:x*(x.den:Rat)=(x.num:Rat):=by
   have:=Rat.div_mul_cancel (a:=(x.num:Rat)) fb
   rwa [e0,vI] at this
  have e2:=Int.mul_ediv_add_emod x.num x.den;rw [yaj,yaY,e1,Rat.floor_def];have e3:((x.num%x.den:Int):Rat)=(x.num:Rat)-(x.den:Rat)*((x.num/x.den:Int):Rat):=by
   conv=>rhs;rw [<-e2]
   rw [wP,th,vI];grind
  rw [e3];grind
 ·have m1:=vm x.num (show (x.den:Int)≠0 by omega);have m2:=vv x.num (show (0:Int)<x.den by omega);omega
def WK {x:Rat} {K:Nat} (h:Hq K x):gU x.den (K+1) (1-iN x):=by
 obtain ⟨z,e,h1⟩:=QX h;have hd:=h.2;unfold Bd at hd;refine ⟨(x.den:Int)-z,?_,?_⟩
 ·rw [yaj,yaY,uh,Rat.intCast_sub,<-e,vI];grind
 ·have a3:2^(K+1)=2^K*2:=y7 2 K;generalize 2^(K+1)=A at*
  generalize 2^K=B at*
  omega
def alu {s:List (List Int)} {i j k:Int} (h:∀c r,-1000<=eh s c r/\eh s c r<=1000):gU 1 10 (nC s i j k):=by
 have:=h (i+k%2) (j+k/2)
 exact gU.int (by omega)
def Ly {s:List (List Int)} {x y:Rat} {K:Nat} (h:∀c r,-1000<=eh s c r/\eh s c r<=1000) (kx:Hq K x) (ky:Hq K y):Hq (2*K+20) (fm s x y):=by
 have f:=(QX kx).mono (show K<=K+1 by omega);have u:=WK kx;have g:=(QX ky).mono (show K<=K+1 by omega);have v:=WK ky;have c:=fun i j k=>alu (i:=i) (j:=j) (k:=k) h
 have p0:=(u.mul v).mul (c (x.floor%s.length) (y.floor%s.length) 0);have p1:=(f.mul v).mul (c (x.floor%s.length) (y.floor%s.length) 1);have p2:=(u.mul g).mul (c (x.floor%s.length) (y.floor%s.length) 2);have p3:=(f.mul g).mul (c (x.floor%s.length) (y.floor%s.length) 3);have hx:=kx.2;have hy:=ky.2;unfold Bd at hx hy;have h1:0<x.den:=x.den_pos;have h2:0<y.den:=y.den_pos;have t:gU (x.den*y.den*1) (2*K+20) (fm s x y):=by
  have:=((((gU.zero (x.den*y.den*1)).add p0).add p1).add p2).add p3
  exact gU.mono (k:=_) this (by omega)
 refine t.Hq (vK (vK h1 h2) (by decide)) ?_;rw [yk];have q:x.den*y.den<2^K*2^K:=uQ (by omega) (by omega);rw [<-xL] at q;exact yu q (yV (by decide) (by omega))
def Gl (x:Rat) (a:Int):(x+(a:Rat)).floor=x.floor+a:=by
 have h1:(x.floor:Rat)<=x:=uB x;have h2:x<(x.floor:Rat)+1:=by
  have:=ui x
  rwa [wP] at this
 apply Int.le_antisymm
 ·have h3:((x+(a:Rat)).floor:Rat)<=x+a:=uB _;have h4:((x+(a:Rat)).floor:Rat)<((x.floor+a+1:Int):Rat):=by
   rw [wP,wP]
   have:((1:Int):Rat)=1:=rfl
   rw [this];grind
  have:=xN.1 h4
  omega
 ·have h4:(x+(a:Rat))<(((x+(a:Rat)).floor+1:Int):Rat):=by
   exact ui (x+(a:Rat))
  have h5:((x.floor+a:Int):Rat)<(((x+(a:Rat)).floor+1:Int):Rat):=by
   rw [wP] at*
   grind
  have:=xN.1 h5
  omega
def Pf (x:Rat) (a:Int):iN (x+(a:Rat))=iN x:=by
 unfold iN;rw [Gl,wP];grind
def gQ (s:List (List Int)) (c:Int) (y:Rat):Rat:=(1-iN y)*((eh s c y.floor:Int):Rat)+iN y*((eh s c (y.floor+1):Int):Rat)
def K7 (s:List (List Int)) (X Y:Int) (k:Int):nC s (X%s.length) (Y%s.length) k=((eh s (X+k%2) (Y+k/2):Int):Rat):=by
 unfold nC
 congr 1
 exact aiU rfl _ _ _ _ (ybI ..) (ybI ..)
def G9 (s:List (List Int)) (x y:Rat):fm s x y=(1-iN x)*gQ s x.floor y+iN x*gQ s (x.floor+1) y:=by
 unfold fm Ny lG oN gQ;rw [K7,K7,K7,K7];simp only [List.foldl_cons,List.foldl_nil];rw [show (0:Int)%2=0 from rfl,show (1:Int)%2=1 from rfl,show (2:Int)%2=0 from rfl,show (3:Int)%2=1 from rfl,show (0:Int)/2=0 from rfl,show (1:Int)/2=0 from rfl,show (2:Int)/2=1 from rfl,show (3:Int)/2=1 from rfl];simp only [tQ]
 grind
def KE (X:Int):(X:Rat).floor=X:=by
 have:=Gl 0 X
 rw [Rat.zero_add] at this;rw [this,show (0:Rat).floor=0 from rfl,ycM]
def QY (X:Int):iN (X:Rat)=0:=by unfold iN;rw [KE];grind
def K8 (x:Rat):0<=iN x/\iN x<1:=by
 have h1:=uB x;have h2:=ui x;rw [wP] at h2;unfold iN;exact ⟨by grind,by grind⟩
def V3 {t:Rat} (h0:0<=t) (h1:t<1):t.floor=0:=by
 have a:=uB t;have b:=ui t;have c:((t.floor:Int):Rat)<((1:Int):Rat):=by grind
 have d:((0:Int):Rat)<((t.floor+1:Int):Rat):=by grind
 have:=xN.1 c
 have:=xN.1 d
 omega
def PC (s:List (List Int)) (X:Int) {t:Rat} (h0:0<=t) (h1:t<=1) (y:Rat):fm s ((X:Rat)+t) y=(1-t)*gQ s X y+t*gQ s (X+1) y:=by
 by_cases c:t<1
 ·have hf:((X:Rat)+t).floor=X:=by rw [ycN,Gl,V3 h0 c,ycM]
  have hr:iN ((X:Rat)+t)=t:=by rw [ycN,Pf];unfold iN;rw [V3 h0 c];grind
  rw [G9,hf,hr]
 ·have ht:t=1:=yca h1 (vz.1 c);subst ht;have e:(X:Rat)+1=((X+1:Int):Rat):=by rw [wP];rfl
  rw [G9,e,KE,QY]
  grind
def alv (s:List (List Int)) (X:Int) {t u:Rat} (h0:0<=t) (h1:t<=1) (k0:0<=u) (k1:u<=1) (y:Rat):fm s (((X:Rat)+t+((X:Rat)+u))/2) y=(fm s ((X:Rat)+t) y+fm s ((X:Rat)+u) y)/2:=by
 have e:((X:Rat)+t+((X:Rat)+u))/2=(X:Rat)+(t+u)/2:=by grind
 rw [e,PC s X h0 h1,PC s X k0 k1,PC s X (t:=(t+u)/2) (by grind) (by grind)]
 grind
def alw (s:List (List Int)) (x y:Rat) (a b:Int):fm s (x+((a*s.length:Int):Rat)) (y+((b*s.length:Int):Rat))=fm s x y:=by
 unfold fm;rw [Gl,Gl,Pf,Pf,yak,yak]
def aiX (s:List (List Int)) (X Y:Int):fm s (X:Rat) (Y:Rat)=((eh s X Y:Int):Rat):=by
 rw [G9,KE,QY];unfold gQ;rw [KE,QY]
 grind
def QZ {f a b m:Rat} (h0:0<=f) (h1:f<1) (ha:a<=m) (hb:b<=m):(1-f)*a+f*b<=m:=by
 have p:=vS (show 0<=1-f by grind) (show 0<=m-a by grind);have q:=vS h0 (show 0<=m-b by grind)
 grind
def Q0 {f a b m:Rat} (h0:0<=f) (h1:f<1) (ha:m<=a) (hb:m<=b):m<=(1-f)*a+f*b:=by
 have p:=vS (show 0<=1-f by grind) (show 0<=a-m by grind);have q:=vS h0 (show 0<=b-m by grind)
 grind
def anQ {s:List (List Int)} {m:Int} (h:∀c r,eh s c r<=m) (x y:Rat):fm s x y<=(m:Rat):=by
 rw [G9];obtain ⟨a,b⟩:=K8 x;obtain ⟨c,d⟩:=K8 y;exact QZ a b (QZ c d (wb.2 (h _ _)) (wb.2 (h _ _))) (QZ c d (wb.2 (h _ _)) (wb.2 (h _ _)))
def anR {s:List (List Int)} {m:Int} (h:∀c r,m<=eh s c r) (x y:Rat):(m:Rat)<=fm s x y:=by
 rw [G9];obtain ⟨a,b⟩:=K8 x;obtain ⟨c,d⟩:=K8 y;exact Q0 a b (Q0 c d (wb.2 (h _ _)) (wb.2 (h _ _))) (Q0 c d (wb.2 (h _ _)) (wb.2 (h _ _)))
def P6 (s:List (List Int)) (h0:0<s.length) (c r:Int):∃i j:Nat,i<s.length/\j<s.length/\eh s c r=kv s j i:=by
 refine ⟨(c%s.length).toNat,(r%s.length).toNat,?_,?_,?_⟩
 ·have:=vv c (show (0:Int)<s.length by omega)
  have:=vm c (show (s.length:Int)≠0 by omega)
  omega
 ·have:=vv r (show (0:Int)<s.length by omega)
  have:=vm r (show (s.length:Int)≠0 by omega)
  omega
 ·unfold eh kv;rfl
section
def aqu (m a b c:Nat) (h:m<2^a) (hc:a+b=c):m*2^b<2^c:=by
 subst hc;rw [xL];exact xS h (xn _)
def anS (a b k:Nat) (h:a<b):a<b*2^k:=yu h (Nat.le_mul_of_pos_right _ (xn _))
open Ieee
def p2 (e:Int):Rat:=(2:Rat)^e
def ix (a b:Int):p2 (a+b)=p2 a*p2 b:=Rat.zpow_add (by decide) a b
def mF (e:Int):0<p2 e:=Rat.zpow_pos (by decide)
def RE (e:Int):p2 e≠0:=fun h=>by have:=mF e;rw [h] at this;exact absurd this (by decide)
def gj (n:Nat):p2 n=((2^n:Nat):Rat):=by
 unfold p2;rw [uR,Rat.natCast_pow];rfl
def aqv (n:Nat) (h:n≠0):1<p2 n:=by
 rw [gj n]
 have:((1:Nat):Rat)<((2^n:Nat):Rat):=by rw [vT];exact wO h
 exact this
def rD:p2 0=1:=by have:=gj 0;simpa using this
def S5:p2 1=2:=by have:=gj 1;simpa using this
def Q1 (e:Int):p2 (-e)*p2 e=1:=by rw [<-ix,show -e+e=0 by omega,rD]
structure Can (f:Format) (m:Nat) (e:Int):Prop where
 lp:f.leastPlace<=e
 lt:m<2^(f.fractionBits+1)
 ge:2^f.fractionBits<=m\/e=f.leastPlace
def fU (f:Format) (m:Nat) (e:Int):Nat:=(e-f.leastPlace).toNat*2^f.fractionBits+m
def aqw (f:Format):f.infRung<f.signWeight:=by
 have h:0<2^f.exponentBits:=xn _;have hb:0<2^f.fractionBits:=xn _;unfold Format.infRung Format.signWeight Format.binade;rw [xL];exact xS (by omega) hb
def aiY {f:Format} {m:Nat} {e:Int} (h:Can f m e) (s:Bool) (hr:fU f m e<f.infRung):f.read (f.word s (fU f m e))= .number s m e:=by
 have fO:=aqw f;have hb:0<2^f.fractionBits:=xn _;have lp:=h.lp;have lt:=h.lt;have ge:=h.ge;rw [y7] at lt;have eL:(f.word s (fU f m e)/f.signWeight%2==1)=s:=by
  unfold Format.word
  cases s with
  | true=>rw [yN rfl,Nat.add_div_left _ (by omega),xP (by omega)];rfl
  | false=>rw [yB (by decide),xP (by omega)];rfl
 have mg:f.word s (fU f m e)%f.signWeight=fU f m e:=by
  unfold Format.word
  cases s with
  | true=>rw [yN rfl,Nat.add_mod_left,yL (by omega)]
  | false=>rw [yB (by decide),yL (by omega)]
 unfold Format.read;simp only [eL,mg];obtain ⟨d,hd⟩:∃d:Nat,e=f.leastPlace+d:=⟨(e-f.leastPlace).toNat,by omega⟩;have fY:fU f m e=d*2^f.fractionBits+m:=by unfold fU;rw [hd,show (f.leastPlace+(d:Int)-f.leastPlace).toNat=d by omega]
 unfold Format.binade;by_cases c:fU f m e<2^f.fractionBits
 ·rw [yN c];have fB:d=0:=by
   rcases ge with ge | ge
   ·exfalso
    have:=tG (d*2^f.fractionBits)
    omega
   ·omega
  subst fB;rw [uv,yf] at fY;rw [fY,hd,Int.natCast_zero,tQ]
 ·rw [yB c,yN hr];have hm:2^f.fractionBits<=m:=by
   rcases ge with ge | ge
   ·exact ge
   ·have:d=0:=by omega
    subst this;rw [uv,yf] at fY;omega
  obtain ⟨x,hx⟩:∃x,m=2^f.fractionBits+x:=⟨m-2^f.fractionBits,by omega⟩;have hdiv:fU f m e/2^f.fractionBits=d+1:=by
   rw [fY,hx,<-uE,<-ycO,xy,Nat.mul_add_div hb,xP (by omega)]
  have CH:fU f m e%2^f.fractionBits=x:=by
   rw [fY,hx,<-uE,<-ycO,xy,Nat.mul_add_mod,yL (by omega)]
  rw [hdiv,CH,hx,hd,show d+1-1=d by omega]
def XE {n d:Nat} {neg:Bool}:Toward.even.cut neg (n*2^d) d=n:=by
 unfold Toward.cut;by_cases h0:n=0
 ·subst h0
  simp
 ·have hl:d<=(n*2^d).log2:=(ydb (vG (vK (by omega) (xn _)))).2 (Nat.le_mul_of_pos_left _ (by omega));have hp:0<2^d:=xn _;rw [xF (by omega),Nat.one_shiftLeft];simp only [Nat.mul_mod_left,Nat.mul_div_cancel _ hp,Nat.mul_zero];have h1:decide (2^d<0)=false:=by simp
  have h2:((2^d==0):Bool)=false:=by simpa using vG hp
  simp [h2]
def OP {n:Nat} (h:n≠0):∀d,(n*2^d).log2=n.log2+d
 | 0=>by simp
 | d+1=>by
  rw [y7,<-xp,xy (n*2^d) 2,Nat.log2_two_mul (vG (vK (by omega) (xn _))),OP h d];omega
def Can.last {f:Format} {m:Nat} {e:Int} (h:Can f m e) (h0:m≠0):max (e+m.log2-f.fractionBits) f.leastPlace=e:=by
 have lp:=h.lp;have h1:m.log2<f.fractionBits+1:=(yaZ h0).2 h.lt;rcases h.ge with g | g
 ·have:=(ydb h0).2 g
  omega
 ·omega
def YD {f:Format} {m:Nat} {e:Int} (h:Can f m e) (h0:m≠0) {m0:Nat} {e0:Int} (s:Bool) (hv:(m0:Rat)*p2 e0=(m:Rat)*p2 e):f.nearest s m0 e0=f.word s (min (fU f m e) f.infRung):=by
 have hl:=h.last h0;have lp:=h.lp;by_cases c:e0<=e
 ·obtain ⟨d,hd⟩:∃d:Nat,e=e0+d:=⟨(e-e0).toNat,by omega⟩;have hm:m0=m*2^d:=by
   rw [hd,ix,gj] at hv;have h1:(m0:Rat)=((m*2^d:Nat):Rat):=by
    rw [wc];have h2:p2 e0*p2 (-e0)=1:=by rw [ycP];exact Q1 e0
    have h3:(m0:Rat)*p2 e0*p2 (-e0)=(m:Rat)*(p2 e0*((2^d:Nat):Rat))*p2 (-e0):=congrArg (·*p2 (-e0)) hv;rw [wj,h2,wG] at h3;rw [h3]
    have:(m:Rat)*(p2 e0*((2^d:Nat):Rat))*p2 (-e0)=(m:Rat)*((2^d:Nat):Rat)*(p2 e0*p2 (-e0)):=by grind
    rw [this,h2,wG]
   exact_mod_cast h1
  have qt:m0≠0:=by rw [hm];exact vG (vK (by omega) (xn _))
  unfold Format.nearest;rw [yB qt];have lX:max (e0+m0.log2-f.fractionBits) f.leastPlace=e:=by
   rw [hm,OP h0,<-hl];omega
  dsimp only
  rw [lX];rw [show (e0-e).toNat=0 by omega,Nat.shiftLeft_zero,show (e-e0).toNat=d by omega,hm,XE];rfl
 ·obtain ⟨d,hd⟩:∃d:Nat,e0=e+d:=⟨(e0-e).toNat,by omega⟩;have hm:m=m0*2^d:=by
   rw [hd,ix,gj] at hv;have h1:(m:Rat)=((m0*2^d:Nat):Rat):=by
    rw [wc];have h2:p2 e*p2 (-e)=1:=by rw [ycP];exact Q1 e
    have h3:(m0:Rat)*(p2 e*((2^d:Nat):Rat))*p2 (-e)=(m:Rat)*p2 e*p2 (-e):=congrArg (·*p2 (-e)) hv;have h4:(m:Rat)*p2 e*p2 (-e)=m:=by rw [wj,h2,wG]
    rw [h4] at h3;rw [<-h3]
    have:(m0:Rat)*(p2 e*((2^d:Nat):Rat))*p2 (-e)=(m0:Rat)*((2^d:Nat):Rat)*(p2 e*p2 (-e)):=by grind
    rw [this,h2,wG]
   exact_mod_cast h1
  have qt:m0≠0:=fun q=>by rw [q,uv] at hm;exact h0 hm
  unfold Format.nearest;rw [yB qt];have lX:max (e0+m0.log2-f.fractionBits) f.leastPlace=e:=by
   rw [hm,OP qt] at hl;rw [<-hl];omega
  dsimp only
  rw [lX];rw [show (e0-e).toNat=d by omega,show (e-e0).toNat=0 by omega,ybO,<-hm]
  have:=XE (n:=m) (d:=0) (neg:=s)
  rw [Nat.pow_zero,yk] at this;rw [this];rfl
end
section
open Ieee
structure mY (f:Format) (b:Nat) (s:Bool) (m:Nat) (e:Int):Prop where
 can:Can f m e
 lt:fU f m e<f.infRung
 eq:b=f.word s (fU f m e)
def mY.read {f:Format} {b:Nat} {s:Bool} {m:Nat} {e:Int} (h:mY f b s m e):f.read b= .number s m e:=by
 rw [h.eq];exact aiY h.can s h.lt
def sg (s:Bool):Rat:=if s then -1 else 1
def fv (s:Bool) (m:Nat) (e:Int):Rat:=sg s*((m:Rat)*p2 e)
def Zq {f:Format} {m:Nat} {e:Int} (h:Can f m e) (he:(e-f.leastPlace).toNat+2<=2^f.exponentBits-1):fU f m e<f.infRung:=by
 have aR:=h.lt;rw [y7] at aR;unfold fU Format.infRung Format.binade
 have:=yQ (2^f.fractionBits) he
 rw [wh] at this;omega
def aqx {f:Format} {n:Nat} {k:Int} (h0:n≠0) (hn:n<2^(f.fractionBits+1)) (hk:f.leastPlace<=k):∃m e,Can f m e/\m≠0/\e<=k/\(m:Rat)*p2 e=(n:Rat)*p2 k:=by
 have hl:=(yaZ h0).2 hn;obtain ⟨j,hj⟩:∃j:Nat,j=min (f.fractionBits-n.log2) (k-f.leastPlace).toNat:=⟨_,rfl⟩;have h1:2^n.log2<=n:=ybR h0;have h2:n<2^(n.log2+1):=ybS;refine ⟨n*2^j,k-j,⟨by omega,?_,?_⟩,vG (vK (by omega) (xn _)),by omega,?_⟩
 ·have:n*2^j<2^(n.log2+1)*2^j:=xS h2 (xn _)
  rw [<-xL] at this;exact yu this (yV (by decide) (by omega))
 ·by_cases c:f.fractionBits-n.log2<=(k-f.leastPlace).toNat
  ·left
   have:=yQ (2^j) h1
   rw [<-xL,show n.log2+j=f.fractionBits by omega] at this;exact this
  ·right;omega
 ·rw [wc,<-gj,wj,<-ix,show (j:Int)+(k-j)=k by omega]
def wr {f:Format} {n:Nat} {k:Int} (h0:n≠0) (hn:n<2^(f.fractionBits+1)) (hk:f.leastPlace<=k) (jc:(k-f.leastPlace).toNat+2<=2^f.exponentBits-1) {m0:Nat} {e0:Int} (s:Bool) (hv:(m0:Rat)*p2 e0=(n:Rat)*p2 k):∃m e,mY f (f.write (.number s m0 e0)) s m e/\m≠0/\(m:Rat)*p2 e=(n:Rat)*p2 k:=by
 obtain ⟨m,e,hc,hm,he,hq⟩:=aqx h0 hn hk;have hr:=Zq hc (by have:=hc.lp;omega);refine ⟨m,e,⟨hc,hr,?_⟩,hm,hq⟩;show f.nearest s m0 e0=_
 rw [YD hc hm s (hv.trans hq.symm),xF (by omega)]
def abi (f:Format):Can f 0 f.leastPlace:=⟨yba _,xn _,.inr rfl⟩
def wr0 {f:Format} (s:Bool) (e0:Int) (hi:0<f.infRung):mY f (f.write (.number s 0 e0)) s 0 f.leastPlace:=by
 have hr:fU f 0 f.leastPlace=0:=by unfold fU;rw [Int.sub_self];simp
 refine ⟨abi f,by rw [hr];exact hi,?_⟩
 rw [hr];show f.nearest s 0 e0=_
 unfold Format.nearest;rw [yN rfl]
end
section
open Ieee
abbrev zS (b:Nat) (s:Bool) (m:Nat) (e:Int):Prop:=mY single b s m e
def Gh:single.leastPlace= -149:=by decide
def zS.b {b m:Nat} {s:Bool} {e:Int} (h:zS b s m e): -149<=e/\m<16777216/\(8388608<=m\/e= -149)/\e<=104:=by
 have h1:=h.can.lp;have h2:=h.can.lt;have h3:=h.can.ge;have h4:=h.lt;rw [Gh] at h1 h3;have h4:(e-single.leastPlace).toNat*8388608+m<2139095040:=h4;rw [Gh] at h4;have h2:m<16777216:=h2;have h3:8388608<=m\/e= -149:=h3;exact ⟨h1,h2,h3,by omega⟩
def OG {n:Nat} {k:Int} (h0:n≠0) (hn:n<16777216) (hk: -149<=k) (jc:k<=104) {m0:Nat} {e0:Int} (s:Bool) (hv:(m0:Rat)*p2 e0=(n:Rat)*p2 k):∃m e,zS (single.write (.number s m0 e0)) s m e/\m≠0/\(m:Rat)*p2 e=(n:Rat)*p2 k:=
 wr (f:=single) h0 hn (by rw [Gh];exact hk) (by rw [Gh];show _<=255;omega) s hv
def ac2 (s:Bool) (e0:Int):zS (single.write (.number s 0 e0)) s 0 (-149):=by
 have:=wr0 (f:=single) s e0 (by decide)
 rwa [Gh] at this
def ofInt {n:Int} (h:n.natAbs<=16777216):∃m e,zS (single.write (.number (n<0) n.natAbs 0)) (n<0) m e/\(m:Rat)*p2 e=(n.natAbs:Rat):=by
 by_cases h0:n.natAbs=0
 ·rw [h0];exact ⟨0,-149,ac2 _ _,by simp⟩
 ·by_cases h1:n.natAbs<16777216
  ·obtain ⟨m,e,k1,k2,k3⟩:=OG (n:=n.natAbs) (k:=0) h0 h1 (by omega) (by omega) (m0:=n.natAbs) (e0:=0) (n<0) rfl;exact ⟨m,e,k1,by rw [k3,rD,wG]⟩
  ·have h2:n.natAbs=16777216:=by omega
   obtain ⟨m,e,k1,k2,k3⟩:=OG (n:=8388608) (k:=1) (by decide) (by decide) (by omega) (by omega) (m0:=n.natAbs) (e0:=0) (n<0) (by rw [h2,rD,S5];decide+kernel)
   exact ⟨m,e,k1,by rw [k3,h2,S5];decide+kernel⟩
def Lz {m:Nat} {s:Bool} {e base:Int} (h:base<=e):((signed s m (e-base).toNat:Int):Rat)*p2 base=fv s m e:=by
 have:p2 e=p2 ((e-base).toNat:Nat)*p2 base:=by rw [<-ix,show ((e-base).toNat:Int)+base=e by omega]
 unfold signed fv sg;rw [this,ybO,gj]
 cases s with
 | true=>
  rw [yN rfl,yN rfl,yag]
  have:(((m*2^(e-base).toNat:Nat):Int):Rat)=(m:Rat)*((2^(e-base).toNat:Nat):Rat):=by rw [<-wc];rfl
  rw [this];grind
 | false=>
  rw [yB (by decide),yB (by decide)]
  have:(((m*2^(e-base).toNat:Nat):Int):Rat)=(m:Rat)*((2^(e-base).toNat:Nat):Rat):=by rw [<-wc];rfl
  rw [this];grind
def anT {x y m n:Nat} {s t:Bool} {e j:Int} (hx:zS x s m e) (hy:zS y t n j):single.order x y=some (if fv s m e<fv t n j then .lt else if fv s m e=fv t n j then .eq else .gt):=by
 unfold Format.order;rw [hx.read,hy.read];unfold Datum.order;have h1:=Lz (m:=m) (s:=s) (show min e j<=e by omega);have h2:=Lz (m:=n) (s:=t) (show min e j<=j by omega);have hp:=mF (min e j)
 dsimp only
 generalize signed s m (e-min e j).toNat=a at*
 generalize signed t n (j-min e j).toNat=b at*
 rw [<-h1,<-h2]
 congr 1
 have lt_iff:(a:Rat)*p2 (min e j)<(b:Rat)*p2 (min e j)↔a<b:=by
  constructor
  ·intro q
   have:=(wH hp).1 q
   exact_mod_cast this
  ·intro q;exact (wH hp).2 (by exact_mod_cast q)
 have eq_iff:(a:Rat)*p2 (min e j)=(b:Rat)*p2 (min e j)↔a=b:=by
  constructor
  ·intro q;rcases uM a b with c | c | c
   ·have:=lt_iff.2 c;rw [q] at this;exact absurd this (vN)
   ·exact c
   ·have:=(wH hp).2 (show (b:Rat)<a by exact_mod_cast c);rw [q] at this;exact absurd this (vN)
  ·intro q;rw [q]
 rcases uM a b with c | c | c
 ·rw [yN (lt_iff.2 c)];exact ybJ.2 c
 ·rw [yB (fun q=>by have:=lt_iff.1 q;omega),yN (eq_iff.2 c)];exact ybK.2 c
 ·rw [yB (fun q=>by have:=lt_iff.1 q;omega),yB (fun q=>by have:=eq_iff.1 q;omega)];exact ybL.2 c
end
section
open Ieee
def gV (m:Nat) (e:Int):Nat:=m*2^(e+149).toNat
structure Fl (b:Nat) (s:Bool) (M:Nat):Prop where
 ex:∃m e,zS b s m e/\M=gV m e
def Ha {m:Nat} {e:Int} (h: -149<=e):((gV m e:Nat):Rat)=(m:Rat)*p2 e*p2 149:=by
 unfold gV;rw [wc,<-gj,wj,<-ix,show ((e+149).toNat:Int)=e+149 by omega]
def aqy:p2 149≠0:=RE 149
def anU {m n:Nat} {e j:Int} (h1: -149<=e) (h2: -149<=j) (h:(m:Rat)*p2 e=(n:Rat)*p2 j):gV m e=gV n j:=by
 have:((gV m e:Nat):Rat)=((gV n j:Nat):Rat):=by rw [Ha h1,Ha h2,h]
 exact_mod_cast this
def Fl.lt {b:Nat} {s:Bool} {M:Nat} (h:Fl b s M):M<2^277:=by
 obtain ⟨m,e,h1,rfl⟩:=h.ex;obtain ⟨b1,b2,b3,b4⟩:=h1.b;unfold gV;have h3:2^(e+149).toNat<=2^253:=yV (by decide) (by omega);have h4:=Nat.mul_le_mul (Nat.le_of_lt_succ (show m<16777215+1 from b2)) h3;exact we h4 (aqu 16777215 24 253 277 (by decide) rfl)
def eE (s:Bool) (M:Nat):Int:=if s then -(M:Int) else M
def abj {s:Bool} {m:Nat} {e:Int} (h: -149<=e):fv s m e*p2 149=((eE s (gV m e):Int):Rat):=by
 unfold fv sg eE
 cases s with
 | true=>
  rw [yN rfl,yN rfl,yag]
  have:=Ha (m:=m) h
  have h2:(((gV m e:Nat):Int):Rat)=((gV m e:Nat):Rat):=rfl;rw [h2,this];grind
 | false=>
  rw [yB (by decide),yB (by decide)]
  have:=Ha (m:=m) h
  have h2:(((gV m e:Nat):Int):Rat)=((gV m e:Nat):Rat):=rfl;rw [h2,this];grind
def Fl.ord {x y:Nat} {s t:Bool} {M N:Nat} (hx:Fl x s M) (hy:Fl y t N):single.order x y=some (if eE s M<eE t N then .lt else if eE s M=eE t N then .eq else .gt):=by
 obtain ⟨m,e,h1,rfl⟩:=hx.ex;obtain ⟨n,j,h2,rfl⟩:=hy.ex;rw [anT h1 h2];have q1:=abj (s:=s) (m:=m) h1.b.1;have q2:=abj (s:=t) (m:=n) h2.b.1;have hp:=mF 149;have lt_iff:fv s m e<fv t n j↔eE s (gV m e)<eE t (gV n j):=by
  rw [<-wH hp,q1,q2];exact xN
 have eq_iff:fv s m e=fv t n j↔eE s (gV m e)=eE t (gV n j):=by
  constructor
  ·intro q;rw [q,q2] at q1;exact (ycb.1 q1).symm
  ·intro q
   have:fv s m e*p2 149=fv t n j*p2 149:=by rw [q1,q2,q]
   have h3:=congrArg (·*(p2 149)⁻¹) this;simpa only [wj,tK _ aqy,wG] using h3
 congr 1
 by_cases c1:eE s (gV m e)<eE t (gV n j)
 ·rw [yN c1,yN (lt_iff.2 c1)]
 ·rw [yB c1,yB (fun q=>c1 (lt_iff.1 q))];by_cases c2:eE s (gV m e)=eE t (gV n j)
  ·rw [yN c2,yN (eq_iff.2 c2)]
  ·rw [yB c2,yB (fun q=>c2 (eq_iff.1 q))]
def Fl.ofInt {n:Int} (h:n.natAbs<=16777216):Fl (single.write (.number (n<0) n.natAbs 0)) (n<0) (n.natAbs*2^149):=by
 obtain ⟨m,e,k1,k2⟩:=VE.ofInt h;refine ⟨m,e,k1,?_⟩;have b1:=k1.b.1
 have:((n.natAbs*2^149:Nat):Rat)=((gV m e:Nat):Rat):=by
  rw [Ha b1,k2,wc,<-gj];rfl
 exact_mod_cast this
def Fl.zero:Fl 0 false 0:=⟨0,-149,⟨by rw [<-Gh];exact abi single,by decide,by decide⟩,by decide⟩
def Fl.neg {b:Nat} {s:Bool} {M:Nat} (h:Fl b s M):Fl (b^^^2147483648) (!s) M:=by
 obtain ⟨m,e,h1,rfl⟩:=h.ex;refine ⟨m,e,⟨h1.can,h1.lt,?_⟩,rfl⟩;have hr:fU single m e<2^31:=Nat.lt_trans h1.lt (by decide);have sw:single.signWeight=2^31:=by decide
 rw [h1.eq];unfold Format.word;rw [sw];have hx:fU single m e^^^2147483648=2^31+fU single m e:=by
  rw [show (2147483648:Nat)=2^31*1 by decide,Nat.xor_comm]
  have:=yal hr 1
  have h2:=Nat.xor_mod_two_pow (a:=fU single m e) (b:=2^31*1) (n:=31);refine ybb fun i=>?_
  rw [Nat.testBit_xor,show 2^31+fU single m e=2^31*1+fU single m e by omega,yam _ hr,Nat.testBit_two_pow_mul];by_cases c:i<31
  ·simp [c,show ¬31<=i by omega]
  ·have:uV (fU single m e) i=false:=yaJ (yu hr (yV (by decide) (by omega)))
   simp [c,this,show 31<=i by omega]
 cases s with
 | false=>rw [yB (by decide),hx];rfl
 | true=>
  rw [yN rfl]
  have:(2^31+fU single m e)^^^2147483648=fU single m e:=by rw [<-hx,Nat.xor_assoc,Nat.xor_self,Nat.xor_zero]
  rw [this];rfl
end
section
open Go (IntKind)
open Ieee
section
variable {x y M N:Nat} {s t:Bool} (hx:Fl x s M) (hy:Fl y t N)
include hx hy
theorem asf:binOp .neq (.aK .f32 x) (.aK .f32 y)=some (.bool (!decide (eE s M=eE t N))):=by
 show some (AV.bool (single.order x y !=some .eq))=_
 rw [hx.ord hy];by_cases c:eE s M<eE t N
 ·rw [yN c,yY (by omega)];rfl
 ·rw [yB c];by_cases d:eE s M=eE t N
  ·rw [yN d,xj d];rfl
  ·rw [yB d,yY d];rfl
end
def abk (b:Nat):unOp .neg (.aK .f32 b)=some (.aK .f32 (b^^^2147483648)):=rfl
def anV {n:Int} (h:n.natAbs<=16777216):∃b,iB (.toFlt .f32) (.int .i64 n)=some (.aK .f32 b)/\Fl b (n<0) (n.natAbs*2^149):=
 ⟨_,rfl,Fl.ofInt h⟩
end
def asg (n k:Nat) (h:n<k) (h0:k≠0):Hq k ((2:Rat)^n):=by
 refine ⟨?_,?_⟩
 ·rw [ydc];unfold Bd;show ((2:Int)^n).natAbs<_
  rw [Int.natAbs_pow];exact tB (by decide) h
 ·rw [ydd];unfold Bd;show (((1:Nat)^n:Nat):Int).natAbs<_
  rw [Nat.one_pow];exact wO h0
def sf (s:Bool) (M:Nat):Rat:=((eE s M:Int):Rat)*p2 (-149)
section
variable {P:aF} {L:Lib}
def ac3 (h:Fr' P L) (pR:Has P L 155 Ee) (CE:Has P L 241 Ir) {v:AV} {a:Rat} {K k:Nat} (hv:bO v a) (ka:Hq K a) (hK:K*k+1<=30000000000) (hk:k<9223372036854775808):∃r,ah P L 241 [v,aa k] r/\bO r (a^k):=by
 obtain ⟨s1,w1,s2,w2,rfl,h1,h2⟩:=hv;obtain ⟨l1,u1⟩:=h1.aB;obtain ⟨l2,u2⟩:=h2.aB;obtain ⟨n,e1,hn⟩:=SK h.toNu pR ⟨s1,w1,rfl,h1⟩ ka.1 hK hk;obtain ⟨d,e2,hd⟩:=SK h.toNu pR ⟨s2,w2,rfl,h2⟩ ka.2 hK hk;obtain ⟨s3,w3,rfl,h3⟩:=hn;obtain ⟨s4,w4,rfl,h4⟩:=hd;obtain ⟨l3,u3⟩:=h3.aB;obtain ⟨l4,u4⟩:=h4.aB;refine ⟨.agg [aa s3,w3,aa s4,w4],?_,s3,w3,s4,w4,rfl,by rw [ydc];exact h3,by rw [ydd,Int.natCast_pow];exact h4⟩
 unfold ah at e1 e2;unfold ah;rw [aC CE];simp only [go_sem,ya,yd,Ir,aM,u1.pu,u1.ai,u1.one,u2.pu,u2.ai,u2.one,u3.one,u4.one,bl,yf,nB,qY,bA,e1,e2,bc,Ah,Ai,jn u3 u4,de,df,yo,dC,jB u3 u4]
def Z6:Hq 2 (2:Rat):=⟨by unfold Bd;decide,by unfold Bd;decide⟩
def ac4 (h:Fr' P L) (pR:Has P L 155 Ee) (CE:Has P L 241 Ir) (I5:Has P L 228 Iq) {k:Int} (hk: -100000<=k/\k<=100000):∃r,ah P L 228 [aa k] r/\bO r (p2 k):=by
 obtain ⟨t,e1,ht⟩:=E8 h (z:=2) (by decide) (by decide);have ht:bO t (2:Rat):=ht;have un:=pE;obtain ⟨t1,t2,t3,t4,rfl,ft⟩:=ht.gen;by_cases c:k<0
 ·obtain ⟨n,hn⟩:∃n:Nat,k= -(n:Int):=⟨k.natAbs,by omega⟩;obtain ⟨q,e2,hq⟩:=ac3 h pR CE ht Z6 (k:=n) (by omega) (by omega);have kq:Hq 100001 ((2:Rat)^n):=asg n 100001 (by omega) (by decide);have h0:(2:Rat)^n≠0:=by
   have:=RE n
   rwa [show p2 n=(2:Rat)^n from uR _ _] at this
  obtain ⟨r,e3,hr⟩:=m73 h hq h0 kq (by decide);obtain ⟨q1,q2,q3,q4,rfl,fq⟩:=hq.gen;have hp:((2:Rat)^n)⁻¹=p2 k:=by
   rw [hn];unfold p2;rw [ycQ,uR]
  rw [hp] at hr;have bC:=hr;obtain ⟨s1,w1,s2,w2,rfl,k1,k2⟩:=hr;obtain ⟨l1,u1⟩:=k1.aB;obtain ⟨l2,u2⟩:=k2.aB;refine ⟨_,?_,bC⟩;have wn:IntKind.wrap .i64 (0-k)=(n:Int):=by rw [wrap64 (by omega) (by omega)];omega
  unfold ah at e1 e2 e3;unfold ah;rw [aC I5];simp only [go_sem,ya,yd,Iq,aM,c,yx,e1,ft.ai,wn,e2,fq.ai,e3,bc,jn u1 u2,de,df,yo,dC,jB u1 u2]
 ·obtain ⟨n,hn⟩:∃n:Nat,k=(n:Int):=⟨k.natAbs,by omega⟩;subst hn;obtain ⟨r,e2,hr⟩:=ac3 h pR CE ht Z6 (k:=n) (by omega) (by omega);have hp:(2:Rat)^n=p2 n:=(uR _ _).symm;rw [hp] at hr;have bC:=hr;obtain ⟨s1,w1,s2,w2,rfl,k1,k2⟩:=hr;obtain ⟨l1,u1⟩:=k1.aB;obtain ⟨l2,u2⟩:=k2.aB;refine ⟨_,?_,bC⟩;unfold ah at e1 e2;unfold ah;rw [aC I5];simp only [go_sem,ya,yd,Iq,aM,c,yE,e1,ft.ai,e2,bc,jn u1 u2,de,df,yo,dC,jB u1 u2]
def abl (k:Int):Hq (k.natAbs+2) (p2 k):=by
 by_cases c:0<=k
 ·obtain ⟨n,rfl⟩:∃n:Nat,k=n:=⟨k.natAbs,by omega⟩;rw [show p2 (n:Int)=((2^n:Nat):Int) from gj n];exact ⟨by rw [wX];unfold Bd;rw [xq];exact tB (by decide) (by omega),by rw [wY];unfold Bd;exact wO (by omega)⟩
 ·obtain ⟨n,rfl⟩:∃n:Nat,k= -(n:Int):=⟨k.natAbs,by omega⟩
  have:p2 (-(n:Int))=(p2 n)⁻¹:=by unfold p2;rw [ycQ]
  rw [this];refine Hq.inv ?_;rw [show p2 (n:Int)=((2^n:Nat):Int) from gj n];exact ⟨by rw [wX];unfold Bd;rw [xq];exact tB (by decide) (by omega),by rw [wY];unfold Bd;exact wO (by omega)⟩
def auv (k:Int) (hk:k.natAbs<=900):Hq 1001 (p2 k):=(abl k).mono (by omega)
end
def OY {B:Nat} {H:Hp}:∀{J:Hp},(∀p,p∈J->B<=p.1)->dS B (J++H)=dS B H
 | [],_=>rfl
 | (id,o)::r,h=>by
  have:=h (id,o) (by simp)
  rw [yX,dS,As (by simpa using this),yG,OY fun p hp=>h p (by simp [hp])]
def XF {B:Nat} {f:Nat->Option Nat} {H:Hp}:∀{J:Hp},(∀p,p∈J->B<=p.1)->jP B f (J++H)=jP B f H
 | [],_=>rfl
 | (id,o)::r,h=>by
  have:=h (id,o) (by simp)
  rw [yX,jP,As (by simpa using this),yG,XF fun p hp=>h p (by simp [hp])]
def afm {live:List Nat} {tm:Env} {B ct:Nat} {J old:Hp} {rs:List (List AV)} (hJ:∀p,p∈J->B+rs.length<=p.1) (ht:jw B (cG tm live)) (ho:pK B (B+rs.length) old) (hl:(ff (cG tm live)).length+(dS B old).length<100000)
  (hr:(dS B old).filter (fun x=> !yJ x B)=xI B rs.length):aT live ⟨tm,J++(bf B rs++old),ct,B⟩=⟨cG tm live,bf B rs++old,B+rs.length,B⟩:=by
 have Vg:∀p,p∈J->B<=p.1:=fun p hp=>by have:=hJ p hp;omega
 have jq:∀i (h:i<rs.length),ak (J++(bf B rs++old)) (B+i)=some (.cells true true true 1 (rs.reverse[i]'(by simpa using h))):=fun i h=>by
  rw [GI (b:=B+rs.length) (by omega) hJ];exact KD h
 have LS:reach (J++(bf B rs++old)) B 100000 (ff (cG tm live)++dS B (J++(bf B rs++old))) []=xI B rs.length:=by
  have:=Km (hp:=J++(bf B rs++old)) (B:=B) (R:=rs.length) (fun i hi=>⟨_,_,_,_,jq i hi⟩) (ff (cG tm live)++dS B (J++(bf B rs++old))) 100000 0 (by rw [OY Vg,Gm,yR];exact hl) (tG _) (by
   rw [ybf,OY Vg,Gm,hr,tD.2 (fun x hx=>by
    have:=Gs ht x hx
    simp [lV this])]
   simp)
  simpa using this
 have hid:∀x,x<B+rs.length->jx B (xI B rs.length) x=some x:=fun x hx=>VY hx
 have hn:=Pc (hp:=J++(bf B rs++old)) (f:=jx B (xI B rs.length)) rs.reverse B old (fun i hi=>jq i (by simpa using hi));rw [List.length_reverse] at hn;simp only [aT,LS,XF Vg,Pb,OW hid ho,hn,Py,ybg]
 rw [Kl (n:=B) (fun x hx=>hid x (by omega)) ht]
section
variable {P:aF} {L:Lib}
noncomputable def cd (b n R:Nat) (fnv:AV) (st:Nat) (H:Hp):Hp:=
 (b+4,.lp (ju b n fnv) [12,13] Ap Aq st .none)::(b+3,.cells true false true 1 [.ay (b+2) 0 n])::(b+2,.cells true (yr R 0) true 1 (fM (b+5) n R))::(b+1,.cells true (aW fnv) true 1 [fnv])::(b,.cells true true true 1 [.int .i64 n])::H
end
def Vr {live:List Nat} {tm:Env} {b n ct st:Nat} {fnv:AV} {J H:Hp} {rs:List (List AV)} (hJ:∀p,p∈J->b+5+rs.length<=p.1) (ho:Mb b fnv H) (hn:rs.length<=n) (fa:n<=1000) (ht:jw (b+5) (cG tm live)) (hl:(ff (cG tm live)).length<=1000):
  aT live ⟨tm,J++(bf (b+5) rs++cd b n rs.length fnv st H),ct,b+5⟩=⟨cG tm live,bf (b+5) rs++cd b n rs.length fnv st H,b+5+rs.length,b+5⟩:=by
 have D8:mC (b+5+rs.length) (.cells true (yr rs.length 0) true 1 (fM (b+5) n rs.length)):= .inr agR;have aqz:ji (.cells true (yr rs.length 0) true 1 (fM (b+5) n rs.length))=xI (b+5) rs.length:=by
  cases rs with
  | nil=>rfl
  | cons c r=>simp only [ji,yz,bW (ybM _),yG,aix]
 have hTM:jw b (ju b n fnv)->True:=fun _=>trivial
 have ac5:jw (b+4) (ju b n fnv):=by
  have:=Kn (show b<=b+4 by omega) ho.fv
  refine ⟨⟨trivial,trivial,trivial⟩,trivial,show b+3<b+4 by omega,show b+2<b+4 by omega,trivial,trivial,show b+1<b+4 by omega,show b<b+4 by omega,trivial,this,trivial⟩
 have ayC:(ff (ju b n fnv)).length<=1010:=by
  have:=ho.fl
  simp [ju,ff,refs,eG];omega
 have nS:(ji (.cells true (aW fnv) true 1 [fnv])).length<=1000:=by
  cases aW fnv with
  | true=>simp [ji]
  | false=>simp [ji,eG];exact ho.fl
 have hHr:=Vy (B:=b+5) (show b<=b+5 by omega) ho.hb;have e:dS (b+5) (cd b n rs.length fnv st H)=ff (ju b n fnv)++([b+2]++(xI (b+5) rs.length++(ji (.cells true (aW fnv) true 1 [fnv])++([]++dS (b+5) H)))):=by
  simp only [cd,dS,lV (show b+4<b+5 by omega),lV (show b+3<b+5 by omega),lV (show b+2<b+5 by omega),lV (show b+1<b+5 by omega),lV (show b<b+5 by omega),yt,aqz];simp only [ji,eG,refs,yG,yt,xX]
 have no:∀(l:List Nat),(∀x,x∈l->x<b+5)->l.filter (fun x=> !yJ x (b+5))=[]:=fun l h=>tD.2 (fun x hx=>by simp [lV (h x hx)])
 have all:∀(k:Nat),(xI (b+5) k).filter (fun x=> !yJ x (b+5))=xI (b+5) k:=fun k=>List.filter_eq_self.2 (fun x hx=>by
  have:=(List.mem_range'_1.1 hx).1
  simp [As this])
 refine afm hJ ht ?_ ?_ ?_
 ·refine ⟨by omega,OX (by omega) ac5,by omega,.inr ⟨show b+2<_ by omega,trivial⟩,by omega,D8,by omega,.inr ⟨Kn (by omega) ho.fv,trivial⟩,by omega,.inl rfl,?_⟩;exact V1 (by omega) (fun o h=>af3 (by omega) h) ho.hb
 ·rw [e]
  have:=ho.hl (b+5)
  simp only [yR,ybg,yz,yK];omega
 ·rw [e];simp only [ybf]
  rw [no _ (fun x hx=>by have:=Gs ac5 x hx;omega),no [b+2] (fun x hx=>by simp at hx;omega),all,no _ (fun x hx=>by
   have h1:mC b (.cells true (aW fnv) true 1 [fnv]):= .inr ⟨ho.fv,trivial⟩
   have:=OV h1 x hx;omega),no [] (fun x hx=>by simp at hx),no _ (fun x hx=>by have:=hHr x hx;omega)]
  simp
def JX {live:List Nat} {tm:Env} {b n ct st:Nat} {fnv:AV} {H:Hp} {rs:List (List AV)} (ho:Mb b fnv H) (hn:rs.length<=n) (fa:n<=1000) (ht:jw (b+5) (cG tm live)) (hl:(ff (cG tm live)).length<=1000):
  aT live ⟨tm,bf (b+5) rs++cd b n rs.length fnv st H,ct,b+5⟩=⟨cG tm live,bf (b+5) rs++cd b n rs.length fnv st H,b+5+rs.length,b+5⟩:=
 Vr (J:=[]) (fun _ h=>by cases h) ho hn fa ht hl
def afb {live:List Nat} {tm:Env} {b n ct st x:Nat} {o:Obj} {fnv:AV} {H:Hp} {rs:List (List AV)} (hx:b+5+rs.length<=x) (ho:Mb b fnv H) (hn:rs.length<=n) (fa:n<=1000) (ht:jw (b+5) (cG tm live)) (hl:(ff (cG tm live)).length<=1000):
  aT live ⟨tm,(x,o)::(bf (b+5) rs++cd b n rs.length fnv st H),ct,b+5⟩=⟨cG tm live,bf (b+5) rs++cd b n rs.length fnv st H,b+5+rs.length,b+5⟩:=
 Vr (J:=[(x,o)]) (fun p h=>by rw [List.mem_singleton] at h;rw [h];exact hx) ho hn fa ht hl
section
variable {P:aF} {L:Lib}
section
variable {b n R st:Nat} {fnv:AV} {H:Hp} {rs:List (List AV)}
def agZ:ak (bf (b+5) rs++cd b n R fnv st H) b=some (.cells true true true 1 [.int .i64 n]):=by
 rw [qv (by omega)];simp only [cd,ak,bW (show b+4≠b by omega),bW (show b+3≠b by omega),bW (show b+2≠b by omega),bW (show b+1≠b by omega),xz,yG,yt]
def ag0:ak (bf (b+5) rs++cd b n R fnv st H) (b+1)=some (.cells true (aW fnv) true 1 [fnv]):=by
 rw [qv (by omega)];simp only [cd,ak,bW (show b+4≠b+1 by omega),bW (show b+3≠b+1 by omega),bW (show b+2≠b+1 by omega),xz,yG,yt]
def Ko:ak (bf (b+5) rs++cd b n R fnv st H) (b+2)=some (.cells true (yr R 0) true 1 (fM (b+5) n R)):=by
 rw [qv (by omega)];simp only [cd,ak,bW (show b+4≠b+2 by omega),bW (show b+3≠b+2 by omega),xz,yG,yt]
def Kp:ak (bf (b+5) rs++cd b n R fnv st H) (b+3)=some (.cells true false true 1 [.ay (b+2) 0 n]):=by
 rw [qv (by omega)];simp only [cd,ak,bW (show b+4≠b+3 by omega),xz,yG,yt]
def Kq:ak (bf (b+5) rs++cd b n R fnv st H) (b+4)=some (.lp (ju b n fnv) [12,13] Ap Aq st .none):=by
 rw [qv (by omega)];simp only [cd,ak,xz,yt]
def WL {st':Nat}:aU (bf (b+5) rs++cd b n R fnv st H) (b+4) (.lp (ju b n fnv) [12,13] Ap Aq st' .none)=bf (b+5) rs++cd b n R fnv st' H:=by
 rw [OL (by omega)];simp only [cd,aU,xz,yt]
def ag1:aU (bf (b+5) rs++cd b n R fnv st H) (b+2) (.cells true false true 1 (fM (b+5) n (R+1)))=bf (b+5) rs++cd b n (R+1) fnv st H:=by
 rw [OL (by omega)];simp only [cd,aU,bW (show b+4≠b+2 by omega),bW (show b+3≠b+2 by omega),xz,yG,yt,bW (ybM R)]
end
def LP {x y:Nat} {o:Obj} {H:Hp} (h:x≠y):ak ((x,o)::H) y=ak H y:=by rw [ak,bW h,yG]
def Z7 {x y:Nat} {o o':Obj} {H:Hp} (h:x≠y):aU ((x,o)::H) y o'=(x,o)::aU H y o':=by rw [aU,bW h,yG]
def V4 {b n r c:Nat} (hr:r<n) (hc:c<n) {fnv v:AV} {H H':Hp} {cur:List AV} {prev:List (List AV)} (hp:prev.length=r) (ayD:cur.length=n) (dN:bn v=true) (cz:aW v=true) {tm:Env} {ct base:Nat} {o:Obj} (eZ:b+5+r<ct)
  (h3:aj tm 3= .ptr (b+1) 0) (h5:aj tm 5= .ptr (b+3) 0) (h6:aj tm 6=aa c) (h7:aj tm 7=aa r)
  (eM:dj P L (D P L) (bf (b+5) (cur::prev)++cd b n (r+1) fnv 1 H) ct .dyn fnv [aa c,aa r]=some (v,(ct,o)::(bf (b+5) (cur::prev)++cd b n (r+1) fnv 1 H'),ct+1)):
  ∃tm',D P L (.jr [⟨some 21,none,.ld 1 false (.t 5)⟩,⟨some 22,none,.mj (.t 7)⟩,⟨some 23,none,.br 1 (.t 21) (.t 22)⟩,⟨some 24,none,.ld 1 false (.t 23)⟩,⟨some 25,none,.mj (.t 6)⟩,⟨some 26,none,.ld 1 false (.t 3)⟩,
   ⟨some 27,none,.mj (.t 6)⟩,⟨some 28,none,.mj (.t 7)⟩,⟨some 29,none,.gZ [(1,false,5),(1,false,23)] (.t 26) [(.t 27),(.t 28)]⟩,⟨some 30,none,.br 1 (.t 24) (.t 25)⟩,⟨none,none,.st 1 (.t 30) (.t 29)⟩])
   ⟨tm,bf (b+5) (cur::prev)++cd b n (r+1) fnv 1 H,ct,base⟩=some (.normal,⟨tm',(ct,o)::(bf (b+5) (over c [v] cur::prev)++cd b n (r+1) fnv 1 H'),ct+1,base⟩):=by
 have hl:∀H,ak (bf (b+5) (cur::prev)++cd b n (r+1) fnv 1 H) (b+5+r)=some (.cells true true true 1 cur):=fun H=>alq (by omega)
 have hs:∀H X,aU (bf (b+5) (cur::prev)++cd b n (r+1) fnv 1 H) (b+5+r) (.cells true true true 1 X)=bf (b+5) (X::prev)++cd b n (r+1) fnv 1 H:=fun H X=>alr (by omega)
 have LQ:cellsOf v=[v]:=by cases v<;>simp_all [cellsOf,bn]
 have j1:ct≠b+3:=by omega
 have j2:ct≠b+2:=by omega
 have j3:ct≠b+5+r:=by omega
 have zD:∀H,ak ((ct,o)::(bf (b+5) (cur::prev)++cd b n (r+1) fnv 1 H)) (b+5+r)=some (.cells true true true 1 cur):=fun H=>by rw [LP j3,hl]
 have aO:∀H,ij ((ct,o)::(bf (b+5) (cur::prev)++cd b n (r+1) fnv 1 H)) (ct+1) (b+5+r) c 1 [v] (some (.cells true true true 1 cur))=some (.au [],(ct,o)::(bf (b+5) (over c [v] cur::prev)++cd b n (r+1) fnv 1 H),ct+1):=fun H=>by
  rw [sY (sz:=1) (by rfl) (by omega) (by simp [bL,dN])];simp [aD,cz,Z7 j3,hs]
 have k3:∀H,ak ((ct,o)::(bf (b+5) (cur::prev)++cd b n (r+1) fnv 1 H)) (b+3)=some (.cells true false true 1 [.ay (b+2) 0 n]):=fun H=>by rw [LP j1,Kp]
 have k2:∀H,ak ((ct,o)::(bf (b+5) (cur::prev)++cd b n (r+1) fnv 1 H)) (b+2)=some (.cells true (yr (r+1) 0) true 1 (fM (b+5) n (r+1))):=fun H=>by rw [LP j2,Ko]
 simp only [go_sem,ya,yk,h3,h5,h6,h7,Kp,Ko,ag0,cT _ _ hr,yf,Xz,alo,eM];rw [anO]
 ·simp only [go_sem,ya,yk,cT _ _ hc,yf,LQ,zD,aO];exact ⟨_,rfl⟩
 ·simp only [lQ];simp only [go_sem,ya,h5,Kp,Ko,k3,k2,Xz,Mo,xz]
def afx {b n r c:Nat} (hr:r<n) (hc:c<n) (fa:n<=1000) {fnv:AV} (hf:bn fnv=true) {val:Nat->Nat->AV} (dN:bn (val c r)=true) (cz:aW (val c r)=true) {H H':Hp} {prev rs:List (List AV)} (hp:prev.length=r)
  (Bf:rs=if c=0 then prev else jR (.aK .f32 0) val n r c::prev)
  (eM:∀cur,∃o,dj P L (D P L) (bf (b+5) (cur::prev)++cd b n (r+1) fnv 1 H) (b+5+(r+1)) .dyn fnv [aa c,aa r]=some (val c r,(b+5+(r+1),o)::(bf (b+5) (cur::prev)++cd b n (r+1) fnv 1 H'),b+5+(r+1)+1)):
  ∃o,j9 (D P L) (bf (b+5) rs++cd b n rs.length fnv 0 H) (b+5+rs.length) (b+4) [aa c,aa r]=
   some (.bool true,(b+5+(r+1),o)::(bf (b+5) (jR (.aK .f32 0) val n r (c+1)::prev)++cd b n (r+1) fnv 0 H'),b+5+(r+1)+1):=by
 have LQ:cellsOf fnv=[fnv]:=by cases fnv<;>simp_all [cellsOf,bn]
 have hb:∃tm' o,D P L Aq ⟨(7,aa r)::(6,aa c)::(13,aa r)::(12,aa c)::ju b n fnv,bf (b+5) rs++cd b n rs.length fnv 1 H,b+5+rs.length,b+5+rs.length⟩=
   some (.normal,⟨tm',(b+5+(r+1),o)::(bf (b+5) (jR (.aK .f32 0) val n r (c+1)::prev)++cd b n (r+1) fnv 1 H'),b+5+(r+1)+1,b+5+rs.length⟩):=by
  by_cases h0:c=0
  ·subst h0;rw [yN rfl] at Bf;subst Bf;have aO:∀H,ij (bf (b+5) (yy n (.aK .f32 0)::rs)++cd b n r fnv 1 H) (b+5+r+1) (b+2) r 1 [.ay (b+5+r) 0 n] (some (.cells true (yr r 0) true 1 (fM (b+5) n r)))=
     some (.au [],bf (b+5) (yy n (.aK .f32 0)::rs)++cd b n (r+1) fnv 1 H,b+5+r+1):=fun H=>by
    rw [sY (sz:=1) (by rfl) (by rw [akQ (by omega)];omega) (by rfl),aiu hr];simp only [Wy,ZD,wB,ybX,ag1]
   obtain ⟨o,eM⟩:=eM (yy n (.aK .f32 0));obtain ⟨tm',h2⟩:=V4 (P:=P) (L:=L) (b:=b) (c:=0) hr hc (cur:=yy n (.aK .f32 0)) (prev:=rs) hp (by simp) dN cz (H:=H) (H':=H') (o:=o) (by omega) (ct:=b+5+r+1) (base:=b+5+r) (fnv:=fnv)
    (tm:=(20,.ptr (b+2) r)::(19,.ay (b+5+r) 0 n)::(18,.int .i64 n)::(17,aa r)::(16,.ay (b+2) 0 n)::(15,.bool true)::(14,aa ((0:Nat):Int))::(7,aa r)::(6,aa ((0:Nat):Int))::(13,aa r)::(12,aa ((0:Nat):Int))::ju b n fnv)
    (by rfl) (by rfl) (by rfl) (by rfl) eM
   refine ⟨tm',o,?_⟩;simp only [hp];show D P L (.dt _ (.seq (.seq (.jr _) (.cond _ (.jr _) .skip)) (.jr _))) _=_
   rw [Rk,iz,iz,Rj]
   simp only [go_sem,ya,yk,ju,Kp,agZ,cT _ _ hr,yf,ybu,DQ (ct:=b+5+r) (sz:=1) (by':=4) (l:=n) (z:=[.aK .f32 0]) (by omega) (by omega) rfl rfl,P1,show aW (.aK .f32 0)=true from rfl]
   rw [alp (rs:=rs) (ct:=b+5+r) (by omega),Ko,aO];simp only [Za,aaO,Y9,ZB,fe];simp only [ju,ybu] at h2;rw [h2,Qh,<-Xr hc,aiw];rfl
  ·rw [yB h0] at Bf;subst Bf;obtain ⟨o,eM⟩:=eM (jR (.aK .f32 0) val n r c);obtain ⟨tm',h2⟩:=V4 (P:=P) (L:=L) (b:=b) (c:=c) hr hc (cur:=jR (.aK .f32 0) val n r c) (prev:=prev) hp (akR (by omega)) dN cz (H:=H) (H':=H') (o:=o) (by omega) (ct:=b+5+(r+1)) (base:=b+5+(r+1)) (fnv:=fnv)
    (tm:=(15,.bool false)::(14,aa c)::(7,aa r)::(6,aa c)::(13,aa r)::(12,aa c)::ju b n fnv)
    (by rfl) (by rfl) (by rfl) (by rfl) eM
   refine ⟨tm',o,?_⟩;simp only [yz,hp];show D P L (.dt _ (.seq (.seq (.jr _) (.cond _ (.jr _) .skip)) (.jr _))) _=_
   rw [Rk,iz,iz,Rj];simp only [ju] at h2 ⊢;simp only [go_sem,ya,show ¬(c:Int)=0 by omega];simp only [go_sem,ya] at h2;rw [h2,Qh,Xr hc]
 obtain ⟨tm',o,hb⟩:=hb;refine ⟨o,?_⟩;have hlen:b+5+(r+1)=b+5+(jR (.aK .f32 0) val n r (c+1)::prev).length:=by rw [yz,hp]
 rw [akP (Kq) (tm':=(13,aa r)::(12,aa c)::ju b n fnv) rfl (s1:=⟨(7,aa r)::(6,aa c)::(13,aa r)::(12,aa c)::ju b n fnv,bf (b+5) rs++cd b n rs.length fnv 0 H,b+5+rs.length,b+5+rs.length⟩) (by unfold Ap;simp only [go_sem,ya]) Kq
  (by simp only [WL];exact hb) (by rw [LP (by omega)];exact Kq),Z7 (by omega),WL]
structure LA (P:aF) (L:Lib) (b n:Nat) (fnv:AV) (val:Nat->Nat->AV) (Hs:Nat->Hp):Prop where
 n1:n<=1000
 Ce:∀k,Mb b fnv (Hs k)
 one:∀c r,bn (val c r)=true
 pu:∀c r,aW (val c r)=true
 call:∀c r,c<n->r<n->∀(iE:Hp) (ct:Nat),(∀p,p∈iE->b<=p.1)->b<=ct->∃o,dj P L (D P L) (iE++Hs (r*n+c)) ct .dyn fnv [aa c,aa r]=some (val c r,(ct,o)::(iE++Hs (r*n+c+1)),ct+1)
def lf (val:Nat->Nat->AV) (n r c:Nat):List (List AV):=if c=0 then fF val n r else jR (.aK .f32 0) val n r c::fF val n r
def af5 {val:Nat->Nat->AV} {n r c:Nat}:(lf val n r c).length=if c=0 then r else r+1:=by
 unfold lf;split<;>simp [BG]
def afy {val:Nat->Nat->AV} {n r c:Nat}:lf val n r (c+1)=jR (.aK .f32 0) val n r (c+1)::fF val n r:=by
 simp [lf]
def afz {val:Nat->Nat->AV} {n r:Nat} (hn:0<n):lf val n r n=fF val n (r+1):=by
 rw [lf,yB (by omega),aiv];rfl
def afA {val:Nat->Nat->AV} {n r:Nat}:lf val n r 0=fF val n r:=by simp [lf]
def XG {b n R st:Nat} {fnv:AV} {H:Hp} {rs:List (List AV)}:bf (b+5) rs++cd b n R fnv st H=(bf (b+5) rs++cd b n R fnv st [])++H:=by
 rw [xt];rfl
def aiZ {b n R st:Nat} {fnv:AV} {rs:List (List AV)} (p:Nat×Obj) (h:p∈bf (b+5) rs++cd b n R fnv st []):b<=p.1:=by
 rcases List.mem_append.1 h with h | h
 ·have:=XA p h;omega
 ·simp only [cd,wA,vX,ybj] at h;rcases h with rfl | rfl | rfl | rfl | rfl<;>simp
def ag2 {b n:Nat} {fnv:AV} {val:Nat->Nat->AV} {Hs:Nat->Hp} (hf:LA P L b n fnv val Hs) {r:Nat} (hr:r<n):
  ∀d st,(∃c:Nat,aT [0,1,3,5,6,9,10] st=⟨[(0,.fn (.y (b+4)) [] []),(1,.aH [.int .i64 n]),(3,aa r),(5,aa n),(6,aa r),(9,aa n),(10,aa c)],bf (b+5) (lf val n r c)++cd b n (lf val n r c).length fnv 0 (Hs (r*n+c)),b+5+(lf val n r c).length,b+5⟩/\c+d=n)->
   ∃ex s',D P L (.loop [0,1,3,5,6,9,10] Hk) st=some (ex,s')/\∃tm ct,s'=⟨tm,bf (b+5) (lf val n r n)++cd b n (lf val n r n).length fnv 0 (Hs (r*n+n)),ct,b+5⟩/\ex= .exit 2/\aj tm 0= .fn (.y (b+4)) [] []/\aj tm 1= .aH [.int .i64 n]/\aj tm 5=aa n/\aj tm 6=aa r:=by
 have n1:=hf.n1;intro dq sq;generalize bt:aT [0,1,3,5,6,9,10] sq=s0;revert bt s0 sq dq;apply dU;rintro d st ⟨c,rfl,hcd⟩;by_cases hc:c<n
 ·left
  obtain ⟨o,aqA⟩:=afx (P:=P) (L:=L) (b:=b) hr hc n1 (hf.Ce 0).one (hf.one c r) (hf.pu c r) (H:=Hs (r*n+c)) (H':=Hs (r*n+c+1)) (prev:=fF val n r) (rs:=lf val n r c) (BG val n r) rfl (fun cur=>by
   obtain ⟨o,ho⟩:=hf.call c r hc hr (bf (b+5) (cur::fF val n r)++cd b n (r+1) fnv 1 []) (b+5+(r+1)) aiZ (by omega);refine ⟨o,?_⟩
   rw [XG,ho,<-XG])
  have qX:∀(xs:List AV) (hp:Hp) (ct:Nat),dj P L (D P L) hp ct .heap (.fn (.y (b+4)) [] []) xs=j9 (D P L) hp ct (b+4) xs:=fun _ _ _=>rfl
  simp only [go_sem,ya,Hk,show (c:Int)<n by omega,qX,aqA,show (c:Int)+1=((c+1:Nat):Int) from rfl,wrapN (n:=c+1) (by omega)];refine ⟨_,d-1,rfl,by omega,c+1,?_,by omega⟩;rw [<-afy];have hlen:(lf val n r (c+1)).length=r+1:=by rw [af5,yB (by omega)]
  have A1:=fun (tm:Env) (ct:Nat)=>afb (tm:=tm) (ct:=ct) (b:=b) (n:=n) (st:=0) (x:=b+5+(r+1)) (o:=o) (live:=[0,1,3,5,6,9,10]) (rs:=lf val n r (c+1)) (by omega) (hf.Ce (r*n+c+1)) (by omega) n1
  simp only [hlen] at A1 ⊢;rw [A1]
  ·simp only [go_sem,ya];rfl
  ·simp only [go_sem,ya];exact ⟨⟨by omega,rfl,rfl⟩,trivial,trivial,trivial,trivial,trivial,trivial,trivial⟩
  ·simp only [go_sem,ya,yd,yp]
 ·right
  have:c=n:=by omega
  subst this;simp only [go_sem,ya,Hk,show ¬(c:Int)<c by omega];refine ⟨_,_,rfl,by simp,_,_,rfl,rfl,?_⟩;simp only [go_sem,ya]
  simp
def af6 {b n:Nat} (hn:0<n) {fnv:AV} {val:Nat->Nat->AV} {Hs:Nat->Hp} (hf:LA P L b n fnv val Hs):
  ∀d st,(∃r:Nat,aT [0,1,5,6] st=⟨[(0,.fn (.y (b+4)) [] []),(1,.aH [.int .i64 n]),(5,aa n),(6,aa r)],bf (b+5) (fF val n r)++cd b n (fF val n r).length fnv 0 (Hs (r*n)),b+5+(fF val n r).length,b+5⟩/\r+d=n)->
   ∃ex s',D P L (.loop [0,1,5,6] Hl) st=some (ex,s')/\∃tm ct,s'=⟨tm,bf (b+5) (fF val n n)++cd b n (fF val n n).length fnv 0 (Hs (n*n)),ct,b+5⟩/\ex= .exit 0:=by
 have n1:=hf.n1;intro dq sq;generalize bt:aT [0,1,5,6] sq=s0;revert bt s0 sq dq;apply dU;rintro d st ⟨r,rfl,fY⟩;by_cases hr:r<n
 ·left
  have hlen:(fF val n r).length=r:=BG val n r;have Ca:(fF val n (r+1)).length=r+1:=BG val n (r+1);have A1:=fun (tm:Env) (ct:Nat)=>JX (tm:=tm) (ct:=ct) (b:=b) (n:=n) (st:=0) (live:=[0,1,3,5,6,9,10]) (rs:=fF val n r) (hf.Ce (r*n)) (by omega) n1
  have D4:=fun (tm:Env) (ct:Nat) (live:List Nat)=>JX (tm:=tm) (ct:=ct) (live:=live) (b:=b) (n:=n) (st:=0) (rs:=fF val n (r+1)) (hf.Ce ((r+1)*n)) (by omega) n1
  simp only [hlen] at A1;simp only [Ca] at D4;simp only [go_sem,ya,Hl,show (r:Int)<n by omega,hlen];generalize hq:D P L (.loop [0,1,3,5,6,9,10] Hk) _=q;obtain ⟨ex,st,rfl,tm,ct,rfl,rfl,g0,g1,g5,g6⟩:=b9 hq (ag2 hf hr n) ⟨0,by
   simp only [afA,hlen,Nat.add_zero];rw [A1]
   ·simp only [go_sem,ya];rfl
   ·simp only [go_sem,ya];exact ⟨⟨by omega,rfl,rfl⟩,trivial,trivial,trivial,trivial,trivial,trivial,trivial⟩
   ·simp only [go_sem,ya,yd,yp],by omega⟩
  simp only [afz hn,Ca,show r*n+n=(r+1)*n by rw [wh,ybV]];rw [Qi,fe,Sg,D4]
  ·simp only [go_sem,ya,g0,g1,g5,g6,show (r:Int)+1=((r+1:Nat):Int) from rfl,wrapN (n:=r+1) (by omega)];refine ⟨_,d-1,rfl,by omega,r+1,?_,by omega⟩;rw [Ca,D4]
   ·simp only [go_sem,ya]
   ·simp only [go_sem,ya];exact ⟨⟨by omega,rfl,rfl⟩,trivial,trivial,trivial,trivial⟩
   ·simp only [go_sem,ya,yd,yp]
  ·simp only [go_sem,g0,g1,g5,g6];exact ⟨⟨by omega,rfl,rfl⟩,trivial,trivial,trivial,trivial⟩
  ·simp only [go_sem,yd,yp,g0,g1,g5,g6]
 ·right
  have:r=n:=by omega
  subst this;simp only [go_sem,ya,Hl,show ¬(r:Int)<r by omega];exact ⟨_,_,rfl,by simp,_,_,rfl,rfl⟩
structure BuTF (P:aF) (L:Lib):Prop where
 auw:Has P L 387 M1
 h96:Has P L 96 N5
 S4:Has P L 133 Ii
def auy (h:BuTF P L) (n:Int):bE P L (D P L) 96 [aa n]=some (.fn (.f 133) [] [.aH [aa n]]):=by
 rw [aC h.h96];simp only [go_sem,ya,yd,N5];rfl
def ag3 (h:BuTF P L) {b n:Nat} (hn:0<n) {fnv:AV} {val:Nat->Nat->AV} {Hs:Nat->Hp} (hf:LA P L b n fnv val Hs) (hb:∀p,p∈Hs (n*n)->p.1<b):
  ∃tm ct,D P L M1.body ⟨[(0,aa n),(1,fnv)],Hs 0,b,b⟩=some (.ret,⟨tm,jS b n fnv val (Hs (n*n)),ct,b⟩)/\aj tm 4= .ay (b+2) 0 n:=by
 have n1:=hf.n1;have eV:=(hf.Ce 0).one;have LQ:cellsOf fnv=[fnv]:=by cases fnv<;>simp_all [cellsOf,bn]
 have auz:∀ct,zj ct 1 24 [.ae] (some n) (some n)=some (.ay ct 0 n,.cells true true true 1 (yy n .ae)):=fun ct=>by
  rw [DQ (sz:=1) (by omega) (by omega) rfl rfl,P1];rfl
 have ash:fM (b+5) n 0=yy n .ae:=by simp [fM]
 have inner:∃tm ct,D P L Ii.body ⟨ew 0 [.fn (.y (b+4)) [] [],.aH [.int .i64 n]],(b+4,.lp (ju b n fnv) [12,13] Ap Aq 0 .none)::(b+3,.cells true false true 1 [.ay (b+2) 0 n])::(b+2,.cells true true true 1 (yy n .ae))::(b+1,.cells true (aW fnv) true 1 [fnv])::(b,.cells true true true 1 [.int .i64 n])::Hs 0,b+5,b+5⟩=
   some (.normal,⟨tm,bf (b+5) (fF val n n)++cd b n n fnv 0 (Hs (n*n)),ct,b+5⟩):=by
  have aO:(b+4,Obj.lp (ju b n fnv) [12,13] Ap Aq 0 .none)::(b+3,.cells true false true 1 [.ay (b+2) 0 n])::(b+2,.cells true true true 1 (yy n .ae))::(b+1,.cells true (aW fnv) true 1 [fnv])::(b,.cells true true true 1 [.int .i64 n])::Hs 0=
    bf (b+5) []++cd b n 0 fnv 0 (Hs 0):=by
   simp only [bf,xY,cd,ash];rfl
  rw [aO];simp only [go_sem,ya,Ii];generalize hq:D P L (.loop [0,1,5,6] Hl) _=q;have A1:=fun (tm:Env) (ct:Nat) (live:List Nat)=>JX (tm:=tm) (ct:=ct) (live:=live) (b:=b) (n:=n) (st:=0) (rs:=[]) (hf.Ce 0) (by simp) n1
  simp only [yK] at A1;obtain ⟨ex,st,rfl,tm,ct,rfl,rfl⟩:=b9 hq (af6 hn hf n) ⟨0,by
   simp only [fF,yK,uv];rw [A1]
   ·simp only [go_sem,ya];rfl
   ·simp only [go_sem,ya];exact ⟨⟨by omega,rfl,rfl⟩,trivial,trivial,trivial,trivial⟩
   ·simp only [go_sem,ya,yd,yp],by omega⟩
  have hlen:(fF val n n).length=n:=BG val n n;have D4:=fun (tm:Env) (ct:Nat) (live:List Nat)=>JX (tm:=tm) (ct:=ct) (live:=live) (b:=b) (n:=n) (st:=0) (rs:=fF val n n) (hf.Ce (n*n)) (by omega) n1
  simp only [hlen] at D4 ⊢;simp only [go_sem];rw [D4]
  ·exact ⟨_,_,rfl⟩
  ·simp only [go_sem]
   trivial
  ·simp only [go_sem,yp]
 obtain ⟨tm,ct,inner⟩:=inner;have hrf:=arP (P:=P) (L:=L) (f:= .t 11) (ps:=[12,13]) (as_:=Ap) (body:=Aq)
  (s:=⟨ju b n fnv,(b+3,.cells true false true 1 [.ay (b+2) 0 n])::(b+2,.cells true true true 1 (yy n .ae))::(b+1,.cells true (aW fnv) true 1 [fnv])::(b,.cells true true true 1 [.int .i64 n])::Hs 0,b+4,b⟩)
  (n:=133) (first:=[]) (cap:=[.aH [.int .i64 n]]) rfl h.S4.heap (G5 h.S4 inner (.inl rfl) rfl) Kq (by decide)
 have TE:db (bf (b+5) (fF val n n)++cd b n n fnv 0 (Hs (n*n))) (b+4)=jS b n fnv val (Hs (n*n)):=by
  rw [Vx (by omega),jS]
  simp only [cd,db,xz,yt,bW (show b+3≠b+4 by omega),bW (show b+2≠b+4 by omega),bW (show b+1≠b+4 by omega),bW (show b≠b+4 by omega),yG,
   XB (fun p hp=>by have:=hb p hp;omega:∀p,p∈Hs (n*n)->p.1≠b+4),bW (show n≠0 by omega)]
 have Gi:ak (jS b n fnv val (Hs (n*n))) (b+3)=some (.cells true false true 1 [.ay (b+2) 0 n]):=by
  rw [jS,qv (by omega),ak,xz,yt]
 simp only [ju] at hrf;simp only [go_sem,ya,yd,M1,LQ,aaR eV,auz,auy h,uE,hrf,show ¬b+1=b by omega,show ¬b+2=b by omega,show ¬b+3=b by omega];simp only [go_sem,TE,Gi];exact ⟨_,_,rfl,by simp only [go_sem]⟩
end
def A4:dB (.int .i64 1)=some 1:=rfl
section
variable {P:aF} {L:Lib}
def aqB (a b:Rat):cN (RT a) (RT b)=decide (a=b):=by
 by_cases h:a=b
 ·rw [xj h,h];exact P5 _
 ·rw [yY h];exact Lu (fun e=>h (Z5 e))
end
section
open Go (IntKind)
open Ieee
def ag4 (q:Rat):0<=bQ q.num↔0<=q:=by
 rw [<-yaq];unfold bQ;constructor
 ·intro h;split at h<;>omega
 ·intro h;split
  ·omega
  ·split<;>omega
def Kr (q:Rat):bQ q.num<0↔q<0:=by
 have h:=ag4 q;constructor
 ·intro c;exact uF.1 fun q'=>by have:=h.2 q';omega
 ·intro c;exact ybv.1 fun q'=>absurd (h.1 q') (uF.2 c)
def XH (q:Rat):(-q).num= -q.num:=rfl
def WM (q:Rat):0<bQ q.num↔0<q:=by
 have h:=Kr (-q);rw [XH] at h;have h2:0<bQ q.num↔bQ (-q.num)<0:=by
  unfold bQ;constructor
  ·intro c;split at c
   ·omega
   ·split at c
    ·omega
    ·rw [yN (by omega)];decide
  ·intro c;split at c
   ·rw [yB (by omega),yB (by omega)];decide
   ·split at c<;>omega
 rw [h2,h];constructor
 ·intro c;grind
 ·intro c;grind
def ag5 (q:Rat):bQ q.num=0↔q=0:=by
 have h1:=WM q;have h2:=Kr q;constructor
 ·intro c;have a1:¬0<q:=fun x=>by have:=h1.2 x;omega
  have a2:¬q<0:=fun x=>by have:=h2.2 x;omega
  exact yca (vz.1 a1) (vz.1 a2)
 ·rintro rfl;decide
structure KP (a:Rat) (k:Int):Prop where
 lo: -149<=k
 lt:a*p2 (-k)<16777216
 ge:8388608<=a*p2 (-k)\/k= -149
def nR (y:Rat):Nat:=if gJ<y-(y.floor.toNat:Rat)\/(y-(y.floor.toNat:Rat)=gJ/\y.floor.toNat%2=1) then y.floor.toNat+1 else y.floor.toNat
def aqC {n:Nat} {K:Nat} (h:n<2^K) (hK:1<=K):Hq K ((n:Nat):Rat):=
 ⟨by show Bd K (((n:Nat):Int):Rat).num;rw [wX];unfold Bd;rw [xq];exact h,by show Bd K ((((n:Nat):Int):Rat).den:Int);rw [wY];unfold Bd;exact wO (by omega)⟩
end
section
open Go (IntKind)
open Ieee
def NF (a:Rat) (o:Option Nat):Prop:=
 (p2 128<=a/\o=none)\/(a<p2 128/\∃k,KP a k/\k<=104/\((nR (a*p2 (-k))=16777216/\k=104/\o=none)\/(¬(nR (a*p2 (-k))=16777216/\k=104)/\o=some (nR (a*p2 (-k))*2^(149+k).toNat))))
def XI {y:Rat} (h:0<=y):((y.floor.toNat:Nat):Int)=y.floor:=by
 have:0<=y.floor:=ybT.2 h
 omega
def YE {y:Rat} (h0:0<=y) (h:y<16777216):y.floor.toNat<16777216:=by
 have h1:=XI h0;have h2:((y.floor:Int):Rat)<=y:=uB y;have h3:((y.floor:Int):Rat)<((16777216:Int):Rat):=by
  have:((16777216:Int):Rat)=16777216:=rfl
  grind
 have:y.floor<16777216:=xN.1 h3
 omega
def asi {y:Rat} (h0:0<=y) (h:y<16777216):nR y<=16777216:=by
 have:=YE h0 h
 unfold nR;split<;>omega
def alx {y:Rat} (h0:0<=y) (h:y<gJ):nR y=0:=by
 have hh:gJ=1/2:=by decide+kernel
 have hf:y.floor=0:=by
  have h1:0<=y.floor:=ybT.2 h0;have h2:((y.floor:Int):Rat)<=y:=uB y;have h3:((y.floor:Int):Rat)<((1:Int):Rat):=by
   rw [hh] at h
   have:((1:Int):Rat)=1:=rfl
   grind
  have:y.floor<1:=xN.1 h3
  omega
 unfold nR;rw [hf];rw [yB]
 ·rfl
 ·intro q;have e:((Int.toNat 0:Nat):Rat)=0:=rfl;rw [e] at q;rcases q with q | ⟨q,_⟩<;>grind
end
section
open Go (IntKind)
open Ieee
def ai0 (b:Nat):bM (.aK .f32 b)= .aK .f32 b:=rfl
def cL (a:Rat):Rat:=if a<0 then -a else a
def po (a:Rat) (M:Nat):Bool:=decide (a<0)&&decide (M≠0)
end
section
variable {P:aF} {L:Lib}
def abm (h:Tx P L) {v:AV} {z:Int} {K:Nat} (hv:ck v z) (hz:Bd K z) (hK:K<=4000000000) (kN:z≠0):∃B:Nat,ah P L 172 [v] (aa B)/\z.natAbs<2^B/\0<B/\2^(B-1)<=z.natAbs/\B<=K+64:=by
 obtain ⟨s,w,rfl,hn⟩:=hv;obtain ⟨l,u⟩:=hn.aB;obtain ⟨r,e1,hr⟩:=ru h.toNu hn;obtain ⟨ws,hw,g,JN,hb⟩:=hr;have hl:ws.length<=K/64+1:=mN JN hb (yu hz (Yw K));unfold ah at e1 ⊢;by_cases h0:ws=[]
 ·subst h0;exact absurd (show z.natAbs=0 by rw [<-hb];rfl) (by omega)
 ·have hp:0<ws.length:=List.length_pos_iff.2 h0;have lX:=GN JN h0;have qj:=gi (show 0<18446744073709551616 by decide) g (ws.length-1);have ei:=hw.br (i:=ws.length-1) (by omega);have di:=iP (b:=18446744073709551616) (l:=ws) (ws.length-1);have AY:=ll (sL g (ws.length-1));rw [yO,xF (by omega)] at AY;rw [show ws.length-1+1=ws.length by omega,yM (yA _)] at di;generalize ws.getD (ws.length-1) 0=top at*
  have e2:=ZW (P:=P) (f:=D P L) h.acn qj;have hle:=Lv 64 top;have Cc:=Zh hp (uU lX) qj di AY;obtain ⟨q1,q2,q3⟩:=Pa 64 top qj;obtain ⟨q4,q5⟩:=q3 (uU lX);have aY:2^(64*(ws.length-1)+dh 64 top-1)<=z.natAbs:=by
   rw [show 64*(ws.length-1)+dh 64 top-1=64*(ws.length-1)+(dh 64 top-1) by omega,xL,Nat.pow_mul,<-hb,di];exact xg (yS _ q5) (Nat.le_add_left _ _)
  rw [hb] at Cc;refine ⟨64*(ws.length-1)+dh 64 top,?_,Cc,by omega,aY,by omega⟩;rw [aC h.SJ]
  simp only [go_sem,ya,yd,Ip,aM,bR,bA,u.pu,u.ai,u.one,e1,hw.len,show ¬(ws.length:Int)=0 by omega,show (ws.length:Int)-1=((ws.length-1:Nat):Int) by omega,wrapN (n:=ws.length-1) (by omega),show (64:Int)*((ws.length-1:Nat):Int)=((64*(ws.length-1):Nat):Int) by omega,wrapN (n:=64*(ws.length-1)) (by omega),ei,e2,show ((64*(ws.length-1):Nat):Int)+((dh 64 top:Nat):Int)=((64*(ws.length-1)+dh 64 top:Nat):Int) from rfl,wrapN (n:=64*(ws.length-1)+dh 64 top) (by omega)]
def auA (h:Fr' P L) (oO:Has P L 150 AJ) (I6:Has P L 229 Eg) {v:AV} {y:Rat} (hv:bO v y) (ky:Hq 5000 y) (h0:0<=y) (aR:y<16777216):ah P L 229 [v] (aa (nR y)):=by
 have nS:=XI h0;have ayE:=YE h0 aR;have hR:nR y=if gJ<y-(y.floor.toNat:Rat)\/(y-(y.floor.toNat:Rat)=gJ/\y.floor.toNat%2=1) then y.floor.toNat+1 else y.floor.toNat:=rfl
 obtain ⟨r,e1,hr⟩:=SF h hv ky (by decide);rw [<-nS] at hr;generalize y.floor.toNat=n at*
 have e2:=acX oO hr (by omega) (by omega);obtain ⟨q,e3,hq⟩:=Er h hr;have kn:Hq 25 (((n:Nat):Int):Rat):=aqC (n:=n) (by omega) (by decide);obtain ⟨d,e4,hd⟩:=JJ h hv hq ky (kn.mono (by decide)) (by decide);obtain ⟨o1,i1⟩:=zo h.toNu (z:=1) (by decide) (by decide);obtain ⟨o2,i2⟩:=zo h.toNu (z:=2) (by decide) (by decide);obtain ⟨hf,e5,hh⟩:=Nj h i1 i2 (by decide) (K:=2) (by unfold Bd;decide) (by unfold Bd;decide) (by decide)
 have aa3:wi 1 2=gJ:=by decide+kernel
 rw [aa3] at hh;have kd:Hq 6000 (y-(((n:Nat):Int):Rat)):=(ky.sub kn).mono (by decide);have e6:=m71 h hd hh kd (acT.mono (by decide)) (by decide);have q8:(((n:Nat):Int):Rat)=(n:Rat):=rfl;have r2:Int.tmod (n:Int) 2=((n%2:Nat):Int):=by rw [xr (by omega)];omega
 have w1:IntKind.wrap .i64 ((n:Int)+1)=((n+1:Nat):Int):=wrap64 (by omega) (by omega);have w0:IntKind.wrap .i64 ((n:Int)+((n%2:Nat):Int))=((n+n%2:Nat):Int):=wrap64 (by omega) (by omega);obtain ⟨v1,v2,v3,v4,rfl,gE⟩:=hv.gen;obtain ⟨d1,d2,d3,d4,rfl,fd⟩:=hd.gen;obtain ⟨h1,h2,h3,h4,rfl,fh⟩:=hh.gen;obtain ⟨q1,q2,q3,q4,rfl,fq⟩:=hq.gen;obtain ⟨s,w,rfl,hn⟩:=hr;obtain ⟨l,u⟩:=hn.aB;unfold ah at e1 e2 e3 e4 e5 e6 o1 o2;have un:=pE
 rcases (show y-(n:Rat)<gJ\/y-(n:Rat)=gJ\/gJ<y-(n:Rat) by
  by_cases a:y-(n:Rat)<gJ
  ·exact .inl a
  ·by_cases b:y-(n:Rat)=gJ
   ·exact .inr (.inl b)
   ·exact .inr (.inr (Rat.lt_of_le_of_ne (vz.1 a) (fun c=>b c.symm)))) with c | c | c
 ·have gS:nR y=n:=by
   rw [hR,yB];rintro (q | ⟨q,_⟩)<;>grind
  have hc:oL (y-(((n:Nat):Int):Rat)) gJ= -1:=by unfold oL;rw [q8,yN c]
  rw [hc] at e6;rw [gS];unfold ah;rw [aC I6];simp only [go_sem,ya,yd,Eg,aM,gE.ai,gE.o1,gE.o2,gE.o3,gE.o4,e1,u.ai,e2,e3,fq.ai,e4,fd.ai,fh.ai,o1,o2,e5,e6,bA,bc,pD,so,ss,bR,yo,da u,yf,dC,yo,vM,yE]
 ·have hc:oL (y-(((n:Nat):Int):Rat)) gJ=0:=by unfold oL;rw [q8,yB (by rw [c];exact vN),yN c]
  have gS:nR y=n+n%2:=by
   rw [hR];by_cases q:n%2=1
   ·rw [yN (.inr ⟨c,q⟩),q]
   ·rw [yB (by rintro (x | ⟨_,x⟩)<;>grind)];omega
  rw [hc] at e6;rw [gS];unfold ah;rw [aC I6];simp only [go_sem,ya,yd,Eg,aM,gE.ai,gE.o1,gE.o2,gE.o3,gE.o4,e1,u.ai,e2,e3,fq.ai,e4,fd.ai,fh.ai,o1,o2,e5,e6,bA,bc,pD,so,ss,bR,yo,da u,yf,dC,yo,vM,yE,yx,fD _ _ _ (show (2:Int)≠0 by decide),r2,w0]
 ·have gS:nR y=n+1:=by rw [hR,yN (.inl c)]
  have hc:oL (y-(((n:Nat):Int):Rat)) gJ=1:=by
   unfold oL;rw [q8,yB (by intro x;grind),yB (by intro x;grind)]
  rw [hc] at e6;rw [gS];unfold ah;rw [aC I6];simp only [go_sem,ya,yd,Eg,aM,gE.ai,gE.o1,gE.o2,gE.o3,gE.o4,e1,u.ai,e2,e3,fq.ai,e4,fd.ai,fh.ai,o1,o2,e5,e6,bA,bc,pD,so,ss,bR,yo,da u,yf,dC,yo,yx,w1]
end
section
open Go (IntKind)
open Ieee
def GS {f:Format} {x y m n:Nat} {s t:Bool} {e j:Int} (hx:mY f x s m e) (hy:mY f y t n j):f.order x y=some (if fv s m e<fv t n j then .lt else if fv s m e=fv t n j then .eq else .gt):=by
 unfold Format.order;rw [hx.read,hy.read];unfold Datum.order;have h1:=Lz (m:=m) (s:=s) (show min e j<=e by omega);have h2:=Lz (m:=n) (s:=t) (show min e j<=j by omega);have hp:=mF (min e j)
 dsimp only
 generalize signed s m (e-min e j).toNat=a at*
 generalize signed t n (j-min e j).toNat=b at*
 rw [<-h1,<-h2]
 congr 1
 have lt_iff:(a:Rat)*p2 (min e j)<(b:Rat)*p2 (min e j)↔a<b:=by
  rw [wH hp];exact xN
 have eq_iff:(a:Rat)*p2 (min e j)=(b:Rat)*p2 (min e j)↔a=b:=by
  constructor
  ·intro q;rcases uM a b with c | c | c
   ·have:=lt_iff.2 c;rw [q] at this;exact absurd this (vN)
   ·exact c
   ·have:=(wH hp).2 (xN.2 c);rw [q] at this;exact absurd this (vN)
  ·intro q;rw [q]
 rcases uM a b with c | c | c
 ·rw [yN (lt_iff.2 c)];exact ybJ.2 c
 ·rw [yB (fun q=>by have:=lt_iff.1 q;omega),yN (eq_iff.2 c)];exact ybK.2 c
 ·rw [yB (fun q=>by have:=lt_iff.1 q;omega),yB (fun q=>by have:=eq_iff.1 q;omega)];exact ybL.2 c
structure Dn (b m:Nat) (e:Int):Prop where
 is:mY double b false m e
 nm:4503599627370496<=m
def sh:double.leastPlace= -1074:=by decide
def Dn.b {b m:Nat} {e:Int} (h:Dn b m e): -1074<=e/\m<9007199254740992/\e<=971:=by
 have h1:=h.is.can.lp;have h2:=h.is.can.lt;have h4:=h.is.lt;have h3:=h.nm;rw [sh] at h1;have h4:(e-double.leastPlace).toNat*4503599627370496+m<9218868437227405312:=h4;rw [sh] at h4;exact ⟨h1,h2,by omega⟩
def Dn.bits {b m:Nat} {e:Int} (h:Dn b m e):b=(e+1075).toNat*4503599627370496+(m-4503599627370496):=by
 have hb:=h.b;have hn:=h.nm
 have:=h.is.eq
 rw [this];show (e-double.leastPlace).toNat*4503599627370496+m=_
 rw [sh];obtain ⟨t,ht⟩:∃t:Nat,e=(t:Int)-1074:=⟨(e+1074).toNat,by omega⟩;rw [show (e - -1074).toNat=t by omega,show (e+1075).toNat=t+1 by omega];omega
def Dn.mk' {m:Nat} {e:Int} (h1: -1074<=e) (h2:e<=971) (h3:4503599627370496<=m) (h4:m<9007199254740992):Dn ((e+1075).toNat*4503599627370496+(m-4503599627370496)) m e:=by
 refine ⟨⟨⟨by rw [sh];exact h1,h4,.inl h3⟩,?_,?_⟩,h3⟩
 ·show (e-double.leastPlace).toNat*4503599627370496+m<9218868437227405312
  rw [sh];omega
 ·show _=(e-double.leastPlace).toNat*4503599627370496+m
  rw [sh];obtain ⟨t,ht⟩:∃t:Nat,e=(t:Int)-1074:=⟨(e+1074).toNat,by omega⟩;rw [show (e - -1074).toNat=t by omega,show (e+1075).toNat=t+1 by omega];omega
def af7 {x:Nat} (h:x<2^63):x&&&(2^63*1+(2^52-1))=x%2^52:=by
 refine ybb fun i=>?_
 rw [Nat.testBit_and,Nat.testBit_mod_two_pow,yam _ (show 2^52-1<2^63 by decide)];by_cases c:i<63
 ·rw [yN c,Nat.testBit_two_pow_sub_one,Bool.and_comm]
 ·have:uV x i=false:=yaJ (yu h (yV (by decide) (by omega)))
  rw [this];simp
def ag6 {x:Nat} (h:x<9223372036854775808):binOp .andNot (.int .u64 (x:Int)) (.int .u64 9218868437227405312)=some (.int .u64 ((x%4503599627370496:Nat):Int)):=by
 show some (AV.int .u64 (IntKind.wrap .u64 ((xH 64 (x:Int)&&&~~~(xH 64 9218868437227405312)).toNat:Int)))=_
 rw [tM,ybk,vd,vd];rw [show ((x:Int)%((2^64:Nat):Int)).toNat=x by omega,show ((9218868437227405312:Int)%((2^64:Nat):Int)).toNat=9218868437227405312 by decide];rw [show 2^64-1-9218868437227405312=2^63*1+(2^52-1) by decide,af7 (show x<2^63 from h)]
 have:x%2^52<18446744073709551616:=we (Nat.mod_le _ _) (by omega)
 rw [wrapM,yL this]
def af8 {x:Nat} (h:x<9223372036854775808):binOp .andNot (.int .u64 (x:Int)) (.int .u64 9223372036854775808)=some (.int .u64 (x:Int)):=by
 show some (AV.int .u64 (IntKind.wrap .u64 ((xH 64 (x:Int)&&&~~~(xH 64 9223372036854775808)).toNat:Int)))=_
 rw [tM,ybk,vd,vd];rw [show ((x:Int)%((2^64:Nat):Int)).toNat=x by omega,show ((9223372036854775808:Int)%((2^64:Nat):Int)).toNat=9223372036854775808 by decide];rw [show 2^64-1-9223372036854775808=2^63-1 by decide,tX,yL (show x<2^63 from h)];rw [wrapM,yL (by omega)]
def aly {x:Nat} (h:x<2048):binOp .and (.int .i64 (x:Int)) (.int .i64 2047)=some (.int .i64 (x:Int)):=by
 show some (AV.int .i64 (IntKind.wrap .i64 ((xH 64 (x:Int)&&&xH 64 2047).toNat:Int)))=_
 rw [tM,vd,vd];rw [show ((x:Int)%((2^64:Nat):Int)).toNat=x by omega,show ((2047:Int)%((2^64:Nat):Int)).toNat=2^11-1 by decide,tX,yL (show x<2^11 from h)];rw [wrap64 (by omega) (by omega)]
structure Fl' (P:aF) (L:Lib):Prop where
 ac6:Has P L 230 MP
 ac7:Has P L 243 MQ
 auB:Has P L 245 R6
 auC:Has P L 246 R7
 auD:Has P L 247 R8
 auE:L.pure 248=some KR
 auF:L.pure 251=some J0
 auG:Has P L 252 R9
def pI (n:Nat) (hp:Hp) (b:Nat):freeze (n+1) hp (.aK .f64 b)=some (.aK .f64 b,hp):=rfl
def ai1 (b:Nat):bM (.aK .f64 b)= .aK .f64 b:=rfl
def qJ (b:Nat):shut (.aK .f64 b)= .aK .f64 b:=rfl
section
variable {P:aF} {L:Lib}
def ac8 (h:Fl' P L) (b:Nat):ah P L 248 [.aK .f64 b] (.int .u64 b):=by
 unfold ah;rw [ir h.auE];rfl
def ac9 (h:Fl' P L) {b:Nat} (hb:b<18446744073709551616):ah P L 251 [.int .u64 b] (.aK .f64 b):=by
 unfold ah;rw [ir h.auF];rfl
def ada (h:Fl' P L) {b m:Nat} {e:Int} (hb:Dn b m e):ah P L 252 [.aK .f64 b] (.aK .f64 b):=by
 have hx:b<9223372036854775808:=by
  have h1:=hb.bits;have h2:=hb.b;have h3:=hb.nm;omega
 have e1:=ac8 h b;have e2:=af8 hx;have e3:=ac9 h (b:=b) (by omega);unfold ah at e1 e3;unfold ah;rw [aC h.auG];simp only [go_sem,ya,R9,pI,e1,e2,e3];rfl
def Dn.pos {b m:Nat} {e:Int} (h:Dn b m e):fv false m e=(m:Rat)*p2 e:=by unfold fv sg;rw [yB (by decide),uh]
def maxD:mY double 9218868437227405311 false 9007199254740991 971:=⟨⟨by decide,by decide,.inl (by decide)⟩,by decide,by decide⟩
def minD:mY double 4503599627370496 false 4503599627370496 (-1074):=⟨⟨by decide,by decide,.inl (by decide)⟩,by decide,by decide⟩
def Ml:mY double 0 false 0 (-1074):=⟨⟨by decide,by decide,.inr (by decide)⟩,by decide,by decide⟩
def Dn.Nz {b m:Nat} {e:Int} (h:Dn b m e) (h1:1<=(m:Rat)*p2 e) (h2:(m:Rat)*p2 e<=16777216):
  binOp .eql (.aK .f64 b) (.aK .f64 0)=some (.bool false)/\binOp .gtr (.aK .f64 b) (.aK .f64 9218868437227405311)=some (.bool false)/\binOp .neq (.aK .f64 b) (.aK .f64 b)=some (.bool false)/\binOp .lss (.aK .f64 b) (.aK .f64 4503599627370496)=some (.bool false):=by
 have hp:=h.pos;have oz:=GS h.is Ml;have om:=GS h.is maxD;have oo:=GS h.is h.is;have on:=GS h.is minD;have z:fv false 0 (-1074)=0:=by unfold fv;simp
 have mx:fv false 9007199254740991 971>16777216:=by
  unfold fv sg;rw [yB (by decide),uh,show p2 971=((2^971:Nat):Rat) from gj 971,<-wc]
  have:((16777216:Nat):Rat)<((9007199254740991*2^971:Nat):Rat):=by
   rw [vT];exact anS 16777216 9007199254740991 971 (by decide)
  exact this
 have mn:fv false 4503599627370496 (-1074)<1:=by
  unfold fv sg;rw [yB (by decide),uh];have e1:((4503599627370496:Nat):Rat)=p2 52:=(gj 52).symm;rw [e1,<-ix];have h3:=Q1 1022;have h4:(1:Rat)<p2 1022:=by
   exact aqv 1022 (by decide)
  rw [show (52:Int)+ -1074= -1022 by decide];refine uF.1 fun q=>?_
  have h5:1*p2 1022<=p2 (-1022)*p2 1022:=wL q (vj (mF _));rw [h3,uh] at h5;exact absurd h4 (vz.2 h5)
 rw [hp] at oz om oo on;refine ⟨?_,?_,?_,?_⟩
 ·show some (AV.bool (double.order b 0==some .eq))=_
  rw [oz,z,yB (by grind),yB (by grind)];rfl
 ·show some (AV.bool (double.order b 9218868437227405311==some .gt))=_
  rw [om,yN (by grind)];rfl
 ·show some (AV.bool (double.order b b !=some .eq))=_
  rw [oo,yB (by grind),yN rfl];rfl
 ·show some (AV.bool (double.order b 4503599627370496==some .lt))=_
  rw [on,yB (by grind)]
  split<;>rfl
def auH (h:Fl' P L) {b m:Nat} {e:Int} (hb:Dn b m e) (h1:1<=(m:Rat)*p2 e) (h2:(m:Rat)*p2 e<=16777216):ah P L 245 [.aK .f64 b,.int .i64 0] (.bool false):=by
 obtain ⟨_,c2,_,_⟩:=hb.Nz h1 h2;have e1:=ada h hb;unfold ah at e1;unfold ah;rw [aC h.auB];simp only [go_sem,ya,R6,pI,qJ,e1,c2,yx]
def auI (h:Fl' P L) {b m:Nat} {e:Int} (hb:Dn b m e) (h1:1<=(m:Rat)*p2 e) (h2:(m:Rat)*p2 e<=16777216):ah P L 246 [.aK .f64 b] (.bool false):=by
 obtain ⟨_,_,c3,_⟩:=hb.Nz h1 h2;unfold ah;rw [aC h.auC];simp only [go_sem,ya,R7,c3]
def auJ (h:Fl' P L) {b m:Nat} {e:Int} (hb:Dn b m e) (h1:1<=(m:Rat)*p2 e) (h2:(m:Rat)*p2 e<=16777216):ah P L 247 [.aK .f64 b] (.au [.aK .f64 b,aa 0]):=by
 obtain ⟨_,_,_,c4⟩:=hb.Nz h1 h2;have e1:=ada h hb;unfold ah at e1;unfold ah;rw [aC h.auD];simp only [go_sem,ya,R8,pI,qJ,e1,c4];rfl
def auK {x:Nat}:binOp .shr (.int .u64 (x:Int)) (.int .u64 52)=some (.int .u64 ((x/4503599627370496:Nat):Int)):=by
 rw [ZM];show some (AV.int .u64 ((x:Int).fdiv 4503599627370496))=_
 rw [Int.fdiv_eq_ediv_of_nonneg _ (by decide)];rfl
def auL {x:Nat} (h:x<2048):binOp .shl (.int .u64 (x:Int)) (.int .u64 52)=some (.int .u64 ((x*4503599627370496:Nat):Int)):=by
 rw [ZL];show some (AV.int .u64 (IntKind.wrap .u64 ((x:Int)*4503599627370496)))=_
 have:(x:Int)*4503599627370496=((x*4503599627370496:Nat):Int):=by rw [wN];rfl
 rw [this,wrapM,yL (by omega)]
def anW {F E:Nat} (h:F<4503599627370496):F|||E*4503599627370496=E*4503599627370496+F:=by
 have:=yal (i:=52) (b:=F) h E
 rw [Nat.or_comm,xy E];exact this.symm
def auM:double.read 4607182418800017408= .number false 4503599627370496 (-52):=by decide
def auN {y m:Nat} {e:Int} (hr:double.read y= .number false m e):binOp .mul (.aK .f64 4607182418800017408) (.aK .f64 y)=some (.aK .f64 (double.write (.number false (4503599627370496*m) (-52+e)))):=by
 have:double.mul 4607182418800017408 y=some (double.write (.number false (4503599627370496*m) (-52+e))):=by
  unfold Format.mul;rw [auM,hr];rfl
 show (match double.mul 4607182418800017408 y with | some b=>some (AV.aK .f64 b) | none=>none)=_
 rw [this]
def auO (h:Fl' P L) {b m:Nat} {e k:Int} (hb:Dn b m e) (he1: -52<=e) (he2:e<=-28) (h1:1<=(m:Rat)*p2 e) (h2:(m:Rat)*p2 e<=16777216) (gR: -149<=k) (jc:k<=104):∃r m' e',ah P L 243 [.aK .f64 b,aa k] (.aK .f64 r)/\mY double r false m' e'/\(m':Rat)*p2 e'=(m:Rat)*p2 (e+k):=by
 obtain ⟨c1,_,_,_⟩:=hb.Nz h1 h2;have e1:=auH h hb h1 h2;have e2:=auI h hb h1 h2;have e3:=auJ h hb h1 h2;have e4:=ac8 h b;obtain ⟨_,b2,_⟩:=hb.b;have hn:=hb.nm;have Cc:=hb.bits;obtain ⟨E,hE⟩:∃E:Nat,(E:Int)=e+1075:=⟨(e+1075).toNat,by omega⟩;obtain ⟨F,hF⟩:∃F,m=4503599627370496+F:=⟨m-4503599627370496,by omega⟩;have hx:b=E*4503599627370496+F:=by rw [Cc,show (e+1075).toNat=E by omega,hF];omega
 have hdiv:b/4503599627370496=E:=by omega
 have mg:b%4503599627370496=F:=by omega
 have q1:=auK (x:=b);rw [hdiv] at q1;have q2:=aly (x:=E) (by omega);have q3:=ag6 (x:=b) (by omega);rw [mg] at q3;obtain ⟨G,hG⟩:∃G:Nat,(G:Int)=e+k+1075:=⟨(e+k+1075).toNat,by omega⟩;have q4:=auL (x:=G) (by omega);have q5:=Oi (a:=F) (b:=G*4503599627370496) (by omega) (by omega);rw [anW (by omega)] at q5;have hD:=Dn.mk' (m:=m) (e:=e+k) (by omega) (by omega) hn b2;rw [show (e+k+1075).toNat=G by omega,show m-4503599627370496=F by omega] at hD;have Vh:G*4503599627370496+F<18446744073709551616:=by omega
 obtain ⟨Y,hY⟩:∃Y,Y=G*4503599627370496:=⟨_,rfl⟩;rw [<-hY] at q4 q5 hD Vh;obtain ⟨y,hy⟩:∃y,y=Y+F:=⟨_,rfl⟩;rw [<-hy] at q5 hD Vh;have q6:=ac9 h (b:=y) Vh;obtain ⟨m',e',k1,k2,k3⟩:=wr (f:=double) (n:=m) (k:=e+k) (by omega) (show m<9007199254740992 from b2) (by rw [sh];omega) (by rw [sh];show _<=2047;omega) (m0:=4503599627370496*m) (e0:= -52+(e+k)) false (by
  have:((4503599627370496:Nat):Rat)=p2 52:=(gj 52).symm
  rw [wc,this];have h3:p2 52*(m:Rat)*p2 (-52+(e+k))=(m:Rat)*(p2 52*p2 (-52+(e+k))):=by grind
  rw [h3,<-ix,show (52:Int)+(-52+(e+k))=e+k by omega])
 have q7:=auN hD.is.read;refine ⟨_,m',e',?_,k1,k3⟩;have w0:IntKind.wrap .i64 (k+0)=k:=by rw [tQ];exact wrap64 (by omega) (by omega)
 have w1:IntKind.wrap .i64 ((E:Nat):Int)=(E:Int):=wrap64 (by omega) (by omega);have w2:IntKind.wrap .i64 ((E:Int)-1023)=(E:Int)-1023:=wrap64 (by omega) (by omega);have w3:IntKind.wrap .i64 (k+((E:Int)-1023))=k+((E:Int)-1023):=wrap64 (by omega) (by omega);have w4:IntKind.wrap .i64 (k+((E:Int)-1023)+1023)=(G:Int):=by rw [wrap64 (by omega) (by omega)];omega
 have w5:IntKind.wrap .u64 (G:Int)=(G:Int):=by rw [wrapM,yL (by omega)]
 have cv1:iB (.toInt .i64) (.int .u64 (E:Int))=some (.int .i64 (E:Int)):=by show some (AV.int .i64 (IntKind.wrap .i64 (E:Int)))=_;rw [w1]
 have cv2:iB (.toInt .u64) (.int .i64 (G:Int))=some (.int .u64 (G:Int)):=by show some (AV.int .u64 (IntKind.wrap .u64 (G:Int)))=_;rw [w5]
 unfold ah at e1 e2 e3 e4 q6;unfold ah;rw [aC h.ac7];simp only [go_sem,ya,MQ,pI,c1,e1,e2,e3,pD,so,ss,ai1,qJ,w0,e4,q1,cv1,q2,w2,w3,show ¬k+((E:Int)-1023)< -1075 by omega,show ¬(1023:Int)<k+((E:Int)-1023) by omega,show ¬k+((E:Int)-1023)< -1022 by omega,yE,q3,w4,cv2,q4,q5,q6,q7];rfl
def auP (h:Fl' P L) {b m:Nat} {e k:Int} (hb:Dn b m e) (he1: -52<=e) (he2:e<=-28) (h1:1<=(m:Rat)*p2 e) (h2:(m:Rat)*p2 e<=16777216) (gR: -149<=k) (jc:k<=104):∃r m' e',ah P L 230 [.aK .f64 b,aa k] (.aK .f64 r)/\mY double r false m' e'/\(m':Rat)*p2 e'=(m:Rat)*p2 (e+k):=by
 obtain ⟨r,m',e',q1,q2,q3⟩:=auO h hb he1 he2 h1 h2 gR jc;refine ⟨r,m',e',?_,q2,q3⟩;unfold ah at q1;unfold ah;rw [aC h.ac6];simp only [go_sem,ya,MP,pI,q1,qJ];rfl
end
end
section
open Go (IntKind)
open Ieee
def aqD {n:Nat} (h0:n≠0) (hn:n<=16777216):∃b m e,iB (.toFlt .f64) (.int .i64 (n:Int))=some (.aK .f64 b)/\Dn b m e/\-52<=e/\e<=-28/\(m:Rat)*p2 e=(n:Rat):=by
 have hl:n.log2<25:=(yaZ h0).2 (by omega);have h1:2^n.log2<=n:=ybR h0;have h2:n<2^(n.log2+1):=ybS;obtain ⟨j,hj⟩:∃j:Nat,n.log2+j=52:=⟨52-n.log2,by omega⟩;have oY:2^52<=n*2^j:=by
  have:=yQ (2^j) h1
  rwa [<-xL,hj] at this
 have NR:n*2^j<2^53:=by
  have:=xS h2 (xn j)
  rwa [<-xL,show n.log2+1+j=53 by omega] at this
 have hc:Can double (n*2^j) (-(j:Int)):=⟨by rw [sh];omega,NR,.inl oY⟩;have hr:=Zq hc (by rw [sh];show _<=2047;omega)
 have hv:(n:Rat)*p2 0=((n*2^j:Nat):Rat)*p2 (-(j:Int)):=by
  rw [wc,<-gj,rD,wj,<-ix,show (j:Int)+ -(j:Int)=0 by omega,rD]
 have qt:n*2^j≠0:=vG (yu (by decide) oY);have hw:=YD hc qt false hv;rw [xF (by omega)] at hw;refine ⟨double.write (.number false n 0),n*2^j,-(j:Int),?_,⟨⟨hc,hr,hw⟩,oY⟩,by omega,by omega,by rw [<-hv,rD,wG]⟩;show some (AV.aK .f64 (double.write (.number (decide ((n:Int)<0)) (n:Int).natAbs 0)))=_
 rw [yY (by omega),xq]
def alz:iB (.toFlt .f64) (.int .i64 0)=some (.aK .f64 0):=by
 show some (AV.aK .f64 (double.write (.number false 0 0)))=_
 rw [show double.write (.number false 0 0)=0 by decide]
def Z8 {r m:Nat} {e:Int} (hr:mY double r false m e) {n:Nat} {k:Int} (hn:n<=16777216) (gR: -149<=k) (jc:k<=104) (OH:n=16777216->k<104) (hv:(m:Rat)*p2 e=(n:Rat)*p2 k):∃b,iB (.toFlt .f32) (.aK .f64 r)=some (.aK .f32 b)/\Fl b false (n*2^(149+k).toNat):=by
 have e0:iB (.toFlt .f32) (.aK .f64 r)=(match double.read r with
  | .number sg m e=>if (single.read (single.write (.number sg m e))).isInfinity then none else some (.aK .f32 (single.write (.number sg m e)))
  | _=>none):=rfl
 have hsc:∀{m':Nat} {e':Int},-149<=e'->(m':Rat)*p2 e'=(n:Rat)*p2 k->n*2^(149+k).toNat=gV m' e':=fun {m' e'} h1 h2=>by
  have h3:=anU (m:=m') (n:=n) h1 gR h2;rw [h3];unfold gV;rw [Int.add_comm]
 have fin:∀{m':Nat} {e':Int},zS (single.write (.number false m e)) false m' e'->(m':Rat)*p2 e'=(n:Rat)*p2 k->∃b,iB (.toFlt .f32) (.aK .f64 r)=some (.aK .f32 b)/\Fl b false (n*2^(149+k).toNat):=fun {m' e'} h1 h2=>by
  refine ⟨_,?_,m',e',h1,hsc h1.b.1 h2⟩;rw [e0,hr.read]
  dsimp only
  rw [h1.read];rfl
 by_cases n0:n=0
 ·subst n0;have hm:m=0:=by
   have h1:(m:Rat)*p2 e=0:=by rw [hv];simp
   rcases Rat.mul_eq_zero.1 h1 with q | q
   ·exact_mod_cast q
   ·exact absurd q (RE e)
  subst hm;exact fin (ac2 false e) (by simp)
 ·by_cases c:n<16777216
  ·obtain ⟨m',e',k1,_,k3⟩:=OG (n:=n) (k:=k) n0 c gR jc false hv;exact fin k1 k3
  ·have dd:n=16777216:=by omega
   have hk3:=OH dd;have cz:(n:Rat)*p2 k=((8388608:Nat):Rat)*p2 (k+1):=by
    rw [dd,ix,S5]
    have:((16777216:Nat):Rat)=((8388608:Nat):Rat)*2:=by decide+kernel
    rw [this];grind
   obtain ⟨m',e',k1,_,k3⟩:=OG (n:=8388608) (k:=k+1) (by decide) (by decide) (by omega) (by omega) false (hv.trans cz);exact fin k1 (k3.trans cz.symm)
section
variable {P:aF} {L:Lib}
def aqE (h:Fl' P L) {k:Int}:ah P L 230 [.aK .f64 0,aa k] (.aK .f64 0):=by
 have c0:binOp .eql (.aK .f64 0) (.aK .f64 0)=some (.bool true):=by
  show some (AV.bool (double.order 0 0==some .eq))=_
  rw [GS Ml Ml,yB vN,yN rfl];rfl
 have e1:ah P L 243 [.aK .f64 0,aa k] (.aK .f64 0):=by
  unfold ah;rw [aC h.ac7];simp only [go_sem,ya,MQ,c0];rfl
 unfold ah at e1;unfold ah;rw [aC h.ac6];simp only [go_sem,ya,MP,pI,e1,qJ];rfl
def auQ (h:Fl' P L) {n:Nat} {k:Int} (hn:n<=16777216) (gR: -149<=k) (jc:k<=104) (OH:n=16777216->k<104):∃b r c,iB (.toFlt .f64) (.int .i64 (n:Int))=some (.aK .f64 b)/\ah P L 230 [.aK .f64 b,aa k] (.aK .f64 r)/\iB (.toFlt .f32) (.aK .f64 r)=some (.aK .f32 c)/\Fl c false (n*2^(149+k).toNat):=by
 by_cases n0:n=0
 ·subst n0;obtain ⟨c,e1,hc⟩:=Z8 Ml (n:=0) (k:=k) hn gR jc OH (by simp);exact ⟨0,0,c,alz,aqE h,e1,hc⟩
 ·obtain ⟨b,m,e,q1,q2,q3,q4,q5⟩:=aqD n0 hn;have h1:(1:Rat)<=(m:Rat)*p2 e:=by
   rw [q5]
   have:((1:Nat):Rat)<=((n:Nat):Rat):=vl.2 (by omega)
   exact this
  have h2:(m:Rat)*p2 e<=16777216:=by
   rw [q5]
   have:((n:Nat):Rat)<=((16777216:Nat):Rat):=vl.2 hn
   exact this
  obtain ⟨r,m',e',k1,k2,k3⟩:=auP h q2 q3 q4 h1 h2 gR jc;obtain ⟨c,e1,hc⟩:=Z8 k2 (n:=n) (k:=k) hn gR jc OH (by rw [k3,ix,<-wj,q5]);exact ⟨b,r,c,q1,k1,e1,hc⟩
end
end
section
open Go (IntKind)
open Ieee
def Mm {a b:Int} (h:a<=b):p2 a<=p2 b:=by
 obtain ⟨d,rfl⟩:∃d:Nat,b=a+d:=⟨(b-a).toNat,by omega⟩;rw [ix,gj];have h1:(1:Rat)<=((2^d:Nat):Rat):=by
  have:((1:Nat):Rat)<=((2^d:Nat):Rat):=vl.2 (xn d)
  exact this
 have:=uj h1 (vj (mF a))
 rwa [wG] at this
def asj {a b:Int} (h:p2 a<p2 b):a<b:=ybv.1 fun q=>absurd (Mm q) (uF.2 h)
def YF (a:Rat):(cL a).num=(a.num.natAbs:Nat)/\(cL a).den=a.den:=by
 unfold cL;by_cases c:a<0
 ·have:a.num<0:=ybv.1 fun q=>absurd (yaq.1 q) (uF.2 c)
  rw [yN c,XH];exact ⟨by omega,rfl⟩
 ·have:0<=a.num:=yaq.2 (vz.1 c)
  rw [yB c];exact ⟨by omega,rfl⟩
def Zr (a:Rat):0<=cL a:=by
 unfold cL
 split<;>grind
def alA (a:Rat):cL a*(a.den:Rat)=(a.num.natAbs:Rat):=by
 have h:=YF a;have e0:((cL a).num:Rat)/(((cL a).den:Int):Rat)=cL a:=by rw [<-uN];exact ybs _
 have h0:(((cL a).den:Int):Rat)≠0:=fun e=>by
  have:((cL a).den:Int)=0:=by exact_mod_cast e
  have:=(cL a).den_nz
  omega
 have h1:cL a*(((cL a).den:Int):Rat)=((cL a).num:Rat):=by
  conv=>lhs;lhs;rw [<-e0]
  rw [ycX,wj,Rat.inv_mul_cancel _ h0,wG]
 rw [h.1,h.2] at h1;exact h1
def afB {a:Rat} {B C:Nat} (h1:2^(B-1)<=a.num.natAbs) (hB:0<B) (h2:a.num.natAbs<2^B) (h3:2^(C-1)<=a.den) (hC:0<C) (h4:a.den<2^C):p2 ((B:Int)-C-24+23)<=cL a/\cL a<p2 ((B:Int)-C-24+25):=by
 have hm:=alA a;have hn:=Zr a;have c1:p2 ((B:Int)-1)<=(a.num.natAbs:Rat):=by
  rw [show (B:Int)-1=((B-1:Nat):Int) by omega,gj];exact vl.2 h1
 have c2:(a.num.natAbs:Rat)<p2 B:=by rw [gj];exact vT.2 h2
 have c3:p2 ((C:Int)-1)<=(a.den:Rat):=by
  rw [show (C:Int)-1=((C-1:Nat):Int) by omega,gj];exact vl.2 h3
 have c4:(a.den:Rat)<p2 C:=by rw [gj];exact vT.2 h4
 rw [<-hm] at c1 c2;constructor
 ·have h5:p2 ((B:Int)-1)<=cL a*p2 C:=Rat.le_trans c1 (uj (vj c4) hn);have h6:=wL h5 (vj (mF (-(C:Int))));rw [wj,<-ix,<-ix,show (C:Int)+ -(C:Int)=0 by omega,rD,wG,show (B:Int)-1+ -(C:Int)=(B:Int)-C-24+23 by omega] at h6;exact h6
 ·have h5:cL a*p2 ((C:Int)-1)<p2 B:=by
   have:=uj c3 hn
   grind
  have h6:=(wH (mF (-((C:Int)-1)))).2 h5;rw [wj,<-ix,<-ix,show (C:Int)-1+ -((C:Int)-1)=0 by omega,rD,wG,show (B:Int)+ -((C:Int)-1)=(B:Int)-C-24+25 by omega] at h6;exact h6
def asl {A:Rat} {k:Int} (h1:p2 (k+23)<=A) (h2:A<p2 (k+24)):KP A (max k (-149))/\(max k (-149)<=104->A<p2 128)/\(104<max k (-149)->p2 128<=A):=by
 have e24:(16777216:Rat)=p2 24:=(gj 24).symm;have e23:(8388608:Rat)=p2 23:=(gj 23).symm;refine ⟨⟨by omega,?_,?_⟩,fun h=>?_,fun h=>?_⟩
 ·rw [e24];have h3:A<p2 (max k (-149)+24):=by
   have:=Mm (show k+24<=max k (-149)+24 by omega)
   grind
  have h4:=(wH (mF (-(max k (-149))))).2 h3
  rwa [<-ix,show max k (-149)+24+ -(max k (-149))=24 by omega] at h4
 ·by_cases c:k< -149
  ·right;omega
  ·left
   rw [e23];have h4:=wL h1 (vj (mF (-(max k (-149)))))
   rwa [<-ix,show k+23+ -(max k (-149))=23 by omega] at h4
 ·have:=Mm (show k+24<=128 by omega)
  grind
 ·have:=Mm (show (128:Int)<=k+23 by omega)
  grind
end
section
open Go (IntKind)
open Ieee
def alB (a b:Rat):0<=oL a b↔b<=a:=by
 unfold oL;by_cases c:a<b
 ·rw [yN c];exact ⟨fun h=>absurd h (by decide),fun h=>absurd c (vz.2 h)⟩
 ·rw [yB c];refine ⟨fun _=>vz.1 c,fun _=>?_⟩
  split<;>decide
structure Gj (P:aF) (L:Lib):Prop extends Ck P L,Fl' P L where
 oO:Has P L 150 AJ
 adb:Has P L 202 eK
 I5:Has P L 228 Iq
 I6:Has P L 229 Eg
 CE:Has P L 241 Ir
section
variable {P:aF} {L:Lib}
def aqF (h:Gj P L) {A:Rat} (kA:Hq 2600 A) {c1 c2 c3 c4 x1 x2 x3 x4:AV} (hc:bO (.agg [c1,c2,c3,c4]) A) (fc:F4 c1 c2 c3 c4) {k0:Int} (NJ: -5000<=k0/\k0<=5000) (hA:A<p2 (k0+25)):
  ∀(d:Nat) (st:St),(∃(k:Int),k+d=k0+1/\k0<=k/\p2 (k+23)<=A/\aT [5,6,7] st=⟨[(5,.ptr 0 0),(6,.ptr 1 0),(7,aa k)],[(1,.cells true true true 4 [c1,c2,c3,c4]),(0,.cells true true true 4 [x1,x2,x3,x4])],2,0⟩)->
   ∃ex s',D P L (.loop [5,6,7] Hv) st=some (ex,s')/\∃tm ct,∃k:Int,s'=⟨tm,[(1,.cells true true true 4 [c1,c2,c3,c4]),(0,.cells true true true 4 [x1,x2,x3,x4])],ct,0⟩/\ex= .exit 0/\k0<=k/\k<=k0+1/\p2 (k+23)<=A/\A<p2 (k+24)/\aj tm 5= .ptr 0 0/\aj tm 6= .ptr 1 0/\aj tm 7=aa k:=by
 intro dq sq;generalize bt:aT [5,6,7] sq=s0;revert bt s0 sq dq;apply dU;rintro d st ⟨k,hd,hk,aY,rfl⟩;obtain ⟨v,e1,hv⟩:=ac4 h.toFr' h.pR h.CE h.I5 (k:=k+24) (by omega);have kv:Hq 6000 (p2 (k+24)):=(abl _).mono (by omega);have e2:=m71 h.toFr' hc hv (kA.mono (show 2600<=6000 by decide)) kv (by decide);obtain ⟨v1,v2,v3,v4,rfl,gE⟩:=hv.gen;have wk:IntKind.wrap .i64 (k+24)=k+24:=wrap64 (by omega) (by omega);have hg:=alB A (p2 (k+24));unfold ah at e1 e2;by_cases c:p2 (k+24)<=A
 ·left
  have aR:=asj (show p2 (k+24)<p2 (k0+25) by grind);have Vi:IntKind.wrap .i64 (k+1)=k+1:=wrap64 (by omega) (by omega);simp only [go_sem,ya,Hv,dC,yo,wk,fc.ai,gE.ai,e1,e2,bc,hg.2 c,yx,Vi];refine ⟨_,d-1,rfl,by omega,k+1,by omega,by omega,by rw [show k+1+23=k+24 by omega];exact c,?_⟩
  simp only [go_sem,ya,yd,az]<;>rfl
 ·right
  simp only [go_sem,ya,Hv,dC,yo,wk,fc.ai,gE.ai,e1,e2,bc,show ¬0<=oL A (p2 (k+24)) from fun q=>c (hg.1 q),yE];exact ⟨_,_,rfl,by simp,_,_,k,rfl,rfl,hk,by omega,aY,uF.1 c,by simp only [go_sem,ya],by simp only [go_sem,ya],by simp only [go_sem,ya]⟩
end
end
section
open Go (IntKind)
open Ieee
section
variable {P:aF} {L:Lib}
def aqG (h:Gj P L) {a:Rat} (kA:Hq 2600 (cL a)) {c1 c2 c3 c4 x1 x2 x3 x4:AV} (hc:bO (.agg [c1,c2,c3,c4]) (cL a)) (fc:F4 c1 c2 c3 c4) (hx:bO (.agg [x1,x2,x3,x4]) a) (fx:F4 x1 x2 x3 x4) {k:Int} (hk: -5100<=k/\k<=5100) (aY:p2 (k+23)<=cL a) (fA:cL a<p2 (k+24)):
  ∃o,NF (cL a) o/\(match o with
   | none=>eX eK.dQ (D P L (fS 6 eK.body) ⟨[(5,.ptr 0 0),(6,.ptr 1 0),(7,aa k)],[(1,.cells true true true 4 [c1,c2,c3,c4]),(0,.cells true true true 4 [x1,x2,x3,x4])],2,0⟩)=some (.au [.aK .f32 0,aa 4])
   | some M=>∃b,Fl b (po a M) M/\eX eK.dQ (D P L (fS 6 eK.body) ⟨[(5,.ptr 0 0),(6,.ptr 1 0),(7,aa k)],[(1,.cells true true true 4 [c1,c2,c3,c4]),(0,.cells true true true 4 [x1,x2,x3,x4])],2,0⟩)=some (.au [.aK .f32 b,aa 0])):=by
 obtain ⟨K1,K2,K3⟩:=asl aY fA;have zd:(if (-149:Int)>k then (-149:Int) else k)=max k (-149):=by split<;>omega
 generalize pZ:max k (-149)=j at*
 by_cases cj:104<j
 ·refine ⟨none,.inl ⟨K3 cj,rfl⟩,?_⟩;simp only [go_sem,ya,eK,fS,av,mB,mw,zd,cj,yx];rfl
 ·have hA:=K2 (by omega);have Jb:=K1.lo;have Vj:=Zr a;have iL:0<=cL a*p2 (-j):=vS Vj (vj (mF _));have ylt:=K1.lt;have wn:IntKind.wrap .i64 (0-j)= -j:=by rw [show (0:Int)-j= -j by omega];exact wrap64 (by omega) (by omega)
  obtain ⟨u,e1,hu⟩:=ac4 h.toFr' h.pR h.CE h.I5 (k:= -j) (by omega);have ku:Hq 1001 (p2 (-j)):=auv _ (by omega);obtain ⟨v,e2,hv⟩:=zO h.toFr' hc hu kA (ku.mono (show 1001<=2600 by decide)) (by decide);have ky:Hq 5000 (cL a*p2 (-j)):=(kA.mul ku).mono (by decide);have e3:=auA h.toFr' h.oO h.I6 hv ky iL ylt;have nle:=asi iL ylt;have Vk:∀{o:Option Nat},((nR (cL a*p2 (-j))=16777216/\j=104/\o=none)\/(¬(nR (cL a*p2 (-j))=16777216/\j=104)/\o=some (nR (cL a*p2 (-j))*2^(149+j).toNat)))->NF (cL a) o:=fun q=> .inr ⟨hA,j,K1,by omega,q⟩
  obtain ⟨u1,u2,u3,u4,rfl,fu⟩:=hu.gen;obtain ⟨v1,v2,v3,v4,rfl,gE⟩:=hv.gen;have e4:=acm h.toFr' hx;have r9:=Kr a;unfold ah at e1 e2 e3 e4;generalize nR (cL a*p2 (-j))=n at*
  by_cases z:n=16777216/\j=104
  ·obtain ⟨z1,z2⟩:=z;have hz:((n:Nat):Int)=16777216:=by omega
   refine ⟨none,Vk (.inl ⟨z1,z2,rfl⟩),?_⟩;subst z2;simp only [go_sem,ya,eK,fS,av,mB,mw,zd,cj,yE,dC,yo,fc.ai,wn,e1,bc,fu.ai,e2,gE.ai,e3,hz,yx];rfl
  ·obtain ⟨b,r,c,q1,q2,q3,q4⟩:=auQ (P:=P) (L:=L) h.toFl' (n:=n) (k:=j) nle Jb (by omega) (fun x=>by omega);have UH:n*2^(149+j).toNat≠0↔0<n:=by
    have:=xn (149+j).toNat
    constructor
    ·intro x;exact uU fun y=>x (by rw [y,uv])
    ·intro x;exact vG (vK x this)
   unfold ah at q2;by_cases s1:a<0/\0<n
   ·have hs:=r9.2 s1.1;refine ⟨some _,Vk (.inr ⟨z,rfl⟩),c^^^2147483648,?_,?_⟩
    ·rw [show po a (n*2^(149+j).toNat)=true by unfold po;rw [xj s1.1,xj (UH.2 s1.2)];rfl]
     exact q4.neg
    ·by_cases z1:n=16777216
     ·have hz:((n:Nat):Int)=16777216:=by omega
      have z2:¬j=104:=fun x=>z ⟨z1,x⟩
      rw [hz] at q1;simp only [go_sem,ya,eK,fS,av,mB,mw,zd,cj,yE,dC,yo,fc.ai,wn,e1,bc,fu.ai,e2,gE.ai,e3,hz,z2,yx,q1,pI,q2,qJ,q3,fx.ai,e4,hs,show (0:Int)<16777216 by decide,abk];rfl
     ·simp only [go_sem,ya,eK,fS,av,mB,mw,zd,cj,yE,dC,yo,fc.ai,wn,e1,bc,fu.ai,e2,gE.ai,e3,show ¬((n:Nat):Int)=16777216 by omega,q1,pI,q2,qJ,q3,fx.ai,e4,hs,show (0:Int)<(n:Int) by omega,yx,abk];rfl
   ·refine ⟨some _,Vk (.inr ⟨z,rfl⟩),c,?_,?_⟩
    ·rw [show po a (n*2^(149+j).toNat)=false by
      unfold po;by_cases x:a<0
      ·rw [yY (fun y=>s1 ⟨x,UH.1 y⟩),ybX]
      ·rw [yY x];rfl]
     exact q4
    ·by_cases x:a<0
     ·have hs:=r9.2 x;have n0:¬(0:Int)<(n:Int):=fun y=>s1 ⟨x,by omega⟩
      simp only [go_sem,ya,eK,fS,av,mB,mw,zd,cj,yE,dC,yo,fc.ai,wn,e1,bc,fu.ai,e2,gE.ai,e3,show ¬((n:Nat):Int)=16777216 by omega,q1,pI,q2,qJ,q3,fx.ai,e4,hs,n0,yx];rfl
     ·have hs:¬bQ a.num<0:=fun y=>x (r9.1 y)
      by_cases z1:n=16777216
      ·have hz:((n:Nat):Int)=16777216:=by omega
       have z2:¬j=104:=fun x=>z ⟨z1,x⟩
       rw [hz] at q1;simp only [go_sem,ya,eK,fS,av,mB,mw,zd,cj,yE,dC,yo,fc.ai,wn,e1,bc,fu.ai,e2,gE.ai,e3,hz,z2,yx,q1,pI,q2,qJ,q3,fx.ai,e4,hs];rfl
      ·simp only [go_sem,ya,eK,fS,av,mB,mw,zd,cj,yE,dC,yo,fc.ai,wn,e1,bc,fu.ai,e2,gE.ai,e3,show ¬((n:Nat):Int)=16777216 by omega,q1,pI,q2,qJ,q3,fx.ai,e4,hs];rfl
end
end
section
open Go (IntKind)
open Ieee
def auR:NF 0 (some 0):=by
 refine .inr ⟨mF 128,-149,⟨by omega,by rw [yaK];decide,.inr rfl⟩,by omega,.inr ⟨fun q=>absurd q.2 (by decide),?_⟩⟩
 rw [yaK,alx Rat.le_refl (by decide+kernel),uv]
section
variable {P:aF} {L:Lib}
def auS (h:Gj P L) {a:Rat} (ka:Hq 2600 a) (hc:bZ (RT a)=0):∃o,NF (cL a) o/\(match o with
  | none=>ah P L 202 [.str (RT a)] (.au [.aK .f32 0,aa 4])
  | some M=>∃b,Fl b (po a M) M/\ah P L 202 [.str (RT a)] (.au [.aK .f32 b,aa 0])):=by
 have hlen:=mE ka;have e1:=OC h.toCk (s:=RT a) (by omega);rw [hc] at e1;obtain ⟨x,e2,hx⟩:=UM h.toTx (a:=a) (by omega);have e3:=acm h.toFr' hx;have sd:=hx;obtain ⟨s1,w1,s2,w2,rfl,k1,k2⟩:=hx;have fx:F4 (aa s1) w1 (aa s2) w2:=by
  obtain ⟨_,_,_,_,e,g⟩:=bO.gen sd;simp only [AV.agg.injEq,vW,vc] at e;obtain ⟨rfl,rfl,rfl,rfl⟩:=e;exact g
 obtain ⟨l1,u1⟩:=k1.aB;obtain ⟨l2,u2⟩:=k2.aB;by_cases h0:a=0
 ·subst h0;have hs:bQ (0:Rat).num=0:=by decide
  rw [hs] at e3;refine ⟨some 0,by rw [show cL 0=0 by unfold cL;rw [yB vN]];exact auR,0,by rw [show po 0 0=false by unfold po;simp];exact Fl.zero,?_⟩
  unfold ah at e1 e2 e3;unfold ah;rw [aC h.adb];simp only [go_sem,ya,yd,eK,e1,yx,yT,e2,aM,fx.st,fx.ai,bc,dC,yo,e3];rfl
 ·have hz:(a.num.natAbs:Int)≠0:=by
   intro q;have hn:a.num=0:=by omega
   exact h0 (Rat.num_eq_zero.1 hn)
  have hsn:¬bQ a.num=0:=fun q=>h0 ((ag5 a).1 q)
  have pk:=YF a;obtain ⟨r,e4,hr⟩:=SA h.toNu (z:=a.num) ⟨s1,w1,rfl,k1⟩ ka.1 (by decide);obtain ⟨s3,w3,rfl,k3⟩:=hr;obtain ⟨l3,u3⟩:=k3.aB;have hS:bO (.agg [aa s3,w3,aa s2,w2]) (cL a):=⟨s3,w3,s2,w2,rfl,by rw [pk.1];exact k3,by rw [pk.2];exact k2⟩
  have fs:F4 (aa s3) w3 (aa s2) w2:=by
   obtain ⟨_,_,_,_,e,g⟩:=bO.gen hS;simp only [AV.agg.injEq,vW,vc] at e;obtain ⟨rfl,rfl,rfl,rfl⟩:=e;exact g
  have kA:Hq 2600 (cL a):=⟨by rw [pk.1];unfold Bd;rw [xq];exact ka.1,by rw [pk.2];exact ka.2⟩
  obtain ⟨B,e5,b1,b2,b3,b4⟩:=abm h.toTx (z:=(a.num.natAbs:Int)) ⟨s3,w3,rfl,k3⟩ (K:=2600) (by unfold Bd;rw [xq];exact ka.1) (by decide) hz
  obtain ⟨C,e6,d1,d2,d3,d4⟩:=abm h.toTx (z:=(a.den:Int)) ⟨s2,w2,rfl,k2⟩ ka.2 (by decide) (by have:=a.den_nz;omega);rw [xq] at b1 b3 d1 d3;obtain ⟨g1,g2⟩:=afB b3 b2 b1 d3 d2 d1;have Vi:IntKind.wrap .i64 ((B:Int)-C)=(B:Int)-C:=wrap64 (by omega) (by omega);have wk2:IntKind.wrap .i64 ((B:Int)-C-24)=(B:Int)-C-24:=wrap64 (by omega) (by omega);have lp:=aqF (P:=P) (L:=L) h kA hS fs (x1:=aa s1) (x2:=w1) (x3:=aa s2) (x4:=w2) (k0:=(B:Int)-C-24) (by omega) g2 1;have go:=fun k hk lo hi=>aqG h kA hS fs sd fx (k:=k) hk lo hi
  suffices hh:∃k:Int,(-5100<=k/\k<=5100)/\p2 (k+23)<=cL a/\cL a<p2 (k+24)/\eX eK.dQ (D P L eK.body ⟨ew 0 [.str (RT a)],[],0,0⟩)=eX eK.dQ (D P L (fS 6 eK.body) ⟨[(5,.ptr 0 0),(6,.ptr 1 0),(7,aa k)],[(1,.cells true true true 4 [aa s3,w3,aa s2,w2]),(0,.cells true true true 4 [aa s1,w1,aa s2,w2])],2,0⟩) by
   obtain ⟨k,hk,lo,hi,hq⟩:=hh;have fin:∀{r:AV},eX eK.dQ (D P L eK.body ⟨ew 0 [.str (RT a)],[],0,0⟩)=some r->ah P L 202 [.str (RT a)] r:=fun q=>by
    unfold ah;rw [aC h.adb];exact q
   obtain ⟨o,ho,hm⟩:=go k hk lo hi;refine ⟨o,ho,?_⟩
   cases o with
   | none=>exact fin (hq.trans hm)
   | some M=>
    obtain ⟨b,hb,hm⟩:=hm;exact ⟨b,hb,fin (hq.trans hm)⟩
  unfold ah at e1 e2 e3 e4 e5 e6;have cut:eK.body= .seq (a7 eK.body) (.seq (a7 (fS 0 eK.body)) (.seq (a7 (fS 1 eK.body)) (.seq (a7 (fS 2 eK.body)) (.seq (a7 (fS 3 eK.body)) (.seq (a7 (fS 4 eK.body)) (.seq (a7 (fS 5 eK.body)) (fS 6 eK.body))))))):=rfl;rw [cut];generalize fS 6 eK.body=T;simp only [go_sem,ya,yd,eK,fS,av,a7,e1,yx,yT,e2,aM,fx.st,fx.ai,bc,dC,yo,e3,hsn,yE,bl,yf,nB,qY,bA,u1.ai,u2.ai,u2.one,u3.ai,u3.one,e4,Ah,Ai,fs.st,e5,e6,Vi,wk2];generalize hq:D P L (.loop [5,6,7] Hv) _=q;obtain ⟨ex,st,rfl,tm,ct,k,rfl,rfl,q1,q2,q3,q4,t5,t6,t7⟩:=b9 hq lp ⟨(B:Int)-C-24,by omega,by omega,g1,by simp only [go_sem,ya,yd,az]<;>rfl⟩
  refine ⟨k,by omega,q3,q4,?_⟩;simp only [go_sem,ya,yd,az,t5,t6,t7]
end
end
section
open Ieee
def abn:gJ=1/2:=by decide+kernel
def ag7 {x c:Rat} (hc:0<c):cL (x*c)=cL x*c:=by
 have h:x*c<0↔x<0:=by
  constructor
  ·intro q;exact uF.1 fun q'=>absurd q (vz.2 (vS q' (vj hc)))
  ·intro q
   have:=Rat.mul_lt_mul_of_pos_right q hc
   rwa [yaK] at this
 unfold cL;by_cases g:x<0
 ·rw [yN g,yN (h.2 g)];grind
 ·rw [yB g,yB fun q=>g (h.1 q)]
def Fl.mag {b M:Nat} {s:Bool} (h:Fl b s M):∃m j:Nat,m<16777216/\j<=253/\M=m*2^j:=by
 obtain ⟨m,e,h1,rfl⟩:=h.ex;obtain ⟨b1,b2,b3,b4⟩:=h1.b;exact ⟨m,(e+149).toNat,b2,by omega,rfl⟩
def anX (k:Int) (hk: -149<=k):((2^(149+k).toNat:Nat):Rat)=p2 (149+k):=by
 rw [<-gj,show (((149+k).toNat:Nat):Int)=149+k by omega]
def anY (s:Bool) (M:Nat):sf s M*p2 149=((eE s M:Int):Rat):=by
 unfold sf;rw [wj,<-ix,show (-149:Int)+149=0 by omega,rD,wG]
end
structure Vv (P:aF) (L:Lib):Prop extends Sp P L,Vl P L,Sq P L where
 Oz:Has P L 19 NZ
 Gf:Has P L 57 EP
def Ew (s:List (List Int)) (x y:List Nat):Int:=cp [iq s,cp [bZ x,bZ y]]
section
variable {P:aF} {L:Lib}
def auT (h:Tx P L) (Gf:Has P L 57 EP) {v:AV} {a:Rat} {K:Nat} (hv:bO v a) (ka:Hq K a) (hK:K<=4000000000):ah P L 57 [v] (CD a):=by
 have e1:=atQ h hv ka hK;have e2:=m46 h hv ka hK;obtain ⟨s1,w1,s2,w2,rfl,h1,h2⟩:=hv;obtain ⟨l1,u1⟩:=h1.aB;obtain ⟨l2,u2⟩:=h2.aB;unfold CD;unfold ah at e1 e2 ⊢;rw [aC Gf];cases hL:LG a<;>rw [hL] at e1
 ·simp only [go_sem,ya,yd,EP,aM,dC,bA,u1.pu,u1.ai,u1.one,u2.pu,u2.ai,u2.one,e1,e2,yD,xk]
  first | done | rfl
 ·simp only [go_sem,ya,yd,EP,aM,dC,bA,u1.pu,u1.ai,u1.one,u2.pu,u2.ai,u2.one,e1,xA]
  first | done | rfl
def m19 (h:Vv P L) {w:AV} {s:List (List Int)} (hw:fJ w s) (hl:s.length<=1000000) (hr:∀i (hi:i<s.length),s[i].length<=1000000) {x y:List Nat} (lx:x.length<=1000000000) (ly:y.length<=1000000000):
  ah P L 19 [w,zR x y] (if Ew s x y≠0 then .au [.str [],aa (Ew s x y)] else CD (fm s (bm x) (bm y))):=by
 have e1:=s4 h.toSq hw hl hr;have e2:=m53 h.toSp lx ly;have e3:ah P L 33 [.aA true 2 [aa (iq s),aa (cp [bZ x,bZ y])]] (aa (Ew s x y)):=E0 h.toSq.qd (iQ true [iq s,cp [bZ x,bZ y]]) (by simp);by_cases h0:Ew s x y=0
 ·rw [yB (by simp [h0])];obtain ⟨j1,j2⟩:=Qu.1 h0;obtain ⟨cx,cy⟩:=Qu.1 j2;have hS:=DS hw j1;have n0:=hS.pos;have n1:=hS.le;have kx:=G7 cx (yA 2400);have ky:=G7 cy (yA 2400);obtain ⟨b,e4,hb⟩:=m54 h.toSp cx cy;obtain ⟨c,e5,hc⟩:=m55 h.toVl.toFr' h.JM h.Ev h.oO (s:=(s.length:Int)) hb kx ky (by decide) (by decide) (by omega) (by omega);have q1:=vm (bm x).floor (show (s.length:Int)≠0 by omega);have q2:=vv (bm x).floor (show (0:Int)<s.length by omega);have q3:=vm (bm y).floor (show (s.length:Int)≠0 by omega);have q4:=vv (bm y).floor (show (0:Int)<s.length by omega);obtain ⟨d,e6,hd⟩:=m56 h.toVl hc hS ⟨q1,q2⟩ ⟨q3,q4⟩ (Mj kx (by decide)) (Mj ky (by decide)) (by decide);have kv:=aqt (fun c r=>hS.cB c r) kx ky (by decide)
  have e7:ah P L 57 [d] (CD (fm s (bm x) (bm y))):=auT h.toSp.toTx h.Gf hd kv (by decide);have hd':=hd;obtain ⟨b1,b2,b3,b4,b5,b6,b7,b8,rfl,gb⟩:=hb.gen;obtain ⟨c1,c2,c3,c4,c5,c6,c7,c8,rfl,_,_,_,fz⟩:=hc.gen;obtain ⟨d1,d2,d3,d4,rfl,gd⟩:=hd.gen;have two:∃u e,CD (fm s (bm x) (bm y))= .au [.str u,aa e]:=by unfold CD;split<;>exact ⟨_,_,rfl⟩
  obtain ⟨u,e,hu⟩:=two;rw [hu] at e7 ⊢;rw [h0] at e3;unfold ah at e1 e2 e3 e4 e5 e6 e7 ⊢;rw [aC h.Oz];unfold zR at*
  simp only [go_sem,ya,yd,yI,yp,yk,NZ,aM,hw.len,hw.ai,yf,pL,bA,yo,e1,e2,e3,bc,e4,gb.ai,e5,fz,e6,gd.ai,e7,pD,so,ss]
  first | done | rfl
 ·rw [yN (by simp [h0])];unfold ah at e1 e2 e3 ⊢;rw [aC h.Oz];unfold zR at*
  simp only [go_sem,ya,yd,yI,yp,yk,NZ,aM,hw.ai,yf,pL,bA,yo,e1,e2,e3,h0,yE,yU]
  first | done | rfl
end
def alC {s:List Nat} (h:bZ s=0) (hl:s.length<=40):Hq 160 (bm s):=by
 have e:=(sE h).1;have l:(RT (bm s)).length<=40:=by rw [<-e];exact hl
 unfold RT at l;rw [yR] at l
 refine ⟨Dr (k:=40) ?_ (by decide),Dr (z:=((bm s).den:Int)) (k:=40) ?_ (by decide)⟩
 ·by_cases c:(bm s).num<0
  ·rw [jJ c,yz] at l;omega
  ·have h2:(bm s).num=(((bm s).num.natAbs:Nat):Int):=by omega
   rw [h2,j8] at l;omega
 ·rw [xq];by_cases c:(bm s).den=1
  ·rw [c];decide
  ·rw [yB c,yz] at l;omega
def NA {z:Int} (hz: -1000<=z/\z<=1000):Hq 160 ((z:Int):Rat):=⟨by rw [wX];unfold Bd;exact yu (show z.natAbs<2^10 by omega) (yV (by decide) (by decide)),by rw [wY];unfold Bd;decide⟩
structure JT (P:aF) (L:Lib) (k:List Nat) (z:Int) (b:Nat) (g:Bool):Prop where
 ex:∃x1 x2 x3 x4 y1 y2 y3 y4 w1 w2 w3 w4 q,ah P L 62 [.str k] (.agg [x1,x2,x3,x4])/\F4 x1 x2 x3 x4/\ah P L 69 [aa z] (.agg [y1,y2,y3,y4])/\F4 y1 y2 y3 y4/\ah P L 49 [.agg [x1,x2,x3,x4],.agg [y1,y2,y3,y4]] (.agg [w1,w2,w3,w4])/\F4 w1 w2 w3 w4/\
  ah P L 46 [.agg [w1,w2,w3,w4]] (.str q)/\ah P L 202 [.str q] (.au [.aK .f32 b,aa (if g=true then 0 else 4)])
section
variable {P:aF} {L:Lib}
def alD (hp:Gj P L) {k:List Nat} (hk:bZ k=0) (OA:k.length<=40) {z:Int} (hz: -1000<=z/\z<=1000):
  ∃(o:Option Nat) (b:Nat),NF (cL (bm k*(z:Rat))) o/\JT P L k z b o.isSome/\∀M,o=some M->Fl b (po (bm k*(z:Rat)) M) M:=by
 have ka:=alC hk OA;have kz:=NA hz;have kp:Hq (160+160) (bm k*(z:Rat)):=ka.mul kz;obtain ⟨x,e1,hx⟩:=aut hp.toCk hk;obtain ⟨y,e2,hy⟩:=E8 hp.toFr' (z:=z) (by omega) (by omega);obtain ⟨w,e3,hw⟩:=zO hp.toFr' hx hy ka kz (by decide);have e4:=m46 hp.toTx hw kp (by decide);obtain ⟨o,n1,w1⟩:=auS hp (kp.mono (by decide)) (Av kp (by decide));obtain ⟨x1,x2,x3,x4,rfl,fx⟩:=hx.gen;obtain ⟨y1,y2,y3,y4,rfl,fy⟩:=hy.gen;obtain ⟨z1,z2,z3,z4,rfl,fw⟩:=hw.gen
 cases o with
 | none=>exact ⟨none,0,n1,⟨_,_,_,_,_,_,_,_,_,_,_,_,_,e1,fx,e2,fy,e3,fw,e4,w1⟩,fun M h=>by cases h⟩
 | some M=>
  obtain ⟨b,hb,w1⟩:=w1;exact ⟨some M,b,n1,⟨_,_,_,_,_,_,_,_,_,_,_,_,_,e1,fx,e2,fy,e3,fw,e4,w1⟩,fun N h=>by cases h;exact hb⟩
def kR (v:AV) (k:List Nat) (junk:List AV) (E:Int):Hp:=[(3,.cells true true true 1 [aa E]),(2,.cells false true true 1 junk),(1,.cells true true true 1 [.str k]),(0,.cells true true true 1 [v])]
def ai2 {v:AV} {k:List Nat} {junk:List AV} {E:Int} {B:Nat} (h:4<=B):pK B B (kR v k junk E):=⟨by omega,.inl rfl,by omega,.inl rfl,by omega,.inl rfl,by omega,.inl rfl,trivial⟩
def alE {v:AV} {k:List Nat} {junk:List AV} {E:Int} {B:Nat}:dS B (kR v k junk E)=[]:=by
 simp only [kR,dS,ji,yt,xY];cases yJ 3 B<;>cases yJ 2 B<;>cases yJ 1 B<;>cases yJ 0 B<;>rfl
def auU (S6:Has P L 386 IG) (qd:Has P L 33 EO) {v:AV} {s:List (List Int)} (hv:fJ v s) {k:List Nat} {junk:List AV} {E:Int} {c r:Nat} (hr:r<s.length) (hc:c<s[r].length) {b:Nat} {g:Bool} (hF:JT P L k (kv s r c) b g) {iE:Hp} {ct:Nat} (hm:∀p,p∈iE->4<=p.1) (eZ:4<=ct):
  ∃o,dj P L (D P L) (iE++kR v k junk E) ct .dyn (.fn (.f 386) [] [.ptr 1 0,.ptr 0 0,.ptr 3 0]) [aa c,aa r]=some (.aK .f32 b,(ct,o)::(iE++kR v k junk (cp [E,if g=true then 0 else 4])),ct+1):=by
 obtain ⟨x1,x2,x3,x4,y1,y2,y3,y4,w1,w2,w3,w4,q,e1,fx,e2,fy,e3,fw,e4,e5⟩:=hF.ex;obtain ⟨kr,rest,cg,fp⟩:=hv.br hr;have UX:=cg.br hc;rw [QJ hr hc] at UX;have e6:ah P L 33 [.aA true 2 [.int .i64 E,.int .i64 (if g=true then 0 else 4)]] (aa (cp [E,if g=true then 0 else 4])):=E0 qd (iQ true [E,if g=true then 0 else 4]) (by simp);have g0:ak (iE++kR v k junk E) 0=some (.cells true true true 1 [v]):=GI (by omega) hm;have g1:ak (iE++kR v k junk E) 1=some (.cells true true true 1 [.str k]):=GI (by omega) hm;have g3:ak (iE++kR v k junk E) 3=some (.cells true true true 1 [aa E]):=GI (by omega) hm;have s3:∀y,aU (iE++kR v k junk E) 3 (.cells true true true 1 [.int .i64 y])=iE++kR v k junk y:=fun y=>XD (by omega) hm
 generalize hF':(if g=true then (0:Int) else 4)=ge at e5 e6 ⊢;generalize cp [E,ge]=F at e6 ⊢;generalize hH:iE++kR v k junk E=H at g0 g1 g3 s3;generalize hH2:iE++kR v k junk F=H2;have s3:=s3 F;rw [hH2] at s3;unfold ah at e1 e2 e3 e4 e5 e6;have hnp:aD ([]++([aa c,aa r]++[AV.ptr 1 0,.ptr 0 0,.ptr 3 0]))=false:=rfl;simp only [dj,hnp,yG];have ez:∃tm o,D P L IG.body ⟨ew 0 ([]++([aa c,aa r]++[AV.ptr 1 0,.ptr 0 0,.ptr 3 0])),H,ct,ct⟩=some (.ret,⟨tm,(ct,o)::H2,ct+1,ct⟩)/\aj tm 7= .aK .f32 b:=by
  have n3:¬ct=3:=by omega
  simp only [go_sem,ya,yd,yI,yp,yk,IG,g0,g1,g3,fp,UX,e1,bc,e2,fx.ai,fy.ai,e3,fw.ai,e4,e5,pD,so,ss,ai0,e6,n3,s3];exact ⟨_,_,rfl,by simp only [go_sem]⟩
 obtain ⟨tm,o,ez,h7⟩:=ez;exact ⟨o,G5 S6 ez (.inr rfl) (by show gW _ [.t 7]=_;rw [IM,H0,h7])⟩
def nM (f:Nat->Bool) (j:Nat):Int:=if (xG j).all f=true then 0 else 4
def ai3 (f:Nat->Bool) (j:Nat):nM f (j+1)=cp [nM f j,if f j=true then 0 else 4]:=by
 unfold nM;rw [tF,List.all_append];simp only [List.all_cons,List.all_nil,Bool.and_true,cp];cases (xG j).all f<;>cases f j<;>rfl
structure Vf (P:aF) (L:Lib):Prop extends BuTF P L,Sq P L where
 S7:Has P L 383 IF
 S6:Has P L 386 IG
def ai4 {b n x:Nat} (hx:x<b) {fnv:AV} {val:Nat->Nat->AV} {H:Hp}:ak (jS b n fnv val H) x=ak H x:=by
 rw [jS,qv (by omega),ak,bW (by omega),yG,ak,bW (by omega),yG,ak,bW (by omega),yG,ak,bW (by omega),yG]
def auV (h:Vf P L) (hc:Ck P L) {v:AV} {s:List (List Int)} (hv:fJ v s) (hl:s.length<=1000000) (hr:∀i (hi:i<s.length),s[i].length<=1000000) {k:List Nat} (lk:k.length<=1000000000):
  (cp [iq s,bZ k]≠0->ah P L 383 [v,.str k] (.au [.ae,aa (cp [iq s,bZ k])]))/\
  (cp [iq s,bZ k]=0->∀(B:Nat->Nat->Nat) (G:Nat->Nat->Bool),(∀c r,c<s.length->r<s.length->JT P L k (kv s r c) (B c r) (G c r))->
   ((∃c r,c<s.length/\r<s.length/\G c r=false)->ah P L 383 [v,.str k] (.au [.ae,aa 4]))/\
   ((∀c r,c<s.length->r<s.length->G c r=true)->ah P L 383 [v,.str k] (.au [CC (fun c r=> .aK .f32 (B c r)) s.length,aa 0]))):=by
 have e4:=s4 h.toSq hv hl hr;have OI:=OC hc lk;have OJ:ah P L 33 [.aA true 2 [.int .i64 (iq s),.int .i64 (bZ k)]] (aa (cp [iq s,bZ k])):=E0 h.qd (iQ true [iq s,bZ k]) (by simp);unfold ah at e4 OI OJ;refine ⟨fun h0=>?_,fun h0 B G hF=>?_⟩
 ·unfold ah;rw [aC h.S7];simp only [go_sem,ya,yd,yI,yp,yk,IF,hv.pu,hv.ai,hv.one,hv.cells,e4,OI,OJ,h0,yE,yU]
 ·have h1:=(Qu.1 h0).1;have hS:=DS hv h1;obtain ⟨n0,n1,Bp⟩:=J4 h1;have jq:∀i (hi:i<s.length),s[i].length=s.length:=fun i hi=>(Dl Bp i hi).1
  obtain ⟨junk,hj⟩:∃junk,junk=[AV.int .i64 (iq s),.int .i64 (bZ k)]:=⟨_,rfl⟩;have hf:LA P L 4 s.length (.fn (.f 386) [] [.ptr 1 0,.ptr 0 0,.ptr 3 0]) (fun c r=> .aK .f32 (B c r)) (fun j=>kR v k junk (nM (fun j=>G (j%s.length) (j/s.length)) j)):=by
   refine ⟨by omega,fun j=>⟨⟨trivial,show 1<4 by omega,show 0<4 by omega,show 3<4 by omega,trivial⟩,by simp [refs,eG],rfl,ai2 (yA 4),fun B=>by rw [alE];simp⟩,fun _ _=>rfl,fun _ _=>rfl,fun c r gC bC iE ct hm eZ=>?_⟩
   have ec:(r*s.length+c)%s.length=c:=by rw [tx,yar,yL gC]
   have er:(r*s.length+c)/s.length=r:=by rw [tx,yaQ _ _ n0,xP gC,yf]
   obtain ⟨o,ho⟩:=auU (P:=P) (L:=L) h.S6 h.qd hv (junk:=junk) (E:=nM (fun j=>G (j%s.length) (j/s.length)) (r*s.length+c)) bC (by rw [jq r bC];exact gC) (hF c r gC bC) hm eZ
   refine ⟨o,?_⟩;rw [ho,ai3];simp only [ec,er]
  obtain ⟨tm,ct,auW,h4⟩:=ag3 (P:=P) (L:=L) h.toBuTF (b:=4) (n:=s.length) n0 hf (fun p hp=>by
   simp only [kR,wA,vX,ybj] at hp
   rcases hp with rfl | rfl | rfl | rfl<;>simp)
  have qX:dj P L (D P L) [(3,.cells true true true 1 [.int .i64 0]),(2,.cells false true true 1 junk),(1,.cells true true true 1 [.str k]),(0,.cells true true true 1 [v])] 4 .heap (.fn (.f 387) [] []) [aa s.length,.fn (.f 386) [] [.ptr 1 0,.ptr 0 0,.ptr 3 0]]=
    some (.ay (4+2) 0 s.length,jS 4 s.length (.fn (.f 386) [] [.ptr 1 0,.ptr 0 0,.ptr 3 0]) (fun c r=> .aK .f32 (B c r)) (kR v k junk (nM (fun j=>G (j%s.length) (j/s.length)) (s.length*s.length))),ct):=
   G5 (vals:=[aa s.length,.fn (.f 386) [] [.ptr 1 0,.ptr 0 0,.ptr 3 0]]) h.auw auW (.inr rfl) (by show gW _ [.t 4]=_;rw [IM,H0,h4])
  have pQ:=@aiW 4 s.length n0 (by omega) (.fn (.f 386) [] [.ptr 1 0,.ptr 0 0,.ptr 3 0]) (fun c r=> .aK .f32 (B c r)) (kR v k junk (nM (fun j=>G (j%s.length) (j/s.length)) (s.length*s.length))) .i64 0;have Gi:ak (jS 4 s.length (.fn (.f 386) [] [.ptr 1 0,.ptr 0 0,.ptr 3 0]) (fun c r=> .aK .f32 (B c r)) (kR v k junk (nM (fun j=>G (j%s.length) (j/s.length)) (s.length*s.length)))) 3=some (.cells true true true 1 [aa (nM (fun j=>G (j%s.length) (j/s.length)) (s.length*s.length))]):=by
   rw [ai4 (by omega)];rfl
  refine ⟨fun Ib=>?_,fun im=>?_⟩
  ·have hE:nM (fun j=>G (j%s.length) (j/s.length)) (s.length*s.length)=4:=by
    obtain ⟨c,r,gC,bC,hg⟩:=Ib;unfold nM;rw [yB];intro gL;rw [ybA] at gL
    have:=gL (r*s.length+c) (tL.2 (by
     have:(r+1)*s.length<=s.length*s.length:=yQ _ bC
     rw [wh,ybV] at this
     omega))
    have ec:(r*s.length+c)%s.length=c:=by rw [tx,yar,yL gC]
    have er:(r*s.length+c)/s.length=r:=by rw [tx,yaQ _ _ n0,xP gC,yf]
    simp only [ec,er,hg] at this;cases this
   rw [hE] at qX Gi;subst hj;unfold ah;rw [aC h.S7];simp only [go_sem,ya,yd,yI,yp,yk,IF,hv.len,hv.pu,hv.ai,hv.one,hv.cells,e4,OI,OJ,h0,yx,yT,qX,Gi,vM,yE,yU]
  ·have hE:nM (fun j=>G (j%s.length) (j/s.length)) (s.length*s.length)=0:=by
    unfold nM;rw [yN];rw [ybA];intro j kJ;have kJ:=tL.1 kJ;exact im _ _ (Nat.mod_lt _ n0) (Nat.div_lt_of_lt_mul kJ)
   rw [hE] at qX Gi pQ;subst hj;unfold ah;rw [aC h.S7];simp only [go_sem,ya,yd,yI,yp,yk,IF,hv.len,hv.pu,hv.ai,hv.one,hv.cells,e4,OI,OJ,h0,yx,yT,qX,Gi,pQ]
end
def pq (B:Nat->Nat->Nat) (r n:Nat):List Nat:=(xG n).map fun c=>B c r
def Qv {B:Nat->Nat->Nat} {r n:Nat}:(pq B r n).length=n:=by simp [pq]
def anZ {B:Nat->Nat->Nat} {r n c:Nat} (h:c<(pq B r n).length):(pq B r n)[c]=B c r:=by simp [pq]
def jT (e:Bool) (B:Nat->Nat->Nat) (n:Nat):List AV:=(xG n).map fun r=> .aA e n ((pq B r n).map (.aK .f32))
def K9 {e:Bool} {B:Nat->Nat->Nat} {n:Nat}:(jT e B n).length=n:=by simp [jT]
def YG {e:Bool} {B:Nat->Nat->Nat} {n r:Nat} (h:r<(jT e B n).length):cP ((jT e B n)[r]) ((pq B r n).map (.aK .f32)):=by
 have h1:(jT e B n)[r]= .aA e n ((pq B r n).map (.aK .f32)):=by simp [jT]
 rw [h1]
 have:=Dy e ((pq B r n).map (.aK .f32))
 rwa [xo,Qv] at this
def an0 (B:Nat->Nat->Nat) (n:Nat):cP (CC (fun c r=> .aK .f32 (B c r)) n) (jT true B n):=by
 have h1:CC (fun c r=>AV.aK .f32 (B c r)) n= .aA true n (jT true B n):=by
  simp only [CC,jT,pq,List.map_map];rfl
 rw [h1]
 have:=Dy true (jT true B n)
 rwa [K9] at this
section
open Go (IntKind)
open Ieee
def alF (w:Nat):nR (w:Rat)=w:=by
 have hf:(w:Rat).floor.toNat=w:=by
  have:(w:Rat).floor=(w:Int):=by
   have e:(w:Rat)=((w:Int):Rat):=rfl;rw [e,Rat.floor_intCast]
  rw [this,wo]
 unfold nR;rw [hf,Rat.sub_self,abn,yB];rintro (q | ⟨q,_⟩)
 ·exact absurd q (by decide+kernel)
 ·exact absurd q (by decide+kernel)
def alG (s:Bool) (M:Nat):cL (sf s M)*p2 149=(M:Rat):=by
 rw [<-ag7 (mF 149),anY];unfold cL eE;have hM:(0:Rat)<=(M:Rat):=Rat.natCast_nonneg
 cases s with
 | false=>
  simp only [yD,xk];exact yB (vz.2 hM)
 | true=>
  have e:(((M:Nat):Int):Rat)=(M:Rat):=rfl;simp only [xA,yag,e]
  split<;>grind
def aqH {b M:Nat} {s:Bool} (hb:Fl b s M) {o:Option Nat} (h:NF (cL (sf s M)) o):o=some M:=by
 have ev:=alG s M;have aR:=hb.lt;obtain ⟨m,j,hm,hj,hM⟩:=hb.mag;rcases h with ⟨h1,_⟩ | ⟨_,k,hk,jc,h3⟩
 ·have h2:=wL h1 (vj (mF 149));rw [ev,<-ix,show (128:Int)+149=((277:Nat):Int) by omega,gj] at h2
  have:2^277<=M:=by exact_mod_cast h2
  omega
 ·have aY:=hk.lo;obtain ⟨t,ht⟩:∃t,t=(149+k).toNat:=⟨_,rfl⟩;have ey:cL (sf s M)*p2 (-k)*p2 (149+k)=(M:Rat):=by
   rw [wj,<-ix,show -k+(149+k)=149 by omega,ev]
  have et:=anX k aY;rw [<-ht] at et;rw [<-et] at ey;have hp:0<2^t:=xn _;have hpR:(0:Rat)<((2^t:Nat):Rat):=by exact_mod_cast hp
  obtain ⟨w,hw⟩:∃w,M=w*2^t:=by
   by_cases c:t<=j
   ·obtain ⟨d,rfl⟩:∃d,j=t+d:=⟨j-t,by omega⟩;exact ⟨m*2^d,by rw [hM,xL,xp,xy (2^d)]⟩
   ·have hg:8388608<=cL (sf s M)*p2 (-k):=by
     rcases hk.ge with g | g
     ·exact g
     ·exact absurd (show t<=j by omega) c
    have h1:=wL hg (vj hpR);rw [ey] at h1;have h2:((8388608*2^t:Nat):Rat)<=(M:Rat):=by rw [wc];exact h1
    have h3:8388608*2^t<=M:=by exact_mod_cast h2
    obtain ⟨d,rfl⟩:∃d,t=j+1+d:=⟨t-j-1,by omega⟩;have h4:m*2^j<16777216*2^j:=xS hm (xn _);have h5:2^(j+1)*1<=2^(j+1)*2^d:=yS _ Nat.one_le_two_pow;rw [xL] at h3;rw [y7] at h3 h5;omega
  have hy:cL (sf s M)*p2 (-k)=(w:Rat):=by
   have ey:cL (sf s M)*p2 (-k)*((2^t:Nat):Rat)=(w:Rat)*((2^t:Nat):Rat):=by rw [ey,<-wc,<-hw]
   have:=congrArg (·*(((2^t:Nat):Rat))⁻¹) ey
   simp only [wj,tK _ (Rat.ne_of_gt hpR),wG] at this;exact this
  have hl:=hk.lt;rw [hy,alF] at h3;rw [hy] at hl;have gD:w<16777216:=by exact_mod_cast hl
  rcases h3 with ⟨q,_⟩ | ⟨_,q⟩
  ·omega
  ·rw [q,hw,ht]
end
def an1 (z:Int):sf (decide (z<0)) (z.natAbs*2^149)=(z:Rat):=by
 have h1:eE (decide (z<0)) (z.natAbs*2^149)=z*((2^149:Nat):Int):=by
  unfold eE;by_cases h:z<0
  ·rw [xj h,yN rfl];have e:(z.natAbs:Int)= -z:=by omega
   generalize (2^149:Nat)=g;rw [wN,e,Int.neg_mul,Int.neg_neg]
  ·rw [yY h,yB (by decide)];have e:(z.natAbs:Int)=z:=by omega
   generalize (2^149:Nat)=g;rw [wN,e]
 unfold sf;rw [h1,th];have h2:(((2^149:Nat):Int):Rat)=p2 149:=(gj 149).symm;rw [h2,wj,<-ix,show (149:Int)+ -149=0 from rfl,rD,wG]
def aqI {z:Int} (hz:z.natAbs<=16777216) {o:Option Nat} (h:NF (cL (z:Rat)) o):o=some (z.natAbs*2^149):=by
 have hb:=Fl.ofInt hz;rw [<-an1 z] at h;exact aqH hb h
def an2 (z:Int):eE (po (z:Rat) (z.natAbs*2^149)) (z.natAbs*2^149)=eE (decide (z<0)) (z.natAbs*2^149):=by
 by_cases h:z<0
 ·have h1:(z:Rat)<0:=by
   have:=xN.2 h
   exact this
  have h2:z.natAbs*2^149≠0:=Nat.mul_ne_zero (by omega) (vG (xn _));unfold po;rw [xj h1,xj h2,xj h];rfl
 ·have h1:¬(z:Rat)<0:=fun q=>h (xN.1 q)
  unfold po;rw [yY h1,yY h];rfl
section
variable {P:aF} {L:Lib} {v f:AV} {s:List (List Int)} {n:Nat} {V:List Nat} {z0:Int} {B:Nat->Nat->Nat} {e:Bool}
def Vm (s:List (List Int)) (B:Nat->Nat->Nat) (n:Nat):Prop:=∀c r,c<n->r<n->∃g M,Fl (B c r) g M/\eE g M=eE (decide (kv s r c<0)) ((kv s r c).natAbs*2^149)
def aqJ (rC:Has P L 265 Eh) (hm:Rm P L) (hv:fJ v s) (hn:s.length=n) (jq:∀i (hi:i<s.length),s[i].length=n) (fa:n<=1000) (hk:∀r c,-1000<=kv s r c/\kv s r c<=1000) (hf:cP f (jT e B n)) (hB:Vm s B n) {r:Nat} (hr:r<n) {w:AV} (hw:a8 w (s[r]'(by omega))) (JU kQ:Int) (b0: -1000<=JU/\JU<=1000/\-1000<=kQ/\kQ<=1000) (Vn:Bool):
  ∀d st,(∃(c:Nat) (lo hi:Int) (fd:Bool),aT [0,8,14,24,26,27,28,29,194,195,209,210,211] st=⟨[(0,v),(8,.str V),(14,.str (RT (z0:Rat))),(24,f),(26,aa lo),(27,aa hi),(28,.bool fd),(29,aa r),(194,aa n),(195,aa r),(209,w),(210,aa n),(211,aa c)],[],0,0⟩/\c+d=n/\
    (lo<=JU/\kQ<=hi/\-1000<=lo/\hi<=1000/\(Vn=true->fd=true))/\∀i,i<c->lo<=kv s r i/\kv s r i<=hi/\(kv s r i=z0->fd=true))->
   ∃ex s',D P L (.loop [0,8,14,24,26,27,28,29,194,195,209,210,211] DL) st=some (ex,s')/\∃tm ct lo hi fd,s'=⟨tm,[],ct,0⟩/\ex= .exit 2/\aj tm 0=v/\aj tm 8= .str V/\aj tm 14= .str (RT (z0:Rat))/\aj tm 24=f/\aj tm 26=aa lo/\aj tm 27=aa hi/\aj tm 28= .bool fd/\aj tm 194=aa n/\aj tm 195=aa r/\
    (lo<=JU/\kQ<=hi/\-1000<=lo/\hi<=1000/\(Vn=true->fd=true))/\∀i,i<n->lo<=kv s r i/\kv s r i<=hi/\(kv s r i=z0->fd=true):=by
 intro dq sq;generalize bt:aT [0,8,14,24,26,27,28,29,194,195,209,210,211] sq=s0;revert bt s0 sq dq;apply dU;rintro d st ⟨c,lo,hi,fd,rfl,hd,hb,gC⟩;by_cases hc:c<n
 ·left
  have bC:r<s.length:=by omega
  have Bi:s[r].length=n:=jq r bC;have e1:=hw.br (i:=c) (by omega);rw [QJ bC (by omega)] at e1;have UF:=hk r c;have e2:=Mg hm rC (n:=kv s r c) (by omega);obtain ⟨g,M,hF,hs⟩:=hB c r hc hr;obtain ⟨b',e3,hF'⟩:=anV (n:=kv s r c) (by omega);have e4:=asf hF hF';rw [xj hs] at e4;have qg:r<(jT e B n).length:=by rw [K9];exact hr
  have e5:=hf.br qg;have r1:=YG qg;have oW:c<((pq B r n).map (AV.aK .f32)).length:=by rw [xo,Qv];exact hc
  have e6:=r1.br oW;rw [ybH,anZ] at e6;generalize (jT e B n)[r]=X at e5 e6 r1;generalize hz:kv s r c=z at e1 e2 e3 e4 UF;unfold ah at e2;have step:∀sj,(fd=true->sj=true)->(z=z0->sj=true)->∀i,i<c+1->(if z<lo then z else lo)<=kv s r i/\kv s r i<=(if z>hi then z else hi)/\(kv s r i=z0->sj=true):=fun sj q1 q2 i cI=>by
   by_cases q:i<c
   ·obtain ⟨a,b,c'⟩:=gC i q;refine ⟨?_,?_,fun k=>q1 (c' k)⟩
    ·split<;>omega
    ·split<;>omega
   ·have:i=c:=by omega
    subst this;rw [hz];refine ⟨?_,?_,q2⟩
    ·split<;>omega
    ·split<;>omega
  have bnd:∀sj,(fd=true->sj=true)->(if z<lo then z else lo)<=JU/\kQ<=(if z>hi then z else hi)/\-1000<=(if z<lo then z else lo)/\(if z>hi then z else hi)<=1000/\(Vn=true->sj=true):=fun sj q=>by
   refine ⟨?_,?_,?_,?_,fun k=>q (hb.2.2.2.2 k)⟩<;>(split<;>omega)
  cases fd with
  | true=>
   simp only [go_sem,ya,DL,show (c:Int)<n by omega,e1,LI,mB,KV,mw,e5,e6,e3,e4,yT];refine ⟨_,d-1,rfl,by omega,c+1,_,_,true,?_,by omega,bnd true (fun _=>rfl),step true (fun _=>rfl) (fun _=>rfl)⟩;rw [wrap64 (by omega) (by omega)];simp only [go_sem,ya,az,aE hv.pu,aJ _ hv.pu,aE hf.pu,aJ _ hf.pu,aE hw.pu,aJ _ hw.pu]<;>rfl
  | false=>
   have e7:binOp .eql (.str (RT (z:Rat))) (.str (RT (z0:Rat)))=some (.bool (decide (z=z0))):=by
    rw [lc,aqB]
    congr 2
    by_cases q:z=z0
    ·rw [xj q,q,xj rfl]
    ·rw [yY q,yY fun k=>q (ycb.1 k)]
   simp only [go_sem,ya,DL,show (c:Int)<n by omega,e1,LI,mB,KV,mw,e2,e7,e5,e6,e3,e4,yT];refine ⟨_,d-1,rfl,by omega,c+1,_,_,decide (z=z0),?_,by omega,bnd _ (fun q=>by cases q),step _ (fun q=>by cases q) (fun q=>xj q)⟩;rw [wrap64 (by omega) (by omega)];simp only [go_sem,ya,az,aE hv.pu,aJ _ hv.pu,aE hf.pu,aJ _ hf.pu,aE hw.pu,aJ _ hw.pu]<;>rfl
 ·right
  have:c=n:=by omega
  subst this;simp only [go_sem,ya,DL,show ¬(c:Int)<c by omega];refine ⟨_,_,rfl,by simp,_,_,lo,hi,fd,rfl,rfl,by simp only [go_sem,ya],by simp only [go_sem,ya],by simp only [go_sem,ya],by simp only [go_sem,ya],by simp only [go_sem,ya],by simp only [go_sem,ya],by simp only [go_sem,ya],by simp only [go_sem,ya],by simp only [go_sem,ya],hb,gC⟩
def aqK (rC:Has P L 265 Eh) (hm:Rm P L) (hv:fJ v s) (hn:s.length=n) (jq:∀i (hi:i<s.length),s[i].length=n) (fa:n<=1000) (hk:∀r c,-1000<=kv s r c/\kv s r c<=1000) (hf:cP f (jT e B n)) (hB:Vm s B n):
  ∀d st,(∃(r:Nat) (lo hi:Int) (fd:Bool),aT [0,8,14,24,26,27,28,194,195] st=⟨[(0,v),(8,.str V),(14,.str (RT (z0:Rat))),(24,f),(26,aa lo),(27,aa hi),(28,.bool fd),(194,aa n),(195,aa r)],[],0,0⟩/\r+d=n/\
    (-1000<=lo/\lo<=1000/\-1000<=hi/\hi<=1000)/\∀j,j<r->∀i,i<n->lo<=kv s j i/\kv s j i<=hi/\(kv s j i=z0->fd=true))->
   ∃ex s',D P L (.loop [0,8,14,24,26,27,28,194,195] HH) st=some (ex,s')/\∃tm ct lo hi fd,s'=⟨tm,[],ct,0⟩/\ex= .exit 0/\aj tm 8= .str V/\aj tm 26=aa lo/\aj tm 27=aa hi/\aj tm 28= .bool fd/\
    (-1000<=lo/\lo<=1000/\-1000<=hi/\hi<=1000)/\∀j,j<n->∀i,i<n->lo<=kv s j i/\kv s j i<=hi/\(kv s j i=z0->fd=true):=by
 intro dq sq;generalize bt:aT [0,8,14,24,26,27,28,194,195] sq=s0;revert bt s0 sq dq;apply dU;rintro d st ⟨r,lo,hi,fd,rfl,hd,hb,hj⟩;by_cases hr:r<n
 ·left
  have bC:r<s.length:=by omega
  obtain ⟨w,rest,hw,e1⟩:=hv.br bC;have Bi:s[r].length=n:=jq r bC;have qg:r<(jT e B n).length:=by rw [K9];exact hr
  have e5:=hf.br qg;have r1:=YG qg;have hlen:((pq B r n).map (AV.aK .f32)).length=n:=by rw [xo,Qv]
  generalize (jT e B n)[r]=X at e5 r1;have key:=aqJ (P:=P) (L:=L) (V:=V) (z0:=z0) rC hm hv hn jq fa hk hf hB hr hw lo hi hb fd;simp only [go_sem,ya,HH,show (r:Int)<n by omega,e5,r1.len,hlen,hv.len,hn,e1,hw.len,Bi,yx,yT];generalize hq:D P L (.loop [0,8,14,24,26,27,28,29,194,195,209,210,211] DL) _=q;obtain ⟨ex,st,rfl,tm,ct,lK,cI,sj,rfl,rfl,g0,g8,g14,g24,g26,g27,g28,auX,auY,bX,gC⟩:=b9 hq (key n) ⟨0,lo,hi,fd,by simp only [go_sem,ya,az,aE hv.pu,aJ _ hv.pu,aE hf.pu,aJ _ hf.pu,aE hw.pu,aJ _ hw.pu]<;>rfl,by omega,⟨yba _,yba _,by omega,by omega,id⟩,fun i hi=>absurd hi (tn i)⟩
  simp only [go_sem,ya,az,g0,g8,g14,g24,g26,g27,g28,auX,auY,aE hv.pu,aJ _ hv.pu,aE hf.pu,aJ _ hf.pu];refine ⟨_,d-1,rfl,by omega,r+1,lK,cI,sj,?_,by omega,by omega,fun j kJ i hi=>?_⟩
  ·rw [wrap64 (by omega) (by omega)];simp only [go_sem,ya,az,aE hv.pu,aJ _ hv.pu,aE hf.pu,aJ _ hf.pu]<;>rfl
  ·by_cases q:j<r
   ·obtain ⟨a,b,c⟩:=hj j q i hi;exact ⟨by omega,by omega,fun k=>bX.2.2.2.2 (c k)⟩
   ·have:j=r:=by omega
    subst this;exact gC i hi
 ·right
  have:r=n:=by omega
  subst this;simp only [go_sem,ya,HH,show ¬(r:Int)<r by omega];refine ⟨_,_,rfl,by simp,_,_,lo,hi,fd,rfl,rfl,by simp only [go_sem,ya],by simp only [go_sem,ya],by simp only [go_sem,ya],by simp only [go_sem,ya],hb,hj⟩
end
section
variable {P:aF} {L:Lib}
def a14 (JL:Has P L 14 NY) (a b:List Nat):ah P L 14 [.str a,.str b] (zR a b):=by
 unfold ah;rw [aC JL];simp only [go_sem,ya,yd,yp,NY,aM,eI];rfl
end
abbrev Vo (a b:List Nat):Obj:= .cells true true true 2 [.str a,.str b]
structure Lay where
 w:AV
 s:List (List Int)
 hh:List Nat
 sc:List Nat
 st:List Nat
 ox:List Nat
 oy:List Nat
 wx:List Nat
 wy:List Nat
def Lay.cs (a:Lay):List AV:=[a.w,.str a.hh,.str a.sc,.str a.st,.str a.ox,.str a.oy,.str a.wx,.str a.wy]
def Lay.T (a:Lay):AV:=lyT a.w a.hh a.sc a.st a.ox a.oy a.wx a.wy
noncomputable def Lay.E (a:Lay):Int:=auu a.s a.hh a.sc a.st a.ox a.oy a.wx a.wy
section
variable {P:aF} {L:Lib}
def ade (h:Rm P L) (NB:Has P L 358 IE) (zt:Has P L 359 rm) {x y:List Nat} (hx:x.length<9223372036854775808) (hy:y.length<9223372036854775808):ah P L 358 [zR x y,aa 6] (.bool (mO 6 x&&mO 6 y)):=by
 have e1:=ac1 h zt hx;have e2:=ac1 h zt hy;unfold ah at e1 e2 ⊢;rw [aC NB];cases h1:mO 6 x<;>rw [h1] at e1
 ·simp only [go_sem,ya,yd,IE,aM,bl,yf,e1,wB]
 ·simp only [go_sem,ya,yd,IE,aM,bl,yf,cC,e1,e2,wF]
end
structure BJ (P:aF) (L:Lib):Prop where
 r:Rn P L
 p:Vv P L
 f:Vf P L
 n:Gj P L
 h3:Has P L 3 c3
 JL:Has P L 14 NY
 CX:Has P L 30 CR
 I2:Has P L 261 Is
 rC:Has P L 265 Eh
 acF:Has P L 277 AL
 Nv:Has P L 315 MZ
 Nw:Has P L 319 M0
 Nx:Has P L 336 ID
 CA:Has P L 338 Ek
 CB:Has P L 339 Co
 NB:Has P L 358 IE
 zt:Has P L 359 rm
 NC:Has P L 391 nE
 abo:ah P L 1 [] (.bool true)
def Z9 {p:Int} (h0:0<=p) (h1:p<256):0<=wi p 255/\wi p 255<=1/\Hq 8 (wi p 255):=by
 obtain ⟨m,rfl⟩:∃m:Nat,p=m:=⟨p.toNat,by omega⟩;refine ⟨Rat.divInt_nonneg (by omega) (by decide),?_,Hq.divInt (by decide) (by unfold Bd;rw [xq];omega) (by decide)⟩;rw [uN];have h2:((m:Int):Rat)<=((255:Int):Rat):=wb.2 (by omega);have h3:((255:Int):Rat)=255:=rfl;rw [h3] at h2 ⊢
 grind
section
variable {P:aF} {L:Lib} {v:AV} {s:List (List Int)} {x y:List Nat} {p q:Int}
def DT (h:BJ P L) (hv:fJ v s) (hE:iq s=0) {a b:Rat} (ka:Hq 100 a) (kb:Hq 100 b):bE P L (D P L) 19 [v,.agg [.str (RT a),.str (RT b)]]=some (.au [.str (RT (fm s a b)),aa 0]):=by
 have hS:=DS hv hE;have hl:=hS.le;have hn:=hS.len;obtain ⟨_,_,Bp⟩:=J4 hE;have e:=m19 h.p hv (by omega) (fun i hi=>by rw [(Dl Bp i hi).1];omega) (x:=RT a) (y:=RT b) (by have:=mE ka;omega) (by have:=mE kb;omega);have h0:Ew s (RT a) (RT b)=0:=by
  unfold Ew;rw [hE,Av ka (by decide),Av kb (by decide)];rfl
 rw [yB (by simp [h0]),RD ka (by decide),RD kb (by decide)] at e;unfold CD at e;rw [asd (Ly (fun c r=>hS.cB c r) ka kb) (by decide)] at e;exact e
def abp (h:BJ P L) (a b:List Nat):bE P L (D P L) 14 [.str a,.str b]=some (.agg [.str a,.str b]):=a14 h.JL a b
def aqL:Hq 2 gJ:=⟨by unfold Bd gJ;decide,by unfold Bd gJ;decide⟩
def auZ:RT (3:Rat)=[51]:=by decide+kernel
def abq {z:Int} (h:z.natAbs<16):Hq 4 ((z:Int):Rat):=⟨by rw [wX];exact h,by rw [wY];unfold Bd;decide⟩
def alH (h:BJ P L) (hv:fJ v s) (hE:iq s=0) (hl:s.length<=5) (hx:mO 6 x=true) (hy:mO 6 y=true):
  ∃tm,D P L (pT 5 nE.body) ⟨[(0,v),(1,.agg [.str x,.str y]),(2,.agg [.int .u8 p,.int .u8 q])],[],0,0⟩=some (.normal,⟨tm,[(1,.cells true true true 2 [.int .u8 p,.int .u8 q]),(0,Vo x y)],2,0⟩)/\
   aj tm 0=v/\aj tm 4= .ptr 0 0/\aj tm 5= .ptr 1 0/\aj tm 8= .str (RT (fm s (bm x) (bm y)))/\aj tm 9=aa 0/\aj tm 10= .str (RT (fm s (bm x) (bm y)))/\aj tm 11=aa 0/\aj tm 12= .str (RT ((bm x).floor:Rat))/\aj tm 13= .str (RT ((bm y).floor:Rat)):=by
 have ea:=h.abo;have hS:=DS hv hE;obtain ⟨l1,q1,k1⟩:=Dz hx;obtain ⟨l2,q2,k2⟩:=Dz hy;have e0:=ade h.r.toRm h.NB h.zt (x:=x) (y:=y) (by omega) (by omega);rw [hx,hy] at e0;have e3:=s3 h.h3 h.CX hv;rw [hE] at e3;have kn:Hq 4 (((s.length:Int)):Rat):=abq (by omega);have k3:Hq 4 (3:Rat):=abq (z:=3) (by decide);have e4:=Mg h.r.toRm h.rC (n:=(s.length:Int)) (by omega);have e5:=DT h hv hE (k1.mono (xg (by decide:24<=100) (yA _))) (k2.mono (by decide));have e6:=D2 h.r.toRp k1 kn (by decide);have e7:=abc h.r k3 kn (by decide);have e8:=abd h.r.toRp k2 (k3.mul kn) (by decide);have e9:=DT h hv hE ((k1.add kn).mono (by decide)) ((k2.sub (k3.mul kn)).mono (by decide));have hp:=alw s (bm x) (bm y) 1 (-3)
 rw [show ((1*(s.length:Int):Int):Rat)=((s.length:Int):Rat) by rw [Int.one_mul],show bm y+((-3*(s.length:Int):Int):Rat)=bm y-3*((s.length:Int):Rat) by
  rw [th,show (((-3:Int)):Rat)= -3 from rfl];grind] at hp
 rw [hp] at e9;have Vp:=ac0 h.r.toRm h.Nx h.CA h.CB k1 (by decide);have Vq:=ac0 h.r.toRm h.Nx h.CA h.CB k2 (by decide);rw [auZ] at e7;have r1:=(sE q1).1;have r2:=(sE q2).1;rw [<-r1] at e5 e6 Vp;rw [<-r2] at e5 e8 Vq;have ep:=abp h;unfold zR at e0;unfold ah at ea e0 e3 e4 e6 e7 e8 Vp Vq;refine ⟨_,(by simp only [go_sem,ya,yd,nE,pT,a7,av,bl,yf,cC,pL,bA,aM,hv.len,hv.ai,yo,show ¬(5:Int)<(s.length:Int) by omega,yE,yx,yT,ea,e3,e0,wM,e4,e5,pD,so,ss,e6,e7,e8,ep,bc,e9,Vp,Vq]<;>rfl),?_,?_,?_,?_,?_,?_,?_,?_,?_⟩<;>simp only [go_sem,ya]
def alI (h:BJ P L) (hv:fJ v s) (hE:iq s=0) (hx:mO 6 x=true) (hy:mO 6 y=true) (hp:0<=p/\p<256) (hq:0<=q/\q<256) {f:AV} {e:Bool} {B:Nat->Nat->Nat} (hf:cP f (jT e B s.length)) (hF:ah P L 383 [v,.str [49]] (.au [f,aa 0])) {tm:Env} {V:List Nat}
  (t0:aj tm 0=v) (t4:aj tm 4= .ptr 0 0) (t5:aj tm 5= .ptr 1 0) (t8:aj tm 8= .str V) (t9:aj tm 9=aa 0) (t10:aj tm 10= .str V) (t11:aj tm 11=aa 0) (t12:aj tm 12= .str (RT ((bm x).floor:Rat))) (t13:aj tm 13= .str (RT ((bm y).floor:Rat))):
  ∃tm' u o m c,D P L (pT 5 (fS 5 nE.body)) ⟨tm,[(1,.cells true true true 2 [.int .u8 p,.int .u8 q]),(0,Vo x y)],2,0⟩=some (.normal,⟨tm',[(1,.cells true true true 2 [.int .u8 p,.int .u8 q]),(0,Vo x y)],2,0⟩)/\
   c=eh s (bm x).floor (bm y).floor/\m=(u+o)*gJ/\Hq 300 u/\Hq 300 o/\
   aj tm' 0=v/\aj tm' 8= .str V/\aj tm' 9=aa 0/\aj tm' 10= .str V/\aj tm' 11=aa 0/\aj tm' 14= .str (RT (c:Rat))/\aj tm' 15=aa 0/\aj tm' 18= .str (RT u)/\aj tm' 19=aa 0/\aj tm' 20= .str (RT o)/\aj tm' 21=aa 0/\aj tm' 22= .str (RT m)/\aj tm' 23=aa 0/\aj tm' 24=f/\aj tm' 25=aa 0:=by
 have hS:=DS hv hE;obtain ⟨l1,q1,k1⟩:=Dz hx;obtain ⟨l2,q2,k2⟩:=Dz hy;obtain ⟨p0,p1,kp⟩:=Z9 hp.1 hp.2;obtain ⟨q0,q1',kq⟩:=Z9 hq.1 hq.2;have kX:=GR k1 (by decide);have kY:=GR k2 (by decide);have kA:=kX.add kp;have kB:=kX.add kq;have e1:=DT h hv hE (kX.mono (by decide)) (kY.mono (by decide));rw [aiX] at e1;have e2:=Mh h.r.toRm (a:=p) (b:=255) (by omega) (by omega);have e3:=Mh h.r.toRm (a:=q) (b:=255) (by omega) (by omega);have e4:=D2 h.r.toRp kX kp (by decide);have e5:=D2 h.r.toRp kX kq (by decide);have e6:=DT h hv hE (kA.mono (by decide)) (k2.mono (by decide));have e7:=DT h hv hE (kB.mono (by decide)) (k2.mono (by decide));have e8:=D2 h.r.toRp kA kB (by decide);have e9:=acV h.r h.Nw (kA.add kB) (by decide);have ea:=DT h hv hE (((kA.add kB).mul aqL).mono (by decide)) (k2.mono (by decide))
 have ku:=Ly (fun c r=>hS.cB c r) (kA.mono (by decide:_<=100)) (k2.mono (by decide:24<=100));have ko:=Ly (fun c r=>hS.cB c r) (kB.mono (by decide:_<=100)) (k2.mono (by decide:24<=100));have hm:=alv s (bm x).floor p0 p1 q0 q1' (bm y);have hh:∀r:Rat,r*gJ=r/2:=fun r=>by rw [abn];grind
 rw [<-hh,<-hh] at hm;rw [hm] at ea;have r2:=(sE q2).1;rw [<-r2] at e6 e7 ea;have ep:=abp h;unfold ah at e2 e3 e4 e5 e8 e9 hF
 refine ⟨_,_,_,_,_,(by simp only [go_sem,ya,nE,pT,a7,av,fS,t0,t4,t5,t12,t13,show DV 2 1 0 (.ptr 1 0)=some (.ptr 1 0) from rfl,show DV 2 1 1 (.ptr 1 0)=some (.ptr 1 1) from rfl,bl,yf,cC,bA,hv.ai,yo,Ze,wrap64 (n:=p) (by omega) (by omega),wrap64 (n:=q) (by omega) (by omega),ep,bc,e1,pD,so,ss,hf.bM,e2,e3,e4,e5,e6,e7,e8,e9,ea,hF]<;>rfl),rfl,rfl,ku.mono (by decide),ko.mono (by decide),?_,?_,?_,?_,?_,?_,?_,?_,?_,?_,?_,?_,?_,?_,?_⟩<;>simp only [go_sem,ya,t0,t8,t9,t10,t11]
def an3 (z:Int):((z:Int):Rat).den=1:=wY ..
def asm (hn:Gj P L) {n:Nat} (hS:C9 v s n):∃B:Int->Nat,∀c r,JT P L [49] (kv s r c) (B (kv s r c)) true/\∃g M,Fl (B (kv s r c)) g M/\eE g M=eE (decide (kv s r c<0)) ((kv s r c).natAbs*2^149):=by
 have h1:RT (1:Rat)=[49]:=by decide+kernel
 have hc:bZ [49]=0:=by rw [<-h1];exact Av Cz (by decide)
 have hr:bm [49]=1:=by rw [<-h1];exact RD Cz (by decide)
 have gL:∀z:Int,∃b:Nat,(-1000<=z/\z<=1000)->JT P L [49] z b true/\∃g M,Fl b g M/\eE g M=eE (decide (z<0)) (z.natAbs*2^149):=fun z=>by
  by_cases hz: -1000<=z/\z<=1000
  ·obtain ⟨o,b,q1,q2,q3⟩:=alD hn hc (by decide) hz;rw [hr,uh] at q1;have ho:=aqI (by omega) q1;subst ho;have q3:=q3 _ rfl;rw [hr,uh] at q3;exact ⟨b,fun _=>⟨q2,_,_,q3,an2 z⟩⟩
  ·exact ⟨0,fun q=>absurd q hz⟩
 obtain ⟨f,hf⟩:=Classical.axiomOfChoice gL;exact ⟨f,fun c r=>hf _ (Yf hS.sq (by decide) r c)⟩
def ag8 (h:BJ P L) (hv:fJ v s) (bx:x.length<9223372036854775808) (by':y.length<9223372036854775808) (hp:0<=p/\p<256) (hq:0<=q/\q<256):ah P L 391 [v,.agg [.str x,.str y],.agg [.int .u8 p,.int .u8 q]] (.bool true):=by
 have ea:=h.abo;have e1:=s3 h.h3 h.CX hv;have e2:=ade h.r.toRm h.NB h.zt bx by'
 unfold zR at e2;unfold ah at ea e1 e2;by_cases hl:s.length<=5
 ·by_cases hE:iq s=0
  ·cases fZ:(mO 6 x&&mO 6 y) with
   | false=>
    rw [fZ] at e2;unfold ah;rw [aC h.NC];simp only [go_sem,ya,yd,nE,yf,pL,bA,aM,hv.len,hv.ai,yo,ea,yT,show ¬(5:Int)<(s.length:Int) by omega,e1,hE,e2,yE,yx,yU]
   | true=>
    obtain ⟨hx,hy⟩:=Bool.and_eq_true_iff.1 fZ;have hS:=DS hv hE;have n0:=hS.pos;obtain ⟨_,_,Bp⟩:=J4 hE;have jq:∀i (hi:i<s.length),s[i].length=s.length:=fun i hi=>(Dl Bp i hi).1
    have hk:∀r c,-1000<=kv s r c/\kv s r c<=1000:=fun r c=>Yf Bp (by decide) r c
    obtain ⟨B,hB⟩:=asm h.n hS;have hE1:bZ [49]=0:=by decide+kernel
    obtain ⟨-,hF⟩:=(auV h.f h.n.toCk hv (by omega) (fun i hi=>by rw [jq i hi];omega) (k:=[49]) (by decide)).2 (by rw [hE,hE1];rfl) (fun c r=>B (kv s r c)) (fun _ _=>true) (fun c r _ _=>(hB c r).1)
    have hF:=hF fun _ _ _ _=>rfl
    have hT:=an0 (fun c r=>B (kv s r c)) s.length;have hFI:Vm s (fun c r=>B (kv s r c)) s.length:=fun c r _ _=>(hB c r).2
    generalize CC (fun c r=>AV.aK .f32 (B (kv s r c))) s.length=f at hF hT;obtain ⟨tm,eA,t0,t4,t5,t8,t9,t10,t11,t12,t13⟩:=alH (p:=p) (q:=q) h hv hE hl hx hy;obtain ⟨tm',u,o,m,c,eB,hc,hm,ku,ko,u0,u8,u9,E9,u11,u14,u15,u18,u19,u20,u21,u22,u23,u24,u25⟩:=alI h hv hE hx hy hp hq hT hF t0 t4 t5 t8 t9 t10 t11 t12 t13;have kV:Hq 300 (fm s (bm x) (bm y)):=(Ly (fun c r=>hS.cB c r) (Dz hx).2.2 (Dz hy).2.2).mono (by decide);have EM:=hS.cB (bm x).floor (bm y).floor;rw [<-hc] at EM;have kc:Hq 300 ((c:Int):Rat):=(NA EM).mono (by decide);have g1:=asb h.r.toRm h.I2 (anI true [RT (fm s (bm x) (bm y)),RT u,RT o,RT (c:Rat)]) (by simp) (fun t ht=>by
     simp only [wA,vX,ybj] at ht;rcases ht with rfl | rfl | rfl | rfl
     ·have:=mE kV;omega
     ·have:=mE ku;omega
     ·have:=mE ko;omega
     ·have:=mE kc;omega)
    simp only [xm,List.map_nil,Av kV (by decide),Av ku (by decide),Av ko (by decide),Av kc (by decide),yz,yK,yf,yd] at g1;rw [show cp [0,0,0,0]=0 from rfl] at g1;have g2:=D2 h.r.toRp ku ko (by decide);have g3:=acV h.r h.Nw (ku.add ko) (by decide);rw [<-hm] at g3;have g4:=acZ h.r.toRm h.CA kc (by decide);rw [an3,xj rfl] at g4;have hlT:(jT true (fun c r=>B (kv s r c)) s.length).length=s.length:=K9;have e0:s[0].length=s.length:=jq 0 n0;obtain ⟨w0,rest,rW,i0⟩:=hv.br n0;have j0:=rW.br (i:=0) (by omega);rw [QJ n0 (by omega)] at j0;have key:=aqK (P:=P) (L:=L) (V:=RT (fm s (bm x) (bm y))) (z0:=c) h.rC h.r.toRm hv rfl jq (by omega) hk hT hFI s.length;unfold ah at g1 g2 g3 g4 ⊢;rw [aC h.NC];rw [show nE.dQ=[.t 6] from rfl]
    rw [Qr 5 (c:=nE.body) (by refine ⟨rfl,rfl,rfl,rfl,rfl,?_⟩;show _=_;rfl),show ew 0 [v,.agg [.str x,.str y],.agg [.int .u8 p,.int .u8 q]]=[(0,v),(1,.agg [.str x,.str y]),(2,.agg [.int .u8 p,.int .u8 q])] from rfl,eA,fe,
     Qr 5 (c:=fS 5 nE.body) (by refine ⟨rfl,rfl,rfl,rfl,rfl,?_⟩;show _=_;rfl),eB,fe]
    simp only [go_sem,ya,yd,yI,yp,yk,nE,fS,av,u0,u8,u9,E9,u11,u14,u15,u18,u19,u20,u21,u22,u23,u24,u25,tQ,show IntKind.wrap .i64 0=0 from rfl,yx,yT,g1,Aj,aiQ,g2,g3,hT.len,hlT,hv.len,g4,i0,j0];generalize kO:D P L (.loop [0,8,14,24,26,27,28,194,195] HH) _=z;obtain ⟨ex,st,rfl,mP,ct,lo,hi,fd,rfl,rfl,w8,w26,w27,w28,hb,gL⟩:=b9 kO key ⟨0,kv s 0 0,kv s 0 0,false,by simp only [go_sem,ya,az,aE hv.pu,aJ _ hv.pu,aE hT.pu,aJ _ hT.pu,u0,u8,u14,u24]<;>rfl,by omega,by have:=hk 0 0;omega,fun j hj=>absurd hj (tn j)⟩
    obtain ⟨i,j,cI,kJ,sU⟩:=P6 s n0 (bm x).floor (bm y).floor;have hfd:fd=true:=(gL j kJ i cI).2.2 (by rw [<-sU,hc]);have aY:((lo:Int):Rat)<=fm s (bm x) (bm y):=anR (fun C R=>by
     obtain ⟨i,j,cI,kJ,e⟩:=P6 s n0 C R
     rw [e];exact (gL j kJ i cI).1) _ _
    have fA:fm s (bm x) (bm y)<=((hi:Int):Rat):=anQ (fun C R=>by
     obtain ⟨i,j,cI,kJ,e⟩:=P6 s n0 C R
     rw [e];exact (gL j kJ i cI).2.1) _ _
    subst hfd;have f1:=Mg h.r.toRm h.rC (n:=lo) (by omega);have f2:=Mg h.r.toRm h.rC (n:=hi) (by omega);have f3:=acU h.r.toRp h.Nv kV (NA (z:=lo) (by omega)) (by decide);have f4:=acU h.r.toRp h.Nv kV (NA (z:=hi) (by omega)) (by decide);have s1:¬bQ (fm s (bm x) (bm y)-(lo:Rat)).num<0:=fun q=>by
     have:=(Kr _).1 q
     grind
    have s2:bQ (fm s (bm x) (bm y)-(hi:Rat)).num<=0:=by
     refine Int.not_lt.1 fun q=>?_
     have:=(WM _).1 q
     grind
    unfold ah at f1 f2 f3 f4;simp only [go_sem,ya,az,w8,w26,w27,w28,f1,f2,f3,f4,show (0:Int)<=bQ (fm s (bm x) (bm y)-(lo:Rat)).num by omega,s2,yx]
  ·unfold ah;rw [aC h.NC];simp only [go_sem,ya,yd,nE,yf,aM,hv.len,hv.ai,ea,yT,show ¬(5:Int)<(s.length:Int) by omega,e1,hE,yE,yU]
 ·unfold ah;rw [aC h.NC];simp only [go_sem,ya,yd,nE,yf,aM,hv.len,ea,yT,show (5:Int)<(s.length:Int) by omega,yx]
end
abbrev Hb:List Ty:=[Zg,ZU,.ar 2 (.int .u8)]
def abr {p:Int} (hp:(Go.Lit.int IntKind.u8 p).wf=true):0<=p/\p<256:=by
 simp only [Go.Lit.wf,yg,um] at hp;have h1:IntKind.u8.min=0:=rfl;have h2:IntKind.u8.max=255:=rfl;rw [h1,h2] at hp;omega
def af9 {P:aF} {L:Lib} (h:BJ P L) {ls:List (List AV)} (hs:nF lL Hb ls):ah P L 391 (H4 Hb ls) (.bool true):=by
 obtain ⟨_,_,_,rfl,h1,h2,⟨ps,hlen,rfl,h3⟩⟩:=aqa hs;obtain ⟨v,s,rfl,hv⟩:=agW h1;obtain ⟨x,y,rfl,hx,hy⟩:=aiJ h2
 match ps,hlen,h3 with
 | [a,b],_,h3=>
  obtain ⟨p,rfl,hp⟩:=h3 a (by simp);obtain ⟨q,rfl,hq⟩:=h3 b (by simp);exact ag8 h hv hx hy (abr hp) (abr hq)
namespace J2
open Go Go.Proofs
def T:List (Tr cm):=[.n 1 [.o 7 [] (.bool true)] .l .l]
def L0:VE.Lib:=QU VE.aX 99 Ls
def L1:VE.Lib:=Mz L0 T 1000
def nu:Nu VE.prog VE.aX:=by
 repeat' (first | rfl | constructor)
def lw:BJ VE.prog L1:=by
 repeat' (first | rfl | constructor)
section
variable {W:World} {m:Int} (hm:W.cell? ⟨1,0,none⟩=some (.int .i64 m)) (ht:Go.Lib.TabIs Tryz.prog W "internal/strconv.uint64pow10" .u64 Go.Lib.pow10Tab)
include hm ht
theorem linked:gI ((J1.O W).sK L1):=by
 have hO:=J1.amk hm ht;have hs:=aiF hO nu rfl rfl rfl ⟨rfl,rfl,rfl⟩ (fn:=Tryz.f201) (c:=AW) Tryz.func201 rfl rfl trivial ak1;have hT:fI (J1.O W) T:=fI.cons (Tr.jy (lC.one (VK1.holds hO rfl rfl)) Tr.iT Tr.iT) fI.nil;exact Y2 (aiG hO hs) hT 1000
theorem law {ls:List (List AV)} (hs:nF lL Hb ls):dV (J1.O W) 391 (H4 Hb ls) (.bool true):=by
 obtain ⟨k,hk⟩:=ZA (af9 lw hs);exact sound (linked hm ht) hk
end
end J2
end VE
