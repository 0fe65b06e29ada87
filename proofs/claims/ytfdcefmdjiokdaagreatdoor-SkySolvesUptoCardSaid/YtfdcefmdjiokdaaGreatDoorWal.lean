import Derived.Test.YtfdcefmdjiokdaaGreatDoorWak
set_option linter.all false
set_option maxRecDepth 100000
open Bool renaming and_eq_true->yj,and_self->xt,false_and->xI,false_eq_true->yH,false_or->vS,not_false->yQ,not_true->yM,true_and->xQ
open Function renaming comp->ybk
open Int renaming emod_lt_of_pos->wU,emod_nonneg->wV,mul_le_mul->ybf,mul_nonneg->tk,natAbs_natCast->wA,natCast_mul->xS,reduceEq->uf,toNat_natCast->xx
open List renaming Nodup->ycH,any_append->ybI,any_cons->ybe,any_eq_true->yaE,append_assoc->xu,append_nil->wh,cons_append->xC,drop->xK,drop_drop->vP,drop_eq_getElem_cons->yP,drop_eq_nil_of_le->yY,drop_left->um,drop_zero->yh,eq_nil_of_length_eq_zero->yu,find?->ybi,flatten_append->vD,flatten_cons->wq,flatten_nil->tF,foldl_append->tQ,foldl_cons->yae,foldl_nil->yat,getD_eq_getElem?_getD->yW,getElem?_eq_getElem->xz,getElem?_set->ybt,getElem_append_left->wg,getElem_append_right->wz,getElem_cons_succ->tj,getElem_cons_zero->wJ,getElem_map->xm,getElem_mem->yy,getElem_set->ybF,length_append->yE,length_cons->yB,length_map->yg,length_nil->yI,length_set->wI,length_take->yJ,length_zipWith->yaZ,map->vj,map_append->yX,map_congr_left->wL,map_cons->yS,map_id->tR,map_map->vH,map_nil->wu,map_set->ybB,mem_append->wm,mem_cons->wj,mem_cons_of_mem->xi,mem_cons_self->xA,mem_iff_getElem->we,mem_map->xj,mem_of_mem_take->vI,mem_singleton->wD,nil_append->xy,nodup_cons->vz,pairwise_iff_getElem->uV,range->wO,range'->wK,replicate->ye,replicate_succ->wG,take_left->tg,take_length->xH,take_of_length_le->yq,take_succ_eq_append_getElem->yk,take_zero->vC,zipWith->vJ
open List.cons renaming injEq->tP
open Nat renaming add_mul->xU,add_zero->xg,beq->yG,ble->yO,ble_eq_true_of_le->yC,le_refl->ym,min_eq_left->xq,mul_le_mul->xo,mul_le_mul_right->yR,mul_one->yf,not_lt_zero->vh,reduceAdd->yb,reduceEqDiff->ya,reduceLT->yA,reduceLeDiff->yi,reduceMul->yV,sub_self->uj,zero_add->yd,zero_le->uO
open Option renaming getD_some->vQ
open Rat renaming add_zero->ycx,mul_inv_cancel->uT,mul_nonneg->yaw,zero_mul->ybN
open Option renaming some->Ix,none->Iy
open Bool renaming true->ycO,false->ycP
namespace VE
open Go (IntKind)
variable {P:aJ}{L:Lib}
variable{a1 a2 a3 c1 c2 d1 d2 d3 d4 l0 l1 l2 l4 l5 l6 l7 p1 p2 r1 r2 r3 r4 v:AV}{ex:Bool}{tm:Env}{hp:Hp}{fr:Int}{C:Int->Rat}{M:List (List (List Nat))}{cap:List AV}{dx dy live pv sh:List Nat}{B J K N a ct p sz:Nat}{x:Rat}
section
variable {s:List Nat}{K:Nat}{r:Rat}
def IT{b:Nat}(h:ay a=ay b):a=b:=by
 have h1:=Bs a;rw[h,Bs b] at h1
 grind
def aiP:∀(k n:Nat),n<k->n≠0->∃b r,ay n=b::r/\b≠48
 | 0,n,h,_=>absurd h (vh n)
 | k+1,n,h,h0=>by
  by_cases h1:n<10
  .exact ⟨48+n,[],rY h1,by lia⟩
  .have ⟨b,r,e,hb⟩:=aiP k (n/10) (by lia) (by lia);exact⟨b,r++[48+n%10],by rw[zy (by lia),e];rfl,hb⟩
def ahC(n:Nat):eh (ay n)=ycO:=by
 unfold eh;rw[CA,xQ];by_cases h0:n=0
 .subst h0;decide
 .have ⟨b,r,e,hb⟩:=aiP (n+1) n (by lia) h0;rw[e]
  have:yG b 48=ycP:=by
   cases hq:yG b 48 with
   | false=>rfl
   | true=>exact absurd (Nat.eq_of_beq_eq_true hq) hb
  simp[this]
def ahD(n:Nat):gU (ay n)=n:=by unfold gU;rw[Bs];rfl
def Sd{z:Int}(h:¬z<0):aU z=ay z.natAbs:=by
 obtain⟨m,rfl⟩:∃m:Nat,z=m:=⟨z.toNat,by lia⟩;rw[nS,wA]
def TU(r:Rat):RT r=aU r.num++kU r.den:=rfl
def ahE(r:Rat):bY (RT r)=(aU r.num).length:=by rw[TU,MH,Xv];rfl
def ZH(h1:(ay r.num.natAbs).length<=600)(h2:(ay r.den).length<=600):aM (RT r)=0:=by
 have key:∀neg:Bool,(neg=ycO->r.num.natAbs≠0)->qD neg (ay r.num.natAbs++kU r.den)=0:=by
  intro neg ic;have hco:Nat.gcd r.num.natAbs r.den=1:=r.reduced;have iM:r.den≠0:=r.den_nz;generalize r.num.natAbs=m at*
  generalize r.den=d at*
  have hs:bY (ay m++kU d)=(ay m).length:=by rw[MF _ (CA m),Xv];rfl
  have c1:¬((ycO=ycP)\/(neg=ycO/\ay m=[48])):=by
   rintro (h | ⟨h,h'⟩)
   .grind
   .exact ic h (IT (h'.trans (by decide)))
  unfold qD;rw[hs,tg,ahC,yx c1];by_cases hd:d=1
  .have hr:kU d=[]:=yK hd
   grind
  .have hr:kU d=47::ay d:=yx hd;have ik:(ay m++kU d).drop ((ay m).length+1)=ay d:=by
    simp_all
   have hl:(ay m++kU d).length=(ay m).length+1+(ay d).length:=by grind
   rw[ik,hl,ahC,ahD,ahD];have n0:ay d≠[48]:=fun e=>iM (IT (e.trans (by decide)))
   have n1:ay d≠[49]:=fun e=>hd (IT (e.trans (by decide)))
   grind
 rw[TU];by_cases h0:r.num<0
 .rw [mZ h0];show (if 45=45 then qD ycO (ay r.num.natAbs++kU r.den) else qD ycP (45::(ay r.num.natAbs++kU r.den)))=0
  grind
 .rw [Sd h0];have k:=key ycP (fun h=>by cases h);have hp:=Bv r.num.natAbs;have oM:=CA r.num.natAbs
  cases hq:ay r.num.natAbs with
  | nil=>rw[hq] at hp;simp at hp
  | cons b t=>
   rw[hq] at k oM
   have:=XX oM
   show (if b=45 then qD ycO (t++kU r.den) else qD ycP (b::(t++kU r.den)))=0
   grind
def avl{a b:Int}(h:aU a=aU b):a=b:=by
 have hd:∀{z w:Int},z<0->¬w<0->aU z≠aU w:=by
  intro z w h1 h2 e;rw[mZ h1,Sd h2] at e
  have:=CA w.natAbs
  rw[<-e] at this
  have:=XX this
  omega
 by_cases h1:a<0<;>by_cases h2:b<0
 .rw [mZ h1,mZ h2,tP] at h
  have:=IT h.2
  omega
 .grind
 .grind
 .rw [Sd h1,Sd h2] at h
  have:=IT h
  omega
def aAI{a b:Rat}(h:RT a=RT b):a=b:=by
 have hs:=ahE a;rw[h,ahE b] at hs;rw[TU,TU] at h;obtain⟨h1,h2⟩:=List.append_inj h hs.symm;refine Rat.ext (avl h1) ?_;unfold kU at h2;by_cases ha:a.den=1<;>by_cases hb:b.den=1
 .grind
 .grind
 .grind
 .rw [yx ha,yx hb,tP] at h2;exact IT h2.2
def ahF(h1:(ay r.num.natAbs).length<=600)(h2:(ay r.den).length<=600):aI (RT r)=r:=(aAI (CE (ZH h1 h2)).1).symm
def Jx(h:Hq K r)(hK:K<=1800):(ay r.num.natAbs).length<=600/\(ay r.den).length<=600:=by
 refine⟨Xy (B:=K) hK (by decide) h.1,Xy (B:=K) hK (by decide) ?_⟩
 have:=h.2
 unfold Bd at this
 grind
def N5(h:Hq K r)(hK:K<=1800):aM (RT r)=0:=ZH (Jx h hK).1 (Jx h hK).2
def aal(h:Hq K r)(hK:K<=1800):aI (RT r)=r:=ahF (Jx h hK).1 (Jx h hK).2
def aln(h:Hq K r)(hK:K<=1800):LG r=ycP:=by
 obtain⟨h1,h2⟩:=Jx h hK;unfold LG LN
 grind
noncomputable def bJ(k:Nat)(s:List Nat):Bool:=decide (s.length<=2*k+2)&&(decide (aM s=0)&&(decide ((ay (aI s).num.natAbs).length<=k)&&decide ((ay (aI s).den).length<=k)))
def axG(h:bJ 6 s=ycO):s.length<=14/\aM s=0/\Hq 24 (aI s):=by
 unfold bJ at h;simp only[yj,wN] at h;have⟨h1,h2,h3,h4⟩:=h
 exact⟨by lia,h2,Bt (k:=6) (by lia) (by lia),Bt (z:=((aI s).den:Int)) (k:=6) (by rw[wA];lia) (by lia)⟩
def alo(h:Rm P L)(jB:Has P L 359 qw){k:Nat}(hk:k<=1000)(hs:s.length<9223372036854775808):ah P L 359 [.str s,aa k] (.bool (bJ k s)):=by
 unfold ah bJ;rw[aB jB];by_cases h1:s.length<=2*k+2
 .have e1:=Vk h (s:=s) (by omega);rw[xG (show s.length<=2*k+2 from h1),xQ];by_cases h2:aM s=0
  .rw [h2] at e1;obtain⟨hR,_⟩:=CE h2;have kr:=mB h2 (ym 2400);obtain⟨e2,e3,e4⟩:=axC h kr (by omega);rw[<-hR] at e2 e4;rw[xG h2,xQ];by_cases h3:(ay (aI s).num.natAbs).length<=k
   .rw [xG h3,xQ];by_cases h4:(ay (aI s).den).length<=k
    .rw [xG h4]
     simp only[go_sem,ya,qw,wrap64 (n:=2*(k:Int)) (by omega) (by omega),wrap64 (n:=2*(k:Int)+2) (by omega) (by omega),yo,show (s.length:Int)<=2*(k:Int)+2 by omega,e1,e2,e3,e4,show ((ay (aI s).num.natAbs).length:Int)<=(k:Int) by omega,show ((ay (aI s).den).length:Int)<=(k:Int) by omega]
    .rw [xn h4]
     simp only[go_sem,ya,qw,wrap64 (n:=2*(k:Int)) (by omega) (by omega),wrap64 (n:=2*(k:Int)+2) (by omega) (by omega),yo,show (s.length:Int)<=2*(k:Int)+2 by omega,e1,e2,e3,e4,show ((ay (aI s).num.natAbs).length:Int)<=(k:Int) by omega,show ¬((ay (aI s).den).length:Int)<=(k:Int) by omega,yp]
   .rw [xn h3,xI]
    simp only[go_sem,ya,qw,wrap64 (n:=2*(k:Int)) (by omega) (by omega),wrap64 (n:=2*(k:Int)+2) (by omega) (by omega),yo,show (s.length:Int)<=2*(k:Int)+2 by omega,e1,e2,e3,show ¬((ay (aI s).num.natAbs).length:Int)<=(k:Int) by omega,yp]
  .rw [xn h2,xI];have h2':¬aM s=0:=h2
   simp only[go_sem,ya,qw,wrap64 (n:=2*(k:Int)) (by omega) (by omega),wrap64 (n:=2*(k:Int)+2) (by omega) (by omega),yo,show (s.length:Int)<=2*(k:Int)+2 by omega,e1,h2',yp]
 .rw [xn (show ¬s.length<=2*k+2 from h1),xI]
  simp only[go_sem,ya,qw,wrap64 (n:=2*(k:Int)) (by omega) (by omega),wrap64 (n:=2*(k:Int)+2) (by omega) (by omega),show ¬(s.length:Int)<=2*(k:Int)+2 by omega,yp]
end
def abW(h:Ck P L){s:List Nat}(h0:aM s=0):∃r,ah P L 62 [.str s] r/\bE r (aI s):=by
 have⟨hR,_⟩:=CE h0;have kr:=mB h0 (ym 2400);have hl:=BI kr;have⟨r,e,hr⟩:=m62 h.toTx (a:=aI s) (by lia);rw[<-hR] at e;exact⟨r,e,hr⟩
def Vq(s:List (List Int))(x y:Rat):Rat:=Ps s (x.floor%s.length) (y.floor%s.length) (iA x) (iA y)
def axH{s:List (List Int)}{i j:Int}{f g:Rat}(h:∀c r,-1000<=jc s c r/\jc s c r<=1000)(kf:Hq K f)(kg:Hq K g):Hq (8*K+300) (Ps s i j f g):=
 (ZG (B6.mono (ym _)) (aiO (i:=i) (j:=j) h kf kg)).mono (by simp only[pq,yB,yI];lia)
def ajN{s:List (List Int)}{y:Rat}(h:∀c r,-1000<=jc s c r/\jc s c r<=1000)(kx:Hq K x)(ky:Hq K y)(hK:1<=K):Hq (16*K+400) (Vq s x y):=
 (axH h (EP kx hK) (EP ky hK)).mono (by lia)
section
variable {w:AV}{fr:Int}{s:List (List Int)}{dx dy hh ox oy sc sh st wx wy x y:List Nat}
def ZI(hw:ix w s)(h:oP s=0):Mu w s s.length:=by
 have⟨a1,a2,a3⟩:=F2 h;exact⟨hw,rfl,a1,a2,fun i hi=>(XS a3 i hi).1,a3⟩
def pJ(w:AV)(hh sc st ox oy wx wy:List Nat):AV:=.agg [w,.str hh,.str sc,.str st,.str ox,.str oy,.str wx,.str wy]
noncomputable def HC(s:List (List Int))(hh sc st ox oy wx wy:List Nat):Int:=a6 [oP s,iI hh 0,iI sc 1,aM st,a6 [aM ox,aM oy],a6 [aM wx,aM wy]]
def oO{a:Int}{l:List Int}:a6 (a::l)=0↔a=0/\a6 l=0:=by
 simp only[a6]
 grind
def Gb:a6 []=0:=rfl
def Y8(h:HC s hh sc st ox oy wx wy=0):oP s=0/\(aM hh=0/\0<=cA (aI hh).num)/\(aM sc=0/\1<=cA (aI sc).num)/\aM st=0/\(aM ox=0/\aM oy=0)/\aM wx=0/\aM wy=0:=by
 unfold HC at h;simp only[oO,Gb,vv] at h;have⟨h1,h2,h3,h4,⟨h5,h6⟩,h7,h8⟩:=h;exact⟨h1,Y3 h2,Y3 h3,h4,⟨h5,h6⟩,h7,h8⟩
noncomputable def abX(s:List (List Int))(hh sc st ox oy wx wy dx dy sh x y:List Nat)(fr:Int):Int:=a6 [HC s hh sc st ox oy wx wy,zQ dx dy sh,a6 [aM x,aM y],nm fr]
noncomputable def dO(hh sc o w d sh x:List Nat)(fr:Int):Rat:=Kr (aI sc) (nf (aI sh) (aI hh)*aI x+aI hh*aI d) (aI o) (aI w) fr
structure Lp(P:aJ)(L:Lib):Prop extends Sp P L,Vl P L,ShP P L where
 h24:Has P L 24 c24
 h57:Has P L 57 c57
 h66:Has P L 66 c66
 h67:Has P L 67 c67
 aFl:Has P L 115 aaT
 Vn:Has P L 116 Ux
def aFm(h:Lp P L)(hw:ix w s)(hl:s.length<=1000000)(hr:∀i (hi:i<s.length),s[i].length<=1000000)(l1:hh.length<=1000000000)(l2:sc.length<=1000000000)(l3:st.length<=1000000000)(l4:ox.length<=1000000000)(l5:oy.length<=1000000000)(l6:wx.length<=1000000000)(l7:wy.length<=1000000000):
  ah P L 115 [pJ w hh sc st ox oy wx wy] (aa (HC s hh sc st ox oy wx wy)):=by
 have e1:=s4 h.toSq hw hl hr;have e2:=m61 h.toSp l1 0;have e3:=m61 h.toSp l2 1;have e4:=Il h.toCk l3;have e5:=WT h.toSp l4 l5;have e6:=WT h.toSp l6 l7;have e7:=sT h.toSp.oK (fZ ycO [oP s,iI hh 0,iI sc 1,aM st,a6 [aM ox,aM oy],a6 [aM wx,aM wy]]) (by simp);simp only[yB,yI,yd,yb,yS,wu] at e7;have o1:=hw.one;have p1:=hw.pu;have d2:∀a b c d e f g i:AV,xK 2 [a,b,c,d,e,f,g,i]=[c,d,e,f,g,i]:=fun _ _ _ _ _ _ _ _=>rfl
 have d3:∀a b c d e f g i:AV,xK 3 [a,b,c,d,e,f,g,i]=[d,e,f,g,i]:=fun _ _ _ _ _ _ _ _=>rfl
 have d6:∀a b c d e f g i:AV,xK 6 [a,b,c,d,e,f,g,i]=[g,i]:=fun _ _ _ _ _ _ _ _=>rfl
 unfold ah at e1 e2 e3 e4 e5 e6 e7 ⊢;rw[aB h.aFl];unfold pJ;simp only[go_sem,ya,yb,yA,yi,yf,aaT,aG,o1,p1,hw.af,aZ,yd,cD,d2,d3,CM,d6,gH,a7,yh,e1,e2,e3,e4,e5,e6,e7];rfl
structure ER(s:List (List Int))(hh sc st ox oy wx wy dx dy sh x y:List Nat)(fr:Int):Prop where
 scr:oP s=0
 hh:aM hh=0
 sc:aM sc=0
 st:aM st=0
 ox:aM ox=0
 oy:aM oy=0
 wx:aM wx=0
 wy:aM wy=0
 dx:aM dx=0
 dy:aM dy=0
 sh:aM sh=0
 x:aM x=0
 y:aM y=0
 fr:nm fr=0
def axI(h0:abX s hh sc st ox oy wx wy dx dy sh x y fr=0):ER s hh sc st ox oy wx wy dx dy sh x y fr:=by
 unfold abX at h0;simp only[oO,Gb,vv] at h0;have⟨h2,h3,⟨h4,h5⟩,h6⟩:=h0;have⟨q1,⟨q2,_⟩,⟨q3,_⟩,q4,⟨q5,q6⟩,q7,q8⟩:=Y8 h2;have⟨r1,r2,r3,_⟩:=au8 h3;exact⟨q1,q2,q3,q4,q5,q6,q7,q8,r1,r2,r3,h4,h5,h6⟩
def X1{n:Int}(h:nm n=0): -999999999<=n/\n<=999999999:=by
 unfold nm at h;split at h<;>lia
def aiQ{o w d:List Nat}(h1:aM hh=0)(h2:aM sc=0)(h3:aM o=0)(h4:aM w=0)(h5:aM d=0)(h6:aM sh=0)(h7:aM x=0)(h8:nm fr=0):Hq 22000 (dO hh sc o w d sh x fr):=by
 have:=X1 h8
 have H:=fun {t:List Nat} (c:aM t=0)=>mB c (ym 2400)
 exact (aAG (H h2) (Y7 (H h6) (H h1) (H h7) (H h5)) (H h3) (H h4) (by lia) (by lia)).mono (by lia)
def ER.kX(h:ER s hh sc st ox oy wx wy dx dy sh x y fr):Hq 22000 (dO hh sc ox wx dx sh x fr):=aiQ h.hh h.sc h.ox h.wx h.dx h.sh h.x h.fr
def ER.kY(h:ER s hh sc st ox oy wx wy dx dy sh x y fr):Hq 22000 (dO hh sc oy wy dy sh y fr):=aiQ h.hh h.sc h.oy h.wy h.dy h.sh h.y h.fr
noncomputable def phQ(s:List (List Int))(hh sc st ox oy wx wy dx dy sh x y:List Nat)(fr:Int):Rat:=aI st*Vq s (dO hh sc ox wx dx sh x fr) (dO hh sc oy wy dy sh y fr)
def aam(k:ER s hh sc st ox oy wx wy dx dy sh x y fr):Hq 400000 (phQ s hh sc st ox oy wx wy dx dy sh x y fr):=by
 have⟨a1,a2,a3⟩:=F2 k.scr;exact ((mB k.st (ym 2400)).mul (ajN (fun c r=>Xj a3 (by decide) c r) k.kX k.kY (by lia))).mono (by lia)
def m67(h:Lp P L)(hw:ix w s)(k:ER s hh sc st ox oy wx wy dx dy sh x y fr):
  ∃r,ah P L 67 [pJ w hh sc st ox oy wx wy,mr dx dy sh,qR x y,aa fr] r/\bE r (phQ s hh sc st ox oy wx wy dx dy sh x y fr):=by
 have hS:=ZI hw k.scr;have hf:=X1 k.fr;have o1:=hw.one;have p1:=hw.pu;have n0:=hS.pos;have n1:=hS.le;have⟨a,e1,ha⟩:=AW h.toSp k.st;have⟨b,e2,hb⟩:=am5 h.toSp h.Vn (scr:=w) (st:=.str st) (fr:=fr) o1 p1 rfl rfl k.dx k.dy k.sh k.hh k.sc k.ox k.oy k.wx k.wy k.x k.y (by lia) (by lia);have⟨c,e3,hc⟩:=m55 h.toVl.toFr' h.Mr h.HB h.Dm (s:=(s.length:Int)) hb k.kX k.kY (by lia) (by lia) (by lia) (by lia);have q1:=wV (dO hh sc ox wx dx sh x fr).floor (show (s.length:Int)≠0 by lia);have q2:=wU (dO hh sc ox wx dx sh x fr).floor (show (0:Int)<s.length by lia);have q3:=wV (dO hh sc oy wy dy sh y fr).floor (show (s.length:Int)≠0 by lia);have q4:=wU (dO hh sc oy wy dy sh y fr).floor (show (0:Int)<s.length by lia);have⟨d,e4,hd⟩:=m56 h.toVl hc hS ⟨q1,q2⟩ ⟨q3,q4⟩ (EP k.kX (by lia)) (EP k.kY (by lia)) (by lia)
 have kv:=ajN (fun c r=>hS.cS c r) k.kX k.kY (by lia);have⟨e,e5,he⟩:=zb h.toVl.toFr' ha hd (K:=400000) ((mB k.st (ym 2400)).mono (by lia)) (kv.mono (by lia)) (by lia);have he':=he;refine⟨e,?_,he'⟩;obtain⟨a1,a2,a3,a4,rfl,ga⟩:=ha.gen;obtain⟨b1,b2,b3,b4,b5,b6,b7,b8,rfl,gb⟩:=hb.gen;obtain⟨c1,c2,c3,c4,c5,c6,c7,c8,rfl,_,_,_,fz⟩:=hc.gen;obtain⟨d1,d2,d3,d4,rfl,gd⟩:=hd.gen;obtain⟨f1,f2,f3,f4,rfl,ge⟩:=he.gen;have d3':∀a b c d e f g i:AV,xK 3 [a,b,c,d,e,f,g,i]=[d,e,f,g,i]:=fun _ _ _ _ _ _ _ _=>rfl
 have ld8:∀a b c d e f g i:AV,gJ 8 ycO [a,b,c,d,e,f,g,i]=Ix (.agg [a,b,c,d,e,f,g,i]):=fun _ _ _ _ _ _ _ _=>rfl
 unfold ah at e1 e2 e3 e4 e5 ⊢;rw[aB h.h67];unfold pJ mr qR at*
 simp only[go_sem,ya,yb,c67,aG,o1,p1,hw.len,hw.af,aZ,yd,ld8,d3',gH,kP,a7,yh,e1,bf,ga.af,e2,gb.af,e3,fz,e4,gd.af,e5,ge.st,de,df];exact ge.eG _
end
def fC(k:Nat)(v:AV)(ps:List (List AV)):Prop:=((v=.ae/\ps=[])\/∃e,v=.aF e ps.length ps.flatten)/\∀p,p∈ps->p.length=k
section
variable {k:Nat}{v:AV}{ps:List (List AV)}{hp:Hp}
def fC.len(h:fC k v ps){hp:Hp}:fu hp 1 v=Ix (.int .i64 (ps.length:Nat)):=by
 rcases h.1 with ⟨rfl,rfl⟩ | ⟨e,rfl⟩<;>rfl
def fC.pu(h:fC k v ps):aP v=ycO:=by
 rcases h.1 with ⟨rfl,rfl⟩ | ⟨e,rfl⟩<;>rfl
def fC.af(h:fC k v ps)(n:Nat){hp:Hp}:freeze (n+1) hp v=Ix (v,hp):=by
 rcases h.1 with ⟨rfl,rfl⟩ | ⟨e,rfl⟩<;>rfl
def fC.one(h:fC k v ps):bF v=ycO:=by
 rcases h.1 with ⟨rfl,rfl⟩ | ⟨e,rfl⟩<;>rfl
def fC.cells(h:fC k v ps):cellsOf v=[v]:=by
 rcases h.1 with ⟨rfl,rfl⟩ | ⟨e,rfl⟩<;>rfl
def X2:∀{ps:List (List AV)},(∀p,p∈ps->p.length=k)->ps.flatten.length=ps.length*k
 | [],_=>by simp
 | p::ps,h=>by
  have:=X2 (ps:=ps) (fun q hq=>h q (xi _ hq))
  grind
def agy:∀{ps:List (List AV)} {i:Nat},(∀p,p∈ps->p.length=k)->∀(hi:i<ps.length),∃rest,ps.flatten.drop (i*k)=ps[i]++rest
 | [],i,_,hi=>absurd hi (vh i)
 | p::ps,0,h,_=>⟨ps.flatten,by simp⟩
 | p::ps,i+1,h,hi=>by
  have⟨rest,e⟩:=agy (ps:=ps) (i:=i) (fun q hq=>h q (xi _ hq)) (by simpa using hi);refine⟨rest,?_⟩;rw[show (i+1)*k=p.length+i*k by rw[h p xA,xU];lia,wq,<-vP,um,e]
  rfl
def fC.aT(h:fC k v ps){i:Nat}(hi:i<ps.length):∃rest,iZ k i v=Ix (.aQ (ps[i]++rest)):=by
 obtain⟨rest,e⟩:=agy h.2 hi;refine⟨rest,?_⟩;rcases h.1 with ⟨rfl,rfl⟩ | ⟨b,rfl⟩
 .grind
 .rw [SD b _ hi,e]
def Se:fC k .ae []:=⟨.inl ⟨rfl,rfl⟩,fun _ h=>by cases h⟩
def Nq(e:Bool)(h:∀p,p∈ps->p.length=k):fC k (.aF e ps.length ps.flatten) ps:=⟨.inr ⟨e,rfl⟩,h⟩
end
abbrev cV:=List Nat×List Nat
def Mv(p:cV):List AV:=[.str p.1,.str p.2]
def jv(v:AV)(l:List cV):Prop:=fC 2 v (l.map Mv)
structure Lay where
 w:AV
 s:List (List Int)
 hh:List Nat
 sc:List Nat
 st:List Nat
 ox:List Nat
 oy:List Nat
 wx:List Nat
 wy:List Nat
def Lay.cs(a:Lay):List AV:=[a.w,.str a.hh,.str a.sc,.str a.st,.str a.ox,.str a.oy,.str a.wx,.str a.wy]
def Lay.T(a:Lay):AV:=pJ a.w a.hh a.sc a.st a.ox a.oy a.wx a.wy
noncomputable def Lay.E(a:Lay):Int:=HC a.s a.hh a.sc a.st a.ox a.oy a.wx a.wy
def fb(v:AV)(l:List Lay):Prop:=fC 8 v (l.map Lay.cs)/\∀a,a∈l->ix a.w a.s
structure Lay.Fit(a:Lay):Prop where
 rows:a.s.length<=1000000
 rH:∀i (hi:i<a.s.length),a.s[i].length<=1000000
 hh:a.hh.length<=1000000000
 sc:a.sc.length<=1000000000
 st:a.st.length<=1000000000
 ox:a.ox.length<=1000000000
 oy:a.oy.length<=1000000000
 wx:a.wx.length<=1000000000
 wy:a.wy.length<=1000000000
section
variable {v:AV}{hp:Hp}
def jv.len{l:List cV}(h:jv v l){hp:Hp}:fu hp 1 v=Ix (.int .i64 (l.length:Nat)):=by
 have:=fC.len (hp:=hp) h;rwa[yg] at this
def jv.pu{l:List cV}(h:jv v l):aP v=ycO:=fC.pu h
def jv.af{l:List cV}(h:jv v l)(n:Nat){hp:Hp}:freeze (n+1) hp v=Ix (v,hp):=fC.af h n
def jv.one{l:List cV}(h:jv v l):bF v=ycO:=fC.one h
def jv.aT{l:List cV}(h:jv v l){i:Nat}(hi:i<l.length):∃rest,iZ 2 i v=Ix (.aQ (.str l[i].1:: .str l[i].2::rest)):=by
 have⟨rest,e⟩:=fC.aT h (i:=i) (by simpa using hi);refine⟨rest,?_⟩;rw[e,xm];rfl
def fb.len{l:List Lay}(h:fb v l){hp:Hp}:fu hp 1 v=Ix (.int .i64 (l.length:Nat)):=by
 have:=fC.len (hp:=hp) h.1;rwa[yg] at this
def fb.pu{l:List Lay}(h:fb v l):aP v=ycO:=fC.pu h.1
def fb.af{l:List Lay}(h:fb v l)(n:Nat){hp:Hp}:freeze (n+1) hp v=Ix (v,hp):=fC.af h.1 n
def fb.one{l:List Lay}(h:fb v l):bF v=ycO:=fC.one h.1
def fb.cells{l:List Lay}(h:fb v l):cellsOf v=[v]:=fC.cells h.1
def fb.aT{l:List Lay}(h:fb v l){i:Nat}(hi:i<l.length):∃rest,iZ 8 i v=Ix (.aQ (l[i].w:: .str l[i].hh:: .str l[i].sc:: .str l[i].st:: .str l[i].ox:: .str l[i].oy:: .str l[i].wx:: .str l[i].wy::rest)):=by
 have⟨rest,e⟩:=fC.aT h.1 (i:=i) (by simpa using hi);refine⟨rest,?_⟩;rw[e,xm];rfl
def fb.get{l:List Lay}(h:fb v l){i:Nat}(hi:i<l.length):ix l[i].w l[i].s:=h.2 _ (yy hi)
end
def z7(hp:Hp)(a b c d e f g i:AV)(r:List AV):jx hp 8 ycO (.aQ (a::b::c::d::e::f::g::i::r))=Ix (.agg [a,b,c,d,e,f,g,i]):=rfl
def Dp(hp:Hp)(a b:AV)(r:List AV):jx hp 2 ycO (.aQ (a::b::r))=Ix (.agg [a,b]):=rfl
def Fj(hp:Hp)(a b c:AV)(r:List AV):jx hp 3 ycO (.aQ (a::b::c::r))=Ix (.agg [a,b,c]):=rfl
def Ev{w:AV}{s:List (List Int)}(hw:ix w s)(hp:Hp)(ct id:Nat)(a b c d e f g:List Nat)(x0 x1 x2 x3 x4 x5 x6 x7:AV):fN hp ct id 0 8 [w,.str a,.str b,.str c,.str d,.str e,.str f,.str g] (Ix (.cells ycO ycO ycO 8 [x0,x1,x2,x3,x4,x5,x6,x7]))=Ix (.ax [],aV hp id (.cells ycO ycO ycO 8 [w,.str a,.str b,.str c,.str d,.str e,.str f,.str g]),ct):=by
 rw[mb (by rfl) (by simp) (by simp[bP,hw.one,SE])];simp[aD,hw.pu,over,aP]
def Jy(a b c d e f g i:AV):gJ 8 ycO [a,b,c,d,e,f,g,i]=Ix (.agg [a,b,c,d,e,f,g,i]):=rfl
def aFn(h:Has P L 120 OE){l:List Lay}(hv:fb v l)(hl:l.length<=1000000){g:Nat}(hc:aD cap=ycO)(hz:∀(n:Nat) (hp:Hp),cm (n+900) hp cap=Ix (cap,hp)){f:Lay->Int}(hg:∀a,a∈l->ah P L g (.agg (Lay.cs a)::cap) (aa (f a))):
  ∃r,ah P L 120 [v,.fn (.f g) [] cap] r/\bl (shut r) (l.map f):=by
 have pf:aP (.fn (.f g) [] cap)=ycO:=by simp[aP,aD,hc]
 have key:=dT P L [1,5,8,9,10] Gz
  (fun k st=>∃i:Nat,i+k=l.length/\((i=0/\st=⟨[(1,.fn (.f g) [] cap),(5,.ae),(8,v),(9,aa l.length),(10,aa i)],[],0,0⟩)\/
   (0<i/\st=⟨[(1,.fn (.f g) [] cap),(5,.av 0 0 i),(8,v),(9,aa l.length),(10,aa i)],[(0,.cells ycO ycO ycP 1 (((l.take i).map f).map aa))],1,0⟩)))
  (fun ex st=>∃tm hp ct,st=⟨tm,hp,ct,0⟩/\ex=.exit 0/\((l.length=0/\ab tm 5=.ae)\/(0<l.length/\ab tm 5=.av 0 0 l.length/\au hp 0=Ix (.cells ycO ycO ycP 1 ((l.map f).map aa))))) ?_
 .unfold ah;rw[aB h];simp only[go_sem,ya,OE,hv.len];generalize hq:D P L (.loop _ Gz) _=q;obtain⟨ex,st,rfl,tm,hp,ct,rfl,rfl,h2⟩:=bg hq (key l.length) ⟨0,by lia,.inl ⟨rfl,by simp only[go_sem,ya,ao,aj hv.pu,aj pf]<;>rfl⟩⟩
  rcases h2 with ⟨h2,h3⟩ | ⟨h2,h3,h4⟩
  .refine ⟨.ae,by simp only[go_sem,ao,h3],?_⟩;rw[yu h2];exact mY
  .refine ⟨.bR ycP 1 l.length ((l.map f).map aa),?_,?_⟩
   .simp only [go_sem,yb,ao,h3,h4];exact mW (fq _ _ _) (by simp) (by decide)
   .have:=fZ ycP (l.map f)
    rwa[yg] at this
 .rintro k st ⟨i,hk,aK⟩;by_cases hi:i<l.length
  .have bD:(i:Int)<l.length:=by lia
   have⟨rest,e1⟩:=hv.aT hi;have e2:=hg _ (yy hi);have hS:=hv.get hi;unfold ah Lay.cs at e2;left
   rcases aK with ⟨h0,rfl⟩ | ⟨h0,rfl⟩
   .subst h0;simp only[go_sem,ya,yb,yV,yA,yi,yf,Gz,show ((0:Nat):Int)<l.length from bD,e1,z7,aG,Ev hS,Jy,yh,a7,hS.af,hz,e2,eT];refine⟨_,k-1,rfl,by lia,1,by lia,.inr ⟨by lia,?_⟩⟩;rw[wrap64 (by lia) (by lia),yk hi];simp only[go_sem,ya,yb,ao,aj hv.pu,aj pf,vC,xy]<;>rfl
   .have hlen:(((l.take i).map f).map aa).length=i:=by simp;lia
    simp only[go_sem,ya,yb,yi,yf,Gz,bD,e1,z7,aG,Ev hS,Jy,yh,a7,hS.af,hz,e2]
    rw[dZ (ex:=ycP) (pu:=ycO) (cs:=((l.take i).map f).map aa) rfl (by rw[hlen,yf]) (by lia) (by lia) (by decide) rfl];simp only[go_sem,ya,yb];refine⟨_,k-1,rfl,by lia,i+1,by lia,.inr ⟨by lia,?_⟩⟩;rw[wrap64 (by lia) (by lia),yk hi];simp only[go_sem,ya,yb,ao,aj hv.pu,aj pf,yX]<;>rfl
  .right
   rcases aK with ⟨h0,rfl⟩ | ⟨h0,rfl⟩
   .simp only [go_sem,ya,Gz,show ¬(i:Int)<l.length by lia];refine⟨_,_,rfl,by simp,_,_,_,rfl,rfl,.inl ⟨by lia,?_⟩⟩;simp only[go_sem,ya]
   .simp only [go_sem,ya,Gz,show ¬(i:Int)<l.length by lia];refine⟨_,_,rfl,by simp,_,_,_,rfl,rfl,.inr ⟨by lia,?_,?_⟩⟩
    .simp only [go_sem,ya];rw[show i=l.length by lia]
    .simp only [go_sem];rw[yq (by lia)]
def aFo(h:Has P L 121 OF){l:List cV}(hv:jv v l)(hl:l.length<=1000000){g:Nat}(hc:aD cap=ycO)(hz:∀(n:Nat) (hp:Hp),cm (n+900) hp cap=Ix (cap,hp)){f:cV->Int}(hg:∀a,a∈l->ah P L g (.agg (Mv a)::cap) (aa (f a))):
  ∃r,ah P L 121 [v,.fn (.f g) [] cap] r/\bl (shut r) (l.map f):=by
 have pf:aP (.fn (.f g) [] cap)=ycO:=by simp[aP,aD,hc]
 have key:=dT P L [1,5,8,9,10] GA
  (fun k st=>∃i:Nat,i+k=l.length/\((i=0/\st=⟨[(1,.fn (.f g) [] cap),(5,.ae),(8,v),(9,aa l.length),(10,aa i)],[],0,0⟩)\/
   (0<i/\st=⟨[(1,.fn (.f g) [] cap),(5,.av 0 0 i),(8,v),(9,aa l.length),(10,aa i)],[(0,.cells ycO ycO ycP 1 (((l.take i).map f).map aa))],1,0⟩)))
  (fun ex st=>∃tm hp ct,st=⟨tm,hp,ct,0⟩/\ex=.exit 0/\((l.length=0/\ab tm 5=.ae)\/(0<l.length/\ab tm 5=.av 0 0 l.length/\au hp 0=Ix (.cells ycO ycO ycP 1 ((l.map f).map aa))))) ?_
 .unfold ah;rw[aB h];simp only[go_sem,ya,OF,hv.len];generalize hq:D P L (.loop _ GA) _=q;obtain⟨ex,st,rfl,tm,hp,ct,rfl,rfl,h2⟩:=bg hq (key l.length) ⟨0,by lia,.inl ⟨rfl,by simp only[go_sem,ya,ao,aj hv.pu,aj pf]<;>rfl⟩⟩
  rcases h2 with ⟨h2,h3⟩ | ⟨h2,h3,h4⟩
  .refine ⟨.ae,by simp only[go_sem,ao,h3],?_⟩;rw[yu h2];exact mY
  .refine ⟨.bR ycP 1 l.length ((l.map f).map aa),?_,?_⟩
   .simp only [go_sem,yb,ao,h3,h4];exact mW (fq _ _ _) (by simp) (by decide)
   .have:=fZ ycP (l.map f)
    rwa[yg] at this
 .rintro k st ⟨i,hk,aK⟩;by_cases hi:i<l.length
  .have bD:(i:Int)<l.length:=by lia
   have⟨rest,e1⟩:=hv.aT hi;have e2:=hg _ (yy hi);unfold ah Mv at e2;left
   rcases aK with ⟨h0,rfl⟩ | ⟨h0,rfl⟩
   .subst h0;simp only[go_sem,ya,yb,yV,yA,yi,yf,GA,show ((0:Nat):Int)<l.length from bD,e1,Dp,aG,gQ,gH,yh,a7,hz,e2,eT];refine⟨_,k-1,rfl,by lia,1,by lia,.inr ⟨by lia,?_⟩⟩;rw[wrap64 (by lia) (by lia),yk hi];simp only[go_sem,ya,yb,ao,aj hv.pu,aj pf,vC,xy]<;>rfl
   .have hlen:(((l.take i).map f).map aa).length=i:=by simp;lia
    simp only[go_sem,ya,yb,yi,yf,GA,bD,e1,Dp,aG,gQ,gH,yh,a7,hz,e2]
    rw[dZ (ex:=ycP) (pu:=ycO) (cs:=((l.take i).map f).map aa) rfl (by rw[hlen,yf]) (by lia) (by lia) (by decide) rfl];simp only[go_sem,ya,yb];refine⟨_,k-1,rfl,by lia,i+1,by lia,.inr ⟨by lia,?_⟩⟩;rw[wrap64 (by lia) (by lia),yk hi];simp only[go_sem,ya,yb,ao,aj hv.pu,aj pf,yX]<;>rfl
  .right
   rcases aK with ⟨h0,rfl⟩ | ⟨h0,rfl⟩
   .simp only [go_sem,ya,GA,show ¬(i:Int)<l.length by lia];refine⟨_,_,rfl,by simp,_,_,_,rfl,rfl,.inl ⟨by lia,?_⟩⟩;simp only[go_sem,ya]
   .simp only [go_sem,ya,GA,show ¬(i:Int)<l.length by lia];refine⟨_,_,rfl,by simp,_,_,_,rfl,rfl,.inr ⟨by lia,?_,?_⟩⟩
    .simp only [go_sem,ya];rw[show i=l.length by lia]
    .simp only [go_sem];rw[yq (by lia)]
section
variable {v:AV}{l:List Rat}{g:Nat}
def take_set{α:Type}{l:List α}{i:Nat}{a:α}(h:i<l.length):(l.set i a).take (i+1)=l.take i++[a]:=by
 rw[yk (by simpa using h),List.getElem_set_self,List.take_set_of_le (ym i)]
def stS{id o:Nat}{v:List Nat}{l:List (List Nat)}(h:o<l.length):fN hp ct id o 1 [.str v] (Ix (.cells ycO ycO ex 1 (l.map .str)))=Ix (.ax [],aV hp id (.cells ycO ycO ex 1 ((l.set o v).map .str)),ct):=by
 rw[mb (by rfl) (by simp;lia) (by rfl)]
 have:over o [.str v] (l.map .str)=(l.set o v).map .str:=by
  simp only[over,yB,yI,yd];rw[ybB,List.set_eq_take_append_cons_drop,yK (by simpa using h)]
  simp
 rw[this];rfl
def aFp(ct:Nat){n:Nat}(h:n<=10000000000):rE ct 1 16 [.str []] (Ix n) (Ix n)=Ix (.av ct 0 n,.cells ycO ycO ycO 1 ((ye n []).map .str)):=by
 rw[BF (sz:=1) (by lia) (by lia) (by rfl) (by rfl)]
 have:∀n,(ye n [AV.str []]).flatten=(ye n []).map .str:=fun n=>by
  induction n with
  | zero=>rfl
  | succ n ih=>rw[wG,wq,ih,wG,yS];rfl
 rw[this];rfl
def axJ(l:List (List Nat)):bw (.aF ycO l.length (l.map .str)) l:=Gr ycO l
def aFq(h:Has P L 369 O4){l:List cV}(hv:jv v l)(hl:l.length<=1000000)(hc:aD cap=ycO)(hz:∀(n:Nat) (hp:Hp),cm (n+900) hp cap=Ix (cap,hp)){f:cV->Rat}(hg:∀a,a∈l->∃r,ah P L g (.agg (Mv a)::cap) r/\bE r (f a)):
  ∃r,ah P L 369 [v,.fn (.f g) [] cap] r/\cQ (shut r) (l.map f):=by
 have pf:aP (.fn (.f g) [] cap)=ycO:=by simp[aP,aD,hc]
 have key:=dT P L [1,5,8,9,10] GO
  (fun k st=>∃i:Nat,i+k=l.length/\((i=0/\st=⟨[(1,.fn (.f g) [] cap),(5,.ae),(8,v),(9,aa l.length),(10,aa i)],[],0,0⟩)\/
   (0<i/\∃cs,QL cs ((l.take i).map f)/\st=⟨[(1,.fn (.f g) [] cap),(5,.av 0 0 i),(8,v),(9,aa l.length),(10,aa i)],[(0,.cells ycO ycO ycP 4 cs)],1,0⟩)))
  (fun ex st=>∃tm hp ct,st=⟨tm,hp,ct,0⟩/\ex=.exit 0/\((l.length=0/\ab tm 5=.ae)\/(0<l.length/\∃cs,QL cs (l.map f)/\ab tm 5=.av 0 0 l.length/\au hp 0=Ix (.cells ycO ycO ycP 4 cs)))) ?_
 .unfold ah;rw[aB h];simp only[go_sem,ya,O4,hv.len];generalize hq:D P L (.loop _ GO) _=q;obtain⟨ex,st,rfl,tm,hp,ct,rfl,rfl,h2⟩:=bg hq (key l.length) ⟨0,by lia,.inl ⟨rfl,by simp only[go_sem,ya,ao,aj hv.pu,aj pf]<;>rfl⟩⟩
  rcases h2 with ⟨h2,h3⟩ | ⟨h2,cs,dA,h3,h4⟩
  .refine ⟨.ae,by simp only[go_sem,ao,h3],?_⟩;rw[yu h2];exact agx
  .have qH:=dA.len;rw[yg] at qH;refine⟨.bR ycP 4 l.length cs,?_,?_⟩
   .simp only [go_sem,yb,ao,h3,h4];exact mW (fq _ _ _) qH (by decide)
   .have:=Ed ycP dA
    rwa[yg] at this
 .rintro k st ⟨i,hk,aK⟩;by_cases hi:i<l.length
  .have bD:(i:Int)<l.length:=by lia
   have⟨rest,e1⟩:=hv.aT hi;have⟨y,e2,hy⟩:=hg _ (yy hi);have mq:=hy;obtain⟨y1,y2,y3,y4,rfl,gy⟩:=hy.gen;have bz:∀q,iH q [AV.int .i64 0,.ae,.int .i64 0,.ae] 0 4 [y1,y2,y3,y4] []=fill q [y1,y2,y3,y4] []:=fun q=>Jv gy.o1 gy.o2 gy.o3 gy.o4
   have⟨zi,zj,zk,zm⟩:=gy.qS;have pY:aD [y1,y2,y3,y4]=ycO:=by simp only[aD,zi,zj,zk,zm,xt]
   unfold ah Mv at e2;left
   rcases aK with ⟨h0,rfl⟩ | ⟨h0,cs,dA,rfl⟩
   .subst h0;simp only[go_sem,ya,yb,yV,yA,yi,GO,show ((0:Nat):Int)<l.length from bD,e1,Dp,aG,gQ,gH,yh,a7,hz,e2,bf,bz,zi,zj,zk,zm,xt,oX,eT];refine⟨_,k-1,rfl,by lia,1,by lia,.inr ⟨by lia,[y1,y2,y3,y4],?_,?_⟩⟩
    .rw [yk hi];exact⟨mq,trivial⟩
    .rw [wrap64 (by lia) (by lia)];simp only[go_sem,ya,yb,ao,aj hv.pu,aj pf]<;>rfl
   .simp only [go_sem,ya,yb,yV,GO,bD,e1,Dp,aG,gQ,gH,yh,a7,hz,e2,bf,bz,zi,zj,zk,zm,xt,oX]
    rw[dZ (ex:=ycP) (pu:=ycO) (cs:=cs) rfl (by rw[dA.len,yg,yJ,xq (by lia)]) (by lia) (by lia) (by decide) (by simp only[go_sem,gy.o1,gy.o2,gy.o3,gy.o4])];simp only[go_sem,ya,yb,pY];refine⟨_,k-1,rfl,by lia,i+1,by lia,.inr ⟨by lia,cs++[y1,y2,y3,y4],?_,?_⟩⟩
    .rw [yk hi,yX];exact dA.snoc mq
    .rw [wrap64 (by lia) (by lia)];simp only[go_sem,ya,yb,ao,aj hv.pu,aj pf]<;>rfl
  .right
   rcases aK with ⟨h0,rfl⟩ | ⟨h0,cs,dA,rfl⟩
   .simp only [go_sem,ya,GO,show ¬(i:Int)<l.length by lia];refine⟨_,_,rfl,by simp,_,_,_,rfl,rfl,.inl ⟨by lia,?_⟩⟩;simp only[go_sem,ya]
   .simp only [go_sem,ya,GO,show ¬(i:Int)<l.length by lia];rw[yq (by lia)] at dA;refine⟨_,_,rfl,by simp,_,_,_,rfl,rfl,.inr ⟨by lia,cs,dA,?_,?_⟩⟩
    .simp only [go_sem,ya];rw[show i=l.length by lia]
    .simp only [go_sem]
def aFr(h:Has P L 160 Hj)(hv:cQ v l)(hl:l.length<=1000000){p:Rat->Bool}(hg:∀w x,x∈l->bE w x->ah P L g [w] (.bool (p x))):∃n:Int,ah P L 160 [v,.fn (.f g) [] []] (aa n)/\decide (0<=n)=l.any p:=by
 have key:=dT P L [0,1,7,8] Jd
  (fun k s=>∃i:Nat,i+k=l.length/\(l.drop i).any p=l.any p/\s=⟨[(0,v),(1,.fn (.f g) [] []),(7,aa l.length),(8,aa i)],[],0,0⟩)
  (fun ex s=>∃tm hp ct,s=⟨tm,hp,ct,0⟩/\((∃n:Int,ex=.ret/\ab tm 4=aa n/\0<=n/\l.any p=ycO)\/(ex=.exit 0/\l.any p=ycP))) ?_
 .unfold ah;rw[aB h];simp only[go_sem,ya,Hj,hv.len];generalize hq:D P L (.loop _ Jd) _=q;obtain⟨ex,s,rfl,tm,hp,ct,rfl,h2⟩:=bg hq (key l.length) ⟨0,by lia,rfl,by simp only[go_sem,ya,ao,aj hv.pu]<;>rfl⟩
  rcases h2 with ⟨n,rfl,h2,h3,h4⟩ | ⟨rfl,h2⟩
  .exact ⟨n,by simp only[go_sem,h2]<;>rfl,by rw[h4];simpa using h3⟩
  .exact ⟨-1,by simp only[go_sem,ao]<;>rfl,by rw[h2];decide⟩
 .rintro k s ⟨i,hk,hf,rfl⟩;by_cases hi:i<l.length
  .have bD:(i:Int)<l.length:=by lia
   have⟨a,b,c,d,r,e1,hx⟩:=hv.aT hi;have e2:=hg _ _ (yy hi) hx;have gx:=hx.f4;rw[ahi hi] at hf
   cases dj:p l[i] with
   | false=>
    left
    rw[dj] at e2;simp only[go_sem,ya,Jd,bD,e1,Fi,gO,gx.af,e2];rw[dj,vS] at hf;refine⟨_,k-1,rfl,by lia,i+1,by lia,hf,?_⟩;rw[wrap64 (by lia) (by lia)];simp only[go_sem,ya,ao,aj hv.pu]<;>rfl
   | true=>
    right
    rw[dj] at e2;simp only[go_sem,ya,Jd,bD,e1,Fi,gO,gx.af,e2];refine⟨_,_,rfl,by simp,_,_,_,rfl,.inl ⟨i,rfl,?_,by lia,?_⟩⟩
    .simp only [go_sem]
    .rw [<-hf,dj,Bool.true_or]
  .right
   simp only[go_sem,ya,Jd,show ¬(i:Int)<l.length by lia];refine⟨_,_,rfl,by simp,_,_,_,rfl,.inr ⟨rfl,?_⟩⟩;rw[<-hf,yY (by lia)];rfl
def aFs(h:Has P L 122 J0)(Fk:Has P L 160 Hj)(hv:cQ v l)(hl:l.length<=1000000){p:Rat->Bool}(hg:∀w x,x∈l->bE w x->ah P L g [w] (.bool (p x))):ah P L 122 [v,.fn (.f g) [] []] (.bool (l.any p)):=by
 have⟨n,e1,e2⟩:=aFr Fk hv hl hg;unfold ah at e1 ⊢;rw[aB h];simp only[go_sem,ya,J0,hv.af,e1,e2]
def aFt(h:Has P L 123 J3)(hT:Tx P L)(hv:cQ v l)(hl:l.length<=1000000)(hk:∀x,x∈l->Hq K x)(hK:K<=4000000000):∃r,ah P L 123 [v] r/\bw (shut r) (l.map RT):=by
 have key:=dT P L [3,9,10,11] NA
  (fun k st=>∃(i:Nat) (out:List (List Nat)),i+k=l.length/\out.length=l.length/\out.take i=(l.take i).map RT/\st=⟨[(3,.av 0 0 l.length),(9,v),(10,aa l.length),(11,aa i)],[(0,.cells ycO ycO ycO 1 (out.map .str))],1,0⟩)
  (fun ex st=>∃tm hp ct,st=⟨tm,hp,ct,0⟩/\ex=.exit 0/\ab tm 3=.av 0 0 l.length/\au hp 0=Ix (.cells ycO ycO ycO 1 ((l.map RT).map .str))) ?_
 .unfold ah;rw[aB h];simp only[go_sem,ya,yb,J3,hv.len,nR (show (0:Int)<=l.length by lia),xx,aFp 0 (show l.length<=10000000000 by lia)];generalize hq:D P L (.loop _ NA) _=q;obtain⟨ex,st,rfl,tm,hp,ct,rfl,rfl,t3,g0⟩:=bg hq (key l.length) ⟨0,ye l.length [],by lia,by simp,by simp,by simp only[go_sem,ya,yb,ao,aj hv.pu]<;>rfl⟩
  refine⟨.bR ycO 1 l.length ((l.map RT).map .str),?_,?_⟩
  .simp only [go_sem,yb,ao,t3,g0];exact mW (fq _ _ _) (by simp) (by decide)
  .have:=axJ (l.map RT)
   rwa[yg] at this
 .rintro k st ⟨i,out,A2,hlen,JW,rfl⟩;by_cases hi:i<l.length
  .left
   have⟨a,b,c,d,r,e1,hx⟩:=hv.aT hi;have e2:=m46 hT hx (hk _ (yy hi)) hK;have gx:=hx.f4;unfold ah at e2
   simp only[go_sem,ya,yb,yf,NA,show (i:Int)<l.length by lia,e1,Fi,aG,gx.st,gO,gx.af,yh,e2,nR (show (0:Int)<=i by lia),xx,b9 0 0 hi,yd,stS (l:=out) (o:=i) (by lia)];refine⟨_,k-1,rfl,by lia,i+1,out.set i (RT l[i]),by lia,by simpa using hlen,?_,?_⟩
   .rw [take_set (by lia),JW,yk hi,yX];rfl
   .rw [wrap64 (by lia) (by lia)];simp only[go_sem,ya,yb,ao,aj hv.pu]<;>rfl
  .right
   have:i=l.length:=by lia
   subst this;rw[yq (by lia),yq (ym _)] at JW;subst JW;simp only[go_sem,ya,NA,show ¬(l.length:Int)<l.length by lia];exact⟨_,_,rfl,by simp,_,_,_,rfl,rfl,rfl,rfl⟩
noncomputable def rI(l:List Lay):Int:=if 4<l.length then 5 else a6 (l.map Lay.E)
noncomputable def QH(p:cV):Int:=a6 [aM p.1,aM p.2]
noncomputable def AX(l:List cV):Int:=if 256<l.length then 5 else a6 (l.map QH)
def aCz(h:Lp P L){a:Lay}(hS:ix a.w a.s)(hf:a.Fit):ah P L 115 [.agg a.cs] (aa a.E):=aFm h hS hf.rows hf.rH hf.hh hf.sc hf.st hf.ox hf.oy hf.wx hf.wy
def m76(h:Lp P L)(WW:Has P L 76 P2)(Vr:Has P L 120 OE){l:List Lay}(hv:fb v l)(hl:l.length<=1000000)(hf:∀a,a∈l->a.Fit):ah P L 76 [v] (aa (rI l)):=by
 have⟨r,e1,hr⟩:=aFn Vr hv hl (g:=115) (cap:=[]) rfl (fun _ _=>rfl) (f:=Lay.E) (fun a ha=>aCz h (hv.2 a ha) (hf a ha));have e2:=sT h.toSp.oK hr (by simpa using hl);unfold rI;unfold ah at e1 e2 ⊢;rw[aB WW];by_cases h4:4<l.length
 .rw [yK h4];simp only[go_sem,ya,P2,hv.len,show (4:Int)<l.length by lia,yo]
 .rw [yx h4];simp only[go_sem,ya,P2,hv.len,hv.af,show ¬(4:Int)<l.length by lia,yp,e1,hr.af,e2]
def m78(h:Sp P L)(WX:Has P L 78 P3)(Vs:Has P L 121 OF){l:List cV}(hv:jv v l)(hl:l.length<=1000000)(hf:∀p,p∈l->p.1.length<=1000000000/\p.2.length<=1000000000):ah P L 78 [v] (aa (AX l)):=by
 have⟨r,e1,hr⟩:=aFo Vs hv hl (g:=53) (cap:=[]) rfl (fun _ _=>rfl) (f:=QH) (fun p hp=>WT h (hf p hp).1 (hf p hp).2);have e2:=sT h.oK hr (by simpa using hl);unfold AX;unfold ah at e1 e2 ⊢;rw[aB WX];by_cases h4:256<l.length
 .rw [yK h4];simp only[go_sem,ya,P3,hv.len,show (256:Int)<l.length by lia,yo]
 .rw [yx h4];simp only[go_sem,ya,P3,hv.len,hv.af,show ¬(256:Int)<l.length by lia,yp,e1,hr.af,e2]
def m83(Ip:Has P L 83 KT)(Kt:Has P L 122 J0)(Ku:Has P L 123 J3)(Fk:Has P L 160 Hj)(hT:Tx P L)(hv:cQ v l)(hl:l.length<=1000000)(hk:∀x,x∈l->Hq K x)(hK:K<=4000000000):
  (l.any LG=ycO->ah P L 83 [v] (.ax [.ae,aa 4]))/\(l.any LG=ycP->∃r,bw r (l.map RT)/\ah P L 83 [v] (.ax [r,aa 0])):=by
 have e1:=aFs Kt Fk hv hl (g:=107) (p:=LG) (fun w x hx hw=>aEI hT hw (hk x hx) hK);have⟨r,e2,hr⟩:=aFt Ku hT hv hl hk hK;unfold ah at e1 e2 ⊢;constructor
 .intro ha;rw[ha] at e1;rw[aB Ip];simp only[go_sem,ya,KT,hv.af,e1]
 .intro ha;rw[ha] at e1;refine⟨_,hr,?_⟩;rw[aB Ip];simp only[go_sem,ya,KT,hv.af,e1,e2];rcases hr with ⟨hr,_⟩ | ⟨e,hr⟩<;>rw[hr]<;>rfl
end
section
variable {v:AV}{fr:Int}{dx dy sh x y:List Nat}
def sC{α:Type}(b:α->Bool)(f:α->Rat)(s:Rat)(l:List α):Rat:=l.foldl (fun acc a=>if b a=ycO then acc+f a else acc) s
def afz{α:Type}{b:α->Bool}{f:α->Rat}{s:Rat}{l:List α}{i:Nat}(h:i<l.length):sC b f s (l.take (i+1))=if b l[i]=ycO then sC b f s (l.take i)+f l[i] else sC b f s (l.take i):=by
 rw[yk h];simp only[sC,tQ,yae,yat]
def Sf{α:Type}{b:α->Bool}{f:α->Rat}{K:Nat}:∀{l:List α} {s:Rat} {M:Nat},Hq M s->(∀x,x∈l->Hq K (f x))->Hq (M+l.length*(K+1)) (sC b f s l)
 | [],s,M,hs,_=>by simpa[sC] using hs
 | x::l,s,M,hs,hl=>by
  show Hq _ (sC b f (if b x=ycO then s+f x else s) l)
  have ih:=fun {s':Rat} {M':Nat} (h:Hq M' s')=>Sf (b:=b) (l:=l) h (fun y hy=>hl y (xi _ hy))
  have e:(x::l).length*(K+1)=l.length*(K+1)+(K+1):=by grind
  split
  .exact (ih (hs.add (hl x xA))).mono (by lia)
  .exact (ih hs).mono (by lia)
def apQ{α:Type}{b:α->Bool}{f:α->Rat}{M:Nat}{l:List α}{s:Rat}(hs:Hq M s)(hl:∀x,x∈l->Hq K (f x))(i:Nat):Hq (M+l.length*(K+1)) (sC b f s (l.take i)):=
 (Sf hs (fun x hx=>hl x (vI hx))).mono (by rw[yJ];have:=yR (K+1) (Nat.min_le_right i l.length);lia)
noncomputable def Lay.ph(dx dy sh x y:List Nat)(fr:Int)(a:Lay):Rat:=phQ a.s a.hh a.sc a.st a.ox a.oy a.wx a.wy dx dy sh x y fr
noncomputable def Lay.low(sh:List Nat)(a:Lay):Bool:=N4 (aI sh) (aI a.hh)
def Lay.Ok(dx dy sh x y:List Nat)(fr:Int)(a:Lay):Prop:=ER a.s a.hh a.sc a.st a.ox a.oy a.wx a.wy dx dy sh x y fr
noncomputable def ES(l:List Lay)(dx dy sh x y:List Nat)(fr:Int):Rat:=sC (Lay.low sh) (Lay.ph dx dy sh x y fr) 0 l
def avm{l:List Lay}(h:∀a,a∈l->a.Ok dx dy sh x y fr)(hl:l.length<=4):Hq 2000000 (ES l dx dy sh x y fr):=
 (Sf B6 (fun a ha=>aam (h a ha))).mono (by lia)
def IJ{α:Type}{f:α->Int}:∀{l:List α},a6 (l.map f)=0->∀a,a∈l->f a=0
 | [],_,_,h=>by cases h
 | x::l,h,a,ha=>by
  rw[yS,oO] at h;rcases wj.1 ha with rfl | ha
  .grind
  .exact IJ h.2 a ha
def Y9{l:List Lay}(h:rI l=0):l.length<=4/\∀a,a∈l->a.E=0:=by
 unfold rI at h
 split at h
 .grind
 .exact ⟨by lia,IJ h⟩
def SM{l:List cV}(h:AX l=0):l.length<=256/\∀p,p∈l->aM p.1=0/\aM p.2=0:=by
 unfold AX at h
 split at h
 .grind
 .exact ⟨by lia,fun p hp=>Y6.1 (IJ h p hp)⟩
def alp{l:List Lay}(h1:rI l=0)(h2:zQ dx dy sh=0)(h3:aM x=0)(h4:aM y=0)(h5:nm fr=0):∀a,a∈l->a.Ok dx dy sh x y fr:=fun a ha=>by
 have e:=(Y9 h1).2 a ha;refine axI ?_;unfold abX;unfold Lay.E at e;rw[e,h2,h3,h4,h5];rfl
structure Lq(P:aJ)(L:Lib):Prop extends Lp P L where
 WW:Has P L 76 P2
 WX:Has P L 78 P3
 Ip:Has P L 83 KT
 Vr:Has P L 120 OE
 Vs:Has P L 121 OF
 Kt:Has P L 122 J0
 Ku:Has P L 123 J3
 Fk:Has P L 160 Hj
def aFu(h:Lp P L)(HE:Has P L 370 Kf){l:List Lay}(hv:fb v l)(hl:l.length<=4)(ok:∀a,a∈l->a.Ok dx dy sh x y fr):
  ∃r,ah P L 370 [v,mr dx dy sh,qR x y,aa fr] r/\bE r (ES l dx dy sh x y fr):=by
 have ks:=fun i=>apQ (b:=Lay.low sh) B6 (fun a ha=>aam (ok a ha)) i
 have key:=dT P L [3,5,6,8,9,13,14,15] Jp
  (fun k st=>∃i:Nat,i+k=l.length/\∃c1 c2 c3 c4,bE (.agg [c1,c2,c3,c4]) (sC (Lay.low sh) (Lay.ph dx dy sh x y fr) 0 (l.take i))/\st=⟨[(3,aa fr),(5,.ptr 0 0),(6,.ptr 1 0),(8,.ptr 2 0),(9,.ptr 3 0),(13,v),(14,aa l.length),(15,aa i)],[(3,.cells ycO ycO ycO 4 [c1,c2,c3,c4]),(2,.cells ycO ycO ycO 4 [.int .i64 0,.ae,.int .i64 0,.ae]),(1,.cells ycO ycO ycO 2 [.str x,.str y]),(0,.cells ycO ycO ycO 3 [.str dx,.str dy,.str sh])],4,0⟩)
  (fun ex st=>∃tm hp ct c1 c2 c3 c4,bE (.agg [c1,c2,c3,c4]) (ES l dx dy sh x y fr)/\st=⟨tm,hp,ct,0⟩/\ex=.exit 0/\ab tm 8=.ptr 2 0/\ab tm 9=.ptr 3 0/\au hp 3=Ix (.cells ycO ycO ycO 4 [c1,c2,c3,c4])/\au hp 2=Ix (.cells ycO ycO ycO 4 [.int .i64 0,.ae,.int .i64 0,.ae])) ?_
 .have ⟨z,e1,hz⟩:=DS h.toVl.toFr' (z:=0) (by lia) (by lia);have dj:bE z 0:=hz;obtain⟨z1,z2,z3,z4,rfl,gz⟩:=hz.gen;unfold ah at e1 ⊢;rw[aB HE];simp only[go_sem,ya,yb,Kf,aG,e1,bf,gz.st,hv.len];generalize hq:D P L (.loop _ Jp) _=q;obtain⟨ex,st,rfl,tm,hp,ct,c1,c2,c3,c4,h1,rfl,rfl,t8,t9,g3,g2⟩:=bg hq (key l.length) ⟨0,by lia,z1,z2,z3,z4,by simpa[sC] using dj,by simp only[go_sem,ya,yb,ao,aj hv.pu]<;>rfl⟩
  have g:=h1.f4;refine⟨_,?_,h1⟩;simp only[go_sem,ya,yb,ao,t8,t9,g3,g2,gO,g.st,de,df,yh];exact g.eG _
 .rintro k st ⟨i,hk,c1,c2,c3,c4,hs,rfl⟩;by_cases hi:i<l.length
  .left
   have⟨rest,e1⟩:=hv.aT hi;have hS:=hv.get hi;have cN:=ok _ (yy hi);have⟨a,e2,ha⟩:=AW h.toSp cN.hh;have e3:=m63 h.toSp (x:=dx) (y:=dy) cN.sh ha (mB cN.hh (ym 2400)) (by decide);rw[show N4 (aI sh) (aI l[i].hh)=Lay.low sh l[i] from rfl] at e3;have aK:=afz (b:=Lay.low sh) (f:=Lay.ph dx dy sh x y fr) (s:=0) hi;obtain⟨a1,a2,a3,a4,rfl,ga⟩:=ha.gen;have gs:=hs.f4
   cases hb:Lay.low sh l[i] with
   | false=>
    rw[hb] at e3 aK;simp only[go_sem,ya,yb,Jp,show (i:Int)<l.length by lia,e1,z7,aG,Ev hS,aZ,yd,cD,yh,kP,a7,e2,bf,ga.af,e3];refine⟨_,k-1,rfl,by lia,i+1,by lia,c1,c2,c3,c4,by rw[aK];exact hs,?_⟩
    rw[wrap64 (by lia) (by lia)];simp only[go_sem,ya,yb,ao,aj hv.pu]<;>rfl
   | true=>
    rw[hb] at e3 aK;have⟨p,e4,hp⟩:=m67 h hS cN;have⟨y',e5,hy⟩:=FL h.toVl.toFr' hs hp (K:=2000000) ((ks i).mono (by lia)) ((aam cN).mono (by lia)) (by lia);have hy2:bE y' (sC (Lay.low sh) (Lay.ph dx dy sh x y fr) 0 (l.take (i+1))):=by rw[aK];exact hy
    obtain⟨p1,p2,p3,p4,rfl,gp⟩:=hp.gen;obtain⟨y1,y2,y3,y4,rfl,gy⟩:=hy.gen;unfold pJ mr qR at e4;simp only[go_sem,ya,yb,Jp,show (i:Int)<l.length by lia,e1,z7,aG,Ev hS,aZ,yd,cD,yh,kP,gH,gO,Jy,a7,hS.af,e2,bf,ga.af,e3,e4,gs.af,gp.af,e5,gy.st];refine⟨_,k-1,rfl,by lia,i+1,by lia,y1,y2,y3,y4,hy2,?_⟩;rw[wrap64 (by lia) (by lia)];simp only[go_sem,ya,yb,ao,aj hv.pu]<;>rfl
  .right
   simp only[go_sem,ya,Jp,show ¬(i:Int)<l.length by lia];rw[yq (by lia)] at hs;exact⟨_,_,rfl,by simp,_,_,_,c1,c2,c3,c4,hs,rfl,rfl,rfl,rfl,rfl,rfl⟩
def aFv(h:Lp P L)(Pt:Has P L 368 O3)(HE:Has P L 370 Kf){l:List Lay}(hv:fb v l)(hl:l.length<=4)(ok:∀a,a∈l->a.Ok dx dy sh x y fr):
  ∃r,ah P L 368 [qR x y,.aQ [v],.aQ [.str dx,.str dy,.str sh],.aQ [aa fr]] r/\bE r (ES l dx dy sh x y fr):=by
 have⟨r,e1,hr⟩:=aFu h HE hv hl ok;have bt:=hr;refine⟨r,?_,bt⟩;obtain⟨r1,r2,r3,r4,rfl,gr⟩:=hr.gen;unfold ah at*;rw[aB Pt];simp only[go_sem,ya,yb,O3,aG,hv.af,Fj,gH,a7,yh,e1,bf,gr.st,de,df];exact gr.eG _
noncomputable def Fl(l:List Lay)(dx dy sh:List Nat)(pl:List cV)(fr:Int):Int:=a6 [rI l,zQ dx dy sh,AX pl,nm fr]
noncomputable def Ew(l:List Lay)(dx dy sh:List Nat)(pl:List cV)(fr:Int):List Rat:=pl.map fun p=>ES l dx dy sh p.1 p.2 fr
def axK{l:List Lay}{pl:List cV}(h:Fl l dx dy sh pl fr=0):l.length<=4/\pl.length<=256/\∀p,p∈pl->∀a,a∈l->a.Ok dx dy sh p.1 p.2 fr:=by
 unfold Fl at h;simp only[oO,Gb,vv] at h;have⟨h1,h2,h3,h5⟩:=h;exact⟨(Y9 h1).1,(SM h3).1,fun p hp=>alp h1 h2 ((SM h3).2 p hp).1 ((SM h3).2 p hp).2 h5⟩
def aFw(h:Lq P L)(Pu:Has P L 367 Ke)(Pt:Has P L 368 O3)(abY:Has P L 369 O4)(HE:Has P L 370 Kf){w:AV}{l:List Lay}(hv:fb v l)(hl:l.length<=1000000)(hf:∀a,a∈l->a.Fit){pl:List cV}(hw:jv w pl)(fR:pl.length<=1000000)(DK:∀p,p∈pl->p.1.length<=1000000000/\p.2.length<=1000000000)(l8:dx.length<=1000000000)(l9:dy.length<=1000000000)(la:sh.length<=1000000000):
  (Fl l dx dy sh pl fr≠0->ah P L 367 [v,mr dx dy sh,w,aa fr] (.ax [.ae,aa (Fl l dx dy sh pl fr)]))/\
  (Fl l dx dy sh pl fr=0->((Ew l dx dy sh pl fr).any LG=ycO->ah P L 367 [v,mr dx dy sh,w,aa fr] (.ax [.ae,aa 4]))/\
   ((Ew l dx dy sh pl fr).any LG=ycP->∃r,bw r ((Ew l dx dy sh pl fr).map RT)/\ah P L 367 [v,mr dx dy sh,w,aa fr] (.ax [r,aa 0]))):=by
 have e1:=m76 h.toLp h.WW h.Vr hv hl hf;have e2:=m60 h.toLp.toSp l8 l9 la;rw[show a6 [a6 [aM dx,aM dy],iI sh 0]=zQ dx dy sh from rfl] at e2;have e3:=m78 h.toLp.toSp h.WX h.Vs hw fR DK;have e4:=s51 h.toLp.WQ h.toLp.Mo h.toLp.toSp.jn fr;have e5:=sT h.toLp.toSp.oK (fZ ycO [rI l,zQ dx dy sh,AX pl,nm fr]) (by simp);simp only[yB,yI,yd,yb,yS,wu] at e5;rw[show a6 [rI l,zQ dx dy sh,AX pl,nm fr]=Fl l dx dy sh pl fr from rfl] at e5;constructor
 .intro h0;unfold ah at*;rw[aB Pu];simp only[go_sem,ya,yb,yA,yi,yf,Ke,aG,hv.pu,hv.af,hv.one,hv.cells,hw.af,kP,a7,yh,e1,e2,e3,e4,e5,h0,yp,yQ]
 .intro h0;have⟨k1,k2,k3⟩:=axK h0;have⟨r,e6,hr⟩:=aFq abY hw fR (g:=368) (cap:=[.aQ [v],.aQ [.str dx,.str dy,.str sh],.aQ [aa fr]]) (by simp[aD,aP]) (fun n hp=>by simp only[go_sem,cm,freeze,aP,yN]) (f:=fun p=>ES l dx dy sh p.1 p.2 fr) (fun p hp=>aFv h.toLp Pt HE hv k1 (k3 p hp));have kk:∀q,q∈Ew l dx dy sh pl fr->Hq 2000000 q:=fun q hq=>by
   obtain⟨p,hp,rfl⟩:=xj.1 hq;exact avm (k3 p hp) k1
  have⟨m1,m2⟩:=m83 h.Ip h.Kt h.Ku h.Fk h.toLp.toSp.toTx (l:=Ew l dx dy sh pl fr) hr (by simpa[Ew] using fR) kk (by decide);rw[h0] at e5;constructor
  .intro ha;have m1:=m1 ha;unfold ah at*;rw[aB Pu];simp only[go_sem,ya,yb,yA,yi,yf,Ke,aG,hv.pu,hv.af,hv.one,hv.cells,hw.af,kP,a7,yh,e1,e2,e3,e4,e5,e6,hr.af,m1]
  .intro ha;have⟨q,hq,m2⟩:=m2 ha;refine⟨q,hq,?_⟩;unfold ah at*;rw[aB Pu];simp only[go_sem,ya,yb,yA,yi,yf,Ke,aG,hv.pu,hv.af,hv.one,hv.cells,hw.af,kP,a7,yh,e1,e2,e3,e4,e5,e6,hr.af,m2];rcases hq with ⟨rfl,_⟩ | ⟨e,rfl⟩<;>rfl
end
def aFx(h:S0 P L)(h3:Has P L 3 c3)(Ai:Has P L 30 DG)(abZ:Has P L 335 UU){w:AV}{s:List (List Int)}(hw:ix w s){hh sc st ox oy wx wy:List Nat}(l1:hh.length<=1000000000)(l2:sc.length<=1000000000)(l3:st.length<=1000000000)(l4:ox.length<=1000000000)(l5:oy.length<=1000000000)(l6:wx.length<=1000000000)(l7:wy.length<=1000000000):
  ah P L 335 [pJ w hh sc st ox oy wx wy] (aa (HC s hh sc st ox oy wx wy)):=by
 have e1:=s3 h3 Ai hw;have e2:=am3 h l1;have e3:=am2 h l2 1;have e4:=Vk h.toRm (Nat.lt_of_le_of_lt l3 (by decide));have e5:=abR h l4 l5;have e6:=abR h l6 l7;have e7:=s42 h.WO (fZ ycO [oP s,iI hh 0,iI sc 1,aM st,a6 [aM ox,aM oy],a6 [aM wx,aM wy]]) (by simp);simp only[yB,yI,yd,yb,yS,wu] at e7;have o1:=hw.one;have p1:=hw.pu;have d2:∀a b c d e f g i:AV,xK 2 [a,b,c,d,e,f,g,i]=[c,d,e,f,g,i]:=fun _ _ _ _ _ _ _ _=>rfl
 have d3:∀a b c d e f g i:AV,xK 3 [a,b,c,d,e,f,g,i]=[d,e,f,g,i]:=fun _ _ _ _ _ _ _ _=>rfl
 have d6:∀a b c d e f g i:AV,xK 6 [a,b,c,d,e,f,g,i]=[g,i]:=fun _ _ _ _ _ _ _ _=>rfl
 unfold qR at e5 e6;unfold ah at e1 e2 e3 e4 e5 e6 e7 ⊢;rw[aB abZ];unfold pJ;simp only[go_sem,ya,yb,yA,yi,yf,UU,aG,o1,p1,hw.af,aZ,yd,cD,d2,d3,CM,d6,gH,a7,yh,e1,e2,e3,e4,e5,e6,e7];rfl
structure Lay.Pw(a:Lay):Prop where
 hh:a.hh.length<9223372036854775808
 sc:a.sc.length<9223372036854775808
 st:a.st.length<9223372036854775808
 ox:a.ox.length<9223372036854775808
 oy:a.oy.length<9223372036854775808
 wx:a.wx.length<9223372036854775808
 wy:a.wy.length<9223372036854775808
def ap2{α:Type}{f:α->Int}{l:List α}{i:Nat}(h:i<l.length):a6 ((l.drop i).map f)=if f l[i]=0 then a6 ((l.drop (i+1)).map f) else f l[i]:=by
 rw[yP h,yS,a6]
def aFy(h:Has P L 321 US){l:List Lay}(hv:fb v l)(hl:l.length<=1500000):∃r,ah P L 321 [v] r/\fb (shut r) l:=by
 have h8:∀{m:List Lay},∀p,p∈m.map Lay.cs->p.length=8:=fun {m} p hp=>by
  obtain⟨a,_,rfl⟩:=xj.1 hp;rfl
 have key:=dT P L [0,3,6,7] GJ
  (fun k st=>∃i:Nat,i+k=l.length/\((i=0/\st=⟨[(0,v),(3,.ae),(6,aa l.length),(7,aa i)],[],0,0⟩)\/
   (0<i/\st=⟨[(0,v),(3,.av 0 0 i),(6,aa l.length),(7,aa i)],[(0,.cells ycO ycO ycP 8 ((l.take i).map Lay.cs).flatten)],1,0⟩)))
  (fun ex st=>∃tm hp ct,st=⟨tm,hp,ct,0⟩/\ex=.exit 0/\((l.length=0/\ab tm 3=.ae)\/(0<l.length/\ab tm 3=.av 0 0 l.length/\au hp 0=Ix (.cells ycO ycO ycP 8 (l.map Lay.cs).flatten)))) ?_
 .unfold ah;rw[aB h];simp only[go_sem,ya,US,hv.len];generalize hq:D P L (.loop _ GJ) _=q;obtain⟨ex,st,rfl,tm,hp,ct,rfl,rfl,h2⟩:=bg hq (key l.length) ⟨0,by lia,.inl ⟨rfl,by simp only[go_sem,ya,ao,aj hv.pu]<;>rfl⟩⟩
  rcases h2 with ⟨h2,h3⟩ | ⟨h2,h3,h4⟩
  .refine ⟨.ae,by simp only[go_sem,ao,h3],?_⟩;rw[yu h2];exact⟨Se,fun _ h=>by cases h⟩
  .refine ⟨.bR ycP 8 l.length (l.map Lay.cs).flatten,?_,?_,hv.2⟩
   .simp only [go_sem,yb,ao,h3,h4];exact mW (fq _ _ _) (by rw[X2 h8,yg]) (by decide)
   .have:=Nq (k:=8) ycP (h8 (m:=l))
    rwa[yg] at this
 .rintro k st ⟨i,hk,aK⟩;by_cases hi:i<l.length
  .have bD:(i:Int)<l.length:=by lia
   have⟨rest,e1⟩:=hv.aT hi;have hS:=hv.get hi;have bz:∀q,iH q [.ae,.str [],.str [],.str [],.str [],.str [],.str [],.str []] 0 8 [l[i].w,.str l[i].hh,.str l[i].sc,.str l[i].st,.str l[i].ox,.str l[i].oy,.str l[i].wx,.str l[i].wy] []=fill q [l[i].w,.str l[i].hh,.str l[i].sc,.str l[i].st,.str l[i].ox,.str l[i].oy,.str l[i].wx,.str l[i].wy] []:=fun q=>by
    rw[pP (by rfl) (by simp) (by simp[bP,hS.one,SE])];rfl
   have pY:aD [l[i].w,.str l[i].hh,.str l[i].sc,.str l[i].st,.str l[i].ox,.str l[i].oy,.str l[i].wx,.str l[i].wy]=ycO:=by simp[aD,hS.pu,aP]
   have at8:∀(dn pu ex:Bool) (a b c d e f g i:AV),HX 0 1 8 (Ix (.cells dn pu ex 8 [a,b,c,d,e,f,g,i]))=Ix (1,[a,b,c,d,e,f,g,i]):=fun _ _ _ _ _ _ _ _ _ _ _=>rfl
   left
   rcases aK with ⟨h0,rfl⟩ | ⟨h0,rfl⟩
   .subst h0;simp only[go_sem,ya,yb,yV,yA,yi,GJ,show ((0:Nat):Int)<l.length from bD,e1,z7,bz,hS.pu,xt,at8,eT];refine⟨_,k-1,rfl,by lia,1,by lia,.inr ⟨by lia,?_⟩⟩;rw[wrap64 (by lia) (by lia),yk hi];simp only[go_sem,ya,yb,ao,aj hv.pu,vC,xy]<;>rfl
   .have hlen:((l.take i).map Lay.cs).flatten.length=i*8:=by rw[X2 h8,yg,yJ,xq (by lia)]
    simp only[go_sem,ya,yb,yV,GJ,bD,e1,z7,bz,hS.pu,xt,at8]
    rw[dZ (ex:=ycP) (pu:=ycO) (cs:=((l.take i).map Lay.cs).flatten) rfl hlen (by lia) (by lia) (by decide) (by simp only[go_sem,hS.one])];simp only[go_sem,ya,yb,pY];refine⟨_,k-1,rfl,by lia,i+1,by lia,.inr ⟨by lia,?_⟩⟩;rw[wrap64 (by lia) (by lia),yk hi,yX,vD];simp only[go_sem,ya,yb,ao,aj hv.pu,yS,wu,wq,tF,wh]<;>rfl
  .right
   rcases aK with ⟨h0,rfl⟩ | ⟨h0,rfl⟩
   .simp only [go_sem,ya,GJ,show ¬(i:Int)<l.length by lia];refine⟨_,_,rfl,by simp,_,_,_,rfl,rfl,.inl ⟨by lia,?_⟩⟩;simp only[go_sem,ya]
   .simp only [go_sem,ya,GJ,show ¬(i:Int)<l.length by lia];refine⟨_,_,rfl,by simp,_,_,_,rfl,rfl,.inr ⟨by lia,?_,?_⟩⟩
    .simp only [go_sem,ya];rw[show i=l.length by lia]
    .simp only [go_sem];rw[yq (by lia)]
def afA:∀{ps:List (List AV)},(∀p,p∈ps->iX Tb p)->∃l:List Lay,ps=l.map Lay.cs/\(∀a,a∈l->ix a.w a.s)/\∀a,a∈l->a.Pw
 | [],_=>⟨[],rfl,(fun _ h=>by cases h),(fun _ h=>by cases h)⟩
 | p::ps,h=>by
  obtain⟨w,s,a,b,c,d,e,f,g,rfl,hw,ha,hb,hc,hd,he,hf,hg⟩:=asN (h p xA);have⟨l,h1,h2,h3⟩:=afA (ps:=ps) (fun q hq=>h q (xi _ hq));refine⟨⟨w,s,a,b,c,d,e,f,g⟩::l,by rw[h1];rfl,fun q hq=>?_,fun q hq=>?_⟩
  .rcases wj.1 hq with rfl | hq
   .exact hw
   .exact h2 q hq
  .rcases wj.1 hq with rfl | hq
   .exact ⟨ha,hb,hc,hd,he,hf,hg⟩
   .exact h3 q hq
def afB:∀{ps:List (List AV)},(∀p,p∈ps->iX GW p)->∃l:List cV,ps=l.map Mv/\∀p,p∈l->p.1.length<9223372036854775808/\p.2.length<9223372036854775808
 | [],_=>⟨[],rfl,(fun _ h=>by cases h)⟩
 | p::ps,h=>by
  obtain⟨x,y,rfl,hx,hy⟩:=RN (h p xA);have⟨l,h1,h2⟩:=afB (ps:=ps) (fun q hq=>h q (xi _ hq));refine⟨(x,y)::l,by rw[h1];rfl,fun q hq=>?_⟩
  rcases wj.1 hq with rfl | hq
  .exact ⟨hx,hy⟩
  .exact h2 q hq
def axL{l:List AV}(h:iX (.sl Tb) l):∃(v:AV) (m:List Lay),l=[v]/\fb v m/\∀a,a∈m->a.Pw:=by
 rcases h with rfl | ⟨x,ps,rfl,h⟩
 .exact ⟨_,[],rfl,⟨Se,(fun _ h=>by cases h)⟩,(fun _ h=>by cases h)⟩
 .obtain ⟨m,rfl,h2,h3⟩:=afA h
  exact⟨_,m,rfl,⟨Nq x (fun p hp=>by obtain⟨a,_,rfl⟩:=xj.1 hp;rfl),h2⟩,h3⟩
def axM{l:List AV}(h:iX (.sl GW) l):∃(v:AV) (m:List cV),l=[v]/\jv v m/\∀p,p∈m->p.1.length<9223372036854775808/\p.2.length<9223372036854775808:=by
 rcases h with rfl | ⟨x,ps,rfl,h⟩
 .exact ⟨_,[],rfl,Se,fun _ h=>by cases h⟩
 .obtain ⟨m,rfl,h2⟩:=afB h
  exact⟨_,m,rfl,Nq x (fun p hp=>by obtain⟨a,_,rfl⟩:=xj.1 hp;rfl),h2⟩
abbrev iO:=List (Int×AV)
def lH(E:iO):List AV:=E.map fun e=>aa e.1
def eP(E:iO):List AV:=E.map (·.2)
def ie(E:iO)(k:Int):Option AV:=(E.find? fun e=>k==e.1).map (·.2)
def mh(E:iO)(k:Int)(v:AV):iO:=match E with
 | []=>[(k,v)]
 | e::r=>if k=e.1 then (e.1,v)::r else e::mh r k v
def X3(e:Int×AV)(r:iO)(k:Int)(v:AV):mh (e::r) k v=if k=e.1 then (e.1,v)::r else e::mh r k v:=rfl
def aiR(a b:Int):BL (aa a) (aa b)=Ix (a==b):=by simp[BL]
def aiS(k:Int):∀E:iO,BM (aa k) (lH E) (eP E)=Ix (ie E k)
 | []=>rfl
 | e::r=>by
  show (match BL (aa k) (aa e.1) with | some ycO=>Ix (Ix e.2) | some ycP=>BM (aa k) (lH r) (eP r) | none=>Iy)=_
  rw[aiR,aiS k r];unfold ie
  grind
def ajO(k:Int)(v:AV):∀E:iO,AM (aa k) v (lH E) (eP E)=Ix (lH (mh E k v),eP (mh E k v))
 | []=>rfl
 | e::r=>by
  show (match BL (aa k) (aa e.1) with | some ycO=>Ix (aa e.1::lH r,v::eP r) | some ycP=>(match AM (aa k) v (lH r) (eP r) with | some (kE,PH)=>Ix (aa e.1::kE,e.2::PH) | none=>Iy) | none=>Iy)=_
  rw[aiR,ajO k v r,X3];by_cases h:k=e.1
  .rw [yK h]
   have:(k==e.1)=ycO:=by simp_all
   rw[this];rfl
  .rw [yx h]
   have:(k==e.1)=ycP:=by simp_all
   rw[this];rfl
def ahG(k:Int)(v:AV)(j:Int):∀E:iO,ie (mh E k v) j=if j=k then Ix v else ie E j
 | []=>by
  by_cases h:j=k
  .simp [mh,ie,h]
  .simp [mh,ie,ybi,h]
 | e::r=>by
  have ih:=ahG k v j r;rw[X3];by_cases h:k=e.1
  .rw [yK h];by_cases h2:j=k
   .rw [yK h2];unfold ie
    grind
   .rw [yx h2];unfold ie
    grind
  .rw [yx h];by_cases h4:j=e.1
   .have h5:¬j=k:=fun q=>h (q▸h4)
    unfold ie
    grind
   .have h3:(j==e.1)=ycP:=by simp_all
    have e1:∀x:AV,ie ((e.1,x)::mh r k v) j=ie (mh r k v) j:=fun x=>by unfold ie;simp[ybi,h3]
    have e2:ie (e::r) j=ie r j:=by unfold ie;simp[ybi,h3]
    grind
def Yz{E:iO}{k:Int}(hE:aD (eP E)=ycO)(hv:aP v=ycO):aD (eP (mh E k v))=ycO:=by
 induction E with
 | nil=>simp[mh,eP,aD,hv]
 | cons e r ih=>
  simp only[eP,yS,aD,yj] at hE;rw[X3]
  split
  .simp only [eP,yS,aD,yj]
   grind
  .simp only [eP,yS,aD,yj];exact⟨hE.1,ih hE.2⟩
def ajP(E:iO):aD (lH E)=ycO:=by
 induction E with
 | nil=>rfl
 | cons e r ih=>simp only[lH,yS,aD,yj];exact⟨rfl,ih⟩
def jO(E:iO)(K:Nat)(C:Int->Rat):Prop:=∀j,match ie E j with
 | some v=>bE v (C j)/\Hq K (C j)
 | none=>C j=0
def jO.nil:jO [] K fun _=>0:=fun _=>rfl
def jO.set{E:iO}{C':Int->Rat}(h:jO E K C){k:Int}(hv:bE v (C' k))(hk:Hq K (C' k))(hC:∀j,j≠k->C' j=C j):jO (mh E k v) K C':=fun j=>by
 rw[ahG];by_cases hj:j=k
 .grind
 .rw [yx hj]
  have:=h j
  cases hm:ie E j with
  | none=>rw[hm] at this;rw[hC j hj];exact this
  | some u=>rw[hm] at this;rw[hC j hj];exact this
def jO.mono{E:iO}{M:Nat}(h:jO E K C)(hK:K<=M):jO E M C:=fun j=>by
 have:=h j
 cases hm:ie E j with
 | none=>rw[hm] at this;exact this
 | some u=>rw[hm] at this;exact⟨this.1,this.2.mono hK⟩
section
variable {b:Bool}{hp:Hp}{n:Int}
def SN{id:Nat}{E:iO}(k:Int)(h:au hp id=Ix (.mp b (lH E) (eP E))):oc hp (aa k) (.map id)=Ix (ie E k):=by
 show (match au hp id with | some (.mp _ ks vs)=>BM (aa k) ks vs | _=>Iy)=_
 rw[h];exact aiS k E
def QI(hp:Hp)(z k m:AV):Option AV:=match oc hp k m with | some (Ix v)=>Ix (.ax [v,.bool ycO]) | some Iy=>Ix (.ax [z,.bool ycP]) | none=>Iy
def TV{z k m:AV}(h:oc hp k m=Ix (Ix v)):QI hp z k m=Ix (.ax [v,.bool ycO]):=by unfold QI;rw[h]
def TW{z k m:AV}(h:oc hp k m=Ix Iy):QI hp z k m=Ix (.ax [z,.bool ycP]):=by unfold QI;rw[h]
def Ey{P:aJ}{L:Lib}{f:cG}(z:AV)(m k:X)(n:Int)(h:aC tm k=aa n):bq P L f tm hp ct (.PG 1 z ycO m k)=rd hp ct (QI hp z (aC tm k) (aC tm m)):=by
 show rd hp ct (bif AA 1 (aC tm k) then (match oc hp (aC tm k) (aC tm m) with | some (Ix v)=>Ix (.ax [v,.bool ycO]) | some Iy=>Ix (.ax [z,.bool ycP]) | none=>Iy) else Iy)=_
 rw[h];rfl
def ZJ{P:aJ}{L:Lib}{f:cG}{id:Nat}{E:iO}(m k v:X)(hm:aC tm m=.map id)(hk:aC tm k=aa n)(h:au hp id=Ix (.mp ycO (lH E) (eP E))):bq P L f tm hp ct (.sN 1 m k v)=Ix (.ax [],aV hp id (.mp ycO (lH (mh E n (aC tm v))) (eP (mh E n (aC tm v)))),ct):=by
 show (match aC tm m with
  | .map id=>(match au hp id with
   | some (.mp ycO ks vs)=>bif !AA 1 (aC tm k) then Iy else match AM (aC tm k) (aC tm v) ks vs with | some (kE,eM)=>Ix (AV.ax [],aV hp id (.mp ycO kE eM),ct) | none=>Iy
   | _=>Iy)
  | _=>Iy)=_
 rw[hm,hk];simp only[h];rw[ajO];rfl
def mA(id:Nat):refs (.map id)=[id]:=rfl
def alq(q:Option Nat):AV:=match q with | some j=>.map j | none=>.undef
def mD(s:List Nat)(id:Nat):cg (pos s) (.map id)=alq (fG id s 0):=rfl
def nh(j:Nat):alq (Ix j)=.map j:=rfl
def nc{E:iO}(h:aD (eP E)=ycO):lZ (.mp b (lH E) (eP E))=[]:=by
 show iF _++iF _=[]
 rw[Ga (ajP E),Ga h];rfl
def ni(f:Nat->Option Nat){E:iO}(h:aD (eP E)=ycO):jY f (.mp b (lH E) (eP E))=.mp b (lH E) (eP E):=by
 show Obj.mp b (fo f _) (fo f _)=_
 rw[Gc f (ajP E),Gc f h]
def WY(hp:Hp)(ct id:Nat)(a b c d:AV):fN hp ct id 0 4 [.int .i64 0,.ae,.int .i64 0,.ae] (Ix (.cells ycO ycO ycO 4 [a,b,c,d]))=Ix (.ax [],aV hp id (.cells ycO ycO ycO 4 [.int .i64 0,.ae,.int .i64 0,.ae]),ct):=by
 rw[mb (by rfl) (by simp) (by rfl)];rfl
def er(fr n i j:Int)(k:Nat):Int:=fr+(j+(k:Int)/2)%n*n+(i+(k:Int)%2)%n
def TX{i j:Int}(hn:0<n)(fg:n<=1000)(h0:0<=fr)(k:Nat):fr<=er fr n i j k/\er fr n i j k<fr+n*n:=by
 have a1:=wV (i+(k:Int)%2) (show n≠0 by lia);have a2:=wV (j+(k:Int)/2) (show n≠0 by lia);have a3:=wU (i+(k:Int)%2) hn;have a4:=wU (j+(k:Int)/2) hn;have h1:0<=(j+(k:Int)/2)%n*n:=tk a2 (by lia);have h2:((j+(k:Int)/2)%n+1)*n<=n*n:=Int.mul_le_mul_of_nonneg_right (by lia) (by lia);rw[Int.add_mul,Int.one_mul] at h2;unfold er
 lia
def jW(f g:Rat)(k:Nat):Rat:=(nQ f g).getD k 0
def fJ(C:Int->Rat)(fr n i j:Int)(f g:Rat):Nat->Int->Rat
 | 0,q=>C q
 | m+1,q=>if q=er fr n i j m then jW f g m+fJ C fr n i j f g m q else fJ C fr n i j f g m q
def FX(sc pc lc rc:List AV)(E:iO):Hp:=[(4,.cells ycO ycO ycO 10 rc),(3,.cells ycO ycO ycO 8 lc),(2,.mp ycO (lH E) (eP E)),(1,.cells ycO ycO ycO 2 pc),(0,.cells ycO ycO ycO 3 sc)]
def aCA(h:Vl P L){i j:Int}{f g:Rat}(hv:EQ v i j f g)(hi:0<=i/\i<n)(hj:0<=j/\j<n)(hn:n<=1000)(iz:0<=fr/\fr<=1000000)(kf:Hq K f)(kg:Hq K g)(hK:B+8*K+40<=1000000000){cs:List AV}(dA:QL cs (nQ f g))(QJ rH:Int){l3:AV}{lv:AV}(ln li:Int)(QK:aP lv=ycO){c3 c4:AV}(hvc:v=.agg [aa i,aa j,c1,c2,c3,c4,d1,d2,d3,d4]):
  cL P L [3,4,6,7,11,12,14,15,16,32,33,34,54,55] JJ (fun d st=>∃(m:Nat) (E:iO),m+d=4/\jO E (B+m*(2*K+7)) (fJ C fr n i j f g m)/\aD (eP E)=ycO/\st=⟨[(3,aa QJ),(4,aa rH),(6,.ptr 0 0),(7,.ptr 1 0),(11,.map 2),(12,aa fr),(14,.ptr 3 0),(15,aa n),(16,.ptr 4 0),(32,lv),(33,aa ln),(34,aa li),(54,.agg cs),(55,aa m)],FX [a1,a2,a3] [p1,p2] [l0,l1,l2,l3,l4,l5,l6,l7] [aa i,aa j,c1,c2,c3,c4,d1,d2,d3,d4] E,5,0⟩) (fun ex s'=>∃tm ct E,s'=⟨tm,FX [a1,a2,a3] [p1,p2] [l0,l1,l2,l3,l4,l5,l6,l7] [aa i,aa j,c1,c2,c3,c4,d1,d2,d3,d4] E,ct,0⟩/\ct=5/\jO E (B+4*(2*K+7)) (fJ C fr n i j f g 4)/\aD (eP E)=ycO/\ex=.exit 2/\ab tm 3=aa QJ/\ab tm 4=aa rH/\ab tm 6=.ptr 0 0/\ab tm 7=.ptr 1 0/\ab tm 11=.map 2/\ab tm 12=aa fr/\ab tm 14=.ptr 3 0/\ab tm 15=aa n/\ab tm 32=lv/\ab tm 33=aa ln/\ab tm 34=aa li):=by
 apply cP;rintro d st ⟨m,E,VJ,hM,gF,rfl⟩;by_cases hm:m<4
 .left
  have pW:aP (.agg cs)=ycO:=by simp only[aP,dA.pu]
  have⟨x1,x2,x3,x4,e1,hx⟩:=dA.Dv (n:=4) rfl hm;have fA:bE (.agg [x1,x2,x3,x4]) (jW f g m):=by
   unfold jW;rw[yW,xz (show m<(nQ f g).length from hm),vQ];exact hx
  have kw:Hq (2*K+6) (jW f g m):=by
   unfold jW;rw[yW,xz (show m<(nQ f g).length from hm),vQ];exact Tf kf kg _ (yy _)
  have e2:=am7 h.Vp h.Ks hv (k:=(m:Int)) (n:=n) hi hj (by lia) (by lia) (by lia);have gx:=hx.f4;have cb:=TX (fr:=fr) (i:=i) (j:=j) (n:=n) (by lia) hn iz.1 m;have nn:n*n<=1000*1000:=ybf hn hn (by lia) (by lia);have r1:=wV (i+(m:Int)%2) (show n≠0 by lia);have r2:=wU (i+(m:Int)%2) (show 0<n by lia);have rn:0<=(j+(m:Int)/2)%n*n:=tk (wV _ (by lia)) (by lia);have BN:fr+(j+(m:Int)/2)%n*n+(i+(m:Int)%2)%n=er fr n i j m:=rfl;subst hvc;have⟨_,_,_,_,_,_,_,_,hve,_,_,bx,fz⟩:=hv.gen;obtain⟨rfl,rfl,rfl,rfl,rfl,rfl,rfl,rfl⟩:=by simpa using hve
  have⟨px1,px2,px3,px4⟩:=gx.qS;have hk:∀o5:Obj,oc ((5,o5)::FX [a1,a2,a3] [p1,p2] [l0,l1,l2,l3,l4,l5,l6,l7] [aa i,aa j,c1,c2,c3,c4,d1,d2,d3,d4] E) (aa (er fr n i j m)) (.map 2)=Ix (ie E (er fr n i j m)):=fun o5=>SN _ rfl
  unfold FX at hk;have step:∀(y:AV),bE y (jW f g m+fJ C fr n i j f g m (er fr n i j m))->Hq (B+(m+1)*(2*K+7)) (jW f g m+fJ C fr n i j f g m (er fr n i j m))->jO (mh E (er fr n i j m) y) (B+(m+1)*(2*K+7)) (fJ C fr n i j f g (m+1)):=fun y hy ky=>
   (hM.mono (by rw[xU];lia)).set (C':=fJ C fr n i j f g (m+1)) (by show bE y (if _ then _ else _);rw[yK rfl];exact hy) (by show Hq _ (if _ then _ else _);rw[yK rfl];exact ky) (fun q hq=>yx hq)
  have mm:m*(2*K+7)<=3*(2*K+7):=yR _ (by lia);have mE:=hM (er fr n i j m);unfold ah at e2
  cases hg:ie E (er fr n i j m) with
  | none=>
   rw[hg] at mE;simp only[hg] at hk;have aK:=step _ (by rw[show fJ C fr n i j f g m (er fr n i j m)=0 from mE,ycx];exact fA) (by rw[show fJ C fr n i j f g m (er fr n i j m)=0 from mE,ycx];exact kw.mono (by rw[xU];lia))
   simp only[go_sem,ya,yb,JJ,FX,show (m:Int)<4 by lia,yo,nR (show (0:Int)<=(m:Int) by lia),xx,e1,aG,gx.st,Jw,gO,fz,e2,r9,wrap64 (n:=(j+(m:Int)/2)%n*n) (by lia) (by lia),wrap64 (n:=fr+(j+(m:Int)/2)%n*n) (by lia) (by lia),BN,wrap64 (n:=er fr n i j m) (by lia) (by lia),Ey (n:=er fr n i j m),TW (hk _),WY,ZJ (id:=2) (E:=E) (n:=er fr n i j m),yh];have Bg:aD (eP (mh E (er fr n i j m) (AV.agg [x1,x2,x3,x4])))=ycO:=Yz gF gx.pu;refine⟨_,d-1,rfl,by lia,m+1,_,by lia,aK,Bg,?_⟩
   rw[show (m:Int)+1=((m+1:Nat):Int) from rfl,wrapN (n:=m+1) (by lia)];simp only[go_sem,ya,yb,ao,mA,mD,nh,nc Bg,ni _ Bg,aj QK,aj pW]<;>rfl
  | some u=>
   rw[hg] at mE;simp only[hg] at hk;have⟨hu,ku⟩:=mE;have ku':Hq (B+m*(2*K+7)) (fJ C fr n i j f g m (er fr n i j m)):=ku;have⟨y,e3,hy⟩:=FL h.toFr' fA hu (K:=1000000000) (kw.mono (by lia)) (ku'.mono (by lia)) (by decide);have aK:=step y hy ((kw.add ku').mono (by rw[xU];lia))
   obtain⟨u1,u2,u3,u4,rfl,gu⟩:=hu.gen;obtain⟨y1,y2,y3,y4,rfl,gy⟩:=hy.gen;unfold ah at e3
   simp only[go_sem,ya,yb,JJ,FX,show (m:Int)<4 by lia,yo,nR (show (0:Int)<=(m:Int) by lia),xx,e1,aG,gx.st,Jw,gO,fz,e2,r9,wrap64 (n:=(j+(m:Int)/2)%n*n) (by lia) (by lia),wrap64 (n:=fr+(j+(m:Int)/2)%n*n) (by lia) (by lia),BN,wrap64 (n:=er fr n i j m) (by lia) (by lia),Ey (n:=er fr n i j m),TV (hk _),gu.st,gx.af,gu.af,e3,bf,gy.st,ZJ (id:=2) (E:=E) (n:=er fr n i j m),yh];have Bg:aD (eP (mh E (er fr n i j m) (AV.agg [y1,y2,y3,y4])))=ycO:=Yz gF gy.pu;refine⟨_,d-1,rfl,by lia,m+1,_,by lia,aK,Bg,?_⟩
   rw[show (m:Int)+1=((m+1:Nat):Int) from rfl,wrapN (n:=m+1) (by lia)];simp only[go_sem,ya,yb,ao,mA,mD,nh,nc Bg,ni _ Bg,aj QK,aj pW]<;>rfl
 .right
  have h4:m=4:=by lia
  subst h4;simp only[go_sem,ya,JJ,show ¬((4:Nat):Int)<4 by decide,yp];exact⟨_,_,rfl,by simp,_,_,E,rfl,rfl,hM,gF,rfl,rfl,rfl,rfl,rfl,rfl,rfl,rfl,rfl,rfl,rfl,rfl⟩
end
def aFz(a b c d e f g i:AV):xK 3 [a,b,c,d,e,f,g,i]=[d,e,f,g,i]:=rfl
def jO.bd{E:iO}(h:jO E K C)(hK:2<=K)(j:Int):Hq K (C j):=by
 have:=h j
 cases hm:ie E j with
 | none=>rw[hm] at this;rw[show C j=0 from this];exact B6.mono hK
 | some u=>rw[hm] at this;exact this.2
def ig(C:Int->Rat)(fr:Int)(S:Rat)(t:Nat)(q:Int):Rat:=if fr<=q/\q<fr+t then C q*S else C q
def aAJ(C:Int->Rat)(fr:Int)(S:Rat):ig C fr S 0=C:=by
 unfold ig
 grind
def Za(C:Int->Rat)(fr:Int)(S:Rat)(t:Nat):ig C fr S (t+1) (fr+t)=C (fr+t)*S:=yK (by lia)
def aiT(C:Int->Rat)(fr:Int)(S:Rat)(t:Nat):ig C fr S t (fr+t)=C (fr+t):=yx (by lia)
def aiU(C:Int->Rat)(fr:Int)(S:Rat)(t:Nat){q:Int}(h:q≠fr+t):ig C fr S (t+1) q=ig C fr S t q:=by
 unfold ig
 grind
def Ao(sc pc lc:List AV)(E:iO):Hp:=[(3,.cells ycO ycO ycO 8 lc),(2,.mp ycO (lH E) (eP E)),(1,.cells ycO ycO ycO 2 pc),(0,.cells ycO ycO ycO 3 sc)]
def aCB(h:Sp P L){n:Int}(hN:n*n=N)(hn:0<=n/\n<=1000)(iz:0<=fr/\fr<=1000000)(hB:2<=B)(hK:B+2400<=1000000000)(hC:∀q,Hq B (C q))(QJ rH:Int){st:List Nat}(cst:aM st=0){lv:AV}(ln li:Int)(QK:aP lv=ycO):
  cL P L [3,4,6,7,11,12,14,15,32,33,34,89,90] EH (fun d s=>∃(t:Nat) (E:iO),t+d=N/\jO E (B+2400) (ig C fr (aI st) t)/\aD (eP E)=ycO/\s=⟨[(3,aa QJ),(4,aa rH),(6,.ptr 0 0),(7,.ptr 1 0),(11,.map 2),(12,aa fr),(14,.ptr 3 0),(15,aa n),(32,lv),(33,aa ln),(34,aa li),(89,aa N),(90,aa t)],Ao [a1,a2,a3] [p1,p2] [l0,l1,l2,.str st,l4,l5,l6,l7] E,4,0⟩) (fun ex s'=>∃tm ct E,s'=⟨tm,Ao [a1,a2,a3] [p1,p2] [l0,l1,l2,.str st,l4,l5,l6,l7] E,ct,0⟩/\jO E (B+2400) (ig C fr (aI st) N)/\aD (eP E)=ycO/\ex=.exit 4/\ab tm 3=aa QJ/\ab tm 4=aa rH/\ab tm 6=.ptr 0 0/\ab tm 7=.ptr 1 0/\ab tm 11=.map 2/\ab tm 12=aa fr/\ab tm 15=aa n/\ab tm 32=lv/\ab tm 33=aa ln/\ab tm 34=aa li):=by
 apply cP;have nn:n*n<=1000*1000:=ybf hn.2 hn.2 hn.1 (by omega);rintro d s ⟨t,E,htd,hM,gF,rfl⟩;by_cases ht:t<N
 .left
  have hk:oc (Ao [a1,a2,a3] [p1,p2] [l0,l1,l2,.str st,l4,l5,l6,l7] E) (aa (fr+t)) (.map 2)=Ix (ie E (fr+t)):=SN _ rfl;unfold Ao at hk;have mE:=hM (fr+t)
  cases hg:ie E (fr+t) with
  | none=>
   rw[hg] at mE;simp only[hg] at hk;have e0:ig C fr (aI st) t (fr+t)=0:=mE;rw[aiT] at e0;have hM':jO E (B+2400) (ig C fr (aI st) (t+1)):=fun q=>by
    by_cases hq:q=fr+t
    .rw [hq,hg];show ig C fr (aI st) (t+1) (fr+t)=0;rw[Za,e0,ybN]
    .rw [aiU _ _ _ _ hq];exact hM q
   simp only[go_sem,ya,yb,EH,Ao,show (t:Int)<N by omega,wrap64 (n:=fr+t) (by omega) (by omega),Ey (n:=fr+t),TW hk,WY,aG];refine⟨_,d-1,rfl,by omega,t+1,E,by omega,hM',gF,?_⟩
   rw[show (t:Int)+1=((t+1:Nat):Int) from rfl,wrapN (n:=t+1) (by omega)];simp only[go_sem,ya,yb,ao,mA,mD,nh,nc gF,ni _ gF,aj QK]<;>rfl
  | some u=>
   rw[hg] at mE;simp only[hg] at hk;obtain⟨hu,-⟩:=mE;have hu:bE u (C (fr+t)):=by rw[<-aiT C fr (aI st) t];exact hu
   obtain⟨z,e1,hz⟩:=AW h cst;obtain⟨y,e2,hy⟩:=zb h.toFr' hu hz (K:=1000000000) ((hC _).mono (by omega)) ((mB cst (ym 2400)).mono (by decide)) (by decide);have hM':jO (mh E (fr+t) y) (B+2400) (ig C fr (aI st) (t+1)):=hM.set (by rw[Za];exact hy) (by rw[Za];exact (hC _).mul (mB cst (ym 2400))) (fun q hq=>aiU _ _ _ _ hq)
   obtain⟨u1,u2,u3,u4,rfl,gu⟩:=hu.gen;obtain⟨z1,z2,z3,z4,rfl,gz⟩:=hz.gen;obtain⟨y1,y2,y3,y4,rfl,gy⟩:=hy.gen
   simp only[go_sem,ya,yb,EH,Ao,show (t:Int)<N by omega,wrap64 (n:=fr+t) (by omega) (by omega),Ey (n:=fr+t),TV hk,gu.st,aG,gO,aZ,yd,aFz,e1,gu.af,gz.af,e2,bf,ZJ (id:=2) (E:=E) (n:=fr+t),yh];have Bg:aD (eP (mh E (fr+t) (AV.agg [y1,y2,y3,y4])))=ycO:=Yz gF gy.pu;refine⟨_,d-1,rfl,by omega,t+1,_,by omega,hM',Bg,?_⟩
   rw[show (t:Int)+1=((t+1:Nat):Int) from rfl,wrapN (n:=t+1) (by omega)];simp only[go_sem,ya,yb,ao,mA,mD,nh,nc Bg,ni _ Bg,aj QK]<;>rfl
 .right
  have h4:t=N:=by omega
  subst h4;simp only[go_sem,ya,EH,show ¬(t:Int)<t by omega,yp];exact⟨_,_,rfl,by simp,_,_,E,rfl,hM,gF,rfl,by simp only[go_sem,ya],by simp only[go_sem,ya],by simp only[go_sem,ya],by simp only[go_sem,ya],by simp only[go_sem,ya],by simp only[go_sem,ya],by simp only[go_sem,ya],by simp only[go_sem,ya],by simp only[go_sem,ya],by simp only[go_sem,ya]⟩
section
variable {l:List Lay}{dx dy sh x y:List Nat}
noncomputable def Ha(dx dy sh x y:List Nat)(fr:Int)(p:Int×(Int->Rat))(a:Lay):Int×(Int->Rat):=
 (p.1+(a.s.length:Int)*a.s.length,
  ig (if Lay.low sh a=ycO then fJ p.2 p.1 a.s.length ((dO a.hh a.sc a.ox a.wx dx sh x fr).floor%a.s.length) ((dO a.hh a.sc a.oy a.wy dy sh y fr).floor%a.s.length) (iA (dO a.hh a.sc a.ox a.wx dx sh x fr)) (iA (dO a.hh a.sc a.oy a.wy dy sh y fr)) 4 else p.2) p.1 (aI a.st) (a.s.length*a.s.length))
noncomputable def dz(dx dy sh x y:List Nat)(fr:Int)(l:List Lay):Int×(Int->Rat):=l.foldl (Ha dx dy sh x y fr) (0,fun _=>0)
def Gd{i:Nat}(h:i<l.length):dz dx dy sh x y fr (l.take (i+1))=Ha dx dy sh x y fr (dz dx dy sh x y fr (l.take i)) l[i]:=by
 rw[yk h];simp only[dz,tQ,yae,yat]
def aiV{dx dy sh x y:List Nat}{fr:Int}{l:List Lay}(h:∀a,a∈l->a.s.length<=16):∀i,i<=l.length->0<=(dz dx dy sh x y fr (l.take i)).1/\(dz dx dy sh x y fr (l.take i)).1<=256*(i:Int)
 | 0,_=>by simp[dz]
 | i+1,hi=>by
  have ih:=aiV (dx:=dx) (dy:=dy) (sh:=sh) (x:=x) (y:=y) (fr:=fr) h i (by lia);rw[Gd (by lia)];have h1:=h _ (yy (show i<l.length by lia));have h2:l[i].s.length*l[i].s.length<=16*16:=xo h1 h1;show 0<=(dz dx dy sh x y fr (l.take i)).1+(l[i].s.length:Int)*l[i].s.length/\_
  show _/\(dz dx dy sh x y fr (l.take i)).1+((l[i].s.length*l[i].s.length:Nat):Int)<=_
  lia
def Kv(sc pc:List AV)(E:iO):Hp:=[(2,.mp ycO (lH E) (eP E)),(1,.cells ycO ycO ycO 2 pc),(0,.cells ycO ycO ycO 3 sc)]
def axN{i j:Int}{f g:Rat}{c3 c4:AV}(h:EQ (.agg [aa i,aa j,c1,c2,c3,c4,d1,d2,d3,d4]) i j f g)(hp:Hp)(ct id:Nat)(x0 x1 x2 x3 x4 x5 x6 x7 x8 x9:AV):fN hp ct id 0 10 [aa i,aa j,c1,c2,c3,c4,d1,d2,d3,d4] (Ix (.cells ycO ycO ycO 10 [x0,x1,x2,x3,x4,x5,x6,x7,x8,x9]))=Ix (.ax [],aV hp id (.cells ycO ycO ycO 10 [aa i,aa j,c1,c2,c3,c4,d1,d2,d3,d4]),ct):=by
 have⟨_,_,_,_,_,_,_,_,hve,hf,hg⟩:=h;obtain⟨rfl,rfl,rfl,rfl,rfl,rfl,rfl,rfl⟩:=by simpa using hve
 have gf:=hf.f4;have gg:=hg.f4;have⟨Qz,QA,QB,QC⟩:=gf.qS;have⟨QD,QE,QF,QG⟩:=gg.qS;rw[mb (by rfl) (by simp) (by simp[bP,I0,gf.o1,gf.o2,gf.o3,gf.o4,gg.o1,gg.o2,gg.o3,gg.o4])];simp[aD,GQ,Qz,QA,QB,QC,QD,QE,QF,QG,over]
set_option maxHeartbeats 1000000 in
theorem aCC(h:Lp P L)(hv:fb v l)(hl:l.length<=4)(ok:∀a,a∈l->a.Ok dx dy sh x y fr)(rH:Int):
  cL P L [3,4,6,7,11,12,32,33,34] JK (fun d s=>∃(i:Nat) (E:iO),i+d=l.length/\jO E (2+i*400000) (dz dx dy sh x y fr (l.take i)).2/\aD (eP E)=ycO/\s=⟨[(3,aa fr),(4,aa rH),(6,.ptr 0 0),(7,.ptr 1 0),(11,.map 2),(12,aa (dz dx dy sh x y fr (l.take i)).1),(32,v),(33,aa l.length),(34,aa i)],Kv [.str dx,.str dy,.str sh] [.str x,.str y] E,3,0⟩) (fun ex s'=>∃tm ct E,s'=⟨tm,Kv [.str dx,.str dy,.str sh] [.str x,.str y] E,ct,0⟩/\jO E 1700000 (dz dx dy sh x y fr l).2/\aD (eP E)=ycO/\ex=.exit 0/\ab tm 4=aa rH/\ab tm 11=.map 2):=by
 apply cP;rintro d s ⟨i,E,hid,hM,gF,rfl⟩;by_cases hi:i<l.length
 .left
  obtain⟨rest,e1⟩:=hv.aT hi;have hI:=hv.get hi;have cN:=ok _ (yy hi);have hS:=ZI hI cN.scr;have n0:=hS.pos;have n1:=hS.le;have bfr:=aiV (dx:=dx) (dy:=dy) (sh:=sh) (x:=x) (y:=y) (fr:=fr) (l:=l) (fun a ha=>(ZI (hv.2 a ha) (ok a ha).scr).le) i (by omega);have hf:=X1 cN.fr;obtain⟨a,e2,ha⟩:=AW h.toSp cN.hh;have e3:=m63 h.toSp (x:=dx) (y:=dy) cN.sh ha (mB cN.hh (ym 2400)) (by decide);rw[show N4 (aI sh) (aI l[i].hh)=Lay.low sh l[i] from rfl] at e3;have aK:=Gd (dx:=dx) (dy:=dy) (sh:=sh) (x:=x) (y:=y) (fr:=fr) hi;have h3:(l[i].s.length:Int)*l[i].s.length=((l[i].s.length*l[i].s.length:Nat):Int):=(xS _ _).symm;have h2:l[i].s.length*l[i].s.length<=16*16:=xo n1 n1
  have bm:(dz dx dy sh x y fr (l.take (i+1))).1=(dz dx dy sh x y fr (l.take i)).1+((l[i].s.length*l[i].s.length:Nat):Int):=by rw[aK,<-h3];rfl
  obtain⟨a1,a2,a3,a4,rfl,ga⟩:=ha.gen;have o1:=hI.one;have p1:=hI.pu;unfold mr at e3;unfold ah at e2 e3;have fin:∀(E1:iO) (C1:Int->Rat) (B1:Nat),jO E1 B1 C1->aD (eP E1)=ycO->2<=B1->B1+2400<=2+(i+1)*400000->(dz dx dy sh x y fr (l.take (i+1))).2=ig C1 (dz dx dy sh x y fr (l.take i)).1 (aI l[i].st) (l[i].s.length*l[i].s.length)->∀s1,bW [3,4,6,7,11,12,14,15,32,33,34,89,90] s1=⟨[(3,aa fr),(4,aa rH),(6,.ptr 0 0),(7,.ptr 1 0),(11,.map 2),(12,aa (dz dx dy sh x y fr (l.take i)).1),(14,.ptr 3 0),(15,aa l[i].s.length),(32,v),(33,aa l.length),(34,aa i),(89,aa ((l[i].s.length*l[i].s.length:Nat):Int)),(90,aa ((0:Nat):Int))],Ao [.str dx,.str dy,.str sh] [.str x,.str y] [l[i].w,.str l[i].hh,.str l[i].sc,.str l[i].st,.str l[i].ox,.str l[i].oy,.str l[i].wx,.str l[i].wy] E1,4,0⟩->
    ∃ex s',D P L (.loop [3,4,6,7,11,12,14,15,32,33,34,89,90] EH) s1=Ix (ex,s')/\∃tm ct E,s'=⟨tm,Ao [.str dx,.str dy,.str sh] [.str x,.str y] [l[i].w,.str l[i].hh,.str l[i].sc,.str l[i].st,.str l[i].ox,.str l[i].oy,.str l[i].wx,.str l[i].wy] E,ct,0⟩/\jO E (2+(i+1)*400000) (dz dx dy sh x y fr (l.take (i+1))).2/\aD (eP E)=ycO/\ex=.exit 4/\ab tm 3=aa fr/\ab tm 4=aa rH/\ab tm 6=.ptr 0 0/\ab tm 7=.ptr 1 0/\ab tm 11=.map 2/\ab tm 12=aa (dz dx dy sh x y fr (l.take i)).1/\ab tm 15=aa l[i].s.length/\ab tm 32=v/\ab tm 33=aa l.length/\ab tm 34=aa i:=by
   intro E1 C1 B1 WZ hp hB hB2 hC s1 pz;obtain⟨ex,s',q1,tm,ct,E2,q2,q3,q⟩:=aCB h.toSp (n:=(l[i].s.length:Int)) (N:=l[i].s.length*l[i].s.length) (B:=B1) h3 (by omega) (fr:=(dz dx dy sh x y fr (l.take i)).1) (by omega) hB (by omega) (fun q=>WZ.bd hB q) fr rH (a1:=.str dx) (a2:=.str dy) (a3:=.str sh) (p1:=.str x) (p2:=.str y) (l0:=l[i].w) (l1:=.str l[i].hh) (l2:=.str l[i].sc) (l4:=.str l[i].ox) (l5:=.str l[i].oy) (l6:=.str l[i].wx) (l7:=.str l[i].wy) cN.st (lv:=v) l.length i hv.pu (l[i].s.length*l[i].s.length) s1 ⟨0,E1,by omega,by rw[aAJ];exact WZ.mono (by omega),hp,pz⟩
   exact⟨ex,s',q1,tm,ct,E2,q2,by rw[hC];exact q3.mono hB2,q⟩
  cases hb:Lay.low sh l[i] with
  | false=>
   rw[hb] at e3;have hC:(dz dx dy sh x y fr (l.take (i+1))).2=ig (dz dx dy sh x y fr (l.take i)).2 (dz dx dy sh x y fr (l.take i)).1 (aI l[i].st) (l[i].s.length*l[i].s.length):=by
    rw[aK];unfold Ha;rw[hb];rfl
   have f1:=fin E _ (2+i*400000) hM gF (by omega) (by rw[xU];omega) hC
   simp only[go_sem,ya,yb,JK,Kv,show (i:Int)<l.length by omega,e1,z7,aG,Ev hI,hI.len,aZ,yd,cD,yh,kP,a7,e2,bf,ga.af,e3,h3,wrap64 (n:=((l[i].s.length*l[i].s.length:Nat):Int)) (by omega) (by omega)];generalize hq:D P L (.loop _ EH) _=q;obtain⟨ex,st,rfl,tm,ct,E2,rfl,zn,ff,rfl,t3,t4,t6,t7,t11,t12,t15,t32,t33,t34⟩:=bg hq f1 (by simp only[go_sem,ya,yb,ao,Ao,mA,mD,nh,nc gF,ni _ gF,aj hv.pu]<;>rfl)
   simp only[go_sem,ya,yb,ao,Ao,mA,mD,nh,nc ff,ni _ ff,aj hv.pu,t3,t4,t6,t7,t11,t12,t15,t32,t33,t34,h3,wrap64 (n:=((l[i].s.length*l[i].s.length:Nat):Int)) (by omega) (by omega),<-bm];refine⟨_,d-1,rfl,by omega,i+1,E2,by omega,zn,ff,?_⟩
   rw[show (i:Int)+1=((i+1:Nat):Int) from rfl,wrapN (n:=i+1) (by omega),wrap64 (by omega) (by omega)];simp only[go_sem,ya,yb,ao,mA,mD,nh,nc ff,ni _ ff,aj hv.pu]<;>rfl
  | true=>
   rw[hb] at e3;have⟨b,e4,Wu⟩:=am5 h.toSp h.Vn (scr:=l[i].w) (st:=.str l[i].st) (fr:=fr) o1 p1 rfl rfl cN.dx cN.dy cN.sh cN.hh cN.sc cN.ox cN.oy cN.wx cN.wy cN.x cN.y (by lia) (by lia);have⟨c,e5,hc⟩:=m55 h.toVl.toFr' h.Mr h.HB h.Dm (s:=(l[i].s.length:Int)) Wu cN.kX cN.kY (by lia) (by lia) (by lia) (by lia);have q1:=wV (dO l[i].hh l[i].sc l[i].ox l[i].wx dx sh x fr).floor (show (l[i].s.length:Int)≠0 by lia);have q2:=wU (dO l[i].hh l[i].sc l[i].ox l[i].wx dx sh x fr).floor (show (0:Int)<l[i].s.length by lia);have q3:=wV (dO l[i].hh l[i].sc l[i].oy l[i].wy dy sh y fr).floor (show (l[i].s.length:Int)≠0 by lia);have q4:=wU (dO l[i].hh l[i].sc l[i].oy l[i].wy dy sh y fr).floor (show (0:Int)<l[i].s.length by lia);have kf:=EP cN.kX (by lia);have kg:=EP cN.kY (by lia)
   have⟨W,e6,hW⟩:=am6 h.toVl.toFr' h.Vo hc kf kg (by lia);obtain⟨cs,rfl,dA⟩:=hW;have iy:=hc;obtain⟨b1',b2,b3,b4,b5,b6,b7,b8,rfl,gb⟩:=Wu.gen;obtain⟨c1,c2,c3,c4,d1,d2,d3,d4,rfl,_,_,bx,fz⟩:=hc.gen;have hC:(dz dx dy sh x y fr (l.take (i+1))).2=ig (fJ (dz dx dy sh x y fr (l.take i)).2 (dz dx dy sh x y fr (l.take i)).1 l[i].s.length ((dO l[i].hh l[i].sc l[i].ox l[i].wx dx sh x fr).floor%l[i].s.length) ((dO l[i].hh l[i].sc l[i].oy l[i].wy dy sh y fr).floor%l[i].s.length) (iA (dO l[i].hh l[i].sc l[i].ox l[i].wx dx sh x fr)) (iA (dO l[i].hh l[i].sc l[i].oy l[i].wy dy sh y fr)) 4) (dz dx dy sh x y fr (l.take i)).1 (aI l[i].st) (l[i].s.length*l[i].s.length):=by
    rw[aK];unfold Ha;rw[hb];rfl
   have pW:aP (.agg cs)=ycO:=by simp only[aP,dA.pu]
   have f0:=aCA h.toVl iy ⟨q1,q2⟩ ⟨q3,q4⟩ (by lia) (fr:=(dz dx dy sh x y fr (l.take i)).1) (by lia) kf kg (B:=2+i*400000) (by lia) dA (C:=(dz dx dy sh x y fr (l.take i)).2) fr rH (a1:=.str dx) (a2:=.str dy) (a3:=.str sh) (p1:=.str x) (p2:=.str y) (l0:=l[i].w) (l1:=.str l[i].hh) (l2:=.str l[i].sc) (l3:=.str l[i].st) (l4:=.str l[i].ox) (l5:=.str l[i].oy) (l6:=.str l[i].wx) (l7:=.str l[i].wy) (lv:=v) l.length i hv.pu rfl 4;have sr:=axN iy;unfold mr qR at e4;unfold ah at e4 e5 e6;simp only[go_sem,ya,yb,JK,Kv,show (i:Int)<l.length by lia,e1,z7,aG,Ev hI,hI.len,hI.af,aZ,yd,cD,yh,kP,gH,Jy,Jw,a7,e2,bf,ga.af,e3,e4,gb.af,e5,sr,fz,e6];generalize hq:D P L (.loop _ JJ) _=q
   obtain⟨ex,st,rfl,tm,ct,E1,rfl,rfl,WZ,Px,rfl,t3,t4,t6,t7,t11,t12,t14,t15,t32,t33,t34⟩:=bg hq f0 ⟨0,E,by lia,by simpa[fJ] using hM,gF,by simp only[go_sem,ya,yb,ao,FX,mA,mD,nh,nc gF,ni _ gF,aj hv.pu,aj pW]<;>rfl⟩
   have f1:=fin E1 _ (2+i*400000+352036) (WZ.mono (by omega)) Px (by omega) (by rw[xU];omega) hC
   simp only[go_sem,ya,yb,ao,FX,mA,mD,nh,nc Px,ni _ Px,aj hv.pu,t3,t4,t6,t7,t11,t12,t14,t15,t32,t33,t34,h3,wrap64 (n:=((l[i].s.length*l[i].s.length:Nat):Int)) (by lia) (by lia)];generalize hq:D P L (.loop _ EH) _=q;obtain⟨ex,st,rfl,tm,ct,E2,rfl,zn,ff,rfl,t3,t4,t6,t7,t11,t12,t15,t32,t33,t34⟩:=bg hq f1 (by simp only[go_sem,ya,yb,ao,Ao,mA,mD,nh,nc Px,ni _ Px,aj hv.pu]<;>rfl)
   simp only[go_sem,ya,yb,ao,Ao,mA,mD,nh,nc ff,ni _ ff,aj hv.pu,t3,t4,t6,t7,t11,t12,t15,t32,t33,t34,h3,wrap64 (n:=((l[i].s.length*l[i].s.length:Nat):Int)) (by lia) (by lia),<-bm];refine⟨_,d-1,rfl,by lia,i+1,E2,by lia,zn,ff,?_⟩
   rw[show (i:Int)+1=((i+1:Nat):Int) from rfl,wrapN (n:=i+1) (by omega),wrap64 (by omega) (by omega)];simp only[go_sem,ya,yb,ao,mA,mD,nh,nc ff,ni _ ff,aj hv.pu]<;>rfl
 .right
  have h4:i=l.length:=by lia
  subst h4;rw[yq (ym _)] at hM;simp only[go_sem,ya,JK,show ¬(l.length:Int)<l.length by lia,yp];exact⟨_,_,rfl,by simp,_,_,E,rfl,hM.mono (by lia),gF,rfl,rfl,rfl⟩
end
def AY(C:Int->Rat)(n:Nat):List Rat:=(wO n).map fun q:Nat=>C (q:Int)
def ajQ(C:Int->Rat)(n:Nat):AY C (n+1)=AY C n++[C (n:Int)]:=by simp[AY,List.range_succ]
def Gi(C:Int->Rat)(n:Nat):(AY C n).length=n:=by simp[AY]
def aCD(h:Fr' P L){E:iO}(hM:jO E B C)(gF:aD (eP E)=ycO)(Mw:0<N)(hN:N<=1000000):
  cL P L [11,27,118,119] EI (fun d s=>∃t:Nat,t+d=N/\((t=0/\s=⟨[(11,.map 0),(27,.ae),(118,aa N),(119,aa t)],[(0,.mp ycO (lH E) (eP E))],1,0⟩)\/(0<t/\∃ps,QL ps (AY C t)/\s=⟨[(11,.map 0),(27,.av 1 0 t),(118,aa N),(119,aa t)],[(1,.cells ycO ycO ycP 4 ps),(0,.mp ycO (lH E) (eP E))],2,0⟩))) (fun ex s'=>∃tm hp ct ps,QL ps (AY C N)/\s'=⟨tm,hp,ct,0⟩/\ex=.exit 6/\ab tm 27=.av 1 0 N/\au hp 1=Ix (.cells ycO ycO ycP 4 ps)):=by
 apply cP;rintro d s ⟨t,htd,aK⟩;by_cases ht:t<N
 .left
  have mE:=hM (t:Int);obtain⟨z,e1,hz⟩:=DS h (z:=0) (by omega) (by omega);obtain⟨y1,y2,y3,y4,hy⟩:∃y1 y2 y3 y4,bE (.agg [y1,y2,y3,y4]) (C (t:Int))/\((ie E t=Iy/\ah P L 69 [aa 0] (.agg [y1,y2,y3,y4]))\/ie E t=Ix (.agg [y1,y2,y3,y4])):=by
   cases hg:ie E t with
   | none=>
    rw[hg] at mE;obtain⟨z1,z2,z3,z4,rfl,gz⟩:=hz.gen;exact⟨z1,z2,z3,z4,by rw[show C (t:Int)=0 from mE];exact hz,.inl ⟨rfl,e1⟩⟩
   | some u=>
    rw[hg] at mE;obtain⟨hu,-⟩:=mE;obtain⟨u1,u2,u3,u4,rfl,gu⟩:=hu.gen;exact⟨u1,u2,u3,u4,hu,.inr rfl⟩
  obtain⟨hy,sU⟩:=hy;have gy:=hy.f4;have mq:=hy;have bz:∀q,iH q [AV.int .i64 0,.ae,.int .i64 0,.ae] 0 4 [y1,y2,y3,y4] []=fill q [y1,y2,y3,y4] []:=fun q=>Jv gy.o1 gy.o2 gy.o3 gy.o4
  obtain⟨zi,zj,zk,zm⟩:=gy.qS;have pY:aD [y1,y2,y3,y4]=ycO:=by simp only[aD,zi,zj,zk,zm,xt]
  rcases aK with ⟨h0,rfl⟩ | ⟨h0,ps,dX,rfl⟩
  .subst h0;have hk:oc [(0,.mp ycO (lH E) (eP E))] (aa ((0:Nat):Int)) (.map 0)=Ix (ie E ((0:Nat):Int)):=SN _ rfl;rcases sU with ⟨hg,e2⟩ | hg
   .simp only [hg] at hk
    simp only[go_sem,ya,yb,yV,yA,yi,EI,show ((0:Nat):Int)<N by omega,yo,Ey (n:=((0:Nat):Int)),TW hk,aG,WY,e2,bf,gy.st,gO,bz,zi,zj,zk,zm,xt,oX,yh,eT];refine⟨_,d-1,rfl,by omega,1,by omega,.inr ⟨by omega,[y1,y2,y3,y4],by show QL _ [C ((0:Nat):Int)];exact⟨mq,trivial⟩,?_⟩⟩
    simp only[go_sem,ya,yb,ao,mA,mD,nh,nc gF,ni _ gF]<;>rfl
   .simp only [hg] at hk
    simp only[go_sem,ya,yb,yV,yA,yi,EI,show ((0:Nat):Int)<N by omega,yo,Ey (n:=((0:Nat):Int)),TV hk,aG,gy.st,gO,bz,zi,zj,zk,zm,xt,oX,yh,eT];refine⟨_,d-1,rfl,by omega,1,by omega,.inr ⟨by omega,[y1,y2,y3,y4],by show QL _ [C ((0:Nat):Int)];exact⟨mq,trivial⟩,?_⟩⟩
    simp only[go_sem,ya,yb,ao,mA,mD,nh,nc gF,ni _ gF]<;>rfl
  .have hk:oc [(1,.cells ycO ycO ycP 4 ps),(0,.mp ycO (lH E) (eP E))] (aa (t:Int)) (.map 0)=Ix (ie E (t:Int)):=SN _ rfl;have fR:ps.length=t*4:=by rw[dX.len,Gi]
   rcases sU with ⟨hg,e2⟩ | hg
   .simp only [hg] at hk
    simp only[go_sem,ya,yb,yV,EI,show (t:Int)<N by omega,yo,Ey (n:=(t:Int)),TW hk,aG,WY,e2,bf,gy.st,gO,bz,zi,zj,zk,zm,xt,oX,yh]
    rw[dZ (ex:=ycP) (pu:=ycO) (cs:=ps) (by simp only[go_sem,ya]) (by omega) (by omega) (by omega) (by decide) (by simp only[go_sem,gy.o1,gy.o2,gy.o3,gy.o4])];simp only[go_sem,ya,yb,pY];refine⟨_,d-1,rfl,by omega,t+1,by omega,.inr ⟨by omega,ps++[y1,y2,y3,y4],by rw[ajQ];exact dX.snoc mq,?_⟩⟩
    rw[show (t:Int)+1=((t+1:Nat):Int) from rfl,wrapN (n:=t+1) (by omega)];simp only[go_sem,ya,yb,ao,mA,mD,nh,nc gF,ni _ gF]<;>rfl
   .simp only [hg] at hk
    simp only[go_sem,ya,yb,yV,EI,show (t:Int)<N by omega,yo,Ey (n:=(t:Int)),TV hk,aG,gy.st,gO,bz,zi,zj,zk,zm,xt,oX,yh]
    rw[dZ (ex:=ycP) (pu:=ycO) (cs:=ps) (by simp only[go_sem,ya]) (by omega) (by omega) (by omega) (by decide) (by simp only[go_sem,gy.o1,gy.o2,gy.o3,gy.o4])];simp only[go_sem,ya,yb,pY];refine⟨_,d-1,rfl,by omega,t+1,by omega,.inr ⟨by omega,ps++[y1,y2,y3,y4],by rw[ajQ];exact dX.snoc mq,?_⟩⟩
    rw[show (t:Int)+1=((t+1:Nat):Int) from rfl,wrapN (n:=t+1) (by omega)];simp only[go_sem,ya,yb,ao,mA,mD,nh,nc gF,ni _ gF]<;>rfl
 .right
  have h4:t=N:=by omega
  subst h4;rcases aK with ⟨h0,rfl⟩ | ⟨h0,ps,dX,rfl⟩
  .omega
  .simp only [go_sem,ya,EI,show ¬(t:Int)<t by omega,yp];exact⟨_,_,rfl,by simp,_,_,_,ps,dX,rfl,rfl,by simp only[go_sem,ya],by simp only[go_sem]⟩
def m82(h:Lp P L)(Iq:Has P L 82 KS){l:List Lay}(hv:fb v l)(hl:l.length<=4){x y:List Nat}(ok:∀a,a∈l->a.Ok dx dy sh x y fr)(Mw:0<N)(hN:N<=1000000):
  ∃ps,ah P L 82 [v,mr dx dy sh,qR x y,aa fr,aa N] (.bR ycP 4 N ps)/\QL ps (AY (dz dx dy sh x y fr l).2 N):=by
 unfold ah;rw[aB Iq];simp only[go_sem,ya,yb,KS,aG,ajs,hv.len];generalize hq:D P L (.loop _ JK) _=q;obtain⟨ex,st,rfl,tm,ct,E,rfl,hM,gF,rfl,t4,t11⟩:=bg hq (aCC h hv hl ok (N:Int) l.length) ⟨0,[],by omega,by simpa[dz] using (jO.nil (K:=2)),rfl,by
  simp only[go_sem,ya,ao,Kv,mA,mD,aj hv.pu]<;>rfl⟩
 simp only[go_sem,ya,yb,ao,Kv,mA,mD,nh,nc gF,ni _ gF,t4,t11];generalize hq:D P L (.loop _ EI) _=q;obtain⟨ex,st,rfl,tm,hp,ct,ps,dX,rfl,rfl,t27,g1⟩:=bg hq (aCD h.toVl.toFr' hM gF Mw hN N) ⟨0,by omega,.inl ⟨rfl,by simp only[go_sem,ya,yb,ao,mA,mD,nh,nc gF,ni _ gF]<;>rfl⟩⟩
 refine⟨ps,?_,dX⟩;simp only[go_sem,yb,ao,t27,g1];exact mW (fq _ _ _) (by rw[dX.len,Gi]) (by decide)
abbrev dl:=List Nat×List Nat×List Nat
def Vt(p:dl):List AV:=[.str p.1,.str p.2.1,.str p.2.2]
def jP(v:AV)(l:List dl):Prop:=fC 3 v (l.map Vt)
def ZK(hp:Hp)(ct id:Nat)(a b c:List Nat)(x y z:AV):fN hp ct id 0 3 [.str a,.str b,.str c] (Ix (.cells ycO ycO ycO 3 [x,y,z]))=Ix (.ax [],aV hp id (.cells ycO ycO ycO 3 [.str a,.str b,.str c]),ct):=by
 rw[mb (by rfl) (by simp) (by rfl)];rfl
section
variable {v:AV}
def jP.len{l:List dl}(h:jP v l):fu hp 1 v=Ix (.int .i64 (l.length:Nat)):=by
 have:=fC.len (hp:=hp) h;rwa[yg] at this
def jP.pu{l:List dl}(h:jP v l):aP v=ycO:=fC.pu h
def jP.af{l:List dl}(h:jP v l)(n:Nat):freeze (n+1) hp v=Ix (v,hp):=fC.af h n
def jP.one{l:List dl}(h:jP v l):bF v=ycO:=fC.one h
def jP.aT{l:List dl}(h:jP v l){i:Nat}(hi:i<l.length):∃rest,iZ 3 i v=Ix (.aQ (.str l[i].1:: .str l[i].2.1:: .str l[i].2.2::rest)):=by
 have⟨rest,e⟩:=fC.aT h (i:=i) (by simpa using hi);refine⟨rest,?_⟩;rw[e,xm];rfl
end
def m79(h:Has P L 79 Wa){l:List Lay}(hv:fb v l)(hl:l.length<=1000000){g:Nat}(hc:aD cap=ycO)(hz:∀(n:Nat) (hp:Hp),cm (n+900) hp cap=Ix (cap,hp)){f:Lay->Int}(hg:∀a,a∈l->ah P L g (.agg (Lay.cs a)::cap) (aa (f a))):
  ∃r,ah P L 79 [v,.fn (.f g) [] cap] r/\bl (shut r) (l.map f):=by
 have pf:aP (.fn (.f g) [] cap)=ycO:=by simp[aP,aD,hc]
 have key:=dT P L [1,5,8,9,10] G6
  (fun k st=>∃i:Nat,i+k=l.length/\((i=0/\st=⟨[(1,.fn (.f g) [] cap),(5,.ae),(8,v),(9,aa l.length),(10,aa i)],[],0,0⟩)\/
   (0<i/\st=⟨[(1,.fn (.f g) [] cap),(5,.av 0 0 i),(8,v),(9,aa l.length),(10,aa i)],[(0,.cells ycO ycO ycP 1 (((l.take i).map f).map aa))],1,0⟩)))
  (fun ex st=>∃tm hp ct,st=⟨tm,hp,ct,0⟩/\ex=.exit 0/\((l.length=0/\ab tm 5=.ae)\/(0<l.length/\ab tm 5=.av 0 0 l.length/\au hp 0=Ix (.cells ycO ycO ycP 1 ((l.map f).map aa))))) ?_
 .unfold ah;rw[aB h];simp only[go_sem,ya,Wa,hv.len];generalize hq:D P L (.loop _ G6) _=q;obtain⟨ex,st,rfl,tm,hp,ct,rfl,rfl,h2⟩:=bg hq (key l.length) ⟨0,by lia,.inl ⟨rfl,by simp only[go_sem,ya,ao,aj hv.pu,aj pf]<;>rfl⟩⟩
  rcases h2 with ⟨h2,h3⟩ | ⟨h2,h3,h4⟩
  .refine ⟨.ae,by simp only[go_sem,ao,h3],?_⟩;rw[yu h2];exact mY
  .refine ⟨.bR ycP 1 l.length ((l.map f).map aa),?_,?_⟩
   .simp only [go_sem,yb,ao,h3,h4];exact mW (fq _ _ _) (by simp) (by decide)
   .have:=fZ ycP (l.map f)
    rwa[yg] at this
 .rintro k st ⟨i,hk,aK⟩;by_cases hi:i<l.length
  .have bD:(i:Int)<l.length:=by lia
   have⟨rest,e1⟩:=hv.aT hi;have e2:=hg _ (yy hi);have hS:=hv.get hi;unfold ah Lay.cs at e2;left
   rcases aK with ⟨h0,rfl⟩ | ⟨h0,rfl⟩
   .subst h0;simp only[go_sem,ya,yb,yV,yA,yi,yf,G6,show ((0:Nat):Int)<l.length from bD,e1,z7,aG,Ev hS,Jy,yh,a7,hS.af,hz,e2,eT];refine⟨_,k-1,rfl,by lia,1,by lia,.inr ⟨by lia,?_⟩⟩;rw[wrap64 (by lia) (by lia),yk hi];simp only[go_sem,ya,yb,ao,aj hv.pu,aj pf,vC,xy]<;>rfl
   .have hlen:(((l.take i).map f).map aa).length=i:=by simp;lia
    simp only[go_sem,ya,yb,yi,yf,G6,bD,e1,z7,aG,Ev hS,Jy,yh,a7,hS.af,hz,e2]
    rw[dZ (ex:=ycP) (pu:=ycO) (cs:=((l.take i).map f).map aa) rfl (by rw[hlen,yf]) (by lia) (by lia) (by decide) rfl];simp only[go_sem,ya,yb];refine⟨_,k-1,rfl,by lia,i+1,by lia,.inr ⟨by lia,?_⟩⟩;rw[wrap64 (by lia) (by lia),yk hi];simp only[go_sem,ya,yb,ao,aj hv.pu,aj pf,yX]<;>rfl
  .right
   rcases aK with ⟨h0,rfl⟩ | ⟨h0,rfl⟩
   .simp only [go_sem,ya,G6,show ¬(i:Int)<l.length by lia];refine⟨_,_,rfl,by simp,_,_,_,rfl,rfl,.inl ⟨by lia,?_⟩⟩;simp only[go_sem,ya]
   .simp only [go_sem,ya,G6,show ¬(i:Int)<l.length by lia];refine⟨_,_,rfl,by simp,_,_,_,rfl,rfl,.inr ⟨by lia,?_,?_⟩⟩
    .simp only [go_sem,ya];rw[show i=l.length by lia]
    .simp only [go_sem];rw[yq (by lia)]
def m77(h:Has P L 77 V9){l:List dl}(hv:jP v l)(hl:l.length<=1000000){g:Nat}(hc:aD cap=ycO)(hz:∀(n:Nat) (hp:Hp),cm (n+900) hp cap=Ix (cap,hp)){f:dl->Int}(hg:∀a,a∈l->ah P L g (.agg (Vt a)::cap) (aa (f a))):
  ∃r,ah P L 77 [v,.fn (.f g) [] cap] r/\bl (shut r) (l.map f):=by
 have pf:aP (.fn (.f g) [] cap)=ycO:=by simp[aP,aD,hc]
 have key:=dT P L [1,5,8,9,10] G5
  (fun k st=>∃i:Nat,i+k=l.length/\((i=0/\st=⟨[(1,.fn (.f g) [] cap),(5,.ae),(8,v),(9,aa l.length),(10,aa i)],[],0,0⟩)\/
   (0<i/\st=⟨[(1,.fn (.f g) [] cap),(5,.av 0 0 i),(8,v),(9,aa l.length),(10,aa i)],[(0,.cells ycO ycO ycP 1 (((l.take i).map f).map aa))],1,0⟩)))
  (fun ex st=>∃tm hp ct,st=⟨tm,hp,ct,0⟩/\ex=.exit 0/\((l.length=0/\ab tm 5=.ae)\/(0<l.length/\ab tm 5=.av 0 0 l.length/\au hp 0=Ix (.cells ycO ycO ycP 1 ((l.map f).map aa))))) ?_
 .unfold ah;rw[aB h];simp only[go_sem,ya,V9,hv.len];generalize hq:D P L (.loop _ G5) _=q;obtain⟨ex,st,rfl,tm,hp,ct,rfl,rfl,h2⟩:=bg hq (key l.length) ⟨0,by lia,.inl ⟨rfl,by simp only[go_sem,ya,ao,aj hv.pu,aj pf]<;>rfl⟩⟩
  rcases h2 with ⟨h2,h3⟩ | ⟨h2,h3,h4⟩
  .refine ⟨.ae,by simp only[go_sem,ao,h3],?_⟩;rw[yu h2];exact mY
  .refine ⟨.bR ycP 1 l.length ((l.map f).map aa),?_,?_⟩
   .simp only [go_sem,yb,ao,h3,h4];exact mW (fq _ _ _) (by simp) (by decide)
   .have:=fZ ycP (l.map f)
    rwa[yg] at this
 .rintro k st ⟨i,hk,aK⟩;by_cases hi:i<l.length
  .have bD:(i:Int)<l.length:=by lia
   have⟨rest,e1⟩:=hv.aT hi;have e2:=hg _ (yy hi);unfold ah Vt at e2;left
   rcases aK with ⟨h0,rfl⟩ | ⟨h0,rfl⟩
   .subst h0;simp only[go_sem,ya,yb,yV,yA,yi,yf,G5,show ((0:Nat):Int)<l.length from bD,e1,Fj,aG,ZK,kP,yh,a7,hz,e2,eT];refine⟨_,k-1,rfl,by lia,1,by lia,.inr ⟨by lia,?_⟩⟩;rw[wrap64 (by lia) (by lia),yk hi];simp only[go_sem,ya,yb,ao,aj hv.pu,aj pf,vC,xy]<;>rfl
   .have hlen:(((l.take i).map f).map aa).length=i:=by simp;lia
    simp only[go_sem,ya,yb,yi,yf,G5,bD,e1,Fj,aG,ZK,kP,yh,a7,hz,e2]
    rw[dZ (ex:=ycP) (pu:=ycO) (cs:=((l.take i).map f).map aa) rfl (by rw[hlen,yf]) (by lia) (by lia) (by decide) rfl];simp only[go_sem,ya,yb];refine⟨_,k-1,rfl,by lia,i+1,by lia,.inr ⟨by lia,?_⟩⟩;rw[wrap64 (by lia) (by lia),yk hi];simp only[go_sem,ya,yb,ao,aj hv.pu,aj pf,yX]<;>rfl
  .right
   rcases aK with ⟨h0,rfl⟩ | ⟨h0,rfl⟩
   .simp only [go_sem,ya,G5,show ¬(i:Int)<l.length by lia];refine⟨_,_,rfl,by simp,_,_,_,rfl,rfl,.inl ⟨by lia,?_⟩⟩;simp only[go_sem,ya]
   .simp only [go_sem,ya,G5,show ¬(i:Int)<l.length by lia];refine⟨_,_,rfl,by simp,_,_,_,rfl,rfl,.inr ⟨by lia,?_,?_⟩⟩
    .simp only [go_sem,ya];rw[show i=l.length by lia]
    .simp only [go_sem];rw[yq (by lia)]
def Zb{l:List Int}(hb:∀x,x∈l->0<=x/\x<=1000000):∀i,i<=l.length->0<=mg (l.take i)/\mg (l.take i)<=1000000*(i:Int)
 | 0,_=>by simp[mg]
 | i+1,hi=>by
  have ih:=Zb hb i (by lia);have h1:=hb _ (yy (show i<l.length by lia));rw[XR (by lia)]
  lia
def jR(l:List Lay):Int:=mg (l.map fun a=>(a.s.length:Int)*a.s.length)
def m81(h:Has P L 81 P4){a b:Int}(hb: -9223372036854775808<=a+b/\a+b<9223372036854775808):ah P L 81 [aa a,aa b] (aa (a+b)):=by
 unfold ah;rw[aB h]
 simp only[go_sem,ya,P4,wrap64 (n:=a+b) (by lia) (by lia)]
def m80(h:Has P L 80 Wb){a:Lay}(hS:ix a.w a.s)(hl:a.s.length<=1000):ah P L 80 [.agg a.cs] (aa ((a.s.length:Int)*a.s.length)):=by
 have o1:=hS.one;have p1:=hS.pu;have h3:(a.s.length:Int)*a.s.length=((a.s.length*a.s.length:Nat):Int):=(xS _ _).symm;have h2:a.s.length*a.s.length<=1000*1000:=xo hl hl;unfold Lay.cs ah;rw[aB h]
 simp only[go_sem,ya,yb,Wb,aG,o1,p1,hS.len,aZ,yd,yh,h3,wrap64 (n:=((a.s.length*a.s.length:Nat):Int)) (by lia) (by lia)]
def m37(Mq:Has P L 37 V2)(W0:Has P L 81 P4){w:AV}{l:List Int}(hw:bl w l)(hb:∀x,x∈l->0<=x/\x<=1000000)(hl:l.length<=1000):ah P L 37 [aa 0,w,.fn (.f 81) [] []] (aa (mg l)):=by
 have key:=dT P L [0,2,9,10,11] Ol
  (fun k s=>∃i:Nat,i+k=l.length/\s=⟨[(0,aa (mg (l.take i))),(2,.fn (.f 81) [] []),(9,w),(10,aa l.length),(11,aa i)],[],0,0⟩)
  (fun ex s=>∃tm hp ct,s=⟨tm,hp,ct,0⟩/\ex=.exit 0/\ab tm 0=aa (mg l)) ?_
 .unfold ah;rw[aB Mq];simp only[go_sem,ya,V2,hw.len];generalize hq:D P L (.loop _ Ol) _=q;obtain⟨ex,s,rfl,tm,hp,ct,rfl,rfl,t0⟩:=bg hq (key l.length) ⟨0,by lia,by
   rw[show mg (l.take 0)=0 from rfl]
   simp only[go_sem,ya,ao,aj hw.pu]<;>rfl⟩
  simp only[go_sem,ao,t0]
 .rintro k s ⟨i,hk,rfl⟩;have bi:=Zb hb i (by lia);by_cases hi:i<l.length
  .left
   have b2:=hb _ (yy hi);have e1:=m81 W0 (a:=mg (l.take i)) (b:=l[i]) (by lia);rw[<-XR hi] at e1;unfold ah at e1;simp only[go_sem,ya,Ol,show (i:Int)<l.length by lia,hw.aT hi,e1];refine⟨_,k-1,rfl,by lia,i+1,by lia,?_⟩;rw[wrap64 (by lia) (by lia)];simp only[go_sem,ya,ao,aj hw.pu]<;>rfl
  .right
   simp only[go_sem,ya,Ol,show ¬(i:Int)<l.length by lia];rw[yq (by lia)];exact⟨_,_,rfl,by simp,_,_,_,rfl,rfl,rfl⟩
def mO:List AV->AV
 | []=>.ae
 | _::r=>.av 0 0 (r.length+1)
def mP:List AV->AV
 | []=>.ptr 0 0
 | _::_=>.ptr 1 0
def mH(sc:List AV):List AV->Hp
 | []=>[(0,.cells ycO ycO ycO 3 sc)]
 | a::r=>[(1,.cells ycO ycO ycO 3 sc),(0,.cells ycO ycO ycP 1 (a::r))]
def mC:List AV->Nat
 | []=>1
 | _::_=>2
def nH:List AV->Hp
 | []=>[]
 | a::r=>[(0,.cells ycO ycO ycP 1 (a::r))]
def nC:List AV->Nat
 | []=>0
 | _::_=>1
def bZ.snoc{α β:Type}{p:α->β->Prop}:∀{l:List α} {m:List β} {a:α} {b:β},bZ p l m->p a b->bZ p (l++[a]) (m++[b])
 | [],[],_,_,_,h=>⟨h,trivial⟩
 | _::_,_::_,_,_,h,k=>⟨h.1,bZ.snoc h.2 k⟩
noncomputable def ji(l:List Lay)(fr:Int)(N:Nat)(s:dl)(p:cV):List Rat:=AY (dz s.1 s.2.1 s.2.2 p.1 p.2 fr l).2 N
def aCE(h:Lq P L)(Iq:Has P L 82 KS){w sv:AV}{l:List Lay}(hv:fb v l)(hl:l.length<=4){s:dl}{pl:List cV}(hw:jv w pl)(fR:pl.length<=256)(psv:aP sv=ycO)(ok:∀p,p∈pl->∀a,a∈l->a.Ok s.1 s.2.1 s.2.2 p.1 p.2 fr)(Mw:0<N)(hN:N<=64)(hK:∀p,p∈pl->∀q,Hq 1700000 ((dz s.1 s.2.1 s.2.2 p.1 p.2 fr l).2 q))(ns i:Int){M0:List (List (List Nat))}(hM0:M0.length<=100000):
  cL P L [0,2,3,11,12,14,69,70,71,75,76,77] G4 (fun d st=>∃(k:Nat) (rows:List AV),k+d=pl.length/\bZ bw rows (M0++(pl.take k).map fun p=>(ji l fr N s p).map RT)/\((pl.take k).any fun p=>(ji l fr N s p).any LG)=ycP/\st=⟨[(0,v),(2,w),(3,aa fr),(11,aa N),(12,mO rows),(14,mP rows),(69,sv),(70,aa ns),(71,aa i),(75,w),(76,aa pl.length),(77,aa k)],mH [.str s.1,.str s.2.1,.str s.2.2] rows,mC rows,0⟩) (fun ex s'=>∃tm hp ct,s'=⟨tm,hp,ct,0⟩/\
    ((ex=.ret/\ab tm 8=.ae/\ab tm 9=aa 4/\(pl.any fun p=>(ji l fr N s p).any LG)=ycO)\/
     (ex=.exit 2/\(pl.any fun p=>(ji l fr N s p).any LG)=ycP/\∃rows,bZ bw rows (M0++pl.map fun p=>(ji l fr N s p).map RT)/\hp=mH [.str s.1,.str s.2.1,.str s.2.2] rows/\ct=mC rows/\ab tm 0=v/\ab tm 2=w/\ab tm 3=aa fr/\ab tm 11=aa N/\ab tm 12=mO rows/\ab tm 69=sv/\ab tm 70=aa ns/\ab tm 71=aa i))):=by
 apply cP;rintro d st ⟨k,rows,QM,hR,HF,rfl⟩;by_cases hk:k<pl.length
 .obtain ⟨rest,e1⟩:=hw.aT hk;have AO:=yy hk;obtain⟨ps,e2,dX⟩:=m82 h.toLp Iq hv hl (ok _ AO) Mw (show N<=1000000 by omega);have hF:cQ (.aF ycP N ps) (ji l fr N s pl[k]):=by
   have:=Ed ycP dX
   rwa[Gi] at this
  have hRk:∀x,x∈ji l fr N s pl[k]->Hq 1700000 x:=fun x hx=>by
   simp only[ji,AY,xj] at hx;obtain⟨q,_,rfl⟩:=hx;exact hK _ AO _
  obtain⟨r1,r2⟩:=m83 h.Ip h.Kt h.Ku h.Fk h.toLp.toSp.toTx hF (by rw[show (ji l fr N s pl[k]).length=N from Gi _ _];omega) hRk (by decide);have hlen:=hR.len;have hrl:rows.length<=200000:=by
   rw[hlen,yE,yg,yJ];omega
  unfold mr qR at e2;unfold ah at e2 r1 r2;have s2:∀(hp:Hp) (ct id:Nat) (x y:List Nat) (u v:AV),fN hp ct id 0 2 [.str x,.str y] (Ix (.cells ycO ycO ycO 2 [u,v]))=Ix (.ax [],aV hp id (.cells ycO ycO ycO 2 [.str x,.str y]),ct):=fun hp ct id x y u v=>by
   rw[mb (by rfl) (by simp) (by rfl)];rfl
  cases hL:(ji l fr N s pl[k]).any LG with
  | true=>
   right
   have e3:=r1 hL;have hA:(pl.any fun p=>(ji l fr N s p).any LG)=ycO:=yaE.2 ⟨_,AO,hL⟩;cases rows
   all_goals
    simp only[mO,mP,mH,mC];simp only[go_sem,ya,yb,G4,hv.af,show (k:Int)<pl.length by omega,e1,Dp,aG,s2,kP,gH,yh,a7,e2,R4,hF.af,e3,r9,uf,yo,yp];exact⟨_,_,rfl,by simp,_,_,_,rfl,.inl ⟨rfl,by simp only[go_sem,ya],by simp only[go_sem],hA⟩⟩
  | false=>
   left
   obtain⟨rv,zo,e3⟩:=r2 hL;have hA:((pl.take (k+1)).any fun p=>(ji l fr N s p).any LG)=ycP:=by
    rw[yk hk,ybI,HF,vS,ybe,hL];rfl
   have zp:bZ bw (rows++[rv]) (M0++(pl.take (k+1)).map fun p=>(ji l fr N s p).map RT):=by
    rw[yk hk,yX,<-xu];exact hR.snoc zo
   have pr:=zo.pu;have or1:=zo.one;cases rows
   .simp only [mO,mP,mH,mC];simp only[go_sem,ya,yb,yV,yA,yi,yf,G4,hv.af,show (k:Int)<pl.length by omega,e1,Dp,aG,s2,kP,gH,yh,a7,e2,R4,hF.af,e3,r9,zo.pu,zo.af,zo.cd,zo.one,zo.cells,yo,eT];refine⟨_,d-1,rfl,by omega,k+1,_,by omega,zp,hA,?_⟩
    rw[show (k:Int)+1=((k+1:Nat):Int) from rfl,wrapN (n:=k+1) (by omega)];simp only[go_sem,ya,yb,ao,xy,aj hv.pu,aj hw.pu,aj psv]<;>rfl
   .rename_i a r;simp only[mO,mP,mH,mC];simp only[yB] at hrl;simp only[go_sem,ya,yb,yi,yf,G4,hv.af,show (k:Int)<pl.length by omega,e1,Dp,aG,s2,kP,gH,yh,a7,e2,R4,hF.af,e3,r9,zo.pu,zo.af,zo.cd,zo.one,zo.cells,yo]
    rw[dZ (ex:=ycP) (pu:=ycO) (sz:=1) (by simp only[go_sem,ya];rfl) (by simp) (by omega) (by omega) (by decide) (by simp only[go_sem,or1])]
    simp only[go_sem,ya,yb,pr];refine⟨_,d-1,rfl,by omega,k+1,_,by omega,zp,hA,?_⟩
    rw[show (k:Int)+1=((k+1:Nat):Int) from rfl,wrapN (n:=k+1) (by omega)];simp only[go_sem,ya,yb,ao,xC,yE,aj hv.pu,aj hw.pu,aj psv]<;>rfl
 .right
  have A2:k=pl.length:=by omega
  subst A2;rw[yq (ym _)] at hR HF
  all_goals
   simp only[go_sem,ya,G4,show ¬(pl.length:Int)<pl.length by omega,yp];exact⟨_,_,rfl,by simp,_,_,_,rfl,.inr ⟨rfl,HF,_,hR,rfl,rfl,by simp only[go_sem,ya],by simp only[go_sem,ya],by simp only[go_sem,ya],by simp only[go_sem,ya],by simp only[go_sem,ya]<;>rfl,by simp only[go_sem,ya],by simp only[go_sem,ya],by simp only[go_sem,ya]⟩⟩
noncomputable def Sg(l:List Lay)(fr:Int)(N:Nat)(pl:List cV)(s:dl):List (List (List Nat)):=pl.map fun p=>(ji l fr N s p).map RT
noncomputable def nj(l:List Lay)(fr:Int)(N:Nat)(sl:List dl)(pl:List cV):List (List (List Nat)):=(sl.map (Sg l fr N pl)).flatten
noncomputable def BJ(l:List Lay)(fr:Int)(N:Nat)(pl:List cV)(s:dl):Bool:=pl.any fun p=>(ji l fr N s p).any LG
def asW{l:List Lay}{sl:List dl}{pl:List cV}{i:Nat}(h:i<sl.length):nj l fr N (sl.take (i+1)) pl=nj l fr N (sl.take i) pl++Sg l fr N pl sl[i]:=by
 unfold nj;rw[yk h,yX,vD]
 simp
def Ri{l:List Lay}{fr:Int}{N:Nat}{pl:List cV}:∀{sl:List dl},(nj l fr N sl pl).length=sl.length*pl.length
 | []=>by simp[nj]
 | s::sl=>by
  have ih:=Ri (l:=l) (fr:=fr) (N:=N) (pl:=pl) (sl:=sl);unfold nj at ih ⊢;rw[yS,wq,yE,ih,yB,xU];simp[Sg];lia
def aCF(h:Lq P L)(Iq:Has P L 82 KS){w sv:AV}{l:List Lay}(hv:fb v l)(hl:l.length<=4){sl:List dl}{pl:List cV}(hs:jP sv sl)(sQ:sl.length<=6)(hw:jv w pl)(fR:pl.length<=256)(ok:∀s,s∈sl->∀p,p∈pl->∀a,a∈l->a.Ok s.1 s.2.1 s.2.2 p.1 p.2 fr)(Mw:0<N)(hN:N<=64)(hK:∀s,s∈sl->∀p,p∈pl->∀q,Hq 1700000 ((dz s.1 s.2.1 s.2.2 p.1 p.2 fr l).2 q)):
  cL P L [0,2,3,11,12,69,70,71] JG (fun d st=>∃(i:Nat) (rows:List AV),i+d=sl.length/\bZ bw rows (nj l fr N (sl.take i) pl)/\((sl.take i).any (BJ l fr N pl))=ycP/\st=⟨[(0,v),(2,w),(3,aa fr),(11,aa N),(12,mO rows),(69,sv),(70,aa sl.length),(71,aa i)],nH rows,nC rows,0⟩) (fun ex s'=>∃tm hp ct,s'=⟨tm,hp,ct,0⟩/\
    ((ex=.ret/\ab tm 8=.ae/\ab tm 9=aa 4/\sl.any (BJ l fr N pl)=ycO)\/
     (ex=.exit 0/\sl.any (BJ l fr N pl)=ycP/\∃rows,bZ bw rows (nj l fr N sl pl)/\hp=nH rows/\ab tm 12=mO rows))):=by
 apply cP;rintro d st ⟨i,rows,hid,hR,HF,rfl⟩;by_cases hi:i<sl.length
 .obtain ⟨rest,e1⟩:=hs.aT hi;have AO:=yy hi;have hM0:(nj l fr N (sl.take i) pl).length<=100000:=by
   rw[Ri,yJ]
   have:=xo (show min i sl.length<=6 by omega) fR
   omega
  have key:=aCE h Iq hv hl (s:=sl[i]) hw fR hs.pu (ok _ AO) Mw hN (hK _ AO) sl.length i hM0 pl.length;have aK:∀st',bW [0,2,3,11,12,14,69,70,71,75,76,77] st'=⟨[(0,v),(2,w),(3,aa fr),(11,aa N),(12,mO rows),(14,mP rows),(69,sv),(70,aa sl.length),(71,aa i),(75,w),(76,aa pl.length),(77,aa ((0:Nat):Int))],mH [.str sl[i].1,.str sl[i].2.1,.str sl[i].2.2] rows,mC rows,0⟩->_:=fun st' aFA=>key st' ⟨0,rows,by omega,by simpa using hR,by simp,aFA⟩
  have main:∀(q:Option (Ex×St)),(∃ex s',q=Ix (ex,s')/\∃tm hp ct,s'=⟨tm,hp,ct,0⟩/\((ex=.ret/\ab tm 8=.ae/\ab tm 9=aa 4/\(pl.any fun p=>(ji l fr N sl[i] p).any LG)=ycO)\/(ex=.exit 2/\(pl.any fun p=>(ji l fr N sl[i] p).any LG)=ycP/\∃Hb,bZ bw Hb (nj l fr N (sl.take i) pl++pl.map fun p=>(ji l fr N sl[i] p).map RT)/\hp=mH [.str sl[i].1,.str sl[i].2.1,.str sl[i].2.2] Hb/\ct=mC Hb/\ab tm 0=v/\ab tm 2=w/\ab tm 3=aa fr/\ab tm 11=aa N/\ab tm 12=mO Hb/\ab tm 69=sv/\ab tm 70=aa sl.length/\ab tm 71=aa i)))->
    (∃s' k',ju P L (og 1 (ju P L (og 2 q) (.kp [0,2,3,11,12,69,70,71]))) (.oB [qa 99 71 1,qm 71 99])=Ix (.normal,s')/\k'<d/\∃(i:Nat) (rows:List AV),i+k'=sl.length/\bZ bw rows (nj l fr N (sl.take i) pl)/\((sl.take i).any (BJ l fr N pl))=ycP/\bW [0,2,3,11,12,69,70,71] s'=⟨[(0,v),(2,w),(3,aa fr),(11,aa N),(12,mO rows),(69,sv),(70,aa sl.length),(71,aa i)],nH rows,nC rows,0⟩)\/
    (∃ex s',ju P L (og 1 (ju P L (og 2 q) (.kp [0,2,3,11,12,69,70,71]))) (.oB [qa 99 71 1,qm 71 99])=Ix (ex,s')/\ex≠.normal/\∃tm hp ct,s'=⟨tm,hp,ct,0⟩/\((ex=.ret/\ab tm 8=.ae/\ab tm 9=aa 4/\sl.any (BJ l fr N pl)=ycO)\/(ex=.exit 0/\sl.any (BJ l fr N pl)=ycP/\∃rows,bZ bw rows (nj l fr N sl pl)/\hp=nH rows/\ab tm 12=mO rows))):=by
   rintro q ⟨ex,s',rfl,tm,hp,ct,rfl,hq⟩;rcases hq with ⟨rfl,t8,t9,hA⟩ | ⟨rfl,hA,Hb,zp,rfl,rfl,t0,t2,t3,t11,t12,t69,t70,t71⟩
   .right
    simp only[go_sem];exact⟨_,_,rfl,by simp,_,_,_,rfl,.inl ⟨rfl,t8,t9,yaE.2 ⟨_,AO,hA⟩⟩⟩
   .left
    have hA':((sl.take (i+1)).any (BJ l fr N pl))=ycP:=by
     rw[yk hi,ybI,HF,vS,ybe,List.any_nil,Bool.or_false];exact hA
    have hR2:bZ bw Hb (nj l fr N (sl.take (i+1)) pl):=by rw[asW hi];exact zp
    cases Hb with
    | nil=>
     simp only[go_sem,ya,ao,t0,t2,t3,t11,t12,t69,t70,t71,aj hv.pu,aj hw.pu,aj hs.pu];refine⟨_,d-1,rfl,by omega,i+1,[],by omega,hR2,hA',?_⟩
     rw[show (i:Int)+1=((i+1:Nat):Int) from rfl,wrapN (n:=i+1) (by omega)];simp only[go_sem,ya,ao,nH,nC,aj hv.pu,aj hw.pu,aj hs.pu]<;>rfl
    | cons a r=>
     simp only[go_sem,ya,yb,ao,t0,t2,t3,t11,t12,t69,t70,t71,aj hv.pu,aj hw.pu,aj hs.pu];refine⟨_,d-1,rfl,by omega,i+1,a::r,by omega,hR2,hA',?_⟩
     rw[show (i:Int)+1=((i+1:Nat):Int) from rfl,wrapN (n:=i+1) (by omega)];simp only[go_sem,ya,yb,ao,nH,nC,aj hv.pu,aj hw.pu,aj hs.pu]<;>rfl
  cases rows
  all_goals
   simp only[go_sem,ya,yb,JG,hw.len,show (i:Int)<sl.length by omega,e1,Fj,aG,ZK];generalize hq:D P L (.loop _ G4) _=q;refine main q ?_;rw[<-hq];refine aK _ ?_;simp only[go_sem,ya,yb,ao,mP,mH,mC,aj hv.pu,aj hw.pu,aj hs.pu]<;>rfl
 .right
  have bD:i=sl.length:=by omega
  subst bD;rw[yq (ym _)] at hR HF
  all_goals
   simp only[go_sem,ya,JG,show ¬(sl.length:Int)<sl.length by omega,yp];exact⟨_,_,rfl,by simp,_,_,_,rfl,.inr ⟨rfl,HF,_,hR,rfl,by simp only[go_sem,ya]<;>rfl⟩⟩
def agz{k:Nat}:∀{ps:List (List AV)} {m:Nat},(∀p,p∈ps->p.length=k)->ps.flatten.take (m*k)=(ps.take m).flatten
 | [],m,_=>by simp
 | p::ps,0,_=>by simp
 | p::ps,m+1,h=>by
  have ih:=agz (ps:=ps) (m:=m) (fun q hq=>h q (xi _ hq));have hp:=h p xA;rw[wq,List.take_succ_cons,wq,<-ih,List.take_append,show (m+1)*k=p.length+m*k by rw[hp,xU];lia,yq (by lia),Nat.add_sub_cancel_left]
def aCG{k:Nat}{ps:List (List AV)}(h:fC k v ps){m:Nat}(hm:m<=ps.length):∃v',fC k v' (ps.take m)/\∀(hp:Hp) (tm:Env) (x:X),dM (aC tm x)=Ix m->gI hp (.sl k) v tm Iy (Ix x)=Ix v':=by
 obtain⟨h1,h2⟩:=h;rcases h1 with ⟨rfl,rfl⟩ | ⟨e,rfl⟩
 .have:m=0:=by simp_all
  subst this;refine⟨.ae,⟨.inl ⟨rfl,rfl⟩,fun p hp=>by simp at hp⟩,fun hp tm x hx=>?_⟩;show (match cS tm 0 Iy,cS tm 0 (Ix x) with | some 0,Ix 0=>Ix AV.ae | _,_=>Iy)=_
  rw[show cS tm 0 (Ix x)=Ix 0 from hx];rfl
 .have hs:∀p,p∈ps.take m->p.length=k:=fun p hp=>h2 p (vI hp)
  have hlen:(ps.take m).length=m:=by simp_all
  refine⟨.aF (e&&yG m ps.length) m (slice (0*k) ((m-0)*k) ps.flatten),?_,fun hp tm x hx=>?_⟩
  rotate_left
  .show (match cS tm 0 Iy,cS tm ps.length (Ix x) with
    | some l,Ix h=>bif yO l h&&yO h ps.length then Ix (AV.aF (e&&yG h ps.length) (h-l) (slice (l*k) ((h-l)*k) ps.flatten)) else Iy
    | _,_=>Iy)=_
   rw[show cS tm ps.length (Ix x)=Ix m from hx];show (bif yO 0 m&&yO m ps.length then _ else _)=_
   rw[yC (uO m),yC hm];rfl
  .have:=Nq (e&&yG m ps.length) hs
   rw[hlen,<-agz h2] at this;simpa[slice] using this
def axO{sl:List dl}(h:jP v sl){m:Nat}(hm:m<=sl.length):∃v',jP v' (sl.take m)/\∀(hp:Hp) (tm:Env) (x:X),dM (aC tm x)=Ix m->gI hp (.sl 3) v tm Iy (Ix x)=Ix v':=by
 have⟨v',h1,h2⟩:=aCG h (m:=m) (by simpa using hm);exact⟨v',by unfold jP;rw[List.map_take];exact h1,h2⟩
noncomputable def My(s:dl):Int:=zQ s.1 s.2.1 s.2.2
noncomputable def Dq(l:List Lay)(sl:List dl)(pl:List cV)(fr:Int):Int:=
 a6 [a6 [if l.length=0 then 12 else 0,rI l,if sl.length=0 then 12 else 0,if 6<sl.length then 5 else 0],a6 ((sl.take 6).map My),if pl.length=0 then 12 else 0,AX pl,nm fr]
def aiW{l:List Lay}{sl:List dl}{pl:List cV}(h:Dq l sl pl fr=0):0<l.length/\l.length<=4/\0<sl.length/\sl.length<=6/\pl.length<=256/\0<pl.length/\(∀s,s∈sl->My s=0)/\(∀a,a∈l->a.E=0)/\∀s,s∈sl->∀p,p∈pl->∀a,a∈l->a.Ok s.1 s.2.1 s.2.2 p.1 p.2 fr:=by
 unfold Dq at h;simp only[oO,Gb,vv] at h;obtain⟨⟨h1,h2,h3,h4⟩,h5,h6,h7,h8⟩:=h;have n4:sl.length<=6:=by
  grind
 rw[yq n4] at h5;have hs:=IJ h5;obtain⟨l4,la⟩:=Y9 h2;obtain⟨p4,pa⟩:=SM h7;exact⟨by omega,l4,by omega,n4,p4,by omega,hs,la,fun s mT p hp=>alp h2 (hs s mT) (pa p hp).1 (pa p hp).2 h8⟩
structure Mtx(P:aJ)(L:Lib):Prop extends Lq P L where
 Mn:Has P L 26 HR
 Mq:Has P L 37 V2
 h77:Has P L 77 V9
 h79:Has P L 79 Wa
 h80:Has P L 80 Wb
 W0:Has P L 81 P4
 Iq:Has P L 82 KS
def ajR{C:Int->Rat}{fr n i j:Int}{f g:Rat}{K B:Nat}(kf:Hq K f)(kg:Hq K g)(hC:∀q,Hq B (C q)):∀(m:Nat),m<=4->∀q,Hq (B+m*(2*K+7)) (fJ C fr n i j f g m q)
 | 0,_,q=>(hC q).mono (by lia)
 | m+1,hm,q=>by
  have ih:=ajR (fr:=fr) (n:=n) (i:=i) (j:=j) kf kg hC m (by lia) q;have kw:Hq (2*K+6) (jW f g m):=by
   unfold jW;rw[yW,xz (show m<(nQ f g).length from by show m<4;lia),vQ];exact Tf kf kg _ (yy _)
  show Hq _ (if q=er fr n i j m then jW f g m+fJ C fr n i j f g m q else fJ C fr n i j f g m q)
  rw[xU]
  split
  .exact (kw.add ih).mono (by lia)
  .exact ih.mono (by lia)
def aAK{S:Rat}{t M:Nat}(hS:Hq M S)(hC:∀q,Hq B (C q))(q:Int):Hq (B+M) (ig C fr S t q):=by
 unfold ig
 split
 .exact (hC q).mul hS
 .exact (hC q).mono (by lia)
def ajS{l:List Lay}{dx dy sh x y:List Nat}{fr:Int}(hl:l.length<=4)(ok:∀a,a∈l->a.Ok dx dy sh x y fr):∀i,i<=l.length->∀q,Hq (2+i*400000) ((dz dx dy sh x y fr (l.take i)).2 q)
 | 0,_,q=>by show Hq _ (0:Rat);exact B6.mono (by lia)
 | i+1,hi,q=>by
  have ih:=ajS hl ok i (by lia);rw[Gd (by lia)];have cN:=ok _ (yy (show i<l.length by lia));have kf:=EP cN.kX (by lia);have kg:=EP cN.kY (by lia)
  refine (aAK (B:=2+i*400000+4*(2*(2*22000+1)+7)) (mB cN.st (ym 2400)) (fun q=>?_) q).mono (by rw[xU];lia)
  split
  .exact ajR kf kg ih 4 (ym 4) q
  .exact (ih q).mono (by lia)
def ZL{l:List Lay}(h:∀a,a∈l->0<a.s.length/\a.s.length<=16)(hl:0<l.length)(h4:l.length<=4):0<jR l/\jR l<=1024:=by
 have hb:∀x,x∈(l.map fun a=>(a.s.length:Int)*a.s.length)->1<=x/\x<=256:=fun x hx=>by
  obtain⟨a,ha,rfl⟩:=xj.1 hx;have⟨h1,h2⟩:=h a ha;have e:(a.s.length:Int)*a.s.length=((a.s.length*a.s.length:Nat):Int):=(xS _ _).symm;have h3:a.s.length*a.s.length<=16*16:=xo h2 h2;have h5:1*1<=a.s.length*a.s.length:=xo h1 h1
  lia
 unfold jR;generalize hm:(l.map fun a=>(a.s.length:Int)*a.s.length)=m at hb;have lm:m.length=l.length:=by grind
 have key:∀(m:List Int),(∀x,x∈m->1<=x/\x<=256)->(m.length:Int)<=mg m/\mg m<=256*m.length:=fun m=>by
  induction m with
  | nil=>intro _;simp[mg]
  | cons a r ih=>
   intro hb;have h1:=hb a xA;have h2:=ih (fun x hx=>hb x (xi _ hx));simp only[mg,yB]
   lia
 grind
def m26(h:Mtx P L){w sv:AV}{l:List Lay}{sl:List dl}{pl:List cV}(hv:fb v l)(hl:l.length<=1000000)(hf:∀a,a∈l->a.Fit)(hs:jP sv sl)(sQ:sl.length<=1000000)(Ir:∀s,s∈sl->s.1.length<=1000000000/\s.2.1.length<=1000000000/\s.2.2.length<=1000000000)(hw:jv w pl)(fR:pl.length<=1000000)(DK:∀p,p∈pl->p.1.length<=1000000000/\p.2.length<=1000000000):
  (Dq l sl pl fr≠0->ah P L 26 [v,sv,w,aa fr] (.ax [.ae,aa (Dq l sl pl fr)]))/\
  (Dq l sl pl fr=0->(64<jR l\/64<sl.length*pl.length)->ah P L 26 [v,sv,w,aa fr] (.ax [.ae,aa 22]))/\
  (Dq l sl pl fr=0->jR l<=64->sl.length*pl.length<=64->
   (sl.any (BJ l fr (jR l).toNat pl)=ycO->ah P L 26 [v,sv,w,aa fr] (.ax [.ae,aa 4]))/\
   (sl.any (BJ l fr (jR l).toNat pl)=ycP->∃rows,bZ bw rows (nj l fr (jR l).toNat sl pl)/\ah P L 26 [v,sv,w,aa fr] (.ax [.bR ycP 1 rows.length rows,aa 0]))):=by
 have e1:=rP h.toLp.toSp.jn (decide ((l.length:Int)=0)) 12;have e2:=m76 h.toLp h.WW h.Vr hv hl hf;have e3:=rP h.toLp.toSp.jn (decide ((sl.length:Int)=0)) 12;have e4:=rP h.toLp.toSp.jn (decide ((6:Int)<sl.length)) 5;have hf4:∀a b c d:Int,ah P L 33 [.aF ycO 4 [.int .i64 a,.int .i64 b,.int .i64 c,.int .i64 d]] (aa (a6 [a,b,c,d])):=fun a b c d=>sT h.toLp.toSp.oK (fZ ycO [a,b,c,d]) (by simp)
 have hf5:∀a b c d e:Int,ah P L 33 [.aF ycO 5 [.int .i64 a,.int .i64 b,.int .i64 c,.int .i64 d,.int .i64 e]] (aa (a6 [a,b,c,d,e])):=fun a b c d e=>sT h.toLp.toSp.oK (fZ ycO [a,b,c,d,e]) (by simp)
 have BS:(if (6:Int)<(sl.length:Int) then (6:Int) else sl.length)=((min sl.length 6:Nat):Int):=by split<;>lia
 have⟨sv',mT,ki⟩:=axO hs (m:=min sl.length 6) (by lia);have dW:sl.take (min sl.length 6)=sl.take 6:=by
  by_cases q:sl.length<=6
  .rw [xq q,yq (ym _),yq q]
  .rw [Nat.min_eq_right (by lia)]
 rw[dW] at mT;have lt6:(sl.take 6).length<=6:=by rw[yJ];lia
 have⟨r,e6,hr⟩:=m77 h.h77 mT (by lia) (g:=60) (cap:=[]) rfl (fun _ _=>rfl) (f:=My) (fun s DW=>m60 h.toLp.toSp (Ir s (vI DW)).1 (Ir s (vI DW)).2.1 (Ir s (vI DW)).2.2);have e7:=sT h.toLp.toSp.oK hr (by rw[yg];lia)
 have e8:=rP h.toLp.toSp.jn (decide ((pl.length:Int)=0)) 12;have e9:=m78 h.toLp.toSp h.WX h.Vs hw fR DK;have eA:=s51 h.toLp.WQ h.toLp.Mo h.toLp.toSp.jn fr;have cz:∀{n:Nat} {a:Int},(if decide ((n:Int)=0)=ycO then a else 0)=if n=0 then a else 0:=fun {n a}=>by
  by_cases q:n=0
  .rw [yK q,yK (by simp[q])]
  .rw [yx q,yx (by simp[q])]
 have c6:(if decide ((6:Int)<sl.length)=ycO then (5:Int) else 0)=if 6<sl.length then 5 else 0:=by
  by_cases q:6<sl.length
  .rw [yK q,yK (by simp;lia)]
  .rw [yx q,yx (by simp;lia)]
 rw[cz] at e1 e3 e8;rw[c6] at e4;have e5:=hf4 (if l.length=0 then 12 else 0) (rI l) (if sl.length=0 then 12 else 0) (if 6<sl.length then 5 else 0);have eB:=hf5 (a6 [if l.length=0 then 12 else 0,rI l,if sl.length=0 then 12 else 0,if 6<sl.length then 5 else 0]) (a6 ((sl.take 6).map My)) (if pl.length=0 then 12 else 0) (AX pl) (nm fr);change ah P L 33 [_] (aa (Dq l sl pl fr)) at eB
 generalize (if l.length=0 then (12:Int) else 0)=g1 at*
 generalize (if sl.length=0 then (12:Int) else 0)=g2 at*
 generalize (if 6<sl.length then (5:Int) else 0)=g3 at*
 generalize (if pl.length=0 then (12:Int) else 0)=g4 at*
 generalize a6 [g1,rI l,g2,g3]=g5 at*
 unfold ah at e1 e2 e3 e4 e5 e6 e7 e8 e9 eA eB;refine⟨fun hE=>?_,fun hE hX=>?_,fun hE h1 h2=>?_⟩
 .unfold ah;rw[aB h.Mn];simp only[go_sem,ya,yb,yA,yi,yf,HR,hv.len,hv.af,hs.len,hw.len,hw.af,e1,e2,e3,e4,e5,GR,Gg,BS,Jt,ki,nR (show (0:Int)<=((min sl.length 6:Nat):Int) by lia),xx,mT.af,e6,hr.af,e7,e8,e9,eA,eB,hE]
 .have ⟨l0,l4,s0,s6',p6,p0,hse,hle,cN⟩:=aiW hE;have HG:∀a,a∈l->0<a.s.length/\a.s.length<=16:=fun a ha=>by
   have⟨a1,a2,_⟩:=F2 (Y8 (hle a ha)).1;exact⟨a1,a2⟩
  have hNb:=ZL HG l0 l4;have⟨r2,f1,ep⟩:=m79 h.h79 hv hl (g:=80) (cap:=[]) rfl (fun _ _=>rfl) (f:=fun a=>(a.s.length:Int)*a.s.length) (fun a ha=>m80 h.h80 (hv.2 a ha) (by have:=(HG a ha).2;lia))
  have f2:=m37 h.Mq h.W0 ep (fun x hx=>by
   obtain⟨a,ha,rfl⟩:=xj.1 hx;have⟨q1,q2⟩:=HG a ha;have e:(a.s.length:Int)*a.s.length=((a.s.length*a.s.length:Nat):Int):=(xS _ _).symm;have h3:a.s.length*a.s.length<=16*16:=xo q2 q2
   lia) (by rw[yg];lia)
  change ah P L 37 [_,_,_] (aa (jR l)) at f2
  have JQ:(sl.length:Int)*pl.length=((sl.length*pl.length:Nat):Int):=(xS _ _).symm;have Qr:sl.length*pl.length<=6*256:=xo s6' p6;unfold ah at f1 f2 ⊢;rw[aB h.Mn];by_cases hN:64<jR l
  .simp only [go_sem,ya,yb,yA,yi,yf,HR,hv.len,hv.af,hs.len,hw.len,hw.af,e1,e2,e3,e4,e5,GR,Gg,BS,Jt,ki,nR (show (0:Int)<=((min sl.length 6:Nat):Int) by lia),xx,mT.af,e6,hr.af,e7,e8,e9,eA,eB,hE,f1,ep.af,f2,hN,yo]
  .have hX:64<sl.length*pl.length:=by lia
   simp only[go_sem,ya,yb,yA,yi,yf,HR,hv.len,hv.af,hs.len,hw.len,hw.af,e1,e2,e3,e4,e5,GR,Gg,BS,Jt,ki,nR (show (0:Int)<=((min sl.length 6:Nat):Int) by lia),xx,mT.af,e6,hr.af,e7,e8,e9,eA,eB,hE,f1,ep.af,f2,hN,yp,JQ,wrap64 (n:=((sl.length*pl.length:Nat):Int)) (by lia) (by lia),show (64:Int)<((sl.length*pl.length:Nat):Int) by lia,yo]
 .have ⟨l0,l4,s0,s6',p6,p0,hse,hle,cN⟩:=aiW hE;have HG:∀a,a∈l->0<a.s.length/\a.s.length<=16:=fun a ha=>by
   have⟨a1,a2,_⟩:=F2 (Y8 (hle a ha)).1;exact⟨a1,a2⟩
  have hNb:=ZL HG l0 l4;have⟨r2,f1,ep⟩:=m79 h.h79 hv hl (g:=80) (cap:=[]) rfl (fun _ _=>rfl) (f:=fun a=>(a.s.length:Int)*a.s.length) (fun a ha=>m80 h.h80 (hv.2 a ha) (by have:=(HG a ha).2;lia))
  have f2:=m37 h.Mq h.W0 ep (fun x hx=>by
   obtain⟨a,ha,rfl⟩:=xj.1 hx;have⟨q1,q2⟩:=HG a ha;have e:(a.s.length:Int)*a.s.length=((a.s.length*a.s.length:Nat):Int):=(xS _ _).symm;have h3:a.s.length*a.s.length<=16*16:=xo q2 q2
   lia) (by rw[yg];lia)
  change ah P L 37 [_,_,_] (aa (jR l)) at f2
  have JQ:(sl.length:Int)*pl.length=((sl.length*pl.length:Nat):Int):=(xS _ _).symm;obtain⟨N,hN⟩:∃N:Nat,jR l=N:=⟨(jR l).toNat,(Int.toNat_of_nonneg (by lia)).symm⟩;rw[hN,xx];rw[hN] at f2;have key:=aCF h.toLq h.Iq hv l4 hs s6' hw p6 cN (N:=N) (by lia) (by lia) (fun s hs p hp q=>by
   have:=ajS l4 (cN s hs p hp) l.length (ym _) q
   rw[yq (ym _)] at this
   exact this.mono (by lia)) sl.length
  unfold ah at f1 f2;constructor
  .intro hA;unfold ah;rw[aB h.Mn]
   simp only[go_sem,ya,yb,yA,yi,yf,HR,hv.len,hv.af,hs.len,hw.len,hw.af,e1,e2,e3,e4,e5,GR,Gg,BS,Jt,ki,nR (show (0:Int)<=((min sl.length 6:Nat):Int) by lia),xx,mT.af,e6,hr.af,e7,e8,e9,eA,eB,hE,f1,ep.af,f2,show ¬(64:Int)<(N:Int) by lia,yp,JQ,wrap64 (n:=((sl.length*pl.length:Nat):Int)) (by lia) (by lia),show ¬(64:Int)<((sl.length*pl.length:Nat):Int) by lia];generalize hq:D P L (.loop _ JG) _=q;obtain⟨ex,st,rfl,tm,hp,ct,rfl,hd⟩:=bg hq key ⟨0,[],by lia,by simpa[nj] using (show bZ bw [] [] from trivial),by simp,by simp only[go_sem,ya,ao,mO,nH,nC,aj hv.pu,aj hw.pu,aj hs.pu]<;>rfl⟩
   rcases hd with ⟨rfl,t8,t9,_⟩ | ⟨rfl,hB,_⟩
   .simp only [go_sem,t8,t9]
   .rw [hA] at hB;cases hB
  .intro hA;unfold ah;rw[aB h.Mn]
   simp only[go_sem,ya,yb,yA,yi,yf,HR,hv.len,hv.af,hs.len,hw.len,hw.af,e1,e2,e3,e4,e5,GR,Gg,BS,Jt,ki,nR (show (0:Int)<=((min sl.length 6:Nat):Int) by lia),xx,mT.af,e6,hr.af,e7,e8,e9,eA,eB,hE,f1,ep.af,f2,show ¬(64:Int)<(N:Int) by lia,yp,JQ,wrap64 (n:=((sl.length*pl.length:Nat):Int)) (by lia) (by lia),show ¬(64:Int)<((sl.length*pl.length:Nat):Int) by lia];generalize hq:D P L (.loop _ JG) _=q;obtain⟨ex,st,rfl,tm,hp,ct,rfl,hd⟩:=bg hq key ⟨0,[],by lia,by simpa[nj] using (show bZ bw [] [] from trivial),by simp,by simp only[go_sem,ya,ao,mO,nH,nC,aj hv.pu,aj hw.pu,aj hs.pu]<;>rfl⟩
   rcases hd with ⟨_,_,_,hB⟩ | ⟨rfl,_,rows,hR,rfl,t12⟩
   .rw [hA] at hB;cases hB
   .refine ⟨rows,hR,?_⟩;have hlen:=hR.len;rw[Ri] at hlen;have AT:0<sl.length*pl.length:=Nat.mul_pos s0 p0
    cases rows with
    | nil=>simp at hlen;lia
    | cons a r=>
     simp only[go_sem,ya,yb,ao,t12];exact apZ (fq _ _ _) (by simp) (by decide)
def a29(h:Has P L 29 V1){w:AV}{l:List (List Nat)}(hv:bw v l)(hw:bw w l)(hl:l.length<=1000000):ah P L 29 [v,w] (.bool ycO):=by
 have key:=dT P L [0,1,5] Oj
  (fun k st=>∃i:Nat,st=⟨[(0,v),(1,w),(5,aa i)],[],0,0⟩/\i+k=l.length)
  (fun ex st=>∃tm hp ct,st=⟨tm,hp,ct,0⟩/\ex=.exit 0) ?_
 .unfold ah;rw[aB h];simp only[go_sem,ya,V1,hv.len,hw.len,yo,yM];generalize hq:D P L (.loop _ Oj) _=q;obtain⟨ex,st,rfl,tm,hp,ct,rfl,rfl⟩:=bg hq (key l.length) ⟨0,by simp only[go_sem,ya,ao,aj hv.pu,aj hw.pu]<;>rfl,by lia⟩
  simp only[go_sem,ao]
 .rintro k st ⟨i,rfl,hk⟩;by_cases hi:i<l.length
  .left
   simp only[go_sem,ya,Oj,hv.len,show (i:Int)<l.length by lia,hv.aT hi,hw.aT hi,CL,agw,yM];refine⟨_,k-1,rfl,by lia,i+1,?_,by lia⟩;rw[wrap64 (by lia) (by lia)];simp only[go_sem,ya,ao,aj hv.pu,aj hw.pu]<;>rfl
  .right
   simp only[go_sem,ya,Oj,hv.len,show ¬(i:Int)<l.length by lia];exact⟨_,_,rfl,by simp,_,_,_,rfl,rfl⟩
def aFB(ab0:Has P L 258 UI)(Ai:Has P L 30 DG)(n:Int):ah P L 258 [aa n] (aa (nm n)):=by
 have e:=s30 Ai n (-999999999) 999999999;unfold ah at e ⊢;rw[aB ab0];simp only[go_sem,ya,UI,e,nm]
def Vu(a b c d e f g i:AV):xK 2 [a,b,c,d,e,f,g,i]=[c,d,e,f,g,i]:=rfl
def Vv(a b c d e f g i:AV):xK 3 [a,b,c,d,e,f,g,i]=[d,e,f,g,i]:=rfl
def am8(a b c d e f g i:AV):xK 6 [a,b,c,d,e,f,g,i]=[g,i]:=rfl
def ld8(a b c d e f g i:AV):gJ 8 ycO [a,b,c,d,e,f,g,i]=Ix (.agg [a,b,c,d,e,f,g,i]):=rfl
def ZM(cs:List AV):JB 0 (.aQ cs)=Ix (.aQ cs):=rfl
def am9(Vw:Has P L 331 UT){l:List Lay}(hv:fb v l)(hl:l.length<=1000)(hb:∀a,a∈l->a.s.length<=1000):ah P L 331 [v] (aa (jR l)):=by
 have bb:∀x,x∈(l.map fun a=>(a.s.length:Int)*a.s.length)->0<=x/\x<=1000000:=fun x hx=>by
  obtain⟨a,ha,rfl⟩:=xj.1 hx;have e:(a.s.length:Int)*a.s.length=((a.s.length*a.s.length:Nat):Int):=(xS _ _).symm;have h3:a.s.length*a.s.length<=1000*1000:=xo (hb a ha) (hb a ha)
  lia
 have ml:(l.map fun a=>(a.s.length:Int)*a.s.length).length=l.length:=yg _;have key:=dT P L [0,3,4] NT
  (fun k s=>∃i:Nat,i+k=l.length/\s=⟨[(0,v),(3,aa (mg ((l.map fun a=>(a.s.length:Int)*a.s.length).take i))),(4,aa i)],[],0,0⟩)
  (fun ex s=>∃tm hp ct,s=⟨tm,hp,ct,0⟩/\ex=.exit 0/\ab tm 3=aa (jR l)) ?_
 .unfold ah;rw[aB Vw];simp only[go_sem,UT];generalize hq:D P L (.loop _ NT) _=q;obtain⟨ex,s,rfl,tm,hp,ct,rfl,rfl,t3⟩:=bg hq (key l.length) ⟨0,by lia,by
   simp only[go_sem,ya,ao,aj hv.pu]<;>rfl⟩
  simp only[go_sem,ao,t3]
 .rintro k s ⟨i,hk,rfl⟩;have bi:=Zb bb i (by lia);by_cases hi:i<l.length
  .left
   have⟨rest,e1⟩:=hv.aT hi;have hS:=hv.get hi;have b2:=bb _ (yy (show i<(l.map fun a=>(a.s.length:Int)*a.s.length).length by lia));have e3:(l.map fun a=>(a.s.length:Int)*a.s.length)[i]'(by lia)=(l[i].s.length:Int)*l[i].s.length:=xm _;have hs:=XR (l:=l.map fun a=>(a.s.length:Int)*a.s.length) (i:=i) (by lia);rw[e3] at hs
   simp only[go_sem,ya,NT,hv.len,show (i:Int)<l.length by lia,e1,ZM,hS.len,wrap64 (n:=(l[i].s.length:Int)*l[i].s.length) (by lia) (by lia),<-hs];refine⟨_,k-1,rfl,by lia,i+1,by lia,?_⟩;rw[wrap64 (by lia) (by lia),wrap64 (by lia) (by lia)];simp only[go_sem,ya,ao,aj hv.pu]<;>rfl
  .right
   simp only[go_sem,ya,NT,hv.len,show ¬(i:Int)<l.length by lia];rw[yq (by lia)];exact⟨_,_,rfl,by simp,_,_,_,rfl,rfl,by simp only[go_sem,ya];rfl⟩
def B8(C:Int->Rat)(fr n i j:Int)(f g S:Rat):Nat->Int->Rat
 | 0,q=>C q
 | m+1,q=>if q=er fr n i j m then B8 C fr n i j f g S m q+S*jW f g m else B8 C fr n i j f g S m q
def Ap(a:AV)(r:List AV):gJ 1 ycP (a::r)=Ix a:=rfl
noncomputable def aan(dx dy sh x y:List Nat)(fr:Int)(p:Int×(Int->Rat))(a:Lay):Int×(Int->Rat):=
 (p.1+(a.s.length:Int)*a.s.length,
  if Lay.low sh a=ycO then B8 p.2 p.1 a.s.length ((dO a.hh a.sc a.ox a.wx dx sh x fr).floor%a.s.length) ((dO a.hh a.sc a.oy a.wy dy sh y fr).floor%a.s.length) (iA (dO a.hh a.sc a.ox a.wx dx sh x fr)) (iA (dO a.hh a.sc a.oy a.wy dy sh y fr)) (aI a.st) 4 else p.2)
noncomputable def Vx(dx dy sh x y:List Nat)(fr:Int)(l:List Lay):Int×(Int->Rat):=l.foldl (aan dx dy sh x y fr) (0,fun _=>0)
def asX{x y:List Nat}{l:List Lay}{i:Nat}(h:i<l.length):Vx dx dy sh x y fr (l.take (i+1))=aan dx dy sh x y fr (Vx dx dy sh x y fr (l.take i)) l[i]:=by
 rw[yk h];simp only[Vx,tQ,yae,yat]
section
variable {C:Int->Rat}{fr n i j:Int}{f g S:Rat}
def M6(hn:0<n)(fg:n<=1000)(h0:0<=fr){q:Int}(hq:q<fr\/fr+n*n<=q):∀m,fJ C fr n i j f g m q=C q
 | 0=>rfl
 | m+1=>by
  have cb:=TX (fr:=fr) (i:=i) (j:=j) hn fg h0 m;show (if q=er fr n i j m then jW f g m+fJ C fr n i j f g m q else fJ C fr n i j f g m q)=_
  rw[yx (by lia),M6 hn fg h0 hq m]
def ahH(hn:0<n)(fg:n<=1000)(h0:0<=fr){q:Int}(hq:q<fr\/fr+n*n<=q):∀m,B8 C fr n i j f g S m q=C q
 | 0=>rfl
 | m+1=>by
  have cb:=TX (fr:=fr) (i:=i) (j:=j) hn fg h0 m;show (if q=er fr n i j m then B8 C fr n i j f g S m q+S*jW f g m else B8 C fr n i j f g S m q)=_
  rw[yx (by lia),ahH hn fg h0 hq m]
def ahI{q:Int}(hC:C q=0):∀m,fJ C fr n i j f g m q*S=B8 C fr n i j f g S m q
 | 0=>by show C q*S=C q;rw[hC,ybN]
 | m+1=>by
  have ih:=ahI hC m;show (if q=er fr n i j m then jW f g m+fJ C fr n i j f g m q else fJ C fr n i j f g m q)*S=(if q=er fr n i j m then B8 C fr n i j f g S m q+S*jW f g m else B8 C fr n i j f g S m q)
  grind
end
def run_eq{dx dy sh x y:List Nat}{fr:Int}{l:List Lay}(h:∀a,a∈l->0<a.s.length/\a.s.length<=16):∀k,k<=l.length->Vx dx dy sh x y fr (l.take k)=dz dx dy sh x y fr (l.take k)/\0<=(dz dx dy sh x y fr (l.take k)).1/\∀q,(dz dx dy sh x y fr (l.take k)).1<=q->(dz dx dy sh x y fr (l.take k)).2 q=0
 | 0,_=>⟨rfl,Int.le_refl 0,fun _ _=>rfl⟩
 | k+1,hk=>by
  obtain⟨e,h0,hz⟩:=run_eq (dx:=dx) (dy:=dy) (sh:=sh) (x:=x) (y:=y) (fr:=fr) h k (by omega);rw[asX (by omega),Gd (by omega),e];obtain⟨n0,n1⟩:=h _ (yy (show k<l.length by omega));generalize dz dx dy sh x y fr (l.take k)=p at*
  generalize l[k]=a at*
  have hN:((a.s.length*a.s.length:Nat):Int)=(a.s.length:Int)*a.s.length:=xS _ _;unfold aan Ha;generalize (dO a.hh a.sc a.ox a.wx dx sh x fr).floor%(a.s.length:Int)=i;generalize (dO a.hh a.sc a.oy a.wy dy sh y fr).floor%(a.s.length:Int)=j;generalize iA (dO a.hh a.sc a.ox a.wx dx sh x fr)=f;generalize iA (dO a.hh a.sc a.oy a.wy dy sh y fr)=g;generalize aI a.st=S;refine⟨Prod.ext rfl (funext fun q=>?_),by show 0<=p.1+_;omega,fun q hq=>?_⟩
  .show (if Lay.low sh a=ycO then B8 p.2 p.1 a.s.length i j f g S 4 else p.2) q=ig (if Lay.low sh a=ycO then fJ p.2 p.1 a.s.length i j f g 4 else p.2) p.1 S (a.s.length*a.s.length) q
   unfold ig;rw[hN];by_cases hr:p.1<=q/\q<p.1+(a.s.length:Int)*a.s.length
   .rw [yK hr]
    split
    .exact (ahI (hz q hr.1) 4).symm
    .grind
   .rw [yx hr]
    split
    .rw [M6 (by omega) (by omega) h0 (by omega),ahH (by omega) (by omega) h0 (by omega)]
    .rfl
  .have bO:p.1+(a.s.length:Int)*a.s.length<=q:=hq;show ig _ p.1 S (a.s.length*a.s.length) q=0
   unfold ig;rw[hN,yx (by omega)]
   split
   .rw [M6 (by omega) (by omega) h0 (by omega)];exact hz q (by omega)
   .grind
def TY(s:dl):Prop:=s.1.length<9223372036854775808/\s.2.1.length<9223372036854775808/\s.2.2.length<9223372036854775808
def alr(p:cV):Prop:=p.1.length<9223372036854775808/\p.2.length<9223372036854775808
noncomputable def Dr(l:List Lay)(fr:Int)(N:Nat)(sl:List dl)(pl:List cV):List (List Rat):=(sl.map fun s=>pl.map fun p=>ji l fr N s p).flatten
def X4{l:List Lay}{fr:Int}{N:Nat}{pl:List cV}:∀(sl:List dl),nj l fr N sl pl=(Dr l fr N sl pl).map fun r=>r.map RT
 | []=>rfl
 | s::sl=>by
  have ih:=X4 (l:=l) (fr:=fr) (N:=N) (pl:=pl) sl;unfold nj Dr at*
  rw[yS,wq,ih,yS,wq,yX];simp[Sg]
def ahJ{l:List Lay}{pl:List cV}{sl:List dl}{r:List Rat}(h:r∈Dr l fr N sl pl):∃s,s∈sl/\∃p,p∈pl/\r=ji l fr N s p:=by
 unfold Dr at h;have⟨a,h1,h2⟩:=List.mem_flatten.1 h;obtain⟨s,hs,rfl⟩:=xj.1 h1;obtain⟨p,hp,rfl⟩:=xj.1 h2;exact⟨s,hs,p,hp,rfl⟩
abbrev aCH:Ty:=.cat (.sl TL) (.cat (.sl GW) (.cat (.int .i64) .nil))
def agA:∀{ps:List (List AV)},(∀p,p∈ps->iX TL p)->∃l:List dl,ps=l.map Vt/\∀p,p∈l->TY p
 | [],_=>⟨[],rfl,(fun _ h=>by cases h)⟩
 | p::ps,h=>by
  obtain⟨x,y,z,rfl,hx,hy,hz⟩:=au0 (h p xA);have⟨l,h1,h2⟩:=agA (ps:=ps) (fun q hq=>h q (xi _ hq));refine⟨(x,y,z)::l,by rw[h1];rfl,fun q hq=>?_⟩
  rcases wj.1 hq with rfl | hq
  .exact ⟨hx,hy,hz⟩
  .exact h2 q hq
def axP{l:List AV}(h:iX (.sl TL) l):∃(v:AV) (m:List dl),l=[v]/\jP v m/\∀p,p∈m->TY p:=by
 rcases h with rfl | ⟨x,ps,rfl,h⟩
 .exact ⟨_,[],rfl,Se,fun _ h=>by cases h⟩
 .obtain ⟨m,rfl,h2⟩:=agA h
  exact⟨_,m,rfl,Nq x (fun p hp=>by obtain⟨a,_,rfl⟩:=xj.1 hp;rfl),h2⟩
section
variable {a b r:List Rat}{c i w:Nat}
abbrev Mx:=List (List Rat)
def Bh(a b:List Rat)(x y:Rat):List Rat:=vJ (fun p q=>p*x+q*y) a b
def SO{y:Rat}(h:a.length=b.length):(Bh a b x y).length=a.length:=by
 simp[Bh,h]
def aiX{y:Rat}(ha:i<a.length)(hb:i<b.length)(h:i<(Bh a b x y).length):(Bh a b x y)[i]=a[i]*x+b[i]*y:=by
 simp[Bh]
def gR(m:Mx)(i:Nat):List Rat:=m.getD i []
def aO(r:List Rat)(c:Nat):Rat:=r.getD c 0
def di{m:Mx}(h:i<m.length):gR m i=m[i]:=by
 simp[gR,yW,xz h]
def dw(h:i<r.length):aO r i=r[i]:=by
 simp[aO,yW,xz h]
def oT(m:Mx)(i j:Nat)(r:List Rat):gR (m.set i r) j=if i=j/\j<m.length then r else gR m j:=by
 simp only[gR,yW,ybt]
 grind
def rT(m:Mx)(c:Nat):Nat->Nat->Nat
 | 0,p=>p
 | d+1,p=>if aO (gR m p) c=0 then rT m c d (p+1) else p
def ZN(m:Mx)(c:Nat):∀d p,p<=rT m c d p/\rT m c d p<=p+d
 | 0,p=>⟨ym _,ym _⟩
 | d+1,p=>by
  have:=ZN m c d (p+1)
  simp only[rT];split<;>lia
def aiY(m:Mx)(c:Nat):∀d p,rT m c d p<p+d->aO (gR m (rT m c d p)) c≠0
 | 0,p,h=>by simp only[rT] at h;lia
 | d+1,p,h=>by
  simp only[rT] at h ⊢
  split
  .rename_i h0;rw[yK h0] at h;exact aiY m c d (p+1) (by lia)
  .grind
def fK(m:Mx)(i j:Nat):Mx:=(m.set i (gR m j)).set j (gR m i)
def Bi(m:Mx)(a c:Nat):Mx:=m.set a (Bh (gR m a) (gR m a) (aO (gR m a) c)⁻¹ 0)
def Bj(m:Mx)(a c i:Nat):Mx:=if i≠a/\aO (gR m i) c≠0 then m.set i (Bh (gR m i) (gR m a) 1 (-(aO (gR m i) c))) else m
def oN(m:Mx)(a c:Nat):Nat->Mx
 | 0=>m
 | i+1=>Bj (oN m a c i) a c i
def dc(s:Mx×List Nat)(c:Nat):Nat:=rT s.1 c (s.1.length-s.2.length) s.2.length
def pK(s:Mx×List Nat)(c:Nat):Mx:=Bi (fK s.1 s.2.length (dc s c)) s.2.length c
def mw(s:Mx×List Nat)(c:Nat):Mx×List Nat:=
 if dc s c<s.1.length then (oN (pK s c) s.2.length c s.1.length,s.2++[c]) else s
def cC(m:Mx):Nat->Mx×List Nat
 | 0=>(m,[])
 | c+1=>mw (cC m c) c
def YA(m:Mx)(i j:Nat):(fK m i j).length=m.length:=by simp[fK]
def axQ(m:Mx)(a c:Nat):(Bi m a c).length=m.length:=by simp[Bi]
def axR(m:Mx)(a c i:Nat):(Bj m a c i).length=m.length:=by unfold Bj;split<;>simp
def I3(m:Mx)(a c:Nat):∀i,(oN m a c i).length=m.length
 | 0=>rfl
 | i+1=>by rw[oN,axR,I3 m a c i]
def Nr(s:Mx×List Nat)(c:Nat):(pK s c).length=s.1.length:=by rw[pK,axQ,YA]
def axS(s:Mx×List Nat)(c:Nat):(mw s c).1.length=s.1.length:=by
 unfold mw;split
 .simp only [I3,Nr]
 .rfl
def Zc(m:Mx):∀c,(cC m c).1.length=m.length
 | 0=>rfl
 | c+1=>by rw[cC,axS,Zc m c]
def wid(w:Nat)(m:Mx):Prop:=∀i,i<m.length->(gR m i).length=w
def wid.set{m:Mx}(h:wid w m)(i:Nat)(hr:r.length=w):wid w (m.set i r):=fun j hj=>by
 rw[wI] at hj;rw[oT];split
 .grind
 .exact h j hj
def wid.fK{m:Mx}(h:wid w m){j:Nat}(hi:i<m.length)(hj:j<m.length):wid w (fK m i j):=(h.set i (h j hj)).set j (h i hi)
def wid.Bi{m:Mx}(h:wid w m){a:Nat}(ha:a<m.length)(c:Nat):wid w (Bi m a c):=h.set a (by rw[SO rfl];exact h a ha)
def wid.Bj{m:Mx}(h:wid w m){a:Nat}(ha:a<m.length)(hi:i<m.length)(c:Nat):wid w (Bj m a c i):=by
 unfold VE.Bj;split
 .exact h.set i (by rw[SO ((h i hi).trans (h a ha).symm)];exact h i hi)
 .exact h
def wid.oN{w:Nat}{m:Mx}(h:wid w m){a:Nat}(ha:a<m.length)(c:Nat):∀i,i<=m.length->wid w (oN m a c i)
 | 0,_=>h
 | i+1,hi=>by
  have ih:=wid.oN h ha c i (by lia);exact ih.Bj (by rw[I3];exact ha) (by rw[I3];lia) c
structure Pv(m:Mx)(w c:Nat)(s:Mx×List Nat):Prop where
 len:s.1.length=m.length
 wid:wid w s.1
 pv:s.2.length<=m.length
 lt:∀p,p∈s.2->p<c
def Pv.dc{m:Mx}{s:Mx×List Nat}(h:Pv m w c s)(c':Nat):s.2.length<=dc s c'/\dc s c'<=m.length:=by
 have:=ZN s.1 c' (s.1.length-s.2.length) s.2.length
 have h1:=h.len;have h2:=h.pv;unfold VE.dc;lia
def Pv.pK{m:Mx}{s:Mx×List Nat}(h:Pv m w c s){c':Nat}(hp:VE.dc s c'<s.1.length):VE.wid w (pK s c'):=by
 have h1:=(h.dc c').1;exact (h.wid.fK (by lia) hp).Bi (by rw[YA];lia) c'
def Pv.step{m:Mx}{s:Mx×List Nat}(h:Pv m w c s):Pv m w (c+1) (mw s c):=by
 have h1:=(h.dc c).1;have h2:=h.len;unfold mw;split
 .rename_i hp;refine⟨by simp only[I3,Nr,h2],(h.pK hp).oN (by rw[Nr];lia) c _ (by rw[Nr];lia),by simp only[yE,yB,yI];lia,fun p hp=>?_⟩
  rcases wm.1 hp with hp | hp
  .have:=h.lt p hp;lia
  .grind
 .exact ⟨h2,h.wid,h.pv,fun p hp=>by have:=h.lt p hp;lia⟩
def ajT{m:Mx}{w:Nat}(h:wid w m):∀c,Pv m w c (cC m c)
 | 0=>⟨rfl,h,uO _,fun p hp=>by cases hp⟩
 | c+1=>(ajT h c).step
def aiZ{m:Mx}{a c:Nat}:∀{n:Nat},n<=m.length->∀j,gR (oN m a c n) j=if j<n/\j≠a/\aO (gR m j) c≠0 then Bh (gR m j) (gR m a) 1 (-(aO (gR m j) c)) else gR m j
 | 0,_,j=>by rw[yx (by lia)];rfl
 | n+1,hn,j=>by
  have ih:=aiZ (m:=m) (a:=a) (c:=c) (n:=n) (by lia);have en:gR (oN m a c n) n=gR m n:=by simp_all
  have ea:gR (oN m a c n) a=gR m a:=by simp_all
  rw[oN];unfold Bj;rw[en,ea];by_cases h:n≠a/\aO (gR m n) c≠0
  .rw [yK h,oT];by_cases hj:n=j
   .subst hj;rw[yK ⟨rfl,by rw[I3];lia⟩,yK ⟨by lia,h⟩]
   .grind
  .grind
def iB(K:Nat)(m:Mx):Prop:=∀i,i<m.length->∀x,x∈gR m i->Hq K x
def iB.mono{m:Mx}(h:iB K m)(hK:K<=J):iB J m:=fun i hi x hx=>(h i hi x hx).mono hK
def avn{s:Mx×List Nat}(h:¬dc s c<s.1.length):mw s c=s:=yx h
end
section
variable {v:AV}{l:List (List Nat)}
def QN:dM (.int .i64 0)=Ix 0:=rfl
def Fp:dM (.int .i64 1)=Ix 1:=rfl
def agB:∀{ps:List (List AV)},(∀p,p∈ps->p.length=4)->ps.flatten.length=ps.length*4
 | [],_=>by simp
 | p::ps,h=>by
  have:=agB (ps:=ps) (fun q hq=>h q (xi _ hq))
  grind
def ab1(v:AV)(l:List Rat):Prop:=∃cs,v=.aF ycO l.length cs/\QL cs l
def ab1.fs{l:List Rat}(h:ab1 v l):cQ v l:=by
 obtain⟨cs,rfl,h⟩:=h;exact Ed ycO h
def aFC(h:Ck P L)(HH:Has P L 161 J9)(hv:bw v l)(hl:l.length<=1000000)(hs:∀s,s∈l->s.length<=1000000000):ah P L 161 [v] (aa (a6 (l.map aM))):=by
 unfold ah;rw[aB HH];simp only[go_sem,ya,J9,hv.len];have key:=dT P L [6,7,8] S4
  (fun k s=>∃i:Nat,s=⟨[(6,v),(7,aa l.length),(8,aa i)],[],0,0⟩/\i+k=l.length/\a6 ((l.drop i).map aM)=a6 (l.map aM))
  (fun ex s=>∃tm ct,s=⟨tm,[],ct,0⟩/\((ex=.ret/\ab tm 2=aa (a6 (l.map aM)))\/(ex=.exit 0/\a6 (l.map aM)=0))) ?_
 .generalize hq:D P L (.loop _ S4) _=q;obtain⟨ex,s,rfl,tm,ct,rfl,h2⟩:=bg hq (key l.length) ⟨0,by simp only[go_sem,ya,ao,aj hv.pu]<;>rfl,by omega,by simp⟩
  rcases h2 with ⟨rfl,h2⟩ | ⟨rfl,h2⟩
  .simp only [go_sem,h2]
  .rw [h2];simp only[go_sem,ao]
 .rintro k s ⟨i,rfl,hk,hf⟩;simp only[go_sem,ya,S4];by_cases hi:i<l.length
  .have bD:(i:Int)<l.length:=by omega
   have e1:=Il h (hs l[i] (yy hi));rw[agv hi] at hf;by_cases hz:aM l[i]=0
   .left
    rw[hz] at e1;simp only[go_sem,ya,bD,hv.aT hi,e1];refine⟨_,k-1,rfl,by omega,i+1,?_,by omega,by rw[yK hz] at hf;exact hf⟩
    rw[wrap64 (by omega) (by omega)];simp only[go_sem,ya,ao,aj hv.pu]<;>rfl
   .right
    simp only[go_sem,ya,bD,hv.aT hi,e1,hz];rw[yx hz] at hf;refine⟨_,_,rfl,by simp,_,_,rfl,.inl ⟨rfl,?_⟩⟩;simp only[go_sem,hf]
  .right
   have bD:¬(i:Int)<l.length:=by omega
   simp only[go_sem,bD];refine⟨_,_,rfl,by simp,_,_,rfl,.inr ⟨rfl,?_⟩⟩;rw[<-hf,yY (by omega)];rfl
def aFD(h:Ck P L)(FY:Has P L 88 KV)(hv:bw v l)(hl:l.length<=1000000)(hc:∀s,s∈l->aM s=0):∃r,ah P L 88 [v] r/\ab1 (shut r) (l.map aI):=by
 have zf:∀n,(ye (n+1) [AV.int .i64 0,.ae,.int .i64 0,.ae]).flatten=.int .i64 0:: .ae:: .int .i64 0:: .ae::(ye n [AV.int .i64 0,.ae,.int .i64 0,.ae]).flatten:=fun n=>by rw[wG,wq];rfl
 have zl:∀n,(ye n [AV.int .i64 0,.ae,.int .i64 0,.ae]).flatten.length=n*4:=fun n=>by
  rw[agB (fun p hp=>by rw[List.eq_of_mem_replicate hp];rfl),List.length_replicate]
 have key:=dT P L [3,9,10,11] Om
  (fun k st=>∃(i:Nat) (qs:List AV),i+k=l.length/\QL qs ((l.take i).map aI)/\st=⟨[(3,.av 0 0 l.length),(9,v),(10,aa l.length),(11,aa i)],[(0,.cells ycO ycO ycO 4 (qs++(ye (l.length-i) [AV.int .i64 0,.ae,.int .i64 0,.ae]).flatten))],1,0⟩)
  (fun ex st=>∃tm hp ct qs,QL qs (l.map aI)/\st=⟨tm,hp,ct,0⟩/\ex=.exit 0/\ab tm 3=.av 0 0 l.length/\au hp 0=Ix (.cells ycO ycO ycO 4 qs)) ?_
 .unfold ah;rw[aB FY];have mk:rE 0 4 64 [AV.int .i64 0,.ae,.int .i64 0,.ae] (Ix l.length) (Ix l.length)=Ix (.av 0 0 l.length,.cells ycO ycO ycO 4 (ye l.length [AV.int .i64 0,.ae,.int .i64 0,.ae]).flatten):=BF (by omega) (by omega) (by rfl) (by rfl);simp only[go_sem,ya,yb,KV,hv.len,nR (show (0:Int)<=l.length by omega),xx,mk];generalize hq:D P L (.loop _ Om) _=q;obtain⟨ex,st,rfl,tm,hp,ct,qs,nP,rfl,rfl,t3,g0⟩:=bg hq (key l.length) ⟨0,[],by omega,trivial,by simp only[go_sem,ya,yb,ao,aj hv.pu]<;>rfl⟩
  have qH:=nP.len;rw[yg] at qH;refine⟨.bR ycO 4 l.length qs,?_,?_⟩
  .simp only [go_sem,yb,ao,t3,g0];exact mW (fq _ _ _) qH (by decide)
  .exact ⟨qs,by rw[yg];rfl,nP⟩
 .rintro k st ⟨i,qs,A2,nP,rfl⟩;by_cases hi:i<l.length
  .left
   obtain⟨r,e2,hr⟩:=abW h (hc _ (yy hi));have bt:=hr;obtain⟨r1,r2,r3,r4,rfl,gr⟩:=hr.gen;have lq:qs.length=i*4:=by rw[nP.len,yg,yJ,xq (by omega)]
   have pr:=gr.qS;have aK:∀(hp:Hp) (ct:Nat),fN hp ct 0 (i*4) 4 [r1,r2,r3,r4] (Ix (.cells ycO ycO ycO 4 (qs++(ye (l.length-i) [AV.int .i64 0,.ae,.int .i64 0,.ae]).flatten)))=Ix (.ax [],aV hp 0 (.cells ycO ycO ycO 4 ((qs++[r1,r2,r3,r4])++(ye (l.length-(i+1)) [AV.int .i64 0,.ae,.int .i64 0,.ae]).flatten)),ct):=fun hp ct=>by
    rw[mb (by rfl) (by rw[yE,lq,zl];omega) (by simp[bP,gr.o1,gr.o2,gr.o3,gr.o4])];have hov:over (i*4) [r1,r2,r3,r4] (qs++(ye (l.length-i) [AV.int .i64 0,.ae,.int .i64 0,.ae]).flatten)=(qs++[r1,r2,r3,r4])++(ye (l.length-(i+1)) [AV.int .i64 0,.ae,.int .i64 0,.ae]).flatten:=by
     rw[show l.length-i=(l.length-(i+1))+1 by omega,zf];unfold over;rw[<-lq,tg,show qs.length+[r1,r2,r3,r4].length=qs.length+4 from rfl,<-vP,um];rfl
    rw[hov];simp[aD,pr.1,pr.2.1,pr.2.2.1,pr.2.2.2]
   simp only[go_sem,ya,Om,show (i:Int)<l.length by omega,hv.aT hi,e2,bf,nR (show (0:Int)<=i by omega),xx,b9 0 0 hi,yd,aK];refine⟨_,k-1,rfl,by omega,i+1,qs++[r1,r2,r3,r4],by omega,?_,?_⟩
   .rw [yk hi,yX];exact nP.snoc bt
   .rw [wrap64 (by omega) (by omega)];simp only[go_sem,ya,yb,ao,aj hv.pu]<;>rfl
  .right
   have:i=l.length:=by omega
   subst this;rw[yq (ym _)] at nP;simp only[go_sem,ya,Om,show ¬(l.length:Int)<l.length by omega,uj];exact⟨_,_,rfl,by simp,_,_,_,qs,nP,rfl,rfl,by simp only[go_sem,ya],by simp only[go_sem];simp⟩
def m88(h:Ck P L)(FY:Has P L 88 KV)(hv:bw v l)(hl:l.length<=1000000)(hc:∀s,s∈l->aM s=0):∃r,ah P L 88 [v] r/\cQ (shut r) (l.map aI):=by
 have⟨r,h1,h2⟩:=aFD h FY hv hl hc;exact⟨r,h1,h2.fs⟩
end
def dL{β:Type}(p:AV->β->Prop)(v:AV)(M:List β):Prop:=∃rows,dt v rows/\bZ p rows M
section
variable {β:Type}{p:AV->β->Prop}{v:AV}{s:List β}
def dL.len(h:dL p v s):fu hp 1 v=Ix (.int .i64 (s.length:Nat)):=by
 have⟨rows,h1,h2⟩:=h;rw[<-h2.len];exact h1.len
def dL.pu(h:dL p v s):aP v=ycO:=by have⟨rows,h1,h2⟩:=h;exact h1.pu
def dL.af(h:dL p v s)(n:Nat):freeze (n+1) hp v=Ix (v,hp):=by have⟨rows,h1,h2⟩:=h;exact h1.af n
def dL.one(h:dL p v s):bF v=ycO:=by have⟨rows,h1,h2⟩:=h;exact h1.one
def dL.cells(h:dL p v s):cellsOf v=[v]:=by have⟨rows,h1,h2⟩:=h;exact h1.cells
def dL.aT(h:dL p v s){i:Nat}(hi:i<s.length):∃r rest,p r s[i]/\iZ 1 i v=Ix (.aQ (r::rest)):=by
 have⟨rows,h1,h2⟩:=h;have bD:i<rows.length:=by rw[h2.len];exact hi
 exact⟨_,_,h2.get bD hi,h1.aT bD⟩
def agC:dL p .ae []:=⟨[],mY,trivial⟩
def M7(e:Bool){rows:List AV}(h:bZ p rows s):dL p (.aF e s.length rows) s:=by
 have:=Nj e rows
 rw[h.len] at this;exact⟨rows,this,h⟩
end
noncomputable def qU(w:Nat)(r:List (List Nat)):Int:=a6 [if r.length=0 then 12 else 0,if 64<r.length then 5 else 0,if r.length=w then 0 else 2,a6 (r.map aM)]
noncomputable def qV(M:List (List (List Nat))):Int:=if M.length=0 then 12 else if 64<M.length then 5 else a6 (M.map (qU (M.getD 0 []).length))
def JR{β:Type}{M:List (List β)}(h:0<M.length):M.getD 0 []=M[0]:=by simp_all
def oV(id:Nat):Nat->AV
 | 0=>.ae
 | n+1=>.av id 0 (n+1)
def oH(id z:Nat)(cs:List AV)(r:Hp):Nat->Hp
 | 0=>r
 | _+1=>(id,.cells ycO ycO ycP z cs)::r
def oC(id:Nat):Nat->Nat
 | 0=>id
 | _+1=>id+1
def aFE(h:Ck P L)(HH:Has P L 161 J9)(Py:Has P L 126 OG){r:AV}{l:List (List Nat)}(hv:dL bw v M)(hM:0<M.length)(hr:bw r l)(hl:l.length<=1000000)(hs:∀s,s∈l->s.length<=1000000000):ah P L 126 [r,.aQ [v]] (aa (qU (M.getD 0 []).length l)):=by
 have⟨r0,rest,h0,e0⟩:=hv.aT (i:=0) hM;rw[JR hM];have e1:=rF h.zY (decide ((l.length:Int)=0)) 12;have e2:=rF h.zY (decide ((64:Int)<l.length)) 5;have e3:=rF h.zY (!decide ((l.length:Int)=(M[0].length:Nat))) 2;have e4:=aFC h HH hr hl hs;have q1:(if decide ((l.length:Int)=0)=ycO then (12:Int) else 0)=if l.length=0 then 12 else 0:=by
  simp only[wN];split<;>lia
 have q2:(if decide ((64:Int)<l.length)=ycO then (5:Int) else 0)=if 64<l.length then 5 else 0:=by
  simp only[wN];split<;>lia
 have q3:(if (!decide ((l.length:Int)=(M[0].length:Nat)))=ycO then (2:Int) else 0)=if l.length=M[0].length then 0 else 2:=by
  simp only[Bool.not_eq_true',vT];split<;>lia
 rw[q1] at e1;rw[q2] at e2;rw[q3] at e3;have e5:ah P L 125 _ _:=Nd.abH h.abI (fZ ycO [if l.length=0 then (12:Int) else 0,if 64<l.length then 5 else 0,if l.length=M[0].length then 0 else 2,a6 (l.map aM)]) (by simp);unfold qU;simp only[yB,yI,yS,wu] at e5;unfold ah at e1 e2 e3 e4 e5 ⊢;rw[aB Py];simp only[go_sem,ya,yb,yA,yi,yf,OG,hr.len,hr.af,e1,e2,QN,e0,h0.len,e3,e4,e5]
def aFF(Pz:Has P L 127 OH)(hv:dL bw v M)(hl:M.length<=1000000){g:Nat}(hc:aD cap=ycO)(hz:∀(n:Nat) (hp:Hp),cm (n+900) hp cap=Ix (cap,hp)){f:List (List Nat)->Int}(hg:∀w a,a∈M->bw w a->ah P L g (w::cap) (aa (f a))):ah P L 127 [v,.fn (.f g) [] cap] (aa (a6 (M.map f))):=by
 have pf:aP (.fn (.f g) [] cap)=ycO:=by simp[aP,aD,hc]
 have key:=dT P L [1,8,9,10] SZ
  (fun k s=>∃i:Nat,s=⟨[(1,.fn (.f g) [] cap),(8,v),(9,aa M.length),(10,aa i)],[],0,0⟩/\i+k=M.length/\a6 ((M.drop i).map f)=a6 (M.map f))
  (fun ex s=>∃tm ct,s=⟨tm,[],ct,0⟩/\((ex=.ret/\ab tm 4=aa (a6 (M.map f)))\/(ex=.exit 0/\a6 (M.map f)=0))) ?_
 .unfold ah;rw[aB Pz];simp only[go_sem,ya,OH,hv.len];generalize hq:D P L (.loop _ SZ) _=q;obtain⟨ex,s,rfl,tm,ct,rfl,h2⟩:=bg hq (key M.length) ⟨0,by simp only[go_sem,ya,ao,aj hv.pu,aj pf]<;>rfl,by lia,by simp⟩
  rcases h2 with ⟨rfl,h2⟩ | ⟨rfl,h2⟩
  .simp only [go_sem,h2]
  .rw [h2];simp only[go_sem,ao]
 .rintro k s ⟨i,rfl,hk,hf⟩;simp only[go_sem,ya,SZ];by_cases hi:i<M.length
  .have bD:(i:Int)<M.length:=by lia
   have⟨r,rest,hr,e0⟩:=hv.aT hi;have e1:=hg r _ (yy hi) hr;rw[yP hi,yS] at hf;simp only[a6] at hf;by_cases dj:f M[i]=0
   .left
    rw[dj] at e1;simp only[go_sem,ya,bD,e0,hr.af,hz,e1];refine⟨_,k-1,rfl,by lia,i+1,?_,by lia,by rw[yK dj] at hf;exact hf⟩
    rw[wrap64 (by lia) (by lia)];simp only[go_sem,ya,ao,aj hv.pu,aj pf]<;>rfl
   .right
    simp only[go_sem,ya,bD,e0,hr.af,hz,e1,dj];rw[yx dj] at hf;refine⟨_,_,rfl,by simp,_,_,rfl,.inl ⟨rfl,?_⟩⟩;simp only[go_sem,hf]
  .right
   have bD:¬(i:Int)<M.length:=by lia
   simp only[go_sem,bD];refine⟨_,_,rfl,by simp,_,_,rfl,.inr ⟨rfl,?_⟩⟩;rw[<-hf,yY (by lia)];rfl
def m84(h:Ck P L)(HH:Has P L 161 J9)(Py:Has P L 126 OG)(Pz:Has P L 127 OH)(h84:Has P L 84 KU)(hv:dL bw v M)(hl:M.length<=1000000)(hr:∀r,r∈M->r.length<=1000000/\∀s,s∈r->s.length<=1000000000):ah P L 84 [v] (aa (qV M)):=by
 have e1:=rF h.zY (decide ((M.length:Int)=0)) 12;have e2:=rF h.zY (decide ((64:Int)<M.length)) 5;have e3:∀a b:Int,ah P L 125 _ _:=fun a b=>Nd.abH h.abI (fZ ycO [a,b]) (by simp)
 unfold qV;unfold ah at e1 e2 e3 ⊢;rw[aB h84];by_cases h0:M.length=0
 .rw [yK h0];rw[show decide ((M.length:Int)=0)=ycO by simp only[wN];lia] at e1
  rw[show decide ((64:Int)<M.length)=ycP by simp only[vT];lia] at e2
  have e4:bM P L (D P L) 125 [.aF ycO 2 [aa 12,aa 0]]=Ix (aa 12):=e3 12 0;simp only[xL,yH,xr] at e1 e2;simp only[go_sem,ya,yb,yA,yi,yf,KU,hv.len,hv.pu,hv.one,hv.cells,TG,show (M.length:Int)=0 by lia,yo,show ¬(64:Int)<0 by lia,yp,e1,e2,e4,uf,yQ]
 rw[yx h0];rw[show decide ((M.length:Int)=0)=ycP by simp only[vT];lia] at e1
 by_cases Cs:64<M.length
 .rw [yK Cs];rw[show decide ((64:Int)<M.length)=ycO by simp only[wN];lia] at e2
  have e4:bM P L (D P L) 125 [.aF ycO 2 [aa 0,aa 5]]=Ix (aa 5):=e3 0 5;simp only[xL,yH,xr] at e1 e2;simp only[go_sem,ya,yb,yA,yi,yf,KU,hv.len,hv.pu,hv.one,hv.cells,TG,show ¬(M.length:Int)=0 by lia,yo,show (64:Int)<(M.length:Int) by lia,yp,e1,e2,e4,uf,yQ]
 .rw [yx Cs];rw[show decide ((64:Int)<M.length)=ycP by simp only[vT];lia] at e2
  have e4:bM P L (D P L) 125 [.aF ycO 2 [aa 0,aa 0]]=Ix (aa 0):=e3 0 0;have e5:=aFF Pz hv hl (g:=126) (cap:=[.aQ [v]]) rfl (fun _ _=>rfl) (fun w a ha hw=>aFE h HH Py hv (by lia) hw (hr a ha).1 (hr a ha).2);simp only[yH,xr] at e1 e2;simp only[go_sem,ya,yb,yA,yi,yf,KU,hv.len,hv.pu,hv.af,hv.one,hv.cells,TG,show ¬(M.length:Int)=0 by lia,show ¬(64:Int)<(M.length:Int) by lia,yp,e1,e2,e4,e5,yo,yM]
def bZ.set{α β:Type}{p:α->β->Prop}:∀{l:List α} {m:List β} (i:Nat) {a:α} {b:β},bZ p l m->p a b->bZ p (l.set i a) (m.set i b)
 | [],[],i,_,_,_,_=>by simp[bZ]
 | _::_,_::_,0,_,_,h,k=>⟨k,h.2⟩
 | _::_,_::_,i+1,_,_,h,k=>⟨h.1,bZ.set i h.2 k⟩
def aFG(a:Rat):decide (cA a.num=0)=decide (a=0):=by
 have:cA a.num=0↔a=0:=by
  rw[<-Rat.num_eq_zero];unfold cA
  grind
 grind
def PA(hp:Hp)(ct sz:Nat)(q:Option (Nat×List AV))(d:AV):iS:=
 match q,d with
 | some (m,new),.av id o n=>
  match au hp id with
  | some (.cells ycO pu ex z cs)=>
   bif yG z sz&&(yO (o+n*sz) cs.length&&bP new) then
    Ix (.int .i64 (min m n:Nat),aV hp id (.cells ycO (pu&&aD new) ex z (over o (new.take (min m n*sz)) cs)),ct)
   else Iy
  | _=>Iy
 | _,_=>Iy
def aAL{P:aJ}{L:Lib}{f:cG}(sz:Nat)(d s:X):bq P L f tm hp ct (.rK sz d s)=PA hp ct sz (nT hp sz (aC tm s)) (aC tm d):=by
 show du tm hp ct (.rK sz d s)=_
 simp only[du,PA]
 cases nT hp sz (aC tm s) with
 | none=>rfl
 | some q=>have⟨m,new⟩:=q;cases aC tm d<;>rfl
noncomputable def ij(M:List (List (List Nat))):Mx:=M.map (vj aI)
abbrev wd{β:Type}(M:List (List β)):Nat:=(M.getD 0 []).length
def ZO(h:qV M=0):0<M.length/\M.length<=64/\∀r,r∈M->r.length=wd M/\0<r.length/\r.length<=64/\∀s,s∈r->aM s=0:=by
 unfold qV at h
 split at h
 .grind
 .split at h
  .grind
  .refine ⟨by lia,by lia,fun r hr=>?_⟩;have h1:=IJ h r hr;have⟨a1,h1⟩:=oO.1 h1;have⟨a2,h1⟩:=oO.1 h1;have⟨a3,h1⟩:=oO.1 h1;have⟨a4,_⟩:=oO.1 h1;refine⟨?_,?_,?_,IJ a4⟩
   .grind
   .grind
   .grind
def YB(h:∀r,r∈M->r.length=wd M):wid (wd M) (ij M):=fun i hi=>by
 unfold ij at hi ⊢;rw[di hi,xm,yg]
 grind
def YC(M:List (List (List Nat))):(ij M).length=M.length:=yg _
def I4{M:Mx}(h:iB K M){r:List Rat}(hr:r∈M):∀x,x∈r->Hq K x:=by
 obtain⟨i,hi,rfl⟩:=we.1 hr
 have:=h i hi
 rwa[di hi] at this
def rU(R:Mx)(pv:List Nat)(n c:Nat):Nat->List Rat
 | 0=>(ye n 0).set c 1
 | i+1=>(rU R pv n c i).set (pv.getD i 0) (-(aO (gR R i) c))
def HI(R:Mx)(pv:List Nat)(n:Nat):Nat->Mx
 | 0=>[]
 | c+1=>if pv.contains c=ycO then HI R pv n c else HI R pv n c++[rU R pv n c pv.length]
def als(M:Mx)(W:Nat):Mx:=HI (cC M W).1 (cC M W).2 W W
def Zd(R:Mx)(pv:List Nat)(n c:Nat):∀i,(rU R pv n c i).length=n
 | 0=>by simp[rU]
 | i+1=>by rw[rU,wI,Zd R pv n c i]
def YD{R:Mx}{pv:List Nat}{n:Nat}:∀{c:Nat} {r:List Rat},r∈HI R pv n c->∃d,d<c/\pv.contains d=ycP/\r=rU R pv n d pv.length
 | 0,r,h=>by cases h
 | c+1,r,h=>by
  unfold HI at h
  split at h
  .have ⟨d,h1,h2⟩:=YD h;exact⟨d,by lia,h2⟩
  .rename_i hc;rcases wm.1 h with h | h
   .have ⟨d,h1,h2⟩:=YD h;exact⟨d,by lia,h2⟩
   .grind
abbrev z4:List AV:=[AV.int .i64 0,.ae,.int .i64 0,.ae]
def ajU(n:Nat):(ye n z4).flatten.length=n*4:=by simp_all
def ahK{id i m:Nat}{qs:List AV}(lq:qs.length=i*4)(gr:F4 r1 r2 r3 r4):
  fN hp ct id (i*4) 4 [r1,r2,r3,r4] (Ix (.cells ycO ycO ex 4 (qs++(ye (m+1) z4).flatten)))=Ix (.ax [],aV hp id (.cells ycO ycO ex 4 ((qs++[r1,r2,r3,r4])++(ye m z4).flatten)),ct):=by
 have pr:=gr.qS;rw[mb (by rfl) (by rw[yE,lq,ajU];lia) (by simp[bP,gr.o1,gr.o2,gr.o3,gr.o4])]
 have hov:over (i*4) [r1,r2,r3,r4] (qs++(ye (m+1) z4).flatten)=(qs++[r1,r2,r3,r4])++(ye m z4).flatten:=by
  unfold over
  grind
 rw[hov];simp[aD,pr.1,pr.2.1,pr.2.2.1,pr.2.2.2]
def QL.over:∀{l:List Rat} {cs:List AV} {i:Nat} {a b c d:AV} {x:Rat},QL cs l->i<l.length->bE (.agg [a,b,c,d]) x->QL (VE.over (i*4) [a,b,c,d] cs) (l.set i x)
 | [],_,i,_,_,_,_,_,_,hi,_=>absurd hi (vh i)
 | y::l,cs,0,a,b,c,d,x,h,_,hx=>by
  obtain⟨a',b',c',d',r,rfl,_,h2⟩:=h.inv;exact⟨hx,h2⟩
 | y::l,cs,i+1,a,b,c,d,x,h,hi,hx=>by
  obtain⟨a',b',c',d',r,rfl,h1,h2⟩:=h.inv;have ih:=QL.over (i:=i) h2 (by simpa using hi) hx;have e:VE.over ((i+1)*4) [a,b,c,d] (a'::b'::c'::d'::r)=a'::b'::c'::d'::VE.over (i*4) [a,b,c,d] r:=by
   unfold VE.over
   grind
  rw[e];exact⟨h1,ih⟩
def stQ{id i:Nat}{cs:List AV}{l:List Rat}(h:QL cs l)(hi:i<l.length)(gr:F4 r1 r2 r3 r4):
  fN hp ct id (i*4) 4 [r1,r2,r3,r4] (Ix (.cells ycO ycO ex 4 cs))=Ix (.ax [],aV hp id (.cells ycO ycO ex 4 (VE.over (i*4) [r1,r2,r3,r4] cs)),ct):=by
 have pr:=gr.qS
 have:=h.len
 rw[mb (by rfl) (by lia) (by simp[bP,gr.o1,gr.o2,gr.o3,gr.o4])];simp[aD,pr.1,pr.2.1,pr.2.2.1,pr.2.2.2]
def zG{w:Nat}{m:Mx}(h:wid w m){r:List Rat}(hr:r∈m):r.length=w:=by
 obtain⟨i,hi,rfl⟩:=we.1 hr
 have:=h i hi
 rwa[di hi] at this
def W1(a:List Rat)(B:Mx)(c:Nat):Nat->Rat
 | 0=>0
 | k+1=>W1 a B c k+aO a k*aO (gR B k) c
def mulR(a:List Rat)(B:Mx)(w:Nat):List Rat:=(wO w).map fun c=>W1 a B c a.length
def Fm(A B:Mx)(w:Nat):Mx:=A.map fun a=>mulR a B w
def ahL(a:List Rat)(B:Mx)(w:Nat):(mulR a B w).length=w:=by simp[mulR]
def Hc{r:List Rat}{c:Nat}(h:∀x,x∈r->Hq K x)(hK:2<=K):Hq K (aO r c):=by
 unfold aO;rw[yW]
 cases hq:r[c]? with
 | none=>exact B6.mono hK
 | some y=>exact h y (List.mem_of_getElem? hq)
def pH(i c:Nat)(rows cs:List AV):Hp:=oH (oC 0 i) 4 cs (oH 0 1 rows [] i) c
def afC(id:Nat)(o:Obj)(j:Nat):∀hp:Hp,au (aV hp id o) j=if j=id then (au hp id).map (fun _=>o) else au hp j
 | []=>by by_cases h:j=id<;>simp[aV,au,h]
 | (i,u)::r=>by
  have ih:=afC id o j r;by_cases h1:i=id
  .subst h1;rw[ahc];by_cases h2:j=i
   .subst h2;rw[yK rfl,fq,fq];rfl
   .rw [yx h2,fO _ _ (fun e=>h2 e.symm),fO _ _ (fun e=>h2 e.symm)]
  .rw [XU _ _ _ h1];by_cases h2:j=i
   .subst h2;rw[yx h1,fq,fq]
   .rw [fO _ _ (fun e=>h2 e.symm),ih,fO _ _ h1,fO _ _ (fun e=>h2 e.symm)]
def iP{id:Nat}{u:Obj}(h:au hp id=Ix u)(o:Obj)(j:Nat):au (aV hp id o) j=if j=id then Ix o else au hp j:=by
 rw[afC,h];rfl
def RD(id j:Nat):∀hp:Hp,au (eJ hp id) j=if j=id then Iy else au hp j
 | []=>by split<;>rfl
 | (i,u)::r=>by
  have ih:=RD id j r;by_cases h1:i=id
  .subst h1;rw[ahd,ih];by_cases h2:j=i
   .grind
   .rw [yx h2,yx h2,fO _ _ (fun e=>h2 e.symm)]
  .rw [agf _ _ h1];by_cases h2:j=i
   .subst h2;rw[yx h1,fq,fq]
   .rw [fO _ _ (fun e=>h2 e.symm),ih,fO _ _ (fun e=>h2 e.symm)]
def ahM(i:Nat):∀l:List Nat,me i l=ycO↔i∈l
 | []=>by simp[me]
 | j::r=>by
  by_cases h:j=i
  .subst h;simp[ahg]
  .rw [XV _ h,ahM i r]
   grind
def avo{i:Nat}{l:List Nat}(h:i∉l):me i l=ycP:=by
 cases hq:me i l with
 | false=>rfl
 | true=>exact absurd ((ahM i l).1 hq) h
def Ze(hp:Hp):∀(ids seen iq:List Nat) (n:Nat),ids.length<n->(∀i,i∈ids->∃o,au hp i=Ix o/\lZ o=[])->ids.Nodup->(∀i,i∈ids->i∉seen)->pE hp n (ids++iq) seen=pE hp (n-ids.length) iq (seen++ids)
 | [],seen,iq,n,_,_,_,_=>by simp
 | i::ids,seen,iq,0,h,_,_,_=>by simp at h
 | i::ids,seen,iq,n+1,h,h1,h2,h3=>by
  obtain⟨o,g,e⟩:=h1 i xA;have hn:=vz.1 h2
  rw[xC,M1,avo (h3 i xA),NX,g,NY,e,xy,Ze hp ids (seen++[i]) iq n (by simpa using h) (fun j hj=>h1 j (xi _ hj)) hn.2 (fun j hj hm=>by
   rcases wm.1 hm with hm | hm
   .grind
   .simp only [wD] at hm
    subst hm;exact hn.1 hj)]
  grind
def ai0(hp:Hp){n:Nat}(h:0<n)(seen:List Nat):pE hp n [] seen=seen:=by
 obtain⟨m,rfl⟩:∃m,n=m+1:=⟨n-1,by lia⟩;exact aiB hp m seen
def YE(hp:Hp)(f:Nat->Option Nat):∀(seen:List Nat) (k:Nat) (acc:Hp) (j:Nat),j<k->au (js hp f seen k acc) j=au acc j
 | [],k,acc,j,_=>rfl
 | id::r,k,acc,j,h=>by
  rw[js]
  cases au hp id with
  | none=>exact YE hp f r (k+1) acc j (by omega)
  | some o=>
   rw[YE hp f r (k+1) _ j (by omega),fO _ _ (by omega)]
def afD(hp:Hp)(f:Nat->Option Nat):∀(seen:List Nat) (k:Nat) (acc:Hp) (j:Nat) (h:j<seen.length) (o:Obj),au hp seen[j]=Ix o->au (js hp f seen k acc) (k+j)=Ix (jY f o)
 | id::r,k,acc,0,_,o,ho=>by
  simp only[wJ] at ho;rw[js];simp only[ho];show au (js hp f r (k+1) ((k,jY f o)::acc)) k=_
  rw[YE hp f r (k+1) _ k (by omega),fq]
 | id::r,k,acc,j+1,h,o,ho=>by
  have:=fun Dc=>afD hp f r (k+1) Dc j (by simpa using h) o ho
  rw[js,show k+(j+1)=k+1+j by omega]
  cases au hp id with
  | none=>exact this _
  | some u=>exact this _
def Gs:∀(seen:List Nat) (k j:Nat) (h:j<seen.length),seen.Nodup->fG seen[j] seen k=Ix (k+j)
 | s::r,k,0,_,_=>by simp only[wJ,xg];exact aiC s r k
 | s::r,k,j+1,h,hn=>by
  have hn:=vz.1 hn;have hj:j<r.length:=by simp_all
  simp only[tj];rw[ahh _ _ (fun e=>hn.1 (by rw[e];exact yy hj)),Gs r (k+1) j hj hn.2]
  grind
def aeA{seen:List Nat}(hr:pE hp 100000 (gY (cT tm live)) []=seen):
  ∃aq,bW live ⟨tm,hp,ct,0⟩=⟨je (pos seen) (cT tm live),aq,seen.length,0⟩/\∀j (h:j<seen.length) o,au hp seen[j]=Ix o->au aq j=Ix (jY (pos seen) o):=by
 refine⟨js hp (pos seen) seen 0 [],by rw[ao,hr,aiD],fun j h o ho=>?_⟩
 have:=afD hp (pos seen) seen 0 [] j h o ho
 grind
def cr(r:List Rat):List AV:=r.map fun x=>.str (RT x)
def GX(r:List Rat):(cr r).length=r.length:=yg _
def ai1{r:List Rat}{c:Nat}(h:c<r.length):xK c (cr r)=.str (RT (aO r c))::xK (c+1) (cr r):=by
 rw[yP (by rw[GX];exact h),dw h];simp[cr]
def GY(e:Bool)(r:List Rat):bw (.aF e r.length (cr r)) (r.map RT):=by
 have:=Gr e (r.map RT)
 rw[yg,vH] at this;exact this
def jw(a:Nat)(ids pl:List Nat):List Nat:=a::(ids++pl)
def avp{m:Mx}{i:Nat}(h:i<m.length):m.set i (gR m i)=m:=by
 rw[di h];exact List.set_getElem_self h
def aFH(h:Rm P L)(B5:Has P L 261 Ka)(PB:Has P L 343 Kd)(hv:dL bw v M)(hr:∀r,r∈M->∀s,s∈r->s.length<9223372036854775808):ah P L 343 [v] (aa (qV M)):=by
 unfold qV;by_cases h0:M.length=0
 .rw [yK h0];unfold ah;rw[aB PB];simp only[go_sem,ya,Kd,hv.len,show (M.length:Int)=0 by lia,yo]
 rw[yx h0];by_cases Cs:64<M.length
 .rw [yK Cs];unfold ah;rw[aB PB];simp only[go_sem,ya,Kd,hv.len,show ¬(M.length:Int)=0 by lia,show (64:Int)<M.length by lia,yo,yp]
 rw[yx Cs];have⟨r0,aao,gK,e0⟩:=hv.aT (i:=0) (by lia);rw[JR (by lia)];have key:=dT P L [0,3] CV
  (fun k st=>∃i:Nat,st=⟨[(0,v),(3,aa i)],[],0,0⟩/\i+k=M.length/\a6 ((M.drop i).map (qU M[0].length))=a6 (M.map (qU M[0].length)))
  (fun ex st=>∃tm hp ct,st=⟨tm,hp,ct,0⟩/\((ex=.ret/\ab tm 2=aa (a6 (M.map (qU M[0].length))))\/(ex=.exit 0/\a6 (M.map (qU M[0].length))=0))) ?_
 .unfold ah;rw[aB PB];simp only[go_sem,ya,Kd,hv.len,show ¬(M.length:Int)=0 by lia,show ¬(64:Int)<M.length by lia,yp];generalize hq:D P L (.loop _ CV) _=q;obtain⟨ex,st,rfl,tm,hp,ct,rfl,h2⟩:=bg hq (key M.length) ⟨0,by simp only[go_sem,ya,ao,aj hv.pu]<;>rfl,by lia,by simp⟩
  rcases h2 with ⟨rfl,h2⟩ | ⟨rfl,h2⟩
  .simp only [go_sem,h2]
  .rw [h2];simp only[go_sem,ao]
 .rintro k st ⟨i,rfl,hk,hf⟩;by_cases hi:i<M.length
  .have ⟨r,rest,bQ,e1⟩:=hv.aT hi;have hm:=hr _ (yy hi);rw[ap2 hi] at hf;have w3:IntKind.wrap .i64 ((i:Int)+1)=((i+1:Nat):Int):=wrap64 (by lia) (by lia);by_cases c1:M[i].length=0
   .right
    have hE:qU M[0].length M[i]=12:=by unfold qU;rw[yK c1];rfl
    rw[hE,yx (by decide)] at hf;simp only[go_sem,ya,CV,hv.len,show (i:Int)<M.length by lia,e1,bQ.len,show (M[i].length:Int)=0 by lia,yo];exact⟨_,_,rfl,by simp,_,_,_,rfl,.inl ⟨rfl,by rw[<-hf];simp only[go_sem]⟩⟩
   by_cases c2:64<M[i].length
   .right
    have hE:qU M[0].length M[i]=5:=by unfold qU;rw[yx c1,yK c2];rfl
    rw[hE,yx (by decide)] at hf;simp only[go_sem,ya,CV,hv.len,show (i:Int)<M.length by lia,e1,bQ.len,show ¬(M[i].length:Int)=0 by lia,show (64:Int)<(M[i].length:Nat) by lia,yo,yp];exact⟨_,_,rfl,by simp,_,_,_,rfl,.inl ⟨rfl,by rw[<-hf];simp only[go_sem]⟩⟩
   have e2:=TQ h B5 bQ (by lia) hm;unfold ah at e2;by_cases c3:M[i].length=M[0].length
   .have iw:decide ((M[i].length:Int)=(M[0].length:Nat))=ycO:=xG (by lia);have hE:qU M[0].length M[i]=a6 (M[i].map aM):=by
     unfold qU;rw[yx c1,yx c2,yK c3];show a6 [0,0,0,a6 (M[i].map aM)]=_
     generalize a6 (M[i].map aM)=q;by_cases h:q=0<;>simp[a6,h]
    rw[hE] at hf;by_cases c4:a6 (M[i].map aM)=0
    .left
     rw[yK c4] at hf;rw[c4] at e2;simp only[go_sem,ya,CV,hv.len,show (i:Int)<M.length by lia,e1,bQ.len,bQ.af,show ¬(M[i].length:Int)=0 by lia,show ¬(64:Int)<(M[i].length:Nat) by lia,yo,yp,QN,e0,gK.len,iw,yM,e2];refine⟨_,k-1,rfl,by lia,i+1,?_,by lia,hf⟩;rw[w3];simp only[go_sem,ya,ao,aj hv.pu]<;>rfl
    .right
     rw[yx c4] at hf;simp only[go_sem,ya,CV,hv.len,show (i:Int)<M.length by lia,e1,bQ.len,bQ.af,show ¬(M[i].length:Int)=0 by lia,show ¬(64:Int)<(M[i].length:Nat) by lia,yo,yp,QN,e0,gK.len,iw,yM,e2,c4,yQ];exact⟨_,_,rfl,by simp,_,_,_,rfl,.inl ⟨rfl,by rw[<-hf];simp only[go_sem]⟩⟩
   .right
    have hE:qU M[0].length M[i]=2:=by unfold qU;rw[yx c1,yx c2,yx c3];rfl
    rw[hE,yx (by decide)] at hf;simp only[go_sem,ya,CV,hv.len,show (i:Int)<M.length by lia,e1,bQ.len,show ¬(M[i].length:Int)=0 by lia,show ¬(64:Int)<(M[i].length:Nat) by lia,yo,yp,QN,e0,gK.len,show ¬(M[i].length:Int)=(M[0].length:Nat) by lia,yQ];exact⟨_,_,rfl,by simp,_,_,_,rfl,.inl ⟨rfl,by rw[<-hf];simp only[go_sem]⟩⟩
  .right
   simp only[go_sem,ya,CV,hv.len,show ¬(i:Int)<M.length by lia];refine⟨_,_,rfl,by simp,_,_,_,rfl,.inr ⟨rfl,?_⟩⟩;rw[<-hf,yY (by lia)];rfl
def aFI(ab2:Has P L 351 O1)(hv:dL bw v M)(h0:0<M.length):ah P L 351 [v] (aa (wd M)):=by
 have⟨r0,aao,gK,e0⟩:=hv.aT (i:=0) h0;unfold wd;rw[JR h0];unfold ah;rw[aB ab2];simp only[go_sem,ya,O1,hv.len,show ¬(M.length:Int)=0 by lia,yp,QN,e0,gK.len]
def eE(a b:List Rat):Nat->Rat
 | 0=>0
 | k+1=>eE a b k+aO a k*aO b k
def zL{a b:List Rat}{K J:Nat}(ha:∀x,x∈a->Hq K x)(hb:∀x,x∈b->Hq J x)(hK:2<=K)(hJ:2<=J):∀k,Hq (2+k*(K+J+1)) (eE a b k)
 | 0=>B6.mono (by lia)
 | k+1=>by
  have:=(zL ha hb hK hJ k).add ((Hc (c:=k) ha hK).mul (Hc (c:=k) hb hJ))
  refine this.mono ?_
  grind
def Vy(h:Rn P L)(AZ:Has P L 352 O2){u:AV}{a b:List Rat}(hu:bw u (a.map RT))(hv:bw v (b.map RT))(hl:a.length=b.length)(hn:a.length<=1000)(ka:∀x,x∈a->Hq K x)(kb:∀x,x∈b->Hq J x)(dQ:2<=K)(QO:2<=J)(hK:K+J<=4000000):ah P L 352 [u,v] (.str (RT (eE a b a.length))):=by
 have key:=dT P L [0,1,5,6] NU
  (fun k st=>∃i:Nat,st=⟨[(0,u),(1,v),(5,.str (RT (eE a b i))),(6,aa i)],[],0,0⟩/\i+k=a.length)
  (fun ex st=>∃tm hp ct,st=⟨tm,hp,ct,0⟩/\ex=.exit 0/\ab tm 5=.str (RT (eE a b a.length))) ?_
 .unfold ah;rw[aB AZ];simp only[go_sem,O2];generalize hq:D P L (.loop _ NU) _=q;obtain⟨ex,st,rfl,tm,hp,ct,rfl,rfl,t5⟩:=bg hq (key a.length) ⟨0,by rw[eE,am0];simp only[go_sem,ya,ao,aj hu.pu,aj hv.pu]<;>rfl,by lia⟩
  simp only[go_sem,ao,t5]
 .rintro k st ⟨i,rfl,hk⟩;have lu:∀hp:Hp,fu hp 1 u=Ix (aa a.length):=fun hp=>by have:=hu.len (hp:=hp);rwa[yg] at this
  by_cases hi:i<a.length
  .left
   have e1:=hu.aT (i:=i) (by rw[yg];exact hi)
   have e2:=hv.aT (i:=i) (by rw[yg];lia)
   rw[xm] at e1 e2;have k1:=ka _ (yy hi);have k2:=kb _ (yy (show i<b.length by lia));have e3:=aaj h k1 k2 (by lia);have kp:=zL ka kb dQ QO i;have hb:i*(K+J+1)<=1000*(4000000+1):=xo (by lia) (by lia);have e4:=TP h.toRp kp (k1.mul k2) (by lia);have hs:eE a b (i+1)=eE a b i+a[i]*b[i]'(by lia):=by rw[eE,dw hi,dw (show i<b.length by lia)]
   rw[<-hs] at e4;have w3:IntKind.wrap .i64 ((i:Int)+1)=((i+1:Nat):Int):=wrap64 (by lia) (by lia);simp only[go_sem,ya,NU,lu,show (i:Int)<a.length by lia,e1,e2,e3,e4];refine⟨_,k-1,rfl,by lia,i+1,?_,by lia⟩;rw[w3];simp only[go_sem,ya,ao,aj hu.pu,aj hv.pu]<;>rfl
  .right
   have:i=a.length:=by lia
   subst this;simp only[go_sem,ya,NU,lu,show ¬(a.length:Int)<a.length by lia];exact⟨_,_,rfl,by simp,_,_,_,rfl,rfl,rfl⟩
def py(M:List (List (List Nat)))(c:Nat):List (List Nat):=M.map fun r=>r.getD c []
def Aq(M:List (List (List Nat)))(w:Nat):List (List (List Nat)):=(wO w).map (py M)
def aAM(hv:dL bw v M){w:Nat}(hw:∀r,r∈M->r.length=w){c:Nat}(hc:c<w)(hl:M.length<=1000){j:Nat}{out:List AV}:
  cL P L [0,3,4,5,6] GK (fun d st=>∃(i:Nat),st=⟨[(0,v),(3,oV 0 j),(4,aa c),(5,oV (oC 0 j) i),(6,aa i)],oH (oC 0 j) 1 (((py M c).take i).map .str) (oH 0 1 out [] j) i,oC (oC 0 j) i,0⟩/\i+d=M.length) (fun ex s'=>∃tm ct,s'=⟨tm,oH (oC 0 j) 1 ((py M c).map .str) (oH 0 1 out [] j) M.length,ct,0⟩/\ex=.exit 2/\ab tm 0=v/\ab tm 3=oV 0 j/\ab tm 4=aa c/\ab tm 5=oV (oC 0 j) M.length):=by
 apply cP;rintro d st ⟨i,rfl,hid⟩;have lc:(py M c).length=M.length:=by simp[py]
 by_cases hi:i<M.length
 .left
  have⟨r,rest,hr,e0⟩:=hv.aT hi;have wr:=hw _ (yy hi);have e1:=hr.aT (i:=c) (by lia);have rV:(i:Int)<M.length:=by lia
  have hs:((py M c).take (i+1)).map AV.str=((py M c).take i).map AV.str++[.str (M[i][c]'(by lia))]:=by
   rw[yk (by lia),yX];simp[py,yW,xz (show c<M[i].length by lia)]
  have w6:IntKind.wrap .i64 ((i:Int)+1)=((i+1:Nat):Int):=wrap64 (by lia) (by lia)
  cases i with
  | zero=>
   cases j
   all_goals
    simp only[oV,oH,oC];simp only[go_sem,ya,yb,yV,yA,yi,yf,GK,hv.len,rV,e0,e1,eT,w6];refine⟨_,d-1,rfl,by lia,1,?_,by lia⟩;rw[hs];simp only[go_sem,ya,yb,ao,aj hv.pu,vC,wu,xy]<;>rfl
  | succ i=>
   cases j
   all_goals
    simp only[oV,oH,oC];simp only[go_sem,ya,yb,yi,yf,GK,hv.len,rV,e0,e1]
    rw[dZ (ex:=ycP) (pu:=ycO) (cs:=((py M c).take (i+1)).map .str) rfl (by rw[yg,yJ,lc];lia) (by lia) (by lia) (by decide) rfl]
    simp only[go_sem,ya,yb,w6];refine⟨_,d-1,rfl,by lia,i+1+1,?_,by lia⟩;rw[hs];simp only[go_sem,ya,yb,ao,aj hv.pu]<;>rfl
 .right
  have:i=M.length:=by lia
  subst this;rw[yq (by lia)];have rV:¬(M.length:Int)<M.length:=by lia
  cases j
  all_goals
   simp only[go_sem,ya,yb,GK,hv.len,rV,oC];exact⟨_,_,rfl,by simp,_,_,rfl,rfl,rfl,rfl,rfl,rfl⟩
def aFJ(aCI:Has P L 351 O1)(ab3:Has P L 347 UW)(hv:dL bw v M)(h0:0<M.length)(hl:M.length<=1000)(hw:∀r,r∈M->r.length=wd M)(oL:wd M<=1000):∃r,ah P L 347 [v] r/\dL bw (shut r) (Aq M (wd M)):=by
 have ew:=aFI (P:=P) (L:=L) aCI hv h0;unfold ah at ew;have lt:(Aq M (wd M)).length=wd M:=by simp[Aq]
 have lc:∀c,(py M c).length=M.length:=fun c=>by simp[py]
 have key:=dT P L [0,3,4] Ji
  (fun k st=>∃(c:Nat) (out:List AV),st=⟨[(0,v),(3,oV 0 c),(4,aa c)],oH 0 1 out [] c,oC 0 c,0⟩/\c+k=wd M/\bZ bw out ((Aq M (wd M)).take c))
  (fun ex st=>∃tm ct out,st=⟨tm,oH 0 1 out [] (wd M),ct,0⟩/\ex=.exit 0/\ab tm 3=oV 0 (wd M)/\bZ bw out (Aq M (wd M))) ?_
 .unfold ah;rw[aB ab3];simp only[go_sem,UW];generalize hq:D P L (.loop _ Ji) _=q;obtain⟨ex,st,rfl,tm,ct,out,rfl,rfl,t3,hO⟩:=bg hq (key (wd M)) ⟨0,[],by simp only[go_sem,ya,ao,oV,oH,oC,aj hv.pu]<;>rfl,by lia,trivial⟩
  have lo:=hO.len;rw[lt] at lo
  cases hn:wd M with
  | zero=>
   rw[hn] at t3;refine⟨.ae,by simp only[go_sem,ao,t3,oV,oH],?_⟩
   have:Aq M 0=[]:=rfl
   rw[this];exact agC
  | succ n=>
   rw[hn] at t3 lo hO;refine⟨.bR ycP 1 (n+1) out,?_,?_⟩
   .simp only [go_sem,yb,ao,t3,oV,oH];exact mW (fq _ _ _) (by rw[lo,yf]) (by decide)
   .have:=M7 ycP hO
    rwa[show (Aq M (n+1)).length=n+1 by simp[Aq]] at this
 .rintro k st ⟨c,out,rfl,qI,hO⟩;have lo:=hO.len;rw[yJ,lt,xq (by lia)] at lo;by_cases hc:c<wd M
  .left
   have f0:=aAM (P:=P) (L:=L) hv hw hc hl (j:=c) (out:=out) M.length;have Bk:(c:Int)<wd M:=by lia
   have w4:IntKind.wrap .i64 ((c:Int)+1)=((c+1:Nat):Int):=wrap64 (by lia) (by lia);obtain⟨n,hn⟩:∃n,M.length=n+1:=⟨M.length-1,by lia⟩;have hO':bZ bw (out++[.aF ycP (n+1) ((py M c).map .str)]) ((Aq M (wd M)).take (c+1)):=by
    rw[yk (by lia)];refine hO.snoc ?_
    have:=Gr ycP (py M c)
    rw[lc,hn] at this;simpa[Aq] using this
   have kG:=fun hp:Hp=>oR (hp:=hp) (k:=n+1) (sz:=1) (cs:=(py M c).map AV.str) ycP (by rw[yg,lc,hn,yf]) (by decide)
   have iV:∀st,bW [0,3,4,5,6] st=⟨[(0,v),(3,oV 0 c),(4,aa c),(5,oV (oC 0 c) 0),(6,aa (0:Nat))],oH (oC 0 c) 1 (((py M c).take 0).map .str) (oH 0 1 out [] c) 0,oC (oC 0 c) 0,0⟩->_:=fun st aK=>f0 st ⟨0,aK,by lia⟩
   rw[hn] at iV
   cases c with
   | zero=>
    have:out=[]:=yu lo
    subst this;simp only[oV,oH,oC] at iV ⊢;simp only[go_sem,ya,yb,Ji,ew,Bk,hv.af];generalize hq:D P L (.loop _ GK) _=q;obtain⟨ex,st,rfl,tm,ct,rfl,rfl,t0,t3,t4,t5⟩:=bg hq iV (by simp only[go_sem,ya,ao,aj hv.pu]<;>rfl)
    simp only[go_sem,ya,yb,yV,yA,yi,yf,ao,t0,t3,t4,t5,aj hv.pu,kG,eT,w4];refine⟨_,k-1,rfl,by lia,1,_,?_,by lia,hO'⟩;simp only[go_sem,ya,yb,ao,aj hv.pu]<;>rfl
   | succ c=>
    simp only[oV,oH,oC] at iV ⊢;simp only[go_sem,ya,yb,Ji,ew,Bk,hv.af];generalize hq:D P L (.loop _ GK) _=q;obtain⟨ex,st,rfl,tm,ct,rfl,rfl,t0,t3,t4,t5⟩:=bg hq iV (by simp only[go_sem,ya,yb,ao,aj hv.pu]<;>rfl)
    simp only[go_sem,ya,yb,yi,yf,ao,t0,t3,t4,t5,aj hv.pu,kG]
    rw[dZ (ex:=ycP) (pu:=ycO) (cs:=out) rfl (by rw[lo,yf]) (by lia) (by lia) (by decide) rfl];simp only[go_sem,ya,yb,w4];refine⟨_,k-1,rfl,by lia,c+1+1,_,?_,by lia,hO'⟩;simp only[go_sem,ya,yb,ao,aj hv.pu]<;>rfl
  .right
   have:c=wd M:=by lia
   subst this;rw[yq (by lia)] at hO;have Bk:¬(wd M:Int)<wd M:=by lia
   simp only[go_sem,ya,Ji,ew,Bk,hv.af];exact⟨_,_,rfl,by simp,_,_,out,rfl,rfl,rfl,hO⟩
def eF(M:Mx)(x:List Rat):List Rat:=M.map fun r=>eE r x r.length
def Vz(h:Rn P L)(AZ:Has P L 352 O2)(Kw:Has P L 349 UX){u:AV}{M:Mx}{x:List Rat}(hu:dL bw u (M.map (vj RT)))(hv:bw v (x.map RT))(hw:∀r,r∈M->r.length=x.length)(hn:x.length<=1000)(hl:M.length<=1000)(ka:∀r,r∈M->∀z,z∈r->Hq K z)(kb:∀z,z∈x->Hq J z)(dQ:2<=K)(QO:2<=J)(hK:K+J<=4000000):
  ∃r,ah P L 349 [u,v] r/\bw (shut r) ((eF M x).map RT):=by
 have lA:(eF M x).length=M.length:=by simp[eF]
 have key:=dT P L [0,1,5,6] Jj
  (fun k st=>∃(i:Nat),st=⟨[(0,u),(1,v),(5,oV 0 i),(6,aa i)],oH 0 1 ((((eF M x).take i).map RT).map .str) [] i,oC 0 i,0⟩/\i+k=M.length)
  (fun ex st=>∃tm ct,st=⟨tm,oH 0 1 (((eF M x).map RT).map .str) [] M.length,ct,0⟩/\ex=.exit 0/\ab tm 5=oV 0 M.length) ?_
 .unfold ah;rw[aB Kw];simp only[go_sem,UX];generalize hq:D P L (.loop _ Jj) _=q;obtain⟨ex,st,rfl,tm,ct,rfl,rfl,t5⟩:=bg hq (key M.length) ⟨0,by simp only[go_sem,ya,ao,oV,oH,oC,aj hu.pu,aj hv.pu]<;>rfl,by lia⟩
  cases fg:M.length with
  | zero=>
   rw[fg] at t5;refine⟨.ae,by simp only[go_sem,ao,t5,oV,oH],?_⟩;rw[yu (lA.trans fg)];exact mY
  | succ n=>
   rw[fg] at t5;refine⟨.bR ycP 1 (n+1) (((eF M x).map RT).map .str),?_,?_⟩
   .simp only [go_sem,yb,ao,t5,oV,oH];exact mW (fq _ _ _) (by simp[lA,fg]) (by decide)
   .have:=Gr ycP ((eF M x).map RT)
    rwa[yg,lA,fg] at this
 .rintro k st ⟨i,rfl,jV⟩;have lu:∀hp:Hp,fu hp 1 u=Ix (aa M.length):=fun hp=>by have:=hu.len (hp:=hp);rwa[yg] at this
  by_cases hi:i<M.length
  .left
   have⟨r,rest,hr,e0⟩:=hu.aT (i:=i) (by rw[yg];exact hi)
   rw[xm] at hr;have hm:=yy hi;have e1:=Vy h AZ hr hv (hw _ hm) (by rw[hw _ hm];exact hn) (ka _ hm) kb dQ QO hK
   have rV:(i:Int)<M.length:=by lia
   have hs:(((eF M x).take (i+1)).map RT).map AV.str=(((eF M x).take i).map RT).map AV.str++[.str (RT (eE M[i] x M[i].length))]:=by
    rw[yk (by lia),yX,yX];simp[eF]
   have w6:IntKind.wrap .i64 ((i:Int)+1)=((i+1:Nat):Int):=wrap64 (by lia) (by lia);unfold ah at e1
   cases i with
   | zero=>
    simp only[oV,oH,oC];simp only[go_sem,ya,yb,yV,yA,yi,yf,Jj,lu,rV,e0,hr.af,hv.af,e1,eT,w6];refine⟨_,k-1,rfl,by lia,1,?_,by lia⟩;rw[hs];simp only[go_sem,ya,yb,ao,aj hu.pu,aj hv.pu,vC,wu,xy]<;>rfl
   | succ i=>
    simp only[oV,oH,oC];simp only[go_sem,ya,yb,yi,yf,Jj,lu,rV,e0,hr.af,hv.af,e1]
    rw[dZ (ex:=ycP) (pu:=ycO) (cs:=(((eF M x).take (i+1)).map RT).map .str) rfl (by simp[lA];lia) (by lia) (by lia) (by decide) rfl]
    simp only[go_sem,ya,yb,w6];refine⟨_,k-1,rfl,by lia,i+1+1,?_,by lia⟩;rw[hs];simp only[go_sem,ya,yb,ao,aj hu.pu,aj hv.pu]<;>rfl
  .right
   have:i=M.length:=by lia
   subst this;rw[yq (by lia)];have rV:¬(M.length:Int)<M.length:=by lia
   simp only[go_sem,ya,Jj,lu,rV];exact⟨_,_,rfl,by simp,_,_,rfl,rfl,rfl⟩
def dR(B:Mx)(w:Nat):Mx:=(wO w).map fun c=>B.map fun r=>aO r c
def avq{B:List (List (List Nat))}{w:Nat}(hc:∀r,r∈B->r.length=w/\∀s,s∈r->aM s=0):Aq B w=(dR (ij B) w).map (vj RT):=by
 unfold Aq dR;rw[vH];refine wL fun c Bk=>?_
 have Bk:=List.mem_range.1 Bk;simp only[ybk,py,ij,vH];refine wL fun r hr=>?_
 have⟨h1,h2⟩:=hc r hr;simp only[ybk];rw[dw (by rw[yg];lia),xm,yW,xz (show c<r.length by lia),vQ]
 exact (CE (h2 _ (yy _))).1
abbrev alt:Ty:=.sl .str
def alu(s:List Nat):Prop:=s.length<9223372036854775808
def agD:∀{ps:List (List AV)},(∀p,p∈ps->iX .str p)->∃l:List (List Nat),l.length=ps.length/\ps.flatten=l.map AV.str/\∀s,s∈l->alu s
 | [],_=>⟨[],rfl,rfl,fun _ h=>by cases h⟩
 | p::ps,h=>by
  obtain⟨s,rfl,hs,_⟩:=h p xA;have⟨l,h1,h2,h3⟩:=agD (ps:=ps) (fun q hq=>h q (xi _ hq))
  exact⟨s::l,by simp[h1],by simp[h2],fun q hq=>by
   rcases wj.1 hq with rfl | hq
   .exact hs
   .exact h3 q hq⟩
def avr{l:List AV}(h:iX alt l):∃(v:AV) (m:List (List Nat)),l=[v]/\bw v m/\∀s,s∈m->alu s:=by
 rcases h with rfl | ⟨x,ps,rfl,h⟩
 .exact ⟨_,[],rfl,mY,fun _ h=>by cases h⟩
 .have ⟨m,h1,h2,h3⟩:=agD h;refine⟨_,m,rfl,?_,h3⟩;rw[h2,<-h1];exact Gr x m
def sm(f:Nat->Rat):Nat->Rat
 | 0=>0
 | n+1=>sm f n+f n
def cW{f g:Nat->Rat}:∀{n:Nat},(∀i,i<n->f i=g i)->sm f n=sm g n
 | 0,_=>rfl
 | n+1,h=>by rw[sm,sm,cW (n:=n) (fun i hi=>h i (by lia)),h n (by lia)]
def q9{f:Nat->Rat}:∀{n:Nat},(∀i,i<n->f i=0)->sm f n=0
 | 0,_=>rfl
 | n+1,h=>by rw[sm,q9 (n:=n) (fun i hi=>h i (by lia)),h n (by lia)];grind
def pZ(f g:Nat->Rat):∀n,sm (fun i=>f i+g i) n=sm f n+sm g n
 | 0=>by simp only[sm];grind
 | n+1=>by simp only[sm];rw[pZ f g n];grind
def gX(a:Rat)(f:Nat->Rat):∀n,sm (fun i=>a*f i) n=a*sm f n
 | 0=>by simp only[sm];grind
 | n+1=>by simp only[sm];rw[gX a f n];grind
def AD(f:Nat->Nat->Rat)(m:Nat):∀n,sm (fun i=>sm (fun j=>f i j) m) n=sm (fun j=>sm (fun i=>f i j) n) m
 | 0=>(q9 (f:=fun j=>sm (fun i=>f i j) 0) (n:=m) (fun i _=>rfl)).symm
 | n+1=>by
  simp only[sm];rw[AD f m n,<-pZ]
def sB{f:Nat->Rat}{n j:Nat}(hj:j<n)(h:∀i,i<n->i≠j->f i=0):sm f n=f j:=by
 induction n with
 | zero=>omega
 | succ n ih=>
  rw[sm];by_cases W2:j=n
  .subst W2;rw[q9 (fun i hi=>h i (by omega) (by omega))];grind
  .grind
def E(m:Mx)(i c:Nat):Rat:=aO (gR m i) c
def fU(r:Nat)(g:Nat->Nat->Rat)(w:Nat)(v:Nat->Rat):Prop:=∃x:Nat->Rat,∀k,k<w->v k=sm (fun j=>x j*g j k) r
section
variable {r w:Nat}{g:Nat->Nat->Rat}{u v:Nat->Rat}
def fU.congr(h:fU r g w u)(e:∀k,k<w->v k=u k):fU r g w v:=by
 have⟨x,hx⟩:=h;exact⟨x,fun k hk=>by rw[e k hk,hx k hk]⟩
def fU.zero:fU r g w (fun _=>0):=⟨fun _=>0,fun k _=>by rw[q9 (fun i _=>by grind)]⟩
def fU.add(h:fU r g w u)(h2:fU r g w v):fU r g w (fun k=>u k+v k):=by
 obtain⟨x,hx⟩:=h;obtain⟨y,hy⟩:=h2;refine⟨fun j=>x j+y j,fun k hk=>?_⟩;show u k+v k=sm (fun j=>(x j+y j)*g j k) r
 rw[hx k hk,hy k hk,<-pZ]
 grind
def fU.mul(a:Rat)(h:fU r g w u):fU r g w (fun k=>a*u k):=by
 obtain⟨x,hx⟩:=h;refine⟨fun j=>a*x j,fun k hk=>?_⟩;show a*u k=sm (fun j=>(a*x j)*g j k) r
 rw[hx k hk,<-gX]
 grind
def fU.row{j:Nat}(hj:j<r):fU r g w (g j):=by
 refine⟨fun i=>if i=j then 1 else 0,fun k _=>?_⟩;show g j k=sm (fun i=>(if i=j then 1 else 0)*g i k) r
 rw[sB hj (fun i _ hi=>by rw[yx hi];grind),yK rfl];grind
def fU.sum{s:Nat}{h:Nat->Nat->Rat}{x:Nat->Rat}(hs:∀i,i<s->fU r g w (h i)):fU r g w (fun k=>sm (fun i=>x i*h i k) s):=by
 induction s with
 | zero=>exact fU.zero
 | succ s ih=>
  exact (ih (fun i hi=>hs i (by omega))).add ((hs s (by omega)).mul (x s))
def fU.trans{s:Nat}{h:Nat->Nat->Rat}(hv:fU s h w v)(hs:∀i,i<s->fU r g w (h i)):fU r g w v:=by
 have⟨x,hx⟩:=hv
 exact (fU.sum (x:=x) hs).congr hx
def fU.dot(h:fU r g w v){z:Nat->Rat}(hz:∀j,j<r->sm (fun k=>g j k*z k) w=0):sm (fun k=>v k*z k) w=0:=by
 have⟨x,hx⟩:=h;have e:sm (fun k=>v k*z k) w=sm (fun k=>sm (fun j=>x j*(g j k*z k)) r) w:=cW (fun k hk=>by
  rw[hx k hk]
  have:=gX (z k) (fun j=>x j*g j k) r
  rw[show sm (fun j=>x j*g j k) r*z k=z k*sm (fun j=>x j*g j k) r by grind,<-this]
  exact cW (fun i _=>by grind))
 rw[e,AD];refine q9 (fun j hj=>?_);rw[gX,hz j hj];grind
end
def axT{m:Mx}{w c:Nat}{s:Mx×List Nat}(h:Pv m w c s)(hc:c<w)(hp:dc s c<s.1.length){i k:Nat}(hi:i<s.1.length)(hk:k<w):
  E (mw s c).1 i k=if i=s.2.length then E (fK s.1 s.2.length (dc s c)) i k*(E (fK s.1 s.2.length (dc s c)) s.2.length c)⁻¹ else E (fK s.1 s.2.length (dc s c)) i k-E (fK s.1 s.2.length (dc s c)) i c*(E (fK s.1 s.2.length (dc s c)) s.2.length k*(E (fK s.1 s.2.length (dc s c)) s.2.length c)⁻¹):=by
 have h1:=(h.dc c).1;have nO:=h.wid.fK (i:=s.2.length) (j:=dc s c) (by omega) hp;have lsw:=YA s.1 s.2.length (dc s c);have jG:=h.pK hp;have lsp:=Nr s c;have wi:=nO i (by omega);have wa:=nO s.2.length (by omega);have ea:∀k,k<w->E (pK s c) s.2.length k=E (fK s.1 s.2.length (dc s c)) s.2.length k*(E (fK s.1 s.2.length (dc s c)) s.2.length c)⁻¹:=fun k hk=>by
  unfold E pK Bi;rw[oT,yK ⟨rfl,by omega⟩,dw (by rw[SO rfl];omega),aiX (by omega) (by omega),dw (show k<_ by omega)]
  grind
 have ei:i≠s.2.length->gR (pK s c) i=gR (fK s.1 s.2.length (dc s c)) i:=fun cu=>by
  unfold pK Bi;rw[oT,yx (fun q=>cu q.1.symm)]
 unfold mw;rw[yK hp];show aO (gR (oN (pK s c) s.2.length c s.1.length) i) k=_
 rw[aiZ (by omega)];by_cases Ct:i=s.2.length
 .rw [yx (fun q=>q.2.1 Ct),yK Ct,Ct];exact ea k hk
 .rw [yx Ct];have wsi:=jG i (by omega);have wsa:=jG s.2.length (by omega);by_cases hz:aO (gR (pK s c) i) c≠0
  .rw [yK ⟨hi,Ct,hz⟩,dw (by rw[SO (by omega)];omega),aiX (by omega) (by omega) _];have e2:=ea k hk;unfold E at e2 ⊢;rw[dw (show k<(gR (pK s c) s.2.length).length by omega)] at e2;rw[e2];have e3:=ei Ct;simp only[e3];rw[dw (show k<(gR (fK s.1 s.2.length (dc s c)) i).length by omega)]
   grind
  .rw [yx (fun q=>hz q.2.2)];have dj:aO (gR (pK s c) i) c=0:=by simp_all
   rw[ei Ct] at dj ⊢;unfold E
   grind
structure B9(m:Mx)(w c:Nat)(s:Mx×List Nat):Prop where
 pv:Pv m w c s
 up:∀i,i<m.length->fU m.length (E m) w (E s.1 i)
 down:∀i,i<m.length->fU m.length (E s.1) w (E m i)
 one:∀i (h:i<s.2.length),∀j,j<m.length->E s.1 j (s.2[i])=if j=i then 1 else 0
 low:∀i,s.2.length<=i->i<m.length->∀k,k<c->E s.1 i k=0
 left:∀i (h:i<s.2.length),∀k,k<s.2[i]->E s.1 i k=0
 inc:∀i j (hi:i<s.2.length) (hj:j<s.2.length),i<j->s.2[i]<s.2[j]
def aCJ{m:Mx}{i k:Nat}(ha:a<m.length)(hp:p<m.length)(hi:i<m.length):E (fK m a p) i k=if i=p then E m a k else if i=a then E m p k else E m i k:=by
 unfold E fK;rw[oT,oT]
 grind
def B9.step{m:Mx}{w c:Nat}{s:Mx×List Nat}(h:B9 m w c s)(hc:c<w):B9 m w (c+1) (mw s c):=by
 have hl:=h.pv.len;have oF:=h.pv.dc c;by_cases hp:dc s c<s.1.length
 .have fR:(mw s c).2=s.2++[c]:=by unfold mw;rw[yK hp]
  have ha:s.2.length<s.1.length:=by omega
  have hS:∀i k,i<m.length->E (fK s.1 s.2.length (dc s c)) i k=if i=dc s c then E s.1 s.2.length k else if i=s.2.length then E s.1 (dc s c) k else E s.1 i k:=fun i k hi=>aCJ ha hp (by omega)
  have cu:E (fK s.1 s.2.length (dc s c)) s.2.length c≠0:=by
   have:=aiY s.1 c (s.1.length-s.2.length) s.2.length (by unfold dc at hp;omega)
   rw[hS _ _ (by omega)];unfold dc
   split
   .rename_i q;rw[<-q] at this;exact this
   .rw [yK rfl];exact this
  have hg:=fun (i k:Nat) (hi:i<m.length) (hk:k<w)=>axT h.pv hc hp (i:=i) (k:=k) (by omega) hk
  have PC:∀i,s.2.length<=i->i<m.length->∀k,k<c->E (fK s.1 s.2.length (dc s c)) i k=0:=fun i hi Cu k hk=>by
   rw[hS i k Cu]
   split
   .exact h.low _ (ym _) (by omega) k hk
   .split
    .exact h.low _ oF.1 (by omega) k hk
    .exact h.low i hi Cu k hk
  have aCK:∀i,i<s.2.length->∀k,E (fK s.1 s.2.length (dc s c)) i k=E s.1 i k:=fun i hi k=>by
   rw[hS i k (by omega),yx (by omega),yx (by omega)]
  have W3:∀i (hi:i<s.2.length),s.2[i]<c:=fun i hi=>h.pv.lt _ (yy hi)
  refine⟨h.pv.step,fun i hi=>?_,fun i hi=>?_,fun i hi j hj=>?_,fun i hi Cu k hk=>?_,fun i hi k hk=>?_,fun i j hi hj HN=>?_⟩
  .
   have iQ:∀j,j<m.length->fU m.length (E m) w (E (fK s.1 s.2.length (dc s c)) j):=fun j hj=>by
    by_cases q1:j=dc s c
    .exact (h.up _ (show s.2.length<m.length by omega)).congr (fun k _=>by rw[hS j k hj,yK q1])
    .by_cases q2:j=s.2.length
     .exact (h.up _ (show dc s c<m.length by omega)).congr (fun k _=>by rw[hS j k hj,yx q1,yK q2])
     .exact (h.up j hj).congr (fun k _=>by rw[hS j k hj,yx q1,yx q2])
   by_cases Ct:i=s.2.length
   .refine ((iQ i hi).mul (E (fK s.1 s.2.length (dc s c)) s.2.length c)⁻¹).congr (fun k hk=>?_);rw[hg i k hi hk,yK Ct];grind
   .refine ((iQ i hi).add ((iQ s.2.length (by omega)).mul (-(E (fK s.1 s.2.length (dc s c)) i c)*(E (fK s.1 s.2.length (dc s c)) s.2.length c)⁻¹))).congr (fun k hk=>?_);rw[hg i k hi hk,yx Ct];grind
  .
   have aap:∀j,j<m.length->fU m.length (E (mw s c).1) w (E (fK s.1 s.2.length (dc s c)) j):=fun j hj=>by
    have ra:=fU.row (r:=m.length) (g:=E (mw s c).1) (w:=w) (show s.2.length<m.length by omega);have rj:=fU.row (r:=m.length) (g:=E (mw s c).1) (w:=w) hj;by_cases zq:j=s.2.length
    .refine (ra.mul (E (fK s.1 s.2.length (dc s c)) s.2.length c)).congr (fun k hk=>?_);rw[hg _ k (by omega) hk,yK rfl,zq]
     have:=uT _ cu
     grind
    .refine (rj.add (ra.mul (E (fK s.1 s.2.length (dc s c)) j c))).congr (fun k hk=>?_);rw[hg j k hj hk,yx zq,hg _ k (by omega) hk,yK rfl];grind
   refine (h.down i hi).trans (fun j hj=>?_);by_cases q1:j=s.2.length
   .refine (aap (dc s c) (by omega)).congr (fun k _=>?_);rw[hS _ k (by omega),yK rfl,q1]
   .by_cases q2:j=dc s c
    .refine (aap s.2.length (by omega)).congr (fun k _=>?_);rw[hS _ k (by omega),yx (fun e=>q1 (by omega)),yK rfl,q2]
    .refine (aap j hj).congr (fun k _=>?_);rw[hS j k hj,yx q2,yx q1]
  .
   have iy:=uT _ cu;simp only[fR,yE,yB,yI] at hi ⊢;by_cases fM:i<s.2.length
   .rw [wg fM];have hpw:s.2[i]<w:=by have:=W3 i fM;omega
    have ha0:E (fK s.1 s.2.length (dc s c)) s.2.length (s.2[i])=0:=PC _ (ym _) (by omega) _ (W3 i fM);rw[hg j _ hj hpw];by_cases zq:j=s.2.length
    .rw [yK zq,zq,ha0,yx (by omega)];grind
    .rw [yx zq,ha0];have ia:=h.one i fM;rw[hS j _ hj];by_cases q1:j=dc s c
     .rw [yK q1,ia _ (by omega),yx (by omega),yx (by omega)];grind
     .rw [yx q1,yx zq,ia j hj];grind
   .have:i=s.2.length:=by omega
    subst this;rw[wz (ym _)];simp only[uj,wJ];rw[hg j c hj hc];by_cases zq:j=s.2.length
    .rw [yK zq,yK zq,zq];exact iy
    .rw [yx zq,yx zq,iy];grind
  .
   simp only[fR,yE,yB,yI] at hi;have iy:=uT _ cu;rw[hg i k Cu (by omega),yx (by omega)];by_cases mN:k=c
   .subst mN;rw[iy];grind
   .rw [PC i (by omega) Cu k (by omega),PC s.2.length (ym _) (by omega) k (by omega)];grind
  .
   simp only[fR,yE,yB,yI] at hi;simp only[fR] at hk;by_cases fM:i<s.2.length
   .rw [wg fM] at hk;have mN:k<c:=by have:=W3 i fM;omega
    rw[hg i k (by omega) (by omega),yx (by omega),PC s.2.length (ym _) (by omega) k mN,aCK i fM k,h.left i fM k hk];grind
   .have:i=s.2.length:=by omega
    subst this;rw[wz (ym _)] at hk;simp only[uj,wJ] at hk;rw[hg _ k (by omega) (by omega),yK rfl,PC _ (ym _) (by omega) k hk];grind
  .
   simp only[fR,yE,yB,yI] at hi hj ⊢;rw[wg (show i<s.2.length by omega)];by_cases W2:j<s.2.length
   .rw [wg W2];exact h.inc i j (by omega) W2 HN
   .rw [wz (by omega)];simp only[show j-s.2.length=0 by omega,wJ];exact W3 i (by omega)
 .rw [avn hp]
  refine⟨⟨h.pv.len,h.pv.wid,h.pv.pv,fun p hp=>by have:=h.pv.lt p hp;omega⟩,h.up,h.down,h.one,fun i hi Cu k hk=>?_,h.left,h.inc⟩;by_cases mN:k=c
  .subst mN
   have:∀d p,rT s.1 k d p=p+d->∀i,p<=i->i<p+d->aO (gR s.1 i) k=0:=fun d=>by
    induction d with
    | zero=>intro p _ i h1 h2;omega
    | succ d ih=>
     intro p hf i h1 h2;simp only[rT] at hf
     split at hf
     .rename_i h0;by_cases hip:i=p
      .rw [hip];exact h0
      .exact ih (p+1) (by omega) i (by omega) (by omega)
     .omega
   have hf:=ZN s.1 k (s.1.length-s.2.length) s.2.length;unfold dc at hp;exact this (s.1.length-s.2.length) s.2.length (by omega) i hi (by omega)
  .exact h.low i hi Cu k (by omega)
def By{m:Mx}{w:Nat}(hw:wid w m):∀c,c<=w->B9 m w c (cC m c)
 | 0,_=>⟨ajT hw 0,fun i hi=>fU.row hi,fun i hi=>fU.row hi,fun i hi=>by simp[cC] at hi,fun i _ _ k hk=>by lia,fun i hi=>by simp[cC] at hi,fun i j hi=>by simp[cC] at hi⟩
 | c+1,hc=>(By hw c (by lia)).step (by lia)
section
variable {m:Mx}{w:Nat}
def FZ(pv:List Nat)(c:Nat):Nat:=(pv.filter (fun p=>decide (p<c))).length
def avt(hn:pv.Nodup)(c:Nat):FZ pv (c+1)=FZ pv c+if pv.contains c=ycO then 1 else 0:=by
 unfold FZ
 induction pv with
 | nil=>rfl
 | cons p r ih=>
  grind
def axU{w:Nat}(h:∀p,p∈pv->p<w):FZ pv w=pv.length:=by
 unfold FZ
 simp_all
def ahN{R:Mx}{pv:List Nat}(hn:pv.Nodup)(n:Nat):∀c,(HI R pv n c).length+FZ pv c=c
 | 0=>by
  have:FZ pv 0=0:=by simp[FZ]
  rw[this];rfl
 | c+1=>by
  have ih:=ahN (R:=R) hn n c;rw[avt hn,HI]
  grind
def B9.nodup{c:Nat}{s:Mx×List Nat}(h:B9 m w c s):s.2.Nodup:=by
 unfold ycH;rw[uV];intro i j hi hj HN e
 have:=h.inc i j hi hj HN;lia
def axV(hw:wid w m):(als m w).length+(cC m w).2.length=w:=by
 have h:=By hw w (ym w)
 have:=ahN (R:=(cC m w).1) h.nodup w w
 rwa[axU h.pv.lt] at this
def Zf{R:Mx}{pv:List Nat}{n c:Nat}(hn:pv.Nodup)(aY:∀p,p∈pv->p<n)(hc:c<n)(Cv:c∉pv):∀i,i<=pv.length->∀k,k<n->aO (rU R pv n c i) k=(if k=c then 1 else 0)+sm (fun j=>if k=pv.getD j 0 then -(E R j c) else 0) i
 | 0,_,k,hk=>by
  rw[dw (by rw[Zd];exact hk)]
  simp only[rU,ybF,List.getElem_replicate,sm]
  grind
 | i+1,hi,k,hk=>by
  have ih:=Zf (R:=R) hn aY hc Cv i (by omega) k hk;have hg:pv.getD i 0=pv[i]:=by grind
  rw[dw (by rw[Zd];exact hk)] at ih ⊢
  simp only[rU,ybF,sm];by_cases h:pv.getD i 0=k
  .rw [yK h,yK h.symm];have mN:k≠c:=fun e=>Cv (by rw[<-e,<-h,hg];exact yy _)
   have hz:sm (fun j=>if k=pv.getD j 0 then -(E R j c) else 0) i=0:=q9 (fun j hj=>by
    rw[yx];intro e;have Qk:pv.getD j 0=pv[j]:=by grind
    rw[<-h,hg,Qk] at e
    exact (uV.1 hn) j i (by omega) (by omega) hj e.symm)
   rw[yx mN,hz];unfold E;grind
  .grind
def B9.ker{s:Mx×List Nat}(h:B9 m w w s){c:Nat}(hc:c<w)(Cv:c∉s.2):∀i,i<m.length->sm (fun k=>E m i k*aO (rU s.1 s.2 w c s.2.length) k) w=0:=by
 have hg:=fun k (hk:k<w)=>Zf (R:=s.1) h.nodup h.pv.lt hc Cv s.2.length (ym _) k hk
 have rows:∀j,j<m.length->sm (fun k=>E s.1 j k*aO (rU s.1 s.2 w c s.2.length) k) w=0:=fun j hj=>by
  have e:sm (fun k=>E s.1 j k*aO (rU s.1 s.2 w c s.2.length) k) w=sm (fun k=>E s.1 j k*(if k=c then 1 else 0)) w+sm (fun i=>E s.1 j (s.2.getD i 0)* -(E s.1 i c)) s.2.length:=by
   rw[cW (g:=fun k=>E s.1 j k*(if k=c then 1 else 0)+sm (fun i=>E s.1 j k*(if k=s.2.getD i 0 then -(E s.1 i c) else 0)) s.2.length) (fun k hk=>by
    rw[hg k hk,gX];grind),pZ,AD]
   congr 1
   refine cW (fun i hi=>?_);have Is:s.2.getD i 0=s.2[i]:=by simp_all
   rw[sB (j:=s.2.getD i 0) (by rw[Is];exact h.pv.lt _ (yy hi)) (fun k _ cu=>by rw[yx cu];grind),yK rfl]
  rw[e,sB hc (fun k _ cu=>by rw[yx cu];grind),yK rfl]
  by_cases hjp:j<s.2.length
  .rw [sB hjp (fun i hi cu=>by
    have Is:s.2.getD i 0=s.2[i]:=by simp_all
    rw[Is,h.one i hi j hj,yx (fun e=>cu e.symm)];grind)]
   have Qk:s.2.getD j 0=s.2[j]:=by simp_all
   rw[Qk,h.one j hjp j hj,yK rfl];grind
  .rw [h.low j (by omega) hj c hc,q9 (fun i hi=>by
    have Is:s.2.getD i 0=s.2[i]:=by simp_all
    rw[Is,h.one i hi j hj,yx (by omega)];grind)];grind
 intro i hi;exact (h.down i hi).dot rows
end
def under{r s:Nat}(hrs:r<s)(A:Nat->Nat->Rat):∃u:Nat->Rat,(∃i,i<s/\u i≠0)/\∀j,j<r->sm (fun i=>A j i*u i) s=0:=by
 let m:Mx:=(wO r).map fun j=>(wO s).map fun i=>A j i
 have lm:m.length=r:=by simp[m]
 have hw:wid s m:=fun i hi=>by rw[di hi];simp[m]
 have hE:∀j i,j<r->i<s->E m j i=A j i:=fun j i hj hi=>by
  unfold E;rw[di (by omega),dw (by simp[m];omega)];simp[m]
 have h:=By hw s (ym s);have hk:=axV hw;have It:=h.pv.pv;have AT:0<(als m s).length:=by omega
 obtain⟨c,hc,aJO,_⟩:=YD (yy AT);have Cv:c∉(cC m s).2:=by simp_all
 refine⟨fun k=>aO (rU (cC m s).1 (cC m s).2 s c (cC m s).2.length) k,⟨c,hc,?_⟩,fun j hj=>?_⟩
 .have:=Zf (R:=(cC m s).1) h.nodup h.pv.lt hc Cv (cC m s).2.length (ym _) c hc
  simp only[this]
  rw[q9 (fun i hi=>by
   rw[yx];intro e;have Is:(cC m s).2.getD i 0=(cC m s).2[i]:=by simp_all
   exact Cv (by rw[e,Is];exact yy _))]
  grind
 .have:=h.ker hc Cv j (by omega)
  rw[cW (g:=fun k=>A j k*aO (rU (cC m s).1 (cC m s).2 s c (cC m s).2.length) k) (fun k hk=>by rw[hE j k hj hk])] at this;exact this
section
variable {m:Mx}{w:Nat}
def B9.pvm{s:Mx×List Nat}(h:B9 m w w s){k:Nat}(hk:k∈s.2):∃i,∃hi:i<s.2.length,s.2[i]=k/\i<m.length:=by
 have⟨i,hi,e⟩:=we.1 hk
 exact⟨i,hi,e,by have:=h.pv.pv;lia⟩
end
def Sh:∀{l:List Int},(∀x,x∈l->x=0)->a6 l=0
 | [],_=>rfl
 | x::l,h=>by
  unfold a6;rw[yK (h x xA)];exact Sh (fun y hy=>h y (xi _ hy))
def aAN(m0:0<M.length)(m64:M.length<=64)(ho:∀r,r∈M->r.length=wd M/\0<r.length/\r.length<=64/\∀s,s∈r->aM s=0):qV M=0:=by
 unfold qV;rw[yx (by lia),yx (by lia)];refine Sh (fun z hz=>?_);obtain⟨r,hr,rfl⟩:=xj.1 hz;refine Sh (fun y hy=>?_);simp only[wj,List.not_mem_nil,or_false] at hy;rcases hy with rfl | rfl | rfl | rfl
 .grind
 .grind
 .grind
 .refine Sh (fun y hy=>?_)
  grind
section
variable {ex dn:Bool}{tm tm':Env}{cs:List AV}{W ids live pl:List Nat}{ct i n:Nat}
def iC(ids W:List Nat):List AV:=vJ (fun i w=>AV.av i 0 w) ids W
def dH(ids W:List Nat)(r:Nat):List AV:=iC ids W++ye r .ae
def Gt(h:ids.length=W.length):(iC ids W).length=W.length:=by simp[iC,h]
def Si{w:Nat}(h:ids.length=W.length):iC (ids++[i]) (W++[w])=iC ids W++[.av i 0 w]:=by
 unfold iC;rw[List.zipWith_append h];rfl
def axW(h1:i<ids.length)(h2:i<W.length):(iC ids W)[i]'(by simp[iC];lia)=.av ids[i] 0 W[i]:=by simp[iC]
def afE:∀r:Nat,iF (ye r AV.ae)=[]
 | 0=>rfl
 | r+1=>by rw[wG,iF,afE r];rfl
def X5(r:Nat):∀{ids W:List Nat},ids.length=W.length->iF (dH ids W r)=ids
 | [],[],_=>afE r
 | i::ids,w::W,h=>by
  have ih:=X5 r (ids:=ids) (W:=W) (by simpa using h);have e:dH (i::ids) (w::W) r=.av i 0 w::dH ids W r:=rfl;rw[e,iF,ih];rfl
 | [],_::_,h=>by simp at h
 | _::_,[],h=>by simp at h
def agE(f:Nat->Option Nat):∀r:Nat,fo f (ye r AV.ae)=ye r .ae
 | 0=>rfl
 | r+1=>by rw[wG,fo,agE f r];rfl
def YF{f:Nat->Option Nat}(r:Nat):∀{ids W:List Nat} (k:Nat),ids.length=W.length->(∀i (h:i<ids.length),f ids[i]=Ix (k+i))->fo f (dH ids W r)=dH (wK k ids.length) W r
 | [],[],_,_,_=>agE f r
 | i::ids,w::W,k,h,hf=>by
  have h0:=hf 0 (by simp);simp only[wJ,xg] at h0;have ih:=YF (f:=f) r (ids:=ids) (W:=W) (k+1) (by simpa using h) (fun j hj=>by
   have:=hf (j+1) (by simpa using hj)
   simp only[tj] at this
   rw[this];congr 1;lia)
  have e:dH (i::ids) (w::W) r=.av i 0 w::dH ids W r:=rfl;rw[e,fo,ih,yB,List.range'_succ];simp only[cg,h0];rfl
 | [],_::_,_,h,_=>by simp at h
 | _::_,[],_,h,_=>by simp at h
def gT(T:List (List AV))(i:Nat):List AV:=T.getD i []
def AL{T:List (List AV)}(h:i<T.length):gT T i=T[i]:=by
 simp[gT,yW,xz h]
def aAO(T:List (List AV))(i j:Nat)(c:List AV):gT (T.set i c) j=if i=j/\j<T.length then c else gT T j:=by
 simp only[gT,yW,ybt]
 grind
def iJ(n:Nat):List Nat:=(wO n).map (·+1)
def zB(n:Nat):(iJ n).length=n:=by simp[iJ]
def XA(n:Nat):iJ n=wK 1 n:=by
 unfold iJ;rw[List.range'_eq_map_range]
 grind
def Sj(h:i<(iJ n).length):(iJ n)[i]=i+1:=by simp[iJ]
def ahO:i∈iJ n↔0<i/\i<=n:=by
 rw[XA,List.mem_range'_1];lia
structure jI(hp:Hp)(x y:Bool)(sz:Nat)(W:List Nat)(T:List (List AV))(r:Nat):Prop where
 l:W.length=T.length
 m:au hp 0=Ix (.cells ycO ycP x 1 (dH (iJ T.length) W r))
 r:∀i,i<T.length->au hp (i+1)=Ix (.cells ycO ycO y sz (gT T i))
section
variable {hp:Hp}{x y:Bool}{sz:Nat}{W:List Nat}{T:List (List AV)}{r:Nat}
def M8(hp:p<n)(hW:W.length=n):∃q,xK p (dH (iJ n) W r)=.av (p+1) 0 (W.getD p 0)::q:=by
 have hl:(iC (iJ n) W).length=n:=by rw[Gt (by rw[zB,hW]),hW]
 have h2:p<(dH (iJ n) W r).length:=by unfold dH;rw[yE,hl];omega
 refine⟨xK (p+1) (dH (iJ n) W r),?_⟩;rw[yP h2];have e:(dH (iJ n) W r)[p]? =Ix (.av (p+1) 0 (W.getD p 0)):=by
  unfold dH;rw[List.getElem?_append_left (by omega),xz (by omega),axW (by rw[zB];exact hp) (by omega),Sj]
  grind
 grind
def jI.set(h:jI hp x y sz W T r)(hi:i<T.length)(c:List AV):jI (aV hp (i+1) (.cells ycO ycO y sz c)) x y sz W (T.set i c) r:=by
 refine⟨by rw[wI];exact h.l,?_,fun j hj=>?_⟩
 .rw [iP (h.r i hi),yx (by omega),wI];exact h.m
 .rw [wI] at hj;rw[iP (h.r i hi),aAO];by_cases e:i=j
  .grind
  .rw [yx (by omega),yx (fun q=>e q.1)];exact h.r j hj
def aAP{hp aq:Hp}{id s:Nat}{ej:List AV}(h:cm n hp cs=Ix (ej,aq)):Kh n id hp (Ix (.cells dn ycP ex s cs))=Ix (ex,s,ej,aV aq id (.cells ycP ycP ex s cs)):=by
 simp[Kh,h]
def asY(h:W.length=T.length):(vJ (fun w r=>AV.aF y w r) W T).length=T.length:=by simp_all
def aCL{cells:List AV}(hm:au hp a=Ix (.cells dn ycP ex 1 cells))(hc:iF cells=ids)(hr:∀i,i∈ids->∃o,au hp i=Ix o/\lZ o=[])(bm:∀i,i∈pl->∃o,au hp i=Ix o/\lZ o=[])(hn:(jw a ids pl).Nodup)(hl:ids.length+pl.length<90000):pE hp 100000 (a::pl) []=jw a ids pl:=by
 have fg:=vz.1 hn;have cu:∀i,i∈ids++pl->i∉[a]:=fun i hi hm=>by
  simp only[wD] at hm;subst hm;exact fg.1 hi
 rw[show (100000:Nat)=99999+1 from rfl,M1,R6,NX,hm,NY,YS,hc,xy]
 have:ids++pl=(ids++pl)++[]:=by simp
 rw[this,Ze hp (ids++pl) [a] [] 99999 (by rw[yE];lia) (fun i hi=>by
  rcases wm.1 hi with h | h
  .exact hr i h
  .exact bm i h) fg.2 cu,ai0 hp (by rw[yE];lia)]
 rfl
def ZP(hE:gY (cT tm live)=a::pl)(hm:au hp a=Ix (.cells ycO ycP x 1 (dH ids W r)))(hl:ids.length=T.length)(hW:W.length=T.length)(hr:∀i (h:i<ids.length),au hp ids[i]=Ix (.cells ycO ycO y sz (gT T i)))(hM:T.length<=10000)(hn:(jw a ids pl).Nodup)(bm:∀i,i∈pl->∃o,au hp i=Ix o/\lZ o=[])(fR:pl.length<=1000)(hT:∀S,fG a S 0=Ix 0->(∀j (h:j<pl.length),fG pl[j] S 0=Ix (T.length+1+j))->je (pos S) (cT tm live)=tm'):
  ∃aq,bW live ⟨tm,hp,ct,0⟩=⟨tm',aq,1+(T.length+pl.length),0⟩/\jI aq x y sz W T r/\∀j (h:j<pl.length) rw ex z cs,au hp pl[j]=Ix (.cells rw ycO ex z cs)->au aq (T.length+1+j)=Ix (.cells rw ycO ex z cs):=by
 have Dn:∀i,i∈ids->∃o,au hp i=Ix o/\lZ o=[]:=fun i hi=>by
  obtain⟨k,hk,rfl⟩:=we.1 hi;exact⟨_,hr k hk,rfl⟩
 have hR:=aCL (pl:=pl) hm (X5 r (by lia)) Dn bm hn (by lia);rw[<-hE] at hR;have⟨aq,e,g⟩:=aeA (ct:=ct) hR;have ls:(jw a ids pl).length=1+(ids.length+pl.length):=by simp[jw];lia
 have s0:∀h:0<(jw a ids pl).length,(jw a ids pl)[0]=a:=fun _=>rfl
 have sI:∀i (h:i<ids.length) (h2:i+1<(jw a ids pl).length),(jw a ids pl)[i+1]=ids[i]:=fun i h h2=>by
  simp[jw,wg h]
 have sP:∀j (h:j<pl.length) (h2:T.length+1+j<(jw a ids pl).length),(jw a ids pl)[T.length+1+j]=pl[j]:=fun j h h2=>by
  have:T.length+1+j=(ids.length+j)+1:=by lia
  simp only[jw,this,tj];rw[wz (by lia)]
  simp
 have pI:∀i (h:i<ids.length),pos (jw a ids pl) ids[i]=Ix (1+i):=fun i h=>by
  have:=Gs (jw a ids pl) 0 (i+1) (by lia) hn
  rw[sI i h (by lia)] at this;rw[pos_eq,this];congr 1;lia
 have q3:fG a (jw a ids pl) 0=Ix 0:=by
  have:=Gs (jw a ids pl) 0 0 (by lia) hn
  rw[s0] at this;exact this
 have q4:∀j (h:j<pl.length),fG pl[j] (jw a ids pl) 0=Ix (T.length+1+j):=fun j hj=>by
  have:=Gs (jw a ids pl) 0 (T.length+1+j) (by lia) hn
  rw[sP j hj (by lia),yd] at this;exact this
 refine⟨aq,by rw[e,hT _ q3 q4,ls,hl],⟨hW,?_,fun i hi=>?_⟩,fun j hj dn ex z cs ho=>?_⟩
 .have:=g 0 (by lia) _ (by rw[s0];exact hm)
  rw[this];have e2:jY (pos (jw a ids pl)) (.cells ycO ycP x 1 (dH ids W r))=.cells ycO ycP x 1 (fo (pos (jw a ids pl)) (dH ids W r)):=rfl;rw[e2,YF r 1 (by lia) pI,hl,<-XA]
 .have:=g (i+1) (by lia) _ (by rw[sI i (by lia)];exact hr i (by lia))
  rw[this];rfl
 .have:=g (T.length+1+j) (by lia) _ (by rw[sP j hj (by lia)];exact ho)
  rw[this];rfl
def afF(hp:pl.Nodup)(h:∀i,i∈pl->n<i):(jw 0 (iJ n) pl).Nodup:=by
 unfold jw;refine vz.2 ⟨fun q=>?_,?_⟩
 .rcases wm.1 q with q | q
  .have:=ahO.1 q;lia
  .have:=h 0 q;lia
 .refine List.nodup_append.2 ⟨by rw[XA];exact List.nodup_range',hp,fun a ha b hb e=>?_⟩
  have h1:=ahO.1 ha;have h2:=h b hb
  lia
def jI.comp(h:jI hp x y sz W T r)(hE:gY (cT tm live)=[0])(hM:T.length<=10000)(hT:∀S,fG 0 S 0=Ix 0->je (pos S) (cT tm live)=tm'):∃aq,bW live ⟨tm,hp,ct,0⟩=⟨tm',aq,1+T.length,0⟩/\jI aq x y sz W T r:=by
 obtain⟨aq,e,g,_⟩:=ZP (ct:=ct) (pl:=[]) hE h.m (zB _) h.l (fun i hi=>by
  rw[Sj];rw[zB] at hi;exact h.r i hi) hM (afF List.nodup_nil (fun _ q=>by cases q)) (fun _ q=>by cases q) (by simp) (fun S q _=>hT S q)
 exact⟨aq,e,g⟩
def jI.TZ{z:Nat}(h:jI hp x y sz W T r)(ff:T.length<p)(hg:au hp p=Ix (.cells dn ycO ex z cs))(hE:gY (cT tm live)=[0,p])(hM:T.length<=10000)(hT:∀S,fG 0 S 0=Ix 0->fG p S 0=Ix (T.length+1)->je (pos S) (cT tm live)=tm'):∃aq,bW live ⟨tm,hp,ct,0⟩=⟨tm',aq,1+(T.length+1),0⟩/\jI aq x y sz W T r/\au aq (T.length+1)=Ix (.cells dn ycO ex z cs):=by
 obtain⟨aq,e,g,k⟩:=ZP (ct:=ct) (pl:=[p]) hE h.m (zB _) h.l (fun i hi=>by
  rw[Sj];rw[zB] at hi;exact h.r i hi) hM (afF (by simp) (fun i q=>by simp only[wD] at q;omega)) (fun i q=>by
   simp only[wD] at q
   subst q;exact⟨_,hg,rfl⟩) (by simp) (fun S q q2=>hT S q (by have:=q2 0 (by simp);simpa using this))
 exact⟨aq,e,g,by have:=k 0 (by simp) dn ex z cs hg;simpa using this⟩
end
end
section
variable {c w:Nat}
def iK(w:Nat)(m:Mx):Mx:=m.map (List.take w)
def Sk(w:Nat)(m:Mx):(iK w m).length=m.length:=yg _
def Ez(w:Nat)(m:Mx)(i:Nat):gR (iK w m) i=(gR m i).take w:=by
 unfold gR iK
 grind
def Sl{r:List Rat}(h:c<w):aO (r.take w) c=aO r c:=by
 unfold aO
 grind
def ai2{m:Mx}{w c:Nat}(h:c<w):∀d p,rT (iK w m) c d p=rT m c d p
 | 0,_=>rfl
 | d+1,p=>by
  simp only[rT,Ez,Sl h];rw[ai2 h d (p+1)]
def SP(w:Nat)(m:Mx)(i:Nat)(r:List Rat):iK w (m.set i r)=(iK w m).set i (r.take w):=by
 unfold iK;rw[ybB]
def ai3(w:Nat)(a b:List Rat)(x y:Rat):(Bh a b x y).take w=Bh (a.take w) (b.take w) x y:=by
 unfold Bh;rw[List.take_zipWith]
def axX(w:Nat)(m:Mx)(i j:Nat):iK w (fK m i j)=fK (iK w m) i j:=by
 unfold fK;rw[SP,SP,Ez,Ez]
def axY(h:c<w)(m:Mx)(a:Nat):iK w (Bi m a c)=Bi (iK w m) a c:=by
 unfold Bi;rw[SP,ai3,Ez,Sl h]
def axZ(h:c<w)(m:Mx)(a i:Nat):iK w (Bj m a c i)=Bj (iK w m) a c i:=by
 unfold Bj;rw[Ez,Ez,Sl h]
 split
 .rw [SP,ai3]
 .rfl
def ai4{w c:Nat}(h:c<w)(m:Mx)(a:Nat):∀i,iK w (oN m a c i)=oN (iK w m) a c i
 | 0=>rfl
 | i+1=>by rw[oN,oN,axZ h,ai4 h m a i]
def ai5(w:Nat)(m:Mx):∀c,c<=w->cC (iK w m) c=(iK w (cC m c).1,(cC m c).2)
 | 0,_=>rfl
 | c+1,hc=>by
  have ih:=ai5 w m c (by lia);have Bk:c<w:=by lia
  have hp:dc (iK w (cC m c).1,(cC m c).2) c=dc (cC m c) c:=by
   unfold dc;simp only[Sk,ai2 Bk]
  rw[cC,cC,ih];unfold mw;rw[hp];simp only[Sk]
  split
  .simp only [pK,hp,ai4 Bk,axY Bk,axX]
  .rfl
def ahP{m:Mx}:(cC m (w+1)).2=(cC (iK w m) w).2\/(cC m (w+1)).2=(cC (iK w m) w).2++[w]:=by
 rw[ai5 w m w (ym w),cC];unfold mw
 grind
def ax0{l:List Nat}(hl:l.length=w)(hi:∀i j (hi:i<l.length) (hj:j<l.length),i<j->l[i]<l[j])(hw:∀p,p∈l->p<w):∀i (h:i<l.length),l[i]=i:=fun i h=>by
 have lo:∀i (h:i<l.length),i<=l[i]:=fun i=>by
  induction i with
  | zero=>intro h;exact uO _
  | succ i ih=>
   grind
 have up:∀d i (h:i<l.length),i+d+1=l.length->l[i]<=i:=fun d=>by
  induction d with
  | zero=>
   grind
  | succ d ih=>
   intro i h e;have h1:=ih (i+1) (by omega) (by omega)
   grind
 have h1:=lo i h;have h2:=up (l.length-i-1) i h (by omega);omega
end
def Zg{w:Nat}{m:Mx}(h:wid (w+1) m):wid w (iK w m):=fun i hi=>by
 rw[Sk] at hi;rw[Ez,yJ,h i hi];lia
def SQ{m:Mx}{w:Nat}(hw:wid (w+1) m)(hm:w∉(cC m (w+1)).2)(hl:(cC (iK w m) w).2.length=w):(cC m (w+1)).2.length=w/\∀i (hi:i<(cC m (w+1)).2.length),(cC m (w+1)).2[i]=i:=by
 have h:=By (Zg hw) w (ym w)
 rcases ahP (m:=m) (w:=w) with e | e
 .simp only [e];exact⟨hl,fun i hi=>ax0 hl h.inc h.pv.lt i hi⟩
 .exact absurd (by rw[e];exact List.mem_append_right _ (wD.2 rfl)) hm
section
variable {b:List Rat}{R:Mx}
def dS(R:Mx)(b:List Rat):Mx:=vJ (fun r x=>r++[x]) R b
def rb(h:b.length=R.length):(dS R b).length=R.length:=by unfold dS;rw[yaZ];lia
def SR{i:Nat}(h:i<R.length)(hb:i<b.length):(dS R b)[i]'(by unfold dS;rw[yaZ];lia)=R[i]++[b[i]]:=by simp[dS]
def Ej{w:Nat}(hw:wid w R)(h:b.length=R.length):wid (w+1) (dS R b):=fun i hi=>by
 rw[rb h] at hi
 have:=hw i hi
 rw[di hi] at this;rw[di (by rw[rb h];exact hi),SR hi (by lia),yE,this];rfl
def Ua(hk:iB K R)(hb:∀x,x∈b->Hq K x)(h:b.length=R.length):iB K (dS R b):=fun i hi x hx=>by
 rw[rb h] at hi;rw[di (by rw[rb h];exact hi),SR hi (by lia)] at hx
 rcases wm.1 hx with hx | hx
 .have:=hk i hi
  rw[di hi] at this;exact this x hx
 .simp only [wD] at hx;rw[hx];exact hb _ (yy _)
def aAQ(W:Mx)(w:Nat):Prop:=(cC W (w+1)).2.length=w/\(cC W (w+1)).2.getD (w-1) 0=w-1
instance (W:Mx) (w:Nat):Decidable (aAQ W w):=inferInstanceAs (Decidable (_/\_))
def afG{k:Nat}(y:Bool):∀{T:List (List AV)} {W:Mx},bZ QL T W->(∀r,r∈W->r.length=k)->bZ cQ (vJ (fun w r=>AV.aF y w r) (ye T.length k) T) W
 | [],[],_,_=>trivial
 | c::T,r::W,h,hw=>by
  rw[yB,wG,List.zipWith_cons_cons]
  have:=Ed y h.1
  rw[hw r xA] at this;exact⟨this,afG y h.2 (fun q hq=>hw q (xi _ hq))⟩
def ai6{k:Nat}:∀{T:List (List AV)} {W:Mx},bZ QL T W->(∀r,r∈W->r.length=k)->∀c,c∈T->c.length=k*4
 | [],[],_,_,c,hc=>by cases hc
 | c::T,r::W,h,hw,x,hx=>by
  rcases wj.1 hx with rfl | hx
  .rw [QL.len h.1,hw r xA]
  .exact ai6 h.2 (fun q hq=>hw q (xi _ hq)) x hx
end
section
variable {W:Mx}{w:Nat}{x:Nat->Rat}
def ai7(hx:∀i,i<W.length->sm (fun k=>E W i k*x k) w=E W i w):∀i,i<W.length->sm (fun k=>E W i k*(if k=w then -1 else x k)) (w+1)=0:=fun i hi=>by
 rw[sm,cW (g:=fun k=>E W i k*x k) (fun k hk=>by rw[yx (by lia)]),hx i hi,yK rfl];grind
def avu(hw:wid (w+1) W)(hx:∀i,i<W.length->sm (fun k=>E W i k*x k) w=E W i w):w∉(cC W (w+1)).2:=fun hm=>by
 have h:=By hw (w+1) (ym _);have⟨i,hi,e,Cu⟩:=h.pvm hm;have e1:=(h.up i Cu).dot (ai7 hx);rw[sm,q9 (fun k hk=>by rw[h.left i hi k (by lia)];grind),yK rfl] at e1
 have e2:=h.one i hi i Cu;rw[e,yK rfl] at e2;rw[e2,show (0:Rat)+1* -1= -1 by grind] at e1;exact absurd e1 (by decide)
def ax1(hw:wid (w+1) W)(hx:∀i,i<W.length->sm (fun k=>E W i k*x k) w=E W i w)(hl:(cC (iK w W) w).2.length=w):∀i,i<w->E (cC W (w+1)).1 i w=x i:=fun i hi=>by
 have h:=By hw (w+1) (ym _);have⟨p1,p2⟩:=SQ hw (avu hw hx) hl;have It:=h.pv.pv;have e1:=(h.up i (by lia)).dot (ai7 hx)
 rw[sm,sB hi (fun k hk cu=>by
  have:=h.one k (by lia) i (by lia)
  rw[p2 k (by lia),yx (fun q=>cu q.symm)] at this
  rw[this];grind),yx (by lia),yK rfl] at e1
 have e2:=h.one i (by lia) i (by lia);rw[p2 i (by lia),yK rfl] at e2;rw[e2] at e1
 grind
end
def ajV(a:List Rat)(B:Mx)(c:Nat):∀k,W1 a B c k=sm (fun j=>aO a j*E B j c) k
 | 0=>rfl
 | k+1=>by rw[W1,sm,ajV a B c k];rfl
def aAR{A B:Mx}{w i c:Nat}(hi:i<A.length)(hc:c<w):E (Fm A B w) i c=sm (fun j=>E A i j*E B j c) (gR A i).length:=by
 unfold E;rw[di (by simp[Fm,hi]),di hi];simp only[Fm,xm];rw[dw (by rw[ahL];exact hc)]
 simp only[mulR,xm,List.getElem_range];rw[ajV];rfl
def ahQ(A B:Mx)(w:Nat):wid w (Fm A B w):=fun i hi=>by
 rw[di hi];simp[Fm,ahL]
def ahR(A B:Mx)(w:Nat):(Fm A B w).length=A.length:=by simp[Fm]
def CX(a b:List Rat):∀k,eE a b k=sm (fun j=>aO a j*aO b j) k
 | 0=>rfl
 | k+1=>by rw[eE,sm,CX a b k]
def alv{M:Mx}{w:Nat}(hw:wid w M)(m0:0<M.length)(m64:M.length<=64)(w0:0<w)(w64:w<=64)(hk:iB K M)(hK:K<=1800):qV (M.map (vj RT))=0/\ij (M.map (vj RT))=M/\wd (M.map (vj RT))=w/\∀r,r∈M.map (vj RT)->r.length<=1000000/\∀s,s∈r->s.length<=1000000000:=by
 have hwd:wd (M.map (vj RT))=w:=by
  unfold wd;rw[JR (by rw[yg];exact m0),xm,yg]
  exact zG hw (yy m0)
 have iQ:∀r,r∈M->∀x,x∈r->Hq K x:=fun r hr=>I4 hk hr
 refine⟨aAN (by rw[yg];exact m0) (by rw[yg];exact m64) (fun r hr=>?_),?_,hwd,fun r hr=>?_⟩
 .obtain ⟨q,hq,rfl⟩:=xj.1 hr
  have:=zG hw hq
  rw[hwd,yg];refine⟨this,by lia,by lia,fun s hs=>?_⟩;obtain⟨x,hx,rfl⟩:=xj.1 hs;exact N5 (iQ q hq x hx) hK
 .unfold ij;rw[vH];refine (wL (fun r hr=>?_)).trans (tR M);show (r.map RT).map aI=r
  rw[vH];refine (wL (fun x hx=>?_)).trans (tR r);have⟨h1,h2⟩:=Jx (iQ r hr x hx) hK;exact ahF h1 h2
 .obtain ⟨q,hq,rfl⟩:=xj.1 hr
  have:=zG hw hq
  refine⟨by rw[yg];lia,fun s hs=>?_⟩
  obtain⟨x,hx,rfl⟩:=xj.1 hs
  have:=BI (iQ q hq x hx)
  lia
def ab4(h:Fr' P L)(rJ:Has P L 131 EX){u:AV}{a b:List Rat}(hu:cQ u a)(hv:cQ v b)(hl:a.length<=b.length)(hn:a.length<=1000000)(ka:∀x,x∈a->Hq K x)(kb:∀x,x∈b->Hq K x)(dQ:2<=K)(hK:2+a.length*(2*K+1)+(2*K+1)<=1000000000):∃r,ah P L 131 [u,v] r/\bE r (eE a b a.length):=by
 have key:=dT P L [0,1,4,5,9,10] NC
  (fun k st=>∃i:Nat,i+k=a.length/\∃c1 c2 c3 c4,bE (.agg [c1,c2,c3,c4]) (eE a b i)/\st=⟨[(0,u),(1,v),(4,.ptr 0 0),(5,.ptr 1 0),(9,aa a.length),(10,aa i)],[(1,.cells ycO ycO ycO 4 [c1,c2,c3,c4]),(0,.cells ycO ycO ycO 4 [.int .i64 0,.ae,.int .i64 0,.ae])],2,0⟩)
  (fun ex st=>∃tm hp ct c1 c2 c3 c4,bE (.agg [c1,c2,c3,c4]) (eE a b a.length)/\st=⟨tm,hp,ct,0⟩/\ex=.exit 0/\ab tm 4=.ptr 0 0/\ab tm 5=.ptr 1 0/\au hp 1=Ix (.cells ycO ycO ycO 4 [c1,c2,c3,c4])/\au hp 0=Ix (.cells ycO ycO ycO 4 [.int .i64 0,.ae,.int .i64 0,.ae])) ?_
 .obtain ⟨z,e0,hz⟩:=DS h (z:=0) (by decide) (by decide);have dj:bE z 0:=by simpa using hz
  have gA:=dj;obtain⟨z1,z2,z3,z4,rfl,gz⟩:=dj.gen;have e0':bM P L (D P L) 69 [.int .i64 0]=Ix (.agg [z1,z2,z3,z4]):=e0;unfold ah;rw[aB rJ];simp only[go_sem,ya,yb,EX,aG,e0',bf,gz.st,hu.len];generalize hq:D P L (.loop _ NC) _=q;obtain⟨ex,st,rfl,tm,hp,ct,c1,c2,c3,c4,h1,rfl,rfl,t4,t5,g1,g0⟩:=bg hq (key a.length) ⟨0,by omega,z1,z2,z3,z4,gA,by simp only[go_sem,ya,yb,ao,aj hu.pu,aj hv.pu]<;>rfl⟩
  have g:=h1.f4;refine⟨_,?_,h1⟩;simp only[go_sem,ya,yb,ao,t4,t5,g0,g1,gO,g.st,de,df,yh];exact g.eG _
 .rintro k st ⟨i,hk,c1,c2,c3,c4,hs,rfl⟩;by_cases hi:i<a.length
  .left
   obtain⟨p1,p2,p3,p4,pr,e1,hp⟩:=hu.aT hi;obtain⟨q1,q2,q3,q4,qr,e2,hq⟩:=hv.aT (i:=i) (by omega);have kp:=ka _ (yy hi);have kq:=kb _ (yy (show i<b.length by omega));obtain⟨s,e3,KJ⟩:=zb h hp hq kp kq (by omega);have hKi:=zL ka kb dQ dQ i;have hmul:i*(K+K+1)<=a.length*(2*K+1):=by
    rw[show K+K+1=2*K+1 by omega];exact yR _ (by omega)
   obtain⟨y,e4,hy⟩:=FL h hs KJ (K:=2+a.length*(2*K+1)+(2*K+1)) (hKi.mono (by omega)) ((kp.mul kq).mono (by omega)) (by omega);have oF:eE a b (i+1)=eE a b i+a[i]*b[i]'(by omega):=by
    rw[eE,dw hi,dw (show i<b.length by omega)]
   rw[<-oF] at hy;have mq:=hy;obtain⟨y1,y2,y3,y4,rfl,gy⟩:=hy.gen;obtain⟨s1,s2,s3,s4,rfl,g3⟩:=KJ.gen;have gs:=hs.f4;have gp:=hp.f4;have gq:=hq.f4;simp only[go_sem,ya,NC,show (i:Int)<a.length by omega,e1,e2,Fi,gO,e3,e4,gs.af,gp.af,gq.af,g3.af,gy.st,bf,yh];refine⟨_,k-1,rfl,by omega,i+1,by omega,y1,y2,y3,y4,mq,?_⟩;rw[wrap64 (by omega) (by omega)];simp only[go_sem,ya,yb,ao,aj hu.pu,aj hv.pu]<;>rfl
  .right
   have:i=a.length:=by omega
   subst this;simp only[go_sem,ya,NC,show ¬(a.length:Int)<a.length by omega];exact⟨_,_,rfl,by simp,_,_,_,c1,c2,c3,c4,hs,rfl,rfl,by simp only[go_sem,ya],by simp only[go_sem,ya],by simp only[go_sem],by simp only[go_sem,ya]⟩
def m87(h:Ck P L)(h87:Has P L 87 We)(FY:Has P L 88 KV)(hv:dL bw v M)(hl:M.length<=1000000)(hr:∀r,r∈M->r.length<=1000000/\∀s,s∈r->aM s=0):∃r,ah P L 87 [v,.fn (.f 88) [] []] r/\dL cQ (shut r) (M.map (vj aI)):=by
 have key:=dT P L [1,5,8,9,10] JL
  (fun k st=>∃(i:Nat) (rows:List AV),i+k=M.length/\bZ cQ rows ((M.take i).map (vj aI))/\st=⟨[(1,.fn (.f 88) [] []),(5,oV 0 i),(8,v),(9,aa M.length),(10,aa i)],oH 0 1 rows [] i,oC 0 i,0⟩)
  (fun ex st=>∃tm ct rows,st=⟨tm,oH 0 1 rows [] M.length,ct,0⟩/\ex=.exit 0/\ab tm 5=oV 0 M.length/\bZ cQ rows (M.map (vj aI))) ?_
 .unfold ah;rw[aB h87];simp only[go_sem,ya,We,hv.len];generalize hq:D P L (.loop _ JL) _=q;obtain⟨ex,st,rfl,tm,ct,rows,rfl,rfl,t3,hR⟩:=bg hq (key M.length) ⟨0,[],by omega,trivial,by simp only[go_sem,ya,ao,aj hv.pu]<;>rfl⟩
  have hlen:=hR.len;rw[yg] at hlen
  cases hn:M.length with
  | zero=>
   rw[hn] at t3;refine⟨.ae,by simp only[go_sem,ao,t3,oV,oH],?_⟩;rw[yu hn];exact agC
  | succ n=>
   rw[hn] at t3 hlen;refine⟨.bR ycP 1 (n+1) rows,?_,?_⟩
   .simp only [go_sem,yb,ao,t3,oV,oH];exact mW (fq _ _ _) (by rw[hlen,yf]) (by decide)
   .have:=M7 ycP hR
    rwa[yg,hn] at this
 .rintro k st ⟨i,rows,hk,hR,rfl⟩;by_cases hi:i<M.length
  .left
   obtain⟨r,rest,gK,e0⟩:=hv.aT hi;have hm:=hr _ (yy hi);obtain⟨q,e1,nP⟩:=m88 h FY gK hm.1 hm.2;have zp:bZ cQ (rows++[shut q]) ((M.take (i+1)).map (vj aI)):=by
    rw[yk hi,yX];exact hR.snoc nP
   have hlen:=hR.len;rw[yg,yJ,xq (by omega)] at hlen
   cases i with
   | zero=>
    have:rows=[]:=yu hlen
    subst this;simp only[go_sem,ya,yb,yV,yA,yi,yf,JL,oV,oH,oC,show ((0:Nat):Int)<M.length by omega,e0,gK.af,e1,nP.pu,nP.one,nP.cells,eT];refine⟨_,k-1,rfl,by omega,1,_,by omega,zp,?_⟩;simp only[go_sem,ya,yb,ao,aj hv.pu]<;>rfl
   | succ i=>
    simp only[go_sem,ya,yb,yi,yf,JL,oV,oH,oC,show ((i+1:Nat):Int)<M.length by omega,e0,gK.af,e1,nP.pu,nP.one,nP.cells]
    rw[dZ (ex:=ycP) (pu:=ycO) (cs:=rows) (by simp only[go_sem,ya]) (by rw[hlen,yf]) (by omega) (by omega) (by decide) (by simp only[go_sem,nP.one])];simp only[go_sem,ya,yb,nP.pu];refine⟨_,k-1,rfl,by omega,i+1+1,_,by omega,zp,?_⟩;rw[wrap64 (by omega) (by omega)];simp only[go_sem,ya,yb,ao,aj hv.pu]<;>rfl
  .right
   have:i=M.length:=by omega
   subst this;rw[xH] at hR;simp only[go_sem,ya,JL,show ¬(M.length:Int)<M.length by omega];exact⟨_,_,rfl,by simp,_,_,rows,rfl,rfl,by simp only[go_sem,ya],hR⟩
def m92(W4:Has P L 92 Wh){R:Mx}(hv:dL cQ v R)(hl:R.length<=1000000){g:Nat}{c:AV}(hc:aP c=ycO)(hz:∀(n:Nat) (hp:Hp),cm (n+900) hp [c]=Ix ([c],hp)){f:List Rat->Rat}(hg:∀w r,r∈R->cQ w r->∃q,ah P L g [w,c] q/\bE q (f r)):∃r,ah P L 92 [v,.fn (.f g) [] [c]] r/\cQ (shut r) (R.map f):=by
 have pf:aP (.fn (.f g) [] [c])=ycO:=by simp[aP,aD,hc]
 have key:=dT P L [1,5,8,9,10] JN
  (fun k st=>∃(i:Nat) (cs:List AV),i+k=R.length/\QL cs ((R.take i).map f)/\st=⟨[(1,.fn (.f g) [] [c]),(5,oV 0 i),(8,v),(9,aa R.length),(10,aa i)],oH 0 4 cs [] i,oC 0 i,0⟩)
  (fun ex st=>∃tm ct cs,st=⟨tm,oH 0 4 cs [] R.length,ct,0⟩/\ex=.exit 0/\ab tm 5=oV 0 R.length/\QL cs (R.map f)) ?_
 .unfold ah;rw[aB W4];simp only[go_sem,ya,Wh,hv.len];generalize hq:D P L (.loop _ JN) _=q;obtain⟨ex,st,rfl,tm,ct,cs,rfl,rfl,t3,hQ⟩:=bg hq (key R.length) ⟨0,[],by omega,trivial,by simp only[go_sem,ya,ao,aj hv.pu,aj pf]<;>rfl⟩
  have hlen:=hQ.len;rw[yg] at hlen
  cases hn:R.length with
  | zero=>
   rw[hn] at t3;refine⟨.ae,by simp only[go_sem,ao,t3,oV,oH],?_⟩;rw[yu hn];exact agx
  | succ n=>
   rw[hn] at t3 hlen;refine⟨.bR ycP 4 (n+1) cs,?_,?_⟩
   .simp only [go_sem,yb,ao,t3,oV,oH];exact mW (fq _ _ _) hlen (by decide)
   .have:=Ed ycP hQ
    rwa[yg,hn] at this
 .rintro k st ⟨i,cs,hk,hQ,rfl⟩;by_cases hi:i<R.length
  .left
   obtain⟨r,rest,gK,e0⟩:=hv.aT hi;obtain⟨q,e1,hq⟩:=hg r _ (yy hi) gK;have bO:=hq;obtain⟨q1,q2,q3,q4,rfl,gq⟩:=hq.gen;have bz:∀tm,iH tm [AV.int .i64 0,.ae,.int .i64 0,.ae] 0 4 [q1,q2,q3,q4] []=fill tm [q1,q2,q3,q4] []:=fun tm=>Jv gq.o1 gq.o2 gq.o3 gq.o4
   obtain⟨p1,p2,p3,p4⟩:=gq.qS;have pY:aD [q1,q2,q3,q4]=ycO:=by simp only[aD,p1,p2,p3,p4,xt]
   have qW:QL (cs++[q1,q2,q3,q4]) ((R.take (i+1)).map f):=by
    rw[yk hi,yX];exact hQ.snoc bO
   have hlen:=hQ.len;rw[yg,yJ,xq (by omega)] at hlen
   cases i with
   | zero=>
    have:cs=[]:=yu (by omega)
    subst this;simp only[go_sem,ya,yb,yV,yA,yi,JN,oV,oH,oC,show ((0:Nat):Int)<R.length by omega,e0,gK.af,hz,e1,bf,bz,p1,p2,p3,p4,xt,oX,eT];refine⟨_,k-1,rfl,by omega,1,_,by omega,qW,?_⟩;simp only[go_sem,ya,yb,ao,aj hv.pu,aj pf]<;>rfl
   | succ i=>
    simp only[go_sem,ya,yb,yV,JN,oV,oH,oC,show ((i+1:Nat):Int)<R.length by omega,e0,gK.af,hz,e1,bf,bz,p1,p2,p3,p4,xt,oX]
    rw[dZ (ex:=ycP) (pu:=ycO) (cs:=cs) (by simp only[go_sem,ya]) hlen (by omega) (by omega) (by decide) (by simp only[go_sem,gq.o1,gq.o2,gq.o3,gq.o4])];simp only[go_sem,ya,yb,pY];refine⟨_,k-1,rfl,by omega,i+1+1,_,by omega,qW,?_⟩;rw[wrap64 (by omega) (by omega)];simp only[go_sem,ya,yb,ao,aj hv.pu,aj pf]<;>rfl
  .right
   have:i=R.length:=by omega
   subst this;rw[xH] at hQ;simp only[go_sem,ya,JN,show ¬(R.length:Int)<R.length by omega];exact⟨_,_,rfl,by simp,_,_,cs,rfl,rfl,by simp only[go_sem,ya],hQ⟩
section
variable {sp:List AV}{s:List Nat}{R:Mx}{K i w:Nat}
def DX(R:Mx)(ld:Rat)(i k:Nat):Rat:=if i=k then eE (gR R i) (gR R k) (gR R i).length+ld else eE (gR R i) (gR R k) (gR R i).length
def zt(R:Mx)(ld:Rat)(i:Nat):List Rat:=(wO R.length).map (DX R ld i)
def fW(R:Mx)(ld:Rat):Mx:=(wO R.length).map (zt R ld)
def Gu(R:Mx)(ld:Rat)(i:Nat):(zt R ld i).length=R.length:=by simp[zt]
def mF(R:Mx)(ld:Rat):(fW R ld).length=R.length:=by simp[fW]
def avv{ld:Rat}{k:Nat}(h:k<R.length):(zt R ld i).take (k+1)=(zt R ld i).take k++[DX R ld i k]:=by
 rw[yk (by rw[Gu];exact h)]
 simp[zt]
def aCM{ld:Rat}{k:Nat}(hw:wid w R)(hi:i<R.length)(hk:k<R.length)(kR:iB K R)(kl:Hq K ld)(dQ:2<=K):Hq (2+w*(2*K+1)+K+1) (DX R ld i k):=by
 have wi:=hw i hi;have h1:=zL (kR i hi) (kR k hk) dQ dQ w;rw[show K+K+1=2*K+1 by lia] at h1;unfold DX;rw[wi]
 split
 .exact (h1.add kl).mono (by lia)
 .exact h1.mono (by lia)
def aCN(h:Ck P L)(rJ:Has P L 131 EX){y ra:AV}(hy:dL cQ y R)(hw:wid w R)(oL:w<=1000)(hn:R.length<=1000)(hs:aM s=0)(kR:iB K R)(kl:Hq K (aI s))(dQ:2<=K)(hK:K<=100000)(hi:i<R.length)(lz:cQ ra R[i]){rows:List AV}:
  cL P L [0,1,4,5,6,7,11,12,13,18,19,20] C2 (fun d st=>∃(k:Nat) (cs:List AV),st=⟨[(0,y),(1,.aQ (.str s::sp)),(4,oV 0 i),(5,aa i),(6,ra),(7,oV (oC 0 i) k),(11,y),(12,aa R.length),(13,aa i),(18,y),(19,aa R.length),(20,aa k)],pH i k rows cs,oC (oC 0 i) k,0⟩/\k+d=R.length/\QL cs ((zt R (aI s) i).take k)) (fun ex s'=>∃tm ct cs,s'=⟨tm,pH i R.length rows cs,ct,0⟩/\ex=.exit 2/\QL cs (zt R (aI s) i)/\ab tm 0=y/\ab tm 1=.aQ (.str s::sp)/\ab tm 4=oV 0 i/\ab tm 7=oV (oC 0 i) R.length/\ab tm 11=y/\ab tm 12=aa R.length/\ab tm 13=aa i):=by
 apply cP;rintro d st ⟨k,cs,rfl,QM,hQ⟩;have pp:aP (.aQ (.str s::sp))=ycO:=rfl;by_cases hk:k<R.length
 .left
  obtain⟨rk,rest,Ic,e0⟩:=hy.aT hk;have wi:=hw i hi;have wk':=hw k hk;have kri:=kR i hi;have krk:=kR k hk;rw[di hi] at wi kri;rw[di hk] at wk' krk;have rS:w*(2*K+1)<=1000*(2*100000+1):=xo (by omega) (by omega);obtain⟨p,e1,hp⟩:=ab4 h.toFr' rJ lz Ic (by omega) (by omega) kri krk dQ (by rw[wi];omega);have kp:=zL kri krk dQ dQ R[i].length;rw[show K+K+1=2*K+1 by omega,wi] at kp;obtain⟨l,e2,hl⟩:=abW h hs;rw[wi] at hp;obtain⟨z,e3,hz⟩:=FL h.toFr' hp hl (K:=300000000) (kp.mono (by omega)) (kl.mono (by omega)) (by omega);have aq:=hp;have dj:=hz;obtain⟨p1,p2,p3,p4,rfl,gp⟩:=hp.gen;obtain⟨l1,l2,l3,l4,rfl,gl⟩:=hl.gen;obtain⟨z1,z2,z3,z4,rfl,gz⟩:=hz.gen;have wk:IntKind.wrap .i64 ((k:Int)+1)=((k+1:Nat):Int):=wrap64 (by omega) (by omega);have Iu:(k:Int)<R.length:=by omega
  have lq:=hQ.len;rw[yJ,Gu,xq (by omega)] at lq;unfold ah at e1 e2 e3;have fin:∃s1 s2 s3 s4,bE (.agg [s1,s2,s3,s4]) (DX R (aI s) i k)/\((i=k/\s1=z1/\s2=z2/\s3=z3/\s4=z4)\/(i≠k/\s1=p1/\s2=p2/\s3=p3/\s4=p4)):=by
   by_cases jV:i=k
   .refine ⟨z1,z2,z3,z4,?_,.inl ⟨jV,rfl,rfl,rfl,rfl⟩⟩;unfold DX;rw[yK jV,di hi,di hk,wi];exact dj
   .refine ⟨p1,p2,p3,p4,?_,.inr ⟨jV,rfl,rfl,rfl,rfl⟩⟩;unfold DX;rw[yx jV,di hi,di hk,wi];exact aq
  obtain⟨s1,s2,s3,s4,hs4,C6⟩:=fin;have g:=hs4.f4;have bz:∀q,iH q [AV.int .i64 0,.ae,.int .i64 0,.ae] 0 4 [s1,s2,s3,s4] []=fill q [s1,s2,s3,s4] []:=fun q=>Jv g.o1 g.o2 g.o3 g.o4
  obtain⟨u1,u2,u3,u4⟩:=g.qS;have qW:QL (cs++[s1,s2,s3,s4]) ((zt R (aI s) i).take (k+1)):=by
   rw[avv hk];exact hQ.snoc hs4
  rcases C6 with ⟨jV,rfl,rfl,rfl,rfl⟩ | ⟨jV,rfl,rfl,rfl,rfl⟩
  .have hd:decide ((i:Int)=(k:Int))=ycO:=xG (by omega)
   cases k with
   | zero=>
    have:cs=[]:=yu (by omega)
    subst this;have sZ:i=0:=jV;subst sZ;simp only[oV,oH,oC,pH];simp only[go_sem,ya,yb,yV,yA,yi,C2,Iu,e0,lz.af,Ic.af,e1,bf,aG,gp.st,gP,yh,e2,gp.af,gl.af,e3,gz.st,bz,u1,u2,u3,u4,xt,oX,eT,wk];refine⟨_,d-1,rfl,by omega,1,[s1,s2,s3,s4],?_,by omega,qW⟩;simp only[go_sem,ya,yb,ao,aj hy.pu,aj lz.pu,aj pp]<;>rfl
   | succ k=>
    obtain⟨i',rfl⟩:∃i',i=i'+1:=⟨k,jV⟩;simp only[oV,oH,oC,pH];simp only[go_sem,ya,yb,yV,C2,Iu,e0,lz.af,Ic.af,e1,bf,aG,gp.st,hd,gP,yh,e2,gp.af,gl.af,e3,gz.st,bz,u1,u2,u3,u4,xt,oX]
    rw[dZ (ex:=ycP) (pu:=ycO) (cs:=cs) (by simp only[go_sem,ya]) lq (by omega) (by omega) (by decide) (by simp only[go_sem,g.o1,g.o2,g.o3,g.o4])];simp only[go_sem,ya,yb,u1,u2,u3,u4,wk];refine⟨_,d-1,rfl,by omega,k+1+1,_,?_,by omega,qW⟩;simp only[go_sem,ya,yb,ao,aj hy.pu,aj lz.pu,aj pp]<;>rfl
  .have hd:decide ((i:Int)=(k:Int))=ycP:=xn (by omega)
   cases k with
   | zero=>
    have:cs=[]:=yu (by omega)
    subst this;obtain⟨i',rfl⟩:∃i',i=i'+1:=⟨i-1,by omega⟩;simp only[oV,oH,oC,pH];simp only[go_sem,ya,yb,yV,yA,yi,C2,Iu,e0,lz.af,Ic.af,e1,bf,aG,gp.st,hd,gP,yh,bz,u1,u2,u3,u4,xt,oX,eT,wk];refine⟨_,d-1,rfl,by omega,1,[s1,s2,s3,s4],?_,by omega,qW⟩;simp only[go_sem,ya,yb,ao,aj hy.pu,aj lz.pu,aj pp]<;>rfl
   | succ k=>
    cases i
    all_goals
     simp only[oV,oH,oC,pH];simp only[go_sem,ya,yb,yV,C2,Iu,e0,lz.af,Ic.af,e1,bf,aG,gp.st,hd,gP,yh,bz,u1,u2,u3,u4,xt,oX]
     rw[dZ (ex:=ycP) (pu:=ycO) (cs:=cs) (by simp only[go_sem,ya]) lq (by omega) (by omega) (by decide) (by simp only[go_sem,g.o1,g.o2,g.o3,g.o4])];simp only[go_sem,ya,yb,u1,u2,u3,u4,wk];refine⟨_,d-1,rfl,by omega,k+1+1,_,?_,by omega,qW⟩;simp only[go_sem,ya,yb,ao,aj hy.pu,aj lz.pu,aj pp]<;>rfl
 .right
  have:k=R.length:=by omega
  subst this;rw[yq (by rw[Gu];exact ym _)] at hQ
  simp only[go_sem,ya,C2,show ¬(R.length:Int)<R.length by omega,yp];exact⟨_,_,rfl,by simp,_,_,cs,rfl,rfl,hQ,by simp only[go_sem,ya],by simp only[go_sem,ya],by simp only[go_sem,ya],by simp only[go_sem,ya],by simp only[go_sem,ya],by simp only[go_sem,ya],by simp only[go_sem,ya]⟩
def m89(h:Ck P L)(W5:Has P L 89 Wf)(rJ:Has P L 131 EX){y:AV}(hy:dL cQ y R)(hw:wid w R)(oL:w<=1000)(hn:R.length<=1000)(qJ:0<R.length)(hs:aM s=0)(kR:iB K R)(kl:Hq K (aI s))(dQ:2<=K)(hK:K<=100000):∃r,ah P L 89 [y,.aQ (.str s::sp)] r/\dL cQ (shut r) (fW R (aI s)):=by
 have pp:aP (.aQ (.str s::sp))=ycO:=rfl;have lQ:=mF R (aI s);have key:=dT P L [0,1,4,11,12,13] JM
  (fun d st=>∃(i:Nat) (rows:List AV),i+d=R.length/\bZ cQ rows ((fW R (aI s)).take i)/\st=⟨[(0,y),(1,.aQ (.str s::sp)),(4,oV 0 i),(11,y),(12,aa R.length),(13,aa i)],oH 0 1 rows [] i,oC 0 i,0⟩)
  (fun ex st=>∃tm ct rows,st=⟨tm,oH 0 1 rows [] R.length,ct,0⟩/\ex=.exit 0/\ab tm 4=oV 0 R.length/\bZ cQ rows (fW R (aI s))) ?_
 .unfold ah;rw[aB W5];simp only[go_sem,ya,Wf,hy.len];generalize hq:D P L (.loop _ JM) _=q;obtain⟨ex,st,rfl,tm,ct,rows,rfl,rfl,t4,hR⟩:=bg hq (key R.length) ⟨0,[],by omega,by simp[bZ],by simp only[go_sem,ya,ao,aj hy.pu,aj pp]<;>rfl⟩
  have hlen:=hR.len;rw[lQ] at hlen;obtain⟨n,qM⟩:∃n,R.length=n+1:=⟨R.length-1,by omega⟩;rw[qM] at t4 hlen;refine⟨.bR ycP 1 (n+1) rows,?_,?_⟩
  .rw [qM];simp only[go_sem,yb,ao,t4,oV,oH];exact mW (fq _ _ _) (by rw[hlen,yf]) (by decide)
  .have:=M7 ycP hR
   rwa[lQ,qM] at this
 .rintro d st ⟨i,rows,hid,hR,rfl⟩;by_cases hi:i<R.length
  .left
   obtain⟨ra,rest,lz,e0⟩:=hy.aT hi;have f0:=aCN h rJ hy hw oL hn hs kR kl dQ hK hi lz (sp:=sp) (rows:=rows) R.length;have wi:IntKind.wrap .i64 ((i:Int)+1)=((i+1:Nat):Int):=wrap64 (by omega) (by omega);have rV:(i:Int)<R.length:=by omega
   have hlen:=hR.len;rw[yJ,lQ,xq (by omega)] at hlen;have end_:∀cs,QL cs (zt R (aI s) i)->bZ cQ (rows++[.aF ycP R.length cs]) ((fW R (aI s)).take (i+1))/\cs.length=R.length*4:=fun cs dA=>by
    have h1:=Ed ycP dA;rw[Gu] at h1;refine⟨?_,by rw[dA.len,Gu]⟩;rw[yk (by omega)];exact hR.snoc (by simpa[fW] using h1)
   have iV:∀st,bW [0,1,4,5,6,7,11,12,13,18,19,20] st=⟨[(0,y),(1,.aQ (.str s::sp)),(4,oV 0 i),(5,aa i),(6,ra),(7,oV (oC 0 i) 0),(11,y),(12,aa R.length),(13,aa i),(18,y),(19,aa R.length),(20,aa (0:Nat))],pH i 0 rows [],oC (oC 0 i) 0,0⟩->_:=fun st aK=>f0 st ⟨0,[],aK,by omega,trivial⟩
   obtain⟨n,qM⟩:∃n,R.length=n+1:=⟨R.length-1,by omega⟩
   cases i with
   | zero=>
    have:rows=[]:=yu hlen
    subst this;simp only[oV,oH,oC,pH] at iV ⊢;simp only[go_sem,ya,yb,JM,rV,e0,hy.len];generalize bO:D P L (.loop [0,1,4,5,6,7,11,12,13,18,19,20] C2) _=q;obtain⟨ex,st,rfl,tm,ct,cs,rfl,rfl,dA,t0,t1,t4,t7,t11,t12,t13⟩:=bg bO iV (by simp only[go_sem,ya,ao,aj hy.pu,aj lz.pu,aj pp]<;>rfl)
    obtain⟨zp,lc⟩:=end_ cs dA;have kG:=fun hp:Hp=>oR (hp:=hp) (k:=R.length) (sz:=4) (cs:=cs) ycP lc (by decide)
    rw[qM] at t7 t12 kG zp ⊢;simp only[] at t7 ⊢;simp only[go_sem,ya,yb,yV,yA,yi,yf,ao,t0,t1,t4,t7,t11,t12,t13,aj hy.pu,aj pp,kG,eT,wi];refine⟨_,d-1,rfl,by omega,1,_,by omega,zp,?_⟩;simp only[go_sem,ya,yb,ao,aj hy.pu,aj pp]<;>rfl
   | succ i=>
    simp only[oV,oH,oC,pH] at iV ⊢;simp only[go_sem,ya,yb,JM,rV,e0,hy.len];generalize bO:D P L (.loop [0,1,4,5,6,7,11,12,13,18,19,20] C2) _=q;obtain⟨ex,st,rfl,tm,ct,cs,rfl,rfl,dA,t0,t1,t4,t7,t11,t12,t13⟩:=bg bO iV (by simp only[go_sem,ya,yb,ao,aj hy.pu,aj lz.pu,aj pp]<;>rfl)
    obtain⟨zp,lc⟩:=end_ cs dA;have kG:=fun hp:Hp=>oR (hp:=hp) (k:=R.length) (sz:=4) (cs:=cs) ycP lc (by decide)
    rw[qM] at t7 t12 kG zp ⊢;simp only[go_sem,ya,yb,yi,yf,ao,t0,t1,t4,t7,t11,t12,t13,aj hy.pu,aj pp,kG]
    rw[dZ (ex:=ycP) (pu:=ycO) (cs:=rows) (by simp only[go_sem,ya]) (by rw[hlen,yf]) (by omega) (by omega) (by decide) (by simp only[go_sem])];simp only[go_sem,ya,yb,wi];refine⟨_,d-1,rfl,by omega,i+1+1,_,by omega,zp,?_⟩;simp only[go_sem,ya,yb,ao,aj hy.pu,aj pp]<;>rfl
  .right
   have:i=R.length:=by omega
   subst this;rw[yq (by omega)] at hR;simp only[go_sem,ya,JM,show ¬(R.length:Int)<R.length by omega,yp];exact⟨_,_,rfl,by simp,_,_,rows,rfl,rfl,by simp only[go_sem,ya],hR⟩
end
section
variable {G m:Mx}{k n:Nat}
def lj(a b:List Rat)(f:Rat)(k:Nat):Nat->List Rat
 | 0=>a
 | d+1=>(lj a b f k d).set (k+d) (aO a (k+d)-f*aO b (k+d))
def IU(a b:List Rat)(f:Rat)(k:Nat):∀d,(lj a b f k d).length=a.length
 | 0=>rfl
 | d+1=>by rw[lj,wI,IU a b f k d]
def ai8(r:List Rat)(i j:Nat)(x:Rat):aO (r.set i x) j=if i=j/\j<r.length then x else aO r j:=by
 unfold aO
 grind
def Sm(a b:List Rat)(f:Rat)(k j:Nat)(hj:j<a.length):∀d,aO (lj a b f k d) j=if k<=j/\j<k+d then aO a j-f*aO b j else aO a j
 | 0=>by rw[lj,yx (by omega)]
 | d+1=>by
  rw[lj,ai8,IU,Sm a b f k j hj d]
  grind
def rW(n:Nat)(m:Mx)(k i:Nat):Mx:=if i≠k/\aO (gR m i) k≠0 then m.set i (lj (gR m i) (gR m k) (aO (gR m i) k*(aO (gR m k) k)⁻¹) k (n+1-k)) else m
def gG(n:Nat)(m:Mx)(k:Nat):Nat->Mx
 | 0=>m
 | i+1=>rW n (gG n m k i) k i
def gj(n:Nat)(m:Mx):Nat->Mx
 | 0=>m
 | k+1=>gG n (gj n m k) k n
def mU(n:Nat)(m:Mx):List Rat:=(wO n).map fun k=>E (gj n m n) k n*(E (gj n m n) k k)⁻¹
def ax2(n:Nat)(m:Mx)(k i:Nat):(rW n m k i).length=m.length:=by unfold rW;split<;>simp
def CN(n:Nat)(m:Mx)(k:Nat):∀i,(gG n m k i).length=m.length
 | 0=>rfl
 | i+1=>by rw[gG,ax2,CN n m k i]
def BK(n:Nat)(m:Mx):∀k,(gj n m k).length=m.length
 | 0=>rfl
 | k+1=>by rw[gj,CN,BK n m k]
def ax3{w:Nat}{i:Nat}(hw:wid w m)(hi:i<m.length):wid w (rW n m k i):=fun j hj=>by
 unfold rW at hj ⊢
 split
 .rename_i h;rw[yK h,wI] at hj;rw[oT]
  split
  .rw [IU];exact hw i hi
  .exact hw j hj
 .rename_i h;rw[yx h] at hj;exact hw j hj
def SS{n w:Nat}{m:Mx}{k:Nat}(hw:wid w m):∀i,i<=m.length->wid w (gG n m k i)
 | 0,_=>hw
 | i+1,hi=>ax3 (SS hw i (by lia)) (by rw[CN];lia)
def Jz{n w:Nat}{m:Mx}(hw:wid w m)(hn:n<=m.length):∀k,wid w (gj n m k)
 | 0=>hw
 | k+1=>SS (Jz hw hn k) n (by rw[BK];exact hn)
def CO{n:Nat}{m:Mx}{k j:Nat}:∀i,(i<=j\/j=k)->gR (gG n m k i) j=gR m j
 | 0,_=>rfl
 | i+1,h=>by
  rw[gG];unfold rW
  split
  .rename_i q;rw[oT,yx (fun e=>by rcases h with h | h<;>lia),CO i (by lia)]
  .exact CO i (by lia)
def ai9{n:Nat}{m:Mx}{k j c:Nat}(hw:wid (n+1) m)(hj:j<m.length)(hk:k<n)(hc:c<n+1)(hz:∀c,c<k->E m k c=0)(hjk:j≠k):∀i,j<i->i<=m.length->E (gG n m k i) j c=E m j c-E m j k*(E m k k)⁻¹*E m k c
 | 0,h,_=>absurd h (vh j)
 | i+1,h,hi=>by
  have hwj:=hw j hj;by_cases Af:j=i
  .subst Af;have e1:=CO (n:=n) (m:=m) (k:=k) (j:=j) j (.inl (ym j));have e2:=CO (n:=n) (m:=m) (k:=k) (j:=k) j (.inr rfl);rw[gG];unfold rW;rw[e1,e2];unfold E;by_cases Qw:aO (gR m j) k≠0
   .rw [yK ⟨hjk,Qw⟩,oT,yK ⟨rfl,by rw[CN];exact hj⟩,Sm _ _ _ _ _ (by omega)]
    by_cases mN:k<=c
    .grind
    .rw [yx (fun q=>mN q.1)]
     have:=hz c (by omega)
     unfold E at this
     grind
   .grind
  .have ih:=ai9 hw hj hk hc hz hjk i (by omega) (by omega);rw[gG];unfold rW
   split
   .unfold E at ih ⊢;rw[oT,yx (fun q=>Af q.1.symm)];exact ih
   .exact ih
def mV(n:Nat)(G:Mx):Prop:=∀t:Nat->Rat,sm (fun c=>sm (fun i=>t i*E G i c) n*t c) n=0->∀k,k<n->t k=0
structure Kx(n:Nat)(G:Mx)(k:Nat)(m:Mx):Prop where
 VA:∀i,i<n->∃t:Nat->Rat,(∀c,c<n+1->E m i c=sm (fun j=>t j*E G j c) n)/\∀j,k<=j->t j=if j=i then 1 else 0
 zero:∀c,c<k->∀i,i<n->i≠c->E m i c=0
 ab5:∀c,c<k->E m c c≠0
def Kx.piv(h:Kx n G k m)(hd:mV n G)(hk:k<n):E m k k≠0:=fun h0=>by
 obtain⟨t,h1,h2⟩:=h.VA k hk
 have:=hd t (q9 (fun c hc=>by
  rw[<-h1 c (by omega)];rcases Nat.lt_trichotomy c k with q | q | q
  .rw [h.zero c q k hk (by omega)];grind
  .grind
  .rw [h2 c (by omega),yx (by omega)];grind)) k hk
 grind
def Kx.step(h:Kx n G k m)(hd:mV n G)(hk:k<n)(hw:wid (n+1) m)(hl:m.length=n):Kx n G (k+1) (gG n m k n):=by
 have hp:=h.piv hd hk;have hz:∀c,c<k->E m k c=0:=fun c hc=>h.zero c hc k hk (by omega)
 have ek:∀c,E (gG n m k n) k c=E m k c:=fun c=>by unfold E;rw[CO n (.inr rfl)]
 have ei:∀i c,i<n->i≠k->c<n+1->E (gG n m k n) i c=E m i c-E m i k*(E m k k)⁻¹*E m k c:=fun i c hi jV hc=>ai9 hw (by omega) hk hc hz jV n hi (by omega)
 refine⟨fun i hi=>?_,fun c hc i hi Fv=>?_,fun c hc=>?_⟩
 .obtain ⟨t,h1,h2⟩:=h.VA i hi;by_cases jV:i=k
  .subst jV;exact⟨t,fun c hc=>by rw[ek,h1 c hc],fun j hj=>h2 j (by omega)⟩
  .obtain ⟨s,s1,s2⟩:=h.VA k hk;refine⟨fun j=>t j-E m i k*(E m k k)⁻¹*s j,fun c hc=>?_,fun j hj=>?_⟩
   .rw [ei i c hi jV hc,h1 c hc,s1 c hc];have e1:=gX (-(E m i k*(E m k k)⁻¹)) (fun j=>s j*E G j c) n;have e2:=pZ (fun j=>t j*E G j c) (fun j=> -(E m i k*(E m k k)⁻¹)*(s j*E G j c)) n
    grind
   .grind
 .by_cases qI:c=k
  .grind
  .by_cases jV:i=k
   .grind
   .rw [ei i c hi jV (by omega),h.zero c (by omega) i hi Fv,hz c (by omega)];grind
 .by_cases qI:c=k
  .grind
  .rw [ei c c (by omega) qI (by omega),hz c (by omega)]
   have:=h.ab5 c (by omega)
   grind
def Tg{n:Nat}{G:Mx}(hd:mV n G)(hw:wid (n+1) G)(hl:G.length=n):∀k,k<=n->Kx n G k (gj n G k)
 | 0,_=>⟨fun i hi=>⟨fun j=>if j=i then 1 else 0,fun c _=>by
   show E G i c=sm (fun j=>(if j=i then 1 else 0)*E G j c) n
   rw[sB hi (fun j _ hj=>by rw[yx hj];grind),yK rfl];grind,fun j _=>rfl⟩,fun c hc=>absurd hc (vh c),fun c hc=>absurd hc (vh c)⟩
 | k+1,hk=>(Tg hd hw hl k (by lia)).step hd (by lia) (Jz hw (by lia) k) (by rw[BK];exact hl)
def aAS(hd:mV n G)(hw:wid (n+1) G)(hl:G.length=n){x:Nat->Rat}(hx:∀i,i<n->sm (fun c=>E G i c*x c) n=E G i n)(hk:k<n):E (gj n G n) k n*(E (gj n G n) k k)⁻¹=x k:=by
 have h:=Tg hd hw hl n (ym n);obtain⟨t,h1,_⟩:=h.VA k hk;have e1:E (gj n G n) k n=sm (fun c=>E (gj n G n) k c*x c) n:=by
  rw[h1 n (by omega),cW (f:=fun c=>E (gj n G n) k c*x c) (g:=fun c=>sm (fun j=>t j*(E G j c*x c)) n) (fun c hc=>by
   rw[h1 c (by omega)]
   have:=gX (x c) (fun j=>t j*E G j c) n
   rw[show sm (fun j=>t j*E G j c) n*x c=x c*sm (fun j=>t j*E G j c) n by grind,<-this]
   exact cW (fun j _=>by grind)),AD]
  exact cW (fun j hj=>by rw[gX,hx j hj])
 rw[sB hk (fun c hc cu=>by rw[h.zero c hc k hk (fun q=>cu q.symm)];grind)] at e1
 have:=uT _ (h.ab5 k hk)
 grind
end
def Hd(x:Nat->Rat):∀n,0<=sm (fun i=>x i*x i) n
 | 0=>Rat.le_refl
 | n+1=>by
  have h1:=Hd x n;have h2:0<=x n*x n:=by
   rcases Rat.le_total (a:=0) (b:=x n) with h | h
   .exact yaw h h
   .have h3:0<=-(x n):=by grind
    have:=yaw h3 h3
    grind
  rw[sm];grind
def ajW{x:Nat->Rat}:∀{n:Nat},sm (fun i=>x i*x i) n=0->∀i,i<n->x i=0
 | 0,_,i,hi=>absurd hi (vh i)
 | n+1,h,i,hi=>by
  have h1:=Hd x n;have h2:=Hd (fun _=>x n) 1;simp only[sm] at h2;rw[sm] at h;have e2:sm (fun i=>x i*x i) n=0:=by grind
  by_cases fM:i=n
  .grind
  .exact ajW e2 i (by omega)
def ahS{n m:Nat}{G:Mx}{a:Nat->Nat->Rat}{ld:Rat}(hl:0<ld)(hG:∀i c,i<n->c<n->E G i c=sm (fun r=>a i r*a c r) m+if i=c then ld else 0):mV n G:=fun t ht=>by
 have e1:sm (fun c=>sm (fun i=>t i*E G i c) n*t c) n=sm (fun r=>sm (fun i=>t i*a i r) n*sm (fun i=>t i*a i r) n) m+ld*sm (fun c=>t c*t c) n:=by
  rw[cW (g:=fun c=>sm (fun r=>sm (fun i=>t i*a i r) n*(t c*a c r)) m+ld*(t c*t c)) (fun c hc=>by
   rw[cW (f:=fun i=>t i*E G i c) (g:=fun i=>sm (fun r=>t i*a i r*a c r) m+t i*(if i=c then ld else 0)) (fun i hi=>by
    rw[hG i c hi hc]
    have:=gX (t i) (fun r=>a i r*a c r) m
    rw[cW (f:=fun r=>t i*a i r*a c r) (g:=fun r=>t i*(a i r*a c r)) (fun r _=>by grind),this];grind),pZ,AD,sB hc (fun i _ cu=>by rw[yx cu];grind),yK rfl]
   have e2:sm (fun r=>sm (fun i=>t i*a i r) n*(t c*a c r)) m=t c*sm (fun r=>sm (fun i=>t i*a i r*a c r) n) m:=by
    rw[<-gX];refine cW (fun r _=>?_)
    have:=gX (a c r) (fun i=>t i*a i r) n
    rw[cW (f:=fun i=>t i*a i r*a c r) (g:=fun i=>a c r*(t i*a i r)) (fun i _=>by grind),this];grind
   rw[e2];grind),pZ,AD,gX]
  rw[cW (f:=fun r=>sm (fun c=>sm (fun i=>t i*a i r) n*(t c*a c r)) n) (g:=fun r=>sm (fun i=>t i*a i r) n*sm (fun i=>t i*a i r) n) (fun r _=>by rw[gX])]
 rw[e1] at ht;have h1:=Hd (fun r=>sm (fun i=>t i*a i r) n) m;have h2:=Hd t n;have h3:=yaw (Rat.le_of_lt hl) h2;have h4:ld*sm (fun c=>t c*t c) n=0:=by grind
 rcases Rat.mul_eq_zero.1 h4 with q | q
 .rw [q] at hl;exact absurd hl (Rat.lt_irrefl)
 .exact ajW q
def avw{n:Nat}{G:Mx}(hd:mV n G)(hw:wid n G)(hl:G.length=n):(cC G n).2.length=n:=by
 have h:=By hw n (ym n);have It:=h.pv.pv;refine Nat.le_antisymm (by omega) (Nat.le_of_not_lt fun aY=>?_);obtain⟨u,⟨i,hi,cu⟩,hu⟩:=under aY (fun j k=>E (cC G n).1 j k);have h0:∀i,i<G.length->sm (fun k=>E G i k*u k) n=0:=fun i hi=>(h.down i hi).dot (fun j hj=>by
  by_cases q:j<(cC G n).2.length
  .grind
  .exact q9 (fun k hk=>by rw[h.low j (by omega) hj k hk];grind))
 refine cu (hd u ?_ i hi)
 rw[cW (f:=fun c=>sm (fun i=>u i*E G i c) n*u c) (g:=fun c=>sm (fun i=>u i*(E G i c*u c)) n) (fun c _=>by
  have:=gX (u c) (fun i=>u i*E G i c) n
  rw[show sm (fun i=>u i*E G i c) n*u c=u c*sm (fun i=>u i*E G i c) n by grind,<-this]
  exact cW (fun i _=>by grind)),AD]
 exact q9 (fun i hi=>by rw[gX,h0 i (by omega)];grind)
def aCO{w:Nat}{m:Mx}{i c:Nat}(h:c<w):E (iK w m) i c=E m i c:=by
 unfold E;rw[Ez,Sl h]
def mV.cut{n w:Nat}{G:Mx}(h:mV n G)(hw:n<=w):mV n (iK w G):=fun t ht=>h t (by
 rw[<-ht];refine cW (fun c hc=>?_)
 rw[cW (f:=fun i=>t i*E (iK w G) i c) (g:=fun i=>t i*E G i c) (fun i _=>by rw[aCO (by lia)])])
section
variable {n:Nat}{G:Mx}(hd:mV n G)(hw:wid (n+1) G)(hl:G.length=n)
include hd hw hl
theorem M9:(cC (iK n G) n).2.length=n:=avw (hd.cut (ym n)) (Zg hw) (by rw[Sk];exact hl)
theorem ahT:n∉(cC G (n+1)).2:=fun hm=>by
 have h:=By hw (n+1) (ym _);have It:=h.pv.pv;have hf:=M9 hd hw hl
 rcases ahP (m:=G) (w:=n) with e | e
 .have h2:=By (Zg hw) n (ym n);rw[e] at hm
  have:=h2.pv.lt n hm
  omega
 .grind
theorem ZQ:∀i,i<n->sm (fun c=>E G i c*E (cC G (n+1)).1 c n) n=E G i n:=fun i hi=>by
 have h:=By hw (n+1) (ym _);obtain⟨p1,p2⟩:=SQ hw (ahT hd hw hl) (M9 hd hw hl);obtain⟨y,hy⟩:=h.down i (by omega);have e0:∀c,c<n->∀j,j<n->E (cC G (n+1)).1 j c=if j=c then 1 else 0:=fun c hc j hj=>by
  have:=h.one c (by omega) j (by omega)
  grind
 have e1:∀c,c<n->E G i c=y c:=fun c hc=>by
  rw[hy c (by omega),hl,sB hc (fun j hj cu=>by rw[e0 c hc j hj,yx cu];grind),e0 c hc c hc,yK rfl];grind
 rw[hy n (by omega),hl];exact cW (fun c hc=>by rw[e1 c hc])
theorem ax4{x:Nat->Rat}(hx:∀i,i<n->sm (fun c=>E G i c*x c) n=E G i n):∀k,k<n->E (cC G (n+1)).1 k n=x k:=
 ax1 hw (fun i hi=>hx i (by lia)) (M9 hd hw hl)
theorem ajX:∀k,k<n->E (gj n G n) k n*(E (gj n G n) k k)⁻¹=E (cC G (n+1)).1 k n:=
 fun _ hk=>aAS hd hw hl (ZQ hd hw hl) hk
end
def avx{m n:Nat}{a:Nat->Nat->Rat}{b y:Nat->Rat}{ld:Rat}(hy:∀r,r<m->sm (fun s=>(sm (fun c=>a r c*a s c) n+if r=s then ld else 0)*y s) m=b r){i:Nat}(hi:i<n):
  sm (fun c=>(sm (fun r=>a r i*a r c) m+if i=c then ld else 0)*sm (fun s=>a s c*y s) m) n=sm (fun r=>a r i*b r) m:=by
 have e1:∀r,r<m->a r i*b r=sm (fun s=>a r i*(sm (fun c=>a r c*a s c) n*y s)) m+ld*(a r i*y r):=fun r hr=>by
  rw[<-hy r hr,gX,cW (f:=fun s=>(sm (fun c=>a r c*a s c) n+if r=s then ld else 0)*y s) (g:=fun s=>sm (fun c=>a r c*a s c) n*y s+(if r=s then ld else 0)*y s) (fun s _=>by grind),pZ,sB (f:=fun s=>(if r=s then ld else 0)*y s) hr (fun s _ cu=>by rw[yx (fun q=>cu q.symm)];grind),yK rfl]
  grind
 rw[cW e1,pZ,gX]
 rw[cW (f:=fun c=>(sm (fun r=>a r i*a r c) m+if i=c then ld else 0)*sm (fun s=>a s c*y s) m) (g:=fun c=>sm (fun r=>sm (fun s=>a r i*(a r c*a s c*y s)) m) m+(if i=c then ld else 0)*sm (fun s=>a s c*y s) m) (fun c _=>by
  rw[cW (f:=fun r=>sm (fun s=>a r i*(a r c*a s c*y s)) m) (g:=fun r=>sm (fun s=>a s c*y s) m*(a r i*a r c)) (fun r _=>by
   rw[cW (f:=fun s=>a r i*(a r c*a s c*y s)) (g:=fun s=>(a r i*a r c)*(a s c*y s)) (fun s _=>by grind),gX];grind),gX]
  grind),pZ,sB (f:=fun c=>(if i=c then ld else 0)*sm (fun s=>a s c*y s) m) hi (fun c _ cu=>by rw[yx (fun q=>cu q.symm)];grind),yK rfl]
 congr 1
 rw[AD];refine cW (fun r _=>?_);rw[AD];refine cW (fun s _=>?_);rw[gX]
 have:=gX (y s) (fun c=>a r c*a s c) n
 grind
section
variable {hp:Hp}{cs:List AV}{W:List Nat}{l:List Rat}{ct i:Nat}
def ax5{x y:Bool}{r:Nat}{T:List (List AV)}{tm':Env}{b w:Nat}(lW:W.length=i)(hi:T.length=i)(hE:gY (cT tm live)=[a])(hb:i<b)(FR:a≠b)(ha:a=0\/i<a)(hm:au hp a=Ix (.cells ycO ycP x 1 (iC (iJ i) W++ .av b 0 w::ye r .ae)))(hr:∀j,j<i->au hp (j+1)=Ix (.cells ycO ycO y sz (gT T j)))(hc:au hp b=Ix (.cells ycO ycO y sz cs))(hM:i<=1000)(hT:∀S,fG a S 0=Ix 0->je (pos S) (cT tm live)=tm'):∃aq,bW live ⟨tm,hp,ct,0⟩=⟨tm',aq,1+(i+1),0⟩/\jI aq x y sz (W++[w]) (T++[cs]) r:=by
 have Dn:∀j (h:j<(iJ i++[b]).length),(iJ i++[b])[j]=if j<i then j+1 else b:=fun j h=>by
  by_cases hj:j<i
  .rw [yK hj,wg (by rw[zB];exact hj),Sj]
  .rw [yx hj,wz (by rw[zB];omega)];simp
 have li:(iJ i++[b]).length=i+1:=by simp[zB]
 obtain⟨aq,e,g,_⟩:=ZP (hp:=hp) (x:=x) (y:=y) (sz:=sz) (r:=r) (T:=T++[cs]) (W:=W++[w]) (ct:=ct) (pl:=[]) (ids:=iJ i++[b]) hE (by
  rw[hm];unfold dH;rw[Si (by rw[zB,lW]),xu];rfl) (by rw[li];simp[hi]) (by simp[lW,hi]) (fun j hj=>by
  rw[Dn j hj];by_cases Af:j<i
  .rw [yK Af,hr j Af,AL (by omega),AL (by simp;omega),wg]
  .have aFK:j=i:=by omega
   rw[yx (by omega),hc,AL (by simp;omega),wz (by omega)];simp[hi]) (by simp;omega) (by
  unfold jw;rw[wh];refine vz.2 ⟨fun hx=>?_,?_⟩
  .obtain ⟨j,hj,e⟩:=we.1 hx
   grind
  .unfold ycH;rw[uV];intro u v hu hv huv;rw[Dn u hu,Dn v hv]
   split<;>split<;>omega) (fun _ q=>by cases q) (by simp) (fun S q _=>hT S q)
 grind
def agF{l:List AV}{x:AV}{m:Nat}(h:l.length=i):over i [x] (l++ye (m+1) .ae)=l++x::ye m .ae:=by
 subst h;unfold over
 simp_all
def aAT{b w m:Nat}{pu x:Bool}(hW:W.length=i):fN hp ct 0 i 1 [.av b 0 w] (Ix (.cells ycO pu x 1 (dH (iJ i) W (m+1))))=Ix (.ax [],aV hp 0 (.cells ycO ycP x 1 (iC (iJ i) W++ .av b 0 w::ye m .ae)),ct):=by
 have hl:(iC (iJ i) W).length=i:=by rw[Gt (by rw[zB,hW]),hW]
 unfold dH
 rw[mb (new:=[AV.av b 0 w]) (by rfl) (by rw[yE,hl];simp) (by rfl),agF hl]
 simp[aD,aP]
def are{e:Bool}(h:QL cs l):nT hp 4 (.aF e l.length cs)=Ix (l.length,cs):=by
 simp[nT,h.len]
def aFL{id:Nat}(h:QL cs l)(hg:au hp id=Ix (.cells ycO ycO ex 4 (ye (l.length+1) z4).flatten)):PA hp ct 4 (Ix (l.length,cs)) (.av id 0 (l.length+1))=Ix (.int .i64 l.length,aV hp id (.cells ycO ycO ex 4 (cs++(ye 1 z4).flatten)),ct):=by
 have hl:=h.len;have e:over 0 (cs.take (min l.length (l.length+1)*4)) (ye (l.length+1) z4).flatten=cs++(ye 1 z4).flatten:=by
  rw[xq (by omega),yq (by omega)];simp only[over,vC,xy,yd];rw[hl,<-List.replicate_append_replicate,vD]
  simp_all
 simp only[PA,hg,Nat.beq_refl,yd,ajU,yC (ym _),h.one,xt,yN,h.pu]
 grind
def aCP{y bv:AV}{G:Mx}{b:List Rat}{n:Nat}(hy:dL cQ y G)(hb:cQ bv b)(hw:wid n G)(lG:G.length=n)(lb:b.length=n)(qJ:0<n)(hn:n<=900):
  cL P L [0,1,5,6,19,20] On (fun d st=>∃(i:Nat) (T:List (List AV)) (pu:Bool),i+d=n/\T.length=i/\bZ QL T ((dS G b).take i)/\(0<i->pu=ycP)/\∃hp,st=⟨[(0,y),(1,bv),(5,aa n),(6,.av 0 0 n),(19,aa n),(20,aa i)],hp,1+i,0⟩/\au hp 0=Ix (.cells ycO pu ycO 1 (dH (iJ i) (ye i (n+1)) (n-i)))/\∀j,j<i->au hp (j+1)=Ix (.cells ycO ycO ycO 4 (gT T j))) (fun ex s'=>∃tm hp ct T,s'=⟨tm,hp,ct,0⟩/\ex=.exit 0/\ab tm 5=aa n/\ab tm 6=.av 0 0 n/\bZ QL T (dS G b)/\jI hp ycO ycO 4 (ye n (n+1)) T 0):=by
 have lW:=rb (R:=G) (b:=b) (by lia);apply cP;rintro d st ⟨i,T,pu,hid,lT,hQ,jE,hp,rfl,g0,gr⟩;by_cases hi:i<n
 .left
  have W6:i<G.length:=by lia
  have⟨row,rest,iQ,e0⟩:=hy.aT W6;have wr:=hw i W6;rw[di W6] at wr;obtain⟨e,cs,rfl,dA⟩:∃e cs,row=.aF e n cs/\QL cs G[i]:=by
   rcases iQ with ⟨_,h2⟩ | ⟨e,cs,h1,h2⟩
   .rw [h2] at wr;simp at wr;lia
   .exact ⟨e,cs,by rw[h1,wr],h2⟩
  have⟨q1,q2,q3,q4,qr,e1,hq⟩:=hb.aT (i:=i) (by lia);have gq:=hq.f4;obtain⟨m,hm⟩:∃m,n-i=m+1:=⟨n-i-1,by lia⟩;rw[hm] at g0;have wn:IntKind.wrap .i64 ((n:Int)+1)=((n+1:Nat):Int):=wrap64 (by lia) (by lia);have wi:IntKind.wrap .i64 ((i:Int)+1)=((i+1:Nat):Int):=wrap64 (by lia) (by lia);have ck:∀ct,rE ct 4 64 [.int .i64 0,.ae,.int .i64 0,.ae] (Ix (n+1)) (Ix (n+1))=Ix (.av ct 0 (n+1),.cells ycO ycO ycO 4 (ye (n+1) z4).flatten):=fun ct=>BF (by lia) (by lia) rfl rfl
  have aK:=fun (hp:Hp) (ct:Nat)=>aAT (hp:=hp) (ct:=ct) (b:=1+i) (w:=n+1) (i:=i) (m:=m) (pu:=pu) (x:=ycO) (W:=ye i (n+1)) (by simp)
  have cu:¬(1+i=0):=by lia
  have g00:∀o,au (aV hp 0 o) 0=Ix o:=fun o=>by rw[iP g0,yK rfl]
  obtain⟨q,dq⟩:∃q,xK i (iC (iJ i) (ye i (n+1))++ .av (1+i) 0 (n+1)::ye m .ae)=.av (1+i) 0 (n+1)::q:=by
   have hl:(iC (iJ i) (ye i (n+1))).length=i:=by rw[Gt (by simp[zB])];simp
   exact⟨_,by
          conv=>lhs;arg 1;rw[<-hl]
          rw[um]⟩
  have PX:∀hp:Hp,nT hp 4 (.aF e n cs)=Ix (n,cs):=fun hp=>by
   have:=are (hp:=hp) (e:=e) dA;rwa[wr] at this
  have Cv:∀(hp:Hp) (ct:Nat),au hp (1+i)=Ix (.cells ycO ycO ycO 4 (ye (n+1) z4).flatten)->PA hp ct 4 (Ix (n,cs)) (.av (1+i) 0 (n+1))=Ix (.int .i64 n,aV hp (1+i) (.cells ycO ycO ycO 4 (cs++(ye 1 z4).flatten)),ct):=fun hp ct hg=>by
   have:=aFL (ct:=ct) (id:=1+i) (ex:=ycO) dA (by rw[wr];exact hg);rwa[wr] at this
  have lcs:cs.length=n*4:=by rw[dA.len,wr]
  have sQ:=fun (hp:Hp) (ct id:Nat)=>ahK (hp:=hp) (ct:=ct) (id:=id) (i:=n) (m:=0) (ex:=ycO) (qs:=cs) lcs gq
  simp only[List.replicate_zero,tF,wh,yd] at sQ;have qW:bZ QL (T++[cs++[q1,q2,q3,q4]]) ((dS G b).take (i+1)):=by
   rw[yk (by lia),SR W6 (by lia)];exact hQ.snoc (dA.snoc hq)
  simp only[go_sem,ya,yf,On,show (i:Int)<n by lia,yo,wn,As,ck,b9 0 0 hi,yd,cu,g0,aK,g00,dq,EJ,e0,aAL,PX,Cv,e1,Fi,gO,b9 (1+i) 0 (Nat.lt_succ_self n),sQ];rw[wi];have lT':(T++[cs++[q1,q2,q3,q4]]).length=i+1:=by simp[lT]
  refine⟨_,d-1,rfl,by lia,i+1,T++[cs++[q1,q2,q3,q4]],ycP,by lia,lT',qW,fun _=>rfl,?_⟩
  refine (ax5 (x:=ycO) (y:=ycO) (sz:=4) (r:=m) (W:=ye i (n+1)) (T:=T) (cs:=cs++[q1,q2,q3,q4]) (w:=n+1) (i:=i) (a:=0) (b:=1+i) (by simp) lT (by simp only[go_sem,ya,fX hy.pu,fX hb.pu]<;>rfl) (by lia) (by lia) (.inl rfl) (by rw[fO _ _ (by lia),g00]) (fun j hj=>by rw[fO _ _ (by lia),iP g0,yx (by lia),gr j hj]) (by rw[fq]) (by lia) (fun S q=>by simp only[go_sem,ya,q,mz _ hy.pu,mz _ hb.pu]<;>rfl)).imp (fun aq h=>⟨h.1,?_,fun j hj=>h.2.r j (by lia)⟩)
  have hm9:=h.2.m;rw[lT',<-List.replicate_succ'] at hm9;rw[show n-(i+1)=m by lia];exact hm9
 .right
  have:i=n:=by lia
  subst this;rw[yq (by lia)] at hQ;have hp0:=jE qJ;subst hp0;rw[uj] at g0;simp only[go_sem,ya,On,show ¬(i:Int)<i by lia,yp];exact⟨_,_,rfl,by simp,_,_,_,T,rfl,rfl,rfl,rfl,hQ,⟨by simp[lT],by rw[lT];exact g0,fun j hj=>gr j (by lia)⟩⟩
end
def aCQ{n k i:Nat}{m:Mx}(hw:wid (n+1) m)(hi:i<m.length)(hk:k<m.length)(hm:∀x,x∈gR m i->Hq K x)(ck:∀x,x∈gR m k->Hq K x)(hK:1<=K):∀x,x∈gR (rW n m k i) i->Hq (4*K+1) x:=fun x hx=>by
 unfold rW at hx
 split at hx
 .rename_i h;rw[oT,yK ⟨rfl,hi⟩] at hx;obtain⟨j,hj,rfl⟩:=we.1 hx;rw[IU] at hj;have e:=Sm (gR m i) (gR m k) (aO (gR m i) k*(aO (gR m k) k)⁻¹) k j hj (n+1-k);rw[dw (by rw[IU];exact hj)] at e
  rw[e];have wk:=hw k hk;have hE:∀{r:List Rat} {c:Nat},(∀x,x∈r->Hq K x)->c<r.length->Hq K (aO r c):=fun h hc=>by
   rw[dw hc];exact h _ (yy _)
  split
  .rename_i hc;have a1:=hE hm hj;have a2:=hE ck (c:=j) (by omega);by_cases A3:k<n+1
   .have a3:=hE hm (c:=k) (by omega);have a4:=(hE ck (c:=k) (by omega)).inv
    have:=(a1.sub ((a3.mul a4).mul a2))
    grind
   .omega
  .exact (hE hm hj).mono (by omega)
 .exact (hm x hx).mono (by omega)
def alw{n k K:Nat}{m:Mx}(hw:wid (n+1) m)(hk:k<m.length)(hm:iB K m)(hK:1<=K):∀i,i<=m.length->iB (4*K+1) (gG n m k i)
 | 0,_=>fun j hj x hx=>(hm j hj x hx).mono (by omega)
 | i+1,hi=>fun j hj x hx=>by
  have lg:=CN n m k i;by_cases Af:j=i
  .subst Af;exact aCQ (SS hw j (by omega)) (by omega) (by omega) (fun x hx=>by rw[CO j (.inl (ym j))] at hx;exact hm j (by omega) x hx) (fun x hx=>by rw[CO j (.inr rfl)] at hx;exact hm k hk x hx) hK x hx
  .have e:gR (gG n m k (i+1)) j=gR (gG n m k i) j:=by
    rw[gG];unfold rW
    split
    .rw [oT,yx (fun q=>Af q.1.symm)]
    .rfl
   rw[e] at hx;rw[CN] at hj;exact alw hw hk hm hK i (by omega) j (by rw[CN];exact hj) x hx
def VB{n K:Nat}{G:Mx}(hw:wid (n+1) G)(hl:G.length=n)(hm:iB K G)(hK:1<=K):∀k,k<=n->∃J,1<=J/\J+1<=4^k*(K+1)/\iB J (gj n G k)
 | 0,_=>⟨K,hK,by lia,hm⟩
 | k+1,hk=>by
  have⟨J,j1,j2,j3⟩:=VB hw hl hm hK k (by lia);refine⟨4*J+1,by lia,?_,?_⟩
  .have:=Nat.mul_le_mul_left 4 j2
   rw[Nat.pow_succ,Nat.mul_comm (4^k) 4,Nat.mul_assoc];lia
  .rw [gj];exact alw (Jz hw (by lia) k) (by rw[BK];lia) j3 j1 n (by rw[BK];lia)
def QL.JA{l:List Rat}{cs:List AV}(h:QL cs l){c:Nat}(hc:c<l.length):∃a b x y r,xK (c*4) cs=a::b::x::y::r/\bE (.agg [a,b,x,y]) (aO l c):=by
 have⟨a,b,x,y,r,e,q⟩:=h.get hc;exact⟨a,b,x,y,r,e,by rw[dw hc];exact q⟩
def bZ.QP{T:List (List AV)}{M:Mx}(h:bZ QL T M){i:Nat}(hi:i<M.length):QL (gT T i) (gR M i):=by
 have hl:=h.len;rw[AL (by lia),di hi];exact h.get (by lia) hi
def Na{n w i:Nat}(h:i<n):(ye n w).getD i 0=w:=by simp_all
def aCR(h:Fr' P L){m:Mx}{n i k:Nat}(hw:wid (n+1) m)(lm:m.length=n)(hi:i<n)(hk:k<n)(jV:i≠k)(hn:n<=900){f1 f2 f3 f4:AV}{f:Rat}(hf:bE (.agg [f1,f2,f3,f4]) f)(ka:∀x,x∈gR m i->Hq K x)(kb:∀x,x∈gR m k->Hq K x)(kf:Hq (2*K) f)(DY:1<=K)(hK:K<=500000000):
  cL P L [5,6,8,9,10,11,49,50,53,54] Oo (fun d st=>∃(c:Nat) (T:List (List AV)),k+c+d=n+1/\bZ QL T (m.set i (lj (gR m i) (gR m k) f k c))/\∃hp ct,st=⟨[(5,aa n),(6,.av 0 0 n),(8,aa k),(9,aa i),(10,.ptr (n+1) 0),(11,aa (k+c:Nat)),(49,aa n),(50,aa k),(53,aa n),(54,aa i)],hp,ct,0⟩/\jI hp ycO ycO 4 (ye n (n+1)) T 0/\au hp (n+1)=Ix (.cells ycO ycO ycO 4 [f1,f2,f3,f4])) (fun ex s'=>∃tm hp ct T,s'=⟨tm,hp,ct,0⟩/\ex=.exit 6/\ab tm 5=aa n/\ab tm 6=.av 0 0 n/\ab tm 8=aa k/\ab tm 49=aa n/\ab tm 50=aa k/\ab tm 53=aa n/\ab tm 54=aa i/\bZ QL T (m.set i (lj (gR m i) (gR m k) f k (n+1-k)))/\jI hp ycO ycO 4 (ye n (n+1)) T 0):=by
 apply cP;rintro d st ⟨c,T,hcd,hQ,hp,ct,rfl,hG,hfb⟩;have lMs:(m.set i (lj (gR m i) (gR m k) f k c)).length=n:=by rw[wI,lm]
 have lT:T.length=n:=by rw[hQ.len,lMs]
 have wi:=hw i (by lia);have wk:=hw k (by lia);by_cases hc:k+c<=n
 .left
  have ei:gR (m.set i (lj (gR m i) (gR m k) f k c)) i=lj (gR m i) (gR m k) f k c:=by rw[oT,yK ⟨rfl,by lia⟩]
  have ek:gR (m.set i (lj (gR m i) (gR m k) f k c)) k=gR m k:=by rw[oT,yx (fun q=>jV q.1)]
  have qi:=hQ.QP (i:=i) (by lia);have qk:=hQ.QP (i:=k) (by lia);rw[ei] at qi;rw[ek] at qk;have ls:(lj (gR m i) (gR m k) f k c).length=n+1:=by rw[IU,wi]
  have⟨a1,a2,a3,a4,ar,d1,h1⟩:=qi.JA (c:=k+c) (by lia);have⟨b1,b2,b3,b4,br,d2,h2⟩:=qk.JA (c:=k+c) (by lia);rw[Sm _ _ _ _ _ (by lia),yx (by lia)] at h1;have hE:∀{r:List Rat} {c:Nat},(∀x,x∈r->Hq K x)->c<r.length->Hq K (aO r c):=fun h hc=>by
   rw[dw hc];exact h _ (yy _)
  have k1:=hE ka (c:=k+c) (by lia);have k2:=hE kb (c:=k+c) (by lia);have⟨p,e1,bm⟩:=zb h hf h2 (K:=2*K) kf (k2.mono (by lia)) (by lia);have⟨z,e2,hz⟩:=Lf h h1 bm (K:=3*K) (k1.mono (by lia)) ((kf.mul k2).mono (by lia)) (by lia);have dj:=hz;have g1:=h1.f4;have g2:=h2.f4;have gf:=hf.f4;obtain⟨p1,p2,p3,p4,rfl,gp⟩:=bm.gen;obtain⟨z1,z2,z3,z4',rfl,gz⟩:=hz.gen;have⟨q1,DZ⟩:=M8 (r:=0) (n:=n) (W:=ye n (n+1)) hi (by simp);have⟨q2,QQ⟩:=M8 (r:=0) (n:=n) (W:=ye n (n+1)) hk (by simp);rw[Na hi] at DZ;rw[Na hk] at QQ;have g0:=hG.m;rw[lT] at g0;have gi:=hG.r i (by lia);have gk:=hG.r k (by lia);have aK:=fun (hp:Hp) (ct id:Nat)=>stQ (hp:=hp) (ct:=ct) (id:=id) (ex:=ycO) qi (show k+c<(lj (gR m i) (gR m k) f k c).length by lia) gz
  have wc:IntKind.wrap .i64 (((k+c:Nat):Int)+1)=((k+(c+1):Nat):Int):=by
   rw[show ((k+c:Nat):Int)+1=((k+(c+1):Nat):Int) by lia];exact wrap64 (by lia) (by lia)
  have aY:k+c<n+1:=by lia
  unfold ah at e1 e2;simp only[go_sem,ya,yf,Oo,show ((k+c:Nat):Int)<=n by lia,yo,As,b9 0 0 hi,b9 0 0 hk,yd,g0,DZ,QQ,EJ,gi,gk,b9 (i+1) 0 aY,b9 (k+1) 0 aY,d1,d2,gP,hfb,yh,g1.af,g2.af,gf.af,e1,bf,gp.af,e2,aK,wc];refine⟨_,d-1,rfl,by lia,c+1,T.set i (VE.over ((k+c)*4) [z1,z2,z3,z4'] (gT T i)),by lia,?_,?_⟩
  .have hq:=(qi.over (show k+c<(lj (gR m i) (gR m k) f k c).length by lia) dj);have e:m.set i (lj (gR m i) (gR m k) f k (c+1))=(m.set i (lj (gR m i) (gR m k) f k c)).set i (lj (gR m i) (gR m k) f k (c+1)):=by rw[List.set_set]
   rw[e];exact hQ.set i hq
  .have hG':=hG.set (i:=i) (by lia) (VE.over ((k+c)*4) [z1,z2,z3,z4'] (gT T i))
   refine (hG'.TZ (p:=n+1) (by simp[lT]) (by rw[iP gi,yx (by lia)];exact hfb) (by simp only[go_sem,ya]<;>rfl) (by simp;lia) (fun S s1 s2=>by simp only[go_sem,ya,s1,s2,wI,lT]<;>rfl)).imp (fun aq h=>⟨_,h.1,h.2.1,?_⟩)
   have:=h.2.2
   rwa[wI,lT] at this
 .right
  have:c=n+1-k:=by lia
  subst this;simp only[go_sem,ya,Oo,show ¬((k+(n+1-k):Nat):Int)<=n by lia,yp];exact⟨_,_,rfl,by simp,_,_,_,T,rfl,rfl,rfl,rfl,rfl,rfl,rfl,rfl,rfl,hQ,hG⟩
def jI.cons{x y:Bool}{r:Nat}{W:List Nat}{T:List (List AV)}(h:jI hp x y sz W T r)(aq:T.length<p)(o:Obj):jI ((p,o)::hp) x y sz W T r:=
 ⟨h.l,by rw[fO _ _ (by lia)];exact h.m,fun i hi=>by rw[fO _ _ (by lia)];exact h.r i hi⟩
def aCS(h:Fr' P L){m:Mx}{n k:Nat}(hw:wid (n+1) m)(lm:m.length=n)(hk:k<n)(hn:n<=900)(hp0:aO (gR m k) k≠0)(km:iB K m)(DY:1<=K)(hK:K<=500000000):
  cL P L [5,6,8,49,50,53,54] G8 (fun d st=>∃(i:Nat) (T:List (List AV)),i+d=n/\bZ QL T (gG n m k i)/\∃hp,st=⟨[(5,aa n),(6,.av 0 0 n),(8,aa k),(49,aa n),(50,aa k),(53,aa n),(54,aa i)],hp,1+n,0⟩/\jI hp ycO ycO 4 (ye n (n+1)) T 0) (fun ex s'=>∃tm hp ct T,s'=⟨tm,hp,ct,0⟩/\ex=.exit 4/\ab tm 5=aa n/\ab tm 6=.av 0 0 n/\ab tm 49=aa n/\ab tm 50=aa k/\bZ QL T (gG n m k n)/\jI hp ycO ycO 4 (ye n (n+1)) T 0):=by
 apply cP;rintro d st ⟨i,T,hid,hQ,hp,rfl,hG⟩;have lg:=CN n m k i;have lT:T.length=n:=by rw[hQ.len,lg,lm]
 by_cases hi:i<n
 .left
  have FA:=SS (n:=n) (k:=k) hw i (by lia);have ri:=CO (n:=n) (m:=m) (k:=k) (j:=i) i (.inl (ym i));have rk:=CO (n:=n) (m:=m) (k:=k) (j:=k) i (.inr rfl);have wi:=hw i (by lia);have wk:=hw k (by lia);have qi:=hQ.QP (i:=i) (by lia);have qk:=hQ.QP (i:=k) (by lia);rw[ri] at qi;rw[rk] at qk;have⟨a1,a2,a3,a4,ar,d1,h1⟩:=qi.JA (c:=k) (by lia);have⟨b1,b2,b3,b4,br,d2,h2⟩:=qk.JA (c:=k) (by lia);have hE:∀{r:List Rat} {c:Nat},(∀x,x∈r->Hq K x)->c<r.length->Hq K (aO r c):=fun h hc=>by
   rw[dw hc];exact h _ (yy _)
  have k1:=hE (km i (by lia)) (c:=k) (by lia);have k2:=hE (km k (by lia)) (c:=k) (by lia);have e0:=abv h h1;have Be:=aFG (aO (gR m i) k);have g1:=h1.f4;have g2:=h2.f4;have⟨q1,DZ⟩:=M8 (r:=0) (n:=n) (W:=ye n (n+1)) hi (by simp);have⟨q2,QQ⟩:=M8 (r:=0) (n:=n) (W:=ye n (n+1)) hk (by simp);rw[Na hi] at DZ;rw[Na hk] at QQ;have g0:=hG.m;rw[lT] at g0;have gi:=hG.r i (by lia);have gk:=hG.r k (by lia);have aY:k<n+1:=by lia
  have QR:IntKind.wrap .i64 ((i:Int)+1)=((i+1:Nat):Int):=wrap64 (by lia) (by lia);unfold ah at e0;by_cases jV:i=k
  .have hd:decide ((i:Int)=(k:Int))=ycO:=xG (by lia);have hr:gG n m k (i+1)=gG n m k i:=by
    rw[gG];unfold rW;rw[yx (fun q=>q.1 jV)]
   simp only[go_sem,ya,G8,show (i:Int)<n by lia,yo,hd];refine⟨_,d-1,rfl,by lia,i+1,T,by lia,by rw[hr];exact hQ,?_⟩
   rw[QR];exact (hG.comp (by simp only[go_sem,ya]<;>rfl) (by lia) (fun S s1=>by simp only[go_sem,ya,s1]<;>rfl)).imp (fun aq h=>⟨h.1.trans (by rw[lT]),h.2⟩)
  .have hd:decide ((i:Int)=(k:Int))=ycP:=xn (by lia);by_cases hz:aO (gR m i) k=0
   .have hr:gG n m k (i+1)=gG n m k i:=by
     rw[gG];unfold rW;rw[yx (fun q=>q.2 (by rw[ri];exact hz))]
    rw[xG hz] at Be;simp only[go_sem,ya,yf,G8,show (i:Int)<n by lia,yo,hd,As,b9 0 0 hi,yd,g0,DZ,EJ,gi,b9 (i+1) 0 aY,d1,gP,g1.af,e0,Be];refine⟨_,d-1,rfl,by lia,i+1,T,by lia,by rw[hr];exact hQ,?_⟩
    rw[QR];exact (hG.comp (by simp only[go_sem,ya]<;>rfl) (by lia) (fun S s1=>by simp only[go_sem,ya,s1]<;>rfl)).imp (fun aq h=>⟨h.1.trans (by rw[lT]),h.2⟩)
   .rw [xn hz] at Be;have⟨f,e1,hf⟩:=WI h h1 h2 hp0 k1 k2 (by lia);rw[Rat.div_def] at hf;have rL:=hf;obtain⟨f1,f2,f3,f4,rfl,gf⟩:=hf.gen;have hr:gG n m k (i+1)=(gG n m k i).set i (lj (gR m i) (gR m k) (aO (gR m i) k*(aO (gR m k) k)⁻¹) k (n+1-k)):=by
     rw[gG];unfold rW;rw[ri,rk,yK ⟨jV,hz⟩]
    have f0:=aCR (P:=P) (L:=L) h (m:=gG n m k i) (n:=n) (i:=i) (k:=k) FA (by lia) hi hk jV hn rL (K:=K) (by rw[ri];exact km i (by lia)) (by rw[rk];exact km k (by lia)) ((k1.mul k2.inv).mono (by lia)) DY hK (n+1-k)
    rw[ri,rk] at f0;have self:(gG n m k i).set i (lj (gR m i) (gR m k) (aO (gR m i) k*(aO (gR m k) k)⁻¹) k 0)=gG n m k i:=by
     have:=avp (m:=gG n m k i) (i:=i) (by lia)
     rwa[ri] at this
    unfold ah at e1;simp only[go_sem,ya,yb,yf,G8,show (i:Int)<n by lia,yo,hd,As,b9 0 0 hi,b9 0 0 hk,yd,g0,DZ,QQ,EJ,gi,gk,b9 (i+1) 0 aY,b9 (k+1) 0 aY,d1,d2,gP,g1.af,g2.af,e0,Be,e1,bf,aG,gf.st];generalize hq:D P L (.loop _ Oo) _=q;have hG1:=hG.cons (p:=1+n) (by lia) (.cells ycO ycO ycO 4 [f1,f2,f3,f4]);obtain⟨ex,st,rfl,tm,ff,HZ,T2,rfl,rfl,t5,t6,t8,t49,t50,t53,t54,F0,QS⟩:=bg hq f0 ⟨0,T,by lia,by rw[self];exact hQ,(hG1.TZ (p:=1+n) (by lia) (fq _ _ _) (by simp only[go_sem,ya]<;>rfl) (by lia) (fun S s1 s2=>by simp only[go_sem,ya,s1,s2,lT]<;>rfl)).imp (fun aq h=>⟨_,h.1,h.2.1,by have:=h.2.2;rwa[lT] at this⟩)⟩
    have QT:T2.length=n:=by rw[F0.len,wI,lg,lm]
    have⟨Ie,e3,QU⟩:=QS.comp (ct:=HZ) (live:=[5,6,8,49,50,53,54]) (tm:=tm) (tm':=[(5,aa n),(6,.av 0 0 n),(8,aa k),(49,aa n),(50,aa k),(53,aa n),(54,aa i)]) (by simp only[go_sem,t5,t6,t8,t49,t50,t53,t54]<;>rfl) (by lia) (fun S s1=>by simp only[go_sem,t5,t6,t8,t49,t50,t53,t54,s1]<;>rfl)
    simp only[go_sem,ya,e3,QR];refine⟨_,d-1,rfl,by lia,i+1,T2,by lia,by rw[hr];exact F0,?_⟩
    exact (QU.comp (by simp only[go_sem,ya]<;>rfl) (by lia) (fun S s1=>by simp only[go_sem,ya,s1]<;>rfl)).imp (fun aq h=>⟨h.1.trans (by rw[QT]),h.2⟩)
 .right
  have:i=n:=by lia
  subst this;simp only[go_sem,ya,G8,show ¬(i:Int)<i by lia,yp];exact⟨_,_,rfl,by simp,_,_,_,T,rfl,rfl,rfl,rfl,rfl,rfl,hQ,hG⟩
end VE
