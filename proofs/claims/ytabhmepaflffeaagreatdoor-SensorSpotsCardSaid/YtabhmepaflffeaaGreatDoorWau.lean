import Derived.Test.YtabhmepaflffeaaGreatDoorWat
import Derived.Test.YtabhmepaflffeaaGreatDoorWar
set_option linter.all false
set_option maxRecDepth 100000
open Bool renaming and_eq_true->yf,and_self->wg,false_eq_true->yH,not_false->yY,not_true->yO,or_eq_true->wM
open Int renaming natCast_mul->xx
open List renaming all_eq_true->yan,append_nil->wu,cons_append->xe,drop->uh,drop_eq_getElem_cons->yS,drop_succ_cons->yL,drop_zero->yg,ext_getElem->ybO,getD_eq_getElem?_getD->y9,getElem?_set->ybF,getElem_append_left->uv,getElem_append_right->vj,getElem_cons_zero->wX,getElem_map->vz,getElem_mem->xq,getElem_replicate->ux,length_append->yW,length_cons->yB,length_map->yU,length_nil->yM,length_replicate->wC,length_set->ycd,map_append->xB,map_cons->yV,map_nil->wJ,mem_append->wB,mem_cons->xP,mem_cons_of_mem->xy,mem_cons_self->xO,mem_iff_getElem->tc,mem_map->wA,mem_range->vW,mem_singleton->wE,nil_append->xt,nodup_append->ybG,nodup_cons->uy,nodup_range'->ybL,not_mem_nil->ybY,range->wR,range_succ->ybc,replicate->yk,replicate_succ->wQ,sum_cons->tQ,take->ydx,take_succ_eq_append_getElem->xn,zipWith->uO
open Nat renaming add_comm->vU,add_left_cancel_iff->tF,add_mul->we,beq_refl->wK,div_add_mod->xL,le_refl->yx,le_trans->xi,mod_lt->xE,mul_comm->xg,mul_le_mul->yZ,mul_le_mul_right->yX,mul_one->yh,mul_pos->wV,one_mul->yah,reduceAdd->yb,reduceEqDiff->ya,reduceLT->yG,reduceLeDiff->yq,reduceMul->xv,sub_self->ydb,zero_add->ye
open Option renaming some->Gr
open Bool renaming true->ydy,false->ydz
section
namespace VE
open Go (IntKind)
noncomputable def nJ(C S:Nat)(lt:Rat)(ps:List (List Nat×List Nat))(m i:Nat):List AV:=(wR i).map fun y=>AV.au ydz m (fE (iX C S lt ps m y))
def ael(C S:Nat)(lt:Rat)(ps:List (List Nat×List Nat))(m i:Nat):nJ C S lt ps m (i+1)=nJ C S lt ps m i++[.au ydz m (fE (iX C S lt ps m i))]:=by unfold nJ;rw[ybc,xB];rfl
def afk(C S:Nat)(lt:Rat)(ps:List (List Nat×List Nat))(m i:Nat):(nJ C S lt ps m i).length=i:=by simp[nJ]
def afl(C S:Nat)(lt:Rat)(ps:List (List Nat×List Nat))(m:Nat):∀n,c7 Af (nJ C S lt ps m n) ((iF C S lt ps m n).map fun r=>r.map RT)
 | 0=>trivial
 | n+1=>by
  rw[ael,show iF C S lt ps m (n+1)=iF C S lt ps m n++[iX C S lt ps m n] by unfold iF;rw[ybc,xB];rfl,xB]
  refine (afl C S lt ps m n).snoc ?_
  have:=af7 ydz (iX C S lt ps m n)
  rwa[rR] at this
section
variable {P:aF}{L:Lib}
def auI{v:AV}(pv:aV v=ydy){lt:List Nat}{C R S:Int}{i c:Nat}{rows cs:List AV}{tm:Env}{ct:Nat}(hk:bD tm [1,2,3,8,9,10]=[(1,v),(2,.str lt),(3,.ptr 0 0),(8,oV 1 i),(9,aa i),(10,oV (oC 1 i) c)]):bB [1,2,3,8,9,10] ⟨tm,tH C R S i c rows cs,ct,0⟩=⟨[(1,v),(2,.str lt),(3,.ptr 0 0),(8,oV 1 i),(9,aa i),(10,oV (oC 1 i) c)],tH C R S i c rows cs,oC (oC 1 i) c,0⟩:=by
 rw[kJ (c':=ct) (tm':=[(1,v),(2,.str lt),(3,.ptr 0 0),(8,oV 1 i),(9,aa i),(10,oV (oC 1 i) c)]) (by rw[hk];rfl)]
 cases i<;>cases c<;>simp only[go_sem,ya,yb,aq,oV,oH,oC,tH,bM,aC pv]<;>rfl
def aD2(h:JG P L){v:AV}{ps:List (List Nat×List Nat)}{lt:List Nat}{C R S:Nat}(hv:mJ v ps)(hl:ps.length=C*R)(hp:AZ ps)(aG:bX lt=0)(kS:lt.length<=40)(hC:C<=8)(hR:R<=8)(eM:0<S)(hS:S<=8)(sC:0<C*S)(Ic:0<R*S):
  (((iF C S (aS lt) ps (C*S) (R*S)).any fun r=>r.any df)=ydy->ab P L 776 [.agg [aa C,aa R,aa S],v,.str lt] (.av [.aj,aa 4]))/\(((iF C S (aS lt) ps (C*S) (R*S)).any fun r=>r.any df)=ydz->∃rows,ab P L 776 [.agg [aa C,aa R,aa S],v,.str lt] (.av [.au ydz (R*S) rows,aa 0])/\aY (aY gV) (.au ydz (R*S) rows) (iF C S (aS lt) ps (C*S) (R*S))):=by
 have cl:gC 2 v (ps.map fun p=>[AV.str p.1,.str p.2]):=hv;have Cu:C*S<=64:=yZ hC hS;have Cv:R*S<=64:=yZ hR hS;have m1:(R:Int)*(S:Int)=((R*S:Nat):Int):=by rw[xx]
 have w0:IntKind.wrap .i64 ((R*S:Nat):Int)=((R*S:Nat):Int):=wrap64 (by omega) (by omega);have oM:=PM C S (aS lt) ps (C*S) (R*S);have e1:=ajz h.toFz h.Sk (v:=.au ydz (R*S) (nJ C S (aS lt) ps (C*S) (R*S))) (M:=iF C S (aS lt) ps (C*S) (R*S)) (by
  have:=rJ ydz (afl C S (aS lt) ps (C*S) (R*S))
  rwa[yU,oM] at this) (by omega) (by omega) (fun r hr=>by
  obtain⟨k,hk,rfl⟩:=wA.1 hr;have hk:=vW.1 hk;refine⟨by rw[rR];exact sC,by rw[rR];omega,fun x hx=>?_⟩
  obtain⟨c,hc,rfl⟩:=wA.1 hx
  exact (ahJ (R:=R) eM hS hl hp (Ap aG kS) (vW.1 hc) hk).mono (by decide))
 rw[oM] at e1;have key:=fK P L [1,2,3,8,9] Hb
  (fun d st=>∃i,i+d=R*S/\st=⟨[(1,v),(2,.str lt),(3,.ptr 0 0),(8,oV 1 i),(9,aa i)],oH 1 1 (nJ C S (aS lt) ps (C*S) i) [(0,bM C R S)] i,oC 1 i,0⟩)
  (fun ex st=>∃tm ct,st=⟨tm,oH 1 1 (nJ C S (aS lt) ps (C*S) (R*S)) [(0,bM C R S)] (R*S),ct,0⟩/\ex=.exit 0/\bD tm [8]=[(8,oV 1 (R*S))]) (by
   rintro d st ⟨i,hid,rfl⟩;by_cases hi:i<R*S
   .left
    have key:=ayV h hv hl hp aG kS hC hR eM hS hi (rows:=nJ C S (aS lt) ps (C*S) i);have bN:=fun (tm:Env) (ct:Nat) hk=>auI (v:=v) cl.pu (lt:=lt) (C:=C) (R:=R) (S:=S) (i:=i) (c:=C*S) (rows:=nJ C S (aS lt) ps (C*S) i) (cs:=fE (iX C S (aS lt) ps (C*S) i)) (tm:=tm) (ct:=ct) hk
    have eD:(i:Int)<((R*S:Nat):Int):=by omega
    have wi:IntKind.wrap .i64 ((i:Int)+1)=((i+1:Nat):Int):=wrap64 (by omega) (by omega);have zW:=ael C S (aS lt) ps (C*S) i;have lR:=afk C S (aS lt) ps (C*S) i;have mi:(fE (iX C S (aS lt) ps (C*S) i)).length=C*S:=by rw[PL,rR]
    obtain⟨m,hm⟩:∃m,C*S=m+1:=⟨C*S-1,by omega⟩;rw[hm] at key bN zW lR mi ⊢;have cL:=fun hp:Hp=>gD (hp:=hp) (k:=m+1) (sz:=1) (cs:=fE (iX C S (aS lt) ps (m+1) i)) ydz (by rw[mi,yh]) (by decide)
    have ia:∀(tm:Env) (e:Bool) (k:Nat) (cs:List AV),lD tm [AV.aj] 0 1 [.au e k cs] []=Gr [.au e k cs]:=fun _ _ _ _=>rfl
    have iq:∀(cf pu ex:Bool) (a:AV),pG 0 1 1 (Gr (.cells cf pu ex 1 [a]))=Gr (1,[a]):=fun _ _ _ _=>rfl
    have iQ:=fun (hp:Hp) (ct:Nat) (e:Bool) (k:Nat) (cs:List AV) (hg:ak hp 1=Gr (.cells ydy ydy ydz 1 (nJ C S (aS lt) ps (m+1) i)))=>ff (ct:=ct) (by':=24) (new:=[.au e k cs]) (m:=1) (n:=i) hg (by rw[lR,yh]) (by omega) (by omega) (by decide) rfl
    cases i with
    | zero=>
     have dS:nJ C S (aS lt) ps (m+1) 1=[.au ydz (m+1) (fE (iX C S (aS lt) ps (m+1) 0))]:=zW;simp only[oV,oH,oC,tH] at key bN ⊢;simp only[go_sem,ya,yb,Hb,bM,aX,ye,yg,yL,m1,w0,eD];generalize hQ:D P L (.loop _ C2) _=Q;obtain⟨ex,st,rfl,tm,ct,rfl,rfl,cY⟩:=bg hQ (key (m+1)) ⟨0,by omega,by simp only[go_sem,ya,yb,aq,bM,aC cl.pu]<;>rfl⟩
     simp only[go_sem,ya,yb,xv,yG,yq,yh,bN tm ct cY,cL,ia,eQ,kL,kK,iq,gL,wi];refine⟨_,d-1,rfl,by omega,1,by omega,?_⟩;rw[dS];simp only[go_sem,ya,yb,aq,bM,aC cl.pu]<;>rfl
    | succ i=>
     simp only[oV,oH,oC,tH] at key bN ⊢;simp only[go_sem,ya,yb,Hb,bM,aX,ye,yg,yL,m1,w0,eD];generalize hQ:D P L (.loop _ C2) _=Q;obtain⟨ex,st,rfl,tm,ct,rfl,rfl,cY⟩:=bg hQ (key (m+1)) ⟨0,by omega,by simp only[go_sem,ya,yb,aq,bM,aC cl.pu]<;>rfl⟩
     simp only[go_sem,ya,yb,yh,bN tm ct cY,cL,ia,eQ,kL,kK,iq,iQ,wi];refine⟨_,d-1,rfl,by omega,i+1+1,by omega,?_⟩;rw[zW];simp only[go_sem,ya,yb,aq,bM,aC cl.pu]<;>rfl
   .right
    have oK:i=R*S:=by omega
    subst oK;have eD:¬((R*S:Nat):Int)<((R*S:Nat):Int):=by omega
    obtain⟨n,hn⟩:∃n,R*S=n+1:=⟨R*S-1,by omega⟩;rw[hn] at m1 w0 eD ⊢;simp only[oV,oH,oC];simp only[go_sem,ya,yb,Hb,bM,aX,ye,yg,yL,m1,w0,eD]
    exact⟨_,_,rfl,by simp,_,_,rfl,rfl,by simp only[go_sem,ya]<;>rfl⟩) (R*S)
 unfold ab at e1 ⊢;rw[aD h.aDX];simp only[go_sem,yb,XN,gB];generalize hQ:D P L (.loop _ Hb) _=Q;obtain⟨ex,st,rfl,tm,ct,rfl,rfl,cY⟩:=bg hQ key ⟨0,by omega,by simp only[go_sem,ya,yb,aq,oV,oH,oC,bM,aC cl.pu]<;>rfl⟩
 have lR:=afk C S (aS lt) ps (C*S) (R*S);obtain⟨n,hn⟩:∃n,R*S=n+1:=⟨R*S-1,by omega⟩;rw[hn] at cY lR e1 ⊢;have bN:bB [8] ⟨tm,oH 1 1 (nJ C S (aS lt) ps (C*S) (n+1)) [(0,bM C R S)] (n+1),ct,0⟩=⟨[(8,.ay 0 0 (n+1))],[(0,.cells ydy ydy ydz 1 (nJ C S (aS lt) ps (C*S) (n+1)))],1,0⟩:=by
  rw[kJ (c':=ct) (tm':=[(8,.ay 1 0 (n+1))]) (by rw[cY];rfl)]
  simp only[go_sem,yb,aq,oH,bM]<;>rfl
 have cL:=fun hp:Hp=>gD (hp:=hp) (k:=n+1) (sz:=1) (cs:=nJ C S (aS lt) ps (C*S) (n+1)) ydz (by rw[lR,yh]) (by decide)
 refine⟨fun q=>?_,fun q=>?_⟩
 .have e1:=e1.1 q;simp only[go_sem,ya,bN,cL,e1,fU,fS,fT,JT,Bo]
 .obtain ⟨rows,e1,hR⟩:=e1.2 q;refine⟨rows,?_,hR⟩;simp only[go_sem,ya,bN,cL,e1,fU,fS,fT,Bo]
end
section
variable {P:aF}{L:Lib}
def ajH(h:Bk P L){C R S i:Nat}{t:List Nat}(hS:S<=8)(hi:i<=8)(ht:bX t=0):∃r,ab P L 696 [.str t,aa i,eC C R S] r/\bW r (lG S (aS t) i):=by
 obtain⟨x,e1,hx⟩:=R9 h.toCk ht;have kx:=Kv ht (yx 2400);obtain⟨c,e2,hc⟩:=ajs (P:=P) h.toCen.toMom.toFr' h.toCen.toMom.Sh (C:=C) (R:=R) hS hi;have kc:=P6 hS hi;obtain⟨d,e3,hd⟩:=S7 h.toCen.toMom.toFr' hx hc (K:=2400) kx (kc.mono (by decide)) (by decide);have kd:=kx.sub kc;have e4:=MB h.toCen.toMom.toFr' hd;obtain⟨nd,e5,kV⟩:=Ye h.toCen.toMom.toFr' hd kd (by decide);obtain⟨one,e6,ho⟩:=D7 h.toCen.toMom.toFr' (z:=1) (by decide) (by decide);have ho:bW one (1:Rat):=by simpa using ho
 have k1:Hq 10 (1:Rat):=⟨by decide,by decide⟩;have lP:∀(hp:Hp) (a b c:AV),gH hp 3 ydy (.bA [a,b,c])=Gr (.agg [a,b,c]):=fun _ _ _ _=>rfl
 have fz:=nA;have hda:=hd;have hna:=kV;have e6':bO P L (D P L) 69 [.int .i64 1]=Gr one:=e6;obtain⟨x1,x2,x3,x4,rfl,gx⟩:=hx.gen;obtain⟨c1,c2,c3,c4,rfl,gc⟩:=hc.gen;obtain⟨d1,d2,d3,d4,rfl,gd⟩:=hd.gen;obtain⟨n1,n2,n3,n4,rfl,gn⟩:=kV.gen;have ho0:=ho;obtain⟨o1,o2,o3,o4,rfl,go⟩:=ho.gen;unfold lG cB;unfold ab at e1 e2 e3 e4 e5;by_cases hs:aS t-qM S i<0
 .have nE:decide (bK (aS t-qM S i).num<0)=ydy:=yN ((oN _).2 hs);rw[yE hs];obtain⟨u,e7,hu⟩:=S7 h.toCen.toMom.toFr' ho0 hna (K:=4000) (k1.mono (by decide)) (kd.neg.mono (by decide)) (by decide);obtain⟨r,e8,hr⟩:=aju (P:=P) (L:=L) h.toCen.toMom.toFr' h.MP hu;refine⟨r,?_,hr⟩;obtain⟨u1,u2,u3,u4,rfl,gu⟩:=hu.gen;obtain⟨r1,r2,r3,r4,rfl,gr⟩:=hr.gen;unfold ab at e7 e8;unfold ab;rw[aD h.ajA];simp only[go_sem,ya,yb,RC,eC,lP,e1,bh,fz,e2,gx.ah,gc.ah,e3,aQ,gd.st,yg,mX,gd.ah,e4,nE,e5,gn.st,e6',gn.ah,go.ah,e7,gu.ah,e8,gr.st,dw,dB,gr.c9]
 .have nE:decide (bK (aS t-qM S i).num<0)=ydz:=yC (fun q=>hs ((oN _).1 q));rw[yp hs];obtain⟨u,e7,hu⟩:=S7 h.toCen.toMom.toFr' ho0 hda (K:=4000) (k1.mono (by decide)) (kd.mono (by decide)) (by decide);obtain⟨r,e8,hr⟩:=aju (P:=P) (L:=L) h.toCen.toMom.toFr' h.MP hu;refine⟨r,?_,hr⟩;obtain⟨u1,u2,u3,u4,rfl,gu⟩:=hu.gen;obtain⟨r1,r2,r3,r4,rfl,gr⟩:=hr.gen;unfold ab at e7 e8;unfold ab;rw[aD h.ajA];simp only[go_sem,ya,yb,RC,eC,lP,e1,bh,fz,e2,gx.ah,gc.ah,e3,aQ,gd.st,yg,mX,gd.ah,e4,nE,e6',go.ah,e7,gu.ah,e8,gr.st,dw,dB,gr.c9]
def ahK(Sl:Has P L 695 RB){v:AV}{M:List (List Nat×List Nat)}(hv:mJ v M)(hl:M.length<=1000000){g:Nat}{first:List AV}(hc:aH first=ydy)(hz:∀(a b:List Nat) (hp:Hp),cA 1000 hp (first++[.agg [.str a,.str b]])=Gr (first++[.agg [.str a,.str b]],hp)){f:List Nat×List Nat->Int}(hg:∀p,p∈M->ab P L g (first++[.agg [.str p.1,.str p.2]]) (aa (f p))):ab P L 695 [v,.fn (.f g) first []] (aa (bf (M.map f))):=by
 have hv:gC 2 v (M.map fun p=>[AV.str p.1,.str p.2]):=hv;have lv:∀hp,gF hp 1 v=Gr (.int .i64 (M.length:Nat)):=fun hp=>by have:=hv.len (hp:=hp);rwa[yU] at this
 have pf:aV (.fn (.f g) first [])=ydy:=by simp[aV,aH,hc]
 have lP:∀(hp:Hp) (a b:AV) (r:List AV),gH hp 2 ydy (.bA (a::b::r))=Gr (.agg [a,b]):=fun _ _ _ _=>rfl
 have zK:∀(hp:Hp) (ct id:Nat) (a b:List Nat),jr hp ct id 0 2 [AV.str a,.str b] (Gr (.cells ydy ydy ydy 2 [AV.str [],.str []]))=Gr (.av [],aR hp id (.cells ydy ydy ydy 2 [AV.str a,.str b]),ct):=fun _ _ _ _ _=>rfl
 have js:∀ct,lJ ct 2 [AV.str [],.str []]=Gr (.ptr ct 0,.cells ydy ydy ydy 2 [AV.str [],.str []]):=fun _=>rfl
 have mj:∀a b:List Nat,cellsOf (.agg [.str a,.str b])=[.str a,.str b]:=fun _ _=>rfl
 have key:=fK P L [1,8,9,10] G7
  (fun k s=>∃i:Nat,s=⟨[(1,.fn (.f g) first []),(8,v),(9,aa M.length),(10,aa i)],[],0,0⟩/\i+k=M.length/\bf ((M.drop i).map f)=bf (M.map f))
  (fun ex s=>∃tm hp ct,s=⟨tm,hp,ct,0⟩/\((ex=.ret/\ai tm 4=aa (bf (M.map f)))\/(ex=.exit 0/\bf (M.map f)=0))) ?_
 .unfold ab;rw[aD Sl];simp only[go_sem,ya,RB,lv];generalize hq:D P L (.loop _ G7) _=q;obtain⟨ex,s,rfl,tm,hp,ct,rfl,h2⟩:=bg hq (key M.length) ⟨0,by simp only[go_sem,ya,aq,aC hv.pu,aC pf]<;>rfl,by omega,by simp⟩
  rcases h2 with ⟨rfl,h2⟩ | ⟨rfl,h2⟩
  .simp only [go_sem,h2]
  .rw [h2];simp only[go_sem,aq]
 .rintro k s ⟨i,rfl,hk,hf⟩;by_cases hi:i<M.length
  .have da:(i:Int)<M.length:=by omega
   obtain⟨rest,e0⟩:=hv.bj (i:=i) (by simpa using hi);rw[vz] at e0;simp only[xe,xt] at e0;have e1:=hg _ (xq hi);unfold ab at e1;have dn:bT (aa i)=Gr i:=rfl;rw[yS hi,yV] at hf;simp only[bf] at hf;have wi:IntKind.wrap .i64 ((i:Int)+1)=((i+1:Nat):Int):=wrap64 (by omega) (by omega);by_cases cK:f M[i]=0
   .left
    rw[cK] at e1;simp only[go_sem,ya,yb,G7,da,dn,e0,lP,js,mj,zK,yg,bZ,hz,e1,wu,wi];refine⟨_,k-1,rfl,by omega,i+1,?_,by omega,by rw[yE cK] at hf;exact hf⟩
    simp only[go_sem,ya,aq,aC hv.pu,aC pf]<;>rfl
   .right
    simp only[go_sem,ya,yb,G7,da,dn,e0,lP,js,mj,zK,yg,bZ,hz,e1,cK,wu];rw[yp cK] at hf;refine⟨_,_,rfl,by simp,_,_,_,rfl,.inl ⟨rfl,?_⟩⟩;simp only[go_sem,hf]
  .right
   have da:¬(i:Int)<M.length:=by omega
   simp only[go_sem,ya,G7,da];refine⟨_,_,rfl,by simp,_,_,_,rfl,.inr ⟨rfl,?_⟩⟩;rw[<-hf,List.drop_eq_nil_of_le (by omega)];rfl
end
def ji(k n:Nat):List Nat:=List.range' (k+2) n
def pU(k n:Nat):(ji k n).length=n:=by simp[ji]
def Pe{k n i:Nat}(h:i<(ji k n).length):(ji k n)[i]=k+2+i:=by simp[ji]
def Pf{k n i:Nat}:i∈ji k n↔k+2<=i/\i<k+2+n:=by unfold ji;rw[List.mem_range'_1]
structure NX(hp:Hp)(k n:Nat)(p x y:Bool)(sz:Nat)(W:List Nat)(T:List (List AV))(r:Nat):Prop where
 l:W.length=T.length
 b:ak hp k=Gr (.cells ydy ydz ydy 1 [.ay (k+1) 0 n])
 m:ak hp (k+1)=Gr (.cells ydy p x 1 (fD (ji k T.length) W r))
 q:0<T.length->p=ydz
 r:∀i,i<T.length->ak hp (k+2+i)=Gr (.cells ydy ydy y sz (gT T i))
def Tz{hp:Hp}{f:Nat->Option Nat}{b n:Nat}:∀(seen:List Nat) (k:Nat) (acc:Hp),(∀i,i∈seen->∀o,ak hp i=Gr o->nW n (fo f o))->k+seen.length<=b->jw b n acc->jw b n (ep hp f seen k acc)
 | [],_,_,_,_,h=>h
 | i::r,k,acc,hs,hk,h=>by
  simp only[yB] at hk;unfold ep
  cases ho:ak hp i with
  | none=>exact Tz r (k+1) acc (fun j hj=>hs j (xy _ hj)) (by omega) h
  | some o=>exact Tz r (k+1) _ (fun j hj=>hs j (xy _ hj)) (by omega) ⟨by omega,hs i xO o ho,h⟩
def zP(hp:Hp)(f:Nat->Option Nat)(i:Nat):Nat:=match ak hp i with | some o=>(eV (fo f o)).length | none=>0
def Ud{hp:Hp}{f:Nat->Option Nat}{B:Nat}:∀(seen:List Nat) (k:Nat) (acc:Hp),k+seen.length<=B->(cG B (ep hp f seen k acc)).length<=(seen.map (zP hp f)).sum+(cG B acc).length
 | [],_,_,_=>by simp[ep]
 | i::r,k,acc,hk=>by
  simp only[yB] at hk;unfold ep;simp only[yV,tQ];have hc:zP hp f i=match ak hp i with | some o=>(eV (fo f o)).length | none=>0:=rfl
  cases ho:ak hp i with
  | none=>
   have:=Ud (hp:=hp) (f:=f) r (k+1) acc (B:=B) (by omega)
   rw[ho] at hc;simp only at hc ⊢;omega
  | some o=>
   have:=Ud (hp:=hp) (f:=f) r (k+1) ((k,fo f o)::acc) (B:=B) (by omega)
   rw[qh _ _ (show k<B by omega),yW] at this;rw[ho] at hc;simp only at hc ⊢;omega
def amm{live:List Nat}{tm:Env}{hp:Hp}{ct:Nat}{seen:List Nat}(hr:mR hp 100000 (dN (bD tm live)) []=seen):
  ∃ap,bB live ⟨tm,hp,ct,0⟩=⟨fM (pos seen) (bD tm live),ap,seen.length,0⟩/\(∀j (h:j<seen.length) o,ak hp seen[j]=Gr o->ak ap j=Gr (fo (pos seen) o))/\((∀i,i∈seen->∀o,ak hp i=Gr o->nW seen.length (fo (pos seen) o))->jw seen.length seen.length ap)/\(cG seen.length ap).length<=(seen.map (zP hp (pos seen))).sum:=by
 refine⟨ep hp (pos seen) seen 0 [],by rw[aq,hr,Vt],fun j h o ho=>?_,fun h=>Tz seen 0 [] h (by omega) trivial,?_⟩
 .have:=Ub hp (pos seen) seen 0 [] j h o ho
  rwa[ye] at this
 .have:=Ud (hp:=hp) (f:=pos seen) seen 0 [] (B:=seen.length) (by omega)
  simpa[cG] using this
def ab8{n:Nat}:∀{a b:List AV},lz n a->lz n b->lz n (a++b)
 | [],_,_,h=>h
 | _::_,_,h1,h2=>⟨h1.1,ab8 h1.2 h2⟩
def anT{n r:Nat}:∀{ids W:List Nat},(∀i,i∈ids->i<n)->lz n (fD ids W r):=by
 intro ids W h;refine ab8 ?_ ?_
 .induction ids generalizing W with
  | nil=>cases W<;>trivial
  | cons i ids ih=>
   cases W with
   | nil=>trivial
   | cons w W=>exact⟨h i xO,ih fun j hj=>h j (xy _ hj)⟩
 .induction r with
  | zero=>trivial
  | succ r ih=>exact⟨trivial,ih⟩
def af9{live:List Nat}{tm tm':Env}{hp:Hp}{ct a b k n:Nat}{ids pre W:List Nat}{T:List (List AV)}{p x y:Bool}{sz r:Nat}(hE:dN (bD tm live)=pre++[b])(hk:pre.length=k)(hp0:∀i,i∈pre->∃rw ex z cs,ak hp i=Gr (.cells rw ydy ex z cs))(hb:ak hp b=Gr (.cells ydy ydz ydy 1 [.ay a 0 n]))(hm:ak hp a=Gr (.cells ydy p x 1 (fD ids W r)))(DM:0<ids.length->p=ydz)(hl:ids.length=T.length)(hW:W.length=T.length)(hr:∀i (h:i<ids.length),ak hp ids[i]=Gr (.cells ydy ydy y sz (gT T i)))(hM:k+T.length<=1000)(hn:(pre++b::a::ids).Nodup)(hT:∀S,(∀i (h:i<pre.length),fN pre[i] S 0=Gr i)->fN b S 0=Gr k->fM (pos S) (bD tm live)=tm'):
  ∃ap,bB live ⟨tm,hp,ct,0⟩=⟨tm',ap,k+2+T.length,0⟩/\NX ap k n p x y sz W T r/\(∀i (h:i<pre.length) rw ex z cs,ak hp pre[i]=Gr (.cells rw ydy ex z cs)->ak ap i=Gr (.cells rw ydy ex z cs))/\jw (k+2+T.length) (k+2+T.length) ap/\(cG (k+2+T.length) ap).length<=1+T.length:=by
 obtain⟨n1,n2,n3⟩:=ybG.1 hn;have kU:=uy.1 n2;have dJ:=uy.1 kU.2;have hrf:eV (.cells ydy p x 1 (fD ids W r))=ids:=by
  cases p with
  | true=>
   rw[Vs]
   cases ids with
   | nil=>rfl
   | cons i l=>exact absurd (DM (by simp)) (by decide)
  | false=>rw[Px,ON r (by omega)]
 have NG:eV (.cells ydy ydz ydy 1 [.ay a 0 n])=[a]:=by simp[eV,fX,refs]
 have hR:mR hp 100000 (dN (bD tm live)) []=pre++b::a::ids:=by
  rw[hE,PK hp pre [] [b] 100000 (by omega) (fun i hi=>by obtain⟨_,_,_,_,h⟩:=hp0 i hi;exact⟨_,h,rfl⟩) n1 (by simp),xt]
  obtain⟨m,jn⟩:∃m,100000-pre.length=m+1+1:=⟨100000-pre.length-2,by omega⟩
  rw[jn,Ke,U8 (fun h=>n3 b h b xO rfl),Lh,hb,Li,NG,List.singleton_append,Ke,U8 (fun h=>by
   rcases wB.1 h with h | h
   .exact n3 a h a (xy _ xO) rfl
   .rw [wE.1 h] at kU;exact kU.1 xO),Lh,hm,Li,hrf,PK hp ids _ [] m (by omega) (fun i hi=>by
   obtain⟨j,hj,rfl⟩:=tc.1 hi;exact⟨_,hr j hj,rfl⟩) dJ.2 (fun i hi ni=>by
   rcases wB.1 ni with h | h
   .rcases wB.1 h with h | h
    .exact n3 i h i (xy _ (xy _ hi)) rfl
    .rw [wE.1 h] at hi;exact kU.1 (xy _ hi)
   .rw [wE.1 h] at hi;exact dJ.1 hi),afd hp (by omega)]
  simp
 obtain⟨ap,e,g,gb,gr⟩:=amm (ct:=ct) hR;have ls:(pre++b::a::ids).length=k+2+T.length:=by simp;omega
 have pp:=fun j (h:j<(pre++b::a::ids).length)=>Ky (pre++b::a::ids) 0 j h hn
 simp only[ye] at pp;have sP:∀i (h:i<pre.length),(pre++b::a::ids)[i]'(by simp;omega)=pre[i]:=fun i h=>uv h
 have sB:(pre++b::a::ids)[k]'(by simp;omega)=b:=by
  rw[vj (by omega)];simp[hk]
 have sA:(pre++b::a::ids)[k+1]'(by simp;omega)=a:=by
  rw[vj (by omega)];simp[hk]
 have sI:∀i (h:i<ids.length),(pre++b::a::ids)[k+2+i]'(by simp;omega)=ids[i]:=fun i h=>by
  rw[vj (by omega)];simp[hk,show k+2+i-k=i+1+1 by omega]
 have pA:pos (pre++b::a::ids) a=Gr (k+1):=by
  have h2:=pp (k+1) (by simp;omega)
  rwa[sA] at h2
 have pI:∀i (h:i<ids.length),pos (pre++b::a::ids) ids[i]=Gr (k+2+i):=fun i h=>by
  have:=pp (k+2+i) (by simp;omega)
  rwa[sI i h] at this
 have rA:fo (pos (pre++b::a::ids)) (.cells ydy p x 1 (fD ids W r))=.cells ydy p x 1 (fD (ji k T.length) W r):=by
  cases p with
  | true=>
   cases ids with
   | nil=>rw[<-hl];rfl
   | cons i l=>exact absurd (DM (by simp)) (by decide)
  | false=>rw[Lj,Pb r (k+2) (by omega) pI,hl];rfl
 have rB:fo (pos (pre++b::a::ids)) (.cells ydy ydz ydy 1 [.ay a 0 n])=.cells ydy ydz ydy 1 [.ay (k+1) 0 n]:=by
  rw[Lj];simp[dD,br,pA]
 refine⟨ap,?_,⟨hW,?_,?_,fun h=>DM (by omega),fun i hi=>?_⟩,fun i hi cf ex z cs ho=>?_,?_,?_⟩
 .rw [e,ls,hT _ (fun i h=>by have:=pp i (by simp;omega);rwa[sP i h] at this) (by have:=pp k (by simp;omega);rwa[sB] at this)]
 .have h1:=g k (by simp;omega) _ (by rw[sB];exact hb)
  have h2:=pp (k+1) (by simp;omega);rw[sA] at h2;rw[h1,Lj];simp[dD,br,pos_eq,h2]
 .have h1:=g (k+1) (by simp;omega) _ (by rw[sA];exact hm)
  rw[h1]
  cases p with
  | true=>
   cases ids with
   | nil=>rw[<-hl];rfl
   | cons i l=>exact absurd (DM (by simp)) (by decide)
  | false=>
   rw[Lj,Pb r (k+2) (by omega) (fun i h=>by
    have:=pp (k+2+i) (by simp;omega)
    rw[sI i h] at this
    exact this),hl]
   rfl
 .rw [g (k+2+i) (by simp;omega) _ (by rw[sI i (by omega)];exact hr i (by omega)),V3]
 .rw [g i (by simp;omega) _ (by rw[sP i hi];exact ho),V3]
 .rw [<-ls];refine gb fun i hi o ho=>?_
  rw[ls];rcases wB.1 hi with hi | hi
  .obtain ⟨cf,ex,z,cs,h⟩:=hp0 i hi;rw[h] at ho;cases ho;exact .inl rfl
  rcases xP.1 hi with rfl | hi
  .rw [hb] at ho;cases ho;rw[rB];exact .inr ⟨by show k+1<k+2+T.length;omega,trivial⟩
  rcases xP.1 hi with rfl | hi
  .rw [hm] at ho;cases ho;rw[rA]
   exact .inr (anT fun j hj=>by have:=Pf.1 hj;omega)
  .obtain ⟨j,hj,rfl⟩:=tc.1 hi;rw[hr j hj] at ho;cases ho;exact .inl rfl
 .rw [<-ls];refine xi gr ?_;have c0:∀i,i∈pre->zP hp (pos (pre++b::a::ids)) i=0:=fun i hi=>by
   obtain⟨cf,ex,z,cs,h⟩:=hp0 i hi;unfold zP;rw[h];rfl
  have c3:∀i,i∈ids->zP hp (pos (pre++b::a::ids)) i=0:=fun i hi=>by
   obtain⟨j,hj,rfl⟩:=tc.1 hi;unfold zP;rw[hr j hj];rfl
  have c1:zP hp (pos (pre++b::a::ids)) b=1:=by
   unfold zP;rw[hb];show (eV (fo _ _)).length=1
   rw[rB];simp[eV,fX,refs]
  have c2:zP hp (pos (pre++b::a::ids)) a<=T.length:=by
   unfold zP;rw[hm];show (eV (fo _ _)).length<=_
   rw[rA]
   cases p with
   | true=>rw[Vs];simp
   | false=>rw[Px,ON r (by rw[pU];omega),pU];omega
  have z:∀(l:List Nat) (f:Nat->Nat),(∀i,i∈l->f i=0)->(l.map f).sum=0:=fun l f h=>by
   induction l with
   | nil=>rfl
   | cons i l ih=>rw[yV,tQ,h i xO,ih fun j hj=>h j (xy _ hj)]
  rw[xB,List.sum_append,z _ _ c0,yV,tQ,yV,tQ,z _ _ c3,c1];omega
def anU{l:List AV}{x:AV}{m i:Nat}(h:l.length=i):over i [x] (l++yk (m+1) .aj)=l++x::yk m .aj:=by
 subst h;unfold over;rw[List.take_left,List.length_singleton,wQ,<-List.drop_drop,List.drop_left]
 simp
def auJ{hp:Hp}{ct a b w i m:Nat}{pu x:Bool}{ids W:List Nat}(hW:W.length=i)(hi:ids.length=i):jr hp ct a i 1 [.ay b 0 w] (Gr (.cells ydy pu x 1 (fD ids W (m+1))))=Gr (.av [],aR hp a (.cells ydy ydz x 1 (iE ids W++ .ay b 0 w::yk m .aj)),ct):=by
 have hl:(iE ids W).length=i:=by rw[auA (by omega),hW]
 unfold fD
 rw[Hs (new:=[AV.ay b 0 w]) (by rfl) (by rw[yW,hl];simp) (by rfl),anU hl]
 simp[aH,aV]
def zd(m:Nat):List AV:=(yk m z4M).flatten
structure Gq(C R S:Int)(v:AV)(lt:List Nat)(hp:Hp):Prop where
 g0:∃rw,ak hp 0=Gr (.cells rw ydy ydy 3 [aa C,aa R,aa S])
 g1:ak hp 1=Gr (.cells ydy ydy ydy 1 [v])
 g2:ak hp 2=Gr (.cells ydy ydy ydy 1 [.str lt])
def zQ(N i:Nat):Env:=[(3,.ptr 0 0),(4,.ptr 1 0),(5,.ptr 2 0),(10,.ptr 3 0),(52,aa N),(53,aa i)]
section
variable {P:aF}{L:Lib}
def afm{live:List Nat}{tm tm':Env}{hp:Hp}{ct n:Nat}{ids W:List Nat}{T:List (List AV)}{p x y:Bool}{sz r:Nat}{C R S:Int}{v:AV}{lt:List Nat}(JH:Gq C R S v lt hp)(hE:dN (bD tm live)=[0,1,2,3])(hb:ak hp 3=Gr (.cells ydy ydz ydy 1 [.ay 4 0 n]))(hm:ak hp 4=Gr (.cells ydy p x 1 (fD ids W r)))(DM:0<ids.length->p=ydz)(hl:ids.length=T.length)(hW:W.length=T.length)(hr:∀i (h:i<ids.length),ak hp ids[i]=Gr (.cells ydy ydy y sz (gT T i)))(hM:T.length<=900)(hn:ids.Nodup)(h5:∀i,i∈ids->5<=i)(hT:∀S,fN 0 S 0=Gr 0->fN 1 S 0=Gr 1->fN 2 S 0=Gr 2->fN 3 S 0=Gr 3->fM (pos S) (bD tm live)=tm'):
  ∃ap,bB live ⟨tm,hp,ct,0⟩=⟨tm',ap,5+T.length,0⟩/\NX ap 3 n p x y sz W T r/\Gq C R S v lt ap/\jw (5+T.length) (5+T.length) ap/\(cG (5+T.length) ap).length<=1+T.length:=by
 obtain⟨ap,e,g1,g2,g3,g4⟩:=af9 (k:=3) (pre:=[0,1,2]) (b:=3) (a:=4) (ct:=ct) (tm':=tm') hE rfl (fun i hi=>by
  obtain⟨j9,h⟩:=JH.g0;rcases xP.1 hi with rfl | hi
  .exact ⟨_,_,_,_,h⟩
  rcases xP.1 hi with rfl | hi
  .exact ⟨_,_,_,_,JH.g1⟩
  .rw [wE.1 hi];exact⟨_,_,_,_,JH.g2⟩) hb hm DM hl hW hr (by omega) (by
  have h3:3∉ids:=fun q=>by have:=h5 _ q;omega
  have h4:4∉ids:=fun q=>by have:=h5 _ q;omega
  have h0:0∉ids:=fun q=>by have:=h5 _ q;omega
  have h1:1∉ids:=fun q=>by have:=h5 _ q;omega
  have h2:2∉ids:=fun q=>by have:=h5 _ q;omega
  simp[h0,h1,h2,h3,h4,hn]) (fun S h1 h2=>hT S (h1 0 (by decide)) (h1 1 (by decide)) (h1 2 (by decide)) h2)
 refine⟨ap,e,g1,⟨?_,?_,?_⟩,g3,g4⟩
 .obtain ⟨j9,h⟩:=JH.g0;exact⟨j9,g2 0 (by decide) _ _ _ _ h⟩
 .exact g2 1 (by decide) _ _ _ _ JH.g1
 .exact g2 2 (by decide) _ _ _ _ JH.g2
def ayW{v:AV}{lt:List Nat}{C R S N:Nat}(hC:C<=8)(hS:S<=8)(Cu:0<C*S)(hN:N<=64):
  cE P L [3,4,5,10,52,53] Ld (fun d st=>∃i hp,i+d=N/\NX hp 3 N (decide (i=0)) ydy ydy 4 (yk i (C*S)) (yk i (zd (C*S))) (N-i)/\Gq C R S v lt hp/\st=⟨zQ N i,hp,5+i,0⟩) (fun ex s'=>∃tm hp ct,s'=⟨tm,hp,ct,0⟩/\ex=.exit 0/\NX hp 3 N (decide (N=0)) ydy ydy 4 (yk N (C*S)) (yk N (zd (C*S))) 0/\Gq C R S v lt hp/\bD tm [3,4,5,10]=[(3,.ptr 0 0),(4,.ptr 1 0),(5,.ptr 2 0),(10,.ptr 3 0)]):=by
 apply cI;rintro d st ⟨i,hp,hid,hM,hB,rfl⟩;have aHK:C*S<=64:=yZ hC hS;have m1:(C:Int)*(S:Int)=((C*S:Nat):Int):=by rw[xx]
 have w0:IntKind.wrap .i64 ((C*S:Nat):Int)=((C*S:Nat):Int):=wrap64 (by omega) (by omega);by_cases hi:i<N
 .left
  generalize hm:C*S=m at*
  have eD:(i:Int)<(N:Nat):=by omega
  have wi:IntKind.wrap .i64 ((i:Int)+1)=((i+1:Nat):Int):=wrap64 (by omega) (by omega);have dn:bT (aa i)=Gr i:=rfl;have asm:bT (aa m)=Gr m:=rfl;have cx:∀ct,zJ ct 4 64 [AV.int .i64 0,.aj,.int .i64 0,.aj] (Gr m) (Gr m)=Gr (.ay ct 0 m,.cells ydy ydy ydy 4 (zd m)):=fun ct=>EY (by omega) (by omega) rfl rfl
  obtain⟨r,hr⟩:∃r,N-i=r+1:=⟨N-i-1,by omega⟩;obtain⟨j9,g0⟩:=hB.g0;have gb:=hM.b;have gm:=hM.m;rw[wC,hr] at gm;have oF:=dc (sz:=1) (n:=N) 4 0 hi;have aM:=fun (hp:Hp) (ct:Nat) (b w:Nat)=>auJ (hp:=hp) (ct:=ct) (a:=4) (b:=b) (w:=w) (i:=i) (m:=r) (pu:=decide (i=0)) (x:=ydy) (ids:=ji 3 i) (W:=yk i m) (by simp) (pU _ _)
  simp only[go_sem,ya,yb,yh,Ld,zQ,eD,gb,g0,aX,ye,yg,yL,m1,w0,asm,cx,oF,dn];rw[fF _ _ (show 5+i≠4 by omega),gm,aM];simp only[go_sem,ya,wi];have ni:∀j,ak (aR ((5+i,Obj.cells ydy ydy ydy 4 (zd m))::hp) 4 (.cells ydy ydz ydy 1 (iE (ji 3 i) (yk i m)++ .ay (5+i) 0 m::yk r .aj))) j=if j=4 then Gr (.cells ydy ydz ydy 1 (iE (ji 3 i) (yk i m)++ .ay (5+i) 0 m::yk r .aj)) else if j=5+i then Gr (.cells ydy ydy ydy 4 (zd m)) else ak hp j:=fun j=>by
   rw[rD];by_cases h4:j=4
   .rw [yE h4,yE h4,fF _ _ (show 5+i≠4 by omega),gm];rfl
   .rw [yp h4,yp h4];by_cases h5:j=5+i
    .rw [yE h5,h5,ll]
    .rw [yp h5,fF _ _ (fun q=>h5 q.symm)]
  generalize aR ((5+i,Obj.cells ydy ydy ydy 4 (zd m))::hp) 4 (.cells ydy ydz ydy 1 (iE (ji 3 i) (yk i m)++ .ay (5+i) 0 m::yk r .aj))=a6 at*
  have aG:(ji 3 i++[5+i]).length=i+1:=by simp[pU]
  obtain⟨ic,q1,q2,q3,_,_⟩:=afm (hp:=a6) (n:=N) (ids:=ji 3 i++[5+i]) (W:=yk (i+1) m) (T:=yk (i+1) (zd m)) (p:=ydz) (x:=ydy) (y:=ydy) (sz:=4) (r:=r) (live:=[3,4,5,10,52,53]) (tm':=zQ N (i+1)) (tm:=zQ N (i+1)) (ct:=5+i+1) (C:=C) (R:=R) (S:=S) (v:=v) (lt:=lt) ⟨⟨j9,by rw[ni,yp (by omega),yp (by omega)];exact g0⟩,by rw[ni,yp (by omega),yp (by omega)];exact hB.g1,by rw[ni,yp (by omega),yp (by omega)];exact hB.g2⟩ (by simp only[go_sem,ya,zQ]) (by rw[ni,yp (by omega),yp (by omega)];exact gb) (by
   rw[ni,yE rfl];unfold fD;rw[List.replicate_succ',aef (by rw[pU];simp),List.append_assoc];rfl) (fun _=>rfl) (by rw[aG];simp) (by simp) (fun j hj=>by
   rw[aG] at hj;by_cases F0:j<i
   .rw [uv (by rw[pU];exact F0),Pe,ni,yp (by omega),yp (by omega)]
    have:=hM.r j (by simpa using F0)
    rw[this,Dk (by simpa using F0),Dk (by simp;omega)]
    simp
   .have YR:j=i:=by omega
    subst YR;rw[vj (by rw[pU];omega)];simp only[pU,ydb,wX];rw[ni,yp (by omega),yE rfl,Dk (by simp)]
    simp) (by simp;omega) (by
   refine ybG.2 ⟨ybL,by simp,fun u hu w hw e=>?_⟩;have h1:=Pf.1 hu
   have:=wE.1 hw
   omega) (fun u hu=>by
   rcases wB.1 hu with hu | hu
   .have:=Pf.1 hu;omega
   .have:=wE.1 hu;omega) (fun S' s0 s1 s2 s3=>by simp only[go_sem,ya,s0,s1,s2,s3,zQ]<;>rfl)
  refine⟨_,d-1,rfl,by omega,i+1,ic,by omega,?_,q3,?_⟩
  .rw [show N-(i+1)=r by omega,yC (show ¬i+1=0 by omega)];exact q2
  .rw [kJ (c':=5+i+1) (tm':=zQ N (i+1)) (by simp only[go_sem,ya,zQ]<;>rfl),q1,wC]
   rfl
 .right
  have oK:i=N:=by omega
  subst oK;simp only[go_sem,ya,Ld,zQ,show ¬(i:Int)<i by omega];rw[ydb] at hM;exact⟨_,_,rfl,by simp,_,_,_,rfl,rfl,hM,hB,by simp only[go_sem,ya]<;>rfl⟩
end
def Og{b n id:Nat}{o:Obj}(ho:nW n o):∀{H:Hp},jw b n H->jw b n (aR H id o)
 | [],h=>h
 | (j,u)::r,h=>by
  unfold aR
  cases hj:Nat.beq j id with
  | true=>exact⟨h.1,ho,h.2.2⟩
  | false=>exact⟨h.1,h.2.1,Og ho h.2.2⟩
def N9{B id:Nat}{o u:Obj}(he:eV o=eV u):∀{H:Hp},ak H id=Gr u->cG B (aR H id o)=cG B H
 | [],h=>by cases h
 | (j,w)::r,h=>by
  unfold aR;by_cases hj:j=id
  .subst hj;rw[ll] at h;cases h;rw[show Nat.beq j j=ydy from wK j,yy];by_cases hB:j<B
   .rw [qh _ _ hB,qh _ _ hB,he]
   .rw [Lp _ _ (by omega),Lp _ _ (by omega)]
  .rw [fF _ _ hj] at h;rw[gW hj,yT];have ih:=N9 (B:=B) he h;by_cases hB:j<B
   .rw [qh _ _ hB,qh _ _ hB,ih]
   .rw [Lp _ _ (by omega),Lp _ _ (by omega),ih]
def QO:List AV->List (Option Rat)->Prop
 | cs,[]=>cs=[]
 | cs,x::l=>∃a b c d r,cs=a::b::c::d::r/\(∀q,x=Gr q->bW (.agg [a,b,c,d]) q)/\QO r l
def QO.len:∀{l:List (Option Rat)} {cs:List AV},QO cs l->cs.length=l.length*4
 | [],cs,h=>by have h:cs=[]:=h;rw[h];rfl
 | x::l,cs,h=>by
  obtain⟨a,b,c,d,r,rfl,_,h2⟩:=h
  have:=h2.len
  simp only[yB,this];omega
def QO.over:∀{l:List (Option Rat)} {cs:List AV} {i:Nat} {a b c d:AV} {x:Rat},QO cs l->i<l.length->bW (.agg [a,b,c,d]) x->QO (VE.over (i*4) [a,b,c,d] cs) (l.set i (Gr x))
 | [],_,i,_,_,_,_,_,_,hi,_=>absurd hi (Nat.not_lt_zero i)
 | y::l,cs,0,a,b,c,d,x,h,_,hx=>by
  obtain⟨a',b',c',d',r,rfl,_,h2⟩:=h;exact⟨a,b,c,d,r,rfl,fun q e=>(by cases e;exact hx),h2⟩
 | y::l,cs,i+1,a,b,c,d,x,h,hi,hx=>by
  obtain⟨a',b',c',d',r,rfl,h1,h2⟩:=h;have ih:=QO.over (i:=i) h2 (by simpa using hi) hx;have e:VE.over ((i+1)*4) [a,b,c,d] (a'::b'::c'::d'::r)=a'::b'::c'::d'::VE.over (i*4) [a,b,c,d] r:=by
   have s4:∀n,uh (n+4) (a'::b'::c'::d'::r)=uh n r:=fun n=>rfl
   have t4:∀n,ydx (n+4) (a'::b'::c'::d'::r)=a'::b'::c'::d'::ydx n r:=fun n=>rfl
   unfold VE.over;rw[show (i+1)*4=i*4+4 by omega,t4,show i*4+4+[a,b,c,d].length=(i*4+[a,b,c,d].length)+4 by omega,s4];rfl
  rw[e];exact⟨a',b',c',d',_,rfl,h1,ih⟩
def stO{hp:Hp}{ct id i:Nat}{ex:Bool}{r1 r2 r3 r4:AV}{cs:List AV}{l:List (Option Rat)}(h:QO cs l)(hi:i<l.length)(gr:F4 r1 r2 r3 r4):
  jr hp ct id (i*4) 4 [r1,r2,r3,r4] (Gr (.cells ydy ydy ex 4 cs))=Gr (.av [],aR hp id (.cells ydy ydy ex 4 (VE.over (i*4) [r1,r2,r3,r4] cs)),ct):=by
 have pr:=gr.pus
 have:=h.len
 rw[Hs (by rfl) (by omega) (by simp[b9,gr.o1,gr.o2,gr.o3,gr.o4])];simp[aH,pr.1,pr.2.1,pr.2.2.1,pr.2.2.2]
structure fI(C R S:Int)(v:AV)(lt:List Nat)(N m:Nat)(M:List (List (Option Rat)))(c:Nat)(H:Hp):Prop where
 b3:Gq C R S v lt H
 gb:ak H 3=Gr (.cells ydy ydz ydy 1 [.ay 4 0 N])
 gm:ak H 4=Gr (.cells ydy ydz ydy 1 (iE (ji 3 N) (yk N m)))
 gr:∀y,y<N->∃cs,ak H (5+y)=Gr (.cells ydy ydy ydy 4 cs)/\QO cs (M.getD y [])
 rM:∀y,y<N->(M.getD y []).length=m
 lM:M.length=N
 bl:jw c c H
 rl:(cG c H).length<=1000
 hc:5+N<=c
def fI.upd{C R S:Int}{v:AV}{lt:List Nat}{N m c:Nat}{M:List (List (Option Rat))}{H:Hp}(lo:fI C R S v lt N m M c H){x y:Nat}{q1 q2 q3 q4:AV}{z:Rat}{cs:List AV}(hx:x<m)(hy:y<N)(hz:bW (.agg [q1,q2,q3,q4]) z)(hg:ak H (5+y)=Gr (.cells ydy ydy ydy 4 cs))(hQ:QO cs (M.getD y [])):
  fI C R S v lt N m (M.set y ((M.getD y []).set x (Gr z))) c (aR H (5+y) (.cells ydy ydy ydy 4 (VE.over (x*4) [q1,q2,q3,q4] cs))):=by
 have bU:∀j,j≠5+y->ak (aR H (5+y) (.cells ydy ydy ydy 4 (VE.over (x*4) [q1,q2,q3,q4] cs))) j=ak H j:=fun j hj=>by rw[rD,yp hj]
 have hyM:y<M.length:=by rw[lo.lM];exact hy
 have NY:∀j,j<N->(M.set y ((M.getD y []).set x (Gr z))).getD j []=if j=y then (M.getD y []).set x (Gr z) else M.getD j []:=fun j hj=>by
  have hjM:j<M.length:=by rw[lo.lM];exact hj
  rw[y9,ybF];by_cases e:y=j
  .subst e;simp[hyM]
  .rw [yp e,yp (fun q=>e q.symm),y9]
 refine⟨⟨by obtain⟨j9,h⟩:=lo.b3.g0;exact⟨j9,by rw[bU 0 (by omega)];exact h⟩,by rw[bU 1 (by omega)];exact lo.b3.g1,by rw[bU 2 (by omega)];exact lo.b3.g2⟩,by rw[bU 3 (by omega)];exact lo.gb,by rw[bU 4 (by omega)];exact lo.gm,fun j hj=>?_,fun j hj=>?_,by rw[ycd];exact lo.lM,Og (o:=.cells ydy ydy ydy 4 (VE.over (x*4) [q1,q2,q3,q4] cs)) (Or.inl rfl) lo.bl,?_,lo.hc⟩
 .rw [NY j hj];by_cases e:j=y
  .subst e;rw[yE rfl];refine⟨VE.over (x*4) [q1,q2,q3,q4] cs,?_,hQ.over (by rw[lo.rM j hj];exact hx) hz⟩
   rw[rD,yE rfl,hg];rfl
  .rw [yp e,bU (5+j) (by omega)];exact lo.gr j hj
 .rw [NY j hj];by_cases e:j=y
  .rw [yE e,ycd];exact lo.rM y hy
  .rw [yp e];exact lo.rM j hj
 .rw [N9 (o:=.cells ydy ydy ydy 4 (VE.over (x*4) [q1,q2,q3,q4] cs)) (u:=.cells ydy ydy ydy 4 cs) rfl hg];exact lo.rl
def fI.aD3{C R S:Int}{v:AV}{lt:List Nat}{N m c:Nat}{M:List (List (Option Rat))}{H:Hp}(lo:fI C R S v lt N m M c H):fI C R S v lt N m M c (aR H 0 (.cells ydz ydy ydy 3 [aa C,aa R,aa S]))/\ak (aR H 0 (.cells ydz ydy ydy 3 [aa C,aa R,aa S])) 0=Gr (.cells ydz ydy ydy 3 [aa C,aa R,aa S]):=by
 obtain⟨j9,h0⟩:=lo.b3.g0;have bU:∀j,j≠0->ak (aR H 0 (.cells ydz ydy ydy 3 [aa C,aa R,aa S])) j=ak H j:=fun j hj=>by rw[rD,yp hj]
 have he:ak (aR H 0 (.cells ydz ydy ydy 3 [aa C,aa R,aa S])) 0=Gr (.cells ydz ydy ydy 3 [aa C,aa R,aa S]):=by rw[rD,yE rfl,h0];rfl
 refine⟨⟨⟨⟨ydz,he⟩,by rw[bU 1 (by omega)];exact lo.b3.g1,by rw[bU 2 (by omega)];exact lo.b3.g2⟩,by rw[bU 3 (by omega)];exact lo.gb,by rw[bU 4 (by omega)];exact lo.gm,fun j hj=>?_,lo.rM,lo.lM,Og (o:=.cells ydz ydy ydy 3 [aa C,aa R,aa S]) (Or.inl rfl) lo.bl,?_,lo.hc⟩,he⟩
 .rw [bU (5+j) (by omega)];exact lo.gr j hj
 .rw [N9 (o:=.cells ydz ydy ydy 3 [aa C,aa R,aa S]) (u:=.cells j9 ydy ydy 3 [aa C,aa R,aa S]) (by cases j9<;>rfl) h0];exact lo.rl
def fJ(A B:VC)(TM:Env)(N:Nat)(la lb k:Nat)(st:Nat)(H:Hp):Hp:=(N+9,.lp TM [74,75] A B st .none)::(N+8,.cells ydy ydz ydy 1 [.fn (.f 696) [] [.ptr 0 0]])::(N+7,.cells ydy ydy ydy 2 [aa la,aa lb])::(N+6,.cells ydy ydy ydy 1 [aa k])::H
section
variable {P:aF}{L:Lib}
def aD4(h:Bk P L){TM:Env}{C R S N m k la lb:Nat}{v:AV}{ps:List (List Nat×List Nat)}{lt:List Nat}{M:List (List (Option Rat))}{H:Hp}(lo:fI C R S v lt N m M (N+6) H)(hv:mJ v ps)(hk:k<ps.length)(hp:AZ ps)(aG:bX lt=0)(kS:lt.length<=40)(t4:ai TM 4=.ptr 1 0)(t5:ai TM 5=.ptr 2 0)(t10:ai TM 10=.ptr 3 0)(t12:ai TM 12=.ptr (N+6) 0)(t14:ai TM 14=.ptr (N+8) 0)(hC:C<=8)(hR:R<=8)(hS:S<=8)(hN:N<=64)(hm:m<=64)(dR:ps.length<=64){i r:Nat}(hi:i<S)(hr:r<S)(hx:la*S+i<m)(hy:lb*S+r<N):
  ∃H' J,fI C R S v lt N m (M.set (lb*S+r) ((M.getD (lb*S+r) []).set (la*S+i) (Gr (aS lt*(lG S (aS (ps[k]).1) i*lG S (aS (ps[k]).2) r))))) (N+6) H'/\(∀j,ak H (N+5)=Gr j->ak H' (N+5)=Gr j)/\(∀p:Nat×Obj,p∈J->N+10<=p.1)/\∃aO,jT (D P L) (fJ iI ir TM N la lb k 0 H) (N+10) (N+9) (Ti S la lb r i)=Gr (.bool ydy,J++fJ iI ir TM N la lb k 0 H',aO):=by
 have cl:gC 2 v (ps.map fun p=>[AV.str p.1,.str p.2]):=hv;obtain⟨rest,e0⟩:=cl.bj (i:=k) (by simpa using hk);rw[vz] at e0;obtain⟨q1,q2,q3,q4⟩:=hp _ (xq hk);generalize (ps[k]).1=a at*
 generalize (ps[k]).2=b at*
 simp only[xe,xt] at e0;obtain⟨x,e1,hxq⟩:=ajH h (C:=C) (R:=R) (i:=i) hS (by omega) q1;obtain⟨y,e2,hyq⟩:=ajH h (C:=C) (R:=R) (i:=r) hS (by omega) q2;have ka:=GM (i:=i) hS (by omega) (Ap q1 q3);have kb:=GM (i:=r) hS (by omega) (Ap q2 q4);have kl:=Ap aG kS;obtain⟨w,e3,Ab⟩:=NH h.toCen.toMom.toFr' hxq hyq (K:=1000) (ka.mono (by decide)) (kb.mono (by decide)) (by decide);obtain⟨l,e4,Cq⟩:=R9 h.toCk aG;obtain⟨z,e5,hzq⟩:=NH h.toCen.toMom.toFr' Cq Ab (K:=1000) (kl.mono (by decide)) ((ka.mul kb).mono (by decide)) (by decide);have kY:=hzq;obtain⟨x1,x2,x3,x4,rfl,gx⟩:=hxq.gen;obtain⟨y1,y2,y3,y4,rfl,gy⟩:=hyq.gen;obtain⟨w1,w2,w3,w4,rfl,gw⟩:=Ab.gen;obtain⟨l1,l2,l3,l4,rfl,gl⟩:=Cq.gen;obtain⟨z1,z2,z3,z4,rfl,gz⟩:=hzq.gen;unfold Ti;generalize hA:la*S+i=wc at*
 generalize hB:lb*S+r=wr at*
 have kj:∀Ac Bc,D P L iI ⟨(75,.agg [aa wc,aa wr])::(74,.agg [aa i,aa r])::TM,fJ Ac Bc TM N la lb k 0 H,N+10,N+10⟩=Gr (.normal,⟨(16,.ptr (N+11) 0)::(15,.ptr (N+10) 0)::(75,.agg [aa wc,aa wr])::(74,.agg [aa i,aa r])::TM,(N+11,.cells ydy ydy ydy 2 [aa wc,aa wr])::(N+10,.cells ydy ydy ydy 2 [aa i,aa r])::fJ Ac Bc TM N la lb k 0 H,N+12,N+10⟩):=by
  intro Ac Bc;unfold fJ;simp only[go_sem,ya,iI,ajr,ajt]
 obtain⟨j9,h0⟩:=lo.b3.g0;obtain⟨ze,NQ⟩:=lo.aD3;have ask:bT (aa k)=Gr k:=rfl;have ajI:bT (aa wc)=Gr wc:=rfl;have ajJ:bT (aa wr)=Gr wr:=rfl;have kD:∀(a b:AV) (r:List AV),nY 2 1 0 (.bA (a::b::r))=Gr (.bA (a::b::r)):=fun _ _ _=>rfl
 have Cw:∀(a b:AV) (r:List AV),nY 2 1 1 (.bA (a::b::r))=Gr (.bA (b::r)):=fun _ _ _=>rfl
 have ajK:=dc (sz:=1) (n:=N) 4 0 hy;have ajL:=fun id=>dc (sz:=4) (n:=m) id 0 hx
 have nl:jj 1 ydz (uh wr (iE (ji 3 N) (yk N m)))=Gr (.ay (wr+5) 0 m):=by
  unfold iE;have hl:wr<(uO (fun i w=>AV.ay i 0 w) (ji 3 N) (yk N m)).length:=by simp[pU];exact hy
  rw[yS hl,List.getElem_zipWith,Pe];simp only[ux,show 3+2+wr=wr+5 by omega];rfl
 have d1:¬N+1=wr:=by omega
 have d2:¬N+2=wr:=by omega
 have d3:¬N+3=wr:=by omega
 have d4:¬N+4=wr:=by omega
 have d5:¬N+5=wr:=by omega
 have d6:¬N+6=wr:=by omega
 have d7:¬N+7=wr:=by omega
 unfold ab at e1 e2 e3 e4 e5;unfold eC at e1 e2;have js:∃H',fI C R S v lt N m (M.set wr ((M.getD wr []).set wc (Gr (aS lt*(lG S (aS a) i*lG S (aS b) r))))) (N+6) H'/\(∀j,ak H (N+5)=Gr j->ak H' (N+5)=Gr j)/\∀Ac Bc,∃tm Z,D P L ir ⟨(16,.ptr (N+11) 0)::(15,.ptr (N+10) 0)::(75,.agg [aa wc,aa wr])::(74,.agg [aa i,aa r])::TM,(N+11,.cells ydy ydy ydy 2 [aa wc,aa wr])::(N+10,.cells ydy ydy ydy 2 [aa i,aa r])::fJ Ac Bc TM N la lb k 1 H,N+12,N+12⟩=Gr (.normal,⟨tm,(N+12,Z)::(N+11,.cells ydy ydy ydy 2 [aa wc,aa wr])::(N+10,.cells ydy ydy ydy 2 [aa i,aa r])::fJ Ac Bc TM N la lb k 1 H',N+13,N+12⟩):=by
  cases j9 with
  | false=>
   obtain⟨cs,hg,hQ⟩:=lo.gr wr hy;have g1:=lo.b3.g1;have g2:=lo.b3.g2;have gb:=lo.gb;have gm:=lo.gm;refine⟨_,lo.upd hx hy kY hg hQ,fun j hj=>?_,fun Ac Bc=>?_⟩
   .rw [rD,yp (by omega)];exact hj
   .have Gi:ak H (wr+5)=Gr (.cells ydy ydy ydy 4 cs):=by rw[vU];exact hg
    have aM:=fun (hp:Hp) (ct:Nat)=>stO (hp:=hp) (ct:=ct) (id:=wr+5) (ex:=ydy) hQ (show wc<(M.getD wr []).length by rw[lo.rM wr hy];exact hx) gz
    unfold fJ;rw[vU 5 wr];simp only[go_sem,ya,yb,yh,ir,t4,t5,t10,t12,t14,g1,g2,gb,gm,h0,ask,e0,kD,Cw,aX,ye,yg,yL,Vq,Kr,V2,V1,e1,e2,bh,gx.ah,gy.ah,e3,aQ,gw.st,mX,gw.ah,gl.ah,e4,e5,ajJ,ajI,ajK,nl,ajL,d1,d2,d3,d4,d5,d6,d7,ybZ,uS,tF,Gi,aM];exact⟨_,_,rfl⟩
  | true=>
   have g1:=lo.b3.g1;have g2:=lo.b3.g2;have gb:=lo.gb;have gm:=lo.gm;have h5:∀j,ak H (N+5)=Gr j->ak (aR H 0 (.cells ydz ydy ydy 3 [aa C,aa R,aa S])) (N+5)=Gr j:=fun j hj=>by rw[rD,yp (by omega)];exact hj
   generalize hH1:aR H 0 (.cells ydz ydy ydy 3 [aa C,aa R,aa S])=H1 at*
   obtain⟨cs,hg,hQ⟩:=ze.gr wr hy;have k1:=ze.b3.g1;have k2:=ze.b3.g2;have D5:=ze.gb;have km:=ze.gm;refine⟨_,ze.upd hx hy kY hg hQ,fun j hj=>?_,fun Ac Bc=>?_⟩
   .rw [rD,yp (by omega)];exact h5 j hj
   .have Gi:ak H1 (wr+5)=Gr (.cells ydy ydy ydy 4 cs):=by rw[vU];exact hg
    have aM:=fun (hp:Hp) (ct:Nat)=>stO (hp:=hp) (ct:=ct) (id:=wr+5) (ex:=ydy) hQ (show wc<(M.getD wr []).length by rw[lo.rM wr hy];exact hx) gz
    unfold fJ;rw[vU 5 wr];simp only[go_sem,ya,yb,yh,ir,t4,t5,t10,t12,t14,g1,h0,NQ,hH1,k1,k2,D5,km,afx,ask,e0,kD,Cw,aX,ye,yg,yL,Vq,Kr,V2,V1,e1,e2,bh,gx.ah,gy.ah,e3,aQ,gw.st,mX,gw.ah,gl.ah,e4,e5,ajJ,ajI,ajK,nl,ajL,d1,d2,d3,d4,d5,d6,d7,ybZ,uS,tF,Gi,aM];exact⟨_,_,rfl⟩
 obtain⟨H',dT,py,js⟩:=js;obtain⟨tm,Z,js⟩:=js iI ir;refine⟨H',[(N+12,Z),(N+11,.cells ydy ydy ydy 2 [aa wc,aa wr]),(N+10,.cells ydy ydy ydy 2 [aa i,aa r])],dT,py,?_,?_⟩
 .intro p hp;simp only[xP,ybY,or_false] at hp;rcases hp with rfl | rfl | rfl<;>simp
 have Lr:=adP (P:=P) (L:=L) (hp:=fJ iI ir TM N la lb k 0 H) (ct:=N+10) (l:=N+9) (xs:=[.agg [aa i,aa r],.agg [aa wc,aa wr]]) (by unfold fJ;rw[ll]) rfl (kj _ _) (by unfold fJ;rw[fF _ _ (by omega),fF _ _ (by omega),ll]) (by
  have e:aR ((N+11,Obj.cells ydy ydy ydy 2 [aa wc,aa wr])::(N+10,.cells ydy ydy ydy 2 [aa i,aa r])::fJ iI ir TM N la lb k 0 H) (N+9) (.lp TM [74,75] iI ir 1 .none)=(N+11,Obj.cells ydy ydy ydy 2 [aa wc,aa wr])::(N+10,.cells ydy ydy ydy 2 [aa i,aa r])::fJ iI ir TM N la lb k 1 H:=by
   unfold fJ;rw[rF _ _ _ (by omega),rF _ _ _ (by omega),O0]
  rw[e];exact js) (by unfold fJ;rw[fF _ _ (by omega),fF _ _ (by omega),fF _ _ (by omega),ll])
 have e9:aR ((N+12,Z)::(N+11,Obj.cells ydy ydy ydy 2 [aa wc,aa wr])::(N+10,.cells ydy ydy ydy 2 [aa i,aa r])::fJ iI ir TM N la lb k 1 H') (N+9) (.lp TM [74,75] iI ir 0 .none)=[(N+12,Z),(N+11,Obj.cells ydy ydy ydy 2 [aa wc,aa wr]),(N+10,.cells ydy ydy ydy 2 [aa i,aa r])]++fJ iI ir TM N la lb k 0 H':=by
  unfold fJ;rw[rF _ _ _ (by omega),rF _ _ _ (by omega),rF _ _ _ (by omega),O0];rfl
 rw[e9] at Lr;exact⟨_,Lr⟩
end
def JI(C S x y k j:Nat):Bool:=decide (y/S*C+x/S<k)||(decide (y/S*C+x/S=k)&&decide (y%S*S+x%S<j))
def mK(f:Nat->Nat->Rat)(C R S k j:Nat)(M:List (List (Option Rat))):Prop:=∀x y,x<C*S->y<R*S->JI C S x y k j=ydy->(M.getD y []).getD x none=Gr (f x y)
def ac5{α:Type}{l:List α}{i j:Nat}{a d:α}(hi:i<l.length):(l.set i a).getD j d=if j=i then a else l.getD j d:=by
 rw[y9,ybF];by_cases e:i=j
 .subst e;simp[hi]
 .rw [yp e,yp (fun q=>e q.symm),y9]
def mK.step{f:Nat->Nat->Rat}{C R S la lb i r:Nat}{M:List (List (Option Rat))}(hS:0<S)(Bf:la<C)(hi:i<S)(hr:r<S)(h:mK f C R S (lb*C+la) (r*S+i) M)(hy:lb*S+r<M.length)(hx:la*S+i<(M.getD (lb*S+r) []).length):
  mK f C R S (lb*C+la) (r*S+i+1) (M.set (lb*S+r) ((M.getD (lb*S+r) []).set (la*S+i) (Gr (f (la*S+i) (lb*S+r))))):=by
 intro x y hxC hyR hw;rw[ac5 hy];by_cases ey:y=lb*S+r
 .rw [yE ey,ac5 hx];by_cases ex:x=la*S+i
  .rw [yE ex,ex,ey]
  .rw [yp ex,<-ey];refine h x y hxC hyR ?_;unfold JI at hw ⊢;rw[wM] at hw ⊢;rcases hw with hw | hw
   .exact .inl hw
   .rw [yf,xc,xc] at hw;refine .inr ?_;rw[yf,xc,xc];refine⟨hw.1,?_⟩;have h1:y/S=lb:=by rw[ey];exact Lq hr
    have h2:y%S=r:=by rw[ey];exact Wj hr
    have h3:=hw.1;rw[h1] at h3;have h4:x/S=la:=by omega
    have h5:=xL x S;have h6:=hw.2;rw[h2] at h6 ⊢;rw[h4,xg] at h5;omega
 .rw [yp ey];refine h x y hxC hyR ?_;unfold JI at hw ⊢;rw[wM] at hw ⊢;rcases hw with hw | hw
  .exact .inl hw
  .rw [yf,xc,xc] at hw;refine .inr ?_;rw[yf,xc,xc];refine⟨hw.1,?_⟩;have hxs:x/S<C:=Nat.div_lt_of_lt_mul (by rw[xg];exact hxC)
   have h1:y/S=lb:=by
    have a1:(y/S*C+x/S)/C=y/S:=Lq hxs;have a2:(lb*C+la)/C=lb:=Lq Bf;rw[<-a1,hw.1,a2]
   have h2:y%S≠r:=fun q=>ey (by
    have:=xL y S
    rw[h1,q,xg] at this
    exact this.symm)
   have h3:=xE x hS;have h4:=hw.2;have h5:y%S*S+x%S<r*S+i+1:=h4;rcases Nat.lt_or_gt_of_ne h2 with q | q
   .have:=yX S (show y%S+1<=r from q)
    rw[we,yah] at this;omega
   .have:=yX S (show r+1<=y%S from q)
    rw[we,yah] at this;omega
def ayX{C S la lb i r:Nat}{lt:Rat}{ps:List (List Nat×List Nat)}(hi:i<S)(hr:r<S)(hk:lb*C+la<ps.length):jS C S lt ps (la*S+i) (lb*S+r)=lt*(lG S (aS (ps[lb*C+la]).1) i*lG S (aS (ps[lb*C+la]).2) r):=by
 unfold jS;rw[Lq hi,Wj hi,Lq hr,Wj hr,zD _ hk]
def Xd{A B:VC}{TM:Env}{N la lb k:Nat}{H:Hp}(hb:ja (N+9) TM)(bl:jw (N+6) (N+6) H)(st:Nat):jw (N+10) (N+10) (fJ A B TM N la lb k st H):=
 ⟨by omega,Em (by omega) hb,by omega,.inr ⟨⟨trivial,⟨by show 0<N+10;omega,trivial⟩⟩,trivial⟩,by omega,.inl rfl,by omega,.inl rfl,TH (by omega) (fun _=>abo (by omega)) bl⟩
def VL{c B:Nat}(h:c<=B):∀{H:Hp},jw c c H->cG B H=cG c H
 | [],_=>rfl
 | (i,o)::r,hb=>by rw[qh _ _ (by have:=hb.1;omega),qh _ _ hb.1,VL h hb.2.2]
def Xe{A B:VC}{TM:Env}{N la lb k:Nat}{H:Hp}(hn:(dN TM).length<=1000)(bl:jw (N+6) (N+6) H)(rl:(cG (N+6) H).length<=1000)(st:Nat):(cG (N+10) (fJ A B TM N la lb k st H)).length<=90000:=by
 have e:=VL (show N+6<=N+10 by omega) bl;unfold fJ;rw[qh _ _ (show N+9<N+10 by omega),qh _ _ (show N+8<N+10 by omega),qh _ _ (show N+7<N+10 by omega),qh _ _ (show N+6<N+10 by omega),e];have h1:eV (.lp TM [74,75] A B st .none)=dN TM:=rfl;have h2:eV (.cells ydy ydz ydy 1 [.fn (.f 696) [] [.ptr 0 0]])=[0]:=rfl;have h3:eV (.cells ydy ydy ydy 2 [aa la,aa lb])=[]:=rfl;have h4:eV (.cells ydy ydy ydy 1 [aa k])=[]:=rfl;rw[h1,h2,h3,h4];simp only[yW,yB,yM];omega
def Ai(N la lb k:Nat)(H:Hp):Hp:=(N+8,.cells ydy ydz ydy 1 [.fn (.f 696) [] [.ptr 0 0]])::(N+7,.cells ydy ydy ydy 2 [aa la,aa lb])::(N+6,.cells ydy ydy ydy 1 [aa k])::H
section
variable {P:aF}{L:Lib}
def aAL(h:Bk P L){TM:Env}{C R S la lb bs:Nat}{v:AV}{ps:List (List Nat×List Nat)}{lt:List Nat}{M:List (List (Option Rat))}{H:Hp}(lo:fI C R S v lt (R*S) (C*S) M (R*S+6) H)(hv:mJ v ps)(dR:ps.length=C*R)(hp:AZ ps)(aG:bX lt=0)(kS:lt.length<=40)(t4:ai TM 4=.ptr 1 0)(t5:ai TM 5=.ptr 2 0)(t10:ai TM 10=.ptr 3 0)(t12:ai TM 12=.ptr (R*S+6) 0)(t14:ai TM 14=.ptr (R*S+8) 0)(t73:ai TM 73=.fn (.f 719) [] [eC C R S,mT la lb])(jR:ja (R*S+9) TM)(hn:(dN TM).length<=1000)(hC:C<=8)(hR:R<=8)(hS:S<=8)(eM:0<S)(Bf:la<C)(hlb:lb<R)(hw:mK (jS C S (aS lt) ps) C R S (lb*C+la) 0 M):
  ∃M' H',fI C R S v lt (R*S) (C*S) M' (R*S+6) H'/\(∀j,ak H (R*S+5)=Gr j->ak H' (R*S+5)=Gr j)/\mK (jS C S (aS lt) ps) C R S (lb*C+la) (S*S) M'/\D P L (.rf (.t 73) [74,75] iI ir) ⟨TM,Ai (R*S) la lb (lb*C+la) H,R*S+9,bs⟩=Gr (.normal,⟨TM,Ai (R*S) la lb (lb*C+la) H',R*S+10,bs⟩):=by
 have hN:R*S<=64:=yZ hR hS;have hm:C*S<=64:=yZ hC hS;have JD:C*R<=64:=yZ hC hR;have hk:lb*C+la<ps.length:=by
  have:=yX C (show lb+1<=R from hlb)
  rw[we,yah] at this;rw[dR,xg C R];omega
 generalize lK:lb*C+la=k at*
 have Cs:∀{M H},fI C R S v lt (R*S) (C*S) M (R*S+6) H->zN (R*S+9+1) (R*S+9) (fJ iI ir TM (R*S) la lb k 0 H)=(fJ iI ir TM (R*S) la lb k 0 H,R*S+10):=fun lo=>O9 (J:=[]) (by simp) (Xd jR lo.bl 0) (by omega) (Xe hn lo.bl lo.rl 0)
 have hz:∀{M H},fI C R S v lt (R*S) (C*S) M (R*S+6) H->∀tm ct,bB [] ⟨tm,fJ iI ir TM (R*S) la lb k 0 H,ct,R*S+9+1⟩=⟨[],fJ iI ir TM (R*S) la lb k 0 H,R*S+10,R*S+9+1⟩:=fun {M H} lo tm ct=>Oe (live:=[]) trivial (Xd jR lo.bl 0) (by
  have:=Xe (A:=iI) (B:=ir) (la:=la) (lb:=lb) (k:=k) hn lo.bl lo.rl 0
  show 0+(cG (R*S+10) (fJ iI ir TM (R*S) la lb k 0 H)).length<100000
  omega)
 obtain⟨G,c',⟨M',H',rfl,rfl,dT,py,Ge⟩,e⟩:=aAv (P:=P) (L:=L) h.toCtd.Sd (f:=.t 73) (ps:=[74,75]) (as_:=iI) (body:=ir) (s:=⟨TM,Ai (R*S) la lb k H,R*S+9,bs⟩) (C:=C) (R:=R) (a:=la) (b:=lb) hS (by omega) (by omega) t73
  (Inv:=fun j G c'=>∃M' H',G=fJ iI ir TM (R*S) la lb k 0 H'/\c'=R*S+10/\fI C R S v lt (R*S) (C*S) M' (R*S+6) H'/\(∀j,ak H (R*S+5)=Gr j->ak H' (R*S+5)=Gr j)/\mK (jS C S (aS lt) ps) C R S k j M')
  ⟨by rintro j G c' ⟨M',H',rfl,rfl,dT,_,_⟩;exact Cs dT,by rintro j G c' ⟨M',H',rfl,rfl,dT,_,_⟩ tm ct;exact hz dT tm ct,by rintro j G c' ⟨M',H',rfl,rfl,_,_,_⟩;exact⟨_,_,_,_,by unfold fJ;rw[ll]⟩⟩
  ⟨_,_,Cs lo,M,H,rfl,rfl,lo,fun j hj=>hj,hw⟩ (by
   rintro r i G c' hr hi ⟨M',H',rfl,rfl,dT,py,Ge⟩;have hx:=W8 Bf hi;have hy:=W8 hlb hr;obtain⟨H2,J,Ej,iA,hJ,aO,e2⟩:=aD4 h dT hv hk hp aG kS t4 t5 t10 t12 t14 hC hR hS hN hm (by omega) hi hr hx hy;refine⟨_,_,_,_,e2,O9 hJ (Xd jR Ej.bl 0) (by omega) (Xe hn Ej.bl Ej.rl 0),_,H2,rfl,rfl,Ej,fun j hj=>iA j (py j hj),?_⟩;have gJ:=ayX (C:=C) (lt:=aS lt) (ps:=ps) (la:=la) (lb:=lb) hi hr (by rw[lK];exact hk)
   have aM:=mK.step (f:=jS C S (aS lt) ps) (R:=R) eM Bf hi hr (by rw[lK];exact Ge) (by rw[dT.lM];exact hy) (by rw[dT.rM _ hy];exact hx)
   rw[lK] at aM;subst lK;rw[gJ] at aM
   exact aM)
 refine⟨M',H',dT,py,Ge,e.trans ?_⟩;have hd:cN (fJ iI ir TM (R*S) la lb k 0 H') (R*S+9)=Ai (R*S) la lb k H':=by
  unfold fJ Ai
  rw[UX,GA _ _ (by omega),GA _ _ (by omega),GA _ _ (by omega),arU (H:=H') dT.bl (show R*S+6<=R*S+9 by omega)]
 show Gr (Ex.normal,(⟨TM,cN (fJ iI ir TM (R*S) la lb k 0 H') (R*S+9),R*S+10,bs⟩:St))=_
 rw[hd]
end
def mK.next{f:Nat->Nat->Rat}{C R S k:Nat}{M:List (List (Option Rat))}(hS:0<S)(h:mK f C R S k (S*S) M):mK f C R S (k+1) 0 M:=by
 intro x y hx hy hw;refine h x y hx hy ?_;unfold JI at hw ⊢;rw[wM] at hw ⊢;rcases hw with hw | hw
 .rw [xc] at hw;by_cases e:y/S*C+x/S<k
  .exact .inl (yN e)
  .refine .inr ?_;rw[yf,xc,xc];refine⟨by omega,?_⟩;exact W8 (xE y hS) (xE x hS)
 .rw [yf,xc,xc] at hw;omega
def fI.ajM{C R S:Int}{v:AV}{lt:List Nat}{N m:Nat}{M:List (List (Option Rat))}{H:Hp}(lo:fI C R S v lt N m M (N+6) H){TM:Env}{A B:VC}{st st':Nat}(hg:ak H (N+5)=Gr (.lp TM [68,69] A B st .none))(hb:ja (N+6) TM):fI C R S v lt N m M (N+6) (aR H (N+5) (.lp TM [68,69] A B st' .none))/\ak (aR H (N+5) (.lp TM [68,69] A B st' .none)) (N+5)=Gr (.lp TM [68,69] A B st' .none):=by
 have bU:∀j,j≠N+5->ak (aR H (N+5) (.lp TM [68,69] A B st' .none)) j=ak H j:=fun j hj=>by rw[rD,yp hj]
 refine⟨⟨⟨by obtain⟨j9,h⟩:=lo.b3.g0;exact⟨j9,by rw[bU 0 (by omega)];exact h⟩,by rw[bU 1 (by omega)];exact lo.b3.g1,by rw[bU 2 (by omega)];exact lo.b3.g2⟩,by rw[bU 3 (by omega)];exact lo.gb,by rw[bU 4 (by omega)];exact lo.gm,fun j hj=>?_,lo.rM,lo.lM,Og (o:=.lp TM [68,69] A B st' .none) hb lo.bl,?_,lo.hc⟩,by rw[rD,yE rfl,hg];rfl⟩
 .rw [bU (5+j) (by omega)];exact lo.gr j hj
 .rw [N9 (o:=.lp TM [68,69] A B st' .none) (u:=.lp TM [68,69] A B st .none) rfl hg];exact lo.rl
section
variable {P:aF}{L:Lib}
def aAM(h:Bk P L){TM:Env}{C R S k:Nat}{v:AV}{ps:List (List Nat×List Nat)}{lt:List Nat}{M:List (List (Option Rat))}{H:Hp}(lo:fI C R S v lt (R*S) (C*S) M (R*S+6) H)(hg:ak H (R*S+5)=Gr (.lp TM [68,69] p8 p9 0 .none))(hv:mJ v ps)(dR:ps.length=C*R)(hp:AZ ps)(aG:bX lt=0)(kS:lt.length<=40)(t3:ai TM 3=.ptr 0 0)(t4:ai TM 4=.ptr 1 0)(t5:ai TM 5=.ptr 2 0)(t10:ai TM 10=.ptr 3 0)(jR:ja (R*S+5) TM)(hn:(dN TM).length<=900)(hC:C<=8)(hR:R<=8)(hS:S<=8)(eM:0<S)(hk:k<C*R)(hw:mK (jS C S (aS lt) ps) C R S k 0 M):
  ∃M' H' J,fI C R S v lt (R*S) (C*S) M' (R*S+6) H'/\ak H' (R*S+5)=Gr (.lp TM [68,69] p8 p9 0 .none)/\mK (jS C S (aS lt) ps) C R S (k+1) 0 M'/\(∀p:Nat×Obj,p∈J->R*S+6<=p.1)/\∃aO,jT (D P L) H (R*S+6) (R*S+5) [aa k,.agg [aa ((k%C:Nat):Int),aa ((k/C:Nat):Int)]]=Gr (.bool ydy,J++H',aO):=by
 obtain⟨l1,l2⟩:=auy hk;have lK:k/C*C+k%C=k:=by rw[xg];exact xL k C
 generalize k%C=la at*
 generalize k/C=lb at*
 subst lK;have ajN:ab P L 673 [.agg [aa C,aa R,aa S],.agg [aa la,aa lb]] (.fn (.f 719) [] [eC C R S,mT la lb]):=by
  unfold ab;rw[aD h.toCtd.aDA];simp only[go_sem,ya,yb,XI,gB,ajr]
  first | done | rfl
 have fz:=nA;have fz2:=aDB;unfold ab at ajN;generalize NZ:R*S=N at*
 obtain⟨ze,iT⟩:=lo.ajM (st':=1) hg (Em (by omega) jR);obtain⟨j9,h0⟩:=ze.b3.g0;have kj:D P L p8 ⟨(69,.agg [aa la,aa lb])::(68,aa (lb*C+la:Nat))::TM,H,N+6,N+6⟩=Gr (.normal,⟨(13,.ptr (N+7) 0)::(12,.ptr (N+6) 0)::(69,.agg [aa la,aa lb])::(68,aa (lb*C+la:Nat))::TM,(N+7,.cells ydy ydy ydy 2 [aa la,aa lb])::(N+6,.cells ydy ydy ydy 1 [aa (lb*C+la:Nat)])::H,N+8,N+6⟩):=by
  simp only[go_sem,ya,yb,p8,ajt,XU,aQ]
 generalize hH1:aR H (N+5) (.lp TM [68,69] p8 p9 1 .none)=H1 at*
 have key:∀{zf:Env} {Q},D P L (.rf (.t 73) [74,75] iI ir) ⟨zf,Ai N la lb (lb*C+la) H1,N+9,N+8⟩=Q->ai zf 4=.ptr 1 0->ai zf 5=.ptr 2 0->ai zf 10=.ptr 3 0->ai zf 12=.ptr (N+6) 0->ai zf 14=.ptr (N+8) 0->ai zf 73=.fn (.f 719) [] [eC C R S,mT la lb]->ja (N+9) zf->(dN zf).length<=1000->∃M' H',fI C R S v lt N (C*S) M' (N+6) H'/\(∀j,ak H1 (N+5)=Gr j->ak H' (N+5)=Gr j)/\mK (jS C S (aS lt) ps) C R S (lb*C+la) (S*S) M'/\Q=Gr (.normal,⟨zf,Ai N la lb (lb*C+la) H',N+10,N+8⟩):=by
  intro zf Q hQ t4 t5 t10 t12 t14 t73 jR hn
  have:=aAL h (TM:=zf) (bs:=N+8) (la:=la) (lb:=lb) (H:=H1) (M:=M) (by rw[NZ];exact ze) hv dR hp aG kS t4 t5 t10 (by rw[NZ];exact t12) (by rw[NZ];exact t14) t73 (by rw[NZ];exact jR) hn hC hR hS eM l1 l2 hw
  rw[NZ] at this;obtain⟨M',H',q1,q2,q3,e⟩:=this;exact⟨M',H',q1,q2,q3,hQ.symm.trans e⟩
 have js:∃M' H2,fI C R S v lt N (C*S) M' (N+6) H2/\(∀j,ak H1 (N+5)=Gr j->ak H2 (N+5)=Gr j)/\mK (jS C S (aS lt) ps) C R S (lb*C+la) (S*S) M'/\∃tm,D P L p9 ⟨(13,.ptr (N+7) 0)::(12,.ptr (N+6) 0)::(69,.agg [aa la,aa lb])::(68,aa (lb*C+la:Nat))::TM,(N+7,.cells ydy ydy ydy 2 [aa la,aa lb])::(N+6,.cells ydy ydy ydy 1 [aa (lb*C+la:Nat)])::H1,N+8,N+8⟩=Gr (.normal,⟨tm,Ai N la lb (lb*C+la) H2,N+10,N+8⟩):=by
  have hbf:∀ct,lJ ct 1 [.fZ]=Gr (.ptr ct 0,.cells ydy ydy ydy 1 [.fZ]):=fun _=>rfl
  have hsf:∀(hp:Hp) (ct id:Nat),jr hp ct id 0 1 [.fn (.f 696) [] [.ptr 0 0]] (Gr (.cells ydy ydy ydy 1 [.fZ]))=Gr (.av [],aR hp id (.cells ydy ydz ydy 1 [.fn (.f 696) [] [.ptr 0 0]]),ct):=fun _ _ _=>rfl
  have hcn:cellsOf .fZ=[.fZ]:=rfl;have jq:cellsOf (.fn (.f 696) [] [.ptr 0 0])=[.fn (.f 696) [] [.ptr 0 0]]:=rfl;simp only[go_sem,ya,p9,t3,h0,hcn,jq,hbf,hsf,gY,bZ,fz,fz2,ajN,yg,ybZ,uS,tF];generalize hQ:D P L (.rf _ _ _ _) _=Q;have kq:=key hQ;obtain⟨M',H2,q1,q2,q3,rfl⟩:=kq (by simp only[go_sem,ya,t4]) (by simp only[go_sem,ya,t5]) (by simp only[go_sem,ya,t10]) (by simp only[go_sem,ya]) (by simp only[go_sem,ya]) (by simp only[go_sem]) (by
   simp only[ja,below,lz,eC,mT]
   have:=Em (show N+5<=N+9 by omega) jR
   simp[this]) (by simp[dN,refs,fX,eC,mT];omega)
  refine⟨M',H2,q1,q2,q3,?_⟩;simp only[go_sem];exact⟨_,rfl⟩
 obtain⟨M',H2,q1,q2,q3,tm,js⟩:=js;have zX:=q2 _ iT;obtain⟨lo3,hg3⟩:=q1.ajM (st':=0) zX (Em (by omega) jR);refine⟨M',aR H2 (N+5) (.lp TM [68,69] p8 p9 0 .none),[(N+8,.cells ydy ydz ydy 1 [.fn (.f 696) [] [.ptr 0 0]]),(N+7,.cells ydy ydy ydy 2 [aa la,aa lb]),(N+6,.cells ydy ydy ydy 1 [aa (lb*C+la:Nat)])],lo3,hg3,q3.next eM,?_,?_⟩
 .intro p hp;simp only[xP,ybY,or_false] at hp;rcases hp with rfl | rfl | rfl<;>simp
 have Lr:=adP (P:=P) (L:=L) (hp:=H) (ct:=N+6) (l:=N+5) (xs:=[aa (lb*C+la:Nat),.agg [aa la,aa lb]]) hg rfl kj (by rw[fF _ _ (by omega),fF _ _ (by omega)];exact hg) (by
  rw[rF _ _ _ (by omega),rF _ _ _ (by omega),hH1];exact js) (by unfold Ai;rw[fF _ _ (by omega),fF _ _ (by omega),fF _ _ (by omega)];exact zX)
 have e9:aR (Ai N la lb (lb*C+la) H2) (N+5) (.lp TM [68,69] p8 p9 0 .none)=[(N+8,.cells ydy ydz ydy 1 [.fn (.f 696) [] [.ptr 0 0]]),(N+7,.cells ydy ydy ydy 2 [aa la,aa lb]),(N+6,.cells ydy ydy ydy 1 [aa (lb*C+la:Nat)])]++aR H2 (N+5) (.lp TM [68,69] p8 p9 0 .none):=by
  unfold Ai;rw[rF _ _ _ (by omega),rF _ _ _ (by omega),rF _ _ _ (by omega)];rfl
 rw[e9] at Lr;exact⟨_,Lr⟩
end
def fI.push{C R S:Int}{v:AV}{lt:List Nat}{N m:Nat}{M:List (List (Option Rat))}{H:Hp}(lo:fI C R S v lt N m M (N+5) H)(FJ:(cG (N+5) H).length<=100){TM:Env}{A B:VC}(jR:ja (N+5) TM)(hn:(dN TM).length<=900):fI C R S v lt N m M (N+6) ((N+5,.lp TM [68,69] A B 0 .none)::H):=by
 have bU:∀j,j≠N+5->ak ((N+5,Obj.lp TM [68,69] A B 0 .none)::H) j=ak H j:=fun j hj=>fF _ _ (fun q=>hj q.symm)
 refine⟨⟨by obtain⟨j9,h⟩:=lo.b3.g0;exact⟨j9,by rw[bU 0 (by omega)];exact h⟩,by rw[bU 1 (by omega)];exact lo.b3.g1,by rw[bU 2 (by omega)];exact lo.b3.g2⟩,by rw[bU 3 (by omega)];exact lo.gb,by rw[bU 4 (by omega)];exact lo.gm,fun j hj=>by rw[bU (5+j) (by omega)];exact lo.gr j hj,lo.rM,lo.lM,⟨by omega,Em (by omega) jR,TH (by omega) (fun _=>abo (by omega)) lo.bl⟩,?_,by omega⟩
 have e:=VL (show N+5<=N+6 by omega) lo.bl;rw[qh _ _ (show N+5<N+6 by omega),e];have h1:eV (.lp TM [68,69] A B 0 .none)=dN TM:=rfl;rw[h1,yW];omega
section
variable {P:aF}{L:Lib}
def aAN(h:Bk P L){TM:Env}{C R S:Nat}{v:AV}{ps:List (List Nat×List Nat)}{lt:List Nat}{M:List (List (Option Rat))}{H:Hp}(lo:fI C R S v lt (R*S) (C*S) M (R*S+5) H)(FJ:(cG (R*S+5) H).length<=100)(hv:mJ v ps)(dR:ps.length=C*R)(hp:AZ ps)(aG:bX lt=0)(kS:lt.length<=40)(t3:ai TM 3=.ptr 0 0)(t4:ai TM 4=.ptr 1 0)(t5:ai TM 5=.ptr 2 0)(t10:ai TM 10=.ptr 3 0)(t67:ai TM 67=.fn (.f 718) [] [eC C R S])(jR:ja (R*S+5) TM)(hn:(dN TM).length<=900)(hC:C<=8)(hR:R<=8)(hS:S<=8)(eM:0<S):
  ∃M' H',fI C R S v lt (R*S) (C*S) M' (R*S+6) H'/\mK (jS C S (aS lt) ps) C R S (C*R) 0 M'/\D P L (.rf (.t 67) [68,69] p8 p9) ⟨TM,H,R*S+5,0⟩=Gr (.normal,⟨TM,cN H' (R*S+5),R*S+6,0⟩):=by
 have ze:=lo.push FJ (A:=p8) (B:=p9) jR hn;have Cs:∀{M H},fI C R S v lt (R*S) (C*S) M (R*S+6) H->zN (R*S+5+1) (R*S+5) H=(H,R*S+6):=fun lo=>O9 (J:=[]) (by simp) lo.bl (by omega) (xi lo.rl (by decide))
 have hz:∀{M H},fI C R S v lt (R*S) (C*S) M (R*S+6) H->∀tm ct,bB [] ⟨tm,H,ct,R*S+5+1⟩=⟨[],H,R*S+6,R*S+5+1⟩:=fun {M H} lo tm ct=>Oe (live:=[]) trivial lo.bl (by
  have:=lo.rl
  show 0+(cG (R*S+6) H).length<100000
  omega)
 have h1:=ayo (P:=P) (L:=L) h.toCtd.H6 (f:=.t 67) (ps:=[68,69]) (as_:=p8) (body:=p9) (s:=⟨TM,H,R*S+5,0⟩) (S:=S) hC hR t67
  (Inv:=fun k G c=>∃M',c=R*S+6/\fI C R S v lt (R*S) (C*S) M' (R*S+6) G/\ak G (R*S+5)=Gr (.lp TM [68,69] p8 p9 0 .none)/\mK (jS C S (aS lt) ps) C R S k 0 M') (Bad:=fun _ _=>False)
  ⟨by rintro j G c ⟨M',rfl,dT,_,_⟩;exact Cs dT,by rintro j G c ⟨M',rfl,dT,_,_⟩ tm ct;exact hz dT tm ct,by rintro j G c ⟨M',rfl,dT,hg,_⟩;exact⟨_,_,_,_,hg⟩⟩
  ⟨_,_,Cs ze,M,rfl,ze,ll _ _ _,fun x y _ _ hw=>by
   unfold JI at hw
   simp at hw⟩ (by
   rintro k G c DK ⟨M',rfl,dT,hg,hw⟩;obtain⟨M2,H2,J,Ej,zX,iD,hJ,aO,e2⟩:=aAM h dT hg hv dR hp aG kS t3 t4 t5 t10 jR hn hC hR hS eM DK hw
   exact .inl ⟨_,_,_,_,e2,O9 hJ Ej.bl (by omega) (xi Ej.rl (by decide)),M2,rfl,Ej,zX,iD⟩)
 rcases h1 with ⟨G,c,⟨M',rfl,dT,hg,hw⟩,hD⟩ | ⟨_,_,hf,_⟩
 .exact ⟨M',G,dT,hw,hD⟩
 .exact hf.elim
def ayY{C R S:Nat}{lt:Rat}{ps:List (List Nat×List Nat)}{M:List (List (Option Rat))}(hS:0<S)(hw:mK (jS C S lt ps) C R S (C*R) 0 M)(hl:M.length=R*S)(hr:∀y,y<R*S->(M.getD y []).length=C*S):M=(iF C S lt ps (C*S) (R*S)).map fun r=>r.map Gr:=by
 refine ybO (by rw[hl,yU,PM]) fun y h1 h2=>?_
 have hy:y<R*S:=by omega
 have hry:=hr y hy;rw[zD _ h1] at hry;have e:((iF C S lt ps (C*S) (R*S)).map fun r=>r.map Gr)[y]=(iX C S lt ps (C*S) y).map Gr:=by simp[iF]
 rw[e];refine ybO (by rw[hry,yU,rR]) fun x h3 h4=>?_
 have hx:x<C*S:=by omega
 have e2:((iX C S lt ps (C*S) y).map Gr)[x]=Gr (jS C S lt ps x y):=by simp[iX]
 rw[e2];obtain⟨g1,_,_,_,_⟩:=Xc (R:=R) hS hx hy
 have:=hw x y hx hy (by unfold JI;rw[yN g1];rfl)
 rw[zD _ h1,zD _ h3] at this;exact this
end
def QO.ql:∀{l:List Rat} {cs:List AV},QO cs (l.map Gr)->QL cs l
 | [],cs,h=>by have h:cs=[]:=h;rw[h];trivial
 | x::l,cs,h=>by
  obtain⟨a,b,c,d,r,rfl,h1,h2⟩:=h;exact⟨h1 x rfl,QO.ql h2⟩
def aga:∀m,QO (zd m) (yk m none)
 | 0=>rfl
 | m+1=>⟨_,_,_,_,zd m,rfl,fun q e=>(by cases e),aga m⟩
def fI.init{C R S:Int}{v:AV}{lt:List Nat}{N m:Nat}{hp:Hp}(hM:NX hp 3 N ydz ydy ydy 4 (yk N m) (yk N (zd m)) 0)(hB:Gq C R S v lt hp)(hb:jw (N+5) (N+5) hp)(hr:(cG (N+5) hp).length<=1000):fI C R S v lt N m (yk N (yk m none)) (N+5) hp:=by
 have gm:=hM.m;rw[wC,aAI] at gm;have NY:∀y,y<N->(yk N (yk m (none:Option Rat))).getD y []=yk m none:=fun y hy=>by
  rw[zD _ (by rw[wC];exact hy),ux]
 refine⟨hB,hM.b,gm,fun y hy=>⟨zd m,?_,by rw[NY y hy];exact aga m⟩,fun y hy=>by rw[NY y hy,wC],wC,hb,hr,by omega⟩
 have:=hM.r y (by rw[wC];exact hy)
 rw[this,Dk (by rw[wC];exact hy),ux]
def aD5{hp:Hp}{N m:Nat}{M:List (List Rat)}(gm:ak hp 4=Gr (.cells ydy ydz ydy 1 (iE (ji 3 N) (yk N m))))(gr:∀y (h:y<M.length),∃cs,ak hp (5+y)=Gr (.cells ydy ydy ydy 4 cs)/\QL cs M[y])(lM:M.length=N)(rM:∀y (h:y<M.length),M[y].length=m)(hN:N<=64):∃rows,(∀n,910<=n->∃ap,cA n hp (iE (ji 3 N) (yk N m))=Gr (rows,ap))/\rows.length=N/\c7 nt rows M:=by
 have hT:∃T:List (List AV),T.length=N/\∀y (h:y<T.length),ak hp (5+y)=Gr (.cells ydy ydy ydy 4 T[y])/\∀(h':y<M.length),QL T[y] M[y]:=by
  refine⟨(wR N).map fun y=>if h:y<M.length then Classical.choose (gr y h) else [],by simp,fun y h=>?_⟩;have hy:y<M.length:=by rw[lM];simpa using h
  have hc:=Classical.choose_spec (gr y hy);simp only[vz,List.getElem_range,hy,dif_pos];exact⟨hc.1,fun _=>hc.2⟩
 obtain⟨T,lT,hT⟩:=hT;refine⟨uO (fun w r=>.au ydy w r) (yk N m) T,fun n hn=>?_,by simp[lT],?_⟩
 .obtain ⟨ap,e,_⟩:=UE (sz:=4) (y:=ydy) (by decide) (ji 3 N) (yk N m) T hp n (by rw[pU];omega) (by rw[pU,lT]) (by simp[lT]) (fun i h1 h2 h3=>by
   obtain⟨q1,q2⟩:=hT i h2;have JE:i<M.length:=by omega
   have:=(q2 JE).len
   refine⟨by rw[this,rM i JE,ux],ydy,?_⟩;rw[Pe,show 3+2+i=5+i by omega]
   exact q1)
  exact⟨ap,e⟩
 .have key:∀(T:List (List AV)) (M:List (List Rat)) (N:Nat),T.length=N->M.length=N->(∀y (h:y<T.length) (h':y<M.length),QL T[y] M[y]/\M[y].length=m)->c7 nt (uO (fun w r=>AV.au ydy w r) (yk N m) T) M:=by
   intro T
   induction T with
   | nil=>intro M N h1 h2 _;subst h1;rw[List.length_eq_zero_iff.1 h2];trivial
   | cons t T ih=>
    intro M N h1 h2 h3
    cases M with
    | nil=>simp at h1 h2;omega
    | cons r M=>
     simp only[yB] at h1 h2;subst h1;rw[wQ,List.zipWith_cons_cons];obtain⟨q1,q2⟩:=h3 0 (by simp) (by simp);refine⟨?_,ih M T.length rfl (by omega) fun y h h'=>h3 (y+1) (by simpa using h) (by simpa using h')⟩
     have:=ad6 ydy q1
     rw[q2] at this;exact this
  exact key T M N lT lM fun y h h'=>⟨(hT y h).2 h',rM y h'⟩
section
variable {P:aF}{L:Lib}
def auK(h:Bk P L){C R S:Nat}{v:AV}{ps:List (List Nat×List Nat)}{lt:List Nat}(hv:mJ v ps)(dR:ps.length=C*R)(hp:AZ ps)(aG:bX lt=0)(kS:lt.length<=40)(hC:C<=8)(hR:R<=8)(hS:S<=8)(eM:0<S)(nG:0<C)(Aj:0<R)(hg:iP C R S=0)(gJ:mb S ps=0)(MG:mI lt=0):
  (((iF C S (aS lt) ps (C*S) (R*S)).any fun r=>r.any df)=ydy->ab P L 657 [.agg [aa C,aa R,aa S],v,.str lt] (.av [.aj,aa 4]))/\(((iF C S (aS lt) ps (C*S) (R*S)).any fun r=>r.any df)=ydz->∃rows,ab P L 657 [.agg [aa C,aa R,aa S],v,.str lt] (.av [.au ydz (R*S) rows,aa 0])/\aY (aY gV) (.au ydz (R*S) rows) (iF C S (aS lt) ps (C*S) (R*S))):=by
 have cl:gC 2 v (ps.map fun p=>[AV.str p.1,.str p.2]):=hv;have lv:∀hp,gF hp 1 v=Gr (.int .i64 (ps.length:Nat)):=fun hp=>by have:=cl.len (hp:=hp);rwa[yU] at this
 have JD:C*R<=64:=yZ hC hR;have Cv:R*S<=64:=yZ hR hS;have Cu:C*S<=64:=yZ hC hS;have Ic:0<R*S:=wV Aj eM;have sC:0<C*S:=wV nG eM;have m0:(C:Int)*(R:Int)=((C*R:Nat):Int):=by rw[xx]
 have m1:(R:Int)*(S:Int)=((R*S:Nat):Int):=by rw[xx]
 have w0:IntKind.wrap .i64 ((C*R:Nat):Int)=((C*R:Nat):Int):=wrap64 (by omega) (by omega);have w1:IntKind.wrap .i64 ((R*S:Nat):Int)=((R*S:Nat):Int):=wrap64 (by omega) (by omega);have fz:=nA;have fzs:∀(n:Nat) (hp:Hp) (a b:List Nat),freeze (n+20) hp (.agg [.str a,.str b])=Gr (.agg [.str a,.str b],hp):=fun n hp a b=>bP _ _ (by simp only[go_sem])
 have e1:=H7 h.toFrc C R S;rw[hg] at e1;have e2:=nv (P:=P) (L:=L) h.toFrc.jA ydz 2;have e3:=AW (P:=P) (L:=L) h.toFrc.AX (eP ydy [0,0]) (by simp);simp only[yB,yM,ye,yb,yV,wJ,yH,xz] at e2 e3;rw[show bf [0,0]=0 by decide] at e3;have e4:ab P L 695 [v,.fn (.f 694) [.agg [aa C,aa R,aa S]] []] (aa (mb S ps)):=ahK h.Sl hv (by omega) (first:=[.agg [aa C,aa R,aa S]]) rfl (fun a b hp=>by simp only[go_sem,xe,xt,fz,fzs]) (fun p hm=>by
  obtain⟨q1,q2,q3,q4⟩:=hp p hm
  exact ajC h hS eM (by omega) (by omega))
 rw[gJ] at e4;have e5:=ajv (P:=P) (L:=L) h.toCk h.toFrc.jA h.MO (s:=lt) (by omega);rw[MG] at e5;have e7:=aDD (P:=P) (L:=L) h.aDC C R S;have cL:∀(hp:Hp) (n:Nat) (a b:Int),freeze (n+20) hp (.au ydy 2 [aa a,aa b])=Gr (.au ydy 2 [aa a,aa b],hp):=fun hp n a b=>(eP ydy [a,b]).ah (n+19)
 have N1:∀ct,lJ ct 1 [v]=Gr (.ptr ct 0,.cells ydy ydy ydy 1 [v]):=fun ct=>by
  rw[aQ (n:=1) rfl (by simp only[b9,cl.one];rfl)];simp[aH,cl.pu]
 have FX:∀ct,lJ ct 1 [.str lt]=Gr (.ptr ct 0,.cells ydy ydy ydy 1 [.str lt]):=fun _=>rfl
 have Nb:decide ((ps.length:Int)=((C*R:Nat):Int))=ydy:=yN (by omega);have key:=ayW (P:=P) (L:=L) (v:=v) (lt:=lt) (R:=R) hC hS sC Cv;have asN:bT (aa (R*S:Nat))=Gr (R*S):=rfl;have cx:∀ct,zJ ct 1 24 [.aj] (Gr (R*S)) (Gr (R*S))=Gr (.ay ct 0 (R*S),.cells ydy ydy ydy 1 (yk (R*S) [AV.aj]).flatten):=fun ct=>EY (by omega) (by omega) rfl rfl
 unfold ab at e1 e2 e3 e4 e5 e7 ⊢;rw[aD h.Y5];simp only[go_sem,ya,yb,yG,yq,yh,Mj,N1,FX,aX,ye,yg,yL,gY,fz,e1,cl.ah,cl.cells,lv,m0,w0,Nb,yO,e2,eQ,e3,e4,e5,m1,w1,asN,cx,aQ,XU];generalize hQ:D P L (.loop _ Ld) _=Q;have Is:(yk (R*S) [AV.aj]).flatten=fD [] [] (R*S):=by unfold fD iE;simp
 obtain⟨ic,q1,q2,q3,_,_⟩:=af9 (live:=[3,4,5,10,52,53]) (tm:=[(3,.ptr 0 0),(4,.ptr 1 0),(5,.ptr 2 0),(10,.ptr 6 0),(52,aa (R*S:Nat)),(53,aa (0:Nat))]) (tm':=zQ (R*S) 0) (hp:=[(6,.cells ydy ydz ydy 1 [.ay 5 0 (R*S)]),(5,.cells ydy ydy ydy 1 (yk (R*S) [AV.aj]).flatten),(4,.cells ydz ydy ydy 1 [AV.int .i64 0,.int .i64 0]),(3,.cells ydz ydy ydy 1 [AV.int .i64 0,.int .i64 0]),(2,.cells ydy ydy ydy 1 [.str lt]),(1,.cells ydy ydy ydy 1 [v]),(0,.cells ydy ydy ydy 3 [aa C,aa R,aa S])]) (ct:=7) (pre:=[0,1,2]) (b:=6) (a:=5) (k:=3) (n:=R*S) (ids:=[]) (W:=[]) (T:=[]) (p:=ydy) (x:=ydy) (y:=ydy) (sz:=4) (r:=R*S) (by simp only[go_sem,ya]) rfl (fun i hi=>by
  rcases xP.1 hi with rfl | hi
  .exact ⟨_,_,_,_,rfl⟩
  rcases xP.1 hi with rfl | hi
  .exact ⟨_,_,_,_,rfl⟩
  .rw [wE.1 hi];exact⟨_,_,_,_,rfl⟩) rfl (by rw[Is];rfl) (fun q=>absurd q (by simp)) rfl rfl (fun i hi=>absurd hi (by simp)) (by simp) (by decide) (fun S' s1 s2=>by
  have p0:=s1 0 (by decide);have p1:=s1 1 (by decide);have p2:=s1 2 (by decide);simp only[wX,List.getElem_cons_succ] at p0 p1 p2
  simp only[go_sem,ya,p0,p1,p2,s2,zQ]<;>rfl)
 have hB2:Gq C R S v lt ic:=⟨⟨ydy,q3 0 (by decide) _ _ _ _ rfl⟩,q3 1 (by decide) _ _ _ _ rfl,q3 2 (by decide) _ _ _ _ rfl⟩;obtain⟨ex,st,rfl,tm,S4,ct,rfl,rfl,NR,hB3,cY⟩:=bg hQ (key (R*S)) ⟨0,ic,by omega,by simpa using q2,hB2,by
  rw[kJ (c':=7) (tm':=[(3,.ptr 0 0),(4,.ptr 1 0),(5,.ptr 2 0),(10,.ptr 6 0),(52,aa (R*S:Nat)),(53,aa (0:Nat))]) (by simp only[go_sem,ya]<;>rfl),q1]
  rfl⟩
 rw[yC (show ¬R*S=0 by omega)] at NR;have l1:(yk (R*S) (zd (C*S))).length=R*S:=wC;have hgm:=NR.m;rw[l1] at hgm;obtain⟨S5,r1,r2,r3,r4,r5⟩:=afm (live:=[3,4,5,10]) (tm:=[(3,.ptr 0 0),(4,.ptr 1 0),(5,.ptr 2 0),(10,.ptr 3 0)]) (tm':=[(3,.ptr 0 0),(4,.ptr 1 0),(5,.ptr 2 0),(10,.ptr 3 0)]) (ct:=ct) (ids:=ji 3 (R*S)) hB3 (by simp only[go_sem,ya]) NR.b hgm (fun _=>rfl) (by rw[pU,l1]) (by rw[l1,wC]) (fun i hi=>by rw[Pe];exact NR.r i (by rw[l1];rw[pU] at hi;exact hi)) (by rw[l1];omega) ybL (fun i hi=>by have:=Pf.1 hi;omega) (fun S' s0 s1 s2 s3=>by simp only[go_sem,ya,s0,s1,s2,s3]<;>rfl)
 rw[l1] at r1 r4 r5;have lo:=fI.init r2 r3 (by rw[vU];exact r4) (by rw[vU];omega)
 have bN:bB [3,4,5,10] ⟨tm,S4,ct,0⟩=⟨[(3,.ptr 0 0),(4,.ptr 1 0),(5,.ptr 2 0),(10,.ptr 3 0)],S5,R*S+5,0⟩:=by
  rw[kJ (c':=ct) (tm':=[(3,.ptr 0 0),(4,.ptr 1 0),(5,.ptr 2 0),(10,.ptr 3 0)]) (by rw[cY];rfl),r1,vU]
 obtain⟨j9,h0⟩:=lo.b3.g0;obtain⟨M',H',dT,hw,hD⟩:=aAN h (TM:=[(67,.fn (.f 718) [] [eC C R S]),(66,.agg [aa C,aa R,aa S]),(3,.ptr 0 0),(4,.ptr 1 0),(5,.ptr 2 0),(10,.ptr 3 0)]) lo (by rw[vU];omega) hv dR hp aG kS (by simp only[go_sem,ya]) (by simp only[go_sem,ya]) (by simp only[go_sem,ya]) (by simp only[go_sem,ya]) (by simp only[go_sem]) (by simp[ja,below,lz,eC]) (by simp[dN,refs,fX,eC]) hC hR hS eM;have hMs:=ayY eM hw dT.lM dT.rM;simp only[go_sem,ya,bN,h0,gY,fz,e7,hD];have bU:∀j,j≠R*S+5->ak (cN H' (R*S+5)) j=ak H' j:=fun j hj=>by rw[JV,yp hj]
 have gb4:ak (cN H' (R*S+5)) 3=Gr (.cells ydy ydz ydy 1 [.ay 4 0 (R*S)]):=by rw[bU 3 (by omega)];exact dT.gb
 have gm4:ak (cN H' (R*S+5)) 4=Gr (.cells ydy ydz ydy 1 (iE (ji 3 (R*S)) (yk (R*S) (C*S)))):=by rw[bU 4 (by omega)];exact dT.gm
 have lM:=PM C S (aS lt) ps (C*S) (R*S);have rM:∀y (h:y<(iF C S (aS lt) ps (C*S) (R*S)).length),((iF C S (aS lt) ps (C*S) (R*S))[y]).length=C*S:=fun y h=>by
  have:(iF C S (aS lt) ps (C*S) (R*S))[y]=iX C S (aS lt) ps (C*S) y:=by simp[iF]
  rw[this,rR]
 have gr4:∀y (h:y<(iF C S (aS lt) ps (C*S) (R*S)).length),∃cs,ak (cN H' (R*S+5)) (5+y)=Gr (.cells ydy ydy ydy 4 cs)/\QL cs (iF C S (aS lt) ps (C*S) (R*S))[y]:=fun y h=>by
  obtain⟨cs,g1,g2⟩:=dT.gr y (by omega);refine⟨cs,by rw[bU (5+y) (by omega)];exact g1,?_⟩
  rw[hMs,zD _ (by rw[yU];exact h),vz] at g2
  exact g2.ql
 obtain⟨rows,eh,aAO,hR⟩:=aD5 gm4 gr4 lM rM Cv;have e8:=ajy h.toFto (v:=.au ydy (R*S) rows) (M:=iF C S (aS lt) ps (C*S) (R*S)) (K:=800) (by
  have:=rJ ydy hR
  rwa[lM] at this) (by omega) (by omega) (fun r hr=>by
  obtain⟨k,hk,rfl⟩:=wA.1 hr;have hk:=vW.1 hk;refine⟨by rw[rR];exact sC,by rw[rR];omega,fun x hx=>?_⟩
  obtain⟨c,hc,rfl⟩:=wA.1 hx
  exact ahJ (R:=R) eM hS dR hp (Ap aG kS) (vW.1 hc) hk) (by decide)
 rw[lM] at e8;unfold ab at e8;generalize cN H' (R*S+5)=H4 at*
 simp only[go_sem,gb4,yg];obtain⟨hp5,e9⟩:=eh 997 (by decide);have JB:mG 0 (R*S) (BV 997 4 H4 (ak H4 4))=Gr (.au ydy (R*S) rows,aR hp5 4 (.cells ydz ydz ydy 1 (iE (ji 3 (R*S)) (yk (R*S) (C*S))))):=by
  rw[gm4,af4 e9];exact gD ydy (by rw[aAO,yh]) (by decide)
 refine⟨fun q=>?_,fun q=>?_⟩
 .have e8:=e8.1 q;simp only[go_sem,ya,JB,e8,fU,fS,fT,JT,Bo]
 .obtain ⟨aAP,e8,Gp⟩:=e8.2 q;refine⟨aAP,?_,Gp⟩;simp only[go_sem,ya,JB,e8,fU,fS,fT,Bo]
end
def DC(C R S:Int)(n:Nat):Int:=bf [iP C R S,if (n:Int)=IntKind.wrap .i64 (C*R) then 0 else 2]
section
variable {P:aF}{L:Lib}
def aem(h:Bk P L){C R S:Int}{v:AV}{ps:List (List Nat×List Nat)}{lt:List Nat}(hv:mJ v ps)(fp:DC C R S ps.length≠0):ab P L 657 [.agg [aa C,aa R,aa S],v,.str lt] (.av [.aj,aa (DC C R S ps.length)]):=by
 have cl:gC 2 v (ps.map fun p=>[AV.str p.1,.str p.2]):=hv;have lv:∀hp,gF hp 1 v=Gr (.int .i64 (ps.length:Nat)):=fun hp=>by have:=cl.len (hp:=hp);rwa[yU] at this
 have fz:=nA;have e1:=H7 h.toFrc C R S;have e2:=nv (P:=P) (L:=L) h.toFrc.jA (!decide ((ps.length:Int)=IntKind.wrap .i64 (C*R))) 2;rw[show (if (!decide ((ps.length:Int)=IntKind.wrap .i64 (C*R)))=ydy then (2:Int) else 0)=(if (ps.length:Int)=IntKind.wrap .i64 (C*R) then 0 else 2) by by_cases e:(ps.length:Int)=IntKind.wrap .i64 (C*R)<;>simp[e]] at e2
 have e3:=AW (P:=P) (L:=L) h.toFrc.AX (eP ydy [iP C R S,if (ps.length:Int)=IntKind.wrap .i64 (C*R) then 0 else 2]) (by simp);simp only[yB,yM,ye,yb,yV,wJ] at e3;have cL:∀(hp:Hp) (n:Nat) (a b:Int),freeze (n+20) hp (.au ydy 2 [aa a,aa b])=Gr (.au ydy 2 [aa a,aa b],hp):=fun hp n a b=>(eP ydy [a,b]).ah (n+19)
 have N1:∀ct,lJ ct 1 [v]=Gr (.ptr ct 0,.cells ydy ydy ydy 1 [v]):=fun ct=>by
  rw[aQ (n:=1) rfl (by simp only[b9,cl.one];rfl)];simp[aH,cl.pu]
 have FX:∀ct,lJ ct 1 [.str lt]=Gr (.ptr ct 0,.cells ydy ydy ydy 1 [.str lt]):=fun _=>rfl
 unfold DC at fp ⊢;generalize (if (ps.length:Int)=IntKind.wrap .i64 (C*R) then (0:Int) else 2)=q1 at*
 generalize iP C R S=q2 at*
 unfold ab at e1 e2 e3;unfold ab;rw[aD h.Y5];simp only[go_sem,ya,yb,yG,yq,yh,Mj,gB,N1,FX,aX,ye,yg,yL,gY,fz,e1,cl.cells,lv,e2,eQ,e3,fp]
def apG(h:Bk P L){C R S:Nat}{v:AV}{ps:List (List Nat×List Nat)}{lt:List Nat}(hv:mJ v ps)(dR:ps.length=C*R)(iy:∀p,p∈ps->p.1.length<=1000000/\p.2.length<=1000000)(hl:lt.length<=1000000)(hC:C<=8)(hR:R<=8)(hS:S<=8)(eM:0<S)(hg:iP C R S=0)(fp:bf [mb S ps,mI lt]≠0):ab P L 657 [.agg [aa C,aa R,aa S],v,.str lt] (.av [.aj,aa (bf [mb S ps,mI lt])]):=by
 have cl:gC 2 v (ps.map fun p=>[AV.str p.1,.str p.2]):=hv;have lv:∀hp,gF hp 1 v=Gr (.int .i64 (ps.length:Nat)):=fun hp=>by have:=cl.len (hp:=hp);rwa[yU] at this
 have JD:C*R<=64:=yZ hC hR;have m0:(C:Int)*(R:Int)=((C*R:Nat):Int):=by rw[xx]
 have w0:IntKind.wrap .i64 ((C*R:Nat):Int)=((C*R:Nat):Int):=wrap64 (by omega) (by omega);have fz:=nA;have fzs:∀(n:Nat) (hp:Hp) (a b:List Nat),freeze (n+20) hp (.agg [.str a,.str b])=Gr (.agg [.str a,.str b],hp):=fun n hp a b=>bP _ _ (by simp only[go_sem])
 have e1:=H7 h.toFrc C R S;rw[hg] at e1;have e2:=nv (P:=P) (L:=L) h.toFrc.jA ydz 2;have e3:=AW (P:=P) (L:=L) h.toFrc.AX (eP ydy [0,0]) (by simp);have e6:=AW (P:=P) (L:=L) h.toFrc.AX (eP ydy [mb S ps,mI lt]) (by simp);simp only[yB,yM,ye,yb,yV,wJ,yH,xz] at e2 e3 e6;rw[show bf [0,0]=0 by decide] at e3;have e4:ab P L 695 [v,.fn (.f 694) [.agg [aa C,aa R,aa S]] []] (aa (mb S ps)):=ahK h.Sl hv (by omega) (first:=[.agg [aa C,aa R,aa S]]) rfl (fun a b hp=>by simp only[go_sem,xe,xt,fz,fzs]) (fun p hm=>ajC h hS eM (iy p hm).1 (iy p hm).2);have e5:=ajv (P:=P) (L:=L) h.toCk h.toFrc.jA h.MO (s:=lt) hl
 have cL:∀(hp:Hp) (n:Nat) (a b:Int),freeze (n+20) hp (.au ydy 2 [aa a,aa b])=Gr (.au ydy 2 [aa a,aa b],hp):=fun hp n a b=>(eP ydy [a,b]).ah (n+19)
 have N1:∀ct,lJ ct 1 [v]=Gr (.ptr ct 0,.cells ydy ydy ydy 1 [v]):=fun ct=>by
  rw[aQ (n:=1) rfl (by simp only[b9,cl.one];rfl)];simp[aH,cl.pu]
 have FX:∀ct,lJ ct 1 [.str lt]=Gr (.ptr ct 0,.cells ydy ydy ydy 1 [.str lt]):=fun _=>rfl
 have Nb:decide ((ps.length:Int)=((C*R:Nat):Int))=ydy:=yN (by omega);generalize mb S ps=q1 at*
 generalize mI lt=q2 at*
 unfold ab at e1 e2 e3 e4 e5 e6 ⊢;rw[aD h.Y5];simp only[go_sem,ya,yb,yG,yq,yh,Mj,gB,N1,FX,aX,ye,yg,yL,gY,fz,e1,cl.ah,cl.cells,lv,m0,w0,Nb,yO,e2,eQ,e3,e4,e5,e6,fp]
end
structure rS(P:aF)(L:Lib):Prop where
 p:Bk P L
 r:JG P L
 Y8:Has P L 634 Rk
 aD6:Has P L 636 Mh
 YS:Has P L 639 Rl
 MQ:Has P L 642 Mi
 me:Has P L 758 AM
 Y9:Has P L 765 HO
 QF:ab P L 637 [] (.bool ydy)
def lj(pl:AV)(lt:List Nat):Obj:=.cells ydy ydy ydy 2 [pl,.str lt]
def me(C R S:Int)(pl:AV)(lt:List Nat)(cs:List AV)(i:Nat):Hp:=oH 2 1 cs [(1,lj pl lt),(0,bM C R S)] i
def FR(v:AV)(n i:Nat):Env:=[(2,v),(3,.ptr 0 0),(4,.ptr 1 0),(7,oV 2 i),(45,v),(46,aa n),(47,aa i)]
section
variable {P:aF}{L:Lib}
def agb(h:rS P L){v pl:AV}{lt:List Nat}{Fs:List (List (List Nat))}{C R S:Int}(hv:aY (aY cT) v Fs)(hl:Fs.length<=1000):
  cE P L [2,3,4,7,45,46,47] C0 (fun d st=>∃i cs,i+d=Fs.length/\c7 (aY cT) cs (Fs.take i)/\(Fs.take i).all zc=ydy/\st=⟨FR v Fs.length i,me C R S pl lt cs i,oC 2 i,0⟩) (fun ex s'=>∃tm hp ct,s'=⟨tm,hp,ct,0⟩/\((ex=.ret/\Fs.all zc=ydz/\ai tm 6=.bool ydy)\/(ex=.exit 0/\Fs.all zc=ydy/\∃cs,hp=me C R S pl lt cs Fs.length/\c7 (aY cT) cs Fs/\bD tm [2,3,4,7]=[(2,v),(3,.ptr 0 0),(4,.ptr 1 0),(7,oV 2 Fs.length)]))):=by
 apply cI;rintro d st ⟨i,cs,hid,hA,hs,rfl⟩;by_cases hi:i<Fs.length
 .obtain ⟨fr,rest,eh,e0⟩:=hv.bj hi;have e1:=aDK (P:=P) (L:=L) h.aD6 eh;have ea:=h.QF;have dn:bT (aa i)=Gr i:=rfl;have eD:(i:Int)<Fs.length:=by omega
  have wi:IntKind.wrap .i64 ((i:Int)+1)=((i+1:Nat):Int):=wrap64 (by omega) (by omega);unfold ab at e1 ea
  cases hf:zc Fs[i] with
  | false=>
   right
   rw[hf] at e1;have jy:Fs.all zc=ydz:=by
    rw[List.all_eq_false];exact⟨_,xq hi,by rw[hf];decide⟩
   cases i
   all_goals
    simp only[FR,me,oV,oH,oC];simp only[go_sem,ya,yb,C0,eD,dn,e0,eh.ah,e1,yY,ea];exact⟨_,_,rfl,by simp,_,_,_,rfl,.inl ⟨rfl,jy,by simp only[go_sem]⟩⟩
  | true=>
   left
   rw[hf] at e1;obtain⟨k1,k2⟩:=Wk hf;obtain⟨x,e2,ix,sx⟩:=aDG (P:=P) (L:=L) h.YS eh (by omega) (fun r hm=>xi (k2 r hm) (by decide));have lc:=hA.len;rw[List.length_take,Nat.min_eq_left (by omega)] at lc;have Ei:c7 (aY cT) (cs++[x]) (Fs.take (i+1)):=by rw[xn hi];exact hA.snoc ix
   have D6:(Fs.take (i+1)).all zc=ydy:=by
    rw[xn hi,List.all_append,hs];simp[hf]
   have ia:∀(tm:Env),lD tm [AV.aj] 0 1 [x] []=Gr [x]:=fun tm=>by rw[Pw (by rfl) (by simp) (by simp[b9,ix.one])];rfl
   have iq:∀(cf pu ex:Bool) (a:AV),pG 0 1 1 (Gr (.cells cf pu ex 1 [a]))=Gr (1,[a]):=fun _ _ _ _=>rfl
   have hox:b9 [x]=ydy:=by simp[b9,ix.one]
   have hpx:aH [x]=ydy:=by simp[aH,ix.pu]
   unfold ab at e2
   cases i with
   | zero=>
    have kw:cs=[]:=List.eq_nil_of_length_eq_zero lc;subst kw;simp only[FR,me,oV,oH,oC]
    simp only[go_sem,ya,yb,yh,C0,eD,dn,e0,eh.ah,e1,yO,e2,sx,ix.cells,ia,eQ,kL,kK,iq,gL (sz:=1) (by':=24) (new:=[x]) (m:=1) (by decide) (by decide) (by decide) (by decide),hpx,wi];refine⟨_,d-1,rfl,by omega,1,[x],by omega,Ei,D6,?_⟩;simp only[go_sem,ya,yb,aq,lj,bM,aC hv.pu]<;>rfl
   | succ i=>
    have iQ:=fun (hp:Hp) (ct:Nat) (hg:ak hp 2=Gr (.cells ydy ydy ydz 1 cs))=>ff (ct:=ct) (by':=24) (new:=[x]) (m:=1) (n:=i+1) hg (by rw[lc,yh]) (by omega) (by omega) (by decide) hox
    simp only[FR,me,oV,oH,oC];simp only[go_sem,ya,yb,yh,C0,eD,dn,e0,eh.ah,e1,yO,e2,sx,ix.cells,ia,eQ,kL,kK,iq,iQ,hpx,wi,wg];refine⟨_,d-1,rfl,by omega,i+1+1,cs++[x],by omega,Ei,D6,?_⟩;simp only[go_sem,ya,yb,aq,lj,bM,aC hv.pu]<;>rfl
 .right
  have oK:i=Fs.length:=by omega
  subst oK;rw[List.take_of_length_le (yx _)] at hA hs;simp only[FR];simp only[go_sem,ya,C0,show ¬(Fs.length:Int)<Fs.length by omega];exact⟨_,_,rfl,by simp,_,_,_,rfl,.inr ⟨rfl,hs,cs,rfl,hA,by simp only[go_sem,ya]<;>rfl⟩⟩
end
structure Bl(v:AV):Prop where
 ah:∀(n:Nat) {hp:Hp},freeze (n+1) hp v=Gr (v,hp)
 shut:shut v=v
 bH:bH v=v
def oQ:Bl .aj:=⟨fun _=>rfl,rfl,rfl⟩
def aY.Tm{β:Type}{p:AV->β->Prop}{v:AV}{M:List β}(h:aY p v M):Bl v:=⟨fun n=>h.ah n,h.shut,h.bH⟩
section
variable {P:aF}{L:Lib}
def nM(h:rS P L):ab P L 650 [.aj,.aj] (.bool ydy)/\ab P L 651 [.aj] (.bool ydy):=
 ⟨YY (P:=P) (L:=L) h.r.MR (M:=[]) Es Es (by decide) (fun r hr=>by cases hr),Y0 (P:=P) (L:=L) h.r.MS (M:=[]) Es (by decide) (fun r hr=>by cases hr)⟩
def auL(h:rS P L){C R S:Nat}{v w:AV}{ps:List (List Nat×List Nat)}{lt:List Nat}(hv:mJ v ps)(hw:mJ w ps)(dR:ps.length=C*R)(hp:AZ ps)(aG:bX lt=0)(kS:lt.length<=40)(hC:C<=8)(hR:R<=8)(hS:S<=8)(eM:0<S)(nG:0<C)(Aj:0<R)(hg:iP C R S=0)(gJ:mb S ps=0)(MG:mI lt=0):
  ∃pv rv e,ab P L 657 [.agg [aa C,aa R,aa S],v,.str lt] (.av [pv,aa e])/\ab P L 776 [.agg [aa C,aa R,aa S],w,.str lt] (.av [rv,aa e])/\ab P L 650 [pv,rv] (.bool ydy)/\ab P L 651 [pv] (.bool ydy)/\Bl pv/\Bl rv:=by
 have e1:=auK h.p hv dR hp aG kS hC hR hS eM nG Aj hg gJ MG;have e2:=aD2 h.r hw dR hp aG kS hC hR eM hS (wV nG eM) (wV Aj eM);have Cv:R*S<=64:=yZ hR hS;have Cu:C*S<=64:=yZ hC hS
 cases hb:(iF C S (aS lt) ps (C*S) (R*S)).any fun r=>r.any df with
 | true=>exact⟨.aj,.aj,4,e1.1 hb,e2.1 hb,(nM h).1,(nM h).2,oQ,oQ⟩
 | false=>
  obtain⟨r1,e1,h1⟩:=e1.2 hb;obtain⟨r2,e2,h2⟩:=e2.2 hb;have lM:(iF C S (aS lt) ps (C*S) (R*S)).length<=1000000:=by rw[PM];omega
  have rM:∀r,r∈iF C S (aS lt) ps (C*S) (R*S)->r.length<=1000000:=fun r hr=>by
   obtain⟨k,_,rfl⟩:=wA.1 hr;rw[rR];omega
  exact⟨_,_,0,e1,e2,YY (P:=P) (L:=L) h.r.MR h1 h2 lM rM,Y0 (P:=P) (L:=L) h.r.MS h1 lM rM,h1.Tm,h2.Tm⟩
def auM(h:rS P L){C R S:Nat}{v w:AV}{Fs:List (List (List Nat))}(hv:aY (aY cT) v Fs)(hw:aY (aY cT) w Fs)(hF:zO Fs (R*S) (C*S))(h0:0<Fs.length)(h4:Fs.length<=4)(hC:C<=8)(hR:R<=8)(hS:S<=8)(sC:0<C*S)(Ic:0<R*S)(hg:iP C R S=0)(ht:bf (Fs.map (j0 (R*S) (C*S)))=0):
  ∃pv rv e,ab P L 668 [.agg [aa C,aa R,aa S],v] (.av [pv,aa e])/\ab P L 778 [.agg [aa C,aa R,aa S],w] (.av [rv,aa e])/\ab P L 650 [pv,rv] (.bool ydy)/\ab P L 651 [pv] (.bool ydy)/\Bl pv/\Bl rv:=by
 have e1:=auG h.p.toAvg hv hF h0 h4 hC hR hS sC Ic hg ht;have e2:=aDU h.r.toRvg hw hF h0 h4 hC hR hS sC Ic;have Cv:R*S<=64:=yZ hR hS;have Cu:C*S<=64:=yZ hC hS
 cases hb:(jh Fs (C*S) (R*S)).any fun r=>r.any df with
 | true=>exact⟨.aj,.aj,4,e1.1 hb,e2.1 hb,(nM h).1,(nM h).2,oQ,oQ⟩
 | false=>
  obtain⟨r1,e1,h1⟩:=e1.2 hb;obtain⟨r2,e2,h2⟩:=e2.2 hb;have lM:(jh Fs (C*S) (R*S)).length<=1000000:=by rw[GI];omega
  have rM:∀r,r∈jh Fs (C*S) (R*S)->r.length<=1000000:=fun r hr=>by
   obtain⟨k,_,rfl⟩:=wA.1 hr;rw[oP];omega
  exact⟨_,_,0,e1,e2,YY (P:=P) (L:=L) h.r.MR h1 h2 lM rM,Y0 (P:=P) (L:=L) h.r.MS h1 lM rM,h1.Tm,h2.Tm⟩
end
def qO(n:Nat):Bool:=decide (n<=4)||decide (n=257)
def bxS{pl:AV}(pv:aV pl=ydy)(ov:dL pl=ydy)(lt:List Nat)(ct:Nat):lJ ct 2 [pl,.str lt]=Gr (.ptr ct 0,lj pl lt):=by
 rw[aQ (n:=2) rfl (by simp only[b9,ov];rfl)]
 simp only[aH,pv,lj];rfl
section
variable {P:aF}{L:Lib}
def auN(h:rS P L){C R S:Int}{v pl:AV}{ps:List (List Nat×List Nat)}{lt:List Nat}{Fs:List (List (List Nat))}(dR:se pl ps)(hv:aY (aY cT) v Fs)(hn:¬(Gn C R S=ydy/\AY ps=ydy/\lt.length<=40/\qO Fs.length=ydy)):ab P L 758 [.agg [aa C,aa R,aa S],.agg [pl,.str lt],v] (.bool ydy):=by
 have ap:gC 2 pl (ps.map fR):=dR;have ea:=h.QF;have g1:=YV (P:=P) h.Y8 C R S;have g2:=YT (P:=P) (L:=L) h.Y9 dR;have fz:=nA;have hb:=bxS ap.pu ap.one lt;unfold ab at ea g1 g2;unfold ab;rw[aD h.me]
 cases c1:Gn C R S with
 | false=>
  rw[c1] at g1;simp only[go_sem,ya,yb,AM,gB,hb,lj,yg,gY,fz,g1,yY,ea]
 | true=>
  rw[c1] at g1
  cases c2:AY ps with
  | false=>
   rw[c2] at g2;simp only[go_sem,ya,yb,AM,gB,hb,lj,aX,ye,yg,gY,fz,ap.ah,g1,g2,yY,yO,ea]
  | true=>
   rw[c2] at g2;by_cases c3:lt.length<=40
   .have c4:qO Fs.length=ydz:=by
     cases c4:qO Fs.length with
     | false=>rfl
     | true=>exact absurd ⟨c1,c2,c3,c4⟩ hn
    unfold qO at c4;rw[Bool.or_eq_false_iff,uL,uL] at c4;simp only[go_sem,ya,yb,AM,gB,hb,lj,aX,ye,yg,yL,gY,fz,ap.ah,g1,g2,yY,yO,EC,show ¬(lt.length:Int)>40 by omega,hv.len,show (Fs.length:Int)>4 by omega,show ¬(Fs.length:Int)=257 by omega,yv,yu,ea]
   .simp only [go_sem,ya,yb,AM,gB,hb,lj,aX,ye,yg,yL,gY,fz,ap.ah,g1,g2,yO,EC,show (lt.length:Int)>40 by omega,yv,ea]
end
section
variable {P:aF}{L:Lib}
def agc{v pl:AV}(pv:aV v=ydy){lt:List Nat}{C R S:Int}{cs:List AV}{n:Nat}{tm:Env}{ct:Nat}(hk:bD tm [2,3,4,7]=[(2,v),(3,.ptr 0 0),(4,.ptr 1 0),(7,oV 2 n)]):bB [2,3,4,7] ⟨tm,me C R S pl lt cs n,ct,0⟩=⟨[(2,v),(3,.ptr 0 0),(4,.ptr 1 0),(7,oV 2 n)],me C R S pl lt cs n,oC 2 n,0⟩:=by
 rw[kJ (c':=ct) (tm':=[(2,v),(3,.ptr 0 0),(4,.ptr 1 0),(7,oV 2 n)]) (by rw[hk];rfl)]
 cases n<;>simp only[go_sem,ya,yb,aq,oV,oH,oC,me,lj,bM,aC pv]<;>rfl
def N3(n:Nat)(cs:List AV):AV:=match n with | 0=>.aj | n+1=>.au ydz (n+1) cs
def agd{cs:List AV}{Fs:List (List (List Nat))}(h:c7 (aY cT) cs Fs):aY (aY cT) (N3 Fs.length cs) Fs:=by
 cases Fs with
 | nil=>exact Es
 | cons a l=>exact rJ ydz h
def VM:∀ps:List (List Nat×List Nat),b9 (ps.map fR).flatten=ydy/\aH (ps.map fR).flatten=ydy
 | []=>⟨rfl,rfl⟩
 | p::ps=>by
  obtain⟨h1,h2⟩:=VM ps;rw[yV,List.flatten_cons];exact⟨by show b9 (.str p.1:: .str p.2::(ps.map fR).flatten)=ydy;simp only[b9,h1];rfl,by show aH (.str p.1:: .str p.2::(ps.map fR).flatten)=ydy;simp only[aH,h2];rfl⟩
def auO(h:rS P L){C R S:Int}{v pl:AV}{ps:List (List Nat×List Nat)}{lt:List Nat}{Fs:List (List (List Nat))}(dR:se pl ps)(hv:aY (aY cT) v Fs)(c1:Gn C R S=ydy)(c2:AY ps=ydy)(c3:lt.length<=40)(c4:qO Fs.length=ydy)(hl:Fs.length<=1000)(aD7:ps.length<=1000000)(fp:iP C R S≠0):ab P L 758 [.agg [aa C,aa R,aa S],.agg [pl,.str lt],v] (.bool ydy):=by
 have ap:gC 2 pl (ps.map fR):=dR;have lp:∀hp,gF hp 1 pl=Gr (.int .i64 (ps.length:Nat)):=fun hp=>by have:=ap.len (hp:=hp);rwa[yU] at this
 have ea:=h.QF;have g1:=YV (P:=P) h.Y8 C R S;have g2:=YT (P:=P) (L:=L) h.Y9 dR;have g3:=ahH (P:=P) (L:=L) h.MQ h.r.Xb h.r.toRfc.H9 C R S;have fz:=nA;have hb:=bxS ap.pu ap.one lt;have key:=agb h (pl:=pl) (lt:=lt) (C:=C) (R:=R) (S:=S) hv hl;rw[c1] at g1;rw[c2] at g2;unfold ab at ea g1 g2 g3;unfold ab;rw[aD h.me];unfold qO at c4;rw[wM,xc,xc] at c4;rcases c4 with c4 | c4
 simp only[go_sem,ya,yb,AM,gB,hb,lj,aX,ye,yg,yL,gY,fz,ap.ah,g1,g2,yO,EC,show ¬(lt.length:Int)>40 by omega,hv.len,show ¬(Fs.length:Int)>4 by omega,yu]
 rotate_left
 simp only[go_sem,ya,yb,AM,gB,hb,lj,aX,ye,yg,yL,gY,fz,ap.ah,g1,g2,yO,EC,show ¬(lt.length:Int)>40 by omega,hv.len,show (Fs.length:Int)>4 by omega,yN (show (Fs.length:Int)=257 by omega),yv,yu,yO]
 all_goals
  generalize hQ:D P L (.loop _ C0) _=Q;obtain⟨ex,st,rfl,tm,hp,ct,rfl,hh⟩:=bg hQ (key Fs.length) ⟨0,[],by omega,trivial,rfl,by simp only[go_sem,ya,yb,aq,FR,me,oV,oH,oC,lj,bM,aC hv.pu]<;>rfl⟩
  rcases hh with ⟨rfl,_,t6⟩ | ⟨rfl,jy,cs,rfl,dY,cY⟩
  .simp only [go_sem,t6]
  .have bN:=agc hv.pu (ct:=ct) (C:=C) (R:=R) (S:=S) (pl:=pl) (lt:=lt) (cs:=cs) cY;simp only[go_sem,ya,bN];have e1:=fun {w:AV} (hw:mJ w ps)=>aem (P:=P) (L:=L) h.p (lt:=lt) (C:=C) (R:=R) (S:=S) hw (by unfold DC;simp[bf,fp])
   have gI:DC C R S ps.length=iP C R S:=by unfold DC;simp[bf,fp]
   have e2:=Vd (P:=P) (L:=L) h.p.toAvg (C:=C) (R:=R) (S:=S) (agd dY) (by omega) (by unfold pN;simp[bf,fp]);have mj:pN C R S Fs=iP C R S:=by unfold pN;simp[bf,fp]
   obtain⟨f1,f2⟩:=nM h;simp only[gI] at e1;rw[mj] at e2;generalize iP C R S=q at*
   rcases ap.1 with ⟨rfl,hz⟩ | ⟨e,rfl⟩
   .have cK:ps=[]:=by simpa using hz
    subst cK;have e1:=e1 (w:=.au ydz 0 []) (by exact Kx (k:=2) (ps:=[]) ydz (fun p hp=>by cases hp));unfold ab at e1 e2 f1 f2;have iQ:=fun (hp:Hp) (ct id:Nat) (hg:ak hp id=Gr (.cells ydy ydy ydy 2 []))=>ff (ct:=ct) (by':=32) (new:=[]) (m:=0) (n:=0) hg rfl (by decide) (by decide) (by decide) rfl
    have mi:=dY.len;cases hn:Fs.length
    all_goals
     rw[hn] at e2 mi;have cL:=fun hp:Hp=>gD (hp:=hp) (sz:=1) (cs:=cs) ydz (by rw[mi,yh]) (by decide)
     simp only[me,oV,oH,oC,N3] at e2 ⊢;simp only[go_sem,ya,yb,xv,yG,lj,bM,gY,fz,aX,ye,yg,yL,eQ,P2,EE,Ev,zC,wg,zC,O8,Pc,TF,iQ,cL,aH,wu,wg,g3,e1,e2,fp,f1,f2,ea]
   .have pg:∀hp,pY hp 2 (.au e (ps.map fR).length (ps.map fR).flatten)=Gr (ps.length,(ps.map fR).flatten):=fun hp=>by
     have mM:(ps.map fR).flatten.length=(ps.map fR).length*2:=J8 (k:=2) (fun p hp=>by obtain⟨t,_,rfl⟩:=wA.1 hp;rfl)
     rw[TV];simp only[nP,mM,wK,yy,yU]
    have mM:(ps.map fR).flatten.length=ps.length*2:=by
     rw[J8 (k:=2) (fun p hp=>by obtain⟨t,_,rfl⟩:=wA.1 hp;rfl),yU]
    obtain⟨o1,o2⟩:=VM ps;have e1:=e1 (w:=.au ydz ps.length (ps.map fR).flatten) (by
     have:=Kx (k:=2) (ps:=ps.map fR) ydz (fun p hp=>by obtain⟨t,_,rfl⟩:=wA.1 hp;rfl)
     rw[yU] at this
     exact this)
    have iQ:=fun (hp:Hp) (ct id:Nat) (hg:ak hp id=Gr (.cells ydy ydy ydy 2 []))=>ff (ct:=ct) (by':=32) (new:=(ps.map fR).flatten) (m:=ps.length) (n:=0) hg rfl (by omega) (by omega) (by decide) o1
    have Ie:=fun hp:Hp=>gD (hp:=hp) (sz:=2) (cs:=(ps.map fR).flatten) ydz mM (by decide)
    unfold ab at e1 e2 f1 f2;have mi:=dY.len;generalize (ps.map fR).flatten=pcs at*
    cases hn:Fs.length
    all_goals
     rw[hn] at e2 mi;have cL:=fun hp:Hp=>gD (hp:=hp) (sz:=1) (cs:=cs) ydz (by rw[mi,yh]) (by decide)
     simp only[me,oV,oH,oC,N3] at e2 ⊢;simp only[go_sem,ya,yb,xv,lj,bM,gY,fz,aX,ye,yg,yL,eQ,P2,EE,Ev,zC,wg,zC,O8,Pc,pg,iQ,o2,cL,Ie,xt,wg,g3,e1,e2,fp,f1,f2,ea]
end
def auP{S:Nat}{a b:List Nat}(h:FQ S a b=0):bX a=0/\bX b=0:=by
 unfold FQ at h;by_cases c:bf [bX a,bX b]=0
 .exact Kw.1 c
 .rw [yp c] at h;exact absurd h c
section
variable {P:aF}{L:Lib}
def ayZ(h:rS P L){C R S:Nat}{v w:AV}{ps:List (List Nat×List Nat)}{lt:List Nat}(hv:mJ v ps)(hw:mJ w ps)(c2:AY ps=ydy)(kS:lt.length<=40)(hC:C<=8)(hR:R<=8)(hS:S<=8)(eM:0<S)(nG:0<C)(Aj:0<R)(hg:iP C R S=0):
  ∃pv rv e,ab P L 657 [.agg [aa C,aa R,aa S],v,.str lt] (.av [pv,aa e])/\ab P L 650 [pv,rv] (.bool ydy)/\ab P L 651 [pv] (.bool ydy)/\Bl pv/\Bl rv/\((bf [if ps.length=C*R then mb S ps else 2,mI lt]=e/\e≠0/\rv=.aj)\/(bf [if ps.length=C*R then mb S ps else 2,mI lt]=0/\ab P L 776 [.agg [aa C,aa R,aa S],w,.str lt] (.av [rv,aa e]))):=by
 obtain⟨pl,pe⟩:=VI c2;have JD:=yZ hC hR;by_cases hlen:ps.length=C*R
 .rw [yE hlen];by_cases fp:bf [mb S ps,mI lt]=0
  .obtain ⟨q1,q2⟩:=Kw.1 fp;have hp:AZ ps:=fun p hm=>by
    obtain⟨x,y⟩:=auP (OA q1 p hm);exact⟨x,y,pe p hm⟩
   obtain⟨k1,_⟩:=auz q2;obtain⟨pv,rv,e,e1,e2,e3,e4,e5,e6⟩:=auL h hv hw hlen hp k1 kS hC hR hS eM nG Aj hg q1 q2;exact⟨pv,rv,e,e1,e3,e4,e5,e6,.inr ⟨fp,e2⟩⟩
  .exact ⟨.aj,.aj,_,apG h.p hv hlen (fun p hm=>by have:=pe p hm;omega) (by omega) hC hR hS eM hg fp,(nM h).1,(nM h).2,oQ,oQ,.inl ⟨rfl,fp,rfl⟩⟩
 .rw [yp hlen];have hs:DC C R S ps.length=2:=by
   unfold DC;rw[hg,<-xx,wrap64 (by omega) (by omega),yp (by omega)];rfl
  have e1:=aem h.p (lt:=lt) (C:=C) (R:=R) (S:=S) hv (by rw[hs];decide)
  rw[hs] at e1;exact⟨.aj,.aj,2,e1,(nM h).1,(nM h).2,oQ,oQ,.inl ⟨by unfold bf;rw[yp (by decide)],by decide,rfl⟩⟩
def ay0(h:rS P L){C R S:Nat}{v w:AV}{Fs:List (List (List Nat))}(hv:aY (aY cT) v Fs)(hw:aY (aY cT) w Fs)(hb:∀F,F∈Fs->∀r,r∈F->∀b,b∈r->b<4294967296)(hs:Fs.all zc=ydy)(c4:qO Fs.length=ydy)(hC:C<=8)(hR:R<=8)(hS:S<=8)(eM:0<S)(nG:0<C)(Aj:0<R)(hg:iP C R S=0):
  ∃pv rv e,ab P L 668 [.agg [aa C,aa R,aa S],v] (.av [pv,aa e])/\ab P L 650 [pv,rv] (.bool ydy)/\ab P L 651 [pv] (.bool ydy)/\Bl pv/\Bl rv/\((B4 C R S Fs=e/\e≠0/\rv=.aj)\/(B4 C R S Fs=0/\ab P L 778 [.agg [aa C,aa R,aa S],w] (.av [rv,aa e]))):=by
 unfold qO at c4;rw[wM,xc,xc] at c4;have hk:∀F,F∈Fs->F.length<=1000000/\∀r,r∈F->r.length<=1000000:=fun F hF=>by
  obtain⟨k1,k2⟩:=Wk (yan.1 hs F hF)
  exact⟨by omega,fun r hr=>by have:=k2 r hr;omega⟩
 by_cases h0:Fs.length=0
 .have ha:pN C R S Fs=12:=by unfold pN;rw[hg,yE h0];rfl
  have e1:=Vd h.p.toAvg (C:=C) (R:=R) (S:=S) hv (by omega) (by rw[ha];decide)
  rw[ha] at e1;exact⟨.aj,.aj,12,e1,(nM h).1,(nM h).2,oQ,oQ,.inl ⟨by unfold B4;rw[yE h0],by decide,rfl⟩⟩
 .by_cases h5:256<Fs.length
  .have ha:pN C R S Fs=5:=by unfold pN;rw[hg,yp h0,yE h5];rfl
   have e1:=Vd h.p.toAvg (C:=C) (R:=R) (S:=S) hv (by omega) (by rw[ha];decide)
   rw[ha] at e1;exact⟨.aj,.aj,5,e1,(nM h).1,(nM h).2,oQ,oQ,.inl ⟨by unfold B4;rw[yp h0,yE h5],by decide,rfl⟩⟩
  .have ha:pN C R S Fs=0:=by unfold pN;rw[hg,yp h0,yp h5];rfl
   have hf:B4 C R S Fs=bf (Fs.map (j0 (R*S) (C*S))):=by unfold B4;rw[yp h0,yp h5]
   rw[hf];by_cases ht:bf (Fs.map (j0 (R*S) (C*S)))=0
   .have hF:zO Fs (R*S) (C*S):=fun F hm=>auw (OA ht F hm) (hb F hm)
    obtain⟨pv,rv,e,e1,e2,e3,e4,e5,e6⟩:=auM h hv hw hF (by omega) (by omega) hC hR hS (wV nG eM) (wV Aj eM) hg ht;exact⟨pv,rv,e,e1,e3,e4,e5,e6,.inr ⟨ht,e2⟩⟩
   .exact ⟨.aj,.aj,_,apF h.p.toAvg hv (by omega) hk hC hR hS ha ht,(nM h).1,(nM h).2,oQ,oQ,.inl ⟨rfl,ht,rfl⟩⟩
end
end VE
end
section
set_option maxHeartbeats 4000000
namespace VE
open Go (IntKind)
section
variable {P:aF}{L:Lib}
def auQ(h:rS P L){C R S:Nat}{v pl:AV}{ps:List (List Nat×List Nat)}{lt:List Nat}{Fs:List (List (List Nat))}(dR:se pl ps)(hv:aY (aY cT) v Fs)(zE:∀F,F∈Fs->∀r,r∈F->∀b,b∈r->b<4294967296)(c1:Gn C R S=ydy)(c2:AY ps=ydy)(c3:lt.length<=40)(c4:qO Fs.length=ydy)(hC:C<=8)(hR:R<=8)(hS:S<=8)(eM:0<S)(nG:0<C)(Aj:0<R)(hg:iP C R S=0):ab P L 758 [.agg [aa C,aa R,aa S],.agg [pl,.str lt],v] (.bool ydy):=by
 have ap:gC 2 pl (ps.map fR):=dR;obtain⟨aD7,aD8⟩:=VI c2;have lp:∀hp,gF hp 1 pl=Gr (.int .i64 (ps.length:Nat)):=fun hp=>by have:=ap.len (hp:=hp);rwa[yU] at this
 have ea:=h.QF;have g1:=YV (P:=P) h.Y8 C R S;have g2:=YT (P:=P) (L:=L) h.Y9 dR;have g3:=ahH (P:=P) (L:=L) h.MQ h.r.Xb h.r.toRfc.H9 C R S;have fz:=nA;have hb:=bxS ap.pu ap.one lt;have hl:Fs.length<=1000:=by
  unfold qO at c4;rw[wM,xc,xc] at c4;omega
 have key:=agb h (pl:=pl) (lt:=lt) (C:=C) (R:=R) (S:=S) hv hl;have g4:=aDZ h.r dR (by omega) (fun p hm=>by have:=aD8 p hm;omega) hC hR hS eM;have g5:=aDP h.r.toRn.toRp.toRm h.r.Sj (s:=lt) (by omega);have g6:=YM (P:=P) (L:=L) h.r.Xb (eP ydy [if ps.length=C*R then mb S ps else 2,mI lt]) (by simp);have aIe:∀(hp:Hp) (n:Nat) (a b:Int),freeze (n+20) hp (.au ydy 2 [aa a,aa b])=Gr (.au ydy 2 [aa a,aa b],hp):=fun hp n a b=>(eP ydy [a,b]).ah (n+19)
 have spa:=fun {x:AV} (hx:mJ x ps)=>ayZ h hx dR c2 c3 hC hR hS eM nG Aj hg
 have ava:=fun {x:AV} (hx:aY (aY cT) x Fs) (q:Fs.all zc=ydy)=>ay0 h hx hv zE q c4 hC hR hS eM nG Aj hg
 rw[hg] at g3;rw[c1] at g1;rw[c2] at g2;simp only[yB,yM,ye,yb,yV,wJ] at g6;generalize (if ps.length=C*R then mb S ps else 2)=q1 at*
 generalize mI lt=q2 at*
 have c4':=c4;unfold qO at c4;rw[wM,xc,xc] at c4;unfold ab at ea g1 g2 g3 g4 g5 g6;unfold ab;rw[aD h.me];rcases c4 with c4 | c4
 simp only[go_sem,ya,yb,AM,gB,hb,lj,aX,ye,yg,yL,gY,fz,ap.ah,g1,g2,yO,EC,show ¬(lt.length:Int)>40 by omega,hv.len,show ¬(Fs.length:Int)>4 by omega,yu]
 rotate_left
 simp only[go_sem,ya,yb,AM,gB,hb,lj,aX,ye,yg,yL,gY,fz,ap.ah,g1,g2,yO,EC,show ¬(lt.length:Int)>40 by omega,hv.len,show (Fs.length:Int)>4 by omega,yN (show (Fs.length:Int)=257 by omega),yv,yu,yO]
 all_goals
  generalize hQ:D P L (.loop _ C0) _=Q;obtain⟨ex,st,rfl,tm,hp,ct,rfl,hh⟩:=bg hQ (key Fs.length) ⟨0,[],by omega,trivial,rfl,by simp only[go_sem,ya,yb,aq,FR,me,oV,oH,oC,lj,bM,aC hv.pu]<;>rfl⟩
  rcases hh with ⟨rfl,_,t6⟩ | ⟨rfl,jy,cs,rfl,dY,cY⟩
  .simp only [go_sem,t6]
  .have bN:=agc hv.pu (ct:=ct) (C:=C) (R:=R) (S:=S) (pl:=pl) (lt:=lt) (cs:=cs) cY;simp only[go_sem,ya,bN];obtain⟨pw,cf,ea',b1,b2,b3,b4,b5,b6⟩:=ava (agd dY) jy;have g7:=aDV h.r.toRvg hv (by omega) (fun F hF=>by
    obtain⟨k1,k2⟩:=Wk (yan.1 jy F hF)
    exact⟨by omega,fun r hr=>by have:=k2 r hr;omega⟩) hC hR hS
   unfold ab at g7;generalize B4 C R S Fs=q3 at*
   rcases ap.1 with ⟨rfl,hz⟩ | ⟨e,rfl⟩
   .have cK:ps=[]:=by simpa using hz
    subst cK;obtain⟨pu,ru,eu,d1,d2,d3,d4,d5,d6⟩:=spa (x:=.au ydz 0 []) (by exact Kx (k:=2) (ps:=[]) ydz (fun p hp=>by cases hp));unfold ab at b1 b2 b3 d1 d2 d3;have iQ:=fun (hp:Hp) (ct id:Nat) (hg:ak hp id=Gr (.cells ydy ydy ydy 2 []))=>ff (ct:=ct) (by':=32) (new:=[]) (m:=0) (n:=0) hg rfl (by decide) (by decide) (by decide) rfl
    have mi:=dY.len;rcases d6 with ⟨d6,d7,rfl⟩ | ⟨d6,d7⟩<;>rcases b6 with ⟨b6,b7,rfl⟩ | ⟨b6,b7⟩<;>cases hn:Fs.length
    all_goals
     rw[hn] at b1 mi;have cL:=fun hp:Hp=>gD (hp:=hp) (sz:=1) (cs:=cs) ydz (by rw[mi,yh]) (by decide)
     simp only[me,oV,oH,oC,N3] at b1 ⊢
     try unfold ab at d7
     try unfold ab at b7
     rw[d6] at g6;rw[b6] at g7;simp only[go_sem,ya,yb,xv,yG,yq,yh,lj,bM,gY,fz,aX,ye,yg,yL,eQ,P2,EE,Ev,zC,wg,zC,O8,Pc,TF,iQ,cL,aH,wu,wg,g3,g4,g5,g6,g7,ap.ah,hv.ah,b1,b2,b3,b4.ah,b5.ah,b4.bH,b5.bH,b7,d1,d2,d3,d4.ah,d4.bH,d5.ah,d5.bH,d7,ea]
   .have pg:∀hp,pY hp 2 (.au e (ps.map fR).length (ps.map fR).flatten)=Gr (ps.length,(ps.map fR).flatten):=fun hp=>by
     have mM:(ps.map fR).flatten.length=(ps.map fR).length*2:=J8 (k:=2) (fun p hp=>by obtain⟨t,_,rfl⟩:=wA.1 hp;rfl)
     rw[TV];simp only[nP,mM,wK,yy,yU]
    have mM:(ps.map fR).flatten.length=ps.length*2:=by
     rw[J8 (k:=2) (fun p hp=>by obtain⟨t,_,rfl⟩:=wA.1 hp;rfl),yU]
    obtain⟨o1,o2⟩:=VM ps;obtain⟨pu,ru,eu,d1,d2,d3,d4,d5,d6⟩:=spa (x:=.au ydz ps.length (ps.map fR).flatten) (by
     have:=Kx (k:=2) (ps:=ps.map fR) ydz (fun p hp=>by obtain⟨t,_,rfl⟩:=wA.1 hp;rfl)
     rw[yU] at this
     exact this)
    have iQ:=fun (hp:Hp) (ct id:Nat) (hg:ak hp id=Gr (.cells ydy ydy ydy 2 []))=>ff (ct:=ct) (by':=32) (new:=(ps.map fR).flatten) (m:=ps.length) (n:=0) hg rfl (by omega) (by omega) (by decide) o1
    have Ie:=fun hp:Hp=>gD (hp:=hp) (sz:=2) (cs:=(ps.map fR).flatten) ydz mM (by decide)
    unfold ab at b1 b2 b3 d1 d2 d3;have mi:=dY.len;generalize (ps.map fR).flatten=pcs at*
    rcases d6 with ⟨d6,d7,rfl⟩ | ⟨d6,d7⟩<;>rcases b6 with ⟨b6,b7,rfl⟩ | ⟨b6,b7⟩<;>cases hn:Fs.length
    all_goals
     rw[hn] at b1 mi;have cL:=fun hp:Hp=>gD (hp:=hp) (sz:=1) (cs:=cs) ydz (by rw[mi,yh]) (by decide)
     simp only[me,oV,oH,oC,N3] at b1 ⊢
     try unfold ab at d7
     try unfold ab at b7
     rw[d6] at g6;rw[b6] at g7;simp only[go_sem,ya,yb,xv,yG,yq,yh,lj,bM,gY,fz,aX,ye,yg,yL,eQ,P2,EE,Ev,zC,wg,zC,O8,Pc,pg,iQ,o2,cL,Ie,xt,wg,g3,g4,g5,g6,g7,ap.ah,hv.ah,b1,b2,b3,b4.ah,b5.ah,b4.bH,b5.bH,b7,d1,d2,d3,d4.ah,d4.bH,d5.ah,d5.bH,d7,ea]
end
section
variable {P:aF}{L:Lib}
def apH(h:rS P L){C R S:Int}{v pl:AV}{ps:List (List Nat×List Nat)}{lt:List Nat}{Fs:List (List (List Nat))}(dR:se pl ps)(hv:aY (aY cT) v Fs)(zE:∀F,F∈Fs->∀r,r∈F->∀b,b∈r->b<4294967296):ab P L 758 [.agg [aa C,aa R,aa S],.agg [pl,.str lt],v] (.bool ydy):=by
 by_cases hg:Gn C R S=ydy/\AY ps=ydy/\lt.length<=40/\qO Fs.length=ydy
 .obtain ⟨c1,c2,c3,c4⟩:=hg;have hl:Fs.length<=1000:=by
   unfold qO at c4;rw[wM,xc,xc] at c4;omega
  by_cases fp:iP C R S=0
  .obtain ⟨hC,hR,hS,k1,k8,r1,r8,s2,s8⟩:=aDF fp;generalize C.toNat=c at*
   generalize R.toNat=r at*
   generalize S.toNat=t at*
   subst hC hR hS;exact auQ h dR hv zE c1 c2 c3 c4 k8 r8 s8 (by omega) (by omega) (by omega) fp
  .exact auO h dR hv c1 c2 c3 c4 hl (by have:=(VI c2).1;omega) fp
 .exact auN h dR hv hg
end
abbrev aD9:Ty:=.cat (.sl QE) (.cat .str .nil)
abbrev Ls:List Ty:=[ajw,aD9,.sl (.sl Ia)]
def ac6:∀{ps:List (List AV)},(∀p,p∈ps->kI (.sl Ia) p)->∃M:List (List (List Nat)),M.length=ps.length/\c7 (aY cT) ps.flatten M/\∀F,F∈M->∀r,r∈F->∀b,b∈r->b<4294967296
 | [],_=>⟨[],rfl,trivial,fun _ h=>by cases h⟩
 | p::ps,h=>by
  obtain⟨v,m,rfl,hv,hm⟩:=auD (h p xO);obtain⟨M,h1,h2,h3⟩:=ac6 (ps:=ps) (fun q hq=>h q (xy _ hq))
  exact⟨m::M,by simp[h1],⟨hv,h2⟩,fun q hq=>by
   rcases xP.1 hq with rfl | hq
   .exact hm
   .exact h3 q hq⟩
def ar0{l:List AV}(h:kI (.sl (.sl Ia)) l):∃(v:AV) (M:List (List (List Nat))),l=[v]/\aY (aY cT) v M/\∀F,F∈M->∀r,r∈F->∀b,b∈r->b<4294967296:=by
 rcases h with rfl | ⟨x,ps,rfl,h⟩
 .exact ⟨_,[],rfl,Es,fun _ h=>by cases h⟩
 .obtain ⟨M,h1,h2,h3⟩:=ac6 h;refine⟨_,M,rfl,?_,h3⟩;rw[<-h1];exact rJ x h2
def anV{P:aF}{L:Lib}(h:rS P L){ls:List (List AV)}(hs:c7 kI Ls ls):ab P L 758 (LO Ls ls) (.bool ydy):=by
 obtain⟨_,_,_,rfl,h1,h2,h3⟩:=ayn hs;obtain⟨c,r,t,rfl⟩:=arV h1;obtain⟨_,_,rfl,h4,_,_,rfl,⟨s,rfl,_⟩,rfl⟩:=h2;obtain⟨w,ps,rfl,hw,_⟩:=apD h4;obtain⟨v,M,rfl,hv,hb⟩:=ar0 h3;exact apH h hw hv hb
end VE
end
section
namespace VE
namespace J2
open Go Go.Proofs
def T:List (Tr bt):=[.n 637 [.o 7 [] (.bool ydy)] .l .l]
def L0:VE.Lib:=Ll (Ll (Ll VE.aJ 99 PE) 753 AU) 427 AU
def L1:VE.Lib:=QP L0 T 1000
def nu:Nu VE.prog VE.aJ:=by
 repeat' (first | rfl | constructor)
def lw:rS VE.prog L1:=by
 repeat' (first | rfl | constructor)
section
variable {W:World}{m:Int}(hm:W.cell? ⟨4,0,none⟩=Gr (.int .i64 m))(ht:Go.Lib.TabIs Tryz.prog W "internal/strconv.uint64pow10" .u64 Go.Lib.pow10Tab)
include hm ht
theorem linked:iZ ((J1.O W).rN L1):=by
 have hO:=J1.asL hm ht;have hs:=apm hO nu rfl rfl rfl ⟨rfl,rfl,rfl⟩ (fn:=Tryz.f185) (c:=Dy) Tryz.func185 rfl rfl trivial aru;have hT:iN (J1.O W) T:=iN.cons (Tr.lA (nj.one (mq.holds hO rfl rfl)) Tr.jX Tr.jX) iN.nil;have h1:=Uy hO hs;have h2:=Uy h1 (afc (O:=(J1.O W).rN _) (n:=753) (fun _ _=>GG Tryz.func130 rfl (by decide)) Tryz.aDg);have h3:=Uy h2 (afc (O:=((J1.O W).rN _).rN _) (n:=427) (fun _ _=>GG Tryz.func142 rfl (by decide)) Tryz.aDf);exact aeJ h3 hT 1000
theorem law{ls:List (List AV)}(hs:c7 kI Ls ls):eJ (J1.O W) 758 (LO Ls ls) (.bool ydy):=by
 obtain⟨k,hk⟩:=aft (anV lw hs);exact sound (linked hm ht) hk
end
end J2
end VE
end
