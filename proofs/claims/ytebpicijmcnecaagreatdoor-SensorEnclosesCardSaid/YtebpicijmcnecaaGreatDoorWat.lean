import Derived.Test.YtebpicijmcnecaaGreatDoorWas
import Derived.Test.YtebpicijmcnecaaGreatDoorWar
set_option linter.all false
set_option maxRecDepth 100000
open Bool renaming and_eq_true->ye,and_self->wG,and_true->uf,false_eq_true->yD,false_or->vL,not_false->xj,or_false->ycr,true_or->uI
open Go renaming FloatKind->wm
open Go.FloatKind renaming f32->wI
open Ieee renaming single->yaG
open Int renaming mul_le_mul_of_nonneg_left->vP,natCast_add->tr,natCast_mul->xZ,ofNat_tmod->yac,toNat_natCast->wi,toNat_of_nonneg->vK
open List renaming any_cons->yck,any_eq_false->tk,any_eq_true->yaz,any_nil->ycL,append_nil->wL,cons_append->yB,drop_eq_getElem_cons->yW,drop_eq_nil_of_le->xh,drop_succ_cons->yX,drop_zero->yg,filter_eq_nil_iff->yai,flatten_cons->uH,getD_eq_getElem?_getD->yS,getElem?_eq_getElem->xb,getElem_append_left->tu,getElem_append_right->tc,getElem_cons_succ->vn,getElem_cons_zero->wq,getElem_map->vV,getElem_mem->xI,getElem_range->ug,length->uA,length_append->yJ,length_cons->yv,length_eq_zero_iff->vd,length_map->xi,length_nil->yI,length_range->tn,length_take->yR,map_append->xG,map_cons->xe,map_map->ybL,map_nil->ve,mem_append->wD,mem_cons->wB,mem_cons_of_mem->wJ,mem_cons_self->vj,mem_iff_getElem->vR,mem_map->vM,mem_range->yat,mem_singleton->wR,nil_append->yL,nodup_cons->uO,not_mem_nil->yaA,range->xo,range'->wh,range_succ->wV,replicate->yE,replicate_succ->wP,take_length->xQ,take_of_length_le->yK,take_succ_cons->wF,take_succ_eq_append_getElem->xv,take_zero->ybm,zipWith->tC
open Nat renaming add_mul->xY,add_zero->yZ,beq->yo,blt->yM,div_lt_of_lt_mul->ybz,le_refl->yx,le_zero->yda,min_eq_left->xF,mod_lt->xD,mul_comm->xA,mul_le_mul->xC,mul_le_mul_right->yT,mul_one->yj,not_lt_zero->yaq,one_mul->yaU,pos_of_ne_zero->yam,reduceAdd->yb,reduceEqDiff->ya,reduceLT->yq,reduceLeDiff->yi,reduceMul->xk,zero_add->yd,zero_mul->vt
open Option renaming getD_some->xW
open Option.some renaming injEq->yc
open Rat renaming div_mul_cancel->ta,intCast_add->tP,intCast_mul->tT,intCast_zero->yca,le_antisymm->yaP,le_of_lt->tK,le_of_mul_le_mul_right->yaV,le_refl->uj,le_trans->vY,lt_of_le_of_ne->ybI,mul_assoc->ux,mul_le_mul_of_nonneg_right->yaH,mul_nonneg->yad,ne_of_gt->tL,not_le->ybD,not_lt->vv
open Option renaming some->F5
open Bool renaming true->ydo,false->ydp
namespace VE
open Go (IntKind)
variable {P:aF}{L:Lib}
def SJ{B:Nat}{H:Hp}:∀{J:Hp},(∀p,p∈J->B<=p.1)->dO B (J++H)=dO B H
 | [],_=>rfl
 | (id,o)::r,h=>by
  have:=h (id,o) (by simp)
  rw[yB,dO,sU (by simpa using this),yO,SJ fun p hp=>h p (by simp[hp])]
def abg{B:Nat}{f:Nat->Option Nat}{H:Hp}:∀{J:Hp},(∀p,p∈J->B<=p.1)->gj B f (J++H)=gj B f H
 | [],_=>rfl
 | (id,o)::r,h=>by
  have:=h (id,o) (by simp)
  rw[yB,gj,sU (by simpa using this),yO,abg fun p hp=>h p (by simp[hp])]
def akq{live:List Nat}{tm:Env}{B ct:Nat}{J old:Hp}{rs:List (List AV)}(hJ:∀p,p∈J->B+rs.length<=p.1)(ht:lH B (cd tm live))(ho:CI B (B+rs.length) old)(hl:(fj (cd tm live)).length+(dO B old).length<100000)(hr:(dO B old).filter (fun x=> !yM x B)=wh B rs.length):bE live ⟨tm,J++(gI B rs++old),ct,B⟩=⟨cd tm live,gI B rs++old,B+rs.length,B⟩:=by
 have YW:∀p,p∈J->B<=p.1:=fun p hp=>by have:=hJ p hp;omega
 have qt:∀i (h:i<rs.length),ak (J++(gI B rs++old)) (B+i)=F5 (.cells ydo ydo ydo 1 (rs.reverse[i]'(by simpa using h))):=fun i h=>by
  rw[abe (b:=B+rs.length) (by omega) hJ];exact Tq h
 have Pj:reach (J++(gI B rs++old)) B 100000 (fj (cd tm live)++dO B (J++(gI B rs++old))) []=wh B rs.length:=by
  have:=NM (hp:=J++(gI B rs++old)) (B:=B) (R:=rs.length) (fun i hi=>⟨_,_,_,_,qt i hi⟩) (fj (cd tm live)++dO B (J++(gI B rs++old))) 100000 0 (by rw[SJ YW,Jm,yJ];exact hl) (Nat.zero_le _) (by
   rw[List.filter_append,SJ YW,Jm,hr,yai.2 (fun x hx=>by
    have:=Nw ht x hx
    simp[oM this])]
   simp)
  simpa using this
 have hid:∀x,x<B+rs.length->ij B (wh B rs.length) x=F5 x:=fun x hx=>ZB hx
 have hn:=SZ (hp:=J++(gI B rs++old)) (f:=ij B (wh B rs.length)) rs.reverse B old (fun i hi=>qt i (by simpa using hi));rw[List.length_reverse] at hn;simp only[bE,Pj,abg YW,SY,SG hid ho,hn,Tp,List.length_range']
 rw[NL (n:=B) (fun x hx=>hid x (by omega)) ht]
def cV(B:Nat)(s:List Nat):Nat->Option Nat:=ij B s
def rh(B:Nat)(hp:Hp):Nat->List Nat->List Nat->List Nat:=reach hp B
def YX(B:Nat)(hp:Hp)(s:List Nat):Hp×Nat:=(eY hp (cV B s) s B (gj B (cV B s) hp),B+s.length)
def CA(B l:Nat)(hp:Hp):mB B l hp=YX B hp (rh B hp 100000 (l::dO B hp) []):=rfl
def awc(B:Nat)(hp:Hp)(s:List Nat):YX B hp s=(eY hp (cV B s) s B (gj B (cV B s) hp),B+s.length):=rfl
def acs(B:Nat):dO B []=[]:=rfl
def EK{B id:Nat}(o:Obj)(r:Hp)(h:id<B):dO B ((id,o)::r)=jR o++dO B r:=by rw[dO,oM h,yu]
def awd{B id:Nat}(o:Obj)(r:Hp)(h:B<=id):dO B ((id,o)::r)=dO B r:=by rw[dO,sU h,yO]
def QS(B:Nat)(hp:Hp)(n id:Nat)(cT seen:List Nat)(q:Option Obj):List Nat:=match q with | some o=>rh B hp n (jR o++cT) (seen++[id]) | none=>rh B hp n cT seen
def QT(B:Nat)(hp:Hp)(n id:Nat)(cT seen:List Nat)(b:Bool):List Nat:=bif b then rh B hp n cT seen else QS B hp n id cT seen (ak hp id)
def aso(B:Nat)(hp:Hp)(n:Nat)(seen:List Nat):rh B hp (n+1) [] seen=seen:=rfl
def ayq{B id:Nat}(hp:Hp)(n:Nat)(cT seen:List Nat)(h:id<B):rh B hp (n+1) (id::cT) seen=rh B hp n cT seen:=by
 simp only[rh,reach,oM h,uI,yu]
def ayr{B id:Nat}(hp:Hp)(n:Nat)(cT seen:List Nat)(h:B<=id):rh B hp (n+1) (id::cT) seen=QT B hp n id cT seen (jy id seen):=by
 simp only[rh,reach,sU h,vL,QT,QS]
 cases jy id seen with
 | true=>rfl
 | false=>simp only[yO];cases ak hp id<;>rfl
def awe(B:Nat)(hp:Hp)(n id:Nat)(cT seen:List Nat):QT B hp n id cT seen ydo=rh B hp n cT seen:=rfl
def awf(B:Nat)(hp:Hp)(n id:Nat)(cT seen:List Nat):QT B hp n id cT seen ydp=QS B hp n id cT seen (ak hp id):=rfl
def awg(B:Nat)(hp:Hp)(n id:Nat)(cT seen:List Nat)(o:Obj):QS B hp n id cT seen (F5 o)=rh B hp n (jR o++cT) (seen++[id]):=rfl
def ays{B id:Nat}(s:List Nat)(h:id<B):cV B s id=F5 id:=by simp only[cV,ij,oM h,yu]
def ayt{B id:Nat}(s:List Nat)(h:B<=id):cV B s id=iw id s B:=by simp only[cV,ij,sU h,yO]
def apM(B:Nat)(f:Nat->Option Nat):gj B f []=[]:=rfl
def awh{B id:Nat}(f:Nat->Option Nat)(o:Obj)(r:Hp)(h:id<B):gj B f ((id,o)::r)=(id,jh f o)::gj B f r:=by rw[gj,oM h,yu]
def awi{B id:Nat}(f:Nat->Option Nat)(o:Obj)(r:Hp)(h:B<=id):gj B f ((id,o)::r)=gj B f r:=by rw[gj,sU h,yO]
section
variable (B:Nat)(s:List Nat)
def asp:gn (cV B s) []=[]:=rfl
def apN(i:Nat)(v:AV)(r:Env):gn (cV B s) ((i,v)::r)=(i,br (cV B s) v)::gn (cV B s) r:=rfl
def awj(k:IntKind)(n:Int):br (cV B s) (.int k n)=.int k n:=rfl
def asq(b:Bool):br (cV B s) (.bool b)=.bool b:=rfl
def awk(t:List Nat):br (cV B s) (.str t)=.str t:=rfl
def awl(k:wm)(b:Nat):br (cV B s) (.ao k b)=.ao k b:=rfl
def awm(k:wm)(a b:Nat):br (cV B s) (.df k a b)=.df k a b:=rfl
def ass:br (cV B s) .af=.af:=rfl
def ast:br (cV B s) .ir=.ir:=rfl
def asu:br (cV B s) .jw=.jw:=rfl
def asv:br (cV B s) .kL=.kL:=rfl
def awn(e:Bool)(n:Nat)(cs:List AV):br (cV B s) (.ap e n cs)=.ap e n cs:=rfl
def asw(cs:List AV):br (cV B s) (.bt cs)=.bt cs:=rfl
def asx(a b:List AV):br (cV B s) (.jx a b)=.jx a b:=rfl
def apO:br (cV B s) .undef=.undef:=rfl
def awo(id o:Nat):br (cV B s) (.ptr id o)=Py o (cV B s id):=by cases h:cV B s id<;>simp[br,Py,h]
def awp(id o n:Nat):br (cV B s) (.ay id o n)=Pz o n (cV B s id):=by cases h:cV B s id<;>simp[br,Pz,h]
def ayu(g:Nat)(a b:List AV):br (cV B s) (.fn (.f g) a b)=.fn (.f g) (dP (cV B s) a) (dP (cV B s) b):=rfl
def awq(cs:List AV):br (cV B s) (.agg cs)=.agg (dP (cV B s) cs):=rfl
def awr(cs:List AV):br (cV B s) (.aw cs)=.aw (dP (cV B s) cs):=rfl
def asy:dP (cV B s) []=[]:=rfl
def apP(v:AV)(r:List AV):dP (cV B s) (v::r)=br (cV B s) v::dP (cV B s) r:=rfl
def Xa(hp:Hp)(r:List Nat)(k:Nat)(acc:Hp)(q:Option Obj):Hp:=match q with | some o=>eY hp (cV B s) r (k+1) ((k,jh (cV B s) o)::acc) | none=>eY hp (cV B s) r (k+1) acc
def asz(hp:Hp)(k:Nat)(acc:Hp):eY hp (cV B s) [] k acc=acc:=rfl
def apQ(hp:Hp)(id:Nat)(r:List Nat)(k:Nat)(acc:Hp):eY hp (cV B s) (id::r) k acc=Xa B s hp r k acc (ak hp id):=by
 simp only[eY,Xa];cases ak hp id<;>rfl
def aws(hp:Hp)(r:List Nat)(k:Nat)(acc:Hp)(o:Obj):Xa B s hp r k acc (F5 o)=eY hp (cV B s) r (k+1) ((k,jh (cV B s) o)::acc):=rfl
end
def anB:refs .ir=[]:=rfl
def anC:refs .jw=[]:=rfl
def anD:refs .kL=[]:=rfl
def anE(a b:List AV):refs (.jx a b)=[]:=rfl
def apR(cs:List AV):refs (.aw cs)=gG cs:=rfl
def apS(k:wm)(a b:Nat):refs (.df k a b)=[]:=rfl
def asA(k:wm)(b:Nat):refs (.ao k b)=[]:=rfl
attribute [go_sem] awc acs EK awd aso ayq ayr awe awf awg ays ayt apM awh awi asp apN awj asq awk awl awm ass ast asu asv awn asw asx apO awo awp ayu awq awr asy apP asz apQ aws anB anC anD anE apR apS asA
def acu{B l:Nat}{J old:Hp}(hJ:∀p,p∈J->B<=p.1)(ho:CI B B old)(hl:l<B)(hn:(dO B old).length<=90000):mB B l (J++old)=(old,B):=by
 have h:=akq (live:=[0]) (tm:=[(0,.fn (.y l) [] [])]) (ct:=0) (rs:=[]) (by simpa using hJ) (show lH B [(0,AV.fn (.y l) [] [])] from⟨⟨hl,rfl,rfl⟩,trivial⟩) (by simpa using ho) (show [l].length+_<100000 by simp only[yv,yI];omega) (by
  rw[yai.2 (fun x hx=>by have:=S3 (yx B) ho x hx;simp[oM this])]
  rfl)
 have h2:=abf (lv:=[0]) (tm:=[(0,.fn (.y l) [] [])]) (hp:=J++old) (ct:=0) (B:=B) (l:=l) rfl rfl hl;simp only[gI,yL,yI,yZ] at h;rw[h] at h2;injection h2 with _ h3 h4
 exact Prod.ext h3.symm h4.symm
def lA(k:Nat)(v:AV)(ps:List (List AV)):Prop:=((v=.af/\ps=[])\/∃e,v=.ap e ps.length ps.flatten)/\∀p,p∈ps->p.length=k
section
variable {k:Nat}{v:AV}{ps:List (List AV)}{hp:Hp}
def lA.len(h:lA k v ps){hp:Hp}:iM hp 1 v=F5 (.int .i64 (ps.length:Nat)):=by
 rcases h.1 with ⟨rfl,rfl⟩ | ⟨e,rfl⟩<;>rfl
def lA.pu(h:lA k v ps):aV v=ydo:=by
 rcases h.1 with ⟨rfl,rfl⟩ | ⟨e,rfl⟩<;>rfl
def lA.ai(h:lA k v ps)(n:Nat){hp:Hp}:freeze (n+1) hp v=F5 (v,hp):=by
 rcases h.1 with ⟨rfl,rfl⟩ | ⟨e,rfl⟩<;>rfl
def lA.bJ(h:lA k v ps):bJ v=v:=by
 rcases h.1 with ⟨rfl,rfl⟩ | ⟨e,rfl⟩<;>rfl
def N1:∀{ps:List (List AV)},(∀p,p∈ps->p.length=k)->ps.flatten.length=ps.length*k
 | [],_=>by simp
 | p::ps,h=>by
  have:=N1 (ps:=ps) (fun q hq=>h q (wJ _ hq))
  grind
def Tw:∀{ps:List (List AV)} {i:Nat},(∀p,p∈ps->p.length=k)->∀(hi:i<ps.length),∃rest,ps.flatten.drop (i*k)=ps[i]++rest
 | [],i,_,hi=>absurd hi (yaq i)
 | p::ps,0,h,_=>⟨ps.flatten,by simp⟩
 | p::ps,i+1,h,hi=>by
  have⟨rest,e⟩:=Tw (ps:=ps) (i:=i) (fun q hq=>h q (wJ _ hq)) (by simpa using hi);refine⟨rest,?_⟩;rw[show (i+1)*k=p.length+i*k by rw[h p vj,xY];lia,uH,<-List.drop_drop,List.drop_left,e]
  rfl
def lA.bj(h:lA k v ps){i:Nat}(hi:i<ps.length):∃rest,ik k i v=F5 (.bt (ps[i]++rest)):=by
 obtain⟨rest,e⟩:=Tw h.2 hi;refine⟨rest,?_⟩;rcases h.1 with ⟨rfl,rfl⟩ | ⟨b,rfl⟩
 .grind
 .rw [OD b _ hi,e]
def Ua:lA k .af []:=⟨.inl ⟨rfl,rfl⟩,fun _ h=>by cases h⟩
def asB(e:Bool)(h:∀p,p∈ps->p.length=k):lA k (.ap e ps.length ps.flatten) ps:=⟨.inr ⟨e,rfl⟩,h⟩
end
abbrev ri:=List Nat×List Nat
def I9(p:ri):List AV:=[.str p.1,.str p.2]
def my(v:AV)(l:List ri):Prop:=lA 2 v (l.map I9)
structure Lay where
 w:AV
 s:List (List Int)
 hh:List Nat
 sc:List Nat
 st:List Nat
 ox:List Nat
 oy:List Nat
 wx:List Nat
 wy:List Nat
def Lay.cs(a:Lay):List AV:=[a.w,.str a.hh,.str a.sc,.str a.st,.str a.ox,.str a.oy,.str a.wx,.str a.wy]
def Lay.T(a:Lay):AV:=lyT a.w a.hh a.sc a.st a.ox a.oy a.wx a.wy
noncomputable def Lay.E(a:Lay):Int:=aAO a.s a.hh a.sc a.st a.ox a.oy a.wx a.wy
section
variable {v:AV}{hp:Hp}
def my.len{l:List ri}(h:my v l){hp:Hp}:iM hp 1 v=F5 (.int .i64 (l.length:Nat)):=by
 have:=lA.len (hp:=hp) h;rwa[xi] at this
def my.pu{l:List ri}(h:my v l):aV v=ydo:=lA.pu h
def my.ai{l:List ri}(h:my v l)(n:Nat){hp:Hp}:freeze (n+1) hp v=F5 (v,hp):=lA.ai h n
def my.bJ{l:List ri}(h:my v l):VE.bJ v=v:=lA.bJ h
def my.bj{l:List ri}(h:my v l){i:Nat}(hi:i<l.length):∃rest,ik 2 i v=F5 (.bt (.str l[i].1:: .str l[i].2::rest)):=by
 have⟨rest,e⟩:=lA.bj h (i:=i) (by simpa using hi);refine⟨rest,?_⟩;rw[e,vV];rfl
end
section
variable {v:AV}{l:List Rat}
def take_set{α:Type}{l:List α}{i:Nat}{a:α}(h:i<l.length):(l.set i a).take (i+1)=l.take i++[a]:=by
 rw[xv (by simpa using h),List.getElem_set_self,List.take_set_of_le (yx i)]
def stS{hp:Hp}{ct id o:Nat}{v:List Nat}{ex:Bool}{l:List (List Nat)}(h:o<l.length):gO hp ct id o 1 [.str v] (F5 (.cells ydo ydo ex 1 (l.map .str)))=F5 (.aw [],aU hp id (.cells ydo ydo ex 1 ((l.set o v).map .str)),ct):=by
 rw[Am (by rfl) (by simp;lia) (by rfl)]
 have:over o [.str v] (l.map .str)=(l.set o v).map .str:=by
  simp only[over,yv,yI,yd];rw[List.map_set,List.set_eq_take_append_cons_drop,yz (by simpa using h)]
  simp
 rw[this];rfl
def aAS(ct:Nat){n:Nat}(h:n<=10000000000):BI ct 1 16 [.str []] (F5 n) (F5 n)=F5 (.ay ct 0 n,.cells ydo ydo ydo 1 ((yE n []).map .str)):=by
 rw[KH (sz:=1) (by lia) (by lia) (by rfl) (by rfl)]
 have:∀n,(yE n [AV.str []]).flatten=(yE n []).map .str:=fun n=>by
  induction n with
  | zero=>rfl
  | succ n ih=>rw[wP,uH,ih,wP,xe];rfl
 rw[this];rfl
def asC(l:List (List Nat)):nn (.ap ydo l.length (l.map .str)) l:=adr ydo l
def aAT(h:Has P L 160 Hg)(hv:jD v l)(hl:l.length<=1000000){g:Nat}{p:Rat->Bool}(hg:∀w x,x∈l->bH w x->ah P L g [w] (.bool (p x))):∃n:Int,ah P L 160 [v,.fn (.f g) [] []] (aa n)/\decide (0<=n)=l.any p:=by
 have key:=jO P L [0,1,7,8] GC
  (fun k s=>∃i:Nat,i+k=l.length/\(l.drop i).any p=l.any p/\s=⟨[(0,v),(1,.fn (.f g) [] []),(7,aa l.length),(8,aa i)],[],0,0⟩)
  (fun ex s=>∃tm hp ct,s=⟨tm,hp,ct,0⟩/\((∃n:Int,ex=.ret/\aj tm 4=aa n/\0<=n/\l.any p=ydo)\/(ex=.exit 0/\l.any p=ydp))) ?_
 .unfold ah;rw[aG h];simp only[go_sem,ya,Hg,hv.len];generalize hq:D P L (.loop _ GC) _=q;obtain⟨ex,s,rfl,tm,hp,ct,rfl,h2⟩:=bQ hq (key l.length) ⟨0,by lia,rfl,by simp only[go_sem,ya,az,av hv.pu]<;>rfl⟩
  rcases h2 with ⟨n,rfl,h2,h3,h4⟩ | ⟨rfl,h2⟩
  .exact ⟨n,by simp only[go_sem,h2]<;>rfl,by rw[h4];simpa using h3⟩
  .exact ⟨-1,by simp only[go_sem,az]<;>rfl,by rw[h2];decide⟩
 .rintro k s ⟨i,hk,hf,rfl⟩;by_cases hi:i<l.length
  .have c9:(i:Int)<l.length:=by lia
   have⟨a,b,c,d,r,e1,hx⟩:=hv.bj hi;have e2:=hg _ _ (xI hi) hx;have gx:=hx.f4;rw[ab1 hi] at hf
   cases dw:p l[i] with
   | false=>
    left
    rw[dw] at e2;simp only[go_sem,ya,GC,c9,e1,HA,eS,gx.ai,e2];rw[dw,vL] at hf;refine⟨_,k-1,rfl,by lia,i+1,by lia,hf,?_⟩;rw[wrap64 (by lia) (by lia)];simp only[go_sem,ya,az,av hv.pu]<;>rfl
   | true=>
    right
    rw[dw] at e2;simp only[go_sem,ya,GC,c9,e1,HA,eS,gx.ai,e2];refine⟨_,_,rfl,by simp,_,_,_,rfl,.inl ⟨i,rfl,?_,by lia,?_⟩⟩
    .simp only [go_sem]
    .rw [<-hf,dw,uI]
  .right
   simp only[go_sem,ya,GC,show ¬(i:Int)<l.length by lia];refine⟨_,_,rfl,by simp,_,_,_,rfl,.inr ⟨rfl,?_⟩⟩;rw[<-hf,xh (by lia)];rfl
def aAU(h:Has P L 122 Lf)(HF:Has P L 160 Hg)(hv:jD v l)(hl:l.length<=1000000){g:Nat}{p:Rat->Bool}(hg:∀w x,x∈l->bH w x->ah P L g [w] (.bool (p x))):ah P L 122 [v,.fn (.f g) [] []] (.bool (l.any p)):=by
 have⟨n,e1,e2⟩:=aAT HF hv hl hg;unfold ah at e1 ⊢;rw[aG h];simp only[go_sem,ya,Lf,hv.ai,e1,e2]
def aAV(h:Has P L 123 Lg)(hT:Tx P L){K:Nat}(hv:jD v l)(hl:l.length<=1000000)(hk:∀x,x∈l->Hq K x)(hK:K<=4000000000):∃r,ah P L 123 [v] r/\nn (shut r) (l.map RT):=by
 have key:=jO P L [3,9,10,11] Kj
  (fun k st=>∃(i:Nat) (out:List (List Nat)),i+k=l.length/\out.length=l.length/\out.take i=(l.take i).map RT/\st=⟨[(3,.ay 0 0 l.length),(9,v),(10,aa l.length),(11,aa i)],[(0,.cells ydo ydo ydo 1 (out.map .str))],1,0⟩)
  (fun ex st=>∃tm hp ct,st=⟨tm,hp,ct,0⟩/\ex=.exit 0/\aj tm 3=.ay 0 0 l.length/\ak hp 0=F5 (.cells ydo ydo ydo 1 ((l.map RT).map .str))) ?_
 .unfold ah;rw[aG h];simp only[go_sem,ya,yb,Lg,hv.len,aa1 (show (0:Int)<=l.length by lia),wi,aAS 0 (show l.length<=10000000000 by lia)];generalize hq:D P L (.loop _ Kj) _=q;obtain⟨ex,st,rfl,tm,hp,ct,rfl,rfl,t3,g0⟩:=bQ hq (key l.length) ⟨0,yE l.length [],by lia,by simp,by simp,by simp only[go_sem,ya,yb,az,av hv.pu]<;>rfl⟩
  refine⟨.cM ydo 1 l.length ((l.map RT).map .str),?_,?_⟩
  .simp only [go_sem,yb,az,t3,g0];exact SW (pR _ _ _) (by simp) (by decide)
  .have:=asC (l.map RT)
   rwa[xi] at this
 .rintro k st ⟨i,out,BV,hlen,G9,rfl⟩;by_cases hi:i<l.length
  .left
   have⟨a,b,c,d,r,e1,hx⟩:=hv.bj hi;have e2:=m46 hT hx (hk _ (xI hi)) hK;have gx:=hx.f4;unfold ah at e2
   simp only[go_sem,ya,yb,yj,Kj,show (i:Int)<l.length by lia,e1,HA,aO,gx.st,eS,gx.ai,yg,e2,aa1 (show (0:Int)<=i by lia),wi,dd 0 0 hi,yd,stS (l:=out) (o:=i) (by lia)];refine⟨_,k-1,rfl,by lia,i+1,out.set i (RT l[i]),by lia,by simpa using hlen,?_,?_⟩
   .rw [take_set (by lia),G9,xv hi,xG];rfl
   .rw [wrap64 (by lia) (by lia)];simp only[go_sem,ya,yb,az,av hv.pu]<;>rfl
  .right
   have:i=l.length:=by lia
   subst this;rw[yK (by lia),yK (yx _)] at G9;subst G9;simp only[go_sem,ya,Kj,show ¬(l.length:Int)<l.length by lia];exact⟨_,_,rfl,by simp,_,_,_,rfl,rfl,rfl,rfl⟩
noncomputable def FW(p:ri):Int:=bF [cI p.1,cI p.2]
end
noncomputable def Lay.low(sh:List Nat)(a:Lay):Bool:=avY (cf sh) (cf a.hh)
def aai{α:Type}{f:α->Int}:∀{l:List α},bF (l.map f)=0->∀a,a∈l->f a=0
 | [],_,_,h=>by cases h
 | x::l,h,a,ha=>by
  rw[xe,ak7] at h;rcases wB.1 ha with rfl | ha
  .grind
  .exact aai h.2 a ha
section
variable {v:AV}{l:List Int}
def QU(h:Has P L 677 Qn)(hv:bk v l)(hl:l.length<=1000000):ah P L 677 [v] (aa (bF l)):=by
 unfold ah;rw[aG h];simp only[go_sem,ya,Qn,hv.len];have key:=Of (P:=P) (L:=L) (live:=[5,6,7]) (a:=OV)
  (I:=fun k s=>∃tm ct i,s=⟨tm,[],ct,0⟩/\aj tm 5=v/\aj tm 6=aa l.length/\aj tm 7=aa (i:Nat)/\i+k=l.length/\bF (l.drop i)=bF l)
  (Q:=fun ex s=>∃tm,s=⟨tm,[],0,0⟩/\((ex=.ret/\aj tm 2=aa (bF l))\/(ex=.exit 0/\bF l=0))) ?_ l.length
 .generalize hq:D P L (.loop _ OV) _=q;obtain⟨ex,s,rfl,tm,rfl,h2⟩:=bQ hq key ⟨_,_,0,rfl,rfl,rfl,rfl,by omega,rfl⟩;rcases h2 with ⟨rfl,h2⟩ | ⟨rfl,h2⟩
  .simp only [go_sem,h2]
  .rw [h2];simp only[go_sem]
 .rintro k s ⟨tm,ct,i,rfl,h5,h6,h7,hk,hf⟩;rw[Sv (by simp only[go_sem,h5,h6,h7,hv.pu])];simp only[go_sem,ya,h5,h6,h7,OV];by_cases hi:i<l.length
  .have c9:(i:Int)<l.length:=by omega
   rw[SD hi] at hf;by_cases hz:l[i]=0
   .left
    simp only[go_sem,ya,c9,hv.bj hi,hz];refine⟨_,k-1,rfl,by omega,_,_,i+1,rfl,?_⟩;rw[wrap64 (by omega) (by omega)];rw[yz hz] at hf;simp only[go_sem,ya];exact⟨trivial,trivial,rfl,by omega,hf⟩
   .right
    simp only[go_sem,ya,c9,hv.bj hi,hz];rw[yp hz] at hf;refine⟨_,_,rfl,by simp,_,rfl,.inl ⟨rfl,?_⟩⟩;simp only[go_sem,hf]
  .right
   have c9:¬(i:Int)<l.length:=by omega
   simp only[go_sem,c9];refine⟨_,_,rfl,by simp,_,rfl,.inr ⟨rfl,?_⟩⟩;rw[<-hf,xh (by omega)];rfl
def Dh(h:Has P L 692 Fa)(b:Bool)(n:Int):ah P L 692 [.bool b,aa n] (aa (if b=ydo then n else 0)):=by
 unfold ah;rw[aG h]
 cases b with
 | true=>simp only[go_sem,ya,Fa,xJ]
 | false=>simp only[go_sem,ya,Fa];rfl
def QV(h:Has P L 676 Hl)(n9:Has P L 692 Fa)(n lo hi:Int):ah P L 676 [aa n,aa lo,aa hi] (aa (if n<lo\/hi<n then 3 else 0)):=by
 unfold ah;rw[aG h];by_cases h1:n<lo
 .simp only [go_sem,ya,Hl,h1,true_or,xJ,Dh n9]
 .by_cases h2:hi<n
  .simp only [go_sem,ya,Hl,h1,h2,or_true,xJ,Dh n9]
  .simp only [go_sem,ya,Hl,h1,h2,or_self,xz,Dh n9];rfl
def aAW(h:Has P L 647 Lz)(hv:bk v l)(hl:l.length<=1000000):ah P L 647 [v] (aa (bF l)):=by
 unfold ah;rw[aG h];simp only[go_sem,Lz];have key:=Of (P:=P) (L:=L) (live:=[0,3]) (a:=OU)
  (I:=fun k s=>∃tm ct i,s=⟨tm,[],ct,0⟩/\aj tm 0=v/\aj tm 3=aa (i:Nat)/\i+k=l.length/\bF (l.drop i)=bF l)
  (Q:=fun ex s=>∃tm,s=⟨tm,[],0,0⟩/\((ex=.ret/\aj tm 2=aa (bF l))\/(ex=.exit 0/\bF l=0))) ?_ l.length
 .generalize hq:D P L (.loop _ OU) _=q;obtain⟨ex,s,rfl,tm,rfl,h2⟩:=bQ hq key ⟨_,_,0,rfl,rfl,rfl,by omega,rfl⟩;rcases h2 with ⟨rfl,h2⟩ | ⟨rfl,h2⟩
  .simp only [go_sem,h2]
  .rw [h2];simp only[go_sem]
 .rintro k s ⟨tm,ct,i,rfl,h0,h3,hk,hf⟩;rw[Sv (by simp only[go_sem,h0,h3,hv.pu])];simp only[go_sem,ya,h0,h3,OU,hv.len];by_cases hi:i<l.length
  .have c9:(i:Int)<l.length:=by omega
   rw[SD hi] at hf;by_cases hz:l[i]=0
   .left
    simp only[go_sem,ya,c9,hv.bj hi,hz];refine⟨_,k-1,rfl,by omega,_,_,i+1,rfl,?_⟩;rw[wrap64 (by omega) (by omega)];rw[yz hz] at hf;simp only[go_sem,ya];exact⟨trivial,rfl,by omega,hf⟩
   .right
    simp only[go_sem,ya,c9,hv.bj hi,hz];rw[yp hz] at hf;refine⟨_,_,rfl,by simp,_,rfl,.inl ⟨rfl,?_⟩⟩;simp only[go_sem,hf]
  .right
   have c9:¬(i:Int)<l.length:=by omega
   simp only[go_sem,c9];refine⟨_,_,rfl,by simp,_,rfl,.inr ⟨rfl,?_⟩⟩;rw[<-hf,xh (by omega)];rfl
def ahH(L7:Has P L 686 LB)(QW:Has P L 122 Lf)(QX:Has P L 123 Lg)(HF:Has P L 160 Hg)(hT:Tx P L){l:List Rat}{K:Nat}(hv:jD v l)(hl:l.length<=1000000)(hk:∀x,x∈l->Hq K x)(hK:K<=4000000000):
  (l.any LG=ydo->ah P L 686 [v] (.aw [.af,aa 4]))/\(l.any LG=ydp->∃r,nn r (l.map RT)/\ah P L 686 [v] (.aw [r,aa 0])):=by
 have e1:=aAU QW HF hv hl (g:=107) (p:=LG) (fun w x hx hw=>aAh hT hw (hk x hx) hK);obtain⟨r,e2,hr⟩:=aAV QX hT hv hl hk hK;unfold ah at e1 e2 ⊢;constructor
 .intro ha;rw[ha] at e1;rw[aG L7];simp only[go_sem,ya,LB,hv.ai,e1]
 .intro ha;rw[ha] at e1;refine⟨_,hr,?_⟩;rw[aG L7];simp only[go_sem,ya,LB,hv.ai,e1,e2];rcases hr with ⟨hr,_⟩ | ⟨e,hr⟩<;>rw[hr]<;>rfl
end
def zh{z:Int}(h:z.natAbs<2^40):Hq 40 (z:Rat):=by
 refine⟨?_,?_⟩
 .rw [Rat.num_intCast];unfold Bd;omega
 .rw [Rat.den_intCast];unfold Bd;decide
def adw(z:Int):mg (decide (z<0)) (z.natAbs*2^149)=(z:Rat):=by
 have h1:cp (decide (z<0)) (z.natAbs*2^149)=z*((2^149:Nat):Int):=by
  unfold cp;by_cases h:z<0
  .rw [xf h,yz rfl];have e:(z.natAbs:Int)= -z:=by omega
   generalize (2^149:Nat)=g;rw[xZ,e,Int.neg_mul,Int.neg_neg]
  .rw [yY h,yp (by decide)];have e:(z.natAbs:Int)=z:=by omega
   generalize (2^149:Nat)=g;rw[xZ,e]
 unfold mg;rw[h1,tT];have h2:(((2^149:Nat):Int):Rat)=p2 149:=(mS 149).symm;rw[h2,ux,<-nP,show (149:Int)+ -149=0 from rfl,L4,Rat.mul_one]
section
variable {s:Bool}{M b:Nat}
def fb(z:Int):Nat:=yaG.write (.number (z<0) z.natAbs 0)
def ayv{z:Int}(h:z.natAbs<=16777216):Fl (fb z) (z<0) (z.natAbs*2^149):=Fl.ofInt h
def ayw(z:Int):jW (.toFlt .f32) (aa z)=F5 (.ao .f32 (fb z)):=rfl
def awt(hb:Fl b s M):binOp .sub (.ao .f32 b) (.ao .f32 b)=F5 (.ao .f32 0):=by
 have hf:=hb.fin;unfold gB at hf
 cases hr:yaG.read b with
 | number s m e=>
  have h1:wI.format.sub b b=F5 0:=adv hr;simp[binOp,GX,h1]
 | _=>rw[hr] at hf;cases hf
def aAX:binOp .eql (.ao .f32 0) (.ao .f32 0)=F5 (.bool ydo):=by rfl
def ayx(L8:Has P L 231 Ln)(hb:Fl b s M):ah P L 231 [.ao .f32 b] (.bool ydo):=by
 unfold ah;rw[aG L8];simp only[go_sem,ya,Ln,awt hb,aAX]
 first | done | rfl
def ayy(hx:Fx P L)(ht:Tx P L)(L8:Has P L 231 Ln)(Xb:Has P L 203 P8)(hb:Fl b s M):ah P L 203 [.ao .f32 b] (.aw [.str (RT (mg s M)),aa 0]):=by
 have e1:=ayx L8 hb;obtain⟨r,e2,hr⟩:=aAN hx hb;have e3:=m46 ht hr (afW hb) (by decide);obtain⟨v1,v2,v3,v4,rfl,fv⟩:=hr.gen;unfold ah at e1 e2 e3;unfold ah;rw[aG Xb];simp only[go_sem,ya,P8,z7,e1,e2,e3,fv.ai,bi,Bool.not_true];rfl
def aAY(ht:Tx P L)(Xc:Has P L 685 Qo)(hb:Fl b s M)(e1:ah P L 203 [.ao .f32 b] (.aw [.str (RT (mg s M)),aa 0])):∃r,ah P L 685 [.ao .f32 b] r/\bH r (mg s M):=by
 have hl:=qc (afW hb);obtain⟨r,e2,hr⟩:=m62 ht (a:=mg s M) (by omega);have bB:=hr;obtain⟨v1,v2,v3,v4,rfl,fv⟩:=hr.gen;refine⟨_,?_,bB⟩;unfold ah at e1 e2 ⊢;rw[aG Xc];simp only[go_sem,ya,yb,Qo,aO,z7,e1,abV,Z6,aaW,e2,bi,fv.st,cJ,cK,yg,eS,fv.dX]
structure Exc(P:aF)(L:Lib):Prop extends Fx P L,Tx P L where
 Xb:Has P L 203 P8
 L8:Has P L 231 Ln
 Xc:Has P L 685 Qo
end
def jB.snoc{α β:Type}{p:α->β->Prop}:∀{l:List α} {m:List β} {a:α} {b:β},jB p l m->p a b->jB p (l++[a]) (m++[b])
 | [],[],_,_,_,h=>⟨h,trivial⟩
 | _::_,_::_,_,_,h,k=>⟨h.1,jB.snoc h.2 k⟩
def gK{β:Type}(p:AV->β->Prop)(v:AV)(M:List β):Prop:=∃rows,cF v rows/\jB p rows M
section
variable {β:Type}{p:AV->β->Prop}{v:AV}{s:List β}
def gK.len(h:gK p v s){hp:Hp}:iM hp 1 v=F5 (.int .i64 (s.length:Nat)):=by
 have⟨rows,h1,h2⟩:=h;rw[<-h2.len];exact h1.len
def gK.pu(h:gK p v s):aV v=ydo:=by have⟨rows,h1,h2⟩:=h;exact h1.pu
def gK.ai(h:gK p v s)(n:Nat){hp:Hp}:freeze (n+1) hp v=F5 (v,hp):=by have⟨rows,h1,h2⟩:=h;exact h1.ai n
def gK.one(h:gK p v s):db v=ydo:=by have⟨rows,h1,h2⟩:=h;exact h1.one
def gK.cells(h:gK p v s):cellsOf v=[v]:=by have⟨rows,h1,h2⟩:=h;exact h1.cells
def gK.bj(h:gK p v s){i:Nat}(hi:i<s.length):∃r rest,p r s[i]/\ik 1 i v=F5 (.bt (r::rest)):=by
 have⟨rows,h1,h2⟩:=h;have c9:i<rows.length:=by rw[h2.len];exact hi
 exact⟨_,_,h2.get c9 hi,h1.bj c9⟩
def anF:gK p .af []:=⟨[],Bg,trivial⟩
def Ub(e:Bool){rows:List AV}(h:jB p rows s):gK p (.ap e s.length rows) s:=by
 have:=Gp e rows
 rw[h.len] at this;exact⟨rows,this,h⟩
end
def akC{α:Type}{f:α->Int}{l:List α}{i:Nat}(h:i<l.length):bF ((l.drop i).map f)=if f l[i]=0 then bF ((l.drop (i+1)).map f) else f l[i]:=by
 rw[yW h,xe,bF]
def rr(f:Nat):List AV->AV
 | []=>.af
 | _::r=>.ay f 0 (r.length+1)
def aAZ(h:Fr' P L)(L9:Has P L 720 LH){v w:AV}{s:Rat}{l:List Rat}{K M:Nat}(hv:bH v s)(hw:jD w l)(ks:Hq M s)(kl:∀x,x∈l->Hq K x)(hl:l.length<=1000000)(hK:M+l.length*(K+1)+K<=1000000000):∃r,ah P L 720 [w,v,.fn (.f 74) [] []] r/\bH r (qD s l):=by
 have key:=jO P L [2,4,6,9,10,11] KG
  (fun k st=>∃i:Nat,i+k=l.length/\∃c1 c2 c3 c4,bH (.agg [c1,c2,c3,c4]) (qD s (l.take i))/\st=⟨[(2,.fn (.f 74) [] []),(4,.ptr 0 0),(6,.ptr 1 0),(9,w),(10,aa l.length),(11,aa i)],[(1,.cells ydo ydo ydo 4 [.int .i64 0,.af,.int .i64 0,.af]),(0,.cells ydo ydo ydo 4 [c1,c2,c3,c4])],2,0⟩)
  (fun ex st=>∃tm hp ct c1 c2 c3 c4,bH (.agg [c1,c2,c3,c4]) (qD s l)/\st=⟨tm,hp,ct,0⟩/\ex=.exit 0/\aj tm 4=.ptr 0 0/\aj tm 6=.ptr 1 0/\ak hp 0=F5 (.cells ydo ydo ydo 4 [c1,c2,c3,c4])/\ak hp 1=F5 (.cells ydo ydo ydo 4 [.int .i64 0,.af,.int .i64 0,.af])) ?_
 .have eV:=hv;obtain⟨v1,v2,v3,v4,rfl,gv⟩:=hv.gen;unfold ah;rw[aG L9];simp only[go_sem,ya,yb,LH,gv.bx,aO,hw.len];generalize hq:D P L (.loop _ KG) _=q;obtain⟨ex,st,rfl,tm,hp,ct,c1,c2,c3,c4,h1,rfl,rfl,t4,t6,g0,g1⟩:=bQ hq (key l.length) ⟨0,by omega,v1,v2,v3,v4,by simpa[qD] using eV,by simp only[go_sem,ya,yb,az,av hw.pu]<;>rfl⟩
  have g:=h1.f4;refine⟨_,?_,h1⟩;simp only[go_sem,ya,yb,az,t4,t6,g0,g1,eS,g.st,cJ,cK,yg];exact g.dX _
 .rintro k st ⟨i,hk,c1,c2,c3,c4,hs,rfl⟩;by_cases hi:i<l.length
  .left
   obtain⟨a,b,c,d,r,e1,hx⟩:=hw.bj hi;obtain⟨y,e2,hy⟩:=pE h hs hx (K:=M+l.length*(K+1)+K) ((asd ks kl i).mono (by omega)) ((kl _ (xI hi)).mono (by omega)) (by omega);rw[<-anw hi] at hy;have FU:=hy;obtain⟨y1,y2,y3,y4,rfl,gy⟩:=hy.gen;have gs:=hs.f4;have gx:=hx.f4;unfold ah at e2;simp only[go_sem,ya,yb,KG,show (i:Int)<l.length by omega,e1,HA,eS,aO,gx.st,e2,gs.ai,gx.ai,gy.st,bi,yg];refine⟨_,k-1,rfl,by omega,i+1,by omega,y1,y2,y3,y4,FU,?_⟩;rw[wrap64 (by omega) (by omega)];simp only[go_sem,ya,yb,az,av hw.pu]<;>rfl
  .right
   simp only[go_sem,ya,KG,show ¬(i:Int)<l.length by omega];rw[yK (by omega)] at hs;exact⟨_,_,rfl,by simp,_,_,_,c1,c2,c3,c4,hs,rfl,rfl,by simp only[go_sem,ya],by simp only[go_sem,ya],by simp only[go_sem,ya],by simp only[go_sem]⟩
def aA0(h:Fr' P L)(L9:Has P L 720 LH)(Xd:Has P L 674 Qm){w:AV}{l:List Rat}{K:Nat}(hw:jD w l)(kl:∀x,x∈l->Hq K x)(hl:l.length<=1000000)(hK:40+l.length*(K+1)+K<=1000000000):∃r,ah P L 674 [w] r/\bH r (qD 0 l):=by
 obtain⟨z,e0,hz⟩:=DP h (z:=0) (by omega) (by omega);have hz:bH z 0:=hz;obtain⟨r,e1,hr⟩:=aAZ h L9 hz hw (zh (z:=0) (by decide)) kl hl hK;obtain⟨z1,z2,z3,z4,rfl,gz⟩:=hz.gen;have bB:=hr;obtain⟨r1,r2,r3,r4,rfl,gr⟩:=hr.gen;refine⟨_,?_,bB⟩;unfold ah at e0 e1 ⊢;rw[aG Xd];simp only[go_sem,ya,yb,Qm,aO,hw.ai,e0,gz.ai,bi,e1,gr.st,cJ,cK,yg,eS];exact gr.dX _
section
variable {v:AV}{F:List (List Nat)}{l r:List Nat}
def jZ(v:AV)(r:List Nat):Prop:=cF v (fp r)
def Uc{i:Nat}(h:i<l.length):(fp l)[i]'(by simpa using h)=.ao .f32 l[i]:=by simp[fp]
def BP(r:List Nat):Bool:=r.any fun b=> !gB b
def FX(n:Nat)(r:List Nat):Int:=bF [if r.length=n then 0 else 2,if BP r=ydo then 1 else 0]
def Fq(n m:Nat)(F:List (List Nat)):Int:=if F.length=n then bF (F.map (FX m)) else 2
def ot(z lo hi:Int):Int:=if z<lo\/hi<z then 3 else 0
def AE(C R S:Int):Int:=bF [ot C 1 8,ot R 1 8,ot S 2 8]
def adx{C R S:Int}(h:AE C R S=0):(1<=C/\C<=8)/\(1<=R/\R<=8)/\2<=S/\S<=8:=by
 obtain⟨h1,h2,h3⟩:=asb.1 h;unfold ot at h1 h2 h3;refine⟨?_,?_,?_⟩
 .by_cases c:C<1\/8<C
  .rw [yz c] at h1;exact absurd h1 (by decide)
  .omega
 .by_cases c:R<1\/8<R
  .rw [yz c] at h2;exact absurd h2 (by decide)
  .omega
 .by_cases c:S<2\/8<S
  .rw [yz c] at h3;exact absurd h3 (by decide)
  .omega
def pJ(C R S:Int)(F:List (List Nat)):Int:=if AE C R S=0 then Fq (R.toNat*S.toNat) (C.toNat*S.toNat) F else AE C R S
structure Frc(P:aF)(L:Lib):Prop where
 aA1:L.pure 753=F5 HB
 aA2:Has P L 641 Wf
 aA3:Has P L 643 Qh
 aA4:Has P L 670 Qj
 QY:Has P L 676 Hl
 QZ:Has P L 677 Qn
 n9:Has P L 692 Fa
 aA5:Has P L 716 Wi
 Xe:Has P L 717 Qq
 aA6:Has P L 741 Wk
 aA7:Has P L 742 Wl
 aA8:Has P L 752 Qr
def aA9(h:L.pure 753=F5 HB)(b:Nat):ah P L 753 [.ao .f32 b] (.bool (gB b)):=by
 unfold ah;simp only[bW,h,HB]
def aBa(h:Frc P L)(b:Nat):ah P L 742 [.ao .f32 b] (.bool (!gB b)):=by
 have e:=aA9 (P:=P) h.aA1 b;unfold ah at e;unfold ah;rw[aG h.aA7];simp only[go_sem,ya,Wl,z7,e]
def aBb(h:Has P L 752 Qr)(hv:cF v (fp l))(hl:l.length<=1000000){g:Nat}{p:Nat->Bool}(hg:∀x,ah P L g [.ao .f32 x] (.bool (p x))):∃n:Int,ah P L 752 [v,.fn (.f g) [] []] (aa n)/\decide (0<=n)=l.any p:=by
 have hlen:(fp l).length=l.length:=by simp
 have key:=jO P L [0,1,7,8] GK
  (fun k s=>∃i:Nat,i+k=l.length/\(l.drop i).any p=l.any p/\s=⟨[(0,v),(1,.fn (.f g) [] []),(7,aa l.length),(8,aa i)],[],0,0⟩)
  (fun ex s=>∃tm hp ct,s=⟨tm,hp,ct,0⟩/\((∃n:Int,ex=.ret/\aj tm 4=aa n/\0<=n/\l.any p=ydo)\/(ex=.exit 0/\l.any p=ydp))) ?_
 .unfold ah;rw[aG h];simp only[go_sem,ya,Qr,hv.len,hlen];generalize hq:D P L (.loop _ GK) _=q;obtain⟨ex,s,rfl,tm,hp,ct,rfl,h2⟩:=bQ hq (key l.length) ⟨0,by omega,rfl,by simp only[go_sem,ya,az,av hv.pu]<;>rfl⟩
  rcases h2 with ⟨n,rfl,h2,h3,h4⟩ | ⟨rfl,h2⟩
  .exact ⟨n,by simp only[go_sem,h2]<;>rfl,by rw[h4];simpa using h3⟩
  .exact ⟨-1,by simp only[go_sem,az]<;>rfl,by rw[h2];decide⟩
 .rintro k s ⟨i,hk,hf,rfl⟩;by_cases hi:i<l.length
  .have c9:(i:Int)<l.length:=by omega
   have e1:=hv.bj (i:=i) (by simpa using hi);rw[Uc hi] at e1;have e2:=hg l[i];unfold ah at e2;rw[ab1 hi] at hf
   cases dw:p l[i] with
   | false=>
    left
    rw[dw] at e2;simp only[go_sem,ya,GK,c9,e1,z7,e2];rw[dw,vL] at hf;refine⟨_,k-1,rfl,by omega,i+1,by omega,hf,?_⟩;rw[wrap64 (by omega) (by omega)];simp only[go_sem,ya,az,av hv.pu]<;>rfl
   | true=>
    right
    rw[dw] at e2;simp only[go_sem,ya,GK,c9,e1,z7,e2];refine⟨_,_,rfl,by simp,_,_,_,rfl,.inl ⟨i,rfl,?_,by omega,?_⟩⟩
    .simp only [go_sem]
    .rw [<-hf,dw,uI]
  .right
   simp only[go_sem,ya,GK,show ¬(i:Int)<l.length by omega];refine⟨_,_,rfl,by simp,_,_,_,rfl,.inr ⟨rfl,?_⟩⟩;rw[<-hf,xh (by omega)];rfl
def aBc(Xe:Has P L 717 Qq){M:List (List Nat)}(hv:gK jZ v M)(hl:M.length<=1000000){g:Nat}{cap:List AV}(hc:aE cap=ydo)(hz:∀(n:Nat) (hp:Hp),cB (n+900) hp cap=F5 (cap,hp)){f:List Nat->Int}(hg:∀w a,a∈M->jZ w a->ah P L g (w::cap) (aa (f a))):ah P L 717 [v,.fn (.f g) [] cap] (aa (bF (M.map f))):=by
 have pf:aV (.fn (.f g) [] cap)=ydo:=by simp[aV,aE,hc]
 have key:=jO P L [1,8,9,10] OW
  (fun k s=>∃i:Nat,s=⟨[(1,.fn (.f g) [] cap),(8,v),(9,aa M.length),(10,aa i)],[],0,0⟩/\i+k=M.length/\bF ((M.drop i).map f)=bF (M.map f))
  (fun ex s=>∃tm ct,s=⟨tm,[],ct,0⟩/\((ex=.ret/\aj tm 4=aa (bF (M.map f)))\/(ex=.exit 0/\bF (M.map f)=0))) ?_
 .unfold ah;rw[aG Xe];simp only[go_sem,ya,Qq,hv.len];generalize hq:D P L (.loop _ OW) _=q;obtain⟨ex,s,rfl,tm,ct,rfl,h2⟩:=bQ hq (key M.length) ⟨0,by simp only[go_sem,ya,az,av hv.pu,av pf]<;>rfl,by omega,by simp⟩
  rcases h2 with ⟨rfl,h2⟩ | ⟨rfl,h2⟩
  .simp only [go_sem,h2]
  .rw [h2];simp only[go_sem,az]
 .rintro k s ⟨i,rfl,hk,hf⟩;simp only[go_sem,ya,OW];by_cases hi:i<M.length
  .have c9:(i:Int)<M.length:=by omega
   obtain⟨r,rest,hr,e0⟩:=hv.bj hi;have e1:=hg r _ (xI hi) hr;unfold ah at e1;rw[yW hi,xe] at hf;simp only[bF] at hf;by_cases dw:f M[i]=0
   .left
    rw[dw] at e1;simp only[go_sem,ya,c9,e0,hr.ai,hz,e1];refine⟨_,k-1,rfl,by omega,i+1,?_,by omega,by rw[yz dw] at hf;exact hf⟩
    rw[wrap64 (by omega) (by omega)];simp only[go_sem,ya,az,av hv.pu,av pf]<;>rfl
   .right
    simp only[go_sem,ya,c9,e0,hr.ai,hz,e1,dw];rw[yp dw] at hf;refine⟨_,_,rfl,by simp,_,_,rfl,.inl ⟨rfl,?_⟩⟩;simp only[go_sem,hf]
  .right
   have c9:¬(i:Int)<M.length:=by omega
   simp only[go_sem,c9];refine⟨_,_,rfl,by simp,_,_,rfl,.inr ⟨rfl,?_⟩⟩;rw[<-hf,xh (by omega)];rfl
def aBd(h:Frc P L)(hv:jZ v r)(hl:r.length<=1000000):ah P L 741 [v,.fn (.f 742) [] []] (.bool (BP r)):=by
 obtain⟨n,e1,e2⟩:=aBb h.aA8 hv hl (g:=742) (p:=fun b=> !gB b) (fun x=>aBa h x);have e2:decide (0<=n)=BP r:=e2;have hv:cF v (fp r):=hv;unfold ah at e1 ⊢;rw[aG h.aA6];simp only[go_sem,ya,Wk,hv.ai,e1,e2]
def BQ(a b c:Int)(ct:Nat):oX ct 3 [aa a,aa b,aa c]=F5 (.ptr ct 0,.cells ydo ydo ydo 3 [aa a,aa b,aa c]):=rfl
def jP(a b c:Int):fU 3 ydo [aa a,aa b,aa c]=F5 (.agg [aa a,aa b,aa c]):=rfl
def aBe(h:Frc P L){w:AV}{C R S:Nat}(hC:C<=8)(hS:S<=8)(hw:jZ w r)(hl:r.length<=1000000):ah P L 716 [w,dN C R S] (aa (FX (C*S) r)):=by
 have e1:=aBd h hw hl;have hw:cF w (fp r):=hw;have hlen:(fp r).length=r.length:=by simp
 have b1:C*S<=64:=xC hC hS;have m1:(C:Int)*(S:Int)=((C*S:Nat):Int):=by rw[xZ]
 have e2:=Dh h.n9 (!decide ((r.length:Int)=((C*S:Nat):Int))) 2;have q:decide ((r.length:Int)=((C*S:Nat):Int))=decide (r.length=C*S):=yaj.2 (by omega);rw[q] at e2;rw[show (if (!decide (r.length=C*S))=ydo then (2:Int) else 0)=(if r.length=C*S then 0 else 2) by by_cases e:r.length=C*S<;>simp[e]] at e2
 have e3:=Dh h.n9 (BP r) 1;have e4:=QU h.QZ (lF ydo [if r.length=C*S then 0 else 2,if BP r=ydo then 1 else 0]) (by simp);simp only[yv,yI,yd,yb,xe,ve] at e4;unfold ah at e1 e2 e3 e4 ⊢;rw[aG h.aA5];unfold FX
 simp only[go_sem,ya,yb,yq,yi,yj,Wi,dN,KO,O9,hw.len,hw.ai,hlen,m1,wrap64 (n:=((C*S:Nat):Int)) (by omega) (by omega),q,e1,e2,e3,e4]
def aBf(h:Frc P L){C R S:Nat}(hC:C<=8)(hR:R<=8)(hS:S<=8)(hv:gK jZ v F)(hl:F.length<=1000000)(hr:∀r,r∈F->r.length<=1000000):ah P L 670 [.agg [aa C,aa R,aa S],v] (aa (Fq (R*S) (C*S) F)):=by
 have e1:=aBc h.Xe hv hl (g:=716) (cap:=[dN C R S]) rfl (fun n hp=>rfl) (f:=FX (C*S)) (fun w r bB hw=>aBe h hC hS hw (hr r bB));have b1:R*S<=64:=xC hR hS;have m1:(R:Int)*(S:Int)=((R*S:Nat):Int):=by rw[xZ]
 unfold ah at e1 ⊢;rw[aG h.aA4];unfold dN at e1;unfold Fq;by_cases hn:F.length=R*S
 .rw [yz hn]
  simp only[go_sem,ya,Qj,BQ,bg,yd,yg,yX,hv.len,hv.ai,m1,wrap64 (n:=((R*S:Nat):Int)) (by omega) (by omega),hn,yN,e1]
 .rw [yp hn]
  simp only[go_sem,ya,Qj,BQ,bg,yd,yg,yX,hv.len,m1,wrap64 (n:=((R*S:Nat):Int)) (by omega) (by omega),show ¬(F.length:Int)=((R*S:Nat):Int) by omega,yP]
def aBg(h:Frc P L)(C R S:Int):ah P L 641 [.agg [aa C,aa R,aa S]] (aa (AE C R S)):=by
 have e1:=QV h.QY h.n9 C 1 8;have e2:=QV h.QY h.n9 R 1 8;have e3:=QV h.QY h.n9 S 2 8;have e4:=QU h.QZ (lF ydo [ot C 1 8,ot R 1 8,ot S 2 8]) (by simp);simp only[yv,yI,yd,yb,xe,ve] at e4;unfold ah at e1 e2 e3 e4 ⊢;rw[aG h.aA2];unfold ot at e4;unfold AE ot;simp only[go_sem,ya,yb,yq,yi,yj,Wf,BQ,bg,yd,yg,yX,e1,e2,e3,e4]
def ahI(h:Frc P L){C R S:Int}(hv:gK jZ v F)(hl:F.length<=1000000)(hr:∀r,r∈F->r.length<=1000000):ah P L 643 [.agg [aa C,aa R,aa S],v] (aa (pJ C R S F)):=by
 have e1:=aBg h C R S;have fz:∀(n:Nat) (hp:Hp),freeze (n+20) hp (.agg [aa C,aa R,aa S])=F5 (.agg [aa C,aa R,aa S],hp):=fun n hp=>cm _ _ (by simp only[go_sem])
 unfold ah;rw[aG h.aA3];unfold pJ;by_cases h0:AE C R S=0
 .rw [yz h0];obtain⟨⟨a1,a2⟩,⟨b1,b2⟩,c1,c2⟩:=adx h0;have e2:=aBf h (C:=C.toNat) (R:=R.toNat) (S:=S.toNat) (by omega) (by omega) (by omega) hv hl hr;rw[vK (by omega),vK (by omega),vK (by omega)] at e2;rw[h0] at e1;unfold ah at e1 e2;simp only[go_sem,ya,yb,Qh,BQ,yg,jP,fz,e1,hv.ai,e2]
 .rw [yp h0];unfold ah at e1;simp only[go_sem,ya,yb,Qh,BQ,yg,jP,fz,e1,h0]
end
section
open Go (IntKind)
open Ieee
def awu{b:Nat}{s:Bool}{M:Nat}(h:Fl b s M):Hq 429 (mg s M):=by
 have hM:=h.lt;have k1:Hq 278 (((cp s M:Int)):Rat):=acn 278 (afU 278 277 hM (by decide)) (by decide);exact (k1.mul (afV (-149))).mono (by decide)
end
section
variable {F:List (List Nat)}{b c m n r:Nat}
noncomputable def fq(b:Nat):Rat:=match yaG.read b with
 | .number s m e=>mg s (ef m e)
 | _=>0
def VG{M:Nat}{s:Bool}(h:Fl b s M):fq b=mg s M:=by
 obtain⟨m,e,h1,h2⟩:=h.ex;unfold fq;rw[h1.read,h2]
def afY(hb:b<4294967296)(hf:gB b=ydo):∃s M,Fl b s M/\fq b=mg s M:=by
 rcases av4 hb with ⟨s,M,h⟩ | h
 .exact ⟨s,M,h,VG h⟩
 .rw [hf] at h;cases h
def aBh(hb:b<4294967296)(hf:gB b=ydo):Hq 429 (fq b):=by
 obtain⟨s,M,h,e⟩:=afY hb hf;rw[e];exact awu h
structure ow(F:List (List Nat))(n m:Nat):Prop where
 len:F.length=n
 row:∀r,r∈F->r.length=m
 fin:∀r,r∈F->∀b,b∈r->gB b=ydo/\b<4294967296
noncomputable def sE(F:List (List Nat))(c r:Nat):Rat:=fq ((F.getD r []).getD c 0)
def aer{r:List Nat}(h:FX n r=0):r.length=n/\∀b,b∈r->gB b=ydo:=by
 unfold FX at h;obtain⟨h1,h2⟩:=adt.1 h;have h3:r.length=n:=by
  by_cases c:r.length=n
  .exact c
  .rw [yp c] at h1;exact absurd h1 (by decide)
 refine⟨h3,fun b hb=>?_⟩
 cases hf:gB b with
 | true=>rfl
 | false=>
  have:BP r=ydo:=by
   unfold BP;rw[yaz];exact⟨b,hb,by rw[hf];rfl⟩
  rw[yz this] at h2;exact absurd h2 (by decide)
def asD(h:Fq n m F=0)(hb:∀r,r∈F->∀b,b∈r->b<4294967296):ow F n m:=by
 unfold Fq at h;by_cases c:F.length=n
 .rw [yz c] at h
  have:=aai h
  exact⟨c,fun r hr=>(aer (this r hr)).1,fun r hr b bI=>⟨(aer (this r hr)).2 b bI,hb r hr b bI⟩⟩
 .rw [yp c] at h;exact absurd h (by decide)
def ow.at(h:ow F n m)(hr:r<n)(hc:c<m):∃(h1:r<F.length) (h2:c<F[r].length),sE F c r=fq (F[r][c])/\gB (F[r][c])=ydo/\F[r][c]<4294967296:=by
 have h1:r<F.length:=by rw[h.len];exact hr
 have h2:c<F[r].length:=by rw[h.row _ (xI h1)];exact hc
 refine⟨h1,h2,?_,h.fin _ (xI h1) _ (xI h2)⟩;unfold sE;simp only[yS,xb h1,xb h2,xW]
def ow.H(h:ow F n m)(hr:r<n)(hc:c<m):Hq 429 (sE F c r):=by
 obtain⟨_,_,e,f1,f2⟩:=h.at hr hc;rw[e];exact aBh f2 f1
def dU(S i:Nat):Rat:=((2*(i:Int)+1-(S:Int):Int):Rat)/((2:Int):Rat)
def GS{S i:Nat}(hS:S<=8)(hi:i<=8):Hq 80 (dU S i):=(zh (z:=2*(i:Int)+1-(S:Int)) (by omega)).div (zh (z:=2) (by decide))
def BR(ct:Nat)(a b:Int):oX ct 2 [aa a,aa b]=F5 (.ptr ct 0,.cells ydo ydo ydo 2 [aa a,aa b]):=rfl
def afZ(h:Exc P L)(hb:b<4294967296)(hf:gB b=ydo):∃r,ah P L 685 [.ao .f32 b] r/\bH r (fq b):=by
 obtain⟨s,M,bI,e⟩:=afY hb hf;rw[e];exact aAY h.toTx h.Xc bI (ayy h.toFx h.toTx h.L8 h.Xb bI)
def aBi(h:Exc P L)(Xf:Has P L 687 Qp){v:AV}(hv:gK jZ v F)(hF:ow F n m)(hc:c<m)(hr:r<n):∃x,ah P L 687 [.agg [aa c,aa r],.bt [v]] x/\bH x (sE F c r):=by
 obtain⟨bB,kS,e,f1,f2⟩:=hF.at hr hc;obtain⟨w,rest,hw,e0⟩:=hv.bj bB;have hw:cF w (fp F[r]):=hw;have e1:=hw.bj (i:=c) (by simpa using kS);rw[Uc kS] at e1;obtain⟨x,e2,hx⟩:=afZ h f2 f1;rw[e];have q9:=hx;obtain⟨x1,x2,x3,x4,rfl,gx⟩:=hx.gen;unfold ah at e2;refine⟨_,?_,q9⟩;unfold ah;rw[aG Xf];simp only[go_sem,ya,yb,Qp,aO,bg,yd,yg,yX,e0,e1,z7,e2,gx.st,bi,cJ,cK,eS,gx.dX]
def Xg(h:Fr' P L)(HG:Has P L 725 LI){C R S i:Nat}(hS:S<=8)(hi:i<=8):∃x,ah P L 725 [.agg [aa C,aa R,aa S],aa i] x/\bH x (dU S i):=by
 obtain⟨u,e1,hu⟩:=DP h (z:=2*(i:Int)+1-(S:Int)) (by omega) (by omega);obtain⟨w,e2,hw⟩:=DP h (z:=2) (by omega) (by omega);obtain⟨x,e3,hx⟩:=M3 h hu hw (by decide) (zh (by omega)) (zh (by decide)) (by decide);obtain⟨u1,u2,u3,u4,rfl,gu⟩:=hu.gen;obtain⟨w1,w2,w3,w4,rfl,gw⟩:=hw.gen;have q9:=hx;obtain⟨x1,x2,x3,x4,rfl,gx⟩:=hx.gen;unfold ah at e1 e2 e3;refine⟨_,?_,q9⟩;unfold ah;rw[aG HG]
 simp only[go_sem,ya,yb,LI,aO,bg,yd,yg,yX,wrap64 (n:=2*(i:Int)) (by omega) (by omega),wrap64 (n:=2*(i:Int)+1) (by omega) (by omega),wrap64 (n:=2*(i:Int)+1-(S:Int)) (by omega) (by omega),e1,e2,gu.ai,gw.ai,e3,gx.st,bi,cJ,cK,eS,gx.dX]
end
section
variable {TM:Env}{M cap:List AV}{C R S a b g i k:Nat}{f x y:Rat}
def aW(f:Nat->Rat):Nat->Rat
 | 0=>0
 | n+1=>aW f n+f n
def G3{f:Nat->Rat}{K N:Nat}(h:∀t,t<N->Hq K (f t)):∀{n:Nat},n<=N->Hq (2+n*(K+1)) (aW f n)
 | 0,_=>ahz.mono (by omega)
 | n+1,hn=>((G3 h (n:=n) (by omega)).add (h n (by omega))).mono (by rw[xY];omega)
def Mo(M:List AV)(f x y:Rat):Prop:=∃a1 a2 a3 a4 a5 a6 a7 a8 a9 dj dl a12,M=[a1,a2,a3,a4,a5,a6,a7,a8,a9,dj,dl,a12]/\bH (.agg [a1,a2,a3,a4]) f/\bH (.agg [a5,a6,a7,a8]) x/\bH (.agg [a9,dj,dl,a12]) y
section
variable {c1 c2 c3 c4:AV}(h:F4 c1 c2 c3 c4)(hp:Hp)(ct id:Nat)(a1 a2 a3 a4 a5 a6 a7 a8 a9 dj dl a12:AV)
include h
theorem F4.p:aE [c1,c2,c3,c4]=ydo:=by have:=h.pu;simpa[aV] using this
theorem F4.o:bP [c1,c2,c3,c4]=ydo:=by simp[bP,h.o1,h.o2,h.o3,h.o4]
theorem F4.r9:gO hp ct id 0 4 [c1,c2,c3,c4] (F5 (.cells ydo ydo ydo 12 [a1,a2,a3,a4,a5,a6,a7,a8,a9,dj,dl,a12]))=F5 (.aw [],aU hp id (.cells ydo ydo ydo 12 [c1,c2,c3,c4,a5,a6,a7,a8,a9,dj,dl,a12]),ct):=by
 rw[Am (sz:=4) (by rfl) (by simp) h.o,h.p];rfl
theorem F4.Nf:gO hp ct id 4 4 [c1,c2,c3,c4] (F5 (.cells ydo ydo ydo 12 [a1,a2,a3,a4,a5,a6,a7,a8,a9,dj,dl,a12]))=F5 (.aw [],aU hp id (.cells ydo ydo ydo 12 [a1,a2,a3,a4,c1,c2,c3,c4,a9,dj,dl,a12]),ct):=by
 rw[Am (sz:=4) (by rfl) (by simp) h.o,h.p];rfl
theorem F4.st8:gO hp ct id 8 4 [c1,c2,c3,c4] (F5 (.cells ydo ydo ydo 12 [a1,a2,a3,a4,a5,a6,a7,a8,a9,dj,dl,a12]))=F5 (.aw [],aU hp id (.cells ydo ydo ydo 12 [a1,a2,a3,a4,a5,a6,a7,a8,c1,c2,c3,c4]),ct):=by
 rw[Am (sz:=4) (by rfl) (by simp) h.o,h.p];rfl
end
def HH(h:Mo M f x y)(hp:Hp)(ct id:Nat){N:List AV}(hN:N.length=12):gO hp ct id 0 12 M (F5 (.cells ydo ydo ydo 12 N))=F5 (.aw [],aU hp id (.cells ydo ydo ydo 12 M),ct):=by
 obtain⟨a1,a2,a3,a4,a5,a6,a7,a8,a9,dj,dl,a12,rfl,h1,h2,h3⟩:=h;have g1:=h1.f4;have g2:=h2.f4;have g3:=h3.f4;have p1:=g1.p;have p2:=g2.p;have p3:=g3.p;simp only[aE,ye,uf] at p1 p2 p3
 rw[Am (sz:=12) (by rfl) (by simp[hN]) (by simp[bP,g1.o1,g1.o2,g1.o3,g1.o4,g2.o1,g2.o2,g2.o3,g2.o4,g3.o1,g3.o2,g3.o3,g3.o4])];have e:over 0 [a1,a2,a3,a4,a5,a6,a7,a8,a9,dj,dl,a12] N=[a1,a2,a3,a4,a5,a6,a7,a8,a9,dj,dl,a12]:=by
  unfold over;rw[xh (by simp[hN])];rfl
 rw[e];have e2:aE [a1,a2,a3,a4,a5,a6,a7,a8,a9,dj,dl,a12]=ydo:=by simp[aE,p1,p2,p3]
 rw[e2];rfl
structure Mom(P:aF)(L:Lib):Prop extends Fr' P L where
 L6:Has P L 719 LF
 ahJ:Has P L 673 Ql
 aBj:Has P L 724 Wj
 HG:Has P L 725 LI
def Ma:List AV:=[.int .i64 0,.af,.int .i64 0,.af,.int .i64 0,.af,.int .i64 0,.af,.int .i64 0,.af,.int .i64 0,.af]
def jK(A B:VC)(TM:Env)(C R S a b g:Nat)(cap M:List AV)(st:Nat):Hp:=[(5,.lp TM [18,19] A B st .none),(4,.cells ydo ydo ydo 12 M),(3,.cells ydo ydo ydo 12 Ma),(2,.cells ydo ydo ydo 1 [.fn (.f g) [] cap]),(1,.cells ydo ydo ydo 2 [aa a,aa b]),(0,.cells ydo ydo ydo 3 [aa C,aa R,aa S])]
def Fs(hp:Hp)(ct id:Nat)(a b:Int)(x y:AV):gO hp ct id 0 2 [aa a,aa b] (F5 (.cells ydo ydo ydo 2 [x,y]))=F5 (.aw [],aU hp id (.cells ydo ydo ydo 2 [aa a,aa b]),ct):=rfl
def Ft(n:Nat)(hp:Hp)(a b:Int):freeze (n+20) hp (.agg [aa a,aa b])=F5 (.agg [aa a,aa b],hp):=cm _ _ (by simp only[go_sem])
def zi(n:Nat)(hp:Hp)(a b c:Int):freeze (n+20) hp (.agg [aa a,aa b,aa c])=F5 (.agg [aa a,aa b,aa c],hp):=cm _ _ (by simp only[go_sem])
def YY(P:aF)(L:Lib)(g:Nat)(cap:List AV)(C R:Nat)(q:Nat->Nat->Rat):Prop:=∀c r,c<C->r<R->∃x,ah P L g (.agg [aa c,aa r]::cap) x/\bH x (q c r)
structure Ao(cap:List AV):Prop where
 pu:aE cap=ydo
 z:∀(n:Nat) (hp:Hp),cB (n+900) hp cap=F5 (cap,hp)
def VH{A B:VC}(hb:lH 5 TM)(hc:Ao cap)(M:List AV)(st:Nat):CI 6 6 (jK A B TM C R S a b g cap M st):=
 ⟨by omega,ZC (by omega) hb,by omega,.inl rfl,by omega,.inl rfl,by omega,.inl rfl,by omega,.inl rfl,by omega,.inl rfl,trivial⟩
def VI{A B:VC}(hn:(fj TM).length<=1000)(M:List AV)(st:Nat):(dO 6 (jK A B TM C R S a b g cap M st)).length<=90000:=by
 have:dO 6 (jK A B TM C R S a b g cap M st)=fj TM:=by
  simp only[jK,EK _ _ (show 5<6 by omega),EK _ _ (show 4<6 by omega),EK _ _ (show 3<6 by omega),EK _ _ (show 2<6 by omega),EK _ _ (show 1<6 by omega),EK _ _ (show 0<6 by omega),jR,yu,wL,acs]
 rw[this];omega
def aBk(h:Mom P L)(t3:aj TM 3=.ptr 0 0)(t5:aj TM 5=.ptr 2 0)(t7:aj TM 7=.ptr 4 0)(hc:Ao cap)(hM:Mo M f x y)(kf:Hq 300000 f)(kx:Hq 300000 x)(ky:Hq 300000 y)(hS:S<=8)(hk:k<S)(hi:i<S){n:Rat}(kn:Hq 3000 n){u:AV}(e1:ah P L g (.agg [aa ((a*S+i:Nat):Int),aa ((b*S+k:Nat):Int)]::cap) u)(hu:bH u n):
  ∃M' J,Mo M' (f+n) (x+n*dU S i) (y+n*dU S k)/\(∀p:Nat×Obj,p∈J->6<=p.1)/\ie (D P L) (jK oJ oK TM C R S a b g cap M 0) 6 5 (R4 S a b k i)=F5 (.bool ydo,J++jK oJ oK TM C R S a b g cap M' 0,9):=by
 obtain⟨a1,a2,a3,a4,a5,a6,a7,a8,a9,dj,dl,a12,rfl,hf,hx,hy⟩:=hM;obtain⟨ci,e2,se⟩:=Xg h.toFr' h.HG (C:=C) (R:=R) (S:=S) (i:=i) hS (by omega);obtain⟨ck,e3,dh⟩:=Xg h.toFr' h.HG (C:=C) (R:=R) (S:=S) (i:=k) hS (by omega);have kci:=GS hS (show i<=8 by omega);have kck:=GS hS (show k<=8 by omega);obtain⟨s,e4,hs⟩:=pE h.toFr' hf hu (K:=300000) kf (kn.mono (by omega)) (by decide);obtain⟨px,e5,hpx⟩:=DQ h.toFr' hu se (K:=3000) kn (kci.mono (by omega)) (by decide);obtain⟨py,e6,Ye⟩:=DQ h.toFr' hu dh (K:=3000) kn (kck.mono (by omega)) (by decide);obtain⟨sx,e7,hsx⟩:=pE h.toFr' hx hpx (K:=300000) kx ((kn.mul kci).mono (by omega)) (by decide);obtain⟨sy,e8,hsy⟩:=pE h.toFr' hy Ye (K:=300000) ky ((kn.mul kck).mono (by omega)) (by decide);have gf:=hf.f4;have gx:=hx.f4;have gy:=hy.f4;obtain⟨u1,u2,u3,u4,rfl,gu⟩:=hu.gen;obtain⟨i1,i2,i3,i4,rfl,gi⟩:=se.gen
 obtain⟨k1,k2,k3,k4,rfl,gk⟩:=dh.gen;obtain⟨p1,p2,p3,p4,rfl,gp⟩:=hpx.gen;obtain⟨q1,q2,q3,q4,rfl,gq⟩:=Ye.gen;have qX:=hs;have aBl:=hsx;have aBm:=hsy;obtain⟨s1,s2,s3,s4,rfl,gs⟩:=hs.gen;obtain⟨v1,v2,v3,v4,rfl,gv⟩:=hsx.gen;obtain⟨w1,w2,w3,w4,rfl,gw⟩:=hsy.gen;refine⟨[s1,s2,s3,s4,v1,v2,v3,v4,w1,w2,w3,w4],[(8,.cells ydo ydo ydo 4 [u1,u2,u3,u4]),(7,.cells ydo ydo ydo 2 [aa ((a*S+i:Nat):Int),aa ((b*S+k:Nat):Int)]),(6,.cells ydo ydo ydo 2 [aa i,aa k])],⟨_,_,_,_,_,_,_,_,_,_,_,_,rfl,qX,aBl,aBm⟩,?_,?_⟩
 .intro p hp;simp only[wB,yaA,or_false] at hp;rcases hp with rfl | rfl | rfl<;>simp
 unfold ah at e1 e2 e3 e4 e5 e6 e7 e8;have z1:Nat->Nat->AV:=fun _ _=>.af
 generalize hA:((a*S+i:Nat):Int)=A at*
 generalize hB:((b*S+k:Nat):Int)=B at*
 have fV:∀Ac Bc,D P L oJ ⟨(19,.agg [aa A,aa B])::(18,.agg [aa i,aa k])::TM,jK Ac Bc TM C R S a b g cap [a1,a2,a3,a4,a5,a6,a7,a8,a9,dj,dl,a12] 0,6,6⟩=F5 (.normal,⟨(9,.ptr 7 0)::(8,.ptr 6 0)::(19,.agg [aa A,aa B])::(18,.agg [aa i,aa k])::TM,(7,.cells ydo ydo ydo 2 [aa A,aa B])::(6,.cells ydo ydo ydo 2 [aa i,aa k])::jK Ac Bc TM C R S a b g cap [a1,a2,a3,a4,a5,a6,a7,a8,a9,dj,dl,a12] 0,8,6⟩):=by
  intro Ac Bc;unfold jK;simp only[go_sem,ya,yb,oJ,BR,Fs]
 have fQ:∀Ac Bc,∃tm,D P L oK ⟨(9,.ptr 7 0)::(8,.ptr 6 0)::(19,.agg [aa A,aa B])::(18,.agg [aa i,aa k])::TM,(7,.cells ydo ydo ydo 2 [aa A,aa B])::(6,.cells ydo ydo ydo 2 [aa i,aa k])::jK Ac Bc TM C R S a b g cap [a1,a2,a3,a4,a5,a6,a7,a8,a9,dj,dl,a12] 1,8,8⟩=F5 (.normal,⟨tm,(8,.cells ydo ydo ydo 4 [u1,u2,u3,u4])::(7,.cells ydo ydo ydo 2 [aa A,aa B])::(6,.cells ydo ydo ydo 2 [aa i,aa k])::jK Ac Bc TM C R S a b g cap [s1,s2,s3,s4,v1,v2,v3,v4,w1,w2,w3,w4] 1,9,8⟩):=by
  intro Ac Bc;unfold jK;simp only[go_sem,ya,yb,oK,Ft,zi,bY,t3,t5,t7,bg,yd,yg,yX,jP,eS,hc.z,e1,aO,gu.st,bi,gf.ai,gu.ai,e4,gs.r9,e2,gi.ai,e5,gx.ai,gp.ai,e7,gv.Nf,e3,gk.ai,e6,gy.ai,gq.ai,e8,gw.st8];exact⟨_,rfl⟩
 obtain⟨tm,fQ⟩:=fQ oJ oK
 have:=JP (P:=P) (L:=L) (hp:=jK oJ oK TM C R S a b g cap [a1,a2,a3,a4,a5,a6,a7,a8,a9,dj,dl,a12] 0) (ct:=6) (l:=5) (xs:=[.agg [aa i,aa k],.agg [aa A,aa B]]) rfl rfl (fV _ _) rfl fQ rfl
 unfold R4;rw[hA,hB];exact this
def sF(q:Nat->Nat->Rat)(a b S t:Nat):Rat:=q (a*S+t%S) (b*S+t/S)
def D0(q:Nat->Nat->Rat)(a b S t:Nat):Rat:=sF q a b S t*dU S (t%S)
def D1(q:Nat->Nat->Rat)(a b S t:Nat):Rat:=sF q a b S t*dU S (t/S)
def GU(hi:i<S):(k*S+i)%S=i:=by rw[xA,Nat.mul_add_mod,Nat.mod_eq_of_lt hi]
def GV(hi:i<S):(k*S+i)/S=k:=by rw[xA,Nat.mul_add_div (by omega),Nat.div_eq_of_lt hi,yZ]
def oS(ha:a<C)(hi:i<S):a*S+i<C*S:=by
 have:=yT S (show a+1<=C by omega)
 rw[xY,yaU] at this;omega
def awv{q:Nat->Nat->Rat}(hi:i<S):sF q a b S (k*S+i)=q (a*S+i) (b*S+k):=by unfold sF;rw[GU hi,GV hi]
def sY{t:Nat}(h:t<S*S):t%S<S/\t/S<S:=by
 have h0:0<S:=yam (fun e=>by subst e;simp at h);exact⟨xD _ h0,ybz h⟩
section
variable {q:Nat->Nat->Rat}{a b C R S:Nat}(kq:∀c r,c<C*S->r<R*S->Hq 3000 (q c r))(ha:a<C)(hb:b<R)(hS:S<=8)
include kq ha hb
theorem VJ{t:Nat}(h:t<S*S):Hq 3000 (sF q a b S t):=kq _ _ (oS ha (sY h).1) (oS hb (sY h).2)
include hS
theorem ayz{t:Nat}(h:t<S*S):Hq 3080 (D0 q a b S t):=(VJ kq ha hb h).mul (GS hS (by have:=(sY h).1;omega))
theorem ayA{t:Nat}(h:t<S*S):Hq 3080 (D1 q a b S t):=(VJ kq ha hb h).mul (GS hS (by have:=(sY h).2;omega))
theorem af0{n:Nat}(hn:n<=S*S):Hq 300000 (aW (sF q a b S) n)/\Hq 300000 (aW (D0 q a b S) n)/\Hq 300000 (aW (D1 q a b S) n):=by
 have h64:S*S<=64:=xC hS hS
 exact⟨(G3 (N:=S*S) (fun t ht=>VJ kq ha hb ht) hn).mono (by omega),(G3 (N:=S*S) (fun t ht=>ayz kq ha hb hS ht) hn).mono (by omega),(G3 (N:=S*S) (fun t ht=>ayA kq ha hb hS ht) hn).mono (by omega)⟩
end
def aBn(h:Mom P L){q:Nat->Nat->Rat}(t3:aj TM 3=.ptr 0 0)(t5:aj TM 5=.ptr 2 0)(t7:aj TM 7=.ptr 4 0)(t17:aj TM 17=.fn (.f 719) [] [dN C R S,iZ a b])(zK:lH 5 TM)(hn:(fj TM).length<=1000)(hc:Ao cap)(hC:C<=8)(hR:R<=8)(hS:S<=8)(ha:a<C)(hb:b<R)(hq:YY P L g cap (C*S) (R*S) q)(kq:∀c r,c<C*S->r<R*S->Hq 3000 (q c r))(hM:Mo M 0 0 0){Q:Option (Ex×St)}(hQ:D P L (.rf (.t 17) [18,19] oJ oK) ⟨TM,[(4,.cells ydo ydo ydo 12 M),(3,.cells ydo ydo ydo 12 Ma),(2,.cells ydo ydo ydo 1 [.fn (.f g) [] cap]),(1,.cells ydo ydo ydo 2 [aa a,aa b]),(0,.cells ydo ydo ydo 3 [aa C,aa R,aa S])],5,0⟩=Q):
  ∃M',Mo M' (aW (sF q a b S) (S*S)) (aW (D0 q a b S) (S*S)) (aW (D1 q a b S) (S*S))/\Q=F5 (.normal,⟨TM,[(4,.cells ydo ydo ydo 12 M'),(3,.cells ydo ydo ydo 12 Ma),(2,.cells ydo ydo ydo 1 [.fn (.f g) [] cap]),(1,.cells ydo ydo ydo 2 [aa a,aa b]),(0,.cells ydo ydo ydo 3 [aa C,aa R,aa S])],6,0⟩):=by
 have AZ:∀M,mB 6 5 (jK oJ oK TM C R S a b g cap M 0)=(jK oJ oK TM C R S a b g cap M 0,6):=fun M=>acu (J:=[]) (by simp) (VH zK hc M 0) (by omega) (VI hn M 0)
 obtain⟨H,c,⟨M',rfl,rfl,Ja⟩,e⟩:=afX (P:=P) (L:=L) h.L6 (f:=.t 17) (ps:=[18,19]) (as_:=oJ) (body:=oK) (s:=⟨TM,[(4,.cells ydo ydo ydo 12 M),(3,.cells ydo ydo ydo 12 Ma),(2,.cells ydo ydo ydo 1 [.fn (.f g) [] cap]),(1,.cells ydo ydo ydo 2 [aa a,aa b]),(0,.cells ydo ydo ydo 3 [aa C,aa R,aa S])],5,0⟩) (C:=C) (R:=R) (a:=a) (b:=b) hS (by omega) (by omega) t17
  (Inv:=fun j H c=>∃M,H=jK oJ oK TM C R S a b g cap M 0/\c=6/\Mo M (aW (sF q a b S) j) (aW (D0 q a b S) j) (aW (D1 q a b S) j))
  ⟨by rintro j H c ⟨M,rfl,rfl,_⟩;exact AZ M,by
   rintro j H c ⟨M,rfl,rfl,_⟩ tm ct
   exact SH (live:=[]) trivial (VH zK hc M 0) (by have:=VI hn (A:=oJ) (B:=oK) (C:=C) (R:=R) (S:=S) (a:=a) (b:=b) (g:=g) (cap:=cap) M 0;show 0+(dO 6 (jK oJ oK TM C R S a b g cap M 0)).length<100000;omega),by rintro j H c ⟨M,rfl,rfl,_⟩;exact⟨_,_,_,_,rfl⟩⟩
  ⟨_,_,AZ M,M,rfl,rfl,hM⟩ (by
   rintro k i H c hk hi ⟨M,rfl,rfl,hM⟩;obtain⟨u,e1,hu⟩:=hq (a*S+i) (b*S+k) (oS ha hi) (oS hb hk);have kn:=kq (a*S+i) (b*S+k) (oS ha hi) (oS hb hk);have hj:k*S+i<=S*S:=by
    have:=oS (S:=S) hk hi
    omega
   obtain⟨kf,kx,ky⟩:=af0 kq ha hb hS hj;obtain⟨M',J,h1,h2,h3⟩:=aBk h t3 t5 t7 hc hM kf kx ky hS hk hi kn e1 hu;refine⟨_,_,_,_,h3,acu h2 (VH zK hc M' 0) (by omega) (VI hn M' 0),M',rfl,rfl,?_⟩;simp only[aW,D0,D1,awv hi,GU hi,GV hi]
   exact h1)
 exact⟨M',Ja,by rw[<-hQ,e];rfl⟩
def Mo.ai(h:Mo M f x y)(n:Nat)(hp:Hp):freeze (n+30) hp (.agg M)=F5 (.agg M,hp):=by
 obtain⟨a1,a2,a3,a4,a5,a6,a7,a8,a9,dj,dl,a12,rfl,h1,h2,h3⟩:=h;have g1:=h1.f4;have g2:=h2.f4;have g3:=h3.f4;exact cm _ _ (by simp only[go_sem,g1.z1,g1.z2,g1.z3,g1.z4,g2.z1,g2.z2,g2.z3,g2.z4,g3.z1,g3.z2,g3.z3,g3.z4])
def Mo.dX(h:Mo M f x y)(hp:Hp):result hp (.agg M)=F5 (.agg M):=by
 have e:=h.ai 970 hp;simp only[yb] at e;simp only[result,pX,deep,e]
def Mo.ld(h:Mo M f x y):fU 12 ydo M=F5 (.agg M):=by
 obtain⟨a1,a2,a3,a4,a5,a6,a7,a8,a9,dj,dl,a12,rfl,h1,h2,h3⟩:=h;rfl
def aBo(h:Mom P L){q:Nat->Nat->Rat}(hc:Ao cap)(hC:C<=8)(hR:R<=8)(hS:S<=8)(ha:a<C)(hb:b<R)(hq:YY P L g cap (C*S) (R*S) q)(kq:∀c r,c<C*S->r<R*S->Hq 3000 (q c r)):
  ∃M,ah P L 724 [.agg [aa C,aa R,aa S],.agg [aa a,aa b],.fn (.f g) [] cap] (.agg M)/\Mo M (aW (sF q a b S) (S*S)) (aW (D0 q a b S) (S*S)) (aW (D1 q a b S) (S*S)):=by
 obtain⟨z,e1,hz⟩:=DP h.toFr' (z:=0) (by omega) (by omega);have dw:=hz;obtain⟨z1,z2,z3,z4,rfl,gz⟩:=hz.gen;have e2:ah P L 673 [.agg [aa C,aa R,aa S],.agg [aa a,aa b]] (.fn (.f 719) [] [dN C R S,iZ a b]):=by
  unfold ah;rw[aG h.ahJ];simp only[go_sem,ya,yb,Ql,BQ,BR]
  first | done | rfl
 have B8:Mo [z1,z2,z3,z4,z1,z2,z3,z4,z1,z2,z3,z4] 0 0 0:=⟨_,_,_,_,_,_,_,_,_,_,_,_,rfl,dw,dw,dw⟩;unfold ah at e1 e2;have Di:=fun hp ct id (N:List AV) (hN:N.length=12)=>HH B8 hp ct id hN
 have pf:db (.fn (.f g) [] cap)=ydo:=rfl;have hbx:∀ct,oX ct 1 [.fn (.f g) [] cap]=F5 (.ptr ct 0,.cells ydo ydo ydo 1 [.fn (.f g) [] cap]):=fun ct=>by
  rw[aO (n:=1) rfl (by simp[bP,pf])];simp[aE,aV,hc.pu]
 have aY:bP [z1,z2,z3,z4]=ydo:=gz.o;unfold ah;rw[aG h.aBj];simp only[go_sem,ya,yb,yi,Wj,aO,hc.pu,aY,ybm,yL,wF,yB,yg,yX,e1,bi,nI,over,Di,bY,jP,Ft,zi,e2];have pz:=gz.p;simp only[aE,ye,uf] at pz;obtain⟨pz1,pz2,pz3,pz4⟩:=pz;generalize hQ:D P L (.rf _ _ _ _) _=Q;obtain⟨M',Ja,rfl⟩:=aBn h rfl rfl rfl rfl (by
  have b1:=nF (n:=5) pz1;have b2:=nF (n:=5) pz2;have b3:=nF (n:=5) pz3;have b4:=nF (n:=5) pz4;have b5:=F7 (n:=5) hc.pu
  simp[lH,below,oL,dN,iZ,b1,b2,b3,b4,b5]) (by simp[fj,refs,gG,dN,iZ,jL pz1,jL pz2,jL pz3,jL pz4,zS hc.pu]) hc hC hR hS ha hb hq kq B8 hQ
 refine⟨M',?_,Ja⟩;have hl:=Ja.ld;have hs:=fun hp ct id (N:List AV) (hN:N.length=12)=>HH Ja hp ct id hN
 simp only[go_sem,ya,yb,yg,hl,Ma,hs,cJ,cK,Ja.dX]
end
def af1(a b:AV)(r:List AV):rG 2 1 0 (.bt (a::b::r))=F5 (.bt (a::b::r)):=rfl
def af2(a b:AV)(r:List AV):rG 2 1 1 (.bt (a::b::r))=F5 (.bt (b::r)):=rfl
noncomputable def R5(l:List ri):Int:=if 64<l.length then 5 else bF (l.map FW)
def hF(vs mc:List AV):Hp:=[(1,.cells ydo ydo ydo 4 mc),(0,.cells ydo ydo ydo 4 vs)]
section
variable {M T cap:List AV}{f x y:Rat}
structure Cen(P:aF)(L:Lib):Prop extends Mom P L,Tx P L where
 aBp:Has P L 672 Qk
 L7:Has P L 686 LB
 aBq:Has P L 688 Wg
 HE:Has P L 718 Hm
 QW:Has P L 122 Lf
 QX:Has P L 123 Lg
 HF:Has P L 160 Hg
def aBr(h:Has P L 672 Qk)(C R S:Nat):ah P L 672 [.agg [aa C,aa R,aa S]] (.fn (.f 718) [] [dN C R S]):=by
 unfold ah;rw[aG h];simp only[go_sem,ya,yb,Qk,BQ]
 first | done | rfl
def abh{hp:Hp}{ct l:Nat}{xs:List AV}{tm tm' gM lQ:Env}{ps qG zm:List Nat}{a b a1 b1 a2 b2:VC}{pe oc Rk:sZ}{s1 s2:St}(h1:ak hp l=F5 (.lp tm ps a b 0 pe))(h2:rD tm ps xs=F5 tm')(h3:D P L a ⟨tm',hp,ct,ct⟩=F5 (.normal,s1))(h4:ak s1.hp l=F5 (.lp gM qG a1 b1 0 oc))(h5:D P L b ⟨s1.tm,aU s1.hp l (.lp gM qG a1 b1 1 oc),s1.ct,s1.ct⟩=F5 (.ret,s2))(h6:ak s2.hp l=F5 (.lp lQ zm a2 b2 1 Rk)):
  ie (D P L) hp ct l xs=F5 (.bool ydp,aU s2.hp l (.lp lQ zm a2 b2 2 .ret),s2.ct):=by
 simp only[ie,h1,h2,h3,h4,h5,h6,OR]
def gD(C R S g:Nat)(cap:List AV):Env:=[(16,.fn (.f 718) [] [dN C R S]),(15,.agg [aa C,aa R,aa S]),(6,.ptr 4 0),(5,.ptr 3 0),(4,.ptr 2 0),(3,.ptr 1 0),(2,.ptr 0 0),(0,.agg [aa C,aa R,aa S]),(1,.fn (.f g) [] cap)]
def eA(A B:VC)(C R S g:Nat)(cap:List AV):Nat->List AV->Nat->Hp
 | 0,_,st=>[(5,.lp (gD C R S g cap) [17,18] A B st .none),(4,.cells ydo ydo ydo 1 [.af]),(3,.cells ydo ydo ydo 1 [aa 0]),(2,.cells ydo ydo ydo 1 [.af]),(1,.cells ydo ydo ydo 1 [.fn (.f g) [] cap]),(0,.cells ydo ydo ydo 3 [aa C,aa R,aa S])]
 | n+1,T,st=>[(6,.cells ydo ydo ydp 12 T),(5,.lp (gD C R S g cap) [17,18] A B st .none),(4,.cells ydo ydp ydo 1 [.ay 6 0 (n+1)]),(3,.cells ydo ydo ydo 1 [aa 0]),(2,.cells ydo ydo ydo 1 [.af]),(1,.cells ydo ydo ydo 1 [.fn (.f g) [] cap]),(0,.cells ydo ydo ydo 3 [aa C,aa R,aa S])]
def D2:Nat->Nat
 | 0=>6
 | _+1=>7
def Mo.cells(h:Mo M f x y):M.length=12/\bP M=ydo/\aE M=ydo:=by
 obtain⟨a1,a2,a3,a4,a5,a6,a7,a8,a9,dj,dl,a12,rfl,h1,h2,h3⟩:=h;have g1:=h1.f4;have g2:=h2.f4;have g3:=h3.f4;have p1:=g1.p;have p2:=g2.p;have p3:=g3.p;simp only[aE,ye,uf] at p1 p2 p3;exact⟨rfl,by simp[bP,g1.o1,g1.o2,g1.o3,g1.o4,g2.o1,g2.o2,g2.o3,g2.o4,g3.o1,g3.o2,g3.o3,g3.o4],by simp[aE,p1,p2,p3]⟩
def apT(h:0<f):¬bV f.num<=0:=by
 have:=(alY f).2 h
 omega
def aww{tm:Env}{x1 x2 x3 x4 x5 x6 x7 x8 x9 x10 x11 x12 a1 a2 a3 a4 a5 a6 a7 a8 a9 dj dl a12:AV}(h:bP [a1,a2,a3,a4,a5,a6,a7,a8,a9,dj,dl,a12]=ydo):fJ tm [x1,x2,x3,x4,x5,x6,x7,x8,x9,x10,x11,x12] 0 12 [a1,a2,a3,a4,a5,a6,a7,a8,a9,dj,dl,a12] []=F5 [a1,a2,a3,a4,a5,a6,a7,a8,a9,dj,dl,a12]:=by
 simp only[fJ,h];rfl
def aes(dG pu ex:Bool)(a1 a2 a3 a4 a5 a6 a7 a8 a9 dj dl a12:AV):RI 0 1 12 (F5 (.cells dG pu ex 12 [a1,a2,a3,a4,a5,a6,a7,a8,a9,dj,dl,a12]))=F5 (1,[a1,a2,a3,a4,a5,a6,a7,a8,a9,dj,dl,a12]):=rfl
def aBs(h:Cen P L){C R S g k a b n:Nat}(hc:Ao cap)(hT:T.length=n*12)(hn:n<=64)(hM:Mo M f x y)(hf:0<f)(e1:ah P L 724 [.agg [aa C,aa R,aa S],.agg [aa a,aa b],.fn (.f g) [] cap] (.agg M)):
  ∃hp aH,ie (D P L) (eA jc jd C R S g cap n T 0) (D2 n) 5 [aa k,.agg [aa a,aa b]]=F5 (.bool ydo,hp,aH)/\mB 6 5 hp=(eA jc jd C R S g cap (n+1) (T++M) 0,7):=by
 have hl:=hM.ld;have hs:=fun hp ct id (N:List AV) (hN:N.length=12)=>HH hM hp ct id hN
 obtain⟨m1,m2,m3⟩:=hM.cells;obtain⟨a1,a2,a3,a4,a5,a6,a7,a8,a9,dj,dl,a12,rfl,mD,R6,hy1⟩:=hM;have e2:=Hu h.toFr' mD;have g1:=mD.f4;have iB:=hc.z;have Ar:decide (bV f.num<=0)=ydp:=yY (apT hf);unfold ah at e1 e2;have K7:=fun tm (y1 y2 y3 y4 y5 y6 y7 y8 y9 y10 y11 y12:AV)=>aww (tm:=tm) (x1:=y1) (x2:=y2) (x3:=y3) (x4:=y4) (x5:=y5) (x6:=y6) (x7:=y7) (x8:=y8) (x9:=y9) (x10:=y10) (x11:=y11) (x12:=y12) m2
 match n,hT with
 | 0,hT=>
  have hT:T=[]:=vd.1 (by simpa using hT);subst hT;have fV:∀Ac Bc,D P L jc ⟨(18,.agg [aa a,aa b])::(17,aa k)::gD C R S g cap,eA Ac Bc C R S g cap 0 [] 0,6,6⟩=F5 (.normal,⟨(8,.ptr 6 0)::(18,.agg [aa a,aa b])::(17,aa k)::gD C R S g cap,(6,.cells ydo ydo ydo 2 [aa a,aa b])::eA Ac Bc C R S g cap 0 [] 0,7,6⟩):=by
   intro Ac Bc;unfold eA;simp only[go_sem,ya,yb,jc,BR,Fs]
  have fQ:∀Ac Bc,∃tm,D P L jd ⟨(8,.ptr 6 0)::(18,.agg [aa a,aa b])::(17,aa k)::gD C R S g cap,(6,.cells ydo ydo ydo 2 [aa a,aa b])::eA Ac Bc C R S g cap 0 [] 1,7,7⟩=F5 (.normal,⟨tm,[(9,.cells ydo ydo ydp 12 [a1,a2,a3,a4,a5,a6,a7,a8,a9,dj,dl,a12]),(8,.cells ydo ydo ydo 12 [a1,a2,a3,a4,a5,a6,a7,a8,a9,dj,dl,a12]),(7,.cells ydo ydo ydo 12 [a1,a2,a3,a4,a5,a6,a7,a8,a9,dj,dl,a12]),(6,.cells ydo ydo ydo 2 [aa a,aa b]),(5,.lp (gD C R S g cap) [17,18] Ac Bc 1 .none),(4,.cells ydo ydp ydo 1 [.ay 9 0 1]),(3,.cells ydo ydo ydo 1 [aa 0]),(2,.cells ydo ydo ydo 1 [.af]),(1,.cells ydo ydo ydo 1 [.fn (.f g) [] cap]),(0,.cells ydo ydo ydo 3 [aa C,aa R,aa S])],10,7⟩):=by
   intro Ac Bc;unfold eA;simp only[go_sem,ya,yb,xk,yq,yi,jd,gD,bg,yd,jP,bY,eS,zi,Ft,iB,KI,KJ,KK,e1,bi,aO,yg,hs,hl,g1.ai,e2,Ar,K7,eX,m1,m3,SV,SF,aes,gE,rP];exact⟨_,rfl⟩
  obtain⟨tm,fQ⟩:=fQ jc jd
  refine⟨_,_,JP (P:=P) (L:=L) (hp:=eA jc jd C R S g cap 0 [] 0) (ct:=6) (l:=5) (xs:=[aa k,.agg [aa a,aa b]]) rfl rfl (fV _ _) rfl fQ rfl,?_⟩;simp only[go_sem,ya,yb,yq,yi,CA,eA,gD,dN,zS hc.pu,A8 _ hc.pu]
 | n+1,hT=>
  have Xh:=fun (hp:Hp) (ct:Nat) (hg:ak hp 6=F5 (.cells ydo ydo ydp 12 T))=>dS (ct:=ct) (by':=192) (new:=[a1,a2,a3,a4,a5,a6,a7,a8,a9,dj,dl,a12]) (m:=1) (n:=n+1) hg hT (by omega) (by omega) (by decide) m2
  have fV:∀Ac Bc,D P L jc ⟨(18,.agg [aa a,aa b])::(17,aa k)::gD C R S g cap,eA Ac Bc C R S g cap (n+1) T 0,7,7⟩=F5 (.normal,⟨(8,.ptr 7 0)::(18,.agg [aa a,aa b])::(17,aa k)::gD C R S g cap,(7,.cells ydo ydo ydo 2 [aa a,aa b])::eA Ac Bc C R S g cap (n+1) T 0,8,7⟩):=by
   intro Ac Bc;unfold eA;simp only[go_sem,ya,yb,jc,BR,Fs]
  have fQ:∀Ac Bc,∃tm,D P L jd ⟨(8,.ptr 7 0)::(18,.agg [aa a,aa b])::(17,aa k)::gD C R S g cap,(7,.cells ydo ydo ydo 2 [aa a,aa b])::eA Ac Bc C R S g cap (n+1) T 1,8,8⟩=F5 (.normal,⟨tm,[(10,.cells ydo ydo ydp 12 (T++[a1,a2,a3,a4,a5,a6,a7,a8,a9,dj,dl,a12])),(9,.cells ydo ydo ydo 12 [a1,a2,a3,a4,a5,a6,a7,a8,a9,dj,dl,a12]),(8,.cells ydo ydo ydo 12 [a1,a2,a3,a4,a5,a6,a7,a8,a9,dj,dl,a12]),(7,.cells ydo ydo ydo 2 [aa a,aa b]),(5,.lp (gD C R S g cap) [17,18] Ac Bc 1 .none),(4,.cells ydo ydp ydo 1 [.ay 10 0 (n+1+1)]),(3,.cells ydo ydo ydo 1 [aa 0]),(2,.cells ydo ydo ydo 1 [.af]),(1,.cells ydo ydo ydo 1 [.fn (.f g) [] cap]),(0,.cells ydo ydo ydo 3 [aa C,aa R,aa S])],11,8⟩):=by
   intro Ac Bc;unfold eA;simp only[go_sem,ya,yb,xk,jd,gD,bg,yd,jP,bY,eS,zi,Ft,iB,KI,KJ,KK,e1,bi,aO,yg,hs,hl,g1.ai,e2,Ar,K7,eX,m1,m3,SV,SF,aes,Xh,rP,wG];exact⟨_,rfl⟩
  obtain⟨tm,fQ⟩:=fQ jc jd
  refine⟨_,_,JP (P:=P) (L:=L) (hp:=eA jc jd C R S g cap (n+1) T 0) (ct:=7) (l:=5) (xs:=[aa k,.agg [aa a,aa b]]) rfl rfl (fV _ _) rfl fQ rfl,?_⟩;simp only[go_sem,ya,yb,yq,yi,CA,eA,gD,dN,zS hc.pu,A8 _ hc.pu]
def af3(hp:Hp)(_:Nat):Prop:=ak (c7 hp 5) 2=F5 (.cells ydo ydo ydo 1 [.af])/\ak (c7 hp 5) 3=F5 (.cells ydo ydo ydo 1 [aa 6])
def ayB(h:Cen P L){C R S g k a b n:Nat}(hc:Ao cap)(hM:Mo M f x y)(hf:¬0<f)(e1:ah P L 724 [.agg [aa C,aa R,aa S],.agg [aa a,aa b],.fn (.f g) [] cap] (.agg M)):
  ∃hp aH tm p A B,ie (D P L) (eA jc jd C R S g cap n T 0) (D2 n) 5 [aa k,.agg [aa a,aa b]]=F5 (.bool ydp,hp,aH)/\ak hp 5=F5 (.lp tm p A B 2 .ret)/\af3 hp aH:=by
 have hl:=hM.ld;have hs:=fun hp ct id (N:List AV) (hN:N.length=12)=>HH hM hp ct id hN
 obtain⟨m1,m2,m3⟩:=hM.cells;obtain⟨a1,a2,a3,a4,a5,a6,a7,a8,a9,dj,dl,a12,rfl,mD,R6,hy1⟩:=hM;have e2:=Hu h.toFr' mD;have g1:=mD.f4;have iB:=hc.z;have Ar:decide (bV f.num<=0)=ydo:=by rw[asf];exact xf (vv.1 hf)
 unfold ah at e1 e2
 cases n with
 | zero=>
  have fV:∀Ac Bc,D P L jc ⟨(18,.agg [aa a,aa b])::(17,aa k)::gD C R S g cap,eA Ac Bc C R S g cap 0 T 0,6,6⟩=F5 (.normal,⟨(8,.ptr 6 0)::(18,.agg [aa a,aa b])::(17,aa k)::gD C R S g cap,(6,.cells ydo ydo ydo 2 [aa a,aa b])::eA Ac Bc C R S g cap 0 T 0,7,6⟩):=by
   intro Ac Bc;unfold eA;simp only[go_sem,ya,yb,jc,BR,Fs]
  have fQ:∀Ac Bc,∃tm,D P L jd ⟨(8,.ptr 6 0)::(18,.agg [aa a,aa b])::(17,aa k)::gD C R S g cap,(6,.cells ydo ydo ydo 2 [aa a,aa b])::eA Ac Bc C R S g cap 0 T 1,7,7⟩=F5 (.ret,⟨tm,[(7,.cells ydo ydo ydo 12 [a1,a2,a3,a4,a5,a6,a7,a8,a9,dj,dl,a12]),(6,.cells ydo ydo ydo 2 [aa a,aa b]),(5,.lp (gD C R S g cap) [17,18] Ac Bc 1 .none),(4,.cells ydo ydo ydo 1 [.af]),(3,.cells ydo ydo ydo 1 [aa 6]),(2,.cells ydo ydo ydo 1 [.af]),(1,.cells ydo ydo ydo 1 [.fn (.f g) [] cap]),(0,.cells ydo ydo ydo 3 [aa C,aa R,aa S])],8,7⟩):=by
   intro Ac Bc;unfold eA;simp only[go_sem,ya,yb,jd,gD,bg,yd,jP,bY,eS,zi,Ft,iB,KI,KJ,KK,e1,bi,aO,yg,hs,g1.ai,e2,Ar,rP];exact⟨_,rfl⟩
  obtain⟨tm,fQ⟩:=fQ jc jd
  exact⟨_,_,_,_,_,_,abh (P:=P) (L:=L) (hp:=eA jc jd C R S g cap 0 T 0) (ct:=6) (l:=5) (xs:=[aa k,.agg [aa a,aa b]]) rfl rfl (fV _ _) rfl fQ rfl,rfl,rfl,rfl⟩
 | succ n=>
  have fV:∀Ac Bc,D P L jc ⟨(18,.agg [aa a,aa b])::(17,aa k)::gD C R S g cap,eA Ac Bc C R S g cap (n+1) T 0,7,7⟩=F5 (.normal,⟨(8,.ptr 7 0)::(18,.agg [aa a,aa b])::(17,aa k)::gD C R S g cap,(7,.cells ydo ydo ydo 2 [aa a,aa b])::eA Ac Bc C R S g cap (n+1) T 0,8,7⟩):=by
   intro Ac Bc;unfold eA;simp only[go_sem,ya,yb,jc,BR,Fs]
  have fQ:∀Ac Bc,∃tm,D P L jd ⟨(8,.ptr 7 0)::(18,.agg [aa a,aa b])::(17,aa k)::gD C R S g cap,(7,.cells ydo ydo ydo 2 [aa a,aa b])::eA Ac Bc C R S g cap (n+1) T 1,8,8⟩=F5 (.ret,⟨tm,[(8,.cells ydo ydo ydo 12 [a1,a2,a3,a4,a5,a6,a7,a8,a9,dj,dl,a12]),(7,.cells ydo ydo ydo 2 [aa a,aa b]),(6,.cells ydo ydo ydp 12 T),(5,.lp (gD C R S g cap) [17,18] Ac Bc 1 .none),(4,.cells ydo ydp ydo 1 [.ay 6 0 (n+1)]),(3,.cells ydo ydo ydo 1 [aa 6]),(2,.cells ydo ydo ydo 1 [.af]),(1,.cells ydo ydo ydo 1 [.fn (.f g) [] cap]),(0,.cells ydo ydo ydo 3 [aa C,aa R,aa S])],9,8⟩):=by
   intro Ac Bc;unfold eA;simp only[go_sem,ya,yb,jd,gD,bg,yd,jP,bY,eS,zi,Ft,iB,KI,KJ,KK,e1,bi,aO,yg,hs,g1.ai,e2,Ar,rP];exact⟨_,rfl⟩
  obtain⟨tm,fQ⟩:=fQ jc jd
  exact⟨_,_,_,_,_,_,abh (P:=P) (L:=L) (hp:=eA jc jd C R S g cap (n+1) T 0) (ct:=7) (l:=5) (xs:=[aa k,.agg [aa a,aa b]]) rfl rfl (fV _ _) rfl fQ rfl,rfl,rfl,rfl⟩
end
section
variable {cap:List AV}{C R S g:Nat}
abbrev MT:=Rat×Rat×Rat
def oz(t:MT):Rat×Rat:=(t.2.1/t.1,t.2.2/t.1)
def sG(t:MT):Bool:=LG (oz t).1||LG (oz t).2
noncomputable def Jb(t:MT):ri:=(RT (oz t).1,RT (oz t).2)
def MoS(Ms:List (List AV))(ts:List MT):Prop:=jB (fun M t=>Mo M t.1 t.2.1 t.2.2) Ms ts
noncomputable def mh(ts:List MT):List AV:=(ts.map fun t=>I9 (Jb t)).flatten
def ady(ts:List MT):(mh ts).length=ts.length*2:=by
 unfold mh
 rw[N1 (k:=2) (fun p hp=>by obtain⟨t,_,rfl⟩:=vM.1 hp;rfl),xi]
def apU(ts:List MT)(t:MT):mh (ts++[t])=mh ts++I9 (Jb t):=by unfold mh;simp
def rU(n i:Nat)(T O:List AV):St:=match i with
 | 0=>⟨[(4,.ptr 0 0),(5,.ptr 1 0),(10,.af),(31,.ay 2 0 n),(32,aa n),(33,aa 0)],[(2,.cells ydo ydo ydp 12 T),(1,.cells ydo ydo ydo 1 [aa 0]),(0,.cells ydo ydo ydo 1 [.af])],3,0⟩
 | i+1=>⟨[(4,.ptr 0 0),(5,.ptr 1 0),(10,.ay 2 0 (i+1)),(31,.ay 3 0 n),(32,aa n),(33,aa ((i+1:Nat):Int))],[(3,.cells ydo ydo ydp 12 T),(2,.cells ydo ydo ydp 2 O),(1,.cells ydo ydo ydo 1 [aa 0]),(0,.cells ydo ydo ydo 1 [.af])],4,0⟩
def awx(h:Cen P L){Ms:List (List AV)}{ts:List MT}{n:Nat}(hn:ts.length=n)(aFN:n<=64)(hM:MoS Ms ts)(hp:∀t,t∈ts->0<t.1)(hk:∀t,t∈ts->Hq 300000 t.1/\Hq 300000 t.2.1/\Hq 300000 t.2.2):
  ∀d st,(∃i,i+d=n/\(ts.take i).any sG=ydp/\bE [4,5,10,31,32,33] st=rU n i Ms.flatten (mh (ts.take i)))->∃ex s',D P L (.loop [4,5,10,31,32,33] Bq) st=F5 (ex,s')/\
   ((ex=.ret/\ts.any sG=ydo/\∃tm hp ct,s'=⟨tm,hp,ct,0⟩/\aj tm 4=.ptr 0 0/\aj tm 5=.ptr 1 0/\ak hp 0=F5 (.cells ydo ydo ydo 1 [.af])/\ak hp 1=F5 (.cells ydo ydo ydo 1 [aa 4]))\/
    (ex=.exit 2/\ts.any sG=ydp/\∃tm ct,s'=⟨tm,(rU n n Ms.flatten (mh ts)).hp,ct,0⟩/\cd tm [4,5,10]=cd (rU n n Ms.flatten (mh ts)).tm [4,5,10])):=by
 have R7:Ms.length=n:=by rw[<-hn];exact hM.len
 have I3:∀p,p∈Ms->p.length=12:=fun p hp=>by
  obtain⟨i,hi,rfl⟩:=vR.1 hp;exact (hM.get hi (by rw[hn,<-R7];exact hi)).cells.1
 intro dq sq;generalize zI:bE [4,5,10,31,32,33] sq=s0;revert zI s0 sq dq;apply auQ;rintro d st ⟨i,hid,hB,rfl⟩;have hT:Ms.flatten.length=n*12:=by rw[N1 I3,R7]
 by_cases hi:i<n
 .have DG:i<Ms.length:=by omega
  have Jc:i<ts.length:=by omega
  have jK:=hM.get DG Jc;have ht:=hp _ (xI Jc);obtain⟨k1,k2,k3⟩:=hk _ (xI Jc);obtain⟨rest,PF⟩:=Tw I3 DG;have MD:(ts.take (i+1)).any sG=sG ts[i]:=by
   rw[xv Jc,List.any_append,hB];simp
  have YZ:mh (ts.take (i+1))=mh (ts.take i)++I9 (Jb ts[i]):=by
   rw[xv Jc,apU]
  have hOl:(mh (ts.take i)).length=i*2:=by rw[ady,yR,xF (by omega)]
  have HS:=jK.ld;have Di:=fun hp ct id (N:List AV) (hN:N.length=12)=>HH jK hp ct id hN
  obtain⟨m1,m2,m3⟩:=jK.cells;generalize zD:ts[i]=t at*
  generalize Ms[i]=M at*
  obtain⟨a1,a2,a3,a4,a5,a6,a7,a8,a9,dj,dl,a12,rfl,h1,h2,h3⟩:=jK;have Q0:∀(r:List AV),fU 12 ydo (a1::a2::a3::a4::a5::a6::a7::a8::a9::dj::dl::a12::r)=F5 (.agg [a1,a2,a3,a4,a5,a6,a7,a8,a9,dj,dl,a12]):=fun _=>rfl
  have h0:t.1≠0:=fun e=>by rw[e] at ht;exact absurd ht (by decide)
  obtain⟨vx,e1,hx⟩:=M3 h.toFr' h2 h1 h0 k2 k1 (by decide);obtain⟨vy,e2,hy⟩:=M3 h.toFr' h3 h1 h0 k3 k1 (by decide);have kx:Hq 600000 (t.2.1/t.1):=(k2.div k1).mono (by decide);have ky:Hq 600000 (t.2.2/t.1):=(k3.div k1).mono (by decide);have g1:=h1.f4;have g2:=h2.f4;have g3:=h3.f4;obtain⟨x1,x2,x3,x4,rfl,gx⟩:=hx.gen;obtain⟨y1,y2,y3,y4,rfl,gy⟩:=hy.gen;obtain⟨px1,px2,px3,px4⟩:=gx.I8;obtain⟨py1,py2,py3,py4⟩:=gy.I8;have hL:jD (.ap ydo 2 [x1,x2,x3,x4,y1,y2,y3,y4]) [(oz t).1,(oz t).2]:=Ol (l:=[(oz t).1,(oz t).2]) ydo (QL.cons hx (QL.cons hy QL.nil));have e9:=ahH h.L7 h.QW h.QX h.HF h.toTx hL (show 2<=1000000 by decide) (K:=600000) (fun z hz=>by
   rcases wB.1 hz with rfl | hz
   .exact kx
   .rcases wB.1 hz with rfl | hz
    .exact ky
    .exact absurd hz yaA) (by decide)
  have pl:aE [x1,x2,x3,x4,y1,y2,y3,y4]=ydo:=by simp only[aE,px1,px2,px3,px4,py1,py2,py3,py4,wG]
  have Xi:[(oz t).1,(oz t).2].any LG=sG t:=by simp[sG]
  rw[Xi] at e9;unfold ah at e1 e2;have mb:∀id,ik 12 i (.ay id 0 n)=F5 (.ptr id (0+i*12)):=fun id=>dd id 0 hi
  have aM:(i:Int)<n:=by omega
  have asn:dt (aa i)=F5 i:=rfl
  cases R8:sG t with
  | true=>
   right
   have e9:=e9.1 R8;have kP:ts.any sG=ydo:=by
    rw[yaz];exact⟨_,xI Jc,by rw[zD,R8]⟩
   unfold ah at e9
   cases i with
   | zero=>
    have qK:Ms.flatten=[a1,a2,a3,a4,a5,a6,a7,a8,a9,dj,dl,a12]++rest:=by simpa using PF
    have sC:(0:Int)<n:=by omega
    have Xj:∀id,ik 12 0 (.ay id 0 n)=F5 (.ptr id 0):=mb;simp only[go_sem,ya,yb,xk,yq,Bq,rU,sC,Xj,qK,bg,yd,Q0,Di,yg,yX,yB,yL,eS,g2.ai,g1.ai,g3.ai,e1,e2,bi,ON gx.o1 gx.o2 gx.o3 gx.o4,OO gy.o1 gy.o2 gy.o3 gy.o4,eX,pl,e9,rP,aO,show ¬(4:Int)=0 by decide,yP];exact⟨_,_,rfl,by simp,.inl ⟨rfl,kP,_,_,_,rfl,by simp only[go_sem,ya],by simp only[go_sem,ya],by simp only[go_sem,ya],by simp only[go_sem,ya]⟩⟩
   | succ i=>
    simp only[go_sem,ya,yb,xk,yq,Bq,rU,aM,mb,asn,PF,bg,yd,Q0,Di,yg,yX,yB,yL,eS,g2.ai,g1.ai,g3.ai,e1,e2,bi,ON gx.o1 gx.o2 gx.o3 gx.o4,OO gy.o1 gy.o2 gy.o3 gy.o4,eX,pl,e9,rP,aO,show ¬(4:Int)=0 by decide,yP];exact⟨_,_,rfl,by simp,.inl ⟨rfl,kP,_,_,_,rfl,by simp only[go_sem,ya],by simp only[go_sem,ya],by simp only[go_sem,ya],by simp only[go_sem,ya]⟩⟩
  | false=>
   left
   obtain⟨rs,lV,e9⟩:=e9.2 R8;have lV:nn rs [RT (oz t).1,RT (oz t).2]:=lV;have i0:=lV.bj (i:=0) (show 0<2 by decide);have i1:=lV.bj (i:=1) (show 1<2 by decide);simp only[wq,vn] at i0 i1;unfold ah at e9;have fe:∀a b:List Nat,cellsOf (.agg [AV.str a,.str b])=[.str a,.str b]:=fun _ _=>rfl
   have ahK:∀(tm:Env) (a b:List Nat),fJ tm [AV.str [],.str []] 0 2 [.str a,.str b] []=F5 [.str a,.str b]:=fun _ _ _=>rfl
   have AO:∀(dG pu ex:Bool) (a b:AV),RI 0 1 2 (F5 (.cells dG pu ex 2 [a,b]))=F5 (1,[a,b]):=fun _ _ _ _ _=>rfl
   rw[R8] at MD;unfold Jb I9 at YZ;generalize RT (oz t).1=tx at*
   generalize RT (oz t).2=ty at*
   cases i with
   | zero=>
    have qK:Ms.flatten=[a1,a2,a3,a4,a5,a6,a7,a8,a9,dj,dl,a12]++rest:=by simpa using PF
    have sC:(0:Int)<n:=by omega
    have Xj:∀id,ik 12 0 (.ay id 0 n)=F5 (.ptr id 0):=mb;simp only[go_sem,ya,yb,xk,yq,yi,Bq,rU,sC,Xj,qK,bg,yd,Q0,Di,yg,yX,yB,yL,eS,g2.ai,g1.ai,g3.ai,e1,e2,bi,ON gx.o1 gx.o2 gx.o3 gx.o4,OO gy.o1 gy.o2 gy.o3 gy.o4,eX,pl,e9,aO,yN,lV.bJ,i0,i1,fe,ahK,AO,gE];refine⟨_,d-1,rfl,by omega,1,by omega,MD,?_⟩;rw[YZ];have hz:mh (ts.take 0)=[]:=rfl;simp only[go_sem,ya,yb,az,hz,yL]
    try rfl
   | succ i=>
    have Xh:=fun (hp:Hp) (ct:Nat) (hg:ak hp 2=F5 (.cells ydo ydo ydp 2 (mh (ts.take (i+1)))))=>dS (ct:=ct) (by':=32) (new:=[AV.str tx,.str ty]) (m:=1) (n:=i+1) hg hOl (by omega) (by omega) (by decide) rfl
    simp only[go_sem,ya,yb,xk,yq,yi,Bq,rU,aM,mb,asn,PF,bg,yd,Q0,Di,yg,yX,yB,yL,eS,g2.ai,g1.ai,g3.ai,e1,e2,bi,ON gx.o1 gx.o2 gx.o3 gx.o4,OO gy.o1 gy.o2 gy.o3 gy.o4,eX,pl,e9,aO,yN,lV.bJ,i0,i1,fe,ahK,AO,Xh];refine⟨_,d-1,rfl,by omega,i+2,by omega,MD,?_⟩;rw[wrap64 (by omega) (by omega),YZ];simp only[go_sem,ya,yb,az]
    try rfl
 .right
  have bZ:i=n:=by omega
  subst bZ;rw[yK (by omega)] at hB ⊢
  cases i with
  | zero=>
   simp only[go_sem,ya,Bq,rU,show ¬(0:Int)<((0:Nat):Int) by decide];exact⟨_,_,rfl,by simp,.inr ⟨rfl,hB,_,_,rfl,by simp only[go_sem,ya]⟩⟩
  | succ i=>
   simp only[go_sem,ya,Bq,rU,show ¬((i+1:Nat):Int)<((i+1:Nat):Int) by omega];exact⟨_,_,rfl,by simp,.inr ⟨rfl,hB,_,_,rfl,by simp only[go_sem,ya]⟩⟩
def zB(B:Nat)(p:Hp×Nat):St:=⟨[],p.1,p.2,B⟩
def af4(B:Nat)(a:Hp)(b:Nat):zB B (a,b)=⟨[],a,b,B⟩:=rfl
def acv(tm:Env)(hp:Hp)(ct B:Nat):bE [] ⟨tm,hp,ct,B⟩=zB B (YX B hp (rh B hp 100000 (dO B hp) [])):=rfl
def af5(hc:Ao cap)(A B:VC)(n:Nat)(T:List AV):mB 6 5 (eA A B C R S g cap n T 0)=(eA A B C R S g cap n T 0,D2 n):=by
 cases n<;>simp only[go_sem,yb,yq,yi,CA,eA,D2,gD,dN,zS hc.pu,A8 _ hc.pu]
def ayC(hc:Ao cap)(A B:VC)(n:Nat)(T:List AV)(tm:Env)(ct:Nat):bE [] ⟨tm,eA A B C R S g cap n T 0,ct,6⟩=⟨[],eA A B C R S g cap n T 0,D2 n,6⟩:=by
 cases n<;>simp only[go_sem,yb,yq,yi,acv,af4,eA,D2,gD,dN,zS hc.pu,A8 _ hc.pu]
def ayD(A B:VC)(n:Nat)(T:List AV):∃tm p a b,ak (eA A B C R S g cap n T 0) 5=F5 (.lp tm p a b 0 .none):=by
 cases n<;>exact⟨_,_,_,_,rfl⟩
def sH(q:Nat->Nat->Rat)(C R S:Nat):List MT:=(xo (C*R)).map fun k=>(aW (sF q (k%C) (k/C) S) (S*S),aW (D0 q (k%C) (k/C) S) (S*S),aW (D1 q (k%C) (k/C) S) (S*S))
def A0(ts:List MT):Int:=if (ts.any fun t=>decide (t.1<=0))=ydo then 6 else if ts.any sG=ydo then 4 else 0
noncomputable def Jd(ts:List MT):List ri:=if A0 ts=0 then ts.map Jb else []
def asE{q:Nat->Nat->Rat}:(sH q C R S).length=C*R:=by simp[sH]
def asF{q:Nat->Nat->Rat}{k:Nat}(hk:k<(sH q C R S).length):(sH q C R S)[k]=(aW (sF q (k%C) (k/C) S) (S*S),aW (D0 q (k%C) (k/C) S) (S*S),aW (D1 q (k%C) (k/C) S) (S*S)):=by simp[sH]
def UE{k:Nat}(h:k<C*R):k%C<C/\k/C<R:=by
 have h0:0<C:=yam (fun e=>by rw[e,vt] at h;omega);exact⟨xD _ h0,ybz h⟩
def awy{hp:Hp}{id n sz:Nat}{cs:List AV}{e:Int}(hg:ak hp id=F5 (.cells ydo ydo ydp sz cs))(hl:cs.length=n*sz):result hp (.aw [.ay id 0 n,aa e])=F5 (.aw [.cM ydp sz n cs,aa e]):=by
 have h1:pX deep hp (.ay id 0 n)=F5 (.cM ydp sz n cs,c7 hp id):=by
  simp only[pX,hg,yd,<-hl,Nat.ble_eq_true_of_le (yx cs.length),yu,Bool.false_and,slice,yg,xQ]
 simp only[result,Kb,Cv,h1];rfl
def aBt(h:Cen P L){q:Nat->Nat->Rat}(hc:Ao cap)(hC:C<=8)(hR:R<=8)(hS:S<=8)(hCR:0<C*R)(hq:YY P L g cap (C*S) (R*S) q)(kq:∀c r,c<C*S->r<R*S->Hq 3000 (q c r)):
  ∃v,ah P L 688 [.agg [aa C,aa R,aa S],.fn (.f g) [] cap] (.aw [v,aa (A0 (sH q C R S))])/\my (bJ v) (Jd (sH q C R S)):=by
 have e2:=aBr h.aBp C R S;have aFq:C*R<=64:=xC hC hR;have hlen:=asE (q:=q) (C:=C) (R:=R) (S:=S);have ak:=fun k (hk:k<(sH q C R S).length)=>asF (q:=q) (C:=C) (R:=R) (S:=S) hk
 have hk:∀t,t∈sH q C R S->Hq 300000 t.1/\Hq 300000 t.2.1/\Hq 300000 t.2.2:=fun t ht=>by
  obtain⟨k,hk,rfl⟩:=vR.1 ht;rw[ak k hk];obtain⟨l1,l2⟩:=UE (hlen▸hk);exact af0 kq l1 l2 hS (yx _)
 generalize nk:sH q C R S=ts at*
 have h1:=awb (P:=P) (L:=L) h.HE (f:=.t 16) (ps:=[17,18]) (as_:=jc) (body:=jd) (s:=⟨gD C R S g cap,[(4,.cells ydo ydo ydo 1 [.af]),(3,.cells ydo ydo ydo 1 [aa 0]),(2,.cells ydo ydo ydo 1 [.af]),(1,.cells ydo ydo ydo 1 [.fn (.f g) [] cap]),(0,.cells ydo ydo ydo 3 [aa C,aa R,aa S])],5,0⟩) (S:=S) hC hR rfl
  (Inv:=fun k H c=>∃Ms,H=eA jc jd C R S g cap k Ms.flatten 0/\c=D2 k/\MoS Ms (ts.take k)/\∀t,t∈ts.take k->0<t.1) (Bad:=fun hp ct=>af3 hp ct/\(ts.any fun t=>decide (t.1<=0))=ydo)
  ⟨by rintro j H c ⟨Ms,rfl,rfl,_⟩;exact af5 hc _ _ _ _,by rintro j H c ⟨Ms,rfl,rfl,_⟩ tm ct;exact ayC hc _ _ _ _ _ _,by rintro j H c ⟨Ms,rfl,rfl,_⟩;exact ayD _ _ _ _⟩
  ⟨_,_,af5 hc jc jd 0 [],[],rfl,rfl,trivial,fun t ht=>by simp at ht⟩ (by
   rintro k H c Dr ⟨Ms,rfl,rfl,FY,nd⟩;obtain⟨l1,l2⟩:=UE Dr;have lk:k<ts.length:=by rw[hlen];exact Dr
   obtain⟨M,e1,hM⟩:=aBo h.toMom hc hC hR hS l1 l2 hq kq;have R7:Ms.length=k:=by rw[FY.len,yR,xF (by omega)]
   have hMf:Ms.flatten.length=k*12:=by
    rw[N1 (k:=12) (fun p hp=>by
     obtain⟨i,hi,rfl⟩:=vR.1 hp
     exact (FY.get hi (by rw[<-FY.len];exact hi)).cells.1),R7]
   have hg:=ak k lk;by_cases hf:0<aW (sF q (k%C) (k/C) S) (S*S)
   .left
    obtain⟨hp,aH,e3,e4⟩:=aBs h (k:=k) hc hMf (by omega) hM hf e1;refine⟨hp,aH,_,_,e3,e4,Ms++[M],by simp,rfl,?_,?_⟩
    .rw [xv lk];exact jB.snoc FY (by rw[hg];exact hM)
    .rw [xv lk];intro t ht;rcases wD.1 ht with ht | ht
     .exact nd t ht
     .rw [wR.1 ht,hg];exact hf
   .right
    obtain⟨hp,aH,tm,p,A,B,e3,e4,e5⟩:=ayB h (k:=k) (n:=k) (T:=Ms.flatten) hc hM hf e1;refine⟨hp,aH,tm,p,A,B,e3,e4,e5,?_⟩;rw[yaz]
    exact⟨_,xI lk,by rw[hg];exact xf (vv.1 hf)⟩)
 unfold ah at e2;unfold ah;rw[aG h.aBq];unfold gD at h1;simp only[go_sem,ya,yb,Wg,aO,hc.pu,jP,zi,e2];rcases h1 with ⟨H,c,⟨Ms,rfl,rfl,FY,nd⟩,hD⟩ | ⟨hp,aH,⟨⟨b1,b2⟩,Xi⟩,hD⟩
 .rw [yK (by omega)] at FY nd;have hz:(ts.any fun t=>decide (t.1<=0))=ydp:=by
   rw[tk];intro t ht;simpa using ybD.2 (nd t ht)
  obtain⟨m,hm⟩:∃m,C*R=m+1:=⟨C*R-1,by omega⟩;rw[hm] at hD hlen;have key:=awx h (n:=m+1) hlen (by omega) FY nd hk;unfold eA D2 at hD;simp only[go_sem,ya,hD];generalize bL:D P L (.loop [4,5,10,31,32,33] Bq) _=Q;obtain⟨ex,st,rfl,hh⟩:=bQ bL (key (m+1)) ⟨0,by omega,rfl,by
   have h0:mh (ts.take 0)=[]:=rfl
   simp only[go_sem,ya,yb,az,rU]<;>rfl⟩
  rcases hh with ⟨rfl,hB,tm,hp,ct,rfl,g1,g2,g3,g4⟩ | ⟨rfl,hB,tm,ct,rfl,og⟩
  .have hE:A0 ts=4:=by unfold A0;rw[hz,hB];rfl
   refine⟨.af,?_,by unfold Jd;rw[hE];exact Ua⟩
   rw[hE];simp only[go_sem,cJ,cK,g1,g2,g3,g4,yg]
  .have hE:A0 ts=0:=by unfold A0;rw[hz,hB];rfl
   have XD:=ady ts;rw[hlen] at XD
   refine⟨.cM ydp 2 (m+1) (mh ts),?_,by
    unfold Jd;rw[hE,yz rfl];unfold mh;have e:=asB (k:=2) (ps:=ts.map fun t=>I9 (Jb t)) ydp (fun p hp=>by obtain⟨t,_,rfl⟩:=vM.1 hp;rfl)
    rw[xi,hlen] at e;unfold my;rw[ybL]
    exact e⟩
   rw[hE];have dh:∀ct,bE [4,5,10] ⟨tm,(rU (m+1) (m+1) Ms.flatten (mh ts)).hp,ct,0⟩=⟨[(4,.ptr 0 0),(5,.ptr 1 0),(10,.ay 2 0 (m+1))],[(2,.cells ydo ydo ydp 2 (mh ts)),(1,.cells ydo ydo ydo 1 [aa 0]),(0,.cells ydo ydo ydo 1 [.af])],3,0⟩:=fun ct=>by
    rw[Sy (c':=ct) og];simp only[go_sem,ya,yb,az,rU]<;>rfl
   simp only[go_sem,ya,dh,rP,cJ,cK,yg];exact awy rfl XD
 .have hE:A0 ts=6:=by unfold A0;rw[Xi];rfl
  refine⟨.af,?_,by unfold Jd;rw[hE];exact Ua⟩
  rw[hE];simp only[go_sem,ya,hD,cJ,cK,b1,b2,yg]
end
section
variable {v:AV}{C R S:Int}{F:List (List Nat)}{s:List Nat}
def pK(a:Rat):Rat:=if a<0 then 0 else a
def af6{a:Rat}{K:Nat}(h:Hq K a):Hq (K+2) (pK a):=by
 unfold pK;split
 .exact ahz.mono (by omega)
 .exact h.mono (by omega)
noncomputable def BS(s:List Nat):Int:=if cI s=0 then (if cf s<0 then 3 else 0) else cI s
def asG(h:BS s=0):cI s=0/\0<=cf s:=by
 unfold BS at h;by_cases c:cI s=0
 .rw [yz c] at h;by_cases d:cf s<0
  .rw [yz d] at h;exact absurd h (by decide)
  .exact ⟨c,vv.1 d⟩
 .rw [yp c] at h;exact absurd h c
structure ahL(C R S:Int)(c r s:Nat):Prop where
 hC:C=c
 hR:R=r
 hS:S=s
 c1:1<=c
 c8:c<=8
 r1:1<=r
 r8:r<=8
 s2:2<=s
 s8:s<=8
def aBu(h:AE C R S=0):ahL C R S C.toNat R.toNat S.toNat:=by
 obtain⟨⟨a1,a2⟩,⟨b1,b2⟩,d1,d2⟩:=adx h;exact⟨by omega,by omega,by omega,by omega,by omega,by omega,by omega,by omega,by omega⟩
def awz(h:pJ C R S F=0)(hb:∀r,r∈F->∀b,b∈r->b<4294967296):ahL C R S C.toNat R.toNat S.toNat/\ow F (R.toNat*S.toNat) (C.toNat*S.toNat):=by
 unfold pJ at h;by_cases c:AE C R S=0
 .rw [yz c] at h;exact⟨aBu c,asD h hb⟩
 .rw [yp c] at h;exact absurd h c
noncomputable def R9(F:List (List Nat))(o:Option Rat)(c r:Nat):Rat:=match o with
 | none=>sE F c r
 | some l=>pK (sE F c r-l)
noncomputable def Sa(C R S:Int)(F:List (List Nat))(o:Option Rat):List MT:=sH (R9 F o) C.toNat R.toNat S.toNat
noncomputable def Ng(C R S:Int)(F:List (List Nat)):Int:=if pJ C R S F=0 then A0 (Sa C R S F none) else pJ C R S F
noncomputable def Sb(C R S:Int)(F:List (List Nat)):List ri:=if pJ C R S F=0 then Jd (Sa C R S F none) else []
def ow.Ha{n m c r:Nat}(h:ow F n m)(hr:r<n)(hc:c<m){o:Option Rat}(ho:∀l,o=F5 l->Hq 2400 l):Hq 3000 (R9 F o c r):=by
 cases o with
 | none=>exact (h.H hr hc).mono (by omega)
 | some l=>exact (af6 ((h.H hr hc).sub (ho l rfl))).mono (by omega)
structure Ctd(P:aF)(L:Lib):Prop extends Cen P L,Frc P L,Exc P L,Ck P L where
 ahM:Has P L 654 Qi
 aFO:Has P L 655 agy
 Xf:Has P L 687 Qp
 Q1:Has P L 689 LC
 aFP:Has P L 690 agz
 Q2:Has P L 691 LD
def aBv(h:Fr' P L)(Q2:Has P L 691 LD){a:Rat}(hv:bH v a):∃r,ah P L 691 [v] r/\bH r (pK a):=by
 have e1:=Hu h hv;obtain⟨z,e2,hz⟩:=DP h (z:=0) (by omega) (by omega);have eV:=hv;obtain⟨v1,v2,v3,v4,rfl,gv⟩:=hv.gen;have dw:=hz;obtain⟨z1,z2,z3,z4,rfl,gz⟩:=hz.gen;unfold ah at e1 e2;unfold pK;by_cases c:a<0
 .have hd:decide (bV a.num<0)=ydo:=xf ((Jx a).2 c);rw[yz c];refine⟨_,?_,dw⟩;unfold ah;rw[aG Q2];simp only[go_sem,ya,yb,LD,gv.bx,aO,yg,eS,gv.ai,e1,hd,e2,gz.st,bi,cJ,cK,gz.dX]
 .have hd:decide (bV a.num<0)=ydp:=yY (fun e=>c ((Jx a).1 e));rw[yp c];refine⟨_,?_,eV⟩;unfold ah;rw[aG Q2];simp only[go_sem,ya,yb,LD,gv.bx,aO,yg,eS,gv.ai,e1,hd,gv.st,cJ,cK,gv.dX]
def aBw(h:Ck P L)(n9:Has P L 692 Fa)(Q1:Has P L 689 LC)(hl:s.length<=1000000):ah P L 689 [.str s] (aa (BS s)):=by
 have e1:=m86 h (s:=s) (by omega);unfold ah at e1;unfold BS;by_cases c:cI s=0
 .rw [yz c];obtain⟨v,e2,hv⟩:=ahC h c;have e3:=Hu h.toFr' hv;obtain⟨v1,v2,v3,v4,rfl,gv⟩:=hv.gen;have hd:decide (bV (cf s).num<0)=decide (cf s<0):=yaj.2 (Jx _);have e4:=Dh n9 (decide (cf s<0)) 3;simp only[vZ] at e4;rw[c] at e1;unfold ah at e2 e3 e4;unfold ah;rw[aG Q1];simp only[go_sem,ya,LC,e1,e2,gv.ai,bi,e3,hd,e4]
 .rw [yp c];unfold ah;rw[aG Q1];simp only[go_sem,ya,LC,e1,c]
def awA{k:Nat}{ps:List (List AV)}{hp:Hp}{e:Int}(h:lA k v ps):result hp (.aw [v,aa e])=F5 (.aw [v,aa e]):=by
 rcases h.1 with ⟨rfl,rfl⟩ | ⟨b,rfl⟩<;>rfl
def aBx(h:Ctd P L)(hv:gK jZ v F)(hl:F.length<=1000000)(hr:∀r,r∈F->r.length<=1000000)(hb:∀r,r∈F->∀b,b∈r->b<4294967296):
  ∃w,ah P L 654 [.agg [aa C,aa R,aa S],v] (.aw [w,aa (Ng C R S F)])/\my w (Sb C R S F):=by
 have e1:=ahI h.toFrc hv hl hr (C:=C) (R:=R) (S:=S);have fz:=zi;unfold Ng Sb;by_cases c:pJ C R S F=0
 .rw [yz c,yz c];obtain⟨g,hF⟩:=awz c hb;unfold Sa;generalize C.toNat=cn at*
  generalize R.toNat=rn at*
  generalize S.toNat=sn at*
  obtain⟨rfl,rfl,rfl,c1,c8,r1,r8,s2,s8⟩:=g;have LK:Ao [.bt [v]]:=⟨rfl,fun n hp=>rfl⟩;obtain⟨w,e2,hw⟩:=aBt h.toCen (g:=687) (cap:=[.bt [v]]) (q:=R9 F none) LK c8 r8 s8 (Nat.mul_pos (by omega) (by omega)) (fun c r hc hr=>aBi h.toExc h.Xf hv hF hc hr) (fun c r hc hr=>hF.Ha hr hc (fun l e=>by cases e));rw[c] at e1;unfold ah at e1 e2;refine⟨_,?_,hw⟩;unfold ah;rw[aG h.ahM];simp only[go_sem,ya,yb,Qi,aO,yg,jP,fz,hv.pu,hv.ai,hv.one,hv.cells,e1,e2];exact awA hw
 .rw [yp c,yp c];refine⟨.af,?_,Ua⟩;unfold ah at e1;unfold ah;rw[aG h.ahM];simp only[go_sem,ya,yb,Qi,aO,yg,jP,fz,hv.pu,hv.ai,hv.one,hv.cells,e1,c]
end
def adz{f:Nat->Rat}:∀n,qD 0 ((xo n).map f)=aW f n
 | 0=>rfl
 | n+1=>by
  have h:=adz (f:=f) n;rw[wV,xG,aW,<-h];simp[qD,List.foldl_append]
def aaj(id:Nat)(o:Obj)(j:Nat):∀hp:Hp,ak (aU hp id o) j=if j=id then (ak hp id).map (fun _=>o) else ak hp j
 | []=>by by_cases h:j=id<;>simp[aU,ak,h]
 | (i,u)::r=>by
  have ih:=aaj id o j r;by_cases h1:i=id
  .subst h1;rw[abT];by_cases h2:j=i
   .subst h2;rw[yz rfl,pR,pR];rfl
   .rw [yp h2,mq _ _ (fun e=>h2 e.symm),mq _ _ (fun e=>h2 e.symm)]
  .rw [aaU _ _ _ h1];by_cases h2:j=i
   .subst h2;rw[yp h1,pR,pR]
   .rw [mq _ _ (fun e=>h2 e.symm),ih,mq _ _ h1,mq _ _ (fun e=>h2 e.symm)]
def apV{hp:Hp}{id:Nat}{u:Obj}(h:ak hp id=F5 u)(o:Obj)(j:Nat):ak (aU hp id o) j=if j=id then F5 o else ak hp j:=by
 rw[aaj,h];rfl
def NN(id j:Nat):∀hp:Hp,ak (c7 hp id) j=if j=id then none else ak hp j
 | []=>by split<;>rfl
 | (i,u)::r=>by
  have ih:=NN id j r;by_cases h1:i=id
  .subst h1;rw[abU,ih];by_cases h2:j=i
   .grind
   .rw [yp h2,yp h2,mq _ _ (fun e=>h2 e.symm)]
  .rw [aaV _ _ h1];by_cases h2:j=i
   .subst h2;rw[yp h1,pR,pR]
   .rw [mq _ _ (fun e=>h2 e.symm),ih,mq _ _ (fun e=>h2 e.symm)]
def acw(i:Nat):∀l:List Nat,jy i l=ydo↔i∈l
 | []=>by simp[jy]
 | j::r=>by
  by_cases h:j=i
  .subst h;simp[abZ]
  .rw [aa0 _ h,acw i r]
   grind
def apW{i:Nat}{l:List Nat}(h:i∉l):jy i l=ydp:=by
 cases hq:jy i l with
 | false=>rfl
 | true=>exact absurd ((acw i l).1 hq) h
def adA(hp:Hp):∀(ids seen cT:List Nat) (n:Nat),ids.length<n->(∀i,i∈ids->∃o,ak hp i=F5 o/\jR o=[])->ids.Nodup->(∀i,i∈ids->i∉seen)->ol hp n (ids++cT) seen=ol hp (n-ids.length) cT (seen++ids)
 | [],seen,cT,n,_,_,_,_=>by simp
 | i::ids,seen,cT,0,h,_,_,_=>by simp at h
 | i::ids,seen,cT,n+1,h,h1,h2,h3=>by
  obtain⟨o,g,e⟩:=h1 i vj;have hn:=uO.1 h2
  rw[yB,TV,apW (h3 i vj),US,g,UT,e,yL,adA hp ids (seen++[i]) cT n (by simpa using h) (fun j hj=>h1 j (wJ _ hj)) hn.2 (fun j hj hm=>by
   rcases wD.1 hm with hm | hm
   .grind
   .simp only [wR] at hm
    subst hm;exact hn.1 hj)]
  grind
def asH(hp:Hp){n:Nat}(h:0<n)(seen:List Nat):ol hp n [] seen=seen:=by
 obtain⟨m,rfl⟩:∃m,n=m+1:=⟨n-1,by lia⟩;exact adh hp m seen
def Ud(hp:Hp)(f:Nat->Option Nat):∀(seen:List Nat) (k:Nat) (acc:Hp) (j:Nat),j<k->ak (eY hp f seen k acc) j=ak acc j
 | [],k,acc,j,_=>rfl
 | id::r,k,acc,j,h=>by
  rw[eY]
  cases ak hp id with
  | none=>exact Ud hp f r (k+1) acc j (by omega)
  | some o=>
   rw[Ud hp f r (k+1) _ j (by omega),mq _ _ (by omega)]
def aak(hp:Hp)(f:Nat->Option Nat):∀(seen:List Nat) (k:Nat) (acc:Hp) (j:Nat) (h:j<seen.length) (o:Obj),ak hp seen[j]=F5 o->ak (eY hp f seen k acc) (k+j)=F5 (jh f o)
 | id::r,k,acc,0,_,o,ho=>by
  simp only[wq] at ho;rw[eY];simp only[ho];show ak (eY hp f r (k+1) ((k,jh f o)::acc)) k=_
  rw[Ud hp f r (k+1) _ k (by omega),pR]
 | id::r,k,acc,j+1,h,o,ho=>by
  have:=fun BD=>aak hp f r (k+1) BD j (by simpa using h) o ho
  rw[eY,show k+(j+1)=k+1+j by omega]
  cases ak hp id with
  | none=>exact this _
  | some u=>exact this _
def OP:∀(seen:List Nat) (k j:Nat) (h:j<seen.length),seen.Nodup->iw seen[j] seen k=F5 (k+j)
 | s::r,k,0,_,_=>by simp only[wq,yZ];exact adj s r k
 | s::r,k,j+1,h,hn=>by
  have hn:=uO.1 hn;have hj:j<r.length:=by simp_all
  simp only[vn];rw[ab0 _ _ (fun e=>hn.1 (by rw[e];exact xI hj)),OP r (k+1) j hj hn.2]
  grind
def akD{live:List Nat}{tm:Env}{hp:Hp}{ct:Nat}{seen:List Nat}(hr:ol hp 100000 (fj (cd tm live)) []=seen):
  ∃an,bE live ⟨tm,hp,ct,0⟩=⟨gn (pos seen) (cd tm live),an,seen.length,0⟩/\∀j (h:j<seen.length) o,ak hp seen[j]=F5 o->ak an j=F5 (jh (pos seen) o):=by
 refine⟨eY hp (pos seen) seen 0 [],by rw[az,hr,adk],fun j h o ho=>?_⟩
 have:=aak hp (pos seen) seen 0 [] j h o ho
 grind
def aBy(a:Rat):decide (bV a.num=0)=decide (a=0):=by
 have:bV a.num=0↔a=0:=by
  rw[<-Rat.num_eq_zero];unfold bV
  grind
 grind
def b3(rows o z:List AV):Hp:=[(2,.cells ydo ydo ydo 4 z),(1,.cells ydo ydo ydo 4 o),(0,.cells ydo ydo ydo 1 rows)]
def iP(a:Nat)(ids pl:List Nat):List Nat:=a::(ids++pl)
abbrev wd{β:Type}(M:List (List β)):Nat:=(M.getD 0 []).length
abbrev z4:List AV:=[AV.int .i64 0,.af,.int .i64 0,.af]
section
variable {tm tm':Env}{cs:List AV}{ids live pl:List Nat}{a ct i n:Nat}
def A1(ids W:List Nat):List AV:=tC (fun i w=>AV.ay i 0 w) ids W
def lB(ids W:List Nat)(r:Nat):List AV:=A1 ids W++yE r .af
def apX{W:List Nat}{w:Nat}(h:ids.length=W.length):A1 (ids++[i]) (W++[w])=A1 ids W++[.ay i 0 w]:=by
 unfold A1;rw[List.zipWith_append h];rfl
def aal:∀r:Nat,gG (yE r AV.af)=[]
 | 0=>rfl
 | r+1=>by rw[wP,gG,aal r];rfl
def abi(r:Nat):∀{ids W:List Nat},ids.length=W.length->gG (lB ids W r)=ids
 | [],[],_=>aal r
 | i::ids,w::W,h=>by
  have ih:=abi r (ids:=ids) (W:=W) (by simpa using h);have e:lB (i::ids) (w::W) r=.ay i 0 w::lB ids W r:=rfl;rw[e,gG,ih];rfl
 | [],_::_,h=>by simp at h
 | _::_,[],h=>by simp at h
def abj(f:Nat->Option Nat):∀r:Nat,dP f (yE r AV.af)=yE r .af
 | 0=>rfl
 | r+1=>by rw[wP,dP,abj f r];rfl
def acx{f:Nat->Option Nat}(r:Nat):∀{ids W:List Nat} (k:Nat),ids.length=W.length->(∀i (h:i<ids.length),f ids[i]=F5 (k+i))->dP f (lB ids W r)=lB (wh k ids.length) W r
 | [],[],_,_,_=>abj f r
 | i::ids,w::W,k,h,hf=>by
  have h0:=hf 0 (by simp);simp only[wq,yZ] at h0;have ih:=acx (f:=f) r (ids:=ids) (W:=W) (k+1) (by simpa using h) (fun j hj=>by
   have:=hf (j+1) (by simpa using hj)
   simp only[vn] at this
   rw[this];congr 1;lia)
  have e:lB (i::ids) (w::W) r=.ay i 0 w::lB ids W r:=rfl;rw[e,dP,ih,yv,List.range'_succ];simp only[br,h0];rfl
 | [],_::_,_,h,_=>by simp at h
 | _::_,[],_,h,_=>by simp at h
def abk{sz:Nat}{y:Bool}(hs:0<sz):∀(ids W:List Nat) (T:List (List AV)) (hp:Hp) (n:Nat),ids.length+4<=n->ids.length=T.length->W.length=T.length->(∀i (h1:i<ids.length) (h2:i<T.length) (h3:i<W.length),T[i].length=W[i]*sz/\∃rw,ak hp ids[i]=F5 (.cells rw ydo y sz T[i]))->
  ∃an,cB n hp (A1 ids W)=F5 (tC (fun w r=>.ap y w r) W T,an)/\∀j,j∉ids->ak an j=ak hp j
 | [],[],[],hp,n+1,_,_,_,_=>⟨hp,rfl,fun _ _=>rfl⟩
 | [],_,[],hp,0,h,_,_,_=>by simp at h
 | [],_,_::_,_,_,_,h,_,_=>by simp at h
 | [],_::_,[],_,_,_,_,h,_=>by simp at h
 | _::_,_,[],_,_,_,h,_,_=>by simp at h
 | _::_,[],_::_,_,_,_,_,h,_=>by simp at h
 | i::ids,w::W,r::T,hp,n+1,hn,hl,hW,h=>by
  obtain⟨l0,dG,g0⟩:=h 0 (by simp) (by simp) (by simp);simp only[wq] at l0 g0;simp only[yv] at hn hl hW;obtain⟨m,rfl⟩:∃m,n=m+1+1:=⟨n-2,by omega⟩;have hz:sO (m+1) hp i=F5 (y,sz,r,if dG=ydo then aU hp i (.cells ydp ydo y sz r) else hp):=by
   rw[Ut,g0];cases dG<;>rfl
  have ayE:∃aY,(if dG=ydo then aU hp i (.cells ydp ydo y sz r) else hp)=aY/\∀j,ak aY j=if j=i then F5 (.cells (if dG=ydo then ydp else dG) ydo y sz r) else ak hp j:=by
   refine⟨_,rfl,fun j=>?_⟩
   cases dG with
   | true=>simp only[xJ];rw[apV g0]
   | false=>
    simp only[yD,xz]
    split
    .rename_i e;rw[e,g0]
    .rfl
  obtain⟨aY,e1,g1⟩:=ayE;rw[e1] at hz;obtain⟨an,e2,g2⟩:=abk hs ids W T aY (m+1+1) (by omega) (by omega) (by omega) (fun k h1 h2 h3=>by
   obtain⟨a,rw2,b⟩:=h (k+1) (by simpa using h1) (by simpa using h2) (by simpa using h3);simp only[vn] at a b;refine⟨a,?_⟩;rw[g1]
   split
   .rename_i e;rw[e,g0] at b;simp only[yc,Obj.cells.injEq] at b;exact⟨_,by rw[b.2.2.2.2]⟩
   .exact ⟨rw2,b⟩)
  refine⟨an,?_,fun j hj=>?_⟩
  .have e:A1 (i::ids) (w::W)=.ay i 0 w::A1 ids W:=rfl;rw[e,aaX,Us,hz,kG y l0 hs,ad1,e2,ad2];rfl
  .simp only [wB,not_or] at hj;rw[g2 j hj.2,g1,yp hj.1]
def gT(T:List (List AV))(i:Nat):List AV:=T.getD i []
def PG{T:List (List AV)}(h:i<T.length):gT T i=T[i]:=by
 simp[gT,yS,xb h]
def j0(n:Nat):List Nat:=(xo n).map (·+1)
def Bi(n:Nat):(j0 n).length=n:=by simp[j0]
def S6(n:Nat):j0 n=wh 1 n:=by
 unfold j0;rw[List.range'_eq_map_range]
 grind
def Ue(h:i<(j0 n).length):(j0 n)[i]=i+1:=by simp[j0]
def Uf:i∈j0 n↔0<i/\i<=n:=by
 rw[S6,List.mem_range'_1];lia
structure sJ(hp:Hp)(x y:Bool)(sz:Nat)(W:List Nat)(T:List (List AV))(r:Nat):Prop where
 l:W.length=T.length
 m:ak hp 0=F5 (.cells ydo ydp x 1 (lB (j0 T.length) W r))
 r:∀i,i<T.length->ak hp (i+1)=F5 (.cells ydo ydo y sz (gT T i))
section
variable {hp:Hp}{x y:Bool}{sz:Nat}{W:List Nat}{T:List (List AV)}{r:Nat}
def sJ.ai(h:sJ hp x y sz W T 0)(hs:0<sz)(hw:∀i (h1:i<T.length) (h2:i<W.length),T[i].length=W[i]*sz)(hn:T.length+4<=n):
  ∃an,cB n hp (lB (j0 T.length) W 0)=F5 (tC (fun w r=>.ap y w r) W T,an)/\∀j,(∀i,i<T.length->j≠i+1)->ak an j=ak hp j:=by
 have e0:lB (j0 T.length) W 0=A1 (j0 T.length) W:=by unfold lB;simp
 rw[e0];obtain⟨aY,e1,g1⟩:=abk hs (j0 T.length) W T hp n (by rw[Bi];exact hn) (Bi _) h.l (fun i h1 h2 h3=>by
  refine⟨hw i h2 h3,ydo,?_⟩;rw[Ue]
  have:=h.r i h2
  rwa[PG h2] at this)
 refine⟨aY,e1,fun j hj=>g1 j fun hm=>?_⟩
 have:=Uf.1 hm
 exact hj (j-1) (by omega) (by omega)
def awB{hp an:Hp}{id s:Nat}{dG ex:Bool}{dF:List AV}(h:cB n hp cs=F5 (dF,an)):C8 n id hp (F5 (.cells dG ydp ex s cs))=F5 (ex,s,dF,aU an id (.cells ydp ydp ex s cs)):=by
 simp[C8,h]
def sJ.C8(h:sJ hp x y sz W T 0)(hs:0<sz)(hw:∀i (h1:i<T.length) (h2:i<W.length),T[i].length=W[i]*sz)(hn:T.length+4<=n):
  ∃an,VE.C8 n 0 hp (F5 (.cells ydo ydp x 1 (lB (j0 T.length) W 0)))=F5 (x,1,tC (fun w r=>.ap y w r) W T,an):=by
 obtain⟨aY,e,_⟩:=h.ai hs hw hn;exact⟨_,awB e⟩
def ayF{dG ex:Bool}{cells:List AV}(hm:ak hp a=F5 (.cells dG ydp ex 1 cells))(hc:gG cells=ids)(hr:∀i,i∈ids->∃o,ak hp i=F5 o/\jR o=[])(aY:∀i,i∈pl->∃o,ak hp i=F5 o/\jR o=[])(hn:(iP a ids pl).Nodup)(hl:ids.length+pl.length<90000):ol hp 100000 (a::pl) []=iP a ids pl:=by
 have lS:=uO.1 hn;have eK:∀i,i∈ids++pl->i∉[a]:=fun i hi hm=>by
  simp only[wR] at hm;subst hm;exact lS.1 hi
 rw[show (100000:Nat)=99999+1 from rfl,TV,abY,US,hm,UT,adi,hc,yL]
 have:ids++pl=(ids++pl)++[]:=by simp
 rw[this,adA hp (ids++pl) [a] [] 99999 (by rw[yJ];lia) (fun i hi=>by
  rcases wD.1 hi with h | h
  .exact hr i h
  .exact aY i h) lS.2 eK,asH hp (by rw[yJ];lia)]
 rfl
def aet(hE:fj (cd tm live)=a::pl)(hm:ak hp a=F5 (.cells ydo ydp x 1 (lB ids W r)))(hl:ids.length=T.length)(hW:W.length=T.length)(hr:∀i (h:i<ids.length),ak hp ids[i]=F5 (.cells ydo ydo y sz (gT T i)))(hM:T.length<=10000)(hn:(iP a ids pl).Nodup)(aY:∀i,i∈pl->∃o,ak hp i=F5 o/\jR o=[])(j8:pl.length<=1000)(hT:∀S,iw a S 0=F5 0->(∀j (h:j<pl.length),iw pl[j] S 0=F5 (T.length+1+j))->gn (pos S) (cd tm live)=tm'):
  ∃an,bE live ⟨tm,hp,ct,0⟩=⟨tm',an,1+(T.length+pl.length),0⟩/\sJ an x y sz W T r/\∀j (h:j<pl.length) rw ex z cs,ak hp pl[j]=F5 (.cells rw ydo ex z cs)->ak an (T.length+1+j)=F5 (.cells rw ydo ex z cs):=by
 have HI:∀i,i∈ids->∃o,ak hp i=F5 o/\jR o=[]:=fun i hi=>by
  obtain⟨k,hk,rfl⟩:=vR.1 hi;exact⟨_,hr k hk,rfl⟩
 have hR:=ayF (pl:=pl) hm (abi r (by lia)) HI aY hn (by lia);rw[<-hE] at hR;have⟨an,e,g⟩:=akD (ct:=ct) hR;have ls:(iP a ids pl).length=1+(ids.length+pl.length):=by simp[iP];lia
 have s0:∀h:0<(iP a ids pl).length,(iP a ids pl)[0]=a:=fun _=>rfl
 have sI:∀i (h:i<ids.length) (h2:i+1<(iP a ids pl).length),(iP a ids pl)[i+1]=ids[i]:=fun i h h2=>by
  simp[iP,tu h]
 have sP:∀j (h:j<pl.length) (h2:T.length+1+j<(iP a ids pl).length),(iP a ids pl)[T.length+1+j]=pl[j]:=fun j h h2=>by
  have:T.length+1+j=(ids.length+j)+1:=by lia
  simp only[iP,this,vn];rw[tc (by lia)]
  simp
 have pI:∀i (h:i<ids.length),pos (iP a ids pl) ids[i]=F5 (1+i):=fun i h=>by
  have:=OP (iP a ids pl) 0 (i+1) (by lia) hn
  rw[sI i h (by lia)] at this;rw[pos_eq,this];congr 1;lia
 have q3:iw a (iP a ids pl) 0=F5 0:=by
  have:=OP (iP a ids pl) 0 0 (by lia) hn
  rw[s0] at this;exact this
 have q4:∀j (h:j<pl.length),iw pl[j] (iP a ids pl) 0=F5 (T.length+1+j):=fun j hj=>by
  have:=OP (iP a ids pl) 0 (T.length+1+j) (by lia) hn
  rw[sP j hj (by lia),yd] at this;exact this
 refine⟨an,by rw[e,hT _ q3 q4,ls,hl],⟨hW,?_,fun i hi=>?_⟩,fun j hj dG ex z cs ho=>?_⟩
 .have:=g 0 (by lia) _ (by rw[s0];exact hm)
  rw[this];have e2:jh (pos (iP a ids pl)) (.cells ydo ydp x 1 (lB ids W r))=.cells ydo ydp x 1 (dP (pos (iP a ids pl)) (lB ids W r)):=rfl;rw[e2,acx r 1 (by lia) pI,hl,<-S6]
 .have:=g (i+1) (by lia) _ (by rw[sI i (by lia)];exact hr i (by lia))
  rw[this];rfl
 .have:=g (T.length+1+j) (by lia) _ (by rw[sP j hj (by lia)];exact ho)
  rw[this];rfl
def alZ(hp:pl.Nodup)(h:∀i,i∈pl->n<i):(iP 0 (j0 n) pl).Nodup:=by
 unfold iP;refine uO.2 ⟨fun q=>?_,?_⟩
 .rcases wD.1 q with q | q
  .have:=Uf.1 q;lia
  .have:=h 0 q;lia
 .refine List.nodup_append.2 ⟨by rw[S6];exact List.nodup_range',hp,fun a ha b hb e=>?_⟩
  have h1:=Uf.1 ha;have h2:=h b hb
  lia
def sJ.comp(h:sJ hp x y sz W T r)(hE:fj (cd tm live)=[0])(hM:T.length<=10000)(hT:∀S,iw 0 S 0=F5 0->gn (pos S) (cd tm live)=tm'):∃an,bE live ⟨tm,hp,ct,0⟩=⟨tm',an,1+T.length,0⟩/\sJ an x y sz W T r:=by
 obtain⟨an,e,g,_⟩:=aet (ct:=ct) (pl:=[]) hE h.m (Bi _) h.l (fun i hi=>by
  rw[Ue];rw[Bi] at hi;exact h.r i hi) hM (alZ List.nodup_nil (fun _ q=>by cases q)) (fun _ q=>by cases q) (by simp) (fun S q _=>hT S q)
 exact⟨an,e,g⟩
def asI{hp0:Hp}{x0:Bool}{b w r0:Nat}(h:sJ hp0 x0 y sz W T r0)(hi:T.length=i)(hE:fj (cd tm live)=[a])(hb:i<b)(DW:a≠b)(ha:a=0\/i<a)(hm:ak hp a=F5 (.cells ydo ydp x 1 (A1 (j0 i) W++ .ay b 0 w::yE r .af)))(hr:∀j,j<i->ak hp (j+1)=ak hp0 (j+1))(hc:ak hp b=F5 (.cells ydo ydo y sz cs))(hM:i<=1000)(hT:∀S,iw a S 0=F5 0->gn (pos S) (cd tm live)=tm'):∃an,bE live ⟨tm,hp,ct,0⟩=⟨tm',an,1+(i+1),0⟩/\sJ an x y sz (W++[w]) (T++[cs]) r:=by
 have HI:∀j (h:j<(j0 i++[b]).length),(j0 i++[b])[j]=if j<i then j+1 else b:=fun j h=>by
  by_cases hj:j<i
  .rw [yz hj,tu (by rw[Bi];exact hj),Ue]
  .rw [yp hj,tc (by rw[Bi];omega)];simp
 have li:(j0 i++[b]).length=i+1:=by simp[Bi]
 have lW:W.length=i:=by rw[h.l,hi]
 obtain⟨an,e,g,_⟩:=aet (hp:=hp) (x:=x) (y:=y) (sz:=sz) (r:=r) (T:=T++[cs]) (W:=W++[w]) (ct:=ct) (pl:=[]) (ids:=j0 i++[b]) hE (by
  rw[hm];unfold lB;rw[apX (by rw[Bi,lW]),List.append_assoc];rfl) (by rw[li];simp[hi]) (by simp[lW,hi]) (fun j hj=>by
  rw[HI j hj];rw[li] at hj;by_cases XE:j<i
  .rw [yz XE,hr j XE,h.r j (by omega),PG (by omega),PG (by simp;omega),tu]
  .have aBz:j=i:=by omega
   subst aBz;rw[yp (by omega),hc,PG (by simp;omega),tc (by omega)];simp[hi]) (by simp;omega) (by
  unfold iP;rw[wL];refine uO.2 ⟨fun hx=>?_,?_⟩
  .obtain ⟨j,hj,e⟩:=vR.1 hx;rw[HI j hj] at e;rw[li] at hj;split at e<;>omega
  .unfold List.Nodup;rw[List.pairwise_iff_getElem];intro u v hu hv huv;rw[HI u hu,HI v hv];rw[li] at hu hv
   split<;>split<;>omega) (fun _ q=>by cases q) (by simp) (fun S q _=>hT S q)
 exact⟨an,by rw[e];simp[hi],g⟩
end
end
def adB:∀r:List Nat,aE (fp r)=ydo
 | []=>rfl
 | b::r=>by
  have:=adB r
  simpa[fp,aE,aV] using this
def acy:∀r:List Nat,bP (fp r)=ydo
 | []=>rfl
 | b::r=>by
  have:=acy r
  simpa[fp,bP,db] using this
def jZ.src{w:AV}{r:List Nat}(h:jZ w r)(hp:Hp):jr hp 1 w=F5 (r.length,fp r):=by
 have hl:(fp r).length=r.length:=by simp
 rcases h with ⟨rfl,h⟩ | ⟨e,rfl⟩
 .rw [h] at hl;simp only[yI] at hl;rw[h,<-hl];rfl
 .show (bif yo (fp r).length ((fp r).length*1) then F5 ((fp r).length,fp r) else none)=_
  rw[yj,Nat.beq_refl,yu,hl]
def FZ(F:List (List Nat)):List AV:=F.map fun r=>.ap ydp r.length (fp r)
def adC:∀F:List (List Nat),jB jZ (FZ F) F
 | []=>trivial
 | r::F=>⟨.inr ⟨ydp,by
   have hl:(fp r).length=r.length:=by simp
   rw[hl]⟩,adC F⟩
def adD:∀F:List (List Nat),tC (fun w r=>AV.ap ydp w r) (F.map uA) (F.map fp)=FZ F
 | []=>rfl
 | a::F=>by
  have:=adD F
  rw[xe,xe,List.zipWith_cons_cons,this];rfl
def aBA(Xk:Has P L 639 Qg){v:AV}{F:List (List Nat)}(hv:gK jZ v F)(hl:F.length<=900)(hr:∀r,r∈F->r.length<=1000000):∃w,ah P L 639 [v] w/\gK jZ w F/\shut w=w:=by
 have key:ew P L [3,6,7,8] EF (fun d st=>∃i:Nat,i+d=F.length/\((i=0/\st=⟨[(3,.af),(6,v),(7,aa F.length),(8,aa i)],[],0,0⟩)\/(0<i/\∃hp,st=⟨[(3,.ay 0 0 i),(6,v),(7,aa F.length),(8,aa i)],hp,1+i,0⟩/\sJ hp ydp ydp 1 ((F.take i).map uA) ((F.take i).map fp) 0))) (fun ex s'=>∃tm hp ct,s'=⟨tm,hp,ct,0⟩/\ex=.exit 0/\((F=[]/\aj tm 3=.af/\hp=[])\/(0<F.length/\aj tm 3=.ay 0 0 F.length/\sJ hp ydp ydp 1 (F.map uA) (F.map fp) 0))):=by
  apply eE;rintro d st ⟨i,hid,aR⟩;by_cases hi:i<F.length
  .left
   obtain⟨w,rest,qt,e0⟩:=hv.bj hi;have oT:=jZ.src qt;have qt:cF w (fp F[i]):=qt;have hrl:=hr _ (xI hi);have w4:IntKind.wrap .i64 ((i:Int)+1)=((i+1:Nat):Int):=wrap64 (by omega) (by omega);have Nh:(i:Int)<F.length:=by omega
   have AO:=fun (hp:Hp) (ct id:Nat) (hg:ak hp id=F5 (.cells ydo ydo ydo 1 []))=>dS (ct:=ct) (by':=4) (new:=fp F[i]) (m:=F[i].length) (n:=0) hg rfl (by omega) (by omega) (by decide) (acy _)
   simp only[adB,wG,yd,yL] at AO;rcases aR with ⟨sC,rfl⟩ | ⟨sC,hp,rfl,hM⟩
   .subst sC;simp only[go_sem,ya,yb,xk,yq,yi,yj,EF,Nh,e0,oT,eX,AO,gE,w4];refine⟨_,d-1,rfl,by omega,1,by omega,.inr ⟨by omega,?_⟩⟩;have e1:F.take 1=[F[0]]:=by
     rw[show (1:Nat)=0+1 from rfl,xv hi];rfl
    rw[e1];refine⟨[(1,.cells ydo ydo ydp 1 (fp F[0])),(0,.cells ydo ydp ydp 1 [.ay 1 0 F[0].length])],by simp only[go_sem,ya,yb,az,av hv.pu]<;>rfl,⟨rfl,rfl,fun k hk=>?_⟩⟩
    have:k=0:=by simpa using hk
    subst this;rfl
   .have lT:((F.take i).map fp).length=i:=by rw[xi,yR,xF (by omega)]
    have lW:((F.take i).map uA).length=i:=by rw[xi,yR,xF (by omega)]
    have g0:=hM.m;rw[lT] at g0;have gr:=hM.r;rw[lT] at gr;simp only[go_sem,ya,yb,yi,yj,EF,Nh,e0,oT,eX,AO]
    rw[dS (sz:=1) (ex:=ydp) (pu:=ydp) (cs:=lB (j0 i) ((F.take i).map uA) 0) (by rw[mq _ _ (by omega),mq _ _ (by omega),NN,yp (by omega)];exact g0) (by simp[lB,A1,Bi];omega) (by omega) (by omega) (by decide) (by simp only[go_sem])]
    simp only[go_sem,ya,w4];refine⟨_,d-1,rfl,by omega,i+1,by omega,.inr ⟨by omega,?_⟩⟩;rw[xv hi,xG,xG]
    refine asI (x:=ydp) (r:=0) hM lT (a:=1+i+1+1+1) (b:=1+i+1) (by simp only[go_sem,ya,jL hv.pu]<;>rfl) (by omega) (by omega) (by omega) (by rw[pR];simp[lB]) (fun j hj=>?_) ?_ (by omega) (fun S q=>by simp only[go_sem,ya,q,JM _ hv.pu]<;>rfl)
    .rw [mq _ _ (by omega),mq _ _ (by omega),mq _ _ (by omega),NN,yp (by omega),NN,yp (by omega)]
    .rw [mq _ _ (by omega),mq _ _ (by omega),pR]
  .right
   have:i=F.length:=by omega
   subst this;rcases aR with ⟨sC,rfl⟩ | ⟨sC,hp,rfl,hM⟩
   .simp only [go_sem,ya,EF,show ¬(F.length:Int)<F.length by omega];exact⟨_,_,rfl,by simp,_,_,_,rfl,rfl,.inl ⟨vd.1 sC,by simp only[go_sem,ya],rfl⟩⟩
   .simp only [go_sem,ya,EF,show ¬(F.length:Int)<F.length by omega];rw[xQ] at hM;exact⟨_,_,rfl,by simp,_,_,_,rfl,rfl,.inr ⟨sC,by simp only[go_sem,ya],hM⟩⟩
 unfold ah;rw[aG Xk];simp only[go_sem,ya,Qg,hv.len];generalize hq:D P L (.loop _ EF) _=q;obtain⟨ex,st,rfl,tm,hp,ct,rfl,rfl,hh⟩:=bQ hq (key F.length) ⟨0,by omega,.inl ⟨rfl,by simp only[go_sem,ya,az,av hv.pu]<;>rfl⟩⟩
 rcases hh with ⟨rfl,t3,rfl⟩ | ⟨h0,t3,hM⟩
 .refine ⟨.af,?_,anF,rfl⟩;simp only[go_sem,az,t3]
 .obtain ⟨aY,e1,hM1⟩:=hM.comp (live:=[3]) (tm:=tm) (tm':=[(3,.ay 0 0 F.length)]) (ct:=ct) (by simp only[go_sem,t3]) (by rw[xi];omega) (fun S q=>by simp only[go_sem,t3,q]);obtain⟨jE,ez⟩:=hM1.C8 (n:=998) (by decide) (fun i h1 h2=>by simp) (by rw[xi];omega);have eT:=adD F;have hm:=hM1.m;rw[xi] at hm ez;rw[eT] at ez;have hlen:(FZ F).length=F.length:=by simp[FZ]
  have zd:result aY (.ay 0 0 F.length)=F5 (.ap ydp F.length (FZ F)):=by
   have e2:pX deep aY (.ay 0 0 F.length)=freeze deep aY (.ay 0 0 F.length):=by simp only[pX,hm]
   have e3:freeze (999+1) aY (.ay 0 0 F.length)=F5 (.ap ydp F.length (FZ F),jE):=by
    rw[Us,Ut,hm,ez];exact kG ydp (by rw[hlen,yj]) (by decide)
   simp only[result,e2];show (match freeze (999+1) aY (.ay 0 0 F.length) with | some (v',_)=>F5 v' | none=>none)=_
   rw[e3]
  refine⟨.ap ydp F.length (FZ F),?_,Ub ydp (adC F),rfl⟩;simp only[go_sem,e1,zd]
def ahN(h:Rm P L)(Q3:Has P L 647 Lz)(Mb:Has P L 766 LJ){v:AV}{l:List ri}(hv:my v l)(hl:l.length<=1000000)(hf:∀p,p∈l->p.1.length<=1000000000/\p.2.length<=1000000000):ah P L 766 [v] (aa (R5 l)):=by
 unfold R5;by_cases hc:64<l.length
 .rw [yz hc];unfold ah;rw[aG Mb];simp only[go_sem,ya,LJ,hv.len,show (64:Int)<l.length by omega,yN]
 .rw [yp hc];have key:=jO P L [0,3] GL
   (fun k st=>∃i:Nat,i+k=l.length/\bF ((l.drop i).map FW)=bF (l.map FW)/\st=⟨[(0,v),(3,aa i)],[],0,0⟩)
   (fun ex st=>∃tm hp ct,st=⟨tm,hp,ct,0⟩/\((ex=.ret/\aj tm 2=aa (bF (l.map FW)))\/(ex=.exit 0/\bF (l.map FW)=0))) ?_
  .unfold ah;rw[aG Mb];simp only[go_sem,ya,LJ,hv.len,show ¬(64:Int)<l.length by omega,yP];generalize hq:D P L (.loop _ GL) _=q;obtain⟨ex,st,rfl,tm,hp,ct,rfl,h2⟩:=bQ hq (key l.length) ⟨0,by omega,rfl,by simp only[go_sem,ya,az,av hv.pu]<;>rfl⟩
   rcases h2 with ⟨rfl,h3⟩ | ⟨rfl,h4⟩
   .simp only [go_sem,h3]
   .rw [h4];simp only[go_sem,az]
  .rintro k st ⟨i,hk,jH,rfl⟩;by_cases hi:i<l.length
   .obtain ⟨rest,e1⟩:=hv.bj hi;have ft:=hf _ (xI hi);have e2:=W7 h (s:=l[i].1) (by omega);have e3:=W7 h (s:=l[i].2) (by omega);have e4:=aAW Q3 (lF ydo [cI l[i].1,cI l[i].2]) (by simp);simp only[yv,yI,yd,yb,xe,ve] at e4;rw[show bF [cI l[i].1,cI l[i].2]=FW l[i] from rfl] at e4;unfold ah at e2 e3 e4;rw[akC hi] at jH;by_cases hb:FW l[i]=0
    .left
     rw[yz hb] at jH;rw[hb] at e4;simp only[go_sem,ya,yb,yq,yi,yj,GL,hv.len,show (i:Int)<l.length by omega,e1,af1,af2,e2,e3,e4];refine⟨_,k-1,rfl,by omega,i+1,by omega,jH,?_⟩;rw[wrap64 (by omega) (by omega)];simp only[go_sem,ya,az,av hv.pu]<;>rfl
    .right
     rw[yp hb] at jH;simp only[go_sem,ya,yb,yq,yi,yj,GL,hv.len,show (i:Int)<l.length by omega,e1,af1,af2,e2,e3,e4,hb,yP,xj];exact⟨_,_,rfl,by simp,_,_,_,rfl,.inl ⟨rfl,by rw[<-jH];simp only[go_sem]⟩⟩
   .right
    simp only[go_sem,ya,GL,hv.len,show ¬(i:Int)<l.length by omega];refine⟨_,_,rfl,by simp,_,_,_,rfl,.inr ⟨rfl,?_⟩⟩;rw[<-jH,xh (by omega)];rfl
def yH(f:Nat)(F:Hp):List AV->List AV->Hp
 | a::r,b::s=>(f+1,.cells ydo ydo ydp 1 (b::s))::(f,.cells ydo ydo ydp 1 (a::r))::F
 | _,_=>F
def yF(f:Nat):List AV->List AV->Nat
 | _::_,_::_=>f+2
 | _,_=>f
def anG(tm:Env)(rs:List (Nat×Bool×Nat)):Aq tm .af rs=ydo:=rfl
def Q4(id:Nat):AV->Bool
 | .ptr j _=> !yo j id
 | .bt _=>ydo
 | _=>ydp
def acz(tm:Env)(id o n:Nat)(rs:List (Nat×Bool×Nat)):Aq tm (.ay id o n) rs=jN tm id rs:=rfl
def acA(tm:Env)(id:Nat):jN tm id []=ydo:=rfl
def abl(tm:Env)(id s x:Nat)(g:Bool)(r:List (Nat×Bool×Nat)):jN tm id ((s,g,x)::r)=(Q4 id (aj tm x)&&jN tm id r):=by
 simp only[jN,Q4];cases aj tm x<;>rfl
def aeu{id j o:Nat}(h:j≠id):Q4 id (.ptr j o)=ydo:=by simp only[Q4,gF h,xj]
def Mc(n sz:Nat)(q:Option (List AV)):Option AV:=match q with | some cs=>bif yo cs.length (n*sz)&&(yM 0 sz&&aE cs) then F5 (.ap ydo n cs) else none | none=>none
def Pa(tm:Env)(hp:Hp)(n sz:Nat)(z:List AV)(ps:List (Nat×Nat×X)):bh tm hp (.ni n sz z ps)=Mc n sz (fill tm z ps):=rfl
def Pb{v:AV}(h:aV v=ydo):Mc 1 1 (F5 [v])=F5 (.ap ydo 1 [v]):=by
 have e:yM 0 1=ydo:=rfl;simp[Mc,aE,h,e]
def aev(tm:Env)(hp an:Hp)(rs:List (Nat×Bool×Nat))(v:AV)(c:Nat):QQ tm hp .af rs (F5 (v,an,c))=F5 (v,an,c):=T9 (anG _ _)
def PH(hp:Hp)(e:Bool)(c:AV):mr hp 1 (.ap e 1 [c])=F5 (1,[c]):=rfl
structure aFQ(S m k:Nat)(a:List Int):Prop where
 len:a.length=m
 on:∀j (h:j<a.length),j<k->j%S<S-1->1<=a[j]/\a[j]<=256
 off:∀j (h:j<a.length),k<=j\/S-1<=j%S->a[j]=0
def ns(l:List Nat):List AV:=l.map fun c:Nat=>AV.int .u8 (c:Int)
def zj(v:AV)(l:List Nat):Prop:=cF v (ns l)/\∀c,c∈l->c<256
def Ug{f:Nat->Int}{B:Int}:∀{n:Nat},(∀t,t<n-> -B<=f t/\f t<=B)-> -(B*n)<=nX f n/\nX f n<=B*n
 | 0,_=>by simp[nX]
 | n+1,h=>by
  have h1:=Ug (f:=f) (B:=B) (n:=n) (fun t ht=>h t (by omega));have h2:=h n (by omega);have h3:B*((n+1:Nat):Int)=B*n+B:=by rw[tr,Int.mul_add];simp
  simp only[nX];omega
def acB{f:Nat->Rat}{g:Nat->Int}:∀{n:Nat},(∀t,t<n->f t=(g t:Rat)/2)->aW f n=((nX g n:Int):Rat)/2
 | 0,_=>by simp only[aW,nX,yca];grind
 | n+1,h=>by
  simp only[aW,nX];rw[acB (fun t ht=>h t (by omega)),h n (by omega),tP];grind
def aFR(q:Nat->Nat->Rat)(v:Nat->Nat->Int)(C R S:Nat):Prop:=∀c r,c<C*S->r<R*S->q c r=(v c r:Rat)/\0<=v c r/\v c r<=1024
def Gv(v:Nat->Nat->Int)(C R S:Nat):Prop:=∀c r,c<C*S->r<R*S->(c%S<S-1->1<=v c r/\v c r<=256)/\(¬c%S<S-1->v c r=0)
def v2(v:Nat->Nat->Int)(c r:Nat):Int:=2*v c r
def v3(v:Nat->Nat->Int)(c r:Nat):Int:=if c=0 then 0 else v (c-1) r
def v4(v:Nat->Nat->Int)(c r:Nat):Int:=if c=0/\r=0 then v 0 0+7 else v c r
def awC:∀c:Fin 1025,gB (fb (c.val:Int))=ydo/\fb (c.val:Int)<4294967296:=by decide+kernel
def asJ{z:Int}(h:0<=z/\z<=1024):gB (fb z)=ydo/\fb z<4294967296:=by
 have e:=awC ⟨z.toNat,by omega⟩
 rwa[show ((⟨z.toNat,by omega⟩:Fin 1025).val:Int)=z from vK h.1] at e
def ayG{z:Int}(h:0<=z/\z<=1024):fq (fb z)=(z:Rat):=by rw[VG (ayv (by omega))];exact adw z
structure aFr(B:List (List Int))(n m:Nat):Prop where
 len:B.length=n
 row:∀b,b∈B->b.length=m/\∀z,z∈b->0<=z/\z<=1024
def acC:∀{l:List Int},(∀x,x∈l->x=0)->bF l=0
 | [],_=>rfl
 | x::l,h=>by
  simp only[bF];rw[yz (h x (by simp)),acC fun y hy=>h y (by simp[hy])]
def awD{C R S:Nat}(c1:1<=C)(c8:C<=8)(r1:1<=R)(r8:R<=8)(s2:2<=S)(s8:S<=8):AE C R S=0:=by
 unfold AE ot;rw[yp (by omega),yp (by omega),yp (by omega)];rfl
def awE{F:List (List Nat)}{n m:Nat}(h:ow F n m):Fq n m F=0:=by
 unfold Fq;rw[yz h.len];refine acC fun x hx=>?_
 obtain⟨r,hr,rfl⟩:=vM.1 hx;have hb:BP r=ydp:=by
  unfold BP;rw[tk];intro b hb;rw[(h.fin r hr b hb).1];simp
 unfold FX;rw[yz (h.row r hr),hb];rfl
def ayH{F:List (List Nat)}{C R S:Nat}(c1:1<=C)(c8:C<=8)(r1:1<=R)(r8:R<=8)(s2:2<=S)(s8:S<=8)(h:ow F (R*S) (C*S)):pJ C R S F=0:=by
 unfold pJ;rw[awD c1 c8 r1 r8 s2 s8,yz rfl];exact awE h
abbrev Xl:Ty:=.sl (.int .u8)
def aew{p:Int}(hp:(Go.Lit.int IntKind.u8 p).wf=ydo):∃n:Nat,p=n/\n<256:=by
 simp only[Go.Lit.wf,ye,vZ] at hp;have h1:IntKind.u8.min=0:=rfl;have h2:IntKind.u8.max=255:=rfl;rw[h1,h2] at hp;exact⟨p.toNat,by omega,by omega⟩
def acD:∀{ps:List (List AV)},(∀p,p∈ps->rb (.int .u8) p)->∃l:List Nat,l.length=ps.length/\ps.flatten=ns l/\∀c,c∈l->c<256
 | [],_=>⟨[],rfl,rfl,fun _ h=>by cases h⟩
 | p::ps,h=>by
  obtain⟨z,rfl,hz⟩:=h p vj;obtain⟨n,rfl,hn⟩:=aew hz;obtain⟨l,h1,h2,h3⟩:=acD (ps:=ps) (fun q hq=>h q (wJ _ hq));refine⟨n::l,by simp[h1],by simp[h2,ns],fun q hq=>?_⟩;rcases wB.1 hq with rfl | hq
  .exact hn
  .exact h3 q hq
def adE{l:List AV}(h:rb Xl l):∃(v:AV) (m:List Nat),l=[v]/\zj v m:=by
 rcases h with rfl | ⟨x,ps,rfl,h⟩
 .exact ⟨_,[],rfl,Bg,fun _ h=>by cases h⟩
 .obtain ⟨m,h1,h2,h3⟩:=acD h;refine⟨_,m,rfl,?_,h3⟩;rw[h2,<-h1]
  have:=Gp x (ns m)
  rwa[show (ns m).length=m.length by simp[ns]] at this
section
variable {S n t:Nat}{c:Nat->Nat}
def Cb(u:Bool)(T c:Nat)(l m:Rat):Rat:=if decide (c<T)=u then l else m
def eG(c:Nat->Nat)(l m:Nat->Rat)(u:Bool)(T t:Nat):Rat:=Cb u T (c t) (l t) (m t)
def nt(c:Nat->Nat)(l m:Nat->Rat)(S:Nat)(u:Bool)(T t:Nat):Rat:=eG c l m u T t*dU S (c t)
def af7{l m:Nat->Rat}{u:Bool}{T:Nat}(kl:Hq 3000 (l t))(km:Hq 3000 (m t)):Hq 3000 (eG c l m u T t):=by
 unfold eG Cb;by_cases h:decide (c t<T)=u
 .rw [yz h];exact kl
 .rw [yp h];exact km
section
variable {c:Nat->Nat}{l m:Nat->Rat}{S n:Nat}(u:Bool)(T:Nat)(kl:∀t,t<n->Hq 3000 (l t))(km:∀t,t<n->Hq 3000 (m t))(hn:n<=64)(hS:S<=8)(hc:∀t,t<n->c t<S)
include kl km hn hS hc
theorem K8{i:Nat}(hi:i<=n):Hq 300000 (aW (eG c l m u T) i)/\Hq 300000 (aW (nt c l m S u T) i):=by
 refine⟨(G3 (N:=n) (fun t ht=>af7 (kl t ht) (km t ht)) hi).mono ?_,(G3 (N:=n) (K:=3080) (fun t ht=>((af7 (kl t ht) (km t ht)).mul (GS hS (by have:=hc t ht;omega)))) hi).mono ?_⟩
 .have:i*(3000+1)<=64*(3000+1):=yT _ (by omega)
  omega
 .have:i*(3080+1)<=64*(3080+1):=yT _ (by omega)
  omega
end
def fP(c:Nat->Nat)(l m:Nat->Rat)(S n:Nat)(u:Bool)(T:Nat):Rat:=aW (nt c l m S u T) n/aW (eG c l m u T) n
def cP(c:Nat->Nat)(l m:Nat->Rat)(S n:Nat)(u:Bool):Nat->Rat
 | 0=>fP c l m S n u 0
 | T+1=>if decide (cP c l m S n u T<fP c l m S n u (T+1))=u then fP c l m S n u (T+1) else cP c l m S n u T
def hZ(S:Nat)(ro:Bool)(t:Nat):Nat:=if ro=ydo then t/S else t%S
def fE(p:Nat->Nat->Rat)(e:Rat)(S t:Nat):Rat:=pK (p (t%S) (t/S)-e)
def mi(p:Nat->Nat->Rat)(e:Rat)(S t:Nat):Rat:=p (t%S) (t/S)+e
def aBB{p:Nat->Nat->Rat}{e:Rat}(kp:∀a b,a<S->b<S->Hq 429 (p a b))(ke:Hq 2400 e):(∀t,t<S*S->Hq 3000 (fE p e S t))/\∀t,t<S*S->Hq 3000 (mi p e S t):=by
 refine⟨fun t ht=>?_,fun t ht=>?_⟩
 .exact (af6 ((kp _ _ (sY ht).1 (sY ht).2).sub ke)).mono (by decide)
 .exact ((kp _ _ (sY ht).1 (sY ht).2).add ke).mono (by decide)
def CL{ro:Bool}(ht:t<S*S):hZ S ro t<S:=by
 unfold hZ
 cases ro with
 | false=>exact (sY ht).1
 | true=>exact (sY ht).2
def mJ(p:Nat->Nat->Rat)(S n:Nat):Bool:=(xo n).any fun t=>decide (p (t%S) (t/S)<0)
def apY{p:Nat->Nat->Rat}:mJ p S (n+1)=(mJ p S n||decide (p (n%S) (n/S)<0)):=by simp[mJ,wV]
def ayI{p:Nat->Nat->Rat}(h:mJ p S n=ydp)(ht:t<n):0<=p (t%S) (t/S):=by
 unfold mJ at h;rw[tk] at h
 have:=h t (yat.2 ht)
 exact vv.1 (by simpa using this)
structure Ext(P:aF)(L:Lib):Prop extends Fr' P L where
 HG:Has P L 725 LI
 aBC:Has P L 693 Wh
def GW(va vl vm:AV)(fo:Bool)(z:Int)(n i:Nat):Env:=[(1,va),(2,vl),(3,vm),(4,.ptr 0 0),(8,.ptr 1 0),(9,.ptr 2 0),(10,.bool fo),(11,aa z),(12,.ptr 3 0),(13,.ptr 4 0),(35,va),(36,aa n),(37,aa i)]
def nQ(va vl vm:AV)(fo:Bool)(z:Int):Env:=[(1,va),(2,vl),(3,vm),(4,.ptr 0 0),(8,.ptr 1 0),(9,.ptr 2 0),(10,.bool fo),(11,aa z)]
def da(C R S:Int):Obj:=.cells ydo ydo ydo 3 [aa C,aa R,aa S]
def oO(C R S:Int)(lo hi M N:List AV):Hp:=[(4,.cells ydo ydo ydo 12 N),(3,.cells ydo ydo ydo 12 M),(2,.cells ydo ydo ydo 4 hi),(1,.cells ydo ydo ydo 4 lo),(0,da C R S)]
def aex(id:Nat)(cs:List AV):LX id (.bt cs)=ydo:=rfl
def F0:List AV:=[.int .i64 0,.af,.int .i64 0,.af]
def awF(h:Ext P L){va vl vm:AV}{l m:Nat->Rat}{C R T:Nat}{fo:Bool}{lo hi:List AV}(nv:bk va ((xo n).map fun t=>((c t:Nat):Int)))(nl:jD vl ((xo n).map l))(oA:jD vm ((xo n).map m))(hn:n<=64)(hS:S<=8)(hT:T<=100)(hc:∀t,t<n->c t<S)(kl:∀t,t<n->Hq 3000 (l t))(km:∀t,t<n->Hq 3000 (m t)):
  ew P L [1,2,3,4,8,9,10,11,12,13,35,36,37] GI (fun d st=>∃i M N,i+d=n/\Mo M (aW (eG c l m ydo T) i) (aW (nt c l m S ydo T) i) 0/\Mo N (aW (eG c l m ydp T) i) (aW (nt c l m S ydp T) i) 0/\st=⟨GW va vl vm fo ((T:Int)-1) n i,oO C R S lo hi M N,5,0⟩) (fun ex s'=>∃tm ct M N,s'=⟨tm,oO C R S lo hi M N,ct,0⟩/\ex=.exit 2/\Mo M (aW (eG c l m ydo T) n) (aW (nt c l m S ydo T) n) 0/\Mo N (aW (eG c l m ydp T) n) (aW (nt c l m S ydp T) n) 0/\cd tm [1,2,3,4,8,9,10,11,12,13]=nQ va vl vm fo ((T:Int)-1)++[(12,.ptr 3 0),(13,.ptr 4 0)]):=by
 apply eE;rintro d st ⟨i,M,N,hid,hM,hN,rfl⟩;have hlen:((xo n).map fun t=>((c t:Nat):Int)).length=n:=by simp
 by_cases bZ:i<n
 .left
  have ea:=nv.bj (i:=i) (by simpa using bZ);rw[vV,ug] at ea;obtain⟨x1,x2,x3,x4,xr,el,hx⟩:=nl.bj (i:=i) (by simpa using bZ);rw[vV,ug] at hx;obtain⟨y1,y2,y3,y4,yr,em,hy⟩:=oA.bj (i:=i) (by simpa using bZ);rw[vV,ug] at hy;have kc:=GS hS (show c i<=8 by have:=hc i bZ;omega);obtain⟨k,ek,hk⟩:=Xg h.toFr' h.HG (C:=C) (R:=R) (S:=S) (i:=c i) hS (by have:=hc i bZ;omega);have PI:decide (((c i:Nat):Int)<=(T:Int)-1)=decide (c i<T):=yaj.2 (by omega);have Nh:(i:Int)<n:=by omega
  have fz:=zi;have gx:=hx.f4;have gy:=hy.f4;obtain⟨k1,k2,k3,k4,rfl,gk⟩:=hk.gen;have kM:=K8 (i:=i) ydo T kl km hn hS hc (by omega);have kN:=K8 (i:=i) ydp T kl km hn hS hc (by omega)
  suffices hh:∃s' M' N',_=F5 (Ex.normal,s')/\Mo M' (aW (eG c l m ydo T) (i+1)) (aW (nt c l m S ydo T) (i+1)) 0/\Mo N' (aW (eG c l m ydp T) (i+1)) (aW (nt c l m S ydp T) (i+1)) 0/\bE [1,2,3,4,8,9,10,11,12,13,35,36,37] s'=⟨GW va vl vm fo ((T:Int)-1) n (i+1),oO C R S lo hi M' N',5,0⟩ by
   obtain⟨s',M',N',q1,q2,q3,q4⟩:=hh;exact⟨s',d-1,q1,by omega,i+1,M',N',by omega,q2,q3,q4⟩
  simp only[aW,nt,eG,Cb] at kM kN ⊢;obtain⟨a1,a2,a3,a4,a5,a6,a7,a8,a9,dj,dl,a12,rfl,hf,hg,h0⟩:=hM;obtain⟨b1,b2,b3,b4,b5,b6,b7,b8,b9,b10,b11,b12,rfl,jH,AY,h0'⟩:=hN;have gf:=hf.f4;have gg:=hg.f4;have D3:=jH.f4;have D4:=AY.f4;unfold ah at ek;by_cases hcT:c i<T
  .have fw:decide (c i<T)=ydo:=xf hcT;rw[fw] at PI;simp only[fw,xJ];obtain⟨s,e1,hs⟩:=pE h.toFr' hf hx (K:=300000) kM.1 ((kl i bZ).mono (by omega)) (by decide);obtain⟨p,e2,hp⟩:=DQ h.toFr' hx hk (K:=3000) (kl i bZ) (kc.mono (by omega)) (by decide);obtain⟨s',e3,qX⟩:=pE h.toFr' hg hp (K:=300000) kM.2 (((kl i bZ).mul kc).mono (by omega)) (by decide);obtain⟨r,e4,hr⟩:=pE h.toFr' jH hy (K:=300000) kN.1 ((km i bZ).mono (by omega)) (by decide);obtain⟨p',e5,an⟩:=DQ h.toFr' hy hk (K:=3000) (km i bZ) (kc.mono (by omega)) (by decide);obtain⟨r',e6,bB⟩:=pE h.toFr' AY an (K:=300000) kN.2 (((km i bZ).mul kc).mono (by omega)) (by decide);have qH:=hs;have Xm:=qX;have mE:=hr;have Xn:=bB;obtain⟨s1,s2,s3,s4,rfl,gs⟩:=hs.gen;obtain⟨p1,p2,p3,p4,rfl,gp⟩:=hp.gen;obtain⟨t1,t2,t3,t4,rfl,gt⟩:=qX.gen;obtain⟨r1,r2,r3,r4,rfl,gr⟩:=hr.gen
   obtain⟨q1,q2,q3,q4,rfl,gq⟩:=an.gen;obtain⟨u1,u2,u3,u4,rfl,gu⟩:=bB.gen;unfold ah at e1 e2 e3 e4 e5 e6;simp only[go_sem,ya,yb,GI,GW,oO,da,Nh,ea,el,em,PI,aO,GP,GQ,Gq,Gh,wG,aex,bg,yd,yg,yX,HA,eS,jP,fz,gx.st,gy.st,gk.st,ek,bi,gf.ai,gx.ai,e1,gk.ai,e2,gg.ai,gp.ai,e3,gs.r9,gt.Nf,D3.ai,gy.ai,e4,e5,D4.ai,gq.ai,e6,gr.r9,gu.Nf];refine⟨_,_,_,rfl,⟨_,_,_,_,_,_,_,_,_,_,_,_,rfl,qH,Xm,h0⟩,⟨_,_,_,_,_,_,_,_,_,_,_,_,rfl,mE,Xn,h0'⟩,?_⟩;rw[wrap64 (by omega) (by omega)];simp only[go_sem,ya,yb,az,av nv.pu,av nl.pu,av oA.pu]<;>rfl
  .have fw:decide (c i<T)=ydp:=yY hcT;rw[fw] at PI;simp only[fw,xJ];obtain⟨s,e1,hs⟩:=pE h.toFr' hf hy (K:=300000) kM.1 ((km i bZ).mono (by omega)) (by decide);obtain⟨p,e2,hp⟩:=DQ h.toFr' hy hk (K:=3000) (km i bZ) (kc.mono (by omega)) (by decide);obtain⟨s',e3,qX⟩:=pE h.toFr' hg hp (K:=300000) kM.2 (((km i bZ).mul kc).mono (by omega)) (by decide);obtain⟨r,e4,hr⟩:=pE h.toFr' jH hx (K:=300000) kN.1 ((kl i bZ).mono (by omega)) (by decide);obtain⟨p',e5,an⟩:=DQ h.toFr' hx hk (K:=3000) (kl i bZ) (kc.mono (by omega)) (by decide);obtain⟨r',e6,bB⟩:=pE h.toFr' AY an (K:=300000) kN.2 (((kl i bZ).mul kc).mono (by omega)) (by decide);have qH:=hs;have Xm:=qX;have mE:=hr;have Xn:=bB;obtain⟨s1,s2,s3,s4,rfl,gs⟩:=hs.gen;obtain⟨p1,p2,p3,p4,rfl,gp⟩:=hp.gen;obtain⟨t1,t2,t3,t4,rfl,gt⟩:=qX.gen;obtain⟨r1,r2,r3,r4,rfl,gr⟩:=hr.gen
   obtain⟨q1,q2,q3,q4,rfl,gq⟩:=an.gen;obtain⟨u1,u2,u3,u4,rfl,gu⟩:=bB.gen;unfold ah at e1 e2 e3 e4 e5 e6;simp only[go_sem,ya,yb,GI,GW,oO,da,Nh,ea,el,em,PI,aO,GP,GQ,Gq,Gh,wG,aex,bg,yd,yg,yX,HA,eS,jP,fz,gx.st,gy.st,gk.st,ek,bi,gf.ai,gy.ai,e1,gk.ai,e2,gg.ai,gp.ai,e3,gs.r9,gt.Nf,D3.ai,gx.ai,e4,e5,D4.ai,gq.ai,e6,gr.r9,gu.Nf];refine⟨_,_,_,rfl,⟨_,_,_,_,_,_,_,_,_,_,_,_,rfl,qH,Xm,h0⟩,⟨_,_,_,_,_,_,_,_,_,_,_,_,rfl,mE,Xn,h0'⟩,?_⟩;rw[wrap64 (by omega) (by omega)];simp only[go_sem,ya,yb,az,av nv.pu,av nl.pu,av oA.pu]<;>rfl
 .right
  have zA:i=n:=by omega
  subst zA;simp only[go_sem,ya,GI,GW,show ¬(i:Int)<i by omega];exact⟨_,_,rfl,by simp,_,_,M,N,rfl,rfl,hM,hN,by simp only[go_sem,ya,nQ,yB,yL]<;>rfl⟩
end
def Pc{f g:Nat->Rat}:∀{n:Nat},(∀t,t<n->f t=g t)->aW f n=aW g n
 | 0,_=>rfl
 | n+1,h=>by
  show aW f n+f n=aW g n+g n
  rw[Pc fun t ht=>h t (by omega),h n (by omega)]
section
variable {S n:Nat}{c:Nat->Nat}
def Y0(c:Nat->Nat)(l m:Nat->Rat)(S n:Nat):Nat->List AV->List AV->Prop
 | 0,lo,hi=>lo=F0/\hi=F0
 | T+1,lo,hi=>∃a1 a2 a3 a4 b1 b2 b3 b4,lo=[a1,a2,a3,a4]/\hi=[b1,b2,b3,b4]/\bH (.agg lo) (cP c l m S n ydp T)/\bH (.agg hi) (cP c l m S n ydo T)
def adF{l m:Nat->Rat}{T:Nat}:cP c l m S n ydp (T+1)=if fP c l m S n ydp (T+1)<cP c l m S n ydp T then fP c l m S n ydp (T+1) else cP c l m S n ydp T:=by
 rw[cP];by_cases h:cP c l m S n ydp T<fP c l m S n ydp (T+1)
 .rw [yp (by simp[h]),yp (vv.2 (tK h))]
 .rw [yz (by simp[h])];by_cases h2:fP c l m S n ydp (T+1)<cP c l m S n ydp T
  .rw [yz h2]
  .rw [yp h2];exact yaP (vv.1 h) (vv.1 h2)
def adG{l m:Nat->Rat}{T:Nat}:cP c l m S n ydo (T+1)=if cP c l m S n ydo T<fP c l m S n ydo (T+1) then fP c l m S n ydo (T+1) else cP c l m S n ydo T:=by
 rw[cP];by_cases h:cP c l m S n ydo T<fP c l m S n ydo (T+1)
 .rw [yz (by simp[h]),yz h]
 .rw [yp (by simp[h]),yp h]
section
variable {c:Nat->Nat}{l m:Nat->Rat}{S n:Nat}(u:Bool)(kl:∀t,t<n->Hq 3000 (l t))(km:∀t,t<n->Hq 3000 (m t))(hn:n<=64)(hS:S<=8)(hc:∀t,t<n->c t<S)
include kl km hn hS hc
theorem Pd(T:Nat):Hq 600000 (fP c l m S n u T):=by
 obtain⟨k1,k2⟩:=K8 u T kl km hn hS hc (yx n);exact (k2.div k1).mono (by decide)
theorem Pe:∀T,Hq 600000 (cP c l m S n u T)
 | 0=>Pd u kl km hn hS hc 0
 | T+1=>by
  rw[cP];by_cases h:decide (cP c l m S n u T<fP c l m S n u (T+1))=u
  .rw [yz h];exact Pd u kl km hn hS hc _
  .rw [yp h];exact Pe T
end
def awG{a1 a2 a3 a4 b1 b2 b3 b4:AV}(g:F4 a1 a2 a3 a4)(k:F4 b1 b2 b3 b4)(hp:Hp):result hp (.aw [.agg [a1,a2,a3,a4],.agg [b1,b2,b3,b4]])=F5 (.aw [.agg [a1,a2,a3,a4],.agg [b1,b2,b3,b4]]):=by
 have e1:=g.ai 980 hp;have e2:=k.ai 980 hp;simp only[yb] at e1 e2;simp only[result,Kb,g.pu,k.pu,yu,Cv,pX,deep,e1,e2]
def CM(C R S:Int)(lo hi:List AV):Hp:=[(2,.cells ydo ydo ydo 4 hi),(1,.cells ydo ydo ydo 4 lo),(0,da C R S)]
def awH(h:Ext P L){va vl vm:AV}{l m:Nat->Rat}{C R:Nat}(nv:bk va ((xo n).map fun t=>((c t:Nat):Int)))(nl:jD vl ((xo n).map l))(oA:jD vm ((xo n).map m))(hn:n<=64)(hS:S<=8)(hc:∀t,t<n->c t<S)(kl:∀t,t<n->Hq 3000 (l t))(km:∀t,t<n->Hq 3000 (m t))(h0:∀u T,T<=S->aW (eG c l m u T) n≠0):
  ew P L [1,2,3,4,8,9,10,11] KD (fun d st=>∃T lo hi,T+d=S+1/\Y0 c l m S n T lo hi/\st=⟨nQ va vl vm (decide (0<T)) ((T:Int)-1),CM C R S lo hi,3,0⟩) (fun ex s'=>∃tm ct lo hi,s'=⟨tm,CM C R S lo hi,ct,0⟩/\ex=.exit 0/\Y0 c l m S n (S+1) lo hi/\cd tm [8,9]=[(8,.ptr 1 0),(9,.ptr 2 0)]):=by
 apply eE;rintro d st ⟨T,lo,hi,hid,hB,rfl⟩;have hlen:((xo n).map fun t=>((c t:Nat):Int)).length=n:=by simp
 by_cases hT:T<S+1
 .left
  have hTw:(T:Int)-1<S:=by omega
  obtain⟨z,e0,hz⟩:=DP h.toFr' (z:=0) (by omega) (by omega);have dw:=hz;obtain⟨z1,z2,z3,z4,rfl,gz⟩:=hz.gen;have B8:Mo [z1,z2,z3,z4,z1,z2,z3,z4,z1,z2,z3,z4] 0 0 0:=⟨_,_,_,_,_,_,_,_,_,_,_,_,rfl,dw,dw,dw⟩;have Di:=fun hp ct id (N:List AV) (hN:N.length=12)=>HH B8 hp ct id hN
  have aY:bP [z1,z2,z3,z4]=ydo:=gz.o;have hp0:bP [AV.int .i64 0,.af,.int .i64 0,.af,.int .i64 0,.af,.int .i64 0,.af,.int .i64 0,.af,.int .i64 0,.af]=ydo:=rfl;have aBD:aE [AV.int .i64 0,.af,.int .i64 0,.af,.int .i64 0,.af,.int .i64 0,.af,.int .i64 0,.af,.int .i64 0,.af]=ydo:=rfl;have key:=fun fo lo hi=>awF (C:=C) (R:=R) (T:=T) (fo:=fo) (lo:=lo) (hi:=hi) h nv nl oA hn hS (by omega) hc kl km
  unfold ah at e0
  suffices hh:∃s' lz c9,_=F5 (Ex.normal,s')/\Y0 c l m S n (T+1) lz c9/\bE [1,2,3,4,8,9,10,11] s'=⟨nQ va vl vm ydo ((T+1:Nat)-1:Int),CM C R S lz c9,3,0⟩ by
   obtain⟨s',lz,c9,q1,q2,q3⟩:=hh;refine⟨s',d-1,q1,by omega,T+1,lz,c9,by omega,q2,?_⟩;rw[q3,xf (show 0<T+1 by omega)]
  simp only[go_sem,ya,yb,yi,KD,nQ,CM,da,bg,yd,yg,yX,hTw,aO,hp0,aBD,aY,ybm,yL,wF,yB,e0,bi,nI,over,Di,nv.len,hlen];generalize hq:D P L (.loop _ GI) _=q;obtain⟨ex,st,rfl,tm,ct,M,N,rfl,rfl,hM,hN,og⟩:=bQ hq (key (decide (0<T)) lo hi n) ⟨0,_,_,by omega,B8,B8,by
   simp only[go_sem,ya,yb,az,GW,oO,da,av nv.pu,av nl.pu,av oA.pu]<;>rfl⟩
  have dh:∀ct,bE [1,2,3,4,8,9,10,11,12,13] ⟨tm,oO C R S lo hi M N,ct,0⟩=⟨nQ va vl vm (decide (0<T)) ((T:Int)-1)++[(12,.ptr 3 0),(13,.ptr 4 0)],oO C R S lo hi M N,5,0⟩:=fun ct=>by
   refine Eq.trans (Sy (c':=ct) (tm':=nQ va vl vm (decide (0<T)) ((T:Int)-1)++[(12,.ptr 3 0),(13,.ptr 4 0)]) (by rw[og];rfl)) ?_
   simp only[go_sem,ya,yb,az,nQ,oO,da,yB,yL,av nv.pu,av nl.pu,av oA.pu]<;>rfl
  obtain⟨a1,a2,a3,a4,a5,a6,a7,a8,a9,dj,dl,a12,rfl,hf,hg,_⟩:=hM;obtain⟨b1,b2,b3,b4,b5,b6,b7,b8,b9,b10,b11,b12,rfl,jH,AY,_⟩:=hN;have gf:=hf.f4;have gg:=hg.f4;have D3:=jH.f4;have D4:=AY.f4;have kM:=K8 (i:=n) ydo T kl km hn hS hc (by omega);have kN:=K8 (i:=n) ydp T kl km hn hS hc (by omega);obtain⟨x,e1,hx⟩:=M3 h.toFr' hg hf (h0 ydo T (by omega)) kM.2 kM.1 (by decide);obtain⟨y,e2,hy⟩:=M3 h.toFr' AY jH (h0 ydp T (by omega)) kN.2 kN.1 (by decide);have hx:bH x (fP c l m S n ydo T):=hx;have hy:bH y (fP c l m S n ydp T):=hy;have kx:=Pd ydo kl km hn hS hc T;have ky:=Pd ydp kl km hn hS hc T;have nm:=hx;have fX:=hy;obtain⟨x1,x2,x3,x4,rfl,gx⟩:=hx.gen;obtain⟨y1,y2,y3,y4,rfl,gy⟩:=hy.gen;have gz0:bP F0=ydo:=rfl;unfold ah at e1 e2;have wT:IntKind.wrap .i64 ((T:Int)-1+1)=((T+1:Nat)-1:Int):=by rw[wrap64 (by omega) (by omega)];omega
  cases T with
  | zero=>
   obtain⟨rfl,rfl⟩:=hB;have hd:decide (0<0)=ydp:=rfl;rw[hd] at dh;simp only[go_sem,yb,dh];simp only[go_sem,ya,yb,nQ,oO,da,F0,bg,yd,yg,yX,yB,yL,eS,gg.ai,gf.ai,e1,bi,D4.ai,D3.ai,e2,aO,gx.st,gy.st,wT];refine⟨_,_,_,rfl,⟨_,_,_,_,_,_,_,_,rfl,rfl,fX,nm⟩,?_⟩;simp only[go_sem,ya,yb,az,av nv.pu,av nl.pu,av oA.pu]<;>rfl
  | succ T=>
   obtain⟨l1,l2,l3,l4,m1,m2,m3,m4,rfl,rfl,aZ,eW⟩:=hB;have hd:decide (0<T+1)=ydo:=xf (by omega);have kh:=Pe ydo kl km hn hS hc T;have ko:=Pe ydp kl km hn hS hc T;have e3:=m71 h.toFr' nm eW kx kh (by decide);have e4:=m71 h.toFr' fX aZ ky ko (by decide);have c3:=UD (fP c l m S n ydo (T+1)) (cP c l m S n ydo T);have c4:=ase (fP c l m S n ydp (T+1)) (cP c l m S n ydp T);have gl:=aZ.f4;have gm:=eW.f4;unfold ah at e3 e4;rw[hd] at dh;have q1:=adG (c:=c) (l:=l) (m:=m) (S:=S) (n:=n) (T:=T);have q2:=adF (c:=c) (l:=l) (m:=m) (S:=S) (n:=n) (T:=T);by_cases d1:cP c l m S n ydo T<fP c l m S n ydo (T+1)<;>by_cases d2:fP c l m S n ydp (T+1)<cP c l m S n ydp T
   .rw [xf d1] at c3;rw[xf d2] at c4;rw[yz d1] at q1;rw[yz d2] at q2;simp only[go_sem,dh];simp only[go_sem,ya,yb,nQ,oO,da,bg,yd,yg,yX,yB,yL,eS,gg.ai,gf.ai,e1,bi,D4.ai,D3.ai,e2,aO,gx.st,gy.st,gx.ai,gy.ai,gl.ai,gm.ai,e3,e4,c3,c4,wT];refine⟨_,_,_,rfl,⟨_,_,_,_,_,_,_,_,rfl,rfl,by rw[q2];exact fX,by rw[q1];exact nm⟩,?_⟩
    simp only[go_sem,ya,yb,az,av nv.pu,av nl.pu,av oA.pu]<;>rfl
   .rw [xf d1] at c3;rw[yY d2] at c4;rw[yz d1] at q1;rw[yp d2] at q2;simp only[go_sem,dh];simp only[go_sem,ya,yb,nQ,oO,da,bg,yd,yg,yX,yB,yL,eS,gg.ai,gf.ai,e1,bi,D4.ai,D3.ai,e2,aO,gx.st,gy.st,gx.ai,gy.ai,gl.ai,gm.ai,e3,e4,c3,c4,wT];refine⟨_,_,_,rfl,⟨_,_,_,_,_,_,_,_,rfl,rfl,by rw[q2];exact aZ,by rw[q1];exact nm⟩,?_⟩
    simp only[go_sem,ya,yb,az,av nv.pu,av nl.pu,av oA.pu]<;>rfl
   .rw [yY d1] at c3;rw[xf d2] at c4;rw[yp d1] at q1;rw[yz d2] at q2;simp only[go_sem,dh];simp only[go_sem,ya,yb,nQ,oO,da,bg,yd,yg,yX,yB,yL,eS,gg.ai,gf.ai,e1,bi,D4.ai,D3.ai,e2,aO,gx.st,gy.st,gx.ai,gy.ai,gl.ai,gm.ai,e3,e4,c3,c4,wT];refine⟨_,_,_,rfl,⟨_,_,_,_,_,_,_,_,rfl,rfl,by rw[q2];exact fX,by rw[q1];exact eW⟩,?_⟩
    simp only[go_sem,ya,yb,az,av nv.pu,av nl.pu,av oA.pu]<;>rfl
   .rw [yY d1] at c3;rw[yY d2] at c4;rw[yp d1] at q1;rw[yp d2] at q2;simp only[go_sem,dh];simp only[go_sem,ya,yb,nQ,oO,da,bg,yd,yg,yX,yB,yL,eS,gg.ai,gf.ai,e1,bi,D4.ai,D3.ai,e2,aO,gx.st,gy.st,gx.ai,gy.ai,gl.ai,gm.ai,e3,e4,c3,c4,wT];refine⟨_,_,_,rfl,⟨_,_,_,_,_,_,_,_,rfl,rfl,by rw[q2];exact aZ,by rw[q1];exact eW⟩,?_⟩
    simp only[go_sem,ya,yb,az,av nv.pu,av nl.pu,av oA.pu]<;>rfl
 .right
  have hTS:T=S+1:=by omega
  subst hTS;simp only[go_sem,ya,KD,nQ,CM,da,bg,yd,yg,yX,show ¬((S+1:Nat):Int)-1<S by omega];exact⟨_,_,rfl,by simp,_,_,lo,hi,rfl,rfl,hB,by simp only[go_sem,ya]<;>rfl⟩
def ahO(h:Ext P L){va vl vm:AV}{l m:Nat->Rat}{C R:Nat}(nv:bk va ((xo n).map fun t=>((c t:Nat):Int)))(nl:jD vl ((xo n).map l))(oA:jD vm ((xo n).map m))(hn:n<=64)(hS:S<=8)(hc:∀t,t<n->c t<S)(kl:∀t,t<n->Hq 3000 (l t))(km:∀t,t<n->Hq 3000 (m t))(h0:∀u T,T<=S->aW (eG c l m u T) n≠0):
  ∃x y,ah P L 693 [.agg [aa C,aa R,aa S],va,vl,vm] (.aw [x,y])/\bH x (cP c l m S n ydp S)/\bH y (cP c l m S n ydo S):=by
 have key:=awH (C:=C) (R:=R) h nv nl oA hn hS hc kl km h0;have Je:∀ct,oX ct 4 [AV.int .i64 0,.af,.int .i64 0,.af]=F5 (.ptr ct 0,.cells ydo ydo ydo 4 F0):=fun _=>rfl
 suffices hh:∃a1 a2 a3 a4 b1 b2 b3 b4,ah P L 693 [.agg [aa C,aa R,aa S],va,vl,vm] (.aw [.agg [a1,a2,a3,a4],.agg [b1,b2,b3,b4]])/\bH (.agg [a1,a2,a3,a4]) (cP c l m S n ydp S)/\bH (.agg [b1,b2,b3,b4]) (cP c l m S n ydo S) by
  obtain⟨_,_,_,_,_,_,_,_,q1,q2,q3⟩:=hh;exact⟨_,_,q1,q2,q3⟩
 unfold ah;rw[aG h.aBC];simp only[go_sem,yb,Wh,BQ,Je];generalize hq:D P L (.loop _ KD) _=q;obtain⟨ex,st,rfl,tm,ct,lo,hi,rfl,rfl,hB,og⟩:=bQ hq (key (S+1)) ⟨0,F0,F0,by omega,⟨rfl,rfl⟩,by
  simp only[go_sem,ya,yb,yq,az,nQ,CM,da,av nv.pu,av nl.pu,av oA.pu]<;>rfl⟩
 obtain⟨a1,a2,a3,a4,b1,b2,b3,b4,rfl,rfl,aZ,eW⟩:=hB;have dh:∀ct,bE [8,9] ⟨tm,CM C R S [a1,a2,a3,a4] [b1,b2,b3,b4],ct,0⟩=⟨[(8,.ptr 0 0),(9,.ptr 1 0)],[(1,.cells ydo ydo ydo 4 [b1,b2,b3,b4]),(0,.cells ydo ydo ydo 4 [a1,a2,a3,a4])],2,0⟩:=fun ct=>by
  refine Eq.trans (Sy (c':=ct) (tm':=[(8,.ptr 1 0),(9,.ptr 2 0)]) (by rw[og];rfl)) ?_
  simp only[go_sem,ya,yb,az,CM,da]<;>rfl
 have gl:=aZ.f4;have gm:=eW.f4;refine⟨a1,a2,a3,a4,b1,b2,b3,b4,?_,aZ,eW⟩;simp only[go_sem,ya,dh,GP,GQ,Gq,Gh,wG,O3 (show 1≠0 by decide),yg,eS,gl.st,gm.st,cJ,cK,awG gl gm]
end
section
variable {b1 b2 b3 b4 v:AV}{ng:Bool}{s:List Nat}{C R S a b i:Nat}
def mK(C R S a b i:Nat)(v:AV)(s:List Nat)(b1 b2 b3 b4:AV):Env:=[(63,.fn (.f 719) [] [dN C R S,iZ a b]),(62,.agg [aa a,aa b]),(61,aa b),(60,aa C),(59,.ptr 0 0),(58,aa i),(57,aa a),(56,aa C),(55,.ptr 0 0),(54,aa i),(53,.agg [aa C,aa R,aa S]),(17,.ptr 9 0),(16,.ptr 8 0),(15,.ptr 7 0),(14,.ptr 6 0),(13,.ptr 5 0),(12,.ptr 4 0),(52,.agg [b1,b2,b3,b4]),(51,.str s),(48,.bool ydp),(47,aa 0),(11,aa 0),(46,aa 0),(45,.ay 3 0 2),(44,aa 0),(43,.str s),(42,aa 0),(41,aa (((C*R:Nat):Int)-1)),(40,aa ((C*R:Nat):Int)),(39,aa R),(38,.ptr 0 1),(37,aa C),(36,.ptr 0 0),(35,aa i),(32,.bool ydp),(31,aa 0),(10,aa 0),(30,aa 0),(29,v),(28,.agg [aa C,aa R,aa S]),(9,aa 0),(8,.ptr 2 0),(5,.ptr 1 0),(4,.ptr 0 0),(0,.agg [aa C,aa R,aa S]),(1,v),(2,aa i),(3,.str s)]
def zO(C R S:Int)(v b1 b2 b3 b4:AV)(ng:Bool)(q5 q6 q7 q8:AV)(pu:Bool):Hp:=[(9,.cells ydo ydo ydo 1 [.bool ng]),(8,.cells ydo pu ydo 1 [q8]),(7,.cells ydo pu ydo 1 [q7]),(6,.cells ydo pu ydo 1 [q6]),(5,.cells ydo pu ydo 1 [q5]),(4,.cells ydo ydo ydo 4 [b1,b2,b3,b4]),(3,.cells ydp ydo ydo 1 [aa 0,aa 0]),(2,.cells ydo ydo ydo 4 [.str [],.str [],.str [],.str []]),(1,.cells ydo ydo ydo 1 [v]),(0,.cells ydo ydo ydo 3 [aa C,aa R,aa S])]
def iG(A B:VC)(TM:Env)(C R S:Int)(v b1 b2 b3 b4:AV)(ng:Bool):Nat->List AV->List AV->List AV->List AV->Nat->Hp
 | 0,_,_,_,_,st=>(10,.lp TM [64,65] A B st .none)::zO C R S v b1 b2 b3 b4 ng .af .af .af .af ydo
 | n+1,cs,rs,ls,ms,st=>[(14,.cells ydo ydo ydp 1 cs),(13,.cells ydo ydo ydp 1 rs),(12,.cells ydo ydo ydp 4 ls),(11,.cells ydo ydo ydp 4 ms),(10,.lp TM [64,65] A B st .none)]++zO C R S v b1 b2 b3 b4 ng (.ay 14 0 (n+1)) (.ay 13 0 (n+1)) (.ay 12 0 (n+1)) (.ay 11 0 (n+1)) ydp
def D5:Nat->Nat
 | 0=>11
 | _+1=>15
def af8{A B:VC}(pv:aV v=ydo)(g:F4 b1 b2 b3 b4)(n:Nat)(cs rs ls ms:List AV):mB 11 10 (iG A B (mK C R S a b i v s b1 b2 b3 b4) C R S v b1 b2 b3 b4 ng n cs rs ls ms 0)=(iG A B (mK C R S a b i v s b1 b2 b3 b4) C R S v b1 b2 b3 b4 ng n cs rs ls ms 0,D5 n):=by
 obtain⟨p1,p2,p3,p4⟩:=g.I8;cases n<;>simp only[go_sem,ya,yb,yq,yi,CA,iG,zO,D5,mK,dN,iZ,yB,yL,av pv,av p1,av p2,av p3,av p4]
def ayJ{A B:VC}(pv:aV v=ydo)(g:F4 b1 b2 b3 b4)(n:Nat)(cs rs ls ms:List AV)(tm:Env)(ct:Nat):bE [] ⟨tm,iG A B (mK C R S a b i v s b1 b2 b3 b4) C R S v b1 b2 b3 b4 ng n cs rs ls ms 0,ct,11⟩=⟨[],iG A B (mK C R S a b i v s b1 b2 b3 b4) C R S v b1 b2 b3 b4 ng n cs rs ls ms 0,D5 n,11⟩:=by
 obtain⟨p1,p2,p3,p4⟩:=g.I8;cases n<;>simp only[go_sem,ya,yb,yq,yi,acv,af4,iG,zO,D5,mK,dN,iZ,yB,yL,av pv,av p1,av p2,av p3,av p4]
def CN{a b c d:AV}(h:aE [a,b,c,d]=ydo):Mc 1 4 (F5 [a,b,c,d])=F5 (.ap ydo 1 [a,b,c,d]):=by
 have e:yM 0 4=ydo:=rfl;simp only[Mc,h,e];rfl
def PJ(hp:Hp)(e:Bool)(a b c d:AV):mr hp 4 (.ap e 1 [a,b,c,d])=F5 (1,[a,b,c,d]):=rfl
structure Ni(P:aF)(L:Lib):Prop extends Ctd P L,Ext P L where
 Xo:Has P L 656 LA
 Xd:Has P L 674 Qm
 L9:Has P L 720 LH
def aBE(h:Ni P L){c r k j n f:Nat}{w x1 x2 x3 x4:AV}{rest ayK:List AV}{cs rs ls ms:List AV}{x e:Rat}(hv:aV v=ydo)(hvz:∀(n:Nat) (hp:Hp),freeze (n+1) hp v=F5 (v,hp))(hb:bH (.agg [b1,b2,b3,b4]) e)(kx:Hq 429 x)(ke:Hq 2400 e)(l1:cs.length=n)(l2:rs.length=n)(l3:ls.length=n*4)(l4:ms.length=n*4)(hn:n<=64)(e0:ik 1 r v=F5 (.bt (w::rest)))(e1:ik 1 c w=F5 (.bt (.ao .f32 f::ayK)))(e2:ah P L 685 [.ao .f32 f] (.agg [x1,x2,x3,x4]))(hx:bH (.agg [x1,x2,x3,x4]) x):
  ∃hp aH y1 y2 y3 y4 z1 z2 z3 z4,ie (D P L) (iG mQ lG (mK C R S a b i v s b1 b2 b3 b4) C R S v b1 b2 b3 b4 ng n cs rs ls ms 0) (D5 n) 10 [.agg [aa j,aa k],.agg [aa c,aa r]]=F5 (.bool ydo,hp,aH)/\mB 11 10 hp=(iG mQ lG (mK C R S a b i v s b1 b2 b3 b4) C R S v b1 b2 b3 b4 (ng||decide (x<0)) (n+1) (cs++[aa j]) (rs++[aa k]) (ls++[y1,y2,y3,y4]) (ms++[z1,z2,z3,z4]) 0,15)/\bH (.agg [y1,y2,y3,y4]) (pK (x-e))/\bH (.agg [z1,z2,z3,z4]) (x+e):=by
 have e3:=Hu h.toCtd.toCen.toMom.toFr' hx;have B7:decide (bV x.num<0)=decide (x<0):=yaj.2 (Jx _);obtain⟨d,e4,hd⟩:=m50 h.toCtd.toCen.toMom.toFr' hx hb (K:=2400) (kx.mono (by decide)) ke (by decide);obtain⟨y,e5,hy⟩:=aBv h.toCtd.toCen.toMom.toFr' h.Q2 hd;obtain⟨z,e6,hz⟩:=pE h.toCtd.toCen.toMom.toFr' hx hb (K:=2400) (kx.mono (by decide)) ke (by decide);have fX:=hy;have kv:=hz;obtain⟨d1,d2,d3,d4,rfl,gd⟩:=hd.gen;obtain⟨y1,y2,y3,y4,rfl,gy⟩:=hy.gen;obtain⟨z1,z2,z3,z4,rfl,gz⟩:=hz.gen;have gx:=hx.f4;have gb:=hb.f4;have py:=gy.p;have pz:=gz.p;obtain⟨p1,p2,p3,p4⟩:=gb.I8;have Sc:dt (aa c)=F5 c:=rfl;have Sd:dt (aa r)=F5 r:=rfl;unfold ah at e2 e3 e4 e5 e6;have K7:∀(tm:Env) (u1 u2 u3 u4 a b c d:AV),bP [a,b,c,d]=ydo->fJ tm [u1,u2,u3,u4] 0 4 [a,b,c,d] []=F5 [a,b,c,d]:=fun tm u1 u2 u3 u4 a b c d ho=>by
  rw[nI (by rfl) (by simp) ho];rfl
 have Se:=fun tm u1 u2 u3 u4=>K7 tm u1 u2 u3 u4 y1 y2 y3 y4 gy.o
 have iB:=fun tm u1 u2 u3 u4=>K7 tm u1 u2 u3 u4 z1 z2 z3 z4 gz.o
 generalize hTM:mK C R S a b i v s b1 b2 b3 b4=TM;have Ca:∀(tm:Env) (z:Int),fJ tm [AV.int .i64 0] 0 1 [aa z] []=F5 [aa z]:=fun tm z=>by rw[zZ (by simp) rfl];rfl
 match n,l1,l2,l3,l4 with
 | 0,l1,l2,l3,l4=>
  have l1:cs=[]:=vd.1 l1;have l2:rs=[]:=vd.1 l2;have l3:ls=[]:=vd.1 (by simpa using l3);have l4:ms=[]:=vd.1 (by simpa using l4);subst l1 l2 l3 l4;have fV:∀Ac Bc,D P L mQ ⟨(65,.agg [aa c,aa r])::(64,.agg [aa j,aa k])::TM,iG Ac Bc TM C R S v b1 b2 b3 b4 ng 0 [] [] [] [] 0,11,11⟩=F5 (.normal,⟨(19,.ptr 12 0)::(18,.ptr 11 0)::(65,.agg [aa c,aa r])::(64,.agg [aa j,aa k])::TM,(12,.cells ydo ydo ydo 2 [aa c,aa r])::(11,.cells ydo ydo ydo 2 [aa j,aa k])::iG Ac Bc TM C R S v b1 b2 b3 b4 ng 0 [] [] [] [] 0,13,11⟩):=by
   intro Ac Bc;unfold iG zO;simp only[go_sem,ya,yb,mQ,BR,Fs]
  have fQ:∀Ac Bc,∃tm hp ct,D P L lG ⟨(19,.ptr 12 0)::(18,.ptr 11 0)::(65,.agg [aa c,aa r])::(64,.agg [aa j,aa k])::TM,(12,.cells ydo ydo ydo 2 [aa c,aa r])::(11,.cells ydo ydo ydo 2 [aa j,aa k])::iG Ac Bc TM C R S v b1 b2 b3 b4 ng 0 [] [] [] [] 1,13,13⟩=F5 (.normal,⟨tm,hp,ct,13⟩)/\ak hp 10=F5 (.lp TM [64,65] Ac Bc 1 .none)/\mB 11 10 (aU hp 10 (.lp TM [64,65] Ac Bc 0 .none))=(iG Ac Bc TM C R S v b1 b2 b3 b4 (ng||decide (x<0)) (0+1) ([]++[aa j]) ([]++[aa k]) ([]++[y1,y2,y3,y4]) ([]++[z1,z2,z3,z4]) 0,15):=by
   intro Ac Bc;subst hTM;unfold iG zO;simp only[mK]
   cases ng with
   | true=>
    simp only[go_sem,ya,yb,xk,yq,yi,lG,yB,yL,bg,yd,yg,yX,eS,Sd,Sc,e0,e1,z7,e2,bi,aO,gx.st,rP,Ca,O8,Pa,JE,Pb,PH,O7,gE,aev,gx.ai,gb.ai,e4,gd.ai,e5,Se,CN py,PJ,e6,iB,CN pz,py,pz,wG];refine⟨_,_,_,rfl,?_,?_⟩
    .simp only [go_sem,ya]
    .simp only [go_sem,ya,yb,yq,yi,CA,dN,iZ,av hv,av p1,av p2,av p3,av p4,uI]
   | false=>
    simp only[go_sem,ya,yb,xk,yq,yi,lG,yB,yL,bg,yd,yg,yX,eS,Sd,Sc,e0,e1,z7,e2,bi,aO,gx.st,rP,Ca,O8,Pa,JE,Pb,PH,O7,gE,aev,gx.ai,e3,B7,gb.ai,e4,gd.ai,e5,Se,CN py,PJ,e6,iB,CN pz,py,pz,wG];refine⟨_,_,_,rfl,?_,?_⟩
    .simp only [go_sem,ya]
    .simp only [go_sem,ya,yb,yq,yi,CA,dN,iZ,av hv,av p1,av p2,av p3,av p4,vL]
  obtain⟨tm,hp,ct,fQ,hg,AZ⟩:=fQ mQ lG
  exact⟨_,_,y1,y2,y3,y4,z1,z2,z3,z4,JP (P:=P) (L:=L) (hp:=iG mQ lG TM C R S v b1 b2 b3 b4 ng 0 [] [] [] [] 0) (ct:=11) (l:=10) (xs:=[.agg [aa j,aa k],.agg [aa c,aa r]]) rfl rfl (fV _ _) rfl fQ hg,AZ,fX,kv⟩
 | n+1,l1,l2,l3,l4=>
  have fV:∀Ac Bc,D P L mQ ⟨(65,.agg [aa c,aa r])::(64,.agg [aa j,aa k])::TM,iG Ac Bc TM C R S v b1 b2 b3 b4 ng (n+1) cs rs ls ms 0,15,15⟩=F5 (.normal,⟨(19,.ptr 16 0)::(18,.ptr 15 0)::(65,.agg [aa c,aa r])::(64,.agg [aa j,aa k])::TM,(16,.cells ydo ydo ydo 2 [aa c,aa r])::(15,.cells ydo ydo ydo 2 [aa j,aa k])::iG Ac Bc TM C R S v b1 b2 b3 b4 ng (n+1) cs rs ls ms 0,17,15⟩):=by
   intro Ac Bc;unfold iG zO;simp only[go_sem,ya,yb,mQ,BR,Fs,yB,yL]
  have a1:=fun (hp:Hp) (ct:Nat) (z:Int) (hg:ak hp 14=F5 (.cells ydo ydo ydp 1 cs))=>dS (ct:=ct) (by':=8) (new:=[aa z]) (m:=1) (n:=n+1) hg (by omega) (by omega) (by omega) (by decide) rfl
  have a2:=fun (hp:Hp) (ct:Nat) (z:Int) (hg:ak hp 13=F5 (.cells ydo ydo ydp 1 rs))=>dS (ct:=ct) (by':=8) (new:=[aa z]) (m:=1) (n:=n+1) hg (by omega) (by omega) (by omega) (by decide) rfl
  have a3:=fun (hp:Hp) (ct:Nat) (hg:ak hp 12=F5 (.cells ydo ydo ydp 4 ls))=>dS (ct:=ct) (by':=64) (new:=[y1,y2,y3,y4]) (m:=1) (n:=n+1) hg l3 (by omega) (by omega) (by decide) gy.o
  have a4:=fun (hp:Hp) (ct:Nat) (hg:ak hp 11=F5 (.cells ydo ydo ydp 4 ms))=>dS (ct:=ct) (by':=64) (new:=[z1,z2,z3,z4]) (m:=1) (n:=n+1) hg l4 (by omega) (by omega) (by decide) gz.o
  have fQ:∀Ac Bc,∃tm hp ct,D P L lG ⟨(19,.ptr 16 0)::(18,.ptr 15 0)::(65,.agg [aa c,aa r])::(64,.agg [aa j,aa k])::TM,(16,.cells ydo ydo ydo 2 [aa c,aa r])::(15,.cells ydo ydo ydo 2 [aa j,aa k])::iG Ac Bc TM C R S v b1 b2 b3 b4 ng (n+1) cs rs ls ms 1,17,17⟩=F5 (.normal,⟨tm,hp,ct,17⟩)/\ak hp 10=F5 (.lp TM [64,65] Ac Bc 1 .none)/\mB 11 10 (aU hp 10 (.lp TM [64,65] Ac Bc 0 .none))=(iG Ac Bc TM C R S v b1 b2 b3 b4 (ng||decide (x<0)) (n+1+1) (cs++[aa j]) (rs++[aa k]) (ls++[y1,y2,y3,y4]) (ms++[z1,z2,z3,z4]) 0,15):=by
   intro Ac Bc;subst hTM;unfold iG zO;simp only[mK]
   cases ng with
   | true=>
    simp only[go_sem,ya,yb,lG,yB,yL,bg,yd,yg,yX,eS,Sd,Sc,e0,e1,z7,e2,bi,aO,gx.st,rP,Ca,O8,Pa,JE,Pb,PH,O7,a1,a2,a3,a4,T9,acz,acA,abl,aeu,gx.ai,gb.ai,e4,gd.ai,e5,Se,CN py,PJ,e6,iB,CN pz,py,pz,wG];refine⟨_,_,_,rfl,?_,?_⟩
    .simp only [go_sem,ya]
    .simp only [go_sem,ya,yb,yq,yi,CA,dN,iZ,av hv,av p1,av p2,av p3,av p4,uI]
   | false=>
    simp only[go_sem,ya,yb,lG,yB,yL,bg,yd,yg,yX,eS,Sd,Sc,e0,e1,z7,e2,bi,aO,gx.st,rP,Ca,O8,Pa,JE,Pb,PH,O7,a1,a2,a3,a4,T9,acz,acA,abl,aeu,gx.ai,e3,B7,gb.ai,e4,gd.ai,e5,Se,CN py,PJ,e6,iB,CN pz,py,pz,wG];refine⟨_,_,_,rfl,?_,?_⟩
    .simp only [go_sem,ya]
    .simp only [go_sem,ya,yb,yq,yi,CA,dN,iZ,av hv,av p1,av p2,av p3,av p4,vL]
  obtain⟨tm,hp,ct,fQ,hg,AZ⟩:=fQ mQ lG
  exact⟨_,_,y1,y2,y3,y4,z1,z2,z3,z4,JP (P:=P) (L:=L) (hp:=iG mQ lG TM C R S v b1 b2 b3 b4 ng (n+1) cs rs ls ms 0) (ct:=15) (l:=10) (xs:=[.agg [aa j,aa k],.agg [aa c,aa r]]) rfl rfl (fV _ _) rfl fQ hg,AZ,fX,kv⟩
end
section
variable {ro:Bool}{S n:Nat}
def oB(S:Nat)(ro:Bool)(n:Nat):List AV:=(xo n).map fun t=>aa ((hZ S ro t:Nat):Int)
def J6:(oB S ro n).length=n:=by simp[oB]
def acE:oB S ro (n+1)=oB S ro n++[aa ((hZ S ro n:Nat):Int)]:=by simp[oB,wV]
def aey:bk (.ap ydp n (oB S ro n)) ((xo n).map fun t=>((hZ S ro t:Nat):Int)):=by
 have h:=Gp ydp (oB S ro n);rw[J6] at h;unfold bk;rw[ybL];exact h
def sK(p:Nat->Nat->Rat)(e:Rat)(S:Nat):Int:=if mJ p S (S*S)=ydo then 3 else if aW (fE p e S) (S*S)=0 then 6 else 0
def cW(p:Nat->Nat->Rat)(e:Rat)(S:Nat)(ro gr:Bool):Rat:=cP (hZ S ro) (fE p e S) (mi p e S) S (S*S) gr S
noncomputable def D6(p:Nat->Nat->Rat)(e:Rat)(S:Nat):List AV:=[.str (RT (cW p e S ydp ydp)),.str (RT (cW p e S ydp ydo)),.str (RT (cW p e S ydo ydp)),.str (RT (cW p e S ydo ydo))]
def Cc:List AV:=[.str [],.str [],.str [],.str []]
def Nj(p:Nat->Nat->Rat)(e:Rat)(S:Nat):Bool:=[cW p e S ydp ydp,cW p e S ydp ydo,cW p e S ydo ydp,cW p e S ydo ydo].any LG
noncomputable def Jf(C R S:Int)(F:List (List Nat))(i:Int)(s:List Nat)(p:Nat->Nat->Rat):Int:=
 if pJ C R S F=0 then (if bF [ot i 0 (C*R-1),BS s]=0 then (if sK p (cf s) S.toNat=0 then (if Nj p (cf s) S.toNat=ydo then 4 else 0) else sK p (cf s) S.toNat) else bF [ot i 0 (C*R-1),BS s]) else pJ C R S F
noncomputable def Sf(C R S:Int)(F:List (List Nat))(i:Int)(s:List Nat)(p:Nat->Nat->Rat):List AV:=if Jf C R S F i s p=0 then D6 p (cf s) S.toNat else Cc
noncomputable def cr(F:List (List Nat))(C S i:Nat)(k r:Nat):Rat:=sE F (i%C*S+k) (i/C*S+r)
def aBF(h:Ni P L){C R a b i bs:Nat}{v b1 b2 b3 b4:AV}{s:List Nat}{F:List (List Nat)}{p:Nat->Nat->Rat}{e:Rat}(hv:gK jZ v F)(hF:ow F (R*S) (C*S))(hC:C<=8)(hR:R<=8)(hS:S<=8)(ha:a<C)(hb:b<R)(hp:p=fun k r=>sE F (a*S+k) (b*S+r))(AW:bH (.agg [b1,b2,b3,b4]) e)(ke:Hq 2400 e):
  ∃ls ms,QL ls ((xo (S*S)).map (fE p e S))/\QL ms ((xo (S*S)).map (mi p e S))/\
   D P L (.rf (.t 63) [64,65] mQ lG) ⟨mK C R S a b i v s b1 b2 b3 b4,zO C R S v b1 b2 b3 b4 ydp .af .af .af .af ydo,10,bs⟩=F5 (.normal,⟨mK C R S a b i v s b1 b2 b3 b4,c7 (iG mQ lG (mK C R S a b i v s b1 b2 b3 b4) C R S v b1 b2 b3 b4 (mJ p S (S*S)) (S*S) (oB S ydp (S*S)) (oB S ydo (S*S)) ls ms 0) 10,D5 (S*S),bs⟩):=by
 have Jg:S*S<=64:=xC hS hS;have gb:=AW.f4;obtain⟨H,c,⟨ls,ms,rfl,rfl,q1,q2⟩,e9⟩:=afX (P:=P) (L:=L) h.L6 (f:=.t 63) (ps:=[64,65]) (as_:=mQ) (body:=lG) (s:=⟨mK C R S a b i v s b1 b2 b3 b4,zO C R S v b1 b2 b3 b4 ydp .af .af .af .af ydo,10,bs⟩) (C:=C) (R:=R) (a:=a) (b:=b) hS (by omega) (by omega) rfl
  (Inv:=fun j H c=>∃ls ms,H=iG mQ lG (mK C R S a b i v s b1 b2 b3 b4) C R S v b1 b2 b3 b4 (mJ p S j) j (oB S ydp j) (oB S ydo j) ls ms 0/\c=D5 j/\QL ls ((xo j).map (fE p e S))/\QL ms ((xo j).map (mi p e S)))
  ⟨by rintro j H c ⟨ls,ms,rfl,rfl,_⟩;exact af8 hv.pu gb _ _ _ _ _,by rintro j H c ⟨ls,ms,rfl,rfl,_⟩ tm ct;exact ayJ hv.pu gb _ _ _ _ _ _ _,by rintro j H c ⟨ls,ms,rfl,rfl,_⟩;cases j<;>exact⟨_,_,_,_,rfl⟩⟩
  ⟨_,_,af8 (A:=mQ) (B:=lG) (C:=C) (R:=R) (S:=S) (a:=a) (b:=b) (i:=i) (s:=s) (ng:=ydp) hv.pu gb 0 [] [] [] [],[],[],rfl,rfl,trivial,trivial⟩ (by
   rintro k j H c hk hj ⟨ls,ms,rfl,rfl,q1,q2⟩;obtain⟨bB,kS,e3,f1,f2⟩:=hF.at (oS hb hk) (oS ha hj);obtain⟨w,rest,hw,e0⟩:=hv.bj bB;have hw:cF w (fp F[b*S+k]):=hw;have e1:=hw.bj (i:=a*S+j) (by simpa using kS);rw[Uc kS] at e1;obtain⟨x,e2,hx⟩:=afZ h.toCtd.toExc f2 f1;rw[<-e3] at hx;have kx:=hF.H (oS hb hk) (oS ha hj);have q9:=hx;obtain⟨x1,x2,x3,x4,rfl,_⟩:=hx.gen;have hkj:k*S+j<S*S:=by
    have:=oS (S:=S) hk hj
    omega
   have ql:=q1.len;have qm:=q2.len;rw[xi,tn] at ql qm;have hpk:p j k=sE F (a*S+j) (b*S+k):=by rw[hp]
   obtain⟨an,aH,y1,y2,y3,y4,z1,z2,z3,z4,e4,e5,e6,e7⟩:=aBE h (C:=C) (R:=R) (S:=S) (a:=a) (b:=b) (i:=i) (k:=k) (j:=j) (s:=s) (ng:=mJ p S (k*S+j)) (n:=k*S+j) (cs:=oB S ydp (k*S+j)) (rs:=oB S ydo (k*S+j)) (ls:=ls) (ms:=ms) hv.pu (fun n hp=>hv.ai n) AW kx ke J6 J6 ql qm (by omega) e0 e1 e2 q9;have c1:hZ S ydp (k*S+j)=j:=GU hj;have c2:hZ S ydo (k*S+j)=k:=GV hj;rw[<-hpk] at e5 e6 e7;refine⟨an,aH,_,_,e4,e5,ls++[y1,y2,y3,y4],ms++[z1,z2,z3,z4],?_,rfl,?_,?_⟩
   .rw [apY,acE,acE,c1,c2,GU hj,GV hj]
   .rw [wV,xG];refine q1.snoc ?_;unfold fE;rw[GU hj,GV hj];exact e6
   .rw [wV,xG];refine q2.snoc ?_;unfold mi
    rw[GU hj,GV hj];exact e7)
 exact⟨ls,ms,q1,q2,e9⟩
end
def Af{f g:Nat->Rat}:∀{n:Nat},(∀t,t<n->f t<=g t)->aW f n<=aW g n
 | 0,_=>uj
 | n+1,h=>by
  have h1:=Af (f:=f) (g:=g) (n:=n) (fun t ht=>h t (by omega));have h2:=h n (by omega);show aW f n+f n<=aW g n+g n
  grind
def K9:∀n,aW (fun _=>(0:Rat)) n=0
 | 0=>rfl
 | n+1=>by
  show aW (fun _=>(0:Rat)) n+0=0
  rw[K9 n,Rat.add_zero]
def U5(a:Rat):0<=pK a:=by
 unfold pK;by_cases h:a<0
 .rw [yz h];exact uj
 .rw [yp h];exact vv.1 h
def awI{x e:Rat}(hx:0<=x)(he:0<=e):pK (x-e)<=x+e:=by
 unfold pK;by_cases h:x-e<0
 .rw [yz h];grind
 .rw [yp h];grind
section
variable {p:Nat->Nat->Rat}{e:Rat}{S:Nat}(hp:∀t,t<S*S->0<=p (t%S) (t/S))(he:0<=e)(h:aW (fE p e S) (S*S)≠0)
include hp he h
theorem adH(c:Nat->Nat)(u:Bool)(T:Nat):0<aW (eG c (fE p e S) (mi p e S) u T) (S*S):=by
 have h1:aW (fun _=>(0:Rat)) (S*S)<=aW (fE p e S) (S*S):=Af fun t _=>U5 _
 rw[K9] at h1;have h2:aW (fE p e S) (S*S)<=aW (eG c (fE p e S) (mi p e S) u T) (S*S):=Af fun t ht=>by
  unfold eG Cb;by_cases hc:decide (c t<T)=u
  .rw [yz hc];exact uj
  .rw [yp hc];exact awI (hp t ht) he
 have h3:0<aW (fE p e S) (S*S):=ybI h1 (Ne.symm h)
 grind
end
section
variable {S n:Nat}{c:Nat->Nat}{H a b:Rat}
def J7{f x:Nat->Rat}{H:Rat}:∀n,aW (fun t=>f t*(x t-H)) n=aW (fun t=>f t*x t) n-H*aW f n
 | 0=>by simp only[aW];grind
 | n+1=>by
  simp only[aW];rw[J7 n];grind
def apZ(hb:0<b)(h:a<=H*b):a/b<=H:=by
 have e:a=a/b*b:=(ta (tL hb)).symm;rw[e] at h;exact yaV h hb
def ap0(hb:0<b)(h:H*b<=a):H<=a/b:=by
 have e:a=a/b*b:=(ta (tL hb)).symm;rw[e] at h;exact yaV h hb
def ak8(hb:0<b)(h:a/b<=H):a<=H*b:=by
 have e:a=a/b*b:=(ta (tL hb)).symm;rw[e];exact yaH h (tK hb)
def ak9(hb:0<b)(h:H<=a/b):H*b<=a:=by
 have e:a=a/b*b:=(ta (tL hb)).symm;rw[e];exact yaH h (tK hb)
def Y1{Q:Nat->Prop}(dn:∀k,Q (k+1)->Q k):∀S,∃T,T<=S/\∀k,k<S->(k<T↔Q k)
 | 0=>⟨0,yx 0,fun k hk=>absurd hk (yaq k)⟩
 | S+1=>by
  obtain⟨T,h1,h2⟩:=Y1 dn S;by_cases h:Q S
  .have all:∀j k,k+j=S->Q k:=by
    intro j
    induction j with
    | zero=>intro k e;rw[yZ] at e;subst e;exact h
    | succ j ih=>intro k e;exact dn k (ih (k+1) (by omega))
   exact⟨S+1,yx _,fun k hk=>⟨fun _=>all (S-k) k (by omega),fun _=>hk⟩⟩
  .refine ⟨T,by omega,fun k hk=>?_⟩;by_cases e:k=S
   .subst e;exact⟨fun q=>by omega,fun q=>absurd q h⟩
   .exact h2 k (by omega)
def aez(k:Nat)(h:dU S (k+1)<=H):dU S k<=H:=by
 have e:dU S (k+1)=dU S k+1:=by
  unfold dU
  have:(2*((k+1:Nat):Int)+1-(S:Int):Int)=(2*(k:Int)+1-(S:Int))+2:=by omega
  rw[this,tP];show (_+((2:Int):Rat))/((2:Int):Rat)=_/((2:Int):Rat)+1
  have h2:((2:Int):Rat)=2:=rfl;rw[h2];grind
 rw[e] at h;grind
section
variable {c:Nat->Nat}{l m:Nat->Rat}{S n:Nat}
def asK{N:Nat}:∀{T:Nat},T<=N->fP c l m S n ydo T<=cP c l m S n ydo N:=by
 induction N with
 | zero=>intro T hT;rw[yda.1 hT];exact uj
 | succ N ih=>
  intro T hT;rw[adG];by_cases e:T=N+1
  .subst e;by_cases h:cP c l m S n ydo N<fP c l m S n ydo (N+1)
   .rw [yz h];exact uj
   .rw [yp h];exact vv.1 h
  .have:=ih (T:=T) (by omega)
   by_cases h:cP c l m S n ydo N<fP c l m S n ydo (N+1)
   .rw [yz h];exact vY this (tK h)
   .rw [yp h];exact this
def asL{N:Nat}:∀{T:Nat},T<=N->cP c l m S n ydp N<=fP c l m S n ydp T:=by
 induction N with
 | zero=>intro T hT;rw[yda.1 hT];exact uj
 | succ N ih=>
  intro T hT;rw[adF];by_cases e:T=N+1
  .subst e;by_cases h:fP c l m S n ydp (N+1)<cP c l m S n ydp N
   .rw [yz h];exact uj
   .rw [yp h];exact vv.1 h
  .have:=ih (T:=T) (by omega)
   by_cases h:fP c l m S n ydp (N+1)<cP c l m S n ydp N
   .rw [yz h];exact vY (tK h) this
   .rw [yp h];exact this
def J8(u:Bool):∀N,∃T,T<=N/\cP c l m S n u N=fP c l m S n u T
 | 0=>⟨0,yx 0,rfl⟩
 | N+1=>by
  obtain⟨T,h1,h2⟩:=J8 u N;rw[cP];by_cases h:decide (cP c l m S n u N<fP c l m S n u (N+1))=u
  .rw [yz h];exact⟨N+1,yx _,rfl⟩
  .rw [yp h];exact⟨T,by omega,h2⟩
variable {w:Nat->Rat}(hw:∀t,t<n->l t<=w t/\w t<=m t)(hc:∀t,t<n->c t<S)(hp:∀u T,T<=S->0<aW (eG c l m u T) n)(w0:0<aW w n)
include hw hc hp w0
theorem aeA:aW (fun t=>w t*dU S (c t)) n/aW w n<=cP c l m S n ydo S:=by
 generalize hH:cP c l m S n ydo S=H;obtain⟨T,h1,h2⟩:=Y1 (Q:=fun k=>dU S k<=H) (fun k=>aez k) S;have h3:=asK (c:=c) (l:=l) (m:=m) (S:=S) (n:=n) h1;rw[hH] at h3;have h4:=ak8 (hp ydo T h1) h3;have h5:aW (fun t=>w t*(dU S (c t)-H)) n<=aW (fun t=>eG c l m ydo T t*(dU S (c t)-H)) n:=Af fun t ht=>by
  obtain⟨a1,a2⟩:=hw t ht;have a3:=h2 (c t) (hc t ht);unfold eG Cb;by_cases e:c t<T
  .rw [yz (xf e)]
   have:=a3.1 e
   have h6:0<=(w t-l t)*(H-dU S (c t)):=yad (by grind) (by grind)
   grind
  .rw [yp (by simp[e])]
   have:H<dU S (c t):=ybD.1 fun q=>e (a3.2 q)
   have h6:0<=(m t-w t)*(dU S (c t)-H):=yad (by grind) (by grind)
   grind
 rw[J7,J7] at h5;have h7:aW (fun t=>eG c l m ydo T t*dU S (c t)) n=aW (nt c l m S ydo T) n:=rfl;rw[h7] at h5;exact apZ w0 (by grind)
theorem aeB:cP c l m S n ydp S<=aW (fun t=>w t*dU S (c t)) n/aW w n:=by
 generalize hH:cP c l m S n ydp S=H;obtain⟨T,h1,h2⟩:=Y1 (Q:=fun k=>dU S k<=H) (fun k=>aez k) S;have h3:=asL (c:=c) (l:=l) (m:=m) (S:=S) (n:=n) h1;rw[hH] at h3;have h4:=ak9 (hp ydp T h1) h3;have h5:aW (fun t=>eG c l m ydp T t*(dU S (c t)-H)) n<=aW (fun t=>w t*(dU S (c t)-H)) n:=Af fun t ht=>by
  obtain⟨a1,a2⟩:=hw t ht;have a3:=h2 (c t) (hc t ht);unfold eG Cb;by_cases e:c t<T
  .rw [yp (by simp[e])]
   have:=a3.1 e
   have h6:0<=(m t-w t)*(H-dU S (c t)):=yad (by grind) (by grind)
   grind
  .rw [yz (yY e)]
   have:H<dU S (c t):=ybD.1 fun q=>e (a3.2 q)
   have h6:0<=(w t-l t)*(dU S (c t)-H):=yad (by grind) (by grind)
   grind
 rw[J7,J7] at h5;have h7:aW (fun t=>eG c l m ydp T t*dU S (c t)) n=aW (nt c l m S ydp T) n:=rfl;rw[h7] at h5;exact ap0 w0 (by grind)
end
def ap1{l m l' m':Nat->Rat}(hl:∀t,t<n->l' t<=l t/\l t<=m t/\m t<=m' t)(hc:∀t,t<n->c t<S)(hp:∀u T,T<=S->0<aW (eG c l m u T) n)(an:∀u T,T<=S->0<aW (eG c l' m' u T) n):cP c l' m' S n ydp S<=cP c l m S n ydp S/\cP c l m S n ydo S<=cP c l' m' S n ydo S:=by
 have hw:∀u T t,t<n->l' t<=eG c l m u T t/\eG c l m u T t<=m' t:=fun u T t ht=>by
  obtain⟨a1,a2,a3⟩:=hl t ht;unfold eG Cb;by_cases e:decide (c t<T)=u
  .rw [yz e];exact⟨a1,vY a2 a3⟩
  .rw [yp e];exact⟨vY a1 a2,a3⟩
 constructor
 .obtain ⟨T,h1,h2⟩:=J8 (c:=c) (l:=l) (m:=m) (S:=S) (n:=n) ydp S;rw[h2];exact aeB (hw ydp T) hc an (hp ydp T h1)
 .obtain ⟨T,h1,h2⟩:=J8 (c:=c) (l:=l) (m:=m) (S:=S) (n:=n) ydo S;rw[h2];exact aeA (hw ydo T) hc an (hp ydo T h1)
def anH{l:Nat->Rat}(u:Bool):∀N,cP c l l S n u N=aW (fun t=>l t*dU S (c t)) n/aW l n:=by
 intro N;obtain⟨T,h1,h2⟩:=J8 (c:=c) (l:=l) (m:=l) (S:=S) (n:=n) u N;rw[h2];unfold fP;have e1:eG c l l u T=l:=by
  funext t;unfold eG Cb;split<;>rfl
 have e2:nt c l l S u T=fun t=>l t*dU S (c t):=by
  funext t;unfold nt;rw[e1]
 rw[e1,e2]
def ZF{f:Nat->Rat}{g:Nat->Int}:∀{n:Nat},(∀t,t<n->f t=(g t:Rat)/4)->aW f n=((nX g n:Int):Rat)/4
 | 0,_=>by simp only[aW,nX,yca];grind
 | n+1,h=>by
  simp only[aW,nX];rw[ZF (fun t ht=>h t (by omega)),h n (by omega),tP];grind
def adI{w:Nat->Rat}{W:Nat->Int}(hw:∀t,t<n->w t=(W t:Rat)/2/\0<=W t/\W t<=2000)(hc:∀t,t<n->c t<S)(hS:S<=8)(hn:n<=64):Hq 160 (aW (fun t=>w t*dU S (c t)) n/aW w n):=by
 have e1:aW w n=((nX W n:Int):Rat)/2:=acB fun t ht=>(hw t ht).1
 have e2:aW (fun t=>w t*dU S (c t)) n=((nX (fun t=>W t*(2*((c t:Nat):Int)+1-S)) n:Int):Rat)/4:=ZF fun t ht=>by
  rw[(hw t ht).1,tT];unfold dU;show _*(_/((2:Int):Rat))=_
  have h2:((2:Int):Rat)=2:=rfl;rw[h2];grind
 have b1:=Ug (f:=W) (B:=2000) (n:=n) (fun t ht=>by have:=hw t ht;omega);have b2:=Ug (f:=fun t=>W t*(2*((c t:Nat):Int)+1-S)) (B:=2000*20) (n:=n) (fun t ht=>by
  obtain⟨_,p1,p2⟩:=hw t ht;have l1:=hc t ht;have e1:W t*(2*((c t:Nat):Int)+1-S)<=W t*20:=vP (by omega) p1;have e2:W t*(-20)<=W t*(2*((c t:Nat):Int)+1-S):=vP (by omega) p1
  omega)
 rw[e1,e2];have k1:Hq 40 ((nX W n:Int):Rat):=zh (by omega);have k2:Hq 40 ((nX (fun t=>W t*(2*((c t:Nat):Int)+1-S)) n:Int):Rat):=zh (by omega)
 exact (k2.div (zh (z:=4) (by decide))).div (k1.div (zh (z:=2) (by decide)))
def ap2{l m:Nat->Rat}{A B:Nat->Int}(hl:∀t,t<n->l t=(A t:Rat)/2/\0<=A t/\A t<=2000)(hm:∀t,t<n->m t=(B t:Rat)/2/\0<=B t/\B t<=2000)(hc:∀t,t<n->c t<S)(hS:S<=8)(hn:n<=64)(u:Bool)(N:Nat):Hq 160 (cP c l m S n u N):=by
 obtain⟨T,_,h2⟩:=J8 (c:=c) (l:=l) (m:=m) (S:=S) (n:=n) u N;rw[h2]
 exact adI (w:=eG c l m u T) (W:=fun t=>if decide (c t<T)=u then A t else B t) (fun t ht=>by
  unfold eG Cb;by_cases e:decide (c t<T)=u
  .simp only [yz e];exact hl t ht
  .simp only [yp e];exact hm t ht) hc hS hn
end
def hb(z:Int):Nat:=yaG.write (.number ydp z.natAbs (-1))
def ayL(M:Nat):mg ydp (2*M)=2*mg ydp M:=by
 unfold mg cp;simp only[yD,xz];rw[xZ,tT];show ((2:Int):Rat)*_*_=_
 have h2:((2:Int):Rat)=2:=rfl;rw[h2,ux]
def af9{z:Int}(h:0<=z/\z<=4000):Fl (hb z) ydp (z.natAbs*2^148):=by
 by_cases h0:z=0
 .subst h0;exact⟨0,-149,QG ydp (-1),by simp[ef]⟩
 .obtain ⟨m,e,k1,k2,k3⟩:=I5 (n:=z.natAbs) (k:= -1) (by omega) (by omega) (by decide) (by decide) (m0:=z.natAbs) (e0:= -1) ydp rfl;refine⟨m,e,k1,?_⟩;have b1:=k1.b.1;have e1:z.natAbs*2^148=ef z.natAbs (-1):=rfl;rw[e1];exact arT (by decide) b1 k3.symm
def ayM{z:Int}(h:0<=z/\z<=4000):fq (hb z)=(z:Rat)/2:=by
 have h1:=VG (af9 h);have h2:=ayL (z.natAbs*2^148);have h3:2*(z.natAbs*2^148)=z.natAbs*2^149:=by
  have e:(2:Nat)^149=2*2^148:=by decide
  rw[e];generalize (2:Nat)^148=x;exact Nat.mul_left_comm 2 _ x
 rw[h3] at h2;have h4:=adw z;rw[yY (by omega)] at h4;rw[h1];rw[h4] at h2
 grind
def awJ{z:Int}(h:0<=z/\z<=4000):gB (hb z)=ydo:=(af9 h).fin
def ayN:∀c:Fin 520,hb (c.val:Int)<4294967296:=by decide+kernel
def Y2(x y:Nat):Option Nat:=match wI.format.order x y with
 | none=>none
 | some .lt=>F5 y
 | some .gt=>F5 x
 | some .eq=>F5 (if (wI.decode x).neg then y else x)
def asM{x y z:Nat}(h:Y2 x y=F5 z):max2 (.ao .f32 x) (.ao .f32 y)=F5 (.ao .f32 z):=by
 unfold Y2 at h;show (match wI.format.order x y with | none=>none | some .lt=>F5 (AV.ao .f32 y) | some .gt=>F5 (AV.ao .f32 x) | some .eq=>F5 (AV.ao .f32 (if (wI.decode x).neg then y else x)))=_
 cases ho:wI.format.order x y with
 | none=>rw[ho] at h;cases h
 | some o=>
  rw[ho] at h;cases o<;>simp only[yc] at h ⊢<;>rw[h]
def nq(p:Nat):Nat:=(wI.format.div (fb ((p:Int)-4)) 1073741824).getD 0
def na(c p:Nat):Nat:=(wI.format.add (fb (c:Int)) (nq p)).getD 0
def awK:∀p:Fin 9,wI.format.div (fb ((p.val:Int)-4)) 1073741824=F5 (nq p.val)/\∀c:Fin 256,wI.format.add (fb (c.val:Int)) (nq p.val)=F5 (na c.val p.val)/\Y2 0 (na c.val p.val)=F5 (hb (max 0 (2*(c.val:Int)+((p.val:Int)-4)))):=by decide+kernel
structure Me(φ ψ:Int->Nat):Prop where
 cv:∀z:Int,jW (.toFlt .f32) (aa z)=F5 (.ao .f32 (φ z))
 aBG:∀{c p:Int},(0<=c/\c<256)->(-4<=p/\p<=4)->∃b1 b2,binOp .quo (.ao .f32 (φ p)) (.ao .f32 1073741824)=F5 (.ao .f32 b1)/\binOp .add (.ao .f32 (φ c)) (.ao .f32 b1)=F5 (.ao .f32 b2)/\max2 (.ao .f32 0) (.ao .f32 b2)=F5 (.ao .f32 (ψ (max 0 (2*c+p))))
def aBH:Me fb hb:=by
 refine⟨ayw,fun {c p} hc hp=>?_⟩;obtain⟨e1,h⟩:=awK ⟨(p+4).toNat,by omega⟩;obtain⟨e2,e3⟩:=h ⟨c.toNat,by omega⟩;have RW:(((p+4).toNat:Nat):Int)-4=p:=by omega
 have hc4:((c.toNat:Nat):Int)=c:=by omega
 simp only[RW,hc4] at e1 e2 e3;generalize nq (p+4).toNat=x at*
 generalize na c.toNat (p+4).toNat=y at*
 generalize fb p=f1 at*
 generalize fb c=f2 at*
 generalize hb (max 0 (2*c+p))=f3 at*
 exact⟨x,y,by simp[binOp,GX,e1],by simp[binOp,GX,e2],asM e3⟩
section
variable {A B:List AV}{cl pl:List Nat}{j n r:Nat}
def kU(cl:List Nat)(k:Nat):Int:=if k<cl.length then ((cl.getD k 0:Nat):Int) else 3
def mj(pl:List Nat)(k:Nat):Int:=if k<pl.length then ((pl.getD k 0%9:Nat):Int)-4 else 0
def nA(cl pl:List Nat)(k:Nat):Int:=max 0 (2*kU cl k+mj pl k)
def PK(h:∀c,c∈cl->c<256)(k:Nat):0<=kU cl k/\kU cl k<256:=by
 unfold kU
 split
 .rename_i hk
  have:=h _ (xI hk)
  rw[yS,xb hk,xW];omega
 .omega
def VK(pl:List Nat)(k:Nat): -4<=mj pl k/\mj pl k<=4:=by
 unfold mj
 split
 .have:=xD (pl.getD k 0) (show 0<9 by decide)
  omega
 .omega
def kD(φ:Int->Nat)(cl:List Nat)(n r j:Nat):List AV:=(xo j).map fun k=>.ao .f32 (φ (kU cl (n*r+k)))
def kF(ψ:Int->Nat)(cl pl:List Nat)(n r j:Nat):List AV:=(xo j).map fun k=>.ao .f32 (ψ (nA cl pl (n*r+k)))
def adJ{φ:Int->Nat}:(kD φ cl n r j).length=j:=by simp[kD]
def adK{ψ:Int->Nat}:(kF ψ cl pl n r j).length=j:=by simp[kF]
def ap3{φ:Int->Nat}:kD φ cl n r (j+1)=kD φ cl n r j++[.ao .f32 (φ (kU cl (n*r+j)))]:=by simp[kD,wV]
def ap4{ψ:Int->Nat}:kF ψ cl pl n r (j+1)=kF ψ cl pl n r j++[.ao .f32 (ψ (nA cl pl (n*r+j)))]:=by simp[kF,wV]
def ju(cv pv:AV)(n:Nat)(X Y:AV)(r:Nat)(A B:AV)(k:Nat):Env:=[(1,cv),(2,pv),(7,aa n),(8,.ptr 0 0),(9,X),(10,Y),(11,aa r),(12,A),(13,B),(35,aa n),(36,aa r),(39,aa n),(40,aa k)]
def eP(n:Nat)(X Y:List AV):Hp:=yH 1 [(0,da 1 1 n)] X Y
def Bt(A B:List AV):Prop:=(A=[]/\B=[])\/∃a A' b B',A=a::A'/\B=b::B'
def Bt.of(h:A.length=B.length):Bt A B:=by
 cases A with
 | nil=>cases B with
  | nil=>exact .inl ⟨rfl,rfl⟩
  | cons b B=>simp at h
 | cons a A=>cases B with
  | nil=>simp at h
  | cons b B=>exact .inr ⟨a,A,b,B,rfl,rfl⟩
def awL{φ ψ:Int->Nat}(hφ:Me φ ψ){cv pv:AV}{k:Nat}{X Y:List AV}(lX:zj cv cl)(nB:zj pv pl)(hn:n<=4)(hr:r<n)(hk:k<n)(hX:Bt X Y)(D7:A.length=k)(D8:B.length=k):
  ∃s',D P L jt ⟨ju cv pv n (rr 1 X) (rr 2 Y) r (rr (yF 1 X Y) A) (rr (yF 1 X Y+1) B) k,yH (yF 1 X Y) (eP n X Y) A B,yF (yF 1 X Y) A B,0⟩=F5 (.normal,s')/\bE [1,2,7,8,9,10,11,12,13,35,36,39,40] s'=⟨ju cv pv n (rr 1 X) (rr 2 Y) r (rr (yF 1 X Y) (A++[.ao .f32 (φ (kU cl (n*r+k)))])) (rr (yF 1 X Y+1) (B++[.ao .f32 (ψ (nA cl pl (n*r+k)))])) (k+1),yH (yF 1 X Y) (eP n X Y) (A++[.ao .f32 (φ (kU cl (n*r+k)))]) (B++[.ao .f32 (ψ (nA cl pl (n*r+k)))]),yF (yF 1 X Y) (A++[.ao .f32 (φ (kU cl (n*r+k)))]) (B++[.ao .f32 (ψ (nA cl pl (n*r+k)))]),0⟩:=by
 have iH:=lX.1.pu;have iI:=nB.1.pu;have hnr:n*r<=16:=xC hn (show r<=4 by omega);have nC:(n:Int)*(r:Int)=((n*r:Nat):Int):=by rw[xZ]
 have nf:((n*r:Nat):Int)+(k:Int)=((n*r+k:Nat):Int):=by rw[tr]
 have w1:IntKind.wrap .i64 ((n*r:Nat):Int)=((n*r:Nat):Int):=wrap64 (by omega) (by omega);have w2:IntKind.wrap .i64 ((n*r+k:Nat):Int)=((n*r+k:Nat):Int):=wrap64 (by omega) (by omega);have w3:IntKind.wrap .i64 ((k:Int)+1)=((k+1:Nat):Int):=wrap64 (by omega) (by omega);have nD:(k:Int)<n:=by omega
 have fe:(ns cl).length=cl.length:=by simp[ns]
 have j8:(ns pl).length=pl.length:=by simp[ns]
 have lc:=fun hp=>lX.1.len (hp:=hp)
 have lp:=fun hp=>nB.1.len (hp:=hp)
 rw[fe] at lc;rw[j8] at lp;generalize hi:n*r+k=i at*
 have sL:dt (aa i)=F5 i:=rfl;have se:∀c:Nat,c<256->jW (.toInt .i64) (.int .u8 (c:Int))=F5 (aa c):=fun c hc=>by
  show F5 (AV.int .i64 (IntKind.wrap .i64 (c:Int)))=_
  rw[wrap64 (by omega) (by omega)]
 have mk:∀(q:Env) (z:AV) (b:Nat),fJ q [z] 0 1 [AV.ao .f32 b] []=F5 [.ao .f32 b]:=fun q z b=>by rw[zZ (by simp) rfl];rfl
 have nE:∀b,cellsOf (.ao .f32 b)=[.ao .f32 b]:=fun _=>rfl
 have p9:(9:Int)≠0:=by decide
 have bc:=PK lX.2 i;have bp:=VK pl i;obtain⟨b1,b2,q1,q2,q3⟩:=hφ.aBG bc bp;have v1:=hφ.cv (kU cl i);have v2:=hφ.cv (mj pl i);have aBI:max 0 (2*kU cl i+mj pl i)=nA cl pl i:=rfl;rw[aBI] at q3;generalize ψ (nA cl pl i)=zb at*
 by_cases hc:i<cl.length
 .have jm:decide ((i:Int)<cl.length)=ydo:=xf (by omega);have e1:=lX.1.bj (i:=i) (by rw[fe];exact hc)
  have g1:(ns cl)[i]'(by rw[fe];exact hc)=.int .u8 ((cl[i]:Nat):Int):=by simp[ns]
  rw[g1] at e1;have t1:=se _ (lX.2 _ (xI hc));have c1:kU cl i=((cl[i]:Nat):Int):=by unfold kU;rw[yz hc,yS,xb hc,xW]
  rw[<-c1] at e1 t1;have k1:True:=trivial;by_cases hp:i<pl.length
  .have lC:decide ((i:Int)<pl.length)=ydo:=xf (by omega);have e2:=nB.1.bj (i:=i) (by rw[j8];exact hp)
   have g2:(ns pl)[i]'(by rw[j8];exact hp)=.int .u8 ((pl[i]:Nat):Int):=by simp[ns]
   rw[g2] at e2;have t2:=se _ (nB.2 _ (xI hp));have c2:mj pl i=((pl[i]%9:Nat):Int)-4:=by unfold mj;rw[yz hp,yS,xb hp,xW]
   have m9:(((pl[i]:Nat):Int)).tmod 9=((pl[i]%9:Nat):Int):=(yac _ 9).symm;have l9:=xD pl[i] (show 0<9 by decide);have w5:IntKind.wrap .i64 ((pl[i]%9:Nat):Int)=((pl[i]%9:Nat):Int):=wrap64 (by omega) (by omega);have w6:IntKind.wrap .i64 (((pl[i]%9:Nat):Int)-4)=mj pl i:=by rw[wrap64 (by omega) (by omega),c2]
   generalize mj pl i=pp at*
   rcases hX with ⟨rfl,rfl⟩ | ⟨x,X,y,Y,rfl,rfl⟩
   .obtain hB | ⟨a,A,b,B,rfl,rfl⟩:=Bt.of (show A.length=B.length by omega)
    .obtain ⟨rfl,rfl⟩:=hB;simp only[ju,eP,yF,yH,rr,yb];simp only[go_sem,ya,yb,xk,yq,yi,yj,jt,da,nD,nC,w1,nf,w2,lc,lp,jm,lC,e1,t1,sL,e2,t2,eL _ _ _ p9,m9,w6,v1,v2,q1,q2,jf,q3,nE,mk,eX,gE];refine⟨_,rfl,?_⟩;rw[w3];simp only[go_sem,ya,az,yL,av iH,av iI]<;>rfl
    .simp only [yv] at D7 D8;simp only[ju,eP,yF,yH,rr,yb];have o1:=fun (hp:Hp) (ct:Nat) (z:Nat) (hg:ak hp 1=F5 (.cells ydo ydo ydp 1 (a::A)))=>dS (ct:=ct) (by':=4) (new:=[AV.ao .f32 z]) (m:=1) (n:=A.length+1) hg (by simp) (by omega) (by omega) (by decide) rfl
     have o2:=fun (hp:Hp) (ct:Nat) (z:Nat) (hg:ak hp 2=F5 (.cells ydo ydo ydp 1 (b::B)))=>dS (ct:=ct) (by':=4) (new:=[AV.ao .f32 z]) (m:=1) (n:=B.length+1) hg (by simp) (by omega) (by omega) (by decide) rfl
     simp only[go_sem,ya,yb,yj,jt,da,nD,nC,w1,nf,w2,lc,lp,jm,lC,e1,t1,sL,e2,t2,eL _ _ _ p9,m9,w6,v1,v2,q1,q2,jf,q3,nE,mk,eX,o1,o2];refine⟨_,rfl,?_⟩;rw[w3];simp only[go_sem,ya,yb,az,yB,yJ,av iH,av iI]<;>rfl
   .obtain hB | ⟨a,A,b,B,rfl,rfl⟩:=Bt.of (show A.length=B.length by omega)
    .obtain ⟨rfl,rfl⟩:=hB;simp only[ju,eP,yF,yH,rr,yb];simp only[go_sem,ya,yb,xk,yq,yi,yj,jt,da,nD,nC,w1,nf,w2,lc,lp,jm,lC,e1,t1,sL,e2,t2,eL _ _ _ p9,m9,w6,v1,v2,q1,q2,jf,q3,nE,mk,eX,gE];refine⟨_,rfl,?_⟩;rw[w3];simp only[go_sem,ya,az,yL,av iH,av iI]<;>rfl
    .simp only [yv] at D7 D8;simp only[ju,eP,yF,yH,rr,yb];have o1:=fun (hp:Hp) (ct:Nat) (z:Nat) (hg:ak hp 3=F5 (.cells ydo ydo ydp 1 (a::A)))=>dS (ct:=ct) (by':=4) (new:=[AV.ao .f32 z]) (m:=1) (n:=A.length+1) hg (by simp) (by omega) (by omega) (by decide) rfl
     have o2:=fun (hp:Hp) (ct:Nat) (z:Nat) (hg:ak hp 4=F5 (.cells ydo ydo ydp 1 (b::B)))=>dS (ct:=ct) (by':=4) (new:=[AV.ao .f32 z]) (m:=1) (n:=B.length+1) hg (by simp) (by omega) (by omega) (by decide) rfl
     simp only[go_sem,ya,yb,yj,jt,da,nD,nC,w1,nf,w2,lc,lp,jm,lC,e1,t1,sL,e2,t2,eL _ _ _ p9,m9,w6,v1,v2,q1,q2,jf,q3,nE,mk,eX,o1,o2];refine⟨_,rfl,?_⟩;rw[w3];simp only[go_sem,ya,yb,az,yB,yJ,av iH,av iI]<;>rfl
  .have lC:decide ((i:Int)<pl.length)=ydp:=yY (by omega);have c2:mj pl i=0:=by unfold mj;rw[yp hp]
   rw[c2] at q1 v2;rcases hX with ⟨rfl,rfl⟩ | ⟨x,X,y,Y,rfl,rfl⟩
   .obtain hB | ⟨a,A,b,B,rfl,rfl⟩:=Bt.of (show A.length=B.length by omega)
    .obtain ⟨rfl,rfl⟩:=hB;simp only[ju,eP,yF,yH,rr,yb];simp only[go_sem,ya,yb,xk,yq,yi,yj,jt,da,nD,nC,w1,nf,w2,lc,lp,jm,lC,sL,e1,t1,v1,v2,q1,q2,jf,q3,nE,mk,eX,gE];refine⟨_,rfl,?_⟩;rw[w3];simp only[go_sem,ya,az,yL,av iH,av iI]<;>rfl
    .simp only [yv] at D7 D8;simp only[ju,eP,yF,yH,rr,yb];have o1:=fun (hp:Hp) (ct:Nat) (z:Nat) (hg:ak hp 1=F5 (.cells ydo ydo ydp 1 (a::A)))=>dS (ct:=ct) (by':=4) (new:=[AV.ao .f32 z]) (m:=1) (n:=A.length+1) hg (by simp) (by omega) (by omega) (by decide) rfl
     have o2:=fun (hp:Hp) (ct:Nat) (z:Nat) (hg:ak hp 2=F5 (.cells ydo ydo ydp 1 (b::B)))=>dS (ct:=ct) (by':=4) (new:=[AV.ao .f32 z]) (m:=1) (n:=B.length+1) hg (by simp) (by omega) (by omega) (by decide) rfl
     simp only[go_sem,ya,yb,yj,jt,da,nD,nC,w1,nf,w2,lc,lp,jm,lC,sL,e1,t1,v1,v2,q1,q2,jf,q3,nE,mk,eX,o1,o2];refine⟨_,rfl,?_⟩;rw[w3];simp only[go_sem,ya,yb,az,yB,yJ,av iH,av iI]<;>rfl
   .obtain hB | ⟨a,A,b,B,rfl,rfl⟩:=Bt.of (show A.length=B.length by omega)
    .obtain ⟨rfl,rfl⟩:=hB;simp only[ju,eP,yF,yH,rr,yb];simp only[go_sem,ya,yb,xk,yq,yi,yj,jt,da,nD,nC,w1,nf,w2,lc,lp,jm,lC,sL,e1,t1,v1,v2,q1,q2,jf,q3,nE,mk,eX,gE];refine⟨_,rfl,?_⟩;rw[w3];simp only[go_sem,ya,az,yL,av iH,av iI]<;>rfl
    .simp only [yv] at D7 D8;simp only[ju,eP,yF,yH,rr,yb];have o1:=fun (hp:Hp) (ct:Nat) (z:Nat) (hg:ak hp 3=F5 (.cells ydo ydo ydp 1 (a::A)))=>dS (ct:=ct) (by':=4) (new:=[AV.ao .f32 z]) (m:=1) (n:=A.length+1) hg (by simp) (by omega) (by omega) (by decide) rfl
     have o2:=fun (hp:Hp) (ct:Nat) (z:Nat) (hg:ak hp 4=F5 (.cells ydo ydo ydp 1 (b::B)))=>dS (ct:=ct) (by':=4) (new:=[AV.ao .f32 z]) (m:=1) (n:=B.length+1) hg (by simp) (by omega) (by omega) (by decide) rfl
     simp only[go_sem,ya,yb,yj,jt,da,nD,nC,w1,nf,w2,lc,lp,jm,lC,sL,e1,t1,v1,v2,q1,q2,jf,q3,nE,mk,eX,o1,o2];refine⟨_,rfl,?_⟩;rw[w3];simp only[go_sem,ya,yb,az,yB,yJ,av iH,av iI]<;>rfl
 .have jm:decide ((i:Int)<cl.length)=ydp:=yY (by omega);have c1:kU cl i=3:=by unfold kU;rw[yp hc]
  rw[c1] at q2 v1 ⊢;have e1:True:=trivial;have t1:True:=trivial;by_cases hp:i<pl.length
  .have lC:decide ((i:Int)<pl.length)=ydo:=xf (by omega);have e2:=nB.1.bj (i:=i) (by rw[j8];exact hp)
   have g2:(ns pl)[i]'(by rw[j8];exact hp)=.int .u8 ((pl[i]:Nat):Int):=by simp[ns]
   rw[g2] at e2;have t2:=se _ (nB.2 _ (xI hp));have c2:mj pl i=((pl[i]%9:Nat):Int)-4:=by unfold mj;rw[yz hp,yS,xb hp,xW]
   have m9:(((pl[i]:Nat):Int)).tmod 9=((pl[i]%9:Nat):Int):=(yac _ 9).symm;have l9:=xD pl[i] (show 0<9 by decide);have w5:IntKind.wrap .i64 ((pl[i]%9:Nat):Int)=((pl[i]%9:Nat):Int):=wrap64 (by omega) (by omega);have w6:IntKind.wrap .i64 (((pl[i]%9:Nat):Int)-4)=mj pl i:=by rw[wrap64 (by omega) (by omega),c2]
   generalize mj pl i=pp at*
   rcases hX with ⟨rfl,rfl⟩ | ⟨x,X,y,Y,rfl,rfl⟩
   .obtain hB | ⟨a,A,b,B,rfl,rfl⟩:=Bt.of (show A.length=B.length by omega)
    .obtain ⟨rfl,rfl⟩:=hB;simp only[ju,eP,yF,yH,rr,yb];simp only[go_sem,ya,yb,xk,yq,yi,yj,jt,da,nD,nC,w1,nf,w2,lc,lp,jm,lC,sL,e2,t2,eL _ _ _ p9,m9,w6,v1,v2,q1,q2,jf,q3,nE,mk,eX,gE];refine⟨_,rfl,?_⟩;rw[w3];simp only[go_sem,ya,az,yL,av iH,av iI]<;>rfl
    .simp only [yv] at D7 D8;simp only[ju,eP,yF,yH,rr,yb];have o1:=fun (hp:Hp) (ct:Nat) (z:Nat) (hg:ak hp 1=F5 (.cells ydo ydo ydp 1 (a::A)))=>dS (ct:=ct) (by':=4) (new:=[AV.ao .f32 z]) (m:=1) (n:=A.length+1) hg (by simp) (by omega) (by omega) (by decide) rfl
     have o2:=fun (hp:Hp) (ct:Nat) (z:Nat) (hg:ak hp 2=F5 (.cells ydo ydo ydp 1 (b::B)))=>dS (ct:=ct) (by':=4) (new:=[AV.ao .f32 z]) (m:=1) (n:=B.length+1) hg (by simp) (by omega) (by omega) (by decide) rfl
     simp only[go_sem,ya,yb,yj,jt,da,nD,nC,w1,nf,w2,lc,lp,jm,lC,sL,e2,t2,eL _ _ _ p9,m9,w6,v1,v2,q1,q2,jf,q3,nE,mk,eX,o1,o2];refine⟨_,rfl,?_⟩;rw[w3];simp only[go_sem,ya,yb,az,yB,yJ,av iH,av iI]<;>rfl
   .obtain hB | ⟨a,A,b,B,rfl,rfl⟩:=Bt.of (show A.length=B.length by omega)
    .obtain ⟨rfl,rfl⟩:=hB;simp only[ju,eP,yF,yH,rr,yb];simp only[go_sem,ya,yb,xk,yq,yi,yj,jt,da,nD,nC,w1,nf,w2,lc,lp,jm,lC,sL,e2,t2,eL _ _ _ p9,m9,w6,v1,v2,q1,q2,jf,q3,nE,mk,eX,gE];refine⟨_,rfl,?_⟩;rw[w3];simp only[go_sem,ya,az,yL,av iH,av iI]<;>rfl
    .simp only [yv] at D7 D8;simp only[ju,eP,yF,yH,rr,yb];have o1:=fun (hp:Hp) (ct:Nat) (z:Nat) (hg:ak hp 3=F5 (.cells ydo ydo ydp 1 (a::A)))=>dS (ct:=ct) (by':=4) (new:=[AV.ao .f32 z]) (m:=1) (n:=A.length+1) hg (by simp) (by omega) (by omega) (by decide) rfl
     have o2:=fun (hp:Hp) (ct:Nat) (z:Nat) (hg:ak hp 4=F5 (.cells ydo ydo ydp 1 (b::B)))=>dS (ct:=ct) (by':=4) (new:=[AV.ao .f32 z]) (m:=1) (n:=B.length+1) hg (by simp) (by omega) (by omega) (by decide) rfl
     simp only[go_sem,ya,yb,yj,jt,da,nD,nC,w1,nf,w2,lc,lp,jm,lC,sL,e2,t2,eL _ _ _ p9,m9,w6,v1,v2,q1,q2,jf,q3,nE,mk,eX,o1,o2];refine⟨_,rfl,?_⟩;rw[w3];simp only[go_sem,ya,yb,az,yB,yJ,av iH,av iI]<;>rfl
  .have lC:decide ((i:Int)<pl.length)=ydp:=yY (by omega);have c2:mj pl i=0:=by unfold mj;rw[yp hp]
   rw[c2] at q1 v2;rcases hX with ⟨rfl,rfl⟩ | ⟨x,X,y,Y,rfl,rfl⟩
   .obtain hB | ⟨a,A,b,B,rfl,rfl⟩:=Bt.of (show A.length=B.length by omega)
    .obtain ⟨rfl,rfl⟩:=hB;simp only[ju,eP,yF,yH,rr,yb];simp only[go_sem,ya,yb,xk,yq,yi,yj,jt,da,nD,nC,w1,nf,w2,lc,lp,jm,lC,v1,v2,q1,q2,jf,q3,nE,mk,eX,gE];refine⟨_,rfl,?_⟩;rw[w3];simp only[go_sem,ya,az,yL,av iH,av iI]<;>rfl
    .simp only [yv] at D7 D8;simp only[ju,eP,yF,yH,rr,yb];have o1:=fun (hp:Hp) (ct:Nat) (z:Nat) (hg:ak hp 1=F5 (.cells ydo ydo ydp 1 (a::A)))=>dS (ct:=ct) (by':=4) (new:=[AV.ao .f32 z]) (m:=1) (n:=A.length+1) hg (by simp) (by omega) (by omega) (by decide) rfl
     have o2:=fun (hp:Hp) (ct:Nat) (z:Nat) (hg:ak hp 2=F5 (.cells ydo ydo ydp 1 (b::B)))=>dS (ct:=ct) (by':=4) (new:=[AV.ao .f32 z]) (m:=1) (n:=B.length+1) hg (by simp) (by omega) (by omega) (by decide) rfl
     simp only[go_sem,ya,yb,yj,jt,da,nD,nC,w1,nf,w2,lc,lp,jm,lC,v1,v2,q1,q2,jf,q3,nE,mk,eX,o1,o2];refine⟨_,rfl,?_⟩;rw[w3];simp only[go_sem,ya,yb,az,yB,yJ,av iH,av iI]<;>rfl
   .obtain hB | ⟨a,A,b,B,rfl,rfl⟩:=Bt.of (show A.length=B.length by omega)
    .obtain ⟨rfl,rfl⟩:=hB;simp only[ju,eP,yF,yH,rr,yb];simp only[go_sem,ya,yb,xk,yq,yi,yj,jt,da,nD,nC,w1,nf,w2,lc,lp,jm,lC,v1,v2,q1,q2,jf,q3,nE,mk,eX,gE];refine⟨_,rfl,?_⟩;rw[w3];simp only[go_sem,ya,az,yL,av iH,av iI]<;>rfl
    .simp only [yv] at D7 D8;simp only[ju,eP,yF,yH,rr,yb];have o1:=fun (hp:Hp) (ct:Nat) (z:Nat) (hg:ak hp 3=F5 (.cells ydo ydo ydp 1 (a::A)))=>dS (ct:=ct) (by':=4) (new:=[AV.ao .f32 z]) (m:=1) (n:=A.length+1) hg (by simp) (by omega) (by omega) (by decide) rfl
     have o2:=fun (hp:Hp) (ct:Nat) (z:Nat) (hg:ak hp 4=F5 (.cells ydo ydo ydp 1 (b::B)))=>dS (ct:=ct) (by':=4) (new:=[AV.ao .f32 z]) (m:=1) (n:=B.length+1) hg (by simp) (by omega) (by omega) (by decide) rfl
     simp only[go_sem,ya,yb,yj,jt,da,nD,nC,w1,nf,w2,lc,lp,jm,lC,v1,v2,q1,q2,jf,q3,nE,mk,eX,o1,o2];refine⟨_,rfl,?_⟩;rw[w3];simp only[go_sem,ya,yb,az,yB,yJ,av iH,av iI]<;>rfl
end
section
variable {cv pv:AV}{X Y:List AV}{cl pl:List Nat}{j n:Nat}
def Es(cv pv:AV)(n:Nat)(X Y:AV)(r:Nat)(A B:AV):Env:=[(1,cv),(2,pv),(7,aa n),(8,.ptr 0 0),(9,X),(10,Y),(12,A),(13,B),(35,aa n),(36,aa r)]
def EL(cv pv:AV)(n:Nat)(X Y:AV)(r:Nat):Env:=[(1,cv),(2,pv),(7,aa n),(8,.ptr 0 0),(9,X),(10,Y),(35,aa n),(36,aa r)]
def lD(φ:Int->Nat)(cl:List Nat)(n j:Nat):List AV:=(xo j).map fun r=>.ap ydp n (kD φ cl n r n)
def ml(ψ:Int->Nat)(cl pl:List Nat)(n j:Nat):List AV:=(xo j).map fun r=>.ap ydp n (kF ψ cl pl n r n)
def adL{φ:Int->Nat}:(lD φ cl n j).length=j:=by simp[lD]
def adM{ψ:Int->Nat}:(ml ψ cl pl n j).length=j:=by simp[ml]
def ap5{φ:Int->Nat}:lD φ cl n (j+1)=lD φ cl n j++[.ap ydp n (kD φ cl n j n)]:=by simp[lD,wV]
def ap6{ψ:Int->Nat}:ml ψ cl pl n (j+1)=ml ψ cl pl n j++[.ap ydp n (kF ψ cl pl n j n)]:=by simp[ml,wV]
def awM{φ ψ:Int->Nat}(hφ:Me φ ψ){r:Nat}(lX:zj cv cl)(nB:zj pv pl)(hn:n<=4)(hr:r<n)(hX:Bt X Y):
  ew P L [1,2,7,8,9,10,11,12,13,35,36,39,40] jt (fun d st=>∃k,k+d=n/\st=⟨ju cv pv n (rr 1 X) (rr 2 Y) r (rr (yF 1 X Y) (kD φ cl n r k)) (rr (yF 1 X Y+1) (kF ψ cl pl n r k)) k,yH (yF 1 X Y) (eP n X Y) (kD φ cl n r k) (kF ψ cl pl n r k),yF (yF 1 X Y) (kD φ cl n r k) (kF ψ cl pl n r k),0⟩) (fun ex s'=>∃tm ct,s'=⟨tm,yH (yF 1 X Y) (eP n X Y) (kD φ cl n r n) (kF ψ cl pl n r n),ct,0⟩/\ex=.exit 2/\cd tm [1,2,7,8,9,10,12,13,35,36]=Es cv pv n (rr 1 X) (rr 2 Y) r (rr (yF 1 X Y) (kD φ cl n r n)) (rr (yF 1 X Y+1) (kF ψ cl pl n r n))):=by
 apply eE;rintro d st ⟨k,YT,rfl⟩;by_cases hk:k<n
 .left
  obtain⟨s',q1,q2⟩:=awL (P:=P) (L:=L) hφ lX nB hn hr hk hX (A:=kD φ cl n r k) (B:=kF ψ cl pl n r k) adJ adK;rw[<-ap3,<-ap4] at q2;exact⟨s',d-1,q1,by omega,k+1,by omega,q2⟩
 .right
  have pg:k=n:=by omega
  subst pg;simp only[go_sem,ya,jt,ju,show ¬(k:Int)<k by omega];exact⟨_,_,rfl,by simp,_,_,rfl,rfl,by simp only[go_sem,ya]<;>rfl⟩
def awN{φ ψ:Int->Nat}(hφ:Me φ ψ){r:Nat}(lX:zj cv cl)(nB:zj pv pl)(hn:n<=4)(hr:r<n)(hXl:X.length=r)(hYl:Y.length=r):
  ∃s',D P L EG ⟨EL cv pv n (rr 1 X) (rr 2 Y) r,eP n X Y,yF 1 X Y,0⟩=F5 (.normal,s')/\bE [1,2,7,8,9,10,35,36] s'=⟨EL cv pv n (rr 1 (X++[.ap ydp n (kD φ cl n r n)])) (rr 2 (Y++[.ap ydp n (kF ψ cl pl n r n)])) (r+1),eP n (X++[.ap ydp n (kD φ cl n r n)]) (Y++[.ap ydp n (kF ψ cl pl n r n)]),yF 1 (X++[.ap ydp n (kD φ cl n r n)]) (Y++[.ap ydp n (kF ψ cl pl n r n)]),0⟩:=by
 have hX:Bt X Y:=Bt.of (by omega);have key:=awM (P:=P) (L:=L) hφ lX nB hn hr hX;have iH:=lX.1.pu;have iI:=nB.1.pu;have hA:=adJ (φ:=φ) (cl:=cl) (n:=n) (r:=r) (j:=n);have hB:=adK (ψ:=ψ) (cl:=cl) (pl:=pl) (n:=n) (r:=r) (j:=n);have kR:kD φ cl n r 0=[]:=rfl;have iV:kF ψ cl pl n r 0=[]:=rfl;have zq:(r:Int)<n:=by omega
 have w3:IntKind.wrap .i64 ((r:Int)+1)=((r+1:Nat):Int):=wrap64 (by omega) (by omega);have clV:∀(n:Nat) (cs:List AV),cellsOf (.ap ydp n cs)=[.ap ydp n cs]:=fun _ _=>rfl
 have mk:∀(q:Env) (z:AV) (n:Nat) (cs:List AV),fJ q [z] 0 1 [AV.ap ydp n cs] []=F5 [.ap ydp n cs]:=fun q z n cs=>by rw[zZ (by simp) rfl];rfl
 rcases hX with ⟨rfl,rfl⟩ | ⟨x,X,y,Y,rfl,rfl⟩
 .simp only [yF,rr] at key;simp only[EL,eP,yF,yH,rr];simp only[go_sem,ya,yb,EG,zq];generalize hq:D P L (.loop _ jt) _=q;obtain⟨ex,st,rfl,tm,ct,rfl,rfl,og⟩:=bQ hq (key n) ⟨0,by omega,by
   rw[kR,iV]
   simp only[go_sem,ya,yb,az,ju,eP,yH,da,av iH,av iI]<;>rfl⟩
  generalize kD φ cl n r n=A at*
  generalize kF ψ cl pl n r n=B at*
  obtain Y3 | ⟨a,A,b,B,rfl,rfl⟩:=Bt.of (show A.length=B.length by omega)
  .obtain ⟨rfl,rfl⟩:=Y3;simp only[yI] at hA;omega
  .simp only [yv] at hA hB;have fA:=fun hp=>kG (hp:=hp) (sz:=1) (k:=n) ydp (show (a::A).length=n*1 by simp[hA]) (by decide)
   have fB:=fun hp=>kG (hp:=hp) (sz:=1) (k:=n) ydp (show (b::B).length=n*1 by simp[hB]) (by decide)
   have dh:∀c,bE [1,2,7,8,9,10,12,13,35,36] ⟨tm,yH 1 (eP n [] []) (a::A) (b::B),c,0⟩=⟨Es cv pv n .af .af r (.ay 1 0 n) (.ay 2 0 n),[(2,.cells ydo ydo ydp 1 (b::B)),(1,.cells ydo ydo ydp 1 (a::A)),(0,da 1 1 n)],3,0⟩:=fun c=>by
    rw[az,og];simp only[hA,hB];simp only[go_sem,ya,yb,Es,eP,yH,da,av iH,av iI]<;>rfl
   simp only[go_sem,dh];simp only[go_sem,ya,yb,xk,yq,yi,yj,Es,da,fA,fB,clV,mk,eX,gE];refine⟨_,rfl,?_⟩;rw[w3];simp only[go_sem,ya,yb,az,yL,av iH,av iI]<;>rfl
 .simp only [yv] at hXl hYl;simp only[yF,rr] at key;simp only[EL,eP,yF,yH,rr];simp only[go_sem,ya,yb,EG,zq];generalize hq:D P L (.loop _ jt) _=q;obtain⟨ex,st,rfl,tm,ct,rfl,rfl,og⟩:=bQ hq (key n) ⟨0,by omega,by
   rw[kR,iV]
   simp only[go_sem,ya,yb,az,ju,eP,yH,da,av iH,av iI]<;>rfl⟩
  generalize kD φ cl n r n=A at*
  generalize kF ψ cl pl n r n=B at*
  obtain Y3 | ⟨a,A,b,B,rfl,rfl⟩:=Bt.of (show A.length=B.length by omega)
  .obtain ⟨rfl,rfl⟩:=Y3;simp only[yI] at hA;omega
  .simp only [yv] at hA hB;have fA:=fun hp=>kG (hp:=hp) (sz:=1) (k:=n) ydp (show (a::A).length=n*1 by simp[hA]) (by decide)
   have fB:=fun hp=>kG (hp:=hp) (sz:=1) (k:=n) ydp (show (b::B).length=n*1 by simp[hB]) (by decide)
   have dh:∀c,bE [1,2,7,8,9,10,12,13,35,36] ⟨tm,yH 3 (eP n (x::X) (y::Y)) (a::A) (b::B),c,0⟩=⟨Es cv pv n (.ay 1 0 (X.length+1)) (.ay 2 0 (Y.length+1)) r (.ay 3 0 n) (.ay 4 0 n),[(4,.cells ydo ydo ydp 1 (b::B)),(3,.cells ydo ydo ydp 1 (a::A)),(2,.cells ydo ydo ydp 1 (y::Y)),(1,.cells ydo ydo ydp 1 (x::X)),(0,da 1 1 n)],5,0⟩:=fun c=>by
    rw[az,og];simp only[hA,hB];simp only[go_sem,ya,yb,Es,eP,yH,da,av iH,av iI]<;>rfl
   have o1:=fun (hp:Hp) (ct:Nat) (cs:List AV) (hg:ak hp 1=F5 (.cells ydo ydo ydp 1 (x::X)))=>dS (ct:=ct) (by':=24) (new:=[AV.ap ydp n cs]) (m:=1) (n:=X.length+1) hg (by simp) (by omega) (by omega) (by decide) rfl
   have o2:=fun (hp:Hp) (ct:Nat) (cs:List AV) (hg:ak hp 2=F5 (.cells ydo ydo ydp 1 (y::Y)))=>dS (ct:=ct) (by':=24) (new:=[AV.ap ydp n cs]) (m:=1) (n:=Y.length+1) hg (by simp) (by omega) (by omega) (by decide) rfl
   simp only[go_sem,yb,dh];simp only[go_sem,ya,yb,yj,Es,da,fA,fB,clV,mk,eX,o1,o2];refine⟨_,rfl,?_⟩;rw[w3];simp only[go_sem,ya,yb,az,yB,yJ,av iH,av iI]<;>rfl
def awO{φ ψ:Int->Nat}(hφ:Me φ ψ)(lX:zj cv cl)(nB:zj pv pl)(hn:n<=4):
  ew P L [1,2,7,8,9,10,35,36] EG (fun d st=>∃r,r+d=n/\st=⟨EL cv pv n (rr 1 (lD φ cl n r)) (rr 2 (ml ψ cl pl n r)) r,eP n (lD φ cl n r) (ml ψ cl pl n r),yF 1 (lD φ cl n r) (ml ψ cl pl n r),0⟩) (fun ex s'=>∃tm ct,s'=⟨tm,eP n (lD φ cl n n) (ml ψ cl pl n n),ct,0⟩/\ex=.exit 0/\cd tm [8,9,10]=[(8,.ptr 0 0),(9,rr 1 (lD φ cl n n)),(10,rr 2 (ml ψ cl pl n n))]):=by
 apply eE;rintro d st ⟨r,gC,rfl⟩;by_cases hr:r<n
 .left
  obtain⟨s',q1,q2⟩:=awN (P:=P) (L:=L) hφ lX nB hn hr (X:=lD φ cl n r) (Y:=ml ψ cl pl n r) adL adM;rw[<-ap5,<-ap6] at q2;exact⟨s',d-1,q1,by omega,r+1,by omega,q2⟩
 .right
  have YQ:r=n:=by omega
  subst YQ;simp only[go_sem,ya,EG,EL,show ¬(r:Int)<r by omega];exact⟨_,_,rfl,by simp,_,_,rfl,rfl,by simp only[go_sem,ya]<;>rfl⟩
end
def awP{tm:Env}{a1 a2 a3 a4 b1 b2 b3 b4 c1 c2 c3 c4 d1 d2 d3 d4 x1 x2 x3 x4 x5 x6 x7 x8 x9 x10 x11 x12 x13 x14 x15 x16:AV}{r:List (Nat×Nat×X)}(ha:bP [a1,a2,a3,a4]=ydo)(hb:bP [b1,b2,b3,b4]=ydo)(hc:bP [c1,c2,c3,c4]=ydo)(hd:bP [d1,d2,d3,d4]=ydo):
  (fJ tm [x1,x2,x3,x4,x5,x6,x7,x8,x9,x10,x11,x12,x13,x14,x15,x16] 0 4 [a1,a2,a3,a4] r=fill tm [a1,a2,a3,a4,x5,x6,x7,x8,x9,x10,x11,x12,x13,x14,x15,x16] r)/\
  (fJ tm [a1,a2,a3,a4,x5,x6,x7,x8,x9,x10,x11,x12,x13,x14,x15,x16] 4 4 [b1,b2,b3,b4] r=fill tm [a1,a2,a3,a4,b1,b2,b3,b4,x9,x10,x11,x12,x13,x14,x15,x16] r)/\
  (fJ tm [a1,a2,a3,a4,b1,b2,b3,b4,x9,x10,x11,x12,x13,x14,x15,x16] 8 4 [c1,c2,c3,c4] r=fill tm [a1,a2,a3,a4,b1,b2,b3,b4,c1,c2,c3,c4,x13,x14,x15,x16] r)/\
  (fJ tm [a1,a2,a3,a4,b1,b2,b3,b4,c1,c2,c3,c4,x13,x14,x15,x16] 12 4 [d1,d2,d3,d4] r=fill tm [a1,a2,a3,a4,b1,b2,b3,b4,c1,c2,c3,c4,d1,d2,d3,d4] r):=
 ⟨by rw[nI (by rfl) (by simp) ha];rfl,by rw[nI (by rfl) (by simp) hb];rfl,by rw[nI (by rfl) (by simp) hc];rfl,by rw[nI (by rfl) (by simp) hd];rfl⟩
def aeC{n:Nat}(h:n<=9000):IntKind.wrap .i64 (n:Int)=(n:Int):=wrap64 (by omega) (by omega)
def asN(h:Ni P L){v:AV}{F:List (List Nat)}{C R S i:Nat}{s:List Nat}(hv:gK jZ v F)(hl:F.length<=1000000)(hr:∀r,r∈F->r.length<=1000000)(hs:s.length<=1000000)(hF:ow F (R*S) (C*S))(hC:C<=8)(hR:R<=8)(hS:S<=8)(hS2:2<=S)(hi:i<C*R)(fW:pJ C R S F=0)(hz:BS s=0):ah P L 656 [.agg [aa C,aa R,aa S],v,aa i,.str s] (.aw [.agg (Sf C R S F i s (cr F C S i)),aa (Jf C R S F i s (cr F C S i))]):=by
 have e1:=ahI h.toCtd.toFrc hv hl hr (C:=C) (R:=R) (S:=S);have e2:=QV (P:=P) (L:=L) h.QY h.n9 i 0 ((C*R:Nat)-1:Int);have e3:=aBw h.toCtd.toCk h.n9 h.Q1 (s:=s) hs;have hCR:C*R<=64:=xC hC hR;have Jg:S*S<=64:=xC hS hS;have aFS:2*2<=S*S:=xC hS2 hS2;obtain⟨l1,l2⟩:=UE hi;rw[yp (by omega)] at e2;obtain⟨ck,gA⟩:=asG hz;have ke:=OM ck (yx 2400);obtain⟨bv,e5,hb⟩:=ahC h.toCtd.toCk ck;have dR:=hb;obtain⟨b1,b2,b3,b4,rfl,gb⟩:=hb.gen;have e4:=QU (P:=P) (L:=L) h.QZ (lF ydo [0,0]) (by simp);simp only[yv,yI,yd,yb,xe,ve,show bF [0,0]=0 from rfl] at e4;have e6:ah P L 673 [.agg [aa C,aa R,aa S],.agg [aa ((i%C:Nat):Int),aa ((i/C:Nat):Int)]] (.fn (.f 719) [] [dN C R S,iZ (i%C) (i/C)]):=by
  unfold ah;rw[aG h.ahJ];simp only[go_sem,ya,yb,Ql,BQ,BR]
  first | done | rfl
 have h1:(i:Int).tmod (C:Int)=((i%C:Nat):Int):=(yac i C).symm;have h2:(i:Int).tdiv (C:Int)=((i/C:Nat):Int):=(Int.ofNat_tdiv i C).symm;have zM:(C:Int)≠0:=by omega
 have Sg:(C:Int)*(R:Int)=((C*R:Nat):Int):=by rw[xZ]
 have wi1:=aeC (n:=i%C) (by omega);have Y4:=aeC (n:=i/C) (by omega);have qV:i/C<=64:=Nat.le_trans (Nat.div_le_self _ _) (by omega);obtain⟨ls,ms,q1,q2,e9⟩:=aBF h (C:=C) (R:=R) (S:=S) (a:=i%C) (b:=i/C) (i:=i) (bs:=0) (s:=s) (p:=cr F C S i) hv hF hC hR hS l1 l2 rfl dR ke;generalize Mu:cr F C S i=p at*
 have kp:∀a b,a<S->b<S->Hq 429 (p a b):=fun a b ha hb=>by
  rw[<-Mu];exact hF.H (oS l2 hb) (oS l1 ha)
 obtain⟨kl,km⟩:=aBB kp ke;have ql:=q1.len;have qm:=q2.len;have il:=Ol ydp q1;have im:=Ol ydp q2;rw[xi,tn] at ql qm il im;obtain⟨r,AX,bB⟩:=aA0 h.toCtd.toCen.toMom.toFr' h.L9 h.Xd il (K:=3000) (fun x hx=>by
  obtain⟨t,ht,rfl⟩:=vM.1 hx
  exact kl t (yat.1 ht)) (by rw[xi,tn];omega) (by rw[xi,tn];omega)
 rw[adz] at bB;have D9:=Hu h.toCtd.toCen.toMom.toFr' bB;have Jh:=aBy (aW (fE p (cf s) S) (S*S));obtain⟨r1,r2,r3,r4,rfl,gr⟩:=bB.gen;have pG:=Dh (P:=P) (L:=L) h.n9 (mJ p S (S*S)) 3;have A2:=Dh (P:=P) (L:=L) h.n9 (decide (aW (fE p (cf s) S) (S*S)=0)) 6;have pL:=QU (P:=P) (L:=L) h.QZ (lF ydo [if mJ p S (S*S)=ydo then 3 else 0,if decide (aW (fE p (cf s) S) (S*S)=0)=ydo then 6 else 0]) (by simp);simp only[yv,yI,yd,yb,xe,ve] at pL;have YS:bF [if mJ p S (S*S)=ydo then 3 else 0,if decide (aW (fE p (cf s) S) (S*S)=0)=ydo then 6 else 0]=sK p (cf s) S:=by
  unfold sK
  cases mJ p S (S*S) with
  | true=>rfl
  | false=>by_cases c:aW (fE p (cf s) S) (S*S)=0<;>simp[bF,c]
 rw[YS] at pL;have fz:=zi;have Ea:=Ft;have aR:∀(hp:Hp) (ct id:Nat) (a b c d:List Nat),gO hp ct id 0 4 [AV.str a,.str b,.str c,.str d] (F5 (.cells ydo ydo ydo 4 [AV.str [],.str [],.str [],.str []]))=F5 (.aw [],aU hp id (.cells ydo ydo ydo 4 [AV.str a,.str b,.str c,.str d]),ct):=fun _ _ _ _ _ _ _=>rfl
 have Je:∀ct,oX ct 4 [AV.str [],.str [],.str [],.str []]=F5 (.ptr ct 0,.cells ydo ydo ydo 4 [AV.str [],.str [],.str [],.str []]):=fun _=>rfl
 have Nk:∀ct,oX ct 4 [AV.int .i64 0,.af,.int .i64 0,.af]=F5 (.ptr ct 0,.cells ydo ydo ydo 4 [AV.int .i64 0,.af,.int .i64 0,.af]):=fun _=>rfl
 have Ji:∀a b c d:List Nat,fU 4 ydo [AV.str a,.str b,.str c,.str d]=F5 (.agg [.str a,.str b,.str c,.str d]):=fun _ _ _ _=>rfl
 have cA:∀(tm:Env) (hp:Hp),bh tm hp (.Ah [AV.str [],.str [],.str [],.str []] [])=F5 (.agg [AV.str [],.str [],.str [],.str []]):=fun _ _=>rfl
 have wi0:ot i 0 ((C:Int)*R-1)=0:=by unfold ot;rw[yp (by rw[Sg];omega)]
 have hE0:Jf C R S F i s p=if sK p (cf s) S=0 then (if Nj p (cf s) S=ydo then 4 else 0) else sK p (cf s) S:=by
  unfold Jf;rw[yz fW,wi0,hz,yz (show bF [0,0]=0 from rfl),wi]
 unfold Sf;rw[hE0,wi];rw[hz] at e3;rw[fW] at e1;obtain⟨m,hm⟩:∃m,S*S=m+1:=⟨S*S-1,by omega⟩;rw[hm] at e9 ql qm;simp only[mK,zO,iG,D5,yB,yL] at e9;have fl:=fun (hp:Hp)=>kG (hp:=hp) (sz:=4) (k:=m+1) (cs:=ls) ydp ql (by decide)
 have fm:=fun (hp:Hp)=>kG (hp:=hp) (sz:=4) (k:=m+1) (cs:=ms) ydp qm (by decide)
 have fc:=fun (hp:Hp)=>kG (hp:=hp) (sz:=1) (k:=m+1) (cs:=oB S ydp (m+1)) ydp (by rw[J6,yj]) (by decide)
 have fr:=fun (hp:Hp)=>kG (hp:=hp) (sz:=1) (k:=m+1) (cs:=oB S ydo (m+1)) ydp (by rw[J6,yj]) (by decide)
 have iB:∀(hp:Hp) (n:Nat) (a b:Int),freeze (n+20) hp (.ap ydo 2 [aa a,aa b])=F5 (.ap ydo 2 [aa a,aa b],hp):=fun hp n a b=>(lF ydo [a,b]).ai (n+19)
 by_cases hd:sK p (cf s) S=0
 .have Sh:mJ p S (S*S)=ydp:=by
   cases c:mJ p S (S*S) with
   | false=>rfl
   | true=>unfold sK at hd;rw[yz c] at hd;exact absurd hd (by decide)
  have zy:aW (fE p (cf s) S) (S*S)≠0:=fun c=>by
   unfold sK at hd;rw[yp (by rw[Sh];decide),yz c] at hd;exact absurd hd (by decide)
  have j9:0<=cf s:=gA;have eK:=fun (ro u:Bool) (T:Nat) (_:T<=S)=>tL (adH (fun t ht=>ayI Sh ht) j9 zy (hZ S ro) u T)
  obtain⟨x,y,Nl,hx,hy⟩:=ahO h.toExt (C:=C) (R:=R) (S:=S) (aey (S:=S) (ro:=ydp)) il im Jg hS (fun t ht=>CL ht) kl km (eK ydp);obtain⟨z,w,Nn,dw,hw⟩:=ahO h.toExt (C:=C) (R:=R) (S:=S) (aey (S:=S) (ro:=ydo)) il im Jg hS (fun t ht=>CL ht) kl km (eK ydo);have kx:=fun (ro gr:Bool)=>Pe gr kl km Jg hS (fun t ht=>CL (ro:=ro) ht) S
  have nm:=hx;have fX:=hy;have kv:=dw;have AQ:=hw;obtain⟨x1,x2,x3,x4,rfl,gx⟩:=hx.gen;obtain⟨y1,y2,y3,y4,rfl,gy⟩:=hy.gen;obtain⟨z1,z2,z3,z4,rfl,gz⟩:=dw.gen;obtain⟨w1,w2,w3,w4,rfl,gw⟩:=hw.gen;have hQL:QL [x1,x2,x3,x4,y1,y2,y3,y4,z1,z2,z3,z4,w1,w2,w3,w4] [cW p (cf s) S ydp ydp,cW p (cf s) S ydp ydo,cW p (cf s) S ydo ydp,cW p (cf s) S ydo ydo]:=QL.cons nm (QL.cons fX (QL.cons kv (QL.cons AQ QL.nil)));have A3:=ahH h.L7 h.QW h.QX h.HF h.toCtd.toCen.toTx (Ol ydo hQL) (show 4<=1000000 by decide) (K:=600000) (fun u hu=>by
   simp only[wB,yaA,or_false] at hu
   rcases hu with rfl | rfl | rfl | rfl<;>exact kx _ _) (by decide)
  have pl:=hQL.pu;have qK:=fun (tm:Env) (u1 u2 u3 u4 u5 u6 u7 u8 u9 sB F1 F2 Cd Ce Cf u16:AV) (r:List (Nat×Nat×X))=>awP (tm:=tm) (x1:=u1) (x2:=u2) (x3:=u3) (x4:=u4) (x5:=u5) (x6:=u6) (x7:=u7) (x8:=u8) (x9:=u9) (x10:=sB) (x11:=F1) (x12:=F2) (x13:=Cd) (x14:=Ce) (x15:=Cf) (x16:=u16) (r:=r) gx.o gy.o gz.o gw.o
  have mD:=fun tm u1 u2 u3 u4 u5 u6 u7 u8 u9 sB F1 F2 Cd Ce Cf u16 r=>(qK tm u1 u2 u3 u4 u5 u6 u7 u8 u9 sB F1 F2 Cd Ce Cf u16 r).1
  have jn:=fun tm u5 u6 u7 u8 u9 sB F1 F2 Cd Ce Cf u16 r=>(qK tm .af .af .af .af u5 u6 u7 u8 u9 sB F1 F2 Cd Ce Cf u16 r).2.1
  have Si:=fun tm u9 sB F1 F2 Cd Ce Cf u16 r=>(qK tm .af .af .af .af .af .af .af .af u9 sB F1 F2 Cd Ce Cf u16 r).2.2.1
  have hf4:=fun tm Cd Ce Cf u16 r=>(qK tm .af .af .af .af .af .af .af .af .af .af .af .af Cd Ce Cf u16 r).2.2.2
  rw[yz hd];rw[hd] at pL;rw[hm] at pG AX D9 A2 pL Nl Nn Jh Sh;rw[Sh] at pG e9 pL;have lU:¬aW (fE p (cf s) S) (m+1)=0:=by rw[<-hm];exact zy
  rw[yY lU] at A2 pL Jh;simp only[yD,xz] at pG A2 pL;rw[show Nj p (cf s) S=[cW p (cf s) S ydp ydp,cW p (cf s) S ydp ydo,cW p (cf s) S ydo ydp,cW p (cf s) S ydo ydo].any LG from rfl]
  cases hL:[cW p (cf s) S ydp ydp,cW p (cf s) S ydp ydo,cW p (cf s) S ydo ydp,cW p (cf s) S ydo ydo].any LG with
  | true=>
   have A3:=A3.1 hL;simp only[xJ,show ¬((4:Int)=0) by decide,xz];simp only[yv,yI,yd,yb] at A3;unfold ah at e1 e2 e3 e4 e5 e6 pG AX D9 A2 pL Nl Nn A3;unfold ah;rw[aG h.Xo]
   simp only[go_sem,ya,yb,yq,yi,yj,LA,aO,bg,yd,yg,yX,jP,fz,Ea,hv.pu,hv.ai,hv.one,hv.cells,e1,Sg,wrap64 (n:=((C*R:Nat):Int)) (by omega) (by omega),wrap64 (n:=((C*R:Nat):Int)-1) (by omega) (by omega),e2,e3,eX,e4,e5,bi,gb.st,eL _ _ _ zM,fH _ _ _ zM,h1,h2,Y4,e6];simp only[go_sem,ya,yb,xk,yq,yi,yj,e9,yg,pG,fl,fm,fc,fr,AX,bi,gr.ai,D9,Jh,A2,eX,pL,jP,fz,Nl,Nk,gx.st,gy.st,Nn,gz.st,gw.st,eS,mD,jn,Si,hf4,pl,A3,show ¬(4:Int)=0 by decide,yP,aR,cJ,cK,Ji,Cc];rfl
  | false=>
   obtain⟨rs,lV,A3⟩:=A3.2 hL;simp only[yD,xz,xJ];have lV:nn rs [RT (cW p (cf s) S ydp ydp),RT (cW p (cf s) S ydp ydo),RT (cW p (cf s) S ydo ydp),RT (cW p (cf s) S ydo ydo)]:=lV;have i0:=lV.bj (i:=0) (show 0<4 by decide);have i1:=lV.bj (i:=1) (show 1<4 by decide);have i2:=lV.bj (i:=2) (show 2<4 by decide);have i3:=lV.bj (i:=3) (show 3<4 by decide);simp only[wq,vn] at i0 i1 i2 i3;simp only[yv,yI,yd,yb] at A3;unfold D6;generalize RT (cW p (cf s) S ydp ydp)=t1 at*
   generalize RT (cW p (cf s) S ydp ydo)=t2 at*
   generalize RT (cW p (cf s) S ydo ydp)=t3 at*
   generalize RT (cW p (cf s) S ydo ydo)=t4 at*
   have V1:∀(tm:Env) (a:List Nat) (r:List (Nat×Nat×X)),fJ tm [.str [],.str []] 0 1 [.str a] r=fill tm [.str a,.str []] r:=fun tm a r=>by
    rw[zZ (by simp) rfl];rfl
   have aBJ:∀(tm:Env) (a b:List Nat) (r:List (Nat×Nat×X)),fJ tm [.str a,.str []] 1 1 [.str b] r=fill tm [.str a,.str b] r:=fun tm a b r=>by
    rw[zZ (by simp) rfl];rfl
   have Sj:∀(tm:Env) (a b:List Nat) (r:List (Nat×Nat×X)),fJ tm [AV.str [],.str [],.str [],.str []] 0 2 [.str a,.str b] r=fill tm [.str a,.str b,.str [],.str []] r:=fun tm a b r=>by
    rw[nI (by rfl) (by simp) rfl];rfl
   have Sk:∀(tm:Env) (a b c d:List Nat) (r:List (Nat×Nat×X)),fJ tm [AV.str a,.str b,.str [],.str []] 2 2 [.str c,.str d] r=fill tm [.str a,.str b,.str c,.str d] r:=fun tm a b c d r=>by
    rw[nI (by rfl) (by simp) rfl];rfl
   unfold ah at e1 e2 e3 e4 e5 e6 pG AX D9 A2 pL Nl Nn A3;unfold ah;rw[aG h.Xo]
   simp only[go_sem,ya,yb,yq,yi,yj,LA,aO,bg,yd,yg,yX,jP,fz,Ea,hv.pu,hv.ai,hv.one,hv.cells,e1,Sg,wrap64 (n:=((C*R:Nat):Int)) (by omega) (by omega),wrap64 (n:=((C*R:Nat):Int)-1) (by omega) (by omega),e2,e3,eX,e4,e5,bi,gb.st,eL _ _ _ zM,fH _ _ _ zM,h1,h2,Y4,e6];simp only[go_sem,ya,yb,xk,yq,yi,yj,e9,yg,pG,fl,fm,fc,fr,AX,bi,gr.ai,D9,Jh,A2,eX,pL,jP,fz,Nl,Nk,gx.st,gy.st,Nn,gz.st,gw.st,eS,mD,jn,Si,hf4,pl,A3,lV.bJ,i0,i1,i2,i3,V1,aBJ,Sj,Sk,aR,cJ,cK,Ji];rfl
 .rw [yp hd,yp hd];rw[hm] at pG AX D9 A2 pL Jh;generalize sK p (cf s) S=u at*
  unfold ah at e1 e2 e3 e4 e5 e6 pG AX D9 A2 pL;unfold ah;rw[aG h.Xo]
  simp only[go_sem,ya,yb,yq,yi,yj,LA,aO,bg,yd,yg,yX,jP,fz,Ea,hv.pu,hv.ai,hv.one,hv.cells,e1,Sg,wrap64 (n:=((C*R:Nat):Int)) (by omega) (by omega),wrap64 (n:=((C*R:Nat):Int)-1) (by omega) (by omega),e2,e3,eX,e4,e5,bi,gb.st,eL _ _ _ zM,fH _ _ _ zM,h1,h2,Y4,e6];simp only[go_sem,ya,yb,yq,yi,yj,e9,yg,pG,fl,AX,bi,gr.ai,D9,Jh,A2,eX,pL,hd,aR,cJ,cK,Ji,Cc];rfl
structure Hv(F:List (List Nat))(n:Nat)(v:Nat->Nat->Int):Prop where
 ok:ow F n n
 at_:∀k r,k<n->r<n->sE F k r=(v k r:Rat)/2/\0<=v k r/\v k r<=1000
def wv(v:Nat->Nat->Int)(n t:Nat):Int:=v (t%n) (t/n)
noncomputable def ia(F:List (List Nat))(n t:Nat):Rat:=cr F 1 n 0 (t%n) (t/n)
noncomputable def mo(F:List (List Nat))(n:Nat):Rat:=aW (ia F n) (n*n)
noncomputable def ib(F:List (List Nat))(n:Nat)(ro:Bool):Rat:=aW (fun t=>ia F n t*dU n (hZ n ro t)) (n*n)/mo F n
noncomputable def fZ(F:List (List Nat))(n:Nat)(e:Rat):Rat:=aW (fE (cr F 1 n 0) e n) (n*n)
def On(x:Int):(x:Rat)/2<0↔x<0:=by
 have h:((x:Int):Rat)<((0:Int):Rat)↔x<0:=Rat.intCast_lt_intCast;rw[<-h];have h0:((0:Int):Rat)=0:=rfl;rw[h0];constructor<;>intro q<;>grind
def acF{x:Int}(h:0<=x):0<=(x:Rat)/2:=vv.1 fun q=>by
 have:=(On x).1 q
 omega
def asP(a b:Int):pK ((a:Rat)/2-(b:Rat)/2)=((max 0 (a-b):Int):Rat)/2:=by
 have e:(a:Rat)/2-(b:Rat)/2=((a-b:Int):Rat)/2:=by rw[Rat.intCast_sub];grind
 unfold pK;rw[e];by_cases h:a-b<0
 .rw [yz ((On _).2 h),show max 0 (a-b)=0 by omega];have h0:((0:Int):Rat)=0:=rfl;rw[h0];grind
 .rw [yp (fun q=>h ((On _).1 q)),show max 0 (a-b)=a-b by omega]
section
variable {F:List (List Nat)}{n:Nat}{v:Nat->Nat->Int}(h:Hv F n v)(hn:n<=4)
include h
theorem Ap{t:Nat}(ht:t<n*n):ia F n t=(wv v n t:Rat)/2/\0<=wv v n t/\wv v n t<=1000:=by
 obtain⟨l1,l2⟩:=sY ht
 have:=h.at_ _ _ l1 l2
 unfold ia cr wv;rw[Nat.zero_mod,Nat.zero_div,vt,yd,yd];exact this
theorem VL{t:Nat}(ht:t<n*n):0<=ia F n t:=by
 obtain⟨e,h1,_⟩:=Ap h ht;rw[e];exact acF h1
theorem J9(E:Int)(hE:0<=E/\E<=10):(∀t,t<n*n->fE (cr F 1 n 0) ((E:Rat)/2) n t=((max 0 (wv v n t-E):Int):Rat)/2/\0<=max 0 (wv v n t-E)/\max 0 (wv v n t-E)<=2000)/\∀t,t<n*n->mi (cr F 1 n 0) ((E:Rat)/2) n t=((wv v n t+E:Int):Rat)/2/\0<=wv v n t+E/\wv v n t+E<=2000:=by
 refine⟨fun t ht=>?_,fun t ht=>?_⟩
 .obtain ⟨e,h1,h2⟩:=Ap h ht;refine⟨?_,by omega,by omega⟩;show pK (ia F n t-_)=_
  rw[e];exact asP _ _
 .obtain ⟨e,h1,h2⟩:=Ap h ht;refine⟨?_,by omega,by omega⟩;show ia F n t+_=_
  rw[e,tP];grind
theorem awQ:0<=mo F n:=by
 have:=Af (f:=fun _=>(0:Rat)) (g:=ia F n) (n:=n*n) (fun t ht=>VL h ht)
 rwa[K9] at this
theorem aBK:mJ (cr F 1 n 0) n (n*n)=ydp:=by
 unfold mJ;rw[tk];intro t ht;have this:0<=cr F 1 n 0 (t%n) (t/n):=VL h (yat.1 ht);simpa using vv.2 this
include hn
theorem PL(ro:Bool):Hq 160 (ib F n ro):=by
 have Jg:n*n<=16:=xC hn hn
 exact adI (W:=wv v n) (fun t ht=>by have:=Ap h ht;exact⟨this.1,this.2.1,by omega⟩) (fun t ht=>CL ht) (by omega) (by omega)
theorem VM(E:Int)(hE:0<=E/\E<=10)(ro gr:Bool):Hq 160 (cW (cr F 1 n 0) ((E:Rat)/2) n ro gr):=by
 have Jg:n*n<=16:=xC hn hn;obtain⟨k1,k2⟩:=J9 h E hE;exact ap2 k1 k2 (fun t ht=>CL ht) (by omega) (by omega) gr n
theorem aBL(E:Int)(hE:0<=E/\E<=10):sK (cr F 1 n 0) ((E:Rat)/2) n=(if fZ F n ((E:Rat)/2)=0 then 6 else 0)/\Nj (cr F 1 n 0) ((E:Rat)/2) n=ydp:=by
 constructor
 .unfold sK;rw[yp (by rw[aBK h];decide)]
  rfl
 .unfold Nj;have k:=fun ro gr=>VF (VM h hn E hE ro gr) (by decide)
  simp[k]
end
section
variable {P:aF}{L:Lib}{a:AV}{F:List (List Nat)}{n:Nat}{v:Nat->Nat->Int}
def U6(h:Hv F n v)(hn:n<=4):F.length<=1000000/\(∀r,r∈F->r.length<=1000000)/\∀r,r∈F->∀b,b∈r->b<4294967296:=
 ⟨by rw[h.ok.len];omega,fun r hr=>by rw[h.ok.row r hr];omega,fun r hr b hb=>(h.ok.fin r hr b hb).2⟩
def VN(h:Hv F n v)(hn:n<=4)(cE:2<=n):pJ ((1:Nat):Int) ((1:Nat):Int) n F=0:=ayH (by decide) (by decide) (by decide) (by decide) cE (by omega) (by rw[yaU];exact h.ok)
def ayO(F:List (List Nat))(n:Nat):sH (R9 F none) 1 1 n=[(mo F n,aW (fun t=>ia F n t*dU n (hZ n ydp t)) (n*n),aW (fun t=>ia F n t*dU n (hZ n ydo t)) (n*n))]:=rfl
def aeD(hc:Ctd P L)(ha:gK jZ a F)(h:Hv F n v)(hn:n<=4)(cE:2<=n):∃w,ah P L 654 [.agg [aa 1,aa 1,aa n],a] (.aw [w,aa (if mo F n=0 then 6 else 0)])/\my w (if mo F n=0 then [] else [(RT (ib F n ydp),RT (ib F n ydo))]):=by
 obtain⟨l1,l2,l3⟩:=U6 h hn;obtain⟨w,e,hw⟩:=aBx hc (C:=((1:Nat):Int)) (R:=((1:Nat):Int)) (S:=n) ha l1 l2 l3;have fW:=VN h hn cE;have hT:Sa ((1:Nat):Int) ((1:Nat):Int) n F none=[(mo F n,aW (fun t=>ia F n t*dU n (hZ n ydp t)) (n*n),aW (fun t=>ia F n t*dU n (hZ n ydo t)) (n*n))]:=ayO F n;have hE:Ng ((1:Nat):Int) ((1:Nat):Int) n F=if mo F n=0 then 6 else 0:=by
  unfold Ng;rw[yz fW,hT];unfold A0;have k1:=VF (PL h hn ydp) (by decide);have k2:=VF (PL h hn ydo) (by decide);by_cases c:mo F n=0
  .rw [yz c];simp only[yck,ycL,ycr];rw[xf (by rw[c];exact uj),yz rfl]
  .rw [yp c]
   have:¬mo F n<=0:=fun q=>c (yaP q (awQ h))
   have hm:sG (mo F n,aW (fun t=>ia F n t*dU n (hZ n ydp t)) (n*n),aW (fun t=>ia F n t*dU n (hZ n ydo t)) (n*n))=ydp:=by
    unfold sG oz;show (LG (ib F n ydp)||LG (ib F n ydo))=ydp
    rw[k1,k2];rfl
   simp only[yck,ycL,ycr];rw[yY this,yp (by decide),hm,yp (by decide)]
 have hP:Sb ((1:Nat):Int) ((1:Nat):Int) n F=if mo F n=0 then [] else [(RT (ib F n ydp),RT (ib F n ydo))]:=by
  have Y5:=hE;unfold Ng at Y5;rw[yz fW] at Y5;unfold Sb;rw[yz fW];unfold Jd;rw[Y5,hT];by_cases c:mo F n=0
  .rw [yz c,yz c,yp (by decide)]
  .rw [yp c,yp c,yz rfl];rfl
 rw[hE] at e;rw[hP] at hw;exact⟨w,e,hw⟩
def U7(hu:Ni P L)(ha:gK jZ a F)(h:Hv F n v)(hn:n<=4)(cE:2<=n){s:List Nat}{E:Int}(hE:0<=E/\E<=10)(hs:s=RT ((E:Rat)/2))(Dt:s.length<=1000000):
  ah P L 656 [.agg [aa 1,aa 1,aa n],a,aa 0,.str s] (.aw [.agg (if fZ F n ((E:Rat)/2)=0 then Cc else D6 (cr F 1 n 0) ((E:Rat)/2) n),aa (if fZ F n ((E:Rat)/2)=0 then 6 else 0)]):=by
 obtain⟨l1,l2,l3⟩:=U6 h hn;have kE:Hq 80 ((E:Rat)/2):=(zh (by omega)).div (zh (z:=2) (by decide));have hr:cf s=(E:Rat)/2:=by rw[hs];exact VD kE (by decide)
 have hz:BS s=0:=by
  unfold BS;have dh:cI s=0:=by rw[hs];exact KN kE (by decide)
  rw[yz dh,hr,yp (fun q=>by have:=(On E).1 q;omega)]
 have e:=asN hu (C:=1) (R:=1) (S:=n) (i:=0) ha l1 l2 Dt (by rw[yaU];exact h.ok) (by decide) (by decide) (by omega) cE (by decide) (VN h hn cE) hz
 obtain⟨d1,d2⟩:=aBL h hn E hE;have hU:Jf ((1:Nat):Int) ((1:Nat):Int) n F ((0:Nat):Int) s (cr F 1 n 0)=if fZ F n ((E:Rat)/2)=0 then 6 else 0:=by
  unfold Jf;rw[yz (VN h hn cE),hz];have w0:ot ((0:Nat):Int) 0 (((1:Nat):Int)*((1:Nat):Int)-1)=0:=by decide
  rw[w0,yz (show bF [0,0]=0 from rfl),wi,hr,d1,d2];by_cases c:fZ F n ((E:Rat)/2)=0
  .rw [yz c,yp (by decide)]
  .rw [yp c,yz rfl,yp (by decide)]
 have hV:Sf ((1:Nat):Int) ((1:Nat):Int) n F ((0:Nat):Int) s (cr F 1 n 0)=if fZ F n ((E:Rat)/2)=0 then Cc else D6 (cr F 1 n 0) ((E:Rat)/2) n:=by
  unfold Sf;rw[hU,wi,hr];by_cases c:fZ F n ((E:Rat)/2)=0
  .rw [yz c,yz c,yp (by decide)]
  .rw [yp c,yp c,yz rfl]
 rw[hU,hV] at e;exact e
end
section
variable {cl pl:List Nat}{n:Nat}
def Cg(f:Nat->Nat->Nat)(n j:Nat):List (List Nat):=(xo j).map fun r=>(xo n).map fun k=>f r k
def UF{f:Nat->Nat->Nat}{j:Nat}:(Cg f n j).length=j:=by simp[Cg]
def adN{f:Nat->Nat->Nat}{k r:Nat}(hk:k<n)(hr:r<n):sE (Cg f n n) k r=fq (f r k):=by
 unfold sE Cg;have h1:((xo n).map fun r=>(xo n).map fun k=>f r k).getD r []=(xo n).map fun k=>f r k:=by
  rw[yS,xb (by simpa using hr),xW,vV,ug]
 rw[h1];have h2:((xo n).map fun k=>f r k).getD k 0=f r k:=by
  rw[yS,xb (by simpa using hk),xW,vV,ug]
 rw[h2]
def aeE{f:Nat->Nat->Nat}(h:∀r k,gB (f r k)=ydo/\f r k<4294967296):ow (Cg f n n) n n:=by
 refine⟨UF,fun r hr=>?_,fun r hr b hb=>?_⟩
 .obtain ⟨x,_,rfl⟩:=vM.1 hr
  simp
 .obtain ⟨x,_,rfl⟩:=vM.1 hr;obtain⟨y,_,rfl⟩:=vM.1 hb;exact h x y
def U8{f:Nat->Nat->Nat}{n:Nat}(R:Nat->List AV)(hR:∀r,R r=fp ((xo n).map fun k=>f r k)):∀j,jB jZ ((xo j).map fun r=>AV.ap ydp n (R r)) (Cg f n j)
 | 0=>trivial
 | j+1=>by
  have ih:=U8 R hR j;unfold Cg at ih ⊢;rw[wV,xG,xG];refine ih.snoc (.inr ⟨ydp,?_⟩);show AV.ap ydp n (R j)=_
  rw[hR j]
  simp
def bC(cl:List Nat)(n:Nat):List (List Nat):=Cg (fun r k=>fb (kU cl (n*r+k))) n n
def bN(cl pl:List Nat)(n:Nat):List (List Nat):=Cg (fun r k=>hb (nA cl pl (n*r+k))) n n
def isC(cl:List Nat)(n:Nat):gK jZ (.ap ydp n (lD fb cl n n)) (bC cl n):=by
 have h:=Ub ydp (U8 (f:=fun r k=>fb (kU cl (n*r+k))) (n:=n) (fun r=>kD fb cl n r n) (fun r=>by simp[kD,fp]) n)
 rwa[UF] at h
def isN(cl pl:List Nat)(n:Nat):gK jZ (.ap ydp n (ml hb cl pl n n)) (bN cl pl n):=by
 have h:=Ub ydp (U8 (f:=fun r k=>hb (nA cl pl (n*r+k))) (n:=n) (fun r=>kF hb cl pl n r n) (fun r=>by simp[kF,fp]) n)
 rwa[UF] at h
def awR{z:Int}(h:0<=z/\z<520):hb z<4294967296:=by
 have e:=ayN ⟨z.toNat,by omega⟩
 rwa[show ((⟨z.toNat,by omega⟩:Fin 520).val:Int)=z from vK h.1] at e
def hvC(hc:∀c,c∈cl->c<256)(n:Nat):Hv (bC cl n) n (fun k r=>2*kU cl (n*r+k)):=by
 refine⟨aeE fun r k=>asJ (by have:=PK hc (n*r+k);omega),fun k r hk hr=>?_⟩;have b:=PK hc (n*r+k);refine⟨?_,by omega,by omega⟩;unfold bC;rw[adN hk hr,ayG (by omega),tT];have h2:((2:Int):Rat)=2:=rfl;rw[h2];grind
def hvN(hc:∀c,c∈cl->c<256)(n:Nat):Hv (bN cl pl n) n (fun k r=>nA cl pl (n*r+k)):=by
 have bb:∀i,0<=nA cl pl i/\nA cl pl i<520:=fun i=>by
  have b:=PK hc i;have q:=VK pl i;unfold nA;omega
 refine⟨aeE fun r k=>⟨awJ (by have:=bb (n*r+k);omega),awR (bb _)⟩,fun k r hk hr=>?_⟩;have b:=bb (n*r+k);refine⟨?_,by omega,by omega⟩;unfold bN;rw[adN hk hr,ayM (by omega)]
def awS(n t:Nat):max 0 (wv (fun k r=>2*kU cl (n*r+k)) n t-4)<=wv (fun k r=>nA cl pl (n*r+k)) n t/\wv (fun k r=>nA cl pl (n*r+k)) n t<=max 0 (wv (fun k r=>2*kU cl (n*r+k)) n t+4):=by
 unfold wv nA
 dsimp only
 have:=VK pl (n*(t/n)+t%n)
 omega
def Ka{x y:Int}(h:x<=y):(x:Rat)/2<=(y:Rat)/2:=by
 have:(x:Rat)<=(y:Rat):=Rat.intCast_le_intCast.2 h
 grind
section
variable {F G:List (List Nat)}{n:Nat}{v u:Nat->Nat->Int}(h:Hv F n v)(E:Int)(hE:0<=E/\E<=10)
include h hE
theorem Pf(hz:fZ F n ((E:Rat)/2)≠0)(ro gr:Bool)(T:Nat):0<aW (eG (hZ n ro) (fE (cr F 1 n 0) ((E:Rat)/2) n) (mi (cr F 1 n 0) ((E:Rat)/2) n) gr T) (n*n):=
 adH (fun t ht=>VL h ht) (acF hE.1) hz (hZ n ro) gr T
theorem aeF(g:Hv G n u)(hb:∀t,t<n*n->max 0 (wv v n t-E)<=wv u n t/\wv u n t<=wv v n t+E)(hz:fZ F n ((E:Rat)/2)≠0):0<mo G n/\∀ro,cW (cr F 1 n 0) ((E:Rat)/2) n ro ydp<=ib G n ro/\ib G n ro<=cW (cr F 1 n 0) ((E:Rat)/2) n ro ydo:=by
 obtain⟨k1,k2⟩:=J9 h E hE;have hw:∀t,t<n*n->fE (cr F 1 n 0) ((E:Rat)/2) n t<=ia G n t/\ia G n t<=mi (cr F 1 n 0) ((E:Rat)/2) n t:=fun t ht=>by
  obtain⟨b1,b2⟩:=hb t ht;rw[(Ap g ht).1,(k1 t ht).1,(k2 t ht).1];exact⟨Ka b1,Ka b2⟩
 have p0:0<fZ F n ((E:Rat)/2):=by
  have h1:aW (fun _=>(0:Rat)) (n*n)<=fZ F n ((E:Rat)/2):=Af fun t _=>U5 _
  rw[K9] at h1;exact ybI h1 (Ne.symm hz)
 have f0:0<mo G n:=by
  have h1:fZ F n ((E:Rat)/2)<=mo G n:=Af fun t ht=>(hw t ht).1
  grind
 refine⟨f0,fun ro=>⟨?_,?_⟩⟩
 .exact aeB hw (fun t ht=>CL ht) (fun gr T _=>Pf h E hE hz ro gr T) f0
 .exact aeA hw (fun t ht=>CL ht) (fun gr T _=>Pf h E hE hz ro gr T) f0
end
section
variable {F:List (List Nat)}{n:Nat}{v:Nat->Nat->Int}(h:Hv F n v)
include h
theorem adO(hz:fZ F n (((5:Int):Rat)/2)≠0):fZ F n (((4:Int):Rat)/2)≠0/\∀ro,cW (cr F 1 n 0) (((5:Int):Rat)/2) n ro ydp<=cW (cr F 1 n 0) (((4:Int):Rat)/2) n ro ydp/\cW (cr F 1 n 0) (((4:Int):Rat)/2) n ro ydo<=cW (cr F 1 n 0) (((5:Int):Rat)/2) n ro ydo:=by
 obtain⟨k1,k2⟩:=J9 h 4 (by decide);obtain⟨j1,j2⟩:=J9 h 5 (by decide);have hl:∀t,t<n*n->fE (cr F 1 n 0) (((5:Int):Rat)/2) n t<=fE (cr F 1 n 0) (((4:Int):Rat)/2) n t/\fE (cr F 1 n 0) (((4:Int):Rat)/2) n t<=mi (cr F 1 n 0) (((4:Int):Rat)/2) n t/\mi (cr F 1 n 0) (((4:Int):Rat)/2) n t<=mi (cr F 1 n 0) (((5:Int):Rat)/2) n t:=fun t ht=>by
  have b:=(Ap h ht).2;rw[(k1 t ht).1,(k2 t ht).1,(j1 t ht).1,(j2 t ht).1];exact⟨Ka (by omega),Ka (by omega),Ka (by omega)⟩
 have p5:0<=fZ F n (((5:Int):Rat)/2):=by
  have h1:aW (fun _=>(0:Rat)) (n*n)<=fZ F n (((5:Int):Rat)/2):=Af fun t _=>U5 _
  rwa[K9] at h1
 have Nk:fZ F n (((4:Int):Rat)/2)≠0:=fun q=>by
  have h1:fZ F n (((5:Int):Rat)/2)<=fZ F n (((4:Int):Rat)/2):=Af fun t ht=>(hl t ht).1
  rw[q] at h1;exact hz (yaP h1 p5)
 refine⟨Nk,fun ro=>?_⟩;exact ap1 hl (fun t ht=>CL ht) (fun gr T _=>Pf h 4 (by decide) Nk ro gr T) (fun gr T _=>Pf h 5 (by decide) hz ro gr T)
theorem aBM:fZ F n (((0:Int):Rat)/2)=mo F n/\∀ro gr,cW (cr F 1 n 0) (((0:Int):Rat)/2) n ro gr=ib F n ro:=by
 obtain⟨k1,k2⟩:=J9 h 0 (by decide);have q1:∀t,t<n*n->fE (cr F 1 n 0) (((0:Int):Rat)/2) n t=ia F n t:=fun t ht=>by
  obtain⟨e,b1,b2⟩:=Ap h ht;rw[(k1 t ht).1,e,show max 0 (wv v n t-0)=wv v n t by omega]
 have q2:∀t,t<n*n->mi (cr F 1 n 0) (((0:Int):Rat)/2) n t=ia F n t:=fun t ht=>by
  obtain⟨e,b1,b2⟩:=Ap h ht;rw[(k2 t ht).1,e,Int.add_zero]
 refine⟨Pc q1,fun ro gr=>?_⟩;have hT:∀T,fP (hZ n ro) (fE (cr F 1 n 0) (((0:Int):Rat)/2) n) (mi (cr F 1 n 0) (((0:Int):Rat)/2) n) n (n*n) gr T=fP (hZ n ro) (ia F n) (ia F n) n (n*n) gr T:=fun T=>by
  unfold fP;have e1:∀t,t<n*n->eG (hZ n ro) (fE (cr F 1 n 0) (((0:Int):Rat)/2) n) (mi (cr F 1 n 0) (((0:Int):Rat)/2) n) gr T t=eG (hZ n ro) (ia F n) (ia F n) gr T t:=fun t ht=>by
   unfold eG;rw[q1 t ht,q2 t ht]
  rw[Pc e1,Pc (f:=nt (hZ n ro) (fE (cr F 1 n 0) (((0:Int):Rat)/2) n) (mi (cr F 1 n 0) (((0:Int):Rat)/2) n) n gr T) (g:=nt (hZ n ro) (ia F n) (ia F n) n gr T) (fun t ht=>by unfold nt;rw[e1 t ht])]
 have hB:∀N,cP (hZ n ro) (fE (cr F 1 n 0) (((0:Int):Rat)/2) n) (mi (cr F 1 n 0) (((0:Int):Rat)/2) n) n (n*n) gr N=cP (hZ n ro) (ia F n) (ia F n) n (n*n) gr N:=by
  intro N
  induction N with
  | zero=>exact hT 0
  | succ N ih=>rw[cP,cP,ih,hT (N+1)]
 unfold cW;rw[hB n,anH];rfl
end
end
structure Sl(P:aF)(L:Lib):Prop extends Rp P L where
 Dg:Has P L 261 Hh
 mA:Has P L 315 C7
 QN:Has P L 419 Hk
 Xp:Has P L 420 Qf
 QO:Has P L 424 Ly
def aga{a b:Rat}(ka:Hq 160 a)(kb:Hq 160 b)(h:a<=b):R3 (RT a) (RT b)=0:=by
 unfold R3;rw[KN ka (by decide),KN kb (by decide),yp (by decide),VD ka (by decide),VD kb (by decide),yp (vv.2 h)]
def aeG{a b x:Rat}(h1:a<=x)(h2:x<=b):QM a b x=ydo:=by
 unfold QM;rw[xf h1,xf h2];rfl
def ayP{P:aF}{L:Lib}(h:Rp P L)(mA:Has P L 315 C7)(Xp:Has P L 420 Qf){a b c d:Rat}{K:Nat}(ka:Hq K a)(kb:Hq K b)(kc:Hq K c)(kd:Hq K d)(hK:K<=1000000)(h1:c<=a)(h2:b<=d):ah P L 420 [R2 a b,R2 c d] (.bool ydo):=by
 have e1:=K5 h mA kc ka (by omega);have e2:=K5 h mA kb kd (by omega);have d1:=J5 c a;have d2:=J5 b d;rw[xf h1] at d1;rw[xf h2] at d2;unfold ah at e1 e2 ⊢;rw[aG Xp];simp only[go_sem,ya,yb,Qf,R2,aO,bg,yd,cO,yg,e1,e2,d1,d2]
def CO(wc wo:AV)(z:Int)(k:Nat):Env:=[(18,.ptr 0 0),(20,.ptr 1 0),(21,aa z),(24,wc),(26,wo),(200,aa k)]
def Ag(a1 a2 a3 a4 b1 b2 b3 b4:List Nat):Hp:=[(1,.cells ydo ydo ydo 4 [.str b1,.str b2,.str b3,.str b4]),(0,.cells ydo ydo ydo 4 [.str a1,.str a2,.str a3,.str a4])]
structure HJ(x y o c:Rat):Prop where
 kx:Hq 160 x
 ky:Hq 160 y
 ko:Hq 160 o
 kc:Hq 160 c
 o1:x<=o
 o2:o<=y
 c1:x<=c
 c2:c<=y
structure Mf(x y u w:Rat):Prop where
 ku:Hq 160 u
 kw:Hq 160 w
 h1:u<=x
 h2:y<=w
def adP(h:Sl P L){x y o c:Rat}(s:HJ x y o c):ah P L 419 [.agg [.str (RT x),.str (RT y)]] (aa 0)/\ah P L 424 [.agg [.str (RT x),.str (RT y)],.str (RT o)] (.bool ydo)/\ah P L 424 [.agg [.str (RT x),.str (RT y)],.str (RT c)] (.bool ydo):=by
 have e1:=ahD h.toRp h.Dg h.mA h.QN (a:=RT x) (b:=RT y) (by have:=qc s.kx;omega) (by have:=qc s.ky;omega);rw[aga s.kx s.ky (vY s.o1 s.o2)] at e1;have e2:=ahE h.toRp h.mA h.QO s.kx s.ky s.ko (by decide);have e3:=ahE h.toRp h.mA h.QO s.kx s.ky s.kc (by decide);rw[aeG s.o1 s.o2] at e2;rw[aeG s.c1 s.c2] at e3;exact⟨e1,e2,e3⟩
def adQ(h:Sl P L){x y o c u w:Rat}(s:HJ x y o c)(d:Mf x y u w):ah P L 419 [.agg [.str (RT u),.str (RT w)]] (aa 0)/\ah P L 420 [.agg [.str (RT x),.str (RT y)],.agg [.str (RT u),.str (RT w)]] (.bool ydo):=by
 have e1:=ahD h.toRp h.Dg h.mA h.QN (a:=RT u) (b:=RT w) (by have:=qc d.ku;omega) (by have:=qc d.kw;omega);rw[aga d.ku d.kw (vY d.h1 (vY (vY s.o1 s.o2) d.h2))] at e1;exact⟨e1,ayP h.toRp h.mA h.Xp s.kx s.ky d.ku d.kw (by decide) d.h1 d.h2⟩
def awT(h:Sl P L){wc wo:AV}{x1 x2 x3 x4 o1 o2 c1 c2:Rat}{b1 b2 b3 b4:List Nat}{z:Int}(My:my wc [(RT c1,RT c2)])(hwo:my wo [(RT o1,RT o2)])(s1:HJ x1 x2 o1 c1)(s2:HJ x3 x4 o2 c2)(hz:z=6\/(z=0/\∃y1 y2 y3 y4,b1=RT y1/\b2=RT y2/\b3=RT y3/\b4=RT y4/\Mf x1 x2 y1 y2/\Mf x3 x4 y3 y4)):
  ew P L [18,20,21,24,26,200] CG (fun d st=>∃k,k+d=2/\st=⟨CO wc wo z k,Ag (RT x1) (RT x2) (RT x3) (RT x4) b1 b2 b3 b4,2,0⟩) (fun ex s'=>∃tm ct,s'=⟨tm,Ag (RT x1) (RT x2) (RT x3) (RT x4) b1 b2 b3 b4,ct,0⟩/\ex=.exit 4/\cd tm [21]=[(21,aa z)]):=by
 apply eE;rintro d st ⟨k,YT,rfl⟩;obtain⟨f1,f2,f3⟩:=adP h s1;obtain⟨g1,g2,g3⟩:=adP h s2;obtain⟨rc,ec⟩:=My.bj (i:=0) (by simp);obtain⟨ro,eo⟩:=hwo.bj (i:=0) (by simp);simp only[wq] at ec eo;have agb:∀id,rG 2 2 0 (.ptr id 0)=F5 (.ptr id 0):=fun _=>rfl
 have agc:∀id,rG 2 2 1 (.ptr id 0)=F5 (.ptr id 2):=fun _=>rfl
 have sr:∀(a:AV) (r:List AV),rG 2 1 0 (.bt (a::r))=F5 (.bt (a::r)):=fun _ _=>rfl
 have dY:∀(a b:AV) (r:List AV),rG 2 1 1 (.bt (a::b::r))=F5 (.bt (b::r)):=fun _ _ _=>rfl
 have ph:∀(a b:AV) (r:List AV),fU 2 ydo (a::b::r)=F5 (.agg [a,b]):=fun _ _ _=>rfl
 have Ea:∀(n:Nat) (hp:Hp) (a b:List Nat),freeze (n+20) hp (.agg [.str a,.str b])=F5 (.agg [.str a,.str b],hp):=fun n hp a b=>cm _ _ (by simp only[go_sem])
 unfold ah at f1 f2 f3 g1 g2 g3;have p1:=My.pu;have p2:=hwo.pu;by_cases hk:k<2
 .left
  suffices hh:∃s',_=F5 (Ex.normal,s')/\bE [18,20,21,24,26,200] s'=⟨CO wc wo z (k+1),Ag (RT x1) (RT x2) (RT x3) (RT x4) b1 b2 b3 b4,2,0⟩ by
   obtain⟨s',q1,q2⟩:=hh;exact⟨s',d-1,q1,by omega,k+1,by omega,q2⟩
  rcases hz with rfl | ⟨rfl,y1,y2,y3,y4,rfl,rfl,rfl,rfl,w1,w2⟩
  .generalize RT x1=t1 at*
   generalize RT x2=t2 at*
   generalize RT x3=t3 at*
   generalize RT x4=t4 at*
   generalize RT o1=u1 at*
   generalize RT o2=u2 at*
   generalize RT c1=v1 at*
   generalize RT c2=v2 at*
   have h2:k=0\/k=1:=by omega
   rcases h2 with rfl | rfl
   .simp only [go_sem,ya,CG,CO,Ag,show ((0:Nat):Int)<2 by decide,agb,sr,yd,yg,ph,Ea,f1,ec,eo,f2,f3,yN,yP,show ¬(6:Int)=0 by decide];refine⟨_,rfl,?_⟩;simp only[go_sem,ya,yb,az,av p1,av p2]<;>rfl
   .simp only [go_sem,ya,yb,CG,CO,Ag,show ((1:Nat):Int)<2 by decide,agc,dY,yg,yX,ph,Ea,g1,ec,eo,g2,g3,yN,yP,show ¬(6:Int)=0 by decide];refine⟨_,rfl,?_⟩;simp only[go_sem,ya,yb,az,av p1,av p2]<;>rfl
  .obtain ⟨f4,f5⟩:=adQ h s1 w1;obtain⟨g4,g5⟩:=adQ h s2 w2;unfold ah at f4 f5 g4 g5;generalize RT x1=t1 at*
   generalize RT x2=t2 at*
   generalize RT x3=t3 at*
   generalize RT x4=t4 at*
   generalize RT o1=u1 at*
   generalize RT o2=u2 at*
   generalize RT c1=v1 at*
   generalize RT c2=v2 at*
   generalize RT y1=q1 at*
   generalize RT y2=q2 at*
   generalize RT y3=q3 at*
   generalize RT y4=q4 at*
   have h2:k=0\/k=1:=by omega
   rcases h2 with rfl | rfl
   .simp only [go_sem,ya,CG,CO,Ag,show ((0:Nat):Int)<2 by decide,agb,sr,yd,yg,ph,Ea,f1,ec,eo,f2,f3,f4,f5,yN];refine⟨_,rfl,?_⟩;simp only[go_sem,ya,yb,az,av p1,av p2]<;>rfl
   .simp only [go_sem,ya,yb,CG,CO,Ag,show ((1:Nat):Int)<2 by decide,agc,dY,yg,yX,ph,Ea,g1,ec,eo,g2,g3,g4,g5,yN];refine⟨_,rfl,?_⟩;simp only[go_sem,ya,yb,az,av p1,av p2]<;>rfl
 .right
  have qM:k=2:=by omega
  subst qM;simp only[go_sem,ya,CG,CO,show ¬((2:Nat):Int)<2 by decide];exact⟨_,_,rfl,by simp,_,_,rfl,rfl,by simp only[go_sem,ya]<;>rfl⟩
def aBN(a b c d:List Nat):kO (.ag [2,2,2,2]) (.agg [.str a,.str b,.str c,.str d]) (.agg [.str a,.str b,.str c,.str d])=F5 ydo:=by
 show dc [2,2,2,2] [.str a,.str b,.str c,.str d] [.str a,.str b,.str c,.str d]=_
 simp only[dc,OK rfl];rfl
structure So(P:aF)(L:Lib):Prop where
 u:Ni P L
 e:Sl P L
 m:Rm P L
 QP:Has P L 219 P9
 Xk:Has P L 639 Qg
 Q3:Has P L 647 Lz
 aBO:Has P L 762 Wm
 Mb:Has P L 766 LJ
 ayQ:ah P L 637 [] (.bool ydo)
def aBP:([50]:List Nat)=RT (((4:Int):Rat)/2):=by
 rw[<-av3]
 congr 1
 have h4:((4:Int):Rat)=4:=rfl;rw[h4];grind
def aBQ:([53,47,50]:List Nat)=RT (((5:Int):Rat)/2):=by decide+kernel
def aBR:([48]:List Nat)=RT (((0:Int):Rat)/2):=by
 have h0:((0:Int):Rat)/2=0:=by
  have h0:((0:Int):Rat)=0:=rfl;rw[h0];grind
 rw[h0];rfl
def ag4(z:Rat)(p:Nat->Nat->Rat)(e:Rat)(n:Nat):∃a b c d,(if z=0 then Cc else D6 p e n)=[.str a,.str b,.str c,.str d]:=by
 by_cases h:z=0
 .rw [yz h];exact⟨_,_,_,_,rfl⟩
 .rw [yp h];exact⟨_,_,_,_,rfl⟩
def agd{a b:Rat}(ka:Hq 160 a)(kb:Hq 160 b):R5 [(RT a,RT b)]=0:=by
 unfold R5;rw[yp (by simp)];show bF [bF [cI (RT a),cI (RT b)]]=0
 rw[KN ka (by decide),KN kb (by decide)];rfl
def ake(h:So P L){sd:Nat}{cv pv:AV}{cl pl:List Nat}(hsd:sd<256)(lX:zj cv cl)(nB:zj pv pl):ah P L 762 [.int .u8 (sd:Int),cv,pv] (.bool ydo):=by
 have ea:=h.ayQ;obtain⟨n,hn⟩:∃n,n=2+sd%3:=⟨_,rfl⟩;have zP:n<=4:=by have:=xD sd (show 0<3 by decide);omega
 have cE:2<=n:=by omega
 have key:=awO (P:=P) (L:=L) aBH lX nB zP;have se:jW (.toInt .i64) (.int .u8 (sd:Int))=F5 (aa sd):=by
  show F5 (AV.int .i64 (IntKind.wrap .i64 (sd:Int)))=_
  rw[wrap64 (by omega) (by omega)]
 have m3:((sd:Int)).tmod 3=((sd%3:Nat):Int):=(yac sd 3).symm;have w1:IntKind.wrap .i64 ((sd%3:Nat):Int)=((sd%3:Nat):Int):=wrap64 (by omega) (by omega);have w2:IntKind.wrap .i64 (2+((sd%3:Nat):Int))=(n:Int):=by rw[wrap64 (by omega) (by omega),hn];omega
 have iH:=lX.1.pu;have iI:=nB.1.pu;have fz:=zi;have p3:(3:Int)≠0:=by decide
 have mD:∀(tm:Env) (r:List (Nat×Nat×X)),fJ tm [AV.int .i64 0,.int .i64 0,.int .i64 0] 0 1 [.int .i64 1] r=fill tm [.int .i64 1,.int .i64 0,.int .i64 0] r:=fun tm r=>by rw[zZ (by simp) rfl];rfl
 have jn:∀(tm:Env) (r:List (Nat×Nat×X)),fJ tm [AV.int .i64 1,.int .i64 0,.int .i64 0] 1 1 [.int .i64 1] r=fill tm [.int .i64 1,.int .i64 1,.int .i64 0] r:=fun tm r=>by rw[zZ (by simp) rfl];rfl
 have Si:∀(tm:Env) (z:Int) (r:List (Nat×Nat×X)),fJ tm [AV.int .i64 1,.int .i64 1,.int .i64 0] 2 1 [.int .i64 z] r=fill tm [.int .i64 1,.int .i64 1,.int .i64 z] r:=fun tm z r=>by rw[zZ (by simp) rfl];rfl
 have Q5:∀(hp:Hp) (ct id:Nat) (a b c:Int),gO hp ct id 0 3 [AV.int .i64 a,.int .i64 b,.int .i64 c] (F5 (.cells ydo ydo ydo 3 [AV.int .i64 0,.int .i64 0,.int .i64 0]))=F5 (.aw [],aU hp id (.cells ydo ydo ydo 3 [AV.int .i64 a,.int .i64 b,.int .i64 c]),ct):=fun _ _ _ _ _ _=>rfl
 have Sm:∀ct,oX ct 3 [AV.int .i64 0,.int .i64 0,.int .i64 0]=F5 (.ptr ct 0,.cells ydo ydo ydo 3 [AV.int .i64 0,.int .i64 0,.int .i64 0]):=fun _=>rfl
 have aR:∀(hp:Hp) (ct id:Nat) (a b c d:List Nat),gO hp ct id 0 4 [AV.str a,.str b,.str c,.str d] (F5 (.cells ydo ydo ydo 4 [AV.str [],.str [],.str [],.str []]))=F5 (.aw [],aU hp id (.cells ydo ydo ydo 4 [AV.str a,.str b,.str c,.str d]),ct):=fun _ _ _ _ _ _ _=>rfl
 have Je:∀ct,oX ct 4 [AV.str [],.str [],.str [],.str []]=F5 (.ptr ct 0,.cells ydo ydo ydo 4 [AV.str [],.str [],.str [],.str []]):=fun _=>rfl
 have Ji:∀a b c d:List Nat,fU 4 ydo [AV.str a,.str b,.str c,.str d]=F5 (.agg [.str a,.str b,.str c,.str d]):=fun _ _ _ _=>rfl
 have Sj:∀(tm:Env) (a b:List Nat) (r:List (Nat×Nat×X)),fJ tm [AV.str [],.str [],.str [],.str []] 0 2 [.str a,.str b] r=fill tm [.str a,.str b,.str [],.str []] r:=fun tm a b r=>by
  rw[nI (by rfl) (by simp) rfl];rfl
 have Sk:∀(tm:Env) (a b c d:List Nat) (r:List (Nat×Nat×X)),fJ tm [AV.str a,.str b,.str [],.str []] 2 2 [.str c,.str d] r=fill tm [.str a,.str b,.str c,.str d] r:=fun tm a b c d r=>by
  rw[nI (by rfl) (by simp) rfl];rfl
 have sr:∀(a:AV) (r:List AV),rG 2 1 0 (.bt (a::r))=F5 (.bt (a::r)):=fun _ _=>rfl
 have dY:∀(a b:AV) (r:List AV),rG 2 1 1 (.bt (a::b::r))=F5 (.bt (b::r)):=fun _ _ _=>rfl
 have ahP:∀a b:List Nat,cellsOf (.agg [AV.str a,.str b])=[.str a,.str b]:=fun _ _=>rfl
 have iC:=isC cl n;have iN:=isN cl pl n;have vC:=hvC lX.2 n;have vN:=hvN (pl:=pl) lX.2 n;have Fu:=adL (φ:=fb) (cl:=cl) (n:=n) (j:=n);have Mg:=adM (ψ:=hb) (cl:=cl) (pl:=pl) (n:=n) (j:=n);have zC:=fun (hp:Hp)=>kG (hp:=hp) (sz:=1) (k:=n) (cs:=lD fb cl n n) ydp (by rw[Fu,yj]) (by decide)
 have zN:=fun (hp:Hp)=>kG (hp:=hp) (sz:=1) (k:=n) (cs:=ml hb cl pl n n) ydp (by rw[Mg,yj]) (by decide)
 obtain⟨l1,l2,l3⟩:=U6 vC zP;obtain⟨x,ex,ix,sx⟩:=aBA (P:=P) (L:=L) h.Xk iC (by rw[vC.ok.len];omega) l2;have t2:=U7 h.u ix vC zP cE (E:=4) (by decide) aBP (by decide);have t5:=U7 h.u ix vC zP cE (E:=5) (by decide) aBQ (by decide);have t0:=U7 h.u ix vC zP cE (E:=0) (by decide) aBR (by decide);obtain⟨wc,ec,zQ⟩:=aeD h.u.toCtd ix vC zP cE;obtain⟨wo,eo,F3⟩:=aeD h.u.toCtd iN vN zP cE;obtain⟨q1,q2⟩:=aBM vC;rw[q1] at t0;have hF:∀r,r=lD fb cl n n->r≠[]:=fun r hr q=>by rw[q] at hr;rw[<-hr] at Fu;simp at Fu;omega
 obtain⟨x0,X,hX⟩:∃x0 X,lD fb cl n n=x0::X:=by
  cases hh:lD fb cl n n with
  | nil=>rw[hh] at Fu;simp at Fu;omega
  | cons a b=>exact⟨a,b,rfl⟩
 obtain⟨y0,Y,hY⟩:∃y0 Y,ml hb cl pl n n=y0::Y:=by
  cases hh:ml hb cl pl n n with
  | nil=>rw[hh] at Mg;simp at Mg;omega
  | cons a b=>exact⟨a,b,rfl⟩
 have hX1:X.length+1=n:=by rw[hX] at Fu;simpa using Fu
 have hY1:Y.length+1=n:=by rw[hY] at Mg;simpa using Mg
 have kR:lD fb cl n 0=[]:=rfl;have iV:ml hb cl pl n 0=[]:=rfl;unfold ah at ea ex t2 t5 t0 ec eo;unfold ah;rw[aG h.aBO];simp only[go_sem,ya,yb,Wm,se,eL _ _ _ p3,m3,w2,mD,jn,Si,Sm,Q5];generalize hq:D P L (.loop _ EG) _=q;obtain⟨ex1,st,rfl,tm,ct,rfl,rfl,og⟩:=bQ hq (key n) ⟨0,by omega,by
  rw[kR,iV]
  simp only[go_sem,ya,yb,az,EL,eP,yF,yH,rr,da,av iH,av iI]<;>rfl⟩
 have dh:∀c,bE [8,9,10] ⟨tm,eP n (lD fb cl n n) (ml hb cl pl n n),c,0⟩=⟨[(8,.ptr 0 0),(9,.ay 1 0 n),(10,.ay 2 0 n)],[(2,.cells ydo ydo ydp 1 (ml hb cl pl n n)),(1,.cells ydo ydo ydp 1 (lD fb cl n n)),(0,da 1 1 n)],3,0⟩:=fun c=>by
  rw[az,og,hX,hY];simp only[rr,hX1,hY1];simp only[go_sem,ya,yb,eP,yH,da]<;>rfl
 by_cases hA:mo (bC cl n) n=0
 .rw [yz hA] at ec;rw[yz hA,yz hA] at t0;obtain⟨a1,a2,a3,a4,ua⟩:=ag4 (fZ (bC cl n) n (((4:Int):Rat)/2)) (cr (bC cl n) 1 n 0) (((4:Int):Rat)/2) n;obtain⟨b1,b2,b3,b4,ub⟩:=ag4 (fZ (bC cl n) n (((5:Int):Rat)/2)) (cr (bC cl n) 1 n 0) (((5:Int):Rat)/2) n;rw[ua] at t2;rw[ub] at t5;generalize (if fZ (bC cl n) n (((4:Int):Rat)/2)=0 then (6:Int) else 0)=z2 at*
  generalize (if fZ (bC cl n) n (((5:Int):Rat)/2)=0 then (6:Int) else 0)=z5 at*
  simp only[go_sem,ya,dh];simp only[go_sem,ya,yb,da,yg,jP,fz,Sm,Q5,zC,ex,sx,ix.ai,t2,Je,aR,t5,t0,Cc,ec,zQ.bJ,show ¬(6:Int)=0 by decide,yN,yP,ea]
 .have Jj:=PL vC zP;rw[yp hA] at ec zQ;rw[yp hA,yp hA] at t0;unfold D6 at t0;rw[q2,q2,q2,q2] at t0;have PM:=ahF (P:=P) (L:=L) h.QP (RT (ib (bC cl n) n ydp));have PN:=ahF (P:=P) (L:=L) h.QP (RT (ib (bC cl n) n ydo));have eq4:=aBN (RT (ib (bC cl n) n ydp)) (RT (ib (bC cl n) n ydp)) (RT (ib (bC cl n) n ydo)) (RT (ib (bC cl n) n ydo));have Q6:=ahN h.m h.Q3 h.Mb zQ (by simp) (fun p hp=>by
   rw[wR.1 hp];have r1:=qc (Jj ydp);have r2:=qc (Jj ydo)
   exact⟨by show (RT _).length<=_;omega,by show (RT _).length<=_;omega⟩)
  rw[agd (Jj ydp) (Jj ydo)] at Q6;have lwc:∀hp,iM hp 1 wc=F5 (.int .i64 1):=fun hp=>zQ.len (hp:=hp)
  obtain⟨rc,xc⟩:=zQ.bj (i:=0) (by simp);simp only[wq] at xc;have heb:Hn ydo (F5 ydo)=F5 (AV.bool ydp):=rfl;unfold Nc at PM PN;unfold ah at PM PN Q6;by_cases hB:fZ (bC cl n) n (((4:Int):Rat)/2)=0
  .have hB5:fZ (bC cl n) n (((5:Int):Rat)/2)=0:=Classical.byContradiction fun q=>(adO vC q).1 hB
   rw[yz hB,yz hB] at t2;rw[yz hB5,yz hB5] at t5;generalize RT (ib (bC cl n) n ydp)=r1 at*
   generalize RT (ib (bC cl n) n ydo)=r2 at*
   simp only[go_sem,ya,dh];simp only[go_sem,ya,yb,da,yg,jP,fz,Sm,Q5,zC,ex,sx,ix.ai,t2,Je,aR,t5,t0,Cc,ec,zQ.bJ,zQ.ai,lwc,Q6,Ji,xc,sr,dY,PM,PN,ahP,Sj,Sk,eq4,heb,show ¬(6:Int)=0 by decide,yN,yP,ea]
  .obtain ⟨f0,hs⟩:=aeF vC 4 (by decide) vN (fun t ht=>by
    obtain⟨b1,b2⟩:=awS (cl:=cl) (pl:=pl) n t
    have:=(Ap vC ht).2.1
    exact⟨b1,by omega⟩) hB
   obtain⟨_,po⟩:=aeF vC 4 (by decide) vC (fun t ht=>by
    have:=(Ap vC ht).2.1
    omega) hB
   have Jk:=PL vN zP;have kd:=VM vC zP 4 (by decide);have FF:mo (bN cl pl n) n≠0:=fun q=>by rw[q] at f0;exact absurd f0 (by decide)
   rw[yp FF] at eo F3;rw[yp hB,yp hB] at t2;have s1:HJ (cW (cr (bC cl n) 1 n 0) (((4:Int):Rat)/2) n ydp ydp) (cW (cr (bC cl n) 1 n 0) (((4:Int):Rat)/2) n ydp ydo) (ib (bN cl pl n) n ydp) (ib (bC cl n) n ydp):=⟨kd _ _,kd _ _,Jk _,Jj _,(hs ydp).1,(hs ydp).2,(po ydp).1,(po ydp).2⟩;have s2:HJ (cW (cr (bC cl n) 1 n 0) (((4:Int):Rat)/2) n ydo ydp) (cW (cr (bC cl n) 1 n 0) (((4:Int):Rat)/2) n ydo ydo) (ib (bN cl pl n) n ydo) (ib (bC cl n) n ydo):=⟨kd _ _,kd _ _,Jk _,Jj _,(hs ydo).1,(hs ydo).2,(po ydo).1,(po ydo).2⟩;have VO:=ahN h.m h.Q3 h.Mb F3 (by simp) (fun p hp=>by
    rw[wR.1 hp];have r1:=qc (Jk ydp);have r2:=qc (Jk ydo)
    exact⟨by show (RT _).length<=_;omega,by show (RT _).length<=_;omega⟩)
   rw[agd (Jk ydp) (Jk ydo)] at VO;have lwo:∀hp,iM hp 1 wo=F5 (.int .i64 1):=fun hp=>F3.len (hp:=hp)
   unfold D6 at t2;unfold ah at VO;obtain⟨z5,hz5,b1,b2,b3,b4,u5,hw⟩:∃z5:Int,z5=(if fZ (bC cl n) n (((5:Int):Rat)/2)=0 then (6:Int) else 0)/\∃b1 b2 b3 b4,(if fZ (bC cl n) n (((5:Int):Rat)/2)=0 then Cc else D6 (cr (bC cl n) 1 n 0) (((5:Int):Rat)/2) n)=[.str b1,.str b2,.str b3,.str b4]/\(z5=6\/(z5=0/\∃y1 y2 y3 y4,b1=RT y1/\b2=RT y2/\b3=RT y3/\b4=RT y4/\Mf (cW (cr (bC cl n) 1 n 0) (((4:Int):Rat)/2) n ydp ydp) (cW (cr (bC cl n) 1 n 0) (((4:Int):Rat)/2) n ydp ydo) y1 y2/\Mf (cW (cr (bC cl n) 1 n 0) (((4:Int):Rat)/2) n ydo ydp) (cW (cr (bC cl n) 1 n 0) (((4:Int):Rat)/2) n ydo ydo) y3 y4)):=by
    by_cases h5:fZ (bC cl n) n (((5:Int):Rat)/2)=0
    .exact ⟨6,by rw[yz h5],_,_,_,_,by rw[yz h5];rfl,.inl rfl⟩
    .obtain ⟨_,w⟩:=adO vC h5;have k5:=VM vC zP 5 (by decide);exact⟨0,by rw[yp h5],_,_,_,_,by rw[yp h5];rfl,.inr ⟨rfl,_,_,_,_,rfl,rfl,rfl,rfl,⟨k5 _ _,k5 _ _,(w ydp).1,(w ydp).2⟩,⟨k5 _ _,k5 _ _,(w ydo).1,(w ydo).2⟩⟩⟩
   rw[u5,<-hz5] at t5;have aBS:=awT h.e zQ F3 s1 s2 hw;generalize cW (cr (bC cl n) 1 n 0) (((4:Int):Rat)/2) n ydp ydp=x1 at*
   generalize cW (cr (bC cl n) 1 n 0) (((4:Int):Rat)/2) n ydp ydo=x2 at*
   generalize cW (cr (bC cl n) 1 n 0) (((4:Int):Rat)/2) n ydo ydp=x3 at*
   generalize cW (cr (bC cl n) 1 n 0) (((4:Int):Rat)/2) n ydo ydo=x4 at*
   generalize RT (ib (bC cl n) n ydp)=r1 at*
   generalize RT (ib (bC cl n) n ydo)=r2 at*
   generalize RT (ib (bN cl pl n) n ydp)=r3 at*
   generalize RT (ib (bN cl pl n) n ydo)=r4 at*
   generalize RT x1=t1 at*
   generalize RT x2=t2' at*
   generalize RT x3=t3 at*
   generalize RT x4=t4 at*
   have pwc:=zQ.pu;have pwo:=F3.pu;simp only[go_sem,ya,dh];simp only[go_sem,ya,yb,da,yg,jP,fz,Sm,Q5,zC,zN,ex,sx,ix.ai,t2,Je,aR,t5,t0,ec,eo,zQ.bJ,zQ.ai,F3.bJ,F3.ai,lwc,lwo,Q6,VO,Ji,xc,sr,dY,PM,PN,ahP,Sj,Sk,eq4,heb,yN];generalize DI:D P L (.loop _ CG) _=q2';obtain⟨ex2,st2,rfl,lQ,ct2,rfl,rfl,aBT⟩:=bQ DI (aBS 2) ⟨0,by omega,by
    simp only[go_sem,ya,yb,az,CO,Ag,av pwc,av pwo]<;>rfl⟩
   have G7:∀c,bE [21] ⟨lQ,Ag t1 t2' t3 t4 b1 b2 b3 b4,c,0⟩=⟨[(21,aa z5)],[],0,0⟩:=fun c=>by
    rw[az,aBT];simp only[go_sem,Ag]<;>rfl
   rcases hw with rfl | ⟨rfl,_⟩
   .simp only [go_sem,ya,G7,show ¬(6:Int)=0 by decide,yN,yP,ea]
   .simp only [go_sem,ya,G7,yN,ea]
abbrev Jn:List Ty:=[.int .u8,Xl,Xl]
def akb{P:aF}{L:Lib}(h:So P L){ls:List (List AV)}(hs:jB rb Jn ls):ah P L 762 (K6 Jn ls) (.bool ydo):=by
 obtain⟨_,_,_,rfl,⟨z,rfl,hz⟩,h2,h3⟩:=awa hs;obtain⟨n,rfl,hn⟩:=aew hz;obtain⟨v,m,rfl,hv⟩:=adE h2;obtain⟨w,k,rfl,hw⟩:=adE h3;exact ake h hn hv hw
namespace J2
open Go Go.Proofs
def T:List (Tr bn):=[.n 637 [.o 7 [] (.bool ydo)] .l .l]
def L0:VE.Lib:=O4 (O4 VE.aI 99 OJ) 753 HB
def L1:VE.Lib:=PW L0 T 1000
def nu:Nu VE.prog VE.aI:=by
 repeat' (first | rfl | constructor)
def lw:So VE.prog L1:=by
 repeat' (first | rfl | constructor)
section
variable {W:World}{m:Int}(hm:W.cell? ⟨4,0,none⟩=F5 (.int .i64 m))(ht:Go.Lib.TabIs Tryz.prog W "internal/strconv.uint64pow10" .u64 Go.Lib.pow10Tab)
include hm ht
theorem linked:iK ((J1.O W).zY L1):=by
 have hO:=J1.aqJ hm ht;have hs:=ano hO nu rfl rfl rfl ⟨rfl,rfl,rfl⟩ (fn:=Tryz.f168) (c:=De) Tryz.func168 rfl rfl trivial apy;have hT:iy (J1.O W) T:=iy.cons (Tr.kX (mY.one (lY.holds hO rfl rfl)) Tr.jU Tr.jU) iy.nil;have h1:=aa8 hO hs;have h2:=aa8 h1 (asl (O:=(J1.O W).zY _) (n:=753) (fun _ _=>JK Tryz.func148 rfl (by decide)) Tryz.aAP);exact ac3 h2 hT 1000
theorem law{ls:List (List AV)}(hs:jB rb Jn ls):eD (J1.O W) 762 (K6 Jn ls) (.bool ydo):=by
 obtain⟨k,hk⟩:=ad0 (akb lw hs);exact sound (linked hm ht) hk
end
end J2
end VE
