import Derived.Test.YtflgmingejdfnaaGreatDoorXat
import Derived.Test.YtflgmingejdfnaaGreatDoorXar
import Derived.Test.YtflgmingejdfnaaGreatDoorXap
import Derived.Test.YtflgmingejdfnaaGreatDoorXal
import Derived.Test.YtflgmingejdfnaaGreatDoorXaq
set_option linter.all false
set_option maxRecDepth 100000
open Bool renaming and_self→vU,false_eq_true→yt
open Int renaming add_zero→wL,cast_ofNat_Int→tE,reduceEq→wK,tdiv_eq_ediv_of_nonneg→xu,tmod_eq_emod_of_nonneg→yT
open List renaming append_assoc→xg,append_nil→xI,cons_append→yH,length_cons→yz,length_nil→y5,map_append→xG,map_cons→yV,mem_cons→wc,nil_append→xE,not_mem_nil→tO,range→yR,range_succ→uD,replicate→yx
open Nat renaming beq→yq,beq_refl→y7,mul_one→yh,reduceAdd→yc,reduceEqDiff→ya,reduceLT→yj,reduceLeDiff→yd,zero_add→yy
namespace VE
section
open Go (IntKind)
def gW (v:AV) (l:List (List Nat)):Prop:=bU v (l.map AV.str)
section
variable {v:AV} {l:List (List Nat)}
def gW.len (h:gW v l) {hp:Hp}:eY hp 1 v=some (.int .i64 (l.length:Nat)):=by
 have:=bU.len (hp:=hp) h
 grind
def gW.pu (h:gW v l):aG v=true:=bU.pu h
def gW.aE (h:gW v l) (n:Nat) {hp:Hp}:freeze (n+1) hp v=some (v,hp):=bU.aE h n
def gW.shut (h:gW v l):VE.shut v=v:=bU.shut h
def gW.bg (h:gW v l):VE.bg v=v:=bU.bg h
def gW.bF (h:gW v l) {hp:Hp}:result hp v=some v:=bU.bF h
def gW.one (h:gW v l):cg v=true:=bU.one h
def gW.cells (h:gW v l):cellsOf v=[v]:=bU.cells h
def gW.a7 (h:gW v l) {i:Nat} (hi:i<l.length):fh 1 i v=some (.aO (.str l[i]::(l.map AV.str).drop (i+1))):=by
 have:=bU.a7 h (i:=i) (by simpa using hi)
 grind
end
section
variable {P:aA} {L:Lib}
end
end
section
open Go (IntKind)
open Classical in
noncomputable def aih (s:List Nat):Rat:=if h:gV s=0 then Classical.choose (agz h) else 0
noncomputable def UM (s:List Nat) (least:Int):Int:=if gV s=0 then (if li (aih s).num<least then 3 else 0) else gV s
instance (k:Nat) (z:Int):Decidable (Bd k z):=inferInstanceAs (Decidable (z.natAbs<2^k))
structure S0 (P:aA) (L:Lib):Prop extends Rm P L where
 h42:Has P L 42 Ve
 anI:Has P L 261 TL
 anJ:Has P L 306 TZ
 anK:Has P L 307 Ua
 anL:Has P L 308 Ub
 anM:Has P L 314 Uc
section
variable {P:aA} {L:Lib}
end
end
section
open Go (IntKind)
def Wm (v:AV) (a b:Rat):Prop:=∃s1 w1 s2 w2 s3 w3 s4 w4,v= .agg [aa s1,w1,aa s2,w2,aa s3,w3,aa s4,w4]/\nc s1 w1 a.num/\nc s2 w2 (a.den:Int)/\nc s3 w3 b.num/\nc s4 w4 (b.den:Int)
section
variable {s1 s2 s3 s4:Int} {w1 w2 w3 w4:AV} {l1 l2 l3 l4:List Nat}
def aii (h1:dt w1 l1) (h2:dt w2 l2) (h3:dt w3 l3) (h4:dt w4 l4) (hp:Hp) (ct id:Nat) (a b c d e f g h:AV):iI hp ct id 0 8 [.int .i64 s1,w1,.int .i64 s2,w2,.int .i64 s3,w3,.int .i64 s4,w4] (some (.cells true true true 8 [a,b,c,d,e,f,g,h]))=some (.ay [],aW hp id (.cells true true true 8 [.int .i64 s1,w1,.int .i64 s2,w2,.int .i64 s3,w3,.int .i64 s4,w4]),ct):=by
 rw [zp (by rfl) (by simp) (by simp [bT,h1.one,h2.one,h3.one,h4.one,Ek])];simp [ax,h1.pu,h2.pu,h3.pu,h4.pu,over,Ew]
def aij (h1:dt w1 l1) (h2:dt w2 l2) (h3:dt w3 l3) (h4:dt w4 l4) (hp:Hp):result hp (.agg [aa s1,w1,aa s2,w2,aa s3,w3,aa s4,w4])=some (.agg [aa s1,w1,aa s2,w2,aa s3,w3,aa s4,w4]):=by
 rcases h1 with ⟨rfl,_⟩ | ⟨e,rfl⟩<;>rcases h2 with ⟨rfl,_⟩ | ⟨e',rfl⟩<;>rcases h3 with ⟨rfl,_⟩ | ⟨e,rfl⟩<;>rcases h4 with ⟨rfl,_⟩ | ⟨e',rfl⟩<;>rfl
end
structure Sp (P:aA) (L:Lib):Prop extends Ck P L where
 eD:Has P L 31 om
 p6:Has P L 33 CM
 h53:Has P L 53 Vf
 h54:Has P L 54 Vg
 h60:Has P L 60 Vk
 h61:Has P L 61 Vm
 h63:Has P L 63 Vo
 h64:Has P L 64 Vp
 h65:Has P L 65 Vq
 h68:Has P L 68 Vt
 h75:Has P L 75 Vv
 anN:Has P L 112 Th
 anO:Has P L 113 Ti
 anP:Has P L 114 Tj
section
variable {P:aA} {L:Lib}
def ZR (a:List Nat):dI a a=true:=adS rfl
end
end
section
open Go (IntKind)
structure F4 (c1 c2 c3 c4:AV):Prop where
 aE:∀(n:Nat) (hp:Hp),freeze (n+20) hp (.agg [c1,c2,c3,c4])=some (.agg [c1,c2,c3,c4],hp)
 bF:∀hp:Hp,result hp (.agg [c1,c2,c3,c4])=some (.agg [c1,c2,c3,c4])
 st:∀(hp:Hp) (ct id:Nat) (a b c d:AV),iI hp ct id 0 4 [c1,c2,c3,c4] (some (.cells true true true 4 [a,b,c,d]))=some (.ay [],aW hp id (.cells true true true 4 [c1,c2,c3,c4]),ct)
 bx:∀ct:Nat,px ct 4 [c1,c2,c3,c4]=some (.ptr ct 0,.cells true true true 4 [c1,c2,c3,c4])
 o1:cg c1=true
 o2:cg c2=true
 o3:cg c3=true
 o4:cg c4=true
 pu:aG (.agg [c1,c2,c3,c4])=true
 z1:∀(n:Nat) (hp:Hp),freeze (n+1) hp c1=some (c1,hp)
 z2:∀(n:Nat) (hp:Hp),freeze (n+1) hp c2=some (c2,hp)
 z3:∀(n:Nat) (hp:Hp),freeze (n+1) hp c3=some (c3,hp)
 z4:∀(n:Nat) (hp:Hp),freeze (n+1) hp c4=some (c4,hp)
structure F8 (c1 c2 c3 c4 c5 c6 c7 c8:AV):Prop where
 aE:∀(n:Nat) (hp:Hp),freeze (n+20) hp (.agg [c1,c2,c3,c4,c5,c6,c7,c8])=some (.agg [c1,c2,c3,c4,c5,c6,c7,c8],hp)
 bF:∀hp:Hp,result hp (.agg [c1,c2,c3,c4,c5,c6,c7,c8])=some (.agg [c1,c2,c3,c4,c5,c6,c7,c8])
 st:∀(hp:Hp) (ct id:Nat) (a b c d e f g h:AV),iI hp ct id 0 8 [c1,c2,c3,c4,c5,c6,c7,c8] (some (.cells true true true 8 [a,b,c,d,e,f,g,h]))=some (.ay [],aW hp id (.cells true true true 8 [c1,c2,c3,c4,c5,c6,c7,c8]),ct)
 bx:∀ct:Nat,px ct 8 [c1,c2,c3,c4,c5,c6,c7,c8]=some (.ptr ct 0,.cells true true true 8 [c1,c2,c3,c4,c5,c6,c7,c8])
def jc.gen {v:AV} {a:Rat} (h:jc v a):∃c1 c2 c3 c4,v= .agg [c1,c2,c3,c4]/\F4 c1 c2 c3 c4:=by
 obtain ⟨s1,w1,s2,w2,rfl,h1,h2⟩:=h;obtain ⟨l1,u1⟩:=h1.sf;obtain ⟨l2,u2⟩:=h2.sf;refine ⟨_,_,_,_,rfl,fun n hp=>?_,ah0 u1 u2,fun hp ct id a b c d=>ahZ u1 u2 hp ct id a b c d,fun ct=>by simp only [go_sem,yc,b9,u1.pu,u1.one,u2.pu,u2.one],rfl,u1.one,rfl,u2.one,by simp [aG,ax,u1.pu,u2.pu],fun _ _=>rfl,fun n _=>u1.aE n,fun _ _=>rfl,fun n _=>u2.aE n⟩;exact ef _ _ (by simp only [go_sem,u1.aE,u2.aE])
def Wm.gen {v:AV} {a b:Rat} (h:Wm v a b):∃c1 c2 c3 c4 c5 c6 c7 c8,v= .agg [c1,c2,c3,c4,c5,c6,c7,c8]/\F8 c1 c2 c3 c4 c5 c6 c7 c8:=by
 obtain ⟨s1,w1,s2,w2,s3,w3,s4,w4,rfl,h1,h2,h3,h4⟩:=h;obtain ⟨l1,u1⟩:=h1.sf;obtain ⟨l2,u2⟩:=h2.sf;obtain ⟨l3,u3⟩:=h3.sf;obtain ⟨l4,u4⟩:=h4.sf;refine ⟨_,_,_,_,_,_,_,_,rfl,fun n hp=>?_,aij u1 u2 u3 u4,fun hp ct id a b c d e f g h=>aii u1 u2 u3 u4 hp ct id a b c d e f g h,fun ct=>by simp only [go_sem,yc,b9,u1.pu,u1.one,u2.pu,u2.one,u3.pu,u3.one,u4.pu,u4.one]⟩;exact ef _ _ (by simp only [go_sem,u1.aE,u2.aE,u3.aE,u4.aE])
section
variable {P:aA} {L:Lib}
end
end
section
open Go (IntKind)
def QL:List AV->List Rat->Prop
 | [],[]=>True
 | a::b::c::d::r,x::l=>jc (.agg [a,b,c,d]) x/\QL r l
 | _,_=>False
def QL.nil:QL [] []:=trivial
def QL.cons {a b c d:AV} {r:List AV} {x:Rat} {l:List Rat} (h1:jc (.agg [a,b,c,d]) x) (h2:QL r l):QL (a::b::c::d::r) (x::l):=⟨h1,h2⟩
def QL.inv {cs:List AV} {x:Rat} {l:List Rat} (h:QL cs (x::l)):∃a b c d r,cs=a::b::c::d::r/\jc (.agg [a,b,c,d]) x/\QL r l:=by
 match cs,h with
 | a::b::c::d::r,h=>exact ⟨a,b,c,d,r,rfl,h.1,h.2⟩
def QL.Co {cs:List AV} (h:QL cs []):cs=[]:=by
 match cs,h with
 | [],_=>rfl
 | [_],h=>exact h.elim
 | [_,_],h=>exact h.elim
 | [_,_,_],h=>exact h.elim
 | _::_::_::_::_,h=>exact h.elim
def QL.len:∀{l:List Rat} {cs:List AV},QL cs l->cs.length=l.length*4
 | [],_,h=>by rw [h.Co];rfl
 | x::l,cs,h=>by
  obtain ⟨a,b,c,d,r,rfl,_,h2⟩:=h.inv
  have:=h2.len
  grind
def F4.Ld {c1 c2 c3 c4:AV} (g:F4 c1 c2 c3 c4):aG c1=true/\aG c2=true/\aG c3=true/\aG c4=true:=by
 have:=g.pu
 simpa only [aG,ax,Bool.and_true,Bool.and_eq_true] using this
def jc.f4 {a b c d:AV} {x:Rat} (h:jc (.agg [a,b,c,d]) x):F4 a b c d:=by
 obtain ⟨_,_,_,_,e,g⟩:=h.gen
 grind
def QL.pu:∀{l:List Rat} {cs:List AV},QL cs l->ax cs=true
 | [],_,h=>by rw [h.Co];rfl
 | x::l,cs,h=>by
  obtain ⟨a,b,c,d,r,rfl,h1,h2⟩:=h.inv;obtain ⟨p1,p2,p3,p4⟩:=h1.f4.Ld;simp only [ax,p1,p2,p3,p4,h2.pu,vU]
def QL.one:∀{l:List Rat} {cs:List AV},QL cs l->bT cs=true
 | [],_,h=>by rw [h.Co];rfl
 | x::l,cs,h=>by
  obtain ⟨a,b,c,d,r,rfl,h1,h2⟩:=h.inv;have g:=h1.f4;simp only [bT,g.o1,g.o2,g.o3,g.o4,h2.one,vU]
def QL.cC:∀{l m:List Rat} {cs ds:List AV},QL cs l->QL ds m->QL (cs++ds) (l++m)
 | [],m,cs,ds,h,k=>by rw [h.Co];exact k
 | x::l,m,cs,ds,h,k=>by
  obtain ⟨a,b,c,d,r,rfl,h1,h2⟩:=h.inv;exact ⟨h1,h2.cC k⟩
def QL.snoc {l:List Rat} {x:Rat} {cs:List AV} {a b c d:AV} (h:QL cs l) (k:jc (.agg [a,b,c,d]) x):QL (cs++[a,b,c,d]) (l++[x]):=h.cC ⟨k,trivial⟩
def QL.get:∀{l:List Rat} {cs:List AV} {i:Nat},QL cs l->∀(hi:i<l.length),∃a b c d r,cs.drop (i*4)=a::b::c::d::r/\jc (.agg [a,b,c,d]) l[i]
 | [],_,i,_,hi=>absurd hi (Nat.not_lt_zero i)
 | x::l,cs,0,h,hi=>by
  obtain ⟨a,b,c,d,r,rfl,h1,_⟩:=h.inv
  grind
 | x::l,cs,i+1,h,hi=>by
  obtain ⟨a,b,c,d,r,rfl,_,h2⟩:=h.inv;obtain ⟨a',b',c',d',r',e,k⟩:=h2.get (i:=i) (by simpa using hi)
  grind
def gO (v:AV) (l:List Rat):Prop:=(v= .ab/\l=[])\/∃e cs,v= .aC e l.length cs/\QL cs l
section
variable {v:AV} {l:List Rat} {hp:Hp}
def gO.len (h:gO v l) {hp:Hp}:eY hp 1 v=some (.int .i64 (l.length:Nat)):=by
 rcases h with ⟨rfl,rfl⟩ | ⟨e,cs,rfl,h⟩<;>rfl
def gO.pu (h:gO v l):aG v=true:=by
 rcases h with ⟨rfl,rfl⟩ | ⟨e,cs,rfl,h⟩<;>rfl
def gO.aE (h:gO v l) (n:Nat) {hp:Hp}:freeze (n+1) hp v=some (v,hp):=by
 rcases h with ⟨rfl,rfl⟩ | ⟨e,cs,rfl,h⟩<;>rfl
def gO.shut (h:gO v l):shut v=v:=by
 rcases h with ⟨rfl,rfl⟩ | ⟨e,cs,rfl,h⟩<;>rfl
def gO.bg (h:gO v l):bg v=v:=by
 rcases h with ⟨rfl,rfl⟩ | ⟨e,cs,rfl,h⟩<;>rfl
def gO.bF (h:gO v l) {hp:Hp}:result hp v=some v:=by
 rcases h with ⟨rfl,rfl⟩ | ⟨e,cs,rfl,h⟩<;>rfl
def gO.one (h:gO v l):cg v=true:=by
 rcases h with ⟨rfl,rfl⟩ | ⟨e,cs,rfl,h⟩<;>rfl
def gO.cells (h:gO v l):cellsOf v=[v]:=by
 rcases h with ⟨rfl,rfl⟩ | ⟨e,cs,rfl,h⟩<;>rfl
def gO.a7 (h:gO v l) {i:Nat} (hi:i<l.length):∃a b c d r,fh 4 i v=some (.aO (a::b::c::d::r))/\jc (.agg [a,b,c,d]) l[i]:=by
 rcases h with ⟨rfl,rfl⟩ | ⟨e,cs,rfl,h⟩
 ·grind
 ·obtain ⟨a,b,c,d,r,e1,e2⟩:=h.get hi;refine ⟨a,b,c,d,r,?_,e2⟩;rw [Ej e _ hi,e1]
end
end
section
open Go (IntKind)
def SP (v:AV) (i j:Int) (f g:Rat):Prop:=∃c1 c2 c3 c4 d1 d2 d3 d4,v= .agg [aa i,aa j,c1,c2,c3,c4,d1,d2,d3,d4]/\jc (.agg [c1,c2,c3,c4]) f/\jc (.agg [d1,d2,d3,d4]) g
section
variable {P:aA} {L:Lib}
end
end
section
open Go (IntKind)
section
variable {tm:Env} {a b c d:AV} {r:List (Nat×Nat×X)} {x0 x1 x2 x3 x4 x5 x6 x7 x8 x9 xa xb xc xd xe xf:AV}
end
def PS:∀{l:List Rat} {cs:List AV},QL cs l->∀(n:Nat) (hp:Hp),bO (n+l.length*4+2) hp cs=some (cs,hp)
 | [],_,h,n,hp=>by rw [h.Co];rfl
 | x::l,cs,h,n,hp=>by
  obtain ⟨a,b,c,d,r,rfl,h1,h2⟩:=h.inv;have g:=h1.f4;have e:=PS h2 n hp;rw [show n+(x::l).length*4+2=n+l.length*4+2+1+1+1+1 by simp only [yz];omega];simp only [go_sem,g.z1,g.z2,g.z3,g.z4,e]
def QL.aE {l:List Rat} {cs:List AV} (h:QL cs l) {n:Nat} (hn:l.length*4+3<=n) (hp:Hp):freeze n hp (.agg cs)=some (.agg cs,hp):=by
 obtain ⟨m,rfl⟩:∃m,n=m+l.length*4+3:=⟨n-(l.length*4+3),by omega⟩;exact ef _ _ (PS h m hp)
def QL.bF {l:List Rat} {cs:List AV} (h:QL cs l) (hl:l.length<=200) (hp:Hp):result hp (.agg cs)=some (.agg cs):=by
 show (match freeze 1000 hp (.agg cs) with | some (v',_)=>some v' | none=>none)=_
 rw [h.aE (by omega)]
def SP.gen {v:AV} {i j:Int} {f g:Rat} (h:SP v i j f g):∃c1 c2 c3 c4 d1 d2 d3 d4,v= .agg [aa i,aa j,c1,c2,c3,c4,d1,d2,d3,d4]/\jc (.agg [c1,c2,c3,c4]) f/\jc (.agg [d1,d2,d3,d4]) g/\(∀ct:Nat,px ct 10 [aa i,aa j,c1,c2,c3,c4,d1,d2,d3,d4]=some (.ptr ct 0,.cells true true true 10 [aa i,aa j,c1,c2,c3,c4,d1,d2,d3,d4]))/\∀(n:Nat) (hp:Hp),freeze (n+20) hp (.agg [aa i,aa j,c1,c2,c3,c4,d1,d2,d3,d4])=some (.agg [aa i,aa j,c1,c2,c3,c4,d1,d2,d3,d4],hp):=by
 obtain ⟨c1,c2,c3,c4,d1,d2,d3,d4,rfl,hf,hg⟩:=h;have gf:=hf.f4;have gg:=hg.f4;obtain ⟨p11,p12,p13,p14⟩:=gf.Ld;obtain ⟨p21,p22,p23,p24⟩:=gg.Ld;refine ⟨c1,c2,c3,c4,d1,d2,d3,d4,rfl,hf,hg,fun ct=>?_,fun n hp=>ef _ _ (by simp only [go_sem,gf.z1,gf.z2,gf.z3,gf.z4,gg.z1,gg.z2,gg.z3,gg.z4])⟩;rw [b9 (by rfl) (by simp [bT,Ek,gf.o1,gf.o2,gf.o3,gf.o4,gg.o1,gg.o2,gg.o3,gg.o4])];simp [ax,Ew,p11,p12,p13,p14,p21,p22,p23,p24]
structure Vl (P:aA) (L:Lib):Prop extends VL P L where
 h55:Has P L 55 Vh
 h56:Has P L 56 Vi
 anQ:Has P L 103 S9
 anR:Has P L 104 Ta
 anS:Has P L 105 Tb
 anT:Has P L 106 Tc
 nV:Has P L 134 rH
 anU:Has P L 150 Tz
section
variable {P:aA} {L:Lib}
structure C8 (v:AV) (s:List (List Int)) (n:Nat):Prop where
 is:bK v s
 len:s.length=n
 pos:0<n
 le:n<=16
 row:∀i (hi:i<s.length),s[i].length=n
 sq:cy n (-1000) 1000 s=0
def C8.cell {v:AV} {s:List (List Int)} {n:Nat} (h:C8 v s n) (c r:Int):∃q rest Jh,fh 1 (r%n).toNat v=some (.aO (q::rest))/\fh 1 (c%n).toNat q=some (.aO (aa (bB s c r)::Jh)):=by
 obtain ⟨h1,h2,h3⟩:=Ie h.len h.pos h.row c r;obtain ⟨q,rest,ja,oz⟩:=h.is.a7 h1;exact ⟨q,rest,_,oz,by rw [h3];exact ja.a7 h2⟩
def C8.cI {v:AV} {s:List (List Int)} {n:Nat} (h:C8 v s n) (c r:Int): -1000<=bB s c r/\bB s c r<=1000:=Dn h.sq (by decide) c r
def HM {s:List (List Int)} {n:Nat} (hn:s.length=n) (c r c' r':Int) (hc:c%n=c'%n) (hr:r%n=r'%n):bB s c r=bB s c' r':=by
 unfold bB;rw [hn,hc,hr]
def QL.pE {cs:List AV} {l:List Rat} (h:QL cs l) {k n:Nat} (hl:l.length=n) (hk:k<n):∃a b c d,BF n 4 true k (.agg cs)=some (.agg [a,b,c,d])/\jc (.agg [a,b,c,d]) (l[k]'(by omega)):=by
 obtain ⟨a,b,c,d,r,e,hq⟩:=h.get (i:=k) (by omega);refine ⟨a,b,c,d,?_,hq⟩;show (bif Nat.blt k n then gB 4 true (cs.drop (k*4)) else none)=_
 rw [ahV hk,e];rfl
end
end
section
open Go (IntKind)
section
variable {P:aA} {L:Lib}
def Jm (tm:Env) (hp:Hp) (rs:List (Nat×Bool×Nat)) (q:ez):ez:=match q with | some (v,ai,aK)=>bif lE tm hp ai rs then some (v,ai,aK) else none | none=>none
def abU {f:bZ} {tm:Env} {hp:Hp} {ct:Nat} (rs:List (Nat×Bool×Nat)) (g:X) (xs:List X):aY P L f tm hp ct (.eX rs g xs)=Jm tm hp rs (cw P L f hp ct .dyn (ao tm g) (cx tm xs)):=rfl
def ad8 {tm:Env} {hp ai:Hp} {rs:List (Nat×Bool×Nat)} {v:AV} {aK:Nat} (h:lE tm hp ai rs=true):Jm tm hp rs (some (v,ai,aK))=some (v,ai,aK):=by
 simp only [Jm,h,ym]
section
variable {b n R st:Nat} {fnv:AV} {H:Hp} {rs:List (List AV)}
def ZS:aj (bd (b+5) rs++bL b n R fnv st H) b=some (.cells true true true 1 [.int .i64 n]):=by
 rw [mg (by omega)];simp only [bL,aj,ck (show b+4≠b by omega),ck (show b+3≠b by omega),ck (show b+2≠b by omega),ck (show b+1≠b by omega),y7,yu,ym]
def ZT:aj (bd (b+5) rs++bL b n R fnv st H) (b+1)=some (.cells true (aG fnv) true 1 [fnv]):=by
 rw [mg (by omega)];simp only [bL,aj,ck (show b+4≠b+1 by omega),ck (show b+3≠b+1 by omega),ck (show b+2≠b+1 by omega),y7,yu,ym]
def HN:aj (bd (b+5) rs++bL b n R fnv st H) (b+2)=some (.cells true (yq R 0) true 1 (eb (b+5) n R)):=by
 rw [mg (by omega)];simp only [bL,aj,ck (show b+4≠b+2 by omega),ck (show b+3≠b+2 by omega),y7,yu,ym]
def HO:aj (bd (b+5) rs++bL b n R fnv st H) (b+3)=some (.cells true false true 1 [.aq (b+2) 0 n]):=by
 rw [mg (by omega)];simp only [bL,aj,ck (show b+4≠b+3 by omega),y7,yu,ym]
def DN:aj (bd (b+5) rs++bL b n R fnv st H) (b+4)=some (.lp (eL b n fnv) [12,13] nJ lJ st .none):=by
 rw [mg (by omega)];simp only [bL,aj,y7,ym]
def Ny {st':Nat}:aW (bd (b+5) rs++bL b n R fnv st H) (b+4) (.lp (eL b n fnv) [12,13] nJ lJ st' .none)=bd (b+5) rs++bL b n R fnv st' H:=by
 rw [GQ (by omega)];simp only [bL,aW,y7,ym]
def ZU:aW (bd (b+5) rs++bL b n R fnv st H) (b+2) (.cells true false true 1 (eb (b+5) n (R+1)))=bd (b+5) rs++bL b n (R+1) fnv st H:=by
 rw [GQ (by omega)];simp only [bL,aW,ck (show b+4≠b+2 by omega),ck (show b+3≠b+2 by omega),y7,yu,ym,ck (Nat.succ_ne_zero R)]
def abV {cs:List AV} {old:Hp} {ct:Nat} (h:ct=b+5+rs.length):(ct,Obj.cells true true true 1 cs)::(bd (b+5) rs++old)=bd (b+5) (cs::rs)++old:=by
 subst h;rfl
def abW {cs:List AV} {old:Hp} {x:Nat} (h:x=b+5+rs.length):aj (bd (b+5) (cs::rs)++old) x=some (.cells true true true 1 cs):=by
 subst h;simp only [bd,yH,Ib]
def abX {cs cK:List AV} {old:Hp} {x:Nat} (h:x=b+5+rs.length):aW (bd (b+5) (cs::rs)++old) x (.cells true true true 1 cK)=bd (b+5) (cK::rs)++old:=by
 subst h;simp only [bd,yH,Ob]
end
def Nz {B n r:Nat}:(eb B n (r+1)).drop r= .aq (B+r) 0 n::yx (n-(r+1)) .ab:=by
 unfold eb;rw [uD,xG,xg,List.drop_left' (by simp)];rfl
def MK {b n r c:Nat} (hr:r<n) (hc:c<n) {fnv v:AV} {H H':Hp} {cur:List AV} {prev:List (List AV)} (hp:prev.length=r) (anV:cur.length=n) (eI:cg v=true) (cR:aG v=true) {tm:Env} {ct base:Nat}
  (h3:ah tm 3= .ptr (b+1) 0) (h5:ah tm 5= .ptr (b+3) 0) (h6:ah tm 6=aa c) (h7:ah tm 7=aa r)
  (fX:cw P L (D P L) (bd (b+5) (cur::prev)++bL b n (r+1) fnv 1 H) ct .dyn fnv [aa c,aa r]=some (v,bd (b+5) (cur::prev)++bL b n (r+1) fnv 1 H',ct)):
  ∃tm',D P L (.aB [⟨some 21,none,.ld 1 false (.t 5)⟩,⟨some 22,none,.br (.t 7)⟩,⟨some 23,none,.a7 1 (.t 21) (.t 22)⟩,⟨some 24,none,.ld 1 false (.t 23)⟩,⟨some 25,none,.br (.t 6)⟩,⟨some 26,none,.ld 1 false (.t 3)⟩,
   ⟨some 27,none,.br (.t 6)⟩,⟨some 28,none,.br (.t 7)⟩,⟨some 29,none,.eX [(1,false,5),(1,false,23)] (.t 26) [(.t 27),(.t 28)]⟩,⟨some 30,none,.a7 1 (.t 24) (.t 25)⟩,⟨none,none,.st 1 (.t 30) (.t 29)⟩])
   ⟨tm,bd (b+5) (cur::prev)++bL b n (r+1) fnv 1 H,ct,base⟩=some (.normal,⟨tm',bd (b+5) (over c [v] cur::prev)++bL b n (r+1) fnv 1 H',ct,base⟩):=by
 have hl:∀H,aj (bd (b+5) (cur::prev)++bL b n (r+1) fnv 1 H) (b+5+r)=some (.cells true true true 1 cur):=fun H=>abW (by omega)
 have hs:∀H X,aW (bd (b+5) (cur::prev)++bL b n (r+1) fnv 1 H) (b+5+r) (.cells true true true 1 X)=bd (b+5) (X::prev)++bL b n (r+1) fnv 1 H:=fun H X=>abX (by omega)
 have EC:cellsOf v=[v]:=by cases v<;>simp_all [cellsOf,cg]
 have aQ:∀H,iI (bd (b+5) (cur::prev)++bL b n (r+1) fnv 1 H) ct (b+5+r) c 1 [v] (some (.cells true true true 1 cur))=some (.ay [],aW (bd (b+5) (cur::prev)++bL b n (r+1) fnv 1 H) (b+5+r) (.cells true true true 1 (over c [v] cur)),ct):=fun H=>by
  rw [zp (sz:=1) (by rfl) (by omega) (by simp [bT,eI])];simp [ax,cR]
 simp only [go_sem,ya,yh,h3,h5,h6,h7,HO,HN,ZT,fL _ _ hr,yy,Nz,abU,fX];rw [ad8]
 ·simp only [go_sem,ya,yh,fL _ _ hc,yy,EC,hl,aQ,hs];exact ⟨_,rfl⟩
 ·simp only [lE];simp only [go_sem,ya,h5,HO,HN,Nz,E6,y7]
def Xy {b n r c:Nat} (hr:r<n) (hc:c<n) (eB:n<=1000) {fnv:AV} (hf:cg fnv=true) {val:Nat->Nat->AV} (eI:cg (val c r)=true) (cR:aG (val c r)=true) {H H':Hp} {prev rs:List (List AV)} (hp:prev.length=r)
  (Ak:rs=if c=0 then prev else ig (.int .i64 0) val n r c::prev)
  (fX:∀cur,cw P L (D P L) (bd (b+5) (cur::prev)++bL b n (r+1) fnv 1 H) (b+5+(r+1)) .dyn fnv [aa c,aa r]=some (val c r,bd (b+5) (cur::prev)++bL b n (r+1) fnv 1 H',b+5+(r+1))):
  fy (D P L) (bd (b+5) rs++bL b n rs.length fnv 0 H) (b+5+rs.length) (b+4) [aa c,aa r]=
   some (.bool true,bd (b+5) (ig (.int .i64 0) val n r (c+1)::prev)++bL b n (r+1) fnv 0 H',b+5+(r+1)):=by
 have EC:cellsOf fnv=[fnv]:=by cases fnv<;>simp_all [cellsOf,cg]
 have hb:∃tm',D P L lJ ⟨(7,aa r)::(6,aa c)::(13,aa r)::(12,aa c)::eL b n fnv,bd (b+5) rs++bL b n rs.length fnv 1 H,b+5+rs.length,b+5+rs.length⟩=
   some (.normal,⟨tm',bd (b+5) (ig (.int .i64 0) val n r (c+1)::prev)++bL b n (r+1) fnv 1 H',b+5+(r+1),b+5+rs.length⟩):=by
  by_cases h0:c=0
  ·subst h0;rw [yS rfl] at Ak;subst Ak;have aQ:∀H,iI (bd (b+5) (yx n (.int .i64 0)::rs)++bL b n r fnv 1 H) (b+5+r+1) (b+2) r 1 [.aq (b+5+r) 0 n] (some (.cells true (yq r 0) true 1 (eb (b+5) n r)))=
     some (.ay [],bd (b+5) (yx n (.int .i64 0)::rs)++bL b n (r+1) fnv 1 H,b+5+r+1):=fun H=>by
    rw [zp (sz:=1) (by rfl) (by rw [abN (by omega)];omega) (by rfl),ZK hr];simp only [Mw,Rr,Bool.false_and,Bool.and_false,ZU]
   obtain ⟨tm',h2⟩:=MK (P:=P) (L:=L) (b:=b) (c:=0) hr hc (cur:=yx n (.int .i64 0)) (prev:=rs) hp (by simp) eI cR (H:=H) (H':=H') (ct:=b+5+r+1) (base:=b+5+r) (fnv:=fnv)
    (tm:=(20,.ptr (b+2) r)::(19,.aq (b+5+r) 0 n)::(18,.int .i64 n)::(17,aa r)::(16,.aq (b+2) 0 n)::(15,.bool true)::(14,aa ((0:Nat):Int))::(7,aa r)::(6,aa ((0:Nat):Int))::(13,aa r)::(12,aa ((0:Nat):Int))::eL b n fnv)
    (by rfl) (by rfl) (by rfl) (by rfl) (fX _)
   refine ⟨tm',?_⟩;simp only [hp];unfold lJ;rw [I9,mA,mA,I8]
   simp only [go_sem,ya,yh,eL,HO,ZS,fL _ _ hr,yy,tE,By (ct:=b+5+r) (sz:=1) (by':=8) (l:=n) (z:=[.int .i64 0]) (by omega) (by omega) rfl rfl,Ik]
   rw [abV (rs:=rs) (ct:=b+5+r) (by omega),HN,aQ];simp only [PJ,Sv,PI,Re,jB];simp only [eL,tE] at h2;rw [h2,IB,<-Ns hc,ZM];rfl
  ·rw [yD h0] at Ak;subst Ak;obtain ⟨tm',h2⟩:=MK (P:=P) (L:=L) (b:=b) (c:=c) hr hc (cur:=ig (.int .i64 0) val n r c) (prev:=prev) hp (abO (by omega)) eI cR (H:=H) (H':=H') (ct:=b+5+(r+1)) (base:=b+5+(r+1)) (fnv:=fnv)
    (tm:=(15,.bool false)::(14,aa c)::(7,aa r)::(6,aa c)::(13,aa r)::(12,aa c)::eL b n fnv)
    (by rfl) (by rfl) (by rfl) (by rfl) (fX _)
   refine ⟨tm',?_⟩;simp only [yz,hp];unfold lJ;rw [I9,mA,mA,I8];simp only [eL] at h2 ⊢;simp only [go_sem,ya,show ¬(c:Int)=0 by omega];simp only [go_sem,ya] at h2;rw [h2,IB,Ns hc]
 obtain ⟨tm',hb⟩:=hb;have hlen:b+5+(r+1)=b+5+(ig (.int .i64 0) val n r (c+1)::prev).length:=by rw [yz,hp]
 rw [Ij (DN) (tm':=(13,aa r)::(12,aa c)::eL b n fnv) rfl (s1:=⟨(7,aa r)::(6,aa c)::(13,aa r)::(12,aa c)::eL b n fnv,bd (b+5) rs++bL b n rs.length fnv 0 H,b+5+rs.length,b+5+rs.length⟩) (by unfold nJ;simp only [go_sem,ya]) DN
  (by simp only [Ny];exact hb) DN,Ny]
end
end
section
open Go (IntKind)
section
variable {P:aA} {L:Lib}
structure BB (P:aA) (L:Lib) (b n:Nat) (fnv:AV) (val:Nat->Nat->AV) (Hs:Nat->Hp):Prop where
 n1:n<=1000
 nN:∀k,E3 b fnv (Hs k)
 one:∀c r,cg (val c r)=true
 pu:∀c r,aG (val c r)=true
 call:∀c r,c<n->r<n->∀(dH:Hp) (ct:Nat),(∀p,p∈dH->b<=p.1)->b<=ct->fO ct ct dH->(b7 ct dH).length<=5000->cw P L (D P L) (dH++Hs (r*n+c)) ct .dyn fnv [aa c,aa r]=some (val c r,dH++Hs (r*n+c+1),ct)
def fB (val:Nat->Nat->AV) (n r c:Nat):List (List AV):=if c=0 then dz val n r else ig (.int .i64 0) val n r c::dz val n r
def Yj {val:Nat->Nat->AV} {n r c:Nat}:(fB val n r c).length=if c=0 then r else r+1:=by
 unfold fB;split<;>simp [oM]
def Xz {val:Nat->Nat->AV} {n r c:Nat}:fB val n r (c+1)=ig (.int .i64 0) val n r (c+1)::dz val n r:=by
 simp [fB]
def XA {val:Nat->Nat->AV} {n r:Nat} (hn:0<n):fB val n r n=dz val n (r+1):=by
 rw [fB,yD (by omega),ZL];rfl
def XB {val:Nat->Nat->AV} {n r:Nat}:fB val n r 0=dz val n r:=by simp [fB]
def NA {B:Nat}:∀{rs:List (List AV)} (p:Nat×Obj),p∈bd B rs->B<=p.1
 | [],p,h=>by simp [bd] at h
 | c::r,p,h=>by
  rcases wc.1 h with rfl | h
  ·show B<=B+r.length;omega
  ·exact NA p h
def Oz {b n R st:Nat} {fnv:AV} {H:Hp} {rs:List (List AV)}:bd (b+5) rs++bL b n R fnv st H=(bd (b+5) rs++bL b n R fnv st [])++H:=by
 rw [xg];rfl
def abY {b n R st:Nat} {fnv:AV} {rs:List (List AV)} (p:Nat×Obj) (h:p∈bd (b+5) rs++bL b n R fnv st []):b<=p.1:=by
 rcases List.mem_append.1 h with h | h
 ·have:=NA p h;omega
 ·simp only [bL,wc,tO,or_false] at h;rcases h with rfl | rfl | rfl | rfl | rfl<;>simp
def Yk {b n R st:Nat} (hR:R<=n) {fnv:AV} {H:Hp} (ho:E3 b fnv H) {rs:List (List AV)} (hl:rs.length=R):fO (b+5+R) (b+5+R) (bd (b+5) rs++bL b n R fnv st []):=by
 have FF:gK (b+4) (eL b n fnv):=by
  have:=sM (show b<=b+4 by omega) ho.fv
  refine ⟨⟨trivial,trivial,trivial⟩,trivial,show b+3<b+4 by omega,show b+2<b+4 by omega,trivial,trivial,show b+1<b+4 by omega,show b<b+4 by omega,trivial,this,trivial⟩
 refine Hj (LY (by omega)) ⟨by omega,Dr (by omega) FF,by omega,.inr ⟨show b+2<_ by omega,trivial⟩,by omega,.inr MH,by omega,.inr ⟨sM (by omega) ho.fv,trivial⟩,by omega,.inl rfl,trivial⟩
def ZV {b n R st ct:Nat} (hR:R<=n) (hn:n<=1000) (dU:b+5<=ct) {fnv:AV} {H:Hp} (ho:E3 b fnv H) {rs:List (List AV)}:(b7 ct (bd (b+5) rs++bL b n R fnv st [])).length<=5000:=by
 have ajn:(dB (eL b n fnv)).length<=1010:=by
  have:=ho.fl
  simp [eL,dB,refs,dh];omega
 have zY:(dC (.cells true (aG fnv) true 1 [fnv])).length<=1000:=by
  cases aG fnv with
  | true=>simp [dC]
  | false=>simp [dC,dh];exact ho.fl
 have hol:(dC (.cells true (yq R 0) true 1 (eb (b+5) n R))).length<=1000:=by
  cases hq:yq R 0 with
  | true=>simp [dC]
  | false=>simp only [dC,yu,Nt,List.length_range'];omega
 rw [G1,Ls,xE];simp only [bL,b7,ei (show b+4<ct by omega),ei (show b+3<ct by omega),ei (show b+2<ct by omega),ei (show b+1<ct by omega),ei (show b<ct by omega),ym,List.length_append,y5];have h3:(dC (.cells true false true 1 [AV.aq (b+2) 0 n])).length=1:=rfl;have h0:(dC (.cells true true true 1 [AV.int .i64 n])).length=0:=rfl;have h4:(dC (.lp (eL b n fnv) [12,13] nJ lJ st .none)).length=(dB (eL b n fnv)).length:=rfl;rw [h3,h0,h4];omega
def ZW {b n:Nat} {fnv:AV} {val:Nat->Nat->AV} {Hs:Nat->Hp} (hf:BB P L b n fnv val Hs) {r:Nat} (hr:r<n):
  ∀d st,(∃c:Nat,bw [0,1,3,5,6,9,10] st=⟨[(0,.fn (.y (b+4)) [] []),(1,.aO [.int .i64 n]),(3,aa r),(5,aa n),(6,aa r),(9,aa n),(10,aa c)],bd (b+5) (fB val n r c)++bL b n (fB val n r c).length fnv 0 (Hs (r*n+c)),b+5+(fB val n r c).length,b+5⟩/\c+d=n)->
   ∃ex s',D P L (.loop [0,1,3,5,6,9,10] nA) st=some (ex,s')/\∃tm ct,s'=⟨tm,bd (b+5) (fB val n r n)++bL b n (fB val n r n).length fnv 0 (Hs (r*n+n)),ct,b+5⟩/\ex= .exit 2/\ah tm 0= .fn (.y (b+4)) [] []/\ah tm 1= .aO [.int .i64 n]/\ah tm 5=aa n/\ah tm 6=aa r:=by
 have n1:=hf.n1
 refine cG (I:=fun d st=>∃c:Nat,st=⟨[(0,.fn (.y (b+4)) [] []),(1,.aO [.int .i64 n]),(3,aa r),(5,aa n),(6,aa r),(9,aa n),(10,aa c)],bd (b+5) (fB val n r c)++bL b n (fB val n r c).length fnv 0 (Hs (r*n+c)),b+5+(fB val n r c).length,b+5⟩/\c+d=n)
  (Q:=fun ex s'=>∃tm ct,s'=⟨tm,bd (b+5) (fB val n r n)++bL b n (fB val n r n).length fnv 0 (Hs (r*n+n)),ct,b+5⟩/\ex= .exit 2/\ah tm 0= .fn (.y (b+4)) [] []/\ah tm 1= .aO [.int .i64 n]/\ah tm 5=aa n/\ah tm 6=aa r) ?_
 rintro d st ⟨c,rfl,Wn⟩;by_cases hc:c<n
 ·left
  have qY:=Xy (P:=P) (L:=L) (b:=b) hr hc n1 (hf.nN 0).one (hf.one c r) (hf.pu c r) (H:=Hs (r*n+c)) (H':=Hs (r*n+c+1)) (prev:=dz val n r) (rs:=fB val n r c) (oM val n r) rfl (fun cur=>by
   have hl:(cur::dz val n r).length=r+1:=by rw [yz,oM]
   rw [Oz,hf.call c r hc hr _ _ abY (by omega) (Yk (by omega) (hf.nN 0) hl) (ZV (by omega) n1 (by omega) (hf.nN 0)),<-Oz])
  have nI:∀(xs:List AV) (hp:Hp) (ct:Nat),cw P L (D P L) hp ct .heap (.fn (.y (b+4)) [] []) xs=fy (D P L) hp ct (b+4) xs:=fun _ _ _=>rfl
  simp only [go_sem,ya,nA,show (c:Int)<n by omega,nI,qY,show (c:Int)+1=((c+1:Nat):Int) from rfl,wrapN (n:=c+1) (by omega)];refine ⟨_,d-1,rfl,by omega,c+1,?_,by omega⟩;rw [<-Xz];have hlen:(fB val n r (c+1)).length=r+1:=by rw [Yj,yD (by omega)]
  have gw:=fun (tm:Env) (ct:Nat)=>Az (tm:=tm) (ct:=ct) (b:=b) (n:=n) (st:=0) (live:=[0,1,3,5,6,9,10]) (rs:=fB val n r (c+1)) (hf.nN (r*n+c+1)) (by omega) n1
  simp only [hlen] at gw ⊢;rw [gw]
  ·simp only [go_sem,ya];rfl
  ·simp only [go_sem,ya];exact ⟨⟨by omega,rfl,rfl⟩,trivial,trivial,trivial,trivial,trivial,trivial,trivial⟩
  ·simp only [go_sem,ya,yc,yd]
 ·right
  have:c=n:=by omega
  subst this;simp only [go_sem,ya,nA,show ¬(c:Int)<c by omega];refine ⟨_,_,rfl,by simp,_,_,rfl,rfl,?_⟩;simp only [go_sem,ya]
  simp
def Yl {b n:Nat} (hn:0<n) {fnv:AV} {val:Nat->Nat->AV} {Hs:Nat->Hp} (hf:BB P L b n fnv val Hs):
  ∀d st,(∃r:Nat,bw [0,1,5,6] st=⟨[(0,.fn (.y (b+4)) [] []),(1,.aO [.int .i64 n]),(5,aa n),(6,aa r)],bd (b+5) (dz val n r)++bL b n (dz val n r).length fnv 0 (Hs (r*n)),b+5+(dz val n r).length,b+5⟩/\r+d=n)->
   ∃ex s',D P L (.loop [0,1,5,6] nB) st=some (ex,s')/\∃tm ct,s'=⟨tm,bd (b+5) (dz val n n)++bL b n (dz val n n).length fnv 0 (Hs (n*n)),ct,b+5⟩/\ex= .exit 0:=by
 have n1:=hf.n1
 refine cG (I:=fun d st=>∃r:Nat,st=⟨[(0,.fn (.y (b+4)) [] []),(1,.aO [.int .i64 n]),(5,aa n),(6,aa r)],bd (b+5) (dz val n r)++bL b n (dz val n r).length fnv 0 (Hs (r*n)),b+5+(dz val n r).length,b+5⟩/\r+d=n)
  (Q:=fun ex s'=>∃tm ct,s'=⟨tm,bd (b+5) (dz val n n)++bL b n (dz val n n).length fnv 0 (Hs (n*n)),ct,b+5⟩/\ex= .exit 0) ?_
 rintro d st ⟨r,rfl,gT⟩;by_cases hr:r<n
 ·left
  have hlen:(dz val n r).length=r:=oM val n r;have BX:(dz val n (r+1)).length=r+1:=oM val n (r+1);have gw:=fun (tm:Env) (ct:Nat)=>Az (tm:=tm) (ct:=ct) (b:=b) (n:=n) (st:=0) (live:=[0,1,3,5,6,9,10]) (rs:=dz val n r) (hf.nN (r*n)) (by omega) n1
  have zt:=fun (tm:Env) (ct:Nat) (live:List Nat)=>Az (tm:=tm) (ct:=ct) (live:=live) (b:=b) (n:=n) (st:=0) (rs:=dz val n (r+1)) (hf.nN ((r+1)*n)) (by omega) n1
  simp only [hlen] at gw;simp only [BX] at zt;simp only [go_sem,ya,nB,show (r:Int)<n by omega,hlen];generalize hq:D P L (.loop [0,1,3,5,6,9,10] nA) _=q;obtain ⟨ex,st,rfl,tm,ct,rfl,rfl,g0,g1,g5,g6⟩:=cm hq (ZW hf hr n) ⟨0,by
   simp only [XB,hlen,Nat.add_zero];rw [gw]
   ·simp only [go_sem,ya];rfl
   ·simp only [go_sem,ya];exact ⟨⟨by omega,rfl,rfl⟩,trivial,trivial,trivial,trivial,trivial,trivial,trivial⟩
   ·simp only [go_sem,ya,yc,yd],by omega⟩
  simp only [XA hn,BX,show r*n+n=(r+1)*n by rw [Nat.add_mul,Nat.one_mul]];rw [Ei,jB,Fx,zt]
  ·simp only [go_sem,ya,g0,g1,g5,g6,show (r:Int)+1=((r+1:Nat):Int) from rfl,wrapN (n:=r+1) (by omega)];refine ⟨_,d-1,rfl,by omega,r+1,?_,by omega⟩;rw [BX,zt]
   ·simp only [go_sem,ya]
   ·simp only [go_sem,ya];exact ⟨⟨by omega,rfl,rfl⟩,trivial,trivial,trivial,trivial⟩
   ·simp only [go_sem,ya,yc,yd]
  ·simp only [go_sem,g0,g1,g5,g6];exact ⟨⟨by omega,rfl,rfl⟩,trivial,trivial,trivial,trivial⟩
  ·simp only [go_sem,yc,yd,g0,g1,g5,g6]
 ·right
  have:r=n:=by omega
  subst this;simp only [go_sem,ya,nB,show ¬(r:Int)<r by omega];exact ⟨_,_,rfl,by simp,_,_,rfl,rfl⟩
structure BuT (P:aA) (L:Lib):Prop where
 Wo:Has P L 40 CP
 h96:Has P L 96 KE
 zQ:Has P L 133 zG
def Lf (h:BuT P L) (n:Int):cf P L (D P L) 96 [aa n]=some (.fn (.f 133) [] [.aO [aa n]]):=by
 rw [aT h.h96];simp only [go_sem,ya,yc,KE];rfl
def gA (b n:Nat) (fnv:AV) (val:Nat->Nat->AV) (H:Hp):Hp:=
 bd (b+5) (dz val n n)++(b+3,.cells true false true 1 [.aq (b+2) 0 n])::(b+2,.cells true false true 1 (eb (b+5) n n))::(b+1,.cells true (aG fnv) true 1 [fnv])::(b,.cells true true true 1 [.int .i64 n])::H
def NB {x:Nat}:∀{H:Hp},(∀p,p∈H->p.1≠x)->cp H x=H
 | [],_=>rfl
 | (id,o)::r,h=>by
  rw [cp,ck (h (id,o) (by simp)),yu,NB (fun p hp=>h p (by simp [hp]))]
def NC (h:BuT P L) {b n:Nat} (hn:0<n) {fnv:AV} {val:Nat->Nat->AV} {Hs:Nat->Hp} (hf:BB P L b n fnv val Hs) (hb:∀p,p∈Hs (n*n)->p.1<b):
  ∃tm ct,D P L CP.body ⟨[(0,aa n),(1,fnv)],Hs 0,b,b⟩=some (.ret,⟨tm,gA b n fnv val (Hs (n*n)),ct,b⟩)/\ah tm 4= .aq (b+2) 0 n:=by
 have n1:=hf.n1;have fa:=(hf.nN 0).one;have EC:cellsOf fnv=[fnv]:=by cases fnv<;>simp_all [cellsOf,cg]
 have ajR:∀ct,py ct 1 24 [.ab] (some n) (some n)=some (.aq ct 0 n,.cells true true true 1 (yx n .ab)):=fun ct=>by
  rw [By (sz:=1) (by omega) (by omega) rfl rfl,Ik];rfl
 have aik:eb (b+5) n 0=yx n .ab:=by simp [eb]
 have inner:∃tm ct,D P L zG.body ⟨eE 0 [.fn (.y (b+4)) [] [],.aO [.int .i64 n]],(b+4,.lp (eL b n fnv) [12,13] nJ lJ 0 .none)::(b+3,.cells true false true 1 [.aq (b+2) 0 n])::(b+2,.cells true true true 1 (yx n .ab))::(b+1,.cells true (aG fnv) true 1 [fnv])::(b,.cells true true true 1 [.int .i64 n])::Hs 0,b+5,b+5⟩=
   some (.normal,⟨tm,bd (b+5) (dz val n n)++bL b n n fnv 0 (Hs (n*n)),ct,b+5⟩):=by
  have aQ:(b+4,Obj.lp (eL b n fnv) [12,13] nJ lJ 0 .none)::(b+3,.cells true false true 1 [.aq (b+2) 0 n])::(b+2,.cells true true true 1 (yx n .ab))::(b+1,.cells true (aG fnv) true 1 [fnv])::(b,.cells true true true 1 [.int .i64 n])::Hs 0=
    bd (b+5) []++bL b n 0 fnv 0 (Hs 0):=by
   simp only [bd,xE,bL,aik];rfl
  rw [aQ];simp only [go_sem,ya,zG];generalize hq:D P L (.loop [0,1,5,6] nB) _=q;have gw:=fun (tm:Env) (ct:Nat) (live:List Nat)=>Az (tm:=tm) (ct:=ct) (live:=live) (b:=b) (n:=n) (st:=0) (rs:=[]) (hf.nN 0) (by simp) n1
  simp only [y5] at gw;obtain ⟨ex,st,rfl,tm,ct,rfl,rfl⟩:=cm hq (Yl hn hf n) ⟨0,by
   simp only [dz,y5,Nat.zero_mul];rw [gw]
   ·simp only [go_sem,ya];rfl
   ·simp only [go_sem,ya];exact ⟨⟨by omega,rfl,rfl⟩,trivial,trivial,trivial,trivial⟩
   ·simp only [go_sem,ya,yc,yd],by omega⟩
  have hlen:(dz val n n).length=n:=oM val n n;have zt:=fun (tm:Env) (ct:Nat) (live:List Nat)=>Az (tm:=tm) (ct:=ct) (live:=live) (b:=b) (n:=n) (st:=0) (rs:=dz val n n) (hf.nN (n*n)) (by omega) n1
  simp only [hlen] at zt ⊢;simp only [go_sem];rw [zt]
  ·exact ⟨_,_,rfl⟩
  ·simp only [go_sem]
   trivial
  ·simp only [go_sem,yd]
 obtain ⟨tm,ct,inner⟩:=inner;have qg:=Jl (P:=P) (L:=L) (f:= .t 11) (ps:=[12,13]) (as_:=nJ) (body:=lJ)
  (s:=⟨eL b n fnv,(b+3,.cells true false true 1 [.aq (b+2) 0 n])::(b+2,.cells true true true 1 (yx n .ab))::(b+1,.cells true (aG fnv) true 1 [fnv])::(b,.cells true true true 1 [.int .i64 n])::Hs 0,b+4,b⟩)
  (n:=133) (first:=[]) (cap:=[.aO [.int .i64 n]]) rfl h.zQ.heap (sX h.zQ inner (.inl rfl) rfl) DN (by decide)
 have Kv:cp (bd (b+5) (dz val n n)++bL b n n fnv 0 (Hs (n*n))) (b+4)=gA b n fnv val (Hs (n*n)):=by
  rw [Lr (by omega),gA]
  simp only [bL,cp,y7,ym,ck (show b+3≠b+4 by omega),ck (show b+2≠b+4 by omega),ck (show b+1≠b+4 by omega),ck (show b≠b+4 by omega),yu,
   NB (fun p hp=>by have:=hb p hp;omega:∀p,p∈Hs (n*n)->p.1≠b+4),ck (show n≠0 by omega)]
 have hg3:aj (gA b n fnv val (Hs (n*n))) (b+3)=some (.cells true false true 1 [.aq (b+2) 0 n]):=by
  rw [gA,mg (by omega),aj,y7,ym]
 simp only [eL] at qg;simp only [go_sem,ya,yc,CP,EC,Sz fa,ajR,Lf h,Nat.add_assoc,qg,show ¬b+1=b by omega,show ¬b+2=b by omega,show ¬b+3=b by omega];simp only [go_sem,Kv,hg3];exact ⟨_,_,rfl,by simp only [go_sem]⟩
def Ym {hp:Hp} {id i:Nat} {o:Obj}:aj (aW hp id o) i=if id=i then (if (aj hp id).isSome then some o else none) else aj hp i:=by
 induction hp with
 | nil=>simp [aW,aj]
 | cons x r ih=>
  obtain ⟨j,q⟩:=x;simp only [aW];by_cases hj:j=id
  ·subst hj;simp only [y7,ym,aj];by_cases hi:j=i
   ·subst hi;simp
   ·simp [ck hi,hi]
  ·simp only [ck hj,yu];rw [aj,ih];by_cases hi:j=i
   ·subst hi
    have:¬id=j:=fun h=>hj h.symm
    simp [y7,this,aj]
   ·simp [ck hi,aj,ck hj]
def OA {B n:Nat} {row:Nat->List AV} (hlen:∀i,(row i).length=n):∀(l:List Nat) (k:Nat) (hp:Hp),l.length+3<=k->(∀i,i∈l->∃rw,aj hp (B+i)=some (.cells rw true true 1 (row i)))->
  ∃ai,bO k hp (l.map fun i=> .aq (B+i) 0 n)=some (l.map fun i=> .aC true n (row i),ai)
 | [],0,hp,hk,_=>by simp at hk
 | [],k+1,hp,_,_=>⟨hp,rfl⟩
 | i::l,0,hp,hk,_=>by simp at hk
 | i::l,1,hp,hk,_=>by simp at hk
 | i::l,2,hp,hk,_=>by simp at hk
 | i::l,k+3,hp,hk,h=>by
  simp only [yz] at hk;obtain ⟨rw,h1⟩:=h i (by simp);have hf:freeze (k+2) hp (.aq (B+i) 0 n)=some (.aC true n (row i),bif rw then aW hp (B+i) (.cells false true true 1 (row i)) else hp):=by
   rw [IC,ID,h1]
   cases rw with
   | true=>rw [Rs,jz true (by rw [hlen,yh]) (by decide)];rfl
   | false=>rw [Ru,jz true (by rw [hlen,yh]) (by decide)];rfl
  obtain ⟨ai,h2⟩:=OA hlen l (k+2) (bif rw then aW hp (B+i) (.cells false true true 1 (row i)) else hp) (by omega) (fun j hj=>by
   obtain ⟨dJ,h3⟩:=h j (by simp [hj])
   cases rw with
   | false=>exact ⟨dJ,h3⟩
   | true=>
    simp only [ym,Ym,h1,Option.isSome_some,yQ];by_cases e:B+i=B+j
    ·have:i=j:=by omega
     subst this;exact ⟨false,by rw [yS rfl]⟩
    ·exact ⟨dJ,by rw [yD e,h3]⟩)
  exact ⟨ai,by rw [yV,Nh,hf,Ri,h2];rfl⟩
def eS (val:Nat->Nat->AV) (n:Nat):AV:= .aC true n ((yR n).map fun r=> .aC true n ((yR n).map fun c=>val c r))
def ND {val:Nat->Nat->AV} {n:Nat}:∀r,(dz val n r).reverse=(yR r).map fun r=>(yR n).map fun c=>val c r
 | 0=>rfl
 | r+1=>by rw [dz,List.reverse_cons,ND r,uD,xG];rfl
def NE {b n k:Nat} (hn:0<n) (eB:n<=900) {fnv:AV} {val:Nat->Nat->AV} {H:Hp} (hk:903<k):∃ai,freeze (k+2) (gA b n fnv val H) (.aq (b+2) 0 n)=some (eS val n,ai):=by
 have iX:aj (gA b n fnv val H) (b+2)=some (.cells true false true 1 (eb (b+5) n n)):=by
  rw [gA,mg (by omega),aj,ck (by omega),yu,aj,y7,ym]
 have mH:eb (b+5) n n=(yR n).map fun i=> .aq (b+5+i) 0 n:=by simp [eb]
 have hlen:(dz val n n).length=n:=oM val n n;obtain ⟨ai,h1⟩:=OA (B:=b+5) (n:=n) (row:=fun r=>(yR n).map fun c=>val c r) (fun i=>by simp) (yR n) k (gA b n fnv val H) (by simp;omega) (fun i hi=>by
  have bP:i<n:=List.mem_range.1 hi;refine ⟨true,?_⟩;rw [gA,HK (by omega)]
  simp only [ND,List.getElem_map,List.getElem_range])
 rw [IC,ID,iX];have hq:Ce k (b+2) (gA b n fnv val H) (some (.cells true false true 1 (eb (b+5) n n)))=some (true,1,(yR n).map fun r=> .aC true n ((yR n).map fun c=>val c r),aW ai (b+2) (.cells false false true 1 (eb (b+5) n n))):=by
  simp only [Ce,yu,mH,h1]
 rw [hq,jz true (by simp) (by decide)];exact ⟨_,rfl⟩
def ZX {b n:Nat} (hn:0<n) (eB:n<=900) {fnv:AV} {val:Nat->Nat->AV} {H:Hp}:result (gA b n fnv val H) (.aq (b+2) 0 n)=some (eS val n):=by
 have iX:aj (gA b n fnv val H) (b+2)=some (.cells true false true 1 (eb (b+5) n n)):=by
  rw [gA,mg (by omega),aj,ck (by omega),yu,aj,y7,ym]
 obtain ⟨ai,h⟩:=NE (b:=b) (k:=998) hn eB (fnv:=fnv) (val:=val) (H:=H) (by omega);simp only [result,nt,iX,deep,h]
def ZY {b n:Nat} (hn:0<n) (eB:n<=900) {fnv:AV} {val:Nat->Nat->AV} {H:Hp} {k:IntKind} {x:Int}:result (gA b n fnv val H) (.ay [.aq (b+2) 0 n,.int k x])=some (.ay [eS val n,.int k x]):=by
 have iX:aj (gA b n fnv val H) (b+2)=some (.cells true false true 1 (eb (b+5) n n)):=by
  rw [gA,mg (by omega),aj,ck (by omega),yu,aj,y7,ym]
 obtain ⟨ai,h⟩:=NE (b:=b) (k:=998) hn eB (fnv:=fnv) (val:=val) (H:=H) (by omega);have h1:Ep [.aq (b+2) 0 n,.int k x]=some [b+2]:=rfl;simp only [result,h1,qJ,nt,iX,deep,h];rfl
end
end
section
open Go (IntKind)
section
variable {P:aA} {L:Lib}
def OB (h:BuT P L) {n:Nat} (hn:0<n) (eB:n<=900) {g:Nat} {cap:List AV} {val:Nat->Nat->AV} (hc:ax cap=true) (h1:∀c r,cg (val c r)=true) (h2:∀c r,aG (val c r)=true) (h3:∀c r,shut (val c r)=val c r)
  (hg:∀c r,c<n->r<n->an P L g (aa c::aa r::cap) (val c r)):an P L 40 [aa n,.fn (.f g) [] cap] (eS val n):=by
 have sb:aG (.fn (.f g) [] cap)=true:=by simp [aG,ax,hc]
 have hf:BB P L 0 n (.fn (.f g) [] cap) val (fun _=>[]):=by
  refine ⟨by omega,fun _=>⟨mi sb,by rw [aP sb];simp,rfl,trivial,fun _=>by simp [b7]⟩,h1,h2,fun c r K1 hr dH ct _ _ _ _=>?_⟩
  have hp:ax (aa c::aa r::cap)=true:=by simp [ax,aG,hc]
  have:=hg c r K1 hr
  simp only [cw,xE,yH,hp,ym,this,h3,xI]
 obtain ⟨tm,ct,e,h4⟩:=NC h hn hf (fun p hp=>by simp at hp);unfold an;rw [aT h.Wo,Sy,e,Rg]
 have:fe ⟨tm,gA 0 n (.fn (.f g) [] cap) val [],ct,0⟩ CP.bF=some (.aq (0+2) 0 n):=by
  show fe _ [.t 4]=_
  rw [Cd,BU,h4]
 rw [this,Rh];exact ZX hn eB
def NF (h:BuT P L) {l B n:Nat} (hl:l<B) (hn:n<=1000) {H:Nat->Nat->Hp} (hw:∀r,r<n->H r n=H (r+1) 0) (hb:∀r c,fO B B (H r c)) (hr:∀r c,(b7 B (H r c)).length<=5000)
  (qY:∀c r,c<n->r<n->fy (D P L) (H r c) B l [aa c,aa r]=some (.bool true,H r (c+1),B)):
  ∃tm,D P L zG.body ⟨[(0,.fn (.y l) [] []),(1,.aO [.int .i64 n])],H 0 0,B,B⟩=some (.normal,⟨tm,H n 0,B,B⟩):=by
 have gw:∀(live:List Nat) (tm:Env) (r c ct:Nat),gK B (cz tm live)->(dB (cz tm live)).length<=1000->bw live ⟨tm,H r c,ct,B⟩=⟨cz tm live,H r c,B,B⟩:=fun live tm r c ct h1 h2=>
  G0 h1 (hb r c) (by have:=hr r c;omega)
 have nI:∀(xs:List AV) (hp:Hp) (ct:Nat),cw P L (D P L) hp ct .heap (.fn (.y l) [] []) xs=fy (D P L) hp ct l xs:=fun _ _ _=>rfl
 have inner:∀r,r<n->∀d st,(∃c:Nat,bw [0,1,3,5,6,9,10] st=⟨[(0,.fn (.y l) [] []),(1,.aO [.int .i64 n]),(3,aa r),(5,aa n),(6,aa r),(9,aa n),(10,aa c)],H r c,B,B⟩/\c+d=n)->
   ∃ex s',D P L (.loop [0,1,3,5,6,9,10] nA) st=some (ex,s')/\∃tm ct,s'=⟨tm,H r n,ct,B⟩/\ex= .exit 2/\ah tm 0= .fn (.y l) [] []/\ah tm 1= .aO [.int .i64 n]/\ah tm 5=aa n/\ah tm 6=aa r:=by
  intro r dj
  refine cG (I:=fun d st=>∃c:Nat,st=⟨[(0,.fn (.y l) [] []),(1,.aO [.int .i64 n]),(3,aa r),(5,aa n),(6,aa r),(9,aa n),(10,aa c)],H r c,B,B⟩/\c+d=n)
   (Q:=fun ex s'=>∃tm ct,s'=⟨tm,H r n,ct,B⟩/\ex= .exit 2/\ah tm 0= .fn (.y l) [] []/\ah tm 1= .aO [.int .i64 n]/\ah tm 5=aa n/\ah tm 6=aa r) ?_
  rintro d st ⟨c,rfl,Wn⟩;by_cases hc:c<n
  ·left
   simp only [go_sem,ya,nA,show (c:Int)<n by omega,nI,qY c r hc dj,show (c:Int)+1=((c+1:Nat):Int) from rfl,wrapN (n:=c+1) (by omega)];refine ⟨_,d-1,rfl,by omega,c+1,?_,by omega⟩;rw [gw]
   ·simp only [go_sem,ya]
   ·simp only [go_sem,ya];exact ⟨⟨hl,rfl,rfl⟩,trivial,trivial,trivial,trivial,trivial,trivial,trivial⟩
   ·simp only [go_sem,ya,yc,yd]
  ·right
   have:c=n:=by omega
   subst this;simp only [go_sem,ya,nA,show ¬(c:Int)<c by omega];refine ⟨_,_,rfl,by simp,_,_,rfl,rfl,?_⟩;simp only [go_sem,ya]
   simp
 have outer:∀d st,(∃r:Nat,bw [0,1,5,6] st=⟨[(0,.fn (.y l) [] []),(1,.aO [.int .i64 n]),(5,aa n),(6,aa r)],H r 0,B,B⟩/\r+d=n)->
   ∃ex s',D P L (.loop [0,1,5,6] nB) st=some (ex,s')/\∃tm ct,s'=⟨tm,H n 0,ct,B⟩/\ex= .exit 0:=by
  refine cG (I:=fun d st=>∃r:Nat,st=⟨[(0,.fn (.y l) [] []),(1,.aO [.int .i64 n]),(5,aa n),(6,aa r)],H r 0,B,B⟩/\r+d=n)
   (Q:=fun ex s'=>∃tm ct,s'=⟨tm,H n 0,ct,B⟩/\ex= .exit 0) ?_
  rintro d st ⟨r,rfl,gT⟩;by_cases dj:r<n
  ·left
   simp only [go_sem,ya,nB,show (r:Int)<n by omega];generalize hq:D P L (.loop [0,1,3,5,6,9,10] nA) _=q;obtain ⟨ex,st,rfl,tm,ct,rfl,rfl,g0,g1,g5,g6⟩:=cm hq (inner r dj n) ⟨0,by
    rw [gw]
    ·simp only [go_sem,ya];rfl
    ·simp only [go_sem,ya];exact ⟨⟨hl,rfl,rfl⟩,trivial,trivial,trivial,trivial,trivial,trivial,trivial⟩
    ·simp only [go_sem,ya,yc,yd],by omega⟩
   rw [hw r dj,Ei,jB,Fx,gw]
   ·simp only [go_sem,ya,g0,g1,g5,g6,show (r:Int)+1=((r+1:Nat):Int) from rfl,wrapN (n:=r+1) (by omega)];refine ⟨_,d-1,rfl,by omega,r+1,?_,by omega⟩;rw [gw]
    ·simp only [go_sem,ya]
    ·simp only [go_sem,ya];exact ⟨⟨hl,rfl,rfl⟩,trivial,trivial,trivial,trivial⟩
    ·simp only [go_sem,ya,yc,yd]
   ·simp only [go_sem,g0,g1,g5,g6];exact ⟨⟨hl,rfl,rfl⟩,trivial,trivial,trivial,trivial⟩
   ·simp only [go_sem,yc,yd,g0,g1,g5,g6]
  ·right
   have:r=n:=by omega
   subst this;simp only [go_sem,ya,nB,show ¬(r:Int)<r by omega];exact ⟨_,_,rfl,by simp,_,_,rfl,rfl⟩
 simp only [go_sem,ya,zG];generalize hq:D P L (.loop [0,1,5,6] nB) _=q;obtain ⟨ex,st,rfl,tm,ct,rfl,rfl⟩:=cm hq (outer n) ⟨0,by
  rw [gw]
  ·simp only [go_sem,ya];rfl
  ·simp only [go_sem,ya];exact ⟨⟨hl,rfl,rfl⟩,trivial,trivial,trivial,trivial⟩
  ·simp only [go_sem,ya,yc,yd],by omega⟩
 simp only [go_sem];rw [gw]
 ·exact ⟨_,rfl⟩
 ·simp only [go_sem]
  trivial
 ·simp only [go_sem,yd]
structure SmP (P:aA) (L:Lib):Prop extends BuT P L,Sq P L where
 h41:Has P L 41 KB
 C9:Has P L 97 CS
 nV:Has P L 134 rH
def s41 (h:SmP P L) {v w:AV} {s k:List (List Int)} (hv:bK v s) (hw:bK w k) {n m:Nat} (hn:s.length=n) (iE:0<n) (eB:n<=16) (hs:cy n (-1000) 1000 s=0) (hm:k.length=m) (GD:0<m) (lX:m<=5) (hk:cy m (-100) 100 k=0)
  {c r:Nat} (hc:c<n) (hr:r<n):an P L 41 [aa c,aa r,.aO [w],.aO [v],.aO [aa (m/2:Nat)]] (aa (gI s k c r)):=by
 let TM:Env:=[(13,.fn (.f 133) [] [.aO [.int .i64 m]]),(12,.int .i64 m),(11,w),(8,.ptr 2 0),(7,.int .i64 0),(6,.ptr 1 0),(5,.ptr 0 0),(0,aa c),(1,aa r),(2,.aO [w]),(3,.aO [v]),(4,.aO [aa (m/2:Nat)])]
 let S:Nat->Nat->Int:=fun j i=>a8 (fun j=>a8 (jI s k c r j) m) j+a8 (jI s k c r j) i
 let HH:Nat->Nat->Nat->Hp:=fun st j i=>[(3,.lp TM [14,15] BP zn st .none),(2,.cells true true true 1 [aa (S j i)]),(1,.cells true true true 1 [aa r]),(0,.cells true true true 1 [aa c])]
 have hb:∀st j i,fO 4 4 (HH st j i):=fun st j i=>by
  refine ⟨by omega,⟨⟨trivial,trivial,trivial⟩,trivial,mi hw.pu,show 2<4 by omega,trivial,show 1<4 by omega,show 0<4 by omega,trivial,trivial,trivial,trivial,trivial,trivial⟩,by omega,.inl rfl,by omega,.inl rfl,by omega,.inl rfl,trivial⟩
 have qg:∀st j i,(b7 4 (HH st j i)).length<=5000:=fun st j i=>by
  have:b7 4 (HH st j i)=dB TM:=by
   simp only [HH,b7,ei (show 3<4 by omega),ei (show 2<4 by omega),ei (show 1<4 by omega),ei (show 0<4 by omega),ym,dC,xI]
  rw [this];simp [TM,dB,refs,dh,aP hw.pu]
 have qY:∀i j,i<m->j<m->fy (D P L) (HH 0 j i) 4 3 [aa i,aa j]=some (.bool true,HH 0 j (i+1),4):=fun i j hi hj=>by
  have jt:j<k.length:=by omega
  obtain ⟨kr,rest,bG,dA⟩:=hw.a7 jt;have hkj:=jx hk j jt;have bP:i<k[j].length:=by omega
  have b1:=LV hs hk c r j i;have b2:=LW hs hk c r j i;have b3:=AJ (f:=fun j=>a8 (jI s k c r j) m) (b:=500000) (fun j=>by have:=LW hs hk c r j m;omega) j;have o8:=KR h.C9 h.nV hv hn iE (by omega) (fun i hi=>(jx hs i hi).1) ((c:Int)+i-(m/2:Nat)) ((r:Int)+j-(m/2:Nat));have Wl:jI s k c r j i=kv k j i*bB s ((c:Int)+i-(m/2:Nat)) ((r:Int)+j-(m/2:Nat)):=by unfold jI;rw [hm]
  have hS:S j (i+1)=S j i+jI s k c r j i:=by simp only [S,a8,Int.add_assoc]
  have GH: -9000000<=S j i/\S j i<=9000000:=by simp only [S];omega
  unfold an at o8;have rz:∃tm,D P L zn ⟨(10,aa j)::(9,aa i)::(15,aa j)::(14,aa i)::TM,HH 1 j i,4,4⟩=some (.normal,⟨tm,HH 1 j (i+1),4,4⟩):=by
   simp only [HH,hS];generalize S j i=sm at GH;simp only [TM]
   simp only [go_sem,ya,zn,hv.aE,dA,bG.a7 bP,wrap64 (n:=(c:Int)+i) (by omega) (by omega),wrap64 (n:=(c:Int)+i-(m/2:Nat)) (by omega) (by omega),
    wrap64 (n:=(r:Int)+j) (by omega) (by omega),wrap64 (n:=(r:Int)+j-(m/2:Nat)) (by omega) (by omega),o8,oY jt bP,<-Wl,wrap64 (n:=jI s k c r j i) (by omega) (by omega),
    wrap64 (n:=sm+jI s k c r j i) (by omega) (by omega)]
   exact ⟨_,rfl⟩
  obtain ⟨tm,rz⟩:=rz
  exact Ij (tm':=(15,aa j)::(14,aa i)::TM) (show aj (HH 0 j i) 3=some (.lp TM [14,15] BP zn 0 .none) from rfl) rfl (s1:=⟨(10,aa j)::(9,aa i)::(15,aa j)::(14,aa i)::TM,HH 0 j i,4,4⟩) (by unfold BP;simp only [go_sem,ya]) rfl rz rfl
 have rS:=NF (P:=P) (L:=L) h.toBuT (l:=3) (B:=4) (n:=m) (by omega) (by omega) (H:=HH 0) (fun j hj=>by simp only [HH,S,a8,wL]) (hb 0) (qg 0) qY;obtain ⟨tm,rS⟩:=rS;have Cp:=Jl (P:=P) (L:=L) (f:= .t 13) (ps:=[14,15]) (as_:=BP) (body:=zn)
  (s:=⟨TM,[(2,.cells true true true 1 [aa (S 0 0)]),(1,.cells true true true 1 [aa r]),(0,.cells true true true 1 [aa c])],3,0⟩)
  (n:=133) (first:=[]) (cap:=[.aO [.int .i64 m]]) rfl h.zQ.heap (sX h.zQ rS (.inl rfl) rfl) (by rfl) (by decide)
 have hd:cp (HH 0 m 0) 3=[(2,.cells true true true 1 [aa (gI s k c r)]),(1,.cells true true true 1 [aa r]),(0,.cells true true true 1 [aa c])]:=by
  have:S m 0=gI s k c r:=by simp only [S,a8,wL];rw [Yf,hm]
  simp only [HH,this];rfl
 have Lg:S 0 0=0:=by simp [S,a8]
 simp only [TM,Lg,hd] at Cp;unfold an;rw [aT h.h41];simp only [go_sem,ya,yc,KB,hw.len,hm,Lf h.toBuT,Cp]
end
end
section
open Go (IntKind)
section
variable {P:aA} {L:Lib}
def oE {s:List (List Int)} (h:cF s=0):0<s.length/\s.length<=16/\cy s.length (-1000) 1000 s=0:=by
 unfold cF at h
 grind
def LC {s:List (List Int)} (h:jY s=0):0<s.length/\s.length<=5/\s.length%2=1/\cy s.length (-100) 100 s=0:=by
 unfold jY at h
 grind
def NG {n:Nat}:∀{l:List (List Int)},(∀r,r∈l->r.length=n)->cy n (-1000) 1000 l=if jM l=true then 3 else 0
 | [],_=>rfl
 | r::l,h=>by
  have ih:=NG (l:=l) (fun r hr=>h r (by simp [hr]));have h1:=h r (by simp);simp only [cy,h1,uH,wq,yG,jM,ih]
  grind
def qZ {n:Nat} (f:Nat->Nat->Int):bK (eS (fun c r=>aa (f c r)) n) (dK n f):=by
 have h1:eS (fun c r=>aa (f c r)) n= .aC true n ((yR n).map fun r=> .aC true n (((yR n).map fun c=>f c r).map aa)):=by
  simp only [eS,List.map_map];rfl
 refine ⟨(yR n).map fun r=> .aC true n (((yR n).map fun c=>f c r).map aa),?_,?_⟩
 ·rw [h1]
  have:=A8 true ((yR n).map fun r=>AV.aC true n (((yR n).map fun c=>f c r).map aa))
  grind
 ·have:∀m:List Nat,gr aX (m.map fun r=>AV.aC true n (((yR n).map fun c=>f c r).map aa)) (m.map fun r=>(yR n).map fun c=>f c r):=by
   intro m
   induction m with
   | nil=>trivial
   | cons r m ih=>
    refine ⟨?_,ih⟩
    have:=fM true ((yR n).map fun c=>f c r)
    grind
  exact this _
def s9 (h:SmP P L) {v w:AV} {s k:List (List Int)} (hv:bK v s) (hw:bK w k) (hl:s.length<=1000000) (hr:∀i (hi:i<s.length),s[i].length<=1000000) (pX:k.length<=1000000) (dj:∀i (hi:i<k.length),k[i].length<=1000000):
  (bM [cF s,jY k]≠0->an P L 9 [v,w] (.ay [.ab,aa (bM [cF s,jY k])]))/\
  (bM [cF s,jY k]=0->an P L 9 [v,w] (if jM (ze s k s.length s.length)=true then .ay [.ab,aa 4] else .ay [eS (fun c r=>aa (gI s k c r)) s.length,aa 0])):=by
 have e4:=s4 h.toSq hv hl hr;have Lh:=KO h.toSq hw pX dj (m:=100) (by decide) (by decide);have oD:∀a b c d e:Int,an P L 33 [.aC true 5 [.int .i64 a,.int .i64 b,.int .i64 c,.int .i64 d,.int .i64 e]] (aa (bM [a,b,c,d,e])):=fun a b c d e=>sa h.p6 (fM true [a,b,c,d,e]) (by simp)
 have eH:(2:Int)≠0:=by decide
 have jT:(k.length:Int).tmod 2=(k.length%2:Nat):=by rw [yT (by omega)];rfl
 have oz:(k.length:Int).tdiv 2=(k.length/2:Nat):=by rw [xu (by omega)];rfl
 have hE:bM [cF s,if decide ((k.length:Int)=0)=true then 12 else 0,if decide ((5:Int)<k.length)=true then 5 else 0,if decide (((k.length%2:Nat):Int)=0)=true then 2 else 0,cy k.length (-100) 100 k]=bM [cF s,jY k]:=by
  unfold jY;by_cases h1:k.length=0
  ·simp [h1,bM]
  ·by_cases h2:5<k.length
   ·simp [h1,h2,bM,show (5:Int)<k.length by omega]
   ·by_cases h3:k.length%2=0
    ·simp only [h1,h2,h3,bM,show ¬(k.length:Int)=0 by omega,show ¬(5:Int)<k.length by omega,show ((0:Nat):Int)=0 from rfl,yF,yE,yt,yG,yQ]
     split<;>simp_all
    ·simp only [h1,h2,h3,bM,show ¬(k.length:Int)=0 by omega,show ¬(5:Int)<k.length by omega,show ¬((k.length%2:Nat):Int)=0 by omega,yF,yt,yG,yQ]
 unfold an at e4 Lh oD ⊢;constructor
 ·intro fZ;rw [aT h.h9];simp only [go_sem,ya,yc,yj,yd,yh,c9,hv.pu,hv.aE,hv.one,hv.cells,hw.len,hw.pu,hw.aE,hw.one,hw.cells,e4,Lh,oD,jU h.eD,dw _ _ _ eH,jT,hE,fZ]
 ·intro h0;have kT:cF s=0:=by
   simp only [bM] at h0
   split at h0
   ·assumption
   ·assumption
  have J8:jY k=0:=by
   simp only [bM,kT,yQ] at h0
   split at h0
   ·assumption
   ·assumption
  obtain ⟨a1,a2,a3⟩:=oE kT;obtain ⟨b1,b2,b3,b4⟩:=LC J8;have As:=OB h.toBuT a1 (by omega) (g:=41) (cap:=[.aO [w],.aO [v],.aO [aa (k.length/2:Nat)]]) (val:=fun c r=>aa (gI s k c r)) (by rfl) (fun _ _=>rfl) (fun _ _=>rfl) (fun _ _=>rfl) (fun c r hc hr=>s41 h hv hw rfl a1 a2 a3 rfl b1 b2 b4 hc hr);have hT:=qZ (n:=s.length) (fun c r=>gI s k c r);have UN:=KO h.toSq hT (by rw [gY];omega) (fun i hi=>by
   rw [gY] at hi;rw [sW hi];simp;omega) (m:=1000) (by decide) (by decide)
  rw [gY,show dK s.length (fun c r=>gI s k c r)=ze s k s.length s.length from rfl,NG (fun r hr=>by
   simp only [ze,List.mem_map] at hr;obtain ⟨i,_,rfl⟩:=hr
   simp [ZH])] at UN
  rw [aT h.h9]
  simp only [go_sem,ya,yc,yj,yd,yh,c9,hv.len,hv.pu,hv.aE,hv.one,hv.cells,hw.len,hw.pu,hw.aE,hw.one,hw.cells,e4,Lh,oD,jU h.eD,dw _ _ _ eH,jT,hE,h0,er _ _ _ eH,oz,wrapN (n:=k.length/2) (by omega),As,hT.aE,hT.shut,UN]
  cases hb:jM (ze s k s.length s.length) with
  | true=>simp only [go_sem,ya,yQ,wK]
  | false=>simp only [go_sem,ya,yt,yG,eS]
def DO {b x:Nat} {H:Hp} (hx:x<b):∀{dH:Hp},(∀p,p∈dH->b<=p.1)->aj (dH++H) x=aj H x
 | [],_=>rfl
 | (id,o)::r,h=>by
  have:=h (id,o) (by simp)
  simp only [yH];rw [aj,ck (by simp only at this;omega),yu,DO hx (fun p hp=>h p (by simp [hp]))]
def NH {b x:Nat} {H:Hp} {o':Obj} (hx:x<b):∀{dH:Hp},(∀p,p∈dH->b<=p.1)->aW (dH++H) x o'=dH++aW H x o'
 | [],_=>rfl
 | (id,o)::r,h=>by
  have:=h (id,o) (by simp)
  simp only [yH];rw [aW,ck (by simp only at this;omega),yu,NH hx (fun p hp=>h p (by simp [hp]))]
def gF (v:AV) (w:List Int) (junk:List AV) (x:Int):Hp:=[(3,.cells true true true 1 [aa x]),(2,.cells true true true 1 [aa (b6 w)]),(1,.cells false true true 1 junk),(0,.cells true true true 1 [v])]
def NI {v:AV} {w:List Int} {junk:List AV} {x:Int} {B:Nat} (h:4<=B):fO B B (gF v w junk x):=⟨by omega,.inl rfl,by omega,.inl rfl,by omega,.inl rfl,by omega,.inl rfl,trivial⟩
def OC {v:AV} {w:List Int} {junk:List AV} {x:Int} {B:Nat}:b7 B (gF v w junk x)=[]:=by
 simp only [gF,b7,dC,ym,xE]
 grind
def s39 (h:Has P L 39 CO) {v:AV} {w:List Int} (hv:aX v w) (hw:w.length<=33) (ho:bA 0 1000 w=false) (hs:0<b6 w) {junk:List AV} {x:Int} (hx:0<=x/\x<=2147483646) (c r:Int) {dH:Hp} {ct:Nat} (hm:∀p,p∈dH->4<=p.1) (dU:4<=ct)
  (hb:fO ct ct dH) (hr:(b7 ct dH).length<=5000):
  cw P L (D P L) (dH++gF v w junk x) ct .dyn (.fn (.f 39) [] [.ptr 3 0,.ptr 2 0,.ptr 0 0]) [aa c,aa r]=some (aa ((kC w (jk x%b6 w):Int)-(w.length/2:Nat)),dH++gF v w junk (jk x),ct):=by
 have Li:=LU x;have lX:(39373*x).tmod 2147483647=jk x:=by rw [yT (by omega)];rfl
 have jT:(jk x).tmod (b6 w)=jk x%b6 w:=by rw [yT (by omega)]
 have jP:(2147483647:Int)≠0:=by decide
 have eH:b6 w≠0:=by omega
 have Cw:(2:Int)≠0:=by decide
 have oz:(w.length:Int).tdiv 2=(w.length/2:Nat):=by rw [xu (by omega)];rfl
 generalize ht:jk x%b6 w=t at jT ⊢;have KZ:0<=t:=by rw [<-ht];exact Int.emod_nonneg _ eH
 have FX:t<b6 w:=by rw [<-ht];exact Int.emod_lt_of_pos _ hs
 have hp:=Ok FX KZ;have g0:∀x,aj (dH++gF v w junk x) 0=some (.cells true true true 1 [v]):=fun x=>DO (by omega) hm
 have g2:∀x,aj (dH++gF v w junk x) 2=some (.cells true true true 1 [aa (b6 w)]):=fun x=>DO (by omega) hm
 have g3:∀x,aj (dH++gF v w junk x) 3=some (.cells true true true 1 [aa x]):=fun x=>DO (by omega) hm
 have s3:∀x y,aW (dH++gF v w junk x) 3 (.cells true true true 1 [.int .i64 y])=dH++gF v w junk y:=fun x y=>NH (by omega) hm
 have gw:∀(live:List Nat) (tm:Env) (x:Int) (aK:Nat),gK ct (cz tm live)->(dB (cz tm live)).length<=1000->bw live ⟨tm,dH++gF v w junk x,aK,ct⟩=⟨cz tm live,dH++gF v w junk x,ct,ct⟩:=fun live tm x aK h1 h2=>
  G0 h1 (Hj hb (NI dU)) (by rw [G1,OC,xI];omega)
 have key:=cG (P:=P) (L:=L) (live:=[4,8,9,18,19,20]) (a:=BO)
  (I:=fun k st=>∃i:Nat,st=⟨[(4,.ptr 0 0),(8,aa (t-b6 (w.take i))),(9,aa 0),(18,v),(19,aa w.length),(20,aa i)],dH++gF v w junk (jk x),ct,ct⟩/\i+k=w.length/\∀j,j<i->b6 (w.take (j+1))<=t)
  (Q:=fun ex st=>∃tm aK,st=⟨tm,dH++gF v w junk (jk x),aK,ct⟩/\ex= .exit 0/\ah tm 9=aa ((kC w t:Int)-(w.length/2:Nat))) ?_
 ·have hnp:ax ([]++([aa c,aa r]++[AV.ptr 3 0,.ptr 2 0,.ptr 0 0]))=false:=rfl;simp only [cw,hnp,yu];have dR:∃tm,D P L CO.body ⟨eE 0 ([]++([aa c,aa r]++[AV.ptr 3 0,.ptr 2 0,.ptr 0 0])),dH++gF v w junk x,ct,ct⟩=some (.ret,⟨tm,dH++gF v w junk (jk x),ct,ct⟩)/\ah tm 7=aa ((kC w t:Int)-(w.length/2:Nat)):=by
   simp only [go_sem,ya,CO,hv.len,g0,g2,g3,s3,wrap64 (n:=39373*x) (by omega) (by omega),dw _ _ _ jP,lX,dw _ _ _ eH,jT];generalize hq:D P L (.loop [4,8,9,18,19,20] BO) _=q;obtain ⟨ex,st,rfl,tm,aK,rfl,rfl,h9⟩:=cm hq (key w.length) ⟨0,by
    rw [gw]
    ·simp only [go_sem,ya,List.take_zero,b6,Int.sub_zero];rfl
    ·simp only [go_sem,ya];exact ⟨by show 0<ct;omega,trivial,trivial,mi hv.pu,trivial,trivial,trivial⟩
    ·simp only [go_sem,ya,yc,yd,aP hv.pu],by omega,fun j hj=>absurd hj (by omega)⟩
   rw [Ei,jB,Fx,gw]
   ·simp only [go_sem,h9];exact ⟨_,rfl,by simp only [go_sem]⟩
   ·simp only [go_sem,h9];exact ⟨trivial,trivial⟩
   ·simp only [go_sem,yd,h9]
  obtain ⟨tm,dR,h7⟩:=dR;exact sX h dR (.inr rfl) (by show fe _ [.t 7]=_;rw [Cd,BU,h7])
 ·rintro k st ⟨i,rfl,hk,hj⟩;have hi:i<w.length:=by
   by_cases hc:i<w.length
   ·exact hc
   ·exfalso
    have:=hj (i-1) (by omega)
    rw [List.take_of_length_le (by omega)] at this;omega
  have pV:=sL (HI ho i);have so:=sL ho;have hg:=sQ ho i hi;by_cases h1:t-b6 (w.take i)<w[i]
  ·right
   simp only [go_sem,ya,BO,hv.len,show (i:Int)<w.length by omega,hv.a7 hi,h1,g0,er _ _ _ Cw,oz,wrapN (n:=w.length/2) (by omega),wrap64 (n:=(i:Int)-(w.length/2:Nat)) (by omega) (by omega)];refine ⟨_,_,rfl,by simp,_,_,rfl,rfl,?_⟩;rw [abH hi hj (by rw [oK hi];omega)];simp only [go_sem]
  ·left
   simp only [go_sem,ya,BO,show (i:Int)<w.length by omega,hv.a7 hi,h1,wrap64 (n:=t-b6 (w.take i)-w[i]) (by omega) (by omega),show (i:Int)+1=((i+1:Nat):Int) from rfl,wrapN (n:=i+1) (by omega)];refine ⟨_,k-1,rfl,by omega,i+1,?_,by omega,?_⟩
   ·rw [gw]
    ·rw [oK hi];simp only [go_sem,ya,Int.sub_sub]
    ·simp only [go_sem,ya];exact ⟨by show 0<ct;omega,trivial,trivial,mi hv.pu,trivial,trivial,trivial⟩
    ·simp only [go_sem,ya,yc,yd,aP hv.pu]
   ·intro j jt;by_cases e:j=i
    ·subst e;rw [oK hi];omega
    ·exact hj j (by omega)
structure Wp (P:aA) (L:Lib):Prop extends SmP P L where
 h5:Has P L 5 c5
 jv:Has P L 34 ot
 h35:Has P L 35 F3
 h36:Has P L 36 F5
 h37:Has P L 37 F6
 KQ:Has P L 38 CN
 h39:Has P L 39 CO
def Yn {l:List Int}:bM (l.map fun x=>if x<0\/1000<x then 3 else 0)=if bA 0 1000 l=true then 3 else 0:=by
 induction l with
 | nil=>rfl
 | cons a r ih=>
  simp only [yV,bM,bA,ih]
  grind
def s5 (h:Wp P L) {v:AV} {w:List Int} (hv:aX v w) (hl:w.length<=1000000) (key side:Int):
  (jd key side w≠0->an P L 5 [aa key,aa side,v] (.ay [.ab,aa (jd key side w)]))/\
  (jd key side w=0->∃n:Nat,side=n/\0<n/\n<=16/\an P L 5 [aa key,aa side,v] (.ay [eS (fun c r=>aa (eF key w (r*n+c))) n,aa 0])):=by
 have oD:∀a b c d e:Int,an P L 33 [.aC true 5 [.int .i64 a,.int .i64 b,.int .i64 c,.int .i64 d,.int .i64 e]] (aa (bM [a,b,c,d,e])):=fun a b c d e=>sa h.p6 (fM true [a,b,c,d,e]) (by simp)
 have eH:(2:Int)≠0:=by decide
 have jT:(w.length:Int).tmod 2=(w.length%2:Nat):=by rw [yT (by omega)];rfl
 obtain ⟨r35,GI,i35⟩:=s35 h.h35 hv hl (g:=36) (f:=fun x=>if x<0\/1000<x then 3 else 0) (fun x=>s36 h.h36 h.jv h.eD x);have ss:=sa h.p6 i35 (by simpa using hl);rw [Yn] at ss;have hE:bM [if key<1\/2147483646<key then 3 else 0,if side<1\/16<side then 3 else 0,if decide ((w.length:Int)=0)=true then 12 else 0,if decide ((33:Int)<w.length)=true then 5 else 0,if decide (((w.length%2:Nat):Int)=0)=true then 2 else 0]=
   if key<1\/2147483646<key then 3 else if side<1\/16<side then 3 else if w.length=0 then 12 else if 33<w.length then 5 else if w.length%2=0 then 2 else 0:=by
  by_cases h1:key<1\/2147483646<key
  ·simp [h1,bM]
  ·by_cases h2:side<1\/16<side
   ·simp [h1,h2,bM]
   ·by_cases h3:w.length=0
    ·simp [h1,h2,h3,bM]
    ·by_cases h4:33<w.length
     ·simp [h1,h2,h3,h4,bM,show (33:Int)<w.length by omega]
     ·by_cases h5:w.length%2=0
      ·simp [h1,h2,h3,h4,h5,bM,show ¬(33:Int)<w.length by omega]
      ·simp only [h1,h2,h3,h4,h5,bM,show ¬(33:Int)<w.length by omega,show ¬(w.length:Int)=0 by omega,show ¬((w.length%2:Nat):Int)=0 by omega,yF,yt,yG,yQ]
 unfold an at oD GI ss ⊢;generalize At:(if key<1\/2147483646<key then (3:Int) else if side<1\/16<side then 3 else if w.length=0 then 12 else if 33<w.length then 5 else if w.length%2=0 then 2 else 0)=E at hE;have mL:jd key side w=if E≠0 then E else if bA 0 1000 w=true then 3 else if b6 w=0 then 6 else 0:=by
  rw [<-At];unfold jd;by_cases h1:key<1\/2147483646<key
  ·simp [h1]
  ·by_cases h2:side<1\/16<side
   ·simp [h1,h2]
   ·by_cases h3:w.length=0
    ·simp [h1,h2,h3]
    ·by_cases h4:33<w.length
     ·simp [h1,h2,h3,h4]
     ·by_cases h5:w.length%2=0
      ·simp [h1,h2,h3,h4,h5]
      ·simp [h1,h2,h3,h4,h5]
 have anW:∀hp,freeze 998 hp (.fn (.f 36) [] [])=some (.fn (.f 36) [] [],hp):=fun hp=>by simp only [go_sem]
 by_cases h0:E≠0
 ·rw [yS h0] at mL;rw [mL];refine ⟨fun _=>?_,fun h=>absurd h h0⟩;rw [aT h.h5];simp only [go_sem,ya,yc,yj,yd,yh,c5,hv.len,hv.pu,hv.one,hv.cells,Ag h.jv h.eD,jU h.eD,dw _ _ _ eH,jT,oD,hE,h0]
 ·rw [yD h0] at mL;have GJ:E=0:=by omega
  by_cases h1:bA 0 1000 w=true
  ·rw [yS h1] at mL ss;rw [mL];refine ⟨fun _=>?_,fun h=>absurd h (by decide)⟩;rw [aT h.h5];simp only [go_sem,ya,yc,yj,yd,yh,c5,hv.len,hv.pu,hv.aE,hv.one,hv.cells,Ag h.jv h.eD,jU h.eD,dw _ _ _ eH,jT,oD,hE,GJ,GI,i35.aE,ss,wK]
  ·rw [yD h1] at mL ss;have ho:bA 0 1000 w=false:=by simpa using h1
   have RG:(1<=key/\key<=2147483646)/\(1<=side/\side<=16)/\w.length<=33:=by
    rw [GJ] at At;by_cases g1:key<1\/2147483646<key
    ·simp [g1] at At
    ·by_cases g2:side<1\/16<side
     ·simp [g1,g2] at At
     ·by_cases g3:w.length=0
      ·simp [g1,g2,g3] at At
      ·by_cases g4:33<w.length
       ·simp [g1,g2,g3,g4] at At
       ·omega
   have Lj:=s37 h.h37 h.KQ hv RG.2.2 ho;unfold an at Lj;by_cases h2:b6 w=0
   ·rw [yS h2] at mL;rw [mL];refine ⟨fun _=>?_,fun h=>absurd h (by decide)⟩;rw [aT h.h5];simp only [go_sem,ya,yc,yj,yd,yh,c5,hv.len,hv.pu,hv.aE,hv.one,hv.cells,Ag h.jv h.eD,jU h.eD,dw _ _ _ eH,jT,oD,hE,GJ,GI,i35.aE,ss,Lj,h2]
   ·rw [yD h2] at mL;rw [mL];refine ⟨fun h=>absurd rfl h,fun _=>?_⟩;have hb:=sL ho;obtain ⟨n,rfl⟩:∃n:Nat,side=n:=⟨side.toNat,by omega⟩;refine ⟨n,rfl,by omega,by omega,?_⟩;rw [aT h.h5];simp only [go_sem,ya,yc,yj,yd,yh,c5,hv.len,hv.pu,hv.aE,hv.one,hv.cells,Ag h.jv h.eD,jU h.eD,dw _ _ _ eH,jT,oD,hE,GJ,GI,i35.aE,ss,Lj,h2];generalize hj:[AV.int .i64 (if key<1\/2147483646<key then 3 else 0),_,_,_,_]=junk;have hf:BB P L 4 n (.fn (.f 39) [] [.ptr 3 0,.ptr 2 0,.ptr 0 0]) (fun c r=>aa (eF key w (r*n+c))) (fun k=>gF v w junk (mB key k)):=by
     refine ⟨by omega,fun k=>⟨⟨trivial,show 3<4 by omega,show 2<4 by omega,show 0<4 by omega,trivial⟩,by simp [refs,dh],rfl,NI (Nat.le_refl 4),fun B=>by rw [OC];simp⟩,fun _ _=>rfl,fun _ _=>rfl,fun c r hc hr dH ct hm dU hb qg=>?_⟩
     have hx:=Xs (key:=key) (by omega) (r*n+c)
     have:=s39 (P:=P) (L:=L) h.h39 hv RG.2.2 ho (by omega) (junk:=junk) hx c r hm dU hb qg
     rw [this];unfold eF;rw [Ye]
    obtain ⟨tm,ct,As,h4⟩:=NC (P:=P) (L:=L) h.toBuT (b:=4) (n:=n) (by omega) hf (fun p hp=>by
     simp only [gF,wc,tO,or_false] at hp
     rcases hp with rfl | rfl | rfl | rfl<;>simp)
    have nI:cw P L (D P L) [(3,.cells true true true 1 [.int .i64 key]),(2,.cells true true true 1 [.int .i64 (b6 w)]),(1,.cells false true true 1 junk),(0,.cells true true true 1 [v])] 4 .heap (.fn (.f 40) [] []) [aa n,.fn (.f 39) [] [.ptr 3 0,.ptr 2 0,.ptr 0 0]]=
      some (.aq (4+2) 0 n,gA 4 n (.fn (.f 39) [] [.ptr 3 0,.ptr 2 0,.ptr 0 0]) (fun c r=>aa (eF key w (r*n+c))) (gF v w junk (mB key (n*n))),ct):=
     sX (vals:=[aa n,.fn (.f 39) [] [.ptr 3 0,.ptr 2 0,.ptr 0 0]]) h.Wo As (.inr rfl) (by show fe _ [.t 4]=_;rw [Cd,BU,h4])
    rw [nI]
    simp only [go_sem,ya,yc,ZY (b:=4) (n:=n) (by omega) (by omega)]
end
end
end VE
