import Derived.Test.YtnilidoboioodaaGreatDoorTaz
import Derived.Test.YtnilidoboioodaaGreatDoorTbb
import Derived.Test.YtnilidoboioodaaGreatDoorTat
import Derived.Test.YtnilidoboioodaaGreatDoorTay
set_option linter.all false
set_option maxRecDepth 100000
namespace VE
open Go (IntKind)
abbrev Fz:Ty:= .ar 2 .str
abbrev EI:List Ty:=[.sl Fz,.sl Fz]
def aft {l:List AV} (h:lh Fz l):∃x y:List Nat,l=[.str x,.str y]/\x.length<9223372036854775808/\y.length<9223372036854775808:=by
 obtain ⟨ps,h1,rfl,h2⟩:=h
 match ps,h1 with
 | [a,b],_=>
  obtain ⟨x,rfl,hx,_⟩:=h2 a (by simp);obtain ⟨y,rfl,hy,_⟩:=h2 b (by simp);exact ⟨x,y,rfl,hx,hy⟩
def RL:∀{ps:List (List AV)},(∀p,p∈ps->lh Fz p)->∃l:List cO,ps=l.map dY/\∀p,p∈l->p.1.length<9223372036854775808/\p.2.length<9223372036854775808
 | [],_=>⟨[],rfl,(fun _ h=>by cases h)⟩
 | p::ps,h=>by
  obtain ⟨x,y,rfl,hx,hy⟩:=aft (h p List.mem_cons_self);obtain ⟨l,h1,h2⟩:=RL (ps:=ps) (fun q hq=>h q (List.mem_cons_of_mem _ hq));refine ⟨(x,y)::l,by rw [h1];rfl,fun q hq=>?_⟩
  rcases List.mem_cons.1 hq with rfl | hq
  ·exact ⟨hx,hy⟩
  ·exact h2 q hq
def SE {l:List AV} (h:lh (.sl Fz) l):∃(v:AV) (m:List cO),l=[v]/\eL v m/\∀p,p∈m->p.1.length<9223372036854775808/\p.2.length<9223372036854775808:=by
 rcases h with rfl | ⟨x,ps,rfl,h⟩
 ·exact ⟨_,[],rfl,afr,fun _ h=>by cases h⟩
 ·obtain ⟨m,rfl,h2⟩:=RL h
  exact ⟨_,m,rfl,Ux x (fun p hp=>by obtain ⟨a,_,rfl⟩:=List.mem_map.1 hp;rfl),h2⟩
def aaI {P:aR} {L:Lib} (h:Mq P L) {ls:List (List AV)} (hs:AJ lh EI ls):ai P L 754 (Fw EI ls) (.bool true):=by
 obtain ⟨_,_,rfl,h1,h2⟩:=ako hs;obtain ⟨v,l,rfl,hv,bl⟩:=SE h1;obtain ⟨w,m,rfl,hw,bm⟩:=SE h2;exact abA h hv hw bl bm
namespace J2
open Go Go.Proofs
def T:List (Tr bf):=[.n 637 [.o 7 [] (.bool true)] .l .l]
def L0:VE.Lib:=M9 VE.aG 99 IN
def L1:VE.Lib:=Jx L0 T 1000
def nu:Nu VE.prog VE.aG:=by
 repeat' (first | rfl | constructor)
def lw:Mq VE.prog L1:=by
 repeat' (first | rfl | constructor)
section
variable {W:World} {m:Int} (hm:W.cell? ⟨4,0,none⟩=some (.int .i64 m)) (ht:Go.Lib.TabIs Tryz.prog W "internal/strconv.uint64pow10" .u64 Go.Lib.pow10Tab)
include hm ht
theorem linked:fw ((J1.O W).pK L1):=by
 have hO:=J1.af6 hm ht;have hs:=ac8 hO nu rfl rfl rfl ⟨rfl,rfl,rfl⟩ (fn:=Tryz.f177) (c:=sN) Tryz.func177 rfl rfl trivial afh;have hT:ff (J1.O W) T:=ff.cons (Tr.iw (jH.one (iV.holds hO rfl rfl)) Tr.gI Tr.gI) ff.nil;exact Ub (ac9 hO hs) hT 1000
theorem law {ls:List (List AV)} (hs:AJ lh EI ls):dG (J1.O W) 754 (Fw EI ls) (.bool true):=by
 obtain ⟨k,hk⟩:=UL (aaI lw hs);exact sound (linked hm ht) hk
end
end J2
end VE
