import Derived.Test.YtnilidoboioodaaGreatDoorTal
import Derived.Test.YtnilidoboioodaaGreatDoorTam
import Derived.Test.YtnilidoboioodaaGreatDoorTan
import Derived.Test.YtnilidoboioodaaGreatDoorTao
import Derived.Test.YtnilidoboioodaaGreatDoorTap
import Derived.Test.YtnilidoboioodaaGreatDoorTaq
import Derived.Test.YtnilidoboioodaaGreatDoorTar
set_option linter.all false
set_option maxRecDepth 100000
namespace VE
namespace iV
def ak8 {O:bh}:ff O T0:=ff.nil
def MB {p:Nat->bf->Prop}:∀(n:Nat) (l:List (Nat×bf)),(∀f e,(f,e)∈l->p f e)->(bO n l).jm p
 | 0,_,_=>aL
 | n+1,l,h=>by
  unfold bO
  split
  ·exact aL
  ·rename_i a r hd;have hs:∀x,x∈a::r->x∈l:=fun x hx=>List.mem_of_mem_drop (hd▸hx)
   exact aN (h a.1 a.2 (hs a List.mem_cons_self)) (MB n _ fun f e q=>h f e (List.mem_of_mem_take q)) (MB n _ fun f e q=>h f e (hs _ (List.mem_cons_of_mem _ q)))
def lv {O:bh} {P:aR} {L:Lib} (hO:fw O) (hp:O.prog=P) (hl:O.aG=L) {T T':List (Tr bf)} {C:List (Nat×bf)} (hT:ff O T) (h:bU P L T C=true) (Kx:ff O T'):ff O (bO 9 C::T'):=by
 subst hp;subst hl;exact ff.cons (MB 9 C (chunk_ok hO hT h)) Kx
section
variable {O:bh} (hO:fw O) (hp:O.prog=prog) (hl:O.aG=aG)
include hO hp hl
theorem ak9:ff O T1:=have h:=ak8;lv hO hp hl h ak1 (lv hO hp hl h ak2 (lv hO hp hl h ak5 (lv hO hp hl h akY (lv hO hp hl h ak3 (lv hO hp hl h ak6 (lv hO hp hl h akZ (lv hO hp hl h ak4 (lv hO hp hl h ak7 (lv hO hp hl h ak0 (lv hO hp hl h aio (lv hO hp hl h aiv (lv hO hp hl h aiD (lv hO hp hl h ah9 h)))))))))))))
theorem ala:ff O T2:=have h:=ak9 hO hp hl;lv hO hp hl h ah3 (lv hO hp hl h aih (lv hO hp hl h aip (lv hO hp hl h aiw (lv hO hp hl h aiE (lv hO hp hl h aia (lv hO hp hl h ah4 (lv hO hp hl h aii (lv hO hp hl h aiq (lv hO hp hl h aix (lv hO hp hl h aiF h))))))))))
theorem alb:ff O T3:=have h:=ala hO hp hl;lv hO hp hl h aib (lv hO hp hl h ah5 (lv hO hp hl h aij (lv hO hp hl h ah6 (lv hO hp hl h aic (lv hO hp hl h air (lv hO hp hl h ah7 (lv hO hp hl h aiy (lv hO hp hl h aik (lv hO hp hl h ais h)))))))))
theorem alc:ff O T4:=have h:=alb hO hp hl;lv hO hp hl h aiz (lv hO hp hl h aiG (lv hO hp hl h aid (lv hO hp hl h ah8 h)))
theorem ald:ff O T5:=have h:=alc hO hp hl;lv hO hp hl h ail (lv hO hp hl h ait (lv hO hp hl h aiA h))
theorem ale:ff O T6:=have h:=ald hO hp hl;lv hO hp hl h ah2 (lv hO hp hl h aiB (lv hO hp hl h aiH (lv hO hp hl h aim (lv hO hp hl h aiu (lv hO hp hl h aiI (lv hO hp hl h aiC (lv hO hp hl h aie (lv hO hp hl h aiJ (lv hO hp hl h aif (lv hO hp hl h ain h))))))))))
theorem alf:ff O T7:=have h:=ale hO hp hl;lv hO hp hl h aiK h
theorem holds:dG O 637 [] (.bool true):=Tr.zL (alf hO hp hl (bO 9 PI) (.head _)) (i:=637) rfl _ _ ⟨_,.head _,.inl rfl⟩
end
end iV
end VE
