import Derived.Test.YtmacbdacedfedaaGreatDoorTah
import Derived.Test.YtmacbdacedfedaaGreatDoorTai
import Derived.Test.YtmacbdacedfedaaGreatDoorTaj
import Derived.Test.YtmacbdacedfedaaGreatDoorTak
import Derived.Test.YtmacbdacedfedaaGreatDoorTal
import Derived.Test.YtmacbdacedfedaaGreatDoorTam
import Derived.Test.YtmacbdacedfedaaGreatDoorTan
set_option linter.all false
set_option maxRecDepth 100000
namespace VE
namespace lj
def avX{O:bl}:gW O T0:=gW.nil
def S7{p:Nat->bk->Prop}:∀(n:Nat) (l:List (Nat×bk)),(∀f e,(f,e)∈l->p f e)->(bW n l).lZ p
 | 0,_,_=>aL
 | n+1,l,h=>by
  unfold bW
  split
  .exact aL
  .rename_i a r hd;have hs:∀x,x∈a::r->x∈l:=fun x hx=>List.mem_of_mem_drop (hd▸hx)
   exact aN (h a.1 a.2 (hs a List.mem_cons_self)) (S7 n _ fun f e q=>h f e (List.mem_of_mem_take q)) (S7 n _ fun f e q=>h f e (hs _ (List.mem_cons_of_mem _ q)))
def lv{O:bl}{P:aF}{L:Lib}(hO:iw O)(hp:O.prog=P)(hl:O.aI=L){T T':List (Tr bk)}{C:List (Nat×bk)}(hT:gW O T)(h:b9 P L T C=true)(Qb:gW O T'):gW O (bW 9 C::T'):=by
 subst hp;subst hl;exact gW.cons (S7 9 C (chunk_ok hO hT h)) Qb
section
variable {O:bl}(hO:iw O)(hp:O.prog=prog)(hl:O.aI=aI)
include hO hp hl
theorem avY:gW O T1:=have h:=avX;lv hO hp hl h avQ (lv hO hp hl h avR (lv hO hp hl h avU (lv hO hp hl h avN (lv hO hp hl h avS (lv hO hp hl h avV (lv hO hp hl h avO (lv hO hp hl h avT (lv hO hp hl h avW (lv hO hp hl h avP (lv hO hp hl h asq (lv hO hp hl h asy (lv hO hp hl h asH (lv hO hp hl h ar8 h)))))))))))))
theorem avZ:gW O T2:=have h:=avY hO hp hl;lv hO hp hl h ar2 (lv hO hp hl h asg (lv hO hp hl h ass (lv hO hp hl h asA (lv hO hp hl h asI (lv hO hp hl h ar9 (lv hO hp hl h ar3 (lv hO hp hl h ash (lv hO hp hl h ast (lv hO hp hl h asB (lv hO hp hl h asJ h))))))))))
theorem av0:gW O T3:=have h:=avZ hO hp hl;lv hO hp hl h asa (lv hO hp hl h ar4 (lv hO hp hl h asi (lv hO hp hl h ar5 (lv hO hp hl h asb (lv hO hp hl h asu (lv hO hp hl h ar6 (lv hO hp hl h asC (lv hO hp hl h asj (lv hO hp hl h asv h)))))))))
theorem av1:gW O T4:=have h:=av0 hO hp hl;lv hO hp hl h asD (lv hO hp hl h asK (lv hO hp hl h asd (lv hO hp hl h ar7 h)))
theorem av2:gW O T5:=have h:=av1 hO hp hl;lv hO hp hl h asl (lv hO hp hl h asw (lv hO hp hl h asE h))
theorem av3:gW O T6:=have h:=av2 hO hp hl;lv hO hp hl h ar1 (lv hO hp hl h asF (lv hO hp hl h asL (lv hO hp hl h aso (lv hO hp hl h asx (lv hO hp hl h asM (lv hO hp hl h asG (lv hO hp hl h ase (lv hO hp hl h asP (lv hO hp hl h asf (lv hO hp hl h asp h))))))))))
theorem av4:gW O T7:=have h:=av3 hO hp hl;lv hO hp hl h asQ h
theorem holds:dZ O 637 [] (.bool true):=Tr.DI (av4 hO hp hl (bW 9 WY) (.head _)) (i:=637) rfl _ _ ⟨_,.head _,.inl rfl⟩
end
end lj
end VE
