import Derived.Test.YtebpicijmcnecaaGreatDoorTah
import Derived.Test.YtebpicijmcnecaaGreatDoorTai
import Derived.Test.YtebpicijmcnecaaGreatDoorTaj
import Derived.Test.YtebpicijmcnecaaGreatDoorTak
import Derived.Test.YtebpicijmcnecaaGreatDoorTal
import Derived.Test.YtebpicijmcnecaaGreatDoorTam
import Derived.Test.YtebpicijmcnecaaGreatDoorTan
set_option linter.all false
set_option maxRecDepth 100000
namespace VE
namespace lP
def axa{O:bA}:hZ O T0:=hZ.nil
def Uj{p:Nat->bt->Prop}:∀(n:Nat) (l:List (Nat×bt)),(∀f e,(f,e)∈l->p f e)->(cm n l).mu p
 | 0,_,_=>aL
 | n+1,l,h=>by
  unfold cm
  split
  .exact aL
  .rename_i a r hd;have hs:∀x,x∈a::r->x∈l:=fun x hx=>List.mem_of_mem_drop (hd▸hx)
   exact aN (h a.1 a.2 (hs a List.mem_cons_self)) (Uj n _ fun f e q=>h f e (List.mem_of_mem_take q)) (Uj n _ fun f e q=>h f e (hs _ (List.mem_cons_of_mem _ q)))
def lv{O:bA}{P:aF}{L:Lib}(hO:iy O)(hp:O.prog=P)(hl:O.aI=L){T T':List (Tr bt)}{C:List (Nat×bt)}(hT:hZ O T)(h:cw P L T C=true)(Ru:hZ O T'):hZ O (cm 9 C::T'):=by
 subst hp;subst hl;exact hZ.cons (Uj 9 C (chunk_ok hO hT h)) Ru
section
variable {O:bA}(hO:iy O)(hp:O.prog=prog)(hl:O.aI=aI)
include hO hp hl
theorem axb:hZ O T1:=have h:=axa;lv hO hp hl h aw3 (lv hO hp hl h aw4 (lv hO hp hl h aw7 (lv hO hp hl h aw0 (lv hO hp hl h aw5 (lv hO hp hl h aw8 (lv hO hp hl h aw1 (lv hO hp hl h aw6 (lv hO hp hl h aw9 (lv hO hp hl h aw2 (lv hO hp hl h atw (lv hO hp hl h atE (lv hO hp hl h atM (lv hO hp hl h ati h)))))))))))))
theorem axc:hZ O T2:=have h:=axb hO hp hl;lv hO hp hl h atc (lv hO hp hl h atp (lv hO hp hl h atx (lv hO hp hl h atF (lv hO hp hl h atN (lv hO hp hl h atj (lv hO hp hl h atd (lv hO hp hl h atq (lv hO hp hl h aty (lv hO hp hl h atG (lv hO hp hl h atO h))))))))))
theorem axd:hZ O T3:=have h:=axc hO hp hl;lv hO hp hl h atk (lv hO hp hl h ate (lv hO hp hl h atr (lv hO hp hl h atf (lv hO hp hl h atl (lv hO hp hl h atz (lv hO hp hl h atg (lv hO hp hl h atH (lv hO hp hl h ats (lv hO hp hl h atA h)))))))))
theorem axe:hZ O T4:=have h:=axd hO hp hl;lv hO hp hl h atI (lv hO hp hl h atP (lv hO hp hl h atm (lv hO hp hl h ath h)))
theorem axf:hZ O T5:=have h:=axe hO hp hl;lv hO hp hl h att (lv hO hp hl h atB (lv hO hp hl h atJ h))
theorem axg:hZ O T6:=have h:=axf hO hp hl;lv hO hp hl h atb (lv hO hp hl h atK (lv hO hp hl h atQ (lv hO hp hl h atu (lv hO hp hl h atD (lv hO hp hl h atS (lv hO hp hl h atL (lv hO hp hl h atn (lv hO hp hl h atT (lv hO hp hl h ato (lv hO hp hl h atv h))))))))))
theorem axh:hZ O T7:=have h:=axg hO hp hl;lv hO hp hl h atU h
theorem holds:et O 637 [] (.bool true):=Tr.DQ (axh hO hp hl (cm 9 Yr) (.head _)) (i:=637) rfl _ _ ⟨_,.head _,.inl rfl⟩
end
end lP
end VE
