import Derived.Test.YtebpicijmcnecaaGreatDoorUah
import Derived.Test.YtebpicijmcnecaaGreatDoorUai
import Derived.Test.YtebpicijmcnecaaGreatDoorUaj
import Derived.Test.YtebpicijmcnecaaGreatDoorUak
import Derived.Test.YtebpicijmcnecaaGreatDoorUal
import Derived.Test.YtebpicijmcnecaaGreatDoorUam
import Derived.Test.YtebpicijmcnecaaGreatDoorUan
set_option linter.all false
set_option maxRecDepth 100000
namespace VE
namespace kE
def atk{O:bk}:fT O T0:=fT.nil
def Q3{p:Nat->bj->Prop}:∀(n:Nat) (l:List (Nat×bj)),(∀f e,(f,e)∈l->p f e)->(bT n l).kU p
 | 0,_,_=>aL
 | n+1,l,h=>by
  unfold bT
  split
  .exact aL
  .rename_i a r hd;have hs:∀x,x∈a::r->x∈l:=fun x hx=>List.mem_of_mem_drop (hd▸hx)
   exact aN (h a.1 a.2 (hs a List.mem_cons_self)) (Q3 n _ fun f e q=>h f e (List.mem_of_mem_take q)) (Q3 n _ fun f e q=>h f e (hs _ (List.mem_cons_of_mem _ q)))
def lv{O:bk}{P:aE}{L:Lib}(hO:gC O)(hp:O.prog=P)(hl:O.aG=L){T T':List (Tr bj)}{C:List (Nat×bj)}(hT:fT O T)(h:bW P L T C=true)(OI:fT O T'):fT O (bT 9 C::T'):=by
 subst hp;subst hl;exact fT.cons (Q3 9 C (chunk_ok hO hT h)) OI
section
variable {O:bk}(hO:gC O)(hp:O.prog=prog)(hl:O.aG=aG)
include hO hp hl
theorem atl:fT O T1:=have h:=atk;lv hO hp hl h atd (lv hO hp hl h ate (lv hO hp hl h ath (lv hO hp hl h ata (lv hO hp hl h atf (lv hO hp hl h ati (lv hO hp hl h atb (lv hO hp hl h atg (lv hO hp hl h atj (lv hO hp hl h atc (lv hO hp hl h apP (lv hO hp hl h apW (lv hO hp hl h ap4 (lv hO hp hl h apB h)))))))))))))
theorem atm:fT O T2:=have h:=atl hO hp hl;lv hO hp hl h apv (lv hO hp hl h apI (lv hO hp hl h apQ (lv hO hp hl h apX (lv hO hp hl h ap5 (lv hO hp hl h apC (lv hO hp hl h apw (lv hO hp hl h apJ (lv hO hp hl h apR (lv hO hp hl h apY (lv hO hp hl h ap6 h))))))))))
theorem atn:fT O T3:=have h:=atm hO hp hl;lv hO hp hl h apD (lv hO hp hl h apx (lv hO hp hl h apK (lv hO hp hl h apy (lv hO hp hl h apE (lv hO hp hl h apS (lv hO hp hl h apz (lv hO hp hl h apZ (lv hO hp hl h apL (lv hO hp hl h apT h)))))))))
theorem ato:fT O T4:=have h:=atn hO hp hl;lv hO hp hl h ap0 (lv hO hp hl h ap7 (lv hO hp hl h apF (lv hO hp hl h apA h)))
theorem atp:fT O T5:=have h:=ato hO hp hl;lv hO hp hl h apM (lv hO hp hl h apU (lv hO hp hl h ap1 h))
theorem atq:fT O T6:=have h:=atp hO hp hl;lv hO hp hl h apu (lv hO hp hl h ap2 (lv hO hp hl h ap8 (lv hO hp hl h apN (lv hO hp hl h apV (lv hO hp hl h ap9 (lv hO hp hl h ap3 (lv hO hp hl h apG (lv hO hp hl h aqa (lv hO hp hl h apH (lv hO hp hl h apO h))))))))))
theorem atr:fT O T7:=have h:=atq hO hp hl;lv hO hp hl h aqb h
theorem holds:dL O 637 [] (.bool true):=Tr.CB (atr hO hp hl (bT 9 U9) (.head _)) (i:=637) rfl _ _ ⟨_,.head _,.inl rfl⟩
end
end kE
end VE
