import Derived.Test.YtebpicijmcnecaaGreatDoorWah
import Derived.Test.YtebpicijmcnecaaGreatDoorWai
import Derived.Test.YtebpicijmcnecaaGreatDoorWaj
import Derived.Test.YtebpicijmcnecaaGreatDoorWak
import Derived.Test.YtebpicijmcnecaaGreatDoorWal
import Derived.Test.YtebpicijmcnecaaGreatDoorWam
import Derived.Test.YtebpicijmcnecaaGreatDoorWan
set_option linter.all false
set_option maxRecDepth 100000
namespace VE
namespace lY
def axh{O:bq}:iy O T0:=iy.nil
def Ur{p:Nat->bn->Prop}:∀(n:Nat) (l:List (Nat×bn)),(∀f e,(f,e)∈l->p f e)->(cw n l).mF p
 | 0,_,_=>aL
 | n+1,l,h=>by
  unfold cw
  split
  .exact aL
  .rename_i a r hd;have hs:∀x,x∈a::r->x∈l:=fun x hx=>List.mem_of_mem_drop (hd▸hx)
   exact aN (h a.1 a.2 (hs a List.mem_cons_self)) (Ur n _ fun f e q=>h f e (List.mem_of_mem_take q)) (Ur n _ fun f e q=>h f e (hs _ (List.mem_cons_of_mem _ q)))
def lv{O:bq}{P:aF}{L:Lib}(hO:iK O)(hp:O.prog=P)(hl:O.aI=L){T T':List (Tr bn)}{C:List (Nat×bn)}(hT:iy O T)(h:cz P L T C=true)(Ru:iy O T'):iy O (cw 9 C::T'):=by
 subst hp;subst hl;exact iy.cons (Ur 9 C (chunk_ok hO hT h)) Ru
section
variable {O:bq}(hO:iK O)(hp:O.prog=prog)(hl:O.aI=aI)
include hO hp hl
theorem axi:iy O T1:=have h:=axh;lv hO hp hl h axa (lv hO hp hl h axb (lv hO hp hl h axe (lv hO hp hl h aw7 (lv hO hp hl h axc (lv hO hp hl h axf (lv hO hp hl h aw8 (lv hO hp hl h axd (lv hO hp hl h axg (lv hO hp hl h aw9 (lv hO hp hl h atF (lv hO hp hl h atM (lv hO hp hl h atV (lv hO hp hl h atq h)))))))))))))
theorem axj:iy O T2:=have h:=axi hO hp hl;lv hO hp hl h atk (lv hO hp hl h atx (lv hO hp hl h atG (lv hO hp hl h atN (lv hO hp hl h atW (lv hO hp hl h atr (lv hO hp hl h atl (lv hO hp hl h aty (lv hO hp hl h atH (lv hO hp hl h atO (lv hO hp hl h atX h))))))))))
theorem axk:iy O T3:=have h:=axj hO hp hl;lv hO hp hl h ats (lv hO hp hl h atm (lv hO hp hl h atz (lv hO hp hl h atn (lv hO hp hl h att (lv hO hp hl h atI (lv hO hp hl h ato (lv hO hp hl h atP (lv hO hp hl h atA (lv hO hp hl h atJ h)))))))))
theorem axl:iy O T4:=have h:=axk hO hp hl;lv hO hp hl h atQ (lv hO hp hl h atY (lv hO hp hl h atu (lv hO hp hl h atp h)))
theorem axm:iy O T5:=have h:=axl hO hp hl;lv hO hp hl h atB (lv hO hp hl h atK (lv hO hp hl h atS h))
theorem axn:iy O T6:=have h:=axm hO hp hl;lv hO hp hl h atj (lv hO hp hl h atT (lv hO hp hl h atZ (lv hO hp hl h atD (lv hO hp hl h atL (lv hO hp hl h at0 (lv hO hp hl h atU (lv hO hp hl h atv (lv hO hp hl h at1 (lv hO hp hl h atw (lv hO hp hl h atE h))))))))))
theorem axo:iy O T7:=have h:=axn hO hp hl;lv hO hp hl h at2 h
theorem holds:eD O 637 [] (.bool true):=Tr.Eh (axo hO hp hl (cw 9 Yc) (.head _)) (i:=637) rfl _ _ ⟨_,.head _,.inl rfl⟩
end
end lY
end VE
