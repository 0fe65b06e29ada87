import Derived.Test.YtabhmepaflffeaaGreatDoorXah
import Derived.Test.YtabhmepaflffeaaGreatDoorXai
import Derived.Test.YtabhmepaflffeaaGreatDoorXaj
import Derived.Test.YtabhmepaflffeaaGreatDoorXak
import Derived.Test.YtabhmepaflffeaaGreatDoorXal
import Derived.Test.YtabhmepaflffeaaGreatDoorXam
import Derived.Test.YtabhmepaflffeaaGreatDoorXan
set_option linter.all false
set_option maxRecDepth 100000
namespace VE
namespace mH
def az7{O:bE}:jc O T0:=jc.nil
def Wj{p:Nat->bA->Prop}:∀(n:Nat) (l:List (Nat×bA)),(∀f e,(f,e)∈l->p f e)->(cw n l).nl p
 | 0,_,_=>aL
 | n+1,l,h=>by
  unfold cw
  split
  .exact aL
  .rename_i a r hd;have hs:∀x,x∈a::r->x∈l:=fun x hx=>List.mem_of_mem_drop (hd▸hx)
   exact aN (h a.1 a.2 (hs a List.mem_cons_self)) (Wj n _ fun f e q=>h f e (List.mem_of_mem_take q)) (Wj n _ fun f e q=>h f e (hs _ (List.mem_cons_of_mem _ q)))
def lv{O:bE}{P:aE}{L:Lib}(hO:jo O)(hp:O.prog=P)(hl:O.aK=L){T T':List (Tr bA)}{C:List (Nat×bA)}(hT:jc O T)(h:cz P L T C=true)(TC:jc O T'):jc O (cw 9 C::T'):=by
 subst hp;subst hl;exact jc.cons (Wj 9 C (chunk_ok hO hT h)) TC
section
variable {O:bE}(hO:jo O)(hp:O.prog=prog)(hl:O.aK=aK)
include hO hp hl
theorem az8:jc O T1:=have h:=az7;lv hO hp hl h az0 (lv hO hp hl h az1 (lv hO hp hl h az4 (lv hO hp hl h azX (lv hO hp hl h az2 (lv hO hp hl h az5 (lv hO hp hl h azY (lv hO hp hl h az3 (lv hO hp hl h az6 (lv hO hp hl h azZ (lv hO hp hl h awz (lv hO hp hl h awG (lv hO hp hl h awO (lv hO hp hl h awl h)))))))))))))
theorem az9:jc O T2:=have h:=az8 hO hp hl;lv hO hp hl h awf (lv hO hp hl h aws (lv hO hp hl h awA (lv hO hp hl h awH (lv hO hp hl h awP (lv hO hp hl h awm (lv hO hp hl h awg (lv hO hp hl h awt (lv hO hp hl h awB (lv hO hp hl h awI (lv hO hp hl h awQ h))))))))))
theorem aAa:jc O T3:=have h:=az9 hO hp hl;lv hO hp hl h awn (lv hO hp hl h awh (lv hO hp hl h awu (lv hO hp hl h awi (lv hO hp hl h awo (lv hO hp hl h awC (lv hO hp hl h awj (lv hO hp hl h awJ (lv hO hp hl h awv (lv hO hp hl h awD h)))))))))
theorem aAb:jc O T4:=have h:=aAa hO hp hl;lv hO hp hl h awK (lv hO hp hl h awR (lv hO hp hl h awp (lv hO hp hl h awk h)))
theorem aAc:jc O T5:=have h:=aAb hO hp hl;lv hO hp hl h aww (lv hO hp hl h awE (lv hO hp hl h awL h))
theorem aAd:jc O T6:=have h:=aAc hO hp hl;lv hO hp hl h awe (lv hO hp hl h awM (lv hO hp hl h awS (lv hO hp hl h awx (lv hO hp hl h awF (lv hO hp hl h awT (lv hO hp hl h awN (lv hO hp hl h awq (lv hO hp hl h awU (lv hO hp hl h awr (lv hO hp hl h awy h))))))))))
theorem aAe:jc O T7:=have h:=aAd hO hp hl;lv hO hp hl h awV h
theorem holds:eR O 637 [] (.bool true):=Tr.EU (aAe hO hp hl (cw 9 k38) (.head _)) (i:=637) rfl _ _ ⟨_,.head _,.inl rfl⟩
end
end mH
end VE
