import Derived.Test.YtcifahflapielaaGreatDoorWah
import Derived.Test.YtcifahflapielaaGreatDoorWai
import Derived.Test.YtcifahflapielaaGreatDoorWaj
import Derived.Test.YtcifahflapielaaGreatDoorWak
import Derived.Test.YtcifahflapielaaGreatDoorWal
import Derived.Test.YtcifahflapielaaGreatDoorWam
import Derived.Test.YtcifahflapielaaGreatDoorWan
set_option linter.all false
set_option maxRecDepth 100000
namespace VE
namespace lW
def axi{O:bz}:iq O T0:=iq.nil
def Vk{p:Nat->bn->Prop}:∀(n:Nat) (l:List (Nat×bn)),(∀f e,(f,e)∈l->p f e)->(cx n l).mB p
 | 0,_,_=>aL
 | n+1,l,h=>by
  unfold cx
  split
  .exact aL
  .rename_i a r hd;have hs:∀x,x∈a::r->x∈l:=fun x hx=>List.mem_of_mem_drop (hd▸hx)
   exact aN (h a.1 a.2 (hs a List.mem_cons_self)) (Vk n _ fun f e q=>h f e (List.mem_of_mem_take q)) (Vk n _ fun f e q=>h f e (hs _ (List.mem_cons_of_mem _ q)))
def lv{O:bz}{P:aG}{L:Lib}(hO:iH O)(hp:O.prog=P)(hl:O.aI=L){T T':List (Tr bn)}{C:List (Nat×bn)}(hT:iq O T)(h:cD P L T C=true)(SO:iq O T'):iq O (cx 9 C::T'):=by
 subst hp;subst hl;exact iq.cons (Vk 9 C (chunk_ok hO hT h)) SO
section
variable {O:bz}(hO:iH O)(hp:O.prog=prog)(hl:O.aI=aI)
include hO hp hl
theorem axj:iq O T1:=have h:=axi;lv hO hp hl h axb (lv hO hp hl h axc (lv hO hp hl h axf (lv hO hp hl h aw8 (lv hO hp hl h axd (lv hO hp hl h axg (lv hO hp hl h aw9 (lv hO hp hl h axe (lv hO hp hl h axh (lv hO hp hl h axa (lv hO hp hl h atf (lv hO hp hl h atm (lv hO hp hl h atu (lv hO hp hl h asZ h)))))))))))))
theorem axk:iq O T2:=have h:=axj hO hp hl;lv hO hp hl h asT (lv hO hp hl h as8 (lv hO hp hl h atg (lv hO hp hl h atn (lv hO hp hl h atv (lv hO hp hl h as0 (lv hO hp hl h asU (lv hO hp hl h as9 (lv hO hp hl h ath (lv hO hp hl h ato (lv hO hp hl h atw h))))))))))
theorem axl:iq O T3:=have h:=axk hO hp hl;lv hO hp hl h as3 (lv hO hp hl h asV (lv hO hp hl h ata (lv hO hp hl h asW (lv hO hp hl h as4 (lv hO hp hl h ati (lv hO hp hl h asX (lv hO hp hl h atp (lv hO hp hl h atb (lv hO hp hl h atj h)))))))))
theorem axm:iq O T4:=have h:=axl hO hp hl;lv hO hp hl h atq (lv hO hp hl h atx (lv hO hp hl h as5 (lv hO hp hl h asY h)))
theorem axn:iq O T5:=have h:=axm hO hp hl;lv hO hp hl h atc (lv hO hp hl h atk (lv hO hp hl h atr h))
theorem axo:iq O T6:=have h:=axn hO hp hl;lv hO hp hl h asS (lv hO hp hl h ats (lv hO hp hl h aty (lv hO hp hl h atd (lv hO hp hl h atl (lv hO hp hl h atz (lv hO hp hl h att (lv hO hp hl h as6 (lv hO hp hl h atA (lv hO hp hl h as7 (lv hO hp hl h ate h))))))))))
theorem axp:iq O T7:=have h:=axo hO hp hl;lv hO hp hl h atB h
theorem holds:eR O 637 [] (.bool true):=Tr.EB (axp hO hp hl (cx 9 Za) (.head _)) (i:=637) rfl _ _ ⟨_,.head _,.inl rfl⟩
end
end lW
end VE
