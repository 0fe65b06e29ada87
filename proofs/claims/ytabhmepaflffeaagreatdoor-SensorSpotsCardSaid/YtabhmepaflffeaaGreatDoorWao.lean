import Derived.Test.YtabhmepaflffeaaGreatDoorWah
import Derived.Test.YtabhmepaflffeaaGreatDoorWai
import Derived.Test.YtabhmepaflffeaaGreatDoorWaj
import Derived.Test.YtabhmepaflffeaaGreatDoorWak
import Derived.Test.YtabhmepaflffeaaGreatDoorWal
import Derived.Test.YtabhmepaflffeaaGreatDoorWam
import Derived.Test.YtabhmepaflffeaaGreatDoorWan
set_option linter.all false
set_option maxRecDepth 100000
namespace VE
namespace mq
def azo{O:bC}:iN O T0:=iN.nil
def Vo{p:Nat->bt->Prop}:∀(n:Nat) (l:List (Nat×bt)),(∀f e,(f,e)∈l->p f e)->(cw n l).mO p
 | 0,_,_=>aL
 | n+1,l,h=>by
  unfold cw
  split
  .exact aL
  .rename_i a r hd;have hs:∀x,x∈a::r->x∈l:=fun x hx=>List.mem_of_mem_drop (hd▸hx)
   exact aN (h a.1 a.2 (hs a List.mem_cons_self)) (Vo n _ fun f e q=>h f e (List.mem_of_mem_take q)) (Vo n _ fun f e q=>h f e (hs _ (List.mem_cons_of_mem _ q)))
def lv{O:bC}{P:aF}{L:Lib}(hO:iZ O)(hp:O.prog=P)(hl:O.aJ=L){T T':List (Tr bt)}{C:List (Nat×bt)}(hT:iN O T)(h:cy P L T C=true)(SC:iN O T'):iN O (cw 9 C::T'):=by
 subst hp;subst hl;exact iN.cons (Vo 9 C (chunk_ok hO hT h)) SC
section
variable {O:bC}(hO:iZ O)(hp:O.prog=prog)(hl:O.aJ=aJ)
include hO hp hl
theorem azp:iN O T1:=have h:=azo;lv hO hp hl h azh (lv hO hp hl h azi (lv hO hp hl h azl (lv hO hp hl h aze (lv hO hp hl h azj (lv hO hp hl h azm (lv hO hp hl h azf (lv hO hp hl h azk (lv hO hp hl h azn (lv hO hp hl h azg (lv hO hp hl h avN (lv hO hp hl h avU (lv hO hp hl h av2 (lv hO hp hl h avy h)))))))))))))
theorem azq:iN O T2:=have h:=azp hO hp hl;lv hO hp hl h avr (lv hO hp hl h avG (lv hO hp hl h avO (lv hO hp hl h avV (lv hO hp hl h av3 (lv hO hp hl h avz (lv hO hp hl h avt (lv hO hp hl h avH (lv hO hp hl h avP (lv hO hp hl h avW (lv hO hp hl h av4 h))))))))))
theorem azr:iN O T3:=have h:=azq hO hp hl;lv hO hp hl h avA (lv hO hp hl h avu (lv hO hp hl h avI (lv hO hp hl h avv (lv hO hp hl h avB (lv hO hp hl h avQ (lv hO hp hl h avw (lv hO hp hl h avX (lv hO hp hl h avJ (lv hO hp hl h avR h)))))))))
theorem azs:iN O T4:=have h:=azr hO hp hl;lv hO hp hl h avY (lv hO hp hl h av5 (lv hO hp hl h avC (lv hO hp hl h avx h)))
theorem azt:iN O T5:=have h:=azs hO hp hl;lv hO hp hl h avK (lv hO hp hl h avS (lv hO hp hl h avZ h))
theorem azu:iN O T6:=have h:=azt hO hp hl;lv hO hp hl h avq (lv hO hp hl h av0 (lv hO hp hl h av6 (lv hO hp hl h avL (lv hO hp hl h avT (lv hO hp hl h av7 (lv hO hp hl h av1 (lv hO hp hl h avD (lv hO hp hl h av8 (lv hO hp hl h avF (lv hO hp hl h avM h))))))))))
theorem azv:iN O T7:=have h:=azu hO hp hl;lv hO hp hl h av9 h
theorem holds:eJ O 637 [] (.bool true):=Tr.Et (azv hO hp hl (cw 9 ZT) (.head _)) (i:=637) rfl _ _ ⟨_,.head _,.inl rfl⟩
end
end mq
end VE
