/- The statement NewsFewest jQ for all arguments: further cries that are returned leave none and are as few as can be, and the gaps that are apart, or the errors, are as specified; arguments are not modified. -/
import Derived.Test.YtppbomajegnkeaaGreatPc
import Derived.Test.YtppbomajegnkeaaGreatPa
import Derived.KernelRfl
import Derived.IntWalk
set_option linter.unusedVariables false
set_option linter.unusedSimpArgs false
set_option linter.unusedSectionVars false
open Nat (beq ble blt)
open List (map replicate take drop range length filter)
open Go.Eng.PV (own agg addr func sl bor tup omap bad bool int)
namespace Go.Eng
open Go
section
variable {P:Program} {H:zBd} {w0 w:World} {U Φ0 Φ:Nat->Prop} {nt:Nat} {hv:Hid} {a:Act} {e e':Env} {rv:Nat->Value} {E:Nat->PV} {L:Nat->LN} {o:zAO}
theorem zXU(S:St w0 U Φ0 nt hv a w e Φ rv E L){g:Nat}(hg:zAa<=g){k:PV->PM}{k2:PM}(h:(zSs (E g) k k2).run o e=some e') :
  k2.run o e=some e'\/∃ e1 rv1 E1,(k (E1 g)).run o e1=some e'/\Worked w0 U Φ0 nt hv a w rv E g e1 rv1 E1:=by
 have yA:=S.conf.rep g
 have fin:∀ {r:Nat} {pre:zA2} {q root p':PV} (hr:r<zAa) (yK:(E r).unlock=E r) (hq:zAF (E r) pre=some q) (h1:q.oneCell=true) (hm:zAA (fun _=>some .bad) (E r) pre=some root),
   (E g).oneCell=true->p'.oneCell=true->(∀ nv Li,zAZ w (rv r) (E r) pre=some (nv,q)->Rep w Φ (zA9 w rv E) q nv Li->Li.Nodup->∃ Lg,Rep w Φ (zA9 w rv E) p' (rv g) Lg/\Lg.Nodup/\∀ b∈Lg,b∈Li) ->
   (k p').run o (e.set r root)=some e'->∃ e1 rv1 E1,(k (E1 g)).run o e1=some e'/\Worked w0 U Φ0 nt hv a w rv E g e1 rv1 E1:=by
  intro r pre q root p' hr yK hq h1 hm un jy yY hk;obtain⟨kk1,kk2⟩:=zBV (q' := .bad) rfl rfl hm;obtain⟨nv,Li,g1,g2,g3,g4,g5⟩:=S.taken hg hr yK hq h1 hm kk1 kk2;obtain⟨Lg,p1,p2,p3⟩:=yY nv Li g1 g2 g3;obtain⟨L',S1,wT⟩:=g5 p' (rv g) Lg p1 p2 (fun b hb=>.inl (p3 b hb));have jU:∀ s,upd rv g (rv g) s=rv s:=fun s=>by
   by_cases hs:s=g
   ·subst hs;rw[zAj]
   ·rw[zAg hs]
  refine⟨_,_,_,by rw[zAj];exact hk,⟨⟨_,_,S1⟩,jU g,fun s _=>jU s,fun s hs hI=>⟨by rw[zAg hI,zAg (by omega)],jU s⟩,?_,?_⟩⟩
  ·rw[zAj,(zBo jy).2,(zBo un).2]
  ·rw[zAj,(zBo jy).1,(zBo un).1];rfl
 generalize hE:E g=p at h;rw[hE] at yA;simp only[zSs] at h;split at h
 ·rename_i r pre z lo n;obtain⟨q,hq,h1⟩:=zBR h;obtain⟨_,hr,⟨b,cap,yL,_⟩,hn⟩:=yA;split at h1
  ·rename_i sz xs
   cases hc:ble (lo+n) xs.length with
   |false=>rw[hc] at h1;exact .inl h1|true=>
    rw[hc] at h1;simp only[cond_true] at h1;obtain⟨root,hl,hm,h2⟩:=zB3 h1;have yK:=zBI hl;rw[yK,<- S.env r hr] at hq;rw[<- S.env r hr] at yK hm;refine .inr (fin hr yK hq rfl hm (by rw[hE];rfl) rfl (fun nv Li hf uo yU=>?_) h2);obtain⟨s2,xs2,q1,q2,q3⟩:=hn nv _ (by rw[yK];exact hf) rfl;cases q1;subst q2;obtain⟨Lg,p1,p2,p3⟩:=zJg uo (bu hc) q3;exact⟨Lg,p1,p3 yU,p2⟩
  ·exact .inl h1
 ·rename_i r pre sh;obtain⟨q,hq,h1⟩:=zBR h;obtain⟨_,hr,b,yL,ye,hn⟩:=yA;split at h1
  ·rename_i q;obtain⟨root,hl,hm,h2⟩:=zB3 h1;have yK:=zBI hl;rw[yK,<- S.env r hr] at hq;rw[<- S.env r hr] at yK hm;refine .inr (fin hr yK hq rfl hm (by rw[hE];rfl) rfl (fun nv Li hf uo yU=>?_) h2);refine⟨Li,?_,yU,fun b hb=>hb⟩;have hrp':=uo;obtain⟨x,c,u,L',h3,h4,h5,_⟩:=hrp';have h6:nv=rv g:=by
    rw[yL,h4];have:=hn nv _ (by rw[yK];exact hf) x (by rw[h4];cases x;simp_all[zBc,zAw]);rw[this]
   rw[<- h6];exact uo
  ·exact .inl h1
 ·rename_i r pre;obtain⟨q,hq,h1⟩:=zBR h;obtain⟨_,hr,⟨b,yL⟩,hn⟩:=yA;split at h1
  ·rename_i es;obtain⟨root,hl,hm,h2⟩:=zB3 h1;have yK:=zBI hl;rw[yK,<- S.env r hr] at hq;rw[<- S.env r hr] at yK hm;refine .inr (fin hr yK hq rfl hm (by rw[hE];rfl) rfl (fun nv Li hf uo yU=>⟨Li,?_,yU,fun b hb=>hb⟩) h2);rw[hn nv _ (by rw[yK];exact hf) _ rfl];exact uo
  ·exact .inl h1
 ·exact .inl h
theorem zNA(S:St w0 U Φ0 nt hv a w e Φ rv E L){g:Nat}(hg:zAa<=g){frz:Bool}{k:PV->PM}(h:(zGc frz (E g) k).run o e=some e'):∃ e1 rv1 E1,(k (E1 g)).run o e1=some e'/\Worked w0 U Φ0 nt hv a w rv E g e1 rv1 E1:=by
 have iced:(zMh zAm zDf (E g) k).run o e=some e'->∃ e1 rv1 E1,(k (E1 g)).run o e1=some e'/\Worked w0 U Φ0 nt hv a w rv E g e1 rv1 E1:=by
  intro h;obtain⟨e1,Φ1,E1,L1,h1,S1,h2,h3,h4,h5,h6,h7⟩:=zH8 (hb:=zAm) hg (by decide) zDf S h;exact⟨e1,rv,E1,h1,⟨⟨_,_,S1⟩,rfl,fun _ _=>rfl,fun s hs hI=>⟨h3 s hs hI,rfl⟩,h6,h7⟩⟩
 simp only[zGc] at h
 cases hc:(frz||(E g).ways.any fun w=>ble zAm w.1) with
 |true=>rw[hc] at h;exact iced h|false=>
  rw[hc] at h;simp only[cond_false] at h;rcases zXU S hg h with h|h
  ·exact iced h
  ·exact h
theorem zLc{frz:Bool}:∀ (ps:List PV) (i:Nat) {k:List PV->PM} {e:Env} {Φ:Nat->Prop} {rv:Nat->Value} {E:Nat->PV} {L:Nat->LN},St w0 U Φ0 nt hv a w e Φ rv E L->(∀ (j:Nat) (p:PV),ps[j]? = some p->E (zAa+i+j)=p)->(zCz frz ps k).run o e=some e' ->
  ∃ e1 Φ1 rv1 E1 L1 qs,(k qs).run o e1=some e'/\St w0 U Φ0 nt hv a w e1 Φ1 rv1 E1 L1/\qs.length=ps.length/\(∀ (j:Nat) (q:PV),qs[j]? = some q->E1 (zAa+i+j)=q/\rv1 (zAa+i+j)=rv (zAa+i+j)) /\
   (∀ s,s<zAa->rv1 s=rv s)/\∀ s,zAa<=s->(s<zAa+i\/zAa+i+ps.length<=s)->E1 s=E s/\rv1 s=rv s
 |[],i,k,e,Φ,rv,E,L,S,hp,h=>⟨e,Φ,rv,E,L,[],h,S,rfl,by simp,fun _ _=>rfl,fun _ _ _=>⟨rfl,rfl⟩⟩
 | p :: ps,i,k,e,Φ,rv,E,L,S,hp,h=>by
  simp only[zCz] at h;have hE:=hp 0 p rfl;simp only[bR] at hE;rw[<- hE] at h;obtain⟨e1,rv1,E1,h1,W⟩:=zNA S (g:=zAa+i) (by omega) h;obtain⟨Φ1,L1,S1⟩:=W.st;obtain⟨e2,Φ2,rv2,E2,L2,qs,h2,S2,h3,h4,h5,h6⟩:=zLc ps (i+1) S1 (fun j q hq=>by
   rw[(W.rest _ (by omega) (by omega)).1,show zAa+(i+1)+j=zAa+i+(j+1) by omega];exact hp (j+1) q (by simpa using hq)) h1
  refine⟨e2,Φ2,rv2,E2,L2,E1 (zAa+i)::qs,h2,S2,by simp[h3],fun j q hq=>?_,fun s hs=>(h5 s hs).trans (W.low s hs),fun s hs kL=>?_⟩
  ·cases j with
   |zero=>
    simp at hq;subst hq;obtain⟨k1,k2⟩:=h6 (zAa+i) (by omega) (.inl (by omega));simp only[bR];exact⟨k1,k2.trans W.val⟩
   |succ j=>
    obtain⟨k1,k2⟩:=h4 j q (by simpa using hq);rw[show zAa+(i+1)+j=zAa+i+(j+1) by omega] at k1 k2;exact⟨k1,k2.trans (W.rest _ (by omega) (by omega)).2⟩
  ·obtain⟨k1,k2⟩:=h6 s hs (by simp at kL;omega);obtain⟨k3,k4⟩:=W.rest s hs (by simp at kL;omega);exact⟨k1.trans k3,k2.trans k4⟩
theorem zK5(C:Conf w0 U Φ0 w Φ rv E L):∀ (qs:List PV) (vs:List Value) (i:Nat),vs.length=qs.length->(∀ (j:Nat) (q:PV) (v:Value),qs[j]? = some q->vs[j]? = some v->E (i+j)=q/\rv (i+j)=v) ->
  ∃ Lp,zA5 w Φ (zA9 w rv E) qs vs Lp/\Lp.Nodup/\∀ b∈Lp,∃ t,i<=t/\t<i+qs.length/\b∈L t
 |[],vs,i,hl,h=>by
  have:vs=[]:=br (by simpa using hl);subst this;exact⟨[],⟨rfl,rfl⟩,cj,by simp⟩
 | q :: qs,vs,i,hl,h=>by
  match vs,hl,h with
  | v :: vs,hl,h =>
   obtain⟨h1,h2⟩:=h 0 q v rfl rfl;simp only[bR] at h1 h2;obtain⟨Lp,k1,k2,k3⟩:=zK5 C qs vs (i+1) (by simpa using hl) fun j q' v' hq hv=>by
    rw[show i+1+j=i+(j+1) by omega];exact h (j+1) q' v' (by simpa using hq) (by simpa using hv)
   have hr:=C.rep i;rw[h1,h2] at hr;refine⟨L i++Lp,⟨v,vs,_,_,rfl,rfl,hr,k1⟩,?_,fun b hb=>?_⟩
   ·rw[bW];refine⟨C.nodup i,k2,fun x hx y hy e=>?_⟩;obtain⟨t,k4,k5,k6⟩:=k3 y hy;exact C.disj i t (by omega) x hx (e▸k6)
   ·rcases bk.1 hb with hb|hb
    ·exact⟨i,bi _,by simp,hb⟩
    ·obtain⟨t,k4,k5,k6⟩:=k3 b hb;exact⟨t,by omega,by simp;omega,k6⟩
theorem zOc(S:St w0 U Φ0 nt hv a w e Φ rv E L){j g:Nat}(hj:j<1000)(hg:zAa<=g)(hb:∀ s,zAa<=s->s≠g->E s = .bad){k:PM}(h:(lay (zAG+j) (E g) k).run o e=some e') :
  ∃ e1 E1 L1,k.run o e1=some e'/\St w0 U Φ0 nt hv a w e1 Φ (upd rv (zAG+j) (rv g)) E1 L1/\zBv E1:=by
 have hh:zAm=50000000:=rfl;have ho:zAG=60000000:=rfl;have qI:zAa=1000000000:=rfl;have jl:=S.small;obtain⟨e1,E1,L1,h1,C,h2,h3,h4,h5,h6⟩:=zSa S (d:=zAG+j) (by omega) hg h;have vA:∀ d ps,d≠zAG+j->d<zAa->E1 d = .tup ps->∃ ps',E d = .tup ps'/\ps'.length=ps.length:=by
  intro d ps hd vI hp;rcases h3 d hd vI with h7|h7
  ·exact⟨ps,by rw[<- h7,hp],rfl⟩
  ·rw[h7] at hp;exact zEk (zIX _ _) hp
 refine⟨e1,E1,L1,h1,⟨C,h2,S.size,S.small,fun t ht=>?_,fun d ps i hd hp hi=>?_,fun s h7 h8=>?_,S.dfr⟩,fun s hs=>?_⟩
 ·rw[zAg (by omega)];exact S.tmps t ht
 ·obtain⟨ps',h7,h8⟩:=vA d ps (by omega) (by omega) hp;obtain⟨h9,vs,j5,vg⟩:=S.parts d ps' i hd h7 (by omega);refine⟨h9,vs,by rw[zAg (by omega)];exact j5,?_⟩;rw[zAg (by simp only[zBA];omega)];exact vg
 ·rw[zAg (by omega)];exact S.hid s h7 h8
 ·by_cases yp:s=g
  ·subst yp;exact h5
  ·rcases h6 s hs yp with h7|h7
   ·rw[h7];exact hb s hs yp
   ·rw[h7,hb s hs yp];rfl
theorem zYN(S:St w0 U Φ0 nt hv a w e Φ rv E L)(hb:zBv E){frz:Bool}{j:Nat}(hj:j<1000){p:PV}{v:Value}(hp:Rep w Φ (zA9 w rv E) p v []){k:PM}(h:(zHb frz p fun q=>lay (zAG+j) q k).run o e=some e') :
  ∃ e1 Φ1 rv1 E1 L1,k.run o e1=some e'/\St w0 U Φ0 nt hv a w e1 Φ1 rv1 E1 L1/\zBv E1/\rv1 (zAG+j)=v/\∀ s,s<zAa->s≠zAG+j->rv1 s=rv s:=by
 have ho:zAG=60000000:=rfl;have qI:zAa=1000000000:=rfl;have single:(zGc frz p fun q=>lay (zAG+j) q k).run o e=some e'->∃ e1 Φ1 rv1 E1 L1,k.run o e1=some e'/\St w0 U Φ0 nt hv a w e1 Φ1 rv1 E1 L1/\zBv E1/\rv1 (zAG+j)=v/\∀ s,s<zAa->s≠zAG+j->rv1 s=rv s:=by
  intro h;have S1:=S.hold (g:=zAa) (bi _) hp;obtain⟨e1,rv1,E1,h1,W⟩:=zNA S1 (g:=zAa) (bi _) (by rw[zAj];exact h);obtain⟨Φ1,L1,S2⟩:=W.st;obtain⟨e2,E2,L2,h2,S3,gO⟩:=zOc S2 hj (bi zAa) (fun s hs hI=>by rw[(W.rest s hs hI).1,zAg hI];exact hb s hs) h1;refine⟨e2,Φ1,_,E2,L2,h2,S3,gO,?_,fun s hs hI=>?_⟩
  ·rw[zAj,W.val,zAj]
  ·rw[zAg hI,W.low s hs,zAg (by omega)]
 simp only[zHb] at h;split at h
 ·rename_i cs;obtain⟨vs,rfl,hr⟩:=hp;obtain⟨rv1,E1,L1,S1,k1,k2,k3⟩:=zMd cs vs.toList 1 S hr;have yO:=hr.length;have y5:∀ (j:Nat) (p:PV),cs[j]? = some p->∃ v,vs.toList[j]? = some v:=fun j p hj=>⟨_,bm (by have:=(bg.1 hj).1;omega)⟩;obtain⟨e2,Φ2,rv2,E2,L2,qs,h2,S2,h3,h4,h5,h6⟩:=zLc cs 1 S1 (fun j p gY=>by
   obtain⟨v,yL⟩:=y5 j p gY;exact(k2 j p v gY yL).1) h
  have vl:∀ s,zAa<=s->(s<zAa+1\/zAa+1+cs.length<=s)->E2 s = .bad:=fun s hs kL=>by
   rw[(h6 s hs kL).1,(k3 s hs kL).1];exact hb s hs
  have hval:∀ (j:Nat) (q:PV) (v:Value),qs[j]? = some q->vs.toList[j]? = some v->E2 (zAa+1+j)=q/\rv2 (zAa+1+j)=v:=fun j q v hq yL=>by
   obtain⟨m1,m2⟩:=h4 j q hq;have jN:j<cs.length:=by have:=(bg.1 hq).1;omega
   have:=k2 j _ v (bm jN) yL;exact⟨m1,m2.trans this.2.1⟩
  obtain⟨Lp,r1,r2,r3⟩:=zK5 S2.conf qs vs.toList (zAa+1) (by omega) hval;have hG:∀ s,decide (zAa+1<=s/\s<zAa+1+cs.length)=true↔zAa+1<=s/\s<zAa+1+cs.length:=fun s=>decide_eq_true_iff
  have hc:=S2.conf.make (w':=w) (fun s=>decide (zAa+1<=s/\s<zAa+1+cs.length)) (fun s hs=>by have:=(hG s).1 hs;omega) (g:=zAa) (bi _) (p := .agg qs) (v := .agg vs) (Lp:=Lp)
   (fun A hA=>⟨vs,rfl,r1.mono zDt.refl hA (fun _ _=>rfl)⟩) r2 (fun b hb=>by
    obtain⟨t,q1,q2,q3⟩:=r3 b hb;exact .inl ⟨t,q3,(hG t).2 ⟨q1,by omega⟩⟩) (bi _) (fun _ _ _=>rfl) ⟨rfl,rfl,rfl⟩
  have jA:∀ s,s<zAa->decide (zAa+1<=s/\s<zAa+1+cs.length)=false:=fun s hs=>decide_eq_false (by omega);have S3:=S2.turn (e':=e2) hc (fun s hs=>by
   rw[zAg (by omega)];simp only[jA s hs,bq,if_false];exact S2.env s hs) (fun s hs=>zAg (by omega)) (fun d ps hd hp=>by
   rw[zAg (by omega)] at hp;simp only[jA d (by omega),bq,if_false] at hp;exact⟨ps,hp,rfl⟩)
  obtain⟨e4,E4,L4,m1,S4,m2⟩:=zOc S3 hj (bi zAa) (fun s hs hI=>by
   rw[zAg hI];by_cases h7:s<zAa+1+cs.length
   ·simp only[(hG s).2 ⟨by omega,h7⟩,if_true]
   ·have:decide (zAa+1<=s/\s<zAa+1+cs.length)=false:=decide_eq_false (by omega);simp only[this,bq,if_false];exact vl s hs (by omega)) (by rw[zAj];exact h2)
  refine⟨e4,Φ2,_,E4,L4,m1,S4,m2,?_,fun s hs hI=>?_⟩
  ·rw[zAj,zAj]
  ·rw[zAg hI,zAg (by omega),h5 s hs,(k1 s hs).2]
 ·exact single h
def zY9(nt:Nat):ResultVar->Bool
 |.tmp t=>blt t nt|.cell t _=>blt t nt
def zHR(a:Act):ResultVar->Sem Value
 |.tmp t=>pure (a.tmps.getD t undef)|.cell t ty=>do loadVar ty (<- asAddr (a.tmps.getD t undef))
theorem zNa{frz:Bool}:∀ (rs:List ResultVar) (j:Nat) {e:Env} {Φ:Nat->Prop} {rv:Nat->Value} {E:Nat->PV} {L:Nat->LN},St w0 U Φ0 nt hv a w e Φ rv E L->zBv E->j+rs.length<=1000->(∀ x∈rs,zY9 nt x=true)->(zCO P frz j rs).run o e=some e' ->
  ∃ Φ1 rv1 E1 L1,St w0 U Φ0 nt hv a w e' Φ1 rv1 E1 L1/\zBv E1/\(∀ s,s<zAG+j->rv1 s=rv s)/\∀ (i:Nat) (x:ResultVar),rs[i]? = some x->(zHR a x).run P w = .ok (rv1 (zAG+j+i)) w
 |[],j,e,Φ,rv,E,L,S,hb,hj,hr,h=>by
  simp only[zCO,PM.run,ba] at h;subst h;exact⟨Φ,rv,E,L,S,hb,fun _ _=>rfl,by simp⟩
 | x :: rs,j,e,Φ,rv,E,L,S,hb,hj,hr,h=>by
  have ho:zAG=60000000:=rfl;have qI:zAa=1000000000:=rfl;simp only[bE] at hj;have hx:=hr x (by simp)
  have fin:∀ {p:PV} {v:Value},Rep w Φ (zA9 w rv E) p v []->(zHR a x).run P w = .ok v w->(zHb frz p fun q=>lay (zAG+j) q (zCO P frz (j+1) rs)).run o e=some e' ->
    ∃ Φ1 rv1 E1 L1,St w0 U Φ0 nt hv a w e' Φ1 rv1 E1 L1/\zBv E1/\(∀ s,s<zAG+j->rv1 s=rv s)/\∀ (i:Nat) (y:ResultVar),(x::rs)[i]? = some y->(zHR a y).run P w = .ok (rv1 (zAG+j+i)) w:=by
   intro p v hp yL h;obtain⟨e1,Φ1,rv1,E1,L1,h1,S1,yd,h2,h3⟩:=zYN S hb (by omega) hp h;obtain⟨Φ2,rv2,E2,L2,S2,jR,h4,h5⟩:=zNa rs (j+1) S1 yd (by omega) (fun y hy=>hr y (by simp[hy])) h1;refine⟨Φ2,rv2,E2,L2,S2,jR,fun s hs=>(h4 s (by omega)).trans (h3 s (by omega) (by omega)),fun i y hy=>?_⟩
   cases i with
   |zero=>
    simp at hy;subst hy;rw[bR,h4 _ (by omega),h2];exact yL
   |succ i=>
    rw[show zAG+j+(i+1)=zAG+(j+1)+i by omega];exact h5 i y (by simpa using hy)
  cases x with
  |tmp t=>
   have uW:t<nt:=zCb hx;have yu:t<zAa:=bL uW (bN S.small (by decide));simp only[zCO,PM.run] at h;rw[<- S.env t yu] at h;exact fin (S.conf.view yu) (by simp only[zHR,bA];rw[S.tmps t uW]) h
  |cell t ty=>
   have uW:t<nt:=zCb hx;have yu:t<zAa:=bL uW (bN S.small (by decide));simp only[zCO] at h;obtain⟨sh,jm,h1⟩:=zBM h;simp only[PM.run] at h1;rw[<- S.env t yu] at h1;have yL:=S.conf.view yu;split at h1
   ·rename_i r pre i c s' uX;rw[uX] at yL;obtain⟨b,u,q,q1,q2,q3,q4⟩:=zME (P:=P) S jm yL h1;exact fin q4 (by simp only[zHR,bo];rw[S.tmps t uW,q1];simp[asAddr,q2]) q3
   ·cases h1
end
end Go.Eng
namespace Go.Eng
open Go
def zXO(P:Program)(fn:Func):Bool :=
 match fn.body with
 |none=>true|some c=>zCL P fn.ntmps c&&fn.results.toList.all (zY9 fn.ntmps)&&ble fn.ntmps 2000000&&ble fn.results.size 1000
section
variable {P:Program} {H:zBd} {w:World} {orc:zAO} {yo:zCV}
theorem zKo{α β:Type}{f:α->Sem β}:∀ (l:List α) (vs:List β),l.length=vs.length->(∀ (i:Nat) (x:α) (v:β),l[i]? = some x->vs[i]? = some v->(f x).run P w = .ok v w)->(l.mapM f).run P w = .ok vs w
 |[],[],_,_=>rfl|[],_::_,h,_=>by cases h|_::_,[],h,_=>by cases h|x::l,v::vs,h,hf=>by
  simp only[io,bo,hf 0 x v rfl rfl,bh,zKo l vs (by simpa using h) (fun i y u hy hu=>hf (i+1) y u (by simpa using hy) (by simpa using hu)),bA]
theorem zOQ{fn:Func}{a:Act}{vs:List Value}(hl:fn.results.size=vs.length)(h:∀ (i:Nat) (x:ResultVar) (v:Value),fn.results.toList[i]? = some x->vs[i]? = some v->(zHR a x).run P w = .ok v w) :
  (results fn a.tmps).run P w = .ok (if h:vs.toArray.size=1 then vs.toArray[0] else .tuple vs.toArray) w:=by
 have h1:=zKo (P:=P) (w:=w) (f:=zHR a) fn.results.toList vs (by simpa using hl) h;have h2:(fn.results.mapM (zHR a)).run P w = .ok vs.toArray w:=by
  rw[iv];simp only[Sem.run_map,h1,bh]
 have h3:(fun|.tmp t=>pure (a.tmps.getD t undef)|.cell t ty=>do loadVar ty (<- asAddr (a.tmps.getD t undef)):ResultVar->Sem Value)=zHR a:=by
  funext x;cases x<;>rfl
 simp only[results,bo];have h4:(fn.results.mapM (fun|.tmp t=>pure (a.tmps.getD t undef)|.cell t ty=>do loadVar ty (<- asAddr (a.tmps.getD t undef)):ResultVar->Sem Value)).run P w = .ok vs.toArray w:=by rw[h3];exact h2
 erw [h4]
 rfl
theorem zKC{fn:Func}{tmps:Array Value}{R:Ending->World->Prop}:∀ (ds:List Deferred) (w:World),(∀ d∈ds,∃ D,d.target = .collected D/\w.heap[D]? = some (.deferred (some [])))->ds.Pairwise (fun d d'=>∀ D D',d.target = .collected D->d'.target = .collected D'->D≠D') ->
  (∀ w',w'.heap.size=w.heap.size->(∀ b,(∀ d∈ds,d.target ≠ .collected b)->w'.heap[b]? = w.heap[b]?)->(w'.os=w.os/\w'.tape=w.tape/\w'.output=w.output)->LeavesIn (FF none) 0 P fn tmps R [] .returning w')->LeavesInM (FF none) 0 P fn tmps R ds .returning w
 |[],w,_,_,h=>h w rfl (fun _ _=>rfl) ⟨rfl,rfl,rfl⟩
 |d :: ds,w,h1,h2,h=>by
  obtain⟨D,q1,q2⟩:=h1 d (by simp);obtain⟨p1,p2⟩:=dl.1 h2;refine⟨by simp,.inl ⟨D,_,q1,run_takeDeferred q2,zKC ds _ (fun d' hd=>?_) p2 fun w' g1 g2 g3=>?_⟩⟩
  ·obtain⟨D',r1,r2⟩:=h1 d' (by simp[hd]);exact⟨D',r1,(World.putObj_heap_other (dW (p1 d' hd D D' q1 r1))).trans r2⟩
  ·refine h w' (g1.trans (by simp)) (fun b hb=>(g2 b fun d' hd=>hb d' (by simp[hd])).trans (World.putObj_heap_other fun e=>hb d (by simp) (e▸q1))) g3
theorem zYc (zFI:P.follows .mixedOrders=true) (jB:zGG P orc) (hnm:zE0 P) (gW:zNc P yo) {f:FuncId} {fn:Func} {body:Code} {n:Nat} {args hid hX:List PV} {v:PV} (hf:P.funcs[f]? = some fn) (y7:fn.body=some body) (hwf:zXO P fn=true) (h:zJz P H orc yo zCc n f fn body args hid=some (v,hX)) :
    Means P f args hid v hX:=by
  have ho:zAG=60000000:=rfl;have hh:zAm=50000000:=rfl;have qI:zAa=1000000000:=rfl;simp only[zXO,y7,bb] at hwf;obtain⟨⟨⟨jW,yk⟩,uy⟩,j3⟩:=hwf;have uy:=bu uy;have j3:=bu j3;simp only[zJz] at h
  cases hc:(ble args.length fn.ntmps&&ble hid.length 1000&&args.all fun p=>!p.isTup) with
  |false=>rw[hc] at h;cases h
  | true =>
    rw[hc] at h;simp only[cond_true] at h;simp only[bb] at hc;obtain⟨⟨yP,uw⟩,vA⟩:=hc;have yP:=bu yP;have uw:=bu uw
    have key : ∀ x e1,exec P H orc yo zCc fn.ntmps (H f) n body (zBe args hid) none=some (x,e1,none)->(x = .norm\/x = .ret)->∀ e',(zCO P (H f).frz 0 fn.results.toList).run orc e1=some e' ->
        (bif beq fn.results.size 1&&(e'.get zAG).isTup then none else some (zYb e' fn.results.size,(range hid.length).map fun j=>e'.get (zAm+j)))=some (v,hX)->Means P f args hid v hX:=by
      intro x e1 hx hxn e' wt yt w Φ rv E L vs hE uB C yJ yq jf;refine callsIn_wide.1 (callsIn_of_wp_marks (n:=0) hf y7 trivial ?_);have hntm:vs.size+(fn.ntmps-vs.size)=fn.ntmps:=by omega
      have S:St w (fun b=>∃ s,b∈L s) Φ fn.ntmps ⟨rv,[]⟩ {tmps:=vs++Array.replicate (fn.ntmps-vs.size) undef,defers:=[]} w (zBe args hid) Φ rv E L:=by
        refine⟨C,hE,by simp;omega,uy,fun t ht=>?_,fun d ps i hd hp hi=>?_,fun _ _ _=>rfl,rfl⟩
        · simp only[dk,Array.getElem?_append];by_cases h1:t<vs.size
          · rw[if_pos h1,yq t (by omega)];rfl
          · rw[if_neg h1,iD,if_pos (by omega),jf t (by omega) (by omega)];rfl
        · rw[hE d (by omega),zDj (by omega)] at hp;split at hp
          · rename_i wP;have:(args.getD d .bad)∈args:=by
              simp only[List.getD,bm wP,dn];exact cu wP
            have:=bj.1 vA _ this;rw[hp] at this;cases this
          · split at hp
            · omega
            · cases hp
      have hw:=zIa (zZx jB hnm) zFI n body (.inr (zZE zFI jB hnm gW)) jW (fun _ _=>trivial) rfl (⟨rfl,w,_,Φ,[],Rel.refl,⟨fun _ h=>(by cases h),.nil⟩,Φ,rv,E,L,S,uB⟩:GB w (fun b=>∃ s,b∈L s) Φ fn.ntmps rv _ w _ none) hx;refine wpIn_mono hw fun ex a' w1 ⟨hex,_,wz,Uz,Φz,ds,qm,qJ,Φ1,rv1,E1,L1,Sz,yd⟩=>?_
      have vB:LeavesInM (FF none) 0 P fn a'.tmps (fun e w'=>∃ u Φ' rv' E' L',e = .returned u/\Conf w (fun b=>∃ s,b∈L s) Φ w' Φ' rv' E' L'/\hX.length=hid.length /\
          (∀ j,j<hid.length->E' (zAm+j)=hX.getD j .bad/\rv' (zAm+j)=rv (zAm+j))/\Gave v u rv' E') a'.defers .returning w1:=by
       rw[Sz.dfr];have wA:∀ d∈ds,∀ D,d.target = .collected D->(∀ s,D∉L1 s)/\¬ Φ1 D/\w.heap.size<=D:=by
         intro d hd D hD;obtain⟨D',q1,q0,q2,q3,q4,q5⟩:=qJ.each d hd;rw[q1] at hD;cases hD;refine⟨fun s hs=>?_,fun h=>?_,q0⟩
         · rcases(Sz.conf.own s D hs).2.2 with h|h
           · exact q4 h
           · omega
         · rcases(Sz.conf.frz D h).2 with h|h|h
           · exact q5 h
           · exact q4 h
           · omega
       refine zKC ds w1 (fun d hd=>?_) qJ.apart fun w' m1 m2 m3=>?_
       · obtain⟨D,q1,_,q2,q3,q4,_⟩:=qJ.each d hd;exact⟨D,q1,(Sz.conf.kept D q2 q4).trans q3⟩
       have C1:Conf w (fun b=>∃ s,b∈L s) Φ w' Φ1 rv1 E1 L1:=(Sz.conf.rebase qm).moved (by omega) (fun s b hb=>m2 b fun d hd h=>(wA d hd b h).1 s hb) (fun b hb=>m2 b fun d hd h=>(wA d hd b h).2.1 hb) (fun b hb _=>m2 b fun d hd h=>by have:=(wA d hd b h).2.2;omega) m3;have S1:St w (fun b=>∃ s,b∈L s) Φ fn.ntmps ⟨rv,ds⟩ a' w' e1 Φ1 rv1 E1 L1:=Sz.with C1;obtain⟨Φ2,rv2,E2,L2,S2,jR,_,h3⟩:=zNa fn.results.toList 0 S1 yd (by simpa using j3) (fun y hy=>bj.1 yk y hy) wt
       let us:List Value:=(range fn.results.size).map fun i=>rv2 (zAG+i)
       have yC:=zOQ (P:=P) (w:=w') (fn:=fn) (a:=a') (vs:=us) (by simp[us]) (fun i y u hy hu=>by
         have:=h3 i y hy;rw[bR] at this;rw[this];have hi:i<fn.results.size:=by have:=(bg.1 hy).1;simpa using this
         simp only[us,cC,List.getElem?_range hi,bz,ba] at hu;rw[hu])
       refine⟨_,yC,_,Φ2,rv2,E2,L2,rfl,S2.conf,?_⟩;have hv:v=zYb e' fn.results.size/\hX=(range hid.length).map fun j=>e'.get (zAm+j):=by
         revert yt
         cases (beq fn.results.size 1&&(e'.get zAG).isTup) with
         |true=>intro h;cases h|false=>intro h;simp only[cond_false,ba,bB] at h;exact⟨h.1.symm,h.2.symm⟩
       obtain⟨uc,kh⟩:=hv;refine⟨by rw[kh];simp,fun j hj=>⟨?_,S2.hid _ (by omega) (by omega)⟩,?_⟩
       · rw[S2.env _ (by omega),kh];simp[List.getD,hj]
       · by_cases h1:fn.results.size=1
         · have uy:(e'.get zAG).isTup=false:=by
             revert yt
             cases hb:(e'.get zAG).isTup with
             |true=>simp[h1]|false=>intro _;rfl
           have qp:v=e'.get zAG:=by rw[uc,zYb,if_pos h1]
           have w8:us=[rv2 zAG]:=by simp only[us,h1];rfl
           refine⟨fun _=>⟨by rw[S2.env _ (by omega),qp],?_⟩,fun ps yj=>?_⟩
           · rw[w8];rfl
           · rw[qp] at yj;rw[yj] at uy;cases uy
         · have qp:v = .tup ((range fn.results.size).map fun j=>e'.get (zAG+j)):=by rw[uc,zYb,if_neg h1]
           refine⟨fun h=>absurd qp (h _),fun ps yj=>?_⟩;rw[qp] at yj;simp only[PV.tup.injEq] at yj;subst yj;refine⟨us.toArray,?_,by simp[us],fun j p hj=>?_⟩
           · rw[dif_neg (by simpa[us] using h1)]
           · simp only[cC] at hj
             cases hr:(range fn.results.size)[j]? with
             |none=>rw[hr] at hj;cases hj
             | some k =>
               rw[hr] at hj;simp only[bz,ba] at hj;obtain⟨jV,uh⟩:=bg.1 hr;simp only[fh] at uh;subst uh;simp only[fj] at jV;exact⟨by rw[S2.env _ (by omega)];exact hj,by simp[us,jV]⟩
      subst hex;rcases hxn with rfl|rfl<;>exact vB
    revert h
    cases hx:exec P H orc yo zCc fn.ntmps (H f) n body (zBe args hid) none with
    |none=>intro h;cases h
    | some r =>
      obtain⟨x,e1,lg⟩:=r;intro h
      cases x with
      |ex id=>cases lg<;>cases h
      | norm =>
        cases lg with
        |some g=>cases h
        | none =>
          cases wt:(zCO P (H f).frz 0 fn.results.toList).run orc e1 with
          |none=>simp only[wt] at h;cases h|some e'=>simp only[wt] at h;exact key .norm e1 hx (.inl rfl) e' wt h
      | ret =>
        cases lg with
        |some g=>cases h
        | none =>
          cases wt:(zCO P (H f).frz 0 fn.results.toList).run orc e1 with
          |none=>simp only[wt] at h;cases h|some e'=>simp only[wt] at h;exact key .ret e1 hx (.inr rfl) e' wt h
def zEZ(P:Program)(H:zBd):Prop:=∀ (f:FuncId) (fn:Func) (args hid:List PV) (v:PV) (hX:List PV),P.funcs[f]? = some fn->(H f).intr≠0->intrin P fn (H f).intr args hid=some (v,hX)->Callable P f/\Means P f args hid v hX
def Fit(P:Program)(H:zBd):Prop:=∀ (f:FuncId) (fn:Func),P.funcs[f]? = some fn->(H f).intr=0->zXO P fn=true
def zWj(P:Program)(g:FuncId)(first:List PV)(i:Nat)(caps:List PV)(k:Int)(plan:List (List PV)):Prop :=
  ∀ (J:List (List PV)->World->(Nat->Prop)->Prop) (Jx:World->Prop) (Ψ:Nat->Prop),Client P i plan k Ψ J Jx->∀ (w:World) (Φ:Nat->Prop) (rv:Nat->Value) (E:Nat->PV) (L:Nat->LN) (vs:Array Value) (B:Nat->Prop),
   (∀ s,s<zAa->E s=(zBe (first++PV.yld i::caps) []).get s)->(∀ s,zAa<=s->E s = .bad)->Conf w (fun b=>∃ s,b∈L s) Φ w Φ rv E L->vs.size=(first++PV.yld i::caps).length->(∀ j,j<(first++PV.yld i::caps).length->vs[j]? = some (rv j)) ->
   (∀ s,(first++PV.yld i::caps).length<=s->s<zAm->rv s=undef)->J [] w B->(∀ b,B b->∀ s,b∉L s)->(∀ b,Φ b->Ψ b\/¬ B b) ->
   CallsIn (FF none) 0 P g vs w fun en w'=>(∃ v,en = .returned v)/\((k-plan.length≠0/\∃ B',J plan w' B')\/(k-plan.length=0/\Jx w'))
theorem zRi(zFI:P.follows .mixedOrders=true)(jB:zGG P orc)(hnm:zE0 P)(zN4:Fit P H){n:Nat}{g:FuncId}{first caps:List PV}{i:Nat}{k:Int}{plan:List (List PV)}(h:zZl P H orc yo zCc n g first i caps k=some plan):Callable P g/\(first++PV.yld i::caps).length<=zAm/\zWj P g first i caps k plan:=by
 have hh:zAm=50000000:=rfl;simp only[zZl] at h;split at h
 ·rename_i fn hf;split at h
  ·rename_i body y7;rcases zBn h with⟨hc,h⟩|⟨_,h⟩
   ·simp only[bb] at hc;obtain⟨⟨⟨⟨h1,h2⟩,h3⟩,h4⟩,hint⟩:=hc;have hint:=bd hint;have h1:=bu h1;have hwf:=zN4 g fn hf hint;simp only[zXO,y7,bb] at hwf;obtain⟨⟨⟨jW,yk⟩,uy⟩,j3⟩:=hwf;have uy:=bu uy;have vA:(first++PV.yld i::caps).all (fun p=>!p.isTup)=true:=by
     rw[ie,cO,bb] ;rw[ie,bb] at h3;exact⟨h3.1,by rw[h3.2];rfl⟩
    have hk:k≠0:=by simpa using h4
    refine⟨⟨fn,hf,by rw[y7];rfl⟩,by omega,?_⟩;have key:∀ {x:X} {e1:Env} {l:Log},exec P H orc yo zCc fn.ntmps (H g) n body (zBe (first++PV.yld i::caps) []) (some ⟨[],k,i⟩)=some (x,e1,some l)->(x = .norm\/x = .ret)->l.xs=plan->zWj P g first i caps k plan:=fun hx hxn hg J Jx Ψ hC w Φ rv E L vs B hE uB C yJ yq jf hJ hBL hBΦ=>
     zX6 zFI jB hnm hC hf y7 jW uy h1 vA h2 hx hxn hg hk hE uB C yJ yq jf hJ hBL hBΦ
    split at h
    ·rename_i e1 l hx;simp only[ba] at h;exact key hx (.inl rfl) h
    ·rename_i e1 l hx;simp only[ba] at h;exact key hx (.inr rfl) h
    ·cases h
   ·cases h
  ·cases h
 ·cases h
theorem zFk[Yo](zFI:P.follows .mixedOrders=true)(hnm:zE0 P)(zN4:Fit P H)(hin:zEZ P H)(gW:zNc P Yo.yo):∀ n,zGG P (zCN P H n)
 |0=>by intro f args hid v hX h;cases h
 | n + 1 => by
  have jB:=zFk zFI hnm zN4 hin gW n;intro f args hid v hX h;have h:zG2 P H (zCN P H n) Yo.yo zCc (n+1) f args hid=some (v,hX):=h;simp only[zG2] at h;split at h
  ·rename_i fn hf;split at h
   ·rename_i hi;exact hin f fn args hid v hX hf hi h
   ·rename_i hi;split at h
    ·rename_i body y7;exact⟨⟨fn,hf,by rw[y7];rfl⟩,zYc zFI jB hnm gW hf y7 (zN4 f fn hf (by simpa using hi)) h⟩
    ·cases h
  ·cases h
abbrev yo0:Yo:=⟨fun _ _ _ _ _=>none⟩
noncomputable def zVA(P:Program)(H:zBd)(n:Nat):zCV:=fun g first i caps k=>zZl P H (@zCN P H yo0 n) yo0.yo zCc (n+1) g first i caps k
open Classical in
noncomputable def zZd(P:Program)(H:zBd):zCV:=fun g first i caps k=>if h:∃ xs n0,∀ n,n0<=n->zVA P H n g first i caps k=some xs then some (Classical.choose h) else none
noncomputable abbrev yo1(P:Program)(H:zBd):Yo:=⟨zZd P H⟩
theorem zXL{g:FuncId}{first:List PV}{i:Nat}{caps:List PV}{k:Int}{xs:List (List PV)}{n0:Nat}(h:∀ n,n0<=n->zVA P H n g first i caps k=some xs):zZd P H g first i caps k=some xs:=by
 have h':∃ xs n0,∀ n,n0<=n->zVA P H n g first i caps k=some xs:=⟨xs,n0,h⟩
 simp only[zZd,dif_pos h'];obtain⟨n1,h1⟩:=fp h';have h2:=h1 (max n0 n1) (by omega);rw[h (max n0 n1) (by omega)] at h2;exact h2.symm
theorem zRx(zFI:P.follows .mixedOrders=true)(hnm:zE0 P)(zN4:Fit P H)(hin:zEZ P H):zNc P (zZd P H):=by
 intro g first i caps k plan h
 simp only[zZd] at h;split at h
 ·rename_i h';simp only[ba] at h;subst h;obtain⟨n1,h1⟩:=fp h';exact zRi zFI (@zFk P H yo0 zFI hnm zN4 hin (fun g first i caps k plan h=>by cases h) n1) hnm zN4 (h1 n1 (by omega))
 ·cases h
end
end Go.Eng
namespace Go.Eng
open Go
def zH3:zAO:=fun _ _ _=>none
def zYx:zCV:=fun _ _ _ _ _=>none
def zHt:All:=fun _=>none
theorem zGb{o:zAO}:∀ {p:PM} {e e1:Env},p.run zH3 e=some e1->p.run o e=some e1:=by
 intro p
 induction p with
 |ok=>intro e e1 h;exact h|fail=>intro e e1 h;cases h|view s k ih=>intro e e1 h;exact ih _ h|get s k ih=>intro e e1 h;simp only[PM.run] at h ⊢;split at h<;>first|(cases h;done)|exact ih _ h
 |set s q k ih=>intro e e1 h;exact ih h|cells r pre i c n k ih=>intro e e1 h;simp only[PM.run] at h ⊢;split at h<;>first|(cases h;done)|exact ih _ _ h
 |deep r pre k ih=>intro e e1 h;simp only[PM.run] at h ⊢;split at h<;>first|(cases h;done)|exact ih _ h
 |wcells r pre i c qs k ih=>intro e e1 h;simp only[PM.run] at h ⊢;split at h<;>first|(cases h;done)|exact ih h
 | wnode r pre q k ih =>
  intro e e1 h;simp only[PM.run] at h ⊢;rcases zBn h with⟨_,h⟩|⟨hl,h⟩
  ·cases h
  ·rw[hl];simp only[cond_false];split at h
   ·exact ih h
   ·cases h
 |kill r pre k ih=>intro e e1 h;exact ih h|frz r pre k ih=>intro e e1 h;simp only[PM.run] at h ⊢;split at h<;>first|(cases h;done)|exact ih h
 |killEx r pre k ih=>intro e e1 h;exact ih h|forget r k ih=>intro e e1 h;exact ih h|call f args hid k ih=>intro e e1 h;cases h
theorem zAr{α β:Type}{x y:Option α}{f:α->β}{r:β}(h:x.map f=some r)(g:∀ a,x=some a->y=some a):y.map f=some r:=by
 obtain⟨a,h1,h2⟩:=bl.1 h;rw[g a h1];simp[h2]
theorem zIT{o:zAO}:∀ {p:PM} {e:Env} {r:Env×Tok},p.runT zH3 e=some r->p.runT o e=some r:=by
 intro p
 induction p with
 |ok=>intro e e1 h;exact h|fail=>intro e e1 h;cases h|view s k ih=>intro e e1 h;exact zAr h fun a h=>ih _ h
 |get s k ih=>intro e e1 h;simp only[PM.runT] at h ⊢;split at h<;>first|(cases h;done)|exact zAr h fun a h=>ih _ h
 |set s q k ih=>intro e e1 h;exact zAr h fun a h=>ih h
 |cells r pre i c n k ih=>intro e e1 h;simp only[PM.runT] at h ⊢;split at h<;>first|(cases h;done)|exact zAr h fun a h=>ih _ _ h
 |deep r pre k ih=>intro e e1 h;simp only[PM.runT] at h ⊢;split at h<;>first|(cases h;done)|exact zAr h fun a h=>ih _ h
 |wcells r pre i c qs k ih=>intro e e1 h;simp only[PM.runT] at h ⊢;split at h<;>first|(cases h;done)|exact zAr h fun a h=>ih h
 | wnode r pre q k ih =>
  intro e e1 h;simp only[PM.runT] at h ⊢;rcases zBn h with⟨_,h⟩|⟨hl,h⟩
  ·cases h
  ·rw[hl];simp only[cond_false];split at h
   ·exact zAr h fun a h=>ih h
   ·cases h
 |kill r pre k ih=>intro e e1 h;exact zAr h fun a h=>ih h
 |frz r pre k ih=>intro e e1 h;simp only[PM.runT] at h ⊢;split at h<;>first|(cases h;done)|exact zAr h fun a h=>ih h
 |killEx r pre k ih=>intro e e1 h;exact zAr h fun a h=>ih h
 |forget r k ih=>intro e e1 h;exact zAr h fun a h=>ih h
 |call f args hid k ih=>intro e e1 h;cases h
section
variable {P:Program} {H:zBd} {o:zAO} {fz tk nl:Bool} {fzs tks:LN} {ops:Array Oper} {nt:Nat} {hh:FHint} {yo:zCV} {al:All}
theorem zIx{x:Oper}{h0:Nat}{args:List PV}{l:Log}{e:Env}{r:Env×Option Log}(h:zB0 zH3 ops x h0 args l e=some r):zB0 o ops x h0 args l e=some r:=by
 simp only[zB0] at h ⊢;split at h
 ·rcases zBn h with⟨hc,h⟩|⟨_,h⟩
  ·rw[hc];simp only[cond_true];refine zAr h fun a h=>?_;rcases zBn h with⟨hk,h⟩|⟨hk,h⟩<;>rw[hk]
   ·exact zGb h
   ·exact zGb h
  ·cases h
 ·exact zAr h fun a h=>zGb h
 ·cases h
theorem zSU{x:Oper}{e:Env}{lg:Option Log}{r:Env×Option Log}(h:zCS P H zH3 fz tk nl ops x e lg=some r):zCS P H o fz tk nl ops x e lg=some r:=by
 simp only[zCS] at h ⊢;split at h
 ·exact zAr h fun a h=>zGb h
 ·split at h
  ·exact zIx h
  ·exact zAr h fun a h=>zGb h
theorem zNh{x:Oper}{e:Env}{lg:Option Log}{r:Env×Option Log×Tok}(h:zEA P H zH3 fz tk nl ops x e lg=some r):zEA P H o fz tk nl ops x e lg=some r:=by
 simp only[zEA] at h ⊢;split at h
 ·exact zAr h fun a h=>zIT h
 ·split at h
  ·exact zAr h fun a h=>zIx h
  ·exact zAr h fun a h=>zIT h
theorem zHw:∀ {l:List Oper} {i:Nat} {e:Env} {lg:Option Log} {r:Env×Option Log},zBg P H zH3 fzs tks nl ops l i e lg=some r->zBg P H o fzs tks nl ops l i e lg=some r
 |[],_,_,_,_,h=>h|x::l,i,e,lg,r,h=>by
  simp only[zBg] at h ⊢
  cases hs:zCS P H zH3 (fzs.contains i) (tks.contains i) nl ops x e lg with
  |none=>rw[hs] at h;cases h|some q=>rw[hs] at h;rw[zSU hs];exact zHw h
theorem zKy:∀ {l:List Oper} {i:Nat} {acc:LN} {ts:List Tok} {e:Env} {lg:Option Log} {r:Env×Option Log},zCB P H zH3 fzs tks nl ops l i acc ts e lg=some r->zCB P H o fzs tks nl ops l i acc ts e lg=some r
 |[],_,_,_,_,_,_,h=>h
 | x :: l,i,acc,ts,e,lg,r,h=>by
  simp only[zCB] at h ⊢
  cases hs:zEA P H zH3 (fzs.contains i) (tks.contains i) nl ops x e lg with
  |none=>rw[hs] at h;cases h|some q=>
   rw[hs] at h;rw[zNh hs];simp only at h ⊢;rcases zBn h with⟨hc,h⟩|⟨_,h⟩
   ·rw[hc];exact zKy h
   ·cases h
theorem zPp:∀ {m:Nat} {c:Code} {e:Env} {lg:Option Log} {r:X×Env×Option Log},exec P H zH3 zYx zHt nt hh m c e lg=some r->∀ {m':Nat},m<=m'->exec P H o yo al nt hh m' c e lg=some r
 |0,_,_,_,_,h,_,_=>by cases h
 | m + 1,c,e,lg,r,h,m',hm=>by
  obtain⟨m',rfl⟩:∃ k,m'=k+1:=⟨m'-1,by omega⟩;have ih:∀ {c:Code} {e:Env} {lg:Option Log} {r:X×Env×Option Log},exec P H zH3 zYx zHt nt hh m c e lg=some r->exec P H o yo al nt hh m' c e lg=some r:=fun h=>zPp h (by omega)
  cases c with
  | region id ops draw =>
   simp only[exec] at h ⊢;split at h
   ·rename_i e1 lg1 h1;have:(if draw=true then zCB P H o (hh.frzs id) (hh.take id) hh.nils ops ops.toList 0 [] [] e lg else zBg P H o (hh.frzs id) (hh.take id) hh.nils ops ops.toList 0 e lg)=some (e1,lg1):=by
     cases draw with
     |true=>exact zKy h1|false=>exact zHw h1
    rw[this];exact h
   ·cases h
  | seq a b =>
   simp only[exec] at h ⊢
   cases h1:exec P H zH3 zYx zHt nt hh m a e lg with
   |none=>rw[h1] at h;cases h|some q=>
    rw[h1] at h;rw[ih h1];obtain⟨x,e1,lg1⟩:=q
    cases x with
    |norm=>exact ih h|ex id=>exact h|ret=>exact h
  | cond c a b =>
   cases c with
   |tmp t=>
    simp only[exec] at h ⊢;revert h
    cases e.get t with
    |bool v=>intro h;cases v<;>exact ih h
    |_=>intro h;cases h
   |const v=>
    simp only[exec] at h ⊢;revert h
    cases v with
    |bool v=>intro h;cases v<;>exact ih h
    |_=>intro h;cases h
   |_=>cases h
  | block id b =>
   simp only[exec] at h ⊢
   cases h1:exec P H zH3 zYx zHt nt hh m b e lg with
   |none=>rw[h1] at h;cases h|some q=>
    rw[h1] at h;rw[ih h1];exact h
  | loop b =>
   simp only[exec] at h ⊢
   cases h1:exec P H zH3 zYx zHt nt hh m b (e.drop (hh.loopDrop (zA0 b))) lg with
   |none=>rw[h1] at h;cases h|some q=>
    rw[h1] at h;rw[ih h1];obtain⟨x,e1,lg1⟩:=q
    cases x with
    |norm=>exact ih h|ex id=>exact h|ret=>exact h
  |scope b=>exact ih h
  | rangeFunc x ps ca cb =>
   cases x with
   | tmp t =>
    simp only[exec] at h
    cases lg with
    |none=>
     simp only at h;obtain⟨q,h1,_⟩:=bl.1 h;simp only[zHL] at h1;split at h1
     ·cases h1
     ·cases h1
    |some _=>cases h
   |_=>cases h
  |skip=>exact h|exit id=>exact h|ret=>exact h|label l=>exact h|_=>cases h
end
def cl:Code->Code
 |.seq a _=>a|.cond _ a _=>a|.block _ b=>b|.loop b=>b|.scope b=>b|c=>c
def cr:Code->Code
 |.seq _ b=>b|.cond _ _ b=>b|c=>c
def zT8:Code->Bool
 |.seq .. => true|_=>false
def zQz:Code->Bool
 |.loop _=>true|_=>false
def zTh:Code->Bool
 |.scope _=>true|_=>false
def zRP:Code->ON
 |.block n _=>some n|_=>none
def zSe:Code->ON
 |.cond (.tmp t) _ _=>some t|_=>none
def zT2:Code->ON
 |.exit n=>some n|_=>none
def zY5:Code->Bool
 |.ret=>true|_=>false
def zWk:Code->Bool
 |.skip=>true|_=>false
def zU1:Code->Bool
 |.region .. => true|_=>false
def rid:Code->Nat
 |.region n _ _=>n|_=>0
def zEV:Code->Array Oper
 |.region _ o _=>o|_=>#[]
def zM9:Code->Bool
 |.region _ _ d=>d|_=>false
def zEc (c : Code) (i : Nat) : Oper := (zEV c)[i]?.getD { dst := none, op := .move (.const .nilIface), type := 0, pos := "", after := #[], guard := none }
theorem zWa{c:Code}(h:zT8 c=true):c = .seq (cl c) (cr c):=by cases c<;>first|rfl|cases h
theorem zNy{c:Code}(h:zQz c=true):c = .loop (cl c):=by cases c<;>first|rfl|cases h
theorem zRa{c:Code}(h:zTh c=true):c = .scope (cl c):=by cases c<;>first|rfl|cases h
theorem zWc{c:Code}(h:zY5 c=true):c = .ret:=by cases c<;>first|rfl|cases h
theorem zUl{c:Code}(h:zWk c=true):c = .skip:=by cases c<;>first|rfl|cases h
theorem zUI{c:Code}(h:zU1 c=true):c = .region (rid c) (zEV c) (zM9 c):=by cases c<;>first|rfl|cases h
theorem zRb{c:Code}{n:Nat}(h:zRP c=some n):c = .block n (cl c):=by cases c<;>first|(cases h;rfl)|cases h
theorem zNL{c:Code}{n:Nat}(h:zT2 c=some n):c = .exit n:=by cases c<;>first|(cases h;rfl)|cases h
theorem zQ0{c:Code}{t:Nat}(h:zSe c=some t):c = .cond (.tmp t) (cl c) (cr c):=by
 cases c<;>try (cases h;done)
 rename_i x a b;cases x<;>first|(cases h;rfl)|cases h
section
variable [Yo] (P:Program) (H:zBd)
def zCC(f:FuncId)(args hid:List PV)(v:PV)(hX:List PV):Prop:=∃ n0,∀ n,n0<=n->zCN P H n f args hid=some (v,hX)
def W(f:FuncId)(nt:Nat)(c:Code)(e:Env)(lg:Option Log)(K:X->Env->Option Log->Prop):Prop :=
 ∃ n0 x e' lg',(∀ n m,n0<=n->n0<=m->exec P H (zCN P H n) Yo.yo zCc nt (H f) m c e lg=some (x,e',lg'))/\K x e' lg'
def zFP(dr:Option (LN×List Tok))(i:Nat)(o:Oper)(t:Tok):Option (Option (LN×List Tok)) :=
 match dr with
 |none=>some none|some (acc,ts)=>bif o.after.toList.all (fun e=>!Region.binds .any e||blt e.on i)&&zGs (zIG acc o) t 0 ts then some (some (acc++[zIG acc o],ts++[t])) else none
def zYo(orc:zAO)(fzs tks:LN)(nl:Bool)(ops:Array Oper)(dr:Option (LN×List Tok))(l:List Oper)(i:Nat)(e:Env)(lg:Option Log):Option (Env×Option Log) :=
 match dr with
 |none=>zBg P H orc fzs tks nl ops l i e lg|some (acc,ts)=>zCB P H orc fzs tks nl ops l i acc ts e lg
def WR(f:FuncId)(id:Nat)(ops:Array Oper)(dr:Option (LN×List Tok))(i:Nat)(e:Env)(lg:Option Log)(K:Env->Option Log->Prop):Prop :=
 ∃ n0 eN lg',(∀ n,n0<=n->∃ e',zYo P H (zCN P H n) ((H f).frzs id) ((H f).take id) (H f).nils ops dr (ops.toList.drop i) i e lg=some (e',lg')/\(e'.drop ((H f).drop id)).norm=eN)/\K eN lg'
end
section
variable [Yo] {P:Program} {H:zBd} {f:FuncId} {nt:Nat} {e e':Env} {lg:Option Log} {K:X->Env->Option Log->Prop}
def zZL(P:Program)(H:zBd)(f:FuncId)(nt:Nat)(b:Code)(K:X->Env->Option Log->Prop):X->Env->Option Log->Prop
 |.norm,e,lg=>W P H f nt b e lg K|x,e,lg=>K x e lg
theorem zZ0{a b:Code}(h:W P H f nt a e lg (zZL P H f nt b K)):W P H f nt (.seq a b) e lg K:=by
 obtain⟨n0,x,e1,lg1,h1,h2⟩:=h
 cases x with
 |norm=>
  obtain⟨n2,x,e2,lg2,h3,h4⟩:=h2;refine⟨max n0 n2+1,x,e2,lg2,fun n m hn hm=>?_,h4⟩;obtain⟨m,rfl⟩:∃ k,m=k+1:=⟨m-1,by omega⟩;simp only[exec,h1 n m (by omega) (by omega),h3 n m (by omega) (by omega)]
 |ex id=>
  refine⟨n0+1,_,e1,lg1,fun n m hn hm=>?_,h2⟩;obtain⟨m,rfl⟩:∃ k,m=k+1:=⟨m-1,by omega⟩;simp only[exec,h1 n m (by omega) (by omega)]
 |ret=>
  refine⟨n0+1,_,e1,lg1,fun n m hn hm=>?_,h2⟩;obtain⟨m,rfl⟩:∃ k,m=k+1:=⟨m-1,by omega⟩;simp only[exec,h1 n m (by omega) (by omega)]
theorem zU3(m:Nat){c:Code}{x:X}{e1:Env}{lg1:Option Log}(h:exec P H zH3 zYx zHt nt (H f) m c e lg=some (x,e1,lg1))(hk:K x e1 lg1):W P H f nt c e lg K :=
 ⟨m,x,e1,lg1,fun _ _ _ hm=>zPp h hm,hk⟩
theorem zTA{c:Code}{K':X->Env->Option Log->Prop}(h:W P H f nt c e lg K)(hk:∀ x e lg,K x e lg->K' x e lg):W P H f nt c e lg K':=by
 obtain⟨n0,x,e1,lg1,h1,h2⟩:=h;exact⟨n0,x,e1,lg1,h1,hk _ _ _ h2⟩
theorem zab(h:K .ret e lg):W P H f nt .ret e lg K:=zU3 1 rfl h
theorem zZH(h:K .norm e lg):W P H f nt .skip e lg K:=zU3 1 rfl h
theorem zWo{id:Nat}(h:K (.ex id) (zYa ((H f).ices id) e) lg):W P H f nt (.exit id) e lg K:=zU3 1 rfl h
theorem zXX{b:Code}(h:W P H f nt b e lg K):W P H f nt (.scope b) e lg K:=by
 obtain⟨n0,x,e1,lg1,h1,h2⟩:=h;refine⟨n0+1,x,e1,lg1,fun n m hn hm=>?_,h2⟩;obtain⟨m,rfl⟩:∃ k,m=k+1:=⟨m-1,by omega⟩;exact h1 n m (by omega) (by omega)
def Blk(id:Nat)(K:X->Env->Option Log->Prop):X->Env->Option Log->Prop
 |.ex id',e,lg=>bif beq id' id then K .norm e lg else K (.ex id') e lg|x,e,lg=>K x e lg
theorem zXN{id:Nat}{b:Code}(h:W P H f nt b e lg (Blk id K)):W P H f nt (.block id b) e lg K:=by
 obtain⟨n0,x,e1,lg1,h1,h2⟩:=h
 cases x with
 | ex id' =>
  by_cases hid:id'=id
  ·subst hid;simp only[Blk,cH,cond_true] at h2;refine⟨n0+1,.norm,e1,lg1,fun n m hn hm=>?_,h2⟩;obtain⟨m,rfl⟩:∃ k,m=k+1:=⟨m-1,by omega⟩;simp only[exec,h1 n m (by omega) (by omega),if_true]
  ·have hb:beq id' id=false:=by
    cases hc:beq id' id with
    |false=>rfl|true=>exact(hid (bd hc)).elim
   simp only[Blk,hb,cond_false] at h2;refine⟨n0+1,.ex id',e1,lg1,fun n m hn hm=>?_,h2⟩;obtain⟨m,rfl⟩:∃ k,m=k+1:=⟨m-1,by omega⟩;simp only[exec,h1 n m (by omega) (by omega),if_neg hid]
 |norm=>
  refine⟨n0+1,_,e1,lg1,fun n m hn hm=>?_,h2⟩;obtain⟨m,rfl⟩:∃ k,m=k+1:=⟨m-1,by omega⟩;simp only[exec,h1 n m (by omega) (by omega)]
 |ret=>
  refine⟨n0+1,_,e1,lg1,fun n m hn hm=>?_,h2⟩;obtain⟨m,rfl⟩:∃ k,m=k+1:=⟨m-1,by omega⟩;simp only[exec,h1 n m (by omega) (by omega)]
theorem zZw{t:Nat}{a b:Code}{c:Bool}(ht:e.get t = .bool c)(h1:c=true->W P H f nt a e lg K)(h2:c=false->W P H f nt b e lg K):W P H f nt (.cond (.tmp t) a b) e lg K:=by
 cases c with
 |true=>
  obtain⟨n0,x,e1,lg1,h3,h4⟩:=h1 rfl;refine⟨n0+1,_,_,lg1,fun n m hn hm=>?_,h4⟩;obtain⟨m,rfl⟩:∃ k,m=k+1:=⟨m-1,by omega⟩;simp only[exec,ht];exact h3 n m (by omega) (by omega)
 |false=>
  obtain⟨n0,x,e1,lg1,h3,h4⟩:=h2 rfl;refine⟨n0+1,_,_,lg1,fun n m hn hm=>?_,h4⟩;obtain⟨m,rfl⟩:∃ k,m=k+1:=⟨m-1,by omega⟩;simp only[exec,ht];exact h3 n m (by omega) (by omega)
theorem zY3{σ:Type}(Inv:σ->Prop)(I:σ->Env)(μ:σ->Nat){b:Code} (h:∀ s,Inv s->W P H f nt b (I s) lg fun x e lg'=>match x with
   |.norm=>∃ s',Inv s'/\μ s'<μ s/\e.drop ((H f).loopDrop (zA0 b))=I s'/\lg'=lg|x=>K x e lg'):∀ (n:Nat) (s:σ) (e:Env),μ s<=n->Inv s->e.drop ((H f).loopDrop (zA0 b))=I s->W P H f nt (.loop b) e lg K:=by
 intro n
 induction n with
 | zero =>
  intro s e hs hi he;obtain⟨n0,x,e1,lg1,h1,h2⟩:=h s hi
  cases x with
  |norm=>obtain⟨s',_,h3,_⟩:=h2;omega
  |ex id=>
   refine⟨n0+1,_,e1,lg1,fun n m hn hm=>?_,h2⟩;obtain⟨m,rfl⟩:∃ k,m=k+1:=⟨m-1,by omega⟩;simp only[exec,he,h1 n m (by omega) (by omega)]
  |ret=>
   refine⟨n0+1,_,e1,lg1,fun n m hn hm=>?_,h2⟩;obtain⟨m,rfl⟩:∃ k,m=k+1:=⟨m-1,by omega⟩;simp only[exec,he,h1 n m (by omega) (by omega)]
 | succ n ih =>
  intro s e hs hi he;obtain⟨n0,x,e1,lg1,h1,h2⟩:=h s hi
  cases x with
  |norm=>
   obtain⟨s',h3,h4,h7,rfl⟩:=h2;obtain⟨n2,x,e2,lg2,h5,h6⟩:=ih s' e1 (by omega) h3 h7;refine⟨max n0 n2+1,x,e2,lg2,fun n m hn hm=>?_,h6⟩;obtain⟨m,rfl⟩:∃ k,m=k+1:=⟨m-1,by omega⟩;simp only[exec,he,h1 n m (by omega) (by omega),h5 n m (by omega) (by omega)]
  |ex id=>
   refine⟨n0+1,_,e1,lg1,fun n m hn hm=>?_,h2⟩;obtain⟨m,rfl⟩:∃ k,m=k+1:=⟨m-1,by omega⟩;simp only[exec,he,h1 n m (by omega) (by omega)]
  |ret=>
   refine⟨n0+1,_,e1,lg1,fun n m hn hm=>?_,h2⟩;obtain⟨m,rfl⟩:∃ k,m=k+1:=⟨m-1,by omega⟩;simp only[exec,he,h1 n m (by omega) (by omega)]
theorem zAc{c:Code}(h:W P H f nt (cl c) e lg (zZL P H f nt (cr c) K))(hc:zT8 c=true:=by kernel_rfl):W P H f nt c e lg K:=by rw[zWa hc];exact zZ0 h
theorem zAk{c:Code}(h:K .ret e lg)(hc:zY5 c=true:=by kernel_rfl):W P H f nt c e lg K:=by rw[zWc hc];exact zab h
theorem zAf{c:Code}(h:K .norm e lg)(hc:zWk c=true:=by kernel_rfl):W P H f nt c e lg K:=by rw[zUl hc];exact zZH h
theorem zAq{c:Code}(n:Nat)(h:K (.ex n) (zYa ((H f).ices n) e) lg)(hc:zT2 c=some n:=by kernel_rfl):W P H f nt c e lg K:=by rw[zNL hc];exact zWo h
theorem zX8{c:Code}(h:W P H f nt (cl c) e lg K)(hc:zTh c=true:=by kernel_rfl):W P H f nt c e lg K:=by rw[zRa hc];exact zXX h
theorem zAd{c:Code}(n:Nat)(h:W P H f nt (cl c) e lg (Blk n K))(hc:zRP c=some n:=by kernel_rfl):W P H f nt c e lg K:=by rw[zRb hc];exact zXN h
def zEN(c:Code)(e:Env):Option Bool :=
 match zSe c with
 |some t=>match e.get t with
  |.bool b=>some b|_=>none
 |none=>none
theorem zDw(b:Bool){c:Code}(h1:b=true->W P H f nt (cl c) e lg K)(h2:b=false->W P H f nt (cr c) e lg K)(hc:zEN c e=some b:=by kernel_rfl):W P H f nt c e lg K:=by
 simp only[zEN] at hc;split at hc
 ·rename_i t ht;rw[zQ0 ht];split at hc
  ·rename_i b' hb;simp only[ba] at hc;subst hc;exact zZw hb h1 h2
  ·cases hc
 ·cases hc
theorem zBD{c:Code}(h:W P H f nt (cl c) e lg K)(hc:zEN c e=some true:=by kernel_rfl):W P H f nt c e lg K:=zDw true (fun _=>h) (fun h=>by cases h) hc
theorem zAD{c:Code}(h:W P H f nt (cr c) e lg K)(hc:zEN c e=some false:=by kernel_rfl):W P H f nt c e lg K:=zDw false (fun h=>by cases h) (fun _=>h) hc
theorem zYR{σ:Type}{c:Code}(Inv:σ->Prop)(I:σ->Env)(μ:σ->Nat)(s:σ)(hi:Inv s) (h:∀ s,Inv s->W P H f nt (cl c) (I s) lg fun x e lg'=>match x with
   |.norm=>∃ s',Inv s'/\μ s'<μ s/\e.drop ((H f).loopDrop (zA0 (cl c)))=I s'/\lg'=lg|x=>K x e lg') (hs:e.drop ((H f).loopDrop (zA0 (cl c)))=I s:=by kernel_rfl) (hc:zQz c=true:=by kernel_rfl):W P H f nt c e lg K:=by
 rw[zNy hc];exact zY3 Inv I μ h (μ s) s e (bi _) hi hs
def zNF(o:Option Env):Env :=
 match o with
 |some e=>e|none=>[]
structure RS where
 dr:Option (LN×List Tok)
 e:Env
 lg:Option Log
def noY(lg:Option Log)(e:Env)(o:Oper):Bool :=
 match lg with
 |none=>true|some _=>(zCl e o).isNone
def WS(P:Program)(H:zBd)(f:FuncId)(c:Code)(i:Nat)(s:RS)(R:Env->Option Log->Prop):Prop:=WR P H f (rid c) (zEV c) s.dr i s.e s.lg R
def zXg(P:Program)(H:zBd)(f:FuncId)(c:Code)(i:Nat)(s:RS):Option RS :=
 match zEA P H zH3 (((H f).frzs (rid c)).contains i) (((H f).take (rid c)).contains i) (H f).nils (zEV c) (zEc c i) s.e s.lg with
 |some (e',lg',t)=>(zFP s.dr i (zEc c i) t).map fun dr=>⟨dr,e',lg'⟩
 |none=>none
def zEE(P:Program)(H:zBd)(f:FuncId)(c:Code):Nat->Nat->RS->Option RS
 |0,_,s=>some s|m+1,i,s=>match zXg P H f c i s with
  |some s'=>zEE P H f c m (i+1) s'|none=>none
variable {i:Nat} {c:Code} {s s':RS} {R:Env->Option Log->Prop}
abbrev zYJ(P:Program)(H:zBd)(f:FuncId)(c:Code)(i:Nat):PM:=opM P H (((H f).frzs (rid c)).contains i) (((H f).take (rid c)).contains i) (H f).nils (zEc c i)
def zUD(o:Option RS):RS :=
 match o with
 |some s=>s|none=>⟨none,[],none⟩
theorem zMP{o:Option RS}(h:o.isSome=true):o=some (zUD o):=by cases o<;>first|rfl|cases h
theorem zAb(h:WS P H f c 0 ⟨bif zM9 c then some ([],[]) else none,e,lg⟩ (K .norm))(hc:zU1 c=true:=by kernel_rfl):W P H f nt c e lg K:=by
 obtain⟨n0,e1,lg1,h1,h2⟩:=h;rw[zUI hc];refine⟨n0+1,_,_,lg1,fun n m hn hm=>?_,h2⟩;obtain⟨m,rfl⟩:∃ k,m=k+1:=⟨m-1,by omega⟩;obtain⟨e2,this,h3⟩:=h1 n (by omega)
 cases hd:zM9 c with
 |true=>simp only[hd,cond_true,zYo,fc] at this;simp only[exec,this,if_true,h3]|false=>simp only[hd,cond_false,zYo,fc] at this;simp only[exec,this,<- h3];rfl
theorem zYG(e1:Env)(h:R e1 s.lg)(he:(s.e.drop ((H f).drop (rid c))).norm=e1:=by kernel_rfl)(hi:ble (zEV c).size i=true:=by kernel_rfl):WS P H f c i s R:=by
 have hi:=bu hi;refine⟨0,e1,s.lg,fun n _=>⟨s.e,?_,he⟩,h⟩;rw[dt (by simpa using hi)];cases s.dr<;>rfl
theorem zAR(h:R ((s.e.drop ((H f).drop (rid c))).norm) s.lg)(hi:ble (zEV c).size i=true:=by kernel_rfl):WS P H f c i s R:=zYG _ h rfl hi
theorem zXW(h:blt i (zEV c).size=true):(zEV c)[i]? = some (zEc c i):=by
 have:i<(zEV c).size:=by simpa using h
 simp[zEc,this]
theorem zSY(h:blt i (zEV c).size=true):(zEV c).toList.drop i=zEc c i::(zEV c).toList.drop (i+1):=by
 have h1:(zEV c).toList[i]? = some (zEc c i):=by rw[bU];exact zXW h
 obtain⟨h2,h3⟩:=bg.1 h1;rw[<- h3];exact(b9 h2)
theorem zKX{orc:zAO}{fz tk nl:Bool}{ops:Array Oper}{o:Oper}{lg':Option Log}{t:Tok}(h:zEA P H orc fz tk nl ops o e lg=some (e',lg',t)):zCS P H orc fz tk nl ops o e lg=some (e',lg'):=by
 simp only[zEA] at h;simp only[zCS];split at h
 ·obtain⟨a,h1,h2⟩:=bl.1 h;cases h2;rw[zEo h1];rfl
 ·split at h
  ·obtain⟨a,h1,h2⟩:=bl.1 h;cases h2;rw[h1]
  ·obtain⟨a,h1,h2⟩:=bl.1 h;cases h2;rw[zEo h1];rfl
theorem zMK{t:Tok}{dr':Option (LN×List Tok)}{lg':Option Log}(hi:blt i (zEV c).size=true)(hT:∃ n0,∀ n,n0<=n->zEA P H (zCN P H n) (((H f).frzs (rid c)).contains i) (((H f).take (rid c)).contains i) (H f).nils (zEV c) (zEc c i) s.e s.lg=some (e',lg',t))
  (hd:zFP s.dr i (zEc c i) t=some dr') (h:WS P H f c (i+1) ⟨dr',e',lg'⟩ R):WS P H f c i s R:=by
 obtain⟨n0,hT⟩:=hT;obtain⟨n2,e2,lg2,h1,h2⟩:=h;obtain⟨dr,e,lg⟩:=s;refine⟨max n0 n2,e2,lg2,fun n hn=>?_,h2⟩;have hs:=hT n (by omega);obtain⟨e3,h1,h3⟩:=h1 n (by omega);refine⟨e3,?_,h3⟩;rw[zSY hi]
 cases dr with
 |none=>
  simp only[zFP,ba] at hd;subst hd;simp only[zYo] at h1 ⊢;simp only[zBg,zKX hs];exact h1
 |some d=>
  obtain⟨acc,ts⟩:=d;simp only[zFP] at hd;rcases zBn hd with⟨hc,hd⟩|⟨_,hd⟩
  ·simp only[ba] at hd;subst hd;simp only[zYo] at h1 ⊢;simp only[zCB,hs,hc,cond_true];exact h1
  ·cases hd
theorem zUe{orc:zAO}{fz tk nl:Bool}{ops:Array Oper}{o:Oper}{t:Tok}(hy:noY lg e o=true)(h:(zFV P H ops fz tk nl o).runT orc e=some (e',t)):zEA P H orc fz tk nl ops o e lg=some (e',lg,t):=by
 cases lg with
 |none=>simp only[zEA,h];rfl|some l=>
  simp only[noY,dM] at hy;simp only[zEA,hy,h];rfl
theorem zZi{t:Tok}{dr':Option (LN×List Tok)}(hi:blt i (zEV c).size=true)(hT:∃ n0,∀ n,n0<=n->(zFV P H (zEV c) (((H f).frzs (rid c)).contains i) (((H f).take (rid c)).contains i) (H f).nils (zEc c i)).runT (zCN P H n) s.e=some (e',t))
  (hd:zFP s.dr i (zEc c i) t=some dr') (h:WS P H f c (i+1) ⟨dr',e',s.lg⟩ R) (hy:noY s.lg s.e (zEc c i)=true):WS P H f c i s R:=by
 obtain⟨n0,hT⟩:=hT;exact zMK hi ⟨n0,fun n hn=>zUe hy (hT n hn)⟩ hd h
theorem zUJ(hi:blt i (zEV c).size=true)(hs:zXg P H f c i s=some s')(h:WS P H f c (i+1) s' R):WS P H f c i s R:=by
 simp only[zXg] at hs;split at hs
 ·rename_i e1 lg1 t ht;obtain⟨dr,hd,rfl⟩:=bl.1 hs;exact zMK hi ⟨0,fun n _=>zNh ht⟩ hd h
 ·cases hs
theorem zMU:∀ (m:Nat) {i:Nat} {s s':RS},ble (i+m) (zEV c).size=true->zEE P H f c m i s=some s'->WS P H f c (i+m) s' R->WS P H f c i s R
 |0,i,s,s',_,hs,h=>by simp only[zEE,ba] at hs;subst hs;exact h
 | m + 1,i,s,s',hi,hs,h=>by
  have gr:=bu hi;simp only[zEE] at hs;split at hs
  ·rename_i s1 h1;refine zUJ (by simp;omega) h1 (zMU m ?_ hs ?_)
   ·rw[show i+1+m=i+(m+1) by omega];exact hi
   ·rw[show i+1+m=i+(m+1) by omega];exact h
  ·cases hs
theorem zAn(m:Nat)(h:WS P H f c (i+m) (zUD (zEE P H f c m i s)) R)(hs:(zEE P H f c m i s).isSome=true:=by kernel_rfl)(hi:ble (i+m) (zEV c).size=true:=by kernel_rfl):WS P H f c i s R :=
 zMU m hi (zMP hs) h
def zMF(c:Code)(i:Nat)(e:Env):Bool :=
 match(zEc c i).guard with
 |none=>true
 | some (j,want)=>match ((zEV c)[j]?).bind (·.dst) with
  |some t=>match e.get t with
   |.bool b=>b==want|_=>false
  |none=>false
theorem zY8{e':Env}(hm:∃ n0,∀ n,n0<=n->(zYJ P H f c i).run (zCN P H n) s.e=some e')(h:WS P H f c (i+1) ⟨none,e',s.lg⟩ R)(jz:s.dr=none:=by kernel_rfl)(hy:noY s.lg s.e (zEc c i)=true:=by kernel_rfl)(hg:zMF c i s.e=true:=by kernel_rfl)(hi:blt i (zEV c).size=true:=by kernel_rfl):WS P H f c i s R:=by
 obtain⟨n0,hm⟩:=hm;obtain⟨n2,e2,lg2,h1,h2⟩:=h;obtain⟨dr,e,lg⟩:=s;simp only at jz hg hm hy;subst jz;refine⟨max n0 n2,e2,lg2,fun n hn=>?_,h2⟩;obtain⟨e3,h1,h3⟩:=h1 n (by omega);refine⟨e3,?_,h3⟩;have hr:(zFV P H (zEV c) (((H f).frzs (rid c)).contains i) (((H f).take (rid c)).contains i) (H f).nils (zEc c i)).run (zCN P H n) e=some e':=by
  have hm:=hm n (by omega);revert hg;simp only[zMF]
  cases gP:(zEc c i).guard with
  |none=>intro _;simp only[zFV,gP];exact hm
  | some w =>
   obtain⟨j,want⟩:=w;intro hg;simp only at hg
   cases hj:((zEV c)[j]?).bind (·.dst) with
   |none=>rw[hj] at hg;cases hg|some u=>
    rw[hj] at hg;simp only at hg;cases hv:e.get u<;>rw[hv] at hg<;>try (cases hg;done)
    have hb:=eq_of_beq hg;simp only[zFV,gP,hj,PM.run,hv,hb,if_true];exact hm
 rw[zSY hi];simp only[zYo] at h1 ⊢;have hs:zCS P H (zCN P H n) (((H f).frzs (rid c)).contains i) (((H f).take (rid c)).contains i) (H f).nils (zEV c) (zEc c i) e lg=some (e',lg):=by
  cases lg with
  |none=>simp only[zCS,hr,bz]|some l=>
   simp only[noY,dM] at hy;simp only[zCS,hy,hr,bz]
 simp only[zBg,hs];exact h1
end
end Go.Eng
namespace Go.Eng
open Go
section
variable {P:Program} {H:zBd} {f:FuncId} {e e':Env} {i:Nat} {c:Code} {fz tk nl:Bool} {orc:zAO}
def zZN(e:Env):Operand->PV
 |.tmp t=>view t (e.get t)|.const v=>zER v|.func f=>.func f [] []|.global _=>.bad
theorem zQ1{α β:Type}{f:β->α->β}{b:β}{l:List α}{i:Nat}(h:i<l.length):(l.take (i+1)).foldl f b=f ((l.take i).foldl f b) l[i]:=by
 rw[fk,bm h];simp only[Option.toList,cv,List.foldl]
def two(o:Oper)(r:PV):PM :=
 match o.op with
 |.binOp _ _ x y _=>opd x fun _=>opd y fun _=>put o.dst r
 |.indexAddr _ x y=>opd x fun _=>opd y fun _=>put o.dst r
 |.index _ x y=>opd x fun _=>opd y fun _=>put o.dst r
 |_=>.fail
theorem zZA{a:Int}(h : -9223372036854775808<=a/\a<9223372036854775808):IntKind.i64.wrap a=a:=by
 rw[IntKind.wrap_i64];omega
end
end Go.Eng
namespace Go.Eng
open Go
section
variable [Yo] {P:Program} {H:zBd} {f:FuncId} {e e':Env} {i:Nat} {c:Code} {s:RS} {R:Env->Option Log->Prop} {fz tk nl:Bool} {orc:zAO}
def zak(e:Env)(p q:PV)(l:List (Nat×zA2)):Prop:=∀ (orc:zAO) (k:PV->List (Nat×zA2)->PM),(zRC p k).run orc e=(k q l).run orc e
inductive SeenAll (e:Env):LN->List PV->List Arg->Prop where
 |nil {ms}:SeenAll e ms [] []
 |ref {ms ps as p}:beq (ms.headD 0) 1=true->SeenAll e ms.tail ps as->SeenAll e ms (p::ps) ({p:=p,byref:=true}::as)
 |one {ms ps as p q l}:beq (ms.headD 0) 1=false->zak e p q l->SeenAll e ms.tail ps as->SeenAll e ms (p::ps) ({p:=q,shared:=l}::as)
theorem zK3{o o':zAO}(ho:∀ g a h r,o g a h=some r->o' g a h=some r):∀ {p:PM} {e e1:Env},p.run o e=some e1->p.run o' e=some e1:=by
 intro p
 induction p with
 |ok=>intro e e1 h;exact h|fail=>intro e e1 h;cases h|view s k ih=>intro e e1 h;exact ih _ h|get s k ih=>intro e e1 h;simp only[PM.run] at h ⊢;split at h<;>first|(cases h;done)|exact ih _ h
 |set s q k ih=>intro e e1 h;exact ih h|cells r pre i c n k ih=>intro e e1 h;simp only[PM.run] at h ⊢;split at h<;>first|(cases h;done)|exact ih _ _ h
 |deep r pre k ih=>intro e e1 h;simp only[PM.run] at h ⊢;split at h<;>first|(cases h;done)|exact ih _ h
 |wcells r pre i c qs k ih=>intro e e1 h;simp only[PM.run] at h ⊢;split at h<;>first|(cases h;done)|exact ih h
 | wnode r pre q k ih =>
  intro e e1 h;simp only[PM.run] at h ⊢;rcases zBn h with⟨_,h⟩|⟨hl,h⟩
  ·cases h
  ·rw[hl];simp only[cond_false];split at h
   ·exact ih h
   ·cases h
 |kill r pre k ih=>intro e e1 h;exact ih h|frz r pre k ih=>intro e e1 h;simp only[PM.run] at h ⊢;split at h<;>first|(cases h;done)|exact ih h
 |killEx r pre k ih=>intro e e1 h;exact ih h|forget r k ih=>intro e e1 h;exact ih h|call f args hid k ih=>
  intro e e1 h;simp only[PM.run] at h ⊢;split at h
  ·rename_i v hX hq;rw[ho _ _ _ _ hq];exact ih _ _ h
  ·cases h
end
end Go.Eng
namespace Go.Eng
open Go
section
variable [Yo] {P:Program} {H:zBd} {f:FuncId} {e e':Env} {i:Nat} {c:Code} {s:RS} {R:Env->Option Log->Prop} {fz tk nl:Bool} {orc:zAO}
def zTH (c:Code) (i:Nat) (s:RS) (e':Env) (t:Tok):Option RS :=
 bif noY s.lg s.e (zEc c i) then match(match(zEc c i).guard with
  |none=>some t
  | some (j,want)=>match ((zEV c)[j]?).bind (·.dst) with
   |some u=>match s.e.get u with
    |.bool b=>bif b==want then some (Tok.join {rd:=[u]} t) else none|_=>none
   |none=>none) with
 |some t=>(zFP s.dr i (zEc c i) t).map fun dr=>⟨dr,e',s.lg⟩
 |none=>none else none
theorem zZY{m:Option (Env×Tok)}(hm:∃ n0,∀ n,n0<=n->(zYJ P H f c i).runT (zCN P H n) s.e=m)(h:WS P H f c (i+1) (zUD (m.bind fun r=>zTH c i s r.1 r.2)) R)(hs:(m.bind fun r=>zTH c i s r.1 r.2).isSome=true:=by kernel_rfl)(hi:blt i (zEV c).size=true:=by kernel_rfl):WS P H f c i s R:=by
 cases m with
 |none=>cases hs|some r=>
 obtain⟨e',t⟩:=r;have jF:=zMP hs;revert h;generalize zUD ((some (e',t)).bind fun r=>zTH c i s r.1 r.2)=s' at jF;intro h;obtain⟨n0,hm⟩:=hm;simp only[bc,zTH] at jF;rcases zBn jF with⟨hy,jF⟩|⟨_,jF⟩
 case inr=>cases jF
 split at jF
 ·rename_i t' ht;obtain⟨dr,hd,rfl⟩:=bl.1 jF;refine zZi hi ⟨n0,fun n hn=>?_⟩ hd h hy;revert ht
  cases hg:(zEc c i).guard with
  |none=>intro ht;simp only[ba] at ht;subst ht;simp only[zFV,hg];exact hm n hn
  | some w =>
   obtain⟨j,want⟩:=w;intro ht;simp only at ht
   cases hj:((zEV c)[j]?).bind (·.dst) with
   |none=>rw[hj] at ht;cases ht|some u=>
    rw[hj] at ht;simp only at ht;cases hv:s.e.get u<;>rw[hv] at ht<;>try (cases ht;done)
    rcases zBn ht with⟨hb,ht⟩|⟨_,ht⟩
    ·have hb:=eq_of_beq hb;simp only[ba] at ht;subst ht;simp only[zFV,hg,hj,PM.runT,hv,hb,if_true];rw[hm n hn];rfl
    ·cases ht
 ·cases jF
theorem zOZ{x:Operand}{p:PV}{k:PV->PM}(hx:zZN e x=p)(hp:p ≠ .bad):(opd x k).run orc e=(k p).run orc e:=by
 subst hx
 cases x with
 |tmp t=>rfl|const v=>rfl|func g=>rfl|global g=>exact(hp rfl).elim
theorem zOI{v:PV}(hh:v.heavy=false):v.cells.all (fun q=>!q.heavy)=true:=by
 cases v<;>simp only[PV.cells,cO,List.all_nil,fV,hh,il];rename_i cs;simp only[PV.heavy] at hh;refine bj.2 fun q hq=>?_;obtain⟨i,hi⟩:=cq hq;rw[zED hh hi];rfl
theorem zNU:∀ {ps:List PV},ps.all (fun q=>q.ways.isEmpty)=true->zBq ps=[]
 |[],_=>rfl|p::ps,h=>by
  simp only[cO,bb,dc] at h;simp only[zBq,h.1,da,zNU h.2]
end
end Go.Eng
namespace Go.Eng
open Go
section
variable [Yo] {P:Program} {H:zBd} {f:FuncId} {e e':Env} {i:Nat} {c:Code} {s:RS} {R:Env->Option Log->Prop} {fz tk nl:Bool} {orc:zAO}
theorem zIj{x:Option Env}(h:x.isSome=true):x=some (zNF x):=by cases x<;>first|rfl|cases h
theorem zVr{α:Type}{xs ys:List α}{y:α}{j:Nat}(h:j+(ys.length+1)<=xs.length):(xs.set j y).take (j+1)++ys++(xs.set j y).drop (j+1+ys.length)=xs.take j++(y::ys)++xs.drop (j+(ys.length+1)):=by
 obtain ⟨A, x, B, rfl, rfl⟩ : ∃ A x B, xs = A ++ x :: B /\ A.length = j := ⟨xs.take j, xs[j]'(by omega), xs.drop (j + 1), by rw [<- b9 (by omega), cF], by simp; omega⟩;have h1:(A++x::B).set A.length y=A++y::B:=by simp
 have h2:(A++y::B).take (A.length+1)=A++[y]:=by rw[iz,bp (by omega)];simp
 have h3:(A++y::B).drop (A.length+1+ys.length)=B.drop ys.length:=by
  rw[fW,dt (by omega)];simp[show A.length+1+ys.length-A.length=ys.length+1 by omega]
 have h4:(A++x::B).drop (A.length+(ys.length+1))=B.drop ys.length:=by
  rw[fW,dt (by omega)];simp
 have h5:(A++x::B).take A.length=A:=by simp
 rw[h1,h2,h3,h4,h5];simp
end
end Go.Eng
namespace Go.Eng
open Go
def Srt(e:Env):Prop:=e.Pairwise (fun a b=>a.1<b.1)/\∀ x∈e,x.2 ≠ .bad
theorem zNv:∀ {e:Env} {k:Nat},(∀ x∈e,k<x.1)->e.get k = .bad
 |[],_,_=>rfl
 | (k',v)::e,k,h=>by
  have h1:k<k':=h (k',v) (by simp);have:beq k' k=false:=by
   cases hb:beq k' k with
   |false=>rfl|true=>have:=bd hb;omega
  simp only[Env.get,this,cond_false];exact zNv fun x hx=>h x (by simp[hx])
theorem Srt.eq:∀ {e e':Env},Srt e->Srt e'->(∀ s,e.get s=e'.get s)->e=e'
 |[],[],_,_,_=>rfl|[],(k,v)::e',_,h2,h=>by
  have:=h k;simp only[Env.get,cH,cond_true] at this;exact(h2.2 (k,v) (by simp) this.symm).elim
 |(k,v)::e,[],h1,_,h=>by
  have:=h k;simp only[Env.get,cH,cond_true] at this;exact(h1.2 (k,v) (by simp) this).elim
 | (k, v)::e,(k',v')::e',h1,h2,h=>by
  obtain⟨p1,q1⟩:=h1;obtain⟨p2,q2⟩:=h2;obtain⟨a1,b1⟩:=dl.1 p1;obtain⟨a2,b2⟩:=dl.1 p2;have hk:k=k':=by
   rcases Nat.lt_trichotomy k k' with yI|uX|yI
   ·have:=h k;rw[zNv (e:=(k',v')::e') (k:=k) (fun x hx=>by
     rcases bD.1 hx with rfl|hx
     ·exact yI
     ·exact Nat.lt_trans yI (a2 x hx))] at this
    simp only[Env.get,cH,cond_true] at this;exact(q1 (k,v) (by simp) this).elim
   ·exact uX
   ·have:=h k';rw[zNv (e:=(k,v)::e) (k:=k') (fun x hx=>by
     rcases bD.1 hx with rfl|hx
     ·exact yI
     ·exact Nat.lt_trans yI (a1 x hx))] at this
    simp only[Env.get,cH,cond_true] at this;exact(q2 (k',v') (by simp) this.symm).elim
  subst hk;have hv:=h k;simp only[Env.get,cH,cond_true] at hv;subst hv;congr 1;refine Srt.eq ⟨b1,fun x hx=>q1 x (by simp[hx])⟩ ⟨b2,fun x hx=>q2 x (by simp[hx])⟩ fun s=>?_;have hs:=h s;simp only[Env.get] at hs
  cases hb:beq k s with
  |false=>rw[hb] at hs;exact hs|true=>
   have:=bd hb;subst this;rw[zNv a1,zNv a2]
theorem zL0:∀ {e:Env} {k:Nat} {v:PV} {x:Nat×PV},x∈e.set k v->x=(k,v)\/x∈e
 |[],k,v,x,h=>by simp only[Env.set,bw] at h;exact .inl h
 | (k',v')::e,k,v,x,h=>by
  simp only[Env.set] at h
  cases hb:beq k' k with
  |true=>rw[hb] at h;simp only[cond_true,bD] at h;rcases h with h|h<;>simp[h]
  | false =>
   rw[hb] at h;simp only[cond_false] at h
   cases hl:ble k k' with
   |true=>rw[hl] at h;simp only[cond_true,bD] at h;rcases h with h|h|h<;>simp[h]
   |false=>
    rw[hl] at h;simp only[cond_false,bD] at h;rcases h with h|h
    ·simp[h]
    ·rcases zL0 h with h|h<;>simp[h]
theorem Srt.set:∀ {e:Env} {k:Nat} {v:PV},Srt e->v ≠ .bad->Srt (e.set k v)
 |[],k,v,_,hv=>⟨by simp[Env.set],by simp[Env.set,hv]⟩
 | (k',v')::e,k,v,h,hv=>by
  obtain⟨p,q⟩:=h;obtain⟨a,b⟩:=dl.1 p;refine⟨?_,fun x hx=>by
   rcases zL0 hx with rfl|hx
   ·exact hv
   ·exact q x hx⟩
  simp only[Env.set]
  cases hb:beq k' k with
  |true=>
   have:=bd hb;subst this;exact dl.2 ⟨a,b⟩
  | false =>
   have hI:k'≠k:=by intro h;subst h;rw[cH] at hb;cases hb
   cases hl:ble k k' with
   | true =>
    have:=bu hl;exact dl.2 ⟨fun x hx=>by
     rcases bD.1 hx with rfl|hx
     ·show k<k';omega
     ·have:k'<x.1:=a x hx;show k<x.1;omega,p⟩
   | false =>
    have yI:k'<k:=by
     have:¬ k<=k':=fun hh=>by rw[<- fN] at hh;rw[hh] at hl;cases hl
     omega
    refine dl.2 ⟨fun x hx=>?_,(Srt.set ⟨b,fun x hx=>q x (by simp[hx])⟩ hv).1⟩;rcases zL0 hx with rfl|hx
    ·exact yI
    ·exact a x hx
theorem Srt.norm:∀ (e:Env),Srt e.norm
 |[]=>⟨by simp[Env.norm],by simp[Env.norm]⟩|(k,v)::e=>by
  have ih:=Srt.norm e;simp only[Env.norm,Env.put];split
  ·exact⟨ih.1.filter _,fun x hx=>ih.2 x (bT.1 hx).1⟩
  ·rename_i hv;exact ih.set (fun h=>hv h)
theorem zW4{e e':Env}(h:∀ s,e.get s=e'.get s):e.norm=e'.norm:=(Srt.norm e).eq (Srt.norm e') fun s=>by rw[zJk,zJk];exact h s
section
variable [Yo] {P:Program} {H:zBd} {f:FuncId} {i:Nat} {c:Code} {R:Env->Option Log->Prop}
theorem zGa{o:zAO}{fzs tks:LN}{nl:Bool}{ops:Array Oper}:∀ {l:List Oper} {i:Nat} {e g:Env} {r:Env×Option Log},g.get=e.get->zBg P H o fzs tks nl ops l i e none=some r->∃ g1,zBg P H o fzs tks nl ops l i g none=some (g1,r.2)/\g1.get=r.1.get
 |[],_,e,g,r,he,h=>by simp only[zBg,ba] at h;subst h;exact⟨g,rfl,he⟩
 | x :: l,i,e,g,r,he,h=>by
  simp only[zBg,zCS] at h ⊢
  cases hs:(zFV P H ops (fzs.contains i) (tks.contains i) nl x).run o e with
  |none=>rw[hs] at h;cases h|some e1=>
   rw[hs] at h;obtain⟨g1,h1,h2⟩:=zF6 he hs;rw[h1];exact zGa h2 h
theorem zWu{e e':Env}(h:WS P H f c i ⟨none,e',none⟩ R)(he:∀ s,e.get s=e'.get s):WS P H f c i ⟨none,e,none⟩ R:=by
 obtain⟨n0,eN,lg',h1,h2⟩:=h;refine⟨n0,eN,lg',fun n hn=>?_,h2⟩;obtain⟨e1,h3,h4⟩:=h1 n hn;simp only[zYo] at h3;obtain⟨g1,h5,h6⟩:=zGa (funext he) h3;refine⟨g1,h5,?_⟩;rw[<- h4];refine zW4 fun s=>?_;rw[Env.get_drop,Env.get_drop,h6]
def zWE(P:Program)(e:Env)(o:Oper):Option (Nat×PV×PV) :=
 match o.op with
 | .call c=>match c.callee,c.args.toList,c.argTypes.toList with
  |.builtin .copy,[x,y],t::_=>match(zB1 P t).bind (szT P) with
   |some s=>some (s,zZN e x,zZN e y)|none=>none
  |_,_,_=>none
 |_=>none
def zZn(s:Nat)(x y:PV):Prop:=y.plain=true/\y.cells.length=s/\y.heavy=false/\y.cells.all (fun q=>q.ways.isEmpty)=true/\y.cells.length<=x.cells.length/\zAH x 0 y.cells=y
end
end Go.Eng
namespace Go.Eng
open Go
def Le(o o':zAO):Prop:=∀ g a h r,o g a h=some r->o' g a h=some r
theorem zUo{o0 o:zAO}(ho:Le o0 o):∀ {p:PM} {e:Env} {r:Env×Tok},p.runT o0 e=some r->p.runT o e=some r:=by
 intro p
 induction p with
 |ok=>intro e e1 h;exact h|fail=>intro e e1 h;cases h|view s k ih=>intro e e1 h;exact zAr h fun a h=>ih _ h
 |get s k ih=>intro e e1 h;simp only[PM.runT] at h ⊢;split at h<;>first|(cases h;done)|exact zAr h fun a h=>ih _ h
 |set s q k ih=>intro e e1 h;exact zAr h fun a h=>ih h
 |cells r pre i c n k ih=>intro e e1 h;simp only[PM.runT] at h ⊢;split at h<;>first|(cases h;done)|exact zAr h fun a h=>ih _ _ h
 |deep r pre k ih=>intro e e1 h;simp only[PM.runT] at h ⊢;split at h<;>first|(cases h;done)|exact zAr h fun a h=>ih _ h
 |wcells r pre i c qs k ih=>intro e e1 h;simp only[PM.runT] at h ⊢;split at h<;>first|(cases h;done)|exact zAr h fun a h=>ih h
 | wnode r pre q k ih =>
  intro e e1 h;simp only[PM.runT] at h ⊢;rcases zBn h with⟨_,h⟩|⟨hl,h⟩
  ·cases h
  ·rw[hl];simp only[cond_false];split at h
   ·exact zAr h fun a h=>ih h
   ·cases h
 |kill r pre k ih=>intro e e1 h;exact zAr h fun a h=>ih h
 |frz r pre k ih=>intro e e1 h;simp only[PM.runT] at h ⊢;split at h<;>first|(cases h;done)|exact zAr h fun a h=>ih h
 |killEx r pre k ih=>intro e e1 h;exact zAr h fun a h=>ih h
 |forget r k ih=>intro e e1 h;exact zAr h fun a h=>ih h
 |call f args hid k ih=>
  intro e e1 h;simp only[PM.runT] at h ⊢;split at h
  ·rename_i v hX hq;rw[ho _ _ _ _ hq];exact ih _ _ h
  ·cases h
section
variable [Yo] {P:Program} {H:zBd} {o0 o:zAO} (ho:Le o0 o) {fz tk nl:Bool} {fzs tks:LN} {ops:Array Oper} {nt:Nat} {hh:FHint} {yo0 yo:zCV} {al:All}
include ho in
theorem zKQ{x:Oper}{h0:Nat}{args:List PV}{l:Log}{e:Env}{r:Env×Option Log}(h:zB0 o0 ops x h0 args l e=some r):zB0 o ops x h0 args l e=some r:=by
 simp only[zB0] at h ⊢;split at h
 ·rcases zBn h with⟨hc,h⟩|⟨_,h⟩
  ·rw[hc];simp only[cond_true];refine zAr h fun a h=>?_;rcases zBn h with⟨hk,h⟩|⟨hk,h⟩<;>rw[hk]
   ·exact zK3 ho h
   ·exact zK3 ho h
  ·cases h
 ·exact zAr h fun a h=>zK3 ho h
 ·cases h
include ho in
theorem zV6{x:Oper}{e:Env}{lg:Option Log}{r:Env×Option Log}(h:zCS P H o0 fz tk nl ops x e lg=some r):zCS P H o fz tk nl ops x e lg=some r:=by
 simp only[zCS] at h ⊢;split at h
 ·exact zAr h fun a h=>zK3 ho h
 ·split at h
  ·exact zKQ ho h
  ·exact zAr h fun a h=>zK3 ho h
include ho in
theorem zVW{x:Oper}{e:Env}{lg:Option Log}{r:Env×Option Log×Tok}(h:zEA P H o0 fz tk nl ops x e lg=some r):zEA P H o fz tk nl ops x e lg=some r:=by
 simp only[zEA] at h ⊢;split at h
 ·exact zAr h fun a h=>zUo ho h
 ·split at h
  ·exact zAr h fun a h=>zKQ ho h
  ·exact zAr h fun a h=>zUo ho h
include ho in
theorem zIO:∀ {l:List Oper} {i:Nat} {e:Env} {lg:Option Log} {r:Env×Option Log},zBg P H o0 fzs tks nl ops l i e lg=some r->zBg P H o fzs tks nl ops l i e lg=some r
 |[],_,_,_,_,h=>h|x::l,i,e,lg,r,h=>by
  simp only[zBg] at h ⊢
  cases hs:zCS P H o0 (fzs.contains i) (tks.contains i) nl ops x e lg with
  |none=>rw[hs] at h;cases h|some q=>rw[hs] at h;rw[zV6 ho hs];exact zIO h
include ho in
theorem zLi:∀ {l:List Oper} {i:Nat} {acc:LN} {ts:List Tok} {e:Env} {lg:Option Log} {r:Env×Option Log},zCB P H o0 fzs tks nl ops l i acc ts e lg=some r->zCB P H o fzs tks nl ops l i acc ts e lg=some r
 |[],_,_,_,_,_,_,h=>h
 | x :: l,i,acc,ts,e,lg,r,h=>by
  simp only[zCB] at h ⊢
  cases hs:zEA P H o0 (fzs.contains i) (tks.contains i) nl ops x e lg with
  |none=>rw[hs] at h;cases h|some q=>
   rw[hs] at h;rw[zVW ho hs];simp only at h ⊢;rcases zBn h with⟨hc,h⟩|⟨_,h⟩
   ·rw[hc];exact zLi h
   ·cases h
include ho in
theorem zSH:∀ {m:Nat} {c:Code} {e:Env} {lg:Option Log} {r:X×Env×Option Log},exec P H o0 yo0 zHt nt hh m c e lg=some r->∀ {m':Nat},m<=m'->exec P H o yo al nt hh m' c e lg=some r
 |0,_,_,_,_,h,_,_=>by cases h
 | m + 1,c,e,lg,r,h,m',hm=>by
  obtain⟨m',rfl⟩:∃ k,m'=k+1:=⟨m'-1,by omega⟩;have ih:∀ {c:Code} {e:Env} {lg:Option Log} {r:X×Env×Option Log},exec P H o0 yo0 zHt nt hh m c e lg=some r->exec P H o yo al nt hh m' c e lg=some r:=fun h=>zSH h (by omega)
  cases c with
  | region id ops draw =>
   simp only[exec] at h ⊢;split at h
   ·rename_i e1 lg1 h1;have:(if draw=true then zCB P H o (hh.frzs id) (hh.take id) hh.nils ops ops.toList 0 [] [] e lg else zBg P H o (hh.frzs id) (hh.take id) hh.nils ops ops.toList 0 e lg)=some (e1,lg1):=by
     cases draw with
     |true=>exact zLi ho h1|false=>exact zIO ho h1
    rw[this];exact h
   ·cases h
  | seq a b =>
   simp only[exec] at h ⊢
   cases h1:exec P H o0 yo0 zHt nt hh m a e lg with
   |none=>rw[h1] at h;cases h|some q=>
    rw[h1] at h;rw[ih h1];obtain⟨x,e1,lg1⟩:=q
    cases x with
    |norm=>exact ih h|ex id=>exact h|ret=>exact h
  | cond c a b =>
   cases c with
   |tmp t=>
    simp only[exec] at h ⊢;revert h
    cases e.get t with
    |bool v=>intro h;cases v<;>exact ih h
    |_=>intro h;cases h
   |const v=>
    simp only[exec] at h ⊢;revert h
    cases v with
    |bool v=>intro h;cases v<;>exact ih h
    |_=>intro h;cases h
   |_=>cases h
  | block id b =>
   simp only[exec] at h ⊢
   cases h1:exec P H o0 yo0 zHt nt hh m b e lg with
   |none=>rw[h1] at h;cases h|some q=>
    rw[h1] at h;rw[ih h1];exact h
  | loop b =>
   simp only[exec] at h ⊢
   cases h1:exec P H o0 yo0 zHt nt hh m b (e.drop (hh.loopDrop (zA0 b))) lg with
   |none=>rw[h1] at h;cases h|some q=>
    rw[h1] at h;rw[ih h1];obtain⟨x,e1,lg1⟩:=q
    cases x with
    |norm=>exact ih h|ex id=>exact h|ret=>exact h
  |scope b=>exact ih h
  | rangeFunc x ps ca cb =>
   cases x with
   | tmp t =>
    simp only[exec] at h
    cases lg with
    |none=>
     simp only at h;obtain⟨q,h1,_⟩:=bl.1 h;simp only[zHL] at h1;split at h1
     ·cases h1
     ·cases h1
    |some _=>cases h
   |_=>cases h
  |skip=>exact h|exit id=>exact h|ret=>exact h|label l=>exact h|_=>cases h
end
section
variable [Yo] {P:Program} {H:zBd}
theorem zVY{o0 o:zAO}(ho:Le o0 o){yo0 yo:zCV}{al:All}{n n':Nat}(hn:n<=n'){f:FuncId}{args hid:List PV}{r:PV×List PV}(h:zG2 P H o0 yo0 zHt n f args hid=some r):zG2 P H o yo al n' f args hid=some r:=by
 simp only[zG2] at h ⊢
 cases hf:P.funcs[f]? with
 |none=>rw[hf] at h;cases h
 | some fn =>
  rw[hf] at h;simp only at h ⊢;by_cases hi:(H f).intr≠0
  ·rw[if_pos hi] at h ⊢;exact h
  ·rw [if_neg hi] at h ⊢
   cases hb:fn.body with
   |none=>rw[hb] at h;cases h
   | some body =>
    rw[hb] at h;simp only[zJz] at h ⊢;rcases zBn h with⟨hc,h⟩|⟨_,h⟩
    ·rw[hc];simp only[cond_true]
     cases hx:exec P H o0 yo0 zHt fn.ntmps (H f) n body (zBe args hid) none with
     |none=>rw[hx] at h;cases h
     | some q =>
      rw[hx] at h;rw[zSH ho hx hn];obtain⟨x,e1,lg⟩:=q;cases x<;>cases lg<;>simp only at h ⊢ <;> try (cases h;done)
      all_goals
       cases hr:(zCO P (H f).frz 0 fn.results.toList).run o0 e1 with
       |none=>rw[hr] at h;cases h|some e2=>rw[hr] at h;rw[zK3 ho hr];exact h
    ·cases h
abbrev zZv(P:Program)(H:zBd)(n:Nat):zAO:=(zTr P H zHt n).1
theorem zPt:∀ (n n':Nat),n<=n'->Le (zZv P H n) (zCN P H n')
 |0,_,_=>fun g a h r hh=>by cases hh
 |n+1,n',hn=>by
  obtain⟨k,rfl⟩:∃ k,n'=k+1:=⟨n'-1,by omega⟩;intro g a h r hh;exact zVY (zPt n k (by omega)) (by omega) hh
theorem zCC.closed{f:FuncId}{args hid hX:List PV}{v:PV}(n:Nat)(h:zZv P H n f args hid=some (v,hX):=by kernel_rfl):zCC P H f args hid v hX:=⟨n,fun n' hn=>zPt n n' hn _ _ _ _ h⟩
end
end Go.Eng
namespace Go.Eng
open Go
section
variable {P:Program} {H:zBd}
theorem zSQ(zFI:P.follows .mixedOrders=true)(hnm:zE0 P)(zN4:Fit P H)(hin:zEZ P H){f:FuncId}{args:List PV}(hg:@zCC (yo1 P H) P H f args [] (.bool true) []){w:World}{Φ:Nat->Prop}{vs:Array Value}(hΦ:∀ b,Φ b->b<w.heap.size)(hr:zA5 w Φ zCm args vs.toList [])(kS:args.length<=zAm) :
  Calls P f vs w fun e w'=>e = .returned (.bool true)/\w.heap.size<=w'.heap.size/\(∀ b,b<w.heap.size->w'.heap[b]? = w.heap[b]?)/\w'.os=w.os/\w'.tape=w.tape/\w'.output=w.output:=by
 have qI:zAa=1000000000:=rfl;have hhh:zAm=50000000:=rfl;obtain⟨n0,hg⟩:=hg;obtain⟨_,hm⟩:=@zFk P H (yo1 P H) zFI hnm zN4 hin (zRx zFI hnm zN4 hin) n0 f args [] (.bool true) [] (hg n0 (bi _));obtain⟨hZ,jP⟩:=zMn hr;have hvz:vs.size=args.length:=by rw[<- hZ];simp
 have p2:Conf w (fun b=>∃ s,b∈((fun _=>[]):Nat->LN) s) Φ w Φ (fun s=>(vs[s]?).getD undef) (fun s=>(zBe args []).get s) (fun _=>[]):=by
  refine⟨fun s=>?_,fun _=>cj,fun _ _ _ _ h=>(by cases h),fun _ _ h=>(by cases h),fun b hb=>⟨hΦ b hb,.inl hb⟩,fun _ h=>h,bi _,fun _ _ _=>rfl,rfl,rfl,rfl⟩;show Rep _ _ _ ((zBe args []).get s) _ _
  rw[zDj (by omega)];by_cases h1:s<args.length
  ·rw[if_pos h1];obtain⟨v,uc,kh⟩:=jP s args[s] (bm h1);have:vs[s]? = some v:=by rw[<- bU];exact uc
   rw[this];simp only[List.getD,bm h1,dn];exact kh.mono (fun b hb=>⟨hb,rfl⟩) (fun _ _ _ h=>h.elim) (by simp)
  ·rw[if_neg h1,if_neg (by simp only[b8];omega)];rfl
 have hc:=hm w Φ (fun s=>(vs[s]?).getD undef) (fun s=>(zBe args []).get s) (fun _=>[]) vs (fun _ _=>rfl) (fun s hs=>by
   rw[zDj (by omega),if_neg (by omega),if_neg (by simp only[b8];omega)]) p2 hvz (fun j hj=>by rw[cP (by omega)];rfl) (fun s hs _=>by rw[fQ (by omega)];rfl)
 refine hc.mono fun e w' ⟨u,Φ',rv',E',L',he,C,_,_,vV⟩=>?_;obtain⟨h1,h2⟩:=vV.one (fun ps h=>by cases h);have yA:=C.rep zAG;rw[h1] at yA;have hu:u = .bool true:=by rw[<- h2];exact yA.1
 refine⟨by rw[he,hu],C.size,fun b hb=>C.kept b hb (fun⟨s,hs⟩=>by cases hs),C.os,C.tape,C.output⟩
end
end Go.Eng
namespace Go.Eng
open Go
section
variable [Yo] {P:Program} {H:zBd} {f:FuncId} {nt:Nat} {e e':Env} {lg:Option Log} {K:X->Env->Option Log->Prop} {i:Nat} {c:Code} {s:RS} {R:Env->Option Log->Prop} {fz tk nl:Bool} {orc:zAO}
theorem zB2(p:Prop)[Decidable p](h1:p->W P H f nt (cl c) e lg K)(h2:¬p->W P H f nt (cr c) e lg K)(hc:zEN c e=some (decide p):=by kernel_rfl):W P H f nt c e lg K :=
 zDw (decide p) (fun h=>h1 (of_decide_eq_true h)) (fun h=>h2 (of_decide_eq_false h)) hc
theorem zAs(p:Prop)[Decidable p](hp:p)(h1:W P H f nt (cl c) e lg K)(hc:zEN c e=some (decide p):=by kernel_rfl):W P H f nt c e lg K :=
 zDw (decide p) (fun _=>h1) (fun h=>absurd hp (of_decide_eq_false h)) hc
theorem zAu(p:Prop)[Decidable p](hp:¬p)(h2:W P H f nt (cr c) e lg K)(hc:zEN c e=some (decide p):=by kernel_rfl):W P H f nt c e lg K :=
 zDw (decide p) (fun h=>absurd (of_decide_eq_true h) hp) (fun _=>h2) hc
theorem zDk(p:Prop)[Decidable p](h1:¬p->W P H f nt (cl c) e lg K)(h2:p->W P H f nt (cr c) e lg K)(hc:zEN c e=some (!decide p):=by kernel_rfl):W P H f nt c e lg K :=
 zDw (!decide p) (fun h=>h1 (by simpa using h)) (fun h=>h2 (by simpa using h)) hc
theorem zCq(p:Prop)[Decidable p](hp:¬p)(h1:W P H f nt (cl c) e lg K)(hc:zEN c e=some (!decide p):=by kernel_rfl):W P H f nt c e lg K :=
 zDk p (fun _=>h1) (fun h=>absurd h hp) hc
theorem zEs(p:Prop)[Decidable p](hp:p)(h1:W P H f nt (cr c) e lg K)(hc:zEN c e=some (!decide p):=by kernel_rfl):W P H f nt c e lg K :=
 zDk p (fun h=>absurd hp h) (fun _=>h1) hc
theorem zEq(t:Nat)(b:Bool)(h1:b=true->WS P H f c i ⟨s.dr,s.e.set t (.bool true),s.lg⟩ R)(h2:b=false->WS P H f c i ⟨s.dr,s.e.set t (.bool false),s.lg⟩ R)(hb:s.e.set t (.bool b)=s.e:=by kernel_rfl):WS P H f c i s R:=by
 obtain⟨dr,e,lg⟩:=s;simp only at h1 h2 hb;rw[<- hb]
 cases b with
 |true=>exact h1 rfl|false=>exact h2 rfl
theorem zDh(t:Nat)(p:Prop)[Decidable p](h1:p->WS P H f c i ⟨s.dr,s.e.set t (.bool true),s.lg⟩ R)(h2:¬p->WS P H f c i ⟨s.dr,s.e.set t (.bool false),s.lg⟩ R)(hb:s.e.set t (.bool (decide p))=s.e:=by kernel_rfl):WS P H f c i s R :=
 zEq t (decide p) (fun h=>h1 (of_decide_eq_true h)) (fun h=>h2 (of_decide_eq_false h)) hb
theorem zD3(t:Nat)(p:Prop)[Decidable p](hp:p)(h1:WS P H f c i ⟨s.dr,s.e.set t (.bool true),s.lg⟩ R)(hb:s.e.set t (.bool (decide p))=s.e:=by kernel_rfl):WS P H f c i s R :=
 zDh t p (fun _=>h1) (fun h=>absurd hp h) hb
theorem zHx(t:Nat)(p:Prop)[Decidable p](hp:¬p)(h1:WS P H f c i ⟨s.dr,s.e.set t (.bool false),s.lg⟩ R)(hb:s.e.set t (.bool (decide p))=s.e:=by kernel_rfl):WS P H f c i s R :=
 zDh t p (fun h=>absurd h hp) (fun _=>h1) hb
theorem zTC(t:Nat)(p:Prop)[Decidable p](h1:¬p->WS P H f c i ⟨s.dr,s.e.set t (.bool true),s.lg⟩ R)(h2:p->WS P H f c i ⟨s.dr,s.e.set t (.bool false),s.lg⟩ R)(hb:s.e.set t (.bool (!decide p))=s.e:=by kernel_rfl):WS P H f c i s R :=
 zEq t (!decide p) (fun h=>h1 (by simpa using h)) (fun h=>h2 (by simpa using h)) hb
theorem zXV(t:Nat)(p:Prop)[Decidable p](hp:¬p)(h1:WS P H f c i ⟨s.dr,s.e.set t (.bool true),s.lg⟩ R)(hb:s.e.set t (.bool (!decide p))=s.e:=by kernel_rfl):WS P H f c i s R :=
 zTC t p (fun _=>h1) (fun h=>absurd h hp) hb
theorem zTI(t:Nat)(p:Prop)[Decidable p](hp:p)(h1:WS P H f c i ⟨s.dr,s.e.set t (.bool false),s.lg⟩ R)(hb:s.e.set t (.bool (!decide p))=s.e:=by kernel_rfl):WS P H f c i s R :=
 zTC t p (fun h=>absurd hp h) (fun _=>h1) hb
theorem get_map{α β:Type}{g:α->β}{l:List α}{i:Nat}{d:α}(h:i<l.length):(l.map g)[i]? = some (g (l.getD i d)):=by
 simp[List.getD,bm h]
def zaa(e:Env)(p q:PV)(l:List (Nat×zA2))(t:Tok):Prop:=∀ (orc:zAO) (k:PV->List (Nat×zA2)->PM),(zRC p k).runT orc e=((k q l).runT orc e).map fun y=>(y.1,Tok.join t y.2)
inductive SeenAllT (e:Env):LN->List PV->List Arg->List Tok->Prop where
 |nil {ms}:SeenAllT e ms [] [] []
 |ref {ms ps as ts p}:SeenAllT e ms.tail ps as ts->(hb:beq (ms.headD 0) 1=true:=by kernel_rfl)->SeenAllT e ms (p::ps) ({p:=p,byref:=true}::as) ts
 |one {ms ps as ts p q l t}:zaa e p q l t->SeenAllT e ms.tail ps as ts->(hb:beq (ms.headD 0) 1=false:=by kernel_rfl)->SeenAllT e ms (p::ps) ({p:=q,shared:=l}::as) (t::ts)
def zML:List (Nat×PV)->Env->Env
 |[],e=>e|(k,v)::l,e=>zML l (e.set k v)
theorem zAo{σ:Type}{c:Code}(Inv:σ->Prop)(upd:σ->List (Nat×PV))(μ:σ->Nat)(s:σ)(hi:Inv s) (h:∀ s,Inv s->W P H f nt (cl c) (zML (upd s) (e.drop ((H f).loopDrop (zA0 (cl c))))) lg fun x e' lg'=>match x with
   |.norm=>∃ s',Inv s'/\μ s'<μ s/\e'.drop ((H f).loopDrop (zA0 (cl c)))=zML (upd s') (e.drop ((H f).loopDrop (zA0 (cl c))))/\lg'=lg|x=>K x e' lg') (hs:e.drop ((H f).loopDrop (zA0 (cl c)))=zML (upd s) (e.drop ((H f).loopDrop (zA0 (cl c)))):=by kernel_rfl) (hc:zQz c=true:=by kernel_rfl):W P H f nt c e lg K :=
 zYR Inv (fun s=>zML (upd s) (e.drop ((H f).loopDrop (zA0 (cl c))))) μ s hi h hs hc
end
end Go.Eng
namespace Go.Eng
open Go
theorem zJl{x:Nat->Option (List (List PV))}{r:List (List PV)}(h:∀ i,x i=some r):zCc x=some r:=by
 have h':∃ r,∀ i,x i=some r:=⟨r,h⟩;simp only[zCc,dif_pos h'];have:=(fp h') 0;rw[h 0] at this;exact this.symm
section
def zVR[Yo](g:FuncId)(first caps:List PV)(k:Int)(xs:List (List PV)):Prop:=∀ i,Yo.yo g first i caps k=some xs
def zGy[Yo](g:FuncId)(first caps:List PV)(xs:List (List PV)):Prop:=zVR g first caps (-1) xs/\∀ j:Nat,1<=j->j<=xs.length->zVR g first caps j (xs.take j)
variable [Yo] (P:Program) (H:zBd)
def zMg(f:FuncId)(nt:Nat)(ps:List Tmp)(assign body:Code)(x:List PV)(e:Env)(K:X->Env->Prop):Prop :=
 ∃ e1,zCx ps x e=some e1/\W P H f nt assign e1 none fun y e2 lg=>y = .norm/\lg=none/\W P H f nt body e2 none fun y e3 lg=>lg=none/\K y e3
def Rg(f:FuncId)(nt:Nat)(ps:List Tmp)(assign body:Code)(R ds:LN)(K:X->Env->Option Log->Prop):List (List PV)->Env->Prop
 |[],e=>K .norm e none
 | x :: xs,e=>zMg P H f nt ps assign body x e fun y e3=>match y with
  |.norm=>match R with
   |[]=>Rg f nt ps assign body R ds K xs (after nt [] ds e e3)|r::R'=>zGr e (zCX e (r::R'))=true/\∃ e1,zEC (zCX e (r::R')) e=some e1/\zMg P H f nt ps assign body x e1 fun y e3=>y = .norm/\Rg f nt ps assign body R ds K xs (after nt (zCX e (r::R')) ds e e3)
  |y=>K y (after nt [] ds e e3) none
end
section
variable [Yo] {P:Program} {H:zBd} {f:FuncId} {nt:Nat} {e e':Env} {lg:Option Log} {K:X->Env->Option Log->Prop}
noncomputable abbrev zOG(P:Program)(H:zBd)(f:FuncId)(nt n m:Nat):Code->Env->Option (X×Env):=fun c e=>match exec P H (zCN P H n) Yo.yo zCc nt (H f) m c e none with|some (x,e',none)=>some (x,e')|_=>none
def zQh(run:Code->Env->Option (X×Env))(ps:List Tmp)(assign body:Code)(x:List PV)(e:Env):Option (X×Env):=match zCx ps x e with
 |some e1=>match run assign e1 with
  |some (.norm,e2)=>run body e2|_=>none
 |none=>none
theorem zBS{run:Code->Env->Option (X×Env)}{ps:List Tmp}{assign body:Code}{R ds:LN}{x:List PV}{xs:List (List PV)}{j:Nat}:zC7 nt run ps assign body R ds (x::xs) e j=(match zQh run ps assign body x e with
  | some (.norm,e3)=>match R with
   |[]=>zC7 nt run ps assign body R ds xs (after nt [] ds e e3) (j+1)
   | r :: R=>match (bif zGr e (zCX e (r::R)) then zEC (zCX e (r::R)) e else none) with
    |some e1=>match zQh run ps assign body x e1 with
     |some (.norm,e3)=>zC7 nt run ps assign body (r::R) ds xs (after nt (zCX e (r::R)) ds e e3) (j+1)|_=>none
    |none=>none
  |some (r,e3)=>some (some (j+1,r),after nt [] ds e e3)|none=>none):=by
 cases R<;>rfl
theorem zMg.run{ps:List Tmp}{assign body:Code}{x:List PV}{K:X->Env->Prop}(h:zMg P H f nt ps assign body x e K):∃ n0 y e3,(∀ n m,n0<=n->n0<=m->zQh (zOG P H f nt n m) ps assign body x e=some (y,e3))/\K y e3:=by
 obtain⟨e1,h1,n1,y,e2,lg,h2,rfl,rfl,n2,z,e3,lg,h3,rfl,h4⟩:=h;refine⟨max n1 n2,z,e3,fun n m hn hm=>?_,h4⟩;simp only[zQh,h1,zOG,h2 n m (by omega) (by omega),h3 n m (by omega) (by omega)]
theorem Rg.run{ps:List Tmp}{assign body:Code}{R ds:LN}:∀ {xs:List (List PV)} {e:Env},Rg P H f nt ps assign body R ds K xs e->∃ n0,
  (∃ e',(∀ n m j,n0<=n->n0<=m->zC7 nt (zOG P H f nt n m) ps assign body R ds xs e j=some (none,e'))/\K .norm e' none) \/
  (∃ i y e',i<xs.length/\y ≠ .norm/\(∀ n m j,n0<=n->n0<=m->zC7 nt (zOG P H f nt n m) ps assign body R ds xs e j=some (some (j+i+1,y),e')) /\
   (∀ n m j,n0<=n->n0<=m->zC7 nt (zOG P H f nt n m) ps assign body R ds (xs.take (i+1)) e j=some (some (j+i+1,y),e'))/\K y e' none)
 |[],e,h=>⟨0,.inl ⟨e,fun _ _ _ _ _=>rfl,h⟩⟩
 | x :: xs,e,h=>by
  obtain⟨n1,y,e3,h1,h2⟩:=zMg.run h
  cases y with
  | norm =>
   cases R with
   | nil =>
    simp only at h2;obtain⟨n2,h3⟩:=Rg.run h2;refine⟨max n1 n2,?_⟩;rcases h3 with⟨e',h3,h4⟩|⟨i,y,e',hi,hy,h3,h4,h5⟩
    ·exact .inl ⟨e',fun n m j hn hm=>by rw[zBS,h1 n m (by omega) (by omega)];exact h3 n m _ (by omega) (by omega),h4⟩
    ·refine .inr ⟨i+1,y,e',by simp;omega,hy,fun n m j hn hm=>?_,fun n m j hn hm=>?_,h5⟩
     ·rw[zBS,h1 n m (by omega) (by omega)];simp only;rw[h3 n m _ (by omega) (by omega)];simp only[ba,bB,and_true];omega
     ·rw[fe,zBS,h1 n m (by omega) (by omega)];simp only;rw[h4 n m _ (by omega) (by omega)];simp only[ba,bB,and_true];omega
   | cons r R' =>
    simp only at h2;obtain⟨hc,e1,hf,hr⟩:=h2;obtain⟨n3,z,e4,h6,rfl,h7⟩:=zMg.run hr;obtain⟨n2,h3⟩:=Rg.run h7;refine⟨max n1 (max n2 n3),?_⟩;rcases h3 with⟨e',h3,h4⟩|⟨i,y,e',hi,hy,h3,h4,h5⟩
    ·exact .inl ⟨e',fun n m j hn hm=>by rw[zBS,h1 n m (by omega) (by omega)];simp only[hc,cond_true,hf,h6 n m (by omega) (by omega)];exact h3 n m _ (by omega) (by omega),h4⟩
    ·refine .inr ⟨i+1,y,e',by simp;omega,hy,fun n m j hn hm=>?_,fun n m j hn hm=>?_,h5⟩
     ·rw[zBS,h1 n m (by omega) (by omega)];simp only[hc,cond_true,hf,h6 n m (by omega) (by omega)];rw[h3 n m _ (by omega) (by omega)];simp only[ba,bB,and_true];omega
     ·rw[fe,zBS,h1 n m (by omega) (by omega)];simp only[hc,cond_true,hf,h6 n m (by omega) (by omega)];rw[h4 n m _ (by omega) (by omega)];simp only[ba,bB,and_true];omega
  |ex id=>
   refine⟨n1,.inr ⟨0,.ex id,_,by simp,by simp,fun n m j hn hm=>?_,fun n m j hn hm=>?_,h2⟩⟩
   ·rw[zBS,h1 n m (by omega) (by omega)]
   ·rw[fe,zBS,h1 n m (by omega) (by omega)]
  |ret=>
   refine⟨n1,.inr ⟨0,.ret,_,by simp,by simp,fun n m j hn hm=>?_,fun n m j hn hm=>?_,h2⟩⟩
   ·rw[zBS,h1 n m (by omega) (by omega)]
   ·rw[fe,zBS,h1 n m (by omega) (by omega)]
def rgT:Code->ON
 |.rangeFunc (.tmp t) _ _ _=>some t|_=>none
def zZJ:Code->List Tmp
 |.rangeFunc _ ps _ _=>ps.toList|_=>[]
def rgA:Code->Code
 |.rangeFunc _ _ a _=>a|c=>c
def rgB:Code->Code
 |.rangeFunc _ _ _ b=>b|c=>c
def zYz(c:Code):LN:=zZJ c++zBW (rgA c)++zBW (rgB c)
theorem zXn{t:Tmp}{ps:Array Tmp}{assign body:Code}{g:FuncId}{first caps:List PV}{R:LN}{xs:List (List PV)}(yO:zDV e t=some (g,first,caps,R))(hY:zGy g first caps xs)
  (h:Rg P H f nt ps.toList assign body R (ps.toList++zBW assign++zBW body) K xs e):W P H f nt (.rangeFunc (.tmp t) ps assign body) e none K:=by
 obtain⟨hY1,hY2⟩:=hY;obtain⟨n2,hr⟩:=Rg.run h;rcases hr with⟨e',h3,h4⟩|⟨i,y,e',hi,hy,h3,h4,h5⟩
 ·refine⟨n2+1,.norm,e',none,fun n m hn hm=>?_,h4⟩;obtain⟨m,rfl⟩:∃ k,m=k+1:=⟨m-1,by omega⟩;show(zHL nt Yo.yo zCc (zOG P H f nt n m) t ps.toList assign body e).map (fun x=>(x.1,x.2,none))=_
  simp only[zHL,yO,zJl (fun i=>hY1 i),h3 n m 0 (by omega) (by omega),bz]
 ·have hY2:=hY2 (i+1) (by omega) (by omega);refine⟨n2+1,y,e',none,fun n m hn hm=>?_,h5⟩;obtain⟨m,rfl⟩:∃ k,m=k+1:=⟨m-1,by omega⟩;show(zHL nt Yo.yo zCc (zOG P H f nt n m) t ps.toList assign body e).map (fun x=>(x.1,x.2,none))=_
  simp only[zHL,yO,zJl (fun i=>hY1 i),h3 n m 0 (by omega) (by omega)];have hcast:((0+i+1:Nat):Int)=((i+1:Nat):Int):=by omega
  rw[hcast,zJl (fun i=>hY2 i)];simp only[h4 n m 0 (by omega) (by omega),bZ];rw[if_pos ⟨trivial,by omega⟩];rfl
theorem zSP{c:Code}{t g:Nat}{first caps:List PV}{R:LN}{xs:List (List PV)}(hY:zGy g first caps xs)(h:Rg P H f nt (zZJ c) (rgA c) (rgB c) R (zYz c) K xs e)(yO:zDV e t=some (g,first,caps,R):=by kernel_rfl)(hc:rgT c=some t:=by kernel_rfl)(hl:lg=none:=by kernel_rfl):W P H f nt c e lg K:=by
 subst hl;cases c<;>try (cases hc;done)
 rename_i x ps a b;cases x<;>try (cases hc;done)
 rename_i u;simp only[rgT,ba] at hc;subst hc;exact zXn yO hY h
theorem zYk{σ:Type}{c:Code}{t g:Nat}{first caps:List PV}{xs:List (List PV)}(hY:zGy g first caps xs)(Inv:Nat->σ->Prop)(I:σ->Env)(s:σ)(hi:Inv 0 s)
  (h:∀ j x s,xs[j]? = some x->Inv j s->zMg P H f nt (zZJ c) (rgA c) (rgB c) x (I s) fun y e3=>match y with
   |.norm=>∃ s',Inv (j+1) s'/\after nt [] (zYz c) (I s) e3=I s'|y=>K y (after nt [] (zYz c) (I s) e3) none) (hK:∀ s,Inv xs.length s->K .norm (I s) none) (hs:e=I s:=by kernel_rfl) (yO:zDV e t=some (g,first,caps,[]):=by kernel_rfl) (hc:rgT c=some t:=by kernel_rfl) (hl:lg=none:=by kernel_rfl):W P H f nt c e lg K:=by
 refine zSP hY ?_ yO hc hl;clear yO hY;subst hs;have key:∀ (ys:List (List PV)) (j:Nat) (s:σ),xs.drop j=ys->j<=xs.length->Inv j s->Rg P H f nt (zZJ c) (rgA c) (rgB c) [] (zYz c) K ys (I s):=by
  intro ys
  induction ys with
  | nil =>
   intro j s hd hj hi;have:j=xs.length:=by
    have:=congrArg length hd;simp at this;omega
   subst this;exact hK s hi
  | cons x ys ih =>
   intro j s hd hj hi;have hx:xs[j]? = some x:=by
    have:=congrArg (fun l=>l[0]?) hd;simpa using this
   have yI:=(bg.1 hx).1;obtain⟨e1,h1,h2⟩:=h j x s hx hi;refine⟨e1,h1,zTA h2 fun y e2 lg ⟨a1,a2,a3⟩=>⟨a1,a2,zTA a3 fun y e3 lg ⟨b1,b2⟩=>⟨b1,?_⟩⟩⟩
   cases y with
   |norm=>
    obtain⟨s',jF,he⟩:=b2;simp only;rw[he];refine ih (j+1) s' ?_ (by omega) jF;rw[<- dJ,hd];rfl
   |ex id=>exact b2|ret=>exact b2
 exact key xs 0 s rfl (by omega) hi
theorem zP5{ps:List Tmp}{a b:Code}{x:List PV}{K:X->Env->Prop}(h:W P H f nt a ((zCx ps x e).getD []) none fun y e2 lg=>y = .norm/\lg=none/\W P H f nt b e2 none fun y e3 lg=>lg=none/\K y e3)(hp:(zCx ps x e).isSome=true:=by kernel_rfl):zMg P H f nt ps a b x e K:=by
 obtain⟨e1,h1⟩:=fd.1 hp;rw[h1] at h;exact⟨e1,h1,h⟩
omit [Yo] in
theorem zVh(fn:Func){g:FuncId}{first caps:List PV}{k:Int}{xs:List (List PV)}(h:∀ i,@W yo0 P H g fn.ntmps (fn.body.getD .ret) (zBe (first++PV.yld i::caps) []) (some ⟨[],k,i⟩) fun x _ lg=>(x = .norm\/x = .ret)/\lg.map (·.xs)=some xs)(hk:k≠0)
  (hf:P.funcs[g]? = some fn:=by kernel_rfl) (hb:fn.body.isSome=true:=by kernel_rfl) (hc:∀ i,(ble (first++PV.yld i::caps).length fn.ntmps&&fn.results.isEmpty&&(first++caps).all (fun p=>!p.isTup))=true:=by intro i;kernel_rfl) (hin:beq (H g).intr 0=true:=by kernel_rfl):@zVR (yo1 P H) g first caps k xs:=by
 intro i;obtain⟨body,hb⟩:∃ body,fn.body=some body:=by cases hx:fn.body<;>first|exact⟨_,rfl⟩|(rw[hx] at hb;cases hb)
 have h:=h i;simp only[hb,dn] at h;obtain⟨n0,x,e1,lg1,h1,hx,hl⟩:=h;refine zXL (n0:=n0) fun n hn=>?_;have j7:=h1 n (n+1) (by omega) (by omega)
 cases lg1 with
 |none=>cases hl|some l=>
  simp only[bz,ba] at hl;simp only[zVA,zZl,hf,hb];have qA:(k != 0)=true:=by simpa using hk
  have hc':=hc i;rw[hc',qA,hin];simp only[dR,cond_true,j7];rcases hx with rfl|rfl<;>simp[hl]
end
end Go.Eng
namespace Go.Eng
open Go
inductive PX where
 |ok|fail|emb (p:PM)
 |view (s:Nat) (k:PV->PX)|get (s:Nat) (k:PV->PX)|set (s:Nat) (p:PV) (k:PX)
 |cells (r:Nat) (pre:zA2) (i c n:Nat) (k:Bool->List PV->PX)|deep (r:Nat) (pre:zA2) (k:PV->PX)
 |wcells (r:Nat) (pre:zA2) (i c:Nat) (qs:List PV) (k:PX)|wnode (r:Nat) (pre:zA2) (q:PV) (k:PX)
 |kill (r:Nat) (pre:zA2) (k:PX)|frz (r:Nat) (pre:zA2) (k:PX)|frzp (r:Nat) (pre:zA2) (p:PV) (k:PV->PX)|killEx (r:Nat) (keep:List zA2) (k:PX)
 |call (f:FuncId) (args hid:List PV) (k:PV->List PV->PX)
 |test (b:Bool) (k:PX)|pick (x:Option PV) (k:PV->PX)|num (x:ON) (k:Nat->PX)|idx (x:Option ON) (k:ON->PX)
 |choose (b:Bool) (k1 k2:PX)|same (p:PV) (k:PV->PX)|sames (ps:List PV) (k:List PV->PX)
 |nats (x:LN) (k:LN->PX)|pure (d:ON) (f:FuncId) (args:List PV) (k:PX)
def PX.toPM:PX->PM
 |.ok=>.ok|.fail=>.fail|.emb p=>p|.view s k=>.view s fun p=>(k p).toPM
 |.get s k=>.get s fun p=>(k p).toPM
 |.set s p k=>.set s p k.toPM|.cells r pre i c n k=>.cells r pre i c n fun a qs=>(k a qs).toPM
 |.deep r pre k=>.deep r pre fun q=>(k q).toPM
 |.wcells r pre i c qs k=>.wcells r pre i c qs k.toPM|.wnode r pre q k=>.wnode r pre q k.toPM|.kill r pre k=>.kill r pre k.toPM|.frz r pre k=>.frz r pre k.toPM|.frzp r pre p k=>.frz r pre (k p).toPM|.killEx r keep k=>.killEx r keep k.toPM|.call f args hid k=>.call f args hid fun v h=>(k v h).toPM
 |.test b k=>bif b then k.toPM else .fail|.pick x k=>match x with
  |some v=>(k v).toPM|none=>.fail
 |.num x k=>match x with
  |some v=>(k v).toPM|none=>.fail
 |.idx x k=>match x with
  |some v=>(k v).toPM|none=>.fail
 |.choose b k1 k2=>bif b then k1.toPM else k2.toPM|.same p k=>(k p).toPM|.sames ps k=>(k ps).toPM|.nats x k=>(k x).toPM|.pure _ _ _ k=>k.toPM
inductive An where
 |ob|v (p:PV)|vs (ps:List PV)|n (k:Nat)|ix (k:ON)|yes|no|cs (a:Bool) (qs:List PV)|root (r:PV) (kept:Bool)|ret (v:PV) (hid:List PV)|ns (l:LN)|env (e:Env)|envv (e:Env) (q:PV)
abbrev Ans:=List (Nat×An)
def zGJ:Ans->Option An×Ans
 |[]=>(none,[])|(0,a)::l=>(some a,l)|(n+1,a)::l=>(none,(n,a)::l)
section
variable [Yo] (P:Program) (H:zBd)
def zVl(f:FuncId)(args:List PV)(v:PV):Prop:=∀ (d:ON) (e:Env),∃ n0,∀ n,n0<=n->(zOy H d f args).runT (zCN P H n) e=(put d v).runT (zCN P H n) e
abbrev XR:=Option (Env×Tok×List Prop)
def XR.tok(t:Tok)(x:XR):XR:=x.map fun y=>(y.1,Tok.join t y.2.1,y.2.2)
def XR.ob(q:Prop)(x:XR):XR:=x.map fun y=>(y.1,y.2.1,q::y.2.2)
def PX.run:PX->Ans->Env->XR
 |.ok,_,e=>some (e,{},[])|.fail,_,_=>none|.emb p,_,e=>(p.runT zH3 e).map fun y=>(y.1,y.2,[])
 |.view s k,as,e=>((k (Eng.view s (e.get s))).run as e).tok {look:=[s]}|.get s k,as,e=>match e.get s with
  |.lock _=>none|p=>((k p).run as e).tok {rd:=[s]}
 |.set s p k,as,e=>(k.run as (e.set s p)).tok (zFO s (e.get s) p)
 | .cells r pre i c n k,as,e=>match zGJ as with
  |(none,as)=>match zAy r (e.get r) pre i c n with
   |some (a,qs)=>((k a qs).run as e).tok {cel:=[(r,pre)]}|none=>none
  |(some (.cs a qs),as)=>(((k a qs).run as e).tok {cel:=[(r,pre)]}).ob (zAy r (e.get r) pre i c n=some (a,qs))|_=>none
 | .deep r pre k,as,e=>match zGJ as with
  |(none,as)=>match zAF (e.get r).unlock pre with
   |some q=>((k q).run as e).tok {rd:=[r]}|none=>none
  |(some (.v q),as)=>(((k q).run as e).tok {rd:=[r]}).ob (zAF (e.get r).unlock pre=some q)|_=>none
 | .wcells r pre i c qs k,as,e=>match zGJ as with
  |(none,as)=>match zBG (e.get r) pre i c qs with
   |some root=>(k.run as (e.set r root)).tok (zBj r [] (zAP (e.get r) root pre) (e.get r) root)|none=>none
  |(some (.root root kp),as)=>((k.run as (e.set r root)).tok (zBj r [] kp (e.get r) root)).ob (zBG (e.get r) pre i c qs=some root/\zAP (e.get r) root pre=kp)|_=>none
 | .wnode r pre q k,as,e=>match zGJ as with
  |(none,as)=>bif (e.get r).isLock then none else match zAA (fun _=>some q) (e.get r) pre with
   |some root=>(k.run as (e.set r root)).tok (zBj r pre.dropLast (zAP (e.get r) root pre&&(pre.isEmpty || !q.isAgg)) (e.get r) root)|none=>none
  |(some (.root root kp),as)=>bif (e.get r).isLock then none else((k.run as (e.set r root)).tok (zBj r pre.dropLast (kp&&(pre.isEmpty || !q.isAgg)) (e.get r) root)).ob (zAA (fun _=>some q) (e.get r) pre=some root/\zAP (e.get r) root pre=kp)
  |_=>none
 |.kill r pre k,as,e=>(k.run as (e.kill r pre)).tok (zAV (zDo e fun z=>zAT r pre z.1 z.2) e.get (e.kill r pre).get [r] [])
 | .frz r pre k,as,e=>match zGJ as with
  |(none,as)=>match e.frz r pre with
   |some e'=>(k.run as e').tok (zAV (r::zDo e fun z=>zAT r pre z.1 z.2) e.get e'.get [r] [])
   |none=>none
  |(some (.env e'),as)=>((k.run as e').tok (zAV (r::zDo e fun z=>zAT r pre z.1 z.2) e.get e'.get [r] [])).ob (e.frz r pre=some e')
  |_=>none
 | .frzp r pre p k,as,e=>match zGJ as with
  |(none,as)=>match e.frz r pre with
   |some e'=>((k p).run as e').tok (zAV (r::zDo e fun z=>zAT r pre z.1 z.2) e.get e'.get [r] [])
   |none=>none
  |(some (.env e'),as)=>(((k p).run as e').tok (zAV (r::zDo e fun z=>zAT r pre z.1 z.2) e.get e'.get [r] [])).ob (e.frz r pre=some e')
  |(some (.envv e' q),as)=>(((k q).run as e').tok (zAV (r::zDo e fun z=>zAT r pre z.1 z.2) e.get e'.get [r] [])).ob (e.frz r pre=some e'/\p=q)
  |_=>none
 |.killEx r keep k,as,e=>(k.run as (e.killEx r keep)).tok (zAV (zDo e fun z=>beq z.1 r && !z.2.isEmpty) e.get (e.killEx r keep).get [] [r])
 |.call f args hid k,as,e=>match zGJ as with
  |(some (.ret v hX),as)=>((k v hX).run as e).ob (zCC P H f args hid v hX)|_=>none
 |.test b k,as,e=>match zGJ as with
  |(none,as)=>bif b then k.run as e else none|(some .ob,as)=>(k.run as e).ob (b=true)|_=>none
 | .pick x k,as,e=>match zGJ as with
  |(none,as)=>match x with
   |some v=>(k v).run as e|none=>none
  |(some (.v v),as)=>((k v).run as e).ob (x=some v)|_=>none
 | .num x k,as,e=>match zGJ as with
  |(none,as)=>match x with
   |some v=>(k v).run as e|none=>none
  |(some (.n v),as)=>((k v).run as e).ob (x=some v)|_=>none
 | .idx x k,as,e=>match zGJ as with
  |(none,as)=>match x with
   |some v=>(k v).run as e|none=>none
  |(some (.ix v),as)=>((k v).run as e).ob (x=some v)|_=>none
 |.choose b k1 k2,as,e=>match zGJ as with
  |(none,as)=>bif b then k1.run as e else k2.run as e|(some .yes,as)=>(k1.run as e).ob (b=true)|(some .no,as)=>(k2.run as e).ob (b=false)|_=>none
 |.same p k,as,e=>match zGJ as with
  |(none,as)=>(k p).run as e|(some (.v q),as)=>((k q).run as e).ob (p=q)|_=>none
 |.sames ps k,as,e=>match zGJ as with
  |(none,as)=>(k ps).run as e|(some (.vs qs),as)=>((k qs).run as e).ob (ps=qs)|_=>none
 |.nats x k,as,e=>match zGJ as with
  |(none,as)=>(k x).run as e|(some (.ns l),as)=>((k l).run as e).ob (x=l)|_=>none
 |.pure d f args k,as,e=>match zGJ as with
  |(none,as)=>k.run as e|(some (.v v),_)=>XR.ob (zVl P H f args v/\k.toPM=zOy H d f args) (((put d v).runT zH3 e).map fun y=>(y.1,y.2,[]))
  |_=>none
def zUB:List Prop->Prop
 |[]=>True|p::ps=>p/\zUB ps
end
section
variable [Yo] {P:Program} {H:zBd}
theorem XR.tok_some{t u:Tok}{x:XR}{e':Env}{obs:List Prop}(h:x.tok t=some (e',u,obs)):∃ u',x=some (e',u',obs)/\u=Tok.join t u':=by
 obtain⟨⟨a,b,c⟩,h1,h2⟩:=bl.1 h;simp only[bB] at h2;obtain⟨rfl,rfl,rfl⟩:=h2;exact⟨_,h1,rfl⟩
theorem XR.ob_some{q:Prop}{u:Tok}{x:XR}{e':Env}{obs:List Prop}(h:x.ob q=some (e',u,obs)):∃ o',x=some (e',u,o')/\obs=q::o':=by
 obtain⟨⟨a,b,c⟩,h1,h2⟩:=bl.1 h;simp only[bB] at h2;obtain⟨rfl,rfl,rfl⟩:=h2;exact⟨_,h1,rfl⟩
theorem PX.run_ok:∀ {p:PX} {as:Ans} {e e':Env} {t:Tok} {obs:List Prop},p.run P H as e=some (e',t,obs)->zUB obs->∃ n0,∀ n,n0<=n->p.toPM.runT (zCN P H n) e=some (e',t):=by
 intro p
 induction p with
 |ok=>intro as e e' t obs h _;simp only[PX.run,ba,bB] at h;obtain⟨rfl,rfl,_⟩:=h;exact⟨0,fun _ _=>rfl⟩
 |fail=>intro as e e' t obs h _;cases h|emb p=>
  intro as e e' t obs h _;obtain⟨⟨a,b⟩,h1,h2⟩:=bl.1 h;simp only[bB] at h2;obtain⟨rfl,rfl,_⟩:=h2;exact⟨0,fun _ _=>zIT h1⟩
 |view s k ih=>
  intro as e e' t obs h ha;obtain⟨u,h1,rfl⟩:=XR.tok_some h;obtain⟨n0,h2⟩:=ih _ h1 ha;exact⟨n0,fun n hn=>by simp only[PX.toPM,PM.runT,h2 n hn];rfl⟩
 | get s k ih =>
  intro as e e' t obs h ha;simp only[PX.run] at h;cases hg:e.get s<;>rw[hg] at h<;>simp only at h<;>try (cases h;done)
  all_goals
   obtain⟨u,h1,rfl⟩:=XR.tok_some h;obtain⟨n0,h2⟩:=ih _ h1 ha;exact⟨n0,fun n hn=>by simp only[PX.toPM,PM.runT,hg,h2 n hn];rfl⟩
 |set s q k ih=>
  intro as e e' t obs h ha;obtain⟨u,h1,rfl⟩:=XR.tok_some h;obtain⟨n0,h2⟩:=ih h1 ha;exact⟨n0,fun n hn=>by simp only[PX.toPM,PM.runT,h2 n hn];rfl⟩
 | cells r pre i c n k ih =>
  intro as e e' t obs h ha;simp only[PX.run] at h;split at h
  ·split at h
   ·rename_i hr;obtain⟨u,h1,rfl⟩:=XR.tok_some h;obtain⟨n0,h2⟩:=ih _ _ h1 ha;exact⟨n0,fun n hn=>by simp only[PX.toPM,PM.runT,hr,h2 n hn];rfl⟩
   ·cases h
  ·obtain⟨o,h0,rfl⟩:=XR.ob_some h;obtain⟨u,h1,rfl⟩:=XR.tok_some h0;obtain⟨n0,h2⟩:=ih _ _ h1 ha.2;exact⟨n0,fun n hn=>by simp only[PX.toPM,PM.runT,ha.1,h2 n hn];rfl⟩
  ·cases h
 | deep r pre k ih =>
  intro as e e' t obs h ha;simp only[PX.run] at h;split at h
  ·split at h
   ·rename_i hr;obtain⟨u,h1,rfl⟩:=XR.tok_some h;obtain⟨n0,h2⟩:=ih _ h1 ha;exact⟨n0,fun n hn=>by simp only[PX.toPM,PM.runT,hr,h2 n hn];rfl⟩
   ·cases h
  ·obtain⟨o,h0,rfl⟩:=XR.ob_some h;obtain⟨u,h1,rfl⟩:=XR.tok_some h0;obtain⟨n0,h2⟩:=ih _ h1 ha.2;exact⟨n0,fun n hn=>by simp only[PX.toPM,PM.runT,ha.1,h2 n hn];rfl⟩
  ·cases h
 | wcells r pre i c qs k ih =>
  intro as e e' t obs h ha;simp only[PX.run] at h;split at h
  ·split at h
   ·rename_i hr;obtain⟨u,h1,rfl⟩:=XR.tok_some h;obtain⟨n0,h2⟩:=ih h1 ha;exact⟨n0,fun n hn=>by simp only[PX.toPM,PM.runT,hr,h2 n hn];rfl⟩
   ·cases h
  ·obtain⟨o,h0,rfl⟩:=XR.ob_some h;obtain⟨u,h1,rfl⟩:=XR.tok_some h0;obtain⟨n0,h2⟩:=ih h1 ha.2;exact⟨n0,fun n hn=>by simp only[PX.toPM,PM.runT,ha.1.1,ha.1.2,h2 n hn];rfl⟩
  ·cases h
 | wnode r pre q k ih =>
  intro as e e' t obs h ha;simp only[PX.run] at h;split at h
  ·rcases zBn h with⟨_,h⟩|⟨hl,h⟩
   ·cases h
   ·split at h
    ·rename_i hr;obtain⟨u,h1,rfl⟩:=XR.tok_some h;obtain⟨n0,h2⟩:=ih h1 ha;exact⟨n0,fun n hn=>by simp only[PX.toPM,PM.runT,hl,cond_false,hr,h2 n hn];rfl⟩
    ·cases h
  ·rcases zBn h with⟨_,h⟩|⟨hl,h⟩
   ·cases h
   ·obtain⟨o,h0,rfl⟩:=XR.ob_some h;obtain⟨u,h1,rfl⟩:=XR.tok_some h0;obtain⟨n0,h2⟩:=ih h1 ha.2;exact⟨n0,fun n hn=>by simp only[PX.toPM,PM.runT,hl,cond_false,ha.1.1,ha.1.2,h2 n hn];rfl⟩
  ·cases h
 |kill r pre k ih=>
  intro as e e' t obs h ha;obtain⟨u,h1,rfl⟩:=XR.tok_some h;obtain⟨n0,h2⟩:=ih h1 ha;exact⟨n0,fun n hn=>by simp only[PX.toPM,PM.runT,h2 n hn];rfl⟩
 | frz r pre k ih =>
  intro as e e' t obs h ha;simp only[PX.run] at h;split at h
  ·split at h
   ·rename_i hr;obtain⟨u,h1,rfl⟩:=XR.tok_some h;obtain⟨n0,h2⟩:=ih h1 ha;exact⟨n0,fun n hn=>by simp only[PX.toPM,PM.runT,hr,h2 n hn];rfl⟩
   ·cases h
  ·obtain⟨o,h0,rfl⟩:=XR.ob_some h;obtain⟨u,h1,rfl⟩:=XR.tok_some h0;obtain⟨n0,h2⟩:=ih h1 ha.2;exact⟨n0,fun n hn=>by simp only[PX.toPM,PM.runT,ha.1,h2 n hn];rfl⟩
  ·cases h
 | frzp r pre p k ih =>
  intro as e e' t obs h ha;simp only[PX.run] at h;split at h
  ·split at h
   ·rename_i hr;obtain⟨u,h1,rfl⟩:=XR.tok_some h;obtain⟨n0,h2⟩:=ih _ h1 ha;exact⟨n0,fun n hn=>by simp only[PX.toPM,PM.runT,hr,h2 n hn];rfl⟩
   ·cases h
  ·obtain⟨o,h0,rfl⟩:=XR.ob_some h;obtain⟨u,h1,rfl⟩:=XR.tok_some h0;obtain⟨n0,h2⟩:=ih _ h1 ha.2;exact⟨n0,fun n hn=>by simp only[PX.toPM,PM.runT,ha.1,h2 n hn];rfl⟩
  ·obtain⟨o,h0,rfl⟩:=XR.ob_some h;obtain⟨u,h1,rfl⟩:=XR.tok_some h0;obtain⟨⟨hf,rfl⟩,ha⟩:=ha;obtain⟨n0,h2⟩:=ih _ h1 ha;exact⟨n0,fun n hn=>by simp only[PX.toPM,PM.runT,hf,h2 n hn];rfl⟩
  ·cases h
 |killEx r keep k ih=>
  intro as e e' t obs h ha;obtain⟨u,h1,rfl⟩:=XR.tok_some h;obtain⟨n0,h2⟩:=ih h1 ha;exact⟨n0,fun n hn=>by simp only[PX.toPM,PM.runT,h2 n hn];rfl⟩
 |call f args hid k ih=>
  intro as e e' t obs h ha;simp only[PX.run] at h;split at h
  ·obtain⟨o,h1,rfl⟩:=XR.ob_some h;obtain⟨n0,h2⟩:=ih _ _ h1 ha.2;obtain⟨n1,h3⟩:=ha.1;exact⟨max n0 n1,fun n hn=>by simp only[PX.toPM,PM.runT,h3 n (by omega),h2 n (by omega)]⟩
  ·cases h
 | test b k ih =>
  intro as e e' t obs h ha;simp only[PX.run] at h;split at h
  ·rcases zBn h with⟨hb,h⟩|⟨_,h⟩
   ·obtain⟨n0,h2⟩:=ih h ha;exact⟨n0,fun n hn=>by simp only[PX.toPM,hb,cond_true,h2 n hn]⟩
   ·cases h
  ·obtain⟨o,h1,rfl⟩:=XR.ob_some h;obtain⟨n0,h2⟩:=ih h1 ha.2;exact⟨n0,fun n hn=>by simp only[PX.toPM,ha.1,cond_true,h2 n hn]⟩
  ·cases h
 | pick x k ih =>
  intro as e e' t obs h ha;simp only[PX.run] at h;split at h
  ·split at h
   ·obtain⟨n0,h2⟩:=ih _ h ha;exact⟨n0,fun n hn=>by simp only[PX.toPM,h2 n hn]⟩
   ·cases h
  ·obtain⟨o,h1,rfl⟩:=XR.ob_some h;obtain⟨n0,h2⟩:=ih _ h1 ha.2;exact⟨n0,fun n hn=>by simp only[PX.toPM,ha.1,h2 n hn]⟩
  ·cases h
 | num x k ih =>
  intro as e e' t obs h ha;simp only[PX.run] at h;split at h
  ·split at h
   ·obtain⟨n0,h2⟩:=ih _ h ha;exact⟨n0,fun n hn=>by simp only[PX.toPM,h2 n hn]⟩
   ·cases h
  ·obtain⟨o,h1,rfl⟩:=XR.ob_some h;obtain⟨n0,h2⟩:=ih _ h1 ha.2;exact⟨n0,fun n hn=>by simp only[PX.toPM,ha.1,h2 n hn]⟩
  ·cases h
 | idx x k ih =>
  intro as e e' t obs h ha;simp only[PX.run] at h;split at h
  ·split at h
   ·obtain⟨n0,h2⟩:=ih _ h ha;exact⟨n0,fun n hn=>by simp only[PX.toPM,h2 n hn]⟩
   ·cases h
  ·obtain⟨o,h1,rfl⟩:=XR.ob_some h;obtain⟨n0,h2⟩:=ih _ h1 ha.2;exact⟨n0,fun n hn=>by simp only[PX.toPM,ha.1,h2 n hn]⟩
  ·cases h
 | choose b k1 k2 ih1 ih2 =>
  intro as e e' t obs h ha;simp only[PX.run] at h;split at h
  ·rcases zBn h with⟨hb,h⟩|⟨hb,h⟩
   ·obtain⟨n0,h2⟩:=ih1 h ha;exact⟨n0,fun n hn=>by simp only[PX.toPM,hb,cond_true,h2 n hn]⟩
   ·obtain⟨n0,h2⟩:=ih2 h ha;exact⟨n0,fun n hn=>by simp only[PX.toPM,hb,cond_false,h2 n hn]⟩
  ·obtain⟨o,h1,rfl⟩:=XR.ob_some h;obtain⟨n0,h2⟩:=ih1 h1 ha.2;exact⟨n0,fun n hn=>by simp only[PX.toPM,ha.1,cond_true,h2 n hn]⟩
  ·obtain⟨o,h1,rfl⟩:=XR.ob_some h;obtain⟨n0,h2⟩:=ih2 h1 ha.2;exact⟨n0,fun n hn=>by simp only[PX.toPM,ha.1,cond_false,h2 n hn]⟩
  ·cases h
 |same p k ih=>
  intro as e e' t obs h ha;simp only[PX.run] at h;split at h
  ·exact ih _ h ha
  ·obtain⟨o,h1,rfl⟩:=XR.ob_some h;obtain⟨n0,h2⟩:=ih _ h1 ha.2;exact⟨n0,fun n hn=>by simp only[PX.toPM,ha.1,h2 n hn]⟩
  ·cases h
 |sames ps k ih=>
  intro as e e' t obs h ha;simp only[PX.run] at h;split at h
  ·exact ih _ h ha
  ·obtain⟨o,h1,rfl⟩:=XR.ob_some h;obtain⟨n0,h2⟩:=ih _ h1 ha.2;exact⟨n0,fun n hn=>by simp only[PX.toPM,ha.1,h2 n hn]⟩
  ·cases h
 |nats x k ih=>
  intro as e e' t obs h ha;simp only[PX.run] at h;split at h
  ·exact ih _ h ha
  ·obtain⟨o,h1,rfl⟩:=XR.ob_some h;obtain⟨n0,h2⟩:=ih _ h1 ha.2;exact⟨n0,fun n hn=>by simp only[PX.toPM,ha.1,h2 n hn]⟩
  ·cases h
 |pure d f args k ih=>
  intro as e e' t obs h ha;simp only[PX.run] at h;split at h
  ·exact ih h ha
  ·obtain⟨o,h1,rfl⟩:=XR.ob_some h;obtain⟨⟨a,b⟩,h2,h3⟩:=bl.1 h1;simp only[bB] at h3;obtain⟨rfl,rfl,_⟩:=h3;obtain⟨⟨hp,hk⟩,_⟩:=ha;obtain⟨n0,hp⟩:=hp d e;exact⟨n0,fun n hn=>by simp only[PX.toPM];rw[hk,hp n hn];exact zIT h2⟩
  ·cases h
end
end Go.Eng
namespace Go.Eng
open Go
def zHg(x:Operand)(k:PV->PX):PX :=
 match x with
 |.tmp t=>.view t k|.const v=>k (zER v)|.func f=>k (.func f [] [])|.global _=>.fail
def zKY(x:Operand)(k:PV->PX):PX :=
 match x with
 |.tmp t=>.get t fun p=>.choose p.heavy (.set t .bad (k p)) (k p)
 |.const v=>k (zER v)|.func f=>k (.func f [] [])|.global _=>.fail
def zRs:List Operand->(List PV->PX)->PX
 |[],k=>k []|x::xs,k=>zHg x fun p=>zRs xs fun ps=>k (p::ps)
def zYs(d:Nat)(p:PV)(k:PX):PX := .choose p.heavy (.kill d [] (.set d (p.mapW (lose d [])) k)) (.set d p k)
def zGF(d:ON)(p:PV):PX :=
 match d with
 |none=>.ok|some d=>.same p fun p=>bif p.isTup then .fail else zYs d p .ok
def zHm(d:Nat):Nat->List PV->PX->PX
 |n,[],k=>.set d (.tup (replicate n .bad)) k|i,p::ps,k=>.same p fun p=>zYs (zBA d i) p (zHm d (i+1) ps k)
def zFC(d:ON)(v:PV):PX :=
 match d,v with
 |some d,.tup vs=>.test (ble vs.length 16) (.test ((zBq vs).all (fun w=>!zKB d w.1)) (.set d .bad (zHm d 0 vs .ok)))
 |d,v=>zGF d v
def zF9:PV->(Nat->PX)->PX
 |.int _ n,k=>.test (decide (0<=n)) (.num (some n.toNat) k)|_,_=>.fail
def zUn(r:Nat)(pre:zA2)(i c:Nat)(sh:ON)(k:PV->PX):PX :=
 match sh with
 |some n=>.cells r pre i c n fun a qs=>bif a then k (.agg qs) else .fail
 |none=>.cells r pre i c 1 fun _ qs=>k (qs.headD .bad)
def zHp(r:Nat)(pre:zA2)(i:Nat):Nat->List PV->PX->PX
 |_,[],k=>k|c,q::qs,k=>bif q.heavy then .kill r (pre++[(i,c)]) (zHp r pre i (c+1) qs k) else zHp r pre i (c+1) qs k
def zSf(r:Nat)(pre:zA2)(i c:Nat)(qs:List PV)(k:PX):PX := .choose (qs.all fun q=>!q.heavy) k (zHp r pre i c qs k)
section
variable {k:PX} {kp:PV->PX}
theorem zCi{x:Operand}{k:PV->PX}:(zHg x k).toPM=opd x fun p=>(k p).toPM:=by cases x<;>rfl
theorem zBE{α:Type}{b:Bool}{x y:α}:(bif b then x else y)=if b=true then x else y:=by cases b<;>rfl
theorem zFr{x:Operand}{k:PV->PX}:(zKY x k).toPM=zOK x fun p=>(k p).toPM:=by
 cases x<;>first|rfl|simp only[zKY,zOK,PX.toPM,zBE]
theorem zJa:∀ {xs:List Operand} {k:List PV->PX},(zRs xs k).toPM=zWd xs fun p=>(k p).toPM
 |[],_=>rfl|x::xs,k=>by simp only[zRs,zWd,zCi,zJa]
theorem zMp{d:Nat}{p:PV}{k:PX}:(zYs d p k).toPM=lay d p k.toPM:=by simp only[zYs,lay,PX.toPM]
theorem zC4{b:Bool}{x y:PX}:(bif b then x else y).toPM=bif b then x.toPM else y.toPM:=by cases b<;>rfl
theorem zPn{c:Prop}[Decidable c]{x y:PX}:(if c then x else y).toPM=if c then x.toPM else y.toPM:=by split<;>rfl
theorem zBB{d:ON}{p:PV}:(zGF d p).toPM=put d p:=by
 cases d with
 |none=>rfl|some d=>simp only[zGF,put,PX.toPM,zC4,zMp]
theorem zIP{d:Nat}:∀ {ps:List PV} {i:Nat} {k:PX},(zHm d i ps k).toPM=zFs d i ps k.toPM
 |[],_,_=>rfl|p::ps,i,k=>by simp only[zHm,zFs,PX.toPM,zMp,zIP]
theorem zDv{α:Type}{a b:Bool}{x y:α}:(bif a&&b then x else y)=bif a then(bif b then x else y) else y:=by cases a<;>rfl
theorem zEX{d:ON}{v:PV}:(zFC d v).toPM=zDy d v:=by
 cases d with
 |none=>cases v<;>simp only[zFC,zDy,zBB]
 |some d=>cases v<;>simp only[zFC,zDy,PX.toPM,zIP,zDv,zBB]
theorem zFb{p:PV}{k:Nat->PX}:(zF9 p k).toPM=zGQ p fun n=>(k n).toPM:=by
 cases p<;>first|rfl|skip
 simp only[zF9,zGQ,PX.toPM,zBE,decide_eq_true_eq]
theorem zLP{r:Nat}{pre:zA2}{i c:Nat}{sh:ON}{k:PV->PX}:(zUn r pre i c sh k).toPM=zNE r pre i c sh fun p=>(k p).toPM:=by
 cases sh<;>simp only[zUn,zNE,PX.toPM,zC4]
theorem zKt{r:Nat}{pre:zA2}{i:Nat}:∀ {qs:List PV} {c:Nat} {k:PX},(zHp r pre i c qs k).toPM=zD8 r pre i c qs k.toPM
 |[],_,_=>rfl|q::qs,c,k=>by simp only[zHp,zD8,zC4,PX.toPM,zKt]
theorem zFl{r:Nat}{pre:zA2}{i:Nat}:∀ {qs:List PV} {c:Nat} {k:PM},(qs.all fun q=>!q.heavy)=true->zD8 r pre i c qs k=k
 |[],_,_,_=>rfl|q::qs,c,k,h=>by
  simp only[cO,bb,bF] at h;simp only[zD8,h.1,cond_false];exact zFl h.2
theorem zSM{r:Nat}{pre:zA2}{i c:Nat}{qs:List PV}{k:PX}:(zSf r pre i c qs k).toPM=zD8 r pre i c qs k.toPM:=by
 simp only[zSf,PX.toPM,zKt]
 cases h:qs.all fun q=>!q.heavy with
 |false=>rfl|true=>exact(zFl h).symm
end
def zFf(res:PV->(PV->List (Nat×zA2)->PX)->PX):List PV->(List PV->List (Nat×zA2)->PX)->PX
 |[],k=>k [] []|p::ps,k=>res p fun q l=>zFf res ps fun qs m=>k (q::qs) (l++m)
def zDP(hb:Nat):Nat->PV->(PV->List (Nat×zA2)->PX)->PX
 |0,_,_=>.fail
 | n + 1,p,k =>
  match p with
  |.addr r pre i c sh=>bif ble hb r then k p [] else .deep r pre fun q=>match zBh q with
   | some xs => .pick xs[i]? fun x=>match sh with
     |some m=>.test (ble (c+m) x.cells.length) (.test x.isAgg (zDP hb n (.agg ((x.cells.drop c).take m)) fun q l=>k (.ref q) ((r,pre)::l)))
     |none=>.pick x.cells[c]? fun q=>.test q.oneCell (zDP hb n q fun q l=>k (.ref q) ((r,pre)::l))
   |none=>.fail
  |.bor r pre _ lo m=>bif ble hb r then k p [] else .deep r pre fun q=>match q with
   |.own _ xs=>.test (ble (lo+m) xs.length) (.same (.sl (zAv ((xs.drop lo).take m))) fun p=>k p [(r,pre)])
   |_=>.fail
  |.bsl r pre i c sz ag m=>bif ble hb r then k p [] else .deep r pre fun q=>match zBh q with
   |some xs=>.pick xs[i]? fun x=>.test (zCs ag sz m ((x.cells.drop c).take (m*sz))) (.test (zBq x.cells).isEmpty (.same (.sl (zCt ag sz m (zAv ((x.cells.drop c).take (m*sz))))) fun p=>k p [(r,pre)]))
   |none=>.fail
  |.bmap r pre=>bif ble hb r then k p [] else .deep r pre fun q=>match q with
   |.omap es=>k (.map es) [(r,pre)]|_=>.fail
  |.agg cs=>.choose (p.ways).isEmpty (.same (zAY p) fun q=>k q []) (zFf (zDP hb n) cs fun qs l=>k (.agg qs) l)
  |.func f a b=>.choose (p.ways).isEmpty (k p []) (zFf (zDP hb n) a fun as l=>zFf (zDP hb n) b fun bs m=>k (.func f as bs) (l++m))
  |.ref q=>.choose (q.ways).isEmpty (k p []) (zDP hb n q fun q l=>k (.ref q) l)
  |.bad=>k .bad []|p=>.test (p.ways.all (fun w=>ble hb w.1)) (.same (zAY p) fun q=>k q [])
def zWM(p:PV)(k:PV->List (Nat×zA2)->PX):PX:=zDP zAa depth p k
theorem zIH{res:PV->(PV->List (Nat×zA2)->PX)->PX}{res':PV->(PV->List (Nat×zA2)->PM)->PM}(h:∀ p k,(res p k).toPM=res' p fun q l=>(k q l).toPM):∀ {ps:List PV} {k:List PV->List (Nat×zA2)->PX},(zFf res ps k).toPM=zEF res' ps fun q l=>(k q l).toPM
 |[],_=>rfl|p::ps,k=>by simp only[zFf,zEF,h,zIH h]
theorem zKf{hb:Nat}:∀ {n:Nat} {p:PV} {k:PV->List (Nat×zA2)->PX},(zDP hb n p k).toPM=resolve hb n p fun q l=>(k q l).toPM
 |0,_,_=>rfl
 | n + 1,p,k=>by
  have ih:∀ (p:PV) (k:PV->List (Nat×zA2)->PX),(zDP hb n p k).toPM=resolve hb n p fun q l=>(k q l).toPM:=fun p k=>zKf;cases p<;>simp only[zDP,resolve,zC4,PX.toPM,zDv,ih,zIH ih]
  ·congr 1;congr 1;funext q
   cases zBh q with
   |none=>rfl
   | some xs =>
    simp only[PX.toPM];rename_i r pre i c sh
    cases xs[i]? with
    |none=>rfl
    | some x =>
     cases sh with
     |some m=>simp only[PX.toPM,zDv,ih]|none=>
      simp only[PX.toPM,ih]
      cases x.cells[c]? with
      |none=>rfl|some q=>simp only[PX.toPM,zBE,ih]
  ·congr 1;congr 1;funext q;cases q<;>rfl
  ·congr 1;congr 1;funext q
   cases zBh q with
   |none=>rfl|some xs=>
    simp only[PX.toPM];rename_i r pre i c sz ag m
    cases xs[i]? with
    |none=>rfl|some x=>simp only[PX.toPM,zDv]
  ·congr 1;congr 1;funext q;cases q<;>rfl
theorem zSL{p:PV}{k:PV->List (Nat×zA2)->PX}:(zWM p k).toPM=zRC p fun q l=>(k q l).toPM:=zKf
def zP9(hb:Nat):Nat->PV->(PV->PX)->PX
 |0,_,_=>.fail|n+1,p,k=>match p.ways.find? (fun w=>blt w.1 hb) with
  |none=>.same p k|some (r,pre)=>.deep r pre fun q=>.frzp r pre (p.mapW (inl r pre q)) fun p=>zP9 hb n p k
theorem zFv{hb:Nat}:∀ {n:Nat} {p:PV} {k:PV->PX},(zP9 hb n p k).toPM=zMh hb n p fun q=>(k q).toPM
 |0,_,_=>rfl|n+1,p,k=>by
  simp only[zP9,zMh]
  cases p.ways.find? (fun w=>blt w.1 hb) with
  |none=>rfl|some w=>simp only[PX.toPM,zFv]
def zMJ(p:PV)(k:List PV->PX):PX :=
 match p with
 |.nils _=>k []|.nn=>k []|.sl xs=>k xs|.bor r pre z lo n=>.deep r pre fun q=>match q with
  |.own _ xs=>.test (ble (lo+n) xs.length) (.sames ((xs.drop lo).take n) k)|_=>.fail
 |.bsl r pre i c sz ag n=>.cells r pre i c (n*sz) fun _ cs=>.test (zCs ag sz n cs) (.test (cs.all (fun q=>q.plain0)) (.sames (zCt ag sz n cs) k))
 |_=>.fail
theorem zLp{p:PV}{k:List PV->PX}:(zMJ p k).toPM=zHI p fun l=>(k l).toPM:=by
 cases p<;>simp only[zMJ,zHI,PX.toPM,zDv];congr 1;funext q;cases q<;>rfl
section
variable (P:Program) (H:zBd)
def zFT:LN->List PV->(List (Bool×PV)->PX)->PX
 |_,[],k=>k []
 | ms,p::ps,k =>
  match ms.headD 0,p with
  |2,.bor r pre _ 0 n=>.deep r pre fun q=>match q with
   |.own sz xs=>.test (ble n xs.length) (.wnode r pre .bad (.same (.own sz ((xs.drop 0).take n)) fun o=>zFT ms.tail ps fun as=>k ((true,o)::as)))
   |_=>.fail
  |_,p=>zFT ms.tail ps fun as=>k ((false,p)::as)
def zDH:LN->List (Bool×PV)->(List Arg->PX)->PX
 |_,[],k=>k []|ms,(true,p)::ps,k=>zDH ms.tail ps fun as=>k ({p:=p}::as)
 |ms,(false,p)::ps,k=>
  bif beq (ms.headD 0) 1 then zDH ms.tail ps fun as=>k ({p:=p,byref:=true}::as)
  else zWM p fun q l=>zDH ms.tail ps fun as=>k ({p:=q,shared:=l}::as)
def zFu:LN->List (Bool×PV)->(List Arg->PX)->PX
 |_,[],k=>k []|ms,(true,p)::ps,k=>zFu ms.tail ps fun as=>k ({p:=p}::as)
 |ms,(false,p)::ps,k=>
  bif beq (ms.headD 0) 1 then zFu ms.tail ps fun as=>k ({p:=p,byref:=true}::as)
  else zP9 zAa zDf p fun q=>zFu ms.tail ps fun as=>k ({p:=q}::as)
def zSt:LN->(List PV->PX)->PX
 |[],k=>k []|r::rs,k=>.get r fun p=>zSt rs fun ps=>k (p::ps)
def zUG:LN->List PV->List PV->PX->PX
 |r::rs,o::os,p::ps,k=>.test (zGO o p) (.same p fun p=>.wnode r [] p (zUG rs os ps k))
 |[],[],[],k=>k|_,_,_,_=>.fail
def zPq:Nat->LN->(LN->PX)->PX
 |0,R,k=>k R|n+1,R,k=>zSt R fun ts=>let R':=(R++ts.flatMap zOL).eraseDups;bif beq R'.length R.length then k R else zPq n R' k
def zHZ:LN->PX->PX
 |[],k=>k|r::rs,k=>.killEx r [] (zHZ rs k)
def zNe:List Bool->PX->PX->PX
 |[a,b,c],x,y=>.choose a x (.choose b (.choose c x y) y)|_,_,y=>y
theorem zM2{a b c:Bool}{x y:PX}:(zNe [a,b,c] x y).toPM=bif a||b&&c then x.toPM else y.toPM:=by
 cases a<;>cases b<;>cases c<;>rfl
def zP4 (d:ON) (f:FuncId) (as:List Arg) (again:PX):PX :=
 .nats (zPF as) fun R0=>zPq 3 R0 fun R=>
 bif zHT R&&R.all (fun r=>blt r zAa)&&ble R.length 1000&&ble as.length 1000&&(as.flatMap (·.shared)).all (fun x=>!R.contains x.1) then
  zSt R fun hid=>.sames (as.map fun a=>if a.byref then zGY (zDC R) a.p else a.p) fun args=>.call f args (hid.map (zGY (zDC R))) fun v hX=>
   zNe [(as.flatMap (·.shared)).isEmpty,v.free,zDu hX]
    (zHZ R<|zUG R hid (hX.map (zGY (zCj R))) (zFC d (zGY (zCj R) v)))
    again
 else .fail
def zTX(d:ON)(f:FuncId)(args:List PV):PX :=
 .nats (H f).mode fun ms=>zFT ms args fun bs=>zDH ms bs fun as=>zP4 d f as (zFu ms bs fun as=>zP4 d f as .fail)
theorem zGi:∀ {ps:List PV} {ms:LN} {k:List (Bool×PV)->PX},(zFT ms ps k).toPM=zEh ms ps fun as=>(k as).toPM
 |[],_,_=>rfl
 | p :: ps,ms,k=>by
  unfold zFT zEh;generalize ms.headD 0=m;split
  ·simp only[PX.toPM];congr 1;funext q;cases q<;>first|rfl|skip
   simp only[PX.toPM,zGi]
  ·simp only[zGi]
theorem zFy:∀ {ps:List (Bool×PV)} {ms:LN} {k:List Arg->PX},(zDH ms ps k).toPM=zCw ms ps fun as=>(k as).toPM
 |[],_,_=>rfl|(true,p)::ps,ms,k=>by simp only[zDH,zCw,zFy]|(false,p)::ps,ms,k=>by simp only[zDH,zCw,zC4,zSL,zFy]
theorem zG3:∀ {ps:List (Bool×PV)} {ms:LN} {k:List Arg->PX},(zFu ms ps k).toPM=zEp ms ps fun as=>(k as).toPM
 |[],_,_=>rfl|(true,p)::ps,ms,k=>by simp only[zFu,zEp,zG3]|(false,p)::ps,ms,k=>by simp only[zFu,zEp,zC4,zFv,zG3]
theorem zLS:∀ {rs:LN} {k:List PV->PX},(zSt rs k).toPM=zOR rs fun ps=>(k ps).toPM
 |[],_=>rfl|r::rs,k=>by simp only[zSt,zOR,PX.toPM,zLS]
theorem zQo:∀ {rs:LN} {os ps:List PV} {k:PX},(zUG rs os ps k).toPM=zOt rs os ps k.toPM
 |[],[],[],_=>rfl|r::rs,o::os,p::ps,k=>by simp only[zUG,zOt,PX.toPM,zQo]|[],[],_::_,_=>rfl|[],_::_,_,_=>rfl|_::_,[],_,_=>rfl|_::_,_::_,[],_=>rfl
theorem zNk:∀ {n:Nat} {R:LN} {k:LN->PX},(zPq n R k).toPM=zLr n R fun R=>(k R).toPM
 |0,_,_=>rfl|n+1,R,k=>by simp only[zPq,zLr,zLS,zC4,zNk]
theorem zIJ:∀ {rs:LN} {k:PX},(zHZ rs k).toPM=zLB rs k.toPM
 |[],_=>rfl|r::rs,k=>by simp only[zHZ,zLB,PX.toPM,zIJ]
theorem zTx{d:ON}{f:FuncId}{as:List Arg}{again:PX}:(zP4 d f as again).toPM=zR4 d f as again.toPM:=by
 simp only[zP4,zR4,zNk,zC4,zLS,PX.toPM,zM2,zIJ,zQo,zEX]
theorem zTz{d:ON}{f:FuncId}{args:List PV}:(zTX H d f args).toPM=zOy H d f args:=by
 simp only[zTX,zOy,zGi,zFy,zTx,zG3,PX.toPM]
def zUc(d:ON)(args:List Operand)(g:PV):PX :=
 match g with
 |.func g first caps=>zRs args fun as=>.pure d g (first++as++caps) (zTX H d g (first++as++caps))
 |_=>.fail
theorem zTd{d:ON}{args:List Operand}{g:PV}:(zUc H d args g).toPM=zVo H d args g:=by
 cases g<;>first|rfl|skip
 simp only[zUc,zVo,zJa,PX.toPM,zTz]
def zOu (d:ON) (sz:Nat) (base:PV) (ys:List PV):PX :=
 .test (ys.all (fun y=>beq y.cells.length sz&&y.cells.all fun q=>q.oneCell)) (.test (zBq ys).isEmpty (
 match base with
 | .bor r pre z lo n => .deep r pre fun q=>match q with
  | .own s xs =>
   .test (beq s sz) (.test (ble (lo+n) xs.length) (.test (ble (xs.length+ys.length) zAJ) (
    .choose (beq (lo+n) xs.length) (.test (beq lo 0) (.wnode r pre .bad (zGF d (.own sz (xs++ys))))) (.emb (zLW d r pre z lo n s xs ys)))))
  |_=>.fail
 |.nils _=>.test (ble ys.length zAJ) (zGF d (.own sz ys))|_=>.fail))
theorem zQ7{d:ON}{sz:Nat}{base:PV}{ys:List PV}:(zOu d sz base ys).toPM=zMl d sz base ys:=by
 cases base<;>simp only[zOu,zMl,PX.toPM,zDv,zBB];congr 1;congr 1;congr 1;funext q;cases q<;>first|rfl|skip
 simp only[PX.toPM,zBB]
def zW6(x:Operand)(k:List PV->PX):PX :=
 match x with
 |.tmp t=>.get t fun p=>match p with
  |.own _ xs=>.set t .bad (k xs)|_=>.view t fun p=>zMJ p fun xs=>.test (xs.all (fun x=>x.plain)) (k xs)
 |x=>zHg x fun p=>zMJ p fun xs=>.test (xs.all (fun x=>x.plain)) (k xs)
theorem zVy{x:Operand}{k:List PV->PX}:(zW6 x k).toPM=zOv x fun l=>(k l).toPM:=by
 cases x<;>simp only[zW6,zOv,PX.toPM,zCi,zLp,zBE];congr 1;funext p;cases p<;>first|rfl|simp only[PX.toPM,zLp,zBE]
def zLR(d:ON)(b:Builtin)(ts:List TypeId)(args:List Operand):PX :=
 match b,args,ts with
 |.len,[x],t::_=>zHg x fun p=>match P.underlying t with
  |some (.array n _)=>zGF d (.int .i64 n)|some (.slice _)=>.num (lenOf p) fun n=>zGF d (.int .i64 n)
  |_=>.fail
 |.append,[x,y],[t,t2]=>bif (zB1 P t2).isNone then .fail else match(zB1 P t).bind (szT P),(zB1 P t).bind (zIt P),(zB1 P t).bind (zCM P) with
  |some sz,some by_,some z=>if by_<=16384/\z.cells.length=sz then zHg x fun base=>zW6 y fun ys=>zOu d sz base ys else .fail
  |_,_,_=>.fail
 |.max,xs,_=>zRs xs fun ps=>.pick (zYI ps) fun v=>zGF d v
 |.min,xs,_=>zRs xs fun ps=>.pick (zZC ps) fun v=>zGF d v
 |b,args,ts=>.emb (zBy P d b ts args)
theorem zOr{d:ON}{b:Builtin}{ts:List TypeId}{args:List Operand}:(zLR P d b ts args).toPM=zBy P d b ts args:=by
 unfold zLR;split
 ·simp only[zCi,zBy];congr 1;funext p;generalize P.underlying _=u
  cases u with
  |none=>rfl|some u=>
   cases u<;>first|rfl|exact zBB|skip
   simp only[PX.toPM,zBB];cases lenOf p<;>simp only[PX.toPM,zBB]
 ·simp only[zBy,zC4];congr 1;generalize (zB1 P _).bind (szT P)=a1;generalize (zB1 P _).bind (zIt P)=a2;generalize (zB1 P _).bind (zCM P)=a3;cases a1<;>cases a2<;>cases a3<;>first|rfl|simp only[zPn,zCi,zVy,zQ7,PX.toPM]
 ·simp only[zBy,zJa,PX.toPM,zBB];congr 1;funext ps;cases zYI ps<;>simp only[PX.toPM,zBB]
 ·simp only[zBy,zJa,PX.toPM,zBB];congr 1;funext ps;cases zZC ps<;>simp only[PX.toPM,zBB]
 ·rfl
end
end Go.Eng
namespace Go.Eng
open Go
section
variable (P:Program) (H:zBd)
def zYt{α:Type}(x:Option α)(k:α->PX):PX :=
 match x with
 |some a=>k a|none=>.fail
theorem zJF{α:Type}{x:Option α}{k:α->PX}:(zYt x k).toPM=zIV x fun a=>(k a).toPM:=by cases x<;>rfl
theorem zJC{x:Option PV}{k:PV->PX}:(PX.pick x k).toPM=zIV x fun a=>(k a).toPM:=by cases x<;>rfl
def zPU(p:PV)(k:PV->PX)(k2:PX):PX :=
 match p with
 |.bor r pre _ lo n=>.deep r pre fun q=>match q with
  |.own sz xs=>.choose (beq lo 0&&beq n xs.length) (.wnode r pre .bad (k (.own sz xs))) k2|_=>k2
 |.bmap r pre=>.deep r pre fun q=>match q with
  |.omap es=>.wnode r pre .bad (k (.omap es))|_=>k2
 |p=>k p
theorem zNg{p:PV}{k:PV->PX}{k2:PX}:(zPU p k k2).toPM=zO3 p (fun q=>(k q).toPM) k2.toPM:=by
 cases p<;>simp only[zPU,zO3,PX.toPM]
 all_goals
  congr 1;funext q;cases q<;>rfl
def zVi(p:PV)(k:PV->PX):PX:=zPU p k (zP9 zAa zDf p k)
theorem zPA{p:PV}{k:PV->PX}:(zVi p k).toPM=zM3 p fun q=>(k q).toPM:=by simp only[zVi,zM3,zNg,zFv]
def zPL:List PV->(List PV->PX)->PX
 |[],k=>k []|p::ps,k=>zPU p (fun q=>zPL ps fun qs=>k (q::qs)) .fail
theorem zNV:∀ {ps:List PV} {k:List PV->PX},(zPL ps k).toPM=zJL ps fun qs=>(k qs).toPM
 |[],_=>rfl|p::ps,k=>by simp only[zPL,zJL,zNg,zNV,PX.toPM]
def zUf:PV->Bool
 |.bor ..|.bmap ..|.bsl .. => true|_=>false
def zKj(tk:Bool)(p:PV)(k:PV->PX):PX :=
 match p with
 |.agg cs=>bif tk then zPL cs fun cs=>k (.agg cs) else .choose (cs.any zUf) (zP9 zAa zDf p k) (k p)
 |.bsl .. => zP9 zAa zDf p k|.bor ..|.bmap .. => bif tk then zVi p k else zP9 zAa zDf p k|p=>k p
theorem zH6{tk:Bool}{p:PV}{k:PV->PX}:(zKj tk p k).toPM=zF4 tk p fun q=>(k q).toPM:=by
 cases p<;>simp only[zKj,zF4,zC4,zNV,zPA,zFv,PX.toPM];rfl
def zI8(tk:Bool):List PV->(List PV->PX)->PX
 |[],k=>k []|p::ps,k=>zKj tk p fun q=>zI8 tk ps fun qs=>k (q::qs)
theorem zJK{tk:Bool}:∀ {ps:List PV} {k:List PV->PX},(zI8 tk ps k).toPM=zGv tk ps fun qs=>(k qs).toPM
 |[],_=>rfl|p::ps,k=>by simp only[zI8,zGv,zH6,zJK]
def zQO(r:Nat)(pre:zA2)(i c:Nat)(v:PV):PX :=
 .test (!v.heavy||v.ways.all (fun w=>!(zAT r pre w.1 w.2&&blt pre.length w.2.length))) (.test (v.cells.all (fun q=>q.oneCell)) (.test (!v.cells.isEmpty) (zSf r pre i c v.cells (.wcells r pre i c v.cells .ok))))
theorem zMO{r:Nat}{pre:zA2}{i c:Nat}{v:PV}:(zQO r pre i c v).toPM=zIs r pre i c v:=by
 simp only[zQO,zIs,PX.toPM,zSM,zDv]
def zJS(tk:Bool)(r:Nat)(pre:zA2)(v:PV)(k:PV->PX):PX :=
 bif pre.isEmpty && !tk then .view r fun q=>(match q with|.addr .. => k v|_=>zKj tk v k) else zKj tk v k
theorem zNf{tk:Bool}{r:Nat}{pre:zA2}{v:PV}{k:PV->PX}:(zJS tk r pre v k).toPM=zI9 tk r pre v fun q=>(k q).toPM:=by
 simp only[zJS,zI9,zC4,PX.toPM,zH6];congr 1;congr 1;funext q;cases q<;>first|rfl|exact zH6
def zJN(tk:Bool)(r:Nat)(pre:zA2)(i c:Nat)(v:PV):PX :=
 match zTF r pre i c v with
 |some m=>.deep r (pre++[(i,c)]) fun q=>match q with
  |.own s xs=>.test (ble m xs.length) (.wnode r (pre++[(i,c)]) .bad (.same (.own s ((xs.drop 0).take m)) fun v=>zQO r pre i c v))
  |_=>.fail
 |none=>zJS tk r pre v fun v=>.same v fun v=>zQO r pre i c v
theorem zLn{tk:Bool}{r:Nat}{pre:zA2}{i c:Nat}{v:PV}:(zJN tk r pre i c v).toPM=zIN tk r pre i c v:=by
 simp only[zJN,zIN]
 cases zTF r pre i c v with
 |none=>simp only[zNf,PX.toPM,zMO]|some m=>
  simp only[PX.toPM];congr 1;funext q;cases q<;>first|rfl|simp only[PX.toPM,zMO]
def zR5(fz tk:Bool)(t:TypeId)(a x:Operand):PX :=
 zHg a fun pa=>match pa,x with
 |.addr r pre i c _,.const (.slice none 0 0)=>zYt ((zB1 P t).bind (szT P)) fun s=>if szT P t=some 1 then zJN tk r pre i c (.own s []) else .fail
 |pa,x=>match pa,shT P t,szT P t with
 |.addr r pre i c _,some sh,some n=>(bif fz&&tk then zHg x else zKY x) fun v=>
  .test (beq v.cells.length n) (.test (v.isAgg==sh.isSome) (zJN (tk && !fz) r pre i c (bif fz && !tk then zAY v else v)))
 |_,_,_=>.fail
theorem zSZ{fz tk:Bool}{t:TypeId}{a x:Operand}:(zR5 P fz tk t a x).toPM=zQt P fz tk t a x:=by
 simp only[zR5,zQt,zCi];congr 1;funext pa
 have key:∀ (sh:Option ON) (n:ON),(match pa,sh,n with
   |.addr r pre i c _,some sh,some n=>(bif fz&&tk then zHg x else zKY x) fun v=>PX.test (beq v.cells.length n) (.test (v.isAgg==sh.isSome) (zJN (tk && !fz) r pre i c (bif fz && !tk then zAY v else v)))
   |_,_,_=>PX.fail).toPM=(match pa,sh,n with
   |.addr r pre i c _,some sh,some n=>(bif fz&&tk then opd x else zOK x) fun v=>bif beq v.cells.length n&&v.isAgg==sh.isSome then zIN (tk && !fz) r pre i c (bif fz && !tk then zAY v else v) else .fail
   |_,_,_=>PM.fail):=by
  intro sh n;cases pa<;>first|rfl|skip
  cases sh<;>cases n<;>first|rfl|skip
  cases hc:(fz&&tk)<;>simp only[cond_true,cond_false,zCi,zFr,PX.toPM,zLn,zDv]
 split
 ·simp only[zJF,zPn,zLn,PX.toPM]
 ·rename_i h;rw[key];cases pa<;>first|rfl|skip
  cases x<;>first|rfl|skip
  rename_i v;cases v<;>first|rfl|skip
  rename_i a n m;cases a<;>cases n<;>cases m<;>first|rfl|exact(h _ _ _ _ _ rfl rfl).elim
def zHP(d:ON)(p:PV):PX :=
 match d,p with
 | some d',.bor r [] z lo n=>if r=d' then .get r fun root=>match root with
   |.own sz xs=>.test (ble (lo+n) xs.length) (.kill r [] (.same (.own sz ((xs.drop lo).take n)) fun o=>.set r o .ok))
   |_=>.fail
  else zGF d p
 |_,_=>zGF d p
theorem zKK{d:ON}{p:PV}:(zHP d p).toPM=zFj d p:=by
 unfold zHP zFj;split
 ·simp only[zPn,zBB,PX.toPM];congr 1;congr 1;funext q;cases q<;>rfl
 ·rename_i h;split
  ·exact(h _ _ _ _ _ rfl rfl).elim
  ·exact zBB
def zJW(tk nl:Bool)(d:ON)(t:TypeId)(x:Operand):PX :=
 match x with
 |.const (.slice none 0 0)=>.emb (zGp P tk nl d t x)|x=>zKY x fun p=>bif tk then zVi p (zHP d) else zHP d p
theorem zNr{tk nl:Bool}{d:ON}{t:TypeId}{x:Operand}:(zJW P tk nl d t x).toPM=zGp P tk nl d t x:=by
 unfold zJW;split
 ·rfl
 ·rename_i h;unfold zGp;split
  ·exact(h rfl).elim
  ·simp only[zFr,zC4,zPA,zKK]
def zSA(d:ON)(x:Operand):PX:=zKY x fun p=>zP9 zAa zDf p (zHP d)
theorem zTe{d:ON}{x:Operand}:(zSA d x).toPM=zVQ d x:=by
 simp only[zSA,zVQ,zFr,zFv,zKK]
def zSX(d:ON)(t:TypeId)(x:Operand):PX:=zKY x fun p=>match shT P t,szT P t with
 |some sh,some n=>.test (decide (p.cells.length=n)) (.test (decide (p.isAgg=sh.isSome)) (.test p.whole (zGF d (.box p))))|_,_=>.fail
theorem zSj{d:ON}{t:TypeId}{x:Operand}:(zSX P d t x).toPM=zUQ P d t x:=by
 simp only[zSX,zUQ,zFr];congr 1;funext p;cases shT P t<;>cases szT P t<;>first|rfl|skip
 simp only[PX.toPM,zBB,zBE,bb,decide_eq_true_eq];split<;>split<;>(try split)<;>simp_all
def zWU(nz:ON)(x:Operand)(k:PV->PX):PX :=
 match nz,x with
 |some s,.const (.slice none 0 0)=>k (.own s [])|_,x=>zKY x k
def zPy(nz:ON):List Operand->(List PV->PX)->PX
 |[],k=>k []|x::xs,k=>zWU nz x fun p=>zPy nz xs fun ps=>k (p::ps)
theorem zWb{nz:ON}{x:Operand}{k:PV->PX}:(zWU nz x k).toPM=zZa nz x fun p=>(k p).toPM:=by
 unfold zWU zZa;split
 ·rfl
 ·rename_i h;rw[zFr];split
  ·exact(h _ rfl rfl).elim
  ·rfl
theorem zN3{nz:ON}:∀ {xs:List Operand} {k:List PV->PX},(zPy nz xs k).toPM=zQS nz xs fun p=>(k p).toPM
 |[],_=>rfl|x::xs,k=>by simp only[zPy,zQS,zWb,zN3]
def zFi (tk:Bool) (d:ON) (t:TypeId) (n:Nat) (ps:List (Nat×Operand)):PX :=
 match zB1 P t with
 | some e=>match szT P e,zCM P e with
  | some s,some z=>if n*s<=65536&&beq z.cells.length s&&ps.all (fun x=>x.1<n) then zPy (zYT (zCM P e)) (ps.map (·.2)) fun vs=>zI8 tk vs fun vs =>
    .sames vs fun vs=>.test (zBq vs).isEmpty (.test (vs.all (fun v=>v.cells.length=s&&v.isAgg=z.isAgg&&v.whole)) (zGF d (.own s (zM0 n z ((ps.map (·.1)).zip vs)))))
   else .fail
  |_,_=>.fail
 |none=>.fail
theorem zIR{tk:Bool}{d:ON}{t:TypeId}{n:Nat}{ps:List (Nat×Operand)}:(zFi P tk d t n ps).toPM=zD4 P tk d t n ps:=by
 simp only[zFi,zD4]
 cases zB1 P t with
 |none=>rfl|some e=>
  simp only;generalize szT P e=a1;generalize zCM P e=a2;cases a1<;>cases a2<;>first|rfl|skip
  simp only[zPn,zN3,zJK,PX.toPM,zBB];congr 1;congr 1;funext vs;congr 1;funext vs
  cases (zBq vs).isEmpty with
  |false=>rfl|true=>simp only[cond_true,ci,zBE,if_true]
def zQi(d:ON)(sh:ON)(p:PV):PX :=
 match p with
 |.ref q=>.test (decide (q.isAgg=sh.isSome)) (.test (decide (q.cells.length=sh.getD 1)) (zGF d q))|.addr r pre i c _=>zUn r pre i c sh (zGF d)|_=>.fail
theorem zMQ{d:ON}{sh:ON}{p:PV}:(zQi d sh p).toPM=zQV d sh p:=by
 cases p<;>simp only[zQi,zQV,PX.toPM,zLP,zBB];simp only[zBE,bb,decide_eq_true_eq];split<;>split<;>simp_all
def zO0(tk:Bool)(d:ON)(t:TypeId)(a:Operand):PX:=zYt (shT P t) fun sh=>zHg a fun p=>
 bif tk then(match p with
  |.addr r pre i c _=>zUn r pre i c sh fun v=>zP9 zAa zDf v (zGF d)
  |p=>zQi d sh p) else zQi d sh p
theorem zRw{tk:Bool}{d:ON}{t:TypeId}{a:Operand}:(zO0 P tk d t a).toPM=zQA P tk d t a:=by
 simp only[zO0,zQA,zJF,zCi,zC4,zMQ];congr 1;funext sh;congr 1;funext p;congr 1;cases p<;>simp only[zMQ,zLP,zFv,zBB]
def zUs(d:ON)(op:BinOp)(t:TypeId)(x y:Operand):PX:=zHg x fun p=>zHg y fun q=>.pick (zHJ P op t p q) (zGF d)
theorem zS1{d:ON}{op:BinOp}{t:TypeId}{x y:Operand}:(zUs P d op t x y).toPM=zUU P d op t x y:=by
 simp only[zUs,zUU,zCi,zJC,zBB]
def zai(d:ON)(op:UnOp)(p:PV):PX :=
 match op,p with
 |.not,.bool b=>zGF d (.bool !b)|.neg,.int k n=>zGF d (.int k (k.wrap (0-n)))|_,_=>.fail
theorem zXG{d:ON}{op:UnOp}{p:PV}:(zai d op p).toPM=unV d op p:=by
 cases op<;>cases p<;>first|rfl|exact zBB
def zS5(d:ON)(t:TypeId)(p:PV):PX :=
 match P.underlying t,p with
 |some (.int k),.int _ n=>zGF d (.int k (k.wrap n))|_,_=>.fail
theorem zT6{d:ON}{t:TypeId}{p:PV}:(zS5 P d t p).toPM=zSG P d t p:=by
 simp only[zS5,zSG]
 cases P.underlying t with
 |none=>rfl|some u=>cases u<;>cases p<;>first|rfl|exact zBB
def zF7(d:ON)(t:TypeId)(l c:Operand):PX :=
 zHg l fun l=>zF9 l fun l=>zHg c fun c=>zF9 c fun c=>match zB1 P t with
 |some e=>match zCM P e,szT P e,zIt P e with
  |some z,some s,some b=>.test (decide (l<=c)) (.test (decide (c<=zAJ)) (.test (decide (b<=16384/\z.cells.length=s)) (zGF d (.own s (replicate l z)))))|_,_,_=>.fail
 |none=>.fail
theorem zKp{d:ON}{t:TypeId}{l c:Operand}:(zF7 P d t l c).toPM=zFE P d t l c:=by
 simp only[zF7,zFE,zCi,zFb];congr 1;funext p;congr 1;funext l;congr 1;funext q;congr 1;funext c
 cases zB1 P t with
 |none=>rfl|some e=>
  simp only;generalize zCM P e=a1;generalize szT P e=a2;generalize zIt P e=a3;cases a1<;>cases a2<;>cases a3<;>first|rfl|skip
  simp only[PX.toPM,zBB,zBE,decide_eq_true_eq];by_cases h1:l<=c<;>by_cases h2:c<=zAJ<;>simp[h1,h2]
def zO1(d:ON)(n:Nat)(e:TypeId)(p:PV)(i:Nat):PX :=
 match szT P e,shT P e with
 |some s,some sh=>.test (decide (i<n)) (.pick (zBO p (i*s) sh) (zGF d))|_,_=>.fail
def zSb(d:ON)(e:TypeId)(p:PV)(i:Nat):PX :=
 match p with
 |.sl xs=>.pick (xs[i]?) fun x=>.test (decide (szT P e=some x.cells.length)) (zGF d (.ref x))
 |.bor r pre z lo n=>match shT P e with
  |some sh=>.test (decide (i<n)) (.test (decide (szT P e=some z)) (.num (some (lo+i)) fun j=>zGF d (.addr r pre j 0 sh)))
  |none=>.fail
 |.bsl r pre j c s ag n=>.test (decide (i<n)) (.test (decide (szT P e=some s)) (.num (some (c+i*s)) fun c=>zGF d (.addr r pre j c (if ag then some s else none))))
 |_=>.fail
theorem zQ6{d:ON}{n:Nat}{e:TypeId}{p:PV}{i:Nat}:(zO1 P d n e p i).toPM=zQr P d n e p i:=by
 simp only[zO1,zQr];generalize szT P e=a1;generalize shT P e=a2;cases a1<;>cases a2<;>first|rfl|skip
 simp only[PX.toPM,zJC,zBB,zBE,decide_eq_true_eq]
theorem zSW{d:ON}{e:TypeId}{p:PV}{i:Nat}:(zSb P d e p i).toPM=zS8 P d e p i:=by
 cases p<;>simp only[zSb,zS8,PX.toPM,zJC,zBB]
 ·congr 1;funext x;simp only[zBE,decide_eq_true_eq]
 ·cases shT P e with
  |none=>rfl|some sh=>
   simp only[PX.toPM,zBB,zBE,decide_eq_true_eq];split<;>split<;>simp_all
 ·simp only[zBE,decide_eq_true_eq];split<;>split<;>simp_all
def zGm(d:ON)(t:TypeId)(x i:Operand):PX :=
 zHg x fun p=>zHg i fun i=>zF9 i fun i=>match P.underlying t with
 |some (.array n e)=>zO1 P d n e p i|some (.slice e)=>zSb P d e p i|_=>.fail
theorem zJ2{d:ON}{t:TypeId}{x i:Operand}:(zGm P d t x i).toPM=zFw P d t x i:=by
 simp only[zGm,zFw,zCi,zFb];congr 1;funext p;congr 1;funext q;congr 1;funext i
 cases P.underlying t with
 |none=>rfl|some u=>cases u<;>first|rfl|exact zQ6 P|exact zSW P
def zMo(d:ON)(t:TypeId)(x i:Operand):PX :=
 zHg x fun p=>zHg i fun i=>zF9 i fun i=>match P.underlying t with
 |some (.array n e)=>match szT P e,shT P e with
  |some s,some sh=>.test (decide (i<n)) (.pick (sub p (i*s) sh) (zGF d))|_,_=>.fail
 |_=>.fail
theorem zO8{d:ON}{t:TypeId}{x i:Operand}:(zMo P d t x i).toPM=zMm P d t x i:=by
 simp only[zMo,zMm,zCi,zFb];congr 1;funext p;congr 1;funext q;congr 1;funext i
 cases P.underlying t with
 |none=>rfl|some u=>
  cases u<;>first|rfl|skip
  rename_i n e;simp only;generalize szT P e=a1;generalize shT P e=a2;cases a1<;>cases a2<;>first|rfl|skip
  simp only[PX.toPM,zJC,zBB,zBE,decide_eq_true_eq]
def zYv(x:Option Operand)(n:Nat)(k:Nat->PX):PX :=
 match x with
 |some x=>zHg x fun p=>zF9 p k
 |none=>k n
theorem zS6{x:Option Operand}{n:Nat}{k:Nat->PX}:(zYv x n k).toPM=zUC x n fun m=>(k m).toPM:=by
 cases x with
 |none=>rfl|some x=>simp only[zYv,zUC,zCi,zFb]
def zOn (d:ON) (s:Nat) (p:PV) (l h:Nat):PX :=
 match p with
 |.sl xs=>.test (ble l h) (.test (ble h xs.length) (.test (xs.all (fun x=>beq x.cells.length s)) (zGF d (.sl ((xs.drop l).take (h-l))))))
 | .bor r pre z a n =>
  .test (beq z s) (.test (ble l h) (
   .choose (ble h n) (.choose (beq l 0||blt l h) (zGF d (.bor r pre z (a+l) (h-l))) (zGF d (.sl [])))
   (.deep r pre fun q=>match q with
    |.own _ xs=>.test (ble (a+h) xs.length) (.choose (beq l 0||blt l h) (zGF d (.bor r pre z (a+l) (h-l))) (zGF d (.sl [])))|_=>.fail)))
 |_=>.fail
theorem zU8{d:ON}{b:Bool}{p q:PV}:put d (bif b then p else q)=bif b then put d p else put d q:=by cases b<;>rfl
theorem zQ2{d:ON}{s:Nat}{p:PV}{l h:Nat}:(zOn d s p l h).toPM=zPk d s p l h:=by
 cases p<;>simp only[zOn,zPk,PX.toPM,zBB,zDv,zU8];congr 1;congr 1;congr 1;congr 1;funext q;cases q<;>first|rfl|simp only[PX.toPM,zBB]
def zOY(d:ON)(n s:Nat)(sh:ON)(p:PV)(l h:Nat):PX :=
 .test (ble l h) (.test (ble h n) (.test (beq l 0||blt l n) (
  match p with
  |.addr r pre i c _=>.num (some (h-l)) fun m=>zGF d (.bsl r pre i (c+l*s) s sh.isSome m)
  |.ref (.agg cs)=>.test (ble (n*s) cs.length) (.test (zCs sh.isSome s (h-l) ((cs.drop (l*s)).take ((h-l)*s))) (.test (zBq cs).isEmpty (zGF d (.sl (zCt sh.isSome s (h-l) ((cs.drop (l*s)).take ((h-l)*s)))))))|_=>.fail)))
theorem zRm{d:ON}{n s:Nat}{sh:ON}{p:PV}{l h:Nat}:(zOY d n s sh p l h).toPM=zST d n s sh p l h:=by
 cases p<;>simp only[zOY,zST,PX.toPM,zBB,zDv];rename_i q;cases q<;>simp only[PX.toPM,zBB,zDv]
def zUr(d:ON)(t:TypeId)(x:Operand)(lo hi mx:Option Operand):PX :=
 match mx with
 |some m=>.emb (zJV P d t x lo hi (some m))
 | none=>zHg x fun p=>match P.underlying t with
  |some (.array n e)=>match szT P e,shT P e with
   |some s,some sh=>zYv hi n fun h=>zYv lo 0 fun l=>zOY d n s sh p l h
   |_,_=>.fail
  |some (.slice e)=>match szT P e,lenOf p with
   |some s,some n=>zYv hi n fun h=>zYv lo 0 fun l=>zOn d s p l h
   |_,_=>.fail
  |_=>.fail
theorem zRO{d:ON}{t:TypeId}{x:Operand}{lo hi mx:Option Operand}:(zUr P d t x lo hi mx).toPM=zJV P d t x lo hi mx:=by
 cases mx with
 |some _=>rfl
 | none =>
  simp only[zUr,zJV,zCi];congr 1;funext p
  cases P.underlying t with
  |none=>rfl|some u=>
   cases u<;>first|rfl|skip
   ·rename_i e;simp only;generalize szT P e=a1;generalize lenOf p=a2;cases a1<;>cases a2<;>first|rfl|simp only[zS6,zQ2]
   ·rename_i n e;simp only;generalize szT P e=a1;generalize shT P e=a2;cases a1<;>cases a2<;>first|rfl|simp only[zS6,zRm]
def zEP(es:List (PV×PV))(i:Nat):Option PV:=(es[i]?).map (·.2)
def zKz(d:ON)(kt:TypeId)(z key:PV)(ok:Bool)(es:List (PV×PV)):PX :=
 .idx (zCk P kt key es 0) fun x=>match x with
 |some i=>.pick (zEP es i) fun v=>.test v.lone (zFC d (if ok then .tup [v,.bool true] else v))
 |none=>zFC d (if ok then .tup [z,.bool false] else z)
theorem zLa{d:ON}{kt:TypeId}{z key:PV}{ok:Bool}{es:List (PV×PV)}:(zKz P d kt z key ok es).toPM=zJx P d kt z key ok es:=by
 simp only[zKz,zJx,PX.toPM]
 cases zCk P kt key es 0 with
 |none=>rfl
 | some x =>
  cases x with
  |none=>exact zEX|some i=>
   show(PX.pick (zEP es i) fun v=>.test v.lone (zFC d (if ok then .tup [v,.bool true] else v))).toPM=_
   rw[zJC];simp only[zEP,PX.toPM,zEX];cases es[i]?<;>rfl
def zTy(d:ON)(kt:TypeId)(z key:PV)(ok:Bool)(m:PV):PX :=
 match m with
 |.nilm=>zKz P d kt z key ok []|.map es=>zKz P d kt z key ok es|.bmap r pre=>.deep r pre fun q=>match q with
  |.omap es=>zKz P d kt z key ok es|_=>.fail
 |_=>.fail
theorem zRQ{d:ON}{kt:TypeId}{z key:PV}{ok:Bool}{m:PV}:(zTy P d kt z key ok m).toPM=zUX P d kt z key ok m:=by
 cases m<;>first|rfl|exact zLa P|skip
 simp only[zTy,zUX,PX.toPM];congr 1;funext q;cases q<;>first|rfl|exact zLa P
def zKE(d:ON)(t:TypeId)(m x:Operand)(ok:Bool):PX :=
 zHg m fun m=>zHg x fun key=>match P.underlying t with
 |some (.map kt e)=>.test (zQB P 20 kt key) (zYt (zCM P e) fun z=>.test (zKF z).lone (zTy P d kt (zKF z) key ok m))
 |_=>.fail
theorem zNq{d:ON}{t:TypeId}{m x:Operand}{ok:Bool}:(zKE P d t m x ok).toPM=zJj P d t m x ok:=by
 simp only[zKE,zJj,zCi];congr 1;funext p;congr 1;funext q
 cases P.underlying t with
 |none=>rfl|some u=>cases u<;>first|rfl|simp only[PX.toPM,zJF,zRQ]
def zWp(es:List (PV×PV))(k:List (PV×PV)->PX):PX := .same (.omap es) fun q=>match q with
 |.omap es=>k es|_=>.fail
def zOE(kt:TypeId)(key v m:PV):PX :=
 match m with
 | .bmap r pre => .test v.lone (.deep r pre fun q=>match q with
  |.omap es=>.idx (zCk P kt key es 0) fun x=>match x with
   |some i=>zWp (es.modify i fun _=>(key,v)) fun es=>.wnode r pre (.omap es) .ok
   |none=>zWp (es++[(key,v)]) fun es=>.wnode r pre (.omap es) .ok
  |_=>.fail)
 |_=>.fail
theorem zRq{kt:TypeId}{key v m:PV}:(zOE P kt key v m).toPM=zMW P kt key v m:=by
 cases m<;>first|rfl|skip
 simp only[zOE,zMW,PX.toPM];congr 1;congr 1;funext q;cases q<;>first|rfl|skip
 rename_i es;simp only[PX.toPM]
 cases zCk P kt key es 0 with
 |none=>rfl|some x=>cases x<;>rfl
def zFY(t:TypeId)(m x y:Operand):PX:=zHg m fun m=>zHg x fun key=>match P.underlying t with
 |some (.map kt _)=>.test (zQB P 20 kt key&&key.flat) (zKY y fun v=>zP9 zAa zDf v fun v=>zOE P kt key (zAY v) m)
 |_=>.fail
theorem zJr{t:TypeId}{m x y:Operand}:(zFY P t m x y).toPM=zFn P t m x y:=by
 simp only[zFY,zFn,zCi];congr 1;funext p;congr 1;funext q
 cases P.underlying t with
 |none=>rfl|some u=>cases u<;>first|rfl|simp only[PX.toPM,zFr,zFv,zRq]
def zPo(es:List (PV×PV))(i:Nat):Option PV:=(es[i]?).map (·.1)
def zOq(d:ON)(kt:TypeId)(z key m:PV):PX :=
 match m with
 | .bmap r pre => .deep r pre fun q=>match q with
  |.omap es=>.idx (zCk P kt key es 0) fun x=>match x with
   |some i=>.pick (zEP es i) fun v=>.test v.lone (.wnode r pre (.omap (es.modify i fun _=>(key,v))) (zFC d (.tup [v,.int .i64 i])))
   |none=>.wnode r pre (.omap (es++[(key,z)])) (zFC d (.tup [z,.int .i64 es.length]))
  |_=>.fail
 |_=>.fail
theorem zRH{d:ON}{kt:TypeId}{z key m:PV}:(zOq P d kt z key m).toPM=zPB P d kt z key m:=by
 cases m<;>first|rfl|skip
 simp only[zOq,zPB,PX.toPM];congr 1;funext q;cases q<;>first|rfl|skip
 rename_i es;simp only[PX.toPM]
 cases zCk P kt key es 0 with
 |none=>rfl
 | some x =>
  cases x with
  |none=>simp only[PX.toPM,zEX]|some i=>
   simp only[PX.toPM,zEP]
   cases es[i]? with
   |none=>rfl|some kv=>obtain⟨k,v⟩:=kv;simp only[bz,PX.toPM,zEX]
def zGX(d:ON)(t:TypeId)(m x:Operand):PX:=zHg m fun m=>zHg x fun key=>match P.underlying t with
 |some (.map kt el)=>.test (zQB P 20 kt key&&key.flat) (zYt (zCM P el) fun z=>.test (zKF z).lone (zOq P d kt (zKF z) key m))
 |_=>.fail
theorem zKT{d:ON}{t:TypeId}{m x:Operand}:(zGX P d t m x).toPM=zGx P d t m x:=by
 simp only[zGX,zGx,zCi];congr 1;funext p;congr 1;funext q
 cases P.underlying t with
 |none=>rfl|some u=>cases u<;>first|rfl|simp only[PX.toPM,zJF,zRH]
def zJm(i:Nat)(v m:PV):PX :=
 match m with
 |.bmap r pre=>.test v.lone (.deep r pre fun q=>match q with
  |.omap es=>.pick (zPo es i) fun k=>.wnode r pre (.omap (es.modify i fun _=>(k,v))) .ok
  |_=>.fail)
 |_=>.fail
theorem zNx{i:Nat}{v m:PV}:(zJm i v m).toPM=zJi i v m:=by
 cases m<;>first|rfl|skip
 simp only[zJm,zJi,PX.toPM];congr 1;congr 1;funext q;cases q<;>first|rfl|skip
 rename_i es;simp only[PX.toPM,zPo]
 cases es[i]? with
 |none=>rfl|some kv=>obtain⟨k,x⟩:=kv;rfl
def zFq(m s y:Operand):PX:=zHg m fun m=>zHg s fun s=>zF9 s fun i=>zKY y fun v=>zP9 zAa zDf v fun v=>zJm i (zAY v) m
theorem zIS{m s y:Operand}:(zFq m s y).toPM=zEI m s y:=by
 simp only[zFq,zEI,zCi,zFb,zFr,zFv,zNx]
def zPi(d:ON)(c:Call):PX :=
 match c.callee with
 |.builtin b=>zLR P d b c.argTypes.toList c.args.toList|.value f=>zHg f (zUc H d c.args.toList)|_=>.fail
theorem zRf{d:ON}{c:Call}:(zPi P H d c).toPM=zJA P H d c:=by
 simp only[zPi,zJA];cases c.callee<;>simp only[PX.toPM,zOr,zCi,zTd]
def opX(fz tk nl:Bool)(o:Oper):PX :=
 match o.op with
 |.assign x=>bif fz&&tk then zSA o.dst x else zJW P tk nl o.dst o.type x|.box t x=>zSX P o.dst t x|.buildSlice t n ps=>zFi P tk o.dst t n ps.toList|.load t a=>zO0 P tk o.dst t a|.store t a x=>zR5 P fz tk t a x|.binOp op t x y _=>zUs P o.dst op t x y|.unOp op _ x=>zHg x (zai o.dst op)|.convert _ t x=>zHg x (zS5 P o.dst t)|.makeSlice t l c=>zF7 P o.dst t l c|.slice t x lo hi mx=>zUr P o.dst t x lo hi mx|.indexAddr t x i=>zGm P o.dst t x i|.index t x i=>zMo P o.dst t x i|.lookup t m x ok=>zKE P o.dst t m x ok|.mapUpdate t m x y=>zFY P t m x y|.mapEntry t m x=>zGX P o.dst t m x|.entryStore _ m s x=>zFq m s x|.call c=>zPi P H o.dst c|_=>.emb (opM P H fz tk nl o)
theorem zZI{fz tk nl:Bool}{o:Oper}:(opX P H fz tk nl o).toPM=opM P H fz tk nl o:=by
 obtain⟨dst,op,type,pos,after,guard⟩:=o;cases op<;>simp only[opX,opM,PX.toPM,zC4,zTe,zNr,zSj,zIR,zRw,zSZ,zS1,zCi,zXG,zT6,zKp,zRO,zJ2,zO8,zNq,zJr,zKT,zIS,zRf]
end
end Go.Eng
namespace Go.Eng
open Go
section
variable [Yo] {P:Program} {H:zBd} {f:FuncId} {nt:Nat} {e e':Env} {lg:Option Log} {K:X->Env->Option Log->Prop} {i:Nat} {c:Code} {s:RS} {R:Env->Option Log->Prop}
abbrev zZZ(P:Program)(H:zBd)(f:FuncId)(c:Code)(i:Nat):PX:=opX P H (((H f).frzs (rid c)).contains i) (((H f).take (rid c)).contains i) (H f).nils (zEc c i)
def zWm[Yo](P:Program)(H:zBd)(f:FuncId)(c:Code)(i:Nat)(as:Ans)(s:RS):Option (RS×List Prop) :=
 match(zZZ P H f c i).run P H as s.e with
 |some (e',t,obs)=>(zTH c i s e' t).map fun s'=>(s',obs)
 |none=>none
def rsX(o:Option (RS×List Prop)):RS:=zUD (o.map (·.1))
theorem S_x(as:Ans)(obs:List Prop)(ho:zUB obs)(h:WS P H f c (i+1) (rsX (zWm P H f c i as s)) R)(hq:(zWm P H f c i as s).map (·.2)=some obs:=by kernel_rfl)(hi:blt i (zEV c).size=true:=by kernel_rfl):WS P H f c i s R:=by
 obtain⟨⟨s',obs'⟩,hs,hq⟩:=bl.1 hq;simp only at hq;subst hq;simp only[zWm] at hs;split at hs
 ·rename_i e1 t obs hr;obtain⟨s1,h1,h2⟩:=bl.1 hs;simp only[bB] at h2;obtain⟨rfl,rfl⟩:=h2;obtain⟨n0,hn⟩:=PX.run_ok hr ho;refine zZY (m:=some (e1,t)) ⟨n0,fun n wI=>?_⟩ ?_ ?_ hi
  ·have:=hn n wI;rw[zZI] at this;exact this
  ·simpa[rsX,zWm,hr,h1] using h
  ·simp[h1]
 ·cases hs
def zXQ(p:PV)(k:PV->PX)(k2:PX):PX :=
 match p with
 |.bor r pre _ lo n=>.deep r pre fun q=>match q with
  |.own sz xs=>.choose (ble (lo+n) xs.length) (.wnode r pre .bad (.same (.own sz ((xs.drop lo).take n)) k)) k2|_=>k2
 |.addr r pre 0 0 _=>.deep r pre fun q=>match q with
  |.box q=>.wnode r pre .bad (k (.box q))|_=>k2
 |.bmap r pre=>.deep r pre fun q=>match q with
  |.omap es=>.wnode r pre .bad (k (.omap es))|_=>k2
 |_=>k2
omit [Yo] in
theorem zU0{p:PV}{k:PV->PX}{k2:PX}:(zXQ p k k2).toPM=zSs p (fun q=>(k q).toPM) k2.toPM:=by
 unfold zXQ zSs;split
 ·simp only[PX.toPM];congr 1;funext q;cases q<;>rfl
 ·simp only[PX.toPM];congr 1;funext q;cases q<;>rfl
 ·simp only[PX.toPM];congr 1;funext q;cases q<;>rfl
 ·rename_i h1 h2 h3;split
  ·exact(h1 _ _ _ _ _ rfl).elim
  ·exact(h2 _ _ _ rfl).elim
  ·exact(h3 _ _ rfl).elim
  ·rfl
def zLQ(frz:Bool)(p:PV)(k:PV->PX):PX :=
 bif frz||p.ways.any (fun w=>ble zAm w.1) then zP9 zAm zDf p k else zXQ p k (zP9 zAm zDf p k)
def zEK(frz:Bool):List PV->(List PV->PX)->PX
 |[],k=>k []|p::ps,k=>zLQ frz p fun q=>zEK frz ps fun qs=>k (q::qs)
def zJh(frz:Bool)(p:PV)(k:PV->PX):PX :=
 match p with
 |.agg cs=>.choose (cs.all fun q=>q.num) (k (.agg cs)) (zEK frz cs fun qs=>k (.agg qs))
 |p=>zLQ frz p k
omit [Yo] in
theorem zLq{frz:Bool}{p:PV}{k:PV->PX}:(zLQ frz p k).toPM=zGc frz p fun q=>(k q).toPM:=by
 simp only[zLQ,zGc,zC4,zFv,zU0]
omit [Yo] in
theorem zF3{frz:Bool}:∀ {ps:List PV} {k:List PV->PX},(zEK frz ps k).toPM=zCz frz ps fun qs=>(k qs).toPM
 |[],_=>rfl|p::ps,k=>by simp only[zEK,zCz,zLq,zF3]
omit [Yo] in
theorem zOp{frz:Bool}{p:PV}{k:PV->PM}(h:p.num=true):zGc frz p k=k p:=by
 cases p<;>first|(cases h;done)|skip
 all_goals cases frz<;>rfl
omit [Yo] in
theorem zGe{frz:Bool}:∀ {ps:List PV} {k:List PV->PM},ps.all (fun q=>q.num)=true->zCz frz ps k=k ps
 |[],_,_=>rfl|p::ps,k,h=>by
  simp only[cO,bb] at h;simp only[zCz,zOp h.1,zGe h.2]
omit [Yo] in
theorem zKx{frz:Bool}{p:PV}{k:PV->PX}:(zJh frz p k).toPM=zHb frz p fun q=>(k q).toPM:=by
 cases p<;>first|exact zLq|skip
 rename_i cs;simp only[zJh,zHb,PX.toPM,zF3]
 cases h:cs.all fun q=>q.num with
 |false=>rfl|true=>simp only[cond_true];exact(zGe (k:=fun qs=>(k (.agg qs)).toPM) h).symm
def zIm(P:Program)(frz:Bool):Nat->List ResultVar->PX
 |_,[]=>.ok|j,.tmp t::rs=>.view t fun p=>zJh frz p fun q=>.same q fun q=>zYs (zAG+j) q (zIm P frz (j+1) rs)
 |j,.cell a t::rs=>zYt (shT P t) fun sh=>.view a fun p=>match p with
  |.addr r pre i c _=>zUn r pre i c sh fun v=>zJh frz v fun q=>.same q fun q=>zYs (zAG+j) q (zIm P frz (j+1) rs)
  |_=>.fail
omit [Yo] in
theorem zIk{frz:Bool}:∀ {rs:List ResultVar} {j:Nat},(zIm P frz j rs).toPM=zCO P frz j rs
 |[],_=>rfl|.tmp t::rs,j=>by simp only[zIm,zCO,PX.toPM,zKx,zMp,zIk]|.cell a t::rs,j=>by
  simp only[zIm,zCO,zJF,PX.toPM];congr 1;funext sh;congr 1;funext p;cases p<;>first|rfl|simp only[zLP,zKx,PX.toPM,zMp,zIk]
def zJn[Yo](P:Program)(H:zBd)(f:FuncId)(fn:Func)(as:Ans)(e:Env)(nh:Nat):Option ((PV×List PV)×List Prop) :=
 match(zIm P (H f).frz 0 fn.results.toList).run P H as e with
 |some (e',_,obs)=>bif beq fn.results.size 1&&(e'.get zAG).isTup then none else some ((zYb e' fn.results.size,(range nh).map fun j=>e'.get (zAm+j)),obs)
 |none=>none
def zT5[Yo](P:Program)(H:zBd)(f:FuncId)(fn:Func)(nh:Nat)(v:PV)(hX:List PV)(x:X)(e:Env)(lg:Option Log):Prop :=
 (x = .norm\/x = .ret)/\lg=none/\∃ n0,∀ n,n0<=n->∃ e',(zCO P (H f).frz 0 fn.results.toList).run (zCN P H n) e=some e'/\(bif beq fn.results.size 1&&(e'.get zAG).isTup then none else some (zYb e' fn.results.size,(range nh).map fun j=>e'.get (zAm+j)))=some (v,hX)
theorem E_x{fn:Func}{nh:Nat}{v:PV}{h:List PV}{x:X}(as:Ans)(obs:List Prop)(v':PV)(h':List PV)(ho:zUB obs)(hv:v'=v)(hh:h'=h)(hf:zJn P H f fn as e nh=some ((v',h'),obs):=by kernel_rfl)(hl:lg=none:=by kernel_rfl)(hx:x = .norm\/x = .ret:=by first|exact .inr rfl|exact .inl rfl):zT5 P H f fn nh v h x e lg:=by
 subst hv;subst hh;simp only[zJn] at hf;split at hf
 ·rename_i e1 t obs' hr;rcases zBn hf with⟨_,hf⟩|⟨hb,hf⟩
  ·cases hf
  ·simp only[ba,bB] at hf;obtain⟨⟨h1,h2⟩,rfl⟩:=hf;obtain⟨n0,hn⟩:=PX.run_ok hr ho;refine⟨hx,hl,n0,fun n wI=>⟨e1,?_,?_⟩⟩
   ·have:=hn n wI;rw[zIk] at this;exact zEo this
   ·rw[hb];simp only[cond_false,h1,h2]
 ·cases hf
theorem zAe(fn:Func){args hid:List PV}{v:PV}{hX:List PV}(h:W P H f fn.ntmps (fn.body.getD .ret) (zBe args hid) none (zT5 P H f fn hid.length v hX))(hf:P.funcs[f]? = some fn:=by kernel_rfl)(hi:(H f).intr=0:=by kernel_rfl)(hb:fn.body.isSome=true:=by kernel_rfl)
  (hc:(ble args.length fn.ntmps&&ble hid.length 1000&&args.all (fun p=>!p.isTup))=true:=by kernel_rfl):zCC P H f args hid v hX:=by
 obtain⟨body,hb⟩:∃ body,fn.body=some body:=by cases hx:fn.body<;>first|exact⟨_,rfl⟩|(rw[hx] at hb;cases hb)
 simp only[hb,dn] at h;obtain⟨n0,x,e1,lg1,h1,hx,rfl,n1,hr⟩:=h;refine⟨max n0 n1+1,fun n hn=>?_⟩;obtain⟨n,rfl⟩:∃ k,n=k+1:=⟨n-1,by omega⟩;have j7:=h1 n (n+1) (by omega) (by omega);obtain⟨e2,h2,hr⟩:=hr n (by omega);show zG2 P H (zCN P H n) Yo.yo zCc (n+1) f args hid=_
 simp only[zG2,hf,hi,hb,zJz,hc,cond_true,j7,ne_eq,not_true,if_false];rcases hx with rfl|rfl<;>simp only[h2,hr]
theorem zXY(k:Int)(xss:List (List PV))(args:List PV)(a:Nat)(h1:k=1->WS P H f c (i+1) ⟨(zFP s.dr i (zEc c i) {all:=true}).getD none,zNF ((put (zEc c i).dst (.bool false)).run zH3 (s.e.forget zAa)),some ⟨xss++[args],k-1,a⟩⟩ R)
  (h2:k≠1->WS P H f c (i+1) ⟨(zFP s.dr i (zEc c i) {all:=true}).getD none,zNF ((put (zEc c i).dst (.bool true)).run zH3 s.e),some ⟨xss++[args],k-1,a⟩⟩ R) (hk:k≠0)
  (hy:zCl s.e (zEc c i)=some (a,args):=by kernel_rfl) (hl:s.lg=some ⟨xss,k,a⟩:=by kernel_rfl) (hw:zMv (zEV c) s.e (zEc c i)=some true:=by kernel_rfl) (hf:args.all PV.flat=true:=by kernel_rfl)
  (hd:(zFP s.dr i (zEc c i) {all:=true}).isSome=true:=by kernel_rfl) (u6:((put (zEc c i).dst (.bool false)).run zH3 (s.e.forget zAa)).isSome=true:=by kernel_rfl) (vd:((put (zEc c i).dst (.bool true)).run zH3 s.e).isSome=true:=by kernel_rfl)
  (hi:blt i (zEV c).size=true:=by kernel_rfl):WS P H f c i s R:=by
 have qE:zFP s.dr i (zEc c i) {all:=true}=some ((zFP s.dr i (zEc c i) {all:=true}).getD none):=by
  cases hx:zFP s.dr i (zEc c i) {all:=true} with
  |none=>rw[hx] at hd;cases hd|some d=>rfl
 have vr:(k != 0)=true:=by simpa using hk
 by_cases jV:k=1
 ·refine zMK hi ⟨0,fun n _=>?_⟩ qE (h1 jV);have hr:(put (zEc c i).dst (.bool false)).run (zCN P H n) (s.e.forget zAa)=some (zNF ((put (zEc c i).dst (.bool false)).run zH3 (s.e.forget zAa))):=zGb (zIj u6);have qA:(k==1)=true:=by simpa using jV
  have hyr:zB0 (zCN P H n) (zEV c) (zEc c i) a args ⟨xss,k,a⟩ s.e=some (zNF ((put (zEc c i).dst (.bool false)).run zH3 (s.e.forget zAa)),some ⟨xss++[args],k-1,a⟩):=by
   unfold zB0;rw[hw];simp only;rw[hf,vr,cH,qA];simp only[dR,cond_true];rw[hr];rfl
  rw[hl];unfold zEA;simp only;rw[hy];simp only;rw[hyr];rfl
 ·refine zMK hi ⟨0,fun n _=>?_⟩ qE (h2 jV);have hr:(put (zEc c i).dst (.bool true)).run (zCN P H n) s.e=some (zNF ((put (zEc c i).dst (.bool true)).run zH3 s.e)):=zGb (zIj vd);have qA:(k==1)=false:=by simpa using jV
  have hyr:zB0 (zCN P H n) (zEV c) (zEc c i) a args ⟨xss,k,a⟩ s.e=some (zNF ((put (zEc c i).dst (.bool true)).run zH3 s.e),some ⟨xss++[args],k-1,a⟩):=by
   unfold zB0;rw[hw];simp only;rw[hf,vr,cH,qA];simp only[dR,cond_true,cond_false];rw[hr];rfl
  rw[hl];unfold zEA;simp only;rw[hy];simp only;rw[hyr];rfl
theorem zWZ{σ:Type}{c:Code}(Inv:σ->Prop)(upd:σ->List (Nat×PV))(L:σ->Option Log)(μ:σ->Nat)(s:σ)(hi:Inv s) (h:∀ s,Inv s->W P H f nt (cl c) (zML (upd s) (e.drop ((H f).loopDrop (zA0 (cl c))))) (L s) fun x e' lg'=>match x with
   |.norm=>∃ s',Inv s'/\μ s'<μ s/\e'.drop ((H f).loopDrop (zA0 (cl c)))=zML (upd s') (e.drop ((H f).loopDrop (zA0 (cl c))))/\lg'=L s'|x=>K x e' lg') (hs:e.drop ((H f).loopDrop (zA0 (cl c)))=zML (upd s) (e.drop ((H f).loopDrop (zA0 (cl c)))):=by kernel_rfl) (hl:lg=L s:=by kernel_rfl) (hc:zQz c=true:=by kernel_rfl):W P H f nt c e lg K:=by
 rw [zNy hc];generalize hE:e.drop ((H f).loopDrop (zA0 (cl c)))=e0 at h hs;have key:∀ (n:Nat) (s:σ) (e:Env) (lg:Option Log),μ s<=n->Inv s->e.drop ((H f).loopDrop (zA0 (cl c)))=zML (upd s) e0->lg=L s->W P H f nt (.loop (cl c)) e lg K:=by
  intro n
  induction n with
  | zero =>
   intro s e lg hs hi he vw;subst vw;obtain⟨n0,x,e1,lg1,h1,h2⟩:=h s hi
   cases x with
   |norm=>obtain⟨s',_,h3,_⟩:=h2;omega
   |ex id=>
    refine⟨n0+1,_,e1,lg1,fun n m hn hm=>?_,h2⟩;obtain⟨m,rfl⟩:∃ k,m=k+1:=⟨m-1,by omega⟩;simp only[exec,he,h1 n m (by omega) (by omega)]
   |ret=>
    refine⟨n0+1,_,e1,lg1,fun n m hn hm=>?_,h2⟩;obtain⟨m,rfl⟩:∃ k,m=k+1:=⟨m-1,by omega⟩;simp only[exec,he,h1 n m (by omega) (by omega)]
  | succ n ih =>
   intro s e lg hs hi he vw;subst vw;obtain⟨n0,x,e1,lg1,h1,h2⟩:=h s hi
   cases x with
   |norm=>
    obtain⟨s',h3,h4,h7,h8⟩:=h2;obtain⟨n2,x,e2,lg2,h5,h6⟩:=ih s' e1 lg1 (by omega) h3 h7 h8;refine⟨max n0 n2+1,x,e2,lg2,fun n m hn hm=>?_,h6⟩;obtain⟨m,rfl⟩:∃ k,m=k+1:=⟨m-1,by omega⟩;simp only[exec,he,h1 n m (by omega) (by omega),h5 n m (by omega) (by omega)]
   |ex id=>
    refine⟨n0+1,_,e1,lg1,fun n m hn hm=>?_,h2⟩;obtain⟨m,rfl⟩:∃ k,m=k+1:=⟨m-1,by omega⟩;simp only[exec,he,h1 n m (by omega) (by omega)]
   |ret=>
    refine⟨n0+1,_,e1,lg1,fun n m hn hm=>?_,h2⟩;obtain⟨m,rfl⟩:∃ k,m=k+1:=⟨m-1,by omega⟩;simp only[exec,he,h1 n m (by omega) (by omega)]
 exact key (μ s) s e lg (bi _) hi (hE.trans hs) hl
end
end Go.Eng
namespace Go.Eng
open Go
abbrev I(n:Int):PV := .int .i64 n
abbrev zA1(l:LI):PV := .sl (l.map I)
section
theorem zLg{a b:Bool}(ha:a=true)(hb:b=true):(a&&b)=true:=by rw[ha,hb];rfl
theorem zAQ{a b:Nat}(h:a<=b):ble a b=true:=by rw[fN];exact h
theorem zA7{a b:Nat}(h:a=b):beq a b=true:=by rw[h];exact cH _
theorem zAt{p:Prop}[Decidable p](h:p):decide p=true:=decide_eq_true h
variable {α:Type} {g:α->PV} {l:List α} {i:Nat} {d:α} {x q root root':PV} {xs:List PV} {r z c n:Nat} {pre rest:zA2}
theorem zBi(d:α)(h:i<l.length):(l.map g)[i]? = some (g (l.getD i d)):=by simp[List.getD,bm h]
theorem zFo{u:α}:(l.map g).set i (g u)=(l.set i u).map g:=(List.map_set).symm
theorem zNt(hx:xs[i]? = some x){y:PV}(hn:zAF y rest=some q)(hh:zA6 root=some xs:=by kernel_rfl)(hc:x.cells[c]? = some y:=by kernel_rfl):zAF root ((i,c)::rest)=some q:=by
 simp only[zAF,hh,hx,hc,hn]
def zNO(r:Nat)(pre:zA2)(i c n:Nat)(x:PV):Option (Bool×List PV):=bif ble (c+n) x.cells.length then some (x.isAgg,zBJ r pre i c ((x.cells.drop c).take n)) else none
theorem zDe{a:Bool}{qs:List PV}(hn:zAF root.unlock pre=some q)(hx:xs[i]? = some x)(hr:zNO r pre i c n x=some (a,qs):=by kernel_rfl)(hh:zBh q=some xs:=by kernel_rfl):zAy r root pre i c n=some (a,qs):=by
 simp only[zAy,hn,hh,hx];exact hr
theorem zOD{qs:List PV}{xs':List PV}(hx:xs[i]? = some x)(hs:xs.set i (zAH x c qs)=xs')(hb:ble (c+qs.length) x.cells.length=true:=by kernel_rfl)(hw:(zBq qs).isEmpty=true:=by kernel_rfl):zBG (.own z xs) [] i c qs=some (.own z xs')/\zAP (.own z xs) (.own z xs') []=true:=by
 subst hs;constructor
 ·simp only[zBG,hw,dH,dC,cond_false,zAA,zBh,hx,hb,cond_true,zAN]
 ·simp[zAP,zCI]
theorem zB8{x m:Nat}(h:beq m 1=true):0+x*m=x:=by rw[bd h,fR,dh]
theorem zCd{a x m:Nat}(h:beq m 1=true):a+x*m=a+x:=by rw[bd h,fR]
def wf(i c:Nat)(qs:List PV)(q:PV):Option PV:=match zBh q with
 |some xs=>match xs[i]? with
  |some x=>bif ble (c+qs.length) x.cells.length then zAN q (xs.set i (zAH x c qs)) else none|none=>none
 |none=>none
theorem zLw{qs:List PV}{q' y:PV}(hx:xs[i]? = some x)(hs:zAH x c qs=y)(hq:zAN q (xs.set i y)=some q')(hh:zBh q=some xs:=by kernel_rfl)(hb:ble (c+qs.length) x.cells.length=true:=by kernel_rfl):zAA (wf i c qs) q []=some q':=by
 subst hs;simp only[zAA,wf,hh,hx,hb,cond_true,hq]
theorem zQW{qs:List PV}{b:Bool}(h:zAA (wf i c qs) root pre=some root')(hk:zAP root root' pre=b)(hw:(zBq qs).isEmpty=true:=by kernel_rfl):zBG root pre i c qs=some root'/\zAP root root' pre=b:=by
 refine⟨?_,hk⟩;simp only[zBG,hw,dH,dC,cond_false];exact h
theorem zAz(l:List α)(h:∀ x,zAY (g x)=g x:=by intro;rfl):zAv (l.map g)=l.map g:=by
 induction l with
 |nil=>rfl|cons x l ih=>simp only[bO,zAv,h,ih]
theorem zCH{ys:List PV}(hy:xs=ys)(h2:zAv ys=ys):zAv xs=ys:=by rw[hy];exact h2
theorem zBf(l:List α)(h:∀ x,(g x).free=true:=by intro;rfl):zDu (l.map g)=true:=by
 induction l with
 |nil=>rfl|cons x l ih=>simp only[bO,zDu,h,ih,dR]
theorem zDU(l:List α)(h:∀ x,(g x).ways=[]:=by intro;rfl):zBq (l.map g)=[]:=by
 induction l with
 |nil=>rfl|cons x l ih=>simp only[bO,zBq,h,ih,dO]
theorem all_map{p:PV->Bool}(l:List α)(h:∀ x,p (g x)=true:=by intro;rfl):(l.map g).all p=true:=by
 rw[List.all_map];exact bj.2 fun x _=>h x
theorem zBN(l:List α):take l.length (l.map g)=l.map g:=bp (by simp)
theorem zAK{xs ys:List PV}(h:xs=ys):own z xs=own z ys:=by rw[h]
theorem zS7{xs ys:List PV}(h:xs=ys):sl xs=sl ys:=by rw[h]
theorem zF0{a x m:Nat}{sh:ON}(h:beq m 1=true):addr r pre i (a+x*m) sh=addr r pre i (a+x) sh:=by rw[bd h,fR]
end
end Go.Eng
namespace Go.Eng
open Go
section
def zXI:Code->Bool
 |.label _=>true|_=>false
theorem ap{p:Prop}{ps:List Prop}(h:p)(hs:zUB ps):zUB (p::ps):=⟨h,hs⟩
theorem an:zUB []:=trivial
theorem zBY{a b:Int}(h:a=b)(hr : -9223372036854775808<=b/\b<9223372036854775808):int .i64 (IntKind.i64.wrap a)=int .i64 b:=by rw[h,zZA hr]
variable [Yo] {P:Program} {H:zBd} {f:FuncId} {nt:Nat} {e e':Env} {lg:Option Log} {K:X->Env->Option Log->Prop} {i:Nat} {c:Code} {s:RS} {R:Env->Option Log->Prop}
theorem S_a(as:Ans){obs:List Prop}(ho:zUB obs)(h:WS P H f c (i+1) (rsX (zWm P H f c i as s)) R)(hq:(zWm P H f c i as s).map (·.2)=some obs:=by kernel_rfl)(hi:blt i (zEV c).size=true:=by kernel_rfl):WS P H f c i s R:=S_x as obs ho h hq hi
theorem E_a{fn:Func}{nh:Nat}{v:PV}{h:List PV}{x:X}(as:Ans){obs:List Prop}(ho:zUB obs)(v':PV)(h':List PV)(hv:v'=v)(hh:h'=h)(hf:zJn P H f fn as e nh=some ((v',h'),obs):=by kernel_rfl)(hl:lg=none:=by kernel_rfl)(hx:x = .norm\/x = .ret:=by first|exact .inr rfl|exact .inl rfl):zT5 P H f fn nh v h x e lg:=E_x as obs v' h' ho hv hh hf hl hx
theorem zWS{c:Code}(h:K .norm e lg)(hc:zXI c=true:=by kernel_rfl):W P H f nt c e lg K:=by
 cases c<;>first|(cases hc;done)|exact zU3 1 rfl h
end
end Go.Eng
namespace Go.Eng
open Go
section
variable [Yo] {P:Program} {H:zBd} {f:FuncId}
end
end Go.Eng
namespace Go.Eng
open Go
def zOd(pre:zA2)(put:PV->PV):Prop:=∀ f z xs,zAA f (put (.own z xs)) pre=(f (.own z xs)).map put
theorem zOd.nil:zOd [] (fun q=>q):=fun f z xs=>by simp[zAA]
theorem zOd.box:zOd [(0,0)] (fun q=>.box q):=fun f z xs=>by
 simp only[zAA,zA6,bM,PV.cells];cases f (.own z xs)<;>rfl
theorem zHc[Yo]{r z:Nat}{pre:zA2}{put:PV->PV}(L:zOd pre put):∀ {ys:List PV} {j:Nat} {xs:List PV} {e:Env},e.get r=put (.own z xs)->j+ys.length<=xs.length->(∀ (a:Nat) (x y:PV),xs[j+a]? = some x->ys[a]? = some y->y.heavy=false/\y.cells.all (fun q=>q.ways.isEmpty)=true/\y.cells.length<=x.cells.length/\zAH x 0 y.cells=y) ->
  ∃ e',e'.get r=put (.own z (xs.take j++ys++xs.drop (j+ys.length)))/\(∀ t,t≠r->e'.get t=e.get t)/\∀ (o:zAO) (k:PM),(zGN r pre j ys k).run o e=k.run o e'
 |[],j,xs,e,he,hj,hy=>⟨e,by simp[he],fun _ _=>rfl,fun _ _=>rfl⟩
 | y :: ys,j,xs,e,he,hj,hy=>by
  simp only[bE] at hj;have hjx:j<xs.length:=by omega
  obtain⟨h1,h2,h3,h4⟩:=hy 0 xs[j] y (by simp[hjx]) rfl;have hws:zBq y.cells=[]:=zNU h2;have hb:ble (0+y.cells.length) xs[j].cells.length=true:=by rw[fN];omega
  have y5:(e.set r (put (.own z (xs.set j y)))).get r=put (.own z (xs.set j y)):=by rw[Env.get_set,if_pos rfl]
  obtain⟨e',g1,g2,g3⟩:=zHc L (ys:=ys) (j:=j+1) y5 (by simp;omega) fun a x' y' kP u7=>by
   rw[d9] at kP;rw[if_neg (by omega)] at kP;exact hy (a+1) x' y' (by rw[<- kP];congr 1;omega) (by simpa using u7)
  refine⟨e',?_,fun t ht=>?_,?_⟩
  ·rw[g1,zVr hj];simp only[bE]
  ·rw[g2 t ht,Env.get_set,if_neg ht]
  ·intro o k;simp only[zGN];rw[zFl (by simpa using zOI h1)];simp only[PM.run,he,zBG,hws,List.isEmpty_nil,dH,dC,cond_false,L _ z xs,zBh,bm hjx,hb,cond_true,zAN,h4,bz];exact g3 o k
section
variable [Yo] {P:Program} {H:zBd} {f:FuncId} {i:Nat} {c:Code} {R:Env->Option Log->Prop}
theorem zLJ{pre:zA2}(put':PV->PV)(r s:Nat)(xs ys zs:List PV){st:RS}(hy:∀ (a:Nat) (x y:PV),xs[a]? = some x->ys[a]? = some y->zZn s x y)(hZ:ys.length<=xs.length)(hz:ys++xs.drop ys.length=zs)(L:zOd pre put')
  (h:WS P H f c (i+1) ⟨none,zNF ((put (zEc c i).dst (.int .i64 ys.length)).run zH3 (st.e.set r (put' (.own s zs)))),none⟩ R) (he:st.e.get r=put' (.own s xs):=by kernel_rfl) (ho:zWE P st.e (zEc c i)=some (s,.bor r pre s 0 xs.length,.sl ys):=by kernel_rfl) (hs:blt 0 s=true:=by kernel_rfl)
  (hq:((put (zEc c i).dst (.int .i64 ys.length)).run zH3 (st.e.set r (put' (.own s zs)))).isSome=true:=by kernel_rfl) (jz:st.dr=none:=by kernel_rfl) (vw:st.lg=none:=by kernel_rfl) (hg:zMF c i st.e=true:=by kernel_rfl) (hi:blt i (zEV c).size=true:=by kernel_rfl):WS P H f c i st R:=by
 subst hz;obtain⟨dr,e,lg⟩:=st;simp only at jz h he ho hq hg vw;subst jz;subst vw;have kT:∀ y∈ys,y.plain=true/\y.cells.length=s:=fun y u7=>by
  obtain⟨a,ha⟩:=cq u7;have yI:=(bg.1 ha).1;have:=hy a _ y (bm (by omega)) ha;exact⟨this.1,this.2.1⟩
 obtain⟨e',g1,g2,g3⟩:=zHc L he (j:=0) (ys:=ys) (by omega) fun a x y hx u7=>by
  rw[dh] at hx;obtain⟨_,_,h3,h4,h5,h6⟩:=hy a x y hx u7;exact⟨h3,h4,h5,h6⟩
 simp only[List.take_zero,da,dh] at g1;have y5:∀ t,e'.get t=(e.set r (put' (.own s (ys++xs.drop ys.length)))).get t:=fun t=>by
  rw[Env.get_set];split
  ·rename_i h;subst h;exact g1
  ·rename_i h;exact g2 t h
 have kV:=zIj hq;obtain⟨e1,h1,h2⟩:=zF6 (funext y5) kV;refine zY8 (s:=⟨none,e,none⟩) (e':=e1) ⟨0,fun n _=>?_⟩ (zWu h fun t=>congrFun h2 t) rfl rfl hg hi;have yC:=zGb (o:=zCN P H n) h1;show(opM P H _ _ _ (zEc c i)).run _ e=_
 generalize zEc c i=o at ho yC;cases hop:o.op<;>simp only[zWE,hop] at ho<;>try (cases ho;done)
 rename_i cc;split at ho
 ·rename_i x y t ts hc ha hT;split at ho
  ·rename_i s' jF;simp only[ba,bB] at ho;obtain⟨rfl,hx,hyv⟩:=ho;have hb:ble ys.length xs.length=true:=by rw[fN];exact hZ
   have kJ:(ys.all fun y=>y.plain&&beq y.cells.length s')=true:=bj.2 fun y u7=>by
    obtain⟨q1,q2⟩:=kT y u7;rw[q1,q2,cH];rfl
   simp only[opM,hop,zJA,hc,ha,hT,zBy,jF,zIV];rw[zOZ hx (by simp),zOZ hyv (by simp)];simp only[zHI,cH,hs,hb,kJ,dR,cond_true];rw[g3];exact yC
  ·cases ho
 ·cases ho
theorem zJb{α β:Type}{g:α->PV}{g':β->PV}{s:Nat}{l:List α}{m:List β}(h:∀ (x:α) (y:β),zZn s (g x) (g' y)):∀ (a:Nat) (x y:PV),(l.map g)[a]? = some x->(m.map g')[a]? = some y->zZn s x y:=by
 intro a x y hx hy;rw[cC] at hx hy;obtain⟨x',_,rfl⟩:=bl.1 hx;obtain⟨y',_,rfl⟩:=bl.1 hy;exact h x' y'
theorem zFK{k:IntKind}{a b:Int}:zZn 1 (.int k a) (.int k b):=⟨rfl,rfl,rfl,rfl,bi _,rfl⟩
theorem zL5{α β:Type}{g:α->PV}{g':β->PV}{l:List α}{m:List β}(h:l.length=m.length):l.map g++(m.map g').drop (l.map g).length=l.map g:=by simp[h]
end
end Go.Eng
namespace Go.Eng
open Go
abbrev zRd(sh:ON)(a:LI):PV:=match sh with|none=>I (a.getD 0 0)|some _=>.agg (a.map I)
theorem zQp{l:LI}{i k:Nat}{sh:ON}(jm:sh=some k\/(sh=none/\k=1))(h:i+k<=l.length):sub (.agg (l.map I)) i sh=some (zRd sh ((l.drop i).take k)):=by
 rcases jm with rfl|⟨rfl,rfl⟩
 ·simp only[sub,bf,h,if_true,zRd,fy,fA]
 ·have h2:i<l.length:=by omega
  simp only[sub,zRd];rw[b9 h2];simp[h2]
theorem zNw{eq:PV->PV->Option Bool}{sh:ON}{k:Nat}{l m:LI}(uX:∀ a b:LI,a.length=k->b.length=k->eq (zRd sh a) (zRd sh b)=some (decide (a=b)))(jm:sh=some k\/(sh=none/\k=1)):∀ n i,(i+n)*k=l.length->(i+n)*k=m.length->zUF eq sh k (.agg (l.map I)) (.agg (m.map I)) i n=some (decide (l.drop (i*k)=m.drop (i*k)))
 |0,i,h1,h2=>by
  simp only[zUF];rw[dt (by simpa using Nat.le_of_eq h1.symm),dt (by simpa using Nat.le_of_eq h2.symm)];simp
 |n + 1,i,h1,h2=>by
  have e:(i+(n+1))*k=i*k+k+n*k:=by rw[cQ,cY];omega
  have e1:(i+1)*k=i*k+k:=by rw[cY]
  have hl:i*k+k<=l.length:=by omega
  have hm:i*k+k<=m.length:=by omega
  have ih:=zNw uX jm n (i+1) (by rw[<- h1];congr 1;omega) (by rw[<- h2];congr 1;omega);simp only[zUF,zQp jm hl,zQp jm hm];rw[uX _ _ (by rw[bZ,dI];omega) (by rw[bZ,dI];omega)];have d1:l.drop (i*k)=(l.drop (i*k)).take k++l.drop ((i+1)*k):=by rw[e1,<- dJ,cF]
  have d2:m.drop (i*k)=(m.drop (i*k)).take k++m.drop ((i+1)*k):=by rw[e1,<- dJ,cF]
  by_cases hc:(l.drop (i*k)).take k=(m.drop (i*k)).take k
  ·simp only[hc,decide_true,ih];congr 1;rw[d1,d2,hc];simp
  ·simp only[hc,decide_false];rw[Eq.comm,decide_eq_false];intro hx;exact hc (by rw[hx])
def zQj:Option TypeDesc->Bool
 |some (.array ..)=>true|_=>false
def zXa:Option TypeDesc->Bool
 |some (.int .i64)=>true|_=>false
theorem zWg{x:Option TypeDesc}(h:zXa x=true):x=some (.int .i64):=by
 unfold zXa at h;split at h
 ·rfl
 ·cases h
theorem zMS{x:Option TypeDesc}(h:zQj x=true):∃ c e,x=some (.array c e):=by
 unfold zQj at h;split at h
 ·exact⟨_,_,rfl⟩
 ·cases h
def zUH(P:Program):Nat->TypeId->ON
 |0,_=>none
 | n + 1,t=>match P.underlying t with
  |some (.int k)=>if k = .i64 then some 1 else none
  |some (.array m e)=>match szT P e,shT P e,zUH P n e with
   |some sz,some sh,some k=>if sz=k/\(sh=some k/\zQj (P.underlying e)=true\/sh=none/\k=1/\zXa (P.underlying e)=true) then some (m*k) else none
   |_,_,_=>none
  |_=>none
theorem zXe{P:Program}{n:Nat}{t:TypeId}{a b:Int}(h:P.underlying t=some (.int .i64)):eqT P (n+1) t (I a) (I b)=some (decide (a=b)):=by
 simp only[eqT,h,if_true];rfl
theorem zQC{P:Program}:∀ (n:Nat) (t:TypeId) (k:Nat) (l m:LI),zUH P n t=some k->(∃ c e,P.underlying t=some (.array c e))->l.length=k->m.length=k->eqT P n t (.agg (l.map I)) (.agg (m.map I))=some (decide (l=m))
 |0,_,_,_,_,h,_,_,_=>by cases h
 | n + 1, t, k,l,m,h,⟨c,e,hu⟩,hl,hm=>by
  simp only[zUH,hu] at h;split at h
  ·rename_i sz sh k1 h1 h2 h3;split at h
   ·rename_i hx;obtain⟨rfl,hx⟩:=hx;cases h;simp only[eqT,hu,h1,h2];have:=zNw (eq:=eqT P n e) (sh:=sh) (k:=sz) (l:=l) (m:=m) (fun a b ha hb=>by
     rcases hx with⟨rfl,hx⟩|⟨rfl,rfl,hx⟩
     ·exact zQC n e sz a b h3 (zMS hx) ha hb
     ·cases n with
      |zero=>cases h3|succ n=>
       simp only[zRd,zXe (zWg hx)]
       match a,b,ha,hb with
       |[x],[y],_,_=>simp) (by
     rcases hx with⟨rfl,_⟩|⟨rfl,rfl,_⟩
     ·exact .inl rfl
     ·exact .inr ⟨rfl,rfl⟩) c 0 (by rw[hl];simp) (by rw[hm];simp)
    simpa using this
   ·cases h
  ·cases h
def zN6(P:Program)(t:TypeId)(k:Nat):Bool := !P.eqGuardType P.depth t&&decide (zUH P 20 t=some k)&&zQj (P.underlying t)
theorem zSr{P:Program}{t:TypeId}{k:Nat}{l m:LI}(h:zN6 P t k=true)(hl:l.length=k)(hm:m.length=k):eqT P 20 t (.agg (l.map I)) (.agg (m.map I))=some (decide (l=m)):=by
 unfold zN6 at h;simp only[bb,decide_eq_true_eq,bF] at h;obtain⟨⟨h1,h2⟩,h3⟩:=h;exact zQC 20 t k l m h2 (zMS h3) hl hm
theorem zYP{P:Program}{t:TypeId}{k:Nat}{l m:LI}(h:zN6 P t k=true)(hl:l.length=k)(hm:m.length=k):eqV P t (.agg (l.map I)) (.agg (m.map I))=some (decide (l=m)):=by
 have hg:P.eqGuardType P.depth t=false:=by
  unfold zN6 at h;simp only[bb,bF] at h;exact h.1.1
 simp only[eqV,hg,cond_false,zSr h hl hm]
theorem zSn{P:Program}{t:TypeId}{l m:LI}(k:Nat)(hl:l.length=k)(hm:m.length=k)(h:zN6 P t k=true:=by kernel_rfl):zHJ P .neq t (.agg (l.map I)) (.agg (m.map I))=some (.bool (!decide (l=m))):=by
 simp only[zHJ,zYP h hl hm,bz]
theorem zRT{a b c d:Int}:decide ([a,b]=[c,d])=(decide (a=c)&&decide (b=d)):=by simp
theorem zW9{P:Program}{t:TypeId}{a b c d:Int}(h:zN6 P t 2=true:=by kernel_rfl):zHJ P .neq t (.agg [I a,I b]) (.agg [I c,I d])=some (.bool (!(decide (a=c)&&decide (b=d)))):=by
 rw[<- zRT];exact zSn (l:=[a,b]) (m:=[c,d]) 2 rfl rfl h
def zJP (P:Program) (t:TypeId):Bool := !P.eqGuardType P.depth t && !P.stoodInHeld t&&match P.underlying t with
  | some (.struct fs)=>match fs.toList with
    | [f1, f2] => !decide (f1.name = "_") && !decide (f2.name = "_") && decide (shT P f1.type = some none) && decide (shT P f2.type = some none) && decide (f1.offset = 0) && decide (f2.offset = 1) &&
      (match P.underlying f1.type with|some (.int k)=>decide (k = .i64)|_=>false)&&(match P.underlying f2.type with|some .bool=>true|_=>false)
    |_=>false
  |_=>false
theorem zRI{P:Program}{t:TypeId}{a c:Int}{b d:Bool}(h:zJP P t=true):eqV P t (.agg [I a,.bool b]) (.agg [I c,.bool d])=some (decide (a=c)&&decide (b=d)):=by
 unfold zJP at h;rw[bb,bb] at h;obtain⟨⟨h1,h2⟩,h3⟩:=h;split at h3
 ·rename_i fs hu;split at h3
  ·rename_i f1 f2 hl;simp only[bb,decide_eq_true_eq,bF,decide_eq_false_iff_not] at h1 h2 h3;obtain⟨⟨⟨⟨⟨⟨⟨n1,n2⟩,s1⟩,s2⟩,o1⟩,o2⟩,u1⟩,u2⟩:=h3;split at u1
   ·rename_i k1' jV;split at u2
    ·rename_i uh;simp only[decide_eq_true_eq] at u1;subst u1;simp only[eqV,h1,cond_false,eqT,hu,h2,hl,zRL,n1,n2,s1,s2,o1,o2,sub,jV,uh,if_true,if_false,bM,dS];by_cases e1:a=c
     ·subst e1;cases b<;>cases d<;>simp
     ·simp[e1]
    ·cases u2
   ·cases u1
  ·cases h3
 ·cases h3
theorem zUZ{P:Program}{t:TypeId}{a c:Int}{b d:Bool}(h:zJP P t=true:=by kernel_rfl):zHJ P .neq t (.agg [I a,.bool b]) (.agg [I c,.bool d])=some (.bool (!(decide (a=c)&&decide (b=d)))):=by
 simp only[zHJ,zRI h,bz]
theorem zJI{P:Program}{kt:TypeId}{α:Type}{g:α->PV×PV}{kx ky:α->Int}(hk:∀ x,(g x).1 = .agg [I (kx x),I (ky x)])(uX:∀ a b c d:Int,eqT P 20 kt (.agg [I a,I b]) (.agg [I c,I d])=some (decide (a=c)&&decide (b=d)))(a b:Int):∀ (M:List α) (i:Nat),zCk P kt (.agg [I a,I b]) (M.map g) i=some ((M.findIdx? fun x=>decide (a=kx x)&&decide (b=ky x)).map (· + i))
 |[],i=>rfl
 | x :: M,i=>by
  have h1:=uX a b (kx x) (ky x);rw[<- hk x] at h1;have h2:zET (agg [I a,I b]).cells (g x).1.cells=some (a==kx x&&(b==ky x&&true)):=by rw[hk x];rfl
  rw[bO,fM];have e:g x=((g x).1,(g x).2):=rfl;rw[e];simp only[zCk,h1,h2]
  cases hc:(decide (a=kx x)&&decide (b=ky x)) with
  |true=>
   simp only[bb,decide_eq_true_eq] at hc;simp[hc.1,hc.2]
  |false=>
   simp only;rw[zJI hk uX a b M (i+1)];simp only[bq,if_false,Option.map_map];congr 2;funext y;simp only[Function.comp];omega
theorem zT1{P:Program}{t:TypeId}(h:zN6 P t 2=true:=by kernel_rfl)(a b c d:Int):eqT P 20 t (.agg [I a,I b]) (.agg [I c,I d])=some (decide (a=c)&&decide (b=d)):=by
 rw[<- zRT];exact zSr (l:=[a,b]) (m:=[c,d]) h rfl rfl
def zZP(F:LI)(n:Nat):Nat->List PV
 |0=>[]|m+1=>I (F.getD (n-(m+1)) 0)::zZP F n m
abbrev zBa(F:LI)(m:Nat):List PV:=zZP F m m
theorem zSO{F:LI}{n:Nat}:∀ (m:Nat),m<=n->zZP F n m=(List.range' (n-m) m).map fun k=>I (F.getD k 0)
 |0,_=>rfl|m+1,h=>by
  rw[zZP,zSO m (by omega),fv,bO,show n-(m+1)+1=n-m by omega]
theorem zPj{F:LI}{m:Nat}:zBa F m=(range m).map fun k=>I (F.getD k 0):=by
 rw[List.range_eq_range',zBa,zSO m (bi m),iX]
theorem zGq{F:LI}{m:Nat}(h:F.length=m):zBa F m=F.map I:=by
 rw[zPj];apply cW;intro k;by_cases hk:k<m
 ·simp[hk,show k<F.length by omega]
 ·rw[cV (by simp;omega),cV (by simp;omega)]
section
variable {A B:List PV} {F:LI} {m j:Nat} {r i c':Nat} {pre:zA2}
theorem zJ6:(zBa F m).length=m:=by rw[zPj];simp
theorem zUh(hj:j<m):(zBa F m)[j]? = some (I (F.getD j 0)):=by rw[zPj];simp[hj]
theorem zYi(hj:j<m):(A++zBa F m++B)[A.length+j]? = some (I (F.getD j 0)):=by
 rw[cK,dG (by omega),dT,dd (by rw[zJ6];exact hj)];exact zUh hj
theorem zYS(hj:j<m):zBO (.ref (.agg (zBa F m))) j none=some (.ref (I (F.getD j 0))):=by
 have h1:(I (F.getD j 0)).oneCell=true:=rfl;simp only[zBO,zPD,sub,zUh hj,Option.isSome,co,h1,cond_true]
theorem zD9{n:Nat}(hj:j<m)(hn:beq n 1=true:=by kernel_rfl):zBO (.ref (.agg (zBa F m))) (j*n) none=some (.ref (I (F.getD j 0))):=by
 rw[bd hn,fR];exact zYS hj
theorem zLm(hc:c'=A.length+j)(hj:j<m):zNO r pre i c' 1 (.agg (A++zBa F m++B))=some (true,[I (F.getD j 0)]):=by
 subst hc;have hZ:A.length+j<(A++zBa F m++B).length:=by rw[bt,bt,zJ6];omega
 have hb:ble (A.length+j+1) (agg (A++zBa F m++B)).cells.length=true:=by rw[fN];exact hZ
 have h2:((A++zBa F m++B).drop (A.length+j)).take 1=[I (F.getD j 0)]:=by
  rw[b9 hZ];have:=zYi (A:=A) (B:=B) (F:=F) hj;rw[bm hZ] at this;simp only[ba] at this;rw[this];simp
 simp only[zNO,hb,cond_true,PV.isAgg];show some (true,zBJ r pre i (A.length+j) (((A++zBa F m++B).drop (A.length+j)).take 1))=_
 rw[h2];rfl
theorem zXT{u:Int}(hj:j<m)(hF:F.length=m):(zBa F m).set j (I u)=zBa (F.set j u) m:=by
 rw[zGq hF,zGq (F:=F.set j u) (by simpa using hF),List.map_set]
theorem zQs{u:Int}(hc:c'=A.length+j)(hj:j<m)(hF:F.length=m):zAH (.agg (A++zBa F m++B)) c' [I u] = .agg (A++zBa (F.set j u) m++B):=by
 subst hc;have hZ:A.length+j<(A++zBa F m++B).length:=by rw[bt,bt,zJ6];omega
 have e:(A++zBa F m++B).take (A.length+j)++[I u]++(A++zBa F m++B).drop (A.length+j+1)=(A++zBa F m++B).set (A.length+j) (I u):=by
  rw[cm,if_pos hZ];simp
 simp only[zAH,bX,e];rw[cK,f7 _ _ (by omega),dT,List.set_append_left _ _ (by rw[zJ6];exact hj),zXT hj hF,cK]
theorem zQR(hc:c'=A.length+j)(hj:j<m){q:PV}:ble (c' + [q].length) (agg (A++zBa F m++B)).cells.length=true:=by
 subst hc;rw[fN];show _<=(A++zBa F m++B).length;rw[bt,bt,zJ6];simp;omega
theorem zXv(hj:j<m):sub (.agg (zBa F m)) j none=some (I (F.getD j 0)):=by
 simp only[sub,zUh hj]
theorem zFG(hc:c'=j)(hj:j<m):zNO r pre i c' 1 (.agg (zBa F m))=some (true,[I (F.getD j 0)]):=by
 have:=zLm (A:=[]) (B:=[]) (F:=F) (r:=r) (pre:=pre) (i:=i) (c':=c') (by simpa using hc) hj;simpa using this
theorem zO5{u:Int}(hc:c'=j)(hj:j<m)(hF:F.length=m):zAH (.agg (zBa F m)) c' [I u] = .agg (zBa (F.set j u) m):=by
 have:=zQs (A:=[]) (B:=[]) (F:=F) (u:=u) (c':=c') (by simpa using hc) hj hF;simpa using this
theorem zOB(hc:c'=j)(hj:j<m){q:PV}:ble (c' + [q].length) (agg (zBa F m)).cells.length=true:=by
 have:=zQR (A:=[]) (B:=[]) (F:=F) (q:=q) (c':=c') (by simpa using hc) hj;simpa using this
theorem zVV{n:Nat}(hj:j<m)(hn:beq n 1=true:=by kernel_rfl):sub (.agg (zBa F m)) (j*n) none=some (I (F.getD j 0)):=by
 rw[bd hn,fR];exact zXv hj
end
section
variable {l:LI} {r i c c' k:Nat} {pre:zA2}
theorem zKu:∀ (l:LI) (c:Nat),zBJ r pre i c (l.map I)=l.map I
 |[],_=>rfl|x::l,c=>by simp only[bO,zBJ,zKu l (c+1)];rfl
theorem zZy(hc:c'=c)(h:c+k<=l.length):zNO r pre i c' k (.agg (l.map I))=some (true,((l.drop c).take k).map I):=by
 subst hc;have hb:ble (c'+k) (agg (l.map I)).cells.length=true:=by rw[fN];simpa[PV.cells] using h
 simp only[zNO,hb,cond_true,PV.isAgg];show some (true,zBJ r pre i c' (((l.map I).drop c').take k))=_
 rw[<- fA,<- fy,zKu]
theorem zYl{K:Nat}(hc:c'=c)(h:c+K<=l.length)(hk:beq k K=true):zNO r pre i c' k (.agg (l.map I))=some (true,((l.drop c).take K).map I):=by rw[bd hk];exact zZy hc h
theorem zXK{K m:Nat}(hl:l.length=m)(hc:c'=c)(h:c+K<=m)(hk:beq k K=true):zNO r pre i c' k (.agg (zBa l m))=some (true,zBa ((l.drop c).take K) K):=by
 rw[zGq hl,zYl (K:=K) hc (by omega) hk,zGq (F:=(l.drop c).take K) (by rw[bZ,dI];omega)]
theorem zTa{P:Program}{t:TypeId}{l m:LI}(k:Nat)(hl:l.length=k)(hm:m.length=k)(h:zN6 P t k=true:=by kernel_rfl):zHJ P .neq t (.agg (zBa l k)) (.agg (zBa m k))=some (.bool (!decide (l=m))):=by
 rw[zGq hl,zGq hm];exact zSn k hl hm h
end
end Go.Eng
namespace Go.Eng
open Go
theorem zD0{a b m k M:Nat}(h:beq m M=true)(h2:beq k 1=true):a*m+b*k=a*M+b:=by rw[bd h,bd h2,fR]
theorem zD2{a m M:Nat}(h:beq m M=true):a*m=a*M:=by rw[bd h]
theorem zEd{a b m k M:Nat}(h:beq m M=true)(h2:beq k 1=true):0+a*m+b*k=a*M+b:=by rw[dh];exact zD0 h h2
theorem zDW{a m M:Nat}(h:beq m M=true):0+a*m=a*M:=by rw[dh];exact zD2 h
theorem zBH{α:Type}{g:α->PV}{l:List α}{u:α}{y:PV}(h:g u=y):l.map g++[y]=(l++[u]).map g:=by rw[<- h,cJ];rfl
def zWG(P:Program)(e:Env)(o:Oper):Option (Nat×PV×PV) :=
 match o.op,o.dst with
 | .call c,none=>match c.callee,c.args.toList,c.argTypes.toList with
  |.builtin .clear,[x],t::_=>match(zB1 P t).bind (zCM P),(zB1 P t).bind (szT P) with
   |some q,some s=>some (s,q,zZN e x)|_,_=>none
  |_,_,_=>none
 |_,_=>none
section
variable [Yo] {P:Program} {H:zBd} {f:FuncId} {i:Nat} {c:Code} {R:Env->Option Log->Prop}
theorem zOh{α:Type}{g:α->PV}{pre:zA2}(put':PV->PV)(r s lo n:Nat)(l:List α)(u:α){st:RS}(uK:lo+n<=l.length)(hu:(g u).plain=true/\(g u).cells.length=s)(hy:∀ x,zZn s (g x) (g u))(L:zOd pre put')
  (h:WS P H f c (i+1) ⟨none,st.e.set r (put' (.own s ((l.take lo++replicate n u++l.drop (lo+n)).map g))),none⟩ R) (he:st.e.get r=put' (.own s (l.map g)):=by kernel_rfl) (ho:zWG P st.e (zEc c i)=some (s,g u,.bor r pre s lo n):=by kernel_rfl) (hs:blt 0 s=true:=by kernel_rfl)
  (jz:st.dr=none:=by kernel_rfl) (vw:st.lg=none:=by kernel_rfl) (hg:zMF c i st.e=true:=by kernel_rfl) (hi:blt i (zEV c).size=true:=by kernel_rfl):WS P H f c i st R:=by
 obtain⟨dr,e,lg⟩:=st;simp only at jz h he ho hg vw;subst jz;subst vw;obtain⟨e',g1,g2,g3⟩:=zHc L he (j:=lo) (ys:=replicate n (g u)) (by simpa using uK) fun a x y hx u7=>by
  rw[cC] at hx;obtain⟨x',_,rfl⟩:=bl.1 hx;obtain⟨hn,hy2⟩:=bg.1 u7;rw[fS] at hy2;subst hy2;obtain⟨_,_,h3,h4,h5,h6⟩:=hy x';exact⟨h3,h4,h5,h6⟩
 have y5:∀ t,e'.get t=(e.set r (put' (.own s ((l.take lo++replicate n u++l.drop (lo+n)).map g)))).get t:=fun t=>by
  rw[Env.get_set];split
  ·rename_i h;subst h;rw[g1];simp
  ·rename_i h;exact g2 t h
 refine zY8 (s:=⟨none,e,none⟩) (e':=e') ⟨0,fun m _=>?_⟩ (zWu h fun t=>y5 t) rfl rfl hg hi;show(opM P H _ _ _ (zEc c i)).run _ e=_
 generalize zEc c i=o at ho;cases hop:o.op<;>simp only[zWG,hop] at ho<;>try (cases ho;done)
 rename_i cc;cases kZ:o.dst<;>rw[kZ] at ho<;>simp only at ho<;>try (cases ho;done)
 split at ho
 ·rename_i x t ts hc ha hT;split at ho
  ·rename_i q s' hq jF;simp only[ba,bB] at ho;obtain⟨rfl,rfl,hx⟩:=ho;simp only[opM,hop,zJA,hc,ha,hT,zBy,kZ];rw[zOZ hx (by simp)];simp only[zTs,hs,cH,hu.1,hu.2,dR,cond_true,hq,jF];rw[g3];rfl
  ·cases ho
 ·cases ho
end
end Go.Eng
namespace Go.Eng
open Go
section
variable [Yo] {P:Program} {H:zBd} {f:FuncId} {nt:Nat} {c:Code} {e:Env} {lg:Option Log} {K:X->Env->Option Log->Prop}
end
end Go.Eng
namespace Go.Eng
open Go
theorem zPm[Yo]{P:Program}{H:zBd}{f:FuncId}{nt:Nat}{e:Env}{lg:Option Log}{K:X->Env->Option Log->Prop}{σ:Type}{c:Code}{t g:Nat}{first caps:List PV}{xs:List (List PV)}(hY:zGy g first caps xs)(Inv:Nat->σ->Prop)(upd:σ->List (Nat×PV))(s:σ)(hi:Inv 0 s)
  (h:∀ j x s,xs[j]? = some x->Inv j s->zMg P H f nt (zZJ c) (rgA c) (rgB c) x (zML (upd s) e) fun y e3=>match y with
   |.norm=>∃ s',Inv (j+1) s'/\after nt [] (zYz c) (zML (upd s) e) e3=zML (upd s') e|y=>K y (after nt [] (zYz c) (zML (upd s) e) e3) none) (hK:∀ s,Inv xs.length s->K .norm (zML (upd s) e) none) (hs:e=zML (upd s) e:=by kernel_rfl) (yO:zDV e t=some (g,first,caps,[]):=by kernel_rfl) (hc:rgT c=some t:=by kernel_rfl) (hl:lg=none:=by kernel_rfl):W P H f nt c e lg K :=
 zYk (t:=t) hY Inv (fun s=>zML (upd s) e) s hi h hK hs yO hc hl
end Go.Eng
namespace Go.Eng
open Go
theorem zOd.field(A B:List PV):zOd [(0,A.length)] (fun q=>.box (.agg (A++q::B))):=fun f z xs=>by
 have h1:(A++own z xs::B)[A.length]? = some (.own z xs):=by simp
 simp only[zAA,zA6,bM,PV.cells,h1]
 cases f (.own z xs) with
 |none=>rfl|some q=>simp[zAN,zAH]
end Go.Eng
namespace Go.Eng
open Go
theorem zGd(l:LI):zAv (l.map I)=l.map I:=zAz l
theorem zIw(k:IntKind)(l:LI):zAv (l.map (int k))=l.map (int k):=zAz l
theorem zFL(l:List Bool):zAv (l.map bool)=l.map bool:=zAz l
theorem zAB{α:Type}{g g':α->PV}(l:List α)(h:∀ x,zAY (g x)=g' x:=by intro x;simp only[zAY,zAv,zGd,zFL,zIw]):zAv (l.map g)=l.map g':=by
 induction l with
 |nil=>rfl|cons x l ih=>simp only[bO,zAv,h,ih]
theorem zA3{xs ys:List PV}(h:zAv xs=ys):zAv ((xs.drop 0).take xs.length)=ys:=by rw[fc,dp];exact h
theorem zHa{r z:Nat}{xs ys:List PV}(h:zAv xs=ys):PV.mapW (inl r [] (.own z xs)) (.bor r [] z 0 xs.length) = .sl ys:=by
 have e:zAT r [] r []=true:=by simp[zAT]
 have e2:ble (0+xs.length) xs.length=true:=by simp
 simp only[PV.mapW,inl,e,cond_true];show zFN (zAF (.own z xs) []) (zCh 0 xs.length)=_
 simp only[zAF,zFN,zCh,e2,cond_true];rw[zA3 h]
def zP8 (P:Program) (t:TypeId) (k1 k2:IntKind):Bool := !P.eqGuardType P.depth t && !P.stoodInHeld t&&match P.underlying t with
  | some (.struct fs)=>match fs.toList with
    | [f1, f2] => !decide (f1.name = "_") && !decide (f2.name = "_") && decide (shT P f1.type = some none) && decide (shT P f2.type = some none) && decide (f1.offset = 0) && decide (f2.offset = 1) &&
      (match P.underlying f1.type with|some (.int k)=>decide (k=k1)|_=>false)&&(match P.underlying f2.type with|some (.int k)=>decide (k=k2)|_=>false)
    |_=>false
  |_=>false
theorem zS9{P:Program}{t:TypeId}{k1 k2:IntKind}{a b c d:Int}(h:zP8 P t k1 k2=true):eqV P t (.agg [.int k1 a,.int k2 b]) (.agg [.int k1 c,.int k2 d])=some (decide (a=c)&&decide (b=d)):=by
 unfold zP8 at h;rw[bb,bb] at h;obtain⟨⟨h1,h2⟩,h3⟩:=h;split at h3
 ·rename_i fs hu;split at h3
  ·rename_i f1 f2 hl;simp only[bb,decide_eq_true_eq,bF,decide_eq_false_iff_not] at h1 h2 h3;obtain⟨⟨⟨⟨⟨⟨⟨n1,n2⟩,s1⟩,s2⟩,o1⟩,o2⟩,u1⟩,u2⟩:=h3;split at u1
   ·rename_i k1' jV;split at u2
    ·rename_i k2' uh;simp only[decide_eq_true_eq] at u1 u2;subst u1;subst u2;simp only[eqV,h1,cond_false,eqT,hu,h2,hl,zRL,n1,n2,s1,s2,o1,o2,sub,jV,uh,if_true,if_false,bM,dS];by_cases e1:a=c
     ·subst e1;by_cases e2:b=d
      ·subst e2;simp
      ·simp[e2]
     ·simp[e1]
    ·cases u2
   ·cases u1
  ·cases h3
 ·cases h3
theorem zJG{P:Program}{t:TypeId}{k1 k2:IntKind}{a b c d:Int}(h:zP8 P t k1 k2=true:=by kernel_rfl):zHJ P .neq t (.agg [.int k1 a,.int k2 b]) (.agg [.int k1 c,.int k2 d])=some (.bool (!(decide (a=c)&&decide (b=d)))):=by
 simp only[zHJ,zS9 h,bz]
theorem zSN{P:Program}{t:TypeId}{k1 k2:IntKind}{a b c d:Int}(h:zP8 P t k1 k2=true:=by kernel_rfl):zHJ P .eql t (.agg [.int k1 a,.int k2 b]) (.agg [.int k1 c,.int k2 d])=some (.bool (decide (a=c)&&decide (b=d))):=by
 simp only[zHJ,zS9 h,bz]
section
variable {α:Type} {g:α->PV} {l:List α} {i z:Nat} {b:PV}
end
def zI6(P:Program)(t:TypeId):Bool:=match P.underlying t with|some (.slice _)=>true|_=>false
theorem zXP{P:Program}{t:TypeId}{p:PV}{z:Nat}(he:zFB p=true)(hp:(match p with|.nils _=>false|.agg _=>false|_=>true)=true:=by rfl)(h:zI6 P t=true:=by kernel_rfl):eqV P t p (.nils z)=some false:=by
 unfold zI6 at h;split at h
 ·rename_i e hu;unfold eqV;rw[hu];cases p<;>first|(cases hp;done)|simp only[he,cond_true]
 ·cases h
theorem zUV{P:Program}{t:TypeId}{p:PV}{z:Nat}(he:zFB p=true)(hp:(match p with|.nils _=>false|.agg _=>false|_=>true)=true:=by rfl)(h:zI6 P t=true:=by kernel_rfl):(eqV P t p (.nils z)).map bool=some (.bool false):=by rw[zXP he hp h];rfl
theorem zAL{xs:List PV}:take xs.length (drop 0 xs)=xs:=by rw[fc,dp]
section
variable [Yo] {P:Program} {H:zBd} {f:FuncId} {e:Env} {lg:Option Log}
end
theorem zVD{α:Type}{g:α->PV}{l:List α}(h:0<l.length):zFB (.sl (l.map g))=true:=by
 cases l with
 |nil=>exact absurd h (fC _)|cons x l=>rfl
theorem zOC{P:Program}{t:TypeId}{z:Nat}{α:Type}{g:α->PV}{l:List α}(hp:0<l.length)(h:zI6 P t=true:=by kernel_rfl):zHJ P .eql t (.sl (l.map g)) (.nils z)=some (.bool false):=by
 have:=zUV (P:=P) (t:=t) (z:=z) (zVD (g:=g) hp) rfl h;simpa[zHJ] using this
class FrzOf {α:Type} (g:α->PV) (g':outParam (α->PV)):Prop where
 frz:∀ x,zAY (g x)=g' x
theorem zAE{α:Type}{g g':α->PV}[h:FrzOf g g'](l:List α):zAv (l.map g)=l.map g':=zAB l h.frz
section
variable {α:Type} {g:α->PV} {l:List α} {i z:Nat} {b:PV} {u0:α}
end
theorem zSx[Yo]{P:Program}{H:zBd}{f:FuncId}{nt:Nat}{e:Env}{lg:Option Log}{K:X->Env->Option Log->Prop}{c:Code}(n:Nat)(e1 ef:Env)(h1:e1=ef)(h:K (.ex n) ef lg)(hc:zT2 c=some n:=by kernel_rfl)(he:zYa ((H f).ices n) e=e1:=by kernel_rfl):W P H f nt c e lg K:=by
 rw[zNL hc];refine zWo ?_;rw[he,h1];exact h
end Go.Eng
namespace Go.Eng
open Go
theorem zGE{r z:Nat}{pre:zA2}{xs ys:List PV}(h:zAv xs=ys):PV.mapW (inl r pre (.own z xs)) (.bor r pre z 0 xs.length) = .sl ys:=by
 have e:zAT r pre r pre=true:=by simp[zAT]
 have e2:ble (0+xs.length) xs.length=true:=by simp
 simp only[PV.mapW,inl,e,cond_true,List.drop_length];show zFN (zAF (.own z xs) []) (zCh 0 xs.length)=_
 simp only[zAF,zFN,zCh,e2,cond_true];rw[zA3 h]
theorem zTo[Yo]{P:Program}{H:zBd}{f:FuncId}{nt:Nat}{e:Env}{lg:Option Log}{K:X->Env->Option Log->Prop}{σ:Type}{c:Code}(Inv:σ->Prop)(upd:σ->List (Nat×PV))(D:LN) (h1:W P H f nt (cl c) e lg fun x e' lg'=>match x with
   |.norm=>∃ s,Inv s/\e'=zML (upd s) (e.drop D)/\lg'=lg|x=>K x e' lg') (h2:∀ s,Inv s->W P H f nt (cr c) (zML (upd s) (e.drop D)) lg K) (hc:zT8 c=true:=by kernel_rfl):W P H f nt c e lg K :=
 zAc (zTA h1 fun x e' lg' h=>by
  cases x with
  |norm=>obtain⟨s,hs,rfl,rfl⟩:=h;exact h2 s hs
  |_=>exact h) hc
theorem E_z[Yo]{P:Program}{H:zBd}{f:FuncId}{fn:Func}{nh:Nat}{v:PV}{h:List PV}{x:X}{e:Env}{lg:Option Log}(as:Ans){obs:List Prop}(ho:zUB obs)(hf:zJn P H f fn as e nh=some ((v,h),obs):=by kernel_rfl)(hl:lg=none:=by kernel_rfl)(hx:x = .norm\/x = .ret:=by first|exact .inr rfl|exact .inl rfl):zT5 P H f fn nh v h x e lg:=E_a as ho v h rfl rfl hf hl hx
theorem E_0[Yo]{P:Program}{H:zBd}{f:FuncId}{fn:Func}{nh:Nat}{v:PV}{h:List PV}{x:X}{e:Env}{lg:Option Log}(hf:zJn P H f fn [] e nh=some ((v,h),[]):=by kernel_rfl)(hl:lg=none:=by kernel_rfl)(hx:x = .norm\/x = .ret:=by first|exact .inr rfl|exact .inl rfl):zT5 P H f fn nh v h x e lg:=E_a [] an v h rfl rfl hf hl hx
theorem blz(l:List PV):(0+l.length).ble l.length=true:=by rw[dh];exact Nat.ble_self_eq_true _
theorem frT{α:Type}(g:α->PV)(l:List α)(h:∀ x,zAY (g x)=g x:=by intro x;simp only[zAY,zAv,zGd,zFL,zIw]):sl (zAv (take (map g l).length (drop 0 (map g l))))=sl (map g l):=zS7 (zA3 (zAB l h))
theorem frC{α:Type}(g g':α->PV)[FrzOf g g'](l:List α):sl (zAv (take (map g l).length (drop 0 (map g l))))=sl (map g' l):=zS7 (zA3 (zAE l))
theorem lnS{α:Type}(g:α->PV)(l:List α):some (map g l).length=some l.length:=by rw[bf]
theorem wrN(i:Nat)(h:(i:Int)+1<9223372036854775808:=by omega):int IntKind.i64 (IntKind.i64.wrap ((i:Int)+1))=int IntKind.i64 ((i+1:Nat):Int):=zBY (by omega) (by omega)
theorem zAl[Yo]{P:Program}{H:zBd}{f:FuncId}{nt:Nat}{e:Env}{lg:Option Log}{K:X->Env->Option Log->Prop}{c:Code}(m:Nat)(h:WS P H f (cl c) (0+m) (zUD (zEE P H f (cl c) m 0 {dr:=bif zM9 (cl c) then some ([],[]) else none,e:=e,lg:=lg})) (zZL P H f nt (cr c) K .norm))(h1:zT8 c=true:=by kernel_rfl)(h2:zU1 (cl c)=true:=by kernel_rfl)(h3:(zEE P H f (cl c) m 0 {dr:=bif zM9 (cl c) then some ([],[]) else none,e:=e,lg:=lg}).isSome=true:=by kernel_rfl)(h4:(0+m).ble (zEV (cl c)).size=true:=by kernel_rfl):W P H f nt c e lg K:=zAc (zAb (zAn m h h3 h4) h2) h1
theorem S_i[Yo]{P:Program}{H:zBd}{f:FuncId}{c:Code}{j:Nat}{s:RS}{R:Env->Option Log->Prop}(i:Nat)(h:WS P H f c (j+1) (rsX (zWm P H f c j [(1,.v (.int .i64 ((i+1:Nat):Int)))] s)) R)(hb:(i:Int)+1<9223372036854775808:=by omega)(hq:(zWm P H f c j [(1,.v (.int .i64 ((i+1:Nat):Int)))] s).map (·.2)=some [int .i64 (IntKind.i64.wrap ((i:Int)+1))=int .i64 ((i+1:Nat):Int)]:=by kernel_rfl)(hi:blt j (zEV c).size=true:=by kernel_rfl):WS P H f c j s R:=S_a _ (ap (wrN i hb) an) h hq hi
theorem rnd{σ:Type}{P Q A B:σ->Prop}(s:σ)(h1:P s)(h2:Q s)(h3:A s:=by kernel_rfl)(h4:B s:=by kernel_rfl):∃ s,P s/\Q s/\A s/\B s:=⟨s,h1,h2,h3,h4⟩
theorem S_g[Yo]{P:Program}{H:zBd}{f:FuncId}{c:Code}{i:Nat}{s:RS}{R:Env->Option Log->Prop}(m:Nat)(h:R (((zUD (zEE P H f c m i s)).e.drop ((H f).drop (rid c))).norm) (zUD (zEE P H f c m i s)).lg)(hs:(zEE P H f c m i s).isSome=true:=by kernel_rfl)(hi:ble (i+m) (zEV c).size=true:=by kernel_rfl)(he:ble (zEV c).size (i+m)=true:=by kernel_rfl):WS P H f c i s R:=zAn m (zAR h he) hs hi
theorem zAh[Yo]{P:Program}{H:zBd}{f:FuncId}{nt:Nat}{e:Env}{lg:Option Log}{K:X->Env->Option Log->Prop}{c:Code}(m:Nat)(h:zZL P H f nt (cr c) K .norm (((zUD (zEE P H f (cl c) m 0 {dr:=bif zM9 (cl c) then some ([],[]) else none,e:=e,lg:=lg})).e.drop ((H f).drop (rid (cl c)))).norm) (zUD (zEE P H f (cl c) m 0 {dr:=bif zM9 (cl c) then some ([],[]) else none,e:=e,lg:=lg})).lg)(h1:zT8 c=true:=by kernel_rfl)(h2:zU1 (cl c)=true:=by kernel_rfl)(h3:(zEE P H f (cl c) m 0 {dr:=bif zM9 (cl c) then some ([],[]) else none,e:=e,lg:=lg}).isSome=true:=by kernel_rfl)(h4:(0+m).ble (zEV (cl c)).size=true:=by kernel_rfl)(h5:ble (zEV (cl c)).size (0+m)=true:=by kernel_rfl):W P H f nt c e lg K:=zAl m (zAR h h5) h1 h2 h3 h4
abbrev zs(F:LI)(i k:Nat):PV:=int IntKind.i64 ((F.set i (i:Int)).getD k 0)
abbrev z8(i:Nat):PV:=int IntKind.i64 ((replicate 8 (0:Int)).getD i 0)
end Go.Eng
