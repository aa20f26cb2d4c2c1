/- No cry at a stand that is offered mends two of the gaps that are apart, so that there are never more of them than further cries are needed; each other gap is mended by a cry that mends one of them; a gap is stuck just if none of these stands is jM near enough to its jN; and with all stands none is; for every list of numbers, evening and stands. -/
import Derived.Test.YtppbomajegnkeaaGreatPc
import Derived.Test.YtppbomajegnkeaaGreatPa
import Derived.KernelRfl
import Derived.IntWalk
set_option linter.unusedVariables false
set_option linter.unusedSimpArgs false
set_option linter.unusedSectionVars false
open Nat (beq ble blt)
open List (map replicate take drop range length filter)
open Go.Eng.PV (own agg addr func sl bor tup omap bad bool int)
namespace Go.Eng
open Go
section
variable {P:Program} {H:zBg} {w0 w:World} {U Φ0 Φ:Nat->Prop} {nt:Nat} {hv:Hid} {a:Act} {e e':Env} {rv:Nat->Value} {E:Nat->PV} {L:Nat->LN} {o:zAK}
theorem zXV(S:St w0 U Φ0 nt hv a w e Φ rv E L){g:Nat}(hg:zAa<=g){k:PV->PM}{k2:PM}(h:(zR6 (E g) k k2).run o e=some e') :
  k2.run o e=some e'\/∃ e1 rv1 E1,(k (E1 g)).run o e1=some e'/\Worked w0 U Φ0 nt hv a w rv E g e1 rv1 E1:=by
 have hZ:=S.conf.rep g
 have fin:∀ {r:Nat} {pre:zA4} {q root p':PV} (hr:r<zAa) (yJ:(E r).unlock=E r) (hq:zAH (E r) pre=some q) (h1:q.oneCell=true) (hm:zAz (fun _=>some .bad) (E r) pre=some root),
   (E g).oneCell=true->p'.oneCell=true->(∀ nv Li,zA1 w (rv r) (E r) pre=some (nv,q)->Rep w Φ (zBa w rv E) q nv Li->Li.Nodup->∃ Lg,Rep w Φ (zBa w rv E) p' (rv g) Lg/\Lg.Nodup/\∀ b∈Lg,b∈Li) ->
   (k p').run o (e.set r root)=some e'->∃ e1 rv1 E1,(k (E1 g)).run o e1=some e'/\Worked w0 U Φ0 nt hv a w rv E g e1 rv1 E1:=by
  intro r pre q root p' hr yJ hq h1 hm ud jp yX hk;obtain⟨kk1,kk2⟩:=zBU (q' := .bad) rfl rfl hm;obtain⟨nv,Li,g1,g2,g3,g4,g5⟩:=S.taken hg hr yJ hq h1 hm kk1 kk2;obtain⟨Lg,p1,p2,p3⟩:=yX nv Li g1 g2 g3;obtain⟨L',S1,wI⟩:=g5 p' (rv g) Lg p1 p2 (fun b hb=>.inl (p3 b hb));have jb:∀ s,upd rv g (rv g) s=rv s:=fun s=>by
   by_cases hs:s=g
   ·subst hs;rw[zAi]
   ·rw[zAe hs]
  refine⟨_,_,_,by rw[zAi];exact hk,⟨⟨_,_,S1⟩,jb g,fun s _=>jb s,fun s hs hI=>⟨by rw[zAe hI,zAe (by omega)],jb s⟩,?_,?_⟩⟩
  ·rw[zAi,(zBo jp).2,(zBo ud).2]
  ·rw[zAi,(zBo jp).1,(zBo ud).1];rfl
 generalize hE:E g=p at h;rw[hE] at hZ;simp only[zR6] at h;split at h
 ·rename_i r pre z lo n;obtain⟨q,hq,h1⟩:=zBP h;obtain⟨_,hr,⟨b,cap,yK,_⟩,hn⟩:=hZ;split at h1
  ·rename_i sz xs
   cases hc:ble (lo+n) xs.length with
   |false=>rw[hc] at h1;exact .inl h1|true=>
    rw[hc] at h1;simp only[cond_true] at h1;obtain⟨root,hl,hm,h2⟩:=zB3 h1;have yJ:=zBH hl;rw[yJ,<- S.env r hr] at hq;rw[<- S.env r hr] at yJ hm;refine .inr (fin hr yJ hq rfl hm (by rw[hE];rfl) rfl (fun nv Li hf ue y6=>?_) h2);obtain⟨s2,xs2,q1,q2,q3⟩:=hn nv _ (by rw[yJ];exact hf) rfl;cases q1;subst q2;obtain⟨Lg,p1,p2,p3⟩:=zIQ ue (br hc) q3;exact⟨Lg,p1,p3 y6,p2⟩
  ·exact .inl h1
 ·rename_i r pre sh;obtain⟨q,hq,h1⟩:=zBP h;obtain⟨_,hr,b,yK,yd,hn⟩:=hZ;split at h1
  ·rename_i q;obtain⟨root,hl,hm,h2⟩:=zB3 h1;have yJ:=zBH hl;rw[yJ,<- S.env r hr] at hq;rw[<- S.env r hr] at yJ hm;refine .inr (fin hr yJ hq rfl hm (by rw[hE];rfl) rfl (fun nv Li hf ue y6=>?_) h2);refine⟨Li,?_,y6,fun b hb=>hb⟩;have hrp':=ue;obtain⟨x,c,u,L',h3,h4,h5,_⟩:=hrp';have h6:nv=rv g:=by
    rw[yK,h4];have:=hn nv _ (by rw[yJ];exact hf) x (by rw[h4];cases x;simp_all[zBd,zAv]);rw[this]
   rw[<- h6];exact ue
  ·exact .inl h1
 ·rename_i r pre;obtain⟨q,hq,h1⟩:=zBP h;obtain⟨_,hr,⟨b,yK⟩,hn⟩:=hZ;split at h1
  ·rename_i es;obtain⟨root,hl,hm,h2⟩:=zB3 h1;have yJ:=zBH hl;rw[yJ,<- S.env r hr] at hq;rw[<- S.env r hr] at yJ hm;refine .inr (fin hr yJ hq rfl hm (by rw[hE];rfl) rfl (fun nv Li hf ue y6=>⟨Li,?_,y6,fun b hb=>hb⟩) h2);rw[hn nv _ (by rw[yJ];exact hf) _ rfl];exact ue
  ·exact .inl h1
 ·exact .inl h
theorem zNV(S:St w0 U Φ0 nt hv a w e Φ rv E L){g:Nat}(hg:zAa<=g){frz:Bool}{k:PV->PM}(h:(zF6 frz (E g) k).run o e=some e'):∃ e1 rv1 E1,(k (E1 g)).run o e1=some e'/\Worked w0 U Φ0 nt hv a w rv E g e1 rv1 E1:=by
 have iced:(zMp zAk zDi (E g) k).run o e=some e'->∃ e1 rv1 E1,(k (E1 g)).run o e1=some e'/\Worked w0 U Φ0 nt hv a w rv E g e1 rv1 E1:=by
  intro h;obtain⟨e1,Φ1,E1,L1,h1,S1,h2,h3,h4,h5,h6,h7⟩:=zHY (hb:=zAk) hg (by decide) zDi S h;exact⟨e1,rv,E1,h1,⟨⟨_,_,S1⟩,rfl,fun _ _=>rfl,fun s hs hI=>⟨h3 s hs hI,rfl⟩,h6,h7⟩⟩
 simp only[zF6] at h
 cases hc:(frz||(E g).ways.any fun w=>ble zAk w.1) with
 |true=>rw[hc] at h;exact iced h|false=>
  rw[hc] at h;simp only[cond_false] at h;rcases zXV S hg h with h|h
  ·exact iced h
  ·exact h
theorem zLl{frz:Bool}:∀ (ps:List PV) (i:Nat) {k:List PV->PM} {e:Env} {Φ:Nat->Prop} {rv:Nat->Value} {E:Nat->PV} {L:Nat->LN},St w0 U Φ0 nt hv a w e Φ rv E L->(∀ (j:Nat) (p:PV),ps[j]? = some p->E (zAa+i+j)=p)->(zCz frz ps k).run o e=some e' ->
  ∃ e1 Φ1 rv1 E1 L1 qs,(k qs).run o e1=some e'/\St w0 U Φ0 nt hv a w e1 Φ1 rv1 E1 L1/\qs.length=ps.length/\(∀ (j:Nat) (q:PV),qs[j]? = some q->E1 (zAa+i+j)=q/\rv1 (zAa+i+j)=rv (zAa+i+j)) /\
   (∀ s,s<zAa->rv1 s=rv s)/\∀ s,zAa<=s->(s<zAa+i\/zAa+i+ps.length<=s)->E1 s=E s/\rv1 s=rv s
 |[],i,k,e,Φ,rv,E,L,S,hp,h=>⟨e,Φ,rv,E,L,[],h,S,rfl,by simp,fun _ _=>rfl,fun _ _ _=>⟨rfl,rfl⟩⟩
 | p :: ps,i,k,e,Φ,rv,E,L,S,hp,h=>by
  simp only[zCz] at h;have hE:=hp 0 p rfl;simp only[bQ] at hE;rw[<- hE] at h;obtain⟨e1,rv1,E1,h1,W⟩:=zNV S (g:=zAa+i) (by omega) h;obtain⟨Φ1,L1,S1⟩:=W.st;obtain⟨e2,Φ2,rv2,E2,L2,qs,h2,S2,h3,h4,h5,h6⟩:=zLl ps (i+1) S1 (fun j q hq=>by
   rw[(W.rest _ (by omega) (by omega)).1,show zAa+(i+1)+j=zAa+i+(j+1) by omega];exact hp (j+1) q (by simpa using hq)) h1
  refine⟨e2,Φ2,rv2,E2,L2,E1 (zAa+i)::qs,h2,S2,by simp[h3],fun j q hq=>?_,fun s hs=>(h5 s hs).trans (W.low s hs),fun s hs kC=>?_⟩
  ·cases j with
   |zero=>
    simp at hq;subst hq;obtain⟨k1,k2⟩:=h6 (zAa+i) (by omega) (.inl (by omega));simp only[bQ];exact⟨k1,k2.trans W.val⟩
   |succ j=>
    obtain⟨k1,k2⟩:=h4 j q (by simpa using hq);rw[show zAa+(i+1)+j=zAa+i+(j+1) by omega] at k1 k2;exact⟨k1,k2.trans (W.rest _ (by omega) (by omega)).2⟩
  ·obtain⟨k1,k2⟩:=h6 s hs (by simp at kC;omega);obtain⟨k3,k4⟩:=W.rest s hs (by simp at kC;omega);exact⟨k1.trans k3,k2.trans k4⟩
theorem zLb(C:Conf w0 U Φ0 w Φ rv E L):∀ (qs:List PV) (vs:List Value) (i:Nat),vs.length=qs.length->(∀ (j:Nat) (q:PV) (v:Value),qs[j]? = some q->vs[j]? = some v->E (i+j)=q/\rv (i+j)=v) ->
  ∃ Lp,zA8 w Φ (zBa w rv E) qs vs Lp/\Lp.Nodup/\∀ b∈Lp,∃ t,i<=t/\t<i+qs.length/\b∈L t
 |[],vs,i,hl,h=>by
  have:vs=[]:=bq (by simpa using hl);subst this;exact⟨[],⟨rfl,rfl⟩,b8,by simp⟩
 | q :: qs,vs,i,hl,h=>by
  match vs,hl,h with
  | v :: vs,hl,h =>
   obtain⟨h1,h2⟩:=h 0 q v rfl rfl;simp only[bQ] at h1 h2;obtain⟨Lp,k1,k2,k3⟩:=zLb C qs vs (i+1) (by simpa using hl) fun j q' v' hq hv=>by
    rw[show i+1+j=i+(j+1) by omega];exact h (j+1) q' v' (by simpa using hq) (by simpa using hv)
   have hr:=C.rep i;rw[h1,h2] at hr;refine⟨L i++Lp,⟨v,vs,_,_,rfl,rfl,hr,k1⟩,?_,fun b hb=>?_⟩
   ·rw[bK];refine⟨C.nodup i,k2,fun x hx y hy e=>?_⟩;obtain⟨t,k4,k5,k6⟩:=k3 y hy;exact C.disj i t (by omega) x hx (e▸k6)
   ·rcases bj.1 hb with hb|hb
    ·exact⟨i,bf _,by simp,hb⟩
    ·obtain⟨t,k4,k5,k6⟩:=k3 b hb;exact⟨t,by omega,by simp;omega,k6⟩
theorem zNJ(S:St w0 U Φ0 nt hv a w e Φ rv E L){j g:Nat}(hj:j<1000)(hg:zAa<=g)(hb:∀ s,zAa<=s->s≠g->E s = .bad){k:PM}(h:(lay (zAF+j) (E g) k).run o e=some e') :
  ∃ e1 E1 L1,k.run o e1=some e'/\St w0 U Φ0 nt hv a w e1 Φ (upd rv (zAF+j) (rv g)) E1 L1/\zBs E1:=by
 have hh:zAk=50000000:=rfl;have ho:zAF=60000000:=rfl;have ve:zAa=1000000000:=rfl;have jl:=S.small;obtain⟨e1,E1,L1,h1,C,h2,h3,h4,h5,h6⟩:=zRF S (d:=zAF+j) (by omega) hg h;have uq:∀ d ps,d≠zAF+j->d<zAa->E1 d = .tup ps->∃ ps',E d = .tup ps'/\ps'.length=ps.length:=by
  intro d ps hd uy hp;rcases h3 d hd uy with h7|h7
  ·exact⟨ps,by rw[<- h7,hp],rfl⟩
  ·rw[h7] at hp;exact zEh (zI1 _ _) hp
 refine⟨e1,E1,L1,h1,⟨C,h2,S.size,S.small,fun t ht=>?_,fun d ps i hd hp hi=>?_,fun s h7 h8=>?_,S.dfr⟩,fun s hs=>?_⟩
 ·rw[zAe (by omega)];exact S.tmps t ht
 ·obtain⟨ps',h7,h8⟩:=uq d ps (by omega) (by omega) hp;obtain⟨h9,vs,jZ,vX⟩:=S.parts d ps' i hd h7 (by omega);refine⟨h9,vs,by rw[zAe (by omega)];exact jZ,?_⟩;rw[zAe (by simp only[zBy];omega)];exact vX
 ·rw[zAe (by omega)];exact S.hid s h7 h8
 ·by_cases yk:s=g
  ·subst yk;exact h5
  ·rcases h6 s hs yk with h7|h7
   ·rw[h7];exact hb s hs yk
   ·rw[h7,hb s hs yk];rfl
theorem zY6(S:St w0 U Φ0 nt hv a w e Φ rv E L)(hb:zBs E){frz:Bool}{j:Nat}(hj:j<1000){p:PV}{v:Value}(hp:Rep w Φ (zBa w rv E) p v []){k:PM}(h:(zG1 frz p fun q=>lay (zAF+j) q k).run o e=some e') :
  ∃ e1 Φ1 rv1 E1 L1,k.run o e1=some e'/\St w0 U Φ0 nt hv a w e1 Φ1 rv1 E1 L1/\zBs E1/\rv1 (zAF+j)=v/\∀ s,s<zAa->s≠zAF+j->rv1 s=rv s:=by
 have ho:zAF=60000000:=rfl;have ve:zAa=1000000000:=rfl;have single:(zF6 frz p fun q=>lay (zAF+j) q k).run o e=some e'->∃ e1 Φ1 rv1 E1 L1,k.run o e1=some e'/\St w0 U Φ0 nt hv a w e1 Φ1 rv1 E1 L1/\zBs E1/\rv1 (zAF+j)=v/\∀ s,s<zAa->s≠zAF+j->rv1 s=rv s:=by
  intro h;have S1:=S.hold (g:=zAa) (bf _) hp;obtain⟨e1,rv1,E1,h1,W⟩:=zNV S1 (g:=zAa) (bf _) (by rw[zAi];exact h);obtain⟨Φ1,L1,S2⟩:=W.st;obtain⟨e2,E2,L2,h2,S3,gJ⟩:=zNJ S2 hj (bf zAa) (fun s hs hI=>by rw[(W.rest s hs hI).1,zAe hI];exact hb s hs) h1;refine⟨e2,Φ1,_,E2,L2,h2,S3,gJ,?_,fun s hs hI=>?_⟩
  ·rw[zAi,W.val,zAi]
  ·rw[zAe hI,W.low s hs,zAe (by omega)]
 simp only[zG1] at h;split at h
 ·rename_i cs;obtain⟨vs,rfl,hr⟩:=hp;obtain⟨rv1,E1,L1,S1,k1,k2,k3⟩:=zL8 cs vs.toList 1 S hr;have yN:=hr.length;have y8:∀ (j:Nat) (p:PV),cs[j]? = some p->∃ v,vs.toList[j]? = some v:=fun j p hj=>⟨_,bl (by have:=(bg.1 hj).1;omega)⟩;obtain⟨e2,Φ2,rv2,E2,L2,qs,h2,S2,h3,h4,h5,h6⟩:=zLl cs 1 S1 (fun j p gU=>by
   obtain⟨v,yK⟩:=y8 j p gU;exact(k2 j p v gU yK).1) h
  have v7:∀ s,zAa<=s->(s<zAa+1\/zAa+1+cs.length<=s)->E2 s = .bad:=fun s hs kC=>by
   rw[(h6 s hs kC).1,(k3 s hs kC).1];exact hb s hs
  have LK:∀ (j:Nat) (q:PV) (v:Value),qs[j]? = some q->vs.toList[j]? = some v->E2 (zAa+1+j)=q/\rv2 (zAa+1+j)=v:=fun j q v hq yK=>by
   obtain⟨m1,m2⟩:=h4 j q hq;have y9:j<cs.length:=by have:=(bg.1 hq).1;omega
   have:=k2 j _ v (bl y9) yK;exact⟨m1,m2.trans this.2.1⟩
  obtain⟨Lp,r1,r2,r3⟩:=zLb S2.conf qs vs.toList (zAa+1) (by omega) LK;have hG:∀ s,decide (zAa+1<=s/\s<zAa+1+cs.length)=true↔zAa+1<=s/\s<zAa+1+cs.length:=fun s=>decide_eq_true_iff
  have hc:=S2.conf.make (w':=w) (fun s=>decide (zAa+1<=s/\s<zAa+1+cs.length)) (fun s hs=>by have:=(hG s).1 hs;omega) (g:=zAa) (bf _) (p := .agg qs) (v := .agg vs) (Lp:=Lp)
   (fun A hA=>⟨vs,rfl,r1.mono zDq.refl hA (fun _ _=>rfl)⟩) r2 (fun b hb=>by
    obtain⟨t,q1,q2,q3⟩:=r3 b hb;exact .inl ⟨t,q3,(hG t).2 ⟨q1,by omega⟩⟩) (bf _) (fun _ _ _=>rfl) ⟨rfl,rfl,rfl⟩
  have jB:∀ s,s<zAa->decide (zAa+1<=s/\s<zAa+1+cs.length)=false:=fun s hs=>decide_eq_false (by omega);have S3:=S2.turn (e':=e2) hc (fun s hs=>by
   rw[zAe (by omega)];simp only[jB s hs,bp,if_false];exact S2.env s hs) (fun s hs=>zAe (by omega)) (fun d ps hd hp=>by
   rw[zAe (by omega)] at hp;simp only[jB d (by omega),bp,if_false] at hp;exact⟨ps,hp,rfl⟩)
  obtain⟨e4,E4,L4,m1,S4,m2⟩:=zNJ S3 hj (bf zAa) (fun s hs hI=>by
   rw[zAe hI];by_cases h7:s<zAa+1+cs.length
   ·simp only[(hG s).2 ⟨by omega,h7⟩,if_true]
   ·have:decide (zAa+1<=s/\s<zAa+1+cs.length)=false:=decide_eq_false (by omega);simp only[this,bp,if_false];exact v7 s hs (by omega)) (by rw[zAi];exact h2)
  refine⟨e4,Φ2,_,E4,L4,m1,S4,m2,?_,fun s hs hI=>?_⟩
  ·rw[zAi,zAi]
  ·rw[zAe hI,zAe (by omega),h5 s hs,(k1 s hs).2]
 ·exact single h
def zYV(nt:Nat):ResultVar->Bool
 |.tmp t=>blt t nt|.cell t _=>blt t nt
def zHA(a:Act):ResultVar->Sem Value
 |.tmp t=>pure (a.tmps.getD t undef)|.cell t ty=>do loadVar ty (<- asAddr (a.tmps.getD t undef))
theorem zNs{frz:Bool}:∀ (rs:List ResultVar) (j:Nat) {e:Env} {Φ:Nat->Prop} {rv:Nat->Value} {E:Nat->PV} {L:Nat->LN},St w0 U Φ0 nt hv a w e Φ rv E L->zBs E->j+rs.length<=1000->(∀ x∈rs,zYV nt x=true)->(zCT P frz j rs).run o e=some e' ->
  ∃ Φ1 rv1 E1 L1,St w0 U Φ0 nt hv a w e' Φ1 rv1 E1 L1/\zBs E1/\(∀ s,s<zAF+j->rv1 s=rv s)/\∀ (i:Nat) (x:ResultVar),rs[i]? = some x->(zHA a x).run P w = .ok (rv1 (zAF+j+i)) w
 |[],j,e,Φ,rv,E,L,S,hb,hj,hr,h=>by
  simp only[zCT,PM.run,ba] at h;subst h;exact⟨Φ,rv,E,L,S,hb,fun _ _=>rfl,by simp⟩
 | x :: rs,j,e,Φ,rv,E,L,S,hb,hj,hr,h=>by
  have ho:zAF=60000000:=rfl;have ve:zAa=1000000000:=rfl;simp only[bD] at hj;have hx:=hr x (by simp)
  have fin:∀ {p:PV} {v:Value},Rep w Φ (zBa w rv E) p v []->(zHA a x).run P w = .ok v w->(zG1 frz p fun q=>lay (zAF+j) q (zCT P frz (j+1) rs)).run o e=some e' ->
    ∃ Φ1 rv1 E1 L1,St w0 U Φ0 nt hv a w e' Φ1 rv1 E1 L1/\zBs E1/\(∀ s,s<zAF+j->rv1 s=rv s)/\∀ (i:Nat) (y:ResultVar),(x::rs)[i]? = some y->(zHA a y).run P w = .ok (rv1 (zAF+j+i)) w:=by
   intro p v hp yK h;obtain⟨e1,Φ1,rv1,E1,L1,h1,S1,ya,h2,h3⟩:=zY6 S hb (by omega) hp h;obtain⟨Φ2,rv2,E2,L2,S2,j0,h4,h5⟩:=zNs rs (j+1) S1 ya (by omega) (fun y hy=>hr y (by simp[hy])) h1;refine⟨Φ2,rv2,E2,L2,S2,j0,fun s hs=>(h4 s (by omega)).trans (h3 s (by omega) (by omega)),fun i y hy=>?_⟩
   cases i with
   |zero=>
    simp at hy;subst hy;rw[bQ,h4 _ (by omega),h2];exact yK
   |succ i=>
    rw[show zAF+j+(i+1)=zAF+(j+1)+i by omega];exact h5 i y (by simpa using hy)
  cases x with
  |tmp t=>
   have uW:t<nt:=zCe hx;have yr:t<zAa:=bI uW (bB S.small (by decide));simp only[zCT,PM.run] at h;rw[<- S.env t yr] at h;exact fin (S.conf.view yr) (by simp only[zHA,bA];rw[S.tmps t uW]) h
  |cell t ty=>
   have uW:t<nt:=zCe hx;have yr:t<zAa:=bI uW (bB S.small (by decide));simp only[zCT] at h;obtain⟨sh,jg,h1⟩:=zBJ h;simp only[PM.run] at h1;rw[<- S.env t yr] at h1;have yK:=S.conf.view yr;split at h1
   ·rename_i r pre i c s' uo;rw[uo] at yK;obtain⟨b,u,q,q1,q2,q3,q4⟩:=zMx (P:=P) S jg yK h1;exact fin q4 (by simp only[zHA,bo];rw[S.tmps t uW,q1];simp[asAddr,q2]) q3
   ·cases h1
end
end Go.Eng
namespace Go.Eng
open Go
def zXG(P:Program)(fn:Func):Bool :=
 match fn.body with
 |none=>true|some c=>zCP P fn.ntmps c&&fn.results.toList.all (zYV fn.ntmps)&&ble fn.ntmps 2000000&&ble fn.results.size 1000
section
variable {P:Program} {H:zBg} {w:World} {orc:zAK} {yo:zCU}
theorem zKo{α β:Type}{f:α->Sem β}:∀ (l:List α) (vs:List β),l.length=vs.length->(∀ (i:Nat) (x:α) (v:β),l[i]? = some x->vs[i]? = some v->(f x).run P w = .ok v w)->(l.mapM f).run P w = .ok vs w
 |[],[],_,_=>rfl|[],_::_,h,_=>by cases h|_::_,[],h,_=>by cases h|x::l,v::vs,h,hf=>by
  simp only[f8,bo,hf 0 x v rfl rfl,bh,zKo l vs (by simpa using h) (fun i y u hy hu=>hf (i+1) y u (by simpa using hy) (by simpa using hu)),bA]
theorem zO2{fn:Func}{a:Act}{vs:List Value}(hl:fn.results.size=vs.length)(h:∀ (i:Nat) (x:ResultVar) (v:Value),fn.results.toList[i]? = some x->vs[i]? = some v->(zHA a x).run P w = .ok v w) :
  (results fn a.tmps).run P w = .ok (if h:vs.toArray.size=1 then vs.toArray[0] else .tuple vs.toArray) w:=by
 have h1:=zKo (P:=P) (w:=w) (f:=zHA a) fn.results.toList vs (by simpa using hl) h;have h2:(fn.results.mapM (zHA a)).run P w = .ok vs.toArray w:=by
  rw[im];simp only[Sem.run_map,h1,bh]
 have h3:(fun|.tmp t=>pure (a.tmps.getD t undef)|.cell t ty=>do loadVar ty (<- asAddr (a.tmps.getD t undef)):ResultVar->Sem Value)=zHA a:=by
  funext x;cases x<;>rfl
 simp only[results,bo];have h4:(fn.results.mapM (fun|.tmp t=>pure (a.tmps.getD t undef)|.cell t ty=>do loadVar ty (<- asAddr (a.tmps.getD t undef)):ResultVar->Sem Value)).run P w = .ok vs.toArray w:=by rw[h3];exact h2
 erw [h4]
 rfl
theorem zKv{fn:Func}{tmps:Array Value}{R:Ending->World->Prop}:∀ (ds:List Deferred) (w:World),(∀ d∈ds,∃ D,d.target = .collected D/\w.heap[D]? = some (.deferred (some [])))->ds.Pairwise (fun d d'=>∀ D D',d.target = .collected D->d'.target = .collected D'->D≠D') ->
  (∀ w',w'.heap.size=w.heap.size->(∀ b,(∀ d∈ds,d.target ≠ .collected b)->w'.heap[b]? = w.heap[b]?)->(w'.os=w.os/\w'.tape=w.tape/\w'.output=w.output)->LeavesIn (FF none) 0 P fn tmps R [] .returning w')->LeavesInM (FF none) 0 P fn tmps R ds .returning w
 |[],w,_,_,h=>h w rfl (fun _ _=>rfl) ⟨rfl,rfl,rfl⟩
 |d :: ds,w,h1,h2,h=>by
  obtain⟨D,q1,q2⟩:=h1 d (by simp);obtain⟨p1,p2⟩:=cL.1 h2;refine⟨by simp,.inl ⟨D,_,q1,run_takeDeferred q2,zKv ds _ (fun d' hd=>?_) p2 fun w' g1 g2 g3=>?_⟩⟩
  ·obtain⟨D',r1,r2⟩:=h1 d' (by simp[hd]);exact⟨D',r1,(World.putObj_heap_other (dK (p1 d' hd D D' q1 r1))).trans r2⟩
  ·refine h w' (g1.trans (by simp)) (fun b hb=>(g2 b fun d' hd=>hb d' (by simp[hd])).trans (World.putObj_heap_other fun e=>hb d (by simp) (e▸q1))) g3
theorem zWR (zFd:P.follows .mixedOrders=true) (jD:zGx P orc) (hnm:zET P) (gS:zNQ P yo) {f:FuncId} {fn:Func} {body:Code} {n:Nat} {args hid hX:List PV} {v:PV} (hf:P.funcs[f]? = some fn) (y4:fn.body=some body) (hwf:zXG P fn=true) (h:zJp P H orc yo zCb n f fn body args hid=some (v,hX)) :
    Means P f args hid v hX:=by
  have ho:zAF=60000000:=rfl;have hh:zAk=50000000:=rfl;have ve:zAa=1000000000:=rfl;simp only[zXG,y4,bb] at hwf;obtain⟨⟨⟨jR,yi⟩,ul⟩,jW⟩:=hwf;have ul:=br ul;have jW:=br jW;simp only[zJp] at h
  cases hc:(ble args.length fn.ntmps&&ble hid.length 1000&&args.all fun p=>!p.isTup) with
  |false=>rw[hc] at h;cases h
  | true =>
    rw[hc] at h;simp only[cond_true] at h;simp only[bb] at hc;obtain⟨⟨yP,uk⟩,uq⟩:=hc;have yP:=br yP;have uk:=br uk
    have key : ∀ x e1,exec P H orc yo zCb fn.ntmps (H f) n body (zBf args hid) none=some (x,e1,none)->(x = .norm\/x = .ret)->∀ e',(zCT P (H f).frz 0 fn.results.toList).run orc e1=some e' ->
        (bif beq fn.results.size 1&&(e'.get zAF).isTup then none else some (zWQ e' fn.results.size,(range hid.length).map fun j=>e'.get (zAk+j)))=some (v,hX)->Means P f args hid v hX:=by
      intro x e1 hx LI e' wd yq w Φ rv E L vs hE ko C yI yn jc;refine callsIn_wide.1 (callsIn_of_wp_marks (n:=0) hf y4 trivial ?_);have hntm:vs.size+(fn.ntmps-vs.size)=fn.ntmps:=by omega
      have S:St w (fun b=>∃ s,b∈L s) Φ fn.ntmps ⟨rv,[]⟩ {tmps:=vs++Array.replicate (fn.ntmps-vs.size) undef,defers:=[]} w (zBf args hid) Φ rv E L:=by
        refine⟨C,hE,by simp;omega,ul,fun t ht=>?_,fun d ps i hd hp hi=>?_,fun _ _ _=>rfl,rfl⟩
        · simp only[db,Array.getElem?_append];by_cases h1:t<vs.size
          · rw[if_pos h1,yn t (by omega)];rfl
          · rw[if_neg h1,iA,if_pos (by omega),jc t (by omega) (by omega)];rfl
        · rw[hE d (by omega),zDm (by omega)] at hp;split at hp
          · rename_i wD;have:(args.getD d .bad)∈args:=by
              simp only[List.getD,bl wD,dd];exact cM wD
            have:=bi.1 uq _ this;rw[hp] at this;cases this
          · split at hp
            · omega
            · cases hp
      have hw:=zIa (zZm jD hnm) zFd n body (.inr (zY2 zFd jD hnm gS)) jR (fun _ _=>trivial) rfl (⟨rfl,w,_,Φ,[],Rel.refl,⟨fun _ h=>(by cases h),.nil⟩,Φ,rv,E,L,S,ko⟩:GB w (fun b=>∃ s,b∈L s) Φ fn.ntmps rv _ w _ none) hx;refine wpIn_mono hw fun ex a' w1 ⟨qA,_,wz,Uz,Φz,ds,qg,vg,Φ1,rv1,E1,L1,Sz,ya⟩=>?_
      have ut:LeavesInM (FF none) 0 P fn a'.tmps (fun e w'=>∃ u Φ' rv' E' L',e = .returned u/\Conf w (fun b=>∃ s,b∈L s) Φ w' Φ' rv' E' L'/\hX.length=hid.length /\
          (∀ j,j<hid.length->E' (zAk+j)=hX.getD j .bad/\rv' (zAk+j)=rv (zAk+j))/\Gave v u rv' E') a'.defers .returning w1:=by
       rw[Sz.dfr];have vl:∀ d∈ds,∀ D,d.target = .collected D->(∀ s,D∉L1 s)/\¬ Φ1 D/\w.heap.size<=D:=by
         intro d hd D hD;obtain⟨D',q1,q0,q2,q3,q4,q5⟩:=vg.each d hd;rw[q1] at hD;cases hD;refine⟨fun s hs=>?_,fun h=>?_,q0⟩
         · rcases(Sz.conf.own s D hs).2.2 with h|h
           · exact q4 h
           · omega
         · rcases(Sz.conf.frz D h).2 with h|h|h
           · exact q5 h
           · exact q4 h
           · omega
       refine zKv ds w1 (fun d hd=>?_) vg.apart fun w' m1 m2 m3=>?_
       · obtain⟨D,q1,_,q2,q3,q4,_⟩:=vg.each d hd;exact⟨D,q1,(Sz.conf.kept D q2 q4).trans q3⟩
       have C1:Conf w (fun b=>∃ s,b∈L s) Φ w' Φ1 rv1 E1 L1:=(Sz.conf.rebase qg).moved (by omega) (fun s b hb=>m2 b fun d hd h=>(vl d hd b h).1 s hb) (fun b hb=>m2 b fun d hd h=>(vl d hd b h).2.1 hb) (fun b hb _=>m2 b fun d hd h=>by have:=(vl d hd b h).2.2;omega) m3;have S1:St w (fun b=>∃ s,b∈L s) Φ fn.ntmps ⟨rv,ds⟩ a' w' e1 Φ1 rv1 E1 L1:=Sz.with C1;obtain⟨Φ2,rv2,E2,L2,S2,j0,_,h3⟩:=zNs fn.results.toList 0 S1 ya (by simpa using jW) (fun y hy=>bi.1 yi y hy) wd
       let us:List Value:=(range fn.results.size).map fun i=>rv2 (zAF+i)
       have yC:=zO2 (P:=P) (w:=w') (fn:=fn) (a:=a') (vs:=us) (by simp[us]) (fun i y u hy hu=>by
         have:=h3 i y hy;rw[bQ] at this;rw[this];have hi:i<fn.results.size:=by have:=(bg.1 hy).1;simpa using this
         simp only[us,cH,List.getElem?_range hi,bv,ba] at hu;rw[hu])
       refine⟨_,yC,_,Φ2,rv2,E2,L2,rfl,S2.conf,?_⟩;have hv:v=zWQ e' fn.results.size/\hX=(range hid.length).map fun j=>e'.get (zAk+j):=by
         revert yq
         cases (beq fn.results.size 1&&(e'.get zAF).isTup) with
         |true=>intro h;cases h|false=>intro h;simp only[cond_false,ba,bz] at h;exact⟨h.1.symm,h.2.symm⟩
       obtain⟨u6,kZ⟩:=hv;refine⟨by rw[kZ];simp,fun j hj=>⟨?_,S2.hid _ (by omega) (by omega)⟩,?_⟩
       · rw[S2.env _ (by omega),kZ];simp[List.getD,hj]
       · by_cases h1:fn.results.size=1
         · have ul:(e'.get zAF).isTup=false:=by
             revert yq
             cases hb:(e'.get zAF).isTup with
             |true=>simp[h1]|false=>intro _;rfl
           have qk:v=e'.get zAF:=by rw[u6,zWQ,if_pos h1]
           have wT:us=[rv2 zAF]:=by simp only[us,h1];rfl
           refine⟨fun _=>⟨by rw[S2.env _ (by omega),qk],?_⟩,fun ps yg=>?_⟩
           · rw[wT];rfl
           · rw[qk] at yg;rw[yg] at ul;cases ul
         · have qk:v = .tup ((range fn.results.size).map fun j=>e'.get (zAF+j)):=by rw[u6,zWQ,if_neg h1]
           refine⟨fun h=>absurd qk (h _),fun ps yg=>?_⟩;rw[qk] at yg;simp only[PV.tup.injEq] at yg;subst yg;refine⟨us.toArray,?_,by simp[us],fun j p hj=>?_⟩
           · rw[dif_neg (by simpa[us] using h1)]
           · simp only[cH] at hj
             cases hr:(range fn.results.size)[j]? with
             |none=>rw[hr] at hj;cases hj
             | some k =>
               rw[hr] at hj;simp only[bv,ba] at hj;obtain⟨jY,qH⟩:=bg.1 hr;simp only[ie] at qH;subst qH;simp only[ig] at jY;exact⟨by rw[S2.env _ (by omega)];exact hj,by simp[us,jY]⟩
      subst qA;rcases LI with rfl|rfl<;>exact ut
    revert h
    cases hx:exec P H orc yo zCb fn.ntmps (H f) n body (zBf args hid) none with
    |none=>intro h;cases h
    | some r =>
      obtain⟨x,e1,lg⟩:=r;intro h
      cases x with
      |ex id=>cases lg<;>cases h
      | norm =>
        cases lg with
        |some g=>cases h
        | none =>
          cases wd:(zCT P (H f).frz 0 fn.results.toList).run orc e1 with
          |none=>simp only[wd] at h;cases h|some e'=>simp only[wd] at h;exact key .norm e1 hx (.inl rfl) e' wd h
      | ret =>
        cases lg with
        |some g=>cases h
        | none =>
          cases wd:(zCT P (H f).frz 0 fn.results.toList).run orc e1 with
          |none=>simp only[wd] at h;cases h|some e'=>simp only[wd] at h;exact key .ret e1 hx (.inr rfl) e' wd h
def zEX(P:Program)(H:zBg):Prop:=∀ (f:FuncId) (fn:Func) (args hid:List PV) (v:PV) (hX:List PV),P.funcs[f]? = some fn->(H f).intr≠0->intrin P fn (H f).intr args hid=some (v,hX)->Callable P f/\Means P f args hid v hX
def Fit(P:Program)(H:zBg):Prop:=∀ (f:FuncId) (fn:Func),P.funcs[f]? = some fn->(H f).intr=0->zXG P fn=true
def zWh(P:Program)(g:FuncId)(first:List PV)(i:Nat)(caps:List PV)(k:Int)(plan:List (List PV)):Prop :=
  ∀ (J:List (List PV)->World->(Nat->Prop)->Prop) (Jx:World->Prop) (Ψ:Nat->Prop),Client P i plan k Ψ J Jx->∀ (w:World) (Φ:Nat->Prop) (rv:Nat->Value) (E:Nat->PV) (L:Nat->LN) (vs:Array Value) (B:Nat->Prop),
   (∀ s,s<zAa->E s=(zBf (first++PV.yld i::caps) []).get s)->(∀ s,zAa<=s->E s = .bad)->Conf w (fun b=>∃ s,b∈L s) Φ w Φ rv E L->vs.size=(first++PV.yld i::caps).length->(∀ j,j<(first++PV.yld i::caps).length->vs[j]? = some (rv j)) ->
   (∀ s,(first++PV.yld i::caps).length<=s->s<zAk->rv s=undef)->J [] w B->(∀ b,B b->∀ s,b∉L s)->(∀ b,Φ b->Ψ b\/¬ B b) ->
   CallsIn (FF none) 0 P g vs w fun en w'=>(∃ v,en = .returned v)/\((k-plan.length≠0/\∃ B',J plan w' B')\/(k-plan.length=0/\Jx w'))
theorem zQU(zFd:P.follows .mixedOrders=true)(jD:zGx P orc)(hnm:zET P)(zM4:Fit P H){n:Nat}{g:FuncId}{first caps:List PV}{i:Nat}{k:Int}{plan:List (List PV)}(h:zZe P H orc yo zCb n g first i caps k=some plan):Callable P g/\(first++PV.yld i::caps).length<=zAk/\zWh P g first i caps k plan:=by
 have hh:zAk=50000000:=rfl;simp only[zZe] at h;split at h
 ·rename_i fn hf;split at h
  ·rename_i body y4;rcases zBn h with⟨hc,h⟩|⟨_,h⟩
   ·simp only[bb] at hc;obtain⟨⟨⟨⟨h1,h2⟩,h3⟩,h4⟩,hint⟩:=hc;have hint:=bd hint;have h1:=br h1;have hwf:=zM4 g fn hf hint;simp only[zXG,y4,bb] at hwf;obtain⟨⟨⟨jR,yi⟩,ul⟩,jW⟩:=hwf;have ul:=br ul;have uq:(first++PV.yld i::caps).all (fun p=>!p.isTup)=true:=by
     rw[fB,cF,bb] ;rw[fB,bb] at h3;exact⟨h3.1,by rw[h3.2];rfl⟩
    have hk:k≠0:=by simpa using h4
    refine⟨⟨fn,hf,by rw[y4];rfl⟩,by omega,?_⟩;have key:∀ {x:X} {e1:Env} {l:Log},exec P H orc yo zCb fn.ntmps (H g) n body (zBf (first++PV.yld i::caps) []) (some ⟨[],k,i⟩)=some (x,e1,some l)->(x = .norm\/x = .ret)->l.xs=plan->zWh P g first i caps k plan:=fun hx LI hg J Jx Ψ hC w Φ rv E L vs B hE ko C yI yn jc hJ hBL hBΦ=>
     zWD zFd jD hnm hC hf y4 jR ul h1 uq h2 hx LI hg hk hE ko C yI yn jc hJ hBL hBΦ
    split at h
    ·rename_i e1 l hx;simp only[ba] at h;exact key hx (.inl rfl) h
    ·rename_i e1 l hx;simp only[ba] at h;exact key hx (.inr rfl) h
    ·cases h
   ·cases h
  ·cases h
 ·cases h
theorem zFo[Yo](zFd:P.follows .mixedOrders=true)(hnm:zET P)(zM4:Fit P H)(hin:zEX P H)(gS:zNQ P Yo.yo):∀ n,zGx P (zCZ P H n)
 |0=>by intro f args hid v hX h;cases h
 | n + 1 => by
  have jD:=zFo zFd hnm zM4 hin gS n;intro f args hid v hX h;have h:zGX P H (zCZ P H n) Yo.yo zCb (n+1) f args hid=some (v,hX):=h;simp only[zGX] at h;split at h
  ·rename_i fn hf;split at h
   ·rename_i hi;exact hin f fn args hid v hX hf hi h
   ·rename_i hi;split at h
    ·rename_i body y4;exact⟨⟨fn,hf,by rw[y4];rfl⟩,zWR zFd jD hnm gS hf y4 (zM4 f fn hf (by simpa using hi)) h⟩
    ·cases h
  ·cases h
abbrev yo0:Yo:=⟨fun _ _ _ _ _=>none⟩
noncomputable def zUu(P:Program)(H:zBg)(n:Nat):zCU:=fun g first i caps k=>zZe P H (@zCZ P H yo0 n) yo0.yo zCb (n+1) g first i caps k
open Classical in
noncomputable def zYM(P:Program)(H:zBg):zCU:=fun g first i caps k=>if h:∃ xs n0,∀ n,n0<=n->zUu P H n g first i caps k=some xs then some (Classical.choose h) else none
noncomputable abbrev yo1(P:Program)(H:zBg):Yo:=⟨zYM P H⟩
theorem zXd{g:FuncId}{first:List PV}{i:Nat}{caps:List PV}{k:Int}{xs:List (List PV)}{n0:Nat}(h:∀ n,n0<=n->zUu P H n g first i caps k=some xs):zYM P H g first i caps k=some xs:=by
 have h':∃ xs n0,∀ n,n0<=n->zUu P H n g first i caps k=some xs:=⟨xs,n0,h⟩
 simp only[zYM,dif_pos h'];obtain⟨n1,h1⟩:=fj h';have h2:=h1 (max n0 n1) (by omega);rw[h (max n0 n1) (by omega)] at h2;exact h2.symm
theorem zRk(zFd:P.follows .mixedOrders=true)(hnm:zET P)(zM4:Fit P H)(hin:zEX P H):zNQ P (zYM P H):=by
 intro g first i caps k plan h
 simp only[zYM] at h;split at h
 ·rename_i h';simp only[ba] at h;subst h;obtain⟨n1,h1⟩:=fj h';exact zQU zFd (@zFo P H yo0 zFd hnm zM4 hin (fun g first i caps k plan h=>by cases h) n1) hnm zM4 (h1 n1 (by omega))
 ·cases h
end
end Go.Eng
namespace Go.Eng
open Go
def zIo:zAK:=fun _ _ _=>none
def zYe:zCU:=fun _ _ _ _ _=>none
def zHI:All:=fun _=>none
theorem zGP{o:zAK}:∀ {p:PM} {e e1:Env},p.run zIo e=some e1->p.run o e=some e1:=by
 intro p
 induction p with
 |ok=>intro e e1 h;exact h|fail=>intro e e1 h;cases h|view s k ih=>intro e e1 h;exact ih _ h|get s k ih=>intro e e1 h;simp only[PM.run] at h ⊢;split at h<;>first|(cases h;done)|exact ih _ h
 |set s q k ih=>intro e e1 h;exact ih h|cells r pre i c n k ih=>intro e e1 h;simp only[PM.run] at h ⊢;split at h<;>first|(cases h;done)|exact ih _ _ h
 |deep r pre k ih=>intro e e1 h;simp only[PM.run] at h ⊢;split at h<;>first|(cases h;done)|exact ih _ h
 |wcells r pre i c qs k ih=>intro e e1 h;simp only[PM.run] at h ⊢;split at h<;>first|(cases h;done)|exact ih h
 | wnode r pre q k ih =>
  intro e e1 h;simp only[PM.run] at h ⊢;rcases zBn h with⟨_,h⟩|⟨hl,h⟩
  ·cases h
  ·rw[hl];simp only[cond_false];split at h
   ·exact ih h
   ·cases h
 |kill r pre k ih=>intro e e1 h;exact ih h|frz r pre k ih=>intro e e1 h;simp only[PM.run] at h ⊢;split at h<;>first|(cases h;done)|exact ih h
 |killEx r pre k ih=>intro e e1 h;exact ih h|forget r k ih=>intro e e1 h;exact ih h|call f args hid k ih=>intro e e1 h;cases h
theorem zAo{α β:Type}{x y:Option α}{f:α->β}{r:β}(h:x.map f=some r)(g:∀ a,x=some a->y=some a):y.map f=some r:=by
 obtain⟨a,h1,h2⟩:=bm.1 h;rw[g a h1];simp[h2]
theorem zIF{o:zAK}:∀ {p:PM} {e:Env} {r:Env×Tok},p.runT zIo e=some r->p.runT o e=some r:=by
 intro p
 induction p with
 |ok=>intro e e1 h;exact h|fail=>intro e e1 h;cases h|view s k ih=>intro e e1 h;exact zAo h fun a h=>ih _ h
 |get s k ih=>intro e e1 h;simp only[PM.runT] at h ⊢;split at h<;>first|(cases h;done)|exact zAo h fun a h=>ih _ h
 |set s q k ih=>intro e e1 h;exact zAo h fun a h=>ih h
 |cells r pre i c n k ih=>intro e e1 h;simp only[PM.runT] at h ⊢;split at h<;>first|(cases h;done)|exact zAo h fun a h=>ih _ _ h
 |deep r pre k ih=>intro e e1 h;simp only[PM.runT] at h ⊢;split at h<;>first|(cases h;done)|exact zAo h fun a h=>ih _ h
 |wcells r pre i c qs k ih=>intro e e1 h;simp only[PM.runT] at h ⊢;split at h<;>first|(cases h;done)|exact zAo h fun a h=>ih h
 | wnode r pre q k ih =>
  intro e e1 h;simp only[PM.runT] at h ⊢;rcases zBn h with⟨_,h⟩|⟨hl,h⟩
  ·cases h
  ·rw[hl];simp only[cond_false];split at h
   ·exact zAo h fun a h=>ih h
   ·cases h
 |kill r pre k ih=>intro e e1 h;exact zAo h fun a h=>ih h
 |frz r pre k ih=>intro e e1 h;simp only[PM.runT] at h ⊢;split at h<;>first|(cases h;done)|exact zAo h fun a h=>ih h
 |killEx r pre k ih=>intro e e1 h;exact zAo h fun a h=>ih h
 |forget r k ih=>intro e e1 h;exact zAo h fun a h=>ih h
 |call f args hid k ih=>intro e e1 h;cases h
section
variable {P:Program} {H:zBg} {o:zAK} {fz tk nl:Bool} {fzs tks:LN} {ops:Array Oper} {nt:Nat} {hh:FHint} {yo:zCU} {al:All}
theorem zIi{x:Oper}{h0:Nat}{args:List PV}{l:Log}{e:Env}{r:Env×Option Log}(h:zB0 zIo ops x h0 args l e=some r):zB0 o ops x h0 args l e=some r:=by
 simp only[zB0] at h ⊢;split at h
 ·rcases zBn h with⟨hc,h⟩|⟨_,h⟩
  ·rw[hc];simp only[cond_true];refine zAo h fun a h=>?_;rcases zBn h with⟨hk,h⟩|⟨hk,h⟩<;>rw[hk]
   ·exact zGP h
   ·exact zGP h
  ·cases h
 ·exact zAo h fun a h=>zGP h
 ·cases h
theorem zT1{x:Oper}{e:Env}{lg:Option Log}{r:Env×Option Log}(h:zCV P H zIo fz tk nl ops x e lg=some r):zCV P H o fz tk nl ops x e lg=some r:=by
 simp only[zCV] at h ⊢;split at h
 ·exact zAo h fun a h=>zGP h
 ·split at h
  ·exact zIi h
  ·exact zAo h fun a h=>zGP h
theorem zMY{x:Oper}{e:Env}{lg:Option Log}{r:Env×Option Log×Tok}(h:zEz P H zIo fz tk nl ops x e lg=some r):zEz P H o fz tk nl ops x e lg=some r:=by
 simp only[zEz] at h ⊢;split at h
 ·exact zAo h fun a h=>zIF h
 ·split at h
  ·exact zAo h fun a h=>zIi h
  ·exact zAo h fun a h=>zIF h
theorem zHt:∀ {l:List Oper} {i:Nat} {e:Env} {lg:Option Log} {r:Env×Option Log},zBh P H zIo fzs tks nl ops l i e lg=some r->zBh P H o fzs tks nl ops l i e lg=some r
 |[],_,_,_,_,h=>h|x::l,i,e,lg,r,h=>by
  simp only[zBh] at h ⊢
  cases hs:zCV P H zIo (fzs.contains i) (tks.contains i) nl ops x e lg with
  |none=>rw[hs] at h;cases h|some q=>rw[hs] at h;rw[zT1 hs];exact zHt h
theorem zKA:∀ {l:List Oper} {i:Nat} {acc:LN} {ts:List Tok} {e:Env} {lg:Option Log} {r:Env×Option Log},zCC P H zIo fzs tks nl ops l i acc ts e lg=some r->zCC P H o fzs tks nl ops l i acc ts e lg=some r
 |[],_,_,_,_,_,_,h=>h
 | x :: l,i,acc,ts,e,lg,r,h=>by
  simp only[zCC] at h ⊢
  cases hs:zEz P H zIo (fzs.contains i) (tks.contains i) nl ops x e lg with
  |none=>rw[hs] at h;cases h|some q=>
   rw[hs] at h;rw[zMY hs];simp only at h ⊢;rcases zBn h with⟨hc,h⟩|⟨_,h⟩
   ·rw[hc];exact zKA h
   ·cases h
theorem zQh:∀ {m:Nat} {c:Code} {e:Env} {lg:Option Log} {r:X×Env×Option Log},exec P H zIo zYe zHI nt hh m c e lg=some r->∀ {m':Nat},m<=m'->exec P H o yo al nt hh m' c e lg=some r
 |0,_,_,_,_,h,_,_=>by cases h
 | m + 1,c,e,lg,r,h,m',hm=>by
  obtain⟨m',rfl⟩:∃ k,m'=k+1:=⟨m'-1,by omega⟩;have ih:∀ {c:Code} {e:Env} {lg:Option Log} {r:X×Env×Option Log},exec P H zIo zYe zHI nt hh m c e lg=some r->exec P H o yo al nt hh m' c e lg=some r:=fun h=>zQh h (by omega)
  cases c with
  | region id ops draw =>
   simp only[exec] at h ⊢;split at h
   ·rename_i e1 lg1 h1;have:(if draw=true then zCC P H o (hh.frzs id) (hh.take id) hh.nils ops ops.toList 0 [] [] e lg else zBh P H o (hh.frzs id) (hh.take id) hh.nils ops ops.toList 0 e lg)=some (e1,lg1):=by
     cases draw with
     |true=>exact zKA h1|false=>exact zHt h1
    rw[this];exact h
   ·cases h
  | seq a b =>
   simp only[exec] at h ⊢
   cases h1:exec P H zIo zYe zHI nt hh m a e lg with
   |none=>rw[h1] at h;cases h|some q=>
    rw[h1] at h;rw[ih h1];obtain⟨x,e1,lg1⟩:=q
    cases x with
    |norm=>exact ih h|ex id=>exact h|ret=>exact h
  | cond c a b =>
   cases c with
   |tmp t=>
    simp only[exec] at h ⊢;revert h
    cases e.get t with
    |bool v=>intro h;cases v<;>exact ih h
    |_=>intro h;cases h
   |const v=>
    simp only[exec] at h ⊢;revert h
    cases v with
    |bool v=>intro h;cases v<;>exact ih h
    |_=>intro h;cases h
   |_=>cases h
  | block id b =>
   simp only[exec] at h ⊢
   cases h1:exec P H zIo zYe zHI nt hh m b e lg with
   |none=>rw[h1] at h;cases h|some q=>
    rw[h1] at h;rw[ih h1];exact h
  | loop b =>
   simp only[exec] at h ⊢
   cases h1:exec P H zIo zYe zHI nt hh m b (e.drop (hh.loopDrop (zA2 b))) lg with
   |none=>rw[h1] at h;cases h|some q=>
    rw[h1] at h;rw[ih h1];obtain⟨x,e1,lg1⟩:=q
    cases x with
    |norm=>exact ih h|ex id=>exact h|ret=>exact h
  |scope b=>exact ih h
  | rangeFunc x ps ca cb =>
   cases x with
   | tmp t =>
    simp only[exec] at h
    cases lg with
    |none=>
     simp only at h;obtain⟨q,h1,_⟩:=bm.1 h;simp only[zHH] at h1;split at h1
     ·cases h1
     ·cases h1
    |some _=>cases h
   |_=>cases h
  |skip=>exact h|exit id=>exact h|ret=>exact h|label l=>exact h|_=>cases h
end
def cl:Code->Code
 |.seq a _=>a|.cond _ a _=>a|.block _ b=>b|.loop b=>b|.scope b=>b|c=>c
def cr:Code->Code
 |.seq _ b=>b|.cond _ _ b=>b|c=>c
def zS4:Code->Bool
 |.seq .. => true|_=>false
def zPh:Code->Bool
 |.loop _=>true|_=>false
def zTN:Code->Bool
 |.scope _=>true|_=>false
def zTz:Code->ON
 |.block n _=>some n|_=>none
def zTG:Code->ON
 |.cond (.tmp t) _ _=>some t|_=>none
def zS9:Code->ON
 |.exit n=>some n|_=>none
def zYW:Code->Bool
 |.ret=>true|_=>false
def zWa:Code->Bool
 |.skip=>true|_=>false
def zVe:Code->Bool
 |.region .. => true|_=>false
def rid:Code->Nat
 |.region n _ _=>n|_=>0
def zE7:Code->Array Oper
 |.region _ o _=>o|_=>#[]
def zMK:Code->Bool
 |.region _ _ d=>d|_=>false
def zEy (c : Code) (i : Nat) : Oper := (zE7 c)[i]?.getD { dst := none, op := .move (.const .nilIface), type := 0, pos := "", after := #[], guard := none }
theorem zUR{c:Code}(h:zS4 c=true):c = .seq (cl c) (cr c):=by cases c<;>first|rfl|cases h
theorem zMN{c:Code}(h:zPh c=true):c = .loop (cl c):=by cases c<;>first|rfl|cases h
theorem zQD{c:Code}(h:zTN c=true):c = .scope (cl c):=by cases c<;>first|rfl|cases h
theorem zUt{c:Code}(h:zYW c=true):c = .ret:=by cases c<;>first|rfl|cases h
theorem zRR{c:Code}(h:zWa c=true):c = .skip:=by cases c<;>first|rfl|cases h
theorem zVJ{c:Code}(h:zVe c=true):c = .region (rid c) (zE7 c) (zMK c):=by cases c<;>first|rfl|cases h
theorem zQ9{c:Code}{n:Nat}(h:zTz c=some n):c = .block n (cl c):=by cases c<;>first|(cases h;rfl)|cases h
theorem zNN{c:Code}{n:Nat}(h:zS9 c=some n):c = .exit n:=by cases c<;>first|(cases h;rfl)|cases h
theorem zQ2{c:Code}{t:Nat}(h:zTG c=some t):c = .cond (.tmp t) (cl c) (cr c):=by
 cases c<;>try (cases h;done)
 rename_i x a b;cases x<;>first|(cases h;rfl)|cases h
section
variable [Yo] (P:Program) (H:zBg)
def zBD(f:FuncId)(args hid:List PV)(v:PV)(hX:List PV):Prop:=∃ n0,∀ n,n0<=n->zCZ P H n f args hid=some (v,hX)
def W(f:FuncId)(nt:Nat)(c:Code)(e:Env)(lg:Option Log)(K:X->Env->Option Log->Prop):Prop :=
 ∃ n0 x e' lg',(∀ n m,n0<=n->n0<=m->exec P H (zCZ P H n) Yo.yo zCb nt (H f) m c e lg=some (x,e',lg'))/\K x e' lg'
def zFG(dr:Option (LN×List Tok))(i:Nat)(o:Oper)(t:Tok):Option (Option (LN×List Tok)) :=
 match dr with
 |none=>some none|some (acc,ts)=>bif o.after.toList.all (fun e=>!Region.binds .any e||blt e.on i)&&zGo (zIc acc o) t 0 ts then some (some (acc++[zIc acc o],ts++[t])) else none
def zXI(orc:zAK)(fzs tks:LN)(nl:Bool)(ops:Array Oper)(dr:Option (LN×List Tok))(l:List Oper)(i:Nat)(e:Env)(lg:Option Log):Option (Env×Option Log) :=
 match dr with
 |none=>zBh P H orc fzs tks nl ops l i e lg|some (acc,ts)=>zCC P H orc fzs tks nl ops l i acc ts e lg
def WR(f:FuncId)(id:Nat)(ops:Array Oper)(dr:Option (LN×List Tok))(i:Nat)(e:Env)(lg:Option Log)(K:Env->Option Log->Prop):Prop :=
 ∃ n0 eN lg',(∀ n,n0<=n->∃ e',zXI P H (zCZ P H n) ((H f).frzs id) ((H f).take id) (H f).nils ops dr (ops.toList.drop i) i e lg=some (e',lg')/\(e'.drop ((H f).drop id)).norm=eN)/\K eN lg'
end
section
variable [Yo] {P:Program} {H:zBg} {f:FuncId} {nt:Nat} {e e':Env} {lg:Option Log} {K:X->Env->Option Log->Prop}
def zZx(P:Program)(H:zBg)(f:FuncId)(nt:Nat)(b:Code)(K:X->Env->Option Log->Prop):X->Env->Option Log->Prop
 |.norm,e,lg=>W P H f nt b e lg K|x,e,lg=>K x e lg
theorem zZL{a b:Code}(h:W P H f nt a e lg (zZx P H f nt b K)):W P H f nt (.seq a b) e lg K:=by
 obtain⟨n0,x,e1,lg1,h1,h2⟩:=h
 cases x with
 |norm=>
  obtain⟨n2,x,e2,lg2,h3,h4⟩:=h2;refine⟨max n0 n2+1,x,e2,lg2,fun n m hn hm=>?_,h4⟩;obtain⟨m,rfl⟩:∃ k,m=k+1:=⟨m-1,by omega⟩;simp only[exec,h1 n m (by omega) (by omega),h3 n m (by omega) (by omega)]
 |ex id=>
  refine⟨n0+1,_,e1,lg1,fun n m hn hm=>?_,h2⟩;obtain⟨m,rfl⟩:∃ k,m=k+1:=⟨m-1,by omega⟩;simp only[exec,h1 n m (by omega) (by omega)]
 |ret=>
  refine⟨n0+1,_,e1,lg1,fun n m hn hm=>?_,h2⟩;obtain⟨m,rfl⟩:∃ k,m=k+1:=⟨m-1,by omega⟩;simp only[exec,h1 n m (by omega) (by omega)]
theorem zU2(m:Nat){c:Code}{x:X}{e1:Env}{lg1:Option Log}(h:exec P H zIo zYe zHI nt (H f) m c e lg=some (x,e1,lg1))(hk:K x e1 lg1):W P H f nt c e lg K :=
 ⟨m,x,e1,lg1,fun _ _ _ hm=>zQh h hm,hk⟩
theorem zR3{c:Code}{K':X->Env->Option Log->Prop}(h:W P H f nt c e lg K)(hk:∀ x e lg,K x e lg->K' x e lg):W P H f nt c e lg K':=by
 obtain⟨n0,x,e1,lg1,h1,h2⟩:=h;exact⟨n0,x,e1,lg1,h1,hk _ _ _ h2⟩
theorem zZz(h:K .ret e lg):W P H f nt .ret e lg K:=zU2 1 rfl h
theorem zZp(h:K .norm e lg):W P H f nt .skip e lg K:=zU2 1 rfl h
theorem zWl{id:Nat}(h:K (.ex id) (zWN ((H f).ices id) e) lg):W P H f nt (.exit id) e lg K:=zU2 1 rfl h
theorem zXW{b:Code}(h:W P H f nt b e lg K):W P H f nt (.scope b) e lg K:=by
 obtain⟨n0,x,e1,lg1,h1,h2⟩:=h;refine⟨n0+1,x,e1,lg1,fun n m hn hm=>?_,h2⟩;obtain⟨m,rfl⟩:∃ k,m=k+1:=⟨m-1,by omega⟩;exact h1 n m (by omega) (by omega)
def Blk(id:Nat)(K:X->Env->Option Log->Prop):X->Env->Option Log->Prop
 |.ex id',e,lg=>bif beq id' id then K .norm e lg else K (.ex id') e lg|x,e,lg=>K x e lg
theorem zXo{id:Nat}{b:Code}(h:W P H f nt b e lg (Blk id K)):W P H f nt (.block id b) e lg K:=by
 obtain⟨n0,x,e1,lg1,h1,h2⟩:=h
 cases x with
 | ex id' =>
  by_cases hid:id'=id
  ·subst hid;simp only[Blk,cN,cond_true] at h2;refine⟨n0+1,.norm,e1,lg1,fun n m hn hm=>?_,h2⟩;obtain⟨m,rfl⟩:∃ k,m=k+1:=⟨m-1,by omega⟩;simp only[exec,h1 n m (by omega) (by omega),if_true]
  ·have hb:beq id' id=false:=by
    cases hc:beq id' id with
    |false=>rfl|true=>exact(hid (bd hc)).elim
   simp only[Blk,hb,cond_false] at h2;refine⟨n0+1,.ex id',e1,lg1,fun n m hn hm=>?_,h2⟩;obtain⟨m,rfl⟩:∃ k,m=k+1:=⟨m-1,by omega⟩;simp only[exec,h1 n m (by omega) (by omega),if_neg hid]
 |norm=>
  refine⟨n0+1,_,e1,lg1,fun n m hn hm=>?_,h2⟩;obtain⟨m,rfl⟩:∃ k,m=k+1:=⟨m-1,by omega⟩;simp only[exec,h1 n m (by omega) (by omega)]
 |ret=>
  refine⟨n0+1,_,e1,lg1,fun n m hn hm=>?_,h2⟩;obtain⟨m,rfl⟩:∃ k,m=k+1:=⟨m-1,by omega⟩;simp only[exec,h1 n m (by omega) (by omega)]
theorem zY7{t:Nat}{a b:Code}{c:Bool}(ht:e.get t = .bool c)(h1:c=true->W P H f nt a e lg K)(h2:c=false->W P H f nt b e lg K):W P H f nt (.cond (.tmp t) a b) e lg K:=by
 cases c with
 |true=>
  obtain⟨n0,x,e1,lg1,h3,h4⟩:=h1 rfl;refine⟨n0+1,_,_,lg1,fun n m hn hm=>?_,h4⟩;obtain⟨m,rfl⟩:∃ k,m=k+1:=⟨m-1,by omega⟩;simp only[exec,ht];exact h3 n m (by omega) (by omega)
 |false=>
  obtain⟨n0,x,e1,lg1,h3,h4⟩:=h2 rfl;refine⟨n0+1,_,_,lg1,fun n m hn hm=>?_,h4⟩;obtain⟨m,rfl⟩:∃ k,m=k+1:=⟨m-1,by omega⟩;simp only[exec,ht];exact h3 n m (by omega) (by omega)
theorem zYZ{σ:Type}(Inv:σ->Prop)(I:σ->Env)(μ:σ->Nat){b:Code} (h:∀ s,Inv s->W P H f nt b (I s) lg fun x e lg'=>match x with
   |.norm=>∃ s',Inv s'/\μ s'<μ s/\e.drop ((H f).loopDrop (zA2 b))=I s'/\lg'=lg|x=>K x e lg'):∀ (n:Nat) (s:σ) (e:Env),μ s<=n->Inv s->e.drop ((H f).loopDrop (zA2 b))=I s->W P H f nt (.loop b) e lg K:=by
 intro n
 induction n with
 | zero =>
  intro s e hs hi he;obtain⟨n0,x,e1,lg1,h1,h2⟩:=h s hi
  cases x with
  |norm=>obtain⟨s',_,h3,_⟩:=h2;omega
  |ex id=>
   refine⟨n0+1,_,e1,lg1,fun n m hn hm=>?_,h2⟩;obtain⟨m,rfl⟩:∃ k,m=k+1:=⟨m-1,by omega⟩;simp only[exec,he,h1 n m (by omega) (by omega)]
  |ret=>
   refine⟨n0+1,_,e1,lg1,fun n m hn hm=>?_,h2⟩;obtain⟨m,rfl⟩:∃ k,m=k+1:=⟨m-1,by omega⟩;simp only[exec,he,h1 n m (by omega) (by omega)]
 | succ n ih =>
  intro s e hs hi he;obtain⟨n0,x,e1,lg1,h1,h2⟩:=h s hi
  cases x with
  |norm=>
   obtain⟨s',h3,h4,h7,rfl⟩:=h2;obtain⟨n2,x,e2,lg2,h5,h6⟩:=ih s' e1 (by omega) h3 h7;refine⟨max n0 n2+1,x,e2,lg2,fun n m hn hm=>?_,h6⟩;obtain⟨m,rfl⟩:∃ k,m=k+1:=⟨m-1,by omega⟩;simp only[exec,he,h1 n m (by omega) (by omega),h5 n m (by omega) (by omega)]
  |ex id=>
   refine⟨n0+1,_,e1,lg1,fun n m hn hm=>?_,h2⟩;obtain⟨m,rfl⟩:∃ k,m=k+1:=⟨m-1,by omega⟩;simp only[exec,he,h1 n m (by omega) (by omega)]
  |ret=>
   refine⟨n0+1,_,e1,lg1,fun n m hn hm=>?_,h2⟩;obtain⟨m,rfl⟩:∃ k,m=k+1:=⟨m-1,by omega⟩;simp only[exec,he,h1 n m (by omega) (by omega)]
theorem zAc{c:Code}(h:W P H f nt (cl c) e lg (zZx P H f nt (cr c) K))(hc:zS4 c=true:=by kernel_rfl):W P H f nt c e lg K:=by rw[zUR hc];exact zZL h
theorem zAn{c:Code}(h:K .ret e lg)(hc:zYW c=true:=by kernel_rfl):W P H f nt c e lg K:=by rw[zUt hc];exact zZz h
theorem zAh{c:Code}(h:K .norm e lg)(hc:zWa c=true:=by kernel_rfl):W P H f nt c e lg K:=by rw[zRR hc];exact zZp h
theorem zAD{c:Code}(n:Nat)(h:K (.ex n) (zWN ((H f).ices n) e) lg)(hc:zS9 c=some n:=by kernel_rfl):W P H f nt c e lg K:=by rw[zNN hc];exact zWl h
theorem zXD{c:Code}(h:W P H f nt (cl c) e lg K)(hc:zTN c=true:=by kernel_rfl):W P H f nt c e lg K:=by rw[zQD hc];exact zXW h
theorem zAf{c:Code}(n:Nat)(h:W P H f nt (cl c) e lg (Blk n K))(hc:zTz c=some n:=by kernel_rfl):W P H f nt c e lg K:=by rw[zQ9 hc];exact zXo h
def zEN(c:Code)(e:Env):Option Bool :=
 match zTG c with
 |some t=>match e.get t with
  |.bool b=>some b|_=>none
 |none=>none
theorem zEx(b:Bool){c:Code}(h1:b=true->W P H f nt (cl c) e lg K)(h2:b=false->W P H f nt (cr c) e lg K)(hc:zEN c e=some b:=by kernel_rfl):W P H f nt c e lg K:=by
 simp only[zEN] at hc;split at hc
 ·rename_i t ht;rw[zQ2 ht];split at hc
  ·rename_i b' hb;simp only[ba] at hc;subst hc;exact zY7 hb h1 h2
  ·cases hc
 ·cases hc
theorem zCy{c:Code}(h:W P H f nt (cl c) e lg K)(hc:zEN c e=some true:=by kernel_rfl):W P H f nt c e lg K:=zEx true (fun _=>h) (fun h=>by cases h) hc
theorem zAB{c:Code}(h:W P H f nt (cr c) e lg K)(hc:zEN c e=some false:=by kernel_rfl):W P H f nt c e lg K:=zEx false (fun h=>by cases h) (fun _=>h) hc
theorem zYz{σ:Type}{c:Code}(Inv:σ->Prop)(I:σ->Env)(μ:σ->Nat)(s:σ)(hi:Inv s) (h:∀ s,Inv s->W P H f nt (cl c) (I s) lg fun x e lg'=>match x with
   |.norm=>∃ s',Inv s'/\μ s'<μ s/\e.drop ((H f).loopDrop (zA2 (cl c)))=I s'/\lg'=lg|x=>K x e lg') (hs:e.drop ((H f).loopDrop (zA2 (cl c)))=I s:=by kernel_rfl) (hc:zPh c=true:=by kernel_rfl):W P H f nt c e lg K:=by
 rw[zMN hc];exact zYZ Inv I μ h (μ s) s e (bf _) hi hs
def zOC(o:Option Env):Env :=
 match o with
 |some e=>e|none=>[]
structure RS where
 dr:Option (LN×List Tok)
 e:Env
 lg:Option Log
def noY(lg:Option Log)(e:Env)(o:Oper):Bool :=
 match lg with
 |none=>true|some _=>(zCp e o).isNone
def WS(P:Program)(H:zBg)(f:FuncId)(c:Code)(i:Nat)(s:RS)(R:Env->Option Log->Prop):Prop:=WR P H f (rid c) (zE7 c) s.dr i s.e s.lg R
def zXA(P:Program)(H:zBg)(f:FuncId)(c:Code)(i:Nat)(s:RS):Option RS :=
 match zEz P H zIo (((H f).frzs (rid c)).contains i) (((H f).take (rid c)).contains i) (H f).nils (zE7 c) (zEy c i) s.e s.lg with
 |some (e',lg',t)=>(zFG s.dr i (zEy c i) t).map fun dr=>⟨dr,e',lg'⟩
 |none=>none
def zEJ(P:Program)(H:zBg)(f:FuncId)(c:Code):Nat->Nat->RS->Option RS
 |0,_,s=>some s|m+1,i,s=>match zXA P H f c i s with
  |some s'=>zEJ P H f c m (i+1) s'|none=>none
variable {i:Nat} {c:Code} {s s':RS} {R:Env->Option Log->Prop}
abbrev zYv(P:Program)(H:zBg)(f:FuncId)(c:Code)(i:Nat):PM:=opM P H (((H f).frzs (rid c)).contains i) (((H f).take (rid c)).contains i) (H f).nils (zEy c i)
def zUo(o:Option RS):RS :=
 match o with
 |some s=>s|none=>⟨none,[],none⟩
theorem zNM{o:Option RS}(h:o.isSome=true):o=some (zUo o):=by cases o<;>first|rfl|cases h
theorem zAb(h:WS P H f c 0 ⟨bif zMK c then some ([],[]) else none,e,lg⟩ (K .norm))(hc:zVe c=true:=by kernel_rfl):W P H f nt c e lg K:=by
 obtain⟨n0,e1,lg1,h1,h2⟩:=h;rw[zVJ hc];refine⟨n0+1,_,_,lg1,fun n m hn hm=>?_,h2⟩;obtain⟨m,rfl⟩:∃ k,m=k+1:=⟨m-1,by omega⟩;obtain⟨e2,this,h3⟩:=h1 n (by omega)
 cases hd:zMK c with
 |true=>simp only[hd,cond_true,zXI,dX] at this;simp only[exec,this,if_true,h3]|false=>simp only[hd,cond_false,zXI,dX] at this;simp only[exec,this,<- h3];rfl
theorem zYG(e1:Env)(h:R e1 s.lg)(he:(s.e.drop ((H f).drop (rid c))).norm=e1:=by kernel_rfl)(hi:ble (zE7 c).size i=true:=by kernel_rfl):WS P H f c i s R:=by
 have hi:=br hi;refine⟨0,e1,s.lg,fun n _=>⟨s.e,?_,he⟩,h⟩;rw[dh (by simpa using hi)];cases s.dr<;>rfl
theorem zA3(h:R ((s.e.drop ((H f).drop (rid c))).norm) s.lg)(hi:ble (zE7 c).size i=true:=by kernel_rfl):WS P H f c i s R:=zYG _ h rfl hi
theorem zWK(h:blt i (zE7 c).size=true):(zE7 c)[i]? = some (zEy c i):=by
 have:i<(zE7 c).size:=by simpa using h
 simp[zEy,this]
theorem zRz(h:blt i (zE7 c).size=true):(zE7 c).toList.drop i=zEy c i::(zE7 c).toList.drop (i+1):=by
 have h1:(zE7 c).toList[i]? = some (zEy c i):=by rw[bS];exact zWK h
 obtain⟨h2,h3⟩:=bg.1 h1;rw[<- h3];exact(b6 h2)
theorem zKE{orc:zAK}{fz tk nl:Bool}{ops:Array Oper}{o:Oper}{lg':Option Log}{t:Tok}(h:zEz P H orc fz tk nl ops o e lg=some (e',lg',t)):zCV P H orc fz tk nl ops o e lg=some (e',lg'):=by
 simp only[zEz] at h;simp only[zCV];split at h
 ·obtain⟨a,h1,h2⟩:=bm.1 h;cases h2;rw[zEl h1];rfl
 ·split at h
  ·obtain⟨a,h1,h2⟩:=bm.1 h;cases h2;rw[h1]
  ·obtain⟨a,h1,h2⟩:=bm.1 h;cases h2;rw[zEl h1];rfl
theorem zLE{t:Tok}{dr':Option (LN×List Tok)}{lg':Option Log}(hi:blt i (zE7 c).size=true)(hT:∃ n0,∀ n,n0<=n->zEz P H (zCZ P H n) (((H f).frzs (rid c)).contains i) (((H f).take (rid c)).contains i) (H f).nils (zE7 c) (zEy c i) s.e s.lg=some (e',lg',t))
  (hd:zFG s.dr i (zEy c i) t=some dr') (h:WS P H f c (i+1) ⟨dr',e',lg'⟩ R):WS P H f c i s R:=by
 obtain⟨n0,hT⟩:=hT;obtain⟨n2,e2,lg2,h1,h2⟩:=h;obtain⟨dr,e,lg⟩:=s;refine⟨max n0 n2,e2,lg2,fun n hn=>?_,h2⟩;have hs:=hT n (by omega);obtain⟨e3,h1,h3⟩:=h1 n (by omega);refine⟨e3,?_,h3⟩;rw[zRz hi]
 cases dr with
 |none=>
  simp only[zFG,ba] at hd;subst hd;simp only[zXI] at h1 ⊢;simp only[zBh,zKE hs];exact h1
 |some d=>
  obtain⟨acc,ts⟩:=d;simp only[zFG] at hd;rcases zBn hd with⟨hc,hd⟩|⟨_,hd⟩
  ·simp only[ba] at hd;subst hd;simp only[zXI] at h1 ⊢;simp only[zCC,hs,hc,cond_true];exact h1
  ·cases hd
theorem zSZ{orc:zAK}{fz tk nl:Bool}{ops:Array Oper}{o:Oper}{t:Tok}(hy:noY lg e o=true)(h:(zFW P H ops fz tk nl o).runT orc e=some (e',t)):zEz P H orc fz tk nl ops o e lg=some (e',lg,t):=by
 cases lg with
 |none=>simp only[zEz,h];rfl|some l=>
  simp only[noY,dE] at hy;simp only[zEz,hy,h];rfl
theorem zYE{t:Tok}{dr':Option (LN×List Tok)}(hi:blt i (zE7 c).size=true)(hT:∃ n0,∀ n,n0<=n->(zFW P H (zE7 c) (((H f).frzs (rid c)).contains i) (((H f).take (rid c)).contains i) (H f).nils (zEy c i)).runT (zCZ P H n) s.e=some (e',t))
  (hd:zFG s.dr i (zEy c i) t=some dr') (h:WS P H f c (i+1) ⟨dr',e',s.lg⟩ R) (hy:noY s.lg s.e (zEy c i)=true):WS P H f c i s R:=by
 obtain⟨n0,hT⟩:=hT;exact zLE hi ⟨n0,fun n hn=>zSZ hy (hT n hn)⟩ hd h
theorem zUS(hi:blt i (zE7 c).size=true)(hs:zXA P H f c i s=some s')(h:WS P H f c (i+1) s' R):WS P H f c i s R:=by
 simp only[zXA] at hs;split at hs
 ·rename_i e1 lg1 t ht;obtain⟨dr,hd,rfl⟩:=bm.1 hs;exact zLE hi ⟨0,fun n _=>zMY ht⟩ hd h
 ·cases hs
theorem zMR:∀ (m:Nat) {i:Nat} {s s':RS},ble (i+m) (zE7 c).size=true->zEJ P H f c m i s=some s'->WS P H f c (i+m) s' R->WS P H f c i s R
 |0,i,s,s',_,hs,h=>by simp only[zEJ,ba] at hs;subst hs;exact h
 | m + 1,i,s,s',hi,hs,h=>by
  have gm:=br hi;simp only[zEJ] at hs;split at hs
  ·rename_i s1 h1;refine zUS (by simp;omega) h1 (zMR m ?_ hs ?_)
   ·rw[show i+1+m=i+(m+1) by omega];exact hi
   ·rw[show i+1+m=i+(m+1) by omega];exact h
  ·cases hs
theorem zAm(m:Nat)(h:WS P H f c (i+m) (zUo (zEJ P H f c m i s)) R)(hs:(zEJ P H f c m i s).isSome=true:=by kernel_rfl)(hi:ble (i+m) (zE7 c).size=true:=by kernel_rfl):WS P H f c i s R :=
 zMR m hi (zNM hs) h
def zOF(c:Code)(i:Nat)(e:Env):Bool :=
 match(zEy c i).guard with
 |none=>true
 | some (j,want)=>match ((zE7 c)[j]?).bind (·.dst) with
  |some t=>match e.get t with
   |.bool b=>b==want|_=>false
  |none=>false
theorem zZH{e':Env}(hm:∃ n0,∀ n,n0<=n->(zYv P H f c i).run (zCZ P H n) s.e=some e')(h:WS P H f c (i+1) ⟨none,e',s.lg⟩ R)(kP:s.dr=none:=by kernel_rfl)(hy:noY s.lg s.e (zEy c i)=true:=by kernel_rfl)(hg:zOF c i s.e=true:=by kernel_rfl)(hi:blt i (zE7 c).size=true:=by kernel_rfl):WS P H f c i s R:=by
 obtain⟨n0,hm⟩:=hm;obtain⟨n2,e2,lg2,h1,h2⟩:=h;obtain⟨dr,e,lg⟩:=s;simp only at kP hg hm hy;subst kP;refine⟨max n0 n2,e2,lg2,fun n hn=>?_,h2⟩;obtain⟨e3,h1,h3⟩:=h1 n (by omega);refine⟨e3,?_,h3⟩;have hr:(zFW P H (zE7 c) (((H f).frzs (rid c)).contains i) (((H f).take (rid c)).contains i) (H f).nils (zEy c i)).run (zCZ P H n) e=some e':=by
  have hm:=hm n (by omega);revert hg;simp only[zOF]
  cases gK:(zEy c i).guard with
  |none=>intro _;simp only[zFW,gK];exact hm
  | some w =>
   obtain⟨j,want⟩:=w;intro hg;simp only at hg
   cases hj:((zE7 c)[j]?).bind (·.dst) with
   |none=>rw[hj] at hg;cases hg|some u=>
    rw[hj] at hg;simp only at hg;cases hv:e.get u<;>rw[hv] at hg<;>try (cases hg;done)
    have hb:=eq_of_beq hg;simp only[zFW,gK,hj,PM.run,hv,hb,if_true];exact hm
 rw[zRz hi];simp only[zXI] at h1 ⊢;have hs:zCV P H (zCZ P H n) (((H f).frzs (rid c)).contains i) (((H f).take (rid c)).contains i) (H f).nils (zE7 c) (zEy c i) e lg=some (e',lg):=by
  cases lg with
  |none=>simp only[zCV,hr,bv]|some l=>
   simp only[noY,dE] at hy;simp only[zCV,hy,hr,bv]
 simp only[zBh,hs];exact h1
end
end Go.Eng
namespace Go.Eng
open Go
section
variable {P:Program} {H:zBg} {f:FuncId} {e e':Env} {i:Nat} {c:Code} {fz tk nl:Bool} {orc:zAK}
def zZV(e:Env):Operand->PV
 |.tmp t=>view t (e.get t)|.const v=>zEM v|.func f=>.func f [] []|.global _=>.bad
theorem zQB{α β:Type}{f:β->α->β}{b:β}{l:List α}{i:Nat}(h:i<l.length):(l.take (i+1)).foldl f b=f ((l.take i).foldl f b) l[i]:=by
 rw[ff,bl h];simp only[Option.toList,cE,List.foldl]
def two(o:Oper)(r:PV):PM :=
 match o.op with
 |.binOp _ _ x y _=>opd x fun _=>opd y fun _=>put o.dst r
 |.indexAddr _ x y=>opd x fun _=>opd y fun _=>put o.dst r
 |.index _ x y=>opd x fun _=>opd y fun _=>put o.dst r
 |_=>.fail
theorem zZk{a:Int}(h : -9223372036854775808<=a/\a<9223372036854775808):IntKind.i64.wrap a=a:=by
 rw[IntKind.wrap_i64];omega
end
end Go.Eng
namespace Go.Eng
open Go
section
variable [Yo] {P:Program} {H:zBg} {f:FuncId} {e e':Env} {i:Nat} {c:Code} {s:RS} {R:Env->Option Log->Prop} {fz tk nl:Bool} {orc:zAK}
def zZ3(e:Env)(p q:PV)(l:List (Nat×zA4)):Prop:=∀ (orc:zAK) (k:PV->List (Nat×zA4)->PM),(zRp p k).run orc e=(k q l).run orc e
inductive SeenAll (e:Env):LN->List PV->List Arg->Prop where
 |nil {ms}:SeenAll e ms [] []
 |ref {ms ps as p}:beq (ms.headD 0) 1=true->SeenAll e ms.tail ps as->SeenAll e ms (p::ps) ({p:=p,byref:=true}::as)
 |one {ms ps as p q l}:beq (ms.headD 0) 1=false->zZ3 e p q l->SeenAll e ms.tail ps as->SeenAll e ms (p::ps) ({p:=q,shared:=l}::as)
theorem zLk{o o':zAK}(ho:∀ g a h r,o g a h=some r->o' g a h=some r):∀ {p:PM} {e e1:Env},p.run o e=some e1->p.run o' e=some e1:=by
 intro p
 induction p with
 |ok=>intro e e1 h;exact h|fail=>intro e e1 h;cases h|view s k ih=>intro e e1 h;exact ih _ h|get s k ih=>intro e e1 h;simp only[PM.run] at h ⊢;split at h<;>first|(cases h;done)|exact ih _ h
 |set s q k ih=>intro e e1 h;exact ih h|cells r pre i c n k ih=>intro e e1 h;simp only[PM.run] at h ⊢;split at h<;>first|(cases h;done)|exact ih _ _ h
 |deep r pre k ih=>intro e e1 h;simp only[PM.run] at h ⊢;split at h<;>first|(cases h;done)|exact ih _ h
 |wcells r pre i c qs k ih=>intro e e1 h;simp only[PM.run] at h ⊢;split at h<;>first|(cases h;done)|exact ih h
 | wnode r pre q k ih =>
  intro e e1 h;simp only[PM.run] at h ⊢;rcases zBn h with⟨_,h⟩|⟨hl,h⟩
  ·cases h
  ·rw[hl];simp only[cond_false];split at h
   ·exact ih h
   ·cases h
 |kill r pre k ih=>intro e e1 h;exact ih h|frz r pre k ih=>intro e e1 h;simp only[PM.run] at h ⊢;split at h<;>first|(cases h;done)|exact ih h
 |killEx r pre k ih=>intro e e1 h;exact ih h|forget r k ih=>intro e e1 h;exact ih h|call f args hid k ih=>
  intro e e1 h;simp only[PM.run] at h ⊢;split at h
  ·rename_i v hX hq;rw[ho _ _ _ _ hq];exact ih _ _ h
  ·cases h
end
end Go.Eng
namespace Go.Eng
open Go
section
variable [Yo] {P:Program} {H:zBg} {f:FuncId} {e e':Env} {i:Nat} {c:Code} {s:RS} {R:Env->Option Log->Prop} {fz tk nl:Bool} {orc:zAK}
def zSe (c:Code) (i:Nat) (s:RS) (e':Env) (t:Tok):Option RS :=
 bif noY s.lg s.e (zEy c i) then match(match(zEy c i).guard with
  |none=>some t
  | some (j,want)=>match ((zE7 c)[j]?).bind (·.dst) with
   |some u=>match s.e.get u with
    |.bool b=>bif b==want then some (Tok.join {rd:=[u]} t) else none|_=>none
   |none=>none) with
 |some t=>(zFG s.dr i (zEy c i) t).map fun dr=>⟨dr,e',s.lg⟩
 |none=>none else none
theorem zZR{m:Option (Env×Tok)}(hm:∃ n0,∀ n,n0<=n->(zYv P H f c i).runT (zCZ P H n) s.e=m)(h:WS P H f c (i+1) (zUo (m.bind fun r=>zSe c i s r.1 r.2)) R)(hs:(m.bind fun r=>zSe c i s r.1 r.2).isSome=true:=by kernel_rfl)(hi:blt i (zE7 c).size=true:=by kernel_rfl):WS P H f c i s R:=by
 cases m with
 |none=>cases hs|some r=>
 obtain⟨e',t⟩:=r;have jK:=zNM hs;revert h;generalize zUo ((some (e',t)).bind fun r=>zSe c i s r.1 r.2)=s' at jK;intro h;obtain⟨n0,hm⟩:=hm;simp only[bc,zSe] at jK;rcases zBn jK with⟨hy,jK⟩|⟨_,jK⟩
 case inr=>cases jK
 split at jK
 ·rename_i t' ht;obtain⟨dr,hd,rfl⟩:=bm.1 jK;refine zYE hi ⟨n0,fun n hn=>?_⟩ hd h hy;revert ht
  cases hg:(zEy c i).guard with
  |none=>intro ht;simp only[ba] at ht;subst ht;simp only[zFW,hg];exact hm n hn
  | some w =>
   obtain⟨j,want⟩:=w;intro ht;simp only at ht
   cases hj:((zE7 c)[j]?).bind (·.dst) with
   |none=>rw[hj] at ht;cases ht|some u=>
    rw[hj] at ht;simp only at ht;cases hv:s.e.get u<;>rw[hv] at ht<;>try (cases ht;done)
    rcases zBn ht with⟨hb,ht⟩|⟨_,ht⟩
    ·have hb:=eq_of_beq hb;simp only[ba] at ht;subst ht;simp only[zFW,hg,hj,PM.runT,hv,hb,if_true];rw[hm n hn];rfl
    ·cases ht
 ·cases jK
theorem zWP{x:Operand}{p:PV}{k:PV->PM}(hx:zZV e x=p)(hp:p ≠ .bad):(opd x k).run orc e=(k p).run orc e:=by
 subst hx
 cases x with
 |tmp t=>rfl|const v=>rfl|func g=>rfl|global g=>exact(hp rfl).elim
theorem zOa{v:PV}(hh:v.heavy=false):v.cells.all (fun q=>!q.heavy)=true:=by
 cases v<;>simp only[PV.cells,cF,iS,fb,hh,f5];rename_i cs;simp only[PV.heavy] at hh;refine bi.2 fun q hq=>?_;obtain⟨i,hi⟩:=cC hq;rw[zEG hh hi];rfl
theorem zMW:∀ {ps:List PV},ps.all (fun q=>q.ways.isEmpty)=true->zBx ps=[]
 |[],_=>rfl|p::ps,h=>by
  simp only[cF,bb,d5] at h;simp only[zBx,h.1,dn,zMW h.2]
end
end Go.Eng
namespace Go.Eng
open Go
section
variable [Yo] {P:Program} {H:zBg} {f:FuncId} {e e':Env} {i:Nat} {c:Code} {s:RS} {R:Env->Option Log->Prop} {fz tk nl:Bool} {orc:zAK}
theorem zLc{x:Option Env}(h:x.isSome=true):x=some (zOC x):=by cases x<;>first|rfl|cases h
theorem zVr{α:Type}{xs ys:List α}{y:α}{j:Nat}(h:j+(ys.length+1)<=xs.length):(xs.set j y).take (j+1)++ys++(xs.set j y).drop (j+1+ys.length)=xs.take j++(y::ys)++xs.drop (j+(ys.length+1)):=by
 obtain ⟨A, x, B, rfl, rfl⟩ : ∃ A x B, xs = A ++ x :: B /\ A.length = j := ⟨xs.take j, xs[j]'(by omega), xs.drop (j + 1), by rw [<- b6 (by omega), cw], by simp; omega⟩;have h1:(A++x::B).set A.length y=A++y::B:=by simp
 have h2:(A++y::B).take (A.length+1)=A++[y]:=by rw[iu,bw (by omega)];simp
 have h3:(A++y::B).drop (A.length+1+ys.length)=B.drop ys.length:=by
  rw[fL,dh (by omega)];simp[show A.length+1+ys.length-A.length=ys.length+1 by omega]
 have h4:(A++x::B).drop (A.length+(ys.length+1))=B.drop ys.length:=by
  rw[fL,dh (by omega)];simp
 have h5:(A++x::B).take A.length=A:=by simp
 rw[h1,h2,h3,h4,h5];simp
end
end Go.Eng
namespace Go.Eng
open Go
def Srt(e:Env):Prop:=e.Pairwise (fun a b=>a.1<b.1)/\∀ x∈e,x.2 ≠ .bad
theorem zN2:∀ {e:Env} {k:Nat},(∀ x∈e,k<x.1)->e.get k = .bad
 |[],_,_=>rfl
 | (k',v)::e,k,h=>by
  have h1:k<k':=h (k',v) (by simp);have:beq k' k=false:=by
   cases hb:beq k' k with
   |false=>rfl|true=>have:=bd hb;omega
  simp only[Env.get,this,cond_false];exact zN2 fun x hx=>h x (by simp[hx])
theorem Srt.eq:∀ {e e':Env},Srt e->Srt e'->(∀ s,e.get s=e'.get s)->e=e'
 |[],[],_,_,_=>rfl|[],(k,v)::e',_,h2,h=>by
  have:=h k;simp only[Env.get,cN,cond_true] at this;exact(h2.2 (k,v) (by simp) this.symm).elim
 |(k,v)::e,[],h1,_,h=>by
  have:=h k;simp only[Env.get,cN,cond_true] at this;exact(h1.2 (k,v) (by simp) this).elim
 | (k, v)::e,(k',v')::e',h1,h2,h=>by
  obtain⟨p1,q1⟩:=h1;obtain⟨p2,q2⟩:=h2;obtain⟨a1,b1⟩:=cL.1 p1;obtain⟨a2,b2⟩:=cL.1 p2;have hk:k=k':=by
   rcases Nat.lt_trichotomy k k' with yG|uo|yG
   ·have:=h k;rw[zN2 (e:=(k',v')::e') (k:=k) (fun x hx=>by
     rcases bx.1 hx with rfl|hx
     ·exact yG
     ·exact Nat.lt_trans yG (a2 x hx))] at this
    simp only[Env.get,cN,cond_true] at this;exact(q1 (k,v) (by simp) this).elim
   ·exact uo
   ·have:=h k';rw[zN2 (e:=(k,v)::e) (k:=k') (fun x hx=>by
     rcases bx.1 hx with rfl|hx
     ·exact yG
     ·exact Nat.lt_trans yG (a1 x hx))] at this
    simp only[Env.get,cN,cond_true] at this;exact(q2 (k',v') (by simp) this.symm).elim
  subst hk;have hv:=h k;simp only[Env.get,cN,cond_true] at hv;subst hv;congr 1;refine Srt.eq ⟨b1,fun x hx=>q1 x (by simp[hx])⟩ ⟨b2,fun x hx=>q2 x (by simp[hx])⟩ fun s=>?_;have hs:=h s;simp only[Env.get] at hs
  cases hb:beq k s with
  |false=>rw[hb] at hs;exact hs|true=>
   have:=bd hb;subst this;rw[zN2 a1,zN2 a2]
theorem zMg:∀ {e:Env} {k:Nat} {v:PV} {x:Nat×PV},x∈e.set k v->x=(k,v)\/x∈e
 |[],k,v,x,h=>by simp only[Env.set,bk] at h;exact .inl h
 | (k',v')::e,k,v,x,h=>by
  simp only[Env.set] at h
  cases hb:beq k' k with
  |true=>rw[hb] at h;simp only[cond_true,bx] at h;rcases h with h|h<;>simp[h]
  | false =>
   rw[hb] at h;simp only[cond_false] at h
   cases hl:ble k k' with
   |true=>rw[hl] at h;simp only[cond_true,bx] at h;rcases h with h|h|h<;>simp[h]
   |false=>
    rw[hl] at h;simp only[cond_false,bx] at h;rcases h with h|h
    ·simp[h]
    ·rcases zMg h with h|h<;>simp[h]
theorem Srt.set:∀ {e:Env} {k:Nat} {v:PV},Srt e->v ≠ .bad->Srt (e.set k v)
 |[],k,v,_,hv=>⟨by simp[Env.set],by simp[Env.set,hv]⟩
 | (k',v')::e,k,v,h,hv=>by
  obtain⟨p,q⟩:=h;obtain⟨a,b⟩:=cL.1 p;refine⟨?_,fun x hx=>by
   rcases zMg hx with rfl|hx
   ·exact hv
   ·exact q x hx⟩
  simp only[Env.set]
  cases hb:beq k' k with
  |true=>
   have:=bd hb;subst this;exact cL.2 ⟨a,b⟩
  | false =>
   have hI:k'≠k:=by intro h;subst h;rw[cN] at hb;cases hb
   cases hl:ble k k' with
   | true =>
    have:=br hl;exact cL.2 ⟨fun x hx=>by
     rcases bx.1 hx with rfl|hx
     ·show k<k';omega
     ·have:k'<x.1:=a x hx;show k<x.1;omega,p⟩
   | false =>
    have yG:k'<k:=by
     have:¬ k<=k':=fun hh=>by rw[<- fU] at hh;rw[hh] at hl;cases hl
     omega
    refine cL.2 ⟨fun x hx=>?_,(Srt.set ⟨b,fun x hx=>q x (by simp[hx])⟩ hv).1⟩;rcases zMg hx with rfl|hx
    ·exact yG
    ·exact a x hx
theorem Srt.norm:∀ (e:Env),Srt e.norm
 |[]=>⟨by simp[Env.norm],by simp[Env.norm]⟩|(k,v)::e=>by
  have ih:=Srt.norm e;simp only[Env.norm,Env.put];split
  ·exact⟨ih.1.filter _,fun x hx=>ih.2 x (bO.1 hx).1⟩
  ·rename_i hv;exact ih.set (fun h=>hv h)
theorem zW2{e e':Env}(h:∀ s,e.get s=e'.get s):e.norm=e'.norm:=(Srt.norm e).eq (Srt.norm e') fun s=>by rw[zI2,zI2];exact h s
section
variable [Yo] {P:Program} {H:zBg} {f:FuncId} {i:Nat} {c:Code} {R:Env->Option Log->Prop}
theorem zGd{o:zAK}{fzs tks:LN}{nl:Bool}{ops:Array Oper}:∀ {l:List Oper} {i:Nat} {e g:Env} {r:Env×Option Log},g.get=e.get->zBh P H o fzs tks nl ops l i e none=some r->∃ g1,zBh P H o fzs tks nl ops l i g none=some (g1,r.2)/\g1.get=r.1.get
 |[],_,e,g,r,he,h=>by simp only[zBh,ba] at h;subst h;exact⟨g,rfl,he⟩
 | x :: l,i,e,g,r,he,h=>by
  simp only[zBh,zCV] at h ⊢
  cases hs:(zFW P H ops (fzs.contains i) (tks.contains i) nl x).run o e with
  |none=>rw[hs] at h;cases h|some e1=>
   rw[hs] at h;obtain⟨g1,h1,h2⟩:=zHv he hs;rw[h1];exact zGd h2 h
theorem zYL{e e':Env}(h:WS P H f c i ⟨none,e',none⟩ R)(he:∀ s,e.get s=e'.get s):WS P H f c i ⟨none,e,none⟩ R:=by
 obtain⟨n0,eN,lg',h1,h2⟩:=h;refine⟨n0,eN,lg',fun n hn=>?_,h2⟩;obtain⟨e1,h3,h4⟩:=h1 n hn;simp only[zXI] at h3;obtain⟨g1,h5,h6⟩:=zGd (funext he) h3;refine⟨g1,h5,?_⟩;rw[<- h4];refine zW2 fun s=>?_;rw[Env.get_drop,Env.get_drop,h6]
def zZ0(s:Nat)(x y:PV):Prop:=y.plain=true/\y.cells.length=s/\y.heavy=false/\y.cells.all (fun q=>q.ways.isEmpty)=true/\y.cells.length<=x.cells.length/\zAG x 0 y.cells=y
end
end Go.Eng
namespace Go.Eng
open Go
def Le(o o':zAK):Prop:=∀ g a h r,o g a h=some r->o' g a h=some r
theorem zUh{o0 o:zAK}(ho:Le o0 o):∀ {p:PM} {e:Env} {r:Env×Tok},p.runT o0 e=some r->p.runT o e=some r:=by
 intro p
 induction p with
 |ok=>intro e e1 h;exact h|fail=>intro e e1 h;cases h|view s k ih=>intro e e1 h;exact zAo h fun a h=>ih _ h
 |get s k ih=>intro e e1 h;simp only[PM.runT] at h ⊢;split at h<;>first|(cases h;done)|exact zAo h fun a h=>ih _ h
 |set s q k ih=>intro e e1 h;exact zAo h fun a h=>ih h
 |cells r pre i c n k ih=>intro e e1 h;simp only[PM.runT] at h ⊢;split at h<;>first|(cases h;done)|exact zAo h fun a h=>ih _ _ h
 |deep r pre k ih=>intro e e1 h;simp only[PM.runT] at h ⊢;split at h<;>first|(cases h;done)|exact zAo h fun a h=>ih _ h
 |wcells r pre i c qs k ih=>intro e e1 h;simp only[PM.runT] at h ⊢;split at h<;>first|(cases h;done)|exact zAo h fun a h=>ih h
 | wnode r pre q k ih =>
  intro e e1 h;simp only[PM.runT] at h ⊢;rcases zBn h with⟨_,h⟩|⟨hl,h⟩
  ·cases h
  ·rw[hl];simp only[cond_false];split at h
   ·exact zAo h fun a h=>ih h
   ·cases h
 |kill r pre k ih=>intro e e1 h;exact zAo h fun a h=>ih h
 |frz r pre k ih=>intro e e1 h;simp only[PM.runT] at h ⊢;split at h<;>first|(cases h;done)|exact zAo h fun a h=>ih h
 |killEx r pre k ih=>intro e e1 h;exact zAo h fun a h=>ih h
 |forget r k ih=>intro e e1 h;exact zAo h fun a h=>ih h
 |call f args hid k ih=>
  intro e e1 h;simp only[PM.runT] at h ⊢;split at h
  ·rename_i v hX hq;rw[ho _ _ _ _ hq];exact ih _ _ h
  ·cases h
section
variable [Yo] {P:Program} {H:zBg} {o0 o:zAK} (ho:Le o0 o) {fz tk nl:Bool} {fzs tks:LN} {ops:Array Oper} {nt:Nat} {hh:FHint} {yo0 yo:zCU} {al:All}
include ho in
theorem zJL{x:Oper}{h0:Nat}{args:List PV}{l:Log}{e:Env}{r:Env×Option Log}(h:zB0 o0 ops x h0 args l e=some r):zB0 o ops x h0 args l e=some r:=by
 simp only[zB0] at h ⊢;split at h
 ·rcases zBn h with⟨hc,h⟩|⟨_,h⟩
  ·rw[hc];simp only[cond_true];refine zAo h fun a h=>?_;rcases zBn h with⟨hk,h⟩|⟨hk,h⟩<;>rw[hk]
   ·exact zLk ho h
   ·exact zLk ho h
  ·cases h
 ·exact zAo h fun a h=>zLk ho h
 ·cases h
include ho in
theorem zVk{x:Oper}{e:Env}{lg:Option Log}{r:Env×Option Log}(h:zCV P H o0 fz tk nl ops x e lg=some r):zCV P H o fz tk nl ops x e lg=some r:=by
 simp only[zCV] at h ⊢;split at h
 ·exact zAo h fun a h=>zLk ho h
 ·split at h
  ·exact zJL ho h
  ·exact zAo h fun a h=>zLk ho h
include ho in
theorem zVB{x:Oper}{e:Env}{lg:Option Log}{r:Env×Option Log×Tok}(h:zEz P H o0 fz tk nl ops x e lg=some r):zEz P H o fz tk nl ops x e lg=some r:=by
 simp only[zEz] at h ⊢;split at h
 ·exact zAo h fun a h=>zUh ho h
 ·split at h
  ·exact zAo h fun a h=>zJL ho h
  ·exact zAo h fun a h=>zUh ho h
include ho in
theorem zIj:∀ {l:List Oper} {i:Nat} {e:Env} {lg:Option Log} {r:Env×Option Log},zBh P H o0 fzs tks nl ops l i e lg=some r->zBh P H o fzs tks nl ops l i e lg=some r
 |[],_,_,_,_,h=>h|x::l,i,e,lg,r,h=>by
  simp only[zBh] at h ⊢
  cases hs:zCV P H o0 (fzs.contains i) (tks.contains i) nl ops x e lg with
  |none=>rw[hs] at h;cases h|some q=>rw[hs] at h;rw[zVk ho hs];exact zIj h
include ho in
theorem zK5:∀ {l:List Oper} {i:Nat} {acc:LN} {ts:List Tok} {e:Env} {lg:Option Log} {r:Env×Option Log},zCC P H o0 fzs tks nl ops l i acc ts e lg=some r->zCC P H o fzs tks nl ops l i acc ts e lg=some r
 |[],_,_,_,_,_,_,h=>h
 | x :: l,i,acc,ts,e,lg,r,h=>by
  simp only[zCC] at h ⊢
  cases hs:zEz P H o0 (fzs.contains i) (tks.contains i) nl ops x e lg with
  |none=>rw[hs] at h;cases h|some q=>
   rw[hs] at h;rw[zVB ho hs];simp only at h ⊢;rcases zBn h with⟨hc,h⟩|⟨_,h⟩
   ·rw[hc];exact zK5 h
   ·cases h
include ho in
theorem zSD:∀ {m:Nat} {c:Code} {e:Env} {lg:Option Log} {r:X×Env×Option Log},exec P H o0 yo0 zHI nt hh m c e lg=some r->∀ {m':Nat},m<=m'->exec P H o yo al nt hh m' c e lg=some r
 |0,_,_,_,_,h,_,_=>by cases h
 | m + 1,c,e,lg,r,h,m',hm=>by
  obtain⟨m',rfl⟩:∃ k,m'=k+1:=⟨m'-1,by omega⟩;have ih:∀ {c:Code} {e:Env} {lg:Option Log} {r:X×Env×Option Log},exec P H o0 yo0 zHI nt hh m c e lg=some r->exec P H o yo al nt hh m' c e lg=some r:=fun h=>zSD h (by omega)
  cases c with
  | region id ops draw =>
   simp only[exec] at h ⊢;split at h
   ·rename_i e1 lg1 h1;have:(if draw=true then zCC P H o (hh.frzs id) (hh.take id) hh.nils ops ops.toList 0 [] [] e lg else zBh P H o (hh.frzs id) (hh.take id) hh.nils ops ops.toList 0 e lg)=some (e1,lg1):=by
     cases draw with
     |true=>exact zK5 ho h1|false=>exact zIj ho h1
    rw[this];exact h
   ·cases h
  | seq a b =>
   simp only[exec] at h ⊢
   cases h1:exec P H o0 yo0 zHI nt hh m a e lg with
   |none=>rw[h1] at h;cases h|some q=>
    rw[h1] at h;rw[ih h1];obtain⟨x,e1,lg1⟩:=q
    cases x with
    |norm=>exact ih h|ex id=>exact h|ret=>exact h
  | cond c a b =>
   cases c with
   |tmp t=>
    simp only[exec] at h ⊢;revert h
    cases e.get t with
    |bool v=>intro h;cases v<;>exact ih h
    |_=>intro h;cases h
   |const v=>
    simp only[exec] at h ⊢;revert h
    cases v with
    |bool v=>intro h;cases v<;>exact ih h
    |_=>intro h;cases h
   |_=>cases h
  | block id b =>
   simp only[exec] at h ⊢
   cases h1:exec P H o0 yo0 zHI nt hh m b e lg with
   |none=>rw[h1] at h;cases h|some q=>
    rw[h1] at h;rw[ih h1];exact h
  | loop b =>
   simp only[exec] at h ⊢
   cases h1:exec P H o0 yo0 zHI nt hh m b (e.drop (hh.loopDrop (zA2 b))) lg with
   |none=>rw[h1] at h;cases h|some q=>
    rw[h1] at h;rw[ih h1];obtain⟨x,e1,lg1⟩:=q
    cases x with
    |norm=>exact ih h|ex id=>exact h|ret=>exact h
  |scope b=>exact ih h
  | rangeFunc x ps ca cb =>
   cases x with
   | tmp t =>
    simp only[exec] at h
    cases lg with
    |none=>
     simp only at h;obtain⟨q,h1,_⟩:=bm.1 h;simp only[zHH] at h1;split at h1
     ·cases h1
     ·cases h1
    |some _=>cases h
   |_=>cases h
  |skip=>exact h|exit id=>exact h|ret=>exact h|label l=>exact h|_=>cases h
end
section
variable [Yo] {P:Program} {H:zBg}
theorem zUX{o0 o:zAK}(ho:Le o0 o){yo0 yo:zCU}{al:All}{n n':Nat}(hn:n<=n'){f:FuncId}{args hid:List PV}{r:PV×List PV}(h:zGX P H o0 yo0 zHI n f args hid=some r):zGX P H o yo al n' f args hid=some r:=by
 simp only[zGX] at h ⊢
 cases hf:P.funcs[f]? with
 |none=>rw[hf] at h;cases h
 | some fn =>
  rw[hf] at h;simp only at h ⊢;by_cases hi:(H f).intr≠0
  ·rw[if_pos hi] at h ⊢;exact h
  ·rw [if_neg hi] at h ⊢
   cases hb:fn.body with
   |none=>rw[hb] at h;cases h
   | some body =>
    rw[hb] at h;simp only[zJp] at h ⊢;rcases zBn h with⟨hc,h⟩|⟨_,h⟩
    ·rw[hc];simp only[cond_true]
     cases hx:exec P H o0 yo0 zHI fn.ntmps (H f) n body (zBf args hid) none with
     |none=>rw[hx] at h;cases h
     | some q =>
      rw[hx] at h;rw[zSD ho hx hn];obtain⟨x,e1,lg⟩:=q;cases x<;>cases lg<;>simp only at h ⊢ <;> try (cases h;done)
      all_goals
       cases hr:(zCT P (H f).frz 0 fn.results.toList).run o0 e1 with
       |none=>rw[hr] at h;cases h|some e2=>rw[hr] at h;rw[zLk ho hr];exact h
    ·cases h
abbrev zZi(P:Program)(H:zBg)(n:Nat):zAK:=(zTm P H zHI n).1
theorem zQr:∀ (n n':Nat),n<=n'->Le (zZi P H n) (zCZ P H n')
 |0,_,_=>fun g a h r hh=>by cases hh
 |n+1,n',hn=>by
  obtain⟨k,rfl⟩:∃ k,n'=k+1:=⟨n'-1,by omega⟩;intro g a h r hh;exact zUX (zQr n k (by omega)) (by omega) hh
theorem zBD.closed{f:FuncId}{args hid hX:List PV}{v:PV}(n:Nat)(h:zZi P H n f args hid=some (v,hX):=by kernel_rfl):zBD P H f args hid v hX:=⟨n,fun n' hn=>zQr n n' hn _ _ _ _ h⟩
end
end Go.Eng
namespace Go.Eng
open Go
section
variable {P:Program} {H:zBg}
theorem zT7(zFd:P.follows .mixedOrders=true)(hnm:zET P)(zM4:Fit P H)(hin:zEX P H){f:FuncId}{args:List PV}(hg:@zBD (yo1 P H) P H f args [] (.bool true) []){w:World}{Φ:Nat->Prop}{vs:Array Value}(hΦ:∀ b,Φ b->b<w.heap.size)(hr:zA8 w Φ zCm args vs.toList [])(jz:args.length<=zAk) :
  Calls P f vs w fun e w'=>e = .returned (.bool true)/\w.heap.size<=w'.heap.size/\(∀ b,b<w.heap.size->w'.heap[b]? = w.heap[b]?)/\w'.os=w.os/\w'.tape=w.tape/\w'.output=w.output:=by
 have ve:zAa=1000000000:=rfl;have hhh:zAk=50000000:=rfl;obtain⟨n0,hg⟩:=hg;obtain⟨_,hm⟩:=@zFo P H (yo1 P H) zFd hnm zM4 hin (zRk zFd hnm zM4 hin) n0 f args [] (.bool true) [] (hg n0 (bf _));obtain⟨yA,yj⟩:=zMk hr;have hvz:vs.size=args.length:=by rw[<- yA];simp
 have p2:Conf w (fun b=>∃ s,b∈((fun _=>[]):Nat->LN) s) Φ w Φ (fun s=>(vs[s]?).getD undef) (fun s=>(zBf args []).get s) (fun _=>[]):=by
  refine⟨fun s=>?_,fun _=>b8,fun _ _ _ _ h=>(by cases h),fun _ _ h=>(by cases h),fun b hb=>⟨hΦ b hb,.inl hb⟩,fun _ h=>h,bf _,fun _ _ _=>rfl,rfl,rfl,rfl⟩;show Rep _ _ _ ((zBf args []).get s) _ _
  rw[zDm (by omega)];by_cases h1:s<args.length
  ·rw[if_pos h1];obtain⟨v,u6,kZ⟩:=yj s args[s] (bl h1);have:vs[s]? = some v:=by rw[<- bS];exact u6
   rw[this];simp only[List.getD,bl h1,dd];exact kZ.mono (fun b hb=>⟨hb,rfl⟩) (fun _ _ _ h=>h.elim) (by simp)
  ·rw[if_neg h1,if_neg (by simp only[b7];omega)];rfl
 have hc:=hm w Φ (fun s=>(vs[s]?).getD undef) (fun s=>(zBf args []).get s) (fun _=>[]) vs (fun _ _=>rfl) (fun s hs=>by
   rw[zDm (by omega),if_neg (by omega),if_neg (by simp only[b7];omega)]) p2 hvz (fun j hj=>by rw[cQ (by omega)];rfl) (fun s hs _=>by rw[fE (by omega)];rfl)
 refine hc.mono fun e w' ⟨u,Φ',rv',E',L',he,C,_,_,vM⟩=>?_;obtain⟨h1,h2⟩:=vM.one (fun ps h=>by cases h);have hZ:=C.rep zAF;rw[h1] at hZ;have hu:u = .bool true:=by rw[<- h2];exact hZ.1
 refine⟨by rw[he,hu],C.size,fun b hb=>C.kept b hb (fun⟨s,hs⟩=>by cases hs),C.os,C.tape,C.output⟩
end
end Go.Eng
namespace Go.Eng
open Go
section
variable [Yo] {P:Program} {H:zBg} {f:FuncId} {nt:Nat} {e e':Env} {lg:Option Log} {K:X->Env->Option Log->Prop} {i:Nat} {c:Code} {s:RS} {R:Env->Option Log->Prop} {fz tk nl:Bool} {orc:zAK}
theorem zCN(p:Prop)[Decidable p](h1:p->W P H f nt (cl c) e lg K)(h2:¬p->W P H f nt (cr c) e lg K)(hc:zEN c e=some (decide p):=by kernel_rfl):W P H f nt c e lg K :=
 zEx (decide p) (fun h=>h1 (of_decide_eq_true h)) (fun h=>h2 (of_decide_eq_false h)) hc
theorem zAM(p:Prop)[Decidable p](hp:p)(h1:W P H f nt (cl c) e lg K)(hc:zEN c e=some (decide p):=by kernel_rfl):W P H f nt c e lg K :=
 zEx (decide p) (fun _=>h1) (fun h=>absurd hp (of_decide_eq_false h)) hc
theorem zAQ(p:Prop)[Decidable p](hp:¬p)(h2:W P H f nt (cr c) e lg K)(hc:zEN c e=some (decide p):=by kernel_rfl):W P H f nt c e lg K :=
 zEx (decide p) (fun h=>absurd (of_decide_eq_true h) hp) (fun _=>h2) hc
theorem zEk(p:Prop)[Decidable p](h1:¬p->W P H f nt (cl c) e lg K)(h2:p->W P H f nt (cr c) e lg K)(hc:zEN c e=some (!decide p):=by kernel_rfl):W P H f nt c e lg K :=
 zEx (!decide p) (fun h=>h1 (by simpa using h)) (fun h=>h2 (by simpa using h)) hc
theorem zJB(p:Prop)[Decidable p](hp:¬p)(h1:W P H f nt (cl c) e lg K)(hc:zEN c e=some (!decide p):=by kernel_rfl):W P H f nt c e lg K :=
 zEk p (fun _=>h1) (fun h=>absurd h hp) hc
theorem zMB(p:Prop)[Decidable p](hp:p)(h1:W P H f nt (cr c) e lg K)(hc:zEN c e=some (!decide p):=by kernel_rfl):W P H f nt c e lg K :=
 zEk p (fun h=>absurd hp h) (fun _=>h1) hc
theorem zGK(t:Nat)(b:Bool)(h1:b=true->WS P H f c i ⟨s.dr,s.e.set t (.bool true),s.lg⟩ R)(h2:b=false->WS P H f c i ⟨s.dr,s.e.set t (.bool false),s.lg⟩ R)(hb:s.e.set t (.bool b)=s.e:=by kernel_rfl):WS P H f c i s R:=by
 obtain⟨dr,e,lg⟩:=s;simp only at h1 h2 hb;rw[<- hb]
 cases b with
 |true=>exact h1 rfl|false=>exact h2 rfl
theorem zNU(t:Nat)(p:Prop)[Decidable p](h1:p->WS P H f c i ⟨s.dr,s.e.set t (.bool true),s.lg⟩ R)(h2:¬p->WS P H f c i ⟨s.dr,s.e.set t (.bool false),s.lg⟩ R)(hb:s.e.set t (.bool (decide p))=s.e:=by kernel_rfl):WS P H f c i s R :=
 zGK t (decide p) (fun h=>h1 (of_decide_eq_true h)) (fun h=>h2 (of_decide_eq_false h)) hb
theorem zLi(t:Nat)(p:Prop)[Decidable p](hp:p)(h1:WS P H f c i ⟨s.dr,s.e.set t (.bool true),s.lg⟩ R)(hb:s.e.set t (.bool (decide p))=s.e:=by kernel_rfl):WS P H f c i s R :=
 zNU t p (fun _=>h1) (fun h=>absurd hp h) hb
theorem zMS(t:Nat)(p:Prop)[Decidable p](hp:¬p)(h1:WS P H f c i ⟨s.dr,s.e.set t (.bool false),s.lg⟩ R)(hb:s.e.set t (.bool (decide p))=s.e:=by kernel_rfl):WS P H f c i s R :=
 zNU t p (fun h=>absurd h hp) (fun _=>h1) hb
theorem zYN(t:Nat)(p:Prop)[Decidable p](h1:¬p->WS P H f c i ⟨s.dr,s.e.set t (.bool true),s.lg⟩ R)(h2:p->WS P H f c i ⟨s.dr,s.e.set t (.bool false),s.lg⟩ R)(hb:s.e.set t (.bool (!decide p))=s.e:=by kernel_rfl):WS P H f c i s R :=
 zGK t (!decide p) (fun h=>h1 (by simpa using h)) (fun h=>h2 (by simpa using h)) hb
theorem get_map{α β:Type}{g:α->β}{l:List α}{i:Nat}{d:α}(h:i<l.length):(l.map g)[i]? = some (g (l.getD i d)):=by
 simp[List.getD,bl h]
def zZQ(e:Env)(p q:PV)(l:List (Nat×zA4))(t:Tok):Prop:=∀ (orc:zAK) (k:PV->List (Nat×zA4)->PM),(zRp p k).runT orc e=((k q l).runT orc e).map fun y=>(y.1,Tok.join t y.2)
inductive SeenAllT (e:Env):LN->List PV->List Arg->List Tok->Prop where
 |nil {ms}:SeenAllT e ms [] [] []
 |ref {ms ps as ts p}:SeenAllT e ms.tail ps as ts->(hb:beq (ms.headD 0) 1=true:=by kernel_rfl)->SeenAllT e ms (p::ps) ({p:=p,byref:=true}::as) ts
 |one {ms ps as ts p q l t}:zZQ e p q l t->SeenAllT e ms.tail ps as ts->(hb:beq (ms.headD 0) 1=false:=by kernel_rfl)->SeenAllT e ms (p::ps) ({p:=q,shared:=l}::as) (t::ts)
def zMH:List (Nat×PV)->Env->Env
 |[],e=>e|(k,v)::l,e=>zMH l (e.set k v)
theorem zAr{σ:Type}{c:Code}(Inv:σ->Prop)(upd:σ->List (Nat×PV))(μ:σ->Nat)(s:σ)(hi:Inv s) (h:∀ s,Inv s->W P H f nt (cl c) (zMH (upd s) (e.drop ((H f).loopDrop (zA2 (cl c))))) lg fun x e' lg'=>match x with
   |.norm=>∃ s',Inv s'/\μ s'<μ s/\e'.drop ((H f).loopDrop (zA2 (cl c)))=zMH (upd s') (e.drop ((H f).loopDrop (zA2 (cl c))))/\lg'=lg|x=>K x e' lg') (hs:e.drop ((H f).loopDrop (zA2 (cl c)))=zMH (upd s) (e.drop ((H f).loopDrop (zA2 (cl c)))):=by kernel_rfl) (hc:zPh c=true:=by kernel_rfl):W P H f nt c e lg K :=
 zYz Inv (fun s=>zMH (upd s) (e.drop ((H f).loopDrop (zA2 (cl c))))) μ s hi h hs hc
end
end Go.Eng
namespace Go.Eng
open Go
theorem zJN{x:Nat->Option (List (List PV))}{r:List (List PV)}(h:∀ i,x i=some r):zCb x=some r:=by
 have h':∃ r,∀ i,x i=some r:=⟨r,h⟩;simp only[zCb,dif_pos h'];have:=(fj h') 0;rw[h 0] at this;exact this.symm
section
def zVV[Yo](g:FuncId)(first caps:List PV)(k:Int)(xs:List (List PV)):Prop:=∀ i,Yo.yo g first i caps k=some xs
def zGs[Yo](g:FuncId)(first caps:List PV)(xs:List (List PV)):Prop:=zVV g first caps (-1) xs/\∀ j:Nat,1<=j->j<=xs.length->zVV g first caps j (xs.take j)
variable [Yo] (P:Program) (H:zBg)
def zLW(f:FuncId)(nt:Nat)(ps:List Tmp)(assign body:Code)(x:List PV)(e:Env)(K:X->Env->Prop):Prop :=
 ∃ e1,zCB ps x e=some e1/\W P H f nt assign e1 none fun y e2 lg=>y = .norm/\lg=none/\W P H f nt body e2 none fun y e3 lg=>lg=none/\K y e3
def Rg(f:FuncId)(nt:Nat)(ps:List Tmp)(assign body:Code)(R ds:LN)(K:X->Env->Option Log->Prop):List (List PV)->Env->Prop
 |[],e=>K .norm e none
 | x :: xs,e=>zLW P H f nt ps assign body x e fun y e3=>match y with
  |.norm=>match R with
   |[]=>Rg f nt ps assign body R ds K xs (after nt [] ds e e3)|r::R'=>zGq e (zC1 e (r::R'))=true/\∃ e1,zEE (zC1 e (r::R')) e=some e1/\zLW P H f nt ps assign body x e1 fun y e3=>y = .norm/\Rg f nt ps assign body R ds K xs (after nt (zC1 e (r::R')) ds e e3)
  |y=>K y (after nt [] ds e e3) none
end
section
variable [Yo] {P:Program} {H:zBg} {f:FuncId} {nt:Nat} {e e':Env} {lg:Option Log} {K:X->Env->Option Log->Prop}
noncomputable abbrev zN7(P:Program)(H:zBg)(f:FuncId)(nt n m:Nat):Code->Env->Option (X×Env):=fun c e=>match exec P H (zCZ P H n) Yo.yo zCb nt (H f) m c e none with|some (x,e',none)=>some (x,e')|_=>none
def zQq(run:Code->Env->Option (X×Env))(ps:List Tmp)(assign body:Code)(x:List PV)(e:Env):Option (X×Env):=match zCB ps x e with
 |some e1=>match run assign e1 with
  |some (.norm,e2)=>run body e2|_=>none
 |none=>none
theorem zBR{run:Code->Env->Option (X×Env)}{ps:List Tmp}{assign body:Code}{R ds:LN}{x:List PV}{xs:List (List PV)}{j:Nat}:zDg nt run ps assign body R ds (x::xs) e j=(match zQq run ps assign body x e with
  | some (.norm,e3)=>match R with
   |[]=>zDg nt run ps assign body R ds xs (after nt [] ds e e3) (j+1)
   | r :: R=>match (bif zGq e (zC1 e (r::R)) then zEE (zC1 e (r::R)) e else none) with
    |some e1=>match zQq run ps assign body x e1 with
     |some (.norm,e3)=>zDg nt run ps assign body (r::R) ds xs (after nt (zC1 e (r::R)) ds e e3) (j+1)|_=>none
    |none=>none
  |some (r,e3)=>some (some (j+1,r),after nt [] ds e e3)|none=>none):=by
 cases R<;>rfl
theorem zLW.run{ps:List Tmp}{assign body:Code}{x:List PV}{K:X->Env->Prop}(h:zLW P H f nt ps assign body x e K):∃ n0 y e3,(∀ n m,n0<=n->n0<=m->zQq (zN7 P H f nt n m) ps assign body x e=some (y,e3))/\K y e3:=by
 obtain⟨e1,h1,n1,y,e2,lg,h2,rfl,rfl,n2,z,e3,lg,h3,rfl,h4⟩:=h;refine⟨max n1 n2,z,e3,fun n m hn hm=>?_,h4⟩;simp only[zQq,h1,zN7,h2 n m (by omega) (by omega),h3 n m (by omega) (by omega)]
theorem Rg.run{ps:List Tmp}{assign body:Code}{R ds:LN}:∀ {xs:List (List PV)} {e:Env},Rg P H f nt ps assign body R ds K xs e->∃ n0,
  (∃ e',(∀ n m j,n0<=n->n0<=m->zDg nt (zN7 P H f nt n m) ps assign body R ds xs e j=some (none,e'))/\K .norm e' none) \/
  (∃ i y e',i<xs.length/\y ≠ .norm/\(∀ n m j,n0<=n->n0<=m->zDg nt (zN7 P H f nt n m) ps assign body R ds xs e j=some (some (j+i+1,y),e')) /\
   (∀ n m j,n0<=n->n0<=m->zDg nt (zN7 P H f nt n m) ps assign body R ds (xs.take (i+1)) e j=some (some (j+i+1,y),e'))/\K y e' none)
 |[],e,h=>⟨0,.inl ⟨e,fun _ _ _ _ _=>rfl,h⟩⟩
 | x :: xs,e,h=>by
  obtain⟨n1,y,e3,h1,h2⟩:=zLW.run h
  cases y with
  | norm =>
   cases R with
   | nil =>
    simp only at h2;obtain⟨n2,h3⟩:=Rg.run h2;refine⟨max n1 n2,?_⟩;rcases h3 with⟨e',h3,h4⟩|⟨i,y,e',hi,hy,h3,h4,h5⟩
    ·exact .inl ⟨e',fun n m j hn hm=>by rw[zBR,h1 n m (by omega) (by omega)];exact h3 n m _ (by omega) (by omega),h4⟩
    ·refine .inr ⟨i+1,y,e',by simp;omega,hy,fun n m j hn hm=>?_,fun n m j hn hm=>?_,h5⟩
     ·rw[zBR,h1 n m (by omega) (by omega)];simp only;rw[h3 n m _ (by omega) (by omega)];simp only[ba,bz,and_true];omega
     ·rw[d7,zBR,h1 n m (by omega) (by omega)];simp only;rw[h4 n m _ (by omega) (by omega)];simp only[ba,bz,and_true];omega
   | cons r R' =>
    simp only at h2;obtain⟨hc,e1,hf,hr⟩:=h2;obtain⟨n3,z,e4,h6,rfl,h7⟩:=zLW.run hr;obtain⟨n2,h3⟩:=Rg.run h7;refine⟨max n1 (max n2 n3),?_⟩;rcases h3 with⟨e',h3,h4⟩|⟨i,y,e',hi,hy,h3,h4,h5⟩
    ·exact .inl ⟨e',fun n m j hn hm=>by rw[zBR,h1 n m (by omega) (by omega)];simp only[hc,cond_true,hf,h6 n m (by omega) (by omega)];exact h3 n m _ (by omega) (by omega),h4⟩
    ·refine .inr ⟨i+1,y,e',by simp;omega,hy,fun n m j hn hm=>?_,fun n m j hn hm=>?_,h5⟩
     ·rw[zBR,h1 n m (by omega) (by omega)];simp only[hc,cond_true,hf,h6 n m (by omega) (by omega)];rw[h3 n m _ (by omega) (by omega)];simp only[ba,bz,and_true];omega
     ·rw[d7,zBR,h1 n m (by omega) (by omega)];simp only[hc,cond_true,hf,h6 n m (by omega) (by omega)];rw[h4 n m _ (by omega) (by omega)];simp only[ba,bz,and_true];omega
  |ex id=>
   refine⟨n1,.inr ⟨0,.ex id,_,by simp,by simp,fun n m j hn hm=>?_,fun n m j hn hm=>?_,h2⟩⟩
   ·rw[zBR,h1 n m (by omega) (by omega)]
   ·rw[d7,zBR,h1 n m (by omega) (by omega)]
  |ret=>
   refine⟨n1,.inr ⟨0,.ret,_,by simp,by simp,fun n m j hn hm=>?_,fun n m j hn hm=>?_,h2⟩⟩
   ·rw[zBR,h1 n m (by omega) (by omega)]
   ·rw[d7,zBR,h1 n m (by omega) (by omega)]
def rgT:Code->ON
 |.rangeFunc (.tmp t) _ _ _=>some t|_=>none
def zZs:Code->List Tmp
 |.rangeFunc _ ps _ _=>ps.toList|_=>[]
def rgA:Code->Code
 |.rangeFunc _ _ a _=>a|c=>c
def rgB:Code->Code
 |.rangeFunc _ _ _ b=>b|c=>c
def zYa(c:Code):LN:=zZs c++zBZ (rgA c)++zBZ (rgB c)
theorem zWW{t:Tmp}{ps:Array Tmp}{assign body:Code}{g:FuncId}{first caps:List PV}{R:LN}{xs:List (List PV)}(yN:zDV e t=some (g,first,caps,R))(hY:zGs g first caps xs)
  (h:Rg P H f nt ps.toList assign body R (ps.toList++zBZ assign++zBZ body) K xs e):W P H f nt (.rangeFunc (.tmp t) ps assign body) e none K:=by
 obtain⟨hY1,hY2⟩:=hY;obtain⟨n2,hr⟩:=Rg.run h;rcases hr with⟨e',h3,h4⟩|⟨i,y,e',hi,hy,h3,h4,h5⟩
 ·refine⟨n2+1,.norm,e',none,fun n m hn hm=>?_,h4⟩;obtain⟨m,rfl⟩:∃ k,m=k+1:=⟨m-1,by omega⟩;show(zHH nt Yo.yo zCb (zN7 P H f nt n m) t ps.toList assign body e).map (fun x=>(x.1,x.2,none))=_
  simp only[zHH,yN,zJN (fun i=>hY1 i),h3 n m 0 (by omega) (by omega),bv]
 ·have hY2:=hY2 (i+1) (by omega) (by omega);refine⟨n2+1,y,e',none,fun n m hn hm=>?_,h5⟩;obtain⟨m,rfl⟩:∃ k,m=k+1:=⟨m-1,by omega⟩;show(zHH nt Yo.yo zCb (zN7 P H f nt n m) t ps.toList assign body e).map (fun x=>(x.1,x.2,none))=_
  simp only[zHH,yN,zJN (fun i=>hY1 i),h3 n m 0 (by omega) (by omega)];have hcast:((0+i+1:Nat):Int)=((i+1:Nat):Int):=by omega
  rw[hcast,zJN (fun i=>hY2 i)];simp only[h4 n m 0 (by omega) (by omega),cj];rw[if_pos ⟨trivial,by omega⟩];rfl
theorem zUf{c:Code}{t g:Nat}{first caps:List PV}{R:LN}{xs:List (List PV)}(hY:zGs g first caps xs)(h:Rg P H f nt (zZs c) (rgA c) (rgB c) R (zYa c) K xs e)(yN:zDV e t=some (g,first,caps,R):=by kernel_rfl)(hc:rgT c=some t:=by kernel_rfl)(hl:lg=none:=by kernel_rfl):W P H f nt c e lg K:=by
 subst hl;cases c<;>try (cases hc;done)
 rename_i x ps a b;cases x<;>try (cases hc;done)
 rename_i u;simp only[rgT,ba] at hc;subst hc;exact zWW yN hY h
theorem zXM{σ:Type}{c:Code}{t g:Nat}{first caps:List PV}{xs:List (List PV)}(hY:zGs g first caps xs)(Inv:Nat->σ->Prop)(I:σ->Env)(s:σ)(hi:Inv 0 s)
  (h:∀ j x s,xs[j]? = some x->Inv j s->zLW P H f nt (zZs c) (rgA c) (rgB c) x (I s) fun y e3=>match y with
   |.norm=>∃ s',Inv (j+1) s'/\after nt [] (zYa c) (I s) e3=I s'|y=>K y (after nt [] (zYa c) (I s) e3) none) (hK:∀ s,Inv xs.length s->K .norm (I s) none) (hs:e=I s:=by kernel_rfl) (yN:zDV e t=some (g,first,caps,[]):=by kernel_rfl) (hc:rgT c=some t:=by kernel_rfl) (hl:lg=none:=by kernel_rfl):W P H f nt c e lg K:=by
 refine zUf hY ?_ yN hc hl;clear yN hY;subst hs;have key:∀ (ys:List (List PV)) (j:Nat) (s:σ),xs.drop j=ys->j<=xs.length->Inv j s->Rg P H f nt (zZs c) (rgA c) (rgB c) [] (zYa c) K ys (I s):=by
  intro ys
  induction ys with
  | nil =>
   intro j s hd hj hi;have:j=xs.length:=by
    have:=congrArg length hd;simp at this;omega
   subst this;exact hK s hi
  | cons x ys ih =>
   intro j s hd hj hi;have hx:xs[j]? = some x:=by
    have:=congrArg (fun l=>l[0]?) hd;simpa using this
   have yG:=(bg.1 hx).1;obtain⟨e1,h1,h2⟩:=h j x s hx hi;refine⟨e1,h1,zR3 h2 fun y e2 lg ⟨a1,a2,a3⟩=>⟨a1,a2,zR3 a3 fun y e3 lg ⟨b1,b2⟩=>⟨b1,?_⟩⟩⟩
   cases y with
   |norm=>
    obtain⟨s',jK,he⟩:=b2;simp only;rw[he];refine ih (j+1) s' ?_ (by omega) jK;rw[<- dA,hd];rfl
   |ex id=>exact b2|ret=>exact b2
 exact key xs 0 s rfl (by omega) hi
theorem zPt{ps:List Tmp}{a b:Code}{x:List PV}{K:X->Env->Prop}(h:W P H f nt a ((zCB ps x e).getD []) none fun y e2 lg=>y = .norm/\lg=none/\W P H f nt b e2 none fun y e3 lg=>lg=none/\K y e3)(hp:(zCB ps x e).isSome=true:=by kernel_rfl):zLW P H f nt ps a b x e K:=by
 obtain⟨e1,h1⟩:=dY.1 hp;rw[h1] at h;exact⟨e1,h1,h⟩
omit [Yo] in
theorem zU0(fn:Func){g:FuncId}{first caps:List PV}{k:Int}{xs:List (List PV)}(h:∀ i,@W yo0 P H g fn.ntmps (fn.body.getD .ret) (zBf (first++PV.yld i::caps) []) (some ⟨[],k,i⟩) fun x _ lg=>(x = .norm\/x = .ret)/\lg.map (·.xs)=some xs)(hk:k≠0)
  (hf:P.funcs[g]? = some fn:=by kernel_rfl) (hb:fn.body.isSome=true:=by kernel_rfl) (hc:∀ i,(ble (first++PV.yld i::caps).length fn.ntmps&&fn.results.isEmpty&&(first++caps).all (fun p=>!p.isTup))=true:=by intro i;kernel_rfl) (hin:beq (H g).intr 0=true:=by kernel_rfl):@zVV (yo1 P H) g first caps k xs:=by
 intro i;obtain⟨body,hb⟩:∃ body,fn.body=some body:=by cases hx:fn.body<;>first|exact⟨_,rfl⟩|(rw[hx] at hb;cases hb)
 have h:=h i;simp only[hb,dd] at h;obtain⟨n0,x,e1,lg1,h1,hx,hl⟩:=h;refine zXd (n0:=n0) fun n hn=>?_;have ji:=h1 n (n+1) (by omega) (by omega)
 cases lg1 with
 |none=>cases hl|some l=>
  simp only[bv,ba] at hl;simp only[zUu,zZe,hf,hb];have wm:(k != 0)=true:=by simpa using hk
  have hc':=hc i;rw[hc',wm,hin];simp only[dT,cond_true,ji];rcases hx with rfl|rfl<;>simp[hl]
end
end Go.Eng
namespace Go.Eng
open Go
inductive PX where
 |ok|fail|emb (p:PM)
 |view (s:Nat) (k:PV->PX)|get (s:Nat) (k:PV->PX)|set (s:Nat) (p:PV) (k:PX)
 |cells (r:Nat) (pre:zA4) (i c n:Nat) (k:Bool->List PV->PX)|deep (r:Nat) (pre:zA4) (k:PV->PX)
 |wcells (r:Nat) (pre:zA4) (i c:Nat) (qs:List PV) (k:PX)|wnode (r:Nat) (pre:zA4) (q:PV) (k:PX)
 |kill (r:Nat) (pre:zA4) (k:PX)|frz (r:Nat) (pre:zA4) (k:PX)|frzp (r:Nat) (pre:zA4) (p:PV) (k:PV->PX)|killEx (r:Nat) (keep:List zA4) (k:PX)
 |call (f:FuncId) (args hid:List PV) (k:PV->List PV->PX)
 |test (b:Bool) (k:PX)|pick (x:Option PV) (k:PV->PX)|num (x:ON) (k:Nat->PX)|idx (x:Option ON) (k:ON->PX)
 |choose (b:Bool) (k1 k2:PX)|same (p:PV) (k:PV->PX)|sames (ps:List PV) (k:List PV->PX)
 |nats (x:LN) (k:LN->PX)|pure (d:ON) (f:FuncId) (args:List PV) (k:PX)
def PX.toPM:PX->PM
 |.ok=>.ok|.fail=>.fail|.emb p=>p|.view s k=>.view s fun p=>(k p).toPM
 |.get s k=>.get s fun p=>(k p).toPM
 |.set s p k=>.set s p k.toPM|.cells r pre i c n k=>.cells r pre i c n fun a qs=>(k a qs).toPM
 |.deep r pre k=>.deep r pre fun q=>(k q).toPM
 |.wcells r pre i c qs k=>.wcells r pre i c qs k.toPM|.wnode r pre q k=>.wnode r pre q k.toPM|.kill r pre k=>.kill r pre k.toPM|.frz r pre k=>.frz r pre k.toPM|.frzp r pre p k=>.frz r pre (k p).toPM|.killEx r keep k=>.killEx r keep k.toPM|.call f args hid k=>.call f args hid fun v h=>(k v h).toPM
 |.test b k=>bif b then k.toPM else .fail|.pick x k=>match x with
  |some v=>(k v).toPM|none=>.fail
 |.num x k=>match x with
  |some v=>(k v).toPM|none=>.fail
 |.idx x k=>match x with
  |some v=>(k v).toPM|none=>.fail
 |.choose b k1 k2=>bif b then k1.toPM else k2.toPM|.same p k=>(k p).toPM|.sames ps k=>(k ps).toPM|.nats x k=>(k x).toPM|.pure _ _ _ k=>k.toPM
inductive An where
 |ob|v (p:PV)|vs (ps:List PV)|n (k:Nat)|ix (k:ON)|yes|no|cs (a:Bool) (qs:List PV)|root (r:PV) (kept:Bool)|ret (v:PV) (hid:List PV)|ns (l:LN)|env (e:Env)|envv (e:Env) (q:PV)
abbrev Ans:=List (Nat×An)
def zGy:Ans->Option An×Ans
 |[]=>(none,[])|(0,a)::l=>(some a,l)|(n+1,a)::l=>(none,(n,a)::l)
section
variable [Yo] (P:Program) (H:zBg)
def zUx(f:FuncId)(args:List PV)(v:PV):Prop:=∀ (d:ON) (e:Env),∃ n0,∀ n,n0<=n->(zOt H d f args).runT (zCZ P H n) e=(put d v).runT (zCZ P H n) e
abbrev XR:=Option (Env×Tok×List Prop)
def XR.tok(t:Tok)(x:XR):XR:=x.map fun y=>(y.1,Tok.join t y.2.1,y.2.2)
def XR.ob(q:Prop)(x:XR):XR:=x.map fun y=>(y.1,y.2.1,q::y.2.2)
def PX.run:PX->Ans->Env->XR
 |.ok,_,e=>some (e,{},[])|.fail,_,_=>none|.emb p,_,e=>(p.runT zIo e).map fun y=>(y.1,y.2,[])
 |.view s k,as,e=>((k (Eng.view s (e.get s))).run as e).tok {look:=[s]}|.get s k,as,e=>match e.get s with
  |.lock _=>none|p=>((k p).run as e).tok {rd:=[s]}
 |.set s p k,as,e=>(k.run as (e.set s p)).tok (zFF s (e.get s) p)
 | .cells r pre i c n k,as,e=>match zGy as with
  |(none,as)=>match zAq r (e.get r) pre i c n with
   |some (a,qs)=>((k a qs).run as e).tok {cel:=[(r,pre)]}|none=>none
  |(some (.cs a qs),as)=>(((k a qs).run as e).tok {cel:=[(r,pre)]}).ob (zAq r (e.get r) pre i c n=some (a,qs))|_=>none
 | .deep r pre k,as,e=>match zGy as with
  |(none,as)=>match zAH (e.get r).unlock pre with
   |some q=>((k q).run as e).tok {rd:=[r]}|none=>none
  |(some (.v q),as)=>(((k q).run as e).tok {rd:=[r]}).ob (zAH (e.get r).unlock pre=some q)|_=>none
 | .wcells r pre i c qs k,as,e=>match zGy as with
  |(none,as)=>match zBv (e.get r) pre i c qs with
   |some root=>(k.run as (e.set r root)).tok (zBj r [] (zAI (e.get r) root pre) (e.get r) root)|none=>none
  |(some (.root root kp),as)=>((k.run as (e.set r root)).tok (zBj r [] kp (e.get r) root)).ob (zBv (e.get r) pre i c qs=some root/\zAI (e.get r) root pre=kp)|_=>none
 | .wnode r pre q k,as,e=>match zGy as with
  |(none,as)=>bif (e.get r).isLock then none else match zAz (fun _=>some q) (e.get r) pre with
   |some root=>(k.run as (e.set r root)).tok (zBj r pre.dropLast (zAI (e.get r) root pre&&(pre.isEmpty || !q.isAgg)) (e.get r) root)|none=>none
  |(some (.root root kp),as)=>bif (e.get r).isLock then none else((k.run as (e.set r root)).tok (zBj r pre.dropLast (kp&&(pre.isEmpty || !q.isAgg)) (e.get r) root)).ob (zAz (fun _=>some q) (e.get r) pre=some root/\zAI (e.get r) root pre=kp)
  |_=>none
 |.kill r pre k,as,e=>(k.run as (e.kill r pre)).tok (zAV (zDl e fun z=>zAU r pre z.1 z.2) e.get (e.kill r pre).get [r] [])
 | .frz r pre k,as,e=>match zGy as with
  |(none,as)=>match e.frz r pre with
   |some e'=>(k.run as e').tok (zAV (r::zDl e fun z=>zAU r pre z.1 z.2) e.get e'.get [r] [])
   |none=>none
  |(some (.env e'),as)=>((k.run as e').tok (zAV (r::zDl e fun z=>zAU r pre z.1 z.2) e.get e'.get [r] [])).ob (e.frz r pre=some e')
  |_=>none
 | .frzp r pre p k,as,e=>match zGy as with
  |(none,as)=>match e.frz r pre with
   |some e'=>((k p).run as e').tok (zAV (r::zDl e fun z=>zAU r pre z.1 z.2) e.get e'.get [r] [])
   |none=>none
  |(some (.env e'),as)=>(((k p).run as e').tok (zAV (r::zDl e fun z=>zAU r pre z.1 z.2) e.get e'.get [r] [])).ob (e.frz r pre=some e')
  |(some (.envv e' q),as)=>(((k q).run as e').tok (zAV (r::zDl e fun z=>zAU r pre z.1 z.2) e.get e'.get [r] [])).ob (e.frz r pre=some e'/\p=q)
  |_=>none
 |.killEx r keep k,as,e=>(k.run as (e.killEx r keep)).tok (zAV (zDl e fun z=>beq z.1 r && !z.2.isEmpty) e.get (e.killEx r keep).get [] [r])
 |.call f args hid k,as,e=>match zGy as with
  |(some (.ret v hX),as)=>((k v hX).run as e).ob (zBD P H f args hid v hX)|_=>none
 |.test b k,as,e=>match zGy as with
  |(none,as)=>bif b then k.run as e else none|(some .ob,as)=>(k.run as e).ob (b=true)|_=>none
 | .pick x k,as,e=>match zGy as with
  |(none,as)=>match x with
   |some v=>(k v).run as e|none=>none
  |(some (.v v),as)=>((k v).run as e).ob (x=some v)|_=>none
 | .num x k,as,e=>match zGy as with
  |(none,as)=>match x with
   |some v=>(k v).run as e|none=>none
  |(some (.n v),as)=>((k v).run as e).ob (x=some v)|_=>none
 | .idx x k,as,e=>match zGy as with
  |(none,as)=>match x with
   |some v=>(k v).run as e|none=>none
  |(some (.ix v),as)=>((k v).run as e).ob (x=some v)|_=>none
 |.choose b k1 k2,as,e=>match zGy as with
  |(none,as)=>bif b then k1.run as e else k2.run as e|(some .yes,as)=>(k1.run as e).ob (b=true)|(some .no,as)=>(k2.run as e).ob (b=false)|_=>none
 |.same p k,as,e=>match zGy as with
  |(none,as)=>(k p).run as e|(some (.v q),as)=>((k q).run as e).ob (p=q)|_=>none
 |.sames ps k,as,e=>match zGy as with
  |(none,as)=>(k ps).run as e|(some (.vs qs),as)=>((k qs).run as e).ob (ps=qs)|_=>none
 |.nats x k,as,e=>match zGy as with
  |(none,as)=>(k x).run as e|(some (.ns l),as)=>((k l).run as e).ob (x=l)|_=>none
 |.pure d f args k,as,e=>match zGy as with
  |(none,as)=>k.run as e|(some (.v v),_)=>XR.ob (zUx P H f args v/\k.toPM=zOt H d f args) (((put d v).runT zIo e).map fun y=>(y.1,y.2,[]))
  |_=>none
def zRG:List Prop->Prop
 |[]=>True|p::ps=>p/\zRG ps
end
section
variable [Yo] {P:Program} {H:zBg}
theorem XR.tok_some{t u:Tok}{x:XR}{e':Env}{obs:List Prop}(h:x.tok t=some (e',u,obs)):∃ u',x=some (e',u',obs)/\u=Tok.join t u':=by
 obtain⟨⟨a,b,c⟩,h1,h2⟩:=bm.1 h;simp only[bz] at h2;obtain⟨rfl,rfl,rfl⟩:=h2;exact⟨_,h1,rfl⟩
theorem XR.ob_some{q:Prop}{u:Tok}{x:XR}{e':Env}{obs:List Prop}(h:x.ob q=some (e',u,obs)):∃ o',x=some (e',u,o')/\obs=q::o':=by
 obtain⟨⟨a,b,c⟩,h1,h2⟩:=bm.1 h;simp only[bz] at h2;obtain⟨rfl,rfl,rfl⟩:=h2;exact⟨_,h1,rfl⟩
theorem PX.run_ok:∀ {p:PX} {as:Ans} {e e':Env} {t:Tok} {obs:List Prop},p.run P H as e=some (e',t,obs)->zRG obs->∃ n0,∀ n,n0<=n->p.toPM.runT (zCZ P H n) e=some (e',t):=by
 intro p
 induction p with
 |ok=>intro as e e' t obs h _;simp only[PX.run,ba,bz] at h;obtain⟨rfl,rfl,_⟩:=h;exact⟨0,fun _ _=>rfl⟩
 |fail=>intro as e e' t obs h _;cases h|emb p=>
  intro as e e' t obs h _;obtain⟨⟨a,b⟩,h1,h2⟩:=bm.1 h;simp only[bz] at h2;obtain⟨rfl,rfl,_⟩:=h2;exact⟨0,fun _ _=>zIF h1⟩
 |view s k ih=>
  intro as e e' t obs h ha;obtain⟨u,h1,rfl⟩:=XR.tok_some h;obtain⟨n0,h2⟩:=ih _ h1 ha;exact⟨n0,fun n hn=>by simp only[PX.toPM,PM.runT,h2 n hn];rfl⟩
 | get s k ih =>
  intro as e e' t obs h ha;simp only[PX.run] at h;cases hg:e.get s<;>rw[hg] at h<;>simp only at h<;>try (cases h;done)
  all_goals
   obtain⟨u,h1,rfl⟩:=XR.tok_some h;obtain⟨n0,h2⟩:=ih _ h1 ha;exact⟨n0,fun n hn=>by simp only[PX.toPM,PM.runT,hg,h2 n hn];rfl⟩
 |set s q k ih=>
  intro as e e' t obs h ha;obtain⟨u,h1,rfl⟩:=XR.tok_some h;obtain⟨n0,h2⟩:=ih h1 ha;exact⟨n0,fun n hn=>by simp only[PX.toPM,PM.runT,h2 n hn];rfl⟩
 | cells r pre i c n k ih =>
  intro as e e' t obs h ha;simp only[PX.run] at h;split at h
  ·split at h
   ·rename_i hr;obtain⟨u,h1,rfl⟩:=XR.tok_some h;obtain⟨n0,h2⟩:=ih _ _ h1 ha;exact⟨n0,fun n hn=>by simp only[PX.toPM,PM.runT,hr,h2 n hn];rfl⟩
   ·cases h
  ·obtain⟨o,h0,rfl⟩:=XR.ob_some h;obtain⟨u,h1,rfl⟩:=XR.tok_some h0;obtain⟨n0,h2⟩:=ih _ _ h1 ha.2;exact⟨n0,fun n hn=>by simp only[PX.toPM,PM.runT,ha.1,h2 n hn];rfl⟩
  ·cases h
 | deep r pre k ih =>
  intro as e e' t obs h ha;simp only[PX.run] at h;split at h
  ·split at h
   ·rename_i hr;obtain⟨u,h1,rfl⟩:=XR.tok_some h;obtain⟨n0,h2⟩:=ih _ h1 ha;exact⟨n0,fun n hn=>by simp only[PX.toPM,PM.runT,hr,h2 n hn];rfl⟩
   ·cases h
  ·obtain⟨o,h0,rfl⟩:=XR.ob_some h;obtain⟨u,h1,rfl⟩:=XR.tok_some h0;obtain⟨n0,h2⟩:=ih _ h1 ha.2;exact⟨n0,fun n hn=>by simp only[PX.toPM,PM.runT,ha.1,h2 n hn];rfl⟩
  ·cases h
 | wcells r pre i c qs k ih =>
  intro as e e' t obs h ha;simp only[PX.run] at h;split at h
  ·split at h
   ·rename_i hr;obtain⟨u,h1,rfl⟩:=XR.tok_some h;obtain⟨n0,h2⟩:=ih h1 ha;exact⟨n0,fun n hn=>by simp only[PX.toPM,PM.runT,hr,h2 n hn];rfl⟩
   ·cases h
  ·obtain⟨o,h0,rfl⟩:=XR.ob_some h;obtain⟨u,h1,rfl⟩:=XR.tok_some h0;obtain⟨n0,h2⟩:=ih h1 ha.2;exact⟨n0,fun n hn=>by simp only[PX.toPM,PM.runT,ha.1.1,ha.1.2,h2 n hn];rfl⟩
  ·cases h
 | wnode r pre q k ih =>
  intro as e e' t obs h ha;simp only[PX.run] at h;split at h
  ·rcases zBn h with⟨_,h⟩|⟨hl,h⟩
   ·cases h
   ·split at h
    ·rename_i hr;obtain⟨u,h1,rfl⟩:=XR.tok_some h;obtain⟨n0,h2⟩:=ih h1 ha;exact⟨n0,fun n hn=>by simp only[PX.toPM,PM.runT,hl,cond_false,hr,h2 n hn];rfl⟩
    ·cases h
  ·rcases zBn h with⟨_,h⟩|⟨hl,h⟩
   ·cases h
   ·obtain⟨o,h0,rfl⟩:=XR.ob_some h;obtain⟨u,h1,rfl⟩:=XR.tok_some h0;obtain⟨n0,h2⟩:=ih h1 ha.2;exact⟨n0,fun n hn=>by simp only[PX.toPM,PM.runT,hl,cond_false,ha.1.1,ha.1.2,h2 n hn];rfl⟩
  ·cases h
 |kill r pre k ih=>
  intro as e e' t obs h ha;obtain⟨u,h1,rfl⟩:=XR.tok_some h;obtain⟨n0,h2⟩:=ih h1 ha;exact⟨n0,fun n hn=>by simp only[PX.toPM,PM.runT,h2 n hn];rfl⟩
 | frz r pre k ih =>
  intro as e e' t obs h ha;simp only[PX.run] at h;split at h
  ·split at h
   ·rename_i hr;obtain⟨u,h1,rfl⟩:=XR.tok_some h;obtain⟨n0,h2⟩:=ih h1 ha;exact⟨n0,fun n hn=>by simp only[PX.toPM,PM.runT,hr,h2 n hn];rfl⟩
   ·cases h
  ·obtain⟨o,h0,rfl⟩:=XR.ob_some h;obtain⟨u,h1,rfl⟩:=XR.tok_some h0;obtain⟨n0,h2⟩:=ih h1 ha.2;exact⟨n0,fun n hn=>by simp only[PX.toPM,PM.runT,ha.1,h2 n hn];rfl⟩
  ·cases h
 | frzp r pre p k ih =>
  intro as e e' t obs h ha;simp only[PX.run] at h;split at h
  ·split at h
   ·rename_i hr;obtain⟨u,h1,rfl⟩:=XR.tok_some h;obtain⟨n0,h2⟩:=ih _ h1 ha;exact⟨n0,fun n hn=>by simp only[PX.toPM,PM.runT,hr,h2 n hn];rfl⟩
   ·cases h
  ·obtain⟨o,h0,rfl⟩:=XR.ob_some h;obtain⟨u,h1,rfl⟩:=XR.tok_some h0;obtain⟨n0,h2⟩:=ih _ h1 ha.2;exact⟨n0,fun n hn=>by simp only[PX.toPM,PM.runT,ha.1,h2 n hn];rfl⟩
  ·obtain⟨o,h0,rfl⟩:=XR.ob_some h;obtain⟨u,h1,rfl⟩:=XR.tok_some h0;obtain⟨⟨hf,rfl⟩,ha⟩:=ha;obtain⟨n0,h2⟩:=ih _ h1 ha;exact⟨n0,fun n hn=>by simp only[PX.toPM,PM.runT,hf,h2 n hn];rfl⟩
  ·cases h
 |killEx r keep k ih=>
  intro as e e' t obs h ha;obtain⟨u,h1,rfl⟩:=XR.tok_some h;obtain⟨n0,h2⟩:=ih h1 ha;exact⟨n0,fun n hn=>by simp only[PX.toPM,PM.runT,h2 n hn];rfl⟩
 |call f args hid k ih=>
  intro as e e' t obs h ha;simp only[PX.run] at h;split at h
  ·obtain⟨o,h1,rfl⟩:=XR.ob_some h;obtain⟨n0,h2⟩:=ih _ _ h1 ha.2;obtain⟨n1,h3⟩:=ha.1;exact⟨max n0 n1,fun n hn=>by simp only[PX.toPM,PM.runT,h3 n (by omega),h2 n (by omega)]⟩
  ·cases h
 | test b k ih =>
  intro as e e' t obs h ha;simp only[PX.run] at h;split at h
  ·rcases zBn h with⟨hb,h⟩|⟨_,h⟩
   ·obtain⟨n0,h2⟩:=ih h ha;exact⟨n0,fun n hn=>by simp only[PX.toPM,hb,cond_true,h2 n hn]⟩
   ·cases h
  ·obtain⟨o,h1,rfl⟩:=XR.ob_some h;obtain⟨n0,h2⟩:=ih h1 ha.2;exact⟨n0,fun n hn=>by simp only[PX.toPM,ha.1,cond_true,h2 n hn]⟩
  ·cases h
 | pick x k ih =>
  intro as e e' t obs h ha;simp only[PX.run] at h;split at h
  ·split at h
   ·obtain⟨n0,h2⟩:=ih _ h ha;exact⟨n0,fun n hn=>by simp only[PX.toPM,h2 n hn]⟩
   ·cases h
  ·obtain⟨o,h1,rfl⟩:=XR.ob_some h;obtain⟨n0,h2⟩:=ih _ h1 ha.2;exact⟨n0,fun n hn=>by simp only[PX.toPM,ha.1,h2 n hn]⟩
  ·cases h
 | num x k ih =>
  intro as e e' t obs h ha;simp only[PX.run] at h;split at h
  ·split at h
   ·obtain⟨n0,h2⟩:=ih _ h ha;exact⟨n0,fun n hn=>by simp only[PX.toPM,h2 n hn]⟩
   ·cases h
  ·obtain⟨o,h1,rfl⟩:=XR.ob_some h;obtain⟨n0,h2⟩:=ih _ h1 ha.2;exact⟨n0,fun n hn=>by simp only[PX.toPM,ha.1,h2 n hn]⟩
  ·cases h
 | idx x k ih =>
  intro as e e' t obs h ha;simp only[PX.run] at h;split at h
  ·split at h
   ·obtain⟨n0,h2⟩:=ih _ h ha;exact⟨n0,fun n hn=>by simp only[PX.toPM,h2 n hn]⟩
   ·cases h
  ·obtain⟨o,h1,rfl⟩:=XR.ob_some h;obtain⟨n0,h2⟩:=ih _ h1 ha.2;exact⟨n0,fun n hn=>by simp only[PX.toPM,ha.1,h2 n hn]⟩
  ·cases h
 | choose b k1 k2 ih1 ih2 =>
  intro as e e' t obs h ha;simp only[PX.run] at h;split at h
  ·rcases zBn h with⟨hb,h⟩|⟨hb,h⟩
   ·obtain⟨n0,h2⟩:=ih1 h ha;exact⟨n0,fun n hn=>by simp only[PX.toPM,hb,cond_true,h2 n hn]⟩
   ·obtain⟨n0,h2⟩:=ih2 h ha;exact⟨n0,fun n hn=>by simp only[PX.toPM,hb,cond_false,h2 n hn]⟩
  ·obtain⟨o,h1,rfl⟩:=XR.ob_some h;obtain⟨n0,h2⟩:=ih1 h1 ha.2;exact⟨n0,fun n hn=>by simp only[PX.toPM,ha.1,cond_true,h2 n hn]⟩
  ·obtain⟨o,h1,rfl⟩:=XR.ob_some h;obtain⟨n0,h2⟩:=ih2 h1 ha.2;exact⟨n0,fun n hn=>by simp only[PX.toPM,ha.1,cond_false,h2 n hn]⟩
  ·cases h
 |same p k ih=>
  intro as e e' t obs h ha;simp only[PX.run] at h;split at h
  ·exact ih _ h ha
  ·obtain⟨o,h1,rfl⟩:=XR.ob_some h;obtain⟨n0,h2⟩:=ih _ h1 ha.2;exact⟨n0,fun n hn=>by simp only[PX.toPM,ha.1,h2 n hn]⟩
  ·cases h
 |sames ps k ih=>
  intro as e e' t obs h ha;simp only[PX.run] at h;split at h
  ·exact ih _ h ha
  ·obtain⟨o,h1,rfl⟩:=XR.ob_some h;obtain⟨n0,h2⟩:=ih _ h1 ha.2;exact⟨n0,fun n hn=>by simp only[PX.toPM,ha.1,h2 n hn]⟩
  ·cases h
 |nats x k ih=>
  intro as e e' t obs h ha;simp only[PX.run] at h;split at h
  ·exact ih _ h ha
  ·obtain⟨o,h1,rfl⟩:=XR.ob_some h;obtain⟨n0,h2⟩:=ih _ h1 ha.2;exact⟨n0,fun n hn=>by simp only[PX.toPM,ha.1,h2 n hn]⟩
  ·cases h
 |pure d f args k ih=>
  intro as e e' t obs h ha;simp only[PX.run] at h;split at h
  ·exact ih h ha
  ·obtain⟨o,h1,rfl⟩:=XR.ob_some h;obtain⟨⟨a,b⟩,h2,h3⟩:=bm.1 h1;simp only[bz] at h3;obtain⟨rfl,rfl,_⟩:=h3;obtain⟨⟨hp,hk⟩,_⟩:=ha;obtain⟨n0,hp⟩:=hp d e;exact⟨n0,fun n hn=>by simp only[PX.toPM];rw[hk,hp n hn];exact zIF h2⟩
  ·cases h
end
end Go.Eng
namespace Go.Eng
open Go
def zG6(x:Operand)(k:PV->PX):PX :=
 match x with
 |.tmp t=>.view t k|.const v=>k (zEM v)|.func f=>k (.func f [] [])|.global _=>.fail
def zKG(x:Operand)(k:PV->PX):PX :=
 match x with
 |.tmp t=>.get t fun p=>.choose p.heavy (.set t .bad (k p)) (k p)
 |.const v=>k (zEM v)|.func f=>k (.func f [] [])|.global _=>.fail
def zQM:List Operand->(List PV->PX)->PX
 |[],k=>k []|x::xs,k=>zG6 x fun p=>zQM xs fun ps=>k (p::ps)
def zYg(d:Nat)(p:PV)(k:PX):PX := .choose p.heavy (.kill d [] (.set d (p.mapW (lose d [])) k)) (.set d p k)
def zGw(d:ON)(p:PV):PX :=
 match d with
 |none=>.ok|some d=>.same p fun p=>bif p.isTup then .fail else zYg d p .ok
def zHJ(d:Nat):Nat->List PV->PX->PX
 |n,[],k=>.set d (.tup (replicate n .bad)) k|i,p::ps,k=>.same p fun p=>zYg (zBy d i) p (zHJ d (i+1) ps k)
def zFB(d:ON)(v:PV):PX :=
 match d,v with
 |some d,.tup vs=>.test (ble vs.length 16) (.test ((zBx vs).all (fun w=>!zJg d w.1)) (.set d .bad (zHJ d 0 vs .ok)))
 |d,v=>zGw d v
def zF5:PV->(Nat->PX)->PX
 |.int _ n,k=>.test (decide (0<=n)) (.num (some n.toNat) k)|_,_=>.fail
def zSb(r:Nat)(pre:zA4)(i c:Nat)(sh:ON)(k:PV->PX):PX :=
 match sh with
 |some n=>.cells r pre i c n fun a qs=>bif a then k (.agg qs) else .fail
 |none=>.cells r pre i c 1 fun _ qs=>k (qs.headD .bad)
def zHl(r:Nat)(pre:zA4)(i:Nat):Nat->List PV->PX->PX
 |_,[],k=>k|c,q::qs,k=>bif q.heavy then .kill r (pre++[(i,c)]) (zHl r pre i (c+1) qs k) else zHl r pre i (c+1) qs k
def zSA(r:Nat)(pre:zA4)(i c:Nat)(qs:List PV)(k:PX):PX := .choose (qs.all fun q=>!q.heavy) k (zHl r pre i c qs k)
section
variable {k:PX} {kp:PV->PX}
theorem zCj{x:Operand}{k:PV->PX}:(zG6 x k).toPM=opd x fun p=>(k p).toPM:=by cases x<;>rfl
theorem zBA{α:Type}{b:Bool}{x y:α}:(bif b then x else y)=if b=true then x else y:=by cases b<;>rfl
theorem zFb{x:Operand}{k:PV->PX}:(zKG x k).toPM=zON x fun p=>(k p).toPM:=by
 cases x<;>first|rfl|simp only[zKG,zON,PX.toPM,zBA]
theorem zI0:∀ {xs:List Operand} {k:List PV->PX},(zQM xs k).toPM=zVQ xs fun p=>(k p).toPM
 |[],_=>rfl|x::xs,k=>by simp only[zQM,zVQ,zCj,zI0]
theorem zLO{d:Nat}{p:PV}{k:PX}:(zYg d p k).toPM=lay d p k.toPM:=by simp only[zYg,lay,PX.toPM]
theorem zC6{b:Bool}{x y:PX}:(bif b then x else y).toPM=bif b then x.toPM else y.toPM:=by cases b<;>rfl
theorem zPC{c:Prop}[Decidable c]{x y:PX}:(if c then x else y).toPM=if c then x.toPM else y.toPM:=by split<;>rfl
theorem zBC{d:ON}{p:PV}:(zGw d p).toPM=put d p:=by
 cases d with
 |none=>rfl|some d=>simp only[zGw,put,PX.toPM,zC6,zLO]
theorem zIg{d:Nat}:∀ {ps:List PV} {i:Nat} {k:PX},(zHJ d i ps k).toPM=zFy d i ps k.toPM
 |[],_,_=>rfl|p::ps,i,k=>by simp only[zHJ,zFy,PX.toPM,zLO,zIg]
theorem zDn{α:Type}{a b:Bool}{x y:α}:(bif a&&b then x else y)=bif a then(bif b then x else y) else y:=by cases a<;>rfl
theorem zE8{d:ON}{v:PV}:(zFB d v).toPM=zDv d v:=by
 cases d with
 |none=>cases v<;>simp only[zFB,zDv,zBC]
 |some d=>cases v<;>simp only[zFB,zDv,PX.toPM,zIg,zDn,zBC]
theorem zEY{p:PV}{k:Nat->PX}:(zF5 p k).toPM=zGF p fun n=>(k n).toPM:=by
 cases p<;>first|rfl|skip
 simp only[zF5,zGF,PX.toPM,zBA,decide_eq_true_eq]
theorem zL2{r:Nat}{pre:zA4}{i c:Nat}{sh:ON}{k:PV->PX}:(zSb r pre i c sh k).toPM=zNb r pre i c sh fun p=>(k p).toPM:=by
 cases sh<;>simp only[zSb,zNb,PX.toPM,zC6]
theorem zJj{r:Nat}{pre:zA4}{i:Nat}:∀ {qs:List PV} {c:Nat} {k:PX},(zHl r pre i c qs k).toPM=zD6 r pre i c qs k.toPM
 |[],_,_=>rfl|q::qs,c,k=>by simp only[zHl,zD6,zC6,PX.toPM,zJj]
theorem zFj{r:Nat}{pre:zA4}{i:Nat}:∀ {qs:List PV} {c:Nat} {k:PM},(qs.all fun q=>!q.heavy)=true->zD6 r pre i c qs k=k
 |[],_,_,_=>rfl|q::qs,c,k,h=>by
  simp only[cF,bb,bG] at h;simp only[zD6,h.1,cond_false];exact zFj h.2
theorem zSM{r:Nat}{pre:zA4}{i c:Nat}{qs:List PV}{k:PX}:(zSA r pre i c qs k).toPM=zD6 r pre i c qs k.toPM:=by
 simp only[zSA,PX.toPM,zJj]
 cases h:qs.all fun q=>!q.heavy with
 |false=>rfl|true=>exact(zFj h).symm
end
def zEV(res:PV->(PV->List (Nat×zA4)->PX)->PX):List PV->(List PV->List (Nat×zA4)->PX)->PX
 |[],k=>k [] []|p::ps,k=>res p fun q l=>zEV res ps fun qs m=>k (q::qs) (l++m)
def zDM(hb:Nat):Nat->PV->(PV->List (Nat×zA4)->PX)->PX
 |0,_,_=>.fail
 | n + 1,p,k =>
  match p with
  |.addr r pre i c sh=>bif ble hb r then k p [] else .deep r pre fun q=>match zBi q with
   | some xs => .pick xs[i]? fun x=>match sh with
     |some m=>.test (ble (c+m) x.cells.length) (.test x.isAgg (zDM hb n (.agg ((x.cells.drop c).take m)) fun q l=>k (.ref q) ((r,pre)::l)))
     |none=>.pick x.cells[c]? fun q=>.test q.oneCell (zDM hb n q fun q l=>k (.ref q) ((r,pre)::l))
   |none=>.fail
  |.bor r pre _ lo m=>bif ble hb r then k p [] else .deep r pre fun q=>match q with
   |.own _ xs=>.test (ble (lo+m) xs.length) (.same (.sl (zAt ((xs.drop lo).take m))) fun p=>k p [(r,pre)])
   |_=>.fail
  |.bsl r pre i c sz ag m=>bif ble hb r then k p [] else .deep r pre fun q=>match zBi q with
   |some xs=>.pick xs[i]? fun x=>.test (zCt ag sz m ((x.cells.drop c).take (m*sz))) (.test (zBx x.cells).isEmpty (.same (.sl (zCw ag sz m (zAt ((x.cells.drop c).take (m*sz))))) fun p=>k p [(r,pre)]))
   |none=>.fail
  |.bmap r pre=>bif ble hb r then k p [] else .deep r pre fun q=>match q with
   |.omap es=>k (.map es) [(r,pre)]|_=>.fail
  |.agg cs=>.choose (p.ways).isEmpty (.same (zA0 p) fun q=>k q []) (zEV (zDM hb n) cs fun qs l=>k (.agg qs) l)
  |.func f a b=>.choose (p.ways).isEmpty (k p []) (zEV (zDM hb n) a fun as l=>zEV (zDM hb n) b fun bs m=>k (.func f as bs) (l++m))
  |.ref q=>.choose (q.ways).isEmpty (k p []) (zDM hb n q fun q l=>k (.ref q) l)
  |.bad=>k .bad []|p=>.test (p.ways.all (fun w=>ble hb w.1)) (.same (zA0 p) fun q=>k q [])
def zWv(p:PV)(k:PV->List (Nat×zA4)->PX):PX:=zDM zAa depth p k
theorem zIl{res:PV->(PV->List (Nat×zA4)->PX)->PX}{res':PV->(PV->List (Nat×zA4)->PM)->PM}(h:∀ p k,(res p k).toPM=res' p fun q l=>(k q l).toPM):∀ {ps:List PV} {k:List PV->List (Nat×zA4)->PX},(zEV res ps k).toPM=zED res' ps fun q l=>(k q l).toPM
 |[],_=>rfl|p::ps,k=>by simp only[zEV,zED,h,zIl h]
theorem zKg{hb:Nat}:∀ {n:Nat} {p:PV} {k:PV->List (Nat×zA4)->PX},(zDM hb n p k).toPM=resolve hb n p fun q l=>(k q l).toPM
 |0,_,_=>rfl
 | n + 1,p,k=>by
  have ih:∀ (p:PV) (k:PV->List (Nat×zA4)->PX),(zDM hb n p k).toPM=resolve hb n p fun q l=>(k q l).toPM:=fun p k=>zKg;cases p<;>simp only[zDM,resolve,zC6,PX.toPM,zDn,ih,zIl ih]
  ·congr 1;congr 1;funext q
   cases zBi q with
   |none=>rfl
   | some xs =>
    simp only[PX.toPM];rename_i r pre i c sh
    cases xs[i]? with
    |none=>rfl
    | some x =>
     cases sh with
     |some m=>simp only[PX.toPM,zDn,ih]|none=>
      simp only[PX.toPM,ih]
      cases x.cells[c]? with
      |none=>rfl|some q=>simp only[PX.toPM,zBA,ih]
  ·congr 1;congr 1;funext q;cases q<;>rfl
  ·congr 1;congr 1;funext q
   cases zBi q with
   |none=>rfl|some xs=>
    simp only[PX.toPM];rename_i r pre i c sz ag m
    cases xs[i]? with
    |none=>rfl|some x=>simp only[PX.toPM,zDn]
  ·congr 1;congr 1;funext q;cases q<;>rfl
theorem zSh{p:PV}{k:PV->List (Nat×zA4)->PX}:(zWv p k).toPM=zRp p fun q l=>(k q l).toPM:=zKg
def zQx(hb:Nat):Nat->PV->(PV->PX)->PX
 |0,_,_=>.fail|n+1,p,k=>match p.ways.find? (fun w=>blt w.1 hb) with
  |none=>.same p k|some (r,pre)=>.deep r pre fun q=>.frzp r pre (p.mapW (inl r pre q)) fun p=>zQx hb n p k
theorem zFh{hb:Nat}:∀ {n:Nat} {p:PV} {k:PV->PX},(zQx hb n p k).toPM=zMp hb n p fun q=>(k q).toPM
 |0,_,_=>rfl|n+1,p,k=>by
  simp only[zQx,zMp]
  cases p.ways.find? (fun w=>blt w.1 hb) with
  |none=>rfl|some w=>simp only[PX.toPM,zFh]
def zLD(p:PV)(k:List PV->PX):PX :=
 match p with
 |.nils _=>k []|.nn=>k []|.sl xs=>k xs|.bor r pre z lo n=>.deep r pre fun q=>match q with
  |.own _ xs=>.test (ble (lo+n) xs.length) (.sames ((xs.drop lo).take n) k)|_=>.fail
 |.bsl r pre i c sz ag n=>.cells r pre i c (n*sz) fun _ cs=>.test (zCt ag sz n cs) (.test (cs.all (fun q=>q.plain0)) (.sames (zCw ag sz n cs) k))
 |_=>.fail
theorem zKX{p:PV}{k:List PV->PX}:(zLD p k).toPM=zIp p fun l=>(k l).toPM:=by
 cases p<;>simp only[zLD,zIp,PX.toPM,zDn];congr 1;funext q;cases q<;>rfl
section
variable (P:Program) (H:zBg)
def zGb:LN->List PV->(List (Bool×PV)->PX)->PX
 |_,[],k=>k []
 | ms,p::ps,k =>
  match ms.headD 0,p with
  |2,.bor r pre _ 0 n=>.deep r pre fun q=>match q with
   |.own sz xs=>.test (ble n xs.length) (.wnode r pre .bad (.same (.own sz ((xs.drop 0).take n)) fun o=>zGb ms.tail ps fun as=>k ((true,o)::as)))
   |_=>.fail
  |_,p=>zGb ms.tail ps fun as=>k ((false,p)::as)
def zDw:LN->List (Bool×PV)->(List Arg->PX)->PX
 |_,[],k=>k []|ms,(true,p)::ps,k=>zDw ms.tail ps fun as=>k ({p:=p}::as)
 |ms,(false,p)::ps,k=>
  bif beq (ms.headD 0) 1 then zDw ms.tail ps fun as=>k ({p:=p,byref:=true}::as)
  else zWv p fun q l=>zDw ms.tail ps fun as=>k ({p:=q,shared:=l}::as)
def zFD:LN->List (Bool×PV)->(List Arg->PX)->PX
 |_,[],k=>k []|ms,(true,p)::ps,k=>zFD ms.tail ps fun as=>k ({p:=p}::as)
 |ms,(false,p)::ps,k=>
  bif beq (ms.headD 0) 1 then zFD ms.tail ps fun as=>k ({p:=p,byref:=true}::as)
  else zQx zAa zDi p fun q=>zFD ms.tail ps fun as=>k ({p:=q}::as)
def zRK:LN->(List PV->PX)->PX
 |[],k=>k []|r::rs,k=>.get r fun p=>zRK rs fun ps=>k (p::ps)
def zUF:LN->List PV->List PV->PX->PX
 |r::rs,o::os,p::ps,k=>.test (zGA o p) (.same p fun p=>.wnode r [] p (zUF rs os ps k))
 |[],[],[],k=>k|_,_,_,_=>.fail
def zPq:Nat->LN->(LN->PX)->PX
 |0,R,k=>k R|n+1,R,k=>zRK R fun ts=>let R':=(R++ts.flatMap zOh).eraseDups;bif beq R'.length R.length then k R else zPq n R' k
def zHn:LN->PX->PX
 |[],k=>k|r::rs,k=>.killEx r [] (zHn rs k)
def zNg:List Bool->PX->PX->PX
 |[a,b,c],x,y=>.choose a x (.choose b (.choose c x y) y)|_,_,y=>y
theorem zN6{a b c:Bool}{x y:PX}:(zNg [a,b,c] x y).toPM=bif a||b&&c then x.toPM else y.toPM:=by
 cases a<;>cases b<;>cases c<;>rfl
def zPx (d:ON) (f:FuncId) (as:List Arg) (again:PX):PX :=
 .nats (zPN as) fun R0=>zPq 3 R0 fun R=>
 bif zHL R&&R.all (fun r=>blt r zAa)&&ble R.length 1000&&ble as.length 1000&&(as.flatMap (·.shared)).all (fun x=>!R.contains x.1) then
  zRK R fun hid=>.sames (as.map fun a=>if a.byref then zGV (zDE R) a.p else a.p) fun args=>.call f args (hid.map (zGV (zDE R))) fun v hX=>
   zNg [(as.flatMap (·.shared)).isEmpty,v.free,zD1 hX]
    (zHn R<|zUF R hid (hX.map (zGV (zCo R))) (zFB d (zGV (zCo R) v)))
    again
 else .fail
def zS6(d:ON)(f:FuncId)(args:List PV):PX :=
 .nats (H f).mode fun ms=>zGb ms args fun bs=>zDw ms bs fun as=>zPx d f as (zFD ms bs fun as=>zPx d f as .fail)
theorem zFK:∀ {ps:List PV} {ms:LN} {k:List (Bool×PV)->PX},(zGb ms ps k).toPM=zEd ms ps fun as=>(k as).toPM
 |[],_,_=>rfl
 | p :: ps,ms,k=>by
  unfold zGb zEd;generalize ms.headD 0=m;split
  ·simp only[PX.toPM];congr 1;funext q;cases q<;>first|rfl|skip
   simp only[PX.toPM,zFK]
  ·simp only[zFK]
theorem zFA:∀ {ps:List (Bool×PV)} {ms:LN} {k:List Arg->PX},(zDw ms ps k).toPM=zCA ms ps fun as=>(k as).toPM
 |[],_,_=>rfl|(true,p)::ps,ms,k=>by simp only[zDw,zCA,zFA]|(false,p)::ps,ms,k=>by simp only[zDw,zCA,zC6,zSh,zFA]
theorem zGL:∀ {ps:List (Bool×PV)} {ms:LN} {k:List Arg->PX},(zFD ms ps k).toPM=zEw ms ps fun as=>(k as).toPM
 |[],_,_=>rfl|(true,p)::ps,ms,k=>by simp only[zFD,zEw,zGL]|(false,p)::ps,ms,k=>by simp only[zFD,zEw,zC6,zFh,zGL]
theorem zMA:∀ {rs:LN} {k:List PV->PX},(zRK rs k).toPM=zOB rs fun ps=>(k ps).toPM
 |[],_=>rfl|r::rs,k=>by simp only[zRK,zOB,PX.toPM,zMA]
theorem zPA:∀ {rs:LN} {os ps:List PV} {k:PX},(zUF rs os ps k).toPM=zOp rs os ps k.toPM
 |[],[],[],_=>rfl|r::rs,o::os,p::ps,k=>by simp only[zUF,zOp,PX.toPM,zPA]|[],[],_::_,_=>rfl|[],_::_,_,_=>rfl|_::_,[],_,_=>rfl|_::_,_::_,[],_=>rfl
theorem zNS:∀ {n:Nat} {R:LN} {k:LN->PX},(zPq n R k).toPM=zLh n R fun R=>(k R).toPM
 |0,_,_=>rfl|n+1,R,k=>by simp only[zPq,zLh,zMA,zC6,zNS]
theorem zIu:∀ {rs:LN} {k:PX},(zHn rs k).toPM=zKT rs k.toPM
 |[],_=>rfl|r::rs,k=>by simp only[zHn,zKT,PX.toPM,zIu]
theorem zSN{d:ON}{f:FuncId}{as:List Arg}{again:PX}:(zPx d f as again).toPM=zRN d f as again.toPM:=by
 simp only[zPx,zRN,zNS,zC6,zMA,PX.toPM,zN6,zIu,zPA,zE8]
theorem zTj{d:ON}{f:FuncId}{args:List PV}:(zS6 H d f args).toPM=zOt H d f args:=by
 simp only[zS6,zOt,zFK,zFA,zSN,zGL,PX.toPM]
def zSf(d:ON)(args:List Operand)(g:PV):PX :=
 match g with
 |.func g first caps=>zQM args fun as=>.pure d g (first++as++caps) (zS6 H d g (first++as++caps))
 |_=>.fail
theorem zTa{d:ON}{args:List Operand}{g:PV}:(zSf H d args g).toPM=zUW H d args g:=by
 cases g<;>first|rfl|skip
 simp only[zSf,zUW,zI0,PX.toPM,zTj]
def zOr (d:ON) (sz:Nat) (base:PV) (ys:List PV):PX :=
 .test (ys.all (fun y=>beq y.cells.length sz&&y.cells.all fun q=>q.oneCell)) (.test (zBx ys).isEmpty (
 match base with
 | .bor r pre z lo n => .deep r pre fun q=>match q with
  | .own s xs =>
   .test (beq s sz) (.test (ble (lo+n) xs.length) (.test (ble (xs.length+ys.length) zAO) (
    .choose (beq (lo+n) xs.length) (.test (beq lo 0) (.wnode r pre .bad (zGw d (.own sz (xs++ys))))) (.emb (zL9 d r pre z lo n s xs ys)))))
  |_=>.fail
 |.nils _=>.test (ble ys.length zAO) (zGw d (.own sz ys))|_=>.fail))
theorem zRm{d:ON}{sz:Nat}{base:PV}{ys:List PV}:(zOr d sz base ys).toPM=zL1 d sz base ys:=by
 cases base<;>simp only[zOr,zL1,PX.toPM,zDn,zBC];congr 1;congr 1;congr 1;funext q;cases q<;>first|rfl|skip
 simp only[PX.toPM,zBC]
def zW3(x:Operand)(k:List PV->PX):PX :=
 match x with
 |.tmp t=>.get t fun p=>match p with
  |.own _ xs=>.set t .bad (k xs)|_=>.view t fun p=>zLD p fun xs=>.test (xs.all (fun x=>x.plain)) (k xs)
 |x=>zG6 x fun p=>zLD p fun xs=>.test (xs.all (fun x=>x.plain)) (k xs)
theorem zVj{x:Operand}{k:List PV->PX}:(zW3 x k).toPM=zO3 x fun l=>(k l).toPM:=by
 cases x<;>simp only[zW3,zO3,PX.toPM,zCj,zKX,zBA];congr 1;funext p;cases p<;>first|rfl|simp only[PX.toPM,zKX,zBA]
def zMz(d:ON)(b:Builtin)(ts:List TypeId)(args:List Operand):PX :=
 match b,args,ts with
 |.len,[x],t::_=>zG6 x fun p=>match P.underlying t with
  |some (.array n _)=>zGw d (.int .i64 n)|some (.slice _)=>.num (lenOf p) fun n=>zGw d (.int .i64 n)
  |_=>.fail
 |.append,[x,y],[t,t2]=>bif (zB1 P t2).isNone then .fail else match(zB1 P t).bind (szT P),(zB1 P t).bind (zIw P),(zB1 P t).bind (zCO P) with
  |some sz,some by_,some z=>if by_<=16384/\z.cells.length=sz then zG6 x fun base=>zW3 y fun ys=>zOr d sz base ys else .fail
  |_,_,_=>.fail
 |.max,xs,_=>zQM xs fun ps=>.pick (zZa ps) fun v=>zGw d v
 |.min,xs,_=>zQM xs fun ps=>.pick (zZl ps) fun v=>zGw d v
 |b,args,ts=>.emb (zBB P d b ts args)
theorem zOe{d:ON}{b:Builtin}{ts:List TypeId}{args:List Operand}:(zMz P d b ts args).toPM=zBB P d b ts args:=by
 unfold zMz;split
 ·simp only[zCj,zBB];congr 1;funext p;generalize P.underlying _=u
  cases u with
  |none=>rfl|some u=>
   cases u<;>first|rfl|exact zBC|skip
   simp only[PX.toPM,zBC];cases lenOf p<;>simp only[PX.toPM,zBC]
 ·simp only[zBB,zC6];congr 1;generalize (zB1 P _).bind (szT P)=a1;generalize (zB1 P _).bind (zIw P)=a2;generalize (zB1 P _).bind (zCO P)=a3;cases a1<;>cases a2<;>cases a3<;>first|rfl|simp only[zPC,zCj,zVj,zRm,PX.toPM]
 ·simp only[zBB,zI0,PX.toPM,zBC];congr 1;funext ps;cases zZa ps<;>simp only[PX.toPM,zBC]
 ·simp only[zBB,zI0,PX.toPM,zBC];congr 1;funext ps;cases zZl ps<;>simp only[PX.toPM,zBC]
 ·rfl
end
end Go.Eng
namespace Go.Eng
open Go
section
variable (P:Program) (H:zBg)
def zYc{α:Type}(x:Option α)(k:α->PX):PX :=
 match x with
 |some a=>k a|none=>.fail
theorem zKB{α:Type}{x:Option α}{k:α->PX}:(zYc x k).toPM=zJK x fun a=>(k a).toPM:=by cases x<;>rfl
theorem zJ3{x:Option PV}{k:PV->PX}:(PX.pick x k).toPM=zJK x fun a=>(k a).toPM:=by cases x<;>rfl
def zPi(p:PV)(k:PV->PX)(k2:PX):PX :=
 match p with
 |.bor r pre _ lo n=>.deep r pre fun q=>match q with
  |.own sz xs=>.choose (beq lo 0&&beq n xs.length) (.wnode r pre .bad (k (.own sz xs))) k2|_=>k2
 |.bmap r pre=>.deep r pre fun q=>match q with
  |.omap es=>.wnode r pre .bad (k (.omap es))|_=>k2
 |p=>k p
theorem zNp{p:PV}{k:PV->PX}{k2:PX}:(zPi p k k2).toPM=zO4 p (fun q=>(k q).toPM) k2.toPM:=by
 cases p<;>simp only[zPi,zO4,PX.toPM]
 all_goals
  congr 1;funext q;cases q<;>rfl
def zVO(p:PV)(k:PV->PX):PX:=zPi p k (zQx zAa zDi p k)
theorem zPk{p:PV}{k:PV->PX}:(zVO p k).toPM=zNF p fun q=>(k q).toPM:=by simp only[zVO,zNF,zNp,zFh]
def zPF:List PV->(List PV->PX)->PX
 |[],k=>k []|p::ps,k=>zPi p (fun q=>zPF ps fun qs=>k (q::qs)) .fail
theorem zML:∀ {ps:List PV} {k:List PV->PX},(zPF ps k).toPM=zJH ps fun qs=>(k qs).toPM
 |[],_=>rfl|p::ps,k=>by simp only[zPF,zJH,zNp,zML,PX.toPM]
def zTr:PV->Bool
 |.bor ..|.bmap ..|.bsl .. => true|_=>false
def zJs(tk:Bool)(p:PV)(k:PV->PX):PX :=
 match p with
 |.agg cs=>bif tk then zPF cs fun cs=>k (.agg cs) else .choose (cs.any zTr) (zQx zAa zDi p k) (k p)
 |.bsl .. => zQx zAa zDi p k|.bor ..|.bmap .. => bif tk then zVO p k else zQx zAa zDi p k|p=>k p
theorem zHU{tk:Bool}{p:PV}{k:PV->PX}:(zJs tk p k).toPM=zF0 tk p fun q=>(k q).toPM:=by
 cases p<;>simp only[zJs,zF0,zC6,zML,zPk,zFh,PX.toPM];rfl
def zIV(tk:Bool):List PV->(List PV->PX)->PX
 |[],k=>k []|p::ps,k=>zJs tk p fun q=>zIV tk ps fun qs=>k (q::qs)
theorem zJF{tk:Bool}:∀ {ps:List PV} {k:List PV->PX},(zIV tk ps k).toPM=zGm tk ps fun qs=>(k qs).toPM
 |[],_=>rfl|p::ps,k=>by simp only[zIV,zGm,zHU,zJF]
def zQe(r:Nat)(pre:zA4)(i c:Nat)(v:PV):PX :=
 .test (!v.heavy||v.ways.all (fun w=>!(zAU r pre w.1 w.2&&blt pre.length w.2.length))) (.test (v.cells.all (fun q=>q.oneCell)) (.test (!v.cells.isEmpty) (zSA r pre i c v.cells (.wcells r pre i c v.cells .ok))))
theorem zNH{r:Nat}{pre:zA4}{i c:Nat}{v:PV}:(zQe r pre i c v).toPM=zIx r pre i c v:=by
 simp only[zQe,zIx,PX.toPM,zSM,zDn]
def zJe(tk:Bool)(r:Nat)(pre:zA4)(v:PV)(k:PV->PX):PX :=
 bif pre.isEmpty && !tk then .view r fun q=>(match q with|.addr .. => k v|_=>zJs tk v k) else zJs tk v k
theorem zM1{tk:Bool}{r:Nat}{pre:zA4}{v:PV}{k:PV->PX}:(zJe tk r pre v k).toPM=zIY tk r pre v fun q=>(k q).toPM:=by
 simp only[zJe,zIY,zC6,PX.toPM,zHU];congr 1;congr 1;funext q;cases q<;>first|rfl|exact zHU
def zJS(tk:Bool)(r:Nat)(pre:zA4)(i c:Nat)(v:PV):PX :=
 match zRy r pre i c v with
 |some m=>.deep r (pre++[(i,c)]) fun q=>match q with
  |.own s xs=>.test (ble m xs.length) (.wnode r (pre++[(i,c)]) .bad (.same (.own s ((xs.drop 0).take m)) fun v=>zQe r pre i c v))
  |_=>.fail
 |none=>zJe tk r pre v fun v=>.same v fun v=>zQe r pre i c v
theorem zLm{tk:Bool}{r:Nat}{pre:zA4}{i c:Nat}{v:PV}:(zJS tk r pre i c v).toPM=zIz tk r pre i c v:=by
 simp only[zJS,zIz]
 cases zRy r pre i c v with
 |none=>simp only[zM1,PX.toPM,zNH]|some m=>
  simp only[PX.toPM];congr 1;funext q;cases q<;>first|rfl|simp only[PX.toPM,zNH]
def zTY(fz tk:Bool)(t:TypeId)(a x:Operand):PX :=
 zG6 a fun pa=>match pa,x with
 |.addr r pre i c _,.const (.slice none 0 0)=>zYc ((zB1 P t).bind (szT P)) fun s=>if szT P t=some 1 then zJS tk r pre i c (.own s []) else .fail
 |pa,x=>match pa,shT P t,szT P t with
 |.addr r pre i c _,some sh,some n=>(bif fz&&tk then zG6 x else zKG x) fun v=>
  .test (beq v.cells.length n) (.test (v.isAgg==sh.isSome) (zJS (tk && !fz) r pre i c (bif fz && !tk then zA0 v else v)))
 |_,_,_=>.fail
theorem zTH{fz tk:Bool}{t:TypeId}{a x:Operand}:(zTY P fz tk t a x).toPM=zQv P fz tk t a x:=by
 simp only[zTY,zQv,zCj];congr 1;funext pa
 have key:∀ (sh:Option ON) (n:ON),(match pa,sh,n with
   |.addr r pre i c _,some sh,some n=>(bif fz&&tk then zG6 x else zKG x) fun v=>PX.test (beq v.cells.length n) (.test (v.isAgg==sh.isSome) (zJS (tk && !fz) r pre i c (bif fz && !tk then zA0 v else v)))
   |_,_,_=>PX.fail).toPM=(match pa,sh,n with
   |.addr r pre i c _,some sh,some n=>(bif fz&&tk then opd x else zON x) fun v=>bif beq v.cells.length n&&v.isAgg==sh.isSome then zIz (tk && !fz) r pre i c (bif fz && !tk then zA0 v else v) else .fail
   |_,_,_=>PM.fail):=by
  intro sh n;cases pa<;>first|rfl|skip
  cases sh<;>cases n<;>first|rfl|skip
  cases hc:(fz&&tk)<;>simp only[cond_true,cond_false,zCj,zFb,PX.toPM,zLm,zDn]
 split
 ·simp only[zKB,zPC,zLm,PX.toPM]
 ·rename_i h;rw[key];cases pa<;>first|rfl|skip
  cases x<;>first|rfl|skip
  rename_i v;cases v<;>first|rfl|skip
  rename_i a n m;cases a<;>cases n<;>cases m<;>first|rfl|exact(h _ _ _ _ _ rfl rfl).elim
def zHh(d:ON)(p:PV):PX :=
 match d,p with
 | some d',.bor r [] z lo n=>if r=d' then .get r fun root=>match root with
   |.own sz xs=>.test (ble (lo+n) xs.length) (.kill r [] (.same (.own sz ((xs.drop lo).take n)) fun o=>.set r o .ok))
   |_=>.fail
  else zGw d p
 |_,_=>zGw d p
theorem zKy{d:ON}{p:PV}:(zHh d p).toPM=zFv d p:=by
 unfold zHh zFv;split
 ·simp only[zPC,zBC,PX.toPM];congr 1;congr 1;funext q;cases q<;>rfl
 ·rename_i h;split
  ·exact(h _ _ _ _ _ rfl rfl).elim
  ·exact zBC
def zKw(tk nl:Bool)(d:ON)(t:TypeId)(x:Operand):PX :=
 match x with
 |.const (.slice none 0 0)=>.emb (zGj P tk nl d t x)|x=>zKG x fun p=>bif tk then zVO p (zHh d) else zHh d p
theorem zNv{tk nl:Bool}{d:ON}{t:TypeId}{x:Operand}:(zKw P tk nl d t x).toPM=zGj P tk nl d t x:=by
 unfold zKw;split
 ·rfl
 ·rename_i h;unfold zGj;split
  ·exact(h rfl).elim
  ·simp only[zFb,zC6,zPk,zKy]
def zSH(d:ON)(x:Operand):PX:=zKG x fun p=>zQx zAa zDi p (zHh d)
theorem zUa{d:ON}{x:Operand}:(zSH d x).toPM=zUr d x:=by
 simp only[zSH,zUr,zFb,zFh,zKy]
def zTA(d:ON)(t:TypeId)(x:Operand):PX:=zKG x fun p=>match shT P t,szT P t with
 |some sh,some n=>.test (decide (p.cells.length=n)) (.test (decide (p.isAgg=sh.isSome)) (.test p.whole (zGw d (.box p))))|_,_=>.fail
theorem zTf{d:ON}{t:TypeId}{x:Operand}:(zTA P d t x).toPM=zVU P d t x:=by
 simp only[zTA,zVU,zFb];congr 1;funext p;cases shT P t<;>cases szT P t<;>first|rfl|skip
 simp only[PX.toPM,zBC,zBA,bb,decide_eq_true_eq];split<;>split<;>(try split)<;>simp_all
def zXs(nz:ON)(x:Operand)(k:PV->PX):PX :=
 match nz,x with
 |some s,.const (.slice none 0 0)=>k (.own s [])|_,x=>zKG x k
def zP9(nz:ON):List Operand->(List PV->PX)->PX
 |[],k=>k []|x::xs,k=>zXs nz x fun p=>zP9 nz xs fun ps=>k (p::ps)
theorem zVC{nz:ON}{x:Operand}{k:PV->PX}:(zXs nz x k).toPM=zZh nz x fun p=>(k p).toPM:=by
 unfold zXs zZh;split
 ·rfl
 ·rename_i h;rw[zFb];split
  ·exact(h _ rfl rfl).elim
  ·rfl
theorem zNZ{nz:ON}:∀ {xs:List Operand} {k:List PV->PX},(zP9 nz xs k).toPM=zRg nz xs fun p=>(k p).toPM
 |[],_=>rfl|x::xs,k=>by simp only[zP9,zRg,zVC,zNZ]
def zFg (tk:Bool) (d:ON) (t:TypeId) (n:Nat) (ps:List (Nat×Operand)):PX :=
 match zB1 P t with
 | some e=>match szT P e,zCO P e with
  | some s,some z=>if n*s<=65536&&beq z.cells.length s&&ps.all (fun x=>x.1<n) then zP9 (zYj (zCO P e)) (ps.map (·.2)) fun vs=>zIV tk vs fun vs =>
    .sames vs fun vs=>.test (zBx vs).isEmpty (.test (vs.all (fun v=>v.cells.length=s&&v.isAgg=z.isAgg&&v.whole)) (zGw d (.own s (zNC n z ((ps.map (·.1)).zip vs)))))
   else .fail
  |_,_=>.fail
 |none=>.fail
theorem zIC{tk:Bool}{d:ON}{t:TypeId}{n:Nat}{ps:List (Nat×Operand)}:(zFg P tk d t n ps).toPM=zDS P tk d t n ps:=by
 simp only[zFg,zDS]
 cases zB1 P t with
 |none=>rfl|some e=>
  simp only;generalize szT P e=a1;generalize zCO P e=a2;cases a1<;>cases a2<;>first|rfl|skip
  simp only[zPC,zNZ,zJF,PX.toPM,zBC];congr 1;congr 1;funext vs;congr 1;funext vs
  cases (zBx vs).isEmpty with
  |false=>rfl|true=>simp only[cond_true,cy,zBA,if_true]
def zP0(d:ON)(sh:ON)(p:PV):PX :=
 match p with
 |.ref q=>.test (decide (q.isAgg=sh.isSome)) (.test (decide (q.cells.length=sh.getD 1)) (zGw d q))|.addr r pre i c _=>zSb r pre i c sh (zGw d)|_=>.fail
theorem zM9{d:ON}{sh:ON}{p:PV}:(zP0 d sh p).toPM=zQH d sh p:=by
 cases p<;>simp only[zP0,zQH,PX.toPM,zL2,zBC];simp only[zBA,bb,decide_eq_true_eq];split<;>split<;>simp_all
def zOv(tk:Bool)(d:ON)(t:TypeId)(a:Operand):PX:=zYc (shT P t) fun sh=>zG6 a fun p=>
 bif tk then(match p with
  |.addr r pre i c _=>zSb r pre i c sh fun v=>zQx zAa zDi v (zGw d)
  |p=>zP0 d sh p) else zP0 d sh p
theorem zQQ{tk:Bool}{d:ON}{t:TypeId}{a:Operand}:(zOv P tk d t a).toPM=zPs P tk d t a:=by
 simp only[zOv,zPs,zKB,zCj,zC6,zM9];congr 1;funext sh;congr 1;funext p;congr 1;cases p<;>simp only[zM9,zL2,zFh,zBC]
def zSt(d:ON)(op:BinOp)(t:TypeId)(x y:Operand):PX:=zG6 x fun p=>zG6 y fun q=>.pick (zG5 P op t p q) (zGw d)
theorem zS2{d:ON}{op:BinOp}{t:TypeId}{x y:Operand}:(zSt P d op t x y).toPM=zVA P d op t x y:=by
 simp only[zSt,zVA,zCj,zJ3,zBC]
def zZW(d:ON)(op:UnOp)(p:PV):PX :=
 match op,p with
 |.not,.bool b=>zGw d (.bool !b)|.neg,.int k n=>zGw d (.int k (k.wrap (0-n)))|_,_=>.fail
theorem zWV{d:ON}{op:UnOp}{p:PV}:(zZW d op p).toPM=unV d op p:=by
 cases op<;>cases p<;>first|rfl|exact zBC
def zSc(d:ON)(t:TypeId)(p:PV):PX :=
 match P.underlying t,p with
 |some (.int k),.int _ n=>zGw d (.int k (k.wrap n))|_,_=>.fail
theorem zTi{d:ON}{t:TypeId}{p:PV}:(zSc P d t p).toPM=zRD P d t p:=by
 simp only[zSc,zRD]
 cases P.underlying t with
 |none=>rfl|some u=>cases u<;>cases p<;>first|rfl|exact zBC
def zF3(d:ON)(t:TypeId)(l c:Operand):PX :=
 zG6 l fun l=>zF5 l fun l=>zG6 c fun c=>zF5 c fun c=>match zB1 P t with
 |some e=>match zCO P e,szT P e,zIw P e with
  |some z,some s,some b=>.test (decide (l<=c)) (.test (decide (c<=zAO)) (.test (decide (b<=16384/\z.cells.length=s)) (zGw d (.own s (replicate l z)))))|_,_,_=>.fail
 |none=>.fail
theorem zJz{d:ON}{t:TypeId}{l c:Operand}:(zF3 P d t l c).toPM=zFs P d t l c:=by
 simp only[zF3,zFs,zCj,zEY];congr 1;funext p;congr 1;funext l;congr 1;funext q;congr 1;funext c
 cases zB1 P t with
 |none=>rfl|some e=>
  simp only;generalize zCO P e=a1;generalize szT P e=a2;generalize zIw P e=a3;cases a1<;>cases a2<;>cases a3<;>first|rfl|skip
  simp only[PX.toPM,zBC,zBA,decide_eq_true_eq];by_cases h1:l<=c<;>by_cases h2:c<=zAO<;>simp[h1,h2]
def zOH(d:ON)(n:Nat)(e:TypeId)(p:PV)(i:Nat):PX :=
 match szT P e,shT P e with
 |some s,some sh=>.test (decide (i<n)) (.pick (zBQ p (i*s) sh) (zGw d))|_,_=>.fail
def zTp(d:ON)(e:TypeId)(p:PV)(i:Nat):PX :=
 match p with
 |.sl xs=>.pick (xs[i]?) fun x=>.test (decide (szT P e=some x.cells.length)) (zGw d (.ref x))
 |.bor r pre z lo n=>match shT P e with
  |some sh=>.test (decide (i<n)) (.test (decide (szT P e=some z)) (.num (some (lo+i)) fun j=>zGw d (.addr r pre j 0 sh)))
  |none=>.fail
 |.bsl r pre j c s ag n=>.test (decide (i<n)) (.test (decide (szT P e=some s)) (.num (some (c+i*s)) fun c=>zGw d (.addr r pre j c (if ag then some s else none))))
 |_=>.fail
theorem zRc{d:ON}{n:Nat}{e:TypeId}{p:PV}{i:Nat}:(zOH P d n e p i).toPM=zPa P d n e p i:=by
 simp only[zOH,zPa];generalize szT P e=a1;generalize shT P e=a2;cases a1<;>cases a2<;>first|rfl|skip
 simp only[PX.toPM,zJ3,zBC,zBA,decide_eq_true_eq]
theorem zRC{d:ON}{e:TypeId}{p:PV}{i:Nat}:(zTp P d e p i).toPM=zR1 P d e p i:=by
 cases p<;>simp only[zTp,zR1,PX.toPM,zJ3,zBC]
 ·congr 1;funext x;simp only[zBA,decide_eq_true_eq]
 ·cases shT P e with
  |none=>rfl|some sh=>
   simp only[PX.toPM,zBC,zBA,decide_eq_true_eq];split<;>split<;>simp_all
 ·simp only[zBA,decide_eq_true_eq];split<;>split<;>simp_all
def zFN(d:ON)(t:TypeId)(x i:Operand):PX :=
 zG6 x fun p=>zG6 i fun i=>zF5 i fun i=>match P.underlying t with
 |some (.array n e)=>zOH P d n e p i|some (.slice e)=>zTp P d e p i|_=>.fail
theorem zKr{d:ON}{t:TypeId}{x i:Operand}:(zFN P d t x i).toPM=zFw P d t x i:=by
 simp only[zFN,zFw,zCj,zEY];congr 1;funext p;congr 1;funext q;congr 1;funext i
 cases P.underlying t with
 |none=>rfl|some u=>cases u<;>first|rfl|exact zRc P|exact zRC P
def zL4(d:ON)(t:TypeId)(x i:Operand):PX :=
 zG6 x fun p=>zG6 i fun i=>zF5 i fun i=>match P.underlying t with
 |some (.array n e)=>match szT P e,shT P e with
  |some s,some sh=>.test (decide (i<n)) (.pick (sub p (i*s) sh) (zGw d))|_,_=>.fail
 |_=>.fail
theorem zOx{d:ON}{t:TypeId}{x i:Operand}:(zL4 P d t x i).toPM=zLH P d t x i:=by
 simp only[zL4,zLH,zCj,zEY];congr 1;funext p;congr 1;funext q;congr 1;funext i
 cases P.underlying t with
 |none=>rfl|some u=>
  cases u<;>first|rfl|skip
  rename_i n e;simp only;generalize szT P e=a1;generalize shT P e=a2;cases a1<;>cases a2<;>first|rfl|skip
  simp only[PX.toPM,zJ3,zBC,zBA,decide_eq_true_eq]
def zYd(x:Option Operand)(n:Nat)(k:Nat->PX):PX :=
 match x with
 |some x=>zG6 x fun p=>zF5 p k
 |none=>k n
theorem zSG{x:Option Operand}{n:Nat}{k:Nat->PX}:(zYd x n k).toPM=zUp x n fun m=>(k m).toPM:=by
 cases x with
 |none=>rfl|some x=>simp only[zYd,zUp,zCj,zEY]
def zOf (d:ON) (s:Nat) (p:PV) (l h:Nat):PX :=
 match p with
 |.sl xs=>.test (ble l h) (.test (ble h xs.length) (.test (xs.all (fun x=>beq x.cells.length s)) (zGw d (.sl ((xs.drop l).take (h-l))))))
 | .bor r pre z a n =>
  .test (beq z s) (.test (ble l h) (
   .choose (ble h n) (.choose (beq l 0||blt l h) (zGw d (.bor r pre z (a+l) (h-l))) (zGw d (.sl [])))
   (.deep r pre fun q=>match q with
    |.own _ xs=>.test (ble (a+h) xs.length) (.choose (beq l 0||blt l h) (zGw d (.bor r pre z (a+l) (h-l))) (zGw d (.sl [])))|_=>.fail)))
 |_=>.fail
theorem zVM{d:ON}{b:Bool}{p q:PV}:put d (bif b then p else q)=bif b then put d p else put d q:=by cases b<;>rfl
theorem zQC{d:ON}{s:Nat}{p:PV}{l h:Nat}:(zOf d s p l h).toPM=zPo d s p l h:=by
 cases p<;>simp only[zOf,zPo,PX.toPM,zBC,zDn,zVM];congr 1;congr 1;congr 1;congr 1;funext q;cases q<;>first|rfl|simp only[PX.toPM,zBC]
def zOR(d:ON)(n s:Nat)(sh:ON)(p:PV)(l h:Nat):PX :=
 .test (ble l h) (.test (ble h n) (.test (beq l 0||blt l n) (
  match p with
  |.addr r pre i c _=>.num (some (h-l)) fun m=>zGw d (.bsl r pre i (c+l*s) s sh.isSome m)
  |.ref (.agg cs)=>.test (ble (n*s) cs.length) (.test (zCt sh.isSome s (h-l) ((cs.drop (l*s)).take ((h-l)*s))) (.test (zBx cs).isEmpty (zGw d (.sl (zCw sh.isSome s (h-l) ((cs.drop (l*s)).take ((h-l)*s)))))))|_=>.fail)))
theorem zQA{d:ON}{n s:Nat}{sh:ON}{p:PV}{l h:Nat}:(zOR d n s sh p l h).toPM=zR8 d n s sh p l h:=by
 cases p<;>simp only[zOR,zR8,PX.toPM,zBC,zDn];rename_i q;cases q<;>simp only[PX.toPM,zBC,zDn]
def zSK(d:ON)(t:TypeId)(x:Operand)(lo hi mx:Option Operand):PX :=
 match mx with
 |some m=>.emb (zJ6 P d t x lo hi (some m))
 | none=>zG6 x fun p=>match P.underlying t with
  |some (.array n e)=>match szT P e,shT P e with
   |some s,some sh=>zYd hi n fun h=>zYd lo 0 fun l=>zOR d n s sh p l h
   |_,_=>.fail
  |some (.slice e)=>match szT P e,lenOf p with
   |some s,some n=>zYd hi n fun h=>zYd lo 0 fun l=>zOf d s p l h
   |_,_=>.fail
  |_=>.fail
theorem zUd{d:ON}{t:TypeId}{x:Operand}{lo hi mx:Option Operand}:(zSK P d t x lo hi mx).toPM=zJ6 P d t x lo hi mx:=by
 cases mx with
 |some _=>rfl
 | none =>
  simp only[zSK,zJ6,zCj];congr 1;funext p
  cases P.underlying t with
  |none=>rfl|some u=>
   cases u<;>first|rfl|skip
   ·rename_i e;simp only;generalize szT P e=a1;generalize lenOf p=a2;cases a1<;>cases a2<;>first|rfl|simp only[zSG,zQC]
   ·rename_i n e;simp only;generalize szT P e=a1;generalize shT P e=a2;cases a1<;>cases a2<;>first|rfl|simp only[zSG,zQA]
def zD4(es:List (PV×PV))(i:Nat):Option PV:=(es[i]?).map (·.2)
def zJq(d:ON)(kt:TypeId)(z key:PV)(ok:Bool)(es:List (PV×PV)):PX :=
 .idx (zCh P kt key es 0) fun x=>match x with
 |some i=>.pick (zD4 es i) fun v=>.test v.lone (zFB d (if ok then .tup [v,.bool true] else v))
 |none=>zFB d (if ok then .tup [z,.bool false] else z)
theorem zLg{d:ON}{kt:TypeId}{z key:PV}{ok:Bool}{es:List (PV×PV)}:(zJq P d kt z key ok es).toPM=zKh P d kt z key ok es:=by
 simp only[zJq,zKh,PX.toPM]
 cases zCh P kt key es 0 with
 |none=>rfl
 | some x =>
  cases x with
  |none=>exact zE8|some i=>
   show(PX.pick (zD4 es i) fun v=>.test v.lone (zFB d (if ok then .tup [v,.bool true] else v))).toPM=_
   rw[zJ3];simp only[zD4,PX.toPM,zE8];cases es[i]?<;>rfl
def zTb(d:ON)(kt:TypeId)(z key:PV)(ok:Bool)(m:PV):PX :=
 match m with
 |.nilm=>zJq P d kt z key ok []|.map es=>zJq P d kt z key ok es|.bmap r pre=>.deep r pre fun q=>match q with
  |.omap es=>zJq P d kt z key ok es|_=>.fail
 |_=>.fail
theorem zTe{d:ON}{kt:TypeId}{z key:PV}{ok:Bool}{m:PV}:(zTb P d kt z key ok m).toPM=zUz P d kt z key ok m:=by
 cases m<;>first|rfl|exact zLg P|skip
 simp only[zTb,zUz,PX.toPM];congr 1;funext q;cases q<;>first|rfl|exact zLg P
def zJY(d:ON)(t:TypeId)(m x:Operand)(ok:Bool):PX :=
 zG6 m fun m=>zG6 x fun key=>match P.underlying t with
 |some (.map kt e)=>.test (zPQ P 20 kt key) (zYc (zCO P e) fun z=>.test (zJ0 z).lone (zTb P d kt (zJ0 z) key ok m))
 |_=>.fail
theorem zNm{d:ON}{t:TypeId}{m x:Operand}{ok:Bool}:(zJY P d t m x ok).toPM=zI3 P d t m x ok:=by
 simp only[zJY,zI3,zCj];congr 1;funext p;congr 1;funext q
 cases P.underlying t with
 |none=>rfl|some u=>cases u<;>first|rfl|simp only[PX.toPM,zKB,zTe]
def zWA(es:List (PV×PV))(k:List (PV×PV)->PX):PX := .same (.omap es) fun q=>match q with
 |.omap es=>k es|_=>.fail
def zOJ(kt:TypeId)(key v m:PV):PX :=
 match m with
 | .bmap r pre => .test v.lone (.deep r pre fun q=>match q with
  |.omap es=>.idx (zCh P kt key es 0) fun x=>match x with
   |some i=>zWA (es.modify i fun _=>(key,v)) fun es=>.wnode r pre (.omap es) .ok
   |none=>zWA (es++[(key,v)]) fun es=>.wnode r pre (.omap es) .ok
  |_=>.fail)
 |_=>.fail
theorem zRb{kt:TypeId}{key v m:PV}:(zOJ P kt key v m).toPM=zNP P kt key v m:=by
 cases m<;>first|rfl|skip
 simp only[zOJ,zNP,PX.toPM];congr 1;congr 1;funext q;cases q<;>first|rfl|skip
 rename_i es;simp only[PX.toPM]
 cases zCh P kt key es 0 with
 |none=>rfl|some x=>cases x<;>rfl
def zFS(t:TypeId)(m x y:Operand):PX:=zG6 m fun m=>zG6 x fun key=>match P.underlying t with
 |some (.map kt _)=>.test (zPQ P 20 kt key&&key.flat) (zKG y fun v=>zQx zAa zDi v fun v=>zOJ P kt key (zA0 v) m)
 |_=>.fail
theorem zJ8{t:TypeId}{m x y:Operand}:(zFS P t m x y).toPM=zFz P t m x y:=by
 simp only[zFS,zFz,zCj];congr 1;funext p;congr 1;funext q
 cases P.underlying t with
 |none=>rfl|some u=>cases u<;>first|rfl|simp only[PX.toPM,zFb,zFh,zRb]
def zQy(es:List (PV×PV))(i:Nat):Option PV:=(es[i]?).map (·.1)
def zOq(d:ON)(kt:TypeId)(z key m:PV):PX :=
 match m with
 | .bmap r pre => .deep r pre fun q=>match q with
  |.omap es=>.idx (zCh P kt key es 0) fun x=>match x with
   |some i=>.pick (zD4 es i) fun v=>.test v.lone (.wnode r pre (.omap (es.modify i fun _=>(key,v))) (zFB d (.tup [v,.int .i64 i])))
   |none=>.wnode r pre (.omap (es++[(key,z)])) (zFB d (.tup [z,.int .i64 es.length]))
  |_=>.fail
 |_=>.fail
theorem zQF{d:ON}{kt:TypeId}{z key m:PV}:(zOq P d kt z key m).toPM=zO9 P d kt z key m:=by
 cases m<;>first|rfl|skip
 simp only[zOq,zO9,PX.toPM];congr 1;funext q;cases q<;>first|rfl|skip
 rename_i es;simp only[PX.toPM]
 cases zCh P kt key es 0 with
 |none=>rfl
 | some x =>
  cases x with
  |none=>simp only[PX.toPM,zE8]|some i=>
   simp only[PX.toPM,zD4]
   cases es[i]? with
   |none=>rfl|some kv=>obtain⟨k,v⟩:=kv;simp only[bv,PX.toPM,zE8]
def zGQ(d:ON)(t:TypeId)(m x:Operand):PX:=zG6 m fun m=>zG6 x fun key=>match P.underlying t with
 |some (.map kt el)=>.test (zPQ P 20 kt key&&key.flat) (zYc (zCO P el) fun z=>.test (zJ0 z).lone (zOq P d kt (zJ0 z) key m))
 |_=>.fail
theorem zKM{d:ON}{t:TypeId}{m x:Operand}:(zGQ P d t m x).toPM=zGh P d t m x:=by
 simp only[zGQ,zGh,zCj];congr 1;funext p;congr 1;funext q
 cases P.underlying t with
 |none=>rfl|some u=>cases u<;>first|rfl|simp only[PX.toPM,zKB,zQF]
def zJt(i:Nat)(v m:PV):PX :=
 match m with
 |.bmap r pre=>.test v.lone (.deep r pre fun q=>match q with
  |.omap es=>.pick (zQy es i) fun k=>.wnode r pre (.omap (es.modify i fun _=>(k,v))) .ok
  |_=>.fail)
 |_=>.fail
theorem zMV{i:Nat}{v m:PV}:(zJt i v m).toPM=zIU i v m:=by
 cases m<;>first|rfl|skip
 simp only[zJt,zIU,PX.toPM];congr 1;congr 1;funext q;cases q<;>first|rfl|skip
 rename_i es;simp only[PX.toPM,zQy]
 cases es[i]? with
 |none=>rfl|some kv=>obtain⟨k,x⟩:=kv;rfl
def zFc(m s y:Operand):PX:=zG6 m fun m=>zG6 s fun s=>zF5 s fun i=>zKG y fun v=>zQx zAa zDi v fun v=>zJt i (zA0 v) m
theorem zIE{m s y:Operand}:(zFc m s y).toPM=zEF m s y:=by
 simp only[zFc,zEF,zCj,zEY,zFb,zFh,zMV]
def zOQ(d:ON)(c:Call):PX :=
 match c.callee with
 |.builtin b=>zMz P d b c.argTypes.toList c.args.toList|.value f=>zG6 f (zSf H d c.args.toList)|_=>.fail
theorem zQ7{d:ON}{c:Call}:(zOQ P H d c).toPM=zK2 P H d c:=by
 simp only[zOQ,zK2];cases c.callee<;>simp only[PX.toPM,zOe,zCj,zTa]
def opX(fz tk nl:Bool)(o:Oper):PX :=
 match o.op with
 |.assign x=>bif fz&&tk then zSH o.dst x else zKw P tk nl o.dst o.type x|.box t x=>zTA P o.dst t x|.buildSlice t n ps=>zFg P tk o.dst t n ps.toList|.load t a=>zOv P tk o.dst t a|.store t a x=>zTY P fz tk t a x|.binOp op t x y _=>zSt P o.dst op t x y|.unOp op _ x=>zG6 x (zZW o.dst op)|.convert _ t x=>zG6 x (zSc P o.dst t)|.makeSlice t l c=>zF3 P o.dst t l c|.slice t x lo hi mx=>zSK P o.dst t x lo hi mx|.indexAddr t x i=>zFN P o.dst t x i|.index t x i=>zL4 P o.dst t x i|.lookup t m x ok=>zJY P o.dst t m x ok|.mapUpdate t m x y=>zFS P t m x y|.mapEntry t m x=>zGQ P o.dst t m x|.entryStore _ m s x=>zFc m s x|.call c=>zOQ P H o.dst c|_=>.emb (opM P H fz tk nl o)
theorem zZf{fz tk nl:Bool}{o:Oper}:(opX P H fz tk nl o).toPM=opM P H fz tk nl o:=by
 obtain⟨dst,op,type,pos,after,guard⟩:=o;cases op<;>simp only[opX,opM,PX.toPM,zC6,zUa,zNv,zTf,zIC,zQQ,zTH,zS2,zCj,zWV,zTi,zJz,zUd,zKr,zOx,zNm,zJ8,zKM,zIE,zQ7]
end
end Go.Eng
namespace Go.Eng
open Go
section
variable [Yo] {P:Program} {H:zBg} {f:FuncId} {nt:Nat} {e e':Env} {lg:Option Log} {K:X->Env->Option Log->Prop} {i:Nat} {c:Code} {s:RS} {R:Env->Option Log->Prop}
abbrev zZI(P:Program)(H:zBg)(f:FuncId)(c:Code)(i:Nat):PX:=opX P H (((H f).frzs (rid c)).contains i) (((H f).take (rid c)).contains i) (H f).nils (zEy c i)
def zWr[Yo](P:Program)(H:zBg)(f:FuncId)(c:Code)(i:Nat)(as:Ans)(s:RS):Option (RS×List Prop) :=
 match(zZI P H f c i).run P H as s.e with
 |some (e',t,obs)=>(zSe c i s e' t).map fun s'=>(s',obs)
 |none=>none
def rsX(o:Option (RS×List Prop)):RS:=zUo (o.map (·.1))
theorem S_x(as:Ans)(obs:List Prop)(ho:zRG obs)(h:WS P H f c (i+1) (rsX (zWr P H f c i as s)) R)(hq:(zWr P H f c i as s).map (·.2)=some obs:=by kernel_rfl)(hi:blt i (zE7 c).size=true:=by kernel_rfl):WS P H f c i s R:=by
 obtain⟨⟨s',obs'⟩,hs,hq⟩:=bm.1 hq;simp only at hq;subst hq;simp only[zWr] at hs;split at hs
 ·rename_i e1 t obs hr;obtain⟨s1,h1,h2⟩:=bm.1 hs;simp only[bz] at h2;obtain⟨rfl,rfl⟩:=h2;obtain⟨n0,hn⟩:=PX.run_ok hr ho;refine zZR (m:=some (e1,t)) ⟨n0,fun n vt=>?_⟩ ?_ ?_ hi
  ·have:=hn n vt;rw[zZf] at this;exact this
  ·simpa[rsX,zWr,hr,h1] using h
  ·simp[h1]
 ·cases hs
def zXt(p:PV)(k:PV->PX)(k2:PX):PX :=
 match p with
 |.bor r pre _ lo n=>.deep r pre fun q=>match q with
  |.own sz xs=>.choose (ble (lo+n) xs.length) (.wnode r pre .bad (.same (.own sz ((xs.drop lo).take n)) k)) k2|_=>k2
 |.addr r pre 0 0 _=>.deep r pre fun q=>match q with
  |.box q=>.wnode r pre .bad (k (.box q))|_=>k2
 |.bmap r pre=>.deep r pre fun q=>match q with
  |.omap es=>.wnode r pre .bad (k (.omap es))|_=>k2
 |_=>k2
omit [Yo] in
theorem zUT{p:PV}{k:PV->PX}{k2:PX}:(zXt p k k2).toPM=zR6 p (fun q=>(k q).toPM) k2.toPM:=by
 unfold zXt zR6;split
 ·simp only[PX.toPM];congr 1;funext q;cases q<;>rfl
 ·simp only[PX.toPM];congr 1;funext q;cases q<;>rfl
 ·simp only[PX.toPM];congr 1;funext q;cases q<;>rfl
 ·rename_i h1 h2 h3;split
  ·exact(h1 _ _ _ _ _ rfl).elim
  ·exact(h2 _ _ _ rfl).elim
  ·exact(h3 _ _ rfl).elim
  ·rfl
def zLQ(frz:Bool)(p:PV)(k:PV->PX):PX :=
 bif frz||p.ways.any (fun w=>ble zAk w.1) then zQx zAk zDi p k else zXt p k (zQx zAk zDi p k)
def zEK(frz:Bool):List PV->(List PV->PX)->PX
 |[],k=>k []|p::ps,k=>zLQ frz p fun q=>zEK frz ps fun qs=>k (q::qs)
def zIZ(frz:Bool)(p:PV)(k:PV->PX):PX :=
 match p with
 |.agg cs=>.choose (cs.all fun q=>q.num) (k (.agg cs)) (zEK frz cs fun qs=>k (.agg qs))
 |p=>zLQ frz p k
omit [Yo] in
theorem zKS{frz:Bool}{p:PV}{k:PV->PX}:(zLQ frz p k).toPM=zF6 frz p fun q=>(k q).toPM:=by
 simp only[zLQ,zF6,zC6,zFh,zUT]
omit [Yo] in
theorem zFQ{frz:Bool}:∀ {ps:List PV} {k:List PV->PX},(zEK frz ps k).toPM=zCz frz ps fun qs=>(k qs).toPM
 |[],_=>rfl|p::ps,k=>by simp only[zEK,zCz,zKS,zFQ]
omit [Yo] in
theorem zO0{frz:Bool}{p:PV}{k:PV->PM}(h:p.num=true):zF6 frz p k=k p:=by
 cases p<;>first|(cases h;done)|skip
 all_goals cases frz<;>rfl
omit [Yo] in
theorem zF4{frz:Bool}:∀ {ps:List PV} {k:List PV->PM},ps.all (fun q=>q.num)=true->zCz frz ps k=k ps
 |[],_,_=>rfl|p::ps,k,h=>by
  simp only[cF,bb] at h;simp only[zCz,zO0 h.1,zF4 h.2]
omit [Yo] in
theorem zKn{frz:Bool}{p:PV}{k:PV->PX}:(zIZ frz p k).toPM=zG1 frz p fun q=>(k q).toPM:=by
 cases p<;>first|exact zKS|skip
 rename_i cs;simp only[zIZ,zG1,PX.toPM,zFQ]
 cases h:cs.all fun q=>q.num with
 |false=>rfl|true=>simp only[cond_true];exact(zF4 (k:=fun qs=>(k (.agg qs)).toPM) h).symm
def zH2(P:Program)(frz:Bool):Nat->List ResultVar->PX
 |_,[]=>.ok|j,.tmp t::rs=>.view t fun p=>zIZ frz p fun q=>.same q fun q=>zYg (zAF+j) q (zH2 P frz (j+1) rs)
 |j,.cell a t::rs=>zYc (shT P t) fun sh=>.view a fun p=>match p with
  |.addr r pre i c _=>zSb r pre i c sh fun v=>zIZ frz v fun q=>.same q fun q=>zYg (zAF+j) q (zH2 P frz (j+1) rs)
  |_=>.fail
omit [Yo] in
theorem zH8{frz:Bool}:∀ {rs:List ResultVar} {j:Nat},(zH2 P frz j rs).toPM=zCT P frz j rs
 |[],_=>rfl|.tmp t::rs,j=>by simp only[zH2,zCT,PX.toPM,zKn,zLO,zH8]|.cell a t::rs,j=>by
  simp only[zH2,zCT,zKB,PX.toPM];congr 1;funext sh;congr 1;funext p;cases p<;>first|rfl|simp only[zL2,zKn,PX.toPM,zLO,zH8]
def zH7[Yo](P:Program)(H:zBg)(f:FuncId)(fn:Func)(as:Ans)(e:Env)(nh:Nat):Option ((PV×List PV)×List Prop) :=
 match(zH2 P (H f).frz 0 fn.results.toList).run P H as e with
 |some (e',_,obs)=>bif beq fn.results.size 1&&(e'.get zAF).isTup then none else some ((zWQ e' fn.results.size,(range nh).map fun j=>e'.get (zAk+j)),obs)
 |none=>none
def zQ0[Yo](P:Program)(H:zBg)(f:FuncId)(fn:Func)(nh:Nat)(v:PV)(hX:List PV)(x:X)(e:Env)(lg:Option Log):Prop :=
 (x = .norm\/x = .ret)/\lg=none/\∃ n0,∀ n,n0<=n->∃ e',(zCT P (H f).frz 0 fn.results.toList).run (zCZ P H n) e=some e'/\(bif beq fn.results.size 1&&(e'.get zAF).isTup then none else some (zWQ e' fn.results.size,(range nh).map fun j=>e'.get (zAk+j)))=some (v,hX)
theorem E_x{fn:Func}{nh:Nat}{v:PV}{h:List PV}{x:X}(as:Ans)(obs:List Prop)(v':PV)(h':List PV)(ho:zRG obs)(hv:v'=v)(hh:h'=h)(hf:zH7 P H f fn as e nh=some ((v',h'),obs):=by kernel_rfl)(hl:lg=none:=by kernel_rfl)(hx:x = .norm\/x = .ret:=by first|exact .inr rfl|exact .inl rfl):zQ0 P H f fn nh v h x e lg:=by
 subst hv;subst hh;simp only[zH7] at hf;split at hf
 ·rename_i e1 t obs' hr;rcases zBn hf with⟨_,hf⟩|⟨hb,hf⟩
  ·cases hf
  ·simp only[ba,bz] at hf;obtain⟨⟨h1,h2⟩,rfl⟩:=hf;obtain⟨n0,hn⟩:=PX.run_ok hr ho;refine⟨hx,hl,n0,fun n vt=>⟨e1,?_,?_⟩⟩
   ·have:=hn n vt;rw[zH8] at this;exact zEl this
   ·rw[hb];simp only[cond_false,h1,h2]
 ·cases hf
theorem zAd(fn:Func){args hid:List PV}{v:PV}{hX:List PV}(h:W P H f fn.ntmps (fn.body.getD .ret) (zBf args hid) none (zQ0 P H f fn hid.length v hX))(hf:P.funcs[f]? = some fn:=by kernel_rfl)(hi:(H f).intr=0:=by kernel_rfl)(hb:fn.body.isSome=true:=by kernel_rfl)
  (hc:(ble args.length fn.ntmps&&ble hid.length 1000&&args.all (fun p=>!p.isTup))=true:=by kernel_rfl):zBD P H f args hid v hX:=by
 obtain⟨body,hb⟩:∃ body,fn.body=some body:=by cases hx:fn.body<;>first|exact⟨_,rfl⟩|(rw[hx] at hb;cases hb)
 simp only[hb,dd] at h;obtain⟨n0,x,e1,lg1,h1,hx,rfl,n1,hr⟩:=h;refine⟨max n0 n1+1,fun n hn=>?_⟩;obtain⟨n,rfl⟩:∃ k,n=k+1:=⟨n-1,by omega⟩;have ji:=h1 n (n+1) (by omega) (by omega);obtain⟨e2,h2,hr⟩:=hr n (by omega);show zGX P H (zCZ P H n) Yo.yo zCb (n+1) f args hid=_
 simp only[zGX,hf,hi,hb,zJp,hc,cond_true,ji,ne_eq,not_true,if_false];rcases hx with rfl|rfl<;>simp only[h2,hr]
theorem zWX(k:Int)(xss:List (List PV))(args:List PV)(a:Nat)(h1:k=1->WS P H f c (i+1) ⟨(zFG s.dr i (zEy c i) {all:=true}).getD none,zOC ((put (zEy c i).dst (.bool false)).run zIo (s.e.forget zAa)),some ⟨xss++[args],k-1,a⟩⟩ R)
  (h2:k≠1->WS P H f c (i+1) ⟨(zFG s.dr i (zEy c i) {all:=true}).getD none,zOC ((put (zEy c i).dst (.bool true)).run zIo s.e),some ⟨xss++[args],k-1,a⟩⟩ R) (hk:k≠0)
  (hy:zCp s.e (zEy c i)=some (a,args):=by kernel_rfl) (hl:s.lg=some ⟨xss,k,a⟩:=by kernel_rfl) (hw:zLM (zE7 c) s.e (zEy c i)=some true:=by kernel_rfl) (hf:args.all PV.flat=true:=by kernel_rfl)
  (hd:(zFG s.dr i (zEy c i) {all:=true}).isSome=true:=by kernel_rfl) (kb:((put (zEy c i).dst (.bool false)).run zIo (s.e.forget zAa)).isSome=true:=by kernel_rfl) (jx:((put (zEy c i).dst (.bool true)).run zIo s.e).isSome=true:=by kernel_rfl)
  (hi:blt i (zE7 c).size=true:=by kernel_rfl):WS P H f c i s R:=by
 have wq:zFG s.dr i (zEy c i) {all:=true}=some ((zFG s.dr i (zEy c i) {all:=true}).getD none):=by
  cases hx:zFG s.dr i (zEy c i) {all:=true} with
  |none=>rw[hx] at hd;cases hd|some d=>rfl
 have vh:(k != 0)=true:=by simpa using hk
 by_cases jY:k=1
 ·refine zLE hi ⟨0,fun n _=>?_⟩ wq (h1 jY);have hr:(put (zEy c i).dst (.bool false)).run (zCZ P H n) (s.e.forget zAa)=some (zOC ((put (zEy c i).dst (.bool false)).run zIo (s.e.forget zAa))):=zGP (zLc kb);have wm:(k==1)=true:=by simpa using jY
  have hyr:zB0 (zCZ P H n) (zE7 c) (zEy c i) a args ⟨xss,k,a⟩ s.e=some (zOC ((put (zEy c i).dst (.bool false)).run zIo (s.e.forget zAa)),some ⟨xss++[args],k-1,a⟩):=by
   unfold zB0;rw[hw];simp only;rw[hf,vh,cN,wm];simp only[dT,cond_true];rw[hr];rfl
  rw[hl];unfold zEz;simp only;rw[hy];simp only;rw[hyr];rfl
 ·refine zLE hi ⟨0,fun n _=>?_⟩ wq (h2 jY);have hr:(put (zEy c i).dst (.bool true)).run (zCZ P H n) s.e=some (zOC ((put (zEy c i).dst (.bool true)).run zIo s.e)):=zGP (zLc jx);have wm:(k==1)=false:=by simpa using jY
  have hyr:zB0 (zCZ P H n) (zE7 c) (zEy c i) a args ⟨xss,k,a⟩ s.e=some (zOC ((put (zEy c i).dst (.bool true)).run zIo s.e),some ⟨xss++[args],k-1,a⟩):=by
   unfold zB0;rw[hw];simp only;rw[hf,vh,cN,wm];simp only[dT,cond_true,cond_false];rw[hr];rfl
  rw[hl];unfold zEz;simp only;rw[hy];simp only;rw[hyr];rfl
theorem zXF{σ:Type}{c:Code}(Inv:σ->Prop)(upd:σ->List (Nat×PV))(L:σ->Option Log)(μ:σ->Nat)(s:σ)(hi:Inv s) (h:∀ s,Inv s->W P H f nt (cl c) (zMH (upd s) (e.drop ((H f).loopDrop (zA2 (cl c))))) (L s) fun x e' lg'=>match x with
   |.norm=>∃ s',Inv s'/\μ s'<μ s/\e'.drop ((H f).loopDrop (zA2 (cl c)))=zMH (upd s') (e.drop ((H f).loopDrop (zA2 (cl c))))/\lg'=L s'|x=>K x e' lg') (hs:e.drop ((H f).loopDrop (zA2 (cl c)))=zMH (upd s) (e.drop ((H f).loopDrop (zA2 (cl c)))):=by kernel_rfl) (hl:lg=L s:=by kernel_rfl) (hc:zPh c=true:=by kernel_rfl):W P H f nt c e lg K:=by
 rw [zMN hc];generalize hE:e.drop ((H f).loopDrop (zA2 (cl c)))=e0 at h hs;have key:∀ (n:Nat) (s:σ) (e:Env) (lg:Option Log),μ s<=n->Inv s->e.drop ((H f).loopDrop (zA2 (cl c)))=zMH (upd s) e0->lg=L s->W P H f nt (.loop (cl c)) e lg K:=by
  intro n
  induction n with
  | zero =>
   intro s e lg hs hi he qB;subst qB;obtain⟨n0,x,e1,lg1,h1,h2⟩:=h s hi
   cases x with
   |norm=>obtain⟨s',_,h3,_⟩:=h2;omega
   |ex id=>
    refine⟨n0+1,_,e1,lg1,fun n m hn hm=>?_,h2⟩;obtain⟨m,rfl⟩:∃ k,m=k+1:=⟨m-1,by omega⟩;simp only[exec,he,h1 n m (by omega) (by omega)]
   |ret=>
    refine⟨n0+1,_,e1,lg1,fun n m hn hm=>?_,h2⟩;obtain⟨m,rfl⟩:∃ k,m=k+1:=⟨m-1,by omega⟩;simp only[exec,he,h1 n m (by omega) (by omega)]
  | succ n ih =>
   intro s e lg hs hi he qB;subst qB;obtain⟨n0,x,e1,lg1,h1,h2⟩:=h s hi
   cases x with
   |norm=>
    obtain⟨s',h3,h4,h7,h8⟩:=h2;obtain⟨n2,x,e2,lg2,h5,h6⟩:=ih s' e1 lg1 (by omega) h3 h7 h8;refine⟨max n0 n2+1,x,e2,lg2,fun n m hn hm=>?_,h6⟩;obtain⟨m,rfl⟩:∃ k,m=k+1:=⟨m-1,by omega⟩;simp only[exec,he,h1 n m (by omega) (by omega),h5 n m (by omega) (by omega)]
   |ex id=>
    refine⟨n0+1,_,e1,lg1,fun n m hn hm=>?_,h2⟩;obtain⟨m,rfl⟩:∃ k,m=k+1:=⟨m-1,by omega⟩;simp only[exec,he,h1 n m (by omega) (by omega)]
   |ret=>
    refine⟨n0+1,_,e1,lg1,fun n m hn hm=>?_,h2⟩;obtain⟨m,rfl⟩:∃ k,m=k+1:=⟨m-1,by omega⟩;simp only[exec,he,h1 n m (by omega) (by omega)]
 exact key (μ s) s e lg (bf _) hi (hE.trans hs) hl
end
end Go.Eng
namespace Go.Eng
open Go
abbrev I(n:Int):PV := .int .i64 n
abbrev zBT(l:LI):PV := .sl (l.map I)
section
theorem zZc{a b:Bool}(ha:a=true)(hb:b=true):(a&&b)=true:=by rw[ha,hb];rfl
theorem zAR{a b:Nat}(h:a<=b):ble a b=true:=by rw[fU];exact h
theorem zBq{a b:Nat}(h:a=b):beq a b=true:=by rw[h];exact cN _
theorem zAp{p:Prop}[Decidable p](h:p):decide p=true:=decide_eq_true h
variable {α:Type} {g:α->PV} {l:List α} {i:Nat} {d:α} {x q root root':PV} {xs:List PV} {r z c n:Nat} {pre rest:zA4}
theorem zBN(d:α)(h:i<l.length):(l.map g)[i]? = some (g (l.getD i d)):=by simp[List.getD,bl h]
theorem zDJ{u:α}:(l.map g).set i (g u)=(l.set i u).map g:=(List.map_set).symm
theorem zNt(hx:xs[i]? = some x){y:PV}(hn:zAH y rest=some q)(hh:zA9 root=some xs:=by kernel_rfl)(hc:x.cells[c]? = some y:=by kernel_rfl):zAH root ((i,c)::rest)=some q:=by
 simp only[zAH,hh,hx,hc,hn]
def zM3(r:Nat)(pre:zA4)(i c n:Nat)(x:PV):Option (Bool×List PV):=bif ble (c+n) x.cells.length then some (x.isAgg,zBI r pre i c ((x.cells.drop c).take n)) else none
theorem zCn{a:Bool}{qs:List PV}(hn:zAH root.unlock pre=some q)(hx:xs[i]? = some x)(hr:zM3 r pre i c n x=some (a,qs):=by kernel_rfl)(hh:zBi q=some xs:=by kernel_rfl):zAq r root pre i c n=some (a,qs):=by
 simp only[zAq,hn,hh,hx];exact hr
theorem zKK{qs:List PV}{xs':List PV}(hx:xs[i]? = some x)(hs:xs.set i (zAG x c qs)=xs')(hb:ble (c+qs.length) x.cells.length=true:=by kernel_rfl)(hw:(zBx qs).isEmpty=true:=by kernel_rfl):zBv (.own z xs) [] i c qs=some (.own z xs')/\zAI (.own z xs) (.own z xs') []=true:=by
 subst hs;constructor
 ·simp only[zBv,hw,dy,fi,cond_false,zAz,zBi,hx,hb,cond_true,zAJ]
 ·simp[zAI,zCG]
theorem zCc{x m:Nat}(h:beq m 1=true):0+x*m=x:=by rw[bd h,fF,dq]
theorem zCd{a x m:Nat}(h:beq m 1=true):a+x*m=a+x:=by rw[bd h,fF]
def wf(i c:Nat)(qs:List PV)(q:PV):Option PV:=match zBi q with
 |some xs=>match xs[i]? with
  |some x=>bif ble (c+qs.length) x.cells.length then zAJ q (xs.set i (zAG x c qs)) else none|none=>none
 |none=>none
theorem zLs{qs:List PV}{q' y:PV}(hx:xs[i]? = some x)(hs:zAG x c qs=y)(hq:zAJ q (xs.set i y)=some q')(hh:zBi q=some xs:=by kernel_rfl)(hb:ble (c+qs.length) x.cells.length=true:=by kernel_rfl):zAz (wf i c qs) q []=some q':=by
 subst hs;simp only[zAz,wf,hh,hx,hb,cond_true,hq]
theorem zQP{qs:List PV}{b:Bool}(h:zAz (wf i c qs) root pre=some root')(hk:zAI root root' pre=b)(hw:(zBx qs).isEmpty=true:=by kernel_rfl):zBv root pre i c qs=some root'/\zAI root root' pre=b:=by
 refine⟨?_,hk⟩;simp only[zBv,hw,dy,fi,cond_false];exact h
theorem zAs(l:List α)(h:∀ x,zA0 (g x)=g x:=by intro;rfl):zAt (l.map g)=l.map g:=by
 induction l with
 |nil=>rfl|cons x l ih=>simp only[bL,zAt,h,ih]
theorem zB7{ys:List PV}(hy:xs=ys)(h2:zAt ys=ys):zAt xs=ys:=by rw[hy];exact h2
theorem zBM(l:List α)(h:∀ x,(g x).free=true:=by intro;rfl):zD1 (l.map g)=true:=by
 induction l with
 |nil=>rfl|cons x l ih=>simp only[bL,zD1,h,ih,dT]
theorem zKj(l:List α)(h:∀ x,(g x).ways=[]:=by intro;rfl):zBx (l.map g)=[]:=by
 induction l with
 |nil=>rfl|cons x l ih=>simp only[bL,zBx,h,ih,dR]
theorem all_map{p:PV->Bool}(l:List α)(h:∀ x,p (g x)=true:=by intro;rfl):(l.map g).all p=true:=by
 rw[List.all_map];exact bi.2 fun x _=>h x
theorem zBF(l:List α):take l.length (l.map g)=l.map g:=bw (by simp)
theorem zAT{xs ys:List PV}(h:xs=ys):own z xs=own z ys:=by rw[h]
theorem zWm{xs ys:List PV}(h:xs=ys):sl xs=sl ys:=by rw[h]
theorem zF9{a x m:Nat}{sh:ON}(h:beq m 1=true):addr r pre i (a+x*m) sh=addr r pre i (a+x) sh:=by rw[bd h,fF]
end
end Go.Eng
namespace Go.Eng
open Go
section
def zXq:Code->Bool
 |.label _=>true|_=>false
theorem ap{p:Prop}{ps:List Prop}(h:p)(hs:zRG ps):zRG (p::ps):=⟨h,hs⟩
theorem an:zRG []:=trivial
theorem zBW{a b:Int}(h:a=b)(hr : -9223372036854775808<=b/\b<9223372036854775808):int .i64 (IntKind.i64.wrap a)=int .i64 b:=by rw[h,zZk hr]
variable [Yo] {P:Program} {H:zBg} {f:FuncId} {nt:Nat} {e e':Env} {lg:Option Log} {K:X->Env->Option Log->Prop} {i:Nat} {c:Code} {s:RS} {R:Env->Option Log->Prop}
theorem S_a(as:Ans){obs:List Prop}(ho:zRG obs)(h:WS P H f c (i+1) (rsX (zWr P H f c i as s)) R)(hq:(zWr P H f c i as s).map (·.2)=some obs:=by kernel_rfl)(hi:blt i (zE7 c).size=true:=by kernel_rfl):WS P H f c i s R:=S_x as obs ho h hq hi
theorem E_a{fn:Func}{nh:Nat}{v:PV}{h:List PV}{x:X}(as:Ans){obs:List Prop}(ho:zRG obs)(v':PV)(h':List PV)(hv:v'=v)(hh:h'=h)(hf:zH7 P H f fn as e nh=some ((v',h'),obs):=by kernel_rfl)(hl:lg=none:=by kernel_rfl)(hx:x = .norm\/x = .ret:=by first|exact .inr rfl|exact .inl rfl):zQ0 P H f fn nh v h x e lg:=E_x as obs v' h' ho hv hh hf hl hx
theorem zWU{c:Code}(h:K .norm e lg)(hc:zXq c=true:=by kernel_rfl):W P H f nt c e lg K:=by
 cases c<;>first|(cases hc;done)|exact zU2 1 rfl h
theorem zYY{t:TypeId}{k:IntKind}{a b q:Int}(hb:b≠0)(h:a.tmod b=q):zG5 P .rem t (.int k a) (.int k b)=some (.int k q):=by
 simp[zG5,zU4,hb,h]
end
end Go.Eng
namespace Go.Eng
open Go
section
variable [Yo] {P:Program} {H:zBg} {f:FuncId}
end
end Go.Eng
namespace Go.Eng
open Go
def zRs(pre:zA4)(put:PV->PV):Prop:=∀ f z xs,zAz f (put (.own z xs)) pre=(f (.own z xs)).map put
theorem zRs.nil:zRs [] (fun q=>q):=fun f z xs=>by simp[zAz]
theorem zRs.box:zRs [(0,0)] (fun q=>.box q):=fun f z xs=>by
 simp only[zAz,zA9,bJ,PV.cells];cases f (.own z xs)<;>rfl
theorem zJl[Yo]{r z:Nat}{pre:zA4}{put:PV->PV}(L:zRs pre put):∀ {ys:List PV} {j:Nat} {xs:List PV} {e:Env},e.get r=put (.own z xs)->j+ys.length<=xs.length->(∀ (a:Nat) (x y:PV),xs[j+a]? = some x->ys[a]? = some y->y.heavy=false/\y.cells.all (fun q=>q.ways.isEmpty)=true/\y.cells.length<=x.cells.length/\zAG x 0 y.cells=y) ->
  ∃ e',e'.get r=put (.own z (xs.take j++ys++xs.drop (j+ys.length)))/\(∀ t,t≠r->e'.get t=e.get t)/\∀ (o:zAK) (k:PM),(zGB r pre j ys k).run o e=k.run o e'
 |[],j,xs,e,he,hj,hy=>⟨e,by simp[he],fun _ _=>rfl,fun _ _=>rfl⟩
 | y :: ys,j,xs,e,he,hj,hy=>by
  simp only[bD] at hj;have hjx:j<xs.length:=by omega
  obtain⟨h1,h2,h3,h4⟩:=hy 0 xs[j] y (by simp[hjx]) rfl;have hws:zBx y.cells=[]:=zMW h2;have hb:ble (0+y.cells.length) xs[j].cells.length=true:=by rw[fU];omega
  have y8:(e.set r (put (.own z (xs.set j y)))).get r=put (.own z (xs.set j y)):=by rw[Env.get_set,if_pos rfl]
  obtain⟨e',g1,g2,g3⟩:=zJl L (ys:=ys) (j:=j+1) y8 (by simp;omega) fun a x' y' u9 wp=>by
   rw[dV] at u9;rw[if_neg (by omega)] at u9;exact hy (a+1) x' y' (by rw[<- u9];congr 1;omega) (by simpa using wp)
  refine⟨e',?_,fun t ht=>?_,?_⟩
  ·rw[g1,zVr hj];simp only[bD]
  ·rw[g2 t ht,Env.get_set,if_neg ht]
  ·intro o k;simp only[zGB];rw[zFj (by simpa using zOa h1)];simp only[PM.run,he,zBv,hws,List.isEmpty_nil,dy,fi,cond_false,L _ z xs,zBi,bl hjx,hb,cond_true,zAJ,h4,bv];exact g3 o k
section
variable [Yo] {P:Program} {H:zBg} {f:FuncId} {i:Nat} {c:Code} {R:Env->Option Log->Prop}
theorem zIN{k:IntKind}{a b:Int}:zZ0 1 (.int k a) (.int k b):=⟨rfl,rfl,rfl,rfl,bf _,rfl⟩
end
end Go.Eng
namespace Go.Eng
open Go
abbrev zQW(sh:ON)(a:LI):PV:=match sh with|none=>I (a.getD 0 0)|some _=>.agg (a.map I)
theorem zPB{l:LI}{i k:Nat}{sh:ON}(jg:sh=some k\/(sh=none/\k=1))(h:i+k<=l.length):sub (.agg (l.map I)) i sh=some (zQW sh ((l.drop i).take k)):=by
 rcases jg with rfl|⟨rfl,rfl⟩
 ·simp only[sub,be,h,if_true,zQW,fp,fq]
 ·have h2:i<l.length:=by omega
  simp only[sub,zQW];rw[b6 h2];simp[h2]
theorem zNd{eq:PV->PV->Option Bool}{sh:ON}{k:Nat}{l m:LI}(uo:∀ a b:LI,a.length=k->b.length=k->eq (zQW sh a) (zQW sh b)=some (decide (a=b)))(jg:sh=some k\/(sh=none/\k=1)):∀ n i,(i+n)*k=l.length->(i+n)*k=m.length->zUn eq sh k (.agg (l.map I)) (.agg (m.map I)) i n=some (decide (l.drop (i*k)=m.drop (i*k)))
 |0,i,h1,h2=>by
  simp only[zUn];rw[dh (by simpa using Nat.le_of_eq h1.symm),dh (by simpa using Nat.le_of_eq h2.symm)];simp
 |n + 1,i,h1,h2=>by
  have e:(i+(n+1))*k=i*k+k+n*k:=by rw[cS,cZ];omega
  have e1:(i+1)*k=i*k+k:=by rw[cZ]
  have hl:i*k+k<=l.length:=by omega
  have hm:i*k+k<=m.length:=by omega
  have ih:=zNd uo jg n (i+1) (by rw[<- h1];congr 1;omega) (by rw[<- h2];congr 1;omega);simp only[zUn,zPB jg hl,zPB jg hm];rw[uo _ _ (by rw[cj,dz];omega) (by rw[cj,dz];omega)];have d1:l.drop (i*k)=(l.drop (i*k)).take k++l.drop ((i+1)*k):=by rw[e1,<- dA,cw]
  have d2:m.drop (i*k)=(m.drop (i*k)).take k++m.drop ((i+1)*k):=by rw[e1,<- dA,cw]
  by_cases hc:(l.drop (i*k)).take k=(m.drop (i*k)).take k
  ·simp only[hc,decide_true,ih];congr 1;rw[d1,d2,hc];simp
  ·simp only[hc,decide_false];rw[Eq.comm,decide_eq_false];intro hx;exact hc (by rw[hx])
def zPn:Option TypeDesc->Bool
 |some (.array ..)=>true|_=>false
def zW0:Option TypeDesc->Bool
 |some (.int .i64)=>true|_=>false
theorem zUV{x:Option TypeDesc}(h:zW0 x=true):x=some (.int .i64):=by
 unfold zW0 at h;split at h
 ·rfl
 ·cases h
theorem zMM{x:Option TypeDesc}(h:zPn x=true):∃ c e,x=some (.array c e):=by
 unfold zPn at h;split at h
 ·exact⟨_,_,rfl⟩
 ·cases h
def zUw(P:Program):Nat->TypeId->ON
 |0,_=>none
 | n + 1,t=>match P.underlying t with
  |some (.int k)=>if k = .i64 then some 1 else none
  |some (.array m e)=>match szT P e,shT P e,zUw P n e with
   |some sz,some sh,some k=>if sz=k/\(sh=some k/\zPn (P.underlying e)=true\/sh=none/\k=1/\zW0 (P.underlying e)=true) then some (m*k) else none
   |_,_,_=>none
  |_=>none
theorem zXx{P:Program}{n:Nat}{t:TypeId}{a b:Int}(h:P.underlying t=some (.int .i64)):eqT P (n+1) t (I a) (I b)=some (decide (a=b)):=by
 simp only[eqT,h,if_true];rfl
theorem zQs{P:Program}:∀ (n:Nat) (t:TypeId) (k:Nat) (l m:LI),zUw P n t=some k->(∃ c e,P.underlying t=some (.array c e))->l.length=k->m.length=k->eqT P n t (.agg (l.map I)) (.agg (m.map I))=some (decide (l=m))
 |0,_,_,_,_,h,_,_,_=>by cases h
 | n + 1, t, k,l,m,h,⟨c,e,hu⟩,hl,hm=>by
  simp only[zUw,hu] at h;split at h
  ·rename_i sz sh k1 h1 h2 h3;split at h
   ·rename_i hx;obtain⟨rfl,hx⟩:=hx;cases h;simp only[eqT,hu,h1,h2];have:=zNd (eq:=eqT P n e) (sh:=sh) (k:=sz) (l:=l) (m:=m) (fun a b ha hb=>by
     rcases hx with⟨rfl,hx⟩|⟨rfl,rfl,hx⟩
     ·exact zQs n e sz a b h3 (zMM hx) ha hb
     ·cases n with
      |zero=>cases h3|succ n=>
       simp only[zQW,zXx (zUV hx)]
       match a,b,ha,hb with
       |[x],[y],_,_=>simp) (by
     rcases hx with⟨rfl,_⟩|⟨rfl,rfl,_⟩
     ·exact .inl rfl
     ·exact .inr ⟨rfl,rfl⟩) c 0 (by rw[hl];simp) (by rw[hm];simp)
    simpa using this
   ·cases h
  ·cases h
def zMd(P:Program)(t:TypeId)(k:Nat):Bool := !P.eqGuardType P.depth t&&decide (zUw P 20 t=some k)&&zPn (P.underlying t)
theorem zTV{P:Program}{t:TypeId}{k:Nat}{l m:LI}(h:zMd P t k=true)(hl:l.length=k)(hm:m.length=k):eqT P 20 t (.agg (l.map I)) (.agg (m.map I))=some (decide (l=m)):=by
 unfold zMd at h;simp only[bb,decide_eq_true_eq,bG] at h;obtain⟨⟨h1,h2⟩,h3⟩:=h;exact zQs 20 t k l m h2 (zMM h3) hl hm
theorem zWq{P:Program}{t:TypeId}{k:Nat}{l m:LI}(h:zMd P t k=true)(hl:l.length=k)(hm:m.length=k):eqV P t (.agg (l.map I)) (.agg (m.map I))=some (decide (l=m)):=by
 have hg:P.eqGuardType P.depth t=false:=by
  unfold zMd at h;simp only[bb,bG] at h;exact h.1.1
 simp only[eqV,hg,cond_false,zTV h hl hm]
theorem zXa{P:Program}{t:TypeId}{l m:LI}(k:Nat)(hl:l.length=k)(hm:m.length=k)(h:zMd P t k=true:=by kernel_rfl):zG5 P .eql t (.agg (l.map I)) (.agg (m.map I))=some (.bool (decide (l=m))):=by
 simp only[zG5,zWq h hl hm,bv]
theorem zWL{P:Program}{t:TypeId}{l m:LI}(k:Nat)(hl:l.length=k)(hm:m.length=k)(h:zMd P t k=true:=by kernel_rfl):zG5 P .neq t (.agg (l.map I)) (.agg (m.map I))=some (.bool (!decide (l=m))):=by
 simp only[zG5,zWq h hl hm,bv]
theorem zTk{a b c d:Int}:decide ([a,b]=[c,d])=(decide (a=c)&&decide (b=d)):=by simp
theorem zT5{P:Program}{t:TypeId}{a b c d:Int}(h:zMd P t 2=true:=by kernel_rfl):zG5 P .eql t (.agg [I a,I b]) (.agg [I c,I d])=some (.bool (decide (a=c)&&decide (b=d))):=by
 rw[<- zTk];exact zXa (l:=[a,b]) (m:=[c,d]) 2 rfl rfl h
theorem zKt{P:Program}{kt:TypeId}{α:Type}{g:α->PV×PV}{kx ky:α->Int}(hk:∀ x,(g x).1 = .agg [I (kx x),I (ky x)])(uo:∀ a b c d:Int,eqT P 20 kt (.agg [I a,I b]) (.agg [I c,I d])=some (decide (a=c)&&decide (b=d)))(a b:Int):∀ (M:List α) (i:Nat),zCh P kt (.agg [I a,I b]) (M.map g) i=some ((M.findIdx? fun x=>decide (a=kx x)&&decide (b=ky x)).map (· + i))
 |[],i=>rfl
 | x :: M,i=>by
  have h1:=uo a b (kx x) (ky x);rw[<- hk x] at h1;have h2:zEn (agg [I a,I b]).cells (g x).1.cells=some (a==kx x&&(b==ky x&&true)):=by rw[hk x];rfl
  rw[bL,fd];have e:g x=((g x).1,(g x).2):=rfl;rw[e];simp only[zCh,h1,h2]
  cases hc:(decide (a=kx x)&&decide (b=ky x)) with
  |true=>
   simp only[bb,decide_eq_true_eq] at hc;simp[hc.1,hc.2]
  |false=>
   simp only;rw[zKt hk uo a b M (i+1)];simp only[bp,if_false,Option.map_map];congr 2;funext y;simp only[Function.comp];omega
theorem zSs{P:Program}{t:TypeId}(h:zMd P t 2=true:=by kernel_rfl)(a b c d:Int):eqT P 20 t (.agg [I a,I b]) (.agg [I c,I d])=some (decide (a=c)&&decide (b=d)):=by
 rw[<- zTk];exact zTV (l:=[a,b]) (m:=[c,d]) h rfl rfl
def zZu(F:LI)(n:Nat):Nat->List PV
 |0=>[]|m+1=>I (F.getD (n-(m+1)) 0)::zZu F n m
abbrev zA5(F:LI)(m:Nat):List PV:=zZu F m m
theorem zR2{F:LI}{n:Nat}:∀ (m:Nat),m<=n->zZu F n m=(List.range' (n-m) m).map fun k=>I (F.getD k 0)
 |0,_=>rfl|m+1,h=>by
  rw[zZu,zR2 m (by omega),fk,bL,show n-(m+1)+1=n-m by omega]
theorem zOl{F:LI}{m:Nat}:zA5 F m=(range m).map fun k=>I (F.getD k 0):=by
 rw[List.range_eq_range',zA5,zR2 m (bf m),iT]
theorem zGv{F:LI}{m:Nat}(h:F.length=m):zA5 F m=F.map I:=by
 rw[zOl];apply cW;intro k;by_cases hk:k<m
 ·simp[hk,show k<F.length by omega]
 ·rw[cV (by simp;omega),cV (by simp;omega)]
section
variable {A B:List PV} {F:LI} {m j:Nat} {r i c':Nat} {pre:zA4}
theorem zI9:(zA5 F m).length=m:=by rw[zOl];simp
theorem zRL(hj:j<m):(zA5 F m)[j]? = some (I (F.getD j 0)):=by rw[zOl];simp[hj]
theorem zXU(hj:j<m):(A++zA5 F m++B)[A.length+j]? = some (I (F.getD j 0)):=by
 rw[cO,de (by omega),dH,cx (by rw[zI9];exact hj)];exact zRL hj
theorem zYT(hj:j<m):zBQ (.ref (.agg (zA5 F m))) j none=some (.ref (I (F.getD j 0))):=by
 have h1:(I (F.getD j 0)).oneCell=true:=rfl;simp only[zBQ,zPO,sub,zRL hj,Option.isSome,ci,h1,cond_true]
theorem zD0{n:Nat}(hj:j<m)(hn:beq n 1=true:=by kernel_rfl):zBQ (.ref (.agg (zA5 F m))) (j*n) none=some (.ref (I (F.getD j 0))):=by
 rw[bd hn,fF];exact zYT hj
theorem zK8(hc:c'=A.length+j)(hj:j<m):zM3 r pre i c' 1 (.agg (A++zA5 F m++B))=some (true,[I (F.getD j 0)]):=by
 subst hc;have yA:A.length+j<(A++zA5 F m++B).length:=by rw[bu,bu,zI9];omega
 have hb:ble (A.length+j+1) (agg (A++zA5 F m++B)).cells.length=true:=by rw[fU];exact yA
 have h2:((A++zA5 F m++B).drop (A.length+j)).take 1=[I (F.getD j 0)]:=by
  rw[b6 yA];have:=zXU (A:=A) (B:=B) (F:=F) hj;rw[bl yA] at this;simp only[ba] at this;rw[this];simp
 simp only[zM3,hb,cond_true,PV.isAgg];show some (true,zBI r pre i (A.length+j) (((A++zA5 F m++B).drop (A.length+j)).take 1))=_
 rw[h2];rfl
theorem zXf{u:Int}(hj:j<m)(hF:F.length=m):(zA5 F m).set j (I u)=zA5 (F.set j u) m:=by
 rw[zGv hF,zGv (F:=F.set j u) (by simpa using hF),List.map_set]
theorem zPy{u:Int}(hc:c'=A.length+j)(hj:j<m)(hF:F.length=m):zAG (.agg (A++zA5 F m++B)) c' [I u] = .agg (A++zA5 (F.set j u) m++B):=by
 subst hc;have yA:A.length+j<(A++zA5 F m++B).length:=by rw[bu,bu,zI9];omega
 have e:(A++zA5 F m++B).take (A.length+j)++[I u]++(A++zA5 F m++B).drop (A.length+j+1)=(A++zA5 F m++B).set (A.length+j) (I u):=by
  rw[cm,if_pos yA];simp
 simp only[zAG,bT,e];rw[cO,List.set_append_right _ _ (by omega),dH,List.set_append_left _ _ (by rw[zI9];exact hj),zXf hj hF,cO]
theorem zPV(hc:c'=A.length+j)(hj:j<m){q:PV}:ble (c' + [q].length) (agg (A++zA5 F m++B)).cells.length=true:=by
 subst hc;rw[fU];show _<=(A++zA5 F m++B).length;rw[bu,bu,zI9];simp;omega
theorem zWT(hj:j<m):sub (.agg (zA5 F m)) j none=some (I (F.getD j 0)):=by
 simp only[sub,zRL hj]
theorem zFk(hc:c'=j)(hj:j<m):zM3 r pre i c' 1 (.agg (zA5 F m))=some (true,[I (F.getD j 0)]):=by
 have:=zK8 (A:=[]) (B:=[]) (F:=F) (r:=r) (pre:=pre) (i:=i) (c':=c') (by simpa using hc) hj;simpa using this
theorem zOu{u:Int}(hc:c'=j)(hj:j<m)(hF:F.length=m):zAG (.agg (zA5 F m)) c' [I u] = .agg (zA5 (F.set j u) m):=by
 have:=zPy (A:=[]) (B:=[]) (F:=F) (u:=u) (c':=c') (by simpa using hc) hj hF;simpa using this
theorem zO5(hc:c'=j)(hj:j<m){q:PV}:ble (c' + [q].length) (agg (zA5 F m)).cells.length=true:=by
 have:=zPV (A:=[]) (B:=[]) (F:=F) (q:=q) (c':=c') (by simpa using hc) hj;simpa using this
theorem zUA{n:Nat}(hj:j<m)(hn:beq n 1=true:=by kernel_rfl):sub (.agg (zA5 F m)) (j*n) none=some (I (F.getD j 0)):=by
 rw[bd hn,fF];exact zWT hj
end
section
variable {l:LI} {r i c c' k:Nat} {pre:zA4}
theorem zJ2:∀ (l:LI) (c:Nat),zBI r pre i c (l.map I)=l.map I
 |[],_=>rfl|x::l,c=>by simp only[bL,zBI,zJ2 l (c+1)];rfl
theorem zYJ(hc:c'=c)(h:c+k<=l.length):zM3 r pre i c' k (.agg (l.map I))=some (true,((l.drop c).take k).map I):=by
 subst hc;have hb:ble (c'+k) (agg (l.map I)).cells.length=true:=by rw[fU];simpa[PV.cells] using h
 simp only[zM3,hb,cond_true,PV.isAgg];show some (true,zBI r pre i c' (((l.map I).drop c').take k))=_
 rw[<- fq,<- fp,zJ2]
theorem zX0{K:Nat}(hc:c'=c)(h:c+K<=l.length)(hk:beq k K=true):zM3 r pre i c' k (.agg (l.map I))=some (true,((l.drop c).take K).map I):=by rw[bd hk];exact zYJ hc h
theorem zX8{K m:Nat}(hl:l.length=m)(hc:c'=c)(h:c+K<=m)(hk:beq k K=true):zM3 r pre i c' k (.agg (zA5 l m))=some (true,zA5 ((l.drop c).take K) K):=by
 rw[zGv hl,zX0 (K:=K) hc (by omega) hk,zGv (F:=(l.drop c).take K) (by rw[cj,dz];omega)]
theorem zRW{P:Program}{t:TypeId}{l m:LI}(k:Nat)(hl:l.length=k)(hm:m.length=k)(h:zMd P t k=true:=by kernel_rfl):zG5 P .neq t (.agg (zA5 l k)) (.agg (zA5 m k))=some (.bool (!decide (l=m))):=by
 rw[zGv hl,zGv hm];exact zWL k hl hm h
end
end Go.Eng
namespace Go.Eng
open Go
theorem zDQ{a b m k M:Nat}(h:beq m M=true)(h2:beq k 1=true):a*m+b*k=a*M+b:=by rw[bd h,bd h2,fF]
theorem zDY{a m M:Nat}(h:beq m M=true):a*m=a*M:=by rw[bd h]
theorem zD7{a b m k M:Nat}(h:beq m M=true)(h2:beq k 1=true):0+a*m+b*k=a*M+b:=by rw[dq];exact zDQ h h2
theorem zDR{a m M:Nat}(h:beq m M=true):0+a*m=a*M:=by rw[dq];exact zDY h
theorem zBE{α:Type}{g:α->PV}{l:List α}{u:α}{y:PV}(h:g u=y):l.map g++[y]=(l++[u]).map g:=by rw[<- h,cT];rfl
def zWf(P:Program)(e:Env)(o:Oper):Option (Nat×PV×PV) :=
 match o.op,o.dst with
 | .call c,none=>match c.callee,c.args.toList,c.argTypes.toList with
  |.builtin .clear,[x],t::_=>match(zB1 P t).bind (zCO P),(zB1 P t).bind (szT P) with
   |some q,some s=>some (s,q,zZV e x)|_,_=>none
  |_,_,_=>none
 |_,_=>none
section
variable [Yo] {P:Program} {H:zBg} {f:FuncId} {i:Nat} {c:Code} {R:Env->Option Log->Prop}
theorem zLC{α:Type}{g:α->PV}{pre:zA4}(put':PV->PV)(r s lo n:Nat)(l:List α)(u:α){st:RS}(uJ:lo+n<=l.length)(hu:(g u).plain=true/\(g u).cells.length=s)(hy:∀ x,zZ0 s (g x) (g u))(L:zRs pre put')
  (h:WS P H f c (i+1) ⟨none,st.e.set r (put' (.own s ((l.take lo++replicate n u++l.drop (lo+n)).map g))),none⟩ R) (he:st.e.get r=put' (.own s (l.map g)):=by kernel_rfl) (ho:zWf P st.e (zEy c i)=some (s,g u,.bor r pre s lo n):=by kernel_rfl) (hs:blt 0 s=true:=by kernel_rfl)
  (kP:st.dr=none:=by kernel_rfl) (qB:st.lg=none:=by kernel_rfl) (hg:zOF c i st.e=true:=by kernel_rfl) (hi:blt i (zE7 c).size=true:=by kernel_rfl):WS P H f c i st R:=by
 obtain⟨dr,e,lg⟩:=st;simp only at kP h he ho hg qB;subst kP;subst qB;obtain⟨e',g1,g2,g3⟩:=zJl L he (j:=lo) (ys:=replicate n (g u)) (by simpa using uJ) fun a x y hx wp=>by
  rw[cH] at hx;obtain⟨x',_,rfl⟩:=bm.1 hx;obtain⟨hn,hy2⟩:=bg.1 wp;rw[fG] at hy2;subst hy2;obtain⟨_,_,h3,h4,h5,h6⟩:=hy x';exact⟨h3,h4,h5,h6⟩
 have y8:∀ t,e'.get t=(e.set r (put' (.own s ((l.take lo++replicate n u++l.drop (lo+n)).map g)))).get t:=fun t=>by
  rw[Env.get_set];split
  ·rename_i h;subst h;rw[g1];simp
  ·rename_i h;exact g2 t h
 refine zZH (s:=⟨none,e,none⟩) (e':=e') ⟨0,fun m _=>?_⟩ (zYL h fun t=>y8 t) rfl rfl hg hi;show(opM P H _ _ _ (zEy c i)).run _ e=_
 generalize zEy c i=o at ho;cases hop:o.op<;>simp only[zWf,hop] at ho<;>try (cases ho;done)
 rename_i cc;cases kL:o.dst<;>rw[kL] at ho<;>simp only at ho<;>try (cases ho;done)
 split at ho
 ·rename_i x t ts hc ha hT;split at ho
  ·rename_i q s' hq jK;simp only[ba,bz] at ho;obtain⟨rfl,rfl,hx⟩:=ho;simp only[opM,hop,zK2,hc,ha,hT,zBB,kL];rw[zWP hx (by simp)];simp only[zRA,hs,cN,hu.1,hu.2,dT,cond_true,hq,jK];rw[g3];rfl
  ·cases ho
 ·cases ho
end
end Go.Eng
namespace Go.Eng
open Go
section
variable [Yo] {P:Program} {H:zBg} {f:FuncId} {nt:Nat} {c:Code} {e:Env} {lg:Option Log} {K:X->Env->Option Log->Prop}
end
end Go.Eng
namespace Go.Eng
open Go
theorem zPc[Yo]{P:Program}{H:zBg}{f:FuncId}{nt:Nat}{e:Env}{lg:Option Log}{K:X->Env->Option Log->Prop}{σ:Type}{c:Code}{t g:Nat}{first caps:List PV}{xs:List (List PV)}(hY:zGs g first caps xs)(Inv:Nat->σ->Prop)(upd:σ->List (Nat×PV))(s:σ)(hi:Inv 0 s)
  (h:∀ j x s,xs[j]? = some x->Inv j s->zLW P H f nt (zZs c) (rgA c) (rgB c) x (zMH (upd s) e) fun y e3=>match y with
   |.norm=>∃ s',Inv (j+1) s'/\after nt [] (zYa c) (zMH (upd s) e) e3=zMH (upd s') e|y=>K y (after nt [] (zYa c) (zMH (upd s) e) e3) none) (hK:∀ s,Inv xs.length s->K .norm (zMH (upd s) e) none) (hs:e=zMH (upd s) e:=by kernel_rfl) (yN:zDV e t=some (g,first,caps,[]):=by kernel_rfl) (hc:rgT c=some t:=by kernel_rfl) (hl:lg=none:=by kernel_rfl):W P H f nt c e lg K :=
 zXM (t:=t) hY Inv (fun s=>zMH (upd s) e) s hi h hK hs yN hc hl
end Go.Eng
namespace Go.Eng
open Go
theorem zRs.field(A B:List PV):zRs [(0,A.length)] (fun q=>.box (.agg (A++q::B))):=fun f z xs=>by
 have h1:(A++own z xs::B)[A.length]? = some (.own z xs):=by simp
 simp only[zAz,zA9,bJ,PV.cells,h1]
 cases f (.own z xs) with
 |none=>rfl|some q=>simp[zAJ,zAG]
end Go.Eng
namespace Go.Eng
open Go
theorem zF7(l:LI):zAt (l.map I)=l.map I:=zAs l
theorem zIv(k:IntKind)(l:LI):zAt (l.map (int k))=l.map (int k):=zAs l
theorem zFx(l:List Bool):zAt (l.map bool)=l.map bool:=zAs l
theorem zAx{α:Type}{g g':α->PV}(l:List α)(h:∀ x,zA0 (g x)=g' x:=by intro x;simp only[zA0,zAt,zF7,zFx,zIv]):zAt (l.map g)=l.map g':=by
 induction l with
 |nil=>rfl|cons x l ih=>simp only[bL,zAt,h,ih]
theorem zAY{xs ys:List PV}(h:zAt xs=ys):zAt ((xs.drop 0).take xs.length)=ys:=by rw[dX,dt];exact h
theorem zH9{r z:Nat}{xs ys:List PV}(h:zAt xs=ys):PV.mapW (inl r [] (.own z xs)) (.bor r [] z 0 xs.length) = .sl ys:=by
 have e:zAU r [] r []=true:=by simp[zAU]
 have e2:ble (0+xs.length) xs.length=true:=by simp
 simp only[PV.mapW,inl,e,cond_true];show zGH (zAH (.own z xs) []) (zCH 0 xs.length)=_
 simp only[zAH,zGH,zCH,e2,cond_true];rw[zAY h]
def zP6 (P:Program) (t:TypeId) (k1 k2:IntKind):Bool := !P.eqGuardType P.depth t && !P.stoodInHeld t&&match P.underlying t with
  | some (.struct fs)=>match fs.toList with
    | [f1, f2] => !decide (f1.name = "_") && !decide (f2.name = "_") && decide (shT P f1.type = some none) && decide (shT P f2.type = some none) && decide (f1.offset = 0) && decide (f2.offset = 1) &&
      (match P.underlying f1.type with|some (.int k)=>decide (k=k1)|_=>false)&&(match P.underlying f2.type with|some (.int k)=>decide (k=k2)|_=>false)
    |_=>false
  |_=>false
theorem zSo{P:Program}{t:TypeId}{k1 k2:IntKind}{a b c d:Int}(h:zP6 P t k1 k2=true):eqV P t (.agg [.int k1 a,.int k2 b]) (.agg [.int k1 c,.int k2 d])=some (decide (a=c)&&decide (b=d)):=by
 unfold zP6 at h;rw[bb,bb] at h;obtain⟨⟨h1,h2⟩,h3⟩:=h;split at h3
 ·rename_i fs hu;split at h3
  ·rename_i f1 f2 hl;simp only[bb,decide_eq_true_eq,bG,decide_eq_false_iff_not] at h1 h2 h3;obtain⟨⟨⟨⟨⟨⟨⟨n1,n2⟩,s1⟩,s2⟩,o1⟩,o2⟩,u1⟩,u2⟩:=h3;split at u1
   ·rename_i k1' jY;split at u2
    ·rename_i k2' qH;simp only[decide_eq_true_eq] at u1 u2;subst u1;subst u2;simp only[eqV,h1,cond_false,eqT,hu,h2,hl,zQO,n1,n2,s1,s2,o1,o2,sub,jY,qH,if_true,if_false,bJ,fa];by_cases e1:a=c
     ·subst e1;by_cases e2:b=d
      ·subst e2;simp
      ·simp[e2]
     ·simp[e1]
    ·cases u2
   ·cases u1
  ·cases h3
 ·cases h3
theorem zLS{P:Program}{t:TypeId}{k1 k2:IntKind}{a b c d:Int}(h:zP6 P t k1 k2=true:=by kernel_rfl):zG5 P .neq t (.agg [.int k1 a,.int k2 b]) (.agg [.int k1 c,.int k2 d])=some (.bool (!(decide (a=c)&&decide (b=d)))):=by
 simp only[zG5,zSo h,bv]
theorem zX2{P:Program}{t:TypeId}{k1 k2:IntKind}{a b c d:Int}(h:zP6 P t k1 k2=true:=by kernel_rfl):zG5 P .eql t (.agg [.int k1 a,.int k2 b]) (.agg [.int k1 c,.int k2 d])=some (.bool (decide (a=c)&&decide (b=d))):=by
 simp only[zG5,zSo h,bv]
section
variable {α:Type} {g:α->PV} {l:List α} {i z:Nat} {b:PV}
end
def zIM(P:Program)(t:TypeId):Bool:=match P.underlying t with|some (.slice _)=>true|_=>false
theorem zXS{P:Program}{t:TypeId}{p:PV}{z:Nat}(he:zFf p=true)(hp:(match p with|.nils _=>false|.agg _=>false|_=>true)=true:=by rfl)(h:zIM P t=true:=by kernel_rfl):eqV P t p (.nils z)=some false:=by
 unfold zIM at h;split at h
 ·rename_i e hu;unfold eqV;rw[hu];cases p<;>first|(cases hp;done)|simp only[he,cond_true]
 ·cases h
theorem zVo{P:Program}{t:TypeId}{p:PV}{z:Nat}(he:zFf p=true)(hp:(match p with|.nils _=>false|.agg _=>false|_=>true)=true:=by rfl)(h:zIM P t=true:=by kernel_rfl):(eqV P t p (.nils z)).map bool=some (.bool false):=by rw[zXS he hp h];rfl
theorem zA6{xs:List PV}:take xs.length (drop 0 xs)=xs:=by rw[dX,dt]
def zYA[Yo](P:Program)(H:zBg)(f:FuncId)(fn:Func)(nh:Nat)(Q:PV->List PV->Prop)(x:X)(e:Env)(lg:Option Log):Prop:=∃ v h,zQ0 P H f fn nh v h x e lg/\Q v h
section
variable [Yo] {P:Program} {H:zBg} {f:FuncId} {e:Env} {lg:Option Log}
theorem E_q{fn:Func}{nh:Nat}{Q:PV->List PV->Prop}{x:X}(as:Ans){obs:List Prop}(ho:zRG obs)(v':PV)(h':List PV)(hQ:Q v' h')(hf:zH7 P H f fn as e nh=some ((v',h'),obs):=by kernel_rfl)(hl:lg=none:=by kernel_rfl)(hx:x = .norm\/x = .ret:=by first|exact .inr rfl|exact .inl rfl):zYA P H f fn nh Q x e lg:=⟨v',h',E_a as ho v' h' rfl rfl hf hl hx,hQ⟩
theorem zNL(fn:Func){args hid:List PV}(Q:PV->List PV->Prop)(h:W P H f fn.ntmps (fn.body.getD .ret) (zBf args hid) none (zYA P H f fn hid.length Q))(hf:P.funcs[f]? = some fn:=by kernel_rfl)(hi:(H f).intr=0:=by kernel_rfl)(hb:fn.body.isSome=true:=by kernel_rfl)
  (hc:(ble args.length fn.ntmps&&ble hid.length 1000&&args.all (fun p=>!p.isTup))=true:=by kernel_rfl):∃ v h,zBD P H f args hid v h/\Q v h:=by
 obtain⟨n0,x,e1,lg1,h1,v,h',h2,h3⟩:=h;exact⟨v,h',zAd fn ⟨n0,x,e1,lg1,h1,h2⟩ hf hi hb hc,h3⟩
end
theorem zUZ{α:Type}{g:α->PV}{l:List α}(h:0<l.length):zFf (.sl (l.map g))=true:=by
 cases l with
 |nil=>exact absurd h (fJ _)|cons x l=>rfl
theorem zOG{P:Program}{t:TypeId}{z:Nat}{α:Type}{g:α->PV}{l:List α}(hp:0<l.length)(h:zIM P t=true:=by kernel_rfl):zG5 P .eql t (.sl (l.map g)) (.nils z)=some (.bool false):=by
 have:=zVo (P:=P) (t:=t) (z:=z) (zUZ (g:=g) hp) rfl h;simpa[zG5] using this
class FrzOf {α:Type} (g:α->PV) (g':outParam (α->PV)):Prop where
 frz:∀ x,zA0 (g x)=g' x
theorem zAE{α:Type}{g g':α->PV}[h:FrzOf g g'](l:List α):zAt (l.map g)=l.map g':=zAx l h.frz
section
variable {α:Type} {g:α->PV} {l:List α} {i z:Nat} {b:PV} {u0:α}
theorem zWs(h:i<(l.set i u0).length):((l.set i u0).map g)[i]? = some (g u0):=by simp only[dF] at h;simp[h]
end
theorem zOw[Yo]{P:Program}{H:zBg}{f:FuncId}{nt:Nat}{e:Env}{lg:Option Log}{K:X->Env->Option Log->Prop}{c:Code}(n:Nat)(e1 ef:Env)(h1:e1=ef)(h:K (.ex n) ef lg)(hc:zS9 c=some n:=by kernel_rfl)(he:zWN ((H f).ices n) e=e1:=by kernel_rfl):W P H f nt c e lg K:=by
 rw[zNN hc];refine zWl ?_;rw[he,h1];exact h
end Go.Eng
namespace Go.Eng
open Go
theorem zFJ[Yo]{P:Program}{H:zBg}{f:FuncId}{nt:Nat}{e:Env}{lg:Option Log}{K:X->Env->Option Log->Prop}{σ:Type}{c:Code}(Inv:σ->Prop)(upd:σ->List (Nat×PV))(D:LN) (h1:W P H f nt (cl c) e lg fun x e' lg'=>match x with
   |.norm=>∃ s,Inv s/\e'=zMH (upd s) (e.drop D)/\lg'=lg|x=>K x e' lg') (h2:∀ s,Inv s->W P H f nt (cr c) (zMH (upd s) (e.drop D)) lg K) (hc:zS4 c=true:=by kernel_rfl):W P H f nt c e lg K :=
 zAc (zR3 h1 fun x e' lg' h=>by
  cases x with
  |norm=>obtain⟨s,hs,rfl,rfl⟩:=h;exact h2 s hs
  |_=>exact h) hc
theorem E_z[Yo]{P:Program}{H:zBg}{f:FuncId}{fn:Func}{nh:Nat}{v:PV}{h:List PV}{x:X}{e:Env}{lg:Option Log}(as:Ans){obs:List Prop}(ho:zRG obs)(hf:zH7 P H f fn as e nh=some ((v,h),obs):=by kernel_rfl)(hl:lg=none:=by kernel_rfl)(hx:x = .norm\/x = .ret:=by first|exact .inr rfl|exact .inl rfl):zQ0 P H f fn nh v h x e lg:=E_a as ho v h rfl rfl hf hl hx
theorem E_0[Yo]{P:Program}{H:zBg}{f:FuncId}{fn:Func}{nh:Nat}{v:PV}{h:List PV}{x:X}{e:Env}{lg:Option Log}(hf:zH7 P H f fn [] e nh=some ((v,h),[]):=by kernel_rfl)(hl:lg=none:=by kernel_rfl)(hx:x = .norm\/x = .ret:=by first|exact .inr rfl|exact .inl rfl):zQ0 P H f fn nh v h x e lg:=E_a [] an v h rfl rfl hf hl hx
theorem blz(l:List PV):(0+l.length).ble l.length=true:=by rw[dq];exact Nat.ble_self_eq_true _
theorem frT{α:Type}(g:α->PV)(l:List α)(h:∀ x,zA0 (g x)=g x:=by intro x;simp only[zA0,zAt,zF7,zFx,zIv]):sl (zAt (take (map g l).length (drop 0 (map g l))))=sl (map g l):=zWm (zAY (zAx l h))
theorem lnS{α:Type}(g:α->PV)(l:List α):some (map g l).length=some l.length:=by rw[be]
theorem wrN(i:Nat)(h:(i:Int)+1<9223372036854775808:=by omega):int IntKind.i64 (IntKind.i64.wrap ((i:Int)+1))=int IntKind.i64 ((i+1:Nat):Int):=zBW (by omega) (by omega)
theorem zAl[Yo]{P:Program}{H:zBg}{f:FuncId}{nt:Nat}{e:Env}{lg:Option Log}{K:X->Env->Option Log->Prop}{c:Code}(m:Nat)(h:WS P H f (cl c) (0+m) (zUo (zEJ P H f (cl c) m 0 {dr:=bif zMK (cl c) then some ([],[]) else none,e:=e,lg:=lg})) (zZx P H f nt (cr c) K .norm))(h1:zS4 c=true:=by kernel_rfl)(h2:zVe (cl c)=true:=by kernel_rfl)(h3:(zEJ P H f (cl c) m 0 {dr:=bif zMK (cl c) then some ([],[]) else none,e:=e,lg:=lg}).isSome=true:=by kernel_rfl)(h4:(0+m).ble (zE7 (cl c)).size=true:=by kernel_rfl):W P H f nt c e lg K:=zAc (zAb (zAm m h h3 h4) h2) h1
theorem S_i[Yo]{P:Program}{H:zBg}{f:FuncId}{c:Code}{j:Nat}{s:RS}{R:Env->Option Log->Prop}(i:Nat)(h:WS P H f c (j+1) (rsX (zWr P H f c j [(1,.v (.int .i64 ((i+1:Nat):Int)))] s)) R)(hb:(i:Int)+1<9223372036854775808:=by omega)(hq:(zWr P H f c j [(1,.v (.int .i64 ((i+1:Nat):Int)))] s).map (·.2)=some [int .i64 (IntKind.i64.wrap ((i:Int)+1))=int .i64 ((i+1:Nat):Int)]:=by kernel_rfl)(hi:blt j (zE7 c).size=true:=by kernel_rfl):WS P H f c j s R:=S_a _ (ap (wrN i hb) an) h hq hi
theorem rnd{σ:Type}{P Q A B:σ->Prop}(s:σ)(h1:P s)(h2:Q s)(h3:A s:=by kernel_rfl)(h4:B s:=by kernel_rfl):∃ s,P s/\Q s/\A s/\B s:=⟨s,h1,h2,h3,h4⟩
theorem S_g[Yo]{P:Program}{H:zBg}{f:FuncId}{c:Code}{i:Nat}{s:RS}{R:Env->Option Log->Prop}(m:Nat)(h:R (((zUo (zEJ P H f c m i s)).e.drop ((H f).drop (rid c))).norm) (zUo (zEJ P H f c m i s)).lg)(hs:(zEJ P H f c m i s).isSome=true:=by kernel_rfl)(hi:ble (i+m) (zE7 c).size=true:=by kernel_rfl)(he:ble (zE7 c).size (i+m)=true:=by kernel_rfl):WS P H f c i s R:=zAm m (zA3 h he) hs hi
theorem zAj[Yo]{P:Program}{H:zBg}{f:FuncId}{nt:Nat}{e:Env}{lg:Option Log}{K:X->Env->Option Log->Prop}{c:Code}(m:Nat)(h:zZx P H f nt (cr c) K .norm (((zUo (zEJ P H f (cl c) m 0 {dr:=bif zMK (cl c) then some ([],[]) else none,e:=e,lg:=lg})).e.drop ((H f).drop (rid (cl c)))).norm) (zUo (zEJ P H f (cl c) m 0 {dr:=bif zMK (cl c) then some ([],[]) else none,e:=e,lg:=lg})).lg)(h1:zS4 c=true:=by kernel_rfl)(h2:zVe (cl c)=true:=by kernel_rfl)(h3:(zEJ P H f (cl c) m 0 {dr:=bif zMK (cl c) then some ([],[]) else none,e:=e,lg:=lg}).isSome=true:=by kernel_rfl)(h4:(0+m).ble (zE7 (cl c)).size=true:=by kernel_rfl)(h5:ble (zE7 (cl c)).size (0+m)=true:=by kernel_rfl):W P H f nt c e lg K:=zAl m (zA3 h h5) h1 h2 h3 h4
abbrev zs(F:LI)(i k:Nat):PV:=int IntKind.i64 ((F.set i (i:Int)).getD k 0)
abbrev z8(i:Nat):PV:=int IntKind.i64 ((replicate 8 (0:Int)).getD i 0)
end Go.Eng
