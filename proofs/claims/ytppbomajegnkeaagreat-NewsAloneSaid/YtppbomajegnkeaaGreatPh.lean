/- For all numbers, cries, which and when the law NewsAlone ends in true: chains do not matter to each other; without conditions. -/
import Derived.Test.YtppbomajegnkeaaGreatPg
import Derived.Test.YtppbomajegnkeaaGreatPd
import Derived.Test.YtppbomajegnkeaaGreatPe
set_option linter.unusedVariables false
set_option linter.unusedSimpArgs false
set_option linter.unusedSectionVars false
set_option maxRecDepth 10000
set_option maxHeartbeats 4000000
namespace Go.Eng
open Go Go.Proofs
section
variable [Yo]
theorem f56 (l:List Int) (hl:l.length≤4294967296):zBD Tryz.prog zCM 56 [.bor 50000000 [] 1 0 l.length] [.own 1 (l.map I)] (.tup []) [.own 1 ((zFn l).map I)]:=zPi (fn:=Tryz.f56) l hl
end
def zXo (x:Int):Bool:=decide (x≠-1)
theorem zSr {p:Int→Bool} {l:List Int} {i:Nat} (hi:i<l.length):(l.take (i+1)).filter p=if p (l.getD i 0)=true then (l.take i).filter p++[l.getD i 0] else (l.take i).filter p:=by
 rw [zCo (d:=0) hi,List.filter_append]
 by_cases hp:p (l.getD i 0)=true
 ·rw [if_pos hp];simp only [List.filter_cons,hp,if_true,List.filter_nil]
 ·rw [if_neg hp];simp only [List.filter_cons,hp,List.filter_nil,List.append_nil];simp
theorem f51_1 (n:Nw) (cs:List (Int×Int)) (e:Int) (h:Nat) (ho:EvOk n cs e) (hh:(h:Int)<n.h):FG 51 [nwV n,prs cs,I e,I h] (.tup [.own 1 ((zBR (hld n (zBl n cs e.toNat) h) n.n.length).map I),I 0]):=by
 have hc:=ho.cr
 have vQ:=hc.w
 have hn:=hc.nw
 have he:=ho.ev
 have hH:=hn.h
 have hin:inB h 0 (n.h-1)=true:=by simp only [inB,Bool.and_eq_true,decide_eq_true_eq];omega
 rw [← zUb hn (zRj vQ e.toNat) (by omega)]
 have gk:=zB6 (n:=n) (cs:=cs) e.toNat
 refine zAe Tryz.f51 ?_
 refine zAd 3<|zAa<|zAd 3<|S_a [(10,.ret (PV.tup [zDN n cs,I 0]) [])] (ap (f90_1 n cs e (by omega)) an)<|zAc 5<|zAa<|zAi<|zAk 0<|zAd 3<|zAa<|zAG<|zAd 2<|S_a [(8,.ret (PV.bool (inB (↑h:Int) 0 (n.h-1))) [])] (ap (f109 n ((↑h:Int)) (by omega)) an)<|zAc 2<|zAa<|zFe (!inB (↑h:Int) 0 (n.h-1)) (fun k0=>(zAd 2<|zAa<|zAn<|E_a [] an (PV.tup [PV.own 1 [],I 1]) [] ?_ rfl)) (fun k0=>(zAl<|zAd 1<|zAa<|zAi<|zAd 2<|S_a [(7,.ret (hdV (zBl n cs e.toNat)) [])] (ap (f92 n cs e (by omega) (by omega)) an)<|zAc 1<|S_a [(2,.ob),(0,.v (PV.agg (zAM (List.take 8 (List.drop (h*8) (zBl n cs e.toNat))) 8)))] (ap ((by exact zAs (by omega)):decide (h<10)=true)<|ap (zTg (K:=8) (c:=h*8) (by omega) (by first | rfl | exact zC3 (by kernel_rfl) | (simp;done)) (by omega) (by kernel_rfl):sub (PV.agg (zAM (zBl n cs e.toNat) 80)) (h*(fun x=>x.size) Tryz.prog.types[128]) (some Tryz.prog.types[128].size)=some (PV.agg (zAM (List.take 8 (List.drop (h*8) (zBl n cs e.toNat))) 8))) an)<|zAc 1<|zAa<|zAk 1 ?_))
 ·rw [hin] at k0;cases k0
 generalize zBl n cs e.toNat=w at *
 have hrl:(zSG w h).length=8:=by simp [zSG];omega
 refine zAA (fun (i,l)=>i≤8∧l=((zSG w h).take i).filter zXo) (fun (i,l)=>[(12,.own 1 (l.map I)),(36,I (i:Nat))]) (fun (i,_)=>8-i) ((0:Nat),([]:List Int)) ⟨by omega,rfl⟩ fun (i,l) ⟨hi,hl⟩=>?_
 have wc:l.length≤i:=by rw [hl];exact Nat.le_trans (List.length_filter_le _ _) (by simp;omega)
 by_cases yV:i<8
 ·have yW:=zSr (p:=zXo) (l:=zSG w h) (i:=i) (by omega)
  rw [← hl,show (zSG w h).getD i 0=((w.drop (h*8)).take 8).getD i 0 from rfl] at yW
  clear hl
  refine zAd 1<|zAa<|zAi<|zA8 ((↑i:Int)<8) (by omega)<|zAl<|zAi<|zAk 2<|zAi<|zAg<|S_a [(2,.ob),(0,.v (I ((List.take 8 (List.drop (h*8) w)).getD i 0)))] (ap ((by exact zAs (by omega)):decide (i<8)=true)<|ap (zPf (F:=List.take 8 (List.drop (h*8) w)) (m:=8) (j:=i) (by omega):sub (PV.agg (zAM (List.take 8 (List.drop (h*8) w)) 8)) (i*(fun x=>x.size) Tryz.prog.types[3]) none=some (I ((List.take 8 (List.drop (h*8) w)).getD i 0))) an)<|zAc 1<|zAa<|zAd 2<|zAa<|zDT ((List.take 8 (List.drop (h*8) w)).getD i 0 = -1) (fun k1=>(zAg<|zAc 3<|S_a [(4,.ob),(0,.ob),(0,.yes),(2,.v (PV.own 1 (List.map I (l++[(List.take 8 (List.drop (h*8) w)).getD i 0]))))] (ap (blz (List.map I l))<|ap ((by exact zA0 (by simp only [List.length_map,zzLn,zAU]<;>omega)):((List.map I l).length + [I ((List.take 8 (List.drop (h*8) w)).getD i 0)].length).ble zAU=true)<|ap ((by exact zBB (by simp<;>omega)):(0+(List.map I l).length).beq (List.map I l).length=true)<|ap ((zAY (zBE (by kernel_rfl))):PV.own 1 (List.map I l++[I ((List.take 8 (List.drop (h*8) w)).getD i 0)])=PV.own 1 (List.map I (l++[(List.take 8 (List.drop (h*8) w)).getD i 0]))) an)<|zAc 1<|zAa<|zAg<|S_a [(1,.v (I (↑(i+1):Int)))] (ap (wrN i) an)<|zAc 1<|zAa ?_)) (fun k1=>(zAl<|zAg<|S_a [(1,.v (I (↑(i+1):Int)))] (ap (wrN i) an)<|zAc 1<|zAa ?_))
  ·rw [if_pos (by simp only [zXo,decide_eq_true_eq];exact k1)] at yW
   exact ⟨(i+1,l++[((w.drop (h*8)).take 8).getD i 0]),⟨by omega,yW.symm⟩,by simp only;omega,by kernel_rfl,by kernel_rfl⟩
  ·rw [if_neg (by simp only [zXo,decide_eq_true_eq];exact fun h=>h k1)] at yW
   exact ⟨(i+1,l),⟨by omega,yW.symm⟩,by simp only;omega,by kernel_rfl,by kernel_rfl⟩
 ·rw [List.take_of_length_le (by omega)] at hl
  have j4:(zFn l).length=l.length:=zS0
  rw [show zXn w h=l from hl.symm]
  clear hl
  refine zAd 1<|zAa<|zAi<|zBk ((↑i:Int)<8) (by omega)<|zAS 1<|zAd 1<|S_a [(3,.vs ([PV.bor 50000000 [] 1 0 l.length])),(0,.ret (PV.tup []) ([PV.own 1 (List.map I (zFn l))]))] (ap ((by simp) : [PV.bor 50000000 [] 1 0 (List.map I l).length]=[PV.bor 50000000 [] 1 0 l.length])<|ap (f56 l (by omega)) an)<|zAa<|zAd 1<|S_a [(2,.yes)] (ap ((by exact zBB (by simp<;>omega)):(Nat.beq 0 0&&(List.map I (zFn l)).length.beq (List.map I (zFn l)).length)=true) an)<|zAc 1<|zAa<|zAn<|E_a [(1,.yes),(1,.v (PV.own 1 (List.map I (zFn l))))] (ap (blz (List.map I (zFn l)))<|ap ((zAY zBi):PV.own 1 (List.take (List.map I (zFn l)).length (List.drop 0 (List.map I (zFn l))))=PV.own 1 (List.map I (zFn l))) an) (PV.tup [PV.own 1 (List.map I (zFn l)),I 0]) [] rfl rfl
end Go.Eng
namespace Go.Eng
open Go Go.Proofs
abbrev u8 (n:Int):PV := .int .u8 n
abbrev u32 (n:Int):PV := .int .u32 n
abbrev zB2 (l:List Int) (a:Nat) (t:Int):PV := .box (.agg [.sl (l.map u8),I a,u32 t])
abbrev zPF:PV := .addr 50000000 [] 0 0 (some 3)
def zDQ (l:List Int) (a:Nat):Prop:=a≤l.length∧l.length<9223372036854775808
def zGf (l:List Int) (a:Nat):Nat:=if a=l.length then 0 else a
def zAI (l:List Int) (a:Nat) (t:Int):Int:=if a=l.length then IntKind.u32.wrap (t+1) else t
def zAC (l:List Int) (a:Nat):Nat:=if 0<l.length then zGf l a+1 else zGf l a
theorem zCt {l:List Int} {a:Nat} (h:zDQ l a):zDQ l (zAC l a):=by
 obtain ⟨h1,h2⟩:=h
 refine ⟨?_,h2⟩
 unfold zAC zGf
 repeat' split
 all_goals omega
def zPS (n:Int):Int:=IntKind.u32.wrap ↑(BitVec.ofInt IntKind.u32.bits (IntKind.u32.wrap ↑(BitVec.ofInt IntKind.u32.bits n ^^^ BitVec.ofInt IntKind.u32.bits (n.fdiv (2 ^ min (Int.toNat 7) IntKind.u32.bits))).toNat) &&& BitVec.ofInt IntKind.u32.bits 65535).toNat
theorem zOE (n:Int):0≤zPS n∧zPS n≤65535:=by
 unfold zPS
 generalize BitVec.ofInt IntKind.u32.bits (IntKind.u32.wrap ↑(BitVec.ofInt IntKind.u32.bits n ^^^ BitVec.ofInt IntKind.u32.bits (n.fdiv (2 ^ min (Int.toNat 7) IntKind.u32.bits))).toNat)=x
 have h:(x &&& BitVec.ofInt IntKind.u32.bits 65535).toNat≤65535:=by
  rw [BitVec.toNat_and]
  exact Nat.le_trans Nat.and_le_right (by decide)
 generalize (x &&& BitVec.ofInt IntKind.u32.bits 65535).toNat=m at h
 have:IntKind.u32.wrap (m:Int)=m:=by
  simp only [IntKind.wrap]
  simp [IntKind.signed,IntKind.bits]
  omega
 rw [this];omega
def zHx (l:List Int) (a:Nat) (t:Int):Int:=zPS (if 0<l.length then IntKind.u32.wrap (IntKind.u32.wrap (30011*zAI l a t)+IntKind.u32.wrap (263*IntKind.u32.wrap (l.getD (zGf l a) 0))) else IntKind.u32.wrap (30011*zAI l a t))
theorem zS4 (l:List Int) (a:Nat) (t:Int):0≤zHx l a t∧zHx l a t≤65535:=zOE _
def zAp (l:List Int) (a:Nat) (t:Int) (n:Int):Int:=(zHx l a t).tmod (max 1 (n+1))
theorem zCB (l:List Int) (a:Nat) (t:Int) (n:Int):0≤zAp l a t n∧zAp l a t n≤max 0 n:=by
 have h1:=zS4 l a t
 have h2:0<max 1 (n+1):=by omega
 have h3:=Int.tmod_nonneg (max 1 (n+1)) h1.1
 have h4:=Int.tmod_lt_of_pos (zHx l a t) h2
 unfold zAp
 omega
section
variable [Yo]
theorem f49 (l:List Int):FG 49 [.sl (l.map u8)] (zB2 l 0 0):=by
 refine zAe Tryz.f49 ?_
 refine zAd 1<|zAa<|zAd 4<|zAa<|zAn<|E_a [] an ((PV.agg [PV.sl (List.map u8 l),I 0,PV.int IntKind.u32 0]).box) [] rfl rfl
theorem f175 (l:List Int) (a:Nat) (t:Int) (h:zDQ l a):zBD Tryz.prog zCM 175 [zPF] [zB2 l a t] (I (zHx l a t)) [zB2 l (zAC l a) (zAI l a t)]:=by
 refine zAe Tryz.f175 ?_
 have h1:=h.1
 have h2:=h.2
 have hb:∀ n,-9223372036854775808≤zPS n∧zPS n<9223372036854775808:=fun n=>by have:=zOE n;omega
 refine zAd 1<|zAa<|zAi<|zAd 8<|S_a [(0,.n l.length)] (ap (lnS u8 l) an)<|zAc 1<|zAa<|zDo ((↑a:Int)=(↑l.length:Int)) (fun k0=>(zAg<|zAc 6<|zAc 1<|zAc 6<|zAa<|zAd 3<|zAc 1<|zAc 1<|zAc 1<|zAa<|zAi<|zAd 4<|S_a [(0,.n l.length)] (ap (lnS u8 l) an)<|zAc 1<|zAa<|zDo ((↑l.length:Int)>0) (fun k1=>(zAd 9<|S_a [(2,.v (PV.int IntKind.u8 (l.getD 0 0)))] (ap (zCI (0) (by omega):(List.map u8 l)[0]? = some (PV.int IntKind.u8 (l.getD 0 0))) an)<|zAc 1<|zAc 1<|zAc 1<|zAc 1<|zAc 1<|zAa<|zAg<|zAc 8<|zAa<|zAd 2<|zAc 1<|zAc 1<|zAc 1<|S_a [(0,.v (I (IntKind.u32.wrap (↑(BitVec.ofInt IntKind.u32.bits (IntKind.u32.wrap (↑(BitVec.ofInt IntKind.u32.bits (IntKind.u32.wrap (IntKind.u32.wrap (30011*IntKind.u32.wrap (t+1))+IntKind.u32.wrap (263*IntKind.u32.wrap (l.getD 0 0)))) ^^^ BitVec.ofInt IntKind.u32.bits ((IntKind.u32.wrap (IntKind.u32.wrap (30011*IntKind.u32.wrap (t+1))+IntKind.u32.wrap (263*IntKind.u32.wrap (l.getD 0 0)))).fdiv (2 ^ min (Int.toNat 7) IntKind.u32.bits))).toNat:Int)) &&& BitVec.ofInt IntKind.u32.bits 65535).toNat:Int))))] (ap ((zCe rfl ?_):I (IntKind.i64.wrap (IntKind.u32.wrap (↑(BitVec.ofInt IntKind.u32.bits (IntKind.u32.wrap (↑(BitVec.ofInt IntKind.u32.bits (IntKind.u32.wrap (IntKind.u32.wrap (30011*IntKind.u32.wrap (t+1))+IntKind.u32.wrap (263*IntKind.u32.wrap (l.getD 0 0)))) ^^^ BitVec.ofInt IntKind.u32.bits ((IntKind.u32.wrap (IntKind.u32.wrap (30011*IntKind.u32.wrap (t+1))+IntKind.u32.wrap (263*IntKind.u32.wrap (l.getD 0 0)))).fdiv (2 ^ min (Int.toNat 7) IntKind.u32.bits))).toNat:Int)) &&& BitVec.ofInt IntKind.u32.bits 65535).toNat:Int)))=I (IntKind.u32.wrap (↑(BitVec.ofInt IntKind.u32.bits (IntKind.u32.wrap (↑(BitVec.ofInt IntKind.u32.bits (IntKind.u32.wrap (IntKind.u32.wrap (30011*IntKind.u32.wrap (t+1))+IntKind.u32.wrap (263*IntKind.u32.wrap (l.getD 0 0)))) ^^^ BitVec.ofInt IntKind.u32.bits ((IntKind.u32.wrap (IntKind.u32.wrap (30011*IntKind.u32.wrap (t+1))+IntKind.u32.wrap (263*IntKind.u32.wrap (l.getD 0 0)))).fdiv (2 ^ min (Int.toNat 7) IntKind.u32.bits))).toNat:Int)) &&& BitVec.ofInt IntKind.u32.bits 65535).toNat:Int))) an)<|zAc 1<|zAa<|zAn<|E_a [] an (I (IntKind.u32.wrap (↑(BitVec.ofInt IntKind.u32.bits (IntKind.u32.wrap (↑(BitVec.ofInt IntKind.u32.bits (IntKind.u32.wrap (IntKind.u32.wrap (30011*IntKind.u32.wrap (t+1))+IntKind.u32.wrap (263*IntKind.u32.wrap (l.getD 0 0)))) ^^^ BitVec.ofInt IntKind.u32.bits ((IntKind.u32.wrap (IntKind.u32.wrap (30011*IntKind.u32.wrap (t+1))+IntKind.u32.wrap (263*IntKind.u32.wrap (l.getD 0 0)))).fdiv (2 ^ min (Int.toNat 7) IntKind.u32.bits))).toNat:Int)) &&& BitVec.ofInt IntKind.u32.bits 65535).toNat:Int))) ([(PV.agg [PV.sl (List.map u8 l),I (IntKind.i64.wrap (0+1)),PV.int IntKind.u32 (IntKind.u32.wrap (t+1))]).box]) ?_ ?_)) (fun k1=>(zAl<|zAd 2<|zAc 1<|zAc 1<|zAc 1<|S_a [(0,.v (I (IntKind.u32.wrap (↑(BitVec.ofInt IntKind.u32.bits (IntKind.u32.wrap (↑(BitVec.ofInt IntKind.u32.bits (IntKind.u32.wrap (30011*IntKind.u32.wrap (t+1))) ^^^ BitVec.ofInt IntKind.u32.bits ((IntKind.u32.wrap (30011*IntKind.u32.wrap (t+1))).fdiv (2 ^ min (Int.toNat 7) IntKind.u32.bits))).toNat:Int)) &&& BitVec.ofInt IntKind.u32.bits 65535).toNat:Int))))] (ap ((zCe rfl ?_):I (IntKind.i64.wrap (IntKind.u32.wrap (↑(BitVec.ofInt IntKind.u32.bits (IntKind.u32.wrap (↑(BitVec.ofInt IntKind.u32.bits (IntKind.u32.wrap (30011*IntKind.u32.wrap (t+1))) ^^^ BitVec.ofInt IntKind.u32.bits ((IntKind.u32.wrap (30011*IntKind.u32.wrap (t+1))).fdiv (2 ^ min (Int.toNat 7) IntKind.u32.bits))).toNat:Int)) &&& BitVec.ofInt IntKind.u32.bits 65535).toNat:Int)))=I (IntKind.u32.wrap (↑(BitVec.ofInt IntKind.u32.bits (IntKind.u32.wrap (↑(BitVec.ofInt IntKind.u32.bits (IntKind.u32.wrap (30011*IntKind.u32.wrap (t+1))) ^^^ BitVec.ofInt IntKind.u32.bits ((IntKind.u32.wrap (30011*IntKind.u32.wrap (t+1))).fdiv (2 ^ min (Int.toNat 7) IntKind.u32.bits))).toNat:Int)) &&& BitVec.ofInt IntKind.u32.bits 65535).toNat:Int))) an)<|zAc 1<|zAa<|zAn<|E_a [] an (I (IntKind.u32.wrap (↑(BitVec.ofInt IntKind.u32.bits (IntKind.u32.wrap (↑(BitVec.ofInt IntKind.u32.bits (IntKind.u32.wrap (30011*IntKind.u32.wrap (t+1))) ^^^ BitVec.ofInt IntKind.u32.bits ((IntKind.u32.wrap (30011*IntKind.u32.wrap (t+1))).fdiv (2 ^ min (Int.toNat 7) IntKind.u32.bits))).toNat:Int)) &&& BitVec.ofInt IntKind.u32.bits 65535).toNat:Int))) ([(PV.agg [PV.sl (List.map u8 l),I 0,PV.int IntKind.u32 (IntKind.u32.wrap (t+1))]).box]) ?_ ?_)))) (fun k0=>(zAl<|zAd 4<|zAc 1<|zAc 1<|zAa<|zAi<|zAd 4<|S_a [(0,.n l.length)] (ap (lnS u8 l) an)<|zAc 1<|zAa<|zA8 ((↑l.length:Int)>0) (by omega)<|zAd 9<|S_a [(2,.v (PV.int IntKind.u8 (l.getD a 0)))] (ap (zCI (0) (by omega):(List.map u8 l)[a]? = some (PV.int IntKind.u8 (l.getD a 0))) an)<|zAc 1<|zAc 1<|zAc 1<|zAc 1<|zAc 1<|zAa<|zAg<|zAc 4<|S_a [(1,.v (I (↑(a+1):Int)))] (ap (wrN a) an)<|zAc 3<|zAa<|zAd 2<|zAc 1<|zAc 1<|zAc 1<|S_a [(0,.v (I (IntKind.u32.wrap (↑(BitVec.ofInt IntKind.u32.bits (IntKind.u32.wrap (↑(BitVec.ofInt IntKind.u32.bits (IntKind.u32.wrap (IntKind.u32.wrap (30011*t)+IntKind.u32.wrap (263*IntKind.u32.wrap (l.getD a 0)))) ^^^ BitVec.ofInt IntKind.u32.bits ((IntKind.u32.wrap (IntKind.u32.wrap (30011*t)+IntKind.u32.wrap (263*IntKind.u32.wrap (l.getD a 0)))).fdiv (2 ^ min (Int.toNat 7) IntKind.u32.bits))).toNat:Int)) &&& BitVec.ofInt IntKind.u32.bits 65535).toNat:Int))))] (ap ((zCe rfl ?_):I (IntKind.i64.wrap (IntKind.u32.wrap (↑(BitVec.ofInt IntKind.u32.bits (IntKind.u32.wrap (↑(BitVec.ofInt IntKind.u32.bits (IntKind.u32.wrap (IntKind.u32.wrap (30011*t)+IntKind.u32.wrap (263*IntKind.u32.wrap (l.getD a 0)))) ^^^ BitVec.ofInt IntKind.u32.bits ((IntKind.u32.wrap (IntKind.u32.wrap (30011*t)+IntKind.u32.wrap (263*IntKind.u32.wrap (l.getD a 0)))).fdiv (2 ^ min (Int.toNat 7) IntKind.u32.bits))).toNat:Int)) &&& BitVec.ofInt IntKind.u32.bits 65535).toNat:Int)))=I (IntKind.u32.wrap (↑(BitVec.ofInt IntKind.u32.bits (IntKind.u32.wrap (↑(BitVec.ofInt IntKind.u32.bits (IntKind.u32.wrap (IntKind.u32.wrap (30011*t)+IntKind.u32.wrap (263*IntKind.u32.wrap (l.getD a 0)))) ^^^ BitVec.ofInt IntKind.u32.bits ((IntKind.u32.wrap (IntKind.u32.wrap (30011*t)+IntKind.u32.wrap (263*IntKind.u32.wrap (l.getD a 0)))).fdiv (2 ^ min (Int.toNat 7) IntKind.u32.bits))).toNat:Int)) &&& BitVec.ofInt IntKind.u32.bits 65535).toNat:Int))) an)<|zAc 1<|zAa<|zAn<|E_a [] an (I (IntKind.u32.wrap (↑(BitVec.ofInt IntKind.u32.bits (IntKind.u32.wrap (↑(BitVec.ofInt IntKind.u32.bits (IntKind.u32.wrap (IntKind.u32.wrap (30011*t)+IntKind.u32.wrap (263*IntKind.u32.wrap (l.getD a 0)))) ^^^ BitVec.ofInt IntKind.u32.bits ((IntKind.u32.wrap (IntKind.u32.wrap (30011*t)+IntKind.u32.wrap (263*IntKind.u32.wrap (l.getD a 0)))).fdiv (2 ^ min (Int.toNat 7) IntKind.u32.bits))).toNat:Int)) &&& BitVec.ofInt IntKind.u32.bits 65535).toNat:Int))) ([(PV.agg [PV.sl (List.map u8 l),I (↑(a+1):Int),PV.int IntKind.u32 t]).box]) ?_ ?_))
 ·exact hb _
 ·have e1:a=l.length:=by omega
  have e2:0<l.length:=by omega
  simp only [zHx,zGf,zAI,e1,e2,if_true];rfl
 ·have e1:a=l.length:=by omega
  have e2:0<l.length:=by omega
  simp only [zAC,zGf,zAI,e1,e2,if_true];rfl
 ·exact hb _
 ·have e1:a=l.length:=by omega
  have e2:¬ 0<l.length:=by omega
  simp only [zHx,zGf,zAI,e1,e2,if_true,if_false];rfl
 ·have e1:a=l.length:=by omega
  have e2:¬ 0<l.length:=by omega
  simp only [zAC,zGf,zAI,e1,e2,if_true,if_false];rfl
 ·exact hb _
 ·have e1:¬ a=l.length:=by omega
  have e2:0<l.length:=by omega
  simp only [zHx,zGf,zAI,e1,e2,if_true,if_false];rfl
 ·have e1:¬ a=l.length:=by omega
  have e2:0<l.length:=by omega
  simp only [zAC,zGf,zAI,e1,e2,if_true,if_false]
theorem f129 (l:List Int) (a:Nat) (t:Int) (n:Int) (h:zDQ l a) (hn : -9000000000000000000≤n∧n≤9000000000000000000):zBD Tryz.prog zCM 129 [zPF,I n] [zB2 l a t] (I (zAp l a t n)) [zB2 l (zAC l a) (zAI l a t)]:=by
 refine zAe Tryz.f129 ?_
 have e:(if n+1>1 then n+1 else 1)=max 1 (n+1):=by split<;>omega
 refine zAd 1<|zAa<|zAd 1<|S_a [(4,.ret (I (zHx l a t)) ([zB2 l (zAC l a) (zAI l a t)]))] (ap (f175 l a t (by omega)) an)<|zAc 1<|S_a [(1,.v (I (n+1)))] (ap ((zCe rfl (by omega)):I (IntKind.i64.wrap (n+1))=I (n+1)) an)<|zAc 1<|S_a [(0,.v (I ((zHx l a t).tmod (if n+1>1 then n+1 else 1))))] (ap (zSw (by omega) rfl:zHp Tryz.prog BinOp.rem 3 (I (zHx l a t)) (I (if n+1>1 then n+1 else 1))=some (I ((zHx l a t).tmod (if n+1>1 then n+1 else 1)))) an)<|zAc 1<|zAa<|zAn<|E_a [] an (I ((zHx l a t).tmod (if n+1>1 then n+1 else 1))) ([(PV.agg [PV.sl (List.map u8 l),I (↑(zAC l a):Int),PV.int IntKind.u32 (zAI l a t)]).box]) ?_ rfl
 rw [e];rfl
theorem f127 (l:List Int) (a:Nat) (t:Int) (lo hi:Int) (h:zDQ l a) (hl:0≤lo∧lo≤1000000) (hn:0≤hi∧hi≤1000000):zBD Tryz.prog zCM 127 [zPF,I lo,I hi] [zB2 l a t] (I (lo+zAp l a t (hi-lo))) [zB2 l (zAC l a) (zAI l a t)]:=by
 refine zAe Tryz.f127 ?_
 have:=zCB l a t (hi-lo)
 refine zAd 1<|zAa<|zAd 4<|S_a [(1,.v (I (hi-lo)))] (ap ((zCe rfl (by omega)):I (IntKind.i64.wrap (hi-lo))=I (hi-lo)) an)<|S_a [(6,.ret (I (zAp l a t (hi-lo))) ([zB2 l (zAC l a) (zAI l a t)]))] (ap (f129 l a t (hi-lo) (by omega) (by omega)) an)<|S_a [(1,.v (I (lo+zAp l a t (hi-lo))))] (ap ((zCe rfl (by omega)):I (IntKind.i64.wrap (lo+zAp l a t (hi-lo)))=I (lo+zAp l a t (hi-lo))) an)<|zAc 1<|zAa<|zAn<|E_a [] an (I (lo+zAp l a t (hi-lo))) ([(PV.agg [PV.sl (List.map u8 l),I (↑(zAC l a):Int),PV.int IntKind.u32 (zAI l a t)]).box]) rfl rfl
theorem f128 (l:List Int) (a:Nat) (t:Int) (n:Int) (h:zDQ l a) (hn:0≤n∧n≤1000000):zBD Tryz.prog zCM 128 [zPF,I n] [zB2 l a t] (.bool (decide (zAp l a t (n-1)=0))) [zB2 l (zAC l a) (zAI l a t)]:=by
 refine zAe Tryz.f128 ?_
 refine zAd 1<|zAa<|zAd 2<|S_a [(1,.v (I (n-1)))] (ap ((zCe rfl (by omega)):I (IntKind.i64.wrap (n-1))=I (n-1)) an)<|S_a [(6,.ret (I (zAp l a t (n-1))) ([zB2 l (zAC l a) (zAI l a t)]))] (ap (f129 l a t (n-1) (by omega) (by omega)) an)<|zAc 2<|zAa<|zAn<|E_a [] an (PV.bool (zAp l a t (n-1)==0)) ([(PV.agg [PV.sl (List.map u8 l),I (↑(zAC l a):Int),PV.int IntKind.u32 (zAI l a t)]).box]) rfl rfl
end
end Go.Eng
namespace Go.Eng
open Go Go.Proofs
def zOy (n:Nw):Int:=if zCE n.h n.l=0 then if zDS n.n=0 then if (!n.s.all fun x=>zKw n.h x)=true then 1 else if (!n.s.all fun x=>zDV x)=true then 4 else 0 else zDS n.n else zCE n.h n.l
theorem zVR {n:Nw} (h1:(!inB n.h 1 10)=false) (h2:¬ (n.l.length:Int)>15) (h3:(!inB n.n.length 1 8)=false) (h4:(!inB n.s.length 1 6)=false):zGp n=zOy n:=by
 simp only [zGp,h1,h2,h3,h4,if_false];rfl
theorem zY1 {n:Nw} (h:∀ i,i<n.n.length→inB (n.n.getD i default).1 (-1) ((i:Int)-1)=true):zQd n.n=true:=by
 simp only [zQd,List.all_eq_true,List.mem_range];exact h
theorem zXh {l:List (Int×Bool)} {i:Nat} (hi:i<l.length) (hr:inB (l.getD i default).1 (-1) ((i:Int)-1)=true):zM0 l i=true↔∃ k,k<i∧0≤(l.getD i default).1∧(l.getD i default).1=(l.getD k default).1:=by
 have hr:=zFE hr
 simp only [zM0,Bool.and_eq_true,decide_eq_true_eq,List.any_eq_true]
 constructor
 ·rintro ⟨h1,x,h2,h3⟩
  obtain ⟨k,hk,rfl⟩:=List.getElem_of_mem h2
  rw [List.length_take] at hk
  refine ⟨k,by omega,by omega,?_⟩
  rw [zAy (l:=l) (i:=k) (by omega)]
  rw [List.getElem_take] at h3
  exact h3.symm
 ·rintro ⟨k,h1,h2,h3⟩
  refine ⟨by omega, (l.take i)[k]'(by rw [List.length_take]; omega), List.getElem_mem _, ?_⟩
  rw [List.getElem_take,h3,zAy (l:=l) (i:=k) (by omega)]
theorem zWU {n:Nw} (hn:zQd n.n=true) (h:∀ i,i<n.n.length→∀ k,k<i→¬ ((n.n.getD i default).1≥0∧(n.n.getD i default).1=(n.n.getD k default).1)):zDS n.n=0:=by
 have:(List.range n.n.length).any (zM0 n.n)=false:=by
  simp only [List.any_eq_false,List.mem_range]
  intro i hi ht
  have hr:inB (n.n.getD i default).1 (-1) ((i:Int)-1)=true:=by
   simp only [zQd,List.all_eq_true,List.mem_range] at hn;exact hn i hi
  obtain ⟨k,h1,h2,h3⟩:=(zXh hi hr).1 ht
  exact h i hi k h1 ⟨h2,h3⟩
 simp only [zDS,hn,this,if_true];rfl
theorem zWT {n:Nw} (hl:zCE n.h n.l=0) (hn:zDS n.n=0) (hs:(n.s.all fun x=>zKw n.h x)=true) (ho:(n.s.all fun x=>zDV x)=true):zOy n=0:=by
 simp only [zOy,hl,hn,hs,ho];rfl
end Go.Eng
namespace Go.Eng
open Go Go.Proofs
structure LkOk (q:List (Int×Int)) (h:Int):Prop where
 rng:∀ x∈q,1≤x.1∧x.1<h∧0≤x.2∧x.2<x.1
 nd:(q.map pr2).Nodup
 len:(q.length:Int)<h
theorem zUz {x:Int×Int} (h:x.2<x.1):pr2 x=(x.2,x.1):=by
 simp only [pr2];rw [if_pos h,if_neg (by omega)]
theorem LkOk.snoc {q:List (Int×Int)} {h s:Int} (hq:LkOk q h) (hh:1≤h) (hs:0≤s∧s<h):LkOk (q++[(h,s)]) (h+1):=by
 refine ⟨fun x hx=>?_,?_,by have:=hq.len;simp;omega⟩
 ·rcases List.mem_append.1 hx with hx | hx
  ·have:=hq.rng x hx;omega
  ·rw [List.mem_singleton] at hx;subst hx;simp only;omega
 ·rw [List.map_append,List.nodup_append]
  refine ⟨hq.nd,by simp,fun a ha b hb=>?_⟩
  obtain ⟨x,hx,rfl⟩:=List.mem_map.1 ha
  simp only [List.map_cons,List.map_nil,List.mem_singleton] at hb
  subst hb
  have:=hq.rng x hx
  rw [zUz (by omega),zUz (x:=(h,s)) (by simp only;omega)]
  intro e
  have:=congrArg Prod.snd e
  simp only at this;omega
theorem LkOk.skip {q:List (Int×Int)} {h:Int} (hq:LkOk q h):LkOk q (h+1):=⟨fun x hx=>by have:=hq.rng x hx;omega,hq.nd,by have:=hq.len;omega⟩
structure LkEnd (q:List (Int×Int)) (H:Int):Prop where
 rng:∀ x∈q,(0≤x.1∧x.1<H)∧(0≤x.2∧x.2<H)∧x.1≠x.2
 nd:(q.map pr2).Nodup
 len:(q.length:Int)≤H
theorem LkOk.fin {q:List (Int×Int)} {H:Int} (hq:LkOk q H):LkEnd q H:=⟨fun x hx=>by have:=hq.rng x hx;omega,hq.nd,by have:=hq.len;omega⟩
theorem LkOk.far {n:Nw} (hq:LkOk n.l n.h) (hh:1<n.h) (hn:zF9 n 0 (n.h-1)=false):LkEnd (n.l++[(0,n.h-1)]) n.h:=by
 refine ⟨fun x hx=>?_,?_,by have:=hq.len;simp;omega⟩
 ·rcases List.mem_append.1 hx with hx | hx
  ·have:=hq.rng x hx;omega
  ·rw [List.mem_singleton] at hx;subst hx;simp only;omega
 ·rw [List.map_append,List.nodup_append]
  refine ⟨hq.nd,by simp,fun a ha b hb=>?_⟩
  simp only [List.map_cons,List.map_nil,List.mem_singleton] at hb
  subst hb
  intro e;subst e
  simp only [zF9,decide_eq_false_iff_not] at hn
  exact hn ha
structure NtOk (F:List Int) (N:List (Int×Bool)) (i:Nat):Prop where
 len:N.length=i
 fl:F.length≤i
 fr:∀ f∈F,0≤f∧f<i
 fnd:F.Nodup
 na:∀ j,j<i→-1≤(N.getD j default).1∧(N.getD j default).1<j
 nd:∀ j k,k<j→j<i→(N.getD j default).1≠-1→(N.getD k default).1≠(N.getD j default).1
 un:∀ f∈F,∀ j,j<i→(N.getD j default).1≠f
theorem zRr {N:List (Int×Bool)} {x:Int×Bool} {i j:Nat} (hl:N.length=i) (hj:j<i+1):(N++[x]).getD j default=if j=i then x else N.getD j default:=by
 split
 ·rename_i h;subst h;subst hl
  simp [List.getD_eq_getElem?_getD]
 ·rw [List.getD_eq_getElem?_getD,List.getElem?_append_left (by omega),← List.getD_eq_getElem?_getD]
theorem NtOk.step {F G:List Int} {N:List (Int×Bool)} {i:Nat} {y:Int} {b:Bool} (h:NtOk F N i) (hG:∀ f∈G,f∈F) (hGn:G.Nodup) (hGl:G.length≤i) (hy:y = -1∨y∈F∧y∉G):NtOk (G++[(i:Int)]) (N++[(y,b)]) (i+1):=by
 have hyr : -1≤y∧y<i:=by
  rcases hy with rfl | ⟨h1,_⟩
  ·omega
  ·have:=h.fr y h1;omega
 have hg:=fun j (hj:j<i+1)=>zRr (x:=(y,b)) h.len hj
 refine ⟨by simp [h.len],by simp;omega,fun f hf=>?_,?_,fun j hj=>?_,fun j k hkj hj hI=>?_,fun f hf j hj=>?_⟩
 ·rcases List.mem_append.1 hf with hf | hf
  ·have:=h.fr f (hG f hf);omega
  ·rw [List.mem_singleton] at hf;omega
 ·rw [List.nodup_append]
  refine ⟨hGn,by simp,fun a ha c hc=>?_⟩
  rw [List.mem_singleton] at hc;subst hc
  have:=h.fr a (hG a ha);omega
 ·rw [hg j hj]
  split
  ·simp only;omega
  ·exact h.na j (by omega)
 ·rw [hg j hj] at hI ⊢
  rw [hg k (by omega),if_neg (by omega)]
  split
  ·rename_i e;rw [if_pos e] at hI;simp only at hI ⊢
   rcases hy with e2 | ⟨h1,_⟩
   ·exact absurd e2 hI
   ·exact h.un y h1 k (by omega)
  ·rename_i e;rw [if_neg e] at hI
   exact h.nd j k hkj (by omega) hI
 ·rw [hg j hj]
  split
  ·simp only
   rcases List.mem_append.1 hf with hf | hf
   ·rcases hy with e2 | ⟨_,h2⟩
    ·have:=h.fr f (hG f hf);omega
    ·exact fun e=>h2 (e▸hf)
   ·rw [List.mem_singleton] at hf;omega
  ·rcases List.mem_append.1 hf with hf | hf
   ·exact h.un f (hG f hf) j (by omega)
   ·rw [List.mem_singleton] at hf
    have:=h.na j (by omega);omega
theorem NtOk.one {F:List Int} {N:List (Int×Bool)} {i:Nat} {b:Bool} (h:NtOk F N i):NtOk (F++[(i:Int)]) (N++[(-1,b)]) (i+1):=h.step (fun _ h=>h) h.fnd h.fl (.inl rfl)
theorem NtOk.more {F:List Int} {N:List (Int×Bool)} {i k:Nat} {b:Bool} (h:NtOk F N i) (hk:k<F.length):NtOk (F.eraseIdx k++[(i:Int)]) (N++[(F.getD k 0,b)]) (i+1):=by
 refine h.step (fun f hf=>List.mem_of_mem_eraseIdx hf) (h.fnd.eraseIdx k) (Nat.le_trans (List.length_eraseIdx_le _ _) h.fl) (.inr ⟨?_,?_⟩)
 ·rw [zAy hk];exact List.getElem_mem hk
 ·rw [zAy hk]
  intro hm
  have hn:(F.take k++F[k]::F.drop (k+1)).Nodup:=by rw [← List.drop_eq_getElem_cons hk,List.take_append_drop];exact h.fnd
  rw [List.nodup_append] at hn
  rw [List.eraseIdx_eq_take_drop_succ] at hm
  rcases List.mem_append.1 hm with hm | hm
  ·exact hn.2.2 _ hm _ List.mem_cons_self rfl
  ·exact (List.nodup_cons.1 hn.2.1).1 hm
structure RwOk (r:List Int) (h:Nat):Prop where
 rng:∀ x∈r,0≤x∧x<h
 inc:zRt r=true
 len:r.length≤h
theorem zQ0 {p:List Int} {c:Int} (h:zRt p=true) (hc:∀ y∈p,y<c):zRt (p++[c])=true:=by
 simp only [zRt,List.all_eq_true,List.mem_range,decide_eq_true_eq,List.length_append,List.length_singleton] at h ⊢
 intro j hj
 rw [List.getD_eq_getElem?_getD,List.getD_eq_getElem?_getD,List.getElem?_append_left (by omega)]
 by_cases e:j+1<p.length
 ·rw [List.getElem?_append_left e,← List.getD_eq_getElem?_getD,← List.getD_eq_getElem?_getD]
  exact h j (by omega)
 ·rw [List.getElem?_append_right (by omega),show j+1-p.length=0 by omega]
  have jL:j<p.length:=by omega
  rw [List.getElem?_eq_getElem jL]
  exact hc _ (List.getElem_mem jL)
theorem RwOk.snoc {r:List Int} {h:Nat} (hr:RwOk r h):RwOk (r++[(h:Int)]) (h+1):=by
 refine ⟨fun x hx=>?_,zQ0 hr.inc fun y hy=>(hr.rng y hy).2,by have:=hr.len;simp;omega⟩
 rcases List.mem_append.1 hx with hx | hx
 ·have:=hr.rng x hx;omega
 ·rw [List.mem_singleton] at hx;omega
theorem RwOk.skip {r:List Int} {h:Nat} (hr:RwOk r h):RwOk r (h+1):=⟨fun x hx=>by have:=hr.rng x hx;omega,hr.inc,by have:=hr.len;omega⟩
theorem zVu {H:Int} {q:List (Int×Int)} {F:List Int} {N:List (Int×Bool)} {S:List (List Int)} {m:Nat} (hH:1≤H∧H≤10) (hq:LkEnd q H) (hN:NtOk F N m) (hm:1≤m∧m≤8) (hS:∀ r∈S,RwOk r H.toNat) (wa:1≤S.length∧S.length≤6):zGp ⟨H,q,N,S⟩=0:=by
 have hml:=hN.len
 have e:zGp ⟨H,q,N,S⟩=zOy ⟨H,q,N,S⟩:=by
  refine zVR ?_ ?_ ?_ ?_
  ·simp only [inB,Bool.not_eq_false',Bool.and_eq_true,decide_eq_true_eq];omega
  ·have:=hq.len;simp only;omega
  ·simp only [inB,Bool.not_eq_false',Bool.and_eq_true,decide_eq_true_eq];omega
  ·simp only [inB,Bool.not_eq_false',Bool.and_eq_true,decide_eq_true_eq];omega
 rw [e]
 refine zWT ?_ ?_ ?_ ?_
 ·have h1:(q.all fun x=>zI8 H x)=true:=List.all_eq_true.2 fun x hx=>by
   have:=hq.rng x hx
   simp only [zI8,inB,Bool.and_eq_true,decide_eq_true_eq];omega
  have h2:(q.all fun x=>zJ1 x)=true:=List.all_eq_true.2 fun x hx=>by
   have:=hq.rng x hx
   simp only [zJ1,decide_eq_true_eq];exact this.2.2
  have h3:=hq.nd
  simp only [zCE,h1,h2,h3,if_true]
 ·refine zWU (n:=⟨H,q,N,S⟩) (zY1 (n:=⟨H,q,N,S⟩) fun i hi=>?_) fun i hi k hk=>?_
  ·have:=hN.na i (by simp only at hi;omega)
   simp only [inB,Bool.and_eq_true,decide_eq_true_eq];omega
  ·rintro ⟨h1,h2⟩
   exact hN.nd i k hk (by simp only at hi;omega) (by simp only at h1;omega) h2.symm
 ·exact List.all_eq_true.2 fun r hr=>List.all_eq_true.2 fun x hx=>by
   have:=(hS r hr).rng x hx
   simp only [inB,Bool.and_eq_true,decide_eq_true_eq];omega
 ·exact List.all_eq_true.2 fun r hr=>by rw [zKA];exact (hS r hr).inc
end Go.Eng
set_option maxRecDepth 10000
set_option maxHeartbeats 4000000
namespace Go.Eng
open Go Go.Proofs
section
variable [Yo]
theorem f157 (x:Int×Int) (a b:Int):FG 157 [prV x,.ref (I a),.ref (I b)] (.bool (zNg a b x)):=by
 refine zAe Tryz.f157 ?_
 refine zAd 2<|zAa<|zAd 4<|S_a [(0,.v (PV.bool (decide (x.fst=a)&&decide (x.snd=b))))] (ap (zRb:zHp Tryz.prog BinOp.eql 87 (PV.agg [I x.fst,I x.snd]) (PV.agg [I a,I b])=some (PV.bool (decide (x.fst=a)&&decide (x.snd=b)))) an)<|zAc 1<|zGi 10 (decide (x.fst=a)&&decide (x.snd=b)) (fun k0=>(zAc 7<|zAa<|zAn<|E_a [] an (PV.bool true) [] ?_ rfl)) (fun k0=>(zAc 4<|S_a [(0,.v (PV.bool (decide (x.fst=b)&&decide (x.snd=a))))] (ap (zRb:zHp Tryz.prog BinOp.eql 87 (PV.agg [I x.fst,I x.snd]) (PV.agg [I b,I a])=some (PV.bool (decide (x.fst=b)&&decide (x.snd=a)))) an)<|zAc 2<|zAa<|zAn<|E_a [] an (PV.bool (decide (x.fst=b)&&decide (x.snd=a))) [] ?_ rfl))
 ·have e:zNg a b x=true:=by
   simp only [Bool.and_eq_true,decide_eq_true_eq] at k0
   simp only [zNg,decide_eq_true_eq];exact .inl k0
  rw [e]
 ·congr 1
  rw [Bool.eq_iff_iff]
  have:¬ (x.1=a∧x.2=b):=fun h=>by simp [h.1,h.2] at k0
  simp only [Bool.and_eq_true,decide_eq_true_eq,zNg]
  exact ⟨.inr,fun h=>h.elim (fun h=>absurd h this) id⟩
theorem f202_5 (a b:Int) (l:List (Int×Int)) (hl:l.length<4294967296):FG 202 [.sl (l.map prV),.func 157 [] [.ref (I a),.ref (I b)]] (I (zEf (fun x=>zNg a b x) l)):=by
 refine zAe Tryz.f202 ?_
 refine zAd 1<|zAa<|zAi<|zAd 1<|S_a [(0,.n l.length)] (ap (lnS prV l) an)<|zAc 1<|zAa<|zAk 0 ?_
 refine zAA (fun i=>i≤l.length∧∀ j,j<i→(fun x=>zNg a b x) (l.getD j default)=false) (fun i=>[(8,I (i:Nat))]) (fun i=>l.length-i) (0:Nat) (by simp) fun i ⟨hi,ha⟩=>?_
 refine zAd 1<|zAa<|zAi<|zDo ((↑i:Int)<(↑l.length:Int)) (fun k0=>(zAl<|zAi<|zAk 1<|zAd 2<|zAa<|zAd 3<|S_a [(2,.v (PV.agg [I (l.getD i default).fst,I (l.getD i default).snd]))] (ap (zCI default (by omega):(List.map prV l)[i]? = some (PV.agg [I (l.getD i default).fst,I (l.getD i default).snd])) an)<|zAc 1<|S_a [(8,.ret (PV.bool (zNg a b (l.getD i default))) [])] (ap (f157 (l.getD i default) a b) an)<|zAa<|zFe (zNg a b (l.getD i default)) (fun k1=>(zAd 2<|zAa<|zAn<|E_a [] an (I (↑i:Int)) [] ?_ rfl)) (fun k1=>(zAl<|zAg<|S_a [(1,.v (I (↑(i+1):Int)))] (ap (wrN i) an)<|zAc 1<|zAa ?_)))) (fun k0=>(zAS 0<|zAd 1<|zAa<|zAn<|E_a [] an (I (-1)) [] ?_ rfl))
 ·rw [zBS (i:=i) (by omega) (fun j hj=>by rw [← zAy (d:=default)];exact ha j hj) (by rw [← zAy (d:=default)];first | assumption | exact decide_eq_true ‹_› | (simp only [Bool.not_eq_true',decide_eq_false_iff_not];assumption))]
 ·refine ⟨i+1,⟨by omega,fun j hj=>?_⟩,by omega,by kernel_rfl,by kernel_rfl⟩
  rcases Nat.lt_succ_iff_lt_or_eq.1 hj with h | rfl
  ·exact ha j h
  ·first | assumption | exact decide_eq_false ‹_› | (simp only [Bool.not_eq_false',decide_eq_true_eq];first | assumption | (apply Decidable.of_not_not;assumption))
 ·rw [zCa fun j hj=>by rw [← zAy (d:=default)];exact ha j (by omega)]
theorem f156_5 (a b:Int) (l:List (Int×Int)) (hl:l.length<4294967296):FG 156 [.sl (l.map prV),.func 157 [] [.ref (I a),.ref (I b)]] (.bool (l.any (fun x=>zNg a b x))):=by
 refine zAe Tryz.f156 ?_
 refine zAd 1<|zAa<|zAd 2<|S_a [(7,.ret (I (zEf (fun x=>zNg a b x) l)) [])] (ap (f202_5 a b l (by omega)) an)<|zAc 2<|zAa<|zAn<|E_a [] an (PV.bool (decide (zEf (fun x=>zNg a b x) l≥0))) [] ?_ rfl
 rw [zDM]
theorem f77 (n:Nw) (a b:Int) (hl:n.l.length<1000000):FG 77 [nwV n,I a,I b] (.bool (zF9 n a b)):=by
 rw [← zU8]
 refine zAe Tryz.f77 ?_
 refine zAd 4<|zAa<|zAd 3<|S_a [(19,.ret (PV.bool (n.l.any fun x=>zNg a b x)) [])] (ap (f156_5 a b n.l (by omega)) an)<|zAc 1<|zAa<|zAn<|E_a [] an (PV.bool (n.l.any fun x=>zNg a b x)) [] rfl rfl
theorem f130_10 (p0:Int):zBD Tryz.prog zCM 130 [.bor 50000000 [] 1 0 1,I 0,I 1] [.own 1 [I p0]] (.bor 50000000 [] 1 0 0) [.own 1 [I 0]]:=by
 refine zAe Tryz.f130 ?_
 refine zAd 1<|zAa<|zAd 6<|zAa<|zAi<|zAd 3<|zAa<|zAG<|zAl<|zAd 3<|zAa<|zAd 2<|zAc 1<|zAc 3<|zAc 1<|zAc 1<|zAa<|zAd 4<|zAc 1<|zAc 1<|zAa<|zAd 1<|zAc 1<|zAa<|zAn<|E_a [] an (PV.bor 50000000 [] 1 0 0) ([PV.own 1 [I 0]]) rfl rfl
theorem f130_20 (p0 p1:Int):zBD Tryz.prog zCM 130 [.bor 50000000 [] 1 0 2,I 0,I 1] [.own 1 [I p0,I p1]] (.bor 50000000 [] 1 0 1) [.own 1 [I p1,I 0]]:=by
 refine zAe Tryz.f130 ?_
 refine zAd 1<|zAa<|zAd 6<|zAa<|zAi<|zAd 3<|zAa<|zAG<|zAl<|zAd 3<|zAa<|zAd 2<|zAc 1<|zAc 2<|zAc 1<|zAc 1<|zAc 1<|zAa<|zAd 4<|zAc 1<|zAc 1<|zAa<|zAd 1<|zAc 1<|zAa<|zAn<|E_a [] an (PV.bor 50000000 [] 1 0 1) ([PV.own 1 [I p1,I 0]]) rfl rfl
theorem f130_21 (p0 p1:Int):zBD Tryz.prog zCM 130 [.bor 50000000 [] 1 0 2,I 1,I 2] [.own 1 [I p0,I p1]] (.bor 50000000 [] 1 0 1) [.own 1 [I p0,I 0]]:=by
 refine zAe Tryz.f130 ?_
 refine zAd 1<|zAa<|zAd 6<|zAa<|zAi<|zAd 3<|zAa<|zAG<|zAl<|zAd 3<|zAa<|zAd 2<|zAc 1<|zAc 3<|zAc 1<|zAc 1<|zAa<|zAd 4<|zAc 1<|zAc 1<|zAa<|zAd 1<|zAc 1<|zAa<|zAn<|E_a [] an (PV.bor 50000000 [] 1 0 1) ([PV.own 1 [I p0,I 0]]) rfl rfl
theorem f130_30 (p0 p1 p2:Int):zBD Tryz.prog zCM 130 [.bor 50000000 [] 1 0 3,I 0,I 1] [.own 1 [I p0,I p1,I p2]] (.bor 50000000 [] 1 0 2) [.own 1 [I p1,I p2,I 0]]:=by
 refine zAe Tryz.f130 ?_
 refine zAd 1<|zAa<|zAd 6<|zAa<|zAi<|zAd 3<|zAa<|zAG<|zAl<|zAd 3<|zAa<|zAd 2<|zAc 1<|zAc 2<|zAc 1<|zAc 1<|zAc 1<|zAa<|zAd 4<|zAc 1<|zAc 1<|zAa<|zAd 1<|zAc 1<|zAa<|zAn<|E_a [] an (PV.bor 50000000 [] 1 0 2) ([PV.own 1 [I p1,I p2,I 0]]) rfl rfl
theorem f130_31 (p0 p1 p2:Int):zBD Tryz.prog zCM 130 [.bor 50000000 [] 1 0 3,I 1,I 2] [.own 1 [I p0,I p1,I p2]] (.bor 50000000 [] 1 0 2) [.own 1 [I p0,I p2,I 0]]:=by
 refine zAe Tryz.f130 ?_
 refine zAd 1<|zAa<|zAd 6<|zAa<|zAi<|zAd 3<|zAa<|zAG<|zAl<|zAd 3<|zAa<|zAd 2<|zAc 1<|zAc 2<|zAc 1<|zAc 1<|zAc 1<|zAa<|zAd 4<|zAc 1<|zAc 1<|zAa<|zAd 1<|zAc 1<|zAa<|zAn<|E_a [] an (PV.bor 50000000 [] 1 0 2) ([PV.own 1 [I p0,I p2,I 0]]) rfl rfl
theorem f130_32 (p0 p1 p2:Int):zBD Tryz.prog zCM 130 [.bor 50000000 [] 1 0 3,I 2,I 3] [.own 1 [I p0,I p1,I p2]] (.bor 50000000 [] 1 0 2) [.own 1 [I p0,I p1,I 0]]:=by
 refine zAe Tryz.f130 ?_
 refine zAd 1<|zAa<|zAd 6<|zAa<|zAi<|zAd 3<|zAa<|zAG<|zAl<|zAd 3<|zAa<|zAd 2<|zAc 1<|zAc 3<|zAc 1<|zAc 1<|zAa<|zAd 4<|zAc 1<|zAc 1<|zAa<|zAd 1<|zAc 1<|zAa<|zAn<|E_a [] an (PV.bor 50000000 [] 1 0 2) ([PV.own 1 [I p0,I p1,I 0]]) rfl rfl
theorem f130_40 (p0 p1 p2 p3:Int):zBD Tryz.prog zCM 130 [.bor 50000000 [] 1 0 4,I 0,I 1] [.own 1 [I p0,I p1,I p2,I p3]] (.bor 50000000 [] 1 0 3) [.own 1 [I p1,I p2,I p3,I 0]]:=by
 refine zAe Tryz.f130 ?_
 refine zAd 1<|zAa<|zAd 6<|zAa<|zAi<|zAd 3<|zAa<|zAG<|zAl<|zAd 3<|zAa<|zAd 2<|zAc 1<|zAc 2<|zAc 1<|zAc 1<|zAc 1<|zAa<|zAd 4<|zAc 1<|zAc 1<|zAa<|zAd 1<|zAc 1<|zAa<|zAn<|E_a [] an (PV.bor 50000000 [] 1 0 3) ([PV.own 1 [I p1,I p2,I p3,I 0]]) rfl rfl
theorem f130_41 (p0 p1 p2 p3:Int):zBD Tryz.prog zCM 130 [.bor 50000000 [] 1 0 4,I 1,I 2] [.own 1 [I p0,I p1,I p2,I p3]] (.bor 50000000 [] 1 0 3) [.own 1 [I p0,I p2,I p3,I 0]]:=by
 refine zAe Tryz.f130 ?_
 refine zAd 1<|zAa<|zAd 6<|zAa<|zAi<|zAd 3<|zAa<|zAG<|zAl<|zAd 3<|zAa<|zAd 2<|zAc 1<|zAc 2<|zAc 1<|zAc 1<|zAc 1<|zAa<|zAd 4<|zAc 1<|zAc 1<|zAa<|zAd 1<|zAc 1<|zAa<|zAn<|E_a [] an (PV.bor 50000000 [] 1 0 3) ([PV.own 1 [I p0,I p2,I p3,I 0]]) rfl rfl
theorem f130_42 (p0 p1 p2 p3:Int):zBD Tryz.prog zCM 130 [.bor 50000000 [] 1 0 4,I 2,I 3] [.own 1 [I p0,I p1,I p2,I p3]] (.bor 50000000 [] 1 0 3) [.own 1 [I p0,I p1,I p3,I 0]]:=by
 refine zAe Tryz.f130 ?_
 refine zAd 1<|zAa<|zAd 6<|zAa<|zAi<|zAd 3<|zAa<|zAG<|zAl<|zAd 3<|zAa<|zAd 2<|zAc 1<|zAc 2<|zAc 1<|zAc 1<|zAc 1<|zAa<|zAd 4<|zAc 1<|zAc 1<|zAa<|zAd 1<|zAc 1<|zAa<|zAn<|E_a [] an (PV.bor 50000000 [] 1 0 3) ([PV.own 1 [I p0,I p1,I p3,I 0]]) rfl rfl
theorem f130_43 (p0 p1 p2 p3:Int):zBD Tryz.prog zCM 130 [.bor 50000000 [] 1 0 4,I 3,I 4] [.own 1 [I p0,I p1,I p2,I p3]] (.bor 50000000 [] 1 0 3) [.own 1 [I p0,I p1,I p2,I 0]]:=by
 refine zAe Tryz.f130 ?_
 refine zAd 1<|zAa<|zAd 6<|zAa<|zAi<|zAd 3<|zAa<|zAG<|zAl<|zAd 3<|zAa<|zAd 2<|zAc 1<|zAc 3<|zAc 1<|zAc 1<|zAa<|zAd 4<|zAc 1<|zAc 1<|zAa<|zAd 1<|zAc 1<|zAa<|zAn<|E_a [] an (PV.bor 50000000 [] 1 0 3) ([PV.own 1 [I p0,I p1,I p2,I 0]]) rfl rfl
theorem f130_50 (p0 p1 p2 p3 p4:Int):zBD Tryz.prog zCM 130 [.bor 50000000 [] 1 0 5,I 0,I 1] [.own 1 [I p0,I p1,I p2,I p3,I p4]] (.bor 50000000 [] 1 0 4) [.own 1 [I p1,I p2,I p3,I p4,I 0]]:=by
 refine zAe Tryz.f130 ?_
 refine zAd 1<|zAa<|zAd 6<|zAa<|zAi<|zAd 3<|zAa<|zAG<|zAl<|zAd 3<|zAa<|zAd 2<|zAc 1<|zAc 2<|zAc 1<|zAc 1<|zAc 1<|zAa<|zAd 4<|zAc 1<|zAc 1<|zAa<|zAd 1<|zAc 1<|zAa<|zAn<|E_a [] an (PV.bor 50000000 [] 1 0 4) ([PV.own 1 [I p1,I p2,I p3,I p4,I 0]]) rfl rfl
theorem f130_51 (p0 p1 p2 p3 p4:Int):zBD Tryz.prog zCM 130 [.bor 50000000 [] 1 0 5,I 1,I 2] [.own 1 [I p0,I p1,I p2,I p3,I p4]] (.bor 50000000 [] 1 0 4) [.own 1 [I p0,I p2,I p3,I p4,I 0]]:=by
 refine zAe Tryz.f130 ?_
 refine zAd 1<|zAa<|zAd 6<|zAa<|zAi<|zAd 3<|zAa<|zAG<|zAl<|zAd 3<|zAa<|zAd 2<|zAc 1<|zAc 2<|zAc 1<|zAc 1<|zAc 1<|zAa<|zAd 4<|zAc 1<|zAc 1<|zAa<|zAd 1<|zAc 1<|zAa<|zAn<|E_a [] an (PV.bor 50000000 [] 1 0 4) ([PV.own 1 [I p0,I p2,I p3,I p4,I 0]]) rfl rfl
theorem f130_52 (p0 p1 p2 p3 p4:Int):zBD Tryz.prog zCM 130 [.bor 50000000 [] 1 0 5,I 2,I 3] [.own 1 [I p0,I p1,I p2,I p3,I p4]] (.bor 50000000 [] 1 0 4) [.own 1 [I p0,I p1,I p3,I p4,I 0]]:=by
 refine zAe Tryz.f130 ?_
 refine zAd 1<|zAa<|zAd 6<|zAa<|zAi<|zAd 3<|zAa<|zAG<|zAl<|zAd 3<|zAa<|zAd 2<|zAc 1<|zAc 2<|zAc 1<|zAc 1<|zAc 1<|zAa<|zAd 4<|zAc 1<|zAc 1<|zAa<|zAd 1<|zAc 1<|zAa<|zAn<|E_a [] an (PV.bor 50000000 [] 1 0 4) ([PV.own 1 [I p0,I p1,I p3,I p4,I 0]]) rfl rfl
theorem f130_53 (p0 p1 p2 p3 p4:Int):zBD Tryz.prog zCM 130 [.bor 50000000 [] 1 0 5,I 3,I 4] [.own 1 [I p0,I p1,I p2,I p3,I p4]] (.bor 50000000 [] 1 0 4) [.own 1 [I p0,I p1,I p2,I p4,I 0]]:=by
 refine zAe Tryz.f130 ?_
 refine zAd 1<|zAa<|zAd 6<|zAa<|zAi<|zAd 3<|zAa<|zAG<|zAl<|zAd 3<|zAa<|zAd 2<|zAc 1<|zAc 2<|zAc 1<|zAc 1<|zAc 1<|zAa<|zAd 4<|zAc 1<|zAc 1<|zAa<|zAd 1<|zAc 1<|zAa<|zAn<|E_a [] an (PV.bor 50000000 [] 1 0 4) ([PV.own 1 [I p0,I p1,I p2,I p4,I 0]]) rfl rfl
theorem f130_54 (p0 p1 p2 p3 p4:Int):zBD Tryz.prog zCM 130 [.bor 50000000 [] 1 0 5,I 4,I 5] [.own 1 [I p0,I p1,I p2,I p3,I p4]] (.bor 50000000 [] 1 0 4) [.own 1 [I p0,I p1,I p2,I p3,I 0]]:=by
 refine zAe Tryz.f130 ?_
 refine zAd 1<|zAa<|zAd 6<|zAa<|zAi<|zAd 3<|zAa<|zAG<|zAl<|zAd 3<|zAa<|zAd 2<|zAc 1<|zAc 3<|zAc 1<|zAc 1<|zAa<|zAd 4<|zAc 1<|zAc 1<|zAa<|zAd 1<|zAc 1<|zAa<|zAn<|E_a [] an (PV.bor 50000000 [] 1 0 4) ([PV.own 1 [I p0,I p1,I p2,I p3,I 0]]) rfl rfl
theorem f130g (l:List Int) (i:Nat) (h:i<l.length) (hl:l.length≤5):zBD Tryz.prog zCM 130 [.bor 50000000 [] 1 0 l.length,I (i:Nat),I ((i:Nat)+1:Int)] [.own 1 (l.map I)] (.bor 50000000 [] 1 0 (l.length-1)) [.own 1 ((l.eraseIdx i++[0]).map I)]:=by
 rcases l with _ | ⟨p0,_ | ⟨p1,_ | ⟨p2,_ | ⟨p3,_ | ⟨p4,_ | ⟨p5,l⟩⟩⟩⟩⟩⟩
 ·exact absurd h (Nat.not_lt_zero _)
 ·obtain rfl:i=0:=by simp at h;omega
  ·exact f130_10 p0
 ·obtain rfl | rfl:i=0∨i=1:=by simp at h;omega
  ·exact f130_20 p0 p1
  ·exact f130_21 p0 p1
 ·obtain rfl | rfl | rfl:i=0∨i=1∨i=2:=by simp at h;omega
  ·exact f130_30 p0 p1 p2
  ·exact f130_31 p0 p1 p2
  ·exact f130_32 p0 p1 p2
 ·obtain rfl | rfl | rfl | rfl:i=0∨i=1∨i=2∨i=3:=by simp at h;omega
  ·exact f130_40 p0 p1 p2 p3
  ·exact f130_41 p0 p1 p2 p3
  ·exact f130_42 p0 p1 p2 p3
  ·exact f130_43 p0 p1 p2 p3
 ·obtain rfl | rfl | rfl | rfl | rfl:i=0∨i=1∨i=2∨i=3∨i=4:=by simp at h;omega
  ·exact f130_50 p0 p1 p2 p3 p4
  ·exact f130_51 p0 p1 p2 p3 p4
  ·exact f130_52 p0 p1 p2 p3 p4
  ·exact f130_53 p0 p1 p2 p3 p4
  ·exact f130_54 p0 p1 p2 p3 p4
 ·simp at hl
end
end Go.Eng
set_option maxRecDepth 10000
set_option maxHeartbeats 4000000
namespace Go.Eng
open Go Go.Proofs
section
variable [Yo]
theorem f48_ex (l:List Int) (a:Nat) (t hs ns ss:Int) (h:zDQ l a) (hh:2≤hs∧hs≤8) (hn:2≤ns∧ns≤6) (yJ:1≤ss∧ss≤4):∃ v h',zBD Tryz.prog zCM 48 [zPF,I hs,I ns,I ss] [zB2 l a t] v h'∧∃ (n:Nw) (a':Nat) (t':Int),v=nwO n∧h'=[zB2 l a' t']∧zGp n=0∧n.h≤hs∧(n.n.length:Int)≤ns∧(n.s.length:Int)≤ss∧zDQ l a':=by
 refine zMI Tryz.f48 _ ?_
 have g1:=zCt h
 have s1:=zCB l a t (hs-2)
 refine zAd 1<|zAa<|zAd 2<|S_a [(8,.ret (I (2+zAp l a t (hs-2))) ([zB2 l (zAC l a) (zAI l a t)]))] (ap (f127 l a t (2) hs (by omega) (by omega) (by omega)) an)<|zAc 3<|zAa<|zAi<|zAd 1<|zAa<|zAk 0 ?_
 have hH1:2≤2+zAp l a t (hs-2)∧2+zAp l a t (hs-2)≤hs:=by omega
 generalize 2+zAp l a t (hs-2)=H at *
 clear s1
 generalize zAI l a t=T0 at *
 generalize zAC l a=A0 at *
 refine zAA (fun (h,q,a,_)=>1≤h∧(h:Int)≤H∧LkOk q h∧zDQ l a) (fun ((h:Nat),(q:List (Int×Int)),(a:Nat),(t:Int))=>[(9,.box (.agg [I H,.own 2 (q.map prV),.own 2 [],.own 1 []])),(10,I (h:Nat)),(50000000,zB2 l a t)]) (fun (h,_,_,_)=>H.toNat-h) ((1:Nat),([]:List (Int×Int)),A0,T0) ⟨Nat.le_refl _,by omega,⟨fun x hx=>absurd hx List.not_mem_nil,List.nodup_nil,by simp only [List.length_nil];omega⟩,g1⟩ fun (h,q,a,t) ⟨qx,hhH,hq,ha⟩=>?_
 have ql:=hq.len
 by_cases qm:(h:Int)<H
 ·have g2:=zCt ha
  have g3:=zCt g2
  have s2:=zCB l (zAC l a) (zAI l a t) ((h-1:Nat):Int)
  have kV:=hq.skip
  have kF:LkOk (q++[((h:Int),zAp l (zAC l a) (zAI l a t) ((h-1:Nat):Int))]) ((h:Int)+1):=hq.snoc (by omega) (by omega)
  clear hq
  refine zAi<|zAd 4<|zAa<|zA8 ((↑h:Int)<H) (by omega)<|zAl<|zAi<|zAk 1<|zAd 1<|S_a [(6,.ret (PV.bool (decide (zAp l a t (5-1)=0))) ([zB2 l (zAC l a) (zAI l a t)]))] (ap (f128 l a t (5) (by omega) (by omega)) an)<|zAc 1<|zAa<|zDT (zAp l a t (5-1)=0) (fun k0=>(zAg<|zAc 1<|S_a [(1,.v (PV.bor 9 [(0,1)] 2 0 q.length))] (ap ((by simp):PV.bor 9 [(0,1)] 2 0 (List.map prV q).length=PV.bor 9 [(0,1)] 2 0 q.length) an)<|zAc 3<|S_a [(1,.v (I (↑(h-1):Int)))] (ap ((zCe (by omega) (by omega)):I (IntKind.i64.wrap ((↑h:Int)-1))=I (↑(h-1):Int)) an)<|S_a [(6,.ret (I (zAp l (zAC l a) (zAI l a t) (↑(h-1):Int))) ([zB2 l (zAC l (zAC l a)) (zAI l (zAC l a) (zAI l a t))]))] (ap (f129 l (zAC l a) (zAI l a t) ((↑(h-1):Int)) (by omega) (by omega)) an)<|zAc 2<|S_a [(4,.ob),(0,.ob),(0,.yes),(2,.v (PV.own 2 (List.map prV (q++[((↑h:Int),zAp l (zAC l a) (zAI l a t) (↑(h-1):Int))]))))] (ap ((by exact zA0 (by simp only [List.length_map,zzLn,zAU]<;>omega)):(0+q.length).ble (List.map prV q).length=true)<|ap ((by exact zA0 (by simp only [List.length_map,zzLn,zAU]<;>omega)):((List.map prV q).length + [PV.agg [I (↑h:Int),I (zAp l (zAC l a) (zAI l a t) (↑(h-1):Int))]].length).ble zAU=true)<|ap ((by exact zBB (by simp<;>omega)):(0+q.length).beq (List.map prV q).length=true)<|ap ((zAY (zBE (by kernel_rfl))):PV.own 2 (List.map prV q++[PV.agg [I (↑h:Int),I (zAp l (zAC l a) (zAI l a t) (↑(h-1):Int))]])=PV.own 2 (List.map prV (q++[((↑h:Int),zAp l (zAC l a) (zAI l a t) (↑(h-1):Int))]))) an)<|zAc 2<|zAa<|zAg<|zAc 1<|S_a [(1,.v (I (↑(h+1):Int)))] (ap (wrN h) an)<|zAc 1<|zAa ?_)) (fun k0=>(zAl<|zAg<|zAc 1<|S_a [(1,.v (I (↑(h+1):Int)))] (ap (wrN h) an)<|zAc 1<|zAa ?_))
  ·exact ⟨(h+1,q++[((h:Int),zAp l (zAC l a) (zAI l a t) ((h-1:Nat):Int))],zAC l (zAC l a),zAI l (zAC l a) (zAI l a t)),⟨by omega,by omega,kF,g3⟩,by simp only;omega,by kernel_rfl,by kernel_rfl⟩
  ·exact ⟨(h+1,q,zAC l a,zAI l a t),⟨by omega,by omega,kV,g2⟩,by simp only;omega,by kernel_rfl,by kernel_rfl⟩
 have wg:(h:Int)=H:=by omega
 rw [wg] at hq
 have g2:=zCt ha
 refine zAi<|zAd 4<|zAa ?_
 refine zBk ((h:Int)<H) (by omega)<|zAS 0 ?_
 refine zWz (fun (q,a,_,_)=>LkEnd q H∧zDQ l a) (fun ((q:List (Int×Int)),(a:Nat),(t:Int),(x:Bool))=>[(9,.box (.agg [I H,.own 2 (q.map prV),.own 2 [],.own 1 []])),(55,.bool x),(50000000,zB2 l a t)]) [] ?_ fun (q2,a2,t2,x2) ⟨kF,jm⟩=>?_
 ·have hnr:FG 77 [.agg [I H,.sl (q.map prV),.sl [],.sl []],I 0,I (H-1)] (.bool (zF9 ⟨H,q,[],[]⟩ 0 (H-1))):=f77 ⟨H,q,[],[]⟩ 0 (H-1) (by simp only;omega)
  have yK:=hq.fin
  have hfar:=fun hb=>LkOk.far (n:=⟨H,q,[],[]⟩) hq (by simp only;omega) hb
  simp only at hfar
  clear hq
  refine zAd 4<|zLY 44 (H>3) (fun k0=>(zAc 1<|S_a [(6,.ret (PV.bool (decide (zAp l a t (2-1)=0))) ([zB2 l (zAC l a) (zAI l a t)]))] (ap (f128 l a t (2) (by omega) (by omega)) an)<|zAc 2<|zLY 48 (zAp l a t (2-1)=0) (fun k1=>(zAc 3<|S_a [(1,.v (I (H-1)))] (ap ((zCe rfl (by omega)):I (IntKind.i64.wrap (H-1))=I (H-1)) an)<|S_a [(6,.ob),(0,.v (prs q)),(12,.ret (PV.bool (zF9 {h:=H,l:=q,n:=[],s:=[]} 0 (H-1))) [])] (ap (blz (List.map prV q))<|ap (frT prV q)<|ap hnr an)<|zAc 2<|zAa<|zFe (!zF9 {h:=H,l:=q,n:=[],s:=[]} 0 (H-1)) (fun k2=>(zAg<|zAc 1<|S_a [(1,.v (PV.bor 9 [(0,1)] 2 0 q.length))] (ap ((by simp):PV.bor 9 [(0,1)] 2 0 (List.map prV q).length=PV.bor 9 [(0,1)] 2 0 q.length) an)<|zAc 2<|S_a [(1,.v (I (H-1)))] (ap ((zCe rfl (by omega)):I (IntKind.i64.wrap (H-1))=I (H-1)) an)<|zAc 2<|S_a [(4,.ob),(0,.ob),(0,.yes),(2,.v (PV.own 2 (List.map prV (q++[(0,H-1)]))))] (ap ((by exact zA0 (by simp only [List.length_map,zzLn,zAU]<;>omega)):(0+q.length).ble (List.map prV q).length=true)<|ap ((by exact zA0 (by simp only [List.length_map,zzLn,zAU]<;>omega)):((List.map prV q).length + [PV.agg [I 0,I (H-1)]].length).ble zAU=true)<|ap ((by exact zBB (by simp<;>omega)):(0+q.length).beq (List.map prV q).length=true)<|ap ((zAY (zBE (by kernel_rfl))):PV.own 2 (List.map prV q++[PV.agg [I 0,I (H-1)]])=PV.own 2 (List.map prV (q++[(0,H-1)]))) an)<|zAc 2<|zAa ?_)) (fun k2=>(zAl ?_)))) (fun k1=>(zAc 7<|zAa<|zAG<|zAl ?_)))) (fun k0=>(zAc 11<|zAa<|zAG<|zAl ?_))
  ·exact ⟨(q++[(0,H-1)],zAC l a,zAI l a t,!zF9 ⟨H,q,[],[]⟩ 0 (H-1)),⟨hfar (by simpa using k2),g2⟩,by kernel_rfl,by kernel_rfl⟩
  ·exact ⟨(q,zAC l a,zAI l a t,!zF9 ⟨H,q,[],[]⟩ 0 (H-1)),⟨yK,g2⟩,by kernel_rfl,by kernel_rfl⟩
  ·exact ⟨(q,zAC l a,zAI l a t,false),⟨yK,g2⟩,by kernel_rfl,by kernel_rfl⟩
  ·exact ⟨(q,a,t,false),⟨yK,ha⟩,by kernel_rfl,by kernel_rfl⟩
 have h1:=kF.len
 have g3:=zCt jm
 have s1:=zCB l a2 t2 (ns-2)
 clear hq
 refine zAd 1<|zAa<|zAi<|zAd 2<|S_a [(8,.ret (I (2+zAp l a2 t2 (ns-2))) ([zB2 l (zAC l a2) (zAI l a2 t2)]))] (ap (f127 l a2 t2 (2) ns (by omega) (by omega) (by omega)) an)<|zAc 1<|zAa<|zAk 2 ?_
 have hm1:2≤2+zAp l a2 t2 (ns-2)∧2+zAp l a2 t2 (ns-2)≤ns:=by omega
 generalize 2+zAp l a2 t2 (ns-2)=m at *
 clear s1
 generalize zAI l a2 t2=T1 at *
 generalize zAC l a2=A1 at *
 refine zAA (fun (i,F,N,a,_)=>(i:Int)≤m∧NtOk F N i∧zDQ l a) (fun ((i:Nat),(F:List Int),(N:List (Int×Bool)),(a:Nat),(t:Int))=>[(9,.box (.agg [I H,.own 2 (q2.map prV),.own 2 (N.map ntV),.own 1 []])),(11,.own 1 (F.map I)),(68,I (i:Nat)),(50000000,zB2 l a t)]) (fun (i,_,_,_,_)=>m.toNat-i) ((0:Nat),([]:List Int),([]:List (Int×Bool)),A1,T1) ⟨by omega,⟨rfl,Nat.le_refl _,fun f hf=>absurd hf List.not_mem_nil,List.nodup_nil,fun j hj=>absurd hj (Nat.not_lt_zero j),fun j k hkj hj=>absurd hj (Nat.not_lt_zero j),fun f hf=>absurd hf List.not_mem_nil⟩,g3⟩ fun (i,F,N,a,t) ⟨him,hN,ha⟩=>?_
 have hNl:=hN.len
 have hFl:=hN.fl
 by_cases yV:(i:Int)<m
 ·have g4:=zCt ha
  have g5:=zCt g4
  have g6:=zCt g5
  have s2:=zCB l (zAC l a) (zAI l a t) ((F.length-1:Nat):Int)
  have yM:=fun b=>hN.one (b:=b)
  by_cases hF:0<F.length
  ·have hstk:=f129 l (zAC l a) (zAI l a t) ((F.length-1:Nat):Int) g4 (by omega)
   generalize zAp l (zAC l a) (zAI l a t) ((F.length-1:Nat):Int)=s at hstk s2
   obtain ⟨k,rfl⟩:∃ k:Nat,s=k:=⟨s.toNat,by omega⟩
   have hdel:=f130g F k (by omega) (by omega)
   have hmore:=fun b=>hN.more (b:=b) (k:=k) (by omega)
   have htk:(F.eraseIdx k++[0]).take (F.length-1)=F.eraseIdx k:=by
    rw [List.take_append_of_le_length (by rw [List.length_eraseIdx_of_lt (by omega)];exact Nat.le_refl _),List.take_of_length_le (by rw [List.length_eraseIdx_of_lt (by omega)];exact Nat.le_refl _)]
   have yz:(F.eraseIdx k).length=F.length-1:=List.length_eraseIdx_of_lt (by omega)
   have vX:∀ b,NtOk ((F.eraseIdx k++[0]).take (F.length-1)++[(i:Int)]) (N++[(F.getD k 0,b)]) (i+1):=fun b=>by rw [htk];exact hmore b
   clear hN
   refine zAd 1<|zAa<|zAi<|zA8 ((↑i:Int)<m) (by omega)<|zAl<|zAi<|zAk 3<|zAd 2<|zAa<|zAd 1<|zAa<|zAi<|zAd 1<|S_a [(0,.n F.length)] (ap (lnS I F) an)<|zAc 2<|zRp 74 ((↑F.length:Int)>0) (by omega) (zAc 1<|S_a [(6,.ret (PV.bool (decide (zAp l a t (3-1)=0))) ([zB2 l (zAC l a) (zAI l a t)]))] (ap (f128 l a t (3) (by omega) (by omega)) an)<|zAc 2<|zAa<|zDT (zAp l a t (3-1)=0) (fun k1=>(zAd 2<|S_a [(0,.n F.length)] (ap (lnS I F) an)<|S_a [(1,.v (I (↑(F.length-1):Int)))] (ap ((zCe (by omega) (by omega)):I (IntKind.i64.wrap ((↑F.length:Int)-1))=I (↑(F.length-1):Int)) an)<|S_a [(6,.ret (I (↑k:Int)) ([zB2 l (zAC l (zAC l a)) (zAI l (zAC l a) (zAI l a t))]))] (ap hstk an)<|zAc 1<|zAa<|zAd 2<|S_a [(2,.ob),(1,.n k)] (ap ((by exact zAs (by simp only [List.length_map,zzLn]<;>omega)):decide (k<(List.map I F).length)=true)<|ap ((by simp):some (0+k)=some k) an)<|S_a [(0,.cs false ([I (F.getD k 0)]))] (ap (zC8 (q:=PV.own 1 (List.map I F)) (xs:=List.map I F) (x:=I (F.getD k 0)) rfl (zCI (0) (by omega)):zAr 11 (PV.own 1 (List.map I F)) [] k 0 1=some (false,[I (F.getD k 0)])) an)<|zAc 1<|zAa<|zAg<|zAc 3<|S_a [(1,.v (I (↑(k+1):Int)))] (ap (wrN k) an)<|S_a [(7,.vs ([PV.bor 50000000 [] 1 0 F.length,I (↑k:Int),I (↑(k+1):Int)])),(0,.ret (PV.bor 50000000 [] 1 0 (F.length-1)) ([PV.own 1 (List.map I (F.eraseIdx k++[0]))]))] (ap ((by simp) : [PV.bor 50000000 [] 1 0 (List.map I F).length,I (↑k:Int),I (↑(k+1):Int)]=[PV.bor 50000000 [] 1 0 F.length,I (↑k:Int),I (↑(k+1):Int)])<|ap hdel an)<|S_a [(1,.ob),(0,.v (PV.own 1 (List.map I (List.take (F.length-1) (F.eraseIdx k++[0])))))] (ap ((by exact zA0 (by simp only [List.length_map,zzLn,zAU]<;>omega)):(0+(F.length-1)).ble (List.map I (F.eraseIdx k++[0])).length=true)<|ap ((by simp):PV.own 1 (List.take (F.length-1) (List.drop 0 (List.map I (F.eraseIdx k++[0]))))=PV.own 1 (List.map I (List.take (F.length-1) (F.eraseIdx k++[0])))) an)<|zAa<|zAd 3<|S_a [(4,.ob),(0,.ob),(0,.yes),(2,.v (PV.own 1 (List.map I (List.take (F.length-1) (F.eraseIdx k++[0])++[(↑i:Int)]))))] (ap (blz (List.map I (List.take (F.length-1) (F.eraseIdx k++[0]))))<|ap ((by exact zA0 (by simp [zAU]<;>omega)):((List.map I (List.take (F.length-1) (F.eraseIdx k++[0]))).length + [I (↑i:Int)].length).ble zAU=true)<|ap ((by exact zBB (by simp<;>omega)):(0+(List.map I (List.take (F.length-1) (F.eraseIdx k++[0]))).length).beq (List.map I (List.take (F.length-1) (F.eraseIdx k++[0]))).length=true)<|ap ((zAY (zBE (by kernel_rfl))):PV.own 1 (List.map I (List.take (F.length-1) (F.eraseIdx k++[0]))++[I (↑i:Int)])=PV.own 1 (List.map I (List.take (F.length-1) (F.eraseIdx k++[0])++[(↑i:Int)]))) an)<|zAc 1<|zAa<|zAg<|zAc 1<|S_a [(1,.v (PV.bor 9 [(0,2)] 2 0 N.length))] (ap ((by simp):PV.bor 9 [(0,2)] 2 0 (List.map ntV N).length=PV.bor 9 [(0,2)] 2 0 N.length) an)<|zAc 2<|S_a [(6,.ret (PV.bool (decide (zAp l (zAC l (zAC l a)) (zAI l (zAC l a) (zAI l a t)) (3-1)=0))) ([zB2 l (zAC l (zAC l (zAC l a))) (zAI l (zAC l (zAC l a)) (zAI l (zAC l a) (zAI l a t)))]))] (ap (f128 l (zAC l (zAC l a)) (zAI l (zAC l a) (zAI l a t)) (3) (by omega) (by omega)) an)<|zAc 2<|S_a [(4,.ob),(0,.ob),(0,.yes),(2,.v (PV.own 2 (List.map ntV (N++[(F.getD k 0,decide (zAp l (zAC l (zAC l a)) (zAI l (zAC l a) (zAI l a t)) (3-1)=0))]))))] (ap ((by exact zA0 (by simp only [List.length_map,zzLn,zAU]<;>omega)):(0+N.length).ble (List.map ntV N).length=true)<|ap ((by exact zA0 (by simp only [List.length_map,zzLn,zAU]<;>omega)):((List.map ntV N).length + [PV.agg [I (F.getD k 0),PV.bool (decide (zAp l (zAC l (zAC l a)) (zAI l (zAC l a) (zAI l a t)) (3-1)=0))]].length).ble zAU=true)<|ap ((by exact zBB (by simp<;>omega)):(0+N.length).beq (List.map ntV N).length=true)<|ap ((zAY (zBE (by kernel_rfl))):PV.own 2 (List.map ntV N++[PV.agg [I (F.getD k 0),PV.bool (decide (zAp l (zAC l (zAC l a)) (zAI l (zAC l a) (zAI l a t)) (3-1)=0))]])=PV.own 2 (List.map ntV (N++[(F.getD k 0,decide (zAp l (zAC l (zAC l a)) (zAI l (zAC l a) (zAI l a t)) (3-1)=0))]))) an)<|zAc 2<|zAa<|zAg<|S_a [(1,.v (I (↑(i+1):Int)))] (ap (wrN i) an)<|zAc 1<|zAa ?_)) (fun k1=>(zAl<|zAd 3<|S_a [(4,.ob),(0,.ob),(0,.yes),(2,.v (PV.own 1 (List.map I (F++[(↑i:Int)]))))] (ap (blz (List.map I F))<|ap ((by exact zA0 (by simp only [List.length_map,zzLn,zAU]<;>omega)):((List.map I F).length + [I (↑i:Int)].length).ble zAU=true)<|ap ((by exact zBB (by simp<;>omega)):(0+(List.map I F).length).beq (List.map I F).length=true)<|ap ((zAY (zBE (by kernel_rfl))):PV.own 1 (List.map I F++[I (↑i:Int)])=PV.own 1 (List.map I (F++[(↑i:Int)]))) an)<|zAc 1<|zAa<|zAg<|zAc 1<|S_a [(1,.v (PV.bor 9 [(0,2)] 2 0 N.length))] (ap ((by simp):PV.bor 9 [(0,2)] 2 0 (List.map ntV N).length=PV.bor 9 [(0,2)] 2 0 N.length) an)<|zAc 2<|S_a [(6,.ret (PV.bool (decide (zAp l (zAC l a) (zAI l a t) (3-1)=0))) ([zB2 l (zAC l (zAC l a)) (zAI l (zAC l a) (zAI l a t))]))] (ap (f128 l (zAC l a) (zAI l a t) (3) (by omega) (by omega)) an)<|zAc 2<|S_a [(4,.ob),(0,.ob),(0,.yes),(2,.v (PV.own 2 (List.map ntV (N++[(-1,decide (zAp l (zAC l a) (zAI l a t) (3-1)=0))]))))] (ap ((by exact zA0 (by simp only [List.length_map,zzLn,zAU]<;>omega)):(0+N.length).ble (List.map ntV N).length=true)<|ap ((by exact zA0 (by simp only [List.length_map,zzLn,zAU]<;>omega)):((List.map ntV N).length + [PV.agg [I (-1),PV.bool (decide (zAp l (zAC l a) (zAI l a t) (3-1)=0))]].length).ble zAU=true)<|ap ((by exact zBB (by simp<;>omega)):(0+N.length).beq (List.map ntV N).length=true)<|ap ((zAY (zBE (by kernel_rfl))):PV.own 2 (List.map ntV N++[PV.agg [I (-1),PV.bool (decide (zAp l (zAC l a) (zAI l a t) (3-1)=0))]])=PV.own 2 (List.map ntV (N++[(-1,decide (zAp l (zAC l a) (zAI l a t) (3-1)=0))]))) an)<|zAc 2<|zAa<|zAg<|S_a [(1,.v (I (↑(i+1):Int)))] (ap (wrN i) an)<|zAc 1<|zAa ?_)))
   ·exact ⟨(i+1,(F.eraseIdx k++[0]).take (F.length-1)++[(i:Int)],N++[(F.getD k 0,decide (zAp l (zAC l (zAC l a)) (zAI l (zAC l a) (zAI l a t)) (3-1)=0))],zAC l (zAC l (zAC l a)),zAI l (zAC l (zAC l a)) (zAI l (zAC l a) (zAI l a t))),⟨by omega,vX _,g6⟩,by simp only;omega,by kernel_rfl,by kernel_rfl⟩
   ·exact ⟨(i+1,F++[(i:Int)],N++[(-1,decide (zAp l (zAC l a) (zAI l a t) (3-1)=0))],zAC l (zAC l a),zAI l (zAC l a) (zAI l a t)),⟨by omega,yM _,g5⟩,by simp only;omega,by kernel_rfl,by kernel_rfl⟩
  ·clear hN
   refine zAd 1<|zAa<|zAi<|zA8 ((↑i:Int)<m) (by omega)<|zAl<|zAi<|zAk 3<|zAd 2<|zAa<|zAd 1<|zAa<|zAi<|zAd 1<|S_a [(0,.n F.length)] (ap (lnS I F) an)<|zAc 2<|zJf 74 ((↑F.length:Int)>0) (by omega) (zAc 4<|zAa<|zAG<|zAl<|zAd 3<|S_a [(4,.ob),(0,.ob),(0,.yes),(2,.v (PV.own 1 (List.map I (F++[(↑i:Int)]))))] (ap (blz (List.map I F))<|ap ((by exact zA0 (by simp only [List.length_map,zzLn,zAU]<;>omega)):((List.map I F).length + [I (↑i:Int)].length).ble zAU=true)<|ap ((by exact zBB (by simp<;>omega)):(0+(List.map I F).length).beq (List.map I F).length=true)<|ap ((zAY (zBE (by kernel_rfl))):PV.own 1 (List.map I F++[I (↑i:Int)])=PV.own 1 (List.map I (F++[(↑i:Int)]))) an)<|zAc 1<|zAa<|zAg<|zAc 1<|S_a [(1,.v (PV.bor 9 [(0,2)] 2 0 N.length))] (ap ((by simp):PV.bor 9 [(0,2)] 2 0 (List.map ntV N).length=PV.bor 9 [(0,2)] 2 0 N.length) an)<|zAc 2<|S_a [(6,.ret (PV.bool (decide (zAp l a t (3-1)=0))) ([zB2 l (zAC l a) (zAI l a t)]))] (ap (f128 l a t (3) (by omega) (by omega)) an)<|zAc 2<|S_a [(4,.ob),(0,.ob),(0,.yes),(2,.v (PV.own 2 (List.map ntV (N++[(-1,decide (zAp l a t (3-1)=0))]))))] (ap ((by exact zA0 (by simp only [List.length_map,zzLn,zAU]<;>omega)):(0+N.length).ble (List.map ntV N).length=true)<|ap ((by exact zA0 (by simp only [List.length_map,zzLn,zAU]<;>omega)):((List.map ntV N).length + [PV.agg [I (-1),PV.bool (decide (zAp l a t (3-1)=0))]].length).ble zAU=true)<|ap ((by exact zBB (by simp<;>omega)):(0+N.length).beq (List.map ntV N).length=true)<|ap ((zAY (zBE (by kernel_rfl))):PV.own 2 (List.map ntV N++[PV.agg [I (-1),PV.bool (decide (zAp l a t (3-1)=0))]])=PV.own 2 (List.map ntV (N++[(-1,decide (zAp l a t (3-1)=0))]))) an)<|zAc 2<|zAa<|zAg<|S_a [(1,.v (I (↑(i+1):Int)))] (ap (wrN i) an)<|zAc 1<|zAa ?_)
   exact ⟨(i+1,F++[(i:Int)],N++[(-1,decide (zAp l a t (3-1)=0))],zAC l a,zAI l a t),⟨by omega,yM _,g4⟩,by simp only;omega,by kernel_rfl,by kernel_rfl⟩
 have him2:(i:Int)=m:=by omega
 have g4:=zCt ha
 have s1:=zCB l a t (ss-1)
 refine zAd 1<|zAa<|zAi<|zBk ((↑i:Int)<m) (by omega)<|zAS 2<|zAi<|zAd 2<|S_a [(8,.ret (I (1+zAp l a t (ss-1))) ([zB2 l (zAC l a) (zAI l a t)]))] (ap (f127 l a t (1) ss (by omega) (by omega) (by omega)) an)<|zAc 1<|zAa<|zAk 4 ?_
 have gT:1≤1+zAp l a t (ss-1)∧1+zAp l a t (ss-1)≤ss:=by omega
 generalize 1+zAp l a t (ss-1)=M at *
 clear s1
 generalize zAI l a t=T2 at *
 generalize zAC l a=A2 at *
 refine zAA (fun (s,S,a,_)=>(s:Int)≤M∧S.length=s∧(∀ r∈S,RwOk r H.toNat)∧zDQ l a) (fun ((s:Nat),(S:List (List Int)),(a:Nat),(t:Int))=>[(9,.box (.agg [I H,.own 2 (q2.map prV),.own 2 (N.map ntV),.own 1 (S.map zKl)])),(110,I (s:Nat)),(50000000,zB2 l a t)]) (fun (s,_,_,_)=>M.toNat-s) ((0:Nat),([]:List (List Int)),A2,T2) ⟨by omega,rfl,fun r hr=>absurd hr List.not_mem_nil,g4⟩ fun (s,S,a3,t3) ⟨hsM,wa,hS,ha3⟩=>?_
 by_cases j4:(s:Int)<M
 ·refine zAd 1<|zAa<|zAi<|zA8 ((↑s:Int)<M) (by omega)<|zAl<|zAi<|zAk 5<|zAd 1<|zAa<|zAi<|zAd 3<|zAa<|zAk 6 ?_
  refine zAA (fun (j,r,a,_)=>(j:Int)≤H∧RwOk r j∧zDQ l a) (fun ((j:Nat),(r:List Int),(a:Nat),(t:Int))=>[(15,.own 1 (r.map I)),(114,I (j:Nat)),(50000000,zB2 l a t)]) (fun (j,_,_,_)=>H.toNat-j) ((0:Nat),([]:List Int),a3,t3) ⟨by omega,⟨fun x hx=>absurd hx List.not_mem_nil,rfl,Nat.le_refl _⟩,ha3⟩ fun (j,r,a4,t4) ⟨hjH,hr,ha4⟩=>?_
  have hrl:=hr.len
  by_cases jL:(j:Int)<H
  ·have g5:=zCt ha4
   have gC:=hr.skip
   have vc:=hr.snoc
   clear hr
   refine zAd 1<|zAa<|zAi<|zA8 ((↑j:Int)<H) (by omega)<|zAl<|zAi<|zAk 7<|zAd 2<|zAa<|zAd 1<|S_a [(6,.ret (PV.bool (decide (zAp l a4 t4 (3-1)=0))) ([zB2 l (zAC l a4) (zAI l a4 t4)]))] (ap (f128 l a4 t4 (3) (by omega) (by omega)) an)<|zAa<|zDo (zAp l a4 t4 (3-1)=0) (fun k0=>(zAg<|zAc 3<|S_a [(4,.ob),(0,.ob),(0,.yes),(2,.v (PV.own 1 (List.map I (r++[(↑j:Int)]))))] (ap (blz (List.map I r))<|ap ((by exact zA0 (by simp only [List.length_map,zzLn,zAU]<;>omega)):((List.map I r).length + [I (↑j:Int)].length).ble zAU=true)<|ap ((by exact zBB (by simp<;>omega)):(0+(List.map I r).length).beq (List.map I r).length=true)<|ap ((zAY (zBE (by kernel_rfl))):PV.own 1 (List.map I r++[I (↑j:Int)])=PV.own 1 (List.map I (r++[(↑j:Int)]))) an)<|zAc 1<|zAa<|zAg<|S_a [(1,.v (I (↑(j+1):Int)))] (ap (wrN j) an)<|zAc 1<|zAa ?_)) (fun k0=>(zAl<|zAg<|S_a [(1,.v (I (↑(j+1):Int)))] (ap (wrN j) an)<|zAc 1<|zAa ?_))
   ·exact ⟨(j+1,r++[(j:Int)],zAC l a4,zAI l a4 t4),⟨by omega,vc,g5⟩,by simp only;omega,by kernel_rfl,by kernel_rfl⟩
   ·exact ⟨(j+1,r,zAC l a4,zAI l a4 t4),⟨by omega,gC,g5⟩,by simp only;omega,by kernel_rfl,by kernel_rfl⟩
  ·have hje:j=H.toNat:=by omega
   rw [hje] at hr
   have hS2:∀ x∈S++[r],RwOk x H.toNat:=fun x hx=>by
    rcases List.mem_append.1 hx with hx | hx
    ·exact hS x hx
    ·rw [List.mem_singleton] at hx;subst hx;exact hr
   refine zAd 1<|zAa<|zAi<|zBk ((↑j:Int)<H) (by omega)<|zAS 6<|zAg<|zAc 1<|S_a [(1,.v (PV.bor 9 [(0,3)] 1 0 S.length))] (ap ((by simp):PV.bor 9 [(0,3)] 1 0 (List.map zKl S).length=PV.bor 9 [(0,3)] 1 0 S.length) an)<|zAc 1<|S_a [(2,.yes)] (ap ((by exact zBB (by simp<;>omega)):(Nat.beq 0 0&&(List.map I r).length.beq (List.map I r).length)=true) an)<|S_a [(4,.ob),(0,.ob),(0,.yes),(2,.v (PV.own 1 (List.map zKl (S++[r]))))] (ap ((by exact zA0 (by simp only [List.length_map,zzLn,zAU]<;>omega)):(0+S.length).ble (List.map zKl S).length=true)<|ap ((by exact zA0 (by simp only [List.length_map,zzLn,zAU]<;>omega)):((List.map zKl S).length + [PV.own 1 (List.map I r)].length).ble zAU=true)<|ap ((by exact zBB (by simp<;>omega)):(0+S.length).beq (List.map zKl S).length=true)<|ap ((zAY (zBE (by kernel_rfl))):PV.own 1 (List.map zKl S++[PV.own 1 (List.map I r)])=PV.own 1 (List.map zKl (S++[r]))) an)<|zAc 2<|zAa<|zAg<|S_a [(1,.v (I (↑(s+1):Int)))] (ap (wrN s) an)<|zAc 1<|zAa ?_
   exact ⟨(s+1,S++[r],a4,t4),⟨by omega,by rw [List.length_append,wa];rfl,hS2,ha4⟩,by simp only;omega,by kernel_rfl,by kernel_rfl⟩
 ·have kz:=zVu (H:=H) (q:=q2) (F:=F) (N:=N) (S:=S) (m:=i) (by omega) kF hN (by omega) hS (by omega)
  refine zAd 1<|zAa<|zAi<|zBk ((↑s:Int)<M) (by omega)<|zAS 4<|zAd 1<|S_a [(4,.yes),(2,.yes),(2,.yes)] (ap ((by exact zBB (by simp<;>omega)):(Nat.beq 0 0&&(List.map prV q2).length.beq (List.map prV q2).length)=true)<|ap ((by exact zBB (by simp<;>omega)):(Nat.beq 0 0&&(List.map ntV N).length.beq (List.map ntV N).length)=true)<|ap ((by exact zBB (by simp<;>omega)):(Nat.beq 0 0&&(List.map zKl S).length.beq (List.map zKl S).length)=true) an)<|zAa<|zAn<|E_q [(4,.yes),(1,.v (PV.own 2 (List.map prV q2))),(1,.yes),(1,.v (PV.own 2 (List.map ntV N))),(1,.yes),(1,.v (PV.own 1 (List.map zKl S)))] (ap (blz (List.map prV q2))<|ap ((zAY zBi):PV.own 2 (List.take (List.map prV q2).length (List.drop 0 (List.map prV q2)))=PV.own 2 (List.map prV q2))<|ap (blz (List.map ntV N))<|ap ((zAY zBi):PV.own 2 (List.take (List.map ntV N).length (List.drop 0 (List.map ntV N)))=PV.own 2 (List.map ntV N))<|ap (blz (List.map zKl S))<|ap ((zAY zBi):PV.own 1 (List.take (List.map zKl S).length (List.drop 0 (List.map zKl S)))=PV.own 1 (List.map zKl S)) an) (PV.agg [I H,PV.own 2 (List.map prV q2),PV.own 2 (List.map ntV N),PV.own 1 (List.map zKl S)]) ([(PV.agg [PV.sl (List.map u8 l),I (↑a3:Int),PV.int IntKind.u32 t3]).box]) ?_
  exact ⟨⟨H,q2,N,S⟩,a3,t3,rfl,rfl,kz,by simp only;omega,by simp only;omega,by simp only;omega,ha3⟩
end
end Go.Eng
set_option maxRecDepth 10000
set_option maxHeartbeats 4000000
namespace Go.Eng
open Go Go.Proofs
theorem zTm {n:Nw} {cs:List (Int×Int)} {c:Int×Int} (h:CrW n cs) (hl:cs.length<1000) (hc:(0≤c.1∧c.1<n.n.length)∧(0≤c.2∧c.2<n.s.length)):CrW n (cs++[c]) :=
 ⟨h.nw,by simp;omega,fun x hx=>by
  rcases List.mem_append.1 hx with h1 | h1
  ·exact h.cs x h1
  ·rw [List.mem_singleton] at h1;subst h1;exact hc⟩
theorem zY7 (n:Nw) (c:Int×Int):FG 171 [zDN n [],prV c] (.box (zCv n (.own 2 (([]++[c]).map prV)) (mapM (n.l.map pr2)) (zAh n) (zAW n))):=by
 refine zAe Tryz.f171 ?_
 refine zAd 2<|zAa<|zAd 5<|zAa<|zAd 4<|zAc 1<|zAc 4<|zAc 1<|zAc 1<|zAc 3<|zAa<|zAd 1<|zAc 1<|zAc 4<|zAc 1<|zAa<|zAd 1<|zAc 1<|zAc 5<|zAa<|zAd 1<|zAa<|zAn<|E_a [] an ((PV.agg (I n.h::prs n.l::PV.sl (List.map ntV n.n)::PV.sl (List.map zA9 n.s)::PV.own 2 [PV.agg [I c.fst,I c.snd]]::PV.map (List.map zBx (List.map pr2 n.l))::(zAM (zAh n) 8++zAM (zAW n) 8))).box) [] rfl rfl
theorem zYb (n:Nw) (c:Int×Int) (x0:Int×Int):FG 171 [zDN n [x0],prV c] (.box (zCv n (.own 2 (([x0]++[c]).map prV)) (mapM (n.l.map pr2)) (zAh n) (zAW n))):=by
 refine zAe Tryz.f171 ?_
 refine zAd 2<|zAa<|zAd 5<|zAa<|zAd 4<|zAc 1<|zAc 4<|zAc 1<|zAc 1<|zAc 3<|zAa<|zAd 1<|zAc 1<|zAc 4<|zAc 1<|zAa<|zAd 1<|zAc 1<|zAc 5<|zAa<|zAd 1<|zAa<|zAn<|E_a [] an ((PV.agg (I n.h::prs n.l::PV.sl (List.map ntV n.n)::PV.sl (List.map zA9 n.s)::PV.own 2 [PV.agg [I x0.fst,I x0.snd],PV.agg [I c.fst,I c.snd]]::PV.map (List.map zBx (List.map pr2 n.l))::(zAM (zAh n) 8++zAM (zAW n) 8))).box) [] rfl rfl
theorem zYJ (n:Nw) (c:Int×Int) (x0 x1:Int×Int):FG 171 [zDN n [x0,x1],prV c] (.box (zCv n (.own 2 (([x0,x1]++[c]).map prV)) (mapM (n.l.map pr2)) (zAh n) (zAW n))):=by
 refine zAe Tryz.f171 ?_
 refine zAd 2<|zAa<|zAd 5<|zAa<|zAd 4<|zAc 1<|zAc 4<|zAc 1<|zAc 1<|zAc 3<|zAa<|zAd 1<|zAc 1<|zAc 4<|zAc 1<|zAa<|zAd 1<|zAc 1<|zAc 5<|zAa<|zAd 1<|zAa<|zAn<|E_a [] an ((PV.agg (I n.h::prs n.l::PV.sl (List.map ntV n.n)::PV.sl (List.map zA9 n.s)::PV.own 2 [PV.agg [I x0.fst,I x0.snd],PV.agg [I x1.fst,I x1.snd],PV.agg [I c.fst,I c.snd]]::PV.map (List.map zBx (List.map pr2 n.l))::(zAM (zAh n) 8++zAM (zAW n) 8))).box) [] rfl rfl
theorem zXw (n:Nw) (c:Int×Int) (x0 x1 x2:Int×Int):FG 171 [zDN n [x0,x1,x2],prV c] (.box (zCv n (.own 2 (([x0,x1,x2]++[c]).map prV)) (mapM (n.l.map pr2)) (zAh n) (zAW n))):=by
 refine zAe Tryz.f171 ?_
 refine zAd 2<|zAa<|zAd 5<|zAa<|zAd 4<|zAc 1<|zAc 4<|zAc 1<|zAc 1<|zAc 3<|zAa<|zAd 1<|zAc 1<|zAc 4<|zAc 1<|zAa<|zAd 1<|zAc 1<|zAc 5<|zAa<|zAd 1<|zAa<|zAn<|E_a [] an ((PV.agg (I n.h::prs n.l::PV.sl (List.map ntV n.n)::PV.sl (List.map zA9 n.s)::PV.own 2 [PV.agg [I x0.fst,I x0.snd],PV.agg [I x1.fst,I x1.snd],PV.agg [I x2.fst,I x2.snd],PV.agg [I c.fst,I c.snd]]::PV.map (List.map zBx (List.map pr2 n.l))::(zAM (zAh n) 8++zAM (zAW n) 8))).box) [] rfl rfl
theorem zX1 (n:Nw) (c:Int×Int) (x0 x1 x2 x3:Int×Int):FG 171 [zDN n [x0,x1,x2,x3],prV c] (.box (zCv n (.own 2 (([x0,x1,x2,x3]++[c]).map prV)) (mapM (n.l.map pr2)) (zAh n) (zAW n))):=by
 refine zAe Tryz.f171 ?_
 refine zAd 2<|zAa<|zAd 5<|zAa<|zAd 4<|zAc 1<|zAc 4<|zAc 1<|zAc 1<|zAc 3<|zAa<|zAd 1<|zAc 1<|zAc 4<|zAc 1<|zAa<|zAd 1<|zAc 1<|zAc 5<|zAa<|zAd 1<|zAa<|zAn<|E_a [] an ((PV.agg (I n.h::prs n.l::PV.sl (List.map ntV n.n)::PV.sl (List.map zA9 n.s)::PV.own 2 [PV.agg [I x0.fst,I x0.snd],PV.agg [I x1.fst,I x1.snd],PV.agg [I x2.fst,I x2.snd],PV.agg [I x3.fst,I x3.snd],PV.agg [I c.fst,I c.snd]]::PV.map (List.map zBx (List.map pr2 n.l))::(zAM (zAh n) 8++zAM (zAW n) 8))).box) [] rfl rfl
theorem zX9 (n:Nw) (c:Int×Int) (x0 x1 x2 x3 x4:Int×Int):FG 171 [zDN n [x0,x1,x2,x3,x4],prV c] (.box (zCv n (.own 2 (([x0,x1,x2,x3,x4]++[c]).map prV)) (mapM (n.l.map pr2)) (zAh n) (zAW n))):=by
 refine zAe Tryz.f171 ?_
 refine zAd 2<|zAa<|zAd 5<|zAa<|zAd 4<|zAc 1<|zAc 4<|zAc 1<|zAc 1<|zAc 3<|zAa<|zAd 1<|zAc 1<|zAc 4<|zAc 1<|zAa<|zAd 1<|zAc 1<|zAc 5<|zAa<|zAd 1<|zAa<|zAn<|E_a [] an ((PV.agg (I n.h::prs n.l::PV.sl (List.map ntV n.n)::PV.sl (List.map zA9 n.s)::PV.own 2 [PV.agg [I x0.fst,I x0.snd],PV.agg [I x1.fst,I x1.snd],PV.agg [I x2.fst,I x2.snd],PV.agg [I x3.fst,I x3.snd],PV.agg [I x4.fst,I x4.snd],PV.agg [I c.fst,I c.snd]]::PV.map (List.map zBx (List.map pr2 n.l))::(zAM (zAh n) 8++zAM (zAW n) 8))).box) [] rfl rfl
theorem zYp (n:Nw) (c:Int×Int) (x0 x1 x2 x3 x4 x5:Int×Int):FG 171 [zDN n [x0,x1,x2,x3,x4,x5],prV c] (.box (zCv n (.own 2 (([x0,x1,x2,x3,x4,x5]++[c]).map prV)) (mapM (n.l.map pr2)) (zAh n) (zAW n))):=by
 refine zAe Tryz.f171 ?_
 refine zAd 2<|zAa<|zAd 5<|zAa<|zAd 4<|zAc 1<|zAc 4<|zAc 1<|zAc 1<|zAc 3<|zAa<|zAd 1<|zAc 1<|zAc 4<|zAc 1<|zAa<|zAd 1<|zAc 1<|zAc 5<|zAa<|zAd 1<|zAa<|zAn<|E_a [] an ((PV.agg (I n.h::prs n.l::PV.sl (List.map ntV n.n)::PV.sl (List.map zA9 n.s)::PV.own 2 [PV.agg [I x0.fst,I x0.snd],PV.agg [I x1.fst,I x1.snd],PV.agg [I x2.fst,I x2.snd],PV.agg [I x3.fst,I x3.snd],PV.agg [I x4.fst,I x4.snd],PV.agg [I x5.fst,I x5.snd],PV.agg [I c.fst,I c.snd]]::PV.map (List.map zBx (List.map pr2 n.l))::(zAM (zAh n) 8++zAM (zAW n) 8))).box) [] rfl rfl
theorem zYB (n:Nw) (c:Int×Int) (x0 x1 x2 x3 x4 x5 x6:Int×Int):FG 171 [zDN n [x0,x1,x2,x3,x4,x5,x6],prV c] (.box (zCv n (.own 2 (([x0,x1,x2,x3,x4,x5,x6]++[c]).map prV)) (mapM (n.l.map pr2)) (zAh n) (zAW n))):=by
 refine zAe Tryz.f171 ?_
 refine zAd 2<|zAa<|zAd 5<|zAa<|zAd 4<|zAc 1<|zAc 4<|zAc 1<|zAc 1<|zAc 3<|zAa<|zAd 1<|zAc 1<|zAc 4<|zAc 1<|zAa<|zAd 1<|zAc 1<|zAc 5<|zAa<|zAd 1<|zAa<|zAn<|E_a [] an ((PV.agg (I n.h::prs n.l::PV.sl (List.map ntV n.n)::PV.sl (List.map zA9 n.s)::PV.own 2 [PV.agg [I x0.fst,I x0.snd],PV.agg [I x1.fst,I x1.snd],PV.agg [I x2.fst,I x2.snd],PV.agg [I x3.fst,I x3.snd],PV.agg [I x4.fst,I x4.snd],PV.agg [I x5.fst,I x5.snd],PV.agg [I x6.fst,I x6.snd],PV.agg [I c.fst,I c.snd]]::PV.map (List.map zBx (List.map pr2 n.l))::(zAM (zAh n) 8++zAM (zAW n) 8))).box) [] rfl rfl
theorem zXC (n:Nw) (c:Int×Int) (x0 x1 x2 x3 x4 x5 x6 x7:Int×Int):FG 171 [zDN n [x0,x1,x2,x3,x4,x5,x6,x7],prV c] (.box (zCv n (.own 2 (([x0,x1,x2,x3,x4,x5,x6,x7]++[c]).map prV)) (mapM (n.l.map pr2)) (zAh n) (zAW n))):=by
 refine zAe Tryz.f171 ?_
 refine zAd 2<|zAa<|zAd 5<|zAa<|zAd 4<|zAc 1<|zAc 4<|zAc 1<|zAc 1<|zAc 3<|zAa<|zAd 1<|zAc 1<|zAc 4<|zAc 1<|zAa<|zAd 1<|zAc 1<|zAc 5<|zAa<|zAd 1<|zAa<|zAn<|E_a [] an ((PV.agg (I n.h::prs n.l::PV.sl (List.map ntV n.n)::PV.sl (List.map zA9 n.s)::PV.own 2 [PV.agg [I x0.fst,I x0.snd],PV.agg [I x1.fst,I x1.snd],PV.agg [I x2.fst,I x2.snd],PV.agg [I x3.fst,I x3.snd],PV.agg [I x4.fst,I x4.snd],PV.agg [I x5.fst,I x5.snd],PV.agg [I x6.fst,I x6.snd],PV.agg [I x7.fst,I x7.snd],PV.agg [I c.fst,I c.snd]]::PV.map (List.map zBx (List.map pr2 n.l))::(zAM (zAh n) 8++zAM (zAW n) 8))).box) [] rfl rfl
theorem zYN (n:Nw) (c:Int×Int) (x0 x1 x2 x3 x4 x5 x6 x7 x8:Int×Int):FG 171 [zDN n [x0,x1,x2,x3,x4,x5,x6,x7,x8],prV c] (.box (zCv n (.own 2 (([x0,x1,x2,x3,x4,x5,x6,x7,x8]++[c]).map prV)) (mapM (n.l.map pr2)) (zAh n) (zAW n))):=by
 refine zAe Tryz.f171 ?_
 refine zAd 2<|zAa<|zAd 5<|zAa<|zAd 4<|zAc 1<|zAc 4<|zAc 1<|zAc 1<|zAc 3<|zAa<|zAd 1<|zAc 1<|zAc 4<|zAc 1<|zAa<|zAd 1<|zAc 1<|zAc 5<|zAa<|zAd 1<|zAa<|zAn<|E_a [] an ((PV.agg (I n.h::prs n.l::PV.sl (List.map ntV n.n)::PV.sl (List.map zA9 n.s)::PV.own 2 [PV.agg [I x0.fst,I x0.snd],PV.agg [I x1.fst,I x1.snd],PV.agg [I x2.fst,I x2.snd],PV.agg [I x3.fst,I x3.snd],PV.agg [I x4.fst,I x4.snd],PV.agg [I x5.fst,I x5.snd],PV.agg [I x6.fst,I x6.snd],PV.agg [I x7.fst,I x7.snd],PV.agg [I x8.fst,I x8.snd],PV.agg [I c.fst,I c.snd]]::PV.map (List.map zBx (List.map pr2 n.l))::(zAM (zAh n) 8++zAM (zAW n) 8))).box) [] rfl rfl
theorem zWn (n:Nw) (c:Int×Int) (x0 x1 x2 x3 x4 x5 x6 x7 x8 x9:Int×Int):FG 171 [zDN n [x0,x1,x2,x3,x4,x5,x6,x7,x8,x9],prV c] (.box (zCv n (.own 2 (([x0,x1,x2,x3,x4,x5,x6,x7,x8,x9]++[c]).map prV)) (mapM (n.l.map pr2)) (zAh n) (zAW n))):=by
 refine zAe Tryz.f171 ?_
 refine zAd 2<|zAa<|zAd 5<|zAa<|zAd 4<|zAc 1<|zAc 4<|zAc 1<|zAc 1<|zAc 3<|zAa<|zAd 1<|zAc 1<|zAc 4<|zAc 1<|zAa<|zAd 1<|zAc 1<|zAc 5<|zAa<|zAd 1<|zAa<|zAn<|E_a [] an ((PV.agg (I n.h::prs n.l::PV.sl (List.map ntV n.n)::PV.sl (List.map zA9 n.s)::PV.own 2 [PV.agg [I x0.fst,I x0.snd],PV.agg [I x1.fst,I x1.snd],PV.agg [I x2.fst,I x2.snd],PV.agg [I x3.fst,I x3.snd],PV.agg [I x4.fst,I x4.snd],PV.agg [I x5.fst,I x5.snd],PV.agg [I x6.fst,I x6.snd],PV.agg [I x7.fst,I x7.snd],PV.agg [I x8.fst,I x8.snd],PV.agg [I x9.fst,I x9.snd],PV.agg [I c.fst,I c.snd]]::PV.map (List.map zBx (List.map pr2 n.l))::(zAM (zAh n) 8++zAM (zAW n) 8))).box) [] rfl rfl
theorem zXi (n:Nw) (c:Int×Int) (x0 x1 x2 x3 x4 x5 x6 x7 x8 x9 x10:Int×Int):FG 171 [zDN n [x0,x1,x2,x3,x4,x5,x6,x7,x8,x9,x10],prV c] (.box (zCv n (.own 2 (([x0,x1,x2,x3,x4,x5,x6,x7,x8,x9,x10]++[c]).map prV)) (mapM (n.l.map pr2)) (zAh n) (zAW n))):=by
 refine zAe Tryz.f171 ?_
 refine zAd 2<|zAa<|zAd 5<|zAa<|zAd 4<|zAc 1<|zAc 4<|zAc 1<|zAc 1<|zAc 3<|zAa<|zAd 1<|zAc 1<|zAc 4<|zAc 1<|zAa<|zAd 1<|zAc 1<|zAc 5<|zAa<|zAd 1<|zAa<|zAn<|E_a [] an ((PV.agg (I n.h::prs n.l::PV.sl (List.map ntV n.n)::PV.sl (List.map zA9 n.s)::PV.own 2 [PV.agg [I x0.fst,I x0.snd],PV.agg [I x1.fst,I x1.snd],PV.agg [I x2.fst,I x2.snd],PV.agg [I x3.fst,I x3.snd],PV.agg [I x4.fst,I x4.snd],PV.agg [I x5.fst,I x5.snd],PV.agg [I x6.fst,I x6.snd],PV.agg [I x7.fst,I x7.snd],PV.agg [I x8.fst,I x8.snd],PV.agg [I x9.fst,I x9.snd],PV.agg [I x10.fst,I x10.snd],PV.agg [I c.fst,I c.snd]]::PV.map (List.map zBx (List.map pr2 n.l))::(zAM (zAh n) 8++zAM (zAW n) 8))).box) [] rfl rfl
theorem zWd (n:Nw) (c:Int×Int) (x0 x1 x2 x3 x4 x5 x6 x7 x8 x9 x10 x11:Int×Int):FG 171 [zDN n [x0,x1,x2,x3,x4,x5,x6,x7,x8,x9,x10,x11],prV c] (.box (zCv n (.own 2 (([x0,x1,x2,x3,x4,x5,x6,x7,x8,x9,x10,x11]++[c]).map prV)) (mapM (n.l.map pr2)) (zAh n) (zAW n))):=by
 refine zAe Tryz.f171 ?_
 refine zAd 2<|zAa<|zAd 5<|zAa<|zAd 4<|zAc 1<|zAc 4<|zAc 1<|zAc 1<|zAc 3<|zAa<|zAd 1<|zAc 1<|zAc 4<|zAc 1<|zAa<|zAd 1<|zAc 1<|zAc 5<|zAa<|zAd 1<|zAa<|zAn<|E_a [] an ((PV.agg (I n.h::prs n.l::PV.sl (List.map ntV n.n)::PV.sl (List.map zA9 n.s)::PV.own 2 [PV.agg [I x0.fst,I x0.snd],PV.agg [I x1.fst,I x1.snd],PV.agg [I x2.fst,I x2.snd],PV.agg [I x3.fst,I x3.snd],PV.agg [I x4.fst,I x4.snd],PV.agg [I x5.fst,I x5.snd],PV.agg [I x6.fst,I x6.snd],PV.agg [I x7.fst,I x7.snd],PV.agg [I x8.fst,I x8.snd],PV.agg [I x9.fst,I x9.snd],PV.agg [I x10.fst,I x10.snd],PV.agg [I x11.fst,I x11.snd],PV.agg [I c.fst,I c.snd]]::PV.map (List.map zBx (List.map pr2 n.l))::(zAM (zAh n) 8++zAM (zAW n) 8))).box) [] rfl rfl
theorem zWI (n:Nw) (c:Int×Int) (x0 x1 x2 x3 x4 x5 x6 x7 x8 x9 x10 x11 x12:Int×Int):FG 171 [zDN n [x0,x1,x2,x3,x4,x5,x6,x7,x8,x9,x10,x11,x12],prV c] (.box (zCv n (.own 2 (([x0,x1,x2,x3,x4,x5,x6,x7,x8,x9,x10,x11,x12]++[c]).map prV)) (mapM (n.l.map pr2)) (zAh n) (zAW n))):=by
 refine zAe Tryz.f171 ?_
 refine zAd 2<|zAa<|zAd 5<|zAa<|zAd 4<|zAc 1<|zAc 4<|zAc 1<|zAc 1<|zAc 3<|zAa<|zAd 1<|zAc 1<|zAc 4<|zAc 1<|zAa<|zAd 1<|zAc 1<|zAc 5<|zAa<|zAd 1<|zAa<|zAn<|E_a [] an ((PV.agg (I n.h::prs n.l::PV.sl (List.map ntV n.n)::PV.sl (List.map zA9 n.s)::PV.own 2 [PV.agg [I x0.fst,I x0.snd],PV.agg [I x1.fst,I x1.snd],PV.agg [I x2.fst,I x2.snd],PV.agg [I x3.fst,I x3.snd],PV.agg [I x4.fst,I x4.snd],PV.agg [I x5.fst,I x5.snd],PV.agg [I x6.fst,I x6.snd],PV.agg [I x7.fst,I x7.snd],PV.agg [I x8.fst,I x8.snd],PV.agg [I x9.fst,I x9.snd],PV.agg [I x10.fst,I x10.snd],PV.agg [I x11.fst,I x11.snd],PV.agg [I x12.fst,I x12.snd],PV.agg [I c.fst,I c.snd]]::PV.map (List.map zBx (List.map pr2 n.l))::(zAM (zAh n) 8++zAM (zAW n) 8))).box) [] rfl rfl
theorem zWC (n:Nw) (c:Int×Int) (x0 x1 x2 x3 x4 x5 x6 x7 x8 x9 x10 x11 x12 x13:Int×Int):FG 171 [zDN n [x0,x1,x2,x3,x4,x5,x6,x7,x8,x9,x10,x11,x12,x13],prV c] (.box (zCv n (.own 2 (([x0,x1,x2,x3,x4,x5,x6,x7,x8,x9,x10,x11,x12,x13]++[c]).map prV)) (mapM (n.l.map pr2)) (zAh n) (zAW n))):=by
 refine zAe Tryz.f171 ?_
 refine zAd 2<|zAa<|zAd 5<|zAa<|zAd 4<|zAc 1<|zAc 4<|zAc 1<|zAc 1<|zAc 3<|zAa<|zAd 1<|zAc 1<|zAc 4<|zAc 1<|zAa<|zAd 1<|zAc 1<|zAc 5<|zAa<|zAd 1<|zAa<|zAn<|E_a [] an ((PV.agg (I n.h::prs n.l::PV.sl (List.map ntV n.n)::PV.sl (List.map zA9 n.s)::PV.own 2 [PV.agg [I x0.fst,I x0.snd],PV.agg [I x1.fst,I x1.snd],PV.agg [I x2.fst,I x2.snd],PV.agg [I x3.fst,I x3.snd],PV.agg [I x4.fst,I x4.snd],PV.agg [I x5.fst,I x5.snd],PV.agg [I x6.fst,I x6.snd],PV.agg [I x7.fst,I x7.snd],PV.agg [I x8.fst,I x8.snd],PV.agg [I x9.fst,I x9.snd],PV.agg [I x10.fst,I x10.snd],PV.agg [I x11.fst,I x11.snd],PV.agg [I x12.fst,I x12.snd],PV.agg [I x13.fst,I x13.snd],PV.agg [I c.fst,I c.snd]]::PV.map (List.map zBx (List.map pr2 n.l))::(zAM (zAh n) 8++zAM (zAW n) 8))).box) [] rfl rfl
theorem zWs (n:Nw) (c:Int×Int) (x0 x1 x2 x3 x4 x5 x6 x7 x8 x9 x10 x11 x12 x13 x14:Int×Int):FG 171 [zDN n [x0,x1,x2,x3,x4,x5,x6,x7,x8,x9,x10,x11,x12,x13,x14],prV c] (.box (zCv n (.own 2 (([x0,x1,x2,x3,x4,x5,x6,x7,x8,x9,x10,x11,x12,x13,x14]++[c]).map prV)) (mapM (n.l.map pr2)) (zAh n) (zAW n))):=by
 refine zAe Tryz.f171 ?_
 refine zAd 2<|zAa<|zAd 5<|zAa<|zAd 4<|zAc 1<|zAc 4<|zAc 1<|zAc 1<|zAc 3<|zAa<|zAd 1<|zAc 1<|zAc 4<|zAc 1<|zAa<|zAd 1<|zAc 1<|zAc 5<|zAa<|zAd 1<|zAa<|zAn<|E_a [] an ((PV.agg (I n.h::prs n.l::PV.sl (List.map ntV n.n)::PV.sl (List.map zA9 n.s)::PV.own 2 [PV.agg [I x0.fst,I x0.snd],PV.agg [I x1.fst,I x1.snd],PV.agg [I x2.fst,I x2.snd],PV.agg [I x3.fst,I x3.snd],PV.agg [I x4.fst,I x4.snd],PV.agg [I x5.fst,I x5.snd],PV.agg [I x6.fst,I x6.snd],PV.agg [I x7.fst,I x7.snd],PV.agg [I x8.fst,I x8.snd],PV.agg [I x9.fst,I x9.snd],PV.agg [I x10.fst,I x10.snd],PV.agg [I x11.fst,I x11.snd],PV.agg [I x12.fst,I x12.snd],PV.agg [I x13.fst,I x13.snd],PV.agg [I x14.fst,I x14.snd],PV.agg [I c.fst,I c.snd]]::PV.map (List.map zBx (List.map pr2 n.l))::(zAM (zAh n) 8++zAM (zAW n) 8))).box) [] rfl rfl
theorem zWH (n:Nw) (c:Int×Int) (x0 x1 x2 x3 x4 x5 x6 x7 x8 x9 x10 x11 x12 x13 x14 x15:Int×Int):FG 171 [zDN n [x0,x1,x2,x3,x4,x5,x6,x7,x8,x9,x10,x11,x12,x13,x14,x15],prV c] (.box (zCv n (.own 2 (([x0,x1,x2,x3,x4,x5,x6,x7,x8,x9,x10,x11,x12,x13,x14,x15]++[c]).map prV)) (mapM (n.l.map pr2)) (zAh n) (zAW n))):=by
 refine zAe Tryz.f171 ?_
 refine zAd 2<|zAa<|zAd 5<|zAa<|zAd 4<|zAc 1<|zAc 4<|zAc 1<|zAc 1<|zAc 3<|zAa<|zAd 1<|zAc 1<|zAc 4<|zAc 1<|zAa<|zAd 1<|zAc 1<|zAc 5<|zAa<|zAd 1<|zAa<|zAn<|E_a [] an ((PV.agg (I n.h::prs n.l::PV.sl (List.map ntV n.n)::PV.sl (List.map zA9 n.s)::PV.own 2 [PV.agg [I x0.fst,I x0.snd],PV.agg [I x1.fst,I x1.snd],PV.agg [I x2.fst,I x2.snd],PV.agg [I x3.fst,I x3.snd],PV.agg [I x4.fst,I x4.snd],PV.agg [I x5.fst,I x5.snd],PV.agg [I x6.fst,I x6.snd],PV.agg [I x7.fst,I x7.snd],PV.agg [I x8.fst,I x8.snd],PV.agg [I x9.fst,I x9.snd],PV.agg [I x10.fst,I x10.snd],PV.agg [I x11.fst,I x11.snd],PV.agg [I x12.fst,I x12.snd],PV.agg [I x13.fst,I x13.snd],PV.agg [I x14.fst,I x14.snd],PV.agg [I x15.fst,I x15.snd],PV.agg [I c.fst,I c.snd]]::PV.map (List.map zBx (List.map pr2 n.l))::(zAM (zAh n) 8++zAM (zAW n) 8))).box) [] rfl rfl
theorem f171 (n:Nw) (cs:List (Int×Int)) (c:Int×Int) (hl:cs.length≤16):FG 171 [zDN n cs,prV c] (.box (zCv n (.own 2 ((cs++[c]).map prV)) (mapM (n.l.map pr2)) (zAh n) (zAW n))):=by
 match cs,hl with
 | [],_=>exact zY7 n c 
 | [x0],_=>exact zYb n c x0
 | [x0,x1],_=>exact zYJ n c x0 x1
 | [x0,x1,x2],_=>exact zXw n c x0 x1 x2
 | [x0,x1,x2,x3],_=>exact zX1 n c x0 x1 x2 x3
 | [x0,x1,x2,x3,x4],_=>exact zX9 n c x0 x1 x2 x3 x4
 | [x0,x1,x2,x3,x4,x5],_=>exact zYp n c x0 x1 x2 x3 x4 x5
 | [x0,x1,x2,x3,x4,x5,x6],_=>exact zYB n c x0 x1 x2 x3 x4 x5 x6
 | [x0,x1,x2,x3,x4,x5,x6,x7],_=>exact zXC n c x0 x1 x2 x3 x4 x5 x6 x7
 | [x0,x1,x2,x3,x4,x5,x6,x7,x8],_=>exact zYN n c x0 x1 x2 x3 x4 x5 x6 x7 x8
 | [x0,x1,x2,x3,x4,x5,x6,x7,x8,x9],_=>exact zWn n c x0 x1 x2 x3 x4 x5 x6 x7 x8 x9
 | [x0,x1,x2,x3,x4,x5,x6,x7,x8,x9,x10],_=>exact zXi n c x0 x1 x2 x3 x4 x5 x6 x7 x8 x9 x10
 | [x0,x1,x2,x3,x4,x5,x6,x7,x8,x9,x10,x11],_=>exact zWd n c x0 x1 x2 x3 x4 x5 x6 x7 x8 x9 x10 x11
 | [x0,x1,x2,x3,x4,x5,x6,x7,x8,x9,x10,x11,x12],_=>exact zWI n c x0 x1 x2 x3 x4 x5 x6 x7 x8 x9 x10 x11 x12
 | [x0,x1,x2,x3,x4,x5,x6,x7,x8,x9,x10,x11,x12,x13],_=>exact zWC n c x0 x1 x2 x3 x4 x5 x6 x7 x8 x9 x10 x11 x12 x13
 | [x0,x1,x2,x3,x4,x5,x6,x7,x8,x9,x10,x11,x12,x13,x14],_=>exact zWs n c x0 x1 x2 x3 x4 x5 x6 x7 x8 x9 x10 x11 x12 x13 x14
 | [x0,x1,x2,x3,x4,x5,x6,x7,x8,x9,x10,x11,x12,x13,x14,x15],_=>exact zWH n c x0 x1 x2 x3 x4 x5 x6 x7 x8 x9 x10 x11 x12 x13 x14 x15
 | _::_::_::_::_::_::_::_::_::_::_::_::_::_::_::_::_::_,h=>simp at h
def zVX (n:Nw) (w:List Int) (g:Int×Int):Bool:=decide (w.getD (g.1.toNat*8+((zAh n).getD g.2.toNat 0).toNat) 0≠g.2)
def zIj (n:Nw) (w:List Int) (l:List (Int×Int)):List (Int×Int):=l.filter (zVX n w)
theorem zTW {n:Nw} {w:List Int} {l:List (Int×Int)} {i:Nat} (hi:i<l.length):zIj n w (l.take (i+1))=if zVX n w (l.getD i default)=true then zIj n w (l.take i)++[l.getD i default] else zIj n w (l.take i):=by
 unfold zIj;rw [zCo (d:=default) hi,List.filter_append]
 split
 ·rw [List.filter_cons_of_pos (by assumption)];rfl
 ·rw [List.filter_cons_of_neg (by assumption)];simp
theorem f119 (n:Nw) (cs l:List (Int×Int)) (e:Int) (c:Int×Int) (ho:CrW n cs) (hl:cs.length≤16) (he:0≤e∧e≤1000) (wc:l.length≤1000) (hm:∀ g∈l,(0≤g.1∧g.1<n.h)∧(0≤g.2∧g.2<n.n.length)) (hc:(0≤c.1∧c.1<n.n.length)∧(0≤c.2∧c.2<n.s.length)):FG 119 [zDN n cs,prs l,I e,prV c] (.own 2 ((zIj n (zBl n (cs++[c]) e.toNat) l).map prV)):=by
 have hw:=zTm ho (by omega) hc
 have hb:=ho.nw.h
 have hn:=ho.nw
 have uL:=hn.nl
 have gk:=zB6 (n:=n) (cs:=cs++[c]) e.toNat
 have ha:=f92 n (cs++[c]) e hw he
 generalize zBl n (cs++[c]) e.toNat=w at *
 refine zAe Tryz.f119 ?_
 refine zAd 2<|zAa<|zAd 2<|S_a [(7,.ret ((zCv n (PV.own 2 (List.map prV (cs++[c]))) (mapM (List.map pr2 n.l)) (zAh n) (zAW n)).box) [])] (ap (f171 n cs c (by omega)) an)<|zAc 1<|S_a [(7,.v (PV.agg (I n.h::prs n.l::PV.sl (List.map ntV n.n)::PV.sl (List.map zA9 n.s)::prs (cs++[c])::PV.map (List.map zBx (List.map pr2 n.l))::(zAM (zAh n) 8++zAM (zAW n) 8)))),(4,.ret (hdV w) [])] (ap ((by simp only [show zAz (List.map prV (cs++[c]))=List.map prV (cs++[c]) from (by first | exact zA6 _ | exact zBC _ | exact zBp _ | exact zBG (zBC _) | exact zBG (zBp _) | exact zED (by simp [zDe]) (zA6 _))]):PV.agg (I n.h::prs n.l::PV.sl (List.map ntV n.n)::PV.sl (List.map zA9 n.s)::PV.sl (zAz (List.map prV (cs++[c])))::PV.map (List.map zBx (List.map pr2 n.l))::(zAM (zAh n) 8++zAM (zAW n) 8))=PV.agg (I n.h::prs n.l::PV.sl (List.map ntV n.n)::PV.sl (List.map zA9 n.s)::prs (cs++[c])::PV.map (List.map zBx (List.map pr2 n.l))::(zAM (zAh n) 8++zAM (zAW n) 8)))<|ap ha an)<|zAc 2<|zAa<|zAd 1<|zAa<|zAi<|zAd 1<|S_a [(0,.n l.length)] (ap (lnS prV l) an)<|zAc 1<|zAa<|zAk 0 ?_
 refine zAA (fun (i,q)=>i≤l.length∧q=zIj n w (l.take i)) (fun (i,q)=>[(10,.own 2 (q.map prV)),(20,I (i:Nat))]) (fun (i,_)=>l.length-i) ((0:Nat),([]:List (Int×Int))) ⟨by omega,by simp [zIj]⟩ fun (i,q) ⟨hi,hq⟩=>?_
 have ql:q.length≤i:=by
  rw [hq,zIj];exact Nat.le_trans (List.length_filter_le _ _) (by rw [List.length_take];omega)
 by_cases yV:i<l.length
 ·have yW:=zTW (n:=n) (w:=w) yV
  rw [← hq] at yW
  obtain ⟨kJ,qJ⟩:=zDk (d:=default) hm i yV
  have qn:=zBz hn (l.getD i default).2.toNat (by omega)
  clear hm ha hq
  refine zAd 1<|zAa<|zAi<|zA8 ((↑i:Int)<(↑l.length:Int)) (by omega)<|zAl<|zAi<|zAk 1<|zAi<|zAg<|S_a [(2,.v (PV.agg [I (l.getD i default).fst,I (l.getD i default).snd]))] (ap (zCI default (by omega):(List.map prV l)[i]? = some (PV.agg [I (l.getD i default).fst,I (l.getD i default).snd])) an)<|zAc 3<|zAa<|zAd 7<|S_a [(0,.ob),(1,.ob),(0,.v ((I ((zAh n).getD (l.getD i default).snd.toNat 0)).ref))] (ap ((by exact zAs (by omega)):decide (0≤(l.getD i default).snd)=true)<|ap ((by exact zAs (by omega)):decide ((l.getD i default).snd.toNat<8)=true)<|ap (zGr (F:=zAh n) (m:=8) (j:=(l.getD i default).snd.toNat) (by omega):zCl (PV.agg (zAM (zAh n) 8)).ref ((l.getD i default).snd.toNat*(fun x=>x.size) Tryz.prog.types[3]) none=some (I ((zAh n).getD (l.getD i default).snd.toNat 0)).ref) an)<|zAc 1<|S_a [(0,.ob),(1,.ob)] (ap ((by exact zAs (by omega)):decide (0≤(l.getD i default).fst)=true)<|ap ((by exact zAs (by omega)):decide ((l.getD i default).fst.toNat<10)=true) an)<|S_a [(0,.ob),(1,.ob)] (ap ((by exact zAs (by omega)):decide (0≤(zAh n).getD (l.getD i default).snd.toNat 0)=true)<|ap ((by exact zAs (by omega)):decide (((zAh n).getD (l.getD i default).snd.toNat 0).toNat<8)=true) an)<|S_a [(0,.cs true ([I (w.getD ((l.getD i default).fst.toNat*8+((zAh n).getD (l.getD i default).snd.toNat 0).toNat) 0)]))] (ap (zC8 (q:=(PV.agg (zAM w 80)).box) (xs:=[PV.agg (zAM w 80)]) (x:=PV.agg (zAM w 80)) rfl rfl (zES (F:=w) (m:=80) (j:=(l.getD i default).fst.toNat*8+((zAh n).getD (l.getD i default).snd.toNat 0).toNat) (by first | rfl | exact zBT (by kernel_rfl) | exact zBW (by kernel_rfl) | exact zC9 (by kernel_rfl) (by kernel_rfl) | exact zC3 (by kernel_rfl) | exact zDq (by kernel_rfl) (by kernel_rfl) | exact zDh (by kernel_rfl) | (simp;done)) (by omega)):zAr 9 (PV.agg (zAM w 80)).box [] 0 (0+(l.getD i default).fst.toNat*(fun x=>x.size) Tryz.prog.types[128]+((zAh n).getD (l.getD i default).snd.toNat 0).toNat*(fun x=>x.size) Tryz.prog.types[3]) 1=some (true,[I (w.getD ((l.getD i default).fst.toNat*8+((zAh n).getD (l.getD i default).snd.toNat 0).toNat) 0)])) an)<|zAc 3<|zAa<|zDT (w.getD ((l.getD i default).fst.toNat*8+((zAh n).getD (l.getD i default).snd.toNat 0).toNat) 0=(l.getD i default).snd) (fun k0=>(zAg<|zAc 3<|S_a [(4,.ob),(0,.ob),(0,.yes),(2,.v (PV.own 2 (List.map prV (q++[l.getD i default]))))] (ap (blz (List.map prV q))<|ap ((by exact zA0 (by simp only [List.length_map,zzLn,zAU]<;>omega)):((List.map prV q).length + [PV.agg [I (l.getD i default).fst,I (l.getD i default).snd]].length).ble zAU=true)<|ap ((by exact zBB (by simp<;>omega)):(0+(List.map prV q).length).beq (List.map prV q).length=true)<|ap ((zAY (zBE (by kernel_rfl))):PV.own 2 (List.map prV q++[PV.agg [I (l.getD i default).fst,I (l.getD i default).snd]])=PV.own 2 (List.map prV (q++[l.getD i default]))) an)<|zAc 1<|zAa<|zAg<|S_a [(1,.v (I (↑(i+1):Int)))] (ap (wrN i) an)<|zAc 1<|zAa ?_)) (fun k0=>(zAl<|zAg<|S_a [(1,.v (I (↑(i+1):Int)))] (ap (wrN i) an)<|zAc 1<|zAa ?_))
  ·have hb:zVX n w (l.getD i default)=true:=by simp only [zVX,decide_eq_true_eq];exact k0
   rw [if_pos hb] at yW
   exact ⟨(i+1,q++[l.getD i default]),⟨by omega,yW.symm⟩,by simp only;omega,by kernel_rfl,by kernel_rfl⟩
  ·have hb:zVX n w (l.getD i default)=false:=by simp only [zVX,decide_eq_false_iff_not];exact fun h=>h k0
   rw [if_neg (by rw [hb];simp)] at yW
   exact ⟨(i+1,q),⟨by omega,yW.symm⟩,by simp only;omega,by kernel_rfl,by kernel_rfl⟩
 ·refine zAd 1<|zAa<|zAi<|zBk ((↑i:Int)<(↑l.length:Int)) (by omega)<|zAS 0<|zAd 1<|S_a [(2,.yes)] (ap ((by exact zBB (by simp<;>omega)):(Nat.beq 0 0&&(List.map prV q).length.beq (List.map prV q).length)=true) an)<|zAa<|zAn<|E_a [(1,.yes),(1,.v (PV.own 2 (List.map prV q)))] (ap (blz (List.map prV q))<|ap ((zAY zBi):PV.own 2 (List.take (List.map prV q).length (List.drop 0 (List.map prV q)))=PV.own 2 (List.map prV q)) an) (PV.own 2 (List.map prV q)) [] ?_ rfl
  rw [List.take_of_length_le (by omega)] at hq
  rw [hq]
end Go.Eng
set_option maxRecDepth 10000
set_option maxHeartbeats 4000000
namespace Go.Eng
open Go Go.Proofs
theorem zOZ {α:Type} (φ:α→Bool) (l:List α):(zEf φ l = -1→l.filter (fun x => !φ x)=l)∧(zEf φ l≠-1→∃ i:Nat,zEf φ l=i∧i<l.length∧l.take i=(l.take (i+1)).filter (fun x => !φ x)):=by
 constructor
 ·intro h
  have:l.any φ=false:=by rw [← zDM,h];rfl
  rw [List.filter_eq_self]
  intro x hx
  rw [List.any_eq_false] at this
  simpa using this x hx
 ·intro h
  unfold zEf at h ⊢
  split
  ·rename_i yG
   refine ⟨_,rfl,yG,?_⟩
   have hp:=List.findIdx_getElem (w:=yG)
   rw [List.take_add_one,List.getElem?_eq_getElem yG,List.filter_append]
   simp only [Option.toList,List.filter_cons,hp,Bool.not_true,Bool.false_eq_true,if_false,List.filter_nil,List.append_nil]
   symm
   rw [List.filter_eq_self]
   intro x hx
   obtain ⟨j,hj,rfl⟩:=List.mem_take_iff_getElem.1 hx
   have:=List.not_of_lt_findIdx (show j<l.findIdx φ by omega)
   simpa using this
  ·rename_i hn;rw [if_neg hn] at h;exact absurd rfl h
theorem zHn {α:Type} {S:List α} {p:Nat} {x:α} (h:p<S.length):(S.set p x).take (p+1)=S.take p++[x]:=by
 rw [zCo (d:=x) (by simpa using h),List.take_set_of_le (Nat.le_refl p)]
 simp [List.getD_eq_getElem?_getD,h]
theorem zJ0 {α:Type} {S:List α} {i j:Nat} {x d:α} (h:i≠j):(S.set i x).getD j d=S.getD j d:=by
 simp [List.getD_eq_getElem?_getD,List.getElem?_set,h]
theorem zJH {α:Type} (p:α→Bool) (l:List α) (j:Nat) (d:α) (h:j<l.length):(l.take (j+1)).filter p=if p (l.getD j d)=true then (l.take j).filter p++[l.getD j d] else (l.take j).filter p:=by
 rw [zCo (d:=d) h,List.filter_append]
 split
 ·rw [List.filter_cons_of_pos (by assumption)];rfl
 ·rw [List.filter_cons_of_neg (by assumption)];simp
theorem f189 (n:Nw) (cs:List (Int×Int)) (f:Int) (ho:NwOk n) (g:Int×Int) (hg:0≤g.2∧g.2<n.n.length):FG 189 [prV g,.ref (zDN n cs),.ref (I f)] (.bool (decide ((zAh n).getD g.2.toNat 0≠f))):=by
 have uL:=ho.nl
 refine zAe Tryz.f189 ?_
 refine zAd 2<|zAa<|zAd 5<|S_a [(0,.ob),(1,.ob),(0,.v ((I ((zAh n).getD g.snd.toNat 0)).ref))] (ap ((by exact zAs (by omega)):decide (0≤g.snd)=true)<|ap ((by exact zAs (by omega)):decide (g.snd.toNat<8)=true)<|ap (zGr (F:=zAh n) (m:=8) (j:=g.snd.toNat) (by omega):zCl (PV.agg (zAM (zAh n) 8)).ref (g.snd.toNat*(fun x=>x.size) Tryz.prog.types[3]) none=some (I ((zAh n).getD g.snd.toNat 0)).ref) an)<|zAc 4<|zAa<|zAn<|E_a [] an (PV.bool ((zAh n).getD g.snd.toNat 0 != f)) [] ?_ rfl
 congr 1;rw [Bool.eq_iff_iff];simp
theorem f174_1 (n:Nw) (cs:List (Int×Int)) (f:Int) (ho:NwOk n) (l:List (Int×Int)) (hl:l.length<4294967296) (hr:∀ x∈l,(fun z:Int×Int=>0≤z.2∧z.2<n.n.length) x):FG 174 [.sl (l.map prV),.func 189 [] [.ref (zDN n cs),.ref (I f)]] (I (zEf (fun x=>decide ((zAh n).getD x.2.toNat 0≠f)) l)):=by
 refine zAe Tryz.f174 ?_
 refine zAd 1<|zAa<|zAi<|zAd 1<|S_a [(0,.n l.length)] (ap (lnS prV l) an)<|zAc 1<|zAa<|zAk 0 ?_
 refine zAA (fun i=>i≤l.length∧∀ j,j<i→(fun x=>decide ((zAh n).getD x.2.toNat 0≠f)) (l.getD j default)=false) (fun i=>[(8,I (i:Nat))]) (fun i=>l.length-i) (0:Nat) (by simp) fun i ⟨hi,ha⟩=>?_
 by_cases yV:i<l.length
 ·have hri:=zDk (d:=default) hr i yV
  refine zAd 1<|zAa<|zAi<|zA8 ((↑i:Int)<(↑l.length:Int)) (by omega)<|zAl<|zAi<|zAk 1<|zAd 2<|zAa<|zAd 3<|S_a [(2,.v (PV.agg [I (l.getD i default).fst,I (l.getD i default).snd]))] (ap (zCI default (by omega):(List.map prV l)[i]? = some (PV.agg [I (l.getD i default).fst,I (l.getD i default).snd])) an)<|zAc 1<|S_a [(8,.ret (PV.bool (decide ((zAh n).getD (l.getD i default).snd.toNat 0≠f))) [])] (ap (f189 n cs f (by omega) (l.getD i default) (by omega)) an)<|zAa<|zDo ((zAh n).getD (l.getD i default).snd.toNat 0≠f) (fun k0=>(zAd 2<|zAa<|zAn<|E_a [] an (I (↑i:Int)) [] ?_ rfl)) (fun k0=>(zAl<|zAg<|S_a [(1,.v (I (↑(i+1):Int)))] (ap (wrN i) an)<|zAc 1<|zAa ?_))
  ·rw [zBS (i:=i) yV (fun j hj=>by rw [← zAy (d:=default)];exact ha j hj) (by rw [← zAy (d:=default)];first | assumption | exact decide_eq_true ‹_›)]
  ·refine ⟨i+1,⟨by omega,fun j hj=>?_⟩,by omega,by kernel_rfl,by kernel_rfl⟩
   rcases Nat.lt_succ_iff_lt_or_eq.1 hj with h | rfl
   ·exact ha j h
   ·first | assumption | exact decide_eq_false ‹_› | (simp only [Bool.not_eq_false',decide_eq_true_eq];assumption)
 ·refine zAd 1<|zAa<|zAi<|zBk ((↑i:Int)<(↑l.length:Int)) (by omega)<|zAS 0<|zAd 1<|zAa<|zAn<|E_a [] an (I (-1)) [] ?_ rfl
  rw [zCa fun j hj=>by rw [← zAy (d:=default)];exact ha j (by omega)]
theorem f122_1 (n:Nw) (cs:List (Int×Int)) (f:Int) (ho:NwOk n) (l:List (Int×Int)) (hl:l.length<4294967296) (hr:∀ x∈l,(fun z:Int×Int=>0≤z.2∧z.2<n.n.length) x):FG 122 [.own 2 (l.map prV),.func 189 [] [.ref (zDN n cs),.ref (I f)]] (.own 2 ((l.filter fun x => !(decide ((zAh n).getD x.2.toNat 0≠f))).map prV)):=by
 have h1:=zOZ (fun x=>decide ((zAh n).getD x.2.toNat 0≠f)) l
 have jC:=f174_1 n cs f ho l hl hr
 by_cases hm:zEf (fun x=>decide ((zAh n).getD x.2.toNat 0≠f)) l = -1
 ·rw [hm] at jC
  rw [h1.1 hm]
  refine zAe Tryz.f122 ?_
  refine zAd 1<|zAa<|zAd 2<|S_a [(3,.ob),(0,.v (prs l)),(3,.ret (I (-1)) [])] (ap (blz (List.map prV l))<|ap (frT prV l)<|ap jC an)<|zAc 1<|zAa<|zAi<|zAd 2<|zAa<|zDR<|zAd 1<|S_a [(2,.yes)] (ap ((by exact zBB (by simp<;>omega)):(Nat.beq 0 0&&(List.map prV l).length.beq (List.map prV l).length)=true) an)<|zAa<|zAn<|E_a [(1,.yes),(1,.v (PV.own 2 (List.map prV l)))] (ap (blz (List.map prV l))<|ap ((zAY zBi):PV.own 2 (List.take (List.map prV l).length (List.drop 0 (List.map prV l)))=PV.own 2 (List.map prV l)) an) (PV.own 2 (List.map prV l)) [] rfl rfl
 ·obtain ⟨i0,j8,hil0,gS⟩:=h1.2 hm
  rw [j8] at jC
  clear h1 hm
  refine zAe Tryz.f122 ?_
  refine zAd 1<|zAa<|zAd 2<|S_a [(3,.ob),(0,.v (prs l)),(3,.ret (I (↑i0:Int)) [])] (ap (blz (List.map prV l))<|ap (frT prV l)<|ap jC an)<|zAc 1<|zAa<|zAi<|zAd 2<|zAa<|zAG<|zAl<|zAi<|zAd 1<|S_a [(1,.v (I (↑(i0+1):Int)))] (ap (wrN i0) an)<|zAc 1<|zAa<|zAk 0 ?_
  refine zAA (fun (i,j,S)=>j≤l.length∧i<j∧S.length=l.length∧S.take i=(l.take j).filter (fun x => !(decide ((zAh n).getD x.2.toNat 0≠f)))∧∀ r,j≤r→S.getD r default=l.getD r default) (fun (i,j,S)=>[(0,.own 2 (S.map prV)),(5,I (i:Nat)),(6,I (j:Nat))]) (fun (_,j,_)=>l.length-j) (i0,i0+1,l) ⟨by omega,by omega,rfl,gS,fun _ _=>rfl⟩ fun (i,j,S) ⟨hj,gi,hS,ht,hd⟩=>?_
  by_cases jL:j<l.length
  ·have hri:=zDk (d:=default) hr j jL
   have hx:=hd j (Nat.le_refl j)
   have yJ:=zJH (fun x => !(decide ((zAh n).getD x.2.toNat 0≠f))) l j default jL
   rw [← hx] at yJ hri
   clear jC
   have w6:=hd
   clear hd hx
   refine zAi<|zAd 2<|S_a [(0,.n S.length)] (ap (lnS prV S) an)<|zAc 1<|zAa<|zA8 ((↑j:Int)<(↑S.length:Int)) (by omega)<|zAl<|zAi<|zAk 1<|zAd 2<|S_a [(2,.ob),(1,.n j)] (ap ((by exact zAs (by simp only [List.length_map,zzLn]<;>omega)):decide (j<(List.map prV S).length)=true)<|ap ((by simp):some (0+j)=some j) an)<|S_a [(0,.cs true ([I (S.getD j default).fst,I (S.getD j default).snd]))] (ap (zC8 (q:=PV.own 2 (List.map prV S)) (xs:=List.map prV S) (x:=PV.agg [I (S.getD j default).fst,I (S.getD j default).snd]) rfl (zCI default (by omega)):zAr 0 (PV.own 2 (List.map prV S)) [] j 0 Tryz.prog.types[108].size=some (true,[I (S.getD j default).fst,I (S.getD j default).snd])) an)<|zAc 2<|zAa<|zAd 2<|S_a [(8,.ret (PV.bool (decide ((zAh n).getD (S.getD j default).snd.toNat 0≠f))) [])] (ap (f189 n cs f (by omega) (S.getD j default) (by omega)) an)<|zAc 1<|zAa<|zDT ((zAh n).getD (S.getD j default).snd.toNat 0≠f) (fun k0=>(zAd 3<|S_a [(2,.ob),(1,.n i)] (ap ((by exact zAs (by simp only [List.length_map,zzLn]<;>omega)):decide (i<(List.map prV S).length)=true)<|ap ((by simp):some (0+i)=some i) an)<|S_a [(8,.root (PV.own 2 (List.map prV (S.set i (S.getD j default)))) true)] (ap (zVh (zCI default (by omega)) zLr:zBP (PV.own 2 (List.map prV S)) [] i 0 (PV.agg [I (S.getD j default).fst,I (S.getD j default).snd]).cells=some (PV.own 2 (List.map prV (S.set i (S.getD j default))))∧zAN (PV.own 2 (List.map prV S)) (PV.own 2 (List.map prV (S.set i (S.getD j default)))) []=true) an)<|zAa<|zAg<|zAc 1<|S_a [(1,.v (I (↑(i+1):Int)))] (ap (wrN i) an)<|zAc 1<|zAa<|zAg<|zAc 1<|S_a [(1,.v (I (↑(j+1):Int)))] (ap (wrN j) an)<|zAc 1<|zAa ?_)) (fun k0=>(zAl<|zAg<|zAc 1<|S_a [(1,.v (I (↑(j+1):Int)))] (ap (wrN j) an)<|zAc 1<|zAa ?_))
   ·have hb:((fun x => !(decide ((zAh n).getD x.2.toNat 0≠f))) (S.getD j default))=true:=by first | assumption | (simp only [Bool.not_eq_true',decide_eq_false_iff_not];assumption)
    rw [if_pos hb] at yJ
    refine ⟨(i+1,j+1,S.set i (S.getD j default)),⟨by omega,by omega,by simpa using hS,?_,fun r vc=>?_⟩,by simp only;omega,by kernel_rfl,by kernel_rfl⟩
    ·rw [yJ,← ht,zHn (by omega)]
    ·rw [zJ0 (by omega)];exact w6 r (by omega)
   ·have hb:((fun x => !(decide ((zAh n).getD x.2.toNat 0≠f))) (S.getD j default))=false:=by first | assumption | (simp only [Bool.not_eq_false',decide_eq_true_eq];assumption)
    rw [if_neg (fun h=>Bool.noConfusion (hb.symm.trans h))] at yJ
    exact ⟨(i,j+1,S),⟨by omega,by omega,hS,by rw [yJ,ht],fun r vc=>w6 r (by omega)⟩,by simp only;omega,by kernel_rfl,by kernel_rfl⟩
  ·refine zAi<|zAd 2<|S_a [(0,.n S.length)] (ap (lnS prV S) an)<|zAc 1<|zAa<|zBk ((↑j:Int)<(↑S.length:Int)) (by omega)<|zAS 0<|zAd 2<|S_a [(3,.ob),(0,.yes),(0,.yes),(0,.v (PV.bor 0 [] 2 i (S.length-i)))] (ap ((by exact zA0 (by simp only [List.length_map,zzLn,zAU]<;>omega)):i.ble (List.map prV S).length=true)<|ap ((by exact zA0 (by simp only [List.length_map,zzLn,zAU]<;>omega)):(List.map prV S).length.ble (List.map prV S).length=true)<|ap ((by simp<;>omega):(i.beq 0||i.blt (List.map prV S).length)=true)<|ap ((by simp):PV.bor 0 [] 2 (0+i) ((List.map prV S).length-i)=PV.bor 0 [] 2 i (S.length-i)) an)<|zNO (g:=prV) (fun q=>q) 0 2 i (S.length-i) S ((0,0)) (by first | omega | (simp<;>omega)) ⟨rfl,rfl⟩ (fun _=>(by first | exact zLA | exact ⟨rfl,rfl,rfl,rfl,Nat.le_refl _,rfl⟩)) zSC.nil (zAa<|zAd 2<|S_a [(4,.yes)] (ap ((by exact zA0 (by simp<;>omega)):i.ble (List.map prV (List.take i S++List.replicate (S.length-i) (0,0)++List.drop (i+(S.length-i)) S)).length=true) an)<|zAc 1<|zAa<|zAn<|E_a [(1,.yes),(1,.v (PV.own 2 (List.map prV (List.take i (List.take i S++List.replicate (S.length-i) (0,0)++List.drop (i+(S.length-i)) S)))))] (ap ((by exact zA0 (by simp<;>omega)):(0+((↑i:Int).toNat-0)).ble (List.map prV (List.take i S++List.replicate (S.length-i) (0,0)++List.drop (i+(S.length-i)) S)).length=true)<|ap ((by simp):PV.own 2 (List.take i (List.drop 0 (List.map prV (List.take i S++List.replicate (S.length-i) (0,0)++List.drop (i+(S.length-i)) S))))=PV.own 2 (List.map prV (List.take i (List.take i S++List.replicate (S.length-i) (0,0)++List.drop (i+(S.length-i)) S)))) an) (PV.own 2 (List.map prV (List.take i (List.take i S++List.replicate (S.length-i) (0,0)++List.drop (i+(S.length-i)) S)))) [] ?_ rfl)
   rw [List.take_of_length_le (Nat.le_of_not_lt jL)] at ht
   rw [← ht,List.append_assoc,List.take_append_of_le_length (by rw [List.length_take];omega),List.take_take,Nat.min_self]
def ofL (n:Nw) (f:Int) (l:List (Int×Int)):List (Int×Int):=l.filter fun x => !decide ((zAh n).getD x.2.toNat 0≠f)
theorem f135 (n:Nw) (cs l:List (Int×Int)) (f:Int) (ho:NwOk n) (hl:l.length≤1000) (hr:∀ g∈l,(0≤g.1∧g.1<n.h)∧(0≤g.2∧g.2<n.n.length)):FG 135 [zDN n cs,prs l,I f] (.own 2 ((ofL n f l).map prV)):=by
 have h1:=f122_1 n cs f ho l (by omega) fun x hx=>(hr x hx).2
 refine zAe Tryz.f135 ?_
 refine zAd 3<|zAa<|zAd 1<|S_a [(6,.ret (PV.own 2 (List.map prV l)) [])] (ap (f123 l (by omega)) an)<|zAc 1<|S_a [(3,.ob),(1,.v (PV.own 2 (List.map prV l))),(14,.ret (PV.own 2 (List.map prV (List.filter (fun x => !decide ((zAh n).getD x.snd.toNat 0≠f)) l))) []),(1,.yes)] (ap ((by exact zA0 (by simp only [List.length_map,zzLn,zAU]<;>omega)):(List.map prV l).length.ble (List.map prV l).length=true)<|ap ((zAY zBi):PV.own 2 (List.take (List.map prV l).length (List.drop 0 (List.map prV l)))=PV.own 2 (List.map prV l))<|ap h1<|ap ((by exact zFi _):(PV.own 2 (List.map prV (List.filter (fun x => !decide ((zAh n).getD x.snd.toNat 0≠f)) l))).free=true) an)<|zAc 1<|zAa<|zAn<|E_a [(1,.yes),(1,.v (PV.own 2 (List.map prV (List.filter (fun x => !decide ((zAh n).getD x.snd.toNat 0≠f)) l))))] (ap (blz (List.map prV (List.filter (fun x => !decide ((zAh n).getD x.snd.toNat 0≠f)) l)))<|ap ((zAY zBi):PV.own 2 (List.take (List.map prV (List.filter (fun x => !decide ((zAh n).getD x.snd.toNat 0≠f)) l)).length (List.drop 0 (List.map prV (List.filter (fun x => !decide ((zAh n).getD x.snd.toNat 0≠f)) l))))=PV.own 2 (List.map prV (List.filter (fun x => !decide ((zAh n).getD x.snd.toNat 0≠f)) l))) an) (PV.own 2 (List.map prV (List.filter (fun x => !decide ((zAh n).getD x.snd.toNat 0≠f)) l))) [] rfl rfl
end Go.Eng
