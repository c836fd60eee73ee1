/- Part 10 of the library of this proof. -/
import Derived.Test.YthlfggpepphopaaGreatW9
import Derived.Test.YthlfggpepphopaaGreatProg
import Derived.KernelRfl
set_option linter.all false
set_option maxHeartbeats 8000000
set_option maxRecDepth 100000
namespace Go.Vc
open Go.Proofs Go.Proofs.Tryz
section
variable {P:Program} {n:Nat} {st:St} {Q:St→Prop} {k:List It}
theorem Fu {o:Op} {x y:VX} (h:cop P n o=.bin .sub x y):∃t x0 y0 yt,o=.binOp .sub t x0 y0 yt∧cx n x0=x∧cx n y0=y:=by
 cases o
 case binOp op' t x0 y0 yt =>
  simp only [cop,ct] at h
  repeat' split at h
  all_goals first
   | (simp only [VOp.bin.injEq] at h; obtain ⟨rfl,h2,h3⟩:=h; exact ⟨t,x0,y0,yt,rfl,h2,h3⟩)
   | cases h
   | (cases op' <;> cases h)
 case call c =>
  obtain ⟨callee,args,argTypes⟩:=c;cases callee
  case builtin b=>cases b <;> simp only [cop] at h <;> (repeat' split at h) <;> cases h
  all_goals (simp only [cop] at h; cases h)
 case unOp op t x=>cases op <;> simp only [cop] at h <;> cases h
 case makeFunc f a b=>cases f <;> simp only [cop] at h <;> (repeat' split at h) <;> cases h
 all_goals (simp only [cop] at h; (repeat' split at h) <;> cases h)
theorem ad.Md {i:aG} {l:List aG} {x y:VX} {kk:IntKind} {a b:Int} (hw:bh st.s i.g=some true) (ho:i.op=.bin .sub x y) (hx:x.ev st.s=.int kk a) (hy:y.ev st.s=.int kk b)
 (h:ad P n (.ops l::k) ⟨aV st.s i.dst (.int kk (kk.wrap (a - b))),st.σ⟩ Q):ad P n (.ops (i::l)::k) st Q:=by
 refine ad.ins (by rw [ho]; simp) hw fun F hn μ act w o all hi hs next Q' hnext=>?_
 subst hn;obtain ⟨hop,hd⟩:=dV hi;rw [ho] at hop;obtain ⟨t,x0,y0,yt,g1,rfl,rfl⟩:=Fu hop;have ex:act.eval x0=.int kk a:=by
  have:=ck hs x0;rw [hx] at this;simpa [Rep] using this
 have ey:act.eval y0=.int kk b:=by
  have:=ck hs y0;rw [hy] at this;simpa [Rep] using this
 have hrun:(execOp act.eval o).run P w=.ok (.value (.int kk (kk.wrap (a - b)))) w:=by
  unfold execOp;rw [g1];simp [ex,ey,eqGuard,binOp,Op.intArith]
 unfold Oper.wp;rw [hrun];refine hnext _ _ _ ⟨μ,?_⟩ h;have:=hs.pure (d:=o.dst) (v:=.int kk (kk.wrap (a - b))) (x:=.int kk (kk.wrap (a - b))) (by simp [Rep]);rw [←hd];exact this
end
def wP (h:Int):Prop:=-9223372036854775808≤h∧h≤9223372036854775807
theorem G8 (x:Int):wP (IntKind.i64.wrap x):=by unfold wP; rw [IntKind.wrap_i64]; omega
theorem D3 (x B:Int) (hB:0≤B):0≤(if B < if 0 > x then 0 else x then B else if 0 > x then 0 else x)∧(if B < if 0 > x then 0 else x then B else if 0 > x then 0 else x)≤B:=by
 by_cases h:0 > x
 ·simp only [if_pos h]; split <;> omega
 ·simp only [if_neg h]; split <;> omega
theorem GU (l:List Nd) (hlen:l.length≤1000000000000) (hw:∀x∈l,x.words.length≤200000000000000) (h:Int) (hh:wP h) (σ:af) :
 az prog 14 [aI l,vI h] σ fun r σ'=>(∃x,r=.bool x∧(x=false→l.length≤30))∧σ'=σ:=by
 refine e14.r (by simp [c14]) ?_;have hln:=eD l;refine ad.mix 9 ?_;by_cases h30:l.length≤30
 ·have q0:((l.length:Int) > 30)=False:=eq_false (by omega);apply sR;simp only [go_sem,seval,c14,hln,q0];refine ad.eS (fun st=>st.σ=σ∧st.s 0=aI l∧st.s 1=vI h∧∃c g:Int,st.s 5=vI c∧st.s 6=vI g∧0≤g∧g≤1152921504606846976)
   (fun m st=>∃(i:Nat) (c g:Int),i≤l.length∧m=l.length - i∧st.σ=σ∧st.s 0=aI l∧st.s 1=vI h∧st.s 5=vI c∧0≤c∧c≤i*200000000000000∧st.s 6=vI g∧0≤g∧g≤i*3300000000000∧st.s 7=vI i) l.length ?_ ?_ ?_
  ·exact ⟨0,0,0,by omega,by omega,rfl,rfl,rfl,rfl,by omega,by omega,rfl,by omega,by omega,rfl⟩
  ·rintro m ⟨S,τ⟩ ⟨i,c,g,hi,rfl,hσ,t0,t1,t5,hc0,hc1,t6,hg0,hg1,t7⟩;simp only at hσ t0 t1 t5 t6 t7;subst hσ;refine ad.mix 9 ?_;by_cases hlt:i < l.length
   ·have q1:((i:Int) < l.length)=True:=eq_true (by omega);have hnd:=fun σ=>cS (σ:=σ) (l:=l) (a:=i) hlt;have hwi:=hw _ (List.getElem_mem hlt);have hlw:=dS l[i].words;have r1:inR .i64 ((i:Int)+1):=ak (by omega) (by omega);have r2:inR .i64 (c+l[i].words.length):=ak (by omega) (by omega);apply sR;simp only [go_sem,seval,t0,t1,t5,t6,t7,hln,q1,hnd,Nd.cells,Sty.cells,hlw,r1,r2,ui];obtain ⟨b0,b1⟩:=D3 l[i].line 8589934592 (by omega);obtain ⟨d0,d1⟩:=D3 l[i].h 2199023255552 (by omega);have e0:0≤(if 120 < (l[i].words.length:Int) then 120 else (l[i].words.length:Int))∧(if 120 < (l[i].words.length:Int) then 120 else (l[i].words.length:Int))≤120:=by split <;> omega
    obtain ⟨e0,e1⟩:=e0;generalize (if 8589934592 < if 0 > l[i].line then 0 else l[i].line then 8589934592 else if 0 > l[i].line then 0 else l[i].line)=A at *;generalize (if 2199023255552 < if 0 > l[i].h then 0 else l[i].h then 2199023255552 else if 0 > l[i].h then 0 else l[i].h)=B at *;generalize (if 120 < (l[i].words.length:Int) then 120 else (l[i].words.length:Int))=C at *;have m0:=Int.mul_nonneg b0 e0;have m1:=Int.mul_le_mul b1 e1 e0 (by omega:(0:Int)≤8589934592);generalize A*C=M at *;exact ⟨ak (by omega) (by omega),ak (by omega) (by omega),ak (by omega) (by omega),_,by omega,i+1,_,_,by omega,rfl,rfl,by omega,by omega,rfl,by omega,by omega,rfl⟩
   ·have q1:((i:Int) < l.length)=False:=eq_false (by omega);apply sR;simp only [go_sem,seval,t0,t7,hln,q1];exact ⟨t1,c,g,t5,t6,hg0,by omega⟩
  ·rintro ⟨S,τ⟩ ⟨hσ,t0,t1,c,g,t5,t6,hg0,hg1⟩;simp only at hσ t0 t1 t5 t6;subst hσ;refine ad.mix 9 ?_;apply sR;simp only [go_sem,seval,t0,t1,t5,t6];refine ad.eS (fun st=>st.σ=τ∧∃h':Int,st.s 1=vI h'∧wP h'∧st.s 5=vI c∧st.s 6=vI g)
    (fun m st=>∃(i:Nat) (h':Int),i≤l.length∧m=l.length - i∧st.σ=τ∧st.s 0=aI l∧st.s 1=vI h'∧wP h'∧st.s 5=vI c∧st.s 6=vI g∧st.s 8=vI i) l.length ?_ ?_ ?_
   ·exact ⟨0,h,by omega,by omega,rfl,t0,t1,hh,t5,t6,rfl⟩
   ·rintro m ⟨S,τ'⟩ ⟨i,h',hi,rfl,hσ,t0,t1,hh',t5,t6,t8⟩;simp only at hσ t0 t1 t5 t6 t8;subst hσ;refine ad.mix 9 ?_;by_cases hlt:i < l.length
    ·have q1:((i:Int) < l.length)=True:=eq_true (by omega);have hnd:=fun σ=>cS (σ:=σ) (l:=l) (a:=i) hlt;have r1:inR .i64 ((i:Int)+1):=ak (by omega) (by omega);by_cases hb:h' = -9223372036854775808
     ·(refine ad.bG Orc.nothing 22 ?_; simp only [go_sem,seval,nz,t0,t1,t5,t6,t8,hln,q1,hnd,Nd.cells,Sty.cells])
      refine ad.Md rfl rfl rfl rfl ?_;generalize IntKind.i64.wrap (h' - 1)=X
      (refine ad.bG Orc.nothing 2 ?_; simp only [go_sem,seval,nz,t0,t1])
      refine ad.Md rfl rfl rfl rfl ?_;generalize hX:IntKind.i64.wrap _=Y;have hY:wP Y:=by rw [←hX]; exact G8 _
      apply sR;simp only [go_sem,seval,t8,r1,t5,t6,t0];exact ⟨_,by omega,i+1,_,by omega,rfl,rfl,hY,rfl⟩
     ·apply sR;simp only [go_sem,seval,t0,t1,t5,t6,t8,hln,q1,hnd,Nd.cells,Sty.cells,r1];have hz:0≤(if (if 0 > h' - 1 then 0 else h' - 1) < (if 0 > l[i].st.head then 0 else l[i].st.head) then (if 0 > h' - 1 then 0 else h' - 1) else if 0 > l[i].st.head then 0 else l[i].st.head) ∧
       (if (if 0 > h' - 1 then 0 else h' - 1) < (if 0 > l[i].st.head then 0 else l[i].st.head) then (if 0 > h' - 1 then 0 else h' - 1) else if 0 > l[i].st.head then 0 else l[i].st.head)≤(if 0 > h' - 1 then 0 else h' - 1):=by
       have h1:0≤(if 0 > h' - 1 then 0 else h' - 1):=by split <;> omega
       have h2:0≤(if 0 > l[i].st.head then 0 else l[i].st.head):=by split <;> omega
       generalize (if 0 > h' - 1 then 0 else h' - 1)=A at *;generalize (if 0 > l[i].st.head then 0 else l[i].st.head)=B at *;split <;> omega
      have hx:(if 0 > h' - 1 then 0 else h' - 1)=0∨(if 0 > h' - 1 then 0 else h' - 1)=h' - 1∧h'≥1:=by split <;> omega
      generalize (if (if 0 > h' - 1 then 0 else h' - 1) < (if 0 > l[i].st.head then 0 else l[i].st.head) then (if 0 > h' - 1 then 0 else h' - 1) else if 0 > l[i].st.head then 0 else l[i].st.head)=Z at *;unfold wP at hh';exact ⟨ak (by omega) (by omega),ak (by omega) (by omega),_,by omega,i+1,_,by omega,rfl,rfl,⟨by omega,by omega⟩,rfl⟩
    ·have q1:((i:Int) < l.length)=False:=eq_false (by omega);apply sR;simp only [go_sem,seval,t0,t8,hln,q1];exact ⟨h',t1,hh',t5,t6⟩
   ·rintro ⟨S,τ'⟩ ⟨hσ,h',t1,hh',t5,t6⟩;simp only at hσ t1 t5 t6;subst hσ;refine ad.mix 9 ?_;have fin:∀x:Bool,ar (.bool x) τ' fun r σ'=>(∃x,r=.bool x∧(x=false→l.length≤30))∧σ'=τ':=fun x=>⟨_,_,aa.refl _,Wk.refl (aa.refl _) _,⟨_,rfl,fun _=>h30⟩,rfl⟩
    by_cases p1:c > 120
    ·have q1:(c > 120)=True:=eq_true p1;apply sR;simp only [go_sem,seval,t1,t5,t6,q1];exact fin _
    ·have q1:(c > 120)=False:=eq_false p1;by_cases p2:h'≥1
     ·have q2:(h'≥1)=True:=eq_true p2;have q3:(h'=0)=False:=eq_false (by omega);have hq0:=Int.tdiv_nonneg hg0 (by omega:0≤h');have hq1:=Int.tdiv_le_self h' hg0;have r1:inR .i64 (g.tdiv h'):=ak (by omega) (by omega);by_cases p4:g.tdiv h' > 3000
      ·have q4:(g.tdiv h' > 3000)=True:=eq_true p4;apply sR;simp only [go_sem,seval,t1,t5,t6,q1,q2,q3,q4,r1];exact fin _
      ·have q4:(g.tdiv h' > 3000)=False:=eq_false p4;apply sR;simp only [go_sem,seval,t1,t5,t6,q1,q2,q3,q4,r1];exact fin _
     ·have q2:(h'≥1)=False:=eq_false p2;apply sR;simp only [go_sem,seval,t1,t5,t6,q1,q2];exact fin _
 ·have q0:((l.length:Int) > 30)=True:=eq_true (by omega);apply sR;simp only [go_sem,seval,c14,hln,q0];exact ⟨_,_,aa.refl _,Wk.refl (aa.refl _) _,⟨_,rfl,fun h=>by cases h⟩,rfl⟩
open Go.Proofs Go.Proofs.Tryz
theorem mr (l:List Frg):dD false (aT l)=some (.int .i64 l.length):=by simp [aT,dD]
open Go.Proofs Go.Proofs.Tryz
theorem rO (l:List Pag):dD false (cW l)=some (.int .i64 l.length):=by simp [cW,dD]
theorem sU {σ:af} {l:List Pag} {i:Nat} (h:i < l.length):bD σ 5 (cW l) (.int .i64 i)=some (.rp (bI l[i])):=by simp [cW,bD,h,bI]
theorem Mj (σ:af) (l:List Frg):bN σ false 1 (.rp (aT l))=some (aT l):=rfl
theorem Bf {l:List Atm}:∀ {fs:List Frg} {a d a' d':Int},0≤a→goP l a d fs=some (a',d')→0≤d→(fs.length:Int)≤a' - a+1∧a'≤max a l.length∧a≤a'
 | [],a,d,a',d',h0,h,_=>by
   simp only [goP,Oi,Prod.mk.injEq] at h;obtain ⟨rfl,rfl⟩:=h;simp; omega
 | x::r,a,d,a',d',h0,h,hd=>by
   obtain ⟨⟨h1, -, -, -,h5, -, -, -⟩,h9⟩:=xG h;rw [List.length_cons];rcases h9 with ⟨h6,h7⟩ | ⟨h6,h7,h8,h10⟩
   ·have:=Bf (by omega) h7 (Int.le_refl _);omega
   ·subst h7 h8; simp; omega
open Go.Proofs Go.Proofs.Tryz
theorem Hh {l:List Nd} (hl:dE l) {w h:Int} (he:gl l w h=0):aU prog 17 [aI l,vI w] (.tup [sC (bQ l w h),vI 0]):=by
 obtain ⟨hw,hh,hc⟩:=ke he;obtain ⟨hisb,hn2,hwo,hcs⟩:=mY hc;have hck:=k0 l hl;rw [hc] at hck;exact zL l hl hisb hn2 (fun x hx=>by have:=hwo x hx; omega) (by omega) hck w hw.1 hw.2
theorem pt (b:Bk):(di b).length≤10000000000:=by
 unfold di;split
 ·simp
 ·have h1:(pe (shK b 1000000001 ⟨⟨0,0,true⟩,[]⟩ 0)).length=(shK b 1000000001 ⟨⟨0,0,true⟩,[]⟩ 0).length:=by unfold pe; simp
  have:=rA b 1000000001 ⟨⟨0,0,true⟩,[]⟩ 0;omega
open Go.Proofs Go.Proofs.Tryz
theorem Gz {σ:af} {id e n:Nat} {rows:List V} (h:σ id=some ⟨e,7,rows⟩):cy σ 7 (.own id 0 n) none (some (.int .i64 n)) (some (.int .i64 n))=some (.own id 0 n):=by
 simp [cy,bx,ir,h]
theorem Gy {K σ:af} {e:Nat} {v:V} {rows:List V} (h:aM K σ e 7 v rows):az prog 89 [v] σ fun r σ'=>r=v∧σ'=σ:=by
 refine e89.r (by simp [c89]) ?_;refine ad.mix 9 ?_;rcases h with ⟨rfl,_⟩ | ⟨id,rfl,ho,_⟩
 ·apply sR;simp only [go_sem,seval,c89];exact ar.same rfl
 ·have hsl:=Gz (n:=rows.length) ho;apply sR;simp only [BB,seval,←decide_not,bp,eQ,aE,cG,eG,ed,eF,dQ,cd,kv,gr,bE,fL,dM,eB,cK,bx,ir,de,cI,cc,eff,kc,da,bS,jS,dT,cj,dO,cU,kP,binBV,bT,dq,V.cells,V.stays,Orc.nothing,c89,hsl];exact ar.same rfl
theorem GV (l:List Frg) (σ:af):bK σ 7 (aT l)=some (l.map aW):=by simp [aT,bK]
theorem hU (l:List Frg):(aT l).cells=[aT l]:=rfl
theorem gZ (l:List Frg):(aT l).stays=true:=rfl
theorem HH (p:Pag):aU prog 57 [bI p] (aT p.fs):=fun σ=>by
 refine e57.r (by simp [c57]) ?_;have hs:=aa.refl σ;refine ad.mix 5 ?_;apply sR;simp only [go_sem,seval,c57,bI,hU,gZ];refine ae fun i1 σ1 s1 a1 f1=>?_;have z1:=hs.none f1;replace hs:=hs.trans s1;simp only [go_sem,seval,a1,hU,gZ];exact ar.pure hs rfl
theorem HJ (l:List Pag) (hl:l.length≤10000000000) (hf:∀j,j≤l.length→((l.take j).flatMap (·.fs)).length≤100000000000) (σ:af) :
 az prog 56 [cW l, .fn 57 []] σ fun r σ'=>aa σ σ'∧aM σ σ' 57 7 r ((l.flatMap (·.fs)).map aW):=by
 refine e56.r (by simp [c56]) ?_;have hn:=rO l;refine ad.mix 11 ?_;apply sR;simp only [go_sem,seval,c56,hn];refine ad.loop (fun m st=>∃j:Nat,j≤l.length∧m=l.length - j∧st.s 1=.fn 57 []∧st.s 8=cW l∧st.s 9=vI l.length∧st.s 10=vI j∧aM σ st.σ 57 7 (st.s 5) (((l.take j).flatMap (·.fs)).map aW)∧aa σ st.σ) l.length ⟨0,by omega,rfl,rfl,rfl,rfl,rfl,aM.start,aa.refl σ⟩ ?_;rintro m ⟨s',σ'⟩ ⟨j,hj,rfl,h1,h8,h9,h10,h5,hσ⟩;simp only at h1 h8 h9 h10 h5 hσ;generalize hv:s' 5=v at h5;refine ad.mix 22 ?_;by_cases hlt:j < l.length
 ·obtain ⟨p,hp⟩:∃p,l[j]?=some p:=⟨l[j],by simp [hlt]⟩
  have hi:∀σ,bD σ 5 (cW l) (.int .i64 j)=some (.rp (bI p)):=fun σ=>by simp [cW,bD,hp]
  have hc:((j:Int) < l.length)=True:=by simp; omega
  have hld:∀σ,bN σ true 5 (.rp (bI p))=some (bI p):=fun _=>rfl;have hP:bI p=.agg [vI p.no,vI p.kind,aT p.hs,aT p.fs,aT p.ls]:=rfl;have hs:=aa.refl σ';have htk0:(l.take (j+1)).flatMap (·.fs)=(l.take j).flatMap (·.fs)++p.fs:=by rw [List.take_add_one,hp]; simp
  have hfl:=hf (j+1) (by omega);rw [htk0,List.length_append] at hfl;apply sR;simp only [go_sem,seval,h1,h8,h9,h10,hv,hi,hc,hn,hld];refine ae fun i7 σ7 s7 a7 f7=>?_;have z7:=hs.none f7;replace hs:=hs.trans s7;simp only [go_sem,seval,a7,h1,h8,h9,h10,hv,hP,hU,gZ];generalize hq7:upd _ i7 _=τ7;replace a7:=(congrFun hq7 i7).symm.trans ag;replace hs:=Eq.subst (motive:=aa _) hq7 (hs.aB z7);clear hq7;refine ad.ay rfl rfl rfl (HH p _) ?_;obtain ⟨idA,hd,hdel⟩:=(h5.mono hs).dst (aa.refl _);have hsr:=fun σ=>GV p.fs σ;have hb:(((l.take j).flatMap (·.fs)).length+p.fs.length)*57≤140737488355328:=by omega
  have htk:((l.take (j+1)).flatMap (·.fs)).map aW=((l.take j).flatMap (·.fs)).map aW++p.fs.map aW:=by
   rw [htk0,List.map_append]
  apply sR;simp only [go_sem,seval,a7,h1,h8,h9,h10,hv,hd,hsr,hb,List.length_map,hU,gZ];refine ew fun i18 σ18 s18 a18 f18=>?_;simp only [go_sem,seval,h1,h8,h9,h10];exact ⟨ak (by omega) (by omega),l.length - (j+1),by omega,j+1,by omega,rfl,by simp [vI],by rw [htk]; exact aM.new (by simp) a18 (hσ.none (hs.none f18)),(hdel σ (aa.refl _) _ (hσ.trans hs)).trans s18⟩
 ·have hc:((j:Int) < l.length)=False:=by simp; omega
  apply sR;simp only [go_sem,seval,h1,h8,h9,h10,hv,hc];have:l.take j=l:=List.take_of_length_le (by omega);rw [this] at h5;refine ad.call rfl rfl rfl (Gy h5) ?_;rintro r σ2 ⟨rfl,rfl⟩;apply sR;simp only [go_sem,seval];exact ⟨_,_,aa.refl _,Wk.refl (aa.refl _) _,hσ,h5⟩
theorem uM (l:List Pag) (hl:l.length≤10000000000) (hf:∀j,j≤l.length→((l.take j).flatMap (·.fs)).length≤100000000000):aU prog 21 [cW l] (aT (l.flatMap (·.fs))):=fun σ=>by
 refine e21.r (by simp [c21]) ?_;refine ad.mix 5 ?_;apply sR;simp only [go_sem,seval,c21];refine ad.call rfl rfl rfl (HJ l hl hf σ) ?_;rintro r σ2 ⟨h1,h2⟩;apply sR;simp only [go_sem,seval];exact h2.Cj h1 rfl
def isOk:List Pag→List UInt8→List UInt8→Nat→Bool
 | [],[],_,_=>true
 | p::P,k::ks,n::ns,i=>decide (p.no=(i:Int)+1) && decide (48≤k.toNat) && decide (p.kind=(k.toNat:Int) - 48) && decide (48≤n.toNat) && decide ((p.fs.length:Int)=(n.toNat:Int) - 48) && isOk P ks ns (i+1)
 | _,_,_,_=>false
theorem yA:∀ {P:List Pag} {ks ns:List UInt8} {i0:Nat},isOk P ks ns i0=true→P.length=ks.length∧∀i (h:i < P.length),∃k n,ks[i]?=some k∧ns[i]?=some n∧P[i].no=(i0:Int)+i+1∧48≤k.toNat∧P[i].kind=(k.toNat:Int) - 48∧48≤n.toNat∧(P[i].fs.length:Int)=(n.toNat:Int) - 48
 | [],[],_,_,_=>⟨rfl,fun i h=>by simp at h⟩
 | p::P,[],_,_,h=>by simp [isOk] at h
 | [],k::ks,_,_,h=>by simp [isOk] at h
 | p::P,k::ks,[],_,h=>by simp [isOk] at h
 | p::P,k::ks,n::ns,i0,h=>by
   simp only [isOk,Ba,decide_eq_true_eq] at h;obtain ⟨⟨⟨⟨⟨h1,h2⟩,h3⟩,h4⟩,h5⟩,h6⟩:=h;obtain ⟨g1,g2⟩:=yA h6;refine ⟨by simp [g1],fun i hi=>?_⟩;cases i with
   | zero=>exact ⟨k,n,rfl,rfl,by simpa using h1,h2,h3,h4,h5⟩
   | succ i =>
     obtain ⟨k',n',e1,e2,e3,e4⟩:=g2 i (by simpa using hi);exact ⟨k',n',e1,e2,by rw [List.getElem_cons_succ,e3]; omega,by simpa using e4⟩
theorem Eg (s ks ns:List UInt8) (l:List Nd) (hl:dE l) (x y:V) (hof:aU prog 46 [.str s] (.tup [aI l,x,y])) (he:gl l 8 20=0) (hok:isOk (di (bQ l 8 20)) ks ns 0=true) :
 aU prog 47 [.str s, .str ks, .str ns] (.bool true):=fun σ=>by
 refine e47.r (by simp [c47]) ?_;have hs:=aa.refl σ;have hpg:=oQ l hl 8 20;rw [if_pos he] at hpg;have hPl:=pt (bQ l 8 20);generalize di (bQ l 8 20)=P at *;obtain ⟨g1,g2⟩:=yA hok;have hlP:=rO P;have q0:((0:Int)≠0)=False:=eq_false (fun h=>h rfl);have q1:((P.length:Int)≠ks.length)=False:=eq_false (fun h=>h (by omega));have hpc:∀p:Pag,(bI p).cells=[vI p.no,vI p.kind,aT p.hs,aT p.fs,aT p.ls]:=fun _=>rfl;refine ad.mix 13 ?_;apply sR;simp only [go_sem,seval,c47];refine ad.ay rfl rfl rfl (hof _) ?_;apply sR;simp only [go_sem,seval];refine ad.ay rfl rfl rfl (hpg _) ?_;apply sR;simp only [go_sem,seval,q0,q1,hlP];refine ad.loop (fun m st=>∃i:Nat,i≤P.length∧m=P.length - i∧st.σ=σ∧st.s 1=.str ks∧st.s 2=.str ns∧st.s 10=cW P∧st.s 12=vI i) P.length ?_ ?_
 ·exact ⟨0,by omega,rfl,rfl,rfl,rfl,rfl,rfl⟩
 ·rintro m ⟨S,τ⟩ ⟨i,hi,rfl,hσ,t1,t2,t10,t12⟩;simp only at hσ t1 t2 t10 t12;subst hσ;refine ad.mix 13 ?_;by_cases hlt:i < P.length
  ·have p1:((i:Int) < P.length)=True:=eq_true (by omega);have r1:inR .i64 ((i:Int)+1):=ak (by omega) (by omega);have hpi:=fun σ=>sU (σ:=σ) hlt;obtain ⟨k,n,e1,e2,e3,e4,e5,e6,e7⟩:=g2 i hlt;generalize P[i]=p at *;have hlf:=mr p.fs;have hk:eB (.str ks) (.int .i64 i)=some (.int .u8 k.toNat):=by simp [eB,e1]
   have hn:eB (.str ns) (.int .i64 i)=some (.int .u8 n.toNat):=by simp [eB,e2]
   have r2:inR .u8 ((k.toNat:Int) - 48):=by
    have:=k.toNat_lt;unfold inR; simp [IntKind.wrap,IntKind.bits,IntKind.signed]; omega
   have r3:inR .u8 ((n.toNat:Int) - 48):=by
    have:=n.toNat_lt;unfold inR; simp [IntKind.wrap,IntKind.bits,IntKind.signed]; omega
   have p2:(p.no≠(i:Int)+1)=False:=eq_false (fun h=>h (by omega));have p3:(p.kind≠(k.toNat:Int) - 48)=False:=eq_false (fun h=>h e5);have p4:((p.fs.length:Int)≠(n.toNat:Int) - 48)=False:=eq_false (fun h=>h e7);apply sR;simp only [BB,seval,←decide_not,bp,eQ,aE,cG,eG,ed,eF,dQ,cd,kv,gr,bE,fL,dM,cy,cK,bx,ir,de,cI,cc,eff,kc,da,bS,jS,dT,cj,dO,cU,kP,binBV,bT,dq,Orc.nothing,t1,t2,t10,t12,hlP,p1,hpi,hpc,Mj,hlf,hk,hn,r1,r2,r3,p2,p3,p4,V.CU,V.CI,V.Az,V.Df,V.Gp,V.CE,V.AU,V.EO,V.Dl,V.F9,V.Dr,V.CV,V.Ad,V.Db,V.Fs,V.De,V.At,V.Gf,V.Dk,V.FP];have:=k.toNat_lt;have:=n.toNat_lt;exact ⟨ak (by omega) (by omega),ak (by omega) (by omega),_,by omega,i+1,by omega,rfl,rfl⟩
  ·have p1:((i:Int) < P.length)=False:=eq_false (by omega);apply sR;simp only [go_sem,seval,t10,t12,hlP,p1];exact ar.pure hs rfl
theorem IL (l:List Nd) (hl:dE l) (s1 s2 s3 s4:List UInt8) (x y:V) (hof:aU prog 46 [.str [123,51,32,52,53,125]] (.tup [aI l,x,y])) (he:gl l 8 20=0)
 (f0 f1 f2:Frg) (hfs:(di (bQ l 8 20)).flatMap (·.fs)=[f0,f1,f2]) (hj:∀j,j≤(di (bQ l 8 20)).length→(((di (bQ l 8 20)).take j).flatMap (·.fs)).length≤100000000000) (e1:f0.h=20) (e2:f1.fr=20) (e3:f2.h=5)
 (i1:aU prog 47 [.str [123,51,32,52,53,125], .str [49,49,49], .str [49,49,49]] (.bool true)) (i2:aU prog 47 [.str [123,51,32,53,125,91,66,51,32,123,51,32,54,125,93], .str [49,49], .str [49,49]] (.bool true))
 (i3:aU prog 47 [.str [123,51,32,53,125,91,66,52,32,123,51,32,54,125,93], .str [49,51,49], .str [49,48,49]] (.bool true)) (i4:aU prog 47 [.str [91,66,51,32,123,51,32,54,125,93], .str [51,49], .str [48,49]] (.bool true))
 (i5:aU prog 47 [.str [], .str [51], .str [48]] (.bool true)):aU prog 15 [] (.bool true):=fun σ=>by
 refine e15.r (by simp [c15]) ?_;have hs:=aa.refl σ;have hpg:=oQ l hl 8 20;rw [if_pos he] at hpg;have hat:=uM _ (pt (bQ l 8 20)) hj;rw [hfs] at hat;generalize di (bQ l 8 20)=P at *;have hln:dD false (aT [f0,f1,f2])=some (.int .i64 3):=by simp [aT,dD]
 have x0:∀σ,bD σ 7 (aT [f0,f1,f2]) (.int .i64 0)=some (.rp (aW f0)):=fun σ=>by simp [aT,bD,aW]
 have x1:∀σ,bD σ 7 (aT [f0,f1,f2]) (.int .i64 1)=some (.rp (aW f1)):=fun σ=>by simp [aT,bD,aW]
 have x2:∀σ,bD σ 7 (aT [f0,f1,f2]) (.int .i64 2)=some (.rp (aW f2)):=fun σ=>by simp [aT,bD,aW]
 have hfc:∀f:Frg,(aW f).cells=[vI f.node,vI f.atom,vI f.fr,vI f.x,vI f.y,vI f.w,vI f.h]:=fun _=>rfl;have y0:(f0.h=20)=True:=eq_true e1;have y1:(f1.fr=20)=True:=eq_true e2;have y2:(f2.h=5)=True:=eq_true e3;generalize aT [f0,f1,f2]=FR at *;refine ad.mix 7 ?_;apply sR;simp only [go_sem,seval,c15];refine ad.ay rfl rfl rfl (hof _) ?_;apply sR;simp only [go_sem,seval];refine ad.ay rfl rfl rfl (hpg _) ?_;apply sR;simp only [go_sem,seval];refine ad.ay rfl rfl rfl (hat _) ?_;apply sR;simp only [go_sem,seval];refine ad.ay rfl rfl rfl (i1 _) ?_;apply sR;simp only [go_sem,seval,hln,x0,x1,x2,hfc,y0,y1,y2];refine ad.ay rfl rfl rfl (i2 _) ?_;apply sR;simp only [go_sem,seval];refine ad.ay rfl rfl rfl (i3 _) ?_;apply sR;simp only [go_sem,seval];refine ad.ay rfl rfl rfl (i4 _) ?_;apply sR;simp only [go_sem,seval];refine ad.ay rfl rfl rfl (i5 _) ?_;apply sR;simp only [go_sem,seval];exact ar.pure hs rfl
def cz (l:List Brk) (p:Pag):Int :=
 match p.fs with
 | []=>0
 | f::_=>if p.kind≠1∨f.fr > 0∨f.atom < 0∨f.atom≥l.length then 0 else if (bkG l f.atom.toNat).forced≠2 then (bkG l f.atom.toNat).forced else 0
theorem sS {b:Bk} (hb:dJ b) {s:Sta} (he:¬ej b s) :
 (cz b.brks (bc b s).1=3→gY b s=0)∧(cz b.brks (bc b s).1=4→gY b s=1)∧(0≤gY b s→cz b.brks (bc b s).1≠0∧(bc b s).1.fs≠[]):=by
 have hg:=fE hb he;have hbl:=hb.brk;unfold gY;generalize bc b s=x at *;obtain ⟨p,t⟩:=x;simp only at hg ⊢;rcases hg.kd with k | k
 ·obtain ⟨hm,h1,h2, -⟩:=hg.cut k;cases hf:p.fs with
  | nil=>rw [hf] at h1; simp at h1
  | cons f r =>
    obtain ⟨e1,e2⟩:=h2 f (by rw [hf]; rfl);have ha:=hm.1;unfold cz qj;rw [hf];simp only [e1,e2];by_cases hd:s.s.done > 0
    ·rw [if_pos (show p.kind≠1∨s.s.done > 0∨s.s.atom < 0∨s.s.atom≥b.brks.length from .inr (.inl hd)),if_pos (show p.kind≠1∨s.s.done > 0 from .inr hd)];simp
    ·rw [if_neg (show ¬(p.kind≠1∨s.s.done > 0∨s.s.atom < 0∨s.s.atom≥b.brks.length) by omega),if_neg (show ¬(p.kind≠1∨s.s.done > 0) by omega)];generalize (bkG b.brks s.s.atom.toNat).forced=F;by_cases h3:F=3
     ·subst h3; simp
     ·by_cases h4:F=4
      ·subst h4; simp
      ·rw [if_neg h3,if_neg h4];refine ⟨fun h=>?_,fun h=>?_,fun h=>by omega⟩ <;> (split at h <;> omega)
 ·have hf:=hg.no' k;have q1:p.kind≠1:=by omega
  unfold cz qj;rw [hf,if_pos (.inl q1)];simp
def FQ (b:List Brk):Int→List (Option Pag)→Prop
 | _,[]=>True
 | no,none::r=>(∃p r',r=some p::r'∧cz b p≠0)∧FQ b (no+1) r
 | no,some p::r=>((p.kind=1∨p.kind=2)∧(p.fs≠[]→p.kind=1)∧(cz b p=3→(no+1) % 2=0)∧(cz b p=4→(no+1) % 2=1))∧FQ b (no+1) r
theorem zV {b:Bk} (hb:dJ b):∀(f:Nat) (s:Sta) (no:Int),FQ b.brks no (shK b f s no)
 | 0,_,_=>trivial
 | f+1,s,no=>by
   rw [shK];by_cases he:ej b s
   ·rw [if_pos he]; trivial
   ·rw [if_neg he];obtain ⟨w1,w2,w3⟩:=sS hb he;have hg:=fE hb he;have hk:(bc b s).1.fs≠[]→(bc b s).1.kind=1:=fun h=>hg.kd.resolve_right fun k=>h (hg.no' k);split
    ·rename_i hw;refine ⟨⟨_,_,rfl,(w3 hw.1).1⟩,⟨hg.kd,hk,fun h=>?_,fun h=>?_⟩,?_⟩
     ·have:=w1 h; omega
     ·have:=w2 h; omega
     ·rw [show no+1+1=no+2 by omega];exact zV hb f _ _
    ·rename_i hw;refine ⟨⟨hg.kd,hk,fun h=>?_,fun h=>?_⟩,zV hb f _ _⟩
     ·have:=w1 h; omega
     ·have:=w2 h; omega
theorem yu {b:List Brk}:∀ {L:List (Option Pag)} {no:Int},FQ b no L→∀(i:Nat) (x:Option Pag),L[i]?=some x →
 (x=none→∃p,L[i+1]?=some (some p)∧cz b p≠0) ∧
 (∀p,x=some p→(p.kind=1∨p.kind=2)∧(p.fs≠[]→p.kind=1)∧(cz b p=3→(no+i+1) % 2=0)∧(cz b p=4→(no+i+1) % 2=1))
 | [],no,_,i,x,hx=>by simp at hx
 | y::r,no,h,0,x,hx=>by
   simp only [List.getElem?_cons_zero,Oi] at hx;subst hx;cases y with
   | none =>
     obtain ⟨⟨p,r',rfl,h2⟩, -⟩:=h;exact ⟨fun _=>⟨p,rfl,h2⟩,fun p h=>by cases h⟩
   | some q =>
     refine ⟨fun h=>(by cases h),fun p hp=>?_⟩;cases hp;have:=h.1;simpa using this
 | y::r,no,h,i+1,x,hx=>by
   rw [List.getElem?_cons_succ] at hx;have hr:FQ b (no+1) r:=by cases y <;> exact h.2
   have:=yu hr i x hx;rw [List.getElem?_cons_succ];have e:no+1+(i:Int)+1=no+((i+1:Nat):Int)+1:=by omega
   rwa [e] at this
theorem Co {b:Bk} (hb:dJ b) (hz:(bkG b.brks b.atoms.length).forced=0) {s:Sta} (he:¬ej b s):(bc b s).2.s.atom=b.atoms.length→(bc b s).2.s.free=true→False:=by
 have hg:=fE hb he;rcases hg.kd with k | k
 ·obtain ⟨hm, -, -,hc⟩:=hg.cut k;have ha:=hm.1;intro h1 h2;cases hc with
  | more q1 q2 q3 q4 q5=>omega
  | whole c r y q1 q2 q3 q4 q5 q6 q7 q8 q9 =>
    rw [q1] at h1 h2;simp only at h1 h2;have hcl:c=b.atoms.length:=by omega
    rw [hcl,hz] at h2;simp at h2
 ·unfold bc at k ⊢;split
  ·intro _ h; simp [jA] at h
  ·rename_i h0;rw [if_neg h0] at k;split
   ·intro h1 h2;simp only [Ba,decide_eq_true_eq] at h1 h2;omega
   ·rename_i hf;rw [if_neg hf] at k;have hk:=(gd b (bX b s)).2;have:(dB b (bX b s)).kind=2:=k;rw [hk] at this; cases this
theorem Dw {body:Int} (hb:0≤body) (f:Flo) (r:List Flo):(cB body (f::r) 0).1≠[]:=by
 rw [cB,if_neg (by omega)];simp
theorem DD {b:Bk} (hb:dJ b) {s:Sta} (he:¬ej b s) (hi:s.s.atom=b.atoms.length→s.s.free=true→b.atoms=[]) :
 1≤(bc b s).1.fs.length+(bc b s).1.ls.length∨b.atoms=[]∧s.s.free=true:=by
 have hg:=fE hb he;rcases hg.kd with k | k
 ·obtain ⟨-,h1, -, -⟩:=hg.cut k;exact .inl (by omega)
 ·have hmay:gM b s:=Decidable.byContradiction fun h=>he (.inl h);have hnot:¬(s.s.atom=b.atoms.length∧s.s.free=false∧s.bJ=[]):=fun h=>he (.inr h);have hat:0≤s.s.atom:=by rcases hmay.2 with h | h; exact h.1.1; omega
  have hbody:=(sF hb.toBkFull s.s hat).2.1;unfold bc at k ⊢;split
  ·rename_i h; exact .inr h
  ·rename_i h0;rw [if_neg h0] at k;split
   ·rename_i hf;cases hp:s.bJ with
    | nil =>
      right;unfold mJ at hf;rw [hp] at hf;simp only [cB] at hf;have ha:s.s.atom=b.atoms.length:=by
       rcases hf with h | h | h
       ·exact h
       ·exact absurd rfl h
       ·omega
      have hfr:s.s.free=true:=by
       cases h:s.s.free with
       | true=>rfl
       | false=>exact absurd ⟨ha,h,hp⟩ hnot
      exact ⟨hi ha hfr,hfr⟩
    | cons f r =>
      left;have h1:(kO { bX b s with kind:=2 }).ls=[]++(cB (bw b s.s).body s.bJ 0).1.map (jv (bw b s.s).high):=rfl;rw [h1,hp];have:=List.length_pos_iff.2 (Dw (body:=(bw b s.s).body) (by omega) f r);simp only [List.nil_append,List.length_map];omega
   ·rename_i hf;rw [if_neg hf] at k;have hk:=(gd b (bX b s)).2;have:(dB b (bX b s)).kind=2:=k;rw [hk] at this; cases this
def thg:List (Option Pag)→Nat
 | []=>0
 | x::r=>(fsO x).length+(lsO x).length+thg r
theorem zo {b:Bk} (hb:dJ b) (hz:(bkG b.brks b.atoms.length).forced=0):∀(f:Nat) (s:Sta) (no:Int),(s.s.atom=b.atoms.length→s.s.free=true→b.atoms=[]) →
 (shK b f s no).length≤2*thg (shK b f s no)+(if b.atoms=[]∧s.s.free=true then 1 else 0)
 | 0,_,_,_=>by simp [shK]
 | f+1,s,no,hi=>by
   rw [shK];by_cases he:ej b s
   ·rw [if_pos he]; simp
   ·rw [if_neg he];obtain ⟨-, -,w3⟩:=sS hb he;have hfn:=Co hb hz he;have hmn:=ym hb he;have hno:¬(b.atoms=[]∧(bc b s).2.s.free=true):=fun h=>by
     refine hfn ?_ h.2;rcases hmn.2 with g | g
     ·have:=g.1; rw [h.1] at this; simp at this; omega
     ·exact g.1
    have rec':=fun no'=>zo hb hz f (bc b s).2 no' (fun h1 h2=>(hfn h1 h2).elim);have hps:=DD hb he hi;split
    ·rename_i hw;have h1:=(w3 hw.1).2;have h2:=List.length_pos_iff.2 h1;have h3:=rec' (no+2);rw [if_neg hno] at h3;simp only [List.length_cons,thg,fsO,lsO,List.length_nil];omega
    ·have h3:=rec' (no+1);rw [if_neg hno] at h3;simp only [List.length_cons,thg,fsO,lsO];rcases hps with h | h
     ·omega
     ·rw [if_pos h]; omega
theorem B0 {b:Bk}:∀ {L:List (Option Pag)} {a d:Int} {m:Nat},AG b a d m L→m+(L.map fun x=>(lsO x).length).sum=b.fls.length
 | [],_,_,_,h=>by simpa using h.2.2
 | x::r,a,d,m,h=>by
   obtain ⟨a',d',j, -,h2, -,h4⟩:=h;have:=B0 h4;have h5:=h2.len;simp only [List.map_cons,List.sum_cons];omega
theorem Hi (L:List (Option Pag)):thg L=(L.map fun x=>(fsO x).length).sum+(L.map fun x=>(lsO x).length).sum:=by
 induction L with
 | nil=>rfl
 | cons x r ih=>simp only [thg,List.map_cons,List.sum_cons,ih]; omega
structure MF (b:List Brk) (P:List Pag) (i:Nat) (p:Pag):Prop where
 no:p.no=i+1
 blank:p.kind=3→p.hs=[]∧p.fs=[]∧p.ls=[]∧(i+1=P.length→P.length=1)∧∀q,P[i+1]?=some q→cz b q≠0
 flow:p.fs≠[]→p.kind=1
 left:cz b p=3→p.no % 2=0
 right:cz b p=4→p.no % 2=1
theorem rG (L:List (Option Pag)) (i:Nat):(pe L)[i]?=(L[i]?).map (pgN i):=by
 unfold pe;rw [List.getElem?_map];by_cases h:i < L.length
 ·rw [List.getElem?_range h,List.getElem?_eq_getElem h];simp [h]
 ·rw [List.getElem?_eq_none (by simpa using h),List.getElem?_eq_none (by omega)]; rfl
theorem Fk {l:List Nd} (hl:dE l) {w h:Int} (he:gl l w h=0) :
 (∀i p,(di (bQ l w h))[i]?=some p→MF (bQ l w h).brks (di (bQ l w h)) i p)∧0 < (di (bQ l w h)).length ∧
 (di (bQ l w h)).length≤2*(((di (bQ l w h)).map fun p=>p.fs.length).sum+(bQ l w h).fls.length)+1:=by
 have hb:=my hl he;have hr:=yM hl he;have hz:(bkG (bQ l w h).brks (bQ l w h).atoms.length).forced=0:=by
  have h1:(bQ l w h).brks=nD l (ofR l w):=rfl;have h2:(bQ l w h).atoms.length=(ofR l w).length:=by unfold ofR bQ; simp
  rw [h1,h2];unfold bkG nD;rw [List.getD_eq_getElem?_getD,List.getElem?_map,List.getElem?_range (by omega)];simp [bkR,iD,iy,cJ]
 generalize bQ l w h=b at *;unfold di;split
 ·rename_i h0;refine ⟨fun i p hp=>?_,by simp,by simp⟩;have hi:i=0:=by
   have:=(List.getElem?_eq_some_iff.1 hp).1;simp at this; omega
  subst hi;simp only [List.getElem?_cons_zero,Oi] at hp;subst hp;refine ⟨rfl,fun _=>⟨rfl,rfl,rfl,fun _=>rfl,fun q hq=>by simp at hq⟩,fun h=>absurd rfl h,fun h=>?_,fun h=>?_⟩
  ·simp [cz] at h
  ·simp [cz] at h
 ·rename_i h0;have hn:=zV hb 1000000001 ⟨⟨0,0,true⟩,[]⟩ 0;have hc:=zo hb hz 1000000001 ⟨⟨0,0,true⟩,[]⟩ 0 (fun h1 _=>by
   simp only at h1;exact List.eq_nil_of_length_eq_zero (by omega))
  have hf:=B0 hr;rw [Hi] at hc;have hpos:0 < (shK b 1000000001 ⟨⟨0,0,true⟩,[]⟩ 0).length:=by
   cases hS:shK b 1000000001 ⟨⟨0,0,true⟩,[]⟩ 0 with
   | cons x r=>simp
   | nil =>
     rw [hS] at hr;obtain ⟨g1, -,g3⟩:=hr;omega
  generalize shK b 1000000001 ⟨⟨0,0,true⟩,[]⟩ 0=L at *;have hs:((pe L).map fun p=>p.fs.length).sum=(L.map fun x=>(fsO x).length).sum:=by
   congr 1;refine List.ext_getElem? fun i=>?_;rw [List.getElem?_map,rG,List.getElem?_map];cases L[i]? with
   | none=>rfl
   | some x=>cases x <;> rfl
  refine ⟨fun i p hp=>?_,by rw [tK]; exact hpos,?_⟩
  ·rw [rG] at hp;cases hx:L[i]? with
   | none=>rw [hx] at hp; cases hp
   | some x =>
     rw [hx] at hp;simp only [Option.map_some,Oi] at hp;obtain ⟨n1,n2⟩:=yu hn i x hx;cases x with
     | none =>
       obtain ⟨q,q1,q2⟩:=n1 rfl;have hlt:=(List.getElem?_eq_some_iff.1 q1).1;rw [←hp];refine ⟨rfl,fun _=>⟨rfl,rfl,rfl,fun h=>?_,fun q' hq'=>?_⟩,fun h=>absurd rfl h,fun h=>?_,fun h=>?_⟩
       ·rw [tK] at h; omega
       ·rw [rG,q1] at hq';simp only [Option.map_some,Oi] at hq';rw [←hq'];exact q2
       ·simp [cz,pgN] at h
       ·simp [cz,pgN] at h
     | some q =>
       obtain ⟨m1,m2,m3,m4⟩:=n2 q rfl;rw [←hp];refine ⟨rfl,fun h=>?_,m2,fun h=>?_,fun h=>?_⟩
       ·have:q.kind=3:=h;omega
       ·have:=m3 h;show ((i:Int)+1) % 2=0;omega
       ·have:=m4 h;show ((i:Int)+1) % 2=1;omega
  ·rw [tK,hs];split at hc <;> omega
open Go.Proofs Go.Proofs.Tryz
theorem B5 (b:List Brk):dD false (bF b)=some (.int .i64 b.length):=by simp [bF,dD]
open Go.Proofs Go.Proofs.Tryz
theorem ng {b:Bk} {s:Stt} {to kept shift body:Int}:(dr b.atoms b.fls s to kept shift body).1.length≤b.fls.length:=by
 unfold dr;split
 ·have h1:=lZ (qN b.atoms s kept) shift body (ep b.fls s to);have h2:(ep b.fls s to).length≤b.fls.length:=mA _ _ _;omega
 ·simp
theorem Fq {b:Bk} (hb:BkOk b) {s:Sta} (h:gM b s):s.bJ.length≤1000000:=by
 have h1:=(rR _ 0 h.1).length_le;rw [List.drop_zero] at h1;have:=hb.flen;omega
theorem D5 {b:Bk} (hb:dJ b) {s:Sta} (he:¬ej b s):(bc b s).1.hs.length≤1000000∧(bc b s).1.fs.length≤1000000∧(bc b s).1.ls.length≤2000000:=by
 have hmay:gM b s:=Decidable.byContradiction fun h=>he (.inl h);have hat:0≤s.s.atom:=by rcases hmay.2 with h | h; exact h.1.1; omega
 have hg:=fE hb he;have hpl:=Fq hb.toBkOk hmay;have hfl:=hb.flen;have hal:=hb.len;have hro:=ry hb.toBkFull s.s;have hr1:=gg hb.toBkFull s.s hat;have hpf:∀f∈s.bJ,0≤f.h:=fun f hf=>hb.fh f (mi _ _ hmay.1 f hf);have htl:=(rf (body:=(bw b s.s).body) s.bJ 0 (Int.le_refl _) (by omega) hpf).1;refine ⟨?_,?_,?_⟩
 ·have h1:((hdK b.nodes b.w (bw b s.s).heads).1).length≤1000000:=by rw [Bv]; exact hro.len
  unfold bc;split
  ·exact h1
  ·split
   ·exact h1
   ·show (dB b (bX b s)).hs.length≤_;rw [(gd b (bX b s)).1];exact h1
 ·rcases hg.kd with k | k
  ·obtain ⟨hm,h1, -,hc⟩:=hg.cut k;have ha:=hm.1;cases hc with
   | more q1 q2 q3 q4 q5=>omega
   | whole c r y q1 q2 q3 q4 q5 q6 q7 q8 q9=>omega
  ·rw [hg.no' k]; simp
 ·have h0:(bX b s).ls.length≤1000000:=by
   show ([]++(cB (bw b s.s).body s.bJ 0).1.map (jv (bw b s.s).high)).length≤_;rw [List.nil_append,List.length_map]; omega
  unfold bc;split
  ·show ([]++(b.fls.takeWhile (jo _)).map (jv _)).length≤_;rw [List.nil_append,List.length_map];have:=(List.takeWhile_sublist (l:=b.fls) (jo (bH b s.s .aD).body)).length_le;omega
  ·split
   ·exact Nat.le_trans h0 (by omega)
   ·show (dB b (bX b s)).ls.length≤_;unfold dB;split
    ·show ((bX b s).ls++((dr b.atoms b.fls _ _ _ _ _).1).map _).length≤_;rw [List.length_append,List.length_map];have:=ng (b:=b) (s:=({ bX b s with kind:=1 }:Wx).s) (to:=((tY b (bX b s)).toNat:Int)) (kept:=dH b (bX b s)) (shift:=({ bX b s with kind:=1 }:Wx).shift) (body:=({ bX b s with kind:=1 }:Wx).body);exact Nat.le_trans (Nat.add_le_add h0 (Nat.le_trans ng hfl)) (by omega)
    ·show ((bX b s).ls++((dr b.atoms b.fls _ _ _ _ _).1).map _).length≤_;rw [List.length_append,List.length_map];exact Nat.le_trans (Nat.add_le_add h0 (Nat.le_trans ng hfl)) (by omega)
open Go.Proofs Go.Proofs.Tryz
theorem Gc (l:List Nd) (hl:dE l) (w:Int):∃g e,aU prog 17 [aI l,vI w] (.tup [pY g,vI e]):=by
 by_cases hw:wa w
 ·by_cases hc:eU l=0
  ·obtain ⟨hisb,hn2,hwo,hcs⟩:=mY hc;have hck:=k0 l hl;rw [hc] at hck;exact ⟨cm l w,0,zL l hl hisb hn2 (fun x hx=>by have:=hwo x hx; omega) (by omega) hck w hw.1 hw.2⟩
  ·refine ⟨⟨[],[],0⟩,eU l,fun σ=>?_⟩;refine e17.r (by simp [c17]) ?_;have hs:=aa.refl σ;refine ad.mix 8 ?_;apply sR;simp only [go_sem,seval,c17];refine ae fun i4 σ4 s4 a4 f4=>?_;have z4:=hs.none f4;replace hs:=hs.trans s4;have hmay:=lW w;rw [show decide (1≤w∧w≤1099511627776)=true from decide_eq_true hw] at hmay;simp only [go_sem,seval];refine ad.ay rfl rfl rfl (hmay _) ?_;apply sR;simp only [go_sem,seval];refine ad.ay rfl rfl rfl (k0 l hl _) ?_;have q:(eU l≠0)=True:=eq_true hc;apply sR;simp only [go_sem,seval,q,a4];exact ⟨_,σ,hs.aB z4,Wk.tup (vs':=[pY ⟨[],[],0⟩,vI (eU l)]) ⟨Wk.agg (vs':=[bu [],aJ [],vI 0]) ⟨Wk.aD 8,Wk.aD 7,Wk.refl (hs.aB z4) _,trivial⟩,Wk.refl (hs.aB z4) _,trivial⟩,rfl,rfl⟩
 ·refine ⟨⟨[],[],0⟩,4,fun σ=>?_⟩;refine e17.r (by simp [c17]) ?_;have hs:=aa.refl σ;refine ad.mix 8 ?_;apply sR;simp only [go_sem,seval,c17];refine ae fun i4 σ4 s4 a4 f4=>?_;have z4:=hs.none f4;replace hs:=hs.trans s4;have hmay:=lW w;rw [show decide (1≤w∧w≤1099511627776)=false from decide_eq_false hw] at hmay;simp only [go_sem,seval];refine ad.ay rfl rfl rfl (hmay _) ?_;apply sR;simp only [go_sem,seval,a4];exact ⟨_,σ,hs.aB z4,Wk.tup (vs':=[pY ⟨[],[],0⟩,vI 4]) ⟨Wk.agg (vs':=[bu [],aJ [],vI 0]) ⟨Wk.aD 8,Wk.aD 7,Wk.refl (hs.aB z4) _,trivial⟩,Wk.refl (hs.aB z4) _,trivial⟩,rfl,rfl⟩
theorem Bg (bl:List Brk) (hbl:bl.length≤1000000) (p:Pag):aU prog 20 [bF bl,bI p] (vI (cz bl p)):=fun σ=>by
 refine e20.r (by simp [c20]) ?_;have hs:=aa.refl σ;have hpc:(bI p).cells=[vI p.no,vI p.kind,aT p.hs,aT p.fs,aT p.ls]:=rfl;have hpp:(bI p).stays=true:=rfl;have hlb:=B5 bl;have hlf:=mr p.fs;refine ad.mix 6 ?_;apply sR;simp only [go_sem,seval,c20,hpc,hpp];refine ae fun i3 σ3 s3 a3 f3=>?_;have z3:=hs.none f3;replace hs:=hs.trans s3;cases hf:p.fs with
 | nil =>
   have hR:cz bl p=0:=by unfold cz; rw [hf]
   rw [hf] at hlf hpc;have q2:(((([]:List Frg).length:Nat):Int)=0)=True:=eq_true rfl;rw [hR];by_cases k:p.kind=1
   ·have q1:(p.kind≠1)=False:=eq_false (fun h=>h k);simp only [go_sem,seval,a3,hpc,q1,hlf,q2,List.length_nil];exact ar.pure hs rfl
   ·have q1:(p.kind≠1)=True:=eq_true k;simp only [go_sem,seval,a3,hpc,q1];exact ar.pure hs rfl
 | cons f r =>
   have hR:cz bl p=if p.kind≠1∨f.fr > 0∨f.atom < 0∨f.atom≥bl.length then 0 else if (bkG bl f.atom.toNat).forced≠2 then (bkG bl f.atom.toNat).forced else 0:=by unfold cz; rw [hf]
   have q2:((p.fs.length:Int)=0)=False:=eq_false (by rw [hf,List.length_cons]; omega);have hi0:∀σ,bD σ 7 (aT p.fs) (.int .i64 0)=some (.rp (aW f)):=fun σ=>by rw [hf]; simp [aT,bD,aW]
   have hfc:∀f:Frg,(aW f).cells=[vI f.node,vI f.atom,vI f.fr,vI f.x,vI f.y,vI f.w,vI f.h]:=fun _=>rfl;clear hf;by_cases k:p.kind=1
   ·have q1:(p.kind≠1)=False:=eq_false (fun h=>h k);by_cases k3:f.fr > 0
    ·have q3:(f.fr > 0)=True:=eq_true k3;rw [if_pos (.inr (.inl k3))] at hR;rw [hR];simp only [go_sem,seval,a3,hpc,q1,hlf,q2,hi0,hfc,q3];exact ar.pure hs rfl
    ·have q3:(f.fr > 0)=False:=eq_false k3;by_cases k4:f.atom < 0
     ·have q4:(f.atom < 0)=True:=eq_true k4;rw [if_pos (.inr (.inr (.inl k4)))] at hR;rw [hR];simp only [go_sem,seval,a3,hpc,q1,hlf,q2,hi0,hfc,q3,q4];exact ar.pure hs rfl
     ·have q4:(f.atom < 0)=False:=eq_false k4;by_cases k5:f.atom≥bl.length
      ·have q5:(f.atom≥bl.length)=True:=eq_true k5;rw [if_pos (.inr (.inr (.inr k5)))] at hR;rw [hR];simp only [go_sem,seval,a3,hpc,q1,hlf,hlb,q2,hi0,hfc,q3,q4,q5];exact ar.pure hs rfl
      ·have q5:(f.atom≥bl.length)=False:=eq_false k5;rw [if_neg (show ¬(p.kind≠1∨f.fr > 0∨f.atom < 0∨f.atom≥bl.length) by omega)] at hR;obtain ⟨n,hn⟩:∃n:Nat,f.atom=n:=⟨f.atom.toNat,by omega⟩
       have hnl:n < bl.length:=by omega
       have hbk:∀σ,bD σ 3 (bF bl) (.int .i64 f.atom)=some (.rp (eL (bkG bl f.atom.toNat))):=fun σ=>by
        rw [hn,pr hnl,Int.toNat_natCast,bkG,List.getD_eq_getElem?_getD,List.getElem?_eq_getElem hnl,Option.getD_some]
       have hbc:∀x:Brk,(eL x).cells=[vI x.cls,vI x.forced,vI x.rank]:=fun _=>rfl;generalize bkG bl f.atom.toNat=B at *;by_cases k6:B.forced≠2
       ·have q6:(B.forced≠2)=True:=eq_true k6;rw [if_pos k6] at hR;rw [hR];simp only [go_sem,seval,a3,hpc,q1,hlf,hlb,q2,hi0,hfc,q3,q4,q5,hbk,hbc,q6];exact ar.pure hs rfl
       ·have q6:(B.forced≠2)=False:=eq_false k6;rw [if_neg k6] at hR;rw [hR];simp only [go_sem,seval,a3,hpc,q1,hlf,hlb,q2,hi0,hfc,q3,q4,q5,hbk,hbc,q6];exact ar.pure hs rfl
   ·have q1:(p.kind≠1)=True:=eq_true k;rw [if_pos (.inl k)] at hR;rw [hR];simp only [go_sem,seval,a3,hpc,q1];exact ar.pure hs rfl
def Ew (p:Pag):Prop:=p.hs.length≤1000000∧p.fs.length≤1000000∧p.ls.length≤2000000
theorem wb {b:Bk} (hb:dJ b):∀(f:Nat) (s:Sta) (no:Int) (p:Pag),some p∈shK b f s no→Ew p
 | 0,_,_,p,h=>by cases h
 | f+1,s,no,p,h=>by
   rw [shK] at h;by_cases he:ej b s
   ·rw [if_pos he] at h; cases h
   ·rw [if_neg he] at h;have hl:=D5 hb he;split at h
    ·rcases List.mem_cons.1 h with h | h
     ·cases h
     ·rcases List.mem_cons.1 h with h | h
      ·cases h; exact hl
      ·exact wb hb f _ _ p h
    ·rcases List.mem_cons.1 h with h | h
     ·cases h; exact hl
     ·exact wb hb f _ _ p h
theorem zN {b:Bk} (hb:dJ b) {p:Pag} (h:p∈di b):Ew p:=by
 unfold di at h;split at h
 ·rw [List.mem_singleton.1 h]; exact ⟨by simp,by simp,by simp⟩
 ·unfold pe at h;obtain ⟨k,hk,rfl⟩:=List.mem_map.1 h;cases hx:(shK b 1000000001 ⟨⟨0,0,true⟩,[]⟩ 0).getD k none with
  | none=>exact ⟨by simp [pgN],by simp [pgN],by simp [pgN]⟩
  | some q =>
    refine wb hb 1000000001 ⟨⟨0,0,true⟩,[]⟩ 0 q ?_;rw [List.getD_eq_getElem?_getD] at hx;cases hy:(shK b 1000000001 ⟨⟨0,0,true⟩,[]⟩ 0)[k]? with
    | none=>rw [hy] at hx; cases hx
    | some y =>
      rw [hy] at hx;have:y=some q:=hx;rw [←this];exact List.mem_of_getElem? hy
theorem zD {b:Bk}:∀ {P:List Pag} {a d:Int} {m:Nat},0≤a→0≤d→a≤b.atoms.length→G9 b a d m P→(((P.map fun p=>p.fs.length).sum:Nat):Int)≤b.atoms.length - a+P.length
 | [],a,d,m,h0,h1,h2,h=>by simp; omega
 | p::r,a,d,m,h0,h1,h2,h=>by
   obtain ⟨a',d',j,g1,g2,g3,g4⟩:=h;have w:=Bf h0 g1 h1;obtain ⟨-, -,w3,w4⟩:=uH (i:=0) h0 h1 g1;have:=zD w3 w4 (by omega) g4;simp only [List.map_cons,List.sum_cons,List.length_cons,Int.natCast_add] at this ⊢;omega
open Go.Proofs Go.Proofs.Tryz
theorem Gg (P:List Pag):(P.flatMap (·.fs)).length=(P.map fun p=>p.fs.length).sum:=by
 induction P with
 | nil=>rfl
 | cons p r ih=>simp only [List.flatMap_cons,List.length_append,List.map_cons,List.sum_cons,ih]
theorem Am (P:List Pag) (j:Nat):((P.take j).flatMap (·.fs)).length≤(P.flatMap (·.fs)).length:=by
 have h:=congrArg (fun l:List Pag=>(l.flatMap (·.fs)).length) (List.take_append_drop j P);simp only [List.flatMap_append,List.length_append] at h;omega
theorem qO (aw:aU prog 15 [] (.bool true)) (l:List Nd) (hlen:l.length≤1000000000000) (hw:∀x∈l,x.words.length≤200000000000000) (w h:Int) (hh:wP h) :
 aU prog 5 [aI l,vI w,vI h] (.bool true):=fun σ=>by
 refine e5.r (by simp [c5]) ?_;have hs:=aa.refl σ;refine ad.mix 21 ?_;apply sR;simp only [go_sem,seval,c5];refine ad.call rfl rfl rfl (GU l hlen hw h hh _) ?_;rintro r σ' ⟨⟨x,rfl,hx⟩,rfl⟩;cases x with
 | true =>
   apply sR;simp only [go_sem,seval];refine ad.ay rfl rfl rfl (aw _) ?_;apply sR;simp only [go_sem,seval];exact ar.pure hs rfl
 | false =>
   have hl:dE l:=⟨by have:=hx rfl; omega,hw⟩
   apply sR;simp only [go_sem,seval];refine ad.ay rfl rfl rfl (oQ l hl w h _) ?_;by_cases he:gl l w h=0
   ·rw [if_pos he];have hb:=my hl he;have hr:=C9 hl he;have hfo:=Hh hl he;obtain ⟨hnum,hpos,hcount⟩:=Fk hl he;obtain ⟨hw',hh',hc⟩:=ke he;obtain ⟨hisb,hn2,hwo,hcs⟩:=mY hc;have hG:=sQ hisb hn2 hw'.1 hw'.2;have hbr:=FK l hl hisb (ofR l w) (by have:=hb.len; rw [ofR,List.length_map]; exact Nat.le_trans this (by omega)) (fun x hx=>by
     obtain ⟨a,ha,rfl⟩:=List.mem_map.1 hx;exact hG.nod a ha) hG.may
    have hofe:ofR l w=(bQ l w h).atoms.map (·.node):=rfl;have hbre:nD l (ofR l w)=(bQ l w h).brks:=rfl;rw [hbre] at hbr;rw [hofe] at hbr;clear hbre hofe hG hisb hwo hcs hc;have hPl:=pt (bQ l w h);have iC:=zD (Int.le_refl 0) (Int.le_refl 0) (by omega) hr;have hlens:=fun p=>zN hb (p:=p);generalize bQ l w h=b at *;generalize di b=P at *;have hfs:=Gg P;have hat:=uM P hPl (fun j hj=>by
     have:=Am P j;have:=hb.len;omega)
    have hbl:=hb.brk;have hal:=hb.len;have hfl:=hb.flen;have hlP:=rO P;have hla:=iB b.atoms;have hlf:=fF b.fls;have hlb:=B5 b.brks;have hlF:=mr (P.flatMap (·.fs));have hpc:∀p:Pag,(bI p).cells=[vI p.no,vI p.kind,aT p.hs,aT p.fs,aT p.ls]:=fun _=>rfl;have hpp:∀p:Pag,(bI p).stays=true:=fun _=>rfl;have hld:∀(σ:af) (p:Pag),bN σ true 5 (.rp (bI p))=some (bI p):=fun _ _=>rfl;have hbc:∀x:Brk,(eL x).cells=[vI x.cls,vI x.forced,vI x.rank]:=fun _=>rfl;have hgc:(sC b).cells=[bu b.atoms,aJ b.fls,vI b.height]:=rfl;have hgs:(sC b).stays=true:=rfl;have q0:((0:Int)≠0)=False:=eq_false (fun h=>h rfl);apply sR;simp only [go_sem,seval];refine ad.ay rfl rfl rfl (hfo _) ?_;apply sR;simp only [go_sem,seval];refine ae fun i9 σ9 s9 a9 f9=>?_;have z9:=hs.none f9;replace hs:=hs.trans s9;simp only [go_sem,seval,a9,hgc,hgs,q0,av,aQ,ax,aS];generalize hq9:upd _ i9 _=τ9;replace a9:=(congrFun hq9 i9).symm.trans ag;replace hs:=Eq.subst (motive:=aa _) hq9 (hs.aB z9);clear hq9;have hsb:=hs;generalize τ9=τ0 at *;refine ad.eS (fun st=>aa τ0 st.σ∧aM τ0 st.σ 3 1 (st.s 11) ((b.atoms.map (·.node)).map vI)∧st.s 0=aI l∧st.s 7=cW P∧st.s 9=.ptr i9 0 0∧st.s 10=vI 0)
     (fun m st=>∃j:Nat,j≤b.atoms.length∧m=b.atoms.length - j∧aa τ0 st.σ∧aM τ0 st.σ 3 1 (st.s 11) (((b.atoms.take j).map (·.node)).map vI)∧st.s 0=aI l∧st.s 7=cW P∧st.s 9=.ptr i9 0 0∧st.s 10=vI 0∧st.s 12=vI j) b.atoms.length ?_ ?_ ?_
    ·exact ⟨0,by omega,rfl,aa.refl _,aM.start,rfl,rfl,rfl,rfl,rfl⟩
    ·rintro m ⟨S,τ⟩ ⟨j,hj,rfl,hsj,ho,t0,t7,t9,t10,t12⟩;simp only at hsj ho t0 t7 t9 t10 t12;generalize hv11:S 11=v11 at ho;have b9:=hsj _ _ a9;refine ad.mix 21 ?_;by_cases hlt:j < b.atoms.length
     ·have q:((j:Int) < b.atoms.length)=True:=eq_true (by omega);have hidx:=fun σ=>gV (σ:=σ) hlt;have hrows:((b.atoms.take (j+1)).map (·.node)).map vI=((b.atoms.take j).map (·.node)).map vI++[vI b.atoms[j].node]:=by
       rw [List.take_succ_eq_append_getElem hlt,List.map_append,List.map_append]; rfl
      have hlm:(((b.atoms.take j).map (·.node)).map vI).length=j:=by rw [List.length_map,List.length_map,List.length_take]; omega
      generalize ((b.atoms.take j).map (·.node)).map vI=rows at *;generalize b.atoms[j]=x at *;have r1:inR .i64 ((j:Int)+1):=ak (by omega) (by omega);apply sR;simp only [go_sem,seval,t0,t7,t9,t10,t12,hv11,b9,hgc,hla,q,hidx,lF];refine ae fun i55 σ55 s55 a55 f55=>?_;obtain ⟨idA,hda,hdel⟩:=ho.dst s55;have hb2:(rows.length+1)*9≤140737488355328:=by omega
      simp only [go_sem,seval,hda,dk a55,hb2];refine ew fun i56 σ56 s56 a56 f56=>?_;have k56:=(hdel τ0 (aa.refl _) σ55 (hsj.trans s55)).trans s56;have n56:τ0 i56=none:=(hsj.trans s55).none f56;simp only [go_sem,seval,t0,t7,t9,t10,t12,r1];refine ⟨_,?_,j+1,by omega,rfl,k56,?_,rfl⟩
      ·omega
      ·rw [hrows];exact aM.new (by simp) a56 n56
     ·have q:((j:Int) < b.atoms.length)=False:=eq_false (by omega);have hje:j=b.atoms.length:=by omega
      rw [hje,List.take_length] at ho;apply sR;simp only [go_sem,seval,t0,t7,t9,t10,t12,hv11,b9,hgc,hla,q];exact ⟨hsj,ho⟩
    ·rintro ⟨S,τ⟩ ⟨hsj,ho,t0,t7,t9,t10⟩;simp only at hsj ho t0 t7 t9 t10;refine ad.BS [0,7,9,10] [11] hsj ho (by simp) ?_;generalize hS:(fun i=>if [11].contains i then V.sl 1 ((b.atoms.map (·.node)).map vI) else zd [0,7,9,10] S i)=S';have u0:S' 0=aI l:=by rw [←hS]; exact t0
     have u7:S' 7=cW P:=by rw [←hS]; exact t7
     have u9:S' 9=.ptr i9 0 0:=by rw [←hS]; exact t9
     have u10:S' 10=vI 0:=by rw [←hS]; exact t10
     have u11:S' 11=bj (b.atoms.map (·.node)):=by rw [←hS]; rfl
     clear hS t0 t7 t9 t10 ho hsj;refine ad.mix 21 ?_;have qP:((P.length:Int)=0)=False:=eq_false (by omega);apply sR;simp only [go_sem,seval,u0,u11];refine ad.ay rfl rfl rfl (hbr _) ?_;apply sR;simp only [go_sem,seval,u7,u9,u10,q0,hlP,qP];refine ad.eS (fun st=>st.σ=τ0∧st.s 7=cW P∧st.s 9=.ptr i9 0 0∧st.s 13=bF b.brks∧∃fc:Nat,st.s 15=vI fc∧fc≤1000000)
      (fun m st=>∃i fc:Nat,i≤b.brks.length∧m=b.brks.length - i∧fc≤i∧st.σ=τ0∧st.s 7=cW P∧st.s 9=.ptr i9 0 0∧st.s 13=bF b.brks∧st.s 15=vI fc∧st.s 16=vI i) b.brks.length ?_ ?_ ?_
     ·exact ⟨0,0,by omega,rfl,by omega,rfl,u7,u9,rfl,rfl,rfl⟩
     ·rintro m ⟨S,τ⟩ ⟨i,fc,hi,rfl,hfc,hσ,t7,t9,t13,t15,t16⟩;simp only at hσ t7 t9 t13 t15 t16;subst hσ;refine ad.mix 21 ?_;by_cases hlt:i < b.brks.length
      ·have q:((i:Int) < b.brks.length)=True:=eq_true (by omega);have hidx:=fun σ=>pr (σ:=σ) hlt;generalize b.brks[i]=x at *;have r1:inR .i64 ((i:Int)+1):=ak (by omega) (by omega);have r2:inR .i64 ((fc:Int)+1):=ak (by omega) (by omega);by_cases hx:x.forced≠0
       ·have qx:(x.forced≠0)=True:=eq_true hx;apply sR;simp only [go_sem,seval,t7,t9,t13,t15,t16,hlb,q,hidx,hbc,qx,r1,r2];exact ⟨_,by omega,i+1,fc+1,by omega,rfl,by omega,rfl,rfl⟩
       ·have qx:(x.forced≠0)=False:=eq_false hx;apply sR;simp only [go_sem,seval,t7,t9,t13,t15,t16,hlb,q,hidx,hbc,qx,r1,r2];exact ⟨_,by omega,i+1,fc,by omega,rfl,by omega,rfl,rfl⟩
      ·have q:((i:Int) < b.brks.length)=False:=eq_false (by omega);apply sR;simp only [go_sem,seval,t7,t9,t13,t15,t16,hlb,q];exact ⟨fc,rfl,by omega⟩
     ·rintro ⟨S,τ⟩ ⟨hσ,t7,t9,t13,fc,t15,hfc⟩;simp only at hσ t7 t9 t13 t15;subst hσ;refine ad.mix 21 ?_;apply sR;simp only [go_sem,seval,t7,t9,t13,t15];refine ad.eS (fun st=>aa τ st.σ∧st.s 7=cW P∧st.s 9=.ptr i9 0 0∧st.s 15=vI fc)
       (fun m st=>∃i:Nat,i≤P.length∧m=P.length - i∧aa τ st.σ∧st.s 7=cW P∧st.s 9=.ptr i9 0 0∧st.s 13=bF b.brks∧st.s 15=vI fc∧st.s 17=vI i) P.length ?_ ?_ ?_
      ·exact ⟨0,by omega,rfl,aa.refl _,t7,t9,t13,t15,rfl⟩
      ·clear t7 t9 t13 t15 hs;rintro m ⟨S,τ2⟩ ⟨i,hi,rfl,hs,t7,t9,t13,t15,t17⟩;simp only at hs t7 t9 t13 t15 t17;refine ad.mix 21 ?_;by_cases hlt:i < P.length
       ·have q:((i:Int) < P.length)=True:=eq_true (by omega);have r1:inR .i64 ((i:Int)+1):=ak (by omega) (by omega);have hpi:=fun σ=>sU (σ:=σ) hlt;have na:=hnum i P[i] (by rw [List.getElem?_eq_getElem hlt]);obtain ⟨l1,l2,l3⟩:=hlens _ (List.getElem_mem hlt);have nx:i+1 < P.length→∃z,∀σ,bD σ 5 (cW P) (.int .i64 ((i:Int)+1))=some (.rp (bI z))∧P[i+1]?=some z:=fun h=>⟨P[i+1],fun σ=>⟨sU h,by rw [List.getElem?_eq_getElem h]⟩⟩
        generalize P[i]=p at *;have hh1:=mr p.hs;have hh2:=mr p.fs;have hh3:=mr p.ls;have r2:inR .i64 ((p.hs.length:Int)+p.fs.length):=ak (by omega) (by omega);have r3:inR .i64 ((p.hs.length:Int)+p.fs.length+p.ls.length):=ak (by omega) (by omega);have w1:(p.no≠(i:Int)+1)=False:=eq_false (fun h=>h na.no);have m3:cz b.brks p=3→(p.no.tmod 2=1)=False:=fun h=>eq_false (by
         rw [Int.tmod_eq_emod_of_nonneg (by rw [na.no]; omega),na.left h]; decide)
        have m4:cz b.brks p=4→(p.no.tmod 2=0)=False:=fun h=>eq_false (by
         rw [Int.tmod_eq_emod_of_nonneg (by rw [na.no]; omega),na.right h]; decide)
        have rm:inR .i64 (p.no.tmod 2):=by
         rw [Int.tmod_eq_emod_of_nonneg (by rw [na.no]; omega)];exact ak (by omega) (by omega)
        have z2:((2:Int)=0)=False:=eq_false (by decide);have hsd:=Bg b.brks (by omega) p;apply sR;simp only [go_sem,seval,t7,t9,t13,t15,t17,hlP,q,hpi,hpc];refine ae fun i18 σ18 s18 a18 f18=>?_;have z18:=hs.none f18;replace hs:=hs.trans s18;by_cases k3:p.kind=3
        ·obtain ⟨e1,e2,e3,e4,e5⟩:=na.blank k3;have w2:(p.kind=3)=True:=eq_true k3;have w3:((p.hs.length:Int)+p.fs.length+p.ls.length > 0)=False:=eq_false (by rw [e1,e2,e3]; decide);have w7:((p.fs.length:Int) > 0)=False:=eq_false (by rw [e2]; decide);clear e1 e2 e3;by_cases hie:i+1=P.length
         ·have w4:((i:Int)+1=P.length)=True:=eq_true (by omega);have w5:((P.length:Int) > 1)=False:=eq_false (by have:=e4 hie; omega);have w6:((i:Int)+1 < P.length)=False:=eq_false (by omega);simp only [go_sem,seval,a18,t7,t9,t13,t15,t17,hpc,hpp,hh1,hh2,hh3,r1,r2,r3,w1,w2,w3,w4,w5,w6,w7,hlP,hU,gZ];generalize hq18:upd _ i18 _=τ18;replace a18:=(congrFun hq18 i18).symm.trans ag;replace hs:=Eq.subst (motive:=aa _) hq18 (hs.aB z18);clear hq18;refine ad.ay rfl rfl rfl (hsd _) ?_;generalize cz b.brks p=sd at *;by_cases y3:sd=3
          ·have y3':(sd=3)=True:=eq_true y3;have y5:=m3 y3;have y4':(sd=4)=False:=eq_false (by omega);apply sR;simp only [go_sem,seval,a18,hpc,t7,t9,t13,t15,t17,y3',y4',y5,rm,z2,r1];exact ⟨_,by omega,i+1,by omega,rfl,hs,rfl⟩
          ·have y3':(sd=3)=False:=eq_false y3;by_cases y4:sd=4
           ·have y4':(sd=4)=True:=eq_true y4;have y5:=m4 y4;apply sR;simp only [go_sem,seval,a18,hpc,t7,t9,t13,t15,t17,y3',y4',y5,rm,z2,r1];exact ⟨_,by omega,i+1,by omega,rfl,hs,rfl⟩
           ·have y4':(sd=4)=False:=eq_false y4;apply sR;simp only [go_sem,seval,a18,hpc,t7,t9,t13,t15,t17,y3',y4',r1];exact ⟨_,by omega,i+1,by omega,rfl,hs,rfl⟩
         ·have w4:((i:Int)+1=P.length)=False:=eq_false (by omega);have w6:((i:Int)+1 < P.length)=True:=eq_true (by omega);obtain ⟨z,hz⟩:=nx (by omega);have hz1:=fun σ=>(hz σ).1;have hz2:(cz b.brks z=0)=False:=eq_false (e5 z (hz τ).2);simp only [go_sem,seval,a18,t7,t9,t13,t15,t17,hpc,hpp,hh1,hh2,hh3,r1,r2,r3,w1,w2,w3,w4,w6,hz1,hld,hlP,hU,gZ];generalize hq18:upd _ i18 _=τ18;replace a18:=(congrFun hq18 i18).symm.trans ag;replace hs:=Eq.subst (motive:=aa _) hq18 (hs.aB z18);clear hq18;refine ad.ay rfl rfl rfl (Bg b.brks (by omega) z _) ?_;apply sR;simp only [go_sem,seval,a18,hpc,hh2,hz2,w7,t13];refine ad.ay rfl rfl rfl (hsd _) ?_;generalize cz b.brks p=sd at *;by_cases y3:sd=3
          ·have y3':(sd=3)=True:=eq_true y3;have y5:=m3 y3;have y4':(sd=4)=False:=eq_false (by omega);apply sR;simp only [go_sem,seval,a18,hpc,t7,t9,t13,t15,t17,y3',y4',y5,rm,z2,r1];exact ⟨_,by omega,i+1,by omega,rfl,hs,rfl⟩
          ·have y3':(sd=3)=False:=eq_false y3;by_cases y4:sd=4
           ·have y4':(sd=4)=True:=eq_true y4;have y5:=m4 y4;apply sR;simp only [go_sem,seval,a18,hpc,t7,t9,t13,t15,t17,y3',y4',y5,rm,z2,r1];exact ⟨_,by omega,i+1,by omega,rfl,hs,rfl⟩
           ·have y4':(sd=4)=False:=eq_false y4;apply sR;simp only [go_sem,seval,a18,hpc,t7,t9,t13,t15,t17,y3',y4',r1];exact ⟨_,by omega,i+1,by omega,rfl,hs,rfl⟩
        ·have w2:(p.kind=3)=False:=eq_false k3;by_cases hf:p.fs=[]
         ·have w7:((p.fs.length:Int) > 0)=False:=eq_false (by rw [hf]; decide);simp only [go_sem,seval,a18,t7,t9,t13,t15,t17,hpc,hpp,hh1,hh2,hh3,r1,r2,r3,w1,w2,w7,hlP,hU,gZ];generalize hq18:upd _ i18 _=τ18;replace a18:=(congrFun hq18 i18).symm.trans ag;replace hs:=Eq.subst (motive:=aa _) hq18 (hs.aB z18);clear hq18;refine ad.ay rfl rfl rfl (hsd _) ?_;generalize cz b.brks p=sd at *;by_cases y3:sd=3
          ·have y3':(sd=3)=True:=eq_true y3;have y5:=m3 y3;have y4':(sd=4)=False:=eq_false (by omega);apply sR;simp only [go_sem,seval,a18,hpc,t7,t9,t13,t15,t17,y3',y4',y5,rm,z2,r1];exact ⟨_,by omega,i+1,by omega,rfl,hs,rfl⟩
          ·have y3':(sd=3)=False:=eq_false y3;by_cases y4:sd=4
           ·have y4':(sd=4)=True:=eq_true y4;have y5:=m4 y4;apply sR;simp only [go_sem,seval,a18,hpc,t7,t9,t13,t15,t17,y3',y4',y5,rm,z2,r1];exact ⟨_,by omega,i+1,by omega,rfl,hs,rfl⟩
           ·have y4':(sd=4)=False:=eq_false y4;apply sR;simp only [go_sem,seval,a18,hpc,t7,t9,t13,t15,t17,y3',y4',r1];exact ⟨_,by omega,i+1,by omega,rfl,hs,rfl⟩
         ·have w7:((p.fs.length:Int) > 0)=True:=eq_true (by have:=List.length_pos_iff.2 hf; omega);have w8:(p.kind≠1)=False:=eq_false (fun h=>h (na.flow hf));simp only [go_sem,seval,a18,t7,t9,t13,t15,t17,hpc,hpp,hh1,hh2,hh3,r1,r2,r3,w1,w2,w7,w8,hlP,hU,gZ];generalize hq18:upd _ i18 _=τ18;replace a18:=(congrFun hq18 i18).symm.trans ag;replace hs:=Eq.subst (motive:=aa _) hq18 (hs.aB z18);clear hq18;refine ad.ay rfl rfl rfl (hsd _) ?_;generalize cz b.brks p=sd at *;by_cases y3:sd=3
          ·have y3':(sd=3)=True:=eq_true y3;have y5:=m3 y3;have y4':(sd=4)=False:=eq_false (by omega);apply sR;simp only [go_sem,seval,a18,hpc,t7,t9,t13,t15,t17,y3',y4',y5,rm,z2,r1];exact ⟨_,by omega,i+1,by omega,rfl,hs,rfl⟩
          ·have y3':(sd=3)=False:=eq_false y3;by_cases y4:sd=4
           ·have y4':(sd=4)=True:=eq_true y4;have y5:=m4 y4;apply sR;simp only [go_sem,seval,a18,hpc,t7,t9,t13,t15,t17,y3',y4',y5,rm,z2,r1];exact ⟨_,by omega,i+1,by omega,rfl,hs,rfl⟩
           ·have y4':(sd=4)=False:=eq_false y4;apply sR;simp only [go_sem,seval,a18,hpc,t7,t9,t13,t15,t17,y3',y4',r1];exact ⟨_,by omega,i+1,by omega,rfl,hs,rfl⟩
       ·have q:((i:Int) < P.length)=False:=eq_false (by omega);apply sR;simp only [go_sem,seval,t7,t9,t13,t15,t17,hlP,q];exact hs
      ·rintro ⟨S,τ2⟩ ⟨hs2,t7,t9,t15⟩;simp only at hs2 t7 t9 t15;have b9:=hs2 _ _ a9;refine ad.mix 21 ?_;have r1:inR .i64 (((P.flatMap (·.fs)).length:Int)+fc):=ak (by omega) (by omega);have r2:inR .i64 (((P.flatMap (·.fs)).length:Int)+fc+b.fls.length):=ak (by omega) (by omega);have r3:inR .i64 (2*(((P.flatMap (·.fs)).length:Int)+fc+b.fls.length)):=ak (by omega) (by omega);have r4:inR .i64 (2*(((P.flatMap (·.fs)).length:Int)+fc+b.fls.length)+1):=ak (by omega) (by omega);have qe:((P.length:Int)≤2*(((P.flatMap (·.fs)).length:Int)+fc+b.fls.length)+1)=True:=eq_true (by omega);generalize P.flatMap (·.fs)=FF at *;apply sR;simp only [go_sem,seval,t7,hlP];refine Go.cp rfl rfl rfl hat ?_;apply sG;simp only [go_sem,seval,t7,t9,t15,b9,hgc,hlF,hlf,r1,r2,r3,r4,qe];refine Go.cp rfl rfl rfl aw ?_;apply sG;simp only [go_sem,seval];exact ar.pure (hs.trans hs2) rfl
   ·rw [if_neg he];obtain ⟨g,e,hg⟩:=Gc l hl w;have q1:(gl l w h≠0)=True:=eq_true he;generalize gl l w h=E at *;have hgc:(pY g).cells=[bu g.atoms,aJ g.floats,vI g.height]:=rfl;have hgs:(pY g).stays=true:=rfl;apply sR;simp only [go_sem,seval];refine ad.ay rfl rfl rfl (hg _) ?_;apply sR;simp only [go_sem,seval];refine ae fun i9 σ9 s9 a9 f9=>?_;have z9:=hs.none f9;replace hs:=hs.trans s9;simp only [go_sem,seval,a9,hgc,hgs,q1,av,aQ,ax,aS];generalize hq9:upd _ i9 _=τ9;replace a9:=(congrFun hq9 i9).symm.trans ag;replace hs:=Eq.subst (motive:=aa _) hq9 (hs.aB z9);clear hq9;refine ad.ay rfl rfl rfl (aw _) ?_;apply sR;simp only [go_sem,seval];exact ar.pure hs rfl
inductive Tr (α:Type) where
 | e
 | n (l:Tr α) (v:α) (r:Tr α)
def wW:Nat→Nat→List Bool
 | 0,_=>[]
 | _+1,0=>[]
 | f+1,k+1=>Nat.beq (Nat.mod k 2) 0::wW f (Nat.div k 2)
def pathOf (k:Nat):List Bool:=wW (Nat.succ k) k
def L9 {α:Type} (d:α) (f:Nat):List Bool→Tr α→α :=
 @Nat.rec (fun _=>List Bool→Tr α→α) (fun _ _=>d)
  (fun _ ih p t=>@List.casesOn Bool (fun _=>α) p (@Tr.casesOn α (fun _=>α) t d (fun _ v _=>v))
    (fun b p'=>@Tr.casesOn α (fun _=>α) t d (fun l _ r=>ih p' (@Bool.casesOn (fun _=>Tr α) b r l)))) f
def kS {α:Type} (d:α) (k:Nat) (t:Tr α):α:=L9 d (Nat.succ k) (pathOf k) t
def MK {α:Type} (d v:α) (f:Nat):List Bool→Tr α→Tr α :=
 @Nat.rec (fun _=>List Bool→Tr α→Tr α) (fun _ t=>t)
  (fun _ ih p t=>@List.casesOn Bool (fun _=>Tr α) p (@Tr.casesOn α (fun _=>Tr α) t (.n .e v .e) (fun l _ r=>.n l v r))
    (fun b p'=>@Tr.casesOn α (fun _=>Tr α) t (@Bool.casesOn (fun _=>Tr α) b (.n .e d (ih p' .e)) (.n (ih p' .e) d .e))
      (fun l u r=>@Bool.casesOn (fun _=>Tr α) b (.n l u (ih p' r)) (.n (ih p' l) u r)))) f
def lJ {α:Type} (d v:α) (k:Nat) (t:Tr α):Tr α:=MK d v (Nat.succ k) (pathOf k) t
structure CS where
 s:Tr V
 σ:Tr (Option Ob)
 nxt:Nat
def CS.sf (cs:CS):Nat→V:=fun i=>kS (.tup []) i cs.s
def stF (σ:Tr (Option Ob)):af:=fun i=>kS none i σ
def MY (cs:CS) (d:Nat) (v:V):CS:=⟨lJ (.tup []) v d cs.s,cs.σ,cs.nxt⟩
def CS.put (cs:CS) (d:Option Nat) (v:V):CS:=@Option.casesOn Nat (fun _=>CS) d cs (fun d=>MY cs d v)
def eqQ:Int→Int→Bool
 | .ofNat m, .ofNat n=>Nat.beq m n
 | .negSucc m, .negSucc n=>Nat.beq m n
 | _,_=>false
def leQ:Int→Int→Bool
 | .ofNat m, .ofNat n=>Nat.ble m n
 | .negSucc _, .ofNat _=>true
 | .negSucc m, .negSucc n=>Nat.ble n m
 | .ofNat _, .negSucc _=>false
def LL:Int→Int→Int
 | .ofNat m, .ofNat n=>.ofNat (Nat.add m n)
 | a,b=>a+b
def I0:Int→Int→Int
 | .ofNat m, .ofNat n=>@Bool.casesOn (fun _=>Int) (Nat.ble n m) (.negSucc (Nat.sub (Nat.sub n m) 1)) (.ofNat (Nat.sub m n))
 | a,b=>a - b
def I6:Int→Bool
 | .ofNat m=>Nat.ble m 9223372036854775807
 | .negSucc m=>Nat.ble m 9223372036854775807
def IS (k:IntKind) (n:Int):Bool:=match k with
 | .i64=>I6 n
 | k=>decide (k.wrap n=n)
def gI (k:IntKind) (n:Int):Option V:=@Bool.casesOn (fun _=>Option V) (IS k n) none (some (.int k n))
def eqK (k k':IntKind):Bool:=decide (k=k')
def J1:IntKind→Bool
 | .i64=>true
 | _=>false
structure FI where
 f:IntKind→Int→Int→Option V
def n7 (op:BinOp):FI :=
 match op with
 | .add=>⟨fun k a b=>gI k (LL a b)⟩
 | .sub=>⟨fun k a b=>gI k (I0 a b)⟩
 | .mul=>⟨fun k a b=>gI k (a*b)⟩
 | .quo=>⟨fun k a b=>if b=0 then none else gI k (a.tdiv b)⟩
 | .rem=>⟨fun k a b=>if b=0 then none else some (.int k (a.tmod b))⟩
 | .eql=>⟨fun _ a b=>some (.bool (eqQ a b))⟩
 | .neq=>⟨fun _ a b=>some (.bool (not (eqQ a b)))⟩
 | .lss=>⟨fun _ a b=>some (.bool (not (leQ b a)))⟩
 | .leq=>⟨fun _ a b=>some (.bool (leQ a b))⟩
 | .gtr=>⟨fun _ a b=>some (.bool (not (leQ a b)))⟩
 | .geq=>⟨fun _ a b=>some (.bool (leQ b a))⟩
 | .and=>⟨fun k a b=>cG .and k a b⟩
 | .or=>⟨fun k a b=>cG .or k a b⟩
 | .shl=>⟨fun k a b=>cG .shl k a b⟩
 | .shr=>⟨fun k a b=>cG .shr k a b⟩
 | _=>⟨fun _ _ _=>none⟩
def wH (op:BinOp) (a b:List UInt8):Option V :=
 match op with
 | .add=>@Bool.casesOn (fun _=>Option V) (Nat.ble (a.length+b.length) 9223372036854775807) none (some (.str (a++b)))
 | .eql=>some (.bool (decide (a=b)))
 | .neq=>some (.bool (decide (a≠b)))
 | _=>none
def ER (k k':IntKind):Bool:=@Bool.casesOn (fun _=>Bool) (J1 k) (eqK k k') (J1 k')
def L7 (k:IntKind) (a:Int) (g:IntKind→Int→Int→Option V):V→Option V
 | .int k' b=>@Bool.casesOn (fun _=>Option V) (ER k k') none (g k a b)
 | _=>none
def Mg (op:BinOp) (a:List UInt8):V→Option V
 | .str b=>wH op a b
 | _=>none
def GA (op:BinOp) (g:IntKind→Int→Int→Option V) (y:V):V→Option V
 | .int k a=>L7 k a g y
 | .str a=>Mg op a y
 | _=>none
def LU:V→Option V
 | .int k a=>gI k (0 - a)
 | _=>none
def Iw (k:IntKind):V→Option V
 | .int _ a=>gI k a
 | _=>none
def L5:V→Option V
 | .bool b=>some (.bool (!b))
 | _=>none
def Ih (a b:V):V→Option V
 | .bool t=>some (@Bool.casesOn (fun _=>V) t b a)
 | _=>none
def zj:Int→Option Nat
 | .ofNat m=>some m
 | _=>none
def I3 (σ:Tr (Option Ob)) (esz:Nat) (x i:V):Option V :=
 match x,i with
 | .own id off len, .int _ j=>match zj j with
   | some m=>match kS none id σ with
     | some ob=>@Bool.casesOn (fun _=>Option V) (Nat.beq ob.sz esz && Nat.blt m len) none (some (.ptr id (Nat.add off m) 0))
     | none=>none
   | none=>none
 | .sl sz rows, .int _ j=>match zj j with
   | some m=>@Bool.casesOn (fun _=>Option V) (Nat.beq sz esz) none (match rows[m]? with
     | some r=>some (.rp r)
     | none=>none)
   | none=>none
 | _,_=>none
def Ez (σ:Tr (Option Ob)) (agg:Bool) (sz:Nat) (x:V):Option V :=
 match x with
 | .ptr id i k=>match kS none id σ with
   | some ob=>match ob.rows[i]? with
     | some r=>match agg with
       | true=>@Bool.casesOn (fun _=>Option V) (Nat.beq k 0 && Nat.beq r.cells.length sz)
          (@Bool.casesOn (fun _=>Option V) (Nat.ble (Nat.add k sz) r.cells.length) none (some (.agg ((r.cells.drop k).take sz)))) (some (.agg r.cells))
       | false=>r.cells[k]?
     | none=>none
   | none=>none
 | x=>bN (stF σ) agg sz x
def ES:V→V→Option V
 | .str s, .int _ j=>match zj j with
   | some m=>match s[m]? with
     | some b=>some (.int .u8 (Int.ofNat b.toNat))
     | none=>none
   | none=>none
 | _,_=>none
structure Mk where
 var:Bool
 len:Nat
 gone:Option Nat
 ob:Ob
def My (e sz:Nat) (x:V):Option Mk:=@Bool.casesOn (fun _=>Option Mk) (Nat.beq x.cells.length sz && x.stays) none (some ⟨true,0,none,⟨e,sz,[x]⟩⟩)
def Bu (e sz:Nat) (xs:List V):Option Mk:=@Bool.casesOn (fun _=>Option Mk) (xs.all fun x=>Nat.beq x.cells.length sz && x.stays) none (some ⟨false,xs.length,none,⟨e,sz,xs⟩⟩)
def mkQ (e sz bytes:Nat) (z:V):V→Option Mk
 | .int k m=>match k with
   | .i64=>match zj m with
     | some j=>@Bool.casesOn (fun _=>Option Mk) (Nat.ble (j*(bytes+1)) 140737488355328) none (some ⟨false,j,none,⟨e,sz,List.replicate j z⟩⟩)
     | none=>none
   | _=>none
 | _=>none
def A0 (σ:Tr (Option Ob)) (e sz bytes:Nat) (a b:V):Option Mk:=match bR (stF σ) e sz a,bK (stF σ) sz b with
 | some (base,idA),some src=>@Bool.casesOn (fun _=>Option Mk) (Nat.ble ((base.length+src.length)*(bytes+1)) 140737488355328) none (some ⟨false,base.length+src.length,idA,⟨e,sz,base++src⟩⟩)
 | _,_=>none
def vN (fl:Nat) (dst:Option Nat) (cs:CS) (m:Mk):Option CS :=
 match m.gone with
 | none=>some (CS.put ⟨cs.s,lJ none (some m.ob) cs.nxt cs.σ,Nat.succ cs.nxt⟩ dst (@Bool.casesOn (fun _=>V) m.var (.own cs.nxt 0 m.len) (.ptr cs.nxt 0 0)))
 | some d=>@Bool.casesOn (fun _=>Option CS) (Nat.ble fl d) none
    (some (CS.put ⟨cs.s,lJ none (some m.ob) cs.nxt (lJ none none d cs.σ),Nat.succ cs.nxt⟩ dst (@Bool.casesOn (fun _=>V) m.var (.own cs.nxt 0 m.len) (.ptr cs.nxt 0 0))))
inductive Out where
 | nx (cs:CS)
 | ex (id:Nat) (cs:CS)
 | rt (cs:CS)
 | bad
structure Rs where
 v:V
 σ:Tr (Option Ob)
 nxt:Nat
def ln:=FuncId→List V→Tr (Option Ob)→Nat→Nat→Option Rs
structure BI where
 f:ln→Nat→CS→Option CS
def iZ (dst:Option Nat) (g:CS→Option V):BI:=⟨fun _ _ cs=>match g cs with
 | some v=>some (cs.put dst v)
 | none=>none⟩
def LN (dst:Option Nat) (x:VX):BI:=⟨fun _ _ cs=>some (cs.put dst (x.ev cs.sf))⟩
def AI (dst:Option Nat) (g:CS→Option Mk):BI:=⟨fun _ fl cs=>match g cs with
 | some m=>vN fl dst cs m
 | none=>none⟩
def Aj (dst:Option Nat) (cs:CS):Option Rs→Option CS
 | some r=>some (CS.put ⟨cs.s,r.σ,r.nxt⟩ dst r.v)
 | none=>none
def vD (dst:Option Nat) (cs:CS):Option Rs→Option CS
 | some r=>@Bool.casesOn (fun _=>Option CS) r.v.ee none (some (cs.put dst r.v))
 | none=>none
def FD (draw:Bool) (dst:Option Nat) (fx:VX) (xs:List VX):BI:=match draw with
 | true=>⟨fun call _ cs=>match fx.ev cs.sf with
   | .fn f caps=>vD dst cs (call f (xs.map (·.ev cs.sf)++caps) cs.σ cs.nxt cs.nxt)
   | _=>none⟩
 | false=>⟨fun call fl cs=>match fx.ev cs.sf with
   | .fn f caps=>Aj dst cs (call f (xs.map (·.ev cs.sf)++caps) cs.σ cs.nxt fl)
   | _=>none⟩
def BY (dst:Option Nat) (fl sz:Nat) (xv:V) (cs:CS):V→Option CS
 | .ptr id i0 c=>@Bool.casesOn (fun _=>Option CS) (Nat.ble fl id) none (match kS none id cs.σ with
   | some ob=>match ob.rows[i0]? with
     | some r=>match cc r c sz xv with
       | some r'=>some (CS.put ⟨cs.s,lJ none (some ⟨ob.elem,ob.sz,ob.rows.set i0 r'⟩) id cs.σ,cs.nxt⟩ dst (.tup []))
       | none=>none
     | none=>none
   | none=>none)
 | _=>none
def AT (dst:Option Nat) (sz:Nat) (xa xv:VX):BI:=⟨fun _ fl cs=>BY dst fl sz (xv.ev cs.sf) cs (xa.ev cs.sf)⟩
def BH (dst:Option Nat) (fl sz:Nat) (z:V) (cs:CS):V→Option CS
 | .own id off len=>@Bool.casesOn (fun _=>Option CS) (Nat.ble fl id) none (match kS none id cs.σ with
   | some ob=>@Bool.casesOn (fun _=>Option CS) (Nat.beq ob.sz sz && Nat.ble (off+len) ob.rows.length) none
      (some (CS.put ⟨cs.s,lJ none (some ⟨ob.elem,ob.sz,ob.rows.take off++List.replicate len z++ob.rows.drop (off+len)⟩) id cs.σ,cs.nxt⟩ dst (.tup [])))
   | none=>none)
 | _=>none
def AQ (draw:Bool) (dst:Option Nat) (sz:Nat) (z:V) (xv:VX):BI:=match draw with
 | true=>⟨fun _ _ _=>none⟩
 | false=>⟨fun _ fl cs=>BH dst fl sz z cs (xv.ev cs.sf)⟩
def jI (draw:Bool) (dst:Option Nat) (op:VOp):BI:=match op with
 | .mov x=>LN dst x
 | .pick c a b=>iZ dst fun cs=>Ih (a.ev cs.sf) (b.ev cs.sf) (c.ev cs.sf)
 | .bin op x y=>@FI.casesOn (fun _=>BI) (n7 op) fun g=>iZ dst fun cs=>GA op g (y.ev cs.sf) (x.ev cs.sf)
 | .not x=>iZ dst fun cs=>L5 (x.ev cs.sf)
 | .neg x=>iZ dst fun cs=>LU (x.ev cs.sf)
 | .convI k x=>iZ dst fun cs=>Iw k (x.ev cs.sf)
 | .idxA esz x i=>iZ dst fun cs=>I3 cs.σ esz (x.ev cs.sf) (i.ev cs.sf)
 | .idxS x i=>iZ dst fun cs=>ES (x.ev cs.sf) (i.ev cs.sf)
 | .load agg sz x=>iZ dst fun cs=>Ez cs.σ agg sz (x.ev cs.sf)
 | .box e sz x=>AI dst fun cs=>My e sz (x.ev cs.sf)
 | .alloc e sz z=>AI dst fun _=>some ⟨true,0,none,⟨e,sz,[z]⟩⟩
 | .bf e sz xs=>AI dst fun cs=>Bu e sz (xs.map (·.ev cs.sf))
 | .mk e sz bytes z x=>AI dst fun cs=>mkQ e sz bytes z (x.ev cs.sf)
 | .append e sz bytes a b=>AI dst fun cs=>A0 cs.σ e sz bytes (a.ev cs.sf) (b.ev cs.sf)
 | .call f xs=>FD draw dst f xs
 | .store sz a x=>AT dst sz a x
 | .clear sz z x=>AQ draw dst sz z x
 | op=>iZ dst fun cs=>aE (stF cs.σ) cs.sf op
def EL (dst:Option Nat) (b:Bool) (B:BI) (call:ln) (fl:Nat) (cs:CS):V→Option CS
 | .bool c=>@Bool.casesOn (fun _=>Option CS) (Bool.xor c b) (B.f call fl cs) (some (cs.put dst (.tup [])))
 | .tup []=>some (cs.put dst (.tup []))
 | .int _ _=>some (cs.put dst (.tup []))
 | _=>none
def qn (draw:Bool) (i:aG):BI:=match i.g with
 | none=>jI draw i.dst i.op
 | some (x,b)=>⟨fun call fl cs=>EL i.dst b (jI draw i.dst i.op) call fl cs (x.ev cs.sf)⟩
def lM (draw:Bool) (call:ln) (fl m:Nat):List aG→CS→Out :=
 @Nat.rec (fun _=>List aG→CS→Out) (fun _ _=>.bad)
  (fun _ ih l cs=>@List.casesOn aG (fun _=>Out) l (.nx cs)
    (fun i l'=>@BI.casesOn (fun _=>Out) (qn draw i) fun f=>@Option.casesOn CS (fun _=>Out) (f call fl cs) .bad (ih l'))) m
def EF (draw:Bool) (call:ln) (fl:Nat) (l:List aG) (cs:CS):Out:=lM draw call fl 1000 l cs
def Tr.ofL:List V→Nat→Tr V→Tr V
 | [],_,t=>t
 | v::l,k,t=>Tr.ofL l (Nat.succ k) (lJ (.tup []) v k t)
def G7 (res:List VR) (cs:CS):Option Rs:=match mD ⟨cs.sf,stF cs.σ⟩ res with
 | some v=>some ⟨v,cs.σ,cs.nxt⟩
 | none=>none
def LQ (res:List VR):Out→Option Rs
 | .nx cs=>G7 res cs
 | .rt cs=>G7 res cs
 | _=>none
def evF (run:Nat→bB→CS→Out) (code:FuncId→Option VFn):ln:=fun f args σ nxt fl=>match code f with
 | none=>none
 | some vf=>@Bool.casesOn (fun _=>Option Rs) (Nat.ble args.length vf.n) none (LQ vf.res (run fl vf.code ⟨Tr.ofL args 0 .e,σ,nxt⟩))
def Cd (o:Out) (k:CS→Out):Out:=@Out.casesOn (fun _=>Out) o k (fun id cs=>.ex id cs) (fun cs=>.rt cs) .bad
def Ke (id:Nat) (o:Out):Out:=@Out.casesOn (fun _=>Out) o (fun cs=>.nx cs) (fun j cs=>@Bool.casesOn (fun _=>Out) (Nat.beq j id) (.ex j cs) (.nx cs)) (fun cs=>.rt cs) .bad
def onB (v:V) (a b:Out):Out:=match v with
 | .bool c=>@Bool.casesOn (fun _=>Out) c b a
 | _=>.bad
def evL (code:FuncId→Option VFn) (fuel:Nat):Nat→bB→CS→Out :=
 @Nat.rec (fun _=>Nat→bB→CS→Out) (fun _ _ _=>.bad)
  (fun _ ih fl c cs=>match c with
    | .skip=>.nx cs
    | .reg draw l=>EF draw (evF ih code) fl l cs
    | .seq a b=>Cd (ih fl a cs) fun cs'=>ih fl b cs'
    | .cond c a b=>onB (c.ev cs.sf) (ih fl a cs) (ih fl b cs)
    | .block id a=>Ke id (ih fl a cs)
    | .loop a=>Cd (ih fl a cs) fun cs'=>ih fl (.loop a) cs'
    | .exit id=>.ex id cs
    | .ret=>.rt cs
    | .cC ..=>.bad
    | .regA ..=>.bad
    | .o6 ..=>.bad
    | .bad=>.bad) fuel
def gL {α:Type} (d:α):List Bool→Tr α→α
 | _, .e=>d
 | [], .n _ v _=>v
 | b::p, .n l _ r=>gL d p (if b then l else r)
def sL {α:Type} (d v:α):List Bool→Tr α→Tr α
 | [], .e=>.n .e v .e
 | [], .n l _ r=>.n l v r
 | b::p, .e=>if b then .n (sL d v p .e) d .e else .n .e d (sL d v p .e)
 | b::p, .n l u r=>if b then .n (sL d v p l) u r else .n l u (sL d v p r)
theorem rz {α:Type} (d:α):∀(f:Nat) (p:List Bool) (t:Tr α),p.length < f→L9 d f p t=gL d p t
 | 0,_,_,h=>by omega
 | f+1,[],t,_=>by cases t <;> rfl
 | f+1,b::p,t,h=>by
   cases t with
   | e=>rfl
   | n l u r =>
     have ih:=rz d f p (if b then l else r) (by simpa using h);cases b <;> exact ih
theorem vJ {α:Type} (d v:α):∀(f:Nat) (p:List Bool) (t:Tr α),p.length < f→MK d v f p t=sL d v p t
 | 0,_,_,h=>by omega
 | f+1,[],t,_=>by cases t <;> rfl
 | f+1,b::p,t,h=>by
   have h':p.length < f:=by simpa using h
   cases t with
   | e=>cases b <;> simp only [sL,Bool.false_eq_true,if_false,if_true] <;> rw [←vJ d v f p _ h'] <;> rfl
   | n l u r=>cases b <;> simp only [sL,Bool.false_eq_true,if_false,if_true] <;> rw [←vJ d v f p _ h'] <;> rfl
theorem IX {α:Type} (d:α) (p:List Bool):gL d p .e=d:=by cases p <;> rfl
theorem BD {α:Type} (d v:α):∀(p q:List Bool) (t:Tr α),gL d q (sL d v p t)=if q=p then v else gL d q t
 | [],[],t=>by cases t <;> simp [sL,gL]
 | [],b::q,t=>by cases t <;> simp [sL,gL,IX]
 | a::p,[],t=>by cases t <;> cases a <;> simp [sL,gL]
 | a::p,b::q,t=>by
   cases t with
   | e =>
     have ih:=BD d v p q .e;cases a <;> cases b <;> simp [sL,gL,IX,ih]
   | n l u r =>
     have ihl:=BD d v p q l;have ihr:=BD d v p q r;cases a <;> cases b <;> simp [sL,gL,ihl,ihr]
def wA:List Bool→Nat
 | []=>0
 | b::p=>2*wA p+(if b then 1 else 2)
theorem ml:∀(f k:Nat),k < f→wA (wW f k)=k
 | 0,_,h=>by omega
 | f+1,0,_=>rfl
 | f+1,k+1,h=>by
   have ih:=ml f (k / 2) (by omega);have ih':wA (wW f (k.div 2))=k / 2:=ih;simp only [wW,wA,ih'];have h1:Nat.mod k 2=k % 2:=rfl;by_cases hk:k % 2=0
   ·have:Nat.beq (Nat.mod k 2) 0=true:=by rw [h1,hk]; rfl
    simp only [this,if_true]; omega
   ·have hk1:k % 2=1:=by omega
    have:Nat.beq (Nat.mod k 2) 0=false:=by rw [h1,hk1]; rfl
    simp only [this,Bool.false_eq_true,if_false]; omega
theorem LW:∀p:List Bool,p.length≤wA p
 | []=>Nat.le_refl _
 | b::p=>by have:=LW p; simp only [List.length_cons,wA]; split <;> omega
theorem kA (k:Nat):(pathOf k).length < k.succ:=by
 have h1:=LW (pathOf k);have h2:wA (pathOf k)=k:=ml (k+1) k (by omega);omega
theorem AJ {i k:Nat} (h:pathOf i=pathOf k):i=k:=by
 have h1:wA (pathOf i)=i:=ml (i+1) i (by omega);have h2:wA (pathOf k)=k:=ml (k+1) k (by omega);rw [←h1,←h2,h]
theorem oC {α:Type} (d v:α) (i k:Nat) (t:Tr α):kS d i (lJ d v k t)=if i=k then v else kS d i t:=by
 unfold kS lJ;rw [rz _ _ _ _ (kA i),rz _ _ _ _ (kA i),vJ _ _ _ _ _ (kA k),BD];by_cases h:i=k
 ·simp [h]
 ·rw [if_neg h,if_neg (fun e=>h (AJ e))]
theorem K1 {α:Type} (d:α) (i:Nat):kS d i .e=d:=by
 unfold kS;rw [rz _ _ _ _ (kA i),IX]
theorem Lj (cs:CS) (d:Option Nat) (v:V):(cs.put d v).sf=aV cs.sf d v:=by
 funext i;cases d with
 | none=>rfl
 | some d=>show kS _ i (lJ _ v d cs.s)=_; rw [oC]; rfl
theorem Ei (cs:CS) (d:Option Nat) (v:V):(cs.put d v).σ=cs.σ∧(cs.put d v).nxt=cs.nxt:=by cases d <;> exact ⟨rfl,rfl⟩
theorem qY (σ:Tr (Option Ob)) (k:Nat) (o:Ob):stF (lJ none (some o) k σ)=upd (stF σ) k o:=by
 funext i; show kS none i _=_; rw [oC]; rfl
theorem Hb (σ:Tr (Option Ob)) (k:Nat):stF (lJ none none k σ)=del (stF σ) k:=by
 funext i; show kS none i _=_; rw [oC]; rfl
mutual
def aA (R:Nat→Nat→Prop):V→V→Prop
 | .own id off len,u=>∃id',u=.own id' off len∧R id id'
 | .ptr id i k,u=>∃id',u=.ptr id' i k∧R id id'
 | .sl sz rows,u=>∃rows',u=.sl sz rows'∧aN R rows rows'
 | .rp v,u=>∃v',u=.rp v'∧aA R v v'
 | .fn f caps,u=>∃caps',u=.fn f caps'∧aN R caps caps'
 | .bm f caps,u=>∃caps',u=.bm f caps'∧aN R caps caps'
 | .iface t v,u=>∃v',u=.iface t v'∧aA R v v'
 | .agg c,u=>∃c',u=.agg c'∧aN R c c'
 | .tup c,u=>∃c',u=.tup c'∧aN R c c'
 | .undef,u=>u=.undef
 | .int k n,u=>u=.int k n
 | .bool b,u=>u=.bool b
 | .str s,u=>u=.str s
 | .aD,u=>u=.aD
 | .nilp,u=>u=.nilp
 | .nilfn,u=>u=.nilfn
 | .niliface,u=>u=.niliface
 | .raw v,u=>u=.raw v
 | .obj v,u=>u=.obj v
 | .gp v,u=>u=.gp v
 | .yl v,u=>∃id',u=.yl id'∧R v id'
 | .mp v,u=>u=.mp v
def aN (R:Nat→Nat→Prop):List V→List V→Prop
 | [],l=>l=[]
 | v::vs,l=>∃u us,l=u::us∧aA R v u∧aN R vs us
end
section
variable {R R':Nat→Nat→Prop}
mutual
theorem aA.mono (h:∀a b,R a b→R' a b):∀(v u:V),aA R v u→aA R' v u
 | .own id off len,u,g=>by simp only [aA] at g ⊢; obtain ⟨i,e,r⟩:=g; exact ⟨i,e,h _ _ r⟩
 | .ptr id i k,u,g=>by simp only [aA] at g ⊢; obtain ⟨i,e,r⟩:=g; exact ⟨i,e,h _ _ r⟩
 | .sl sz rows,u,g=>by simp only [aA] at g ⊢; obtain ⟨i,e,r⟩:=g; exact ⟨i,e,aN.mono h _ _ r⟩
 | .rp v,u,g=>by simp only [aA] at g ⊢; obtain ⟨i,e,r⟩:=g; exact ⟨i,e,aA.mono h _ _ r⟩
 | .fn f caps,u,g=>by simp only [aA] at g ⊢; obtain ⟨i,e,r⟩:=g; exact ⟨i,e,aN.mono h _ _ r⟩
 | .bm f caps,u,g=>by simp only [aA] at g ⊢; obtain ⟨i,e,r⟩:=g; exact ⟨i,e,aN.mono h _ _ r⟩
 | .iface t v,u,g=>by simp only [aA] at g ⊢; obtain ⟨i,e,r⟩:=g; exact ⟨i,e,aA.mono h _ _ r⟩
 | .agg c,u,g=>by simp only [aA] at g ⊢; obtain ⟨i,e,r⟩:=g; exact ⟨i,e,aN.mono h _ _ r⟩
 | .tup c,u,g=>by simp only [aA] at g ⊢; obtain ⟨i,e,r⟩:=g; exact ⟨i,e,aN.mono h _ _ r⟩
 | .undef,u,g=>by simpa [aA] using g
 | .int k n,u,g=>by simpa [aA] using g
 | .bool b,u,g=>by simpa [aA] using g
 | .str s,u,g=>by simpa [aA] using g
 | .aD,u,g=>by simpa [aA] using g
 | .nilp,u,g=>by simpa [aA] using g
 | .nilfn,u,g=>by simpa [aA] using g
 | .niliface,u,g=>by simpa [aA] using g
 | .raw v,u,g=>by simpa [aA] using g
 | .obj v,u,g=>by simpa [aA] using g
 | .gp v,u,g=>by simpa [aA] using g
 | .yl v,u,g=>by simp only [aA] at g ⊢; obtain ⟨i,e,r⟩:=g; exact ⟨i,e,h _ _ r⟩
 | .mp v,u,g=>by simpa [aA] using g
theorem aN.mono (h:∀a b,R a b→R' a b):∀(v u:List V),aN R v u→aN R' v u
 | [],u,g=>by simpa [aN] using g
 | v::vs,u,g=>by
   simp only [aN] at g ⊢;obtain ⟨a,as1,e,r,rs⟩:=g;exact ⟨a,as1,e,aA.mono h _ _ r,aN.mono h _ _ rs⟩
end
mutual
theorem ez:∀(v:V),v.ee=true→aA R v v
 | .own ..,g=>by simp [V.ee] at g
 | .ptr ..,g=>by simp [V.ee] at g
 | .sl sz rows,g=>by simp only [V.ee] at g; simp only [aA]; exact ⟨rows,rfl,fa rows g⟩
 | .rp v,g=>by simp only [V.ee] at g; simp only [aA]; exact ⟨v,rfl,ez v g⟩
 | .fn f caps,g=>by simp only [V.ee] at g; simp only [aA]; exact ⟨caps,rfl,fa caps g⟩
 | .bm f caps,g=>by simp only [V.ee] at g; simp only [aA]; exact ⟨caps,rfl,fa caps g⟩
 | .iface t v,g=>by simp only [V.ee] at g; simp only [aA]; exact ⟨v,rfl,ez v g⟩
 | .agg c,g=>by simp only [V.ee] at g; simp only [aA]; exact ⟨c,rfl,fa c g⟩
 | .tup c,g=>by simp only [V.ee] at g; simp only [aA]; exact ⟨c,rfl,fa c g⟩
 | .undef,_=>by simp [aA]
 | .int k n,_=>by simp [aA]
 | .bool b,_=>by simp [aA]
 | .str s,_=>by simp [aA]
 | .aD,_=>by simp [aA]
 | .nilp,_=>by simp [aA]
 | .nilfn,_=>by simp [aA]
 | .niliface,_=>by simp [aA]
 | .raw v,_=>by simp [aA]
 | .obj v,_=>by simp [aA]
 | .gp v,_=>by simp [aA]
 | .yl v,g=>by simp [V.ee] at g
 | .mp v,_=>by simp [aA]
theorem fa:∀(l:List V),fG l=true→aN R l l
 | [],_=>by simp [aN]
 | v::vs,g=>by
   simp only [fG,Ba] at g;simp only [aN];exact ⟨v,vs,rfl,ez v g.1,fa vs g.2⟩
end
mutual
theorem oJ:∀(v u:V),v.ee=true→aA R v u→u=v
 | .own ..,_,g,_=>by simp [V.ee] at g
 | .ptr ..,_,g,_=>by simp [V.ee] at g
 | .sl sz rows,u,g,h=>by simp only [V.ee] at g; simp only [aA] at h; obtain ⟨r,rfl,h⟩:=h; rw [kx rows r g h]
 | .rp v,u,g,h=>by simp only [V.ee] at g; simp only [aA] at h; obtain ⟨r,rfl,h⟩:=h; rw [oJ v r g h]
 | .fn f caps,u,g,h=>by simp only [V.ee] at g; simp only [aA] at h; obtain ⟨r,rfl,h⟩:=h; rw [kx caps r g h]
 | .bm f caps,u,g,h=>by simp only [V.ee] at g; simp only [aA] at h; obtain ⟨r,rfl,h⟩:=h; rw [kx caps r g h]
 | .iface t v,u,g,h=>by simp only [V.ee] at g; simp only [aA] at h; obtain ⟨r,rfl,h⟩:=h; rw [oJ v r g h]
 | .agg c,u,g,h=>by simp only [V.ee] at g; simp only [aA] at h; obtain ⟨r,rfl,h⟩:=h; rw [kx c r g h]
 | .tup c,u,g,h=>by simp only [V.ee] at g; simp only [aA] at h; obtain ⟨r,rfl,h⟩:=h; rw [kx c r g h]
 | .undef,u,_,h=>by simpa [aA] using h
 | .int k n,u,_,h=>by simpa [aA] using h
 | .bool b,u,_,h=>by simpa [aA] using h
 | .str s,u,_,h=>by simpa [aA] using h
 | .aD,u,_,h=>by simpa [aA] using h
 | .nilp,u,_,h=>by simpa [aA] using h
 | .nilfn,u,_,h=>by simpa [aA] using h
 | .niliface,u,_,h=>by simpa [aA] using h
 | .raw v,u,_,h=>by simpa [aA] using h
 | .obj v,u,_,h=>by simpa [aA] using h
 | .gp v,u,_,h=>by simpa [aA] using h
 | .yl v,_,g,_=>by simp [V.ee] at g
 | .mp v,u,_,h=>by simpa [aA] using h
theorem kx:∀(l m:List V),fG l=true→aN R l m→m=l
 | [],m,_,h=>by simpa [aN] using h
 | v::vs,m,g,h=>by
   simp only [fG,Ba] at g;simp only [aN] at h;obtain ⟨u,us,rfl,h1,h2⟩:=h;rw [oJ v u g.1 h1,kx vs us g.2 h2]
end
theorem aN.gW {l:List V}:aN R [] l↔l=[]:=by simp [aN]
theorem aN.cb {v:V} {vs l:List V}:aN R (v::vs) l↔∃u us,l=u::us∧aA R v u∧aN R vs us:=by simp [aN]
theorem aN.length:∀ {l m:List V},aN R l m→m.length=l.length
 | [],_,h=>by rw [aN.gW] at h; simp [h]
 | v::vs,_,h=>by obtain ⟨u,us,rfl,_,h2⟩:=aN.cb.1 h; simp [h2.length]
theorem aN.get:∀ {l m:List V},aN R l m→∀ {i:Nat} {v:V},l[i]?=some v→∃u,m[i]?=some u∧aA R v u
 | [],_,_,i,v,hv=>by simp at hv
 | v::vs,_,h,i,x,hv=>by
   obtain ⟨u,us,rfl,h1,h2⟩:=aN.cb.1 h;cases i with
   | zero=>simp at hv; subst hv; exact ⟨u,by simp,h1⟩
   | succ i=>simp at hv; simpa using h2.get hv
theorem aN.append:∀ {l m l' m':List V},aN R l m→aN R l' m'→aN R (l++l') (m++m')
 | [],_,_,_,h,h'=>by rw [aN.gW] at h; subst h; simpa using h'
 | v::vs,_,_,_,h,h'=>by
   obtain ⟨u,us,rfl,h1,h2⟩:=aN.cb.1 h;exact aN.cb.2 ⟨u,us++_,by simp,h1,h2.append h'⟩
theorem aN.take:∀ {l m:List V},aN R l m→∀i,aN R (l.take i) (m.take i)
 | [],_,h,i=>by rw [aN.gW] at h; subst h; simp [aN]
 | v::vs,_,h,i=>by
   obtain ⟨u,us,rfl,h1,h2⟩:=aN.cb.1 h;cases i with
   | zero=>simp [aN]
   | succ i=>exact aN.cb.2 ⟨u,us.take i,by simp,h1,h2.take i⟩
theorem aN.drop:∀ {l m:List V},aN R l m→∀i,aN R (l.drop i) (m.drop i)
 | [],_,h,i=>by rw [aN.gW] at h; subst h; simp [aN]
 | v::vs,_,h,i=>by
   obtain ⟨u,us,rfl,h1,h2⟩:=aN.cb.1 h;cases i with
   | zero=>exact aN.cb.2 ⟨u,us,by simp,h1,h2⟩
   | succ i=>simpa using h2.drop i
theorem aN.set:∀ {l m:List V},aN R l m→∀(i:Nat) {v u:V},aA R v u→aN R (l.set i v) (m.set i u)
 | [],_,h,i,_,_,_=>by rw [aN.gW] at h; subst h; simp [aN]
 | v::vs,_,h,i,x,y,hx=>by
   obtain ⟨u,us,rfl,h1,h2⟩:=aN.cb.1 h;cases i with
   | zero=>exact aN.cb.2 ⟨y,us,by simp,hx,h2⟩
   | succ i=>exact aN.cb.2 ⟨u,us.set i y,by simp,h1,h2.set i hx⟩
theorem aN.replicate {v u:V} (h:aA R v u):∀n,aN R (List.replicate n v) (List.replicate n u)
 | 0=>by simp [aN]
 | n+1=>aN.cb.2 ⟨u,List.replicate n u,by simp [List.replicate_succ],h,aN.replicate h n⟩
theorem aN.one {v u:V} (h:aA R v u):aN R [v] [u]:=aN.cb.2 ⟨u,[],rfl,h,by simp [aN]⟩
theorem aA.jC {k:IntKind} {n:Int} {u:V}:aA R (.int k n) u↔u=.int k n:=by simp [aA]
theorem aA.kW {b:Bool} {u:V}:aA R (.bool b) u↔u=.bool b:=by simp [aA]
theorem aA.rq {b:List UInt8} {u:V}:aA R (.str b) u↔u=.str b:=by simp [aA]
theorem aA.oH {b:List V} {u:V}:aA R (.agg b) u↔∃c,u=.agg c∧aN R b c:=by simp [aA]
theorem aA.agg {l m:List V} (h:aN R l m):aA R (.agg l) (.agg m):=aA.oH.2 ⟨m,rfl,h⟩
theorem aA.rp {l m:V} (h:aA R l m):aA R (.rp l) (.rp m):=by simp only [aA]; exact ⟨m,rfl,h⟩
theorem aA.cells {v u:V} (h:aA R v u):aN R v.cells u.cells:=by
 cases v <;> simp only [aA] at h
 case agg c=>obtain ⟨c',rfl,h⟩:=h; simpa [V.cells] using h
 all_goals first
  | (subst h; exact aN.one (by simp [aA]))
  | (obtain ⟨c,rfl,h⟩:=h; exact aN.one (by simp only [aA]; exact ⟨_,rfl,h⟩))
theorem aA.stays {v u:V} (h:aA R v u):u.stays=v.stays:=by
 cases v <;> simp only [aA] at h <;> first
  | (subst h; rfl)
  | (obtain ⟨c,rfl,h⟩:=h; rfl)
end
def Lv (R:Nat→Nat→Prop) (σc σ:af):Prop:=∀c a o,R c a→σc c=some o→∃rows',σ a=some ⟨o.elem,o.sz,rows'⟩∧aN R o.rows rows'
theorem Lv.sup {R:Nat→Nat→Prop} {σc σ σ1:af} (h:Lv R σc σ) (hs:aa σ σ1):Lv R σc σ1:=fun c a o hc ho=>by
 obtain ⟨rows',h1,h2⟩:=h c a o hc ho;exact ⟨rows',hs _ _ h1,h2⟩
structure nB (K:af) (fl:Nat) (R:Nat→Nat→Prop) (σc:af) (nxt:Nat) (σ:af):Prop where
 dom:∀c a,R c a→c < nxt
 live:Lv R σc σ
 inj:∀c c' a o o',R c a→R c' a→σc c=some o→σc c'=some o'→c=c'
 fn:∀c a a',R c a→R c a'→a=a'
 lS:aa K σ
 kfl:∀a o c oc,K a=some o→R c a→σc c=some oc→c < fl
section
variable {R:Nat→Nat→Prop} {K σc σ:af} {fl nxt:Nat}
theorem nB.write (h:nB K fl R σc nxt σ) {c a:Nat} {o:Ob} (hc:R c a) (ho:σc c=some o) (hf:fl≤c) {rows rows':List V} (hr:aN R rows rows') :
 nB K fl R (upd σc c ⟨o.elem,o.sz,rows⟩) nxt (upd σ a ⟨o.elem,o.sz,rows'⟩):=by
 have hlive:∀i x,upd σc c ⟨o.elem,o.sz,rows⟩ i=some x→∃y,σc i=some y:=fun i x hx=>by
  by_cases e:i=c
  ·rw [e]; exact ⟨o,ho⟩
  ·rw [ab e] at hx; exact ⟨x,hx⟩
 refine ⟨h.dom,?_,?_,?_,?_,?_⟩
 ·intro c1 a1 o1 h1 h2;by_cases e:c1=c
  ·subst e;have:a1=a:=h.fn c1 a1 a h1 hc;subst this;rw [ag] at h2;simp only [Oi] at h2;subst h2;exact ⟨rows',ag,hr⟩
  ·rw [ab e] at h2;have hne:a1≠a:=fun e'=>by subst e'; exact e (h.inj c1 c a1 o1 o h1 hc h2 ho)
   rw [ab hne];exact h.live c1 a1 o1 h1 h2
 ·intro c1 c2 a1 o1 o2 h1 h2 h3 h4;obtain ⟨y,hy⟩:=hlive _ _ h3;obtain ⟨z,hz⟩:=hlive _ _ h4;exact h.inj c1 c2 a1 y z h1 h2 hy hz
 ·exact h.fn
 ·intro i x hx;have hne:i≠a:=fun e=>by subst e; have:=h.kfl i x c o hx hc ho; omega
  rw [ab hne];exact h.lS i x hx
 ·intro a1 o1 c1 oc h1 h2 h3;obtain ⟨y,hy⟩:=hlive _ _ h3;exact h.kfl a1 o1 c1 y h1 h2 hy
theorem nB.rem (h:nB K fl R σc nxt σ) {c a:Nat} {o:Ob} (hc:R c a) (ho:σc c=some o) (hf:fl≤c) :
 nB K fl R (del σc c) nxt (del σ a):=by
 have hlive:∀i x,del σc c i=some x→i≠c∧σc i=some x:=fun i x hx=>by
  by_cases e:i=c
  ·subst e; simp [Vc.del] at hx
  ·rw [dh e] at hx; exact ⟨e,hx⟩
 refine ⟨h.dom,?_,?_,?_,?_,?_⟩
 ·intro c1 a1 o1 h1 h2;obtain ⟨e,h2⟩:=hlive _ _ h2;have hne:a1≠a:=fun e'=>by subst e'; exact e (h.inj c1 c a1 o1 o h1 hc h2 ho)
  rw [dh hne];exact h.live c1 a1 o1 h1 h2
 ·intro c1 c2 a1 o1 o2 h1 h2 h3 h4;exact h.inj c1 c2 a1 o1 o2 h1 h2 (hlive _ _ h3).2 (hlive _ _ h4).2
 ·exact h.fn
 ·intro i x hx;have hne:i≠a:=fun e=>by subst e; have:=h.kfl i x c o hx hc ho; omega
  rw [dh hne];exact h.lS i x hx
 ·intro a1 o1 c1 oc h1 h2 h3;exact h.kfl a1 o1 c1 oc h1 h2 (hlive _ _ h3).2
def ext (R:Nat→Nat→Prop) (c a:Nat):Nat→Nat→Prop:=fun x y=>R x y∨(x=c∧y=a)
theorem wo (c a:Nat):∀x y,R x y→ext R c a x y:=fun _ _ h=>.inl h
theorem nB.new (h:nB K fl R σc nxt σ) {i:Nat} (hi:σ i=none) {ob:Ob} {rows':List V} (hr:aN R ob.rows rows') :
 nB K fl (ext R nxt i) (upd σc nxt ob) (nxt+1) (upd σ i ⟨ob.elem,ob.sz,rows'⟩):=by
 have hlt:∀c a,R c a→c≠nxt:=fun c a hc=>by have:=h.dom c a hc; omega
 have hold:∀c a o,R c a→upd σc nxt ob c=some o→σc c=some o∧a≠i:=fun c a o hc ho=>by
  rw [ab (hlt c a hc)] at ho;refine ⟨ho,fun e=>?_⟩;subst e;obtain ⟨r,hr,_⟩:=h.live c a o hc ho;rw [hi] at hr; cases hr
 refine ⟨?_,?_,?_,?_,h.lS.upd hi,?_⟩
 ·rintro c a (hc | ⟨rfl,rfl⟩)
  ·have:=h.dom c a hc; omega
  ·omega
 ·rintro c a o (hc | ⟨rfl,rfl⟩) ho
  ·obtain ⟨h1,h2⟩:=hold c a o hc ho;obtain ⟨r,h3,h4⟩:=h.live c a o hc h1;rw [ab h2];exact ⟨r,h3,aN.mono (wo nxt i) _ _ h4⟩
  ·rw [ag] at ho;simp only [Oi] at ho;subst ho;exact ⟨rows',ag,aN.mono (wo _ _) _ _ hr⟩
 ·rintro c c' a o o' (hc | ⟨rfl,rfl⟩) (hc' | ⟨rfl,e⟩) ho ho'
  ·exact h.inj c c' a o o' hc hc' (hold _ _ _ hc ho).1 (hold _ _ _ hc' ho').1
  ·exact absurd e (hold _ _ _ hc ho).2
  ·exact absurd rfl (hold _ _ _ hc' ho').2
  ·rfl
 ·rintro c a a' (hc | ⟨rfl,rfl⟩) (hc' | ⟨e,rfl⟩)
  ·exact h.fn c a a' hc hc'
  ·exact absurd e (hlt _ _ hc)
  ·exact absurd rfl (hlt _ _ hc')
  ·rfl
 ·rintro a o c oc hk (hc | ⟨rfl,rfl⟩) ho
  ·exact h.kfl a o c oc hk hc (hold _ _ _ hc ho).1
  ·have:=h.lS a o hk;rw [hi] at this; cases this
def okX:VX→Bool
 | .t _=>true
 | .c v=>v.ee
def ph (op:VOp):Bool:=op.xs.all okX && (match op with
 | .alloc _ _ z=>z.ee
 | .build zero _=>fG zero
 | .clear _ z _=>z.ee
 | .mk _ _ _ z _=>z.ee
 | .more (.tas _ _ z) _=>z.ee
 | _=>true)
def og (i:aG):Bool:=ph i.op && (match i.g with
 | some (x,_)=>okX x
 | none=>true)
def gO:bB→Bool
 | .reg _ l=>l.all og
 | .seq a b=>gO a && gO b
 | .cond c a b=>okX c && (gO a && gO b)
 | .block _ a=>gO a
 | .loop a=>gO a
 | _=>true
def A7:VR→Bool
 | .tmp x=>okX x
 | .cell _ _ x=>okX x
 | .bad=>true
def IM (f:VFn):Bool:=gO f.code && f.res.all A7
variable {s s':Nat→V}
theorem eP (hs:∀i,aA R (s i) (s' i)) {x:VX} (hx:okX x=true):aA R (x.ev s) (x.ev s'):=by
 cases x with
 | t n=>exact hs n
 | c v=>exact ez v hx
theorem lX (hs:∀i,aA R (s i) (s' i)):∀ {xs:List VX},xs.all okX=true→aN R (xs.map (·.ev s)) (xs.map (·.ev s'))
 | [],_=>by simp [aN]
 | x::xs,h=>by
   simp only [List.all_cons,Ba] at h;exact aN.cb.2 ⟨_,_,rfl,eP hs h.1,lX hs h.2⟩
theorem x7 {op:BinOp} {k:IntKind} {a b:Int} {v:V} (h:cG op k a b=some v):v.ee=true:=by
 unfold cG at h;split at h <;> first
  | (simp only [Oi] at h; subst h; rfl)
  | (split at h <;> first | (simp only [Oi] at h; subst h; rfl) | cases h)
  | cases h
theorem zB {op:BinOp} {a b:List UInt8} {v:V} (h:ed op a b=some v):v.ee=true:=by
 unfold ed at h;split at h <;> first
  | (simp only [Oi] at h; subst h; rfl)
  | cases h
theorem Ff {op:BinOp} {a b a' b' v:V} (ha:aA R a a') (hb:aA R b b') (h:tX op a b=some v):a'=a∧b'=b∧v.ee=true:=by
 unfold tX at h;split at h
 ·simp only [aA] at ha hb;split at h
  ·exact ⟨ha,hb,x7 h⟩
  ·cases h
 ·simp only [aA] at ha hb;exact ⟨ha,hb,zB h⟩
 ·cases h
theorem F6 {b:Bool} {x x' v:V} (hx:aA R x x') (h:dD b x=some v):∃v',dD b x'=some v'∧aA R v v':=by
 unfold dD at h;split at h <;> simp only [Oi,reduceCtorEq] at h <;> simp only [aA] at hx <;> subst h
 ·obtain ⟨i,rfl,_⟩:=hx; exact ⟨_,rfl,by simp [aA]⟩
 ·obtain ⟨i,rfl,hr⟩:=hx; exact ⟨_,rfl,by simp [aA,hr.length]⟩
 ·subst hx; exact ⟨_,rfl,by simp [aA]⟩
 ·subst hx; exact ⟨_,rfl,by simp [aA]⟩
theorem iM {agg:Bool} {off sz:Nat} {vs us:List V} {v:V} (h:aN R vs us) (hv:bE agg off sz vs=some v):∃v',bE agg off sz us=some v'∧aA R v v':=by
 unfold bE at hv ⊢;cases agg
 ·simpa using h.get hv
 ·simp only [if_true,Oi] at hv ⊢;subst hv;exact ⟨_,rfl,aA.agg ((h.drop off).take sz)⟩
theorem Gi {agg:Bool} {off sz:Nat} {x x' v:V} (hx:aA R x x') (h:kv agg off sz x=some v):∃v',kv agg off sz x'=some v'∧aA R v v':=by
 unfold kv at h;split at h
 ·obtain ⟨c,rfl,hr⟩:=aA.oH.1 hx;exact iM hr h
 ·cases h
theorem C6 {agg:Bool} {off sz:Nat} {x x' v:V} (hx:aA R x x') (h:gr agg off sz x=some v):∃v',gr agg off sz x'=some v'∧aA R v v':=by
 unfold gr at h;split at h
 ·simp only [aA] at hx;obtain ⟨i,rfl,hr⟩:=hx;simp only [Oi] at h; subst h;exact ⟨_,rfl,by simp only [aA]; exact ⟨i,rfl,hr⟩⟩
 ·simp only [aA] at hx;obtain ⟨u,rfl,hr⟩:=hx;simp only [Option.map_eq_some_iff] at h;obtain ⟨w,hw,rfl⟩:=h;obtain ⟨w',h1,h2⟩:=iM hr.cells hw;exact ⟨.rp w',by simp [gr,h1],aA.rp h2⟩
 ·cases h
theorem Cq (hm:Lv R σc σ) {esz:Nat} {x i x' i' v:V} (hx:aA R x x') (hi:aA R i i') (h:bD σc esz x i=some v):∃v',bD σ esz x' i'=some v'∧aA R v v':=by
 unfold bD at h;split at h
 ·simp only [aA] at hx hi;obtain ⟨a,rfl,ha⟩:=hx;subst hi;split at h
  ·rename_i ob hob;obtain ⟨rows',h1,h2⟩:=hm _ _ _ ha hob;split at h
   ·rename_i hc;simp only [Oi] at h; subst h;refine ⟨_,?_,by simp only [aA]; exact ⟨a,rfl,ha⟩⟩;simp only [bD,h1];rw [if_pos hc]
   ·cases h
  ·cases h
 ·simp only [aA] at hx hi;obtain ⟨rows',rfl,hr⟩:=hx;subst hi;split at h
  ·rename_i hc;split at h
   ·rename_i r hrr;simp only [Oi] at h; subst h;obtain ⟨u,h1,h2⟩:=hr.get hrr;refine ⟨.rp u,?_,aA.rp h2⟩;simp only [bD,h1];rw [if_pos hc]
   ·cases h
  ·cases h
 ·cases h
theorem Au {agg:Bool} {n esz:Nat} {x i x' i' v:V} (hx:aA R x x') (hi:aA R i i') (h:dM agg n esz x i=some v):∃v',dM agg n esz x' i'=some v'∧aA R v v':=by
 unfold dM at h;split at h
 ·simp only [aA] at hx hi;obtain ⟨a,rfl,ha⟩:=hx;subst hi;split at h
  ·rename_i hc;simp only [Oi] at h; subst h;exact ⟨_,by simp only [dM]; rw [if_pos hc],by simp only [aA]; exact ⟨a,rfl,ha⟩⟩
  ·cases h
 ·simp only [aA] at hx hi;obtain ⟨u,rfl,hr⟩:=hx;subst hi;split at h
  ·rename_i hc;simp only [Option.map_eq_some_iff] at h;obtain ⟨w,hw,rfl⟩:=h;obtain ⟨w',h1,h2⟩:=iM hr.cells hw;exact ⟨.rp w',by simp only [dM]; rw [if_pos hc,h1]; rfl,aA.rp h2⟩
  ·cases h
 ·cases h
theorem DE {agg:Bool} {n esz:Nat} {x i x' i' v:V} (hx:aA R x x') (hi:aA R i i') (h:fL agg n esz x i=some v):∃v',fL agg n esz x' i'=some v'∧aA R v v':=by
 unfold fL at h;split at h
 ·obtain ⟨c,rfl,hr⟩:=aA.oH.1 hx;rw [aA.jC] at hi;subst hi;split at h
  ·rename_i hc;obtain ⟨w',h1,h2⟩:=iM hr h;exact ⟨w',by simp only [fL]; rw [if_pos hc,h1],h2⟩
  ·cases h
 ·cases h
theorem Cs {x i x' i' v:V} (hx:aA R x x') (hi:aA R i i') (h:eB x i=some v):∃v',eB x' i'=some v'∧aA R v v':=by
 have h0:=h;unfold eB at h;split at h
 ·rw [aA.rq] at hx;rw [aA.jC] at hi;subst hx hi;refine ⟨v,h0,?_⟩;split at h
  ·split at h
   ·simp only [Oi] at h; subst h; simp [aA]
   ·cases h
  ·cases h
 ·cases h
theorem uI (hm:Lv R σc σ) {agg:Bool} {sz:Nat} {x x' v:V} (hx:aA R x x') (h:bN σc agg sz x=some v):∃v',bN σ agg sz x'=some v'∧aA R v v':=by
 unfold bN at h;split at h
 ·simp only [aA] at hx;obtain ⟨a,rfl,ha⟩:=hx;split at h
  ·rename_i ob hob;obtain ⟨rows',h1,h2⟩:=hm _ _ _ ha hob;split at h
   ·rename_i r hr;obtain ⟨r',h3,h4⟩:=h2.get hr;have hl:=h4.cells.length;simp only [bN,h1,h3,hl];cases agg
    ·simp only [Bool.false_eq_true,if_false] at h ⊢;exact h4.cells.get h
    ·simp only [if_true] at h ⊢;split at h
     ·rename_i hc;simp only [Oi] at h; subst h;exact ⟨_,by rw [if_pos hc],aA.agg h4.cells⟩
     ·split at h
      ·rename_i hc hc';rw [if_neg hc,if_pos hc'];simp only [Oi] at h; subst h;exact ⟨_,rfl,aA.agg ((h4.cells.drop _).take _)⟩
      ·cases h
   ·cases h
  ·cases h
 ·simp only [aA] at hx;obtain ⟨u,rfl,hr⟩:=hx;rename_i w;have hl:=hr.cells.length;cases agg
  ·simp only [Bool.false_eq_true,if_false] at h;split at h
   ·cases h
   ·simp only [Oi] at h; subst h;rename_i hna;refine ⟨u,?_,hr⟩;cases u <;> simp only [bN,Bool.false_eq_true,if_false];cases w <;> simp only [aA] at hr <;> simp at hr hna
  ·simp only [if_true] at h;split at h
   ·rename_i hc;simp only [Oi] at h; subst h;refine ⟨_,?_,aA.agg hr.cells⟩;simp only [bN,hl,if_true];rw [if_pos hc]
   ·cases h
 ·cases h
theorem AX {d:Int}:∀ {o o':Option V},(match o,o' with | none,none=>True | some x,some x'=>aA R x x' | _,_=>False)→∀ {j:Int},bx d o=some j→bx d o'=some j
 | none,none,_,j,h=>h
 | some x,some x',hx,j,h=>by
   simp only at hx;cases x <;> simp only [bx] at h <;> first | cases h | skip
   rw [aA.jC] at hx;subst hx;rfl
 | none,some _,hx,_,_=>hx.elim
 | some _,none,hx,_,_=>hx.elim
theorem zZ (hm:Lv R σc σ) {esz:Nat} {x x' v:V} {lo hi mx lo' hi' mx':Option V} (hx:aA R x x')
 (h1:∀d j,bx d lo=some j→bx d lo'=some j) (h2:∀d j,bx d hi=some j→bx d hi'=some j) (h3:∀d j,bx d mx=some j→bx d mx'=some j)
 (h:cy σc esz x lo hi mx=some v):∃v',cy σ esz x' lo' hi' mx'=some v'∧aA R v v':=by
 unfold cy at h;split at h
 ·simp only [aA] at hx;obtain ⟨a,rfl,ha⟩:=hx;split at h
  ·rename_i l hh m e1 e2 e3;split at h
   ·rename_i hc;simp only [Oi] at h; subst h;have hsz:ir σ a esz=true:=by
     have hz:=hc.2.2.2.2;unfold ir at hz ⊢;split at hz
     ·rename_i ob hob;obtain ⟨rows',g1,g2⟩:=hm _ _ _ ha hob;rw [g1]; exact hz
     ·cases hz
    refine ⟨_,?_,by simp only [aA]; exact ⟨a,rfl,ha⟩⟩;simp only [cy,h1 _ _ e1,h2 _ _ e2,h3 _ _ e3];rw [if_pos ⟨hc.1,hc.2.1,hc.2.2.1,hc.2.2.2.1,hsz⟩]
   ·cases h
  ·cases h
 ·simp only [aA] at hx;obtain ⟨rows',rfl,hr⟩:=hx;have hl:=hr.length;split at h
  ·rename_i l hh m e1 e2 e3;split at h
   ·rename_i hc;simp only [Oi] at h; subst h;refine ⟨.sl _ ((rows'.drop l.toNat).take (hh.toNat - l.toNat)),?_,by simp only [aA]; exact ⟨_,rfl,(hr.drop _).take _⟩⟩;simp only [cy,h1 _ _ e1,hl,h2 _ _ e2,h3 _ _ e3];rw [if_pos hc]
   ·cases h
  ·cases h
 ·simp only [aA] at hx;subst hx;split at h
  ·rename_i l hh m e1 e2 e3;split at h
   ·rename_i hc;simp only [Oi] at h; subst h;refine ⟨.aD,?_,by simp [aA]⟩;simp only [cy,h1 _ _ e1,h2 _ _ e2,h3 _ _ e3];rw [if_pos hc]
   ·cases h
  ·cases h
 ·cases h
theorem x5 {x x' v:V} {lo hi lo' hi':Option V} (hx:aA R x x')
 (h1:∀d j,bx d lo=some j→bx d lo'=some j) (h2:∀d j,bx d hi=some j→bx d hi'=some j)
 (h:cK x lo hi=some v):∃v',cK x' lo' hi'=some v'∧aA R v v':=by
 unfold cK at h;split at h
 ·rw [aA.rq] at hx;subst hx;split at h
  ·rename_i l hh e1 e2;split at h
   ·rename_i hc;simp only [Oi] at h; subst h;refine ⟨_,?_,aA.rq.2 rfl⟩;simp only [cK,h1 _ _ e1,h2 _ _ e2];rw [if_pos hc]
   ·cases h
  ·cases h
 ·cases h
theorem tW {x x' v:V} (hx:aA R x x') (h:bT x=some v):∃v',bT x'=some v'∧aA R v v':=by
 unfold bT at h;split at h <;> first | cases h | skip
 all_goals (have hx0:=hx; simp only [aA] at hx; obtain ⟨i,rfl,_⟩:=hx; exact ⟨_,rfl,hx0⟩)
theorem C8 {neg:Bool} {x y x' y' v:V} (hx:aA R x x') (hy:aA R y y') (h:binBV neg x y=some v):∃v',binBV neg x' y'=some v'∧aA R v v':=by
 have h0:=h;unfold binBV at h;split at h
 ·rw [aA.kW] at hx hy;subst hx hy;refine ⟨v,h0,?_⟩;simp only [Oi] at h; subst h; simp [aA]
 ·cases h
theorem yH {m:Bool} {x y x' y' v:V} (hx:aA R x x') (hy:aA R y y') (h:cU m x y=some v):∃v',cU m x' y'=some v'∧aA R v v':=by
 have h0:=h;unfold cU at h;split at h
 ·rw [aA.jC] at hx hy;subst hx hy;refine ⟨v,h0,?_⟩;split at h
  ·simp only [Oi] at h; subst h; simp [aA]
  ·cases h
 ·cases h
theorem Aq {x y x' y':V} {b:Bool} (hx:aA R x x') (hy:aA R y y') (h:dO x y=some b):x'=x∧y'=y:=by
 unfold dO at h;split at h <;> first | cases h | skip
 all_goals simp only [aA] at hx hy
 all_goals exact ⟨hx,hy⟩
theorem pH:∀ {l m l' m':List V} {b:Bool},aN R l l'→aN R m m'→cj l m=some b→l'=l∧m'=m
 | [],[],_,_,_,h1,h2,_=>by rw [aN.gW] at h1 h2; exact ⟨h1,h2⟩
 | v::vs,u::us,_,_,b,h1,h2,h=>by
   obtain ⟨v',vs',rfl,g1,g2⟩:=aN.cb.1 h1;obtain ⟨u',us',rfl,g3,g4⟩:=aN.cb.1 h2;simp only [cj] at h;split at h
   ·rename_i e1 e2;obtain ⟨rfl,rfl⟩:=Aq g1 g3 e1;obtain ⟨rfl,rfl⟩:=pH g2 g4 e2;exact ⟨rfl,rfl⟩
   ·cases h
 | [],_::_,_,_,_,_,_,h=>by simp [cj] at h
 | _::_,[],_,_,_,_,_,h=>by simp [cj] at h
theorem Et {neg:Bool} {ks:List Nat} {x y x' y' v:V} (hx:aA R x x') (hy:aA R y y') (h:jS neg ks x y=some v):∃v',jS neg ks x' y'=some v'∧aA R v v':=by
 have h0:=h;unfold jS at h;split at h
 ·obtain ⟨c,rfl,g1⟩:=aA.oH.1 hx;obtain ⟨d,rfl,g2⟩:=aA.oH.1 hy;split at h
  ·split at h
   ·rename_i e;obtain ⟨rfl,rfl⟩:=pH g1 g2 e;refine ⟨v,h0,?_⟩;simp only [Oi] at h; subst h; simp [aA]
   ·cases h
  ·cases h
 ·cases h
theorem pO:∀ {l m:List V} {b:List UInt8},aN R l m→bytesOf l=some b→m=l
 | [],_,_,h,_=>by rw [aN.gW] at h; exact h
 | v::vs,_,b,h,hb=>by
   obtain ⟨u,us,rfl,g1,g2⟩:=aN.cb.1 h;simp only [bytesOf] at hb;split at hb
   ·rename_i e1 e2;rw [pO g2 e2];cases v <;> simp [byteOf] at e1;rw [aA.jC] at g1;rw [g1]
   ·cases hb
theorem AR (hm:Lv R σc σ) {x x' v:V} (hx:aA R x x') (h:dq σc x=some v):∃v',dq σ x'=some v'∧aA R v v':=by
 unfold dq at h;split at h
 ·simp only [aA] at hx; subst hx;simp only [Oi] at h; subst h;exact ⟨_,rfl,by simp [aA]⟩
 ·simp only [aA] at hx;obtain ⟨a,rfl,ha⟩:=hx;split at h
  ·rename_i ob hob;obtain ⟨rows',h1,h2⟩:=hm _ _ _ ha hob;split at h
   ·rename_i hc;simp only [Option.map_eq_some_iff] at h;obtain ⟨l,hl,rfl⟩:=h;have e:=pO ((h2.drop _).take _) hl;refine ⟨_,?_,aA.rq.2 rfl⟩;simp only [dq,h1,h2.length,e,hl,Option.map_some];rw [if_pos hc]
   ·cases h
  ·cases h
 ·cases h
theorem ED {i:Nat} {x x' v:V} (hx:aA R x x') (h:kc i x=some v):∃v',kc i x'=some v'∧aA R v v':=by
 unfold kc at h;split at h
 ·simp only [aA] at hx;obtain ⟨c,rfl,hr⟩:=hx;exact hr.get h
 ·cases h
def je (R:Nat→Nat→Prop):List (Nat×Nat×V)→List (Nat×Nat×V)→Prop
 | [],l=>l=[]
 | p::ps,l=>∃u us,l=(p.1,p.2.1,u)::us∧aA R p.2.2 u∧je R ps us
theorem tg:∀ {ps ps':List (Nat×Nat×V)} {z z' l:List V},aN R z z'→je R ps ps'→da z ps=some l→∃l',da z' ps'=some l'∧aN R l l'
 | [],_,z,z',l,hz,hp,h=>by
   simp only [je] at hp; subst hp;simp only [da,Oi] at h; subst h;exact ⟨_,rfl,hz⟩
 | (off,sz,x)::ps,_,z,z',l,hz,hp,h=>by
   simp only [je] at hp;obtain ⟨u,us,rfl,h1,h2⟩:=hp;simp only [da] at h ⊢;split at h
   ·rename_i hc;rw [if_pos ⟨by rw [h1.cells.length]; exact hc.1,by rw [h1.stays]; exact hc.2.1,by rw [hz.length]; exact hc.2.2⟩];refine tg ?_ h2 h;unfold bS;rw [h1.cells.length];exact ((hz.take _).append h1.cells).append (hz.drop _)
   ·cases h
theorem kZ (hs:∀i,aA R (s i) (s' i)) {lo:Option VX} (h:∀x∈lo.toList,okX x=true) (d j:Int):bx d (lo.map (·.ev s))=some j→bx d (lo.map (·.ev s'))=some j:=by
 refine AX (R:=R) ?_;cases lo with
 | none=>trivial
 | some x=>exact eP hs (h x (by simp))
theorem Dd (hm:Lv R σc σ) (hs:∀i,aA R (s i) (s' i)) {op:VOp} (hok:ph op=true) {v:V} (hp:eQ s op) (h:aE σc s op=some v) :
 eQ s' op∧∃v',aE σ s' op=some v'∧aA R v v':=by
 have hok':=hok;simp only [ph,Ba] at hok;have hx:=List.all_eq_true.1 hok.1;have E:∀x,x∈op.xs→aA R (x.ev s) (x.ev s'):=fun x h=>eP hs (hx x h);cases op <;> simp only [VOp.xs,List.mem_cons,List.not_mem_nil,or_false,forall_eq_or_imp,forall_eq,List.mem_append] at E <;> simp only [aE,eQ,Oi,reduceCtorEq,true_and] at h hp ⊢
 case mov=>subst h; exact ⟨_,rfl,E⟩
 case pick c a b =>
  split at h
  ·rename_i t ht;have:=E.1;rw [ht,aA.kW] at this;rw [this];simp only [Oi] at h ⊢;subst h;refine ⟨_,rfl,?_⟩;cases t
   ·exact E.2.2
   ·exact E.2.1
  ·cases h
 case bin op x y =>
  obtain ⟨e1,e2,e3⟩:=Ff E.1 E.2 h;rw [e1,e2];exact ⟨hp,v,h,ez v e3⟩
 case not x =>
  split at h
  ·rename_i b hb;rw [hb,aA.kW] at E;rw [E];simp only [Oi] at h ⊢; subst h;exact ⟨_,rfl,by simp [aA]⟩
  ·cases h
 case neg x =>
  split at h
  ·rename_i k b hb;rw [hb] at hp;rw [hb,aA.jC] at E;rw [E];simp only [Oi] at h ⊢; subst h;exact ⟨hp,_,rfl,by simp [aA]⟩
  ·cases h
 case len=>exact F6 E h
 case cap =>
  unfold kP at h;split at h
  ·rename_i hn;rw [hn] at E;simp only [aA] at E;rw [E];simp only [Oi] at h;subst h;exact ⟨_,rfl,by simp [aA]⟩
  ·cases h
 case fld=>exact Gi E h
 case fldA=>exact C6 E h
 case idxA=>exact Cq hm E.1 E.2 h
 case idxAA=>exact Au E.1 E.2 h
 case idxV=>exact DE E.1 E.2 h
 case idxS=>exact Cs E.1 E.2 h
 case load=>exact uI hm E h
 case slice esz x lo hi mx =>
  have hx':=hx;simp only [VOp.xs,List.mem_cons,List.mem_append] at hx';exact zZ hm E.1 (kZ hs fun y hy=>hx' y (.inr (.inl (.inl hy)))) (kZ hs fun y hy=>hx' y (.inr (.inl (.inr hy)))) (kZ hs fun y hy=>hx' y (.inr (.inr hy))) h
 case sliceS x lo hi =>
  have hx':=hx;simp only [VOp.xs,List.mem_cons,List.mem_append] at hx';exact x5 E.1 (kZ hs fun y hy=>hx' y (.inr (.inl hy))) (kZ hs fun y hy=>hx' y (.inr (.inr hy))) h
 case ext=>exact ED E h
 case more m xs =>
  by_cases hb:∃f,m=.mkB f
  ·obtain ⟨f,rfl⟩:=hb;simp only [aE,Oi] at h ⊢;subst h;exact ⟨_,rfl,by simp only [aA]; exact ⟨_,rfl,lX hs hok.1⟩⟩
  cases xs with
  | nil=>cases m <;> first | exact absurd ⟨_,rfl⟩ hb | simp [aE] at h
  | cons x xs =>
    have ex:=E x (by simp);cases xs with
    | cons y ys=>cases m <;> first | exact absurd ⟨_,rfl⟩ hb | simp [aE] at h
    | nil =>
      cases m
      case mkB=>exact absurd ⟨_,rfl⟩ hb
      case mkI t =>
       simp only [Oi] at h ⊢;subst h;exact ⟨_,rfl,by simp only [aA]; exact ⟨_,rfl,ex⟩⟩
      case tas t ok z =>
       have hz:z.ee=true:=hok.2;simp only [] at h ⊢;unfold FX at h ⊢;split at h
       ·rename_i t' v' hv';rw [hv'] at ex;simp only [aA] at ex;obtain ⟨u,hu,hru⟩:=ex;rw [hu];simp only;split at h
        ·rename_i e;rw [if_pos e];simp only [Oi] at h ⊢;subst h;refine ⟨_,rfl,?_⟩;cases ok
         ·exact hru
         ·simp only [if_true,aA,aN]; exact ⟨_,rfl,_,_,rfl,hru,_,_,rfl,rfl,rfl⟩
        ·rename_i e;rw [if_neg e];cases ok
         ·simp at h
         ·simp only [if_true,Oi] at h ⊢;subst h;refine ⟨_,rfl,?_⟩;simp only [aA,aN]; exact ⟨_,rfl,_,_,rfl,ez z hz,_,_,rfl,rfl,rfl⟩
       ·rename_i hv';rw [hv'] at ex;simp only [aA] at ex;rw [ex];cases ok
        ·simp at h
        ·simp only [if_true,Oi] at h ⊢;subst h;refine ⟨_,rfl,?_⟩;simp only [aA,aN]; exact ⟨_,rfl,_,_,rfl,ez z hz,_,_,rfl,rfl,rfl⟩
       ·cases h
      case nilP neg =>
       simp only [] at h ⊢;unfold Bz at h;split at h
       ·rename_i hv';rw [hv'] at ex;simp only [aA] at ex;rw [ex];exact ⟨v,h,by simp only [Oi] at h; subst h; simp [aA]⟩
       ·rename_i hv';rw [hv'] at ex;simp only [aA] at ex;obtain ⟨u,hu,_⟩:=ex;rw [hu];exact ⟨v,h,by simp only [Oi] at h; subst h; simp [aA]⟩
       ·rename_i hv';rw [hv'] at ex;simp only [aA] at ex;obtain ⟨u,hu,_⟩:=ex;rw [hu];exact ⟨v,h,by simp only [Oi] at h; subst h; simp [aA]⟩
       ·cases h
      all_goals simp [aE] at h
 case mkfn f xs =>
  subst h;exact ⟨_,rfl,by simp only [aA]; exact ⟨_,rfl,lX hs hok.1⟩⟩
 case convI k x =>
  split at h
  ·rename_i k' b hb;rw [hb] at hp;rw [hb,aA.jC] at E;rw [E];simp only [Oi] at h ⊢; subst h;exact ⟨hp,_,rfl,by simp [aA]⟩
  ·cases h
 case nilCheck=>exact tW E h
 case binB=>exact C8 E.1 E.2 h
 case eqS=>exact Et E.1 E.2 h
 case minmax=>exact yH E.1 E.2 h
 case bstr=>exact AR hm E h
 case build zero parts =>
  simp only [Option.map_eq_some_iff] at h;obtain ⟨l,hl,rfl⟩:=h;have hpr:∀ps:List (Nat×Nat×VX),(∀p∈ps,okX p.2.2=true)→je R (ps.map fun p=>(p.1,p.2.1,p.2.2.ev s)) (ps.map fun p=>(p.1,p.2.1,p.2.2.ev s')):=by
   intro ps
   induction ps with
   | nil=>intro _; simp [je]
   | cons p ps ih =>
     intro hps;simp only [List.map_cons,je];exact ⟨_,_,rfl,eP hs (hps p (by simp)),ih fun q hq=>hps q (by simp [hq])⟩
  obtain ⟨l',h1,h2⟩:=tg (fa zero hok.2) (hpr parts fun p hp=>hx _ (by simp only [VOp.xs,List.mem_map]; exact ⟨p,hp,rfl⟩)) hl;exact ⟨.agg l',by rw [h1]; rfl,aA.agg h2⟩
end
variable {R:Nat→Nat→Prop} {K:af} {fl:Nat} {P:Program} {n:Nat}
structure fe (K:af) (fl:Nat) (R:Nat→Nat→Prop) (cs:CS) (st:St):Prop where
 slot:∀i,aA R (cs.sf i) (st.s i)
 mem:nB K fl R (stF cs.σ) cs.nxt st.σ
theorem Dm {s s':Nat→V} (h:∀i,aA R (s i) (s' i)) {d:Option Nat} {v u:V} (hv:aA R v u):∀i,aA R (aV s d v i) (aV s' d u i):=by
 intro i;cases d with
 | none=>exact h i
 | some d =>
   show aA R (if i=d then v else s i) (if i=d then u else s' i);split
   ·exact hv
   ·exact h i
theorem fe.put {cs:CS} {st:St} (h:fe K fl R cs st) {d:Option Nat} {v u:V} (hv:aA R v u):fe K fl R (cs.put d v) ⟨aV st.s d u,st.σ⟩:=by
 refine ⟨?_,?_⟩
 ·rw [Lj]; exact Dm h.slot hv
 ·rw [(Ei cs d v).1,(Ei cs d v).2]; exact h.mem
theorem aA.H0:aA R (.tup []) (.tup []):=by simp [aA,aN]
theorem K9 (a b:Int):eqQ a b=decide (a=b):=by
 cases a <;> cases b <;> rw [Bool.eq_iff_iff] <;> simp [eqQ] <;> first | rfl | omega
theorem K2 (a b:Int):leQ a b=decide (a≤b):=by
 cases a <;> cases b <;> rw [Bool.eq_iff_iff] <;> simp only [leQ,Nat.ble_eq,decide_eq_true_eq,Bool.false_eq_true,false_iff,true_iff,Int.ofNat_eq_natCast] <;> omega
theorem Gt (a b:Int):LL a b=a+b:=by cases a <;> cases b <;> rfl
theorem Ha (a b:Int):I0 a b=a - b:=by
 cases a <;> cases b <;> simp only [I0];rename_i m k;cases h:Nat.ble k m
 ·have:¬k≤m:=by rw [←Nat.ble_eq]; simp [h]
  simp only [Nat.sub_eq,Int.ofNat_eq_natCast];omega
 ·have:k≤m:=Nat.le_of_ble_eq_true h;simp only [Nat.sub_eq,Int.ofNat_eq_natCast];omega
theorem HG {a:Int} (h:I6 a=true):inR .i64 a:=by
 cases a <;> simp only [I6,Nat.ble_eq] at h
 ·rw [Int.ofNat_eq_natCast]; exact ak (by omega) (by omega)
 ·exact ak (by omega) (by omega)
theorem HE {k:IntKind} {a:Int} (h:IS k a=true):inR k a:=by
 unfold IS at h;split at h
 ·exact HG h
 ·simpa [inR] using h
theorem iH {α:Type} {b:Bool} {x y:α}:@Bool.casesOn (fun _=>α) b x y=if b then y else x:=by cases b <;> rfl
theorem DF {α:Type} {b:Bool} {x y:α}:@Bool.rec (fun _=>α) x y b=if b then y else x:=by cases b <;> rfl
theorem vt {k:IntKind} {a:Int} {v:V} (h:gI k a=some v):v=.int k a∧inR k a:=by
 unfold gI at h;rw [iH] at h;split at h
 ·rename_i hi;simp only [Oi] at h;exact ⟨h.symm,HE hi⟩
 ·cases h
theorem AY {op:BinOp} {k:IntKind} {a b:Int} {v:V} (h:(n7 op).f k a b=some v):eG op k a b∧cG op k a b=some v:=by
 unfold n7 at h;split at h <;> simp only [] at h
 ·obtain ⟨rfl,h2⟩:=vt h; rw [Gt] at *; exact ⟨h2,rfl⟩
 ·obtain ⟨rfl,h2⟩:=vt h; rw [Ha] at *; exact ⟨h2,rfl⟩
 ·obtain ⟨rfl,h2⟩:=vt h; exact ⟨h2,rfl⟩
 ·split at h
  ·cases h
  ·rename_i hb;obtain ⟨rfl,h2⟩:=vt h; exact ⟨h2,by simp [cG,hb]⟩
 ·split at h
  ·cases h
  ·rename_i hb;simp only [Oi] at h; subst h;exact ⟨trivial,by simp [cG,hb]⟩
 all_goals first
  | exact ⟨trivial,h⟩
  | (simp only [Oi] at h; subst h; refine ⟨trivial,?_⟩; simp only [K9,K2,cG,Oi,V.bool.injEq]; try (rw [Bool.eq_iff_iff]; simp))
  | cases h
theorem zT {op:BinOp} {a b:List UInt8} {v:V} (h:wH op a b=some v):eF op a b∧ed op a b=some v:=by
 unfold wH at h;split at h
 ·rw [iH] at h;split at h
  ·rename_i hb;simp only [Oi] at h; subst h;exact ⟨Nat.le_of_ble_eq_true hb,rfl⟩
  ·cases h
 ·exact ⟨trivial,h⟩
 ·exact ⟨trivial,h⟩
 ·cases h
theorem Ea {k k':IntKind} (h:ER k k'=true):k=k':=by
 unfold ER at h;rw [iH] at h;cases k <;> cases k' <;> simp_all [J1,eqK]
theorem HK {op:BinOp} {x y v:V} (h:GA op (n7 op).f y x=some v):nG op x y∧tX op x y=some v:=by
 unfold GA at h;split at h
 ·unfold L7 at h;split at h
  ·rw [iH] at h;split at h
   ·rename_i hk;have:=Ea hk;subst this;obtain ⟨h1,h2⟩:=AY h;exact ⟨h1,by simp [tX,h2]⟩
   ·cases h
  ·cases h
 ·unfold Mg at h;split at h
  ·exact zT h
  ·cases h
 ·cases h
theorem Hr {σ:Tr (Option Ob)} {esz:Nat} {x i v:V} (h:I3 σ esz x i=some v):bD (stF σ) esz x i=some v:=by
 unfold I3 at h;split at h
 ·split at h
  ·rename_i m hm;have hj:=hm;unfold zj at hm;split at hm
   ·simp only [Oi] at hm; subst hm;split at h
    ·rename_i ob hob;rw [iH] at h;split at h
     ·rename_i hc;simp only [Ba,Nat.beq_eq,Nat.blt_eq] at hc;have e:stF σ _=some ob:=hob;simp only [bD,e];rw [if_pos ⟨hc.1,by simp,by simpa using hc.2⟩];exact h
     ·cases h
    ·cases h
   ·cases hm
  ·cases h
 ·split at h
  ·rename_i m hm;unfold zj at hm;split at hm
   ·simp only [Oi] at hm; subst hm;rw [iH] at h;split at h
    ·rename_i hc;rw [Nat.beq_eq] at hc;simp only [bD];rw [if_pos ⟨hc,by simp⟩];exact h
    ·cases h
   ·cases hm
  ·cases h
 ·cases h
theorem E1 {x i v:V} (h:ES x i=some v):eB x i=some v:=by
 unfold ES at h;split at h
 ·split at h
  ·rename_i m hm;unfold zj at hm;split at hm
   ·simp only [Oi] at hm; subst hm;simp only [eB];rw [if_pos (by simp)];exact h
   ·cases hm
  ·cases h
 ·cases h
theorem DN {σ:Tr (Option Ob)} {agg:Bool} {sz:Nat} {x v:V} (h:Ez σ agg sz x=some v):bN (stF σ) agg sz x=some v:=by
 unfold Ez at h;split at h
 ·split at h
  ·rename_i ob hob;have e:stF σ _=some ob:=hob;split at h
   ·rename_i r hr;simp only [bN,e,hr];split at h
    ·rw [iH,iH] at h;simp only [if_true];split at h
     ·rename_i hc;simp only [Ba,Nat.beq_eq] at hc;rw [if_pos hc]; exact h
     ·rename_i hc;split at h
      ·rename_i hc';rw [if_neg (by simpa using hc),if_pos (show _+sz≤_ from Nat.le_of_ble_eq_true hc')]; exact h
      ·cases h
    ·simpa using h
   ·cases h
  ·cases h
 ·exact h
theorem uD {draw:Bool} {call:ln} {dst:Option Nat} {op:VOp} {cs cs':CS} {st:St} (hk:bp op=0) (hok:ph op=true) (h:fe K fl R cs st)
 (hr:(jI draw dst op).f call fl cs=some cs'):∃v',eQ st.s op∧aE st.σ st.s op=some v'∧fe K fl R cs' ⟨aV st.s dst v',st.σ⟩:=by
 have key:∃v,eQ cs.sf op∧aE (stF cs.σ) cs.sf op=some v∧cs'=cs.put dst v:=by
  have hp:∀(g:CS→Option V),(iZ dst g).f call fl cs=some cs'→∃v,g cs=some v∧cs'=cs.put dst v:=by
   intro g hg;simp only [iZ] at hg;split at hg
   ·rename_i v hv;simp only [Oi] at hg;exact ⟨v,hv,hg.symm⟩
   ·cases hg
  cases op <;> simp only [bp,reduceCtorEq,Nat.reduceEqDiff] at hk <;> simp only [jI] at hr
  case mov x =>
   simp only [LN,Oi] at hr;exact ⟨_,trivial,rfl,hr.symm⟩
  case bin op x y =>
   have hr':(iZ dst fun cs=>GA op (n7 op).f (y.ev cs.sf) (x.ev cs.sf)).f call fl cs=some cs':=hr;obtain ⟨v,h1,h2⟩:=hp _ hr';obtain ⟨h3,h4⟩:=HK h1;exact ⟨v,h3,h4,h2⟩
  case pick c a b =>
   obtain ⟨v,h1,h2⟩:=hp _ hr;refine ⟨v,trivial,?_,h2⟩;simp only [aE];unfold Ih at h1;split at h1
   ·rename_i t ht;rw [iH] at h1;rw [ht];exact h1
   ·cases h1
  case not x =>
   obtain ⟨v,h1,h2⟩:=hp _ hr;refine ⟨v,trivial,?_,h2⟩;simp only [aE];unfold L5 at h1;split at h1
   ·rename_i t ht; rw [ht]; exact h1
   ·cases h1
  case neg x =>
   obtain ⟨v,h1,h2⟩:=hp _ hr;unfold LU at h1;split at h1
   ·rename_i k t ht;obtain ⟨h3,h4⟩:=vt h1;exact ⟨v,by simp only [eQ,ht]; exact h4,by simp only [aE,ht,h3],h2⟩
   ·cases h1
  case convI k x =>
   obtain ⟨v,h1,h2⟩:=hp _ hr;unfold Iw at h1;split at h1
   ·rename_i k t ht;obtain ⟨h3,h4⟩:=vt h1;exact ⟨v,by simp only [eQ,ht]; exact h4,by simp only [aE,ht,h3],h2⟩
   ·cases h1
  case idxA=>obtain ⟨v,h1,h2⟩:=hp _ hr; exact ⟨v,trivial,Hr h1,h2⟩
  case idxS=>obtain ⟨v,h1,h2⟩:=hp _ hr; exact ⟨v,trivial,E1 h1,h2⟩
  case load=>obtain ⟨v,h1,h2⟩:=hp _ hr; exact ⟨v,trivial,DN h1,h2⟩
  all_goals (obtain ⟨v,h1,h2⟩:=hp _ hr; exact ⟨v,trivial,h1,h2⟩)
 obtain ⟨v,h1,h2,rfl⟩:=key;obtain ⟨h3,v',h4,h5⟩:=Dd h.mem.live h.slot hok h1 h2;exact ⟨v',h3,h4,h.put h5⟩
theorem yX {σc σ:af} (hm:Lv R σc σ) {sz:Nat} {x x':V} {l:List V} (hx:aA R x x') (h:bK σc sz x=some l):∃l',bK σ sz x'=some l'∧aN R l l':=by
 unfold bK at h;split at h
 ·simp only [aA] at hx;obtain ⟨a,rfl,ha⟩:=hx;split at h
  ·rename_i ob hob;obtain ⟨rows',h1,h2⟩:=hm _ _ _ ha hob;split at h
   ·rename_i hc;simp only [Oi] at h; subst h;refine ⟨_,?_,(h2.drop _).take _⟩;simp only [bK,h1,h2.length];rw [if_pos hc]
   ·cases h
  ·cases h
 ·simp only [aA] at hx;obtain ⟨rows',rfl,hr⟩:=hx;split at h
  ·rename_i hc;simp only [Oi] at h; subst h;exact ⟨rows',by simp [bK,hc],hr⟩
  ·cases h
 ·simp only [aA] at hx; subst hx;simp only [Oi] at h; subst h;exact ⟨[],rfl,by simp [aN]⟩
 ·rename_i s;simp only [aA] at hx; subst hx;refine ⟨l,h,?_⟩;split at h
  ·simp only [Oi] at h; subst h
   induction s with
   | nil=>simp [aN]
   | cons b s ih=>simp only [List.map_cons,aN]; exact ⟨_,_,rfl,by simp [aA],ih⟩
  ·cases h
 ·cases h
theorem yZ {σc σ:af} (hm:Lv R σc σ) {e sz:Nat} {x x':V} {l:List V} {d:Option Nat} (hx:aA R x x') (h:bR σc e sz x=some (l,d)) :
 ∃l' d',bR σ e sz x'=some (l',d')∧aN R l l'∧(d=none∧d'=none∨∃c a o,d=some c∧d'=some a∧R c a∧σc c=some o):=by
 unfold bR at h;split at h
 ·simp only [aA] at hx;obtain ⟨a,rfl,ha⟩:=hx;split at h
  ·rename_i ob hob;obtain ⟨rows',h1,h2⟩:=hm _ _ _ ha hob;split at h
   ·rename_i hc;simp only [Oi,Prod.mk.injEq] at h;obtain ⟨rfl,rfl⟩:=h;refine ⟨_,some a,?_,h2.take _, .inr ⟨_,a,ob,rfl,rfl,ha,hob⟩⟩;simp only [bR,h1,h2.length];rw [if_pos hc]
   ·cases h
  ·cases h
 ·simp only [aA] at hx; subst hx;simp only [Oi,Prod.mk.injEq] at h;obtain ⟨rfl,rfl⟩:=h;exact ⟨[],none,rfl,by simp [aN], .inl ⟨rfl,rfl⟩⟩
 ·cases h
theorem jk {dst:Option Nat} {cs cs':CS} {st:St} (h:fe K fl R cs st) {m:Mk} {rows':List V} {d':Option Nat} (hrows:aN R m.ob.rows rows')
 (hd:m.gone=none∧d'=none∨∃c a o,m.gone=some c∧d'=some a∧R c a∧stF cs.σ c=some o) (hr:vN fl dst cs m=some cs') {id:Nat} (hid:st.σ id=none) :
 ∃R',(∀a b,R a b→R' a b)∧fe K fl R' cs' ⟨aV st.s dst (if m.var then .ptr id 0 0 else .own id 0 m.len),upd (bz st.σ d') id ⟨m.ob.elem,m.ob.sz,rows'⟩⟩:=by
 refine ⟨ext R cs.nxt id,wo _ _,?_⟩;have hval:aA (ext R cs.nxt id) (@Bool.casesOn (fun _=>V) m.var (.own cs.nxt 0 m.len) (.ptr cs.nxt 0 0)) (if m.var then .ptr id 0 0 else .own id 0 m.len):=by
  cases m.var
  ·simp only [aA,Bool.false_eq_true,if_false]; exact ⟨id,rfl, .inr ⟨rfl,rfl⟩⟩
  ·simp only [aA,if_true]; exact ⟨id,rfl, .inr ⟨rfl,rfl⟩⟩
 have hslot:∀i,aA (ext R cs.nxt id) (cs.sf i) (st.s i):=fun i=>aA.mono (wo _ _) _ _ (h.slot i);unfold vN at hr;rcases hd with ⟨e1,rfl⟩ | ⟨c,a,o,e1,rfl,hR,ho⟩
 ·rw [e1] at hr;simp only [Oi] at hr;subst hr;have hm:=h.mem.new hid hrows;have hS:fe K fl (ext R cs.nxt id) ⟨cs.s,lJ none (some m.ob) cs.nxt cs.σ,Nat.succ cs.nxt⟩ ⟨st.s,upd st.σ id ⟨m.ob.elem,m.ob.sz,rows'⟩⟩ :=
   ⟨hslot,by simp only [qY]; exact hm⟩
  exact hS.put hval
 ·rw [e1] at hr;simp only [iH] at hr;split at hr
  ·rename_i hf;simp only [Oi] at hr;subst hr;have h1:=h.mem.rem hR ho (Nat.le_of_ble_eq_true hf);have hid':del st.σ a id=none:=by
    by_cases e:id=a
    ·simp [del,e]
    ·rw [dh e]; exact hid
   have hm:=h1.new hid' hrows;have hS:fe K fl (ext R cs.nxt id) ⟨cs.s,lJ none (some m.ob) cs.nxt (lJ none none c cs.σ),Nat.succ cs.nxt⟩ ⟨st.s,upd (del st.σ a) id ⟨m.ob.elem,m.ob.sz,rows'⟩⟩ :=
    ⟨hslot,by simp only [qY,Hb]; exact hm⟩
   rw [iH] at hval;exact hS.put hval
  ·cases hr
theorem yT {draw:Bool} {call:ln} {dst:Option Nat} {op:VOp} {cs cs':CS} {st:St} (hk:bp op=3) (hok:ph op=true) (h:fe K fl R cs st)
 (hr:(jI draw dst op).f call fl cs=some cs'):∃g',eff st.s st.σ op=some g'∧∀id,st.σ id=none→∃R',(∀a b,R a b→R' a b) ∧
   fe K fl R' cs' ⟨aV st.s dst (g' id).1,(g' id).2⟩:=by
 have hp:∀(g:CS→Option Mk),(AI dst g).f call fl cs=some cs'→∃m,g cs=some m∧vN fl dst cs m=some cs':=by
  intro g hg;simp only [AI] at hg;split at hg
  ·rename_i v hv;exact ⟨v,hv,hg⟩
  ·cases hg
 simp only [ph,Ba] at hok;have hx:=List.all_eq_true.1 hok.1;cases op <;> simp only [bp,reduceCtorEq,Nat.reduceEqDiff] at hk <;> simp only [jI] at hr
 case more m xs=>cases m <;> simp at hk
 case alloc e sz z =>
  obtain ⟨m,h1,h2⟩:=hp _ hr;simp only [Oi] at h1; subst h1;refine ⟨_,rfl,fun id hid=>?_⟩;have:=jk (d':=none) h (aN.one (ez (R:=R) z hok.2)) (.inl ⟨rfl,rfl⟩) h2 hid;simpa [bz] using this
 case box e sz x =>
  obtain ⟨m,h1,h2⟩:=hp _ hr;have hv:=eP h.slot (hx x (by simp [VOp.xs]));unfold My at h1;rw [iH] at h1;split at h1
  ·rename_i hc;simp only [Ba,Nat.beq_eq] at hc;simp only [Oi] at h1; subst h1;refine ⟨fun id=>(.ptr id 0 0,upd st.σ id ⟨e,sz,[x.ev st.s]⟩),?_,fun id hid=>?_⟩
   ·simp only [eff];rw [if_pos ⟨by rw [hv.cells.length]; exact hc.1,by rw [hv.stays]; exact hc.2⟩]
   ·have:=jk (d':=none) h (aN.one hv) (.inl ⟨rfl,rfl⟩) h2 hid;simpa [bz] using this
  ·cases h1
 case appz=>simp [iZ,aE] at hr
 case mk e sz bytes z x =>
  obtain ⟨m,h1,h2⟩:=hp _ hr;have hv:=eP h.slot (hx x (by simp [VOp.xs]));unfold mkQ at h1;split at h1
  ·rename_i kk mm hxe;rw [hxe] at hv;simp only [aA] at hv;split at h1
   ·split at h1
    ·rename_i j hj;rw [iH] at h1;split at h1
     ·rename_i hc;simp only [Oi] at h1; subst h1;have hmj:mm=(j:Int):=by
       cases mm <;> simp only [zj,Oi,reduceCtorEq] at hj;subst hj; rfl
      subst hmj;refine ⟨fun id=>(.own id 0 j,upd st.σ id ⟨e,sz,List.replicate j z⟩),?_,fun id hid=>?_⟩
      ·simp only [eff];rw [hv];have hc':j*(bytes+1)≤140737488355328:=Nat.le_of_ble_eq_true hc;simp only [Int.toNat_natCast];rw [if_pos ⟨by omega,hc'⟩]
      ·have:=jk (d':=none) h (aN.replicate (ez (R:=R) z hok.2) j) (.inl ⟨rfl,rfl⟩) h2 hid;simpa [bz] using this
     ·cases h1
    ·cases h1
   ·cases h1
  ·cases h1
 case bf e sz xs =>
  obtain ⟨m,h1,h2⟩:=hp _ hr;have hv:=lX h.slot hok.1;simp only [VOp.xs] at hv;unfold Bu at h1;rw [iH] at h1;split at h1
  ·rename_i hc;simp only [Oi] at h1; subst h1;refine ⟨fun id=>(.own id 0 xs.length,upd st.σ id ⟨e,sz,xs.map (·.ev st.s)⟩),?_,fun id hid=>?_⟩
   ·simp only [eff];rw [if_pos];rw [List.all_eq_true];intro y hy;rw [List.mem_map] at hy;obtain ⟨x,hxx,rfl⟩:=hy;have hvx:=eP h.slot (hx x (by simp [VOp.xs,hxx]));have:=List.all_eq_true.1 hc (x.ev cs.sf) (List.mem_map.2 ⟨x,hxx,rfl⟩);simp only [Ba,Nat.beq_eq] at this;simp [hvx.cells.length,hvx.stays,this]
   ·have:=jk (d':=none) h hv (.inl ⟨rfl,rfl⟩) h2 hid;simpa [bz] using this
  ·cases h1
 case append e sz bytes xa xb =>
  obtain ⟨m,h1,h2⟩:=hp _ hr;have ha:=eP h.slot (hx xa (by simp [VOp.xs]));have hb:=eP h.slot (hx xb (by simp [VOp.xs]));unfold A0 at h1;split at h1
  ·rename_i base idA src e1 e2;obtain ⟨base',d',g1,g2,g3⟩:=yZ h.mem.live ha e1;obtain ⟨src',g4,g5⟩:=yX h.mem.live hb e2;rw [iH] at h1;split at h1
   ·rename_i hc;simp only [Oi] at h1; subst h1;refine ⟨fun id=>(.own id 0 (base'.length+src'.length),upd (bz st.σ d') id ⟨e,sz,base'++src'⟩),?_,fun id hid=>?_⟩
    ·simp only [eff,g1,g4];rw [if_pos (by rw [g2.length,g5.length]; exact Nat.le_of_ble_eq_true hc)]
    ·have:=jk h (g2.append g5) g3 h2 hid;simpa [g2.length,g5.length] using this
   ·cases h1
  ·cases h1
theorem yO {r r' x x' q:V} {k sz:Nat} (hr:aA R r r') (hx:aA R x x') (h:cc r k sz x=some q):∃q',cc r' k sz x'=some q'∧aA R q q':=by
 unfold cc at h;split at h
 ·rename_i hc;have hc':x'.cells.length=sz∧x'.stays=true:=⟨by rw [hx.cells.length]; exact hc.1,by rw [hx.stays]; exact hc.2⟩
  split at h
  ·rename_i hd;simp only [Oi] at h; subst h;refine ⟨x',?_,hx⟩;unfold cc;rw [if_pos hc',if_pos ⟨hd.1,by rw [hr.cells.length]; exact hd.2⟩]
  ·rename_i hd;split at h
   ·rename_i he;simp only [Oi] at h; subst h;refine ⟨_,?_,aA.agg (((hr.cells.take k).append hx.cells).append (hr.cells.drop (k+sz)))⟩;unfold cc;rw [if_pos hc',if_neg (by rw [hr.cells.length]; exact hd),if_pos (by rw [hr.cells.length]; exact he)]
   ·cases h
 ·cases h
theorem rH {dst:Option Nat} {sz:Nat} {xa xv:VX} {call:ln} {cs cs':CS} {st:St} (hok:ph (.store sz xa xv)=true) (h:fe K fl R cs st)
 (hr:(AT dst sz xa xv).f call fl cs=some cs'):∃σ',cI st.σ sz (xa.ev st.s) (xv.ev st.s)=some σ'∧fe K fl R cs' ⟨aV st.s dst (.tup []),σ'⟩:=by
 simp only [ph,VOp.xs,List.all_cons,List.all_nil,Bool.and_true,Ba] at hok;have ha:=eP h.slot hok.1;have hv:=eP h.slot hok.2;simp only [AT,BY] at hr;split at hr
 ·rename_i id i0 c hptr;rw [hptr] at ha;simp only [aA] at ha;obtain ⟨a,ha1,ha2⟩:=ha;rw [DF] at hr;split at hr
  ·rename_i hf;split at hr
   ·rename_i ob hob;have hob':stF cs.σ id=some ob:=hob;obtain ⟨rows',h1,h2⟩:=h.mem.live _ _ _ ha2 hob';split at hr
    ·rename_i r hrr;obtain ⟨r',h3,h4⟩:=h2.get hrr;split at hr
     ·rename_i q hq;obtain ⟨q',h5,h6⟩:=yO h4 hv hq;simp only [Oi] at hr;subst hr;refine ⟨upd st.σ a ⟨ob.elem,ob.sz,rows'.set i0 q'⟩,?_,?_⟩
      ·simp only [cI,ha1,h1,h3,h5]
      ·have hm:=h.mem.write ha2 hob' (Nat.le_of_ble_eq_true hf) (h2.set i0 h6);have hS:fe K fl R ⟨cs.s,lJ none (some ⟨ob.elem,ob.sz,ob.rows.set i0 q⟩) id cs.σ,cs.nxt⟩ ⟨st.s,upd st.σ a ⟨ob.elem,ob.sz,rows'.set i0 q'⟩⟩ :=
        ⟨h.slot,by simp only [qY]; exact hm⟩
       exact hS.put aA.H0
     ·cases hr
    ·cases hr
   ·cases hr
  ·cases hr
 ·cases hr
variable {P:Program} {n:Nat}
def Le (R R':Nat→Nat→Prop):Prop:=∀a b,R a b→R' a b
theorem Le.refl (R:Nat→Nat→Prop):Le R R:=fun _ _ h=>h
theorem Le.trans {R R' R'':Nat→Nat→Prop} (h:Le R R') (h':Le R' R''):Le R R'':=fun a b g=>h' a b (h a b g)
def rD (P:Program) (call:ln):Prop:=∀g args σc nxt fl r,call g args σc nxt fl=some r→∀(K:af) (R:Nat→Nat→Prop) (σ:af) (args':List V),
 nB K fl R (stF σc) nxt σ→aN R args args'→az P g args' σ fun v σ'=>∃R',Le R R'∧aA R' r.v v∧nB K fl R' (stF r.σ) r.nxt σ'
theorem az.drop {f:FuncId} {args:List V} {σ:af} {Post Post':V→af→Prop} (h:az P f args σ Post)
 (hp:∀r σ',Post r σ'→∃σ0,aa σ0 σ'∧Post' r σ0):az P f args σ Post':=by
 refine ⟨h.1,fun μ w vals hs hr=>(h.2 μ w vals hs hr).mono ?_⟩;rintro e w' ⟨r,σ',μ',val,h1,h2,h3,h4,h5⟩;obtain ⟨σ0,h6,h7⟩:=hp r σ' h2;exact ⟨r,σ0,μ',val,h1,h7,h3,h4.drop h6,Wk.refl h6 r μ' _ _ _ val h4 h5⟩
section
variable {call:ln} {K:af} {fl:Nat} {R:Nat→Nat→Prop} {cs cs':CS} {st:St} {Q:St→Prop} {k:List It}
theorem qt {draw:Bool} {i:aG} (hok:og i=true) (h:fe K fl R cs st) (hr:(qn draw i).f call fl cs=some cs') :
 (bh st.s i.g=some true∧(jI draw i.dst i.op).f call fl cs=some cs')∨(bh st.s i.g=some false∧cs'=cs.put i.dst (.tup [])):=by
 simp only [og,Ba] at hok;unfold qn at hr;split at hr
 ·rename_i hg;exact .inl ⟨by simp [hg,bh],hr⟩
 ·rename_i x b hg;have hx:=hok.2;simp only [hg] at hx;have hv:=eP h.slot hx;simp only [EL] at hr;split at hr
  ·rename_i c hc;rw [hc,aA.kW] at hv;rw [DF] at hr;split at hr
   ·rename_i hcb;simp only [Oi] at hr;refine .inr ⟨?_,hr.symm⟩;simp only [hg,bh,hv];cases c <;> cases b <;> simp_all
   ·rename_i hcb;refine .inl ⟨?_,hr⟩;simp only [hg,bh,hv];cases c <;> cases b <;> simp_all
  ·rename_i hc;rw [hc] at hv;simp only [aA,aN] at hv;obtain ⟨c',hv,rfl⟩:=hv;simp only [Oi] at hr;exact .inr ⟨by simp only [hg,bh,hv],hr.symm⟩
  ·rename_i hc;rw [hc,aA.jC] at hv;simp only [Oi] at hr;exact .inr ⟨by simp only [hg,bh,hv],hr.symm⟩
  ·cases hr
theorem Bw {draw:Bool} {dst:Option Nat} {op:VOp} (h:op=.bad∨(∃b x,op=.rngS b x)∨(∃x,op=.nxtS x)∨∃m xs,op=.more m xs∧bp op=4) (hr:(jI draw dst op).f call fl cs=some cs'):False:=by
 rcases h with rfl | ⟨b,x,rfl⟩ | ⟨x,rfl⟩ | ⟨m,xs,rfl,hk⟩
 case inr.inr.inr=>cases m <;> simp [bp] at hk <;> simp [jI,iZ,aE] at hr
 all_goals simp [jI,iZ,aE] at hr
theorem pV (op:VOp):bp op=0∨(∃fx xs,op=.call fx xs)∨(∃sz a x,op=.store sz a x)∨bp op=3∨(∃sz z x,op=.clear sz z x)∨(op=.bad∨(∃b x,op=.rngS b x)∨(∃x,op=.nxtS x)∨∃m xs,op=.more m xs∧bp op=4):=by
 cases op
 case more m xs=>cases m <;> simp [bp]
 all_goals simp [bp]
theorem HQ (hc:rD P call) {i:aG} {l:List aG} (hok:og i=true) (h:fe K fl R cs st) (hr:(qn false i).f call fl cs=some cs')
 (hk:∀R' st',Le R R'→fe K fl R' cs' st'→ad P n (.ops l::k) st' Q):ad P n (.ops (i::l)::k) st Q:=by
 have hop:ph i.op=true:=by simp only [og,Ba] at hok; exact hok.1
 rcases qt hok h hr with ⟨hw,hr⟩ | ⟨hw,rfl⟩
 ·rcases pV i.op with h0 | ⟨fx,xs,h0⟩ | ⟨sz,a,x,h0⟩ | h0 | ⟨sz,z,x,h0⟩ | h0
  ·obtain ⟨v',h1,h2,h3⟩:=uD h0 hop h hr;exact ad.pure hw h1 h2 (hk R _ (Le.refl R) h3)
  ·rw [h0] at hr hop;simp only [jI,FD] at hr;simp only [ph,VOp.xs,List.all_cons,Ba] at hop;split at hr
   ·rename_i f caps hf;have hfx:=eP h.slot hop.1.1;rw [hf] at hfx;simp only [aA] at hfx;obtain ⟨caps',hf',hcaps⟩:=hfx;generalize hcl:call f (xs.map (·.ev cs.sf)++caps) cs.σ cs.nxt fl=r at hr;cases r with
    | none=>simp [Aj] at hr
    | some r =>
      simp only [Aj,Oi] at hr;refine ad.call hw h0 hf' (hc _ _ _ _ _ _ hcl K R st.σ _ h.mem ((lX h.slot hop.1.2).append hcaps)) ?_;rintro v σ' ⟨R',hle,hv,hm⟩;have hS:fe K fl R' ⟨cs.s,r.σ,r.nxt⟩ ⟨st.s,σ'⟩:=⟨fun j=>aA.mono hle _ _ (h.slot j),hm⟩
      exact hk R' _ hle (hr ▸ hS.put hv)
   ·cases hr
  ·rw [h0] at hr hop;obtain ⟨σ',h1,h2⟩:=rH hop h hr;exact ad.cI hw h0 h1 (hk R _ (Le.refl R) h2)
  ·obtain ⟨g',h1,h2⟩:=yT h0 hop h hr;refine ad.eff hw h1 fun id hid=>?_;obtain ⟨R',h3,h4⟩:=h2 id hid;exact hk R' _ h3 h4
  ·rw [h0] at hr hop;simp only [jI,AQ,BH] at hr;simp only [ph,VOp.xs,List.all_cons,List.all_nil,Bool.and_true,Ba] at hop;have hx:=eP h.slot hop.1;split at hr
   ·rename_i id off len hid;rw [hid] at hx;simp only [aA] at hx;obtain ⟨a,ha1,ha2⟩:=hx;rw [DF] at hr;split at hr
    ·rename_i hf;split at hr
     ·rename_i ob hob;have hob':stF cs.σ id=some ob:=hob;obtain ⟨rows',g1,g2⟩:=h.mem.live _ _ _ ha2 hob';rw [DF] at hr;split at hr
      ·rename_i hcc;simp only [Ba,Nat.beq_eq,Nat.ble_eq] at hcc;simp only [Oi] at hr;refine ad.clear hw h0 ha1 g1 hcc.1 (by rw [g2.length]; exact hcc.2) ?_;have hm:=h.mem.write ha2 hob' (Nat.le_of_ble_eq_true hf) (((g2.take off).append (aN.replicate (ez (R:=R) z hop.2) len)).append (g2.drop (off+len)));have hS:fe K fl R ⟨cs.s,lJ none (some ⟨ob.elem,ob.sz,ob.rows.take off++List.replicate len z++ob.rows.drop (off+len)⟩) id cs.σ,cs.nxt⟩
        ⟨st.s,upd st.σ a ⟨ob.elem,ob.sz,rows'.take off++List.replicate len z++rows'.drop (off+len)⟩⟩:=⟨h.slot,by simp only [qY]; exact hm⟩
       exact hk R _ (Le.refl R) (hr ▸ hS.put aA.H0)
      ·cases hr
     ·cases hr
    ·cases hr
   ·cases hr
  ·exact (Bw h0 hr).elim
 ·exact ad.qX hw (hk R _ (Le.refl R) (h.put aA.H0))
theorem MJ (hc:rD P call) {i:aG} (hok:og i=true) (h:fe K fl R cs st) (hr:(qn true i).f call fl cs=some cs') {K':St→Prop}
 (hk:∀R' st',Le R R'→fe K fl R' cs' st'→K' st'):T P i st K':=by
 have hop:ph i.op=true:=by simp only [og,Ba] at hok; exact hok.1
 rcases qt hok h hr with ⟨hw,hr⟩ | ⟨hw,rfl⟩
 ·refine nu hw ?_;rcases pV i.op with h0 | ⟨fx,xs,h0⟩ | ⟨sz,a,x,h0⟩ | h0 | ⟨sz,z,x,h0⟩ | h0
  ·obtain ⟨v',h1,h2,h3⟩:=uD h0 hop h hr;unfold TO;simp only [h0];exact ⟨h1,v',h2,hk R _ (Le.refl R) h3⟩
  ·rw [h0] at hr hop;rw [h0];simp only [jI,FD] at hr;simp only [ph,VOp.xs,List.all_cons,Ba] at hop;split at hr
   ·rename_i f caps hf;have hfx:=eP h.slot hop.1.1;rw [hf] at hfx;simp only [aA] at hfx;obtain ⟨caps',hf',hcaps⟩:=hfx;generalize hcl:call f (xs.map (·.ev cs.sf)++caps) cs.σ cs.nxt cs.nxt=r at hr;cases r with
    | none=>simp [vD] at hr
    | some r =>
      simp only [vD,DF] at hr;split at hr
      ·rename_i hno;simp only [Oi] at hr;refine ⟨f,caps',r.v,hf',fun σ1 hs1=>?_,hk R _ (Le.refl R) (hr ▸ h.put (ez r.v hno))⟩;have hm0:nB σ1 cs.nxt R (stF cs.σ) cs.nxt σ1:=⟨h.mem.dom,h.mem.live.sup hs1,h.mem.inj,h.mem.fn,aa.refl _,fun _ _ c _ _ hcR _=>h.mem.dom c _ hcR⟩
       refine (hc _ _ _ _ _ _ hcl σ1 R σ1 _ hm0 ((lX h.slot hop.1.2).append hcaps)).drop ?_;rintro v σ' ⟨R',hle,hv,hm⟩;exact ⟨σ1,hm.lS,oJ _ _ hno hv,rfl⟩
      ·cases hr
   ·cases hr
  ·rw [h0] at hr hop;rw [h0];obtain ⟨σ',h1,h2⟩:=rH hop h hr;exact ⟨σ',h1,hk R _ (Le.refl R) h2⟩
  ·obtain ⟨g',h1,h2⟩:=yT h0 hop h hr;unfold TO;simp only [h0];refine ⟨g',h1,fun id hid=>?_⟩;obtain ⟨R',h3,h4⟩:=h2 id hid;exact hk R' _ h3 h4
  ·rw [h0] at hr;simp [jI,AQ] at hr
  ·exact (Bw h0 hr).elim
 ·exact re hw (hk R _ (Le.refl R) (h.put aA.H0))
theorem lp (draw:Bool) (m:Nat) (i:aG) (l:List aG):lM draw call fl (m+1) (i::l) cs=match (qn draw i).f call fl cs with
 | some cs'=>lM draw call fl m l cs'
 | none=>.bad:=by
 show (@Option.casesOn CS (fun _=>Out) ((qn draw i).f call fl cs) .bad (lM draw call fl m l))=_;cases (qn draw i).f call fl cs <;> rfl
theorem BG (hc:rD P call):∀(m:Nat) (l:List aG) (R:Nat→Nat→Prop) (cs:CS) (st:St),lM false call fl m l cs=.nx cs'→l.all og=true→fe K fl R cs st →
 (∀R' st',Le R R'→fe K fl R' cs' st'→ad P n k st' Q)→ad P n (.ops l::k) st Q
 | 0,_,_,_,_,h,_,_,_=>by cases h
 | m+1,[],R,cs,st,h,_,hs,hk=>by
   have h':Out.nx cs=.nx cs':=h;simp only [Out.nx.injEq] at h';subst h';exact ad.A6 (hk R st (Le.refl R) hs)
 | m+1,i::l,R,cs,st,h,hok,hs,hk=>by
   rw [lp] at h;simp only [List.all_cons,Ba] at hok;split at h
   ·rename_i cs1 h1;refine HQ hc hok.1 hs h1 fun R' st' hle hs'=>?_;exact BG hc m l R' cs1 st' h hok.2 hs' fun R'' st'' hle' hs''=>hk R'' st'' (hle.trans hle') hs''
   ·cases h
theorem IA (hc:rD P call) {K':St→Prop}:∀(m:Nat) (l:List aG) (R:Nat→Nat→Prop) (cs:CS) (st:St),lM true call fl m l cs=.nx cs'→l.all og=true→fe K fl R cs st →
 (∀R' st',Le R R'→fe K fl R' cs' st'→K' st')→fZ P K' l st
 | 0,_,_,_,_,h,_,_,_=>by cases h
 | m+1,[],R,cs,st,h,_,hs,hk=>by
   have h':Out.nx cs=.nx cs':=h;simp only [Out.nx.injEq] at h';subst h';exact hk R st (Le.refl R) hs
 | m+1,i::l,R,cs,st,h,hok,hs,hk=>by
   rw [lp] at h;simp only [List.all_cons,Ba] at hok;split at h
   ·rename_i cs1 h1;refine MJ hc hok.1 hs h1 fun R' st' hle hs'=>?_;exact IA hc m l R' cs1 st' h hok.2 hs' fun R'' st'' hle' hs''=>hk R'' st'' (hle.trans hle') hs''
   ·cases h
end
def C0 (P:Program) (n:Nat) (K:af) (fl:Nat) (R:Nat→Nat→Prop) (k:List It) (Q:St→Prop):Out→Prop
 | .nx cs=>∀R' st,Le R R'→fe K fl R' cs st→ad P n k st Q
 | .ex id cs=>∃k',dQ id k=some k'∧∀R' st,Le R R'→fe K fl R' cs st→ad P n k' st Q
 | .rt cs=>∀R' st,Le R R'→fe K fl R' cs st→Q st
 | .bad=>False
theorem C0.le {K:af} {fl:Nat} {R R':Nat→Nat→Prop} {k:List It} {Q:St→Prop} {o:Out} (h:C0 P n K fl R k Q o) (hle:Le R R'):C0 P n K fl R' k Q o:=by
 cases o
 case bad=>exact h
 case ex=>obtain ⟨k',h1,h2⟩:=h; exact ⟨k',h1,fun R'' st h3 h4=>h2 R'' st (hle.trans h3) h4⟩
 all_goals exact fun R'' st h3 h4=>h R'' st (hle.trans h3) h4
def tH (P:Program) (code:FuncId→Option VFn):Prop:=∀g vf,code g=some vf→eK P g=true∧IM vf=true∧∃fn,P.funcs[g]?=some fn∧cfn P fn=some vf
def LOk (P:Program) (code:FuncId→Option VFn) (fuel:Nat):Prop:=∀(n:Nat) (K:af) (fl:Nat) (R:Nat→Nat→Prop) (c:bB) (cs:CS) (st:St) (k:List It) (Q:St→Prop),
 gO c=true→fe K fl R cs st→C0 P n K fl R k Q (evL code fuel fl c cs)→ad P n (.code c::k) st Q
theorem BN (i:Nat):∀(l:List V) (k:Nat) (t:Tr V),kS (.tup []) i (Tr.ofL l k t)=if k≤i∧i < k+l.length then l.getD (i - k) (.tup []) else kS (.tup []) i t
 | [],k,t=>by simp [Tr.ofL]; intro h1 h2; omega
 | v::l,k,t=>by
   rw [Tr.ofL,BN i l (k+1),oC];simp only [List.length_cons];by_cases h1:i=k
   ·subst h1;rw [if_neg (by omega),if_pos rfl,if_pos (by omega)];simp
   ·by_cases h2:k+1≤i∧i < k+1+l.length
    ·rw [if_pos h2,if_pos (by omega),show i - k=(i - (k+1))+1 by omega];simp
    ·rw [if_neg h2,if_neg h1,if_neg (by omega)]
theorem AS {K:af} {fl:Nat} {R:Nat→Nat→Prop} {cs:CS} {st:St} (h:fe K fl R cs st) {r:VR} (hok:A7 r=true) {v:V} (hv:fY ⟨cs.sf,stF cs.σ⟩ r=some v) :
 ∃v',fY st r=some v'∧aA R v v':=by
 cases r <;> simp only [fY,reduceCtorEq,Oi] at hv ⊢
 case tmp x=>subst hv; exact ⟨_,rfl,eP h.slot hok⟩
 case cell agg sz x=>exact uI h.mem.live (eP h.slot hok) hv
theorem rV {K:af} {fl:Nat} {R:Nat→Nat→Prop} {cs:CS} {st:St} (h:fe K fl R cs st):∀ {l:List VR},l.all A7=true→∀ {vs:List V},et ⟨cs.sf,stF cs.σ⟩ l=some vs →
 ∃vs',et st l=some vs'∧aN R vs vs'
 | [],_,vs,hv=>by simp only [et,Oi] at hv; subst hv; exact ⟨[],rfl,by simp [aN]⟩
 | r::l,hok,vs,hv=>by
   simp only [List.all_cons,Ba] at hok;simp only [et] at hv;split at hv
   ·rename_i v h1;split at hv
    ·rename_i us h2;simp only [Oi] at hv; subst hv;obtain ⟨v',g1,g2⟩:=AS h hok.1 h1;obtain ⟨us',g3,g4⟩:=rV h hok.2 h2;exact ⟨v'::us',by simp [et,g1,g3],aN.cb.2 ⟨v',us',rfl,g2,g4⟩⟩
    ·cases hv
   ·cases hv
theorem Fj {K:af} {fl:Nat} {R:Nat→Nat→Prop} {cs:CS} {st:St} (h:fe K fl R cs st) {l:List VR} (hok:l.all A7=true) {v:V} (hv:mD ⟨cs.sf,stF cs.σ⟩ l=some v) :
 ∃v',mD st l=some v'∧aA R v v':=by
 unfold mD at hv;cases hr:et ⟨cs.sf,stF cs.σ⟩ l with
 | none=>simp [hr] at hv
 | some vs =>
   obtain ⟨vs',g1,g2⟩:=rV h hok hr;rw [hr] at hv;unfold mD;rw [g1]
   match vs,hv,g2 with
   | [],hv,g2 =>
     rw [aN.gW] at g2; subst g2;simp only [Oi] at hv; subst hv;exact ⟨_,rfl,by simp [aA,aN]⟩
   | [u],hv,g2 =>
     obtain ⟨x,xs,rfl,g3,g4⟩:=aN.cb.1 g2;rw [aN.gW] at g4; subst g4;simp only [Oi] at hv; subst hv;exact ⟨_,rfl,g3⟩
   | u1::u2::us,hv,g2 =>
     obtain ⟨x,xs,rfl,g3,g4⟩:=aN.cb.1 g2;obtain ⟨y,ys,rfl,g5,g6⟩:=aN.cb.1 g4;simp only [Oi] at hv; subst hv;exact ⟨_,rfl,by simp only [aA]; exact ⟨_,rfl,g2⟩⟩
theorem wN {code:FuncId→Option VFn} (hcode:tH P code) {fuel:Nat} (ih:LOk P code fuel):rD P (evF (evL code fuel) code):=by
 intro g args σc nxt fl r hr K R σ args' hm hargs;unfold evF at hr;split at hr
 ·cases hr
 ·rename_i vf hvf;rw [iH] at hr;split at hr
  ·rename_i hlen;obtain ⟨hcl,hok,fn,hf,hcf⟩:=hcode g vf hvf;simp only [IM,Ba] at hok;have hlen':=Nat.le_of_ble_eq_true hlen;refine az.l5 hf hcf hcl (by rw [hargs.length]; exact hlen') ?_;have hs:fe K fl R ⟨Tr.ofL args 0 .e,σc,nxt⟩ ⟨cd args',σ⟩:=by
    refine ⟨fun i=>?_,hm⟩;show aA R (kS (.tup []) i (Tr.ofL args 0 .e)) (args'.getD i (.tup []));rw [BN,K1];by_cases hi:i < args.length
    ·rw [if_pos ⟨Nat.zero_le _,by omega⟩,Nat.sub_zero];obtain ⟨u,h1,h2⟩:=hargs.get (List.getElem?_eq_getElem hi);simp only [List.getD_eq_getElem?_getD,h1,List.getElem?_eq_getElem hi,Option.getD_some];exact h2
    ·rw [if_neg (by omega)];have:args'[i]?=none:=List.getElem?_eq_none (by rw [hargs.length]; omega);simp only [List.getD_eq_getElem?_getD,this,Option.getD_none];simp [aA,aN]
   have hfin:∀cs',G7 vf.res cs'=some r→∀R' st,Le R R'→fe K fl R' cs' st→Ret vf.res st fun v σ'=>∃R',Le R R'∧aA R' r.v v∧nB K fl R' (stF r.σ) r.nxt σ':=by
    intro cs' hq R' st hle hs';unfold G7 at hq;split at hq
    ·rename_i v hv;simp only [Oi] at hq;subst hq;obtain ⟨v',g1,g2⟩:=Fj hs' hok.2 hv;exact ⟨v',v',st.σ,g1,aa.refl _,Wk.refl (aa.refl _) _,R',hle,g2,hs'.mem⟩
    ·cases hq
   refine ih vf.n K fl R vf.code _ _ [] _ hok.1 hs ?_;generalize evL code fuel fl vf.code ⟨Tr.ofL args 0 .e,σc,nxt⟩=o at hr;cases o <;> simp only [LQ,reduceCtorEq] at hr
   ·exact fun R' st hle hs'=>ad.nil (hfin _ hr R' st hle hs')
   ·exact fun R' st hle hs'=>hfin _ hr R' st hle hs'
  ·cases hr
theorem zx (code:FuncId→Option VFn) (f fl:Nat) (c:bB) (cs:CS):evL code (f+1) fl c cs=match c with
 | .skip=>.nx cs
 | .reg draw l=>EF draw (evF (evL code f) code) fl l cs
 | .seq a b=>Cd (evL code f fl a cs) fun cs'=>evL code f fl b cs'
 | .cond c a b=>onB (c.ev cs.sf) (evL code f fl a cs) (evL code f fl b cs)
 | .block id a=>Ke id (evL code f fl a cs)
 | .loop a=>Cd (evL code f fl a cs) fun cs'=>evL code f fl (.loop a) cs'
 | .exit id=>.ex id cs
 | .ret=>.rt cs
 | .cC ..=>.bad
 | .regA ..=>.bad
 | .o6 ..=>.bad
 | .bad=>.bad:=rfl
theorem xH {draw:Bool} {call:ln} {fl:Nat}:∀(m:Nat) (l:List aG) (cs:CS),(∃cs',lM draw call fl m l cs=.nx cs')∨lM draw call fl m l cs=.bad
 | 0,_,_=>.inr rfl
 | m+1,[],cs=>.inl ⟨cs,rfl⟩
 | m+1,i::l,cs=>by
   rw [lp];split
   ·exact xH m l _
   ·exact .inr rfl
theorem Km {code:FuncId→Option VFn} (hcode:tH P code):∀fuel,LOk P code fuel:=by
 intro fuel
 induction fuel using Nat.strongRecOn with
 | _ fuel ih =>
   intro n K fl R c cs st k Q hok hs hthen;cases fuel with
   | zero=>exact hthen.elim
   | succ f =>
     have ihf:=ih f (by omega);rw [zx] at hthen;cases c with
     | skip=>exact ad.skip (hthen R st (Le.refl R) hs)
     | reg draw l =>
       simp only [gO] at hok;simp only [EF] at hthen;rcases xH (draw:=draw) (call:=evF (evL code f) code) (fl:=fl) 1000 l cs with ⟨cs',he⟩ | he
       ·rw [he] at hthen;cases draw
        ·exact ad.region (BG (wN hcode ihf) 1000 l R cs st he hok hs hthen)
        ·exact ad.A2 (IA (wN hcode ihf) 1000 l R cs st he hok hs hthen)
       ·rw [he] at hthen; exact hthen.elim
     | seq a b =>
       simp only [gO,Ba] at hok;refine ad.seq (ihf n K fl R a cs st _ Q hok.1 hs ?_);simp only [Cd] at hthen;generalize evL code f fl a cs=o at hthen;cases o with
       | nx cs1=>exact fun R1 st1 hle1 hs1=>ihf n K fl R1 b cs1 st1 k Q hok.2 hs1 (hthen.le hle1)
       | ex id cs1=>exact hthen
       | rt cs1=>exact hthen
       | bad=>exact hthen
     | cond c a b =>
       simp only [gO,Ba] at hok;have hv:=eP hs.slot hok.1;have hthen:C0 P n K fl R k Q (onB (c.ev cs.sf) (evL code f fl a cs) (evL code f fl b cs)):=hthen;unfold onB at hthen;split at hthen
       ·rename_i t ht;rw [ht,aA.kW] at hv;refine ad.cond hv (fun e=>?_) (fun e=>?_)
        ·subst e; exact ihf n K fl R a cs st k Q hok.2.1 hs hthen
        ·subst e; exact ihf n K fl R b cs st k Q hok.2.2 hs hthen
       ·exact hthen.elim
     | block id a =>
       simp only [gO] at hok;refine ad.block (ihf n K fl R a cs st _ Q hok hs ?_);simp only [Ke] at hthen;generalize evL code f fl a cs=o at hthen;cases o with
       | nx cs1=>exact fun R1 st1 hle1 hs1=>ad.inBlock (hthen R1 st1 hle1 hs1)
       | ex j cs1 =>
         simp only [DF] at hthen;by_cases hj:j=id
         ·subst hj;rw [if_pos (by rw [Nat.beq_eq])] at hthen;exact ⟨k,by simp [dQ],hthen⟩
         ·rw [if_neg (by rw [Nat.beq_eq]; exact hj)] at hthen;obtain ⟨k',h1,h2⟩:=hthen;exact ⟨k',by simp [dQ,hj,h1],h2⟩
       | rt cs1=>exact hthen
       | bad=>exact hthen
     | loop a =>
       have hok':=hok;simp only [gO] at hok;have hthen0:C0 P n K fl R k Q (evL code (f+1) fl (.loop a) cs):=hthen;generalize ho:evL code (f+1) fl (.loop a) cs=o at hthen0;refine ad.loop (fun m st=>m≤f+1∧∃R1 cs1,Le R R1∧fe K fl R1 cs1 st∧evL code m fl (.loop a) cs1=o) (f+1) ⟨Nat.le_refl _,R,cs,Le.refl R,hs,ho⟩ ?_;rintro m st1 ⟨hm,R1,cs1,hle1,hs1,ho1⟩;cases m with
       | zero =>
         have:o=.bad:=ho1.symm;rw [this] at hthen0; exact hthen0.elim
       | succ m =>
         have ihm:=ih m (by omega);rw [zx] at ho1;refine ihm n K fl R1 a cs1 st1 _ Q hok hs1 ?_;simp only [Cd] at ho1;generalize evL code m fl a cs1=o1 at ho1;cases o1 with
         | nx cs2=>exact fun R2 st2 hle2 hs2=>ad.stop ⟨m,by omega,by omega,R2,cs2,hle1.trans hle2,hs2,ho1⟩
         | ex id cs2 =>
           have ho1:Out.ex id cs2=o:=ho1;rw [←ho1] at hthen0;obtain ⟨k',h1,h2⟩:=hthen0;exact ⟨k',by simpa [dQ] using h1,fun R2 st2 hle2 hs2=>h2 R2 st2 (hle1.trans hle2) hs2⟩
         | rt cs2 =>
           have ho1:Out.rt cs2=o:=ho1;rw [←ho1] at hthen0;exact fun R2 st2 hle2 hs2=>hthen0 R2 st2 (hle1.trans hle2) hs2
         | bad =>
           have ho1:Out.bad=o:=ho1;rw [←ho1] at hthen0; exact hthen0.elim
     | exit id =>
       obtain ⟨k',h1,h2⟩:=hthen;exact ad.exit h1 (h2 R st (Le.refl R) hs)
     | ret=>exact ad.ret (hthen R st (Le.refl R) hs)
     | cC g ps a b=>exact hthen.elim
     | regA l deps=>exact hthen.elim
     | o6 l e=>exact hthen.elim
     | bad=>exact hthen.elim
def vT (g:V→V→Bool):List V→List V→Bool
 | [],[]=>true
 | v::vs,u::us=>g v u && vT g vs us
 | _,_=>false
def fzB:Nat→Tr (Option Ob)→V→V→Bool
 | 0,_,_,_=>false
 | f+1,σ,v,u=>match v with
   | .own id off len=>match u with
     | .sl sz rows=>match kS none id σ with
       | some ob=>Nat.beq ob.sz sz && (Nat.ble (off+len) ob.rows.length && vT (fzB f σ) ((ob.rows.drop off).take len) rows)
       | none=>false
     | _=>false
   | .aD=>match u with
     | .sl _ rows=>rows.isEmpty
     | .aD=>true
     | _=>false
   | .sl sz rows=>match u with
     | .sl sz' rows'=>Nat.beq sz sz' && vT (fzB f σ) rows rows'
     | _=>false
   | .agg cs=>match u with
     | .agg ds=>vT (fzB f σ) cs ds
     | _=>false
   | .tup cs=>match u with
     | .tup ds=>vT (fzB f σ) cs ds
     | _=>false
   | .int k n=>match u with
     | .int k' n'=>eqK k k' && eqQ n n'
     | _=>false
   | .bool b=>match u with
     | .bool b'=>b == b'
     | _=>false
   | .str b=>match u with
     | .str b'=>decide (b=b')
     | _=>false
   | .nilp=>match u with
     | .nilp=>true
     | _=>false
   | _=>false
theorem Gw {a b:Int} (h:eqQ a b=true):a=b:=by
 cases a <;> cases b <;> simp only [eqQ,Bool.false_eq_true] at h
 ·rw [Nat.eq_of_beq_eq_true h]
 ·rw [Nat.eq_of_beq_eq_true h]
theorem FJ {R:Nat→Nat→Prop} {σt:Tr (Option Ob)} {σ:af} (hm:Lv R (stF σt) σ):∀(f:Nat) (v u v':V),fzB f σt v v'=true→aA R v u→Fz σ (fun a=>∃c o,R c a∧stF σt c=some o) u v'
 | 0,_,_,_,h,_=>by simp [fzB] at h
 | f+1,v,u,v',h,hr=>by
   have hL:∀(vs us out:List V),vT (fzB f σt) vs out=true→aN R vs us→FzL σ (fun a=>∃c o,R c a∧stF σt c=some o) us out:=by
    intro vs
    induction vs with
    | nil =>
      intro us out h1 h2;rw [aN.gW] at h2; subst h2;cases out with
      | nil=>exact .nil
      | cons a b=>simp [vT] at h1
    | cons a vs ih =>
      intro us out h1 h2;obtain ⟨b,bs,rfl,h3,h4⟩:=aN.cb.1 h2;cases out with
      | nil=>simp [vT] at h1
      | cons c cs =>
        simp only [vT,Ba] at h1;exact .cons _ _ _ _ (FJ hm f _ _ _ h1.1 h3) (ih _ _ h1.2 h4)
   have hno:v.ee=true→v'=v→Fz σ (fun a=>∃c o,R c a∧stF σt c=some o) u v':=fun h1 h2=>by
    have:=oJ v u h1 hr;rw [this,h2];exact .same v h1
   simp only [fzB] at h;cases v <;> simp only [Bool.false_eq_true] at h
   case own id off len =>
    split at h
    ·split at h
     ·rename_i ob hob;simp only [Ba] at h;obtain ⟨h1,h2,h3⟩:=h;simp only [aA] at hr;obtain ⟨id',rfl,hR⟩:=hr;obtain ⟨rows',g1,g2⟩:=hm _ id' ob hR hob;have:=hL _ _ _ h3 ((g2.drop _).take _);rw [←Nat.eq_of_beq_eq_true h1];exact .own id' _ _ ⟨ob.elem,ob.sz,rows'⟩ _ g1 ⟨_,ob,hR,hob⟩ (by rw [g2.length]; exact Nat.le_of_ble_eq_true h2) this
     ·cases h
    ·cases h
   case aD =>
    split at h
    ·rename_i sz rows;simp only [aA] at hr; subst hr;have:rows=[]:=by simpa using h
     subst this;exact .nil _
    ·exact hno rfl rfl
    ·cases h
   case sl sz rows =>
    split at h
    ·simp only [Ba] at h;simp only [aA] at hr;obtain ⟨rows',rfl,hr⟩:=hr;rw [←Nat.eq_of_beq_eq_true h.1];exact .sl _ _ _ (hL _ _ _ h.2 hr)
    ·cases h
   case agg cs =>
    split at h
    ·simp only [aA] at hr;obtain ⟨es,rfl,hr⟩:=hr;exact .agg _ _ (hL _ _ _ h hr)
    ·cases h
   case tup cs =>
    split at h
    ·simp only [aA] at hr;obtain ⟨es,rfl,hr⟩:=hr;exact .tup _ _ (hL _ _ _ h hr)
    ·cases h
   case int k n =>
    split at h
    ·simp only [Ba] at h;refine hno rfl ?_;rw [Gw h.2,of_decide_eq_true h.1]
    ·cases h
   case bool b =>
    split at h
    ·refine hno rfl ?_;rw [eq_of_beq h]
    ·cases h
   case str b =>
    split at h
    ·refine hno rfl ?_;rw [of_decide_eq_true h]
    ·cases h
   case nilp =>
    split at h
    ·exact hno rfl rfl
    ·cases h
def FY (code:FuncId→Option VFn) (fuel:Nat) (f:FuncId) (args:List V) (v:V):Bool:=match evF (evL code fuel) code f args .e 0 0 with
 | some r=>fzB 10 r.σ r.v v
 | none=>false
theorem aU.tq {P:Program} {code:FuncId→Option VFn} (hcode:tH P code) {fuel:Nat} {f:FuncId} {args:List V} {v:V} (ha:fG args=true)
 (h:FY code fuel f args v=true):aU P f args v:=by
 intro σ;unfold FY at h;split at h
 ·rename_i r hr;have hm:nB σ 0 (fun _ _=>False) (stF .e) 0 σ:=⟨fun _ _ h=>h.elim,fun _ _ _ h=>h.elim,fun _ _ _ _ _ h=>h.elim,fun _ _ _ h=>h.elim,aa.refl σ,fun _ _ _ _ _ h=>h.elim⟩
  refine (wN hcode (Km hcode fuel) f args .e 0 0 r hr σ _ σ args hm (fa args ha)).H7 ?_;rintro u σ' ⟨R',_,h1,h2⟩;refine ⟨v,σ,h2.lS,(FJ h2.live 10 r.v u v h h1).wk h2.lS ?_,rfl,rfl⟩;rintro a ⟨c,o,hc,ho⟩;cases hk:σ a with
  | none=>rfl
  | some x=>have:=h2.kfl a x c o hk hc ho; omega
 ·cases h
open Go.Proofs Go.Proofs.Tryz
def cdF (P:Program) (l:List Nat) (f:FuncId):Option VFn :=
 if l.contains f then (P.funcs[f]?).bind fun fn=>(cfn P fn).bind fun vf=>if eK P f && IM vf then some vf else none else none
theorem Lf (P:Program) (l:List Nat):tH P (cdF P l):=by
 intro g vf h;unfold cdF at h;split at h
 ·simp only [Option.bind_eq_some_iff] at h;obtain ⟨fn,h1,vf',h2,h3⟩:=h;split at h3
  ·rename_i h4;simp only [Ba] at h4;simp only [Oi] at h3;subst h3;exact ⟨h4.1,h4.2,fn,h1,h2⟩
  ·cases h3
 ·cases h
def Mq:List Nat:=[46,73,74,108,109,110,111,112,152,153,154,155,184,185,186,187,188,208]
noncomputable def On:FuncId→Option VFn:=cdF prog Mq
theorem oz:tH prog On:=Lf _ _
end Go.Vc
