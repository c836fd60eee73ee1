/- Part 10 of the library of this proof. -/
import Derived.Test.YthlfggpepphopaaGreatW9
import Derived.Test.YthlfggpepphopaaGreatProg
import Derived.KernelRfl
set_option linter.all false
set_option maxHeartbeats 8000000
set_option maxRecDepth 100000
namespace Go.Vc
open Go.Proofs Go.Proofs.Tryz
section
variable {P:Program} {n:Nat} {st:St} {Q:St→Prop} {k:List It}
theorem EM {o:Op} {x y:VX} (h:cop P n o=.bin .sub x y):∃t x0 y0 yt,o=.binOp .sub t x0 y0 yt∧cx n x0=x∧cx n y0=y:=by
 cases o
 case binOp op' t x0 y0 yt =>
  simp only [cop,ck] at h
  repeat' split at h
  all_goals first
   | (simp only [VOp.bin.injEq] at h; obtain ⟨rfl,h2,h3⟩:=h; exact ⟨t,x0,y0,yt,rfl,h2,h3⟩)
   | cases h
   | (cases op' <;> cases h)
 case call c =>
  obtain ⟨callee,args,argTypes⟩:=c;cases callee
  case builtin b=>cases b <;> simp only [cop] at h <;> (repeat' split at h) <;> cases h
  all_goals (simp only [cop] at h; cases h)
 case unOp op t x=>cases op <;> simp only [cop] at h <;> cases h
 case makeFunc f a b=>cases f <;> simp only [cop] at h <;> (repeat' split at h) <;> cases h
 all_goals (simp only [cop] at h; (repeat' split at h) <;> cases h)
theorem ad.L6 {i:aG} {l:List aG} {x y:VX} {kk:IntKind} {a b:Int} (hw:bl st.s i.g=some true) (ho:i.op=.bin .sub x y) (hx:x.ev st.s=.int kk a) (hy:y.ev st.s=.int kk b)
 (h:ad P n (.ops l::k) ⟨aW st.s i.dst (.int kk (kk.wrap (a - b))),st.σ⟩ Q):ad P n (.ops (i::l)::k) st Q:=by
 refine ad.ins (by rw [ho]; simp) hw fun F hn μ act w o all hi hs next Q' hnext=>?_
 subst hn;obtain ⟨hop,hd⟩:=dP hi;rw [ho] at hop;obtain ⟨t,x0,y0,yt,g1,rfl,rfl⟩:=EM hop;have ex:act.eval x0=.int kk a:=by
  have:=cg hs x0;rw [hx] at this;simpa [Rep] using this
 have ey:act.eval y0=.int kk b:=by
  have:=cg hs y0;rw [hy] at this;simpa [Rep] using this
 have hrun:(execOp act.eval o).run P w=.ok (.value (.int kk (kk.wrap (a - b)))) w:=by
  unfold execOp;rw [g1];simp [ex,ey,eqGuard,binOp,Op.intArith]
 unfold Oper.wp;rw [hrun];refine hnext _ _ _ ⟨μ,?_⟩ h;have:=hs.pure (d:=o.dst) (v:=.int kk (kk.wrap (a - b))) (x:=.int kk (kk.wrap (a - b))) (by simp [Rep]);rw [←hd];exact this
end
def vY (h:Int):Prop:=-9223372036854775808≤h∧h≤9223372036854775807
theorem Hh (x:Int):vY (IntKind.i64.wrap x):=by unfold vY; rw [IntKind.wrap_i64]; omega
theorem DQ (x B:Int) (hB:0≤B):0≤(if B < if 0 > x then 0 else x then B else if 0 > x then 0 else x)∧(if B < if 0 > x then 0 else x then B else if 0 > x then 0 else x)≤B:=by
 by_cases h:0 > x
 ·simp only [if_pos h]; split <;> omega
 ·simp only [if_neg h]; split <;> omega
theorem Hp (l:List Nd) (hlen:l.length≤1000000000000) (hw:∀x∈l,x.words.length≤200000000000000) (h:Int) (hh:vY h) (σ:af) :
 av prog 14 [aJ l,vI h] σ fun r σ'=>(∃x,r=.bool x∧(x=false→l.length≤30))∧σ'=σ:=by
 refine e14.r (by simp [c14]) ?_;have hln:=eE l;refine ad.mix 9 ?_;by_cases h30:l.length≤30
 ·have q0:((l.length:Int) > 30)=False:=eq_false (by omega);apply sR;simp only [go_sem,seval,c14,hln,q0];refine ad.eD (fun st=>st.σ=σ∧st.s 0=aJ l∧st.s 1=vI h∧∃c g:Int,st.s 5=vI c∧st.s 6=vI g∧0≤g∧g≤1152921504606846976)
   (fun m st=>∃(i:Nat) (c g:Int),i≤l.length∧m=l.length - i∧st.σ=σ∧st.s 0=aJ l∧st.s 1=vI h∧st.s 5=vI c∧0≤c∧c≤i*200000000000000∧st.s 6=vI g∧0≤g∧g≤i*3300000000000∧st.s 7=vI i) l.length ?_ ?_ ?_
  ·exact ⟨0,0,0,by omega,by omega,rfl,rfl,rfl,rfl,by omega,by omega,rfl,by omega,by omega,rfl⟩
  ·rintro m ⟨S,τ⟩ ⟨i,c,g,hi,rfl,hσ,t0,t1,t5,hc0,hc1,t6,hg0,hg1,t7⟩;simp only at hσ t0 t1 t5 t6 t7;subst hσ;refine ad.mix 9 ?_;by_cases hlt:i < l.length
   ·have q1:((i:Int) < l.length)=True:=eq_true (by omega);have hnd:=fun σ=>cT (σ:=σ) (l:=l) (a:=i) hlt;have hwi:=hw _ (List.getElem_mem hlt);have hlw:=dz l[i].words;have r1:inR .i64 ((i:Int)+1):=ak (by omega) (by omega);have r2:inR .i64 (c+l[i].words.length):=ak (by omega) (by omega);apply sR;simp only [go_sem,seval,t0,t1,t5,t6,t7,hln,q1,hnd,Nd.cells,Sty.cells,hlw,r1,r2,ua];obtain ⟨b0,b1⟩:=DQ l[i].line 8589934592 (by omega);obtain ⟨d0,d1⟩:=DQ l[i].h 2199023255552 (by omega);have e0:0≤(if 120 < (l[i].words.length:Int) then 120 else (l[i].words.length:Int))∧(if 120 < (l[i].words.length:Int) then 120 else (l[i].words.length:Int))≤120:=by split <;> omega
    obtain ⟨e0,e1⟩:=e0;generalize (if 8589934592 < if 0 > l[i].line then 0 else l[i].line then 8589934592 else if 0 > l[i].line then 0 else l[i].line)=A at *;generalize (if 2199023255552 < if 0 > l[i].h then 0 else l[i].h then 2199023255552 else if 0 > l[i].h then 0 else l[i].h)=B at *;generalize (if 120 < (l[i].words.length:Int) then 120 else (l[i].words.length:Int))=C at *;have m0:=Int.mul_nonneg b0 e0;have m1:=Int.mul_le_mul b1 e1 e0 (by omega:(0:Int)≤8589934592);generalize A*C=M at *;exact ⟨ak (by omega) (by omega),ak (by omega) (by omega),ak (by omega) (by omega),_,by omega,i+1,_,_,by omega,rfl,rfl,by omega,by omega,rfl,by omega,by omega,rfl⟩
   ·have q1:((i:Int) < l.length)=False:=eq_false (by omega);apply sR;simp only [go_sem,seval,t0,t7,hln,q1];exact ⟨t1,c,g,t5,t6,hg0,by omega⟩
  ·rintro ⟨S,τ⟩ ⟨hσ,t0,t1,c,g,t5,t6,hg0,hg1⟩;simp only at hσ t0 t1 t5 t6;subst hσ;refine ad.mix 9 ?_;apply sR;simp only [go_sem,seval,t0,t1,t5,t6];refine ad.eD (fun st=>st.σ=τ∧∃h':Int,st.s 1=vI h'∧vY h'∧st.s 5=vI c∧st.s 6=vI g)
    (fun m st=>∃(i:Nat) (h':Int),i≤l.length∧m=l.length - i∧st.σ=τ∧st.s 0=aJ l∧st.s 1=vI h'∧vY h'∧st.s 5=vI c∧st.s 6=vI g∧st.s 8=vI i) l.length ?_ ?_ ?_
   ·exact ⟨0,h,by omega,by omega,rfl,t0,t1,hh,t5,t6,rfl⟩
   ·rintro m ⟨S,τ'⟩ ⟨i,h',hi,rfl,hσ,t0,t1,hh',t5,t6,t8⟩;simp only at hσ t0 t1 t5 t6 t8;subst hσ;refine ad.mix 9 ?_;by_cases hlt:i < l.length
    ·have q1:((i:Int) < l.length)=True:=eq_true (by omega);have hnd:=fun σ=>cT (σ:=σ) (l:=l) (a:=i) hlt;have r1:inR .i64 ((i:Int)+1):=ak (by omega) (by omega);by_cases hb:h' = -9223372036854775808
     ·(refine ad.bD Orc.nothing 22 ?_; simp only [go_sem,seval,nr,t0,t1,t5,t6,t8,hln,q1,hnd,Nd.cells,Sty.cells])
      refine ad.L6 rfl rfl rfl rfl ?_;generalize IntKind.i64.wrap (h' - 1)=X
      (refine ad.bD Orc.nothing 2 ?_; simp only [go_sem,seval,nr,t0,t1])
      refine ad.L6 rfl rfl rfl rfl ?_;generalize hX:IntKind.i64.wrap _=Y;have hY:vY Y:=by rw [←hX]; exact Hh _
      apply sR;simp only [go_sem,seval,t8,r1,t5,t6,t0];exact ⟨_,by omega,i+1,_,by omega,rfl,rfl,hY,rfl⟩
     ·apply sR;simp only [go_sem,seval,t0,t1,t5,t6,t8,hln,q1,hnd,Nd.cells,Sty.cells,r1];have hz:0≤(if (if 0 > h' - 1 then 0 else h' - 1) < (if 0 > l[i].st.head then 0 else l[i].st.head) then (if 0 > h' - 1 then 0 else h' - 1) else if 0 > l[i].st.head then 0 else l[i].st.head) ∧
       (if (if 0 > h' - 1 then 0 else h' - 1) < (if 0 > l[i].st.head then 0 else l[i].st.head) then (if 0 > h' - 1 then 0 else h' - 1) else if 0 > l[i].st.head then 0 else l[i].st.head)≤(if 0 > h' - 1 then 0 else h' - 1):=by
       have h1:0≤(if 0 > h' - 1 then 0 else h' - 1):=by split <;> omega
       have h2:0≤(if 0 > l[i].st.head then 0 else l[i].st.head):=by split <;> omega
       generalize (if 0 > h' - 1 then 0 else h' - 1)=A at *;generalize (if 0 > l[i].st.head then 0 else l[i].st.head)=B at *;split <;> omega
      have hx:(if 0 > h' - 1 then 0 else h' - 1)=0∨(if 0 > h' - 1 then 0 else h' - 1)=h' - 1∧h'≥1:=by split <;> omega
      generalize (if (if 0 > h' - 1 then 0 else h' - 1) < (if 0 > l[i].st.head then 0 else l[i].st.head) then (if 0 > h' - 1 then 0 else h' - 1) else if 0 > l[i].st.head then 0 else l[i].st.head)=Z at *;unfold vY at hh';exact ⟨ak (by omega) (by omega),ak (by omega) (by omega),_,by omega,i+1,_,by omega,rfl,rfl,⟨by omega,by omega⟩,rfl⟩
    ·have q1:((i:Int) < l.length)=False:=eq_false (by omega);apply sR;simp only [go_sem,seval,t0,t8,hln,q1];exact ⟨h',t1,hh',t5,t6⟩
   ·rintro ⟨S,τ'⟩ ⟨hσ,h',t1,hh',t5,t6⟩;simp only at hσ t1 t5 t6;subst hσ;refine ad.mix 9 ?_;have fin:∀x:Bool,au (.bool x) τ' fun r σ'=>(∃x,r=.bool x∧(x=false→l.length≤30))∧σ'=τ':=fun x=>⟨_,_,aa.refl _,Wk.refl (aa.refl _) _,⟨_,rfl,fun _=>h30⟩,rfl⟩
    by_cases p1:c > 120
    ·have q1:(c > 120)=True:=eq_true p1;apply sR;simp only [go_sem,seval,t1,t5,t6,q1];exact fin _
    ·have q1:(c > 120)=False:=eq_false p1;by_cases p2:h'≥1
     ·have q2:(h'≥1)=True:=eq_true p2;have q3:(h'=0)=False:=eq_false (by omega);have hq0:=Int.tdiv_nonneg hg0 (by omega:0≤h');have hq1:=Int.tdiv_le_self h' hg0;have r1:inR .i64 (g.tdiv h'):=ak (by omega) (by omega);by_cases p4:g.tdiv h' > 3000
      ·have q4:(g.tdiv h' > 3000)=True:=eq_true p4;apply sR;simp only [go_sem,seval,t1,t5,t6,q1,q2,q3,q4,r1];exact fin _
      ·have q4:(g.tdiv h' > 3000)=False:=eq_false p4;apply sR;simp only [go_sem,seval,t1,t5,t6,q1,q2,q3,q4,r1];exact fin _
     ·have q2:(h'≥1)=False:=eq_false p2;apply sR;simp only [go_sem,seval,t1,t5,t6,q1,q2];exact fin _
 ·have q0:((l.length:Int) > 30)=True:=eq_true (by omega);apply sR;simp only [go_sem,seval,c14,hln,q0];exact ⟨_,_,aa.refl _,Wk.refl (aa.refl _) _,⟨_,rfl,fun h=>by cases h⟩,rfl⟩
open Go.Proofs Go.Proofs.Tryz
theorem vp (l:List Frg):dK false (aQ l)=some (.int .i64 l.length):=by simp [aQ,dK]
theorem Bs {σ:af} {l:List Frg} {i:Nat} (h:i < l.length):bF σ 7 (aQ l) (.int .i64 i)=some (.rp (aX l[i])):=by simp [aQ,bF,h,aX]
open Go.Proofs Go.Proofs.Tryz
theorem og (l:List Pag):dK false (dc l)=some (.int .i64 l.length):=by simp [dc,dK]
theorem te {σ:af} {l:List Pag} {i:Nat} (h:i < l.length):bF σ 5 (dc l) (.int .i64 i)=some (.rp (bN l[i])):=by simp [dc,bF,h,bN]
theorem n9 (σ:af) (l:List Frg):bO σ false 1 (.rp (aQ l))=some (aQ l):=rfl
theorem BM {l:List Atm}:∀ {fs:List Frg} {a d a' d':Int},0≤a→goP l a d fs=some (a',d')→0≤d→(fs.length:Int)≤a' - a+1∧a'≤max a l.length∧a≤a'
 | [],a,d,a',d',h0,h,_=>by
   simp only [goP,Oi,Prod.mk.injEq] at h;obtain ⟨rfl,rfl⟩:=h;simp; omega
 | x::r,a,d,a',d',h0,h,hd=>by
   obtain ⟨⟨h1, -, -, -,h5, -, -, -⟩,h9⟩:=rC h;rw [List.length_cons];rcases h9 with ⟨h6,h7⟩ | ⟨h6,h7,h8,h10⟩
   ·have:=BM (by omega) h7 (Int.le_refl _);omega
   ·subst h7 h8; simp; omega
theorem G5 (b:Bk) (hb:fK b) (P:List Pag) (hP:P.length≤10000000000) (hr:zB b 0 0 0 P) :
 aV prog 18 [dc P,bt b.atoms] (.tup [bh (eL b.atoms 0 0 0 P), .bool true]):=fun σ=>by
 refine e18.r (by simp [c18]) ?_;have hs:=aa.refl σ;have hlP:=og P;have hla:=gT b.atoms;have hal:=hb.len;have hfl:(eL b.atoms 0 0 0 P).length≤900000:=by
  have:=nq (b:=b) (i:=0) (Int.le_refl 0) (Int.le_refl 0) hr;have e:mq 0 0=0:=rfl;omega
 have hpc:∀p:Pag,(bN p).cells=[vI p.no,vI p.kind,aQ p.hs,aQ p.fs,aQ p.ls]:=fun _=>rfl;have hpp:∀p:Pag,(bN p).stays=true:=fun _=>rfl;have hfc:∀f:Frg,(aX f).cells=[vI f.node,vI f.atom,vI f.fr,vI f.x,vI f.y,vI f.w,vI f.h]:=fun _=>rfl;have hfs:∀f:Frg,(aX f).stays=true:=fun _=>rfl;generalize hFL:eL b.atoms 0 0 0 P=FL at *;refine ad.mix 12 ?_;apply sR;simp only [go_sem,seval,c18];refine ad.eD (fun st=>aa σ st.σ∧aM σ st.σ 3 1 (st.s 6) (FL.map vI)∧st.s 1=bt b.atoms∧st.s 7=vI b.atoms.length∧st.s 8=vI 0)
  (fun m st=>∃(i:Nat) (a d:Int) (mf:Nat) (pre:List Int),i≤P.length∧m=P.length - i∧0≤a∧0≤d∧a≤b.atoms.length∧zB b a d mf (P.drop i)∧FL=pre++eL b.atoms i a d (P.drop i)∧aa σ st.σ∧aM σ st.σ 3 1 (st.s 6) (pre.map vI) ∧
    st.s 0=dc P∧st.s 1=bt b.atoms∧st.s 7=vI a∧st.s 8=vI d∧st.s 9=vI i) P.length ?_ ?_ ?_
 ·exact ⟨0,0,0,0,[],by omega,rfl,by omega,by omega,by omega,hr,hFL.symm,hs,aM.start,rfl,rfl,rfl,rfl,rfl⟩
 ·clear hs;rintro m ⟨S,τ⟩ ⟨i,a,d,mf,pre,hi,rfl,ha0,hd0,hal2,hrun,hF,hs,ho,t0,t1,t7,t8,t9⟩;simp only at hs ho t0 t1 t7 t8 t9;generalize hv6:S 6=v6 at ho;refine ad.mix 12 ?_;by_cases hlt:i < P.length
  ·have q:((i:Int) < P.length)=True:=eq_true (by omega);have ri:inR .i64 ((i:Int)+1):=ak (by omega) (by omega);have hpi:=fun σ=>te (σ:=σ) hlt;have hdr:P.drop i=P[i]::P.drop (i+1):=List.drop_eq_getElem_cons hlt;rw [hdr] at hrun hF;obtain ⟨a',d',j,g1, -, -,g4⟩:=hrun;rw [lJ g1] at hF;have hgl:=BM ha0 g1 hd0;obtain ⟨-, -,ha1,hd1⟩:=l5 (i:=i) ha0 hd0 g1;generalize P[i]=p at *;have hfn:p.fs.length≤1000000:=by omega
   have hlf:=vp p.fs;apply sR;simp only [go_sem,seval,t0,t1,t7,t8,t9,hv6,hlP,q];refine ad.eD (fun st=>aa σ st.σ∧(∃pre':List Int,FL=pre'++eL b.atoms (i+1) a' d' (P.drop (i+1))∧aM σ st.σ 3 1 (st.s 6) (pre'.map vI))∧st.s 0=dc P∧st.s 1=bt b.atoms∧st.s 7=vI a'∧st.s 8=vI d'∧st.s 9=vI i)
    (fun m st=>∃(k:Nat) (a d:Int) (pre:List Int),k≤p.fs.length∧m=p.fs.length - k∧0≤a∧0≤d∧goP b.atoms a d (p.fs.drop k)=some (a',d')∧FL=pre++(eG b.atoms i a d (p.fs.drop k)++eL b.atoms (i+1) a' d' (P.drop (i+1)))∧aa σ st.σ∧aM σ st.σ 3 1 (st.s 6) (pre.map vI) ∧
      st.s 0=dc P∧st.s 1=bt b.atoms∧st.s 7=vI a∧st.s 8=vI d∧st.s 9=vI i∧st.s 10=vI k) p.fs.length ?_ ?_ ?_
   ·exact ⟨0,a,d,pre,by omega,rfl,ha0,hd0,g1,hF,hs,(by show aM σ τ _ 1 (S 6) _; rw [hv6]; exact ho),t0,t1,t7,t8,t9,rfl⟩
   ·clear ho hv6 t0 t1 t7 t8 t9 hs hF;clear ha0 hd0 hal2 g1 hgl;rintro m ⟨S,τ⟩ ⟨k,a,d,pre,hk,rfl,ha0,hd0,g1,hF,hs,ho,t0,t1,t7,t8,t9,t10⟩;simp only at hs ho t0 t1 t7 t8 t9 t10;generalize hv6:S 6=v6 at ho;refine ad.mix 12 ?_;by_cases hkl:k < p.fs.length
    ·have q1:((k:Int) < p.fs.length)=True:=eq_true (by omega);have hdk:p.fs.drop k=p.fs[k]::p.fs.drop (k+1):=List.drop_eq_getElem_cons hkl;rw [hdk] at g1 hF;rw [CT] at hF;have hfk:=fun σ=>Bs (σ:=σ) hkl;generalize p.fs[k]=x at *;obtain ⟨⟨⟨c0,c1⟩,c2,c3,c4,c5,c6,c7,c8⟩,c9⟩:=rC g1;obtain ⟨ka,rfl⟩:∃n:Nat,a=n:=⟨a.toNat,by omega⟩
     have hka:ka < b.atoms.length:=by omega
     have hai:=fun σ=>gQ (σ:=σ) hka;rw [bj hka] at c3 c6 c7 c8 c9 hF;have hat:=hb.tight _ (List.getElem_mem hka);generalize b.atoms[ka]=A at *;have w1:((ka:Int)≥b.atoms.length)=False:=eq_false (by omega);have w2:(x.atom≠ka)=False:=eq_false (fun h=>h c2);have w3:(x.node≠A.node)=False:=eq_false (fun h=>h c3);have w4:(x.fr≠d)=False:=eq_false (fun h=>h c4);have w5:(x.h < 1)=False:=eq_false (by omega);have w6:(x.w≠A.w)=False:=eq_false (fun h=>h c6);have w7:(x.x≠A.x)=False:=eq_false (fun h=>h c7);have r1:inR .i64 (d+x.h):=ak (by omega) (by omega);have r2:inR .i64 ((k:Int)+1):=ak (by omega) (by omega);have r3:inR .i64 ((ka:Int)+1):=ak (by omega) (by omega);have w8:(d+x.h > A.h)=False:=eq_false (by omega);have rw1:(aX x).cells=[vI x.node,vI x.atom,vI x.fr,vI x.x,vI x.y,vI x.w,vI x.h]:=rfl;have hc9:(d+x.h=A.h)=True∧(d+x.h < A.h)=False∧goP b.atoms (ka+1) 0 (p.fs.drop (k+1))=some (a',d')∧(if d+x.h=A.h then eG b.atoms i (ka+1) 0 (p.fs.drop (k+1)) else eG b.atoms i ka (d+x.h) (p.fs.drop (k+1)))=eG b.atoms i (ka+1) 0 (p.fs.drop (k+1)) ∨
      (d+x.h=A.h)=False∧(d+x.h < A.h)=True∧goP b.atoms ka (d+x.h) (p.fs.drop (k+1))=some (a',d')∧(if d+x.h=A.h then eG b.atoms i (ka+1) 0 (p.fs.drop (k+1)) else eG b.atoms i ka (d+x.h) (p.fs.drop (k+1)))=eG b.atoms i ka (d+x.h) (p.fs.drop (k+1))∧((p.fs.length:Int)≠k+1)=False:=by
      rcases c9 with ⟨h1,h2⟩ | ⟨h1,h2,h3,h4⟩
      ·exact .inl ⟨eq_true h1,eq_false (by omega),h2,if_pos h1⟩
      ·refine .inr ⟨eq_false (by omega),eq_true h1,?_,if_neg (by omega),eq_false (fun h=>h ?_)⟩
       ·rw [h2,h3,h4]; rfl
       ·have:=congrArg List.length h2;rw [List.length_drop,List.length_nil] at this;omega
     clear c9;apply sR;simp only [go_sem,seval,t0,t1,t7,t8,t9,t10,hv6,hlP,hlf,n9,hpi,hpc,hfk,hfc,q1];have hs0:=hs;refine ae fun i11 σ11 s11 a11 f11=>?_;have z11:=hs.none f11;replace hs:=hs.trans s11;have sT:aa τ (upd σ11 i11 ⟨57,7,[.agg [vI x.node,vI x.atom,vI x.fr,vI x.x,vI x.y,vI x.w,vI x.h]]⟩):=s11.aD f11;have aT:upd σ11 i11 ⟨57,7,[.agg [vI x.node,vI x.atom,vI x.fr,vI x.x,vI x.y,vI x.w,vI x.h]]⟩ i11=some ⟨57,7,[.agg [vI x.node,vI x.atom,vI x.fr,vI x.x,vI x.y,vI x.w,vI x.h]]⟩:=ag;by_cases hd:d=0
     ·have wd:(d=0)=True:=eq_true hd;rw [if_pos hd] at hF;simp only [go_sem,seval,a11,t0,t1,t7,t8,t9,t10,hv6,hla,hai,hfc,hfs,fj,w1,w2,w3,w4,w5,w6,w7,wd];generalize upd σ11 i11 ⟨57,7,[.agg [vI x.node,vI x.atom,vI x.fr,vI x.x,vI x.y,vI x.w,vI x.h]]⟩=T at *;refine ae fun i91 σ91 s91 a91 f91=>?_;obtain ⟨idA,hda,hdel,hd1,hd2⟩:=ho.yP (sT.trans s91);have hpl:pre.length≤900000:=by
       have:=congrArg List.length hF;rw [List.length_append] at this;omega
      have hb2:((pre.map vI).length+1)*9≤140737488355328:=by rw [List.length_map]; omega
      generalize hrows:pre.map vI=rows at *;simp only [go_sem,seval,hda,di a91,hb2];refine er fun i92 σ92 s92 a92 f92=>?_;have k92:=(hdel σ (aa.refl _) σ91 (hs0.trans (sT.trans s91))).trans s92;have n92:σ i92=none:=(hs0.trans (sT.trans s91)).none f92;have b11:=s92 _ _ ((hd2 i11 f11 _).trans (s91 _ _ aT));have ho2:aM σ σ92 3 1 (.own i92 0 (rows.length+1)) ((pre++[(i:Int)]).map vI):=by
       rw [List.map_append,hrows];exact aM.new (by simp) a92 n92
      rcases hc9 with ⟨x1,x2,x3,x4⟩ | ⟨x1,x2,x3,x4,x5⟩
      ·rw [x4] at hF;simp only [go_sem,seval,b11,t0,t1,t7,t8,t9,t10,hla,hai,hfc,fj,hpi,hpc,n9,hlf,r1,r2,r3,w8,x1,x2];exact ⟨_,by omega,k+1,(ka:Int)+1,0,pre++[(i:Int)],by omega,rfl,by omega,by omega,x3,by rw [hF]; simp,k92,ho2,rfl,rfl,rfl⟩
      ·rw [x4] at hF;simp only [go_sem,seval,b11,t0,t1,t7,t8,t9,t10,hla,hai,hfc,fj,hpi,hpc,n9,hlf,r1,r2,r3,w8,x1,x2,x5];exact ⟨_,by omega,k+1,(ka:Int),d+x.h,pre++[(i:Int)],by omega,rfl,by omega,by omega,x3,by rw [hF]; simp,k92,ho2,rfl,rfl,rfl⟩
     ·have wd:(d=0)=False:=eq_false hd;rw [if_neg hd,List.nil_append] at hF;rcases hc9 with ⟨x1,x2,x3,x4⟩ | ⟨x1,x2,x3,x4,x5⟩
      ·rw [x4] at hF;simp only [go_sem,seval,a11,t0,t1,t7,t8,t9,t10,hv6,hla,hai,hfc,hfs,fj,w1,w2,w3,w4,w5,w6,w7,wd,hpi,hpc,n9,hlf,r1,r2,r3,w8,x1,x2];generalize upd σ11 i11 ⟨57,7,[.agg [vI x.node,vI x.atom,vI x.fr,vI x.x,vI x.y,vI x.w,vI x.h]]⟩=T at *;exact ⟨_,by omega,k+1,(ka:Int)+1,0,pre,by omega,rfl,by omega,by omega,x3,hF,hs0.trans sT,ho.mono sT,rfl,rfl,rfl⟩
      ·rw [x4] at hF;simp only [go_sem,seval,a11,t0,t1,t7,t8,t9,t10,hv6,hla,hai,hfc,hfs,fj,w1,w2,w3,w4,w5,w6,w7,wd,hpi,hpc,n9,hlf,r1,r2,r3,w8,x1,x2,x5];generalize upd σ11 i11 ⟨57,7,[.agg [vI x.node,vI x.atom,vI x.fr,vI x.x,vI x.y,vI x.w,vI x.h]]⟩=T at *;exact ⟨_,by omega,k+1,(ka:Int),d+x.h,pre,by omega,rfl,by omega,by omega,x3,hF,hs0.trans sT,ho.mono sT,rfl,rfl,rfl⟩
    ·have q1:((k:Int) < p.fs.length)=False:=eq_false (by omega);have hke:p.fs.drop k=[]:=List.drop_eq_nil_of_le (by omega);rw [hke] at g1 hF;simp only [goP,Oi,Prod.mk.injEq] at g1;obtain ⟨rfl,rfl⟩:=g1;apply sR;simp only [go_sem,seval,t0,t1,t7,t8,t9,t10,hv6,hlP,hlf,n9,hpi,hpc,q1];exact ⟨hs,pre,hF,ho⟩
   ·rintro ⟨S,τ⟩ ⟨hs,⟨pre',hF,ho⟩,t0,t1,t7,t8,t9⟩;simp only at hs ho t0 t1 t7 t8 t9;generalize hv6:S 6=v6 at ho;refine ad.mix 12 ?_;apply sR;simp only [go_sem,seval,t0,t1,t7,t8,t9,hv6,ri];exact ⟨_,by omega,i+1,a',d',mf+j,pre',by omega,rfl,by omega,by omega,by omega,g4,hF,hs,ho,rfl,rfl,rfl⟩
  ·have q:((i:Int) < P.length)=False:=eq_false (by omega);have hdr:P.drop i=[]:=List.drop_eq_nil_of_le (by omega);rw [hdr] at hrun hF;obtain ⟨rfl,rfl, -⟩:=hrun;apply sR;simp only [go_sem,seval,t0,t1,t7,t8,t9,hv6,hlP,q];exact ⟨hs,by rw [hF,eL,List.append_nil]; exact ho⟩
 ·rintro ⟨S,τ⟩ ⟨hs,ho,t1,t7,t8⟩;simp only at hs ho t1 t7 t8;generalize hv6:S 6=v6 at ho;refine ad.mix 12 ?_;apply sR;simp only [go_sem,seval,t1,t7,t8,hv6,hla];exact ⟨_,σ,hs,Wk.tup (vs':=[bh FL, .bool true]) ⟨ho.wk (aa.refl _) hs,Wk.refl hs _,trivial⟩,rfl,rfl⟩
open Go.Proofs Go.Proofs.Tryz
theorem Gz {l:List Nd} (hl:dJ l) {w h:Int} (he:gu l w h=0):aV prog 17 [aJ l,vI w] (.tup [kD (cz l w h),vI 0]):=by
 obtain ⟨hw,hh,hc⟩:=ml he;obtain ⟨hisb,hn2,hwo,hcs⟩:=rG hc;have hck:=tk l hl;rw [hc] at hck;exact Eh l hl hisb hn2 (fun x hx=>by have:=hwo x hx; omega) (by omega) hck w hw.1 hw.2
theorem pt (b:Bk):(fo b).length≤10000000000:=by
 unfold fo;split
 ·simp
 ·have h1:(zT (shK b 1000000001 ⟨⟨0,0,true⟩,[]⟩ 0)).length=(shK b 1000000001 ⟨⟨0,0,true⟩,[]⟩ 0).length:=by unfold zT; simp
  have:=rf b 1000000001 ⟨⟨0,0,true⟩,[]⟩ 0;omega
theorem En {b:Bk}:∀ {P:List Pag} {a d:Int} {m:Nat},zB b a d m P→m≤b.fls.length
 | [],_,_,_,h=>by have:=h.2.2; omega
 | p::r,_,_,_,h=>by
   obtain ⟨_,_,j, -, -, -,h4⟩:=h;have:=En h4;omega
theorem zh (aw:aV prog 15 [] (.bool true)) (l:List Nd) (hlen:l.length≤1000000000000) (hw:∀x∈l,x.words.length≤200000000000000) (w h:Int) (hh:vY h) :
 aV prog 4 [aJ l,vI w,vI h] (.bool true):=fun σ=>by
 refine e4.r (by simp [c4]) ?_;have hs:=aa.refl σ;refine ad.mix 18 ?_;apply sR;simp only [go_sem,seval,c4];refine ad.call rfl rfl rfl (Hp l hlen hw h hh _) ?_;rintro r σ' ⟨⟨x,rfl,hx⟩,rfl⟩;cases x with
 | true =>
   apply sR;simp only [go_sem,seval];refine ad.az rfl rfl rfl (aw _) ?_;apply sR;simp only [go_sem,seval];exact au.pure hs rfl
 | false =>
   have hl:dJ l:=⟨by have:=hx rfl; omega,hw⟩
   apply sR;simp only [go_sem,seval];refine ad.az rfl rfl rfl (oO l hl w h _) ?_;by_cases he:gu l w h=0
   ·rw [if_pos he];have hb:=oL hl he;have hr:=Cj hl he;have hfo:=Gz hl he;have hank:∀f∈(cz l w h).fls,0≤f.anchor∧(0 < (cz l w h).atoms.length→f.anchor < (cz l w h).atoms.length):=(BS l w).2;have hPl:=pt (cz l w h);generalize cz l w h=b at *;generalize fo b=P at *;have hwh:=G5 b hb P hPl hr;have hFl:=nq (b:=b) (i:=0) (Int.le_refl 0) (Int.le_refl 0) hr;have hFe:eL b.atoms 0 0 0 P=[]++eL b.atoms ((0:Nat):Int) 0 0 (P.drop 0):=rfl;rw [show mq 0 0=0 from rfl] at hFl;generalize hF0:eL b.atoms 0 0 0 P=F at hwh hFl hFe;have hlP:=og P;have hlF:=dz F;have hla:=gT b.atoms;have hlf:=fB b.fls;have hfb:=hb.flen;have hal:=hb.len;have hpc:∀p:Pag,(bN p).cells=[vI p.no,vI p.kind,aQ p.hs,aQ p.fs,aQ p.ls]:=fun _=>rfl;have hfc:∀f:Frg,(aX f).cells=[vI f.node,vI f.atom,vI f.fr,vI f.x,vI f.y,vI f.w,vI f.h]:=fun _=>rfl;have hlc:∀f:Flo,(aO f).cells=[vI f.node,vI f.side,vI f.anchor,vI f.x,vI f.y,vI f.w,vI f.h]:=fun _=>rfl;have hgc:(kD b).cells=[bt b.atoms,aK b.fls,vI b.height]:=rfl;have q0:((0:Int)≠0)=False:=eq_false (fun h=>h rfl);have hgs:(kD b).stays=true:=rfl;have qF:((F.length:Int)≠b.atoms.length)=False:=eq_false (fun h=>h (by omega));apply sR;simp only [go_sem,seval,q0];refine ad.az rfl rfl rfl (hfo _) ?_;apply sR;simp only [go_sem,seval];refine ae fun i9 σ9 s9 a9 f9=>?_;have z9:=hs.none f9;replace hs:=hs.trans s9;simp only [go_sem,seval,a9,hgc,hgs,ax,aS,ay,aU];generalize hq9:upd _ i9 _=τ9;replace a9:=(congrFun hq9 i9).symm.trans ag;replace hs:=Eq.subst (motive:=aa _) hq9 (hs.aD z9);clear hq9;refine ad.az rfl rfl rfl (hwh _) ?_;apply sR;simp only [go_sem,seval,a9,hgc,q0,hlF,hla,qF];refine ad.eD (fun st=>aa σ' st.σ∧st.σ i9=some ⟨36,3,[kD b]⟩∧st.s 9=.ptr i9 0 0∧st.s 13=vI b.fls.length)
     (fun m st=>∃(i:Nat) (a d:Int) (n:Nat) (pre:List Int),i≤P.length∧m=P.length - i∧0≤a∧0≤d∧zB b a d n (P.drop i)∧F=pre++eL b.atoms i a d (P.drop i)∧(pre.length:Int)=mq a d∧(∀y∈pre,y≤(i:Int))∧aa σ' st.σ∧st.σ i9=some ⟨36,3,[kD b]⟩ ∧
       st.s 7=dc P∧st.s 9=.ptr i9 0 0∧st.s 11=bh F∧st.s 13=vI n∧st.s 14=vI i) P.length ?_ ?_ ?_
    ·exact ⟨0,0,0,0,[],by omega,rfl,by omega,by omega,hr,hFe,rfl,fun y hy=>(by cases hy),hs,a9,rfl,rfl,rfl,rfl,rfl⟩
    ·clear hs a9;rintro m ⟨S,τ⟩ ⟨i,a,d,n,pre,hi,rfl,ha0,hd0,hrun,hF,hpn,hpy,hs,a9,t7,t9,t11,t13,t14⟩;simp only at hs a9 t7 t9 t11 t13 t14;refine ad.mix 18 ?_;by_cases hlt:i < P.length
     ·have q:((i:Int) < P.length)=True:=eq_true (by omega);have ri:inR .i64 ((i:Int)+1):=ak (by omega) (by omega);have hpi:=fun σ=>te (σ:=σ) hlt;have hdr:P.drop i=P[i]::P.drop (i+1):=List.drop_eq_getElem_cons hlt;rw [hdr] at hrun hF;obtain ⟨a',d',j,g1,g2,g3,g4⟩:=hrun;rw [lJ g1] at hF;obtain ⟨w1,w2,ha1,hd1⟩:=l5 (i:=(i:Int)) ha0 hd0 g1;have hnm:=En g4;have hjl:=g2.len;have hfit:=g2.fit;generalize P[i]=p at *;have hll:=vp p.ls;have hFk:∀k:Nat,(k:Int) < mq a' d'→∃v,F[k]?=some v∧v≤i:=fun k hk=>by
       have h1:k < (pre++eG b.atoms i a d p.fs).length:=by rw [List.length_append]; omega
       refine ⟨(pre++eG b.atoms i a d p.fs)[k],?_,?_⟩
       ·rw [hF,←List.append_assoc,List.getElem?_append_left h1,List.getElem?_eq_getElem h1]
       ·rcases List.mem_append.1 (List.getElem_mem h1) with h2 | h2
        ·exact hpy _ h2
        ·exact Int.le_of_eq (w2 _ h2)
      have hF2:F=(pre++eG b.atoms i a d p.fs)++eL b.atoms ((i+1:Nat):Int) a' d' (P.drop (i+1)):=by rw [hF,List.append_assoc]; rfl
      have hpn2:((pre++eG b.atoms i a d p.fs).length:Int)=mq a' d':=by rw [List.length_append]; omega
      have hpy2:∀y∈pre++eG b.atoms i a d p.fs,y≤((i+1:Nat):Int):=fun y hy=>by
       rcases List.mem_append.1 hy with h2 | h2
       ·have:=hpy _ h2; omega
       ·have:=w2 _ h2; omega
      apply sR;simp only [go_sem,seval,t7,t9,t11,t13,t14,hlP,q];refine ad.eD (fun st=>aa σ' st.σ∧st.σ i9=some ⟨36,3,[kD b]⟩∧st.s 7=dc P∧st.s 9=.ptr i9 0 0∧st.s 11=bh F∧st.s 13=vI (n+j:Nat)∧st.s 14=vI i)
       (fun m st=>∃(k nk:Nat),k≤p.ls.length∧m=p.ls.length - k∧nk=n+k∧aa σ' st.σ∧st.σ i9=some ⟨36,3,[kD b]⟩∧st.s 7=dc P∧st.s 9=.ptr i9 0 0∧st.s 11=bh F∧st.s 13=vI nk∧st.s 14=vI i∧st.s 15=vI k) p.ls.length ?_ ?_ ?_
      ·exact ⟨0,n,by omega,rfl,rfl,hs,a9,t7,t9,t11,t13,t14,rfl⟩
      ·clear hs a9 t7 t9 t11 t13 t14 hF hpn hpy;rintro m ⟨S,τ⟩ ⟨k,nk,hk,rfl,hnk,hs,a9,t7,t9,t11,t13,t14,t15⟩;simp only at hs a9 t7 t9 t11 t13 t14 t15;refine ad.mix 18 ?_;by_cases hkl:k < p.ls.length
       ·have q1:((k:Int) < p.ls.length)=True:=eq_true (by omega);have hfk:=fun σ=>Bs (σ:=σ) hkl;have hnf:nk < b.fls.length:=by omega
        have hfn:=fun σ=>iI (σ:=σ) hnf;have hfi:=hfit k p.ls[k] b.fls[nk] (by rw [List.getElem?_eq_getElem hkl]) (by rw [←hnk,List.getElem?_eq_getElem hnf]);have hanc:=g3 nk b.fls[nk] (by omega) (by rw [List.getElem?_eq_getElem hnf]);have hank2:=hank _ (List.getElem_mem hnf);generalize p.ls[k]=x at *;generalize b.fls[nk]=y at *;obtain ⟨f1,f2,f3,f4,f5⟩:=hfi;have r1:inR .i64 ((k:Int)+1):=ak (by omega) (by omega);have r2:inR .i64 ((nk:Int)+1):=ak (by omega) (by omega);have u1:((nk:Int)≥b.fls.length)=False:=eq_false (by omega);have u2:(x.node≠y.node)=False:=eq_false (fun h=>h f1);have u3:(x.atom≠-1)=False:=eq_false (fun h=>h f2);have u4:(x.x≠y.x)=False:=eq_false (fun h=>h f3);have u5:(x.w≠y.w)=False:=eq_false (fun h=>h f4);have u6:(x.h > y.h)=False:=eq_false (by omega);have u7:(y.anchor < 0)=False:=eq_false (by omega);apply sR;simp only [go_sem,seval,t7,t9,t11,t13,t14,t15,a9,hlP,hll,n9,hpi,hpc,hfk,hfc,q1];refine ae fun i16 σ16 s16 a16 f16=>?_;have n916:=ao a9 f16;replace a9:=s16 _ _ a9;have z16:=hs.none f16;replace hs:=hs.trans s16;simp only [go_sem,seval,a16,a9,t7,t9,t11,t13,t14,t15,hgc,hlf,u1,hfn,hlc,hfc,ab n916];generalize hq16:upd _ i16 _=τ16;replace a16:=(congrFun hq16 i16).symm.trans ag;replace a9:=((congrFun hq16 i9).symm.trans (ab n916)).trans a9;replace hs:=Eq.subst (motive:=aa _) hq16 (hs.aD z16);clear hq16;refine ae fun i17 σ17 s17 a17 f17=>?_;have n1617:=ao a16 f17;replace a16:=s17 _ _ a16;have n917:=ao a9 f17;replace a9:=s17 _ _ a9;have z17:=hs.none f17;replace hs:=hs.trans s17;by_cases hat:b.atoms=[]
        ·have v1:((F.length:Int) > 0)=False:=eq_false (by rw [List.eq_nil_of_length_eq_zero (show F.length=0 by rw [hat] at hFl; simpa using hFl)]; decide);simp only [go_sem,seval,a17,a16,a9,t7,t9,t11,t13,t14,t15,hlF,hlc,hfc,u2,u3,u4,u5,u6,u7,v1,r1,r2,ab n1617,ab n917];generalize hq17:upd _ i17 _=τ17;replace a17:=(congrFun hq17 i17).symm.trans ag;replace a16:=((congrFun hq17 i16).symm.trans (ab n1617)).trans a16;replace a9:=((congrFun hq17 i9).symm.trans (ab n917)).trans a9;replace hs:=Eq.subst (motive:=aa _) hq17 (hs.aD z17);clear hq17;exact ⟨_,by omega,k+1,nk+1,by omega,rfl,by omega,hs,rfl,rfl⟩
        ·obtain ⟨an,han⟩:∃n:Nat,y.anchor=n:=⟨y.anchor.toNat,by omega⟩
         have hlt2:=hanc hat;rw [han] at hlt2 u7;obtain ⟨v,hv1,hv2⟩:=hFk an hlt2;have hanl:an < F.length:=(List.getElem?_eq_some_iff.1 hv1).1;have hix:∀σ,bF σ 1 (bh F) (.int .i64 an)=some (.rp (vI v)):=fun σ=>by
          rw [gk hanl];rw [List.getElem?_eq_getElem hanl] at hv1;rw [Option.some.inj hv1]
         have v1:((F.length:Int) > 0)=True:=eq_true (by omega);have v2:((an:Int)≥F.length)=False:=eq_false (by omega);have v3:((i:Int) < v)=False:=eq_false (by omega);simp only [go_sem,seval,a17,a16,a9,t7,t9,t11,t13,t14,t15,hlF,hlc,hfc,han,u2,u3,u4,u5,u6,u7,v1,v2,v3,hix,r1,r2,ab n1617,ab n917];generalize hq17:upd _ i17 _=τ17;replace a17:=(congrFun hq17 i17).symm.trans ag;replace a16:=((congrFun hq17 i16).symm.trans (ab n1617)).trans a16;replace a9:=((congrFun hq17 i9).symm.trans (ab n917)).trans a9;replace hs:=Eq.subst (motive:=aa _) hq17 (hs.aD z17);clear hq17;exact ⟨_,by omega,k+1,nk+1,by omega,rfl,by omega,hs,rfl,rfl⟩
       ·have q1:((k:Int) < p.ls.length)=False:=eq_false (by omega);have hke:nk=n+j:=by omega
        apply sR;simp only [go_sem,seval,t7,t9,t11,t13,t14,t15,hlP,hll,n9,hpi,hpc,q1];exact ⟨hs,a9,by rw [hke]⟩
      ·rintro ⟨S,τ⟩ ⟨hs,a9,t7,t9,t11,t13,t14⟩;simp only at hs a9 t7 t9 t11 t13 t14;refine ad.mix 18 ?_;apply sR;simp only [go_sem,seval,t7,t9,t11,t13,t14,ri];exact ⟨_,by omega,i+1,a',d',n+j,pre++eG b.atoms i a d p.fs,by omega,rfl,by omega,by omega,g4,hF2,hpn2,hpy2,hs,a9,rfl,rfl⟩
     ·have q:((i:Int) < P.length)=False:=eq_false (by omega);have hdr:P.drop i=[]:=List.drop_eq_nil_of_le (by omega);rw [hdr] at hrun;obtain ⟨-, -,rfl⟩:=hrun;apply sR;simp only [go_sem,seval,t7,t9,t11,t13,t14,hlP,q];exact ⟨hs,a9⟩
    ·clear hs a9;rintro ⟨S,τ⟩ ⟨hs,a9,t9,t13⟩;simp only at hs a9 t9 t13;refine ad.mix 18 ?_;have qe:((b.fls.length:Int)=b.fls.length)=True:=eq_true rfl;apply sR;simp only [go_sem,seval,t9,t13,a9,hgc,hlf,qe];refine ad.az rfl rfl rfl (aw _) ?_;apply sR;simp only [go_sem,seval];exact au.pure hs rfl
   ·rw [if_neg he];have q1:(gu l w h≠0)=True:=eq_true he;generalize gu l w h=E at *;apply sR;simp only [go_sem,seval,q1];refine ad.az rfl rfl rfl (aw _) ?_;apply sR;simp only [go_sem,seval];exact au.pure hs rfl
open Go.Proofs Go.Proofs.Tryz
theorem Gr {σ:af} {id e n:Nat} {rows:List V} (h:σ id=some ⟨e,7,rows⟩):cp σ 7 (.own id 0 n) none (some (.int .i64 n)) (some (.int .i64 n))=some (.own id 0 n):=by
 simp [cp,bu,iq,h]
theorem Gb {K σ:af} {e:Nat} {v:V} {rows:List V} (h:aM K σ e 7 v rows):av prog 89 [v] σ fun r σ'=>r=v∧σ'=σ:=by
 refine e89.r (by simp [c89]) ?_;refine ad.mix 9 ?_;rcases h with ⟨rfl,_⟩ | ⟨id,rfl,ho,_⟩
 ·apply sR;simp only [go_sem,seval,c89];exact au.same rfl
 ·have hsl:=Gr (n:=rows.length) ho;apply sR;simp only [BB,seval,←decide_not,bp,eP,aE,cF,eA,ed,ez,dL,cb,j9,gl,bC,fF,dI,et,cH,bu,iq,dd,cE,bZ,eff,jU,cV,bR,jK,dV,cd,dD,cU,kO,binBV,bS,dg,V.cells,V.stays,Orc.nothing,c89,hsl];exact au.same rfl
theorem GB (l:List Frg) (σ:af):bG σ 7 (aQ l)=some (l.map aX):=by simp [aQ,bG]
theorem nV (l:List Frg):(aQ l).cells=[aQ l]:=rfl
theorem nE (l:List Frg):(aQ l).stays=true:=rfl
theorem GJ (p:Pag):aV prog 57 [bN p] (aQ p.fs):=fun σ=>by
 refine e57.r (by simp [c57]) ?_;have hs:=aa.refl σ;refine ad.mix 5 ?_;apply sR;simp only [go_sem,seval,c57,bN,nV,nE];refine ae fun i1 σ1 s1 a1 f1=>?_;have z1:=hs.none f1;replace hs:=hs.trans s1;simp only [go_sem,seval,a1,nV,nE];exact au.pure hs rfl
theorem HG (l:List Pag) (hl:l.length≤10000000000) (hf:∀j,j≤l.length→((l.take j).flatMap (·.fs)).length≤100000000000) (σ:af) :
 av prog 56 [dc l, .fn 57 []] σ fun r σ'=>aa σ σ'∧aM σ σ' 57 7 r ((l.flatMap (·.fs)).map aX):=by
 refine e56.r (by simp [c56]) ?_;have hn:=og l;refine ad.mix 11 ?_;apply sR;simp only [go_sem,seval,c56,hn];refine ad.loop (fun m st=>∃j:Nat,j≤l.length∧m=l.length - j∧st.s 1=.fn 57 []∧st.s 8=dc l∧st.s 9=vI l.length∧st.s 10=vI j∧aM σ st.σ 57 7 (st.s 5) (((l.take j).flatMap (·.fs)).map aX)∧aa σ st.σ) l.length ⟨0,by omega,rfl,rfl,rfl,rfl,rfl,aM.start,aa.refl σ⟩ ?_;rintro m ⟨s',σ'⟩ ⟨j,hj,rfl,h1,h8,h9,h10,h5,hσ⟩;simp only at h1 h8 h9 h10 h5 hσ;generalize hv:s' 5=v at h5;refine ad.mix 22 ?_;by_cases hlt:j < l.length
 ·obtain ⟨p,hp⟩:∃p,l[j]?=some p:=⟨l[j],by simp [hlt]⟩
  have hi:∀σ,bF σ 5 (dc l) (.int .i64 j)=some (.rp (bN p)):=fun σ=>by simp [dc,bF,hp]
  have hc:((j:Int) < l.length)=True:=by simp; omega
  have hld:∀σ,bO σ true 5 (.rp (bN p))=some (bN p):=fun _=>rfl;have hP:bN p=.agg [vI p.no,vI p.kind,aQ p.hs,aQ p.fs,aQ p.ls]:=rfl;have hs:=aa.refl σ';have htk0:(l.take (j+1)).flatMap (·.fs)=(l.take j).flatMap (·.fs)++p.fs:=by rw [List.take_add_one,hp]; simp
  have hfl:=hf (j+1) (by omega);rw [htk0,List.length_append] at hfl;apply sR;simp only [go_sem,seval,h1,h8,h9,h10,hv,hi,hc,hn,hld];refine ae fun i7 σ7 s7 a7 f7=>?_;have z7:=hs.none f7;replace hs:=hs.trans s7;simp only [go_sem,seval,a7,h1,h8,h9,h10,hv,hP,nV,nE];generalize hq7:upd _ i7 _=τ7;replace a7:=(congrFun hq7 i7).symm.trans ag;replace hs:=Eq.subst (motive:=aa _) hq7 (hs.aD z7);clear hq7;refine ad.az rfl rfl rfl (GJ p _) ?_;obtain ⟨idA,hd,hdel⟩:=(h5.mono hs).dst (aa.refl _);have hsr:=fun σ=>GB p.fs σ;have hb:(((l.take j).flatMap (·.fs)).length+p.fs.length)*57≤140737488355328:=by omega
  have htk:((l.take (j+1)).flatMap (·.fs)).map aX=((l.take j).flatMap (·.fs)).map aX++p.fs.map aX:=by
   rw [htk0,List.map_append]
  apply sR;simp only [go_sem,seval,a7,h1,h8,h9,h10,hv,hd,hsr,hb,List.length_map,nV,nE];refine er fun i18 σ18 s18 a18 f18=>?_;simp only [go_sem,seval,h1,h8,h9,h10];exact ⟨ak (by omega) (by omega),l.length - (j+1),by omega,j+1,by omega,rfl,by simp [vI],by rw [htk]; exact aM.new (by simp) a18 (hσ.none (hs.none f18)),(hdel σ (aa.refl _) _ (hσ.trans hs)).trans s18⟩
 ·have hc:((j:Int) < l.length)=False:=by simp; omega
  apply sR;simp only [go_sem,seval,h1,h8,h9,h10,hv,hc];have:l.take j=l:=List.take_of_length_le (by omega);rw [this] at h5;refine ad.call rfl rfl rfl (Gb h5) ?_;rintro r σ2 ⟨rfl,rfl⟩;apply sR;simp only [go_sem,seval];exact ⟨_,_,aa.refl _,Wk.refl (aa.refl _) _,hσ,h5⟩
theorem CL (l:List Pag) (hl:l.length≤10000000000) (hf:∀j,j≤l.length→((l.take j).flatMap (·.fs)).length≤100000000000):aV prog 21 [dc l] (aQ (l.flatMap (·.fs))):=fun σ=>by
 refine e21.r (by simp [c21]) ?_;refine ad.mix 5 ?_;apply sR;simp only [go_sem,seval,c21];refine ad.call rfl rfl rfl (HG l hl hf σ) ?_;rintro r σ2 ⟨h1,h2⟩;apply sR;simp only [go_sem,seval];exact h2.CZ h1 rfl
def isOk:List Pag→List UInt8→List UInt8→Nat→Bool
 | [],[],_,_=>true
 | p::P,k::ks,n::ns,i=>decide (p.no=(i:Int)+1) && decide (48≤k.toNat) && decide (p.kind=(k.toNat:Int) - 48) && decide (48≤n.toNat) && decide ((p.fs.length:Int)=(n.toNat:Int) - 48) && isOk P ks ns (i+1)
 | _,_,_,_=>false
theorem wK:∀ {P:List Pag} {ks ns:List UInt8} {i0:Nat},isOk P ks ns i0=true→P.length=ks.length∧∀i (h:i < P.length),∃k n,ks[i]?=some k∧ns[i]?=some n∧P[i].no=(i0:Int)+i+1∧48≤k.toNat∧P[i].kind=(k.toNat:Int) - 48∧48≤n.toNat∧(P[i].fs.length:Int)=(n.toNat:Int) - 48
 | [],[],_,_,_=>⟨rfl,fun i h=>by simp at h⟩
 | p::P,[],_,_,h=>by simp [isOk] at h
 | [],k::ks,_,_,h=>by simp [isOk] at h
 | p::P,k::ks,[],_,h=>by simp [isOk] at h
 | p::P,k::ks,n::ns,i0,h=>by
   simp only [isOk,Ba,decide_eq_true_eq] at h;obtain ⟨⟨⟨⟨⟨h1,h2⟩,h3⟩,h4⟩,h5⟩,h6⟩:=h;obtain ⟨g1,g2⟩:=wK h6;refine ⟨by simp [g1],fun i hi=>?_⟩;cases i with
   | zero=>exact ⟨k,n,rfl,rfl,by simpa using h1,h2,h3,h4,h5⟩
   | succ i =>
     obtain ⟨k',n',e1,e2,e3,e4⟩:=g2 i (by simpa using hi);exact ⟨k',n',e1,e2,by rw [List.getElem_cons_succ,e3]; omega,by simpa using e4⟩
theorem Ex (s ks ns:List UInt8) (l:List Nd) (hl:dJ l) (x y:V) (hof:aV prog 46 [.str s] (.tup [aJ l,x,y])) (he:gu l 8 20=0) (hok:isOk (fo (cz l 8 20)) ks ns 0=true) :
 aV prog 47 [.str s, .str ks, .str ns] (.bool true):=fun σ=>by
 refine e47.r (by simp [c47]) ?_;have hs:=aa.refl σ;have hpg:=oO l hl 8 20;rw [if_pos he] at hpg;have hPl:=pt (cz l 8 20);generalize fo (cz l 8 20)=P at *;obtain ⟨g1,g2⟩:=wK hok;have hlP:=og P;have q0:((0:Int)≠0)=False:=eq_false (fun h=>h rfl);have q1:((P.length:Int)≠ks.length)=False:=eq_false (fun h=>h (by omega));have hpc:∀p:Pag,(bN p).cells=[vI p.no,vI p.kind,aQ p.hs,aQ p.fs,aQ p.ls]:=fun _=>rfl;refine ad.mix 13 ?_;apply sR;simp only [go_sem,seval,c47];refine ad.az rfl rfl rfl (hof _) ?_;apply sR;simp only [go_sem,seval];refine ad.az rfl rfl rfl (hpg _) ?_;apply sR;simp only [go_sem,seval,q0,q1,hlP];refine ad.loop (fun m st=>∃i:Nat,i≤P.length∧m=P.length - i∧st.σ=σ∧st.s 1=.str ks∧st.s 2=.str ns∧st.s 10=dc P∧st.s 12=vI i) P.length ?_ ?_
 ·exact ⟨0,by omega,rfl,rfl,rfl,rfl,rfl,rfl⟩
 ·rintro m ⟨S,τ⟩ ⟨i,hi,rfl,hσ,t1,t2,t10,t12⟩;simp only at hσ t1 t2 t10 t12;subst hσ;refine ad.mix 13 ?_;by_cases hlt:i < P.length
  ·have p1:((i:Int) < P.length)=True:=eq_true (by omega);have r1:inR .i64 ((i:Int)+1):=ak (by omega) (by omega);have hpi:=fun σ=>te (σ:=σ) hlt;obtain ⟨k,n,e1,e2,e3,e4,e5,e6,e7⟩:=g2 i hlt;generalize P[i]=p at *;have hlf:=vp p.fs;have hk:et (.str ks) (.int .i64 i)=some (.int .u8 k.toNat):=by simp [et,e1]
   have hn:et (.str ns) (.int .i64 i)=some (.int .u8 n.toNat):=by simp [et,e2]
   have r2:inR .u8 ((k.toNat:Int) - 48):=by
    have:=k.toNat_lt;unfold inR; simp [IntKind.wrap,IntKind.bits,IntKind.signed]; omega
   have r3:inR .u8 ((n.toNat:Int) - 48):=by
    have:=n.toNat_lt;unfold inR; simp [IntKind.wrap,IntKind.bits,IntKind.signed]; omega
   have p2:(p.no≠(i:Int)+1)=False:=eq_false (fun h=>h (by omega));have p3:(p.kind≠(k.toNat:Int) - 48)=False:=eq_false (fun h=>h e5);have p4:((p.fs.length:Int)≠(n.toNat:Int) - 48)=False:=eq_false (fun h=>h e7);apply sR;simp only [BB,seval,←decide_not,bp,eP,aE,cF,eA,ed,ez,dL,cb,j9,gl,bC,fF,dI,cp,cH,bu,iq,dd,cE,bZ,eff,jU,cV,bR,jK,dV,cd,dD,cU,kO,binBV,bS,dg,Orc.nothing,t1,t2,t10,t12,hlP,p1,hpi,hpc,n9,hlf,hk,hn,r1,r2,r3,p2,p3,p4,V.CY,V.Cb,V.zM,V.Ce,V.FY,V.B6,V.zJ,V.Dx,V.Cr,V.E6,V.C0,V.CX,V.Ac,V.Dk,V.Es,V.B1,V.Am,V.EA,V.CN,V.Fs];have:=k.toNat_lt;have:=n.toNat_lt;exact ⟨ak (by omega) (by omega),ak (by omega) (by omega),_,by omega,i+1,by omega,rfl,rfl⟩
  ·have p1:((i:Int) < P.length)=False:=eq_false (by omega);apply sR;simp only [go_sem,seval,t10,t12,hlP,p1];exact au.pure hs rfl
theorem Ir (l:List Nd) (hl:dJ l) (s1 s2 s3 s4:List UInt8) (x y:V) (hof:aV prog 46 [.str [123,51,32,52,53,125]] (.tup [aJ l,x,y])) (he:gu l 8 20=0)
 (f0 f1 f2:Frg) (hfs:(fo (cz l 8 20)).flatMap (·.fs)=[f0,f1,f2]) (hj:∀j,j≤(fo (cz l 8 20)).length→(((fo (cz l 8 20)).take j).flatMap (·.fs)).length≤100000000000) (e1:f0.h=20) (e2:f1.fr=20) (e3:f2.h=5)
 (i1:aV prog 47 [.str [123,51,32,52,53,125], .str [49,49,49], .str [49,49,49]] (.bool true)) (i2:aV prog 47 [.str [123,51,32,53,125,91,66,51,32,123,51,32,54,125,93], .str [49,49], .str [49,49]] (.bool true))
 (i3:aV prog 47 [.str [123,51,32,53,125,91,66,52,32,123,51,32,54,125,93], .str [49,51,49], .str [49,48,49]] (.bool true)) (i4:aV prog 47 [.str [91,66,51,32,123,51,32,54,125,93], .str [51,49], .str [48,49]] (.bool true))
 (i5:aV prog 47 [.str [], .str [51], .str [48]] (.bool true)):aV prog 15 [] (.bool true):=fun σ=>by
 refine e15.r (by simp [c15]) ?_;have hs:=aa.refl σ;have hpg:=oO l hl 8 20;rw [if_pos he] at hpg;have hat:=CL _ (pt (cz l 8 20)) hj;rw [hfs] at hat;generalize fo (cz l 8 20)=P at *;have hln:dK false (aQ [f0,f1,f2])=some (.int .i64 3):=by simp [aQ,dK]
 have x0:∀σ,bF σ 7 (aQ [f0,f1,f2]) (.int .i64 0)=some (.rp (aX f0)):=fun σ=>by simp [aQ,bF,aX]
 have x1:∀σ,bF σ 7 (aQ [f0,f1,f2]) (.int .i64 1)=some (.rp (aX f1)):=fun σ=>by simp [aQ,bF,aX]
 have x2:∀σ,bF σ 7 (aQ [f0,f1,f2]) (.int .i64 2)=some (.rp (aX f2)):=fun σ=>by simp [aQ,bF,aX]
 have hfc:∀f:Frg,(aX f).cells=[vI f.node,vI f.atom,vI f.fr,vI f.x,vI f.y,vI f.w,vI f.h]:=fun _=>rfl;have y0:(f0.h=20)=True:=eq_true e1;have y1:(f1.fr=20)=True:=eq_true e2;have y2:(f2.h=5)=True:=eq_true e3;generalize aQ [f0,f1,f2]=FR at *;refine ad.mix 7 ?_;apply sR;simp only [go_sem,seval,c15];refine ad.az rfl rfl rfl (hof _) ?_;apply sR;simp only [go_sem,seval];refine ad.az rfl rfl rfl (hpg _) ?_;apply sR;simp only [go_sem,seval];refine ad.az rfl rfl rfl (hat _) ?_;apply sR;simp only [go_sem,seval];refine ad.az rfl rfl rfl (i1 _) ?_;apply sR;simp only [go_sem,seval,hln,x0,x1,x2,hfc,y0,y1,y2];refine ad.az rfl rfl rfl (i2 _) ?_;apply sR;simp only [go_sem,seval];refine ad.az rfl rfl rfl (i3 _) ?_;apply sR;simp only [go_sem,seval];refine ad.az rfl rfl rfl (i4 _) ?_;apply sR;simp only [go_sem,seval];refine ad.az rfl rfl rfl (i5 _) ?_;apply sR;simp only [go_sem,seval];exact au.pure hs rfl
inductive Tr (α:Type) where
 | e
 | n (l:Tr α) (v:α) (r:Tr α)
def yF:Nat→Nat→List Bool
 | 0,_=>[]
 | _+1,0=>[]
 | f+1,k+1=>Nat.beq (Nat.mod k 2) 0::yF f (Nat.div k 2)
def pathOf (k:Nat):List Bool:=yF (Nat.succ k) k
def LM {α:Type} (d:α) (f:Nat):List Bool→Tr α→α :=
 @Nat.rec (fun _=>List Bool→Tr α→α) (fun _ _=>d)
  (fun _ ih p t=>@List.casesOn Bool (fun _=>α) p (@Tr.casesOn α (fun _=>α) t d (fun _ v _=>v))
    (fun b p'=>@Tr.casesOn α (fun _=>α) t d (fun l _ r=>ih p' (@Bool.casesOn (fun _=>Tr α) b r l)))) f
def kL {α:Type} (d:α) (k:Nat) (t:Tr α):α:=LM d (Nat.succ k) (pathOf k) t
def L3 {α:Type} (d v:α) (f:Nat):List Bool→Tr α→Tr α :=
 @Nat.rec (fun _=>List Bool→Tr α→Tr α) (fun _ t=>t)
  (fun _ ih p t=>@List.casesOn Bool (fun _=>Tr α) p (@Tr.casesOn α (fun _=>Tr α) t (.n .e v .e) (fun l _ r=>.n l v r))
    (fun b p'=>@Tr.casesOn α (fun _=>Tr α) t (@Bool.casesOn (fun _=>Tr α) b (.n .e d (ih p' .e)) (.n (ih p' .e) d .e))
      (fun l u r=>@Bool.casesOn (fun _=>Tr α) b (.n l u (ih p' r)) (.n (ih p' l) u r)))) f
def lG {α:Type} (d v:α) (k:Nat) (t:Tr α):Tr α:=L3 d v (Nat.succ k) (pathOf k) t
structure CS where
 s:Tr V
 σ:Tr (Option Ob)
 nxt:Nat
def CS.sf (cs:CS):Nat→V:=fun i=>kL (.tup []) i cs.s
def stF (σ:Tr (Option Ob)):af:=fun i=>kL none i σ
def N3 (cs:CS) (d:Nat) (v:V):CS:=⟨lG (.tup []) v d cs.s,cs.σ,cs.nxt⟩
def CS.put (cs:CS) (d:Option Nat) (v:V):CS:=@Option.casesOn Nat (fun _=>CS) d cs (fun d=>N3 cs d v)
def eqQ:Int→Int→Bool
 | .ofNat m, .ofNat n=>Nat.beq m n
 | .negSucc m, .negSucc n=>Nat.beq m n
 | _,_=>false
def leQ:Int→Int→Bool
 | .ofNat m, .ofNat n=>Nat.ble m n
 | .negSucc _, .ofNat _=>true
 | .negSucc m, .negSucc n=>Nat.ble n m
 | .ofNat _, .negSucc _=>false
def Mb:Int→Int→Int
 | .ofNat m, .ofNat n=>.ofNat (Nat.add m n)
 | a,b=>a+b
def Kl:Int→Int→Int
 | .ofNat m, .ofNat n=>@Bool.casesOn (fun _=>Int) (Nat.ble n m) (.negSucc (Nat.sub (Nat.sub n m) 1)) (.ofNat (Nat.sub m n))
 | a,b=>a - b
def Kj:Int→Bool
 | .ofNat m=>Nat.ble m 9223372036854775807
 | .negSucc m=>Nat.ble m 9223372036854775807
def J1 (k:IntKind) (n:Int):Bool:=match k with
 | .i64=>Kj n
 | k=>decide (k.wrap n=n)
def gI (k:IntKind) (n:Int):Option V:=@Bool.casesOn (fun _=>Option V) (J1 k n) none (some (.int k n))
def eqK (k k':IntKind):Bool:=decide (k=k')
def IY:IntKind→Bool
 | .i64=>true
 | _=>false
structure FI where
 f:IntKind→Int→Int→Option V
def oz (op:BinOp):FI :=
 match op with
 | .add=>⟨fun k a b=>gI k (Mb a b)⟩
 | .sub=>⟨fun k a b=>gI k (Kl a b)⟩
 | .mul=>⟨fun k a b=>gI k (a*b)⟩
 | .quo=>⟨fun k a b=>if b=0 then none else gI k (a.tdiv b)⟩
 | .rem=>⟨fun k a b=>if b=0 then none else some (.int k (a.tmod b))⟩
 | .eql=>⟨fun _ a b=>some (.bool (eqQ a b))⟩
 | .neq=>⟨fun _ a b=>some (.bool (not (eqQ a b)))⟩
 | .lss=>⟨fun _ a b=>some (.bool (not (leQ b a)))⟩
 | .leq=>⟨fun _ a b=>some (.bool (leQ a b))⟩
 | .gtr=>⟨fun _ a b=>some (.bool (not (leQ a b)))⟩
 | .geq=>⟨fun _ a b=>some (.bool (leQ b a))⟩
 | .and=>⟨fun k a b=>cF .and k a b⟩
 | .or=>⟨fun k a b=>cF .or k a b⟩
 | .shl=>⟨fun k a b=>cF .shl k a b⟩
 | .shr=>⟨fun k a b=>cF .shr k a b⟩
 | _=>⟨fun _ _ _=>none⟩
def vw (op:BinOp) (a b:List UInt8):Option V :=
 match op with
 | .add=>@Bool.casesOn (fun _=>Option V) (Nat.ble (a.length+b.length) 9223372036854775807) none (some (.str (a++b)))
 | .eql=>some (.bool (decide (a=b)))
 | .neq=>some (.bool (decide (a≠b)))
 | _=>none
def DG (k k':IntKind):Bool:=@Bool.casesOn (fun _=>Bool) (IY k) (eqK k k') (IY k')
def LY (k:IntKind) (a:Int) (g:IntKind→Int→Int→Option V):V→Option V
 | .int k' b=>@Bool.casesOn (fun _=>Option V) (DG k k') none (g k a b)
 | _=>none
def Mj (op:BinOp) (a:List UInt8):V→Option V
 | .str b=>vw op a b
 | _=>none
def Hv (op:BinOp) (g:IntKind→Int→Int→Option V) (y:V):V→Option V
 | .int k a=>LY k a g y
 | .str a=>Mj op a y
 | _=>none
def LR:V→Option V
 | .int k a=>gI k (0 - a)
 | _=>none
def H0 (k:IntKind):V→Option V
 | .int _ a=>gI k a
 | _=>none
def Lm:V→Option V
 | .bool b=>some (.bool (!b))
 | _=>none
def H9 (a b:V):V→Option V
 | .bool t=>some (@Bool.casesOn (fun _=>V) t b a)
 | _=>none
def zn:Int→Option Nat
 | .ofNat m=>some m
 | _=>none
def JF (σ:Tr (Option Ob)) (esz:Nat) (x i:V):Option V :=
 match x,i with
 | .own id off len, .int _ j=>match zn j with
   | some m=>match kL none id σ with
     | some ob=>@Bool.casesOn (fun _=>Option V) (Nat.beq ob.sz esz && Nat.blt m len) none (some (.ptr id (Nat.add off m) 0))
     | none=>none
   | none=>none
 | .sl sz rows, .int _ j=>match zn j with
   | some m=>@Bool.casesOn (fun _=>Option V) (Nat.beq sz esz) none (match rows[m]? with
     | some r=>some (.rp r)
     | none=>none)
   | none=>none
 | _,_=>none
def ED (σ:Tr (Option Ob)) (agg:Bool) (sz:Nat) (x:V):Option V :=
 match x with
 | .ptr id i k=>match kL none id σ with
   | some ob=>match ob.rows[i]? with
     | some r=>match agg with
       | true=>@Bool.casesOn (fun _=>Option V) (Nat.beq k 0 && Nat.beq r.cells.length sz)
          (@Bool.casesOn (fun _=>Option V) (Nat.ble (Nat.add k sz) r.cells.length) none (some (.agg ((r.cells.drop k).take sz)))) (some (.agg r.cells))
       | false=>r.cells[k]?
     | none=>none
   | none=>none
 | x=>bO (stF σ) agg sz x
def Fa:V→V→Option V
 | .str s, .int _ j=>match zn j with
   | some m=>match s[m]? with
     | some b=>some (.int .u8 (Int.ofNat b.toNat))
     | none=>none
   | none=>none
 | _,_=>none
structure Mk where
 var:Bool
 len:Nat
 gone:Option Nat
 ob:Ob
def LL (e sz:Nat) (x:V):Option Mk:=@Bool.casesOn (fun _=>Option Mk) (Nat.beq x.cells.length sz && x.stays) none (some ⟨true,0,none,⟨e,sz,[x]⟩⟩)
def BO (e sz:Nat) (xs:List V):Option Mk:=@Bool.casesOn (fun _=>Option Mk) (xs.all fun x=>Nat.beq x.cells.length sz && x.stays) none (some ⟨false,xs.length,none,⟨e,sz,xs⟩⟩)
def mkQ (e sz bytes:Nat) (z:V):V→Option Mk
 | .int k m=>match k with
   | .i64=>match zn m with
     | some j=>@Bool.casesOn (fun _=>Option Mk) (Nat.ble (j*(bytes+1)) 140737488355328) none (some ⟨false,j,none,⟨e,sz,List.replicate j z⟩⟩)
     | none=>none
   | _=>none
 | _=>none
def Bj (σ:Tr (Option Ob)) (e sz bytes:Nat) (a b:V):Option Mk:=match bQ (stF σ) e sz a,bG (stF σ) sz b with
 | some (base,idA),some src=>@Bool.casesOn (fun _=>Option Mk) (Nat.ble ((base.length+src.length)*(bytes+1)) 140737488355328) none (some ⟨false,base.length+src.length,idA,⟨e,sz,base++src⟩⟩)
 | _,_=>none
def wj (fl:Nat) (dst:Option Nat) (cs:CS) (m:Mk):Option CS :=
 match m.gone with
 | none=>some (CS.put ⟨cs.s,lG none (some m.ob) cs.nxt cs.σ,Nat.succ cs.nxt⟩ dst (@Bool.casesOn (fun _=>V) m.var (.own cs.nxt 0 m.len) (.ptr cs.nxt 0 0)))
 | some d=>@Bool.casesOn (fun _=>Option CS) (Nat.ble fl d) none
    (some (CS.put ⟨cs.s,lG none (some m.ob) cs.nxt (lG none none d cs.σ),Nat.succ cs.nxt⟩ dst (@Bool.casesOn (fun _=>V) m.var (.own cs.nxt 0 m.len) (.ptr cs.nxt 0 0))))
inductive Out where
 | nx (cs:CS)
 | ex (id:Nat) (cs:CS)
 | rt (cs:CS)
 | bad
structure Rs where
 v:V
 σ:Tr (Option Ob)
 nxt:Nat
def kT:=FuncId→List V→Tr (Option Ob)→Nat→Nat→Option Rs
structure BI where
 f:kT→Nat→CS→Option CS
def jc (dst:Option Nat) (g:CS→Option V):BI:=⟨fun _ _ cs=>match g cs with
 | some v=>some (cs.put dst v)
 | none=>none⟩
def L8 (dst:Option Nat) (x:VX):BI:=⟨fun _ _ cs=>some (cs.put dst (x.ev cs.sf))⟩
def zX (dst:Option Nat) (g:CS→Option Mk):BI:=⟨fun _ fl cs=>match g cs with
 | some m=>wj fl dst cs m
 | none=>none⟩
def Av (dst:Option Nat) (cs:CS):Option Rs→Option CS
 | some r=>some (CS.put ⟨cs.s,r.σ,r.nxt⟩ dst r.v)
 | none=>none
def vG (dst:Option Nat) (cs:CS):Option Rs→Option CS
 | some r=>@Bool.casesOn (fun _=>Option CS) r.v.dX none (some (cs.put dst r.v))
 | none=>none
def EU (draw:Bool) (dst:Option Nat) (fx:VX) (xs:List VX):BI:=match draw with
 | true=>⟨fun call _ cs=>match fx.ev cs.sf with
   | .fn f caps=>vG dst cs (call f (xs.map (·.ev cs.sf)++caps) cs.σ cs.nxt cs.nxt)
   | _=>none⟩
 | false=>⟨fun call fl cs=>match fx.ev cs.sf with
   | .fn f caps=>Av dst cs (call f (xs.map (·.ev cs.sf)++caps) cs.σ cs.nxt fl)
   | _=>none⟩
def BJ (dst:Option Nat) (fl sz:Nat) (xv:V) (cs:CS):V→Option CS
 | .ptr id i0 c=>@Bool.casesOn (fun _=>Option CS) (Nat.ble fl id) none (match kL none id cs.σ with
   | some ob=>match ob.rows[i0]? with
     | some r=>match bZ r c sz xv with
       | some r'=>some (CS.put ⟨cs.s,lG none (some ⟨ob.elem,ob.sz,ob.rows.set i0 r'⟩) id cs.σ,cs.nxt⟩ dst (.tup []))
       | none=>none
     | none=>none
   | none=>none)
 | _=>none
def AJ (dst:Option Nat) (sz:Nat) (xa xv:VX):BI:=⟨fun _ fl cs=>BJ dst fl sz (xv.ev cs.sf) cs (xa.ev cs.sf)⟩
def AO (dst:Option Nat) (fl sz:Nat) (z:V) (cs:CS):V→Option CS
 | .own id off len=>@Bool.casesOn (fun _=>Option CS) (Nat.ble fl id) none (match kL none id cs.σ with
   | some ob=>@Bool.casesOn (fun _=>Option CS) (Nat.beq ob.sz sz && Nat.ble (off+len) ob.rows.length) none
      (some (CS.put ⟨cs.s,lG none (some ⟨ob.elem,ob.sz,ob.rows.take off++List.replicate len z++ob.rows.drop (off+len)⟩) id cs.σ,cs.nxt⟩ dst (.tup [])))
   | none=>none)
 | _=>none
def As (draw:Bool) (dst:Option Nat) (sz:Nat) (z:V) (xv:VX):BI:=match draw with
 | true=>⟨fun _ _ _=>none⟩
 | false=>⟨fun _ fl cs=>AO dst fl sz z cs (xv.ev cs.sf)⟩
def jy (draw:Bool) (dst:Option Nat) (op:VOp):BI:=match op with
 | .mov x=>L8 dst x
 | .pick c a b=>jc dst fun cs=>H9 (a.ev cs.sf) (b.ev cs.sf) (c.ev cs.sf)
 | .bin op x y=>@FI.casesOn (fun _=>BI) (oz op) fun g=>jc dst fun cs=>Hv op g (y.ev cs.sf) (x.ev cs.sf)
 | .not x=>jc dst fun cs=>Lm (x.ev cs.sf)
 | .neg x=>jc dst fun cs=>LR (x.ev cs.sf)
 | .convI k x=>jc dst fun cs=>H0 k (x.ev cs.sf)
 | .idxA esz x i=>jc dst fun cs=>JF cs.σ esz (x.ev cs.sf) (i.ev cs.sf)
 | .idxS x i=>jc dst fun cs=>Fa (x.ev cs.sf) (i.ev cs.sf)
 | .load agg sz x=>jc dst fun cs=>ED cs.σ agg sz (x.ev cs.sf)
 | .box e sz x=>zX dst fun cs=>LL e sz (x.ev cs.sf)
 | .alloc e sz z=>zX dst fun _=>some ⟨true,0,none,⟨e,sz,[z]⟩⟩
 | .bf e sz xs=>zX dst fun cs=>BO e sz (xs.map (·.ev cs.sf))
 | .mk e sz bytes z x=>zX dst fun cs=>mkQ e sz bytes z (x.ev cs.sf)
 | .append e sz bytes a b=>zX dst fun cs=>Bj cs.σ e sz bytes (a.ev cs.sf) (b.ev cs.sf)
 | .call f xs=>EU draw dst f xs
 | .store sz a x=>AJ dst sz a x
 | .clear sz z x=>As draw dst sz z x
 | op=>jc dst fun cs=>aE (stF cs.σ) cs.sf op
def EI (dst:Option Nat) (b:Bool) (B:BI) (call:kT) (fl:Nat) (cs:CS):V→Option CS
 | .bool c=>@Bool.casesOn (fun _=>Option CS) (Bool.xor c b) (B.f call fl cs) (some (cs.put dst (.tup [])))
 | .tup []=>some (cs.put dst (.tup []))
 | .int _ _=>some (cs.put dst (.tup []))
 | _=>none
def pK (draw:Bool) (i:aG):BI:=match i.g with
 | none=>jy draw i.dst i.op
 | some (x,b)=>⟨fun call fl cs=>EI i.dst b (jy draw i.dst i.op) call fl cs (x.ev cs.sf)⟩
def lN (draw:Bool) (call:kT) (fl m:Nat):List aG→CS→Out :=
 @Nat.rec (fun _=>List aG→CS→Out) (fun _ _=>.bad)
  (fun _ ih l cs=>@List.casesOn aG (fun _=>Out) l (.nx cs)
    (fun i l'=>@BI.casesOn (fun _=>Out) (pK draw i) fun f=>@Option.casesOn CS (fun _=>Out) (f call fl cs) .bad (ih l'))) m
def DO (draw:Bool) (call:kT) (fl:Nat) (l:List aG) (cs:CS):Out:=lN draw call fl 1000 l cs
def Tr.ofL:List V→Nat→Tr V→Tr V
 | [],_,t=>t
 | v::l,k,t=>Tr.ofL l (Nat.succ k) (lG (.tup []) v k t)
def HO (res:List VR) (cs:CS):Option Rs:=match mu ⟨cs.sf,stF cs.σ⟩ res with
 | some v=>some ⟨v,cs.σ,cs.nxt⟩
 | none=>none
def LI (res:List VR):Out→Option Rs
 | .nx cs=>HO res cs
 | .rt cs=>HO res cs
 | _=>none
def evF (run:Nat→bx→CS→Out) (code:FuncId→Option VFn):kT:=fun f args σ nxt fl=>match code f with
 | none=>none
 | some vf=>@Bool.casesOn (fun _=>Option Rs) (Nat.ble args.length vf.n) none (LI vf.res (run fl vf.code ⟨Tr.ofL args 0 .e,σ,nxt⟩))
def Cw (o:Out) (k:CS→Out):Out:=@Out.casesOn (fun _=>Out) o k (fun id cs=>.ex id cs) (fun cs=>.rt cs) .bad
def KQ (id:Nat) (o:Out):Out:=@Out.casesOn (fun _=>Out) o (fun cs=>.nx cs) (fun j cs=>@Bool.casesOn (fun _=>Out) (Nat.beq j id) (.ex j cs) (.nx cs)) (fun cs=>.rt cs) .bad
def onB (v:V) (a b:Out):Out:=match v with
 | .bool c=>@Bool.casesOn (fun _=>Out) c b a
 | _=>.bad
def evL (code:FuncId→Option VFn) (fuel:Nat):Nat→bx→CS→Out :=
 @Nat.rec (fun _=>Nat→bx→CS→Out) (fun _ _ _=>.bad)
  (fun _ ih fl c cs=>match c with
    | .skip=>.nx cs
    | .reg draw l=>DO draw (evF ih code) fl l cs
    | .seq a b=>Cw (ih fl a cs) fun cs'=>ih fl b cs'
    | .cond c a b=>onB (c.ev cs.sf) (ih fl a cs) (ih fl b cs)
    | .block id a=>KQ id (ih fl a cs)
    | .loop a=>Cw (ih fl a cs) fun cs'=>ih fl (.loop a) cs'
    | .exit id=>.ex id cs
    | .ret=>.rt cs
    | .cu ..=>.bad
    | .regA ..=>.bad
    | .oS ..=>.bad
    | .bad=>.bad) fuel
def gL {α:Type} (d:α):List Bool→Tr α→α
 | _, .e=>d
 | [], .n _ v _=>v
 | b::p, .n l _ r=>gL d p (if b then l else r)
def sL {α:Type} (d v:α):List Bool→Tr α→Tr α
 | [], .e=>.n .e v .e
 | [], .n l _ r=>.n l v r
 | b::p, .e=>if b then .n (sL d v p .e) d .e else .n .e d (sL d v p .e)
 | b::p, .n l u r=>if b then .n (sL d v p l) u r else .n l u (sL d v p r)
theorem qU {α:Type} (d:α):∀(f:Nat) (p:List Bool) (t:Tr α),p.length < f→LM d f p t=gL d p t
 | 0,_,_,h=>by omega
 | f+1,[],t,_=>by cases t <;> rfl
 | f+1,b::p,t,h=>by
   cases t with
   | e=>rfl
   | n l u r =>
     have ih:=qU d f p (if b then l else r) (by simpa using h);cases b <;> exact ih
theorem wh {α:Type} (d v:α):∀(f:Nat) (p:List Bool) (t:Tr α),p.length < f→L3 d v f p t=sL d v p t
 | 0,_,_,h=>by omega
 | f+1,[],t,_=>by cases t <;> rfl
 | f+1,b::p,t,h=>by
   have h':p.length < f:=by simpa using h
   cases t with
   | e=>cases b <;> simp only [sL,Bool.false_eq_true,if_false,if_true] <;> rw [←wh d v f p _ h'] <;> rfl
   | n l u r=>cases b <;> simp only [sL,Bool.false_eq_true,if_false,if_true] <;> rw [←wh d v f p _ h'] <;> rfl
theorem IM {α:Type} (d:α) (p:List Bool):gL d p .e=d:=by cases p <;> rfl
theorem By {α:Type} (d v:α):∀(p q:List Bool) (t:Tr α),gL d q (sL d v p t)=if q=p then v else gL d q t
 | [],[],t=>by cases t <;> simp [sL,gL]
 | [],b::q,t=>by cases t <;> simp [sL,gL,IM]
 | a::p,[],t=>by cases t <;> cases a <;> simp [sL,gL]
 | a::p,b::q,t=>by
   cases t with
   | e =>
     have ih:=By d v p q .e;cases a <;> cases b <;> simp [sL,gL,IM,ih]
   | n l u r =>
     have ihl:=By d v p q l;have ihr:=By d v p q r;cases a <;> cases b <;> simp [sL,gL,ihl,ihr]
def wg:List Bool→Nat
 | []=>0
 | b::p=>2*wg p+(if b then 1 else 2)
theorem me:∀(f k:Nat),k < f→wg (yF f k)=k
 | 0,_,h=>by omega
 | f+1,0,_=>rfl
 | f+1,k+1,h=>by
   have ih:=me f (k / 2) (by omega);have ih':wg (yF f (k.div 2))=k / 2:=ih;simp only [yF,wg,ih'];have h1:Nat.mod k 2=k % 2:=rfl;by_cases hk:k % 2=0
   ·have:Nat.beq (Nat.mod k 2) 0=true:=by rw [h1,hk]; rfl
    simp only [this,if_true]; omega
   ·have hk1:k % 2=1:=by omega
    have:Nat.beq (Nat.mod k 2) 0=false:=by rw [h1,hk1]; rfl
    simp only [this,Bool.false_eq_true,if_false]; omega
theorem L7:∀p:List Bool,p.length≤wg p
 | []=>Nat.le_refl _
 | b::p=>by have:=L7 p; simp only [List.length_cons,wg]; split <;> omega
theorem kE (k:Nat):(pathOf k).length < k.succ:=by
 have h1:=L7 (pathOf k);have h2:wg (pathOf k)=k:=me (k+1) k (by omega);omega
theorem AH {i k:Nat} (h:pathOf i=pathOf k):i=k:=by
 have h1:wg (pathOf i)=i:=me (i+1) i (by omega);have h2:wg (pathOf k)=k:=me (k+1) k (by omega);rw [←h1,←h2,h]
theorem ou {α:Type} (d v:α) (i k:Nat) (t:Tr α):kL d i (lG d v k t)=if i=k then v else kL d i t:=by
 unfold kL lG;rw [qU _ _ _ _ (kE i),qU _ _ _ _ (kE i),wh _ _ _ _ _ (kE k),By];by_cases h:i=k
 ·simp [h]
 ·rw [if_neg h,if_neg (fun e=>h (AH e))]
theorem JM {α:Type} (d:α) (i:Nat):kL d i .e=d:=by
 unfold kL;rw [qU _ _ _ _ (kE i),IM]
theorem Kz (cs:CS) (d:Option Nat) (v:V):(cs.put d v).sf=aW cs.sf d v:=by
 funext i;cases d with
 | none=>rfl
 | some d=>show kL _ i (lG _ v d cs.s)=_; rw [ou]; rfl
theorem Fm (cs:CS) (d:Option Nat) (v:V):(cs.put d v).σ=cs.σ∧(cs.put d v).nxt=cs.nxt:=by cases d <;> exact ⟨rfl,rfl⟩
theorem qQ (σ:Tr (Option Ob)) (k:Nat) (o:Ob):stF (lG none (some o) k σ)=upd (stF σ) k o:=by
 funext i; show kL none i _=_; rw [ou]; rfl
theorem Gw (σ:Tr (Option Ob)) (k:Nat):stF (lG none none k σ)=del (stF σ) k:=by
 funext i; show kL none i _=_; rw [ou]; rfl
mutual
def aA (R:Nat→Nat→Prop):V→V→Prop
 | .own id off len,u=>∃id',u=.own id' off len∧R id id'
 | .ptr id i k,u=>∃id',u=.ptr id' i k∧R id id'
 | .sl sz rows,u=>∃rows',u=.sl sz rows'∧aN R rows rows'
 | .rp v,u=>∃v',u=.rp v'∧aA R v v'
 | .fn f caps,u=>∃caps',u=.fn f caps'∧aN R caps caps'
 | .bm f caps,u=>∃caps',u=.bm f caps'∧aN R caps caps'
 | .iface t v,u=>∃v',u=.iface t v'∧aA R v v'
 | .agg c,u=>∃c',u=.agg c'∧aN R c c'
 | .tup c,u=>∃c',u=.tup c'∧aN R c c'
 | .undef,u=>u=.undef
 | .int k n,u=>u=.int k n
 | .bool b,u=>u=.bool b
 | .str s,u=>u=.str s
 | .aC,u=>u=.aC
 | .nilp,u=>u=.nilp
 | .nilfn,u=>u=.nilfn
 | .niliface,u=>u=.niliface
 | .raw v,u=>u=.raw v
 | .obj v,u=>u=.obj v
 | .gp v,u=>u=.gp v
 | .yl v,u=>∃id',u=.yl id'∧R v id'
 | .mp v,u=>u=.mp v
def aN (R:Nat→Nat→Prop):List V→List V→Prop
 | [],l=>l=[]
 | v::vs,l=>∃u us,l=u::us∧aA R v u∧aN R vs us
end
section
variable {R R':Nat→Nat→Prop}
mutual
theorem aA.mono (h:∀a b,R a b→R' a b):∀(v u:V),aA R v u→aA R' v u
 | .own id off len,u,g=>by simp only [aA] at g ⊢; obtain ⟨i,e,r⟩:=g; exact ⟨i,e,h _ _ r⟩
 | .ptr id i k,u,g=>by simp only [aA] at g ⊢; obtain ⟨i,e,r⟩:=g; exact ⟨i,e,h _ _ r⟩
 | .sl sz rows,u,g=>by simp only [aA] at g ⊢; obtain ⟨i,e,r⟩:=g; exact ⟨i,e,aN.mono h _ _ r⟩
 | .rp v,u,g=>by simp only [aA] at g ⊢; obtain ⟨i,e,r⟩:=g; exact ⟨i,e,aA.mono h _ _ r⟩
 | .fn f caps,u,g=>by simp only [aA] at g ⊢; obtain ⟨i,e,r⟩:=g; exact ⟨i,e,aN.mono h _ _ r⟩
 | .bm f caps,u,g=>by simp only [aA] at g ⊢; obtain ⟨i,e,r⟩:=g; exact ⟨i,e,aN.mono h _ _ r⟩
 | .iface t v,u,g=>by simp only [aA] at g ⊢; obtain ⟨i,e,r⟩:=g; exact ⟨i,e,aA.mono h _ _ r⟩
 | .agg c,u,g=>by simp only [aA] at g ⊢; obtain ⟨i,e,r⟩:=g; exact ⟨i,e,aN.mono h _ _ r⟩
 | .tup c,u,g=>by simp only [aA] at g ⊢; obtain ⟨i,e,r⟩:=g; exact ⟨i,e,aN.mono h _ _ r⟩
 | .undef,u,g=>by simpa [aA] using g
 | .int k n,u,g=>by simpa [aA] using g
 | .bool b,u,g=>by simpa [aA] using g
 | .str s,u,g=>by simpa [aA] using g
 | .aC,u,g=>by simpa [aA] using g
 | .nilp,u,g=>by simpa [aA] using g
 | .nilfn,u,g=>by simpa [aA] using g
 | .niliface,u,g=>by simpa [aA] using g
 | .raw v,u,g=>by simpa [aA] using g
 | .obj v,u,g=>by simpa [aA] using g
 | .gp v,u,g=>by simpa [aA] using g
 | .yl v,u,g=>by simp only [aA] at g ⊢; obtain ⟨i,e,r⟩:=g; exact ⟨i,e,h _ _ r⟩
 | .mp v,u,g=>by simpa [aA] using g
theorem aN.mono (h:∀a b,R a b→R' a b):∀(v u:List V),aN R v u→aN R' v u
 | [],u,g=>by simpa [aN] using g
 | v::vs,u,g=>by
   simp only [aN] at g ⊢;obtain ⟨a,as1,e,r,rs⟩:=g;exact ⟨a,as1,e,aA.mono h _ _ r,aN.mono h _ _ rs⟩
end
mutual
theorem ei:∀(v:V),v.dX=true→aA R v v
 | .own ..,g=>by simp [V.dX] at g
 | .ptr ..,g=>by simp [V.dX] at g
 | .sl sz rows,g=>by simp only [V.dX] at g; simp only [aA]; exact ⟨rows,rfl,fk rows g⟩
 | .rp v,g=>by simp only [V.dX] at g; simp only [aA]; exact ⟨v,rfl,ei v g⟩
 | .fn f caps,g=>by simp only [V.dX] at g; simp only [aA]; exact ⟨caps,rfl,fk caps g⟩
 | .bm f caps,g=>by simp only [V.dX] at g; simp only [aA]; exact ⟨caps,rfl,fk caps g⟩
 | .iface t v,g=>by simp only [V.dX] at g; simp only [aA]; exact ⟨v,rfl,ei v g⟩
 | .agg c,g=>by simp only [V.dX] at g; simp only [aA]; exact ⟨c,rfl,fk c g⟩
 | .tup c,g=>by simp only [V.dX] at g; simp only [aA]; exact ⟨c,rfl,fk c g⟩
 | .undef,_=>by simp [aA]
 | .int k n,_=>by simp [aA]
 | .bool b,_=>by simp [aA]
 | .str s,_=>by simp [aA]
 | .aC,_=>by simp [aA]
 | .nilp,_=>by simp [aA]
 | .nilfn,_=>by simp [aA]
 | .niliface,_=>by simp [aA]
 | .raw v,_=>by simp [aA]
 | .obj v,_=>by simp [aA]
 | .gp v,_=>by simp [aA]
 | .yl v,g=>by simp [V.dX] at g
 | .mp v,_=>by simp [aA]
theorem fk:∀(l:List V),fH l=true→aN R l l
 | [],_=>by simp [aN]
 | v::vs,g=>by
   simp only [fH,Ba] at g;simp only [aN];exact ⟨v,vs,rfl,ei v g.1,fk vs g.2⟩
end
mutual
theorem nM:∀(v u:V),v.dX=true→aA R v u→u=v
 | .own ..,_,g,_=>by simp [V.dX] at g
 | .ptr ..,_,g,_=>by simp [V.dX] at g
 | .sl sz rows,u,g,h=>by simp only [V.dX] at g; simp only [aA] at h; obtain ⟨r,rfl,h⟩:=h; rw [j3 rows r g h]
 | .rp v,u,g,h=>by simp only [V.dX] at g; simp only [aA] at h; obtain ⟨r,rfl,h⟩:=h; rw [nM v r g h]
 | .fn f caps,u,g,h=>by simp only [V.dX] at g; simp only [aA] at h; obtain ⟨r,rfl,h⟩:=h; rw [j3 caps r g h]
 | .bm f caps,u,g,h=>by simp only [V.dX] at g; simp only [aA] at h; obtain ⟨r,rfl,h⟩:=h; rw [j3 caps r g h]
 | .iface t v,u,g,h=>by simp only [V.dX] at g; simp only [aA] at h; obtain ⟨r,rfl,h⟩:=h; rw [nM v r g h]
 | .agg c,u,g,h=>by simp only [V.dX] at g; simp only [aA] at h; obtain ⟨r,rfl,h⟩:=h; rw [j3 c r g h]
 | .tup c,u,g,h=>by simp only [V.dX] at g; simp only [aA] at h; obtain ⟨r,rfl,h⟩:=h; rw [j3 c r g h]
 | .undef,u,_,h=>by simpa [aA] using h
 | .int k n,u,_,h=>by simpa [aA] using h
 | .bool b,u,_,h=>by simpa [aA] using h
 | .str s,u,_,h=>by simpa [aA] using h
 | .aC,u,_,h=>by simpa [aA] using h
 | .nilp,u,_,h=>by simpa [aA] using h
 | .nilfn,u,_,h=>by simpa [aA] using h
 | .niliface,u,_,h=>by simpa [aA] using h
 | .raw v,u,_,h=>by simpa [aA] using h
 | .obj v,u,_,h=>by simpa [aA] using h
 | .gp v,u,_,h=>by simpa [aA] using h
 | .yl v,_,g,_=>by simp [V.dX] at g
 | .mp v,u,_,h=>by simpa [aA] using h
theorem j3:∀(l m:List V),fH l=true→aN R l m→m=l
 | [],m,_,h=>by simpa [aN] using h
 | v::vs,m,g,h=>by
   simp only [fH,Ba] at g;simp only [aN] at h;obtain ⟨u,us,rfl,h1,h2⟩:=h;rw [nM v u g.1 h1,j3 vs us g.2 h2]
end
theorem aN.gV {l:List V}:aN R [] l↔l=[]:=by simp [aN]
theorem aN.bY {v:V} {vs l:List V}:aN R (v::vs) l↔∃u us,l=u::us∧aA R v u∧aN R vs us:=by simp [aN]
theorem aN.length:∀ {l m:List V},aN R l m→m.length=l.length
 | [],_,h=>by rw [aN.gV] at h; simp [h]
 | v::vs,_,h=>by obtain ⟨u,us,rfl,_,h2⟩:=aN.bY.1 h; simp [h2.length]
theorem aN.get:∀ {l m:List V},aN R l m→∀ {i:Nat} {v:V},l[i]?=some v→∃u,m[i]?=some u∧aA R v u
 | [],_,_,i,v,hv=>by simp at hv
 | v::vs,_,h,i,x,hv=>by
   obtain ⟨u,us,rfl,h1,h2⟩:=aN.bY.1 h;cases i with
   | zero=>simp at hv; subst hv; exact ⟨u,by simp,h1⟩
   | succ i=>simp at hv; simpa using h2.get hv
theorem aN.append:∀ {l m l' m':List V},aN R l m→aN R l' m'→aN R (l++l') (m++m')
 | [],_,_,_,h,h'=>by rw [aN.gV] at h; subst h; simpa using h'
 | v::vs,_,_,_,h,h'=>by
   obtain ⟨u,us,rfl,h1,h2⟩:=aN.bY.1 h;exact aN.bY.2 ⟨u,us++_,by simp,h1,h2.append h'⟩
theorem aN.take:∀ {l m:List V},aN R l m→∀i,aN R (l.take i) (m.take i)
 | [],_,h,i=>by rw [aN.gV] at h; subst h; simp [aN]
 | v::vs,_,h,i=>by
   obtain ⟨u,us,rfl,h1,h2⟩:=aN.bY.1 h;cases i with
   | zero=>simp [aN]
   | succ i=>exact aN.bY.2 ⟨u,us.take i,by simp,h1,h2.take i⟩
theorem aN.drop:∀ {l m:List V},aN R l m→∀i,aN R (l.drop i) (m.drop i)
 | [],_,h,i=>by rw [aN.gV] at h; subst h; simp [aN]
 | v::vs,_,h,i=>by
   obtain ⟨u,us,rfl,h1,h2⟩:=aN.bY.1 h;cases i with
   | zero=>exact aN.bY.2 ⟨u,us,by simp,h1,h2⟩
   | succ i=>simpa using h2.drop i
theorem aN.set:∀ {l m:List V},aN R l m→∀(i:Nat) {v u:V},aA R v u→aN R (l.set i v) (m.set i u)
 | [],_,h,i,_,_,_=>by rw [aN.gV] at h; subst h; simp [aN]
 | v::vs,_,h,i,x,y,hx=>by
   obtain ⟨u,us,rfl,h1,h2⟩:=aN.bY.1 h;cases i with
   | zero=>exact aN.bY.2 ⟨y,us,by simp,hx,h2⟩
   | succ i=>exact aN.bY.2 ⟨u,us.set i y,by simp,h1,h2.set i hx⟩
theorem aN.replicate {v u:V} (h:aA R v u):∀n,aN R (List.replicate n v) (List.replicate n u)
 | 0=>by simp [aN]
 | n+1=>aN.bY.2 ⟨u,List.replicate n u,by simp [List.replicate_succ],h,aN.replicate h n⟩
theorem aN.one {v u:V} (h:aA R v u):aN R [v] [u]:=aN.bY.2 ⟨u,[],rfl,h,by simp [aN]⟩
theorem aA.jv {k:IntKind} {n:Int} {u:V}:aA R (.int k n) u↔u=.int k n:=by simp [aA]
theorem aA.ld {b:Bool} {u:V}:aA R (.bool b) u↔u=.bool b:=by simp [aA]
theorem aA.qY {b:List UInt8} {u:V}:aA R (.str b) u↔u=.str b:=by simp [aA]
theorem aA.nL {b:List V} {u:V}:aA R (.agg b) u↔∃c,u=.agg c∧aN R b c:=by simp [aA]
theorem aA.agg {l m:List V} (h:aN R l m):aA R (.agg l) (.agg m):=aA.nL.2 ⟨m,rfl,h⟩
theorem aA.rp {l m:V} (h:aA R l m):aA R (.rp l) (.rp m):=by simp only [aA]; exact ⟨m,rfl,h⟩
theorem aA.cells {v u:V} (h:aA R v u):aN R v.cells u.cells:=by
 cases v <;> simp only [aA] at h
 case agg c=>obtain ⟨c',rfl,h⟩:=h; simpa [V.cells] using h
 all_goals first
  | (subst h; exact aN.one (by simp [aA]))
  | (obtain ⟨c,rfl,h⟩:=h; exact aN.one (by simp only [aA]; exact ⟨_,rfl,h⟩))
theorem aA.stays {v u:V} (h:aA R v u):u.stays=v.stays:=by
 cases v <;> simp only [aA] at h <;> first
  | (subst h; rfl)
  | (obtain ⟨c,rfl,h⟩:=h; rfl)
end
def Lv (R:Nat→Nat→Prop) (σc σ:af):Prop:=∀c a o,R c a→σc c=some o→∃rows',σ a=some ⟨o.elem,o.sz,rows'⟩∧aN R o.rows rows'
theorem Lv.sup {R:Nat→Nat→Prop} {σc σ σ1:af} (h:Lv R σc σ) (hs:aa σ σ1):Lv R σc σ1:=fun c a o hc ho=>by
 obtain ⟨rows',h1,h2⟩:=h c a o hc ho;exact ⟨rows',hs _ _ h1,h2⟩
structure mW (K:af) (fl:Nat) (R:Nat→Nat→Prop) (σc:af) (nxt:Nat) (σ:af):Prop where
 dom:∀c a,R c a→c < nxt
 live:Lv R σc σ
 inj:∀c c' a o o',R c a→R c' a→σc c=some o→σc c'=some o'→c=c'
 fn:∀c a a',R c a→R c a'→a=a'
 lp:aa K σ
 kfl:∀a o c oc,K a=some o→R c a→σc c=some oc→c < fl
section
variable {R:Nat→Nat→Prop} {K σc σ:af} {fl nxt:Nat}
theorem mW.write (h:mW K fl R σc nxt σ) {c a:Nat} {o:Ob} (hc:R c a) (ho:σc c=some o) (hf:fl≤c) {rows rows':List V} (hr:aN R rows rows') :
 mW K fl R (upd σc c ⟨o.elem,o.sz,rows⟩) nxt (upd σ a ⟨o.elem,o.sz,rows'⟩):=by
 have hlive:∀i x,upd σc c ⟨o.elem,o.sz,rows⟩ i=some x→∃y,σc i=some y:=fun i x hx=>by
  by_cases e:i=c
  ·rw [e]; exact ⟨o,ho⟩
  ·rw [ab e] at hx; exact ⟨x,hx⟩
 refine ⟨h.dom,?_,?_,?_,?_,?_⟩
 ·intro c1 a1 o1 h1 h2;by_cases e:c1=c
  ·subst e;have:a1=a:=h.fn c1 a1 a h1 hc;subst this;rw [ag] at h2;simp only [Oi] at h2;subst h2;exact ⟨rows',ag,hr⟩
  ·rw [ab e] at h2;have hne:a1≠a:=fun e'=>by subst e'; exact e (h.inj c1 c a1 o1 o h1 hc h2 ho)
   rw [ab hne];exact h.live c1 a1 o1 h1 h2
 ·intro c1 c2 a1 o1 o2 h1 h2 h3 h4;obtain ⟨y,hy⟩:=hlive _ _ h3;obtain ⟨z,hz⟩:=hlive _ _ h4;exact h.inj c1 c2 a1 y z h1 h2 hy hz
 ·exact h.fn
 ·intro i x hx;have hne:i≠a:=fun e=>by subst e; have:=h.kfl i x c o hx hc ho; omega
  rw [ab hne];exact h.lp i x hx
 ·intro a1 o1 c1 oc h1 h2 h3;obtain ⟨y,hy⟩:=hlive _ _ h3;exact h.kfl a1 o1 c1 y h1 h2 hy
theorem mW.rem (h:mW K fl R σc nxt σ) {c a:Nat} {o:Ob} (hc:R c a) (ho:σc c=some o) (hf:fl≤c) :
 mW K fl R (del σc c) nxt (del σ a):=by
 have hlive:∀i x,del σc c i=some x→i≠c∧σc i=some x:=fun i x hx=>by
  by_cases e:i=c
  ·subst e; simp [Vc.del] at hx
  ·rw [dh e] at hx; exact ⟨e,hx⟩
 refine ⟨h.dom,?_,?_,?_,?_,?_⟩
 ·intro c1 a1 o1 h1 h2;obtain ⟨e,h2⟩:=hlive _ _ h2;have hne:a1≠a:=fun e'=>by subst e'; exact e (h.inj c1 c a1 o1 o h1 hc h2 ho)
  rw [dh hne];exact h.live c1 a1 o1 h1 h2
 ·intro c1 c2 a1 o1 o2 h1 h2 h3 h4;exact h.inj c1 c2 a1 o1 o2 h1 h2 (hlive _ _ h3).2 (hlive _ _ h4).2
 ·exact h.fn
 ·intro i x hx;have hne:i≠a:=fun e=>by subst e; have:=h.kfl i x c o hx hc ho; omega
  rw [dh hne];exact h.lp i x hx
 ·intro a1 o1 c1 oc h1 h2 h3;exact h.kfl a1 o1 c1 oc h1 h2 (hlive _ _ h3).2
def ext (R:Nat→Nat→Prop) (c a:Nat):Nat→Nat→Prop:=fun x y=>R x y∨(x=c∧y=a)
theorem wF (c a:Nat):∀x y,R x y→ext R c a x y:=fun _ _ h=>.inl h
theorem mW.new (h:mW K fl R σc nxt σ) {i:Nat} (hi:σ i=none) {ob:Ob} {rows':List V} (hr:aN R ob.rows rows') :
 mW K fl (ext R nxt i) (upd σc nxt ob) (nxt+1) (upd σ i ⟨ob.elem,ob.sz,rows'⟩):=by
 have hlt:∀c a,R c a→c≠nxt:=fun c a hc=>by have:=h.dom c a hc; omega
 have hold:∀c a o,R c a→upd σc nxt ob c=some o→σc c=some o∧a≠i:=fun c a o hc ho=>by
  rw [ab (hlt c a hc)] at ho;refine ⟨ho,fun e=>?_⟩;subst e;obtain ⟨r,hr,_⟩:=h.live c a o hc ho;rw [hi] at hr; cases hr
 refine ⟨?_,?_,?_,?_,h.lp.upd hi,?_⟩
 ·rintro c a (hc | ⟨rfl,rfl⟩)
  ·have:=h.dom c a hc; omega
  ·omega
 ·rintro c a o (hc | ⟨rfl,rfl⟩) ho
  ·obtain ⟨h1,h2⟩:=hold c a o hc ho;obtain ⟨r,h3,h4⟩:=h.live c a o hc h1;rw [ab h2];exact ⟨r,h3,aN.mono (wF nxt i) _ _ h4⟩
  ·rw [ag] at ho;simp only [Oi] at ho;subst ho;exact ⟨rows',ag,aN.mono (wF _ _) _ _ hr⟩
 ·rintro c c' a o o' (hc | ⟨rfl,rfl⟩) (hc' | ⟨rfl,e⟩) ho ho'
  ·exact h.inj c c' a o o' hc hc' (hold _ _ _ hc ho).1 (hold _ _ _ hc' ho').1
  ·exact absurd e (hold _ _ _ hc ho).2
  ·exact absurd rfl (hold _ _ _ hc' ho').2
  ·rfl
 ·rintro c a a' (hc | ⟨rfl,rfl⟩) (hc' | ⟨e,rfl⟩)
  ·exact h.fn c a a' hc hc'
  ·exact absurd e (hlt _ _ hc)
  ·exact absurd rfl (hlt _ _ hc')
  ·rfl
 ·rintro a o c oc hk (hc | ⟨rfl,rfl⟩) ho
  ·exact h.kfl a o c oc hk hc (hold _ _ _ hc ho).1
  ·have:=h.lp a o hk;rw [hi] at this; cases this
def okX:VX→Bool
 | .t _=>true
 | .c v=>v.dX
def pF (op:VOp):Bool:=op.xs.all okX && (match op with
 | .alloc _ _ z=>z.dX
 | .build zero _=>fH zero
 | .clear _ z _=>z.dX
 | .mk _ _ _ z _=>z.dX
 | .more (.tas _ _ z) _=>z.dX
 | _=>true)
def nJ (i:aG):Bool:=pF i.op && (match i.g with
 | some (x,_)=>okX x
 | none=>true)
def gH:bx→Bool
 | .reg _ l=>l.all nJ
 | .seq a b=>gH a && gH b
 | .cond c a b=>okX c && (gH a && gH b)
 | .block _ a=>gH a
 | .loop a=>gH a
 | _=>true
def Be:VR→Bool
 | .tmp x=>okX x
 | .cell _ _ x=>okX x
 | .bad=>true
def J9 (f:VFn):Bool:=gH f.code && f.res.all Be
variable {s s':Nat→V}
theorem eO (hs:∀i,aA R (s i) (s' i)) {x:VX} (hx:okX x=true):aA R (x.ev s) (x.ev s'):=by
 cases x with
 | t n=>exact hs n
 | c v=>exact ei v hx
theorem lV (hs:∀i,aA R (s i) (s' i)):∀ {xs:List VX},xs.all okX=true→aN R (xs.map (·.ev s)) (xs.map (·.ev s'))
 | [],_=>by simp [aN]
 | x::xs,h=>by
   simp only [List.all_cons,Ba] at h;exact aN.bY.2 ⟨_,_,rfl,eO hs h.1,lV hs h.2⟩
theorem yc {op:BinOp} {k:IntKind} {a b:Int} {v:V} (h:cF op k a b=some v):v.dX=true:=by
 unfold cF at h;split at h <;> first
  | (simp only [Oi] at h; subst h; rfl)
  | (split at h <;> first | (simp only [Oi] at h; subst h; rfl) | cases h)
  | cases h
theorem zl {op:BinOp} {a b:List UInt8} {v:V} (h:ed op a b=some v):v.dX=true:=by
 unfold ed at h;split at h <;> first
  | (simp only [Oi] at h; subst h; rfl)
  | cases h
theorem FG {op:BinOp} {a b a' b' v:V} (ha:aA R a a') (hb:aA R b b') (h:ub op a b=some v):a'=a∧b'=b∧v.dX=true:=by
 unfold ub at h;split at h
 ·simp only [aA] at ha hb;split at h
  ·exact ⟨ha,hb,yc h⟩
  ·cases h
 ·simp only [aA] at ha hb;exact ⟨ha,hb,zl h⟩
 ·cases h
theorem D1 {b:Bool} {x x' v:V} (hx:aA R x x') (h:dK b x=some v):∃v',dK b x'=some v'∧aA R v v':=by
 unfold dK at h;split at h <;> simp only [Oi,reduceCtorEq] at h <;> simp only [aA] at hx <;> subst h
 ·obtain ⟨i,rfl,_⟩:=hx; exact ⟨_,rfl,by simp [aA]⟩
 ·obtain ⟨i,rfl,hr⟩:=hx; exact ⟨_,rfl,by simp [aA,hr.length]⟩
 ·subst hx; exact ⟨_,rfl,by simp [aA]⟩
 ·subst hx; exact ⟨_,rfl,by simp [aA]⟩
theorem iF {agg:Bool} {off sz:Nat} {vs us:List V} {v:V} (h:aN R vs us) (hv:bC agg off sz vs=some v):∃v',bC agg off sz us=some v'∧aA R v v':=by
 unfold bC at hv ⊢;cases agg
 ·simpa using h.get hv
 ·simp only [if_true,Oi] at hv ⊢;subst hv;exact ⟨_,rfl,aA.agg ((h.drop off).take sz)⟩
theorem FZ {agg:Bool} {off sz:Nat} {x x' v:V} (hx:aA R x x') (h:j9 agg off sz x=some v):∃v',j9 agg off sz x'=some v'∧aA R v v':=by
 unfold j9 at h;split at h
 ·obtain ⟨c,rfl,hr⟩:=aA.nL.1 hx;exact iF hr h
 ·cases h
theorem CE {agg:Bool} {off sz:Nat} {x x' v:V} (hx:aA R x x') (h:gl agg off sz x=some v):∃v',gl agg off sz x'=some v'∧aA R v v':=by
 unfold gl at h;split at h
 ·simp only [aA] at hx;obtain ⟨i,rfl,hr⟩:=hx;simp only [Oi] at h; subst h;exact ⟨_,rfl,by simp only [aA]; exact ⟨i,rfl,hr⟩⟩
 ·simp only [aA] at hx;obtain ⟨u,rfl,hr⟩:=hx;simp only [Option.map_eq_some_iff] at h;obtain ⟨w,hw,rfl⟩:=h;obtain ⟨w',h1,h2⟩:=iF hr.cells hw;exact ⟨.rp w',by simp [gl,h1],aA.rp h2⟩
 ·cases h
theorem CA (hm:Lv R σc σ) {esz:Nat} {x i x' i' v:V} (hx:aA R x x') (hi:aA R i i') (h:bF σc esz x i=some v):∃v',bF σ esz x' i'=some v'∧aA R v v':=by
 unfold bF at h;split at h
 ·simp only [aA] at hx hi;obtain ⟨a,rfl,ha⟩:=hx;subst hi;split at h
  ·rename_i ob hob;obtain ⟨rows',h1,h2⟩:=hm _ _ _ ha hob;split at h
   ·rename_i hc;simp only [Oi] at h; subst h;refine ⟨_,?_,by simp only [aA]; exact ⟨a,rfl,ha⟩⟩;simp only [bF,h1];rw [if_pos hc]
   ·cases h
  ·cases h
 ·simp only [aA] at hx hi;obtain ⟨rows',rfl,hr⟩:=hx;subst hi;split at h
  ·rename_i hc;split at h
   ·rename_i r hrr;simp only [Oi] at h; subst h;obtain ⟨u,h1,h2⟩:=hr.get hrr;refine ⟨.rp u,?_,aA.rp h2⟩;simp only [bF,h1];rw [if_pos hc]
   ·cases h
  ·cases h
 ·cases h
theorem AG {agg:Bool} {n esz:Nat} {x i x' i' v:V} (hx:aA R x x') (hi:aA R i i') (h:dI agg n esz x i=some v):∃v',dI agg n esz x' i'=some v'∧aA R v v':=by
 unfold dI at h;split at h
 ·simp only [aA] at hx hi;obtain ⟨a,rfl,ha⟩:=hx;subst hi;split at h
  ·rename_i hc;simp only [Oi] at h; subst h;exact ⟨_,by simp only [dI]; rw [if_pos hc],by simp only [aA]; exact ⟨a,rfl,ha⟩⟩
  ·cases h
 ·simp only [aA] at hx hi;obtain ⟨u,rfl,hr⟩:=hx;subst hi;split at h
  ·rename_i hc;simp only [Option.map_eq_some_iff] at h;obtain ⟨w,hw,rfl⟩:=h;obtain ⟨w',h1,h2⟩:=iF hr.cells hw;exact ⟨.rp w',by simp only [dI]; rw [if_pos hc,h1]; rfl,aA.rp h2⟩
  ·cases h
 ·cases h
theorem Dm {agg:Bool} {n esz:Nat} {x i x' i' v:V} (hx:aA R x x') (hi:aA R i i') (h:fF agg n esz x i=some v):∃v',fF agg n esz x' i'=some v'∧aA R v v':=by
 unfold fF at h;split at h
 ·obtain ⟨c,rfl,hr⟩:=aA.nL.1 hx;rw [aA.jv] at hi;subst hi;split at h
  ·rename_i hc;obtain ⟨w',h1,h2⟩:=iF hr h;exact ⟨w',by simp only [fF]; rw [if_pos hc,h1],h2⟩
  ·cases h
 ·cases h
theorem Cq {x i x' i' v:V} (hx:aA R x x') (hi:aA R i i') (h:et x i=some v):∃v',et x' i'=some v'∧aA R v v':=by
 have h0:=h;unfold et at h;split at h
 ·rw [aA.qY] at hx;rw [aA.jv] at hi;subst hx hi;refine ⟨v,h0,?_⟩;split at h
  ·split at h
   ·simp only [Oi] at h; subst h; simp [aA]
   ·cases h
  ·cases h
 ·cases h
theorem ur (hm:Lv R σc σ) {agg:Bool} {sz:Nat} {x x' v:V} (hx:aA R x x') (h:bO σc agg sz x=some v):∃v',bO σ agg sz x'=some v'∧aA R v v':=by
 unfold bO at h;split at h
 ·simp only [aA] at hx;obtain ⟨a,rfl,ha⟩:=hx;split at h
  ·rename_i ob hob;obtain ⟨rows',h1,h2⟩:=hm _ _ _ ha hob;split at h
   ·rename_i r hr;obtain ⟨r',h3,h4⟩:=h2.get hr;have hl:=h4.cells.length;simp only [bO,h1,h3,hl];cases agg
    ·simp only [Bool.false_eq_true,if_false] at h ⊢;exact h4.cells.get h
    ·simp only [if_true] at h ⊢;split at h
     ·rename_i hc;simp only [Oi] at h; subst h;exact ⟨_,by rw [if_pos hc],aA.agg h4.cells⟩
     ·split at h
      ·rename_i hc hc';rw [if_neg hc,if_pos hc'];simp only [Oi] at h; subst h;exact ⟨_,rfl,aA.agg ((h4.cells.drop _).take _)⟩
      ·cases h
   ·cases h
  ·cases h
 ·simp only [aA] at hx;obtain ⟨u,rfl,hr⟩:=hx;rename_i w;have hl:=hr.cells.length;cases agg
  ·simp only [Bool.false_eq_true,if_false] at h;split at h
   ·cases h
   ·simp only [Oi] at h; subst h;rename_i hna;refine ⟨u,?_,hr⟩;cases u <;> simp only [bO,Bool.false_eq_true,if_false];cases w <;> simp only [aA] at hr <;> simp at hr hna
  ·simp only [if_true] at h;split at h
   ·rename_i hc;simp only [Oi] at h; subst h;refine ⟨_,?_,aA.agg hr.cells⟩;simp only [bO,hl,if_true];rw [if_pos hc]
   ·cases h
 ·cases h
theorem Az {d:Int}:∀ {o o':Option V},(match o,o' with | none,none=>True | some x,some x'=>aA R x x' | _,_=>False)→∀ {j:Int},bu d o=some j→bu d o'=some j
 | none,none,_,j,h=>h
 | some x,some x',hx,j,h=>by
   simp only at hx;cases x <;> simp only [bu] at h <;> first | cases h | skip
   rw [aA.jv] at hx;subst hx;rfl
 | none,some _,hx,_,_=>hx.elim
 | some _,none,hx,_,_=>hx.elim
theorem zQ (hm:Lv R σc σ) {esz:Nat} {x x' v:V} {lo hi mx lo' hi' mx':Option V} (hx:aA R x x')
 (h1:∀d j,bu d lo=some j→bu d lo'=some j) (h2:∀d j,bu d hi=some j→bu d hi'=some j) (h3:∀d j,bu d mx=some j→bu d mx'=some j)
 (h:cp σc esz x lo hi mx=some v):∃v',cp σ esz x' lo' hi' mx'=some v'∧aA R v v':=by
 unfold cp at h;split at h
 ·simp only [aA] at hx;obtain ⟨a,rfl,ha⟩:=hx;split at h
  ·rename_i l hh m e1 e2 e3;split at h
   ·rename_i hc;simp only [Oi] at h; subst h;have hsz:iq σ a esz=true:=by
     have hz:=hc.2.2.2.2;unfold iq at hz ⊢;split at hz
     ·rename_i ob hob;obtain ⟨rows',g1,g2⟩:=hm _ _ _ ha hob;rw [g1]; exact hz
     ·cases hz
    refine ⟨_,?_,by simp only [aA]; exact ⟨a,rfl,ha⟩⟩;simp only [cp,h1 _ _ e1,h2 _ _ e2,h3 _ _ e3];rw [if_pos ⟨hc.1,hc.2.1,hc.2.2.1,hc.2.2.2.1,hsz⟩]
   ·cases h
  ·cases h
 ·simp only [aA] at hx;obtain ⟨rows',rfl,hr⟩:=hx;have hl:=hr.length;split at h
  ·rename_i l hh m e1 e2 e3;split at h
   ·rename_i hc;simp only [Oi] at h; subst h;refine ⟨.sl _ ((rows'.drop l.toNat).take (hh.toNat - l.toNat)),?_,by simp only [aA]; exact ⟨_,rfl,(hr.drop _).take _⟩⟩;simp only [cp,h1 _ _ e1,hl,h2 _ _ e2,h3 _ _ e3];rw [if_pos hc]
   ·cases h
  ·cases h
 ·simp only [aA] at hx;subst hx;split at h
  ·rename_i l hh m e1 e2 e3;split at h
   ·rename_i hc;simp only [Oi] at h; subst h;refine ⟨.aC,?_,by simp [aA]⟩;simp only [cp,h1 _ _ e1,h2 _ _ e2,h3 _ _ e3];rw [if_pos hc]
   ·cases h
  ·cases h
 ·cases h
theorem yG {x x' v:V} {lo hi lo' hi':Option V} (hx:aA R x x')
 (h1:∀d j,bu d lo=some j→bu d lo'=some j) (h2:∀d j,bu d hi=some j→bu d hi'=some j)
 (h:cH x lo hi=some v):∃v',cH x' lo' hi'=some v'∧aA R v v':=by
 unfold cH at h;split at h
 ·rw [aA.qY] at hx;subst hx;split at h
  ·rename_i l hh e1 e2;split at h
   ·rename_i hc;simp only [Oi] at h; subst h;refine ⟨_,?_,aA.qY.2 rfl⟩;simp only [cH,h1 _ _ e1,h2 _ _ e2];rw [if_pos hc]
   ·cases h
  ·cases h
 ·cases h
theorem tO {x x' v:V} (hx:aA R x x') (h:bS x=some v):∃v',bS x'=some v'∧aA R v v':=by
 unfold bS at h;split at h <;> first | cases h | skip
 all_goals (have hx0:=hx; simp only [aA] at hx; obtain ⟨i,rfl,_⟩:=hx; exact ⟨_,rfl,hx0⟩)
theorem Cm {neg:Bool} {x y x' y' v:V} (hx:aA R x x') (hy:aA R y y') (h:binBV neg x y=some v):∃v',binBV neg x' y'=some v'∧aA R v v':=by
 have h0:=h;unfold binBV at h;split at h
 ·rw [aA.ld] at hx hy;subst hx hy;refine ⟨v,h0,?_⟩;simp only [Oi] at h; subst h; simp [aA]
 ·cases h
theorem xS {m:Bool} {x y x' y' v:V} (hx:aA R x x') (hy:aA R y y') (h:cU m x y=some v):∃v',cU m x' y'=some v'∧aA R v v':=by
 have h0:=h;unfold cU at h;split at h
 ·rw [aA.jv] at hx hy;subst hx hy;refine ⟨v,h0,?_⟩;split at h
  ·simp only [Oi] at h; subst h; simp [aA]
  ·cases h
 ·cases h
theorem Ai {x y x' y':V} {b:Bool} (hx:aA R x x') (hy:aA R y y') (h:dD x y=some b):x'=x∧y'=y:=by
 unfold dD at h;split at h <;> first | cases h | skip
 all_goals simp only [aA] at hx hy
 all_goals exact ⟨hx,hy⟩
theorem qw:∀ {l m l' m':List V} {b:Bool},aN R l l'→aN R m m'→cd l m=some b→l'=l∧m'=m
 | [],[],_,_,_,h1,h2,_=>by rw [aN.gV] at h1 h2; exact ⟨h1,h2⟩
 | v::vs,u::us,_,_,b,h1,h2,h=>by
   obtain ⟨v',vs',rfl,g1,g2⟩:=aN.bY.1 h1;obtain ⟨u',us',rfl,g3,g4⟩:=aN.bY.1 h2;simp only [cd] at h;split at h
   ·rename_i e1 e2;obtain ⟨rfl,rfl⟩:=Ai g1 g3 e1;obtain ⟨rfl,rfl⟩:=qw g2 g4 e2;exact ⟨rfl,rfl⟩
   ·cases h
 | [],_::_,_,_,_,_,_,h=>by simp [cd] at h
 | _::_,[],_,_,_,_,_,h=>by simp [cd] at h
theorem E8 {neg:Bool} {ks:List Nat} {x y x' y' v:V} (hx:aA R x x') (hy:aA R y y') (h:jK neg ks x y=some v):∃v',jK neg ks x' y'=some v'∧aA R v v':=by
 have h0:=h;unfold jK at h;split at h
 ·obtain ⟨c,rfl,g1⟩:=aA.nL.1 hx;obtain ⟨d,rfl,g2⟩:=aA.nL.1 hy;split at h
  ·split at h
   ·rename_i e;obtain ⟨rfl,rfl⟩:=qw g1 g2 e;refine ⟨v,h0,?_⟩;simp only [Oi] at h; subst h; simp [aA]
   ·cases h
  ·cases h
 ·cases h
theorem qg:∀ {l m:List V} {b:List UInt8},aN R l m→bytesOf l=some b→m=l
 | [],_,_,h,_=>by rw [aN.gV] at h; exact h
 | v::vs,_,b,h,hb=>by
   obtain ⟨u,us,rfl,g1,g2⟩:=aN.bY.1 h;simp only [bytesOf] at hb;split at hb
   ·rename_i e1 e2;rw [qg g2 e2];cases v <;> simp [byteOf] at e1;rw [aA.jv] at g1;rw [g1]
   ·cases hb
theorem Ag (hm:Lv R σc σ) {x x' v:V} (hx:aA R x x') (h:dg σc x=some v):∃v',dg σ x'=some v'∧aA R v v':=by
 unfold dg at h;split at h
 ·simp only [aA] at hx; subst hx;simp only [Oi] at h; subst h;exact ⟨_,rfl,by simp [aA]⟩
 ·simp only [aA] at hx;obtain ⟨a,rfl,ha⟩:=hx;split at h
  ·rename_i ob hob;obtain ⟨rows',h1,h2⟩:=hm _ _ _ ha hob;split at h
   ·rename_i hc;simp only [Option.map_eq_some_iff] at h;obtain ⟨l,hl,rfl⟩:=h;have e:=qg ((h2.drop _).take _) hl;refine ⟨_,?_,aA.qY.2 rfl⟩;simp only [dg,h1,h2.length,e,hl,Option.map_some];rw [if_pos hc]
   ·cases h
  ·cases h
 ·cases h
theorem EB {i:Nat} {x x' v:V} (hx:aA R x x') (h:jU i x=some v):∃v',jU i x'=some v'∧aA R v v':=by
 unfold jU at h;split at h
 ·simp only [aA] at hx;obtain ⟨c,rfl,hr⟩:=hx;exact hr.get h
 ·cases h
def jl (R:Nat→Nat→Prop):List (Nat×Nat×V)→List (Nat×Nat×V)→Prop
 | [],l=>l=[]
 | p::ps,l=>∃u us,l=(p.1,p.2.1,u)::us∧aA R p.2.2 u∧jl R ps us
theorem tA:∀ {ps ps':List (Nat×Nat×V)} {z z' l:List V},aN R z z'→jl R ps ps'→cV z ps=some l→∃l',cV z' ps'=some l'∧aN R l l'
 | [],_,z,z',l,hz,hp,h=>by
   simp only [jl] at hp; subst hp;simp only [cV,Oi] at h; subst h;exact ⟨_,rfl,hz⟩
 | (off,sz,x)::ps,_,z,z',l,hz,hp,h=>by
   simp only [jl] at hp;obtain ⟨u,us,rfl,h1,h2⟩:=hp;simp only [cV] at h ⊢;split at h
   ·rename_i hc;rw [if_pos ⟨by rw [h1.cells.length]; exact hc.1,by rw [h1.stays]; exact hc.2.1,by rw [hz.length]; exact hc.2.2⟩];refine tA ?_ h2 h;unfold bR;rw [h1.cells.length];exact ((hz.take _).append h1.cells).append (hz.drop _)
   ·cases h
theorem lF (hs:∀i,aA R (s i) (s' i)) {lo:Option VX} (h:∀x∈lo.toList,okX x=true) (d j:Int):bu d (lo.map (·.ev s))=some j→bu d (lo.map (·.ev s'))=some j:=by
 refine Az (R:=R) ?_;cases lo with
 | none=>trivial
 | some x=>exact eO hs (h x (by simp))
theorem C3 (hm:Lv R σc σ) (hs:∀i,aA R (s i) (s' i)) {op:VOp} (hok:pF op=true) {v:V} (hp:eP s op) (h:aE σc s op=some v) :
 eP s' op∧∃v',aE σ s' op=some v'∧aA R v v':=by
 have hok':=hok;simp only [pF,Ba] at hok;have hx:=List.all_eq_true.1 hok.1;have E:∀x,x∈op.xs→aA R (x.ev s) (x.ev s'):=fun x h=>eO hs (hx x h);cases op <;> simp only [VOp.xs,List.mem_cons,List.not_mem_nil,or_false,forall_eq_or_imp,forall_eq,List.mem_append] at E <;> simp only [aE,eP,Oi,reduceCtorEq,true_and] at h hp ⊢
 case mov=>subst h; exact ⟨_,rfl,E⟩
 case pick c a b =>
  split at h
  ·rename_i t ht;have:=E.1;rw [ht,aA.ld] at this;rw [this];simp only [Oi] at h ⊢;subst h;refine ⟨_,rfl,?_⟩;cases t
   ·exact E.2.2
   ·exact E.2.1
  ·cases h
 case bin op x y =>
  obtain ⟨e1,e2,e3⟩:=FG E.1 E.2 h;rw [e1,e2];exact ⟨hp,v,h,ei v e3⟩
 case not x =>
  split at h
  ·rename_i b hb;rw [hb,aA.ld] at E;rw [E];simp only [Oi] at h ⊢; subst h;exact ⟨_,rfl,by simp [aA]⟩
  ·cases h
 case neg x =>
  split at h
  ·rename_i k b hb;rw [hb] at hp;rw [hb,aA.jv] at E;rw [E];simp only [Oi] at h ⊢; subst h;exact ⟨hp,_,rfl,by simp [aA]⟩
  ·cases h
 case len=>exact D1 E h
 case cap =>
  unfold kO at h;split at h
  ·rename_i hn;rw [hn] at E;simp only [aA] at E;rw [E];simp only [Oi] at h;subst h;exact ⟨_,rfl,by simp [aA]⟩
  ·cases h
 case fld=>exact FZ E h
 case fldA=>exact CE E h
 case idxA=>exact CA hm E.1 E.2 h
 case idxAA=>exact AG E.1 E.2 h
 case idxV=>exact Dm E.1 E.2 h
 case idxS=>exact Cq E.1 E.2 h
 case load=>exact ur hm E h
 case slice esz x lo hi mx =>
  have hx':=hx;simp only [VOp.xs,List.mem_cons,List.mem_append] at hx';exact zQ hm E.1 (lF hs fun y hy=>hx' y (.inr (.inl (.inl hy)))) (lF hs fun y hy=>hx' y (.inr (.inl (.inr hy)))) (lF hs fun y hy=>hx' y (.inr (.inr hy))) h
 case sliceS x lo hi =>
  have hx':=hx;simp only [VOp.xs,List.mem_cons,List.mem_append] at hx';exact yG E.1 (lF hs fun y hy=>hx' y (.inr (.inl hy))) (lF hs fun y hy=>hx' y (.inr (.inr hy))) h
 case ext=>exact EB E h
 case more m xs =>
  by_cases hb:∃f,m=.mkB f
  ·obtain ⟨f,rfl⟩:=hb;simp only [aE,Oi] at h ⊢;subst h;exact ⟨_,rfl,by simp only [aA]; exact ⟨_,rfl,lV hs hok.1⟩⟩
  cases xs with
  | nil=>cases m <;> first | exact absurd ⟨_,rfl⟩ hb | simp [aE] at h
  | cons x xs =>
    have ex:=E x (by simp);cases xs with
    | cons y ys=>cases m <;> first | exact absurd ⟨_,rfl⟩ hb | simp [aE] at h
    | nil =>
      cases m
      case mkB=>exact absurd ⟨_,rfl⟩ hb
      case mkI t =>
       simp only [Oi] at h ⊢;subst h;exact ⟨_,rfl,by simp only [aA]; exact ⟨_,rfl,ex⟩⟩
      case tas t ok z =>
       have hz:z.dX=true:=hok.2;simp only [] at h ⊢;unfold FB at h ⊢;split at h
       ·rename_i t' v' hv';rw [hv'] at ex;simp only [aA] at ex;obtain ⟨u,hu,hru⟩:=ex;rw [hu];simp only;split at h
        ·rename_i e;rw [if_pos e];simp only [Oi] at h ⊢;subst h;refine ⟨_,rfl,?_⟩;cases ok
         ·exact hru
         ·simp only [if_true,aA,aN]; exact ⟨_,rfl,_,_,rfl,hru,_,_,rfl,rfl,rfl⟩
        ·rename_i e;rw [if_neg e];cases ok
         ·simp at h
         ·simp only [if_true,Oi] at h ⊢;subst h;refine ⟨_,rfl,?_⟩;simp only [aA,aN]; exact ⟨_,rfl,_,_,rfl,ei z hz,_,_,rfl,rfl,rfl⟩
       ·rename_i hv';rw [hv'] at ex;simp only [aA] at ex;rw [ex];cases ok
        ·simp at h
        ·simp only [if_true,Oi] at h ⊢;subst h;refine ⟨_,rfl,?_⟩;simp only [aA,aN]; exact ⟨_,rfl,_,_,rfl,ei z hz,_,_,rfl,rfl,rfl⟩
       ·cases h
      case nilP neg =>
       simp only [] at h ⊢;unfold Bv at h;split at h
       ·rename_i hv';rw [hv'] at ex;simp only [aA] at ex;rw [ex];exact ⟨v,h,by simp only [Oi] at h; subst h; simp [aA]⟩
       ·rename_i hv';rw [hv'] at ex;simp only [aA] at ex;obtain ⟨u,hu,_⟩:=ex;rw [hu];exact ⟨v,h,by simp only [Oi] at h; subst h; simp [aA]⟩
       ·rename_i hv';rw [hv'] at ex;simp only [aA] at ex;obtain ⟨u,hu,_⟩:=ex;rw [hu];exact ⟨v,h,by simp only [Oi] at h; subst h; simp [aA]⟩
       ·cases h
      all_goals simp [aE] at h
 case mkfn f xs =>
  subst h;exact ⟨_,rfl,by simp only [aA]; exact ⟨_,rfl,lV hs hok.1⟩⟩
 case convI k x =>
  split at h
  ·rename_i k' b hb;rw [hb] at hp;rw [hb,aA.jv] at E;rw [E];simp only [Oi] at h ⊢; subst h;exact ⟨hp,_,rfl,by simp [aA]⟩
  ·cases h
 case nilCheck=>exact tO E h
 case binB=>exact Cm E.1 E.2 h
 case eqS=>exact E8 E.1 E.2 h
 case minmax=>exact xS E.1 E.2 h
 case bstr=>exact Ag hm E h
 case build zero parts =>
  simp only [Option.map_eq_some_iff] at h;obtain ⟨l,hl,rfl⟩:=h;have hpr:∀ps:List (Nat×Nat×VX),(∀p∈ps,okX p.2.2=true)→jl R (ps.map fun p=>(p.1,p.2.1,p.2.2.ev s)) (ps.map fun p=>(p.1,p.2.1,p.2.2.ev s')):=by
   intro ps
   induction ps with
   | nil=>intro _; simp [jl]
   | cons p ps ih =>
     intro hps;simp only [List.map_cons,jl];exact ⟨_,_,rfl,eO hs (hps p (by simp)),ih fun q hq=>hps q (by simp [hq])⟩
  obtain ⟨l',h1,h2⟩:=tA (fk zero hok.2) (hpr parts fun p hp=>hx _ (by simp only [VOp.xs,List.mem_map]; exact ⟨p,hp,rfl⟩)) hl;exact ⟨.agg l',by rw [h1]; rfl,aA.agg h2⟩
end
variable {R:Nat→Nat→Prop} {K:af} {fl:Nat} {P:Program} {n:Nat}
structure fq (K:af) (fl:Nat) (R:Nat→Nat→Prop) (cs:CS) (st:St):Prop where
 slot:∀i,aA R (cs.sf i) (st.s i)
 mem:mW K fl R (stF cs.σ) cs.nxt st.σ
theorem C2 {s s':Nat→V} (h:∀i,aA R (s i) (s' i)) {d:Option Nat} {v u:V} (hv:aA R v u):∀i,aA R (aW s d v i) (aW s' d u i):=by
 intro i;cases d with
 | none=>exact h i
 | some d =>
   show aA R (if i=d then v else s i) (if i=d then u else s' i);split
   ·exact hv
   ·exact h i
theorem fq.put {cs:CS} {st:St} (h:fq K fl R cs st) {d:Option Nat} {v u:V} (hv:aA R v u):fq K fl R (cs.put d v) ⟨aW st.s d u,st.σ⟩:=by
 refine ⟨?_,?_⟩
 ·rw [Kz]; exact C2 h.slot hv
 ·rw [(Fm cs d v).1,(Fm cs d v).2]; exact h.mem
theorem aA.HA:aA R (.tup []) (.tup []):=by simp [aA,aN]
theorem JJ (a b:Int):eqQ a b=decide (a=b):=by
 cases a <;> cases b <;> rw [Bool.eq_iff_iff] <;> simp [eqQ] <;> first | rfl | omega
theorem Je (a b:Int):leQ a b=decide (a≤b):=by
 cases a <;> cases b <;> rw [Bool.eq_iff_iff] <;> simp only [leQ,Nat.ble_eq,decide_eq_true_eq,Bool.false_eq_true,false_iff,true_iff,Int.ofNat_eq_natCast] <;> omega
theorem Gx (a b:Int):Mb a b=a+b:=by cases a <;> cases b <;> rfl
theorem G2 (a b:Int):Kl a b=a - b:=by
 cases a <;> cases b <;> simp only [Kl];rename_i m k;cases h:Nat.ble k m
 ·have:¬k≤m:=by rw [←Nat.ble_eq]; simp [h]
  simp only [Nat.sub_eq,Int.ofNat_eq_natCast];omega
 ·have:k≤m:=Nat.le_of_ble_eq_true h;simp only [Nat.sub_eq,Int.ofNat_eq_natCast];omega
theorem Hw {a:Int} (h:Kj a=true):inR .i64 a:=by
 cases a <;> simp only [Kj,Nat.ble_eq] at h
 ·rw [Int.ofNat_eq_natCast]; exact ak (by omega) (by omega)
 ·exact ak (by omega) (by omega)
theorem G4 {k:IntKind} {a:Int} (h:J1 k a=true):inR k a:=by
 unfold J1 at h;split at h
 ·exact Hw h
 ·simpa [inR] using h
theorem iz {α:Type} {b:Bool} {x y:α}:@Bool.casesOn (fun _=>α) b x y=if b then y else x:=by cases b <;> rfl
theorem BZ {α:Type} {b:Bool} {x y:α}:@Bool.rec (fun _=>α) x y b=if b then y else x:=by cases b <;> rfl
theorem uY {k:IntKind} {a:Int} {v:V} (h:gI k a=some v):v=.int k a∧inR k a:=by
 unfold gI at h;rw [iz] at h;split at h
 ·rename_i hi;simp only [Oi] at h;exact ⟨h.symm,G4 hi⟩
 ·cases h
theorem zI {op:BinOp} {k:IntKind} {a b:Int} {v:V} (h:(oz op).f k a b=some v):eA op k a b∧cF op k a b=some v:=by
 unfold oz at h;split at h <;> simp only [] at h
 ·obtain ⟨rfl,h2⟩:=uY h; rw [Gx] at *; exact ⟨h2,rfl⟩
 ·obtain ⟨rfl,h2⟩:=uY h; rw [G2] at *; exact ⟨h2,rfl⟩
 ·obtain ⟨rfl,h2⟩:=uY h; exact ⟨h2,rfl⟩
 ·split at h
  ·cases h
  ·rename_i hb;obtain ⟨rfl,h2⟩:=uY h; exact ⟨h2,by simp [cF,hb]⟩
 ·split at h
  ·cases h
  ·rename_i hb;simp only [Oi] at h; subst h;exact ⟨trivial,by simp [cF,hb]⟩
 all_goals first
  | exact ⟨trivial,h⟩
  | (simp only [Oi] at h; subst h; refine ⟨trivial,?_⟩; simp only [JJ,Je,cF,Oi,V.bool.injEq]; try (rw [Bool.eq_iff_iff]; simp))
  | cases h
theorem Aq {op:BinOp} {a b:List UInt8} {v:V} (h:vw op a b=some v):ez op a b∧ed op a b=some v:=by
 unfold vw at h;split at h
 ·rw [iz] at h;split at h
  ·rename_i hb;simp only [Oi] at h; subst h;exact ⟨Nat.le_of_ble_eq_true hb,rfl⟩
  ·cases h
 ·exact ⟨trivial,h⟩
 ·exact ⟨trivial,h⟩
 ·cases h
theorem DR {k k':IntKind} (h:DG k k'=true):k=k':=by
 unfold DG at h;rw [iz] at h;cases k <;> cases k' <;> simp_all [IY,eqK]
theorem Ht {op:BinOp} {x y v:V} (h:Hv op (oz op).f y x=some v):ni op x y∧ub op x y=some v:=by
 unfold Hv at h;split at h
 ·unfold LY at h;split at h
  ·rw [iz] at h;split at h
   ·rename_i hk;have:=DR hk;subst this;obtain ⟨h1,h2⟩:=zI h;exact ⟨h1,by simp [ub,h2]⟩
   ·cases h
  ·cases h
 ·unfold Mj at h;split at h
  ·exact Aq h
  ·cases h
 ·cases h
theorem Gi {σ:Tr (Option Ob)} {esz:Nat} {x i v:V} (h:JF σ esz x i=some v):bF (stF σ) esz x i=some v:=by
 unfold JF at h;split at h
 ·split at h
  ·rename_i m hm;have hj:=hm;unfold zn at hm;split at hm
   ·simp only [Oi] at hm; subst hm;split at h
    ·rename_i ob hob;rw [iz] at h;split at h
     ·rename_i hc;simp only [Ba,Nat.beq_eq,Nat.blt_eq] at hc;have e:stF σ _=some ob:=hob;simp only [bF,e];rw [if_pos ⟨hc.1,by simp,by simpa using hc.2⟩];exact h
     ·cases h
    ·cases h
   ·cases hm
  ·cases h
 ·split at h
  ·rename_i m hm;unfold zn at hm;split at hm
   ·simp only [Oi] at hm; subst hm;rw [iz] at h;split at h
    ·rename_i hc;rw [Nat.beq_eq] at hc;simp only [bF];rw [if_pos ⟨hc,by simp⟩];exact h
    ·cases h
   ·cases hm
  ·cases h
 ·cases h
theorem Fp {x i v:V} (h:Fa x i=some v):et x i=some v:=by
 unfold Fa at h;split at h
 ·split at h
  ·rename_i m hm;unfold zn at hm;split at hm
   ·simp only [Oi] at hm; subst hm;simp only [et];rw [if_pos (by simp)];exact h
   ·cases hm
  ·cases h
 ·cases h
theorem F8 {σ:Tr (Option Ob)} {agg:Bool} {sz:Nat} {x v:V} (h:ED σ agg sz x=some v):bO (stF σ) agg sz x=some v:=by
 unfold ED at h;split at h
 ·split at h
  ·rename_i ob hob;have e:stF σ _=some ob:=hob;split at h
   ·rename_i r hr;simp only [bO,e,hr];split at h
    ·rw [iz,iz] at h;simp only [if_true];split at h
     ·rename_i hc;simp only [Ba,Nat.beq_eq] at hc;rw [if_pos hc]; exact h
     ·rename_i hc;split at h
      ·rename_i hc';rw [if_neg (by simpa using hc),if_pos (show _+sz≤_ from Nat.le_of_ble_eq_true hc')]; exact h
      ·cases h
    ·simpa using h
   ·cases h
  ·cases h
 ·exact h
theorem ve {draw:Bool} {call:kT} {dst:Option Nat} {op:VOp} {cs cs':CS} {st:St} (hk:bp op=0) (hok:pF op=true) (h:fq K fl R cs st)
 (hr:(jy draw dst op).f call fl cs=some cs'):∃v',eP st.s op∧aE st.σ st.s op=some v'∧fq K fl R cs' ⟨aW st.s dst v',st.σ⟩:=by
 have key:∃v,eP cs.sf op∧aE (stF cs.σ) cs.sf op=some v∧cs'=cs.put dst v:=by
  have hp:∀(g:CS→Option V),(jc dst g).f call fl cs=some cs'→∃v,g cs=some v∧cs'=cs.put dst v:=by
   intro g hg;simp only [jc] at hg;split at hg
   ·rename_i v hv;simp only [Oi] at hg;exact ⟨v,hv,hg.symm⟩
   ·cases hg
  cases op <;> simp only [bp,reduceCtorEq,Nat.reduceEqDiff] at hk <;> simp only [jy] at hr
  case mov x =>
   simp only [L8,Oi] at hr;exact ⟨_,trivial,rfl,hr.symm⟩
  case bin op x y =>
   have hr':(jc dst fun cs=>Hv op (oz op).f (y.ev cs.sf) (x.ev cs.sf)).f call fl cs=some cs':=hr;obtain ⟨v,h1,h2⟩:=hp _ hr';obtain ⟨h3,h4⟩:=Ht h1;exact ⟨v,h3,h4,h2⟩
  case pick c a b =>
   obtain ⟨v,h1,h2⟩:=hp _ hr;refine ⟨v,trivial,?_,h2⟩;simp only [aE];unfold H9 at h1;split at h1
   ·rename_i t ht;rw [iz] at h1;rw [ht];exact h1
   ·cases h1
  case not x =>
   obtain ⟨v,h1,h2⟩:=hp _ hr;refine ⟨v,trivial,?_,h2⟩;simp only [aE];unfold Lm at h1;split at h1
   ·rename_i t ht; rw [ht]; exact h1
   ·cases h1
  case neg x =>
   obtain ⟨v,h1,h2⟩:=hp _ hr;unfold LR at h1;split at h1
   ·rename_i k t ht;obtain ⟨h3,h4⟩:=uY h1;exact ⟨v,by simp only [eP,ht]; exact h4,by simp only [aE,ht,h3],h2⟩
   ·cases h1
  case convI k x =>
   obtain ⟨v,h1,h2⟩:=hp _ hr;unfold H0 at h1;split at h1
   ·rename_i k t ht;obtain ⟨h3,h4⟩:=uY h1;exact ⟨v,by simp only [eP,ht]; exact h4,by simp only [aE,ht,h3],h2⟩
   ·cases h1
  case idxA=>obtain ⟨v,h1,h2⟩:=hp _ hr; exact ⟨v,trivial,Gi h1,h2⟩
  case idxS=>obtain ⟨v,h1,h2⟩:=hp _ hr; exact ⟨v,trivial,Fp h1,h2⟩
  case load=>obtain ⟨v,h1,h2⟩:=hp _ hr; exact ⟨v,trivial,F8 h1,h2⟩
  all_goals (obtain ⟨v,h1,h2⟩:=hp _ hr; exact ⟨v,trivial,h1,h2⟩)
 obtain ⟨v,h1,h2,rfl⟩:=key;obtain ⟨h3,v',h4,h5⟩:=C3 h.mem.live h.slot hok h1 h2;exact ⟨v',h3,h4,h.put h5⟩
theorem xV {σc σ:af} (hm:Lv R σc σ) {sz:Nat} {x x':V} {l:List V} (hx:aA R x x') (h:bG σc sz x=some l):∃l',bG σ sz x'=some l'∧aN R l l':=by
 unfold bG at h;split at h
 ·simp only [aA] at hx;obtain ⟨a,rfl,ha⟩:=hx;split at h
  ·rename_i ob hob;obtain ⟨rows',h1,h2⟩:=hm _ _ _ ha hob;split at h
   ·rename_i hc;simp only [Oi] at h; subst h;refine ⟨_,?_,(h2.drop _).take _⟩;simp only [bG,h1,h2.length];rw [if_pos hc]
   ·cases h
  ·cases h
 ·simp only [aA] at hx;obtain ⟨rows',rfl,hr⟩:=hx;split at h
  ·rename_i hc;simp only [Oi] at h; subst h;exact ⟨rows',by simp [bG,hc],hr⟩
  ·cases h
 ·simp only [aA] at hx; subst hx;simp only [Oi] at h; subst h;exact ⟨[],rfl,by simp [aN]⟩
 ·rename_i s;simp only [aA] at hx; subst hx;refine ⟨l,h,?_⟩;split at h
  ·simp only [Oi] at h; subst h
   induction s with
   | nil=>simp [aN]
   | cons b s ih=>simp only [List.map_cons,aN]; exact ⟨_,_,rfl,by simp [aA],ih⟩
  ·cases h
 ·cases h
theorem yk {σc σ:af} (hm:Lv R σc σ) {e sz:Nat} {x x':V} {l:List V} {d:Option Nat} (hx:aA R x x') (h:bQ σc e sz x=some (l,d)) :
 ∃l' d',bQ σ e sz x'=some (l',d')∧aN R l l'∧(d=none∧d'=none∨∃c a o,d=some c∧d'=some a∧R c a∧σc c=some o):=by
 unfold bQ at h;split at h
 ·simp only [aA] at hx;obtain ⟨a,rfl,ha⟩:=hx;split at h
  ·rename_i ob hob;obtain ⟨rows',h1,h2⟩:=hm _ _ _ ha hob;split at h
   ·rename_i hc;simp only [Oi,Prod.mk.injEq] at h;obtain ⟨rfl,rfl⟩:=h;refine ⟨_,some a,?_,h2.take _, .inr ⟨_,a,ob,rfl,rfl,ha,hob⟩⟩;simp only [bQ,h1,h2.length];rw [if_pos hc]
   ·cases h
  ·cases h
 ·simp only [aA] at hx; subst hx;simp only [Oi,Prod.mk.injEq] at h;obtain ⟨rfl,rfl⟩:=h;exact ⟨[],none,rfl,by simp [aN], .inl ⟨rfl,rfl⟩⟩
 ·cases h
theorem jb {dst:Option Nat} {cs cs':CS} {st:St} (h:fq K fl R cs st) {m:Mk} {rows':List V} {d':Option Nat} (hrows:aN R m.ob.rows rows')
 (hd:m.gone=none∧d'=none∨∃c a o,m.gone=some c∧d'=some a∧R c a∧stF cs.σ c=some o) (hr:wj fl dst cs m=some cs') {id:Nat} (hid:st.σ id=none) :
 ∃R',(∀a b,R a b→R' a b)∧fq K fl R' cs' ⟨aW st.s dst (if m.var then .ptr id 0 0 else .own id 0 m.len),upd (bw st.σ d') id ⟨m.ob.elem,m.ob.sz,rows'⟩⟩:=by
 refine ⟨ext R cs.nxt id,wF _ _,?_⟩;have hval:aA (ext R cs.nxt id) (@Bool.casesOn (fun _=>V) m.var (.own cs.nxt 0 m.len) (.ptr cs.nxt 0 0)) (if m.var then .ptr id 0 0 else .own id 0 m.len):=by
  cases m.var
  ·simp only [aA,Bool.false_eq_true,if_false]; exact ⟨id,rfl, .inr ⟨rfl,rfl⟩⟩
  ·simp only [aA,if_true]; exact ⟨id,rfl, .inr ⟨rfl,rfl⟩⟩
 have hslot:∀i,aA (ext R cs.nxt id) (cs.sf i) (st.s i):=fun i=>aA.mono (wF _ _) _ _ (h.slot i);unfold wj at hr;rcases hd with ⟨e1,rfl⟩ | ⟨c,a,o,e1,rfl,hR,ho⟩
 ·rw [e1] at hr;simp only [Oi] at hr;subst hr;have hm:=h.mem.new hid hrows;have hS:fq K fl (ext R cs.nxt id) ⟨cs.s,lG none (some m.ob) cs.nxt cs.σ,Nat.succ cs.nxt⟩ ⟨st.s,upd st.σ id ⟨m.ob.elem,m.ob.sz,rows'⟩⟩ :=
   ⟨hslot,by simp only [qQ]; exact hm⟩
  exact hS.put hval
 ·rw [e1] at hr;simp only [iz] at hr;split at hr
  ·rename_i hf;simp only [Oi] at hr;subst hr;have h1:=h.mem.rem hR ho (Nat.le_of_ble_eq_true hf);have hid':del st.σ a id=none:=by
    by_cases e:id=a
    ·simp [del,e]
    ·rw [dh e]; exact hid
   have hm:=h1.new hid' hrows;have hS:fq K fl (ext R cs.nxt id) ⟨cs.s,lG none (some m.ob) cs.nxt (lG none none c cs.σ),Nat.succ cs.nxt⟩ ⟨st.s,upd (del st.σ a) id ⟨m.ob.elem,m.ob.sz,rows'⟩⟩ :=
    ⟨hslot,by simp only [qQ,Gw]; exact hm⟩
   rw [iz] at hval;exact hS.put hval
  ·cases hr
theorem x8 {draw:Bool} {call:kT} {dst:Option Nat} {op:VOp} {cs cs':CS} {st:St} (hk:bp op=3) (hok:pF op=true) (h:fq K fl R cs st)
 (hr:(jy draw dst op).f call fl cs=some cs'):∃g',eff st.s st.σ op=some g'∧∀id,st.σ id=none→∃R',(∀a b,R a b→R' a b) ∧
   fq K fl R' cs' ⟨aW st.s dst (g' id).1,(g' id).2⟩:=by
 have hp:∀(g:CS→Option Mk),(zX dst g).f call fl cs=some cs'→∃m,g cs=some m∧wj fl dst cs m=some cs':=by
  intro g hg;simp only [zX] at hg;split at hg
  ·rename_i v hv;exact ⟨v,hv,hg⟩
  ·cases hg
 simp only [pF,Ba] at hok;have hx:=List.all_eq_true.1 hok.1;cases op <;> simp only [bp,reduceCtorEq,Nat.reduceEqDiff] at hk <;> simp only [jy] at hr
 case more m xs=>cases m <;> simp at hk
 case alloc e sz z =>
  obtain ⟨m,h1,h2⟩:=hp _ hr;simp only [Oi] at h1; subst h1;refine ⟨_,rfl,fun id hid=>?_⟩;have:=jb (d':=none) h (aN.one (ei (R:=R) z hok.2)) (.inl ⟨rfl,rfl⟩) h2 hid;simpa [bw] using this
 case box e sz x =>
  obtain ⟨m,h1,h2⟩:=hp _ hr;have hv:=eO h.slot (hx x (by simp [VOp.xs]));unfold LL at h1;rw [iz] at h1;split at h1
  ·rename_i hc;simp only [Ba,Nat.beq_eq] at hc;simp only [Oi] at h1; subst h1;refine ⟨fun id=>(.ptr id 0 0,upd st.σ id ⟨e,sz,[x.ev st.s]⟩),?_,fun id hid=>?_⟩
   ·simp only [eff];rw [if_pos ⟨by rw [hv.cells.length]; exact hc.1,by rw [hv.stays]; exact hc.2⟩]
   ·have:=jb (d':=none) h (aN.one hv) (.inl ⟨rfl,rfl⟩) h2 hid;simpa [bw] using this
  ·cases h1
 case appz=>simp [jc,aE] at hr
 case mk e sz bytes z x =>
  obtain ⟨m,h1,h2⟩:=hp _ hr;have hv:=eO h.slot (hx x (by simp [VOp.xs]));unfold mkQ at h1;split at h1
  ·rename_i kk mm hxe;rw [hxe] at hv;simp only [aA] at hv;split at h1
   ·split at h1
    ·rename_i j hj;rw [iz] at h1;split at h1
     ·rename_i hc;simp only [Oi] at h1; subst h1;have hmj:mm=(j:Int):=by
       cases mm <;> simp only [zn,Oi,reduceCtorEq] at hj;subst hj; rfl
      subst hmj;refine ⟨fun id=>(.own id 0 j,upd st.σ id ⟨e,sz,List.replicate j z⟩),?_,fun id hid=>?_⟩
      ·simp only [eff];rw [hv];have hc':j*(bytes+1)≤140737488355328:=Nat.le_of_ble_eq_true hc;simp only [Int.toNat_natCast];rw [if_pos ⟨by omega,hc'⟩]
      ·have:=jb (d':=none) h (aN.replicate (ei (R:=R) z hok.2) j) (.inl ⟨rfl,rfl⟩) h2 hid;simpa [bw] using this
     ·cases h1
    ·cases h1
   ·cases h1
  ·cases h1
 case bf e sz xs =>
  obtain ⟨m,h1,h2⟩:=hp _ hr;have hv:=lV h.slot hok.1;simp only [VOp.xs] at hv;unfold BO at h1;rw [iz] at h1;split at h1
  ·rename_i hc;simp only [Oi] at h1; subst h1;refine ⟨fun id=>(.own id 0 xs.length,upd st.σ id ⟨e,sz,xs.map (·.ev st.s)⟩),?_,fun id hid=>?_⟩
   ·simp only [eff];rw [if_pos];rw [List.all_eq_true];intro y hy;rw [List.mem_map] at hy;obtain ⟨x,hxx,rfl⟩:=hy;have hvx:=eO h.slot (hx x (by simp [VOp.xs,hxx]));have:=List.all_eq_true.1 hc (x.ev cs.sf) (List.mem_map.2 ⟨x,hxx,rfl⟩);simp only [Ba,Nat.beq_eq] at this;simp [hvx.cells.length,hvx.stays,this]
   ·have:=jb (d':=none) h hv (.inl ⟨rfl,rfl⟩) h2 hid;simpa [bw] using this
  ·cases h1
 case append e sz bytes xa xb =>
  obtain ⟨m,h1,h2⟩:=hp _ hr;have ha:=eO h.slot (hx xa (by simp [VOp.xs]));have hb:=eO h.slot (hx xb (by simp [VOp.xs]));unfold Bj at h1;split at h1
  ·rename_i base idA src e1 e2;obtain ⟨base',d',g1,g2,g3⟩:=yk h.mem.live ha e1;obtain ⟨src',g4,g5⟩:=xV h.mem.live hb e2;rw [iz] at h1;split at h1
   ·rename_i hc;simp only [Oi] at h1; subst h1;refine ⟨fun id=>(.own id 0 (base'.length+src'.length),upd (bw st.σ d') id ⟨e,sz,base'++src'⟩),?_,fun id hid=>?_⟩
    ·simp only [eff,g1,g4];rw [if_pos (by rw [g2.length,g5.length]; exact Nat.le_of_ble_eq_true hc)]
    ·have:=jb h (g2.append g5) g3 h2 hid;simpa [g2.length,g5.length] using this
   ·cases h1
  ·cases h1
theorem xB {r r' x x' q:V} {k sz:Nat} (hr:aA R r r') (hx:aA R x x') (h:bZ r k sz x=some q):∃q',bZ r' k sz x'=some q'∧aA R q q':=by
 unfold bZ at h;split at h
 ·rename_i hc;have hc':x'.cells.length=sz∧x'.stays=true:=⟨by rw [hx.cells.length]; exact hc.1,by rw [hx.stays]; exact hc.2⟩
  split at h
  ·rename_i hd;simp only [Oi] at h; subst h;refine ⟨x',?_,hx⟩;unfold bZ;rw [if_pos hc',if_pos ⟨hd.1,by rw [hr.cells.length]; exact hd.2⟩]
  ·rename_i hd;split at h
   ·rename_i he;simp only [Oi] at h; subst h;refine ⟨_,?_,aA.agg (((hr.cells.take k).append hx.cells).append (hr.cells.drop (k+sz)))⟩;unfold bZ;rw [if_pos hc',if_neg (by rw [hr.cells.length]; exact hd),if_pos (by rw [hr.cells.length]; exact he)]
   ·cases h
 ·cases h
theorem tK {dst:Option Nat} {sz:Nat} {xa xv:VX} {call:kT} {cs cs':CS} {st:St} (hok:pF (.store sz xa xv)=true) (h:fq K fl R cs st)
 (hr:(AJ dst sz xa xv).f call fl cs=some cs'):∃σ',cE st.σ sz (xa.ev st.s) (xv.ev st.s)=some σ'∧fq K fl R cs' ⟨aW st.s dst (.tup []),σ'⟩:=by
 simp only [pF,VOp.xs,List.all_cons,List.all_nil,Bool.and_true,Ba] at hok;have ha:=eO h.slot hok.1;have hv:=eO h.slot hok.2;simp only [AJ,BJ] at hr;split at hr
 ·rename_i id i0 c hptr;rw [hptr] at ha;simp only [aA] at ha;obtain ⟨a,ha1,ha2⟩:=ha;rw [BZ] at hr;split at hr
  ·rename_i hf;split at hr
   ·rename_i ob hob;have hob':stF cs.σ id=some ob:=hob;obtain ⟨rows',h1,h2⟩:=h.mem.live _ _ _ ha2 hob';split at hr
    ·rename_i r hrr;obtain ⟨r',h3,h4⟩:=h2.get hrr;split at hr
     ·rename_i q hq;obtain ⟨q',h5,h6⟩:=xB h4 hv hq;simp only [Oi] at hr;subst hr;refine ⟨upd st.σ a ⟨ob.elem,ob.sz,rows'.set i0 q'⟩,?_,?_⟩
      ·simp only [cE,ha1,h1,h3,h5]
      ·have hm:=h.mem.write ha2 hob' (Nat.le_of_ble_eq_true hf) (h2.set i0 h6);have hS:fq K fl R ⟨cs.s,lG none (some ⟨ob.elem,ob.sz,ob.rows.set i0 q⟩) id cs.σ,cs.nxt⟩ ⟨st.s,upd st.σ a ⟨ob.elem,ob.sz,rows'.set i0 q'⟩⟩ :=
        ⟨h.slot,by simp only [qQ]; exact hm⟩
       exact hS.put aA.HA
     ·cases hr
    ·cases hr
   ·cases hr
  ·cases hr
 ·cases hr
variable {P:Program} {n:Nat}
def Le (R R':Nat→Nat→Prop):Prop:=∀a b,R a b→R' a b
theorem Le.refl (R:Nat→Nat→Prop):Le R R:=fun _ _ h=>h
theorem Le.trans {R R' R'':Nat→Nat→Prop} (h:Le R R') (h':Le R' R''):Le R R'':=fun a b g=>h' a b (h a b g)
def rN (P:Program) (call:kT):Prop:=∀g args σc nxt fl r,call g args σc nxt fl=some r→∀(K:af) (R:Nat→Nat→Prop) (σ:af) (args':List V),
 mW K fl R (stF σc) nxt σ→aN R args args'→av P g args' σ fun v σ'=>∃R',Le R R'∧aA R' r.v v∧mW K fl R' (stF r.σ) r.nxt σ'
theorem av.drop {f:FuncId} {args:List V} {σ:af} {Post Post':V→af→Prop} (h:av P f args σ Post)
 (hp:∀r σ',Post r σ'→∃σ0,aa σ0 σ'∧Post' r σ0):av P f args σ Post':=by
 refine ⟨h.1,fun μ w vals hs hr=>(h.2 μ w vals hs hr).mono ?_⟩;rintro e w' ⟨r,σ',μ',val,h1,h2,h3,h4,h5⟩;obtain ⟨σ0,h6,h7⟩:=hp r σ' h2;exact ⟨r,σ0,μ',val,h1,h7,h3,h4.drop h6,Wk.refl h6 r μ' _ _ _ val h4 h5⟩
section
variable {call:kT} {K:af} {fl:Nat} {R:Nat→Nat→Prop} {cs cs':CS} {st:St} {Q:St→Prop} {k:List It}
theorem pX {draw:Bool} {i:aG} (hok:nJ i=true) (h:fq K fl R cs st) (hr:(pK draw i).f call fl cs=some cs') :
 (bl st.s i.g=some true∧(jy draw i.dst i.op).f call fl cs=some cs')∨(bl st.s i.g=some false∧cs'=cs.put i.dst (.tup [])):=by
 simp only [nJ,Ba] at hok;unfold pK at hr;split at hr
 ·rename_i hg;exact .inl ⟨by simp [hg,bl],hr⟩
 ·rename_i x b hg;have hx:=hok.2;simp only [hg] at hx;have hv:=eO h.slot hx;simp only [EI] at hr;split at hr
  ·rename_i c hc;rw [hc,aA.ld] at hv;rw [BZ] at hr;split at hr
   ·rename_i hcb;simp only [Oi] at hr;refine .inr ⟨?_,hr.symm⟩;simp only [hg,bl,hv];cases c <;> cases b <;> simp_all
   ·rename_i hcb;refine .inl ⟨?_,hr⟩;simp only [hg,bl,hv];cases c <;> cases b <;> simp_all
  ·rename_i hc;rw [hc] at hv;simp only [aA,aN] at hv;obtain ⟨c',hv,rfl⟩:=hv;simp only [Oi] at hr;exact .inr ⟨by simp only [hg,bl,hv],hr.symm⟩
  ·rename_i hc;rw [hc,aA.jv] at hv;simp only [Oi] at hr;exact .inr ⟨by simp only [hg,bl,hv],hr.symm⟩
  ·cases hr
theorem BK {draw:Bool} {dst:Option Nat} {op:VOp} (h:op=.bad∨(∃b x,op=.rngS b x)∨(∃x,op=.nxtS x)∨∃m xs,op=.more m xs∧bp op=4) (hr:(jy draw dst op).f call fl cs=some cs'):False:=by
 rcases h with rfl | ⟨b,x,rfl⟩ | ⟨x,rfl⟩ | ⟨m,xs,rfl,hk⟩
 case inr.inr.inr=>cases m <;> simp [bp] at hk <;> simp [jy,jc,aE] at hr
 all_goals simp [jy,jc,aE] at hr
theorem pY (op:VOp):bp op=0∨(∃fx xs,op=.call fx xs)∨(∃sz a x,op=.store sz a x)∨bp op=3∨(∃sz z x,op=.clear sz z x)∨(op=.bad∨(∃b x,op=.rngS b x)∨(∃x,op=.nxtS x)∨∃m xs,op=.more m xs∧bp op=4):=by
 cases op
 case more m xs=>cases m <;> simp [bp]
 all_goals simp [bp]
theorem Gk (hc:rN P call) {i:aG} {l:List aG} (hok:nJ i=true) (h:fq K fl R cs st) (hr:(pK false i).f call fl cs=some cs')
 (hk:∀R' st',Le R R'→fq K fl R' cs' st'→ad P n (.ops l::k) st' Q):ad P n (.ops (i::l)::k) st Q:=by
 have hop:pF i.op=true:=by simp only [nJ,Ba] at hok; exact hok.1
 rcases pX hok h hr with ⟨hw,hr⟩ | ⟨hw,rfl⟩
 ·rcases pY i.op with h0 | ⟨fx,xs,h0⟩ | ⟨sz,a,x,h0⟩ | h0 | ⟨sz,z,x,h0⟩ | h0
  ·obtain ⟨v',h1,h2,h3⟩:=ve h0 hop h hr;exact ad.pure hw h1 h2 (hk R _ (Le.refl R) h3)
  ·rw [h0] at hr hop;simp only [jy,EU] at hr;simp only [pF,VOp.xs,List.all_cons,Ba] at hop;split at hr
   ·rename_i f caps hf;have hfx:=eO h.slot hop.1.1;rw [hf] at hfx;simp only [aA] at hfx;obtain ⟨caps',hf',hcaps⟩:=hfx;generalize hcl:call f (xs.map (·.ev cs.sf)++caps) cs.σ cs.nxt fl=r at hr;cases r with
    | none=>simp [Av] at hr
    | some r =>
      simp only [Av,Oi] at hr;refine ad.call hw h0 hf' (hc _ _ _ _ _ _ hcl K R st.σ _ h.mem ((lV h.slot hop.1.2).append hcaps)) ?_;rintro v σ' ⟨R',hle,hv,hm⟩;have hS:fq K fl R' ⟨cs.s,r.σ,r.nxt⟩ ⟨st.s,σ'⟩:=⟨fun j=>aA.mono hle _ _ (h.slot j),hm⟩
      exact hk R' _ hle (hr ▸ hS.put hv)
   ·cases hr
  ·rw [h0] at hr hop;obtain ⟨σ',h1,h2⟩:=tK hop h hr;exact ad.cE hw h0 h1 (hk R _ (Le.refl R) h2)
  ·obtain ⟨g',h1,h2⟩:=x8 h0 hop h hr;refine ad.eff hw h1 fun id hid=>?_;obtain ⟨R',h3,h4⟩:=h2 id hid;exact hk R' _ h3 h4
  ·rw [h0] at hr hop;simp only [jy,As,AO] at hr;simp only [pF,VOp.xs,List.all_cons,List.all_nil,Bool.and_true,Ba] at hop;have hx:=eO h.slot hop.1;split at hr
   ·rename_i id off len hid;rw [hid] at hx;simp only [aA] at hx;obtain ⟨a,ha1,ha2⟩:=hx;rw [BZ] at hr;split at hr
    ·rename_i hf;split at hr
     ·rename_i ob hob;have hob':stF cs.σ id=some ob:=hob;obtain ⟨rows',g1,g2⟩:=h.mem.live _ _ _ ha2 hob';rw [BZ] at hr;split at hr
      ·rename_i hcc;simp only [Ba,Nat.beq_eq,Nat.ble_eq] at hcc;simp only [Oi] at hr;refine ad.clear hw h0 ha1 g1 hcc.1 (by rw [g2.length]; exact hcc.2) ?_;have hm:=h.mem.write ha2 hob' (Nat.le_of_ble_eq_true hf) (((g2.take off).append (aN.replicate (ei (R:=R) z hop.2) len)).append (g2.drop (off+len)));have hS:fq K fl R ⟨cs.s,lG none (some ⟨ob.elem,ob.sz,ob.rows.take off++List.replicate len z++ob.rows.drop (off+len)⟩) id cs.σ,cs.nxt⟩
        ⟨st.s,upd st.σ a ⟨ob.elem,ob.sz,rows'.take off++List.replicate len z++rows'.drop (off+len)⟩⟩:=⟨h.slot,by simp only [qQ]; exact hm⟩
       exact hk R _ (Le.refl R) (hr ▸ hS.put aA.HA)
      ·cases hr
     ·cases hr
    ·cases hr
   ·cases hr
  ·exact (BK h0 hr).elim
 ·exact ad.rk hw (hk R _ (Le.refl R) (h.put aA.HA))
theorem Ml (hc:rN P call) {i:aG} (hok:nJ i=true) (h:fq K fl R cs st) (hr:(pK true i).f call fl cs=some cs') {K':St→Prop}
 (hk:∀R' st',Le R R'→fq K fl R' cs' st'→K' st'):T P i st K':=by
 have hop:pF i.op=true:=by simp only [nJ,Ba] at hok; exact hok.1
 rcases pX hok h hr with ⟨hw,hr⟩ | ⟨hw,rfl⟩
 ·refine nb hw ?_;rcases pY i.op with h0 | ⟨fx,xs,h0⟩ | ⟨sz,a,x,h0⟩ | h0 | ⟨sz,z,x,h0⟩ | h0
  ·obtain ⟨v',h1,h2,h3⟩:=ve h0 hop h hr;unfold TO;simp only [h0];exact ⟨h1,v',h2,hk R _ (Le.refl R) h3⟩
  ·rw [h0] at hr hop;rw [h0];simp only [jy,EU] at hr;simp only [pF,VOp.xs,List.all_cons,Ba] at hop;split at hr
   ·rename_i f caps hf;have hfx:=eO h.slot hop.1.1;rw [hf] at hfx;simp only [aA] at hfx;obtain ⟨caps',hf',hcaps⟩:=hfx;generalize hcl:call f (xs.map (·.ev cs.sf)++caps) cs.σ cs.nxt cs.nxt=r at hr;cases r with
    | none=>simp [vG] at hr
    | some r =>
      simp only [vG,BZ] at hr;split at hr
      ·rename_i hno;simp only [Oi] at hr;refine ⟨f,caps',r.v,hf',fun σ1 hs1=>?_,hk R _ (Le.refl R) (hr ▸ h.put (ei r.v hno))⟩;have hm0:mW σ1 cs.nxt R (stF cs.σ) cs.nxt σ1:=⟨h.mem.dom,h.mem.live.sup hs1,h.mem.inj,h.mem.fn,aa.refl _,fun _ _ c _ _ hcR _=>h.mem.dom c _ hcR⟩
       refine (hc _ _ _ _ _ _ hcl σ1 R σ1 _ hm0 ((lV h.slot hop.1.2).append hcaps)).drop ?_;rintro v σ' ⟨R',hle,hv,hm⟩;exact ⟨σ1,hm.lp,nM _ _ hno hv,rfl⟩
      ·cases hr
   ·cases hr
  ·rw [h0] at hr hop;rw [h0];obtain ⟨σ',h1,h2⟩:=tK hop h hr;exact ⟨σ',h1,hk R _ (Le.refl R) h2⟩
  ·obtain ⟨g',h1,h2⟩:=x8 h0 hop h hr;unfold TO;simp only [h0];refine ⟨g',h1,fun id hid=>?_⟩;obtain ⟨R',h3,h4⟩:=h2 id hid;exact hk R' _ h3 h4
  ·rw [h0] at hr;simp [jy,As] at hr
  ·exact (BK h0 hr).elim
 ·exact qT hw (hk R _ (Le.refl R) (h.put aA.HA))
theorem lE (draw:Bool) (m:Nat) (i:aG) (l:List aG):lN draw call fl (m+1) (i::l) cs=match (pK draw i).f call fl cs with
 | some cs'=>lN draw call fl m l cs'
 | none=>.bad:=by
 show (@Option.casesOn CS (fun _=>Out) ((pK draw i).f call fl cs) .bad (lN draw call fl m l))=_;cases (pK draw i).f call fl cs <;> rfl
theorem AW (hc:rN P call):∀(m:Nat) (l:List aG) (R:Nat→Nat→Prop) (cs:CS) (st:St),lN false call fl m l cs=.nx cs'→l.all nJ=true→fq K fl R cs st →
 (∀R' st',Le R R'→fq K fl R' cs' st'→ad P n k st' Q)→ad P n (.ops l::k) st Q
 | 0,_,_,_,_,h,_,_,_=>by cases h
 | m+1,[],R,cs,st,h,_,hs,hk=>by
   have h':Out.nx cs=.nx cs':=h;simp only [Out.nx.injEq] at h';subst h';exact ad.Bn (hk R st (Le.refl R) hs)
 | m+1,i::l,R,cs,st,h,hok,hs,hk=>by
   rw [lE] at h;simp only [List.all_cons,Ba] at hok;split at h
   ·rename_i cs1 h1;refine Gk hc hok.1 hs h1 fun R' st' hle hs'=>?_;exact AW hc m l R' cs1 st' h hok.2 hs' fun R'' st'' hle' hs''=>hk R'' st'' (hle.trans hle') hs''
   ·cases h
theorem HX (hc:rN P call) {K':St→Prop}:∀(m:Nat) (l:List aG) (R:Nat→Nat→Prop) (cs:CS) (st:St),lN true call fl m l cs=.nx cs'→l.all nJ=true→fq K fl R cs st →
 (∀R' st',Le R R'→fq K fl R' cs' st'→K' st')→fZ P K' l st
 | 0,_,_,_,_,h,_,_,_=>by cases h
 | m+1,[],R,cs,st,h,_,hs,hk=>by
   have h':Out.nx cs=.nx cs':=h;simp only [Out.nx.injEq] at h';subst h';exact hk R st (Le.refl R) hs
 | m+1,i::l,R,cs,st,h,hok,hs,hk=>by
   rw [lE] at h;simp only [List.all_cons,Ba] at hok;split at h
   ·rename_i cs1 h1;refine Ml hc hok.1 hs h1 fun R' st' hle hs'=>?_;exact HX hc m l R' cs1 st' h hok.2 hs' fun R'' st'' hle' hs''=>hk R'' st'' (hle.trans hle') hs''
   ·cases h
end
def Ck (P:Program) (n:Nat) (K:af) (fl:Nat) (R:Nat→Nat→Prop) (k:List It) (Q:St→Prop):Out→Prop
 | .nx cs=>∀R' st,Le R R'→fq K fl R' cs st→ad P n k st Q
 | .ex id cs=>∃k',dL id k=some k'∧∀R' st,Le R R'→fq K fl R' cs st→ad P n k' st Q
 | .rt cs=>∀R' st,Le R R'→fq K fl R' cs st→Q st
 | .bad=>False
theorem Ck.le {K:af} {fl:Nat} {R R':Nat→Nat→Prop} {k:List It} {Q:St→Prop} {o:Out} (h:Ck P n K fl R k Q o) (hle:Le R R'):Ck P n K fl R' k Q o:=by
 cases o
 case bad=>exact h
 case ex=>obtain ⟨k',h1,h2⟩:=h; exact ⟨k',h1,fun R'' st h3 h4=>h2 R'' st (hle.trans h3) h4⟩
 all_goals exact fun R'' st h3 h4=>h R'' st (hle.trans h3) h4
def sQ (P:Program) (code:FuncId→Option VFn):Prop:=∀g vf,code g=some vf→eH P g=true∧J9 vf=true∧∃fn,P.funcs[g]?=some fn∧cfn P fn=some vf
def LOk (P:Program) (code:FuncId→Option VFn) (fuel:Nat):Prop:=∀(n:Nat) (K:af) (fl:Nat) (R:Nat→Nat→Prop) (c:bx) (cs:CS) (st:St) (k:List It) (Q:St→Prop),
 gH c=true→fq K fl R cs st→Ck P n K fl R k Q (evL code fuel fl c cs)→ad P n (.code c::k) st Q
theorem A6 (i:Nat):∀(l:List V) (k:Nat) (t:Tr V),kL (.tup []) i (Tr.ofL l k t)=if k≤i∧i < k+l.length then l.getD (i - k) (.tup []) else kL (.tup []) i t
 | [],k,t=>by simp [Tr.ofL]; intro h1 h2; omega
 | v::l,k,t=>by
   rw [Tr.ofL,A6 i l (k+1),ou];simp only [List.length_cons];by_cases h1:i=k
   ·subst h1;rw [if_neg (by omega),if_pos rfl,if_pos (by omega)];simp
   ·by_cases h2:k+1≤i∧i < k+1+l.length
    ·rw [if_pos h2,if_pos (by omega),show i - k=(i - (k+1))+1 by omega];simp
    ·rw [if_neg h2,if_neg h1,if_neg (by omega)]
theorem zG {K:af} {fl:Nat} {R:Nat→Nat→Prop} {cs:CS} {st:St} (h:fq K fl R cs st) {r:VR} (hok:Be r=true) {v:V} (hv:fV ⟨cs.sf,stF cs.σ⟩ r=some v) :
 ∃v',fV st r=some v'∧aA R v v':=by
 cases r <;> simp only [fV,reduceCtorEq,Oi] at hv ⊢
 case tmp x=>subst hv; exact ⟨_,rfl,eO h.slot hok⟩
 case cell agg sz x=>exact ur h.mem.live (eO h.slot hok) hv
theorem th {K:af} {fl:Nat} {R:Nat→Nat→Prop} {cs:CS} {st:St} (h:fq K fl R cs st):∀ {l:List VR},l.all Be=true→∀ {vs:List V},eh ⟨cs.sf,stF cs.σ⟩ l=some vs →
 ∃vs',eh st l=some vs'∧aN R vs vs'
 | [],_,vs,hv=>by simp only [eh,Oi] at hv; subst hv; exact ⟨[],rfl,by simp [aN]⟩
 | r::l,hok,vs,hv=>by
   simp only [List.all_cons,Ba] at hok;simp only [eh] at hv;split at hv
   ·rename_i v h1;split at hv
    ·rename_i us h2;simp only [Oi] at hv; subst hv;obtain ⟨v',g1,g2⟩:=zG h hok.1 h1;obtain ⟨us',g3,g4⟩:=th h hok.2 h2;exact ⟨v'::us',by simp [eh,g1,g3],aN.bY.2 ⟨v',us',rfl,g2,g4⟩⟩
    ·cases hv
   ·cases hv
theorem EC {K:af} {fl:Nat} {R:Nat→Nat→Prop} {cs:CS} {st:St} (h:fq K fl R cs st) {l:List VR} (hok:l.all Be=true) {v:V} (hv:mu ⟨cs.sf,stF cs.σ⟩ l=some v) :
 ∃v',mu st l=some v'∧aA R v v':=by
 unfold mu at hv;cases hr:eh ⟨cs.sf,stF cs.σ⟩ l with
 | none=>simp [hr] at hv
 | some vs =>
   obtain ⟨vs',g1,g2⟩:=th h hok hr;rw [hr] at hv;unfold mu;rw [g1]
   match vs,hv,g2 with
   | [],hv,g2 =>
     rw [aN.gV] at g2; subst g2;simp only [Oi] at hv; subst hv;exact ⟨_,rfl,by simp [aA,aN]⟩
   | [u],hv,g2 =>
     obtain ⟨x,xs,rfl,g3,g4⟩:=aN.bY.1 g2;rw [aN.gV] at g4; subst g4;simp only [Oi] at hv; subst hv;exact ⟨_,rfl,g3⟩
   | u1::u2::us,hv,g2 =>
     obtain ⟨x,xs,rfl,g3,g4⟩:=aN.bY.1 g2;obtain ⟨y,ys,rfl,g5,g6⟩:=aN.bY.1 g4;simp only [Oi] at hv; subst hv;exact ⟨_,rfl,by simp only [aA]; exact ⟨_,rfl,g2⟩⟩
theorem vH {code:FuncId→Option VFn} (hcode:sQ P code) {fuel:Nat} (ih:LOk P code fuel):rN P (evF (evL code fuel) code):=by
 intro g args σc nxt fl r hr K R σ args' hm hargs;unfold evF at hr;split at hr
 ·cases hr
 ·rename_i vf hvf;rw [iz] at hr;split at hr
  ·rename_i hlen;obtain ⟨hcl,hok,fn,hf,hcf⟩:=hcode g vf hvf;simp only [J9,Ba] at hok;have hlen':=Nat.le_of_ble_eq_true hlen;refine av.l7 hf hcf hcl (by rw [hargs.length]; exact hlen') ?_;have hs:fq K fl R ⟨Tr.ofL args 0 .e,σc,nxt⟩ ⟨cb args',σ⟩:=by
    refine ⟨fun i=>?_,hm⟩;show aA R (kL (.tup []) i (Tr.ofL args 0 .e)) (args'.getD i (.tup []));rw [A6,JM];by_cases hi:i < args.length
    ·rw [if_pos ⟨Nat.zero_le _,by omega⟩,Nat.sub_zero];obtain ⟨u,h1,h2⟩:=hargs.get (List.getElem?_eq_getElem hi);simp only [List.getD_eq_getElem?_getD,h1,List.getElem?_eq_getElem hi,Option.getD_some];exact h2
    ·rw [if_neg (by omega)];have:args'[i]?=none:=List.getElem?_eq_none (by rw [hargs.length]; omega);simp only [List.getD_eq_getElem?_getD,this,Option.getD_none];simp [aA,aN]
   have hfin:∀cs',HO vf.res cs'=some r→∀R' st,Le R R'→fq K fl R' cs' st→Ret vf.res st fun v σ'=>∃R',Le R R'∧aA R' r.v v∧mW K fl R' (stF r.σ) r.nxt σ':=by
    intro cs' hq R' st hle hs';unfold HO at hq;split at hq
    ·rename_i v hv;simp only [Oi] at hq;subst hq;obtain ⟨v',g1,g2⟩:=EC hs' hok.2 hv;exact ⟨v',v',st.σ,g1,aa.refl _,Wk.refl (aa.refl _) _,R',hle,g2,hs'.mem⟩
    ·cases hq
   refine ih vf.n K fl R vf.code _ _ [] _ hok.1 hs ?_;generalize evL code fuel fl vf.code ⟨Tr.ofL args 0 .e,σc,nxt⟩=o at hr;cases o <;> simp only [LI,reduceCtorEq] at hr
   ·exact fun R' st hle hs'=>ad.nil (hfin _ hr R' st hle hs')
   ·exact fun R' st hle hs'=>hfin _ hr R' st hle hs'
  ·cases hr
theorem yM (code:FuncId→Option VFn) (f fl:Nat) (c:bx) (cs:CS):evL code (f+1) fl c cs=match c with
 | .skip=>.nx cs
 | .reg draw l=>DO draw (evF (evL code f) code) fl l cs
 | .seq a b=>Cw (evL code f fl a cs) fun cs'=>evL code f fl b cs'
 | .cond c a b=>onB (c.ev cs.sf) (evL code f fl a cs) (evL code f fl b cs)
 | .block id a=>KQ id (evL code f fl a cs)
 | .loop a=>Cw (evL code f fl a cs) fun cs'=>evL code f fl (.loop a) cs'
 | .exit id=>.ex id cs
 | .ret=>.rt cs
 | .cu ..=>.bad
 | .regA ..=>.bad
 | .oS ..=>.bad
 | .bad=>.bad:=rfl
theorem xO {draw:Bool} {call:kT} {fl:Nat}:∀(m:Nat) (l:List aG) (cs:CS),(∃cs',lN draw call fl m l cs=.nx cs')∨lN draw call fl m l cs=.bad
 | 0,_,_=>.inr rfl
 | m+1,[],cs=>.inl ⟨cs,rfl⟩
 | m+1,i::l,cs=>by
   rw [lE];split
   ·exact xO m l _
   ·exact .inr rfl
theorem I3 {code:FuncId→Option VFn} (hcode:sQ P code):∀fuel,LOk P code fuel:=by
 intro fuel
 induction fuel using Nat.strongRecOn with
 | _ fuel ih =>
   intro n K fl R c cs st k Q hok hs hthen;cases fuel with
   | zero=>exact hthen.elim
   | succ f =>
     have ihf:=ih f (by omega);rw [yM] at hthen;cases c with
     | skip=>exact ad.skip (hthen R st (Le.refl R) hs)
     | reg draw l =>
       simp only [gH] at hok;simp only [DO] at hthen;rcases xO (draw:=draw) (call:=evF (evL code f) code) (fl:=fl) 1000 l cs with ⟨cs',he⟩ | he
       ·rw [he] at hthen;cases draw
        ·exact ad.region (AW (vH hcode ihf) 1000 l R cs st he hok hs hthen)
        ·exact ad.AX (HX (vH hcode ihf) 1000 l R cs st he hok hs hthen)
       ·rw [he] at hthen; exact hthen.elim
     | seq a b =>
       simp only [gH,Ba] at hok;refine ad.seq (ihf n K fl R a cs st _ Q hok.1 hs ?_);simp only [Cw] at hthen;generalize evL code f fl a cs=o at hthen;cases o with
       | nx cs1=>exact fun R1 st1 hle1 hs1=>ihf n K fl R1 b cs1 st1 k Q hok.2 hs1 (hthen.le hle1)
       | ex id cs1=>exact hthen
       | rt cs1=>exact hthen
       | bad=>exact hthen
     | cond c a b =>
       simp only [gH,Ba] at hok;have hv:=eO hs.slot hok.1;have hthen:Ck P n K fl R k Q (onB (c.ev cs.sf) (evL code f fl a cs) (evL code f fl b cs)):=hthen;unfold onB at hthen;split at hthen
       ·rename_i t ht;rw [ht,aA.ld] at hv;refine ad.cond hv (fun e=>?_) (fun e=>?_)
        ·subst e; exact ihf n K fl R a cs st k Q hok.2.1 hs hthen
        ·subst e; exact ihf n K fl R b cs st k Q hok.2.2 hs hthen
       ·exact hthen.elim
     | block id a =>
       simp only [gH] at hok;refine ad.block (ihf n K fl R a cs st _ Q hok hs ?_);simp only [KQ] at hthen;generalize evL code f fl a cs=o at hthen;cases o with
       | nx cs1=>exact fun R1 st1 hle1 hs1=>ad.inBlock (hthen R1 st1 hle1 hs1)
       | ex j cs1 =>
         simp only [BZ] at hthen;by_cases hj:j=id
         ·subst hj;rw [if_pos (by rw [Nat.beq_eq])] at hthen;exact ⟨k,by simp [dL],hthen⟩
         ·rw [if_neg (by rw [Nat.beq_eq]; exact hj)] at hthen;obtain ⟨k',h1,h2⟩:=hthen;exact ⟨k',by simp [dL,hj,h1],h2⟩
       | rt cs1=>exact hthen
       | bad=>exact hthen
     | loop a =>
       have hok':=hok;simp only [gH] at hok;have hthen0:Ck P n K fl R k Q (evL code (f+1) fl (.loop a) cs):=hthen;generalize ho:evL code (f+1) fl (.loop a) cs=o at hthen0;refine ad.loop (fun m st=>m≤f+1∧∃R1 cs1,Le R R1∧fq K fl R1 cs1 st∧evL code m fl (.loop a) cs1=o) (f+1) ⟨Nat.le_refl _,R,cs,Le.refl R,hs,ho⟩ ?_;rintro m st1 ⟨hm,R1,cs1,hle1,hs1,ho1⟩;cases m with
       | zero =>
         have:o=.bad:=ho1.symm;rw [this] at hthen0; exact hthen0.elim
       | succ m =>
         have ihm:=ih m (by omega);rw [yM] at ho1;refine ihm n K fl R1 a cs1 st1 _ Q hok hs1 ?_;simp only [Cw] at ho1;generalize evL code m fl a cs1=o1 at ho1;cases o1 with
         | nx cs2=>exact fun R2 st2 hle2 hs2=>ad.stop ⟨m,by omega,by omega,R2,cs2,hle1.trans hle2,hs2,ho1⟩
         | ex id cs2 =>
           have ho1:Out.ex id cs2=o:=ho1;rw [←ho1] at hthen0;obtain ⟨k',h1,h2⟩:=hthen0;exact ⟨k',by simpa [dL] using h1,fun R2 st2 hle2 hs2=>h2 R2 st2 (hle1.trans hle2) hs2⟩
         | rt cs2 =>
           have ho1:Out.rt cs2=o:=ho1;rw [←ho1] at hthen0;exact fun R2 st2 hle2 hs2=>hthen0 R2 st2 (hle1.trans hle2) hs2
         | bad =>
           have ho1:Out.bad=o:=ho1;rw [←ho1] at hthen0; exact hthen0.elim
     | exit id =>
       obtain ⟨k',h1,h2⟩:=hthen;exact ad.exit h1 (h2 R st (Le.refl R) hs)
     | ret=>exact ad.ret (hthen R st (Le.refl R) hs)
     | cu g ps a b=>exact hthen.elim
     | regA l deps=>exact hthen.elim
     | oS l e=>exact hthen.elim
     | bad=>exact hthen.elim
def wi (g:V→V→Bool):List V→List V→Bool
 | [],[]=>true
 | v::vs,u::us=>g v u && wi g vs us
 | _,_=>false
def fzB:Nat→Tr (Option Ob)→V→V→Bool
 | 0,_,_,_=>false
 | f+1,σ,v,u=>match v with
   | .own id off len=>match u with
     | .sl sz rows=>match kL none id σ with
       | some ob=>Nat.beq ob.sz sz && (Nat.ble (off+len) ob.rows.length && wi (fzB f σ) ((ob.rows.drop off).take len) rows)
       | none=>false
     | _=>false
   | .aC=>match u with
     | .sl _ rows=>rows.isEmpty
     | .aC=>true
     | _=>false
   | .sl sz rows=>match u with
     | .sl sz' rows'=>Nat.beq sz sz' && wi (fzB f σ) rows rows'
     | _=>false
   | .agg cs=>match u with
     | .agg ds=>wi (fzB f σ) cs ds
     | _=>false
   | .tup cs=>match u with
     | .tup ds=>wi (fzB f σ) cs ds
     | _=>false
   | .int k n=>match u with
     | .int k' n'=>eqK k k' && eqQ n n'
     | _=>false
   | .bool b=>match u with
     | .bool b'=>b == b'
     | _=>false
   | .str b=>match u with
     | .str b'=>decide (b=b')
     | _=>false
   | .nilp=>match u with
     | .nilp=>true
     | _=>false
   | _=>false
theorem GQ {a b:Int} (h:eqQ a b=true):a=b:=by
 cases a <;> cases b <;> simp only [eqQ,Bool.false_eq_true] at h
 ·rw [Nat.eq_of_beq_eq_true h]
 ·rw [Nat.eq_of_beq_eq_true h]
theorem Eg {R:Nat→Nat→Prop} {σt:Tr (Option Ob)} {σ:af} (hm:Lv R (stF σt) σ):∀(f:Nat) (v u v':V),fzB f σt v v'=true→aA R v u→Fz σ (fun a=>∃c o,R c a∧stF σt c=some o) u v'
 | 0,_,_,_,h,_=>by simp [fzB] at h
 | f+1,v,u,v',h,hr=>by
   have hL:∀(vs us out:List V),wi (fzB f σt) vs out=true→aN R vs us→FzL σ (fun a=>∃c o,R c a∧stF σt c=some o) us out:=by
    intro vs
    induction vs with
    | nil =>
      intro us out h1 h2;rw [aN.gV] at h2; subst h2;cases out with
      | nil=>exact .nil
      | cons a b=>simp [wi] at h1
    | cons a vs ih =>
      intro us out h1 h2;obtain ⟨b,bs,rfl,h3,h4⟩:=aN.bY.1 h2;cases out with
      | nil=>simp [wi] at h1
      | cons c cs =>
        simp only [wi,Ba] at h1;exact .cons _ _ _ _ (Eg hm f _ _ _ h1.1 h3) (ih _ _ h1.2 h4)
   have hno:v.dX=true→v'=v→Fz σ (fun a=>∃c o,R c a∧stF σt c=some o) u v':=fun h1 h2=>by
    have:=nM v u h1 hr;rw [this,h2];exact .same v h1
   simp only [fzB] at h;cases v <;> simp only [Bool.false_eq_true] at h
   case own id off len =>
    split at h
    ·split at h
     ·rename_i ob hob;simp only [Ba] at h;obtain ⟨h1,h2,h3⟩:=h;simp only [aA] at hr;obtain ⟨id',rfl,hR⟩:=hr;obtain ⟨rows',g1,g2⟩:=hm _ id' ob hR hob;have:=hL _ _ _ h3 ((g2.drop _).take _);rw [←Nat.eq_of_beq_eq_true h1];exact .own id' _ _ ⟨ob.elem,ob.sz,rows'⟩ _ g1 ⟨_,ob,hR,hob⟩ (by rw [g2.length]; exact Nat.le_of_ble_eq_true h2) this
     ·cases h
    ·cases h
   case aC =>
    split at h
    ·rename_i sz rows;simp only [aA] at hr; subst hr;have:rows=[]:=by simpa using h
     subst this;exact .nil _
    ·exact hno rfl rfl
    ·cases h
   case sl sz rows =>
    split at h
    ·simp only [Ba] at h;simp only [aA] at hr;obtain ⟨rows',rfl,hr⟩:=hr;rw [←Nat.eq_of_beq_eq_true h.1];exact .sl _ _ _ (hL _ _ _ h.2 hr)
    ·cases h
   case agg cs =>
    split at h
    ·simp only [aA] at hr;obtain ⟨es,rfl,hr⟩:=hr;exact .agg _ _ (hL _ _ _ h hr)
    ·cases h
   case tup cs =>
    split at h
    ·simp only [aA] at hr;obtain ⟨es,rfl,hr⟩:=hr;exact .tup _ _ (hL _ _ _ h hr)
    ·cases h
   case int k n =>
    split at h
    ·simp only [Ba] at h;refine hno rfl ?_;rw [GQ h.2,of_decide_eq_true h.1]
    ·cases h
   case bool b =>
    split at h
    ·refine hno rfl ?_;rw [eq_of_beq h]
    ·cases h
   case str b =>
    split at h
    ·refine hno rfl ?_;rw [of_decide_eq_true h]
    ·cases h
   case nilp =>
    split at h
    ·exact hno rfl rfl
    ·cases h
def Ec (code:FuncId→Option VFn) (fuel:Nat) (f:FuncId) (args:List V) (v:V):Bool:=match evF (evL code fuel) code f args .e 0 0 with
 | some r=>fzB 10 r.σ r.v v
 | none=>false
theorem aV.rO {P:Program} {code:FuncId→Option VFn} (hcode:sQ P code) {fuel:Nat} {f:FuncId} {args:List V} {v:V} (ha:fH args=true)
 (h:Ec code fuel f args v=true):aV P f args v:=by
 intro σ;unfold Ec at h;split at h
 ·rename_i r hr;have hm:mW σ 0 (fun _ _=>False) (stF .e) 0 σ:=⟨fun _ _ h=>h.elim,fun _ _ _ h=>h.elim,fun _ _ _ _ _ h=>h.elim,fun _ _ _ h=>h.elim,aa.refl σ,fun _ _ _ _ _ h=>h.elim⟩
  refine (vH hcode (I3 hcode fuel) f args .e 0 0 r hr σ _ σ args hm (fk args ha)).GG ?_;rintro u σ' ⟨R',_,h1,h2⟩;refine ⟨v,σ,h2.lp,(Eg h2.live 10 r.v u v h h1).wk h2.lp ?_,rfl,rfl⟩;rintro a ⟨c,o,hc,ho⟩;cases hk:σ a with
  | none=>rfl
  | some x=>have:=h2.kfl a x c o hk hc ho; omega
 ·cases h
open Go.Proofs Go.Proofs.Tryz
def cdF (P:Program) (l:List Nat) (f:FuncId):Option VFn :=
 if l.contains f then (P.funcs[f]?).bind fun fn=>(cfn P fn).bind fun vf=>if eH P f && J9 vf then some vf else none else none
theorem Jp (P:Program) (l:List Nat):sQ P (cdF P l):=by
 intro g vf h;unfold cdF at h;split at h
 ·simp only [Option.bind_eq_some_iff] at h;obtain ⟨fn,h1,vf',h2,h3⟩:=h;split at h3
  ·rename_i h4;simp only [Ba] at h4;simp only [Oi] at h3;subst h3;exact ⟨h4.1,h4.2,fn,h1,h2⟩
  ·cases h3
 ·cases h
def LS:List Nat:=[46,73,74,108,109,110,111,112,152,153,154,155,184,185,186,187,188,208]
noncomputable def MF:FuncId→Option VFn:=cdF prog LS
theorem nZ:sQ prog MF:=Jp _ _
end Go.Vc
