/- What the functions that the law reaches return: part 3 (the conditions stand at each). -/
import Derived.Test.YtmbhjcgikblpiaaGreatWkb
open Nat renaming reduceEqDiff → nE, reduceAdd → nA, reduceMul → nM, reduceBEq → nB, reduceSub → nS, reduceLT → nL, reduceLeDiff → nD
open Int renaming reduceToNat → iT, reduceLE → iE, reduceLT → iL
open Option renaming getD_none → oN
namespace Go.Vm.YtmbhjcgikblpiaaGreat
open Go Go.Vm
set_option maxRecDepth 10000
set_option maxHeartbeats 32000000
set_option linter.unusedSimpArgs false
set_option linter.unusedVariables false
def BadX (nm:Nat) (bx:AV) (o:Option Obj) (l:List Int):Prop:=(l=[]∧bx=.nil 1)∨(∃ v,bx=.sl nm v 0 l.length 1∧o=some (.arr v true 1 (l.map Ii)))
theorem noRs_mayI {m:MayD} {n:Int}:noRs (.tup [m.d,Ii n])=true:=noRs_t2 noRs_May rfl
theorem landM_bad {q:RepD} {k:Nat} {h:MayD}:(landM q k h).bad=q.bad:=by unfold landM;split<;>rfl
theorem my_set {l:List MayD} {i:Nat} {x:MayD}:(l.map MayD.d).set i (D.agg [D.sl 2 (x.reg.map strD),D.sl 2 (x.bits.map knownD),D.sl 2 (x.cell.map strD),D.sl 1 (x.isset.map Bb)])=(l.set i x).map MayD.d:=by rw [List.map_set]
theorem impl_AnalyseProgram.fc (p:List StepD) (hp:p.length≤4194304):FCt prog F_impl_AnalyseProgram [.ro] [steps p] (.tup [(anaV p).d,Bb (goodP p)]) []:=by
  refine fct_run impl_AnalyseProgram.ok rfl ?_
  unfold anaV
  simp only [go_sem,↓reduceIte,nE,nA,nM,nB,oN,iT,nS,nL,nD,iE,iL,reduceCtorEq]
  refine fcW_bool (impl_GoodProgram.fc p hp) ?_
  cases hg:goodP p with
  | false=>simp only [go_sem,↓reduceIte,nE,nA,nM,nB,oN,iT,nS,nL,nD,iE,iL,reduceCtorEq];rfl
  | true =>
    have op:=prog_ok hg
    have l1:=op.len.1
    have l2:=op.len.2
    have q1:(p.length:Int) * (1:Nat)≤70368744177664:=by omega
    have q2:(p.length:Int) * (96:Nat)≤70368744177664:=by omega
    have q3:(0:Int) < p.length:=by omega
    have q4:0 < p.length:=by omega
    have st:=startM_ok.len
    have s1:=st.reg
    have s2:=st.bits
    have s3:=st.cell
    have s4:=st.isset
    have z0:(D.agg [D.sl 2 [],D.sl 2 [],D.sl 2 [],D.sl 1 []])=zeroM.d:=rfl
    have e1:((List.replicate p.length (D.bool false)).set 0 (.bool true))=((List.replicate p.length false).set 0 true).map Bb:=by simp
    have e2:((List.replicate p.length zeroM.d).set 0 startM.d)=((List.replicate p.length zeroM).set 0 startM).map MayD.d:=by simp
    have g0:∀ d:D,(List.replicate p.length d)[0]? = some d:=fun d=>by rw [List.getElem?_replicate,if_pos q4]
    simp only [go_sem,↓reduceIte,nE,nA,nM,nB,oN,iT,nS,nL,nD,iE,iL,reduceCtorEq,q1,q2,Int.le_refl]
    refine fcW_bd impl_StartMay.fc noRs_May ?_
    simp only [go_sem,↓reduceIte,nE,nA,nM,nB,oN,iT,nS,nL,nD,iE,iL,reduceCtorEq,q3,s1,s2,s3,s4,tk_S,tk_K,tk_B,g0,take_map_len]
    refine R_loop (α:=Nat) (fun i s' M'=>i≤p.length∧s' 33=aI i∧M'.m 64=some (.box 0 (.agg [.nil 1,.nil 4,.nil 1]))∧M'.m 704=some (.arr 448 true 1 ((anaN p i).met.map Bb))∧M'.m 896=some (.arr 640 true 4 ((anaN p i).mays.map MayD.d)) ∧
        (∃ bx o,M'.m 1024=some (.box 768 (.agg [.sl 704 448 0 p.length 1,.sl 896 640 0 p.length 4,bx]))∧M'.m 3968=o∧BadX 3968 bx o (anaN p i).bad)) (fun i=>p.length - i) 0
      ⟨by omega,by simp only [go_sem,↓reduceIte,nE,nA,nM,nB,oN,iT,nS,nL,nD,iE,iL,reduceCtorEq];rfl,by simp only [go_sem,↓reduceIte,nE,nA,nM,nB,oN,iT,nS,nL,nD,iE,iL,reduceCtorEq],by simp only [go_sem,↓reduceIte,nE,nA,nM,nB,oN,iT,nS,nL,nD,iE,iL,reduceCtorEq,e1];try rfl,by simp only [go_sem,↓reduceIte,nE,nA,nM,nB,oN,iT,nS,nL,nD,iE,iL,reduceCtorEq];rw [z0];exact congrArg (fun z=>some (Obj.arr 640 true 4 z)) e2,_,_,by simp only [go_sem,↓reduceIte,nE,nA,nM,nB,oN,iT,nS,nL,nD,iE,iL,reduceCtorEq];try rfl,rfl,.inl ⟨rfl,rfl⟩⟩ ?_
    rintro i s' M' ⟨hi,h33,m0,m1,m2,bx,o,m3,m4,hbx⟩ ho
    unfold impl_AnalyseProgram.b1
    have j0:s' 0=.dat none (steps p):=by rw [ho 0 rfl];simp only [go_sem,↓reduceIte,nE,nA,nM,nB,oN,iT,nS,nL,nD,iE,iL,reduceCtorEq]
    have j2:s' 2=.ptr 64 0 0 none:=by rw [ho 2 rfl];simp only [go_sem,↓reduceIte,nE,nA,nM,nB,oN,iT,nS,nL,nD,iE,iL,reduceCtorEq]
    have j4:s' 4=.ptr 1024 768 0 none:=by rw [ho 4 rfl];simp only [go_sem,↓reduceIte,nE,nA,nM,nB,oN,iT,nS,nL,nD,iE,iL,reduceCtorEq]
    have j31:s' 31=.dat none (steps p):=by rw [ho 31 rfl];simp only [go_sem,↓reduceIte,nE,nA,nM,nB,oN,iT,nS,nL,nD,iE,iL,reduceCtorEq]
    have j32:s' 32=aI p.length:=by rw [ho 32 rfl];simp only [go_sem,↓reduceIte,nE,nA,nM,nB,oN,iT,nS,nL,nD,iE,iL,reduceCtorEq]
    clear ho
    have ok:=anaN_ok op i
    have hbl:=anaN_bad (p:=p) i
    by_cases hlt:i < p.length
    · have hi':(i:Int) < p.length:=by omega
      have ga:p[i]? = some p[i]:=List.getElem?_eq_getElem hlt
      have hw:IntKind.i64.wrap (i+1)=((i+1:Nat):Int):=wrap_k hlt (by omega)
      have hst:anaN p (i+1)=anaS p i (anaN p i):=rfl
      have hv:=(op.all i hlt).1
      unfold anaS at hst
      rw [ga] at hst
      dsimp only at hst
      generalize p[i]=s at ga hv hst
      generalize anaN p i=r at hst ok hbl m1 m2 hbx
      have gm:r.met[i]? = some (metB r i):=getD_some (by rw [ok.lm];exact hlt)
      have gy:r.mays[i]? = some (getM r i):=getD_some (by rw [ok.ly];exact hlt)
      cases hm:metB r i with
      | false =>
        rw [hm] at hst gm
        simp only [Bool.false_eq_true,if_false] at hst
        simp only [go_sem,↓reduceIte,nE,nA,nM,nB,oN,iT,nS,nL,nD,iE,iL,reduceCtorEq,gm,j0,j2,j4,j31,j32,h33,m0,m1,m2,m3,m4,hi',ga,hw]
        exact ⟨i+1,by dsimp only;omega,by omega,by simp only [go_sem,↓reduceIte,nE,nA,nM,nB,oN,iT,nS,nL,nD,iE,iL,reduceCtorEq,j0,j2,j4,j31,j32,h33,m0,m1,m2,m3,m4,hi',ga,hw],by simp only [go_sem,↓reduceIte,nE,nA,nM,nB,oN,iT,nS,nL,nD,iE,iL,reduceCtorEq,j0,j2,j4,j31,j32,h33,m0,m1,m2,m3,m4,hi',ga,hw],by simp only [go_sem,↓reduceIte,nE,nA,nM,nB,oN,iT,nS,nL,nD,iE,iL,reduceCtorEq,hst,j0,j2,j4,j31,j32,h33,m0,m1,m2,m3,m4,hi',ga,hw],by simp only [go_sem,↓reduceIte,nE,nA,nM,nB,oN,iT,nS,nL,nD,iE,iL,reduceCtorEq,hst,j0,j2,j4,j31,j32,h33,m0,m1,m2,m3,m4,hi',ga,hw],_,_,by simp only [go_sem,↓reduceIte,nE,nA,nM,nB,oN,iT,nS,nL,nD,iE,iL,reduceCtorEq,j0,j2,j4,j31,j32,h33,m0,m1,m2,m3,m4,hi',ga,hw];rfl,rfl,by simp only [go_sem,↓reduceIte,nE,nA,nM,nB,oN,iT,nS,nL,nD,iE,iL,reduceCtorEq,j0,j2,j4,j31,j32,h33,m0,m1,m2,m3,m4,hi',ga,hw];rw [hst];exact hbx⟩
      | true =>
        rw [hm] at hst gm
        simp only [if_true] at hst
        have om:=ok.ok i hm
        have cs:=impl_stepMay.fc s (getM r i) om hv
        have oa:=mayV_ok om hv
        generalize getM r i=m at gy om cs oa hst
        simp only [go_sem,↓reduceIte,nE,nA,nM,nB,oN,iT,nS,nL,nD,iE,iL,reduceCtorEq,gm,gy,j0,j2,j4,j31,j32,h33,m0,m1,m2,m3,m4,hi',ga,hw]
        generalize mayV s m=A at cs oa hst
        obtain ⟨a,f⟩:=A
        dsimp only at cs oa hst
        refine fcW_bd cs noRs_mayI ?_
        cases hf:(f == 0) with
        | false =>
          have hf2:(f != 0)=true:=by rw [bne,hf];rfl
          rw [hf] at hst
          simp only [Bool.false_eq_true,if_false] at hst
          have hbb:(r.bad.length+1) * 8≤70368744177664:=by omega
          have sn:r.bad.map Ii++[Ii i]=(r.bad++[(i:Int)]).map Ii:=by simp
          have el:(r.bad++[(i:Int)]).length=r.bad.length+1:=by simp
          have el2:([(i:Int)]:List Int).length=1:=rfl
          have tk:(r.bad.map Ii).take r.bad.length=r.bad.map Ii:=List.take_of_length_le (by simp)
          unfold MayZ
          rw [hf]
          rcases hbx with ⟨b1,b2⟩|⟨v,b1,b2⟩
          · subst b2
            simp only [go_sem,↓reduceIte,nE,nA,nM,nB,oN,iT,nS,nL,nD,iE,iL,reduceCtorEq,hf2,j0,j2,j4,j31,j32,h33,m0,m1,m2,m3,m4,hi',ga,hw]
            exact ⟨i+1,by dsimp only;omega,by omega,by simp only [go_sem,↓reduceIte,nE,nA,nM,nB,oN,iT,nS,nL,nD,iE,iL,reduceCtorEq,j0,j2,j4,j31,j32,h33,m0,m1,m2,m3,m4,hi',ga,hw],by simp only [go_sem,↓reduceIte,nE,nA,nM,nB,oN,iT,nS,nL,nD,iE,iL,reduceCtorEq,j0,j2,j4,j31,j32,h33,m0,m1,m2,m3,m4,hi',ga,hw],by simp only [go_sem,↓reduceIte,nE,nA,nM,nB,oN,iT,nS,nL,nD,iE,iL,reduceCtorEq,hst,j0,j2,j4,j31,j32,h33,m0,m1,m2,m3,m4,hi',ga,hw],by simp only [go_sem,↓reduceIte,nE,nA,nM,nB,oN,iT,nS,nL,nD,iE,iL,reduceCtorEq,hst,j0,j2,j4,j31,j32,h33,m0,m1,m2,m3,m4,hi',ga,hw],_,_,by simp only [go_sem,↓reduceIte,nE,nA,nM,nB,oN,iT,nS,nL,nD,iE,iL,reduceCtorEq,j0,j2,j4,j31,j32,h33,m0,m1,m2,m3,m4,hi',ga,hw];try rfl,rfl,.inr ⟨_,by rw [hst];dsimp only;rw [b1];rfl,by simp only [go_sem,↓reduceIte,nE,nA,nM,nB,oN,iT,nS,nL,nD,iE,iL,reduceCtorEq,hst,b1,j0,j2,j4,j31,j32,h33,m0,m1,m2,m3,m4,hi',ga,hw];try rfl⟩⟩
          · subst b1
            rw [b2] at m4
            simp only [go_sem,↓reduceIte,nE,nA,nM,nB,oN,iT,nS,nL,nD,iE,iL,reduceCtorEq,hf2,m4,hbb,sn,tk,j0,j2,j4,j31,j32,h33,m0,m1,m2,m3,m4,hi',ga,hw]
            exact ⟨i+1,by dsimp only;omega,by omega,by simp only [go_sem,↓reduceIte,nE,nA,nM,nB,oN,iT,nS,nL,nD,iE,iL,reduceCtorEq,j0,j2,j4,j31,j32,h33,m0,m1,m2,m3,m4,hi',ga,hw],by simp only [go_sem,↓reduceIte,nE,nA,nM,nB,oN,iT,nS,nL,nD,iE,iL,reduceCtorEq,j0,j2,j4,j31,j32,h33,m0,m1,m2,m3,m4,hi',ga,hw],by simp only [go_sem,↓reduceIte,nE,nA,nM,nB,oN,iT,nS,nL,nD,iE,iL,reduceCtorEq,hst,j0,j2,j4,j31,j32,h33,m0,m1,m2,m3,m4,hi',ga,hw],by simp only [go_sem,↓reduceIte,nE,nA,nM,nB,oN,iT,nS,nL,nD,iE,iL,reduceCtorEq,hst,j0,j2,j4,j31,j32,h33,m0,m1,m2,m3,m4,hi',ga,hw],_,_,by simp only [go_sem,↓reduceIte,nE,nA,nM,nB,oN,iT,nS,nL,nD,iE,iL,reduceCtorEq,j0,j2,j4,j31,j32,h33,m0,m1,m2,m3,m4,hi',ga,hw];try rfl,rfl,.inr ⟨_,by rw [hst];dsimp only;rw [el];try rfl,by simp only [go_sem,↓reduceIte,nE,nA,nM,nB,oN,iT,nS,nL,nD,iE,iL,reduceCtorEq,hst,j0,j2,j4,j31,j32,h33,m0,m1,m2,m3,m4,hi',ga,hw];try rfl⟩⟩
        | true =>
          have hf2:(f != 0)=false:=by rw [bne,hf];rfl
          rw [hf] at hst
          simp only [if_true] at hst
          unfold MayZ
          rw [hf]
          simp only [go_sem,↓reduceIte,nE,nA,nM,nB,oN,iT,nS,nL,nD,iE,iL,reduceCtorEq,hf2,j0,j2,j4,j31,j32,h33,m0,m1,m2,m3,m4,hi',ga,hw]
          have cn:=impl_nexts.fc p i s (by omega) hi' op.len.2 (by rw [Int.toNat_natCast];exact ga) hv
          have hnx:∀ x∈nextsL s i,0≤x∧x < p.length:=fun x hx=>next_in (b:=x) op (by omega) (by rw [Int.toNat_natCast];exact ga) (List.any_eq_true.2 ⟨x,hx,by simp⟩)
          have hbr:brB s=true→s.kind=9∨s.kind=10:=fun h=>by simpa [brB] using h
          have cb:=impl_Step_branches.fc s
          have co:=impl_May_own.fc a oa.len
          have hlen:(nextsL s i).length≤2:=by
            unfold nextsL
            repeat' split
            all_goals simp
          generalize nextsL s i=N at cn hnx hst hlen
          refine fcW_bd cn noRs_ints ?_
          obtain ⟨a1,a2,a3,a4,_,_,_⟩:=oa.len.reg,oa.len.bits,oa.len.cell,oa.len.isset,trivial,trivial,trivial
          simp only [go_sem,↓reduceIte,nE,nA,nM,nB,oN,iT,nS,nL,nD,iE,iL,reduceCtorEq,j0,j2,j4,j31,j32,h33,m0,m1,m2,m3,m4,hi',ga,hw]
          generalize hR:foldN s a 0 N r=R at hst
          refine R_loop (α:=Nat×RepD) (fun b s' M'=>b.1≤N.length∧s' 66=aI b.1∧foldN s a b.1 (N.drop b.1) b.2=R∧RepOk p b.2∧b.2.bad=r.bad∧M'.m 64=some (.box 0 (.agg [.nil 1,.nil 4,.nil 1]))∧M'.m 704=some (.arr 448 true 1 (b.2.met.map Bb))∧M'.m 896=some (.arr 640 true 4 (b.2.mays.map MayD.d)) ∧
              M'.m 1024=some (.box 768 (.agg [.sl 704 448 0 p.length 1,.sl 896 640 0 p.length 4,bx]))∧M'.m 3968=o ∧
              (∃ v,M'.m 2176=some (.box v (.dat none s.d))∧s' 6=.ptr 2176 v 0 none)∧(∃ v,M'.m 4288=some (.arr v true 1 (N.map Ii))∧s' 64=.sl 4288 v 0 N.length 1) ∧
              (∃ v v1 v2 v3 v4,M'.m 3392=some (.box v (.agg [.sl 3136 v1 0 6 2,.sl 3137 v2 0 6 2,.sl 3138 v3 0 16 2,.sl 3139 v4 0 16 1]))∧s' 7=.ptr 3392 v 0 none∧M'.m 3136=some (.arr v1 true 2 (a.reg.map strD))∧M'.m 3137=some (.arr v2 true 2 (a.bits.map knownD))∧M'.m 3138=some (.arr v3 true 2 (a.cell.map strD))∧M'.m 3139=some (.arr v4 true 1 (a.isset.map Bb))))
            (fun b=>N.length - b.1) (0,r)
            ⟨Nat.zero_le _,by simp only [go_sem,↓reduceIte,nE,nA,nM,nB,oN,iT,nS,nL,nD,iE,iL,reduceCtorEq,j0,j2,j4,j31,j32,h33,m0,m1,m2,m3,m4,hi',ga,hw];rfl,hR,ok,rfl,by simp only [go_sem,↓reduceIte,nE,nA,nM,nB,oN,iT,nS,nL,nD,iE,iL,reduceCtorEq,j0,j2,j4,j31,j32,h33,m0,m1,m2,m3,m4,hi',ga,hw],by simp only [go_sem,↓reduceIte,nE,nA,nM,nB,oN,iT,nS,nL,nD,iE,iL,reduceCtorEq,j0,j2,j4,j31,j32,h33,m0,m1,m2,m3,m4,hi',ga,hw],by simp only [go_sem,↓reduceIte,nE,nA,nM,nB,oN,iT,nS,nL,nD,iE,iL,reduceCtorEq,j0,j2,j4,j31,j32,h33,m0,m1,m2,m3,m4,hi',ga,hw],by simp only [go_sem,↓reduceIte,nE,nA,nM,nB,oN,iT,nS,nL,nD,iE,iL,reduceCtorEq,j0,j2,j4,j31,j32,h33,m0,m1,m2,m3,m4,hi',ga,hw],by simp only [go_sem,↓reduceIte,nE,nA,nM,nB,oN,iT,nS,nL,nD,iE,iL,reduceCtorEq,j0,j2,j4,j31,j32,h33,m0,m1,m2,m3,m4,hi',ga,hw],⟨_,by simp only [go_sem,↓reduceIte,nE,nA,nM,nB,oN,iT,nS,nL,nD,iE,iL,reduceCtorEq,j0,j2,j4,j31,j32,h33,m0,m1,m2,m3,m4,hi',ga,hw];try rfl,by simp only [go_sem,↓reduceIte,nE,nA,nM,nB,oN,iT,nS,nL,nD,iE,iL,reduceCtorEq,j0,j2,j4,j31,j32,h33,m0,m1,m2,m3,m4,hi',ga,hw];try rfl⟩,⟨_,by simp only [go_sem,↓reduceIte,nE,nA,nM,nB,oN,iT,nS,nL,nD,iE,iL,reduceCtorEq,j0,j2,j4,j31,j32,h33,m0,m1,m2,m3,m4,hi',ga,hw];try rfl,by simp only [go_sem,↓reduceIte,nE,nA,nM,nB,oN,iT,nS,nL,nD,iE,iL,reduceCtorEq,j0,j2,j4,j31,j32,h33,m0,m1,m2,m3,m4,hi',ga,hw];try rfl⟩,⟨_,_,_,_,_,by simp only [go_sem,↓reduceIte,nE,nA,nM,nB,oN,iT,nS,nL,nD,iE,iL,reduceCtorEq,a1,a2,a3,a4,j0,j2,j4,j31,j32,h33,m0,m1,m2,m3,m4,hi',ga,hw];try rfl,by simp only [go_sem,↓reduceIte,nE,nA,nM,nB,oN,iT,nS,nL,nD,iE,iL,reduceCtorEq,j0,j2,j4,j31,j32,h33,m0,m1,m2,m3,m4,hi',ga,hw];try rfl,by simp only [go_sem,↓reduceIte,nE,nA,nM,nB,oN,iT,nS,nL,nD,iE,iL,reduceCtorEq,j0,j2,j4,j31,j32,h33,m0,m1,m2,m3,m4,hi',ga,hw];try rfl,by simp only [go_sem,↓reduceIte,nE,nA,nM,nB,oN,iT,nS,nL,nD,iE,iL,reduceCtorEq,j0,j2,j4,j31,j32,h33,m0,m1,m2,m3,m4,hi',ga,hw];try rfl,by simp only [go_sem,↓reduceIte,nE,nA,nM,nB,oN,iT,nS,nL,nD,iE,iL,reduceCtorEq,j0,j2,j4,j31,j32,h33,m0,m1,m2,m3,m4,hi',ga,hw];try rfl,by simp only [go_sem,↓reduceIte,nE,nA,nM,nB,oN,iT,nS,nL,nD,iE,iL,reduceCtorEq,j0,j2,j4,j31,j32,h33,m0,m1,m2,m3,m4,hi',ga,hw];try rfl⟩⟩ ?_
          rintro ⟨n,q⟩ s2 M2 ⟨hn,h66,hfo,oq,hqb,m0,m1,m2,m3,m4,⟨v6,m6,h6⟩,⟨vN,mN,hN⟩,⟨v7,w1,w2,w3,w4,m7,h7,y1,y2,y3,y4⟩⟩ ho
          dsimp only at hn h66 hfo oq hqb m1 m2
          unfold impl_AnalyseProgram.b0
          have g0:s2 0=.dat none (steps p):=by rw [ho 0 rfl];simp only [go_sem,↓reduceIte,nE,nA,nM,nB,oN,iT,nS,nL,nD,iE,iL,reduceCtorEq,j0,j2,j4,j31,j32,h33,m0,m1,m2,m3,m4,hi',ga,hw]
          have g2:s2 2=.ptr 64 0 0 none:=by rw [ho 2 rfl];simp only [go_sem,↓reduceIte,nE,nA,nM,nB,oN,iT,nS,nL,nD,iE,iL,reduceCtorEq,j0,j2,j4,j31,j32,h33,m0,m1,m2,m3,m4,hi',ga,hw]
          have g4:s2 4=.ptr 1024 768 0 none:=by rw [ho 4 rfl];simp only [go_sem,↓reduceIte,nE,nA,nM,nB,oN,iT,nS,nL,nD,iE,iL,reduceCtorEq,j0,j2,j4,j31,j32,h33,m0,m1,m2,m3,m4,hi',ga,hw]
          have g31:s2 31=.dat none (steps p):=by rw [ho 31 rfl];simp only [go_sem,↓reduceIte,nE,nA,nM,nB,oN,iT,nS,nL,nD,iE,iL,reduceCtorEq,j0,j2,j4,j31,j32,h33,m0,m1,m2,m3,m4,hi',ga,hw]
          have g32:s2 32=aI p.length:=by rw [ho 32 rfl];simp only [go_sem,↓reduceIte,nE,nA,nM,nB,oN,iT,nS,nL,nD,iE,iL,reduceCtorEq,j0,j2,j4,j31,j32,h33,m0,m1,m2,m3,m4,hi',ga,hw]
          have g65:s2 65=aI N.length:=by rw [ho 65 rfl];simp only [go_sem,↓reduceIte,nE,nA,nM,nB,oN,iT,nS,nL,nD,iE,iL,reduceCtorEq,j0,j2,j4,j31,j32,h33,m0,m1,m2,m3,m4,hi',ga,hw]
          have g33:s2 33=aI i:=by rw [ho 33 rfl];simp only [go_sem,↓reduceIte,nE,nA,nM,nB,oN,iT,nS,nL,nD,iE,iL,reduceCtorEq,j0,j2,j4,j31,j32,h33,m0,m1,m2,m3,m4,hi',ga,hw]
          clear ho
          by_cases hltn:n < N.length
          · have hn':(n:Int) < N.length:=by omega
            have gn:N[n]? = some N[n]:=List.getElem?_eq_getElem hltn
            have hwn:IntKind.i64.wrap (n+1)=((n+1:Nat):Int):=wrap_k hltn (by omega)
            have hd:N.drop n=N[n]::N.drop (n+1):=List.drop_eq_getElem_cons hltn
            have hx:=hnx N[n] (List.getElem_mem hltn)
            rw [hd,foldN_cons] at hfo
            generalize N[n]=x at gn hx hfo
            have T1:=tk_S a1
            have T2:=tk_K a2
            have T3:=tk_S a3
            have T4:=tk_B a4
            have x0:=hx.1
            have x1:=hx.2
            have gk:q.met[x.toNat]? = some (metB q x.toNat):=getD_some (by rw [oq.lm];omega)
            have gy:q.mays[x.toNat]? = some (getM q x.toNat):=getD_some (by rw [oq.ly];omega)
            have hxl:x.toNat < p.length:=by omega
            simp only [go_sem,↓reduceIte,nE,nA,nM,nB,oN,iT,nS,nL,nD,iE,iL,reduceCtorEq,a1,a2,a3,a4,T1,T2,T3,T4,Nat.le_refl,j0,j2,j4,j31,j32,h33,m0,m1,m2,m3,m4,hi',ga,hw,g0,g2,g4,g31,g32,g65,g33,h66,m0,m1,m2,m3,m4,m6,h6,mN,hN,m7,h7,y1,y2,y3,y4,hn',gn,hwn,x0,x1,gk,gy]
            refine fcW_bd co noRs_May ?_
            simp only [go_sem,↓reduceIte,nE,nA,nM,nB,oN,iT,nS,nL,nD,iE,iL,reduceCtorEq,j0,j2,j4,j31,j32,h33,m0,m1,m2,m3,m4,hi',ga,hw,g0,g2,g4,g31,g32,g65,g33,h66,m0,m1,m2,m3,m4,m6,h6,mN,hN,m7,h7,y1,y2,y3,y4,hn',gn,hwn,x0,x1,gk,gy]
            refine fcW_bool cb ?_
            cases hbb:brB s with
            | true =>
              have ch:=impl_heedJump.fc s a ((n:Int) == 1) oa hv (hbr hbb)
              have oh:=heedV_ok (t:=((n:Int) == 1)) oa hv
              have hfs:flowS s a n x q=if (heedV s a ((n:Int) == 1)).2 then landM q x.toNat (heedV s a ((n:Int) == 1)).1 else q:=by unfold flowS;rw [hbb];rfl
              rw [hfs] at hfo
              generalize heedV s a ((n:Int) == 1)=H at ch oh hfo
              obtain ⟨h,t⟩:=H
              dsimp only at ch oh hfo
              simp only [go_sem,↓reduceIte,nE,nA,nM,nB,oN,iT,nS,nL,nD,iE,iL,reduceCtorEq,a1,a2,a3,a4,T1,T2,T3,T4,Nat.le_refl,j0,j2,j4,j31,j32,h33,m0,m1,m2,m3,m4,hi',ga,hw,g0,g2,g4,g31,g32,g65,g33,h66,m0,m1,m2,m3,m4,m6,h6,mN,hN,m7,h7,y1,y2,y3,y4,hn',gn,hwn,x0,x1,gk,gy]
              refine fcW_bd ch noRs_mayB ?_
              cases t with
              | false =>
                simp only [Bool.false_eq_true,if_false] at hfo
                simp only [go_sem,↓reduceIte,nE,nA,nM,nB,oN,iT,nS,nL,nD,iE,iL,reduceCtorEq,j0,j2,j4,j31,j32,h33,m0,m1,m2,m3,m4,hi',ga,hw,g0,g2,g4,g31,g32,g65,g33,h66,m0,m1,m2,m3,m4,m6,h6,mN,hN,m7,h7,y1,y2,y3,y4,hn',gn,hwn,x0,x1,gk,gy]
                exact ⟨(n+1,q),by dsimp only;omega,by dsimp only;omega,by simp only [go_sem,↓reduceIte,nE,nA,nM,nB,oN,iT,nS,nL,nD,iE,iL,reduceCtorEq,j0,j2,j4,j31,j32,h33,m0,m1,m2,m3,m4,hi',ga,hw,g0,g2,g4,g31,g32,g65,g33,h66,m0,m1,m2,m3,m4,m6,h6,mN,hN,m7,h7,y1,y2,y3,y4,hn',gn,hwn,x0,x1,gk,gy],hfo,oq,hqb,by simp only [go_sem,↓reduceIte,nE,nA,nM,nB,oN,iT,nS,nL,nD,iE,iL,reduceCtorEq,j0,j2,j4,j31,j32,h33,m0,m1,m2,m3,m4,hi',ga,hw,g0,g2,g4,g31,g32,g65,g33,h66,m0,m1,m2,m3,m4,m6,h6,mN,hN,m7,h7,y1,y2,y3,y4,hn',gn,hwn,x0,x1,gk,gy],by simp only [go_sem,↓reduceIte,nE,nA,nM,nB,oN,iT,nS,nL,nD,iE,iL,reduceCtorEq,j0,j2,j4,j31,j32,h33,m0,m1,m2,m3,m4,hi',ga,hw,g0,g2,g4,g31,g32,g65,g33,h66,m0,m1,m2,m3,m4,m6,h6,mN,hN,m7,h7,y1,y2,y3,y4,hn',gn,hwn,x0,x1,gk,gy],by simp only [go_sem,↓reduceIte,nE,nA,nM,nB,oN,iT,nS,nL,nD,iE,iL,reduceCtorEq,j0,j2,j4,j31,j32,h33,m0,m1,m2,m3,m4,hi',ga,hw,g0,g2,g4,g31,g32,g65,g33,h66,m0,m1,m2,m3,m4,m6,h6,mN,hN,m7,h7,y1,y2,y3,y4,hn',gn,hwn,x0,x1,gk,gy],by simp only [go_sem,↓reduceIte,nE,nA,nM,nB,oN,iT,nS,nL,nD,iE,iL,reduceCtorEq,j0,j2,j4,j31,j32,h33,m0,m1,m2,m3,m4,hi',ga,hw,g0,g2,g4,g31,g32,g65,g33,h66,m0,m1,m2,m3,m4,m6,h6,mN,hN,m7,h7,y1,y2,y3,y4,hn',gn,hwn,x0,x1,gk,gy],by simp only [go_sem,↓reduceIte,nE,nA,nM,nB,oN,iT,nS,nL,nD,iE,iL,reduceCtorEq,j0,j2,j4,j31,j32,h33,m0,m1,m2,m3,m4,hi',ga,hw,g0,g2,g4,g31,g32,g65,g33,h66,m0,m1,m2,m3,m4,m6,h6,mN,hN,m7,h7,y1,y2,y3,y4,hn',gn,hwn,x0,x1,gk,gy],⟨_,by simp only [go_sem,↓reduceIte,nE,nA,nM,nB,oN,iT,nS,nL,nD,iE,iL,reduceCtorEq,j0,j2,j4,j31,j32,h33,m0,m1,m2,m3,m4,hi',ga,hw,g0,g2,g4,g31,g32,g65,g33,h66,m0,m1,m2,m3,m4,m6,h6,mN,hN,m7,h7,y1,y2,y3,y4,hn',gn,hwn,x0,x1,gk,gy];try rfl,by simp only [go_sem,↓reduceIte,nE,nA,nM,nB,oN,iT,nS,nL,nD,iE,iL,reduceCtorEq,j0,j2,j4,j31,j32,h33,m0,m1,m2,m3,m4,hi',ga,hw,g0,g2,g4,g31,g32,g65,g33,h66,m0,m1,m2,m3,m4,m6,h6,mN,hN,m7,h7,y1,y2,y3,y4,hn',gn,hwn,x0,x1,gk,gy];try rfl⟩,⟨_,by simp only [go_sem,↓reduceIte,nE,nA,nM,nB,oN,iT,nS,nL,nD,iE,iL,reduceCtorEq,j0,j2,j4,j31,j32,h33,m0,m1,m2,m3,m4,hi',ga,hw,g0,g2,g4,g31,g32,g65,g33,h66,m0,m1,m2,m3,m4,m6,h6,mN,hN,m7,h7,y1,y2,y3,y4,hn',gn,hwn,x0,x1,gk,gy];try rfl,by simp only [go_sem,↓reduceIte,nE,nA,nM,nB,oN,iT,nS,nL,nD,iE,iL,reduceCtorEq,j0,j2,j4,j31,j32,h33,m0,m1,m2,m3,m4,hi',ga,hw,g0,g2,g4,g31,g32,g65,g33,h66,m0,m1,m2,m3,m4,m6,h6,mN,hN,m7,h7,y1,y2,y3,y4,hn',gn,hwn,x0,x1,gk,gy];try rfl⟩,⟨_,_,_,_,_,by simp only [go_sem,↓reduceIte,nE,nA,nM,nB,oN,iT,nS,nL,nD,iE,iL,reduceCtorEq,j0,j2,j4,j31,j32,h33,m0,m1,m2,m3,m4,hi',ga,hw,g0,g2,g4,g31,g32,g65,g33,h66,m0,m1,m2,m3,m4,m6,h6,mN,hN,m7,h7,y1,y2,y3,y4,hn',gn,hwn,x0,x1,gk,gy];try rfl,by simp only [go_sem,↓reduceIte,nE,nA,nM,nB,oN,iT,nS,nL,nD,iE,iL,reduceCtorEq,j0,j2,j4,j31,j32,h33,m0,m1,m2,m3,m4,hi',ga,hw,g0,g2,g4,g31,g32,g65,g33,h66,m0,m1,m2,m3,m4,m6,h6,mN,hN,m7,h7,y1,y2,y3,y4,hn',gn,hwn,x0,x1,gk,gy];try rfl,by simp only [go_sem,↓reduceIte,nE,nA,nM,nB,oN,iT,nS,nL,nD,iE,iL,reduceCtorEq,j0,j2,j4,j31,j32,h33,m0,m1,m2,m3,m4,hi',ga,hw,g0,g2,g4,g31,g32,g65,g33,h66,m0,m1,m2,m3,m4,m6,h6,mN,hN,m7,h7,y1,y2,y3,y4,hn',gn,hwn,x0,x1,gk,gy];try rfl,by simp only [go_sem,↓reduceIte,nE,nA,nM,nB,oN,iT,nS,nL,nD,iE,iL,reduceCtorEq,j0,j2,j4,j31,j32,h33,m0,m1,m2,m3,m4,hi',ga,hw,g0,g2,g4,g31,g32,g65,g33,h66,m0,m1,m2,m3,m4,m6,h6,mN,hN,m7,h7,y1,y2,y3,y4,hn',gn,hwn,x0,x1,gk,gy];try rfl,by simp only [go_sem,↓reduceIte,nE,nA,nM,nB,oN,iT,nS,nL,nD,iE,iL,reduceCtorEq,j0,j2,j4,j31,j32,h33,m0,m1,m2,m3,m4,hi',ga,hw,g0,g2,g4,g31,g32,g65,g33,h66,m0,m1,m2,m3,m4,m6,h6,mN,hN,m7,h7,y1,y2,y3,y4,hn',gn,hwn,x0,x1,gk,gy];try rfl,by simp only [go_sem,↓reduceIte,nE,nA,nM,nB,oN,iT,nS,nL,nD,iE,iL,reduceCtorEq,j0,j2,j4,j31,j32,h33,m0,m1,m2,m3,m4,hi',ga,hw,g0,g2,g4,g31,g32,g65,g33,h66,m0,m1,m2,m3,m4,m6,h6,mN,hN,m7,h7,y1,y2,y3,y4,hn',gn,hwn,x0,x1,gk,gy];try rfl⟩⟩
              | true =>
                simp only [if_true] at hfo
                have oh:=oh rfl
                obtain ⟨b1,b2,b3,b4⟩:=oh.len
                have U1:=tk_S b1
                have U2:=tk_K b2
                have U3:=tk_S b3
                have U4:=tk_B b4
                simp only [go_sem,↓reduceIte,nE,nA,nM,nB,oN,iT,nS,nL,nD,iE,iL,reduceCtorEq,j0,j2,j4,j31,j32,h33,m0,m1,m2,m3,m4,hi',ga,hw,g0,g2,g4,g31,g32,g65,g33,h66,m0,m1,m2,m3,m4,m6,h6,mN,hN,m7,h7,y1,y2,y3,y4,hn',gn,hwn,x0,x1,gk,gy]
                have ol:=landM_ok (k:=x.toNat) oq oh
                have hlb:(landM q x.toNat h).bad=q.bad:=landM_bad
                cases hk:metB q x.toNat with
                | true =>
                  have cj:=impl_joined.fc (getM q x.toNat) h (oq.ok _ hk).len oh.len
                  have hl:landM q x.toNat h = { q with mays:=q.mays.set x.toNat (joinM (getM q x.toNat) h) }:=by unfold landM;rw [hk];rfl
                  obtain ⟨c1,c2,c3,c4⟩:=joinM_len (oq.ok _ hk).len oh.len
                  generalize joinM (getM q x.toNat) h=J at cj hl c1 c2 c3 c4
                  rw [hl] at ol hlb hfo
                  have V1:=tk_S c1
                  have V2:=tk_K c2
                  have V3:=tk_S c3
                  have V4:=tk_B c4
                  simp only [go_sem,↓reduceIte,nE,nA,nM,nB,oN,iT,nS,nL,nD,iE,iL,reduceCtorEq,b1,b2,b3,b4,U1,U2,U3,U4,Nat.le_refl,j0,j2,j4,j31,j32,h33,m0,m1,m2,m3,m4,hi',ga,hw,g0,g2,g4,g31,g32,g65,g33,h66,m0,m1,m2,m3,m4,m6,h6,mN,hN,m7,h7,y1,y2,y3,y4,hn',gn,hwn,x0,x1,gk,gy]
                  refine fcW_bd cj noRs_May ?_
                  simp only [go_sem,↓reduceIte,nE,nA,nM,nB,oN,iT,nS,nL,nD,iE,iL,reduceCtorEq,c1,c2,c3,c4,V1,V2,V3,V4,Nat.le_refl,hxl,my_set,j0,j2,j4,j31,j32,h33,m0,m1,m2,m3,m4,hi',ga,hw,g0,g2,g4,g31,g32,g65,g33,h66,m0,m1,m2,m3,m4,m6,h6,mN,hN,m7,h7,y1,y2,y3,y4,hn',gn,hwn,x0,x1,gk,gy]
                  exact ⟨(n+1,_),by dsimp only;omega,by dsimp only;omega,by simp only [go_sem,↓reduceIte,nE,nA,nM,nB,oN,iT,nS,nL,nD,iE,iL,reduceCtorEq,j0,j2,j4,j31,j32,h33,m0,m1,m2,m3,m4,hi',ga,hw,g0,g2,g4,g31,g32,g65,g33,h66,m0,m1,m2,m3,m4,m6,h6,mN,hN,m7,h7,y1,y2,y3,y4,hn',gn,hwn,x0,x1,gk,gy],hfo,ol,hlb.trans hqb,by simp only [go_sem,↓reduceIte,nE,nA,nM,nB,oN,iT,nS,nL,nD,iE,iL,reduceCtorEq,j0,j2,j4,j31,j32,h33,m0,m1,m2,m3,m4,hi',ga,hw,g0,g2,g4,g31,g32,g65,g33,h66,m0,m1,m2,m3,m4,m6,h6,mN,hN,m7,h7,y1,y2,y3,y4,hn',gn,hwn,x0,x1,gk,gy],by simp only [go_sem,↓reduceIte,nE,nA,nM,nB,oN,iT,nS,nL,nD,iE,iL,reduceCtorEq,j0,j2,j4,j31,j32,h33,m0,m1,m2,m3,m4,hi',ga,hw,g0,g2,g4,g31,g32,g65,g33,h66,m0,m1,m2,m3,m4,m6,h6,mN,hN,m7,h7,y1,y2,y3,y4,hn',gn,hwn,x0,x1,gk,gy],by simp only [go_sem,↓reduceIte,nE,nA,nM,nB,oN,iT,nS,nL,nD,iE,iL,reduceCtorEq,j0,j2,j4,j31,j32,h33,m0,m1,m2,m3,m4,hi',ga,hw,g0,g2,g4,g31,g32,g65,g33,h66,m0,m1,m2,m3,m4,m6,h6,mN,hN,m7,h7,y1,y2,y3,y4,hn',gn,hwn,x0,x1,gk,gy],by simp only [go_sem,↓reduceIte,nE,nA,nM,nB,oN,iT,nS,nL,nD,iE,iL,reduceCtorEq,j0,j2,j4,j31,j32,h33,m0,m1,m2,m3,m4,hi',ga,hw,g0,g2,g4,g31,g32,g65,g33,h66,m0,m1,m2,m3,m4,m6,h6,mN,hN,m7,h7,y1,y2,y3,y4,hn',gn,hwn,x0,x1,gk,gy],by simp only [go_sem,↓reduceIte,nE,nA,nM,nB,oN,iT,nS,nL,nD,iE,iL,reduceCtorEq,j0,j2,j4,j31,j32,h33,m0,m1,m2,m3,m4,hi',ga,hw,g0,g2,g4,g31,g32,g65,g33,h66,m0,m1,m2,m3,m4,m6,h6,mN,hN,m7,h7,y1,y2,y3,y4,hn',gn,hwn,x0,x1,gk,gy],⟨_,by simp only [go_sem,↓reduceIte,nE,nA,nM,nB,oN,iT,nS,nL,nD,iE,iL,reduceCtorEq,j0,j2,j4,j31,j32,h33,m0,m1,m2,m3,m4,hi',ga,hw,g0,g2,g4,g31,g32,g65,g33,h66,m0,m1,m2,m3,m4,m6,h6,mN,hN,m7,h7,y1,y2,y3,y4,hn',gn,hwn,x0,x1,gk,gy];try rfl,by simp only [go_sem,↓reduceIte,nE,nA,nM,nB,oN,iT,nS,nL,nD,iE,iL,reduceCtorEq,j0,j2,j4,j31,j32,h33,m0,m1,m2,m3,m4,hi',ga,hw,g0,g2,g4,g31,g32,g65,g33,h66,m0,m1,m2,m3,m4,m6,h6,mN,hN,m7,h7,y1,y2,y3,y4,hn',gn,hwn,x0,x1,gk,gy];try rfl⟩,⟨_,by simp only [go_sem,↓reduceIte,nE,nA,nM,nB,oN,iT,nS,nL,nD,iE,iL,reduceCtorEq,j0,j2,j4,j31,j32,h33,m0,m1,m2,m3,m4,hi',ga,hw,g0,g2,g4,g31,g32,g65,g33,h66,m0,m1,m2,m3,m4,m6,h6,mN,hN,m7,h7,y1,y2,y3,y4,hn',gn,hwn,x0,x1,gk,gy];try rfl,by simp only [go_sem,↓reduceIte,nE,nA,nM,nB,oN,iT,nS,nL,nD,iE,iL,reduceCtorEq,j0,j2,j4,j31,j32,h33,m0,m1,m2,m3,m4,hi',ga,hw,g0,g2,g4,g31,g32,g65,g33,h66,m0,m1,m2,m3,m4,m6,h6,mN,hN,m7,h7,y1,y2,y3,y4,hn',gn,hwn,x0,x1,gk,gy];try rfl⟩,⟨_,_,_,_,_,by simp only [go_sem,↓reduceIte,nE,nA,nM,nB,oN,iT,nS,nL,nD,iE,iL,reduceCtorEq,j0,j2,j4,j31,j32,h33,m0,m1,m2,m3,m4,hi',ga,hw,g0,g2,g4,g31,g32,g65,g33,h66,m0,m1,m2,m3,m4,m6,h6,mN,hN,m7,h7,y1,y2,y3,y4,hn',gn,hwn,x0,x1,gk,gy];try rfl,by simp only [go_sem,↓reduceIte,nE,nA,nM,nB,oN,iT,nS,nL,nD,iE,iL,reduceCtorEq,j0,j2,j4,j31,j32,h33,m0,m1,m2,m3,m4,hi',ga,hw,g0,g2,g4,g31,g32,g65,g33,h66,m0,m1,m2,m3,m4,m6,h6,mN,hN,m7,h7,y1,y2,y3,y4,hn',gn,hwn,x0,x1,gk,gy];try rfl,by simp only [go_sem,↓reduceIte,nE,nA,nM,nB,oN,iT,nS,nL,nD,iE,iL,reduceCtorEq,j0,j2,j4,j31,j32,h33,m0,m1,m2,m3,m4,hi',ga,hw,g0,g2,g4,g31,g32,g65,g33,h66,m0,m1,m2,m3,m4,m6,h6,mN,hN,m7,h7,y1,y2,y3,y4,hn',gn,hwn,x0,x1,gk,gy];try rfl,by simp only [go_sem,↓reduceIte,nE,nA,nM,nB,oN,iT,nS,nL,nD,iE,iL,reduceCtorEq,j0,j2,j4,j31,j32,h33,m0,m1,m2,m3,m4,hi',ga,hw,g0,g2,g4,g31,g32,g65,g33,h66,m0,m1,m2,m3,m4,m6,h6,mN,hN,m7,h7,y1,y2,y3,y4,hn',gn,hwn,x0,x1,gk,gy];try rfl,by simp only [go_sem,↓reduceIte,nE,nA,nM,nB,oN,iT,nS,nL,nD,iE,iL,reduceCtorEq,j0,j2,j4,j31,j32,h33,m0,m1,m2,m3,m4,hi',ga,hw,g0,g2,g4,g31,g32,g65,g33,h66,m0,m1,m2,m3,m4,m6,h6,mN,hN,m7,h7,y1,y2,y3,y4,hn',gn,hwn,x0,x1,gk,gy];try rfl,by simp only [go_sem,↓reduceIte,nE,nA,nM,nB,oN,iT,nS,nL,nD,iE,iL,reduceCtorEq,j0,j2,j4,j31,j32,h33,m0,m1,m2,m3,m4,hi',ga,hw,g0,g2,g4,g31,g32,g65,g33,h66,m0,m1,m2,m3,m4,m6,h6,mN,hN,m7,h7,y1,y2,y3,y4,hn',gn,hwn,x0,x1,gk,gy];try rfl⟩⟩
                | false =>
                  have hl:landM q x.toNat h = { q with met:=q.met.set x.toNat true,mays:=q.mays.set x.toNat h }:=by unfold landM;rw [hk];rfl
                  rw [hl] at ol hlb hfo
                  simp only [go_sem,↓reduceIte,nE,nA,nM,nB,oN,iT,nS,nL,nD,iE,iL,reduceCtorEq,b1,b2,b3,b4,U1,U2,U3,U4,Nat.le_refl,hxl,my_set,setBb,j0,j2,j4,j31,j32,h33,m0,m1,m2,m3,m4,hi',ga,hw,g0,g2,g4,g31,g32,g65,g33,h66,m0,m1,m2,m3,m4,m6,h6,mN,hN,m7,h7,y1,y2,y3,y4,hn',gn,hwn,x0,x1,gk,gy]
                  exact ⟨(n+1,_),by dsimp only;omega,by dsimp only;omega,by simp only [go_sem,↓reduceIte,nE,nA,nM,nB,oN,iT,nS,nL,nD,iE,iL,reduceCtorEq,j0,j2,j4,j31,j32,h33,m0,m1,m2,m3,m4,hi',ga,hw,g0,g2,g4,g31,g32,g65,g33,h66,m0,m1,m2,m3,m4,m6,h6,mN,hN,m7,h7,y1,y2,y3,y4,hn',gn,hwn,x0,x1,gk,gy],hfo,ol,hlb.trans hqb,by simp only [go_sem,↓reduceIte,nE,nA,nM,nB,oN,iT,nS,nL,nD,iE,iL,reduceCtorEq,j0,j2,j4,j31,j32,h33,m0,m1,m2,m3,m4,hi',ga,hw,g0,g2,g4,g31,g32,g65,g33,h66,m0,m1,m2,m3,m4,m6,h6,mN,hN,m7,h7,y1,y2,y3,y4,hn',gn,hwn,x0,x1,gk,gy],by simp only [go_sem,↓reduceIte,nE,nA,nM,nB,oN,iT,nS,nL,nD,iE,iL,reduceCtorEq,j0,j2,j4,j31,j32,h33,m0,m1,m2,m3,m4,hi',ga,hw,g0,g2,g4,g31,g32,g65,g33,h66,m0,m1,m2,m3,m4,m6,h6,mN,hN,m7,h7,y1,y2,y3,y4,hn',gn,hwn,x0,x1,gk,gy],by simp only [go_sem,↓reduceIte,nE,nA,nM,nB,oN,iT,nS,nL,nD,iE,iL,reduceCtorEq,j0,j2,j4,j31,j32,h33,m0,m1,m2,m3,m4,hi',ga,hw,g0,g2,g4,g31,g32,g65,g33,h66,m0,m1,m2,m3,m4,m6,h6,mN,hN,m7,h7,y1,y2,y3,y4,hn',gn,hwn,x0,x1,gk,gy],by simp only [go_sem,↓reduceIte,nE,nA,nM,nB,oN,iT,nS,nL,nD,iE,iL,reduceCtorEq,j0,j2,j4,j31,j32,h33,m0,m1,m2,m3,m4,hi',ga,hw,g0,g2,g4,g31,g32,g65,g33,h66,m0,m1,m2,m3,m4,m6,h6,mN,hN,m7,h7,y1,y2,y3,y4,hn',gn,hwn,x0,x1,gk,gy],by simp only [go_sem,↓reduceIte,nE,nA,nM,nB,oN,iT,nS,nL,nD,iE,iL,reduceCtorEq,j0,j2,j4,j31,j32,h33,m0,m1,m2,m3,m4,hi',ga,hw,g0,g2,g4,g31,g32,g65,g33,h66,m0,m1,m2,m3,m4,m6,h6,mN,hN,m7,h7,y1,y2,y3,y4,hn',gn,hwn,x0,x1,gk,gy],⟨_,by simp only [go_sem,↓reduceIte,nE,nA,nM,nB,oN,iT,nS,nL,nD,iE,iL,reduceCtorEq,j0,j2,j4,j31,j32,h33,m0,m1,m2,m3,m4,hi',ga,hw,g0,g2,g4,g31,g32,g65,g33,h66,m0,m1,m2,m3,m4,m6,h6,mN,hN,m7,h7,y1,y2,y3,y4,hn',gn,hwn,x0,x1,gk,gy];try rfl,by simp only [go_sem,↓reduceIte,nE,nA,nM,nB,oN,iT,nS,nL,nD,iE,iL,reduceCtorEq,j0,j2,j4,j31,j32,h33,m0,m1,m2,m3,m4,hi',ga,hw,g0,g2,g4,g31,g32,g65,g33,h66,m0,m1,m2,m3,m4,m6,h6,mN,hN,m7,h7,y1,y2,y3,y4,hn',gn,hwn,x0,x1,gk,gy];try rfl⟩,⟨_,by simp only [go_sem,↓reduceIte,nE,nA,nM,nB,oN,iT,nS,nL,nD,iE,iL,reduceCtorEq,j0,j2,j4,j31,j32,h33,m0,m1,m2,m3,m4,hi',ga,hw,g0,g2,g4,g31,g32,g65,g33,h66,m0,m1,m2,m3,m4,m6,h6,mN,hN,m7,h7,y1,y2,y3,y4,hn',gn,hwn,x0,x1,gk,gy];try rfl,by simp only [go_sem,↓reduceIte,nE,nA,nM,nB,oN,iT,nS,nL,nD,iE,iL,reduceCtorEq,j0,j2,j4,j31,j32,h33,m0,m1,m2,m3,m4,hi',ga,hw,g0,g2,g4,g31,g32,g65,g33,h66,m0,m1,m2,m3,m4,m6,h6,mN,hN,m7,h7,y1,y2,y3,y4,hn',gn,hwn,x0,x1,gk,gy];try rfl⟩,⟨_,_,_,_,_,by simp only [go_sem,↓reduceIte,nE,nA,nM,nB,oN,iT,nS,nL,nD,iE,iL,reduceCtorEq,j0,j2,j4,j31,j32,h33,m0,m1,m2,m3,m4,hi',ga,hw,g0,g2,g4,g31,g32,g65,g33,h66,m0,m1,m2,m3,m4,m6,h6,mN,hN,m7,h7,y1,y2,y3,y4,hn',gn,hwn,x0,x1,gk,gy];try rfl,by simp only [go_sem,↓reduceIte,nE,nA,nM,nB,oN,iT,nS,nL,nD,iE,iL,reduceCtorEq,j0,j2,j4,j31,j32,h33,m0,m1,m2,m3,m4,hi',ga,hw,g0,g2,g4,g31,g32,g65,g33,h66,m0,m1,m2,m3,m4,m6,h6,mN,hN,m7,h7,y1,y2,y3,y4,hn',gn,hwn,x0,x1,gk,gy];try rfl,by simp only [go_sem,↓reduceIte,nE,nA,nM,nB,oN,iT,nS,nL,nD,iE,iL,reduceCtorEq,j0,j2,j4,j31,j32,h33,m0,m1,m2,m3,m4,hi',ga,hw,g0,g2,g4,g31,g32,g65,g33,h66,m0,m1,m2,m3,m4,m6,h6,mN,hN,m7,h7,y1,y2,y3,y4,hn',gn,hwn,x0,x1,gk,gy];try rfl,by simp only [go_sem,↓reduceIte,nE,nA,nM,nB,oN,iT,nS,nL,nD,iE,iL,reduceCtorEq,j0,j2,j4,j31,j32,h33,m0,m1,m2,m3,m4,hi',ga,hw,g0,g2,g4,g31,g32,g65,g33,h66,m0,m1,m2,m3,m4,m6,h6,mN,hN,m7,h7,y1,y2,y3,y4,hn',gn,hwn,x0,x1,gk,gy];try rfl,by simp only [go_sem,↓reduceIte,nE,nA,nM,nB,oN,iT,nS,nL,nD,iE,iL,reduceCtorEq,j0,j2,j4,j31,j32,h33,m0,m1,m2,m3,m4,hi',ga,hw,g0,g2,g4,g31,g32,g65,g33,h66,m0,m1,m2,m3,m4,m6,h6,mN,hN,m7,h7,y1,y2,y3,y4,hn',gn,hwn,x0,x1,gk,gy];try rfl,by simp only [go_sem,↓reduceIte,nE,nA,nM,nB,oN,iT,nS,nL,nD,iE,iL,reduceCtorEq,j0,j2,j4,j31,j32,h33,m0,m1,m2,m3,m4,hi',ga,hw,g0,g2,g4,g31,g32,g65,g33,h66,m0,m1,m2,m3,m4,m6,h6,mN,hN,m7,h7,y1,y2,y3,y4,hn',gn,hwn,x0,x1,gk,gy];try rfl⟩⟩
            | false =>
              have hfs:flowS s a n x q=landM q x.toNat a:=by unfold flowS;rw [hbb];rfl
              rw [hfs] at hfo
              simp only [go_sem,↓reduceIte,nE,nA,nM,nB,oN,iT,nS,nL,nD,iE,iL,reduceCtorEq,j0,j2,j4,j31,j32,h33,m0,m1,m2,m3,m4,hi',ga,hw,g0,g2,g4,g31,g32,g65,g33,h66,m0,m1,m2,m3,m4,m6,h6,mN,hN,m7,h7,y1,y2,y3,y4,hn',gn,hwn,x0,x1,gk,gy]
              have ol:=landM_ok (k:=x.toNat) oq oa
              have hlb:(landM q x.toNat a).bad=q.bad:=landM_bad
              cases hk:metB q x.toNat with
              | true =>
                have cj:=impl_joined.fc (getM q x.toNat) a (oq.ok _ hk).len oa.len
                have hl:landM q x.toNat a = { q with mays:=q.mays.set x.toNat (joinM (getM q x.toNat) a) }:=by unfold landM;rw [hk];rfl
                obtain ⟨c1,c2,c3,c4⟩:=joinM_len (oq.ok _ hk).len oa.len
                generalize joinM (getM q x.toNat) a=J at cj hl c1 c2 c3 c4
                rw [hl] at ol hlb hfo
                have V1:=tk_S c1
                have V2:=tk_K c2
                have V3:=tk_S c3
                have V4:=tk_B c4
                simp only [go_sem,↓reduceIte,nE,nA,nM,nB,oN,iT,nS,nL,nD,iE,iL,reduceCtorEq,a1,a2,a3,a4,T1,T2,T3,T4,Nat.le_refl,j0,j2,j4,j31,j32,h33,m0,m1,m2,m3,m4,hi',ga,hw,g0,g2,g4,g31,g32,g65,g33,h66,m0,m1,m2,m3,m4,m6,h6,mN,hN,m7,h7,y1,y2,y3,y4,hn',gn,hwn,x0,x1,gk,gy]
                refine fcW_bd cj noRs_May ?_
                simp only [go_sem,↓reduceIte,nE,nA,nM,nB,oN,iT,nS,nL,nD,iE,iL,reduceCtorEq,c1,c2,c3,c4,V1,V2,V3,V4,Nat.le_refl,hxl,my_set,j0,j2,j4,j31,j32,h33,m0,m1,m2,m3,m4,hi',ga,hw,g0,g2,g4,g31,g32,g65,g33,h66,m0,m1,m2,m3,m4,m6,h6,mN,hN,m7,h7,y1,y2,y3,y4,hn',gn,hwn,x0,x1,gk,gy]
                exact ⟨(n+1,_),by dsimp only;omega,by dsimp only;omega,by simp only [go_sem,↓reduceIte,nE,nA,nM,nB,oN,iT,nS,nL,nD,iE,iL,reduceCtorEq,j0,j2,j4,j31,j32,h33,m0,m1,m2,m3,m4,hi',ga,hw,g0,g2,g4,g31,g32,g65,g33,h66,m0,m1,m2,m3,m4,m6,h6,mN,hN,m7,h7,y1,y2,y3,y4,hn',gn,hwn,x0,x1,gk,gy],hfo,ol,hlb.trans hqb,by simp only [go_sem,↓reduceIte,nE,nA,nM,nB,oN,iT,nS,nL,nD,iE,iL,reduceCtorEq,j0,j2,j4,j31,j32,h33,m0,m1,m2,m3,m4,hi',ga,hw,g0,g2,g4,g31,g32,g65,g33,h66,m0,m1,m2,m3,m4,m6,h6,mN,hN,m7,h7,y1,y2,y3,y4,hn',gn,hwn,x0,x1,gk,gy],by simp only [go_sem,↓reduceIte,nE,nA,nM,nB,oN,iT,nS,nL,nD,iE,iL,reduceCtorEq,j0,j2,j4,j31,j32,h33,m0,m1,m2,m3,m4,hi',ga,hw,g0,g2,g4,g31,g32,g65,g33,h66,m0,m1,m2,m3,m4,m6,h6,mN,hN,m7,h7,y1,y2,y3,y4,hn',gn,hwn,x0,x1,gk,gy],by simp only [go_sem,↓reduceIte,nE,nA,nM,nB,oN,iT,nS,nL,nD,iE,iL,reduceCtorEq,j0,j2,j4,j31,j32,h33,m0,m1,m2,m3,m4,hi',ga,hw,g0,g2,g4,g31,g32,g65,g33,h66,m0,m1,m2,m3,m4,m6,h6,mN,hN,m7,h7,y1,y2,y3,y4,hn',gn,hwn,x0,x1,gk,gy],by simp only [go_sem,↓reduceIte,nE,nA,nM,nB,oN,iT,nS,nL,nD,iE,iL,reduceCtorEq,j0,j2,j4,j31,j32,h33,m0,m1,m2,m3,m4,hi',ga,hw,g0,g2,g4,g31,g32,g65,g33,h66,m0,m1,m2,m3,m4,m6,h6,mN,hN,m7,h7,y1,y2,y3,y4,hn',gn,hwn,x0,x1,gk,gy],by simp only [go_sem,↓reduceIte,nE,nA,nM,nB,oN,iT,nS,nL,nD,iE,iL,reduceCtorEq,j0,j2,j4,j31,j32,h33,m0,m1,m2,m3,m4,hi',ga,hw,g0,g2,g4,g31,g32,g65,g33,h66,m0,m1,m2,m3,m4,m6,h6,mN,hN,m7,h7,y1,y2,y3,y4,hn',gn,hwn,x0,x1,gk,gy],⟨_,by simp only [go_sem,↓reduceIte,nE,nA,nM,nB,oN,iT,nS,nL,nD,iE,iL,reduceCtorEq,j0,j2,j4,j31,j32,h33,m0,m1,m2,m3,m4,hi',ga,hw,g0,g2,g4,g31,g32,g65,g33,h66,m0,m1,m2,m3,m4,m6,h6,mN,hN,m7,h7,y1,y2,y3,y4,hn',gn,hwn,x0,x1,gk,gy];try rfl,by simp only [go_sem,↓reduceIte,nE,nA,nM,nB,oN,iT,nS,nL,nD,iE,iL,reduceCtorEq,j0,j2,j4,j31,j32,h33,m0,m1,m2,m3,m4,hi',ga,hw,g0,g2,g4,g31,g32,g65,g33,h66,m0,m1,m2,m3,m4,m6,h6,mN,hN,m7,h7,y1,y2,y3,y4,hn',gn,hwn,x0,x1,gk,gy];try rfl⟩,⟨_,by simp only [go_sem,↓reduceIte,nE,nA,nM,nB,oN,iT,nS,nL,nD,iE,iL,reduceCtorEq,j0,j2,j4,j31,j32,h33,m0,m1,m2,m3,m4,hi',ga,hw,g0,g2,g4,g31,g32,g65,g33,h66,m0,m1,m2,m3,m4,m6,h6,mN,hN,m7,h7,y1,y2,y3,y4,hn',gn,hwn,x0,x1,gk,gy];try rfl,by simp only [go_sem,↓reduceIte,nE,nA,nM,nB,oN,iT,nS,nL,nD,iE,iL,reduceCtorEq,j0,j2,j4,j31,j32,h33,m0,m1,m2,m3,m4,hi',ga,hw,g0,g2,g4,g31,g32,g65,g33,h66,m0,m1,m2,m3,m4,m6,h6,mN,hN,m7,h7,y1,y2,y3,y4,hn',gn,hwn,x0,x1,gk,gy];try rfl⟩,⟨_,_,_,_,_,by simp only [go_sem,↓reduceIte,nE,nA,nM,nB,oN,iT,nS,nL,nD,iE,iL,reduceCtorEq,j0,j2,j4,j31,j32,h33,m0,m1,m2,m3,m4,hi',ga,hw,g0,g2,g4,g31,g32,g65,g33,h66,m0,m1,m2,m3,m4,m6,h6,mN,hN,m7,h7,y1,y2,y3,y4,hn',gn,hwn,x0,x1,gk,gy];try rfl,by simp only [go_sem,↓reduceIte,nE,nA,nM,nB,oN,iT,nS,nL,nD,iE,iL,reduceCtorEq,j0,j2,j4,j31,j32,h33,m0,m1,m2,m3,m4,hi',ga,hw,g0,g2,g4,g31,g32,g65,g33,h66,m0,m1,m2,m3,m4,m6,h6,mN,hN,m7,h7,y1,y2,y3,y4,hn',gn,hwn,x0,x1,gk,gy];try rfl,by simp only [go_sem,↓reduceIte,nE,nA,nM,nB,oN,iT,nS,nL,nD,iE,iL,reduceCtorEq,j0,j2,j4,j31,j32,h33,m0,m1,m2,m3,m4,hi',ga,hw,g0,g2,g4,g31,g32,g65,g33,h66,m0,m1,m2,m3,m4,m6,h6,mN,hN,m7,h7,y1,y2,y3,y4,hn',gn,hwn,x0,x1,gk,gy];try rfl,by simp only [go_sem,↓reduceIte,nE,nA,nM,nB,oN,iT,nS,nL,nD,iE,iL,reduceCtorEq,j0,j2,j4,j31,j32,h33,m0,m1,m2,m3,m4,hi',ga,hw,g0,g2,g4,g31,g32,g65,g33,h66,m0,m1,m2,m3,m4,m6,h6,mN,hN,m7,h7,y1,y2,y3,y4,hn',gn,hwn,x0,x1,gk,gy];try rfl,by simp only [go_sem,↓reduceIte,nE,nA,nM,nB,oN,iT,nS,nL,nD,iE,iL,reduceCtorEq,j0,j2,j4,j31,j32,h33,m0,m1,m2,m3,m4,hi',ga,hw,g0,g2,g4,g31,g32,g65,g33,h66,m0,m1,m2,m3,m4,m6,h6,mN,hN,m7,h7,y1,y2,y3,y4,hn',gn,hwn,x0,x1,gk,gy];try rfl,by simp only [go_sem,↓reduceIte,nE,nA,nM,nB,oN,iT,nS,nL,nD,iE,iL,reduceCtorEq,j0,j2,j4,j31,j32,h33,m0,m1,m2,m3,m4,hi',ga,hw,g0,g2,g4,g31,g32,g65,g33,h66,m0,m1,m2,m3,m4,m6,h6,mN,hN,m7,h7,y1,y2,y3,y4,hn',gn,hwn,x0,x1,gk,gy];try rfl⟩⟩
              | false =>
                have hl:landM q x.toNat a = { q with met:=q.met.set x.toNat true,mays:=q.mays.set x.toNat a }:=by unfold landM;rw [hk];rfl
                rw [hl] at ol hlb hfo
                simp only [go_sem,↓reduceIte,nE,nA,nM,nB,oN,iT,nS,nL,nD,iE,iL,reduceCtorEq,a1,a2,a3,a4,T1,T2,T3,T4,Nat.le_refl,hxl,my_set,setBb,j0,j2,j4,j31,j32,h33,m0,m1,m2,m3,m4,hi',ga,hw,g0,g2,g4,g31,g32,g65,g33,h66,m0,m1,m2,m3,m4,m6,h6,mN,hN,m7,h7,y1,y2,y3,y4,hn',gn,hwn,x0,x1,gk,gy]
                exact ⟨(n+1,_),by dsimp only;omega,by dsimp only;omega,by simp only [go_sem,↓reduceIte,nE,nA,nM,nB,oN,iT,nS,nL,nD,iE,iL,reduceCtorEq,j0,j2,j4,j31,j32,h33,m0,m1,m2,m3,m4,hi',ga,hw,g0,g2,g4,g31,g32,g65,g33,h66,m0,m1,m2,m3,m4,m6,h6,mN,hN,m7,h7,y1,y2,y3,y4,hn',gn,hwn,x0,x1,gk,gy],hfo,ol,hlb.trans hqb,by simp only [go_sem,↓reduceIte,nE,nA,nM,nB,oN,iT,nS,nL,nD,iE,iL,reduceCtorEq,j0,j2,j4,j31,j32,h33,m0,m1,m2,m3,m4,hi',ga,hw,g0,g2,g4,g31,g32,g65,g33,h66,m0,m1,m2,m3,m4,m6,h6,mN,hN,m7,h7,y1,y2,y3,y4,hn',gn,hwn,x0,x1,gk,gy],by simp only [go_sem,↓reduceIte,nE,nA,nM,nB,oN,iT,nS,nL,nD,iE,iL,reduceCtorEq,j0,j2,j4,j31,j32,h33,m0,m1,m2,m3,m4,hi',ga,hw,g0,g2,g4,g31,g32,g65,g33,h66,m0,m1,m2,m3,m4,m6,h6,mN,hN,m7,h7,y1,y2,y3,y4,hn',gn,hwn,x0,x1,gk,gy],by simp only [go_sem,↓reduceIte,nE,nA,nM,nB,oN,iT,nS,nL,nD,iE,iL,reduceCtorEq,j0,j2,j4,j31,j32,h33,m0,m1,m2,m3,m4,hi',ga,hw,g0,g2,g4,g31,g32,g65,g33,h66,m0,m1,m2,m3,m4,m6,h6,mN,hN,m7,h7,y1,y2,y3,y4,hn',gn,hwn,x0,x1,gk,gy],by simp only [go_sem,↓reduceIte,nE,nA,nM,nB,oN,iT,nS,nL,nD,iE,iL,reduceCtorEq,j0,j2,j4,j31,j32,h33,m0,m1,m2,m3,m4,hi',ga,hw,g0,g2,g4,g31,g32,g65,g33,h66,m0,m1,m2,m3,m4,m6,h6,mN,hN,m7,h7,y1,y2,y3,y4,hn',gn,hwn,x0,x1,gk,gy],by simp only [go_sem,↓reduceIte,nE,nA,nM,nB,oN,iT,nS,nL,nD,iE,iL,reduceCtorEq,j0,j2,j4,j31,j32,h33,m0,m1,m2,m3,m4,hi',ga,hw,g0,g2,g4,g31,g32,g65,g33,h66,m0,m1,m2,m3,m4,m6,h6,mN,hN,m7,h7,y1,y2,y3,y4,hn',gn,hwn,x0,x1,gk,gy],⟨_,by simp only [go_sem,↓reduceIte,nE,nA,nM,nB,oN,iT,nS,nL,nD,iE,iL,reduceCtorEq,j0,j2,j4,j31,j32,h33,m0,m1,m2,m3,m4,hi',ga,hw,g0,g2,g4,g31,g32,g65,g33,h66,m0,m1,m2,m3,m4,m6,h6,mN,hN,m7,h7,y1,y2,y3,y4,hn',gn,hwn,x0,x1,gk,gy];try rfl,by simp only [go_sem,↓reduceIte,nE,nA,nM,nB,oN,iT,nS,nL,nD,iE,iL,reduceCtorEq,j0,j2,j4,j31,j32,h33,m0,m1,m2,m3,m4,hi',ga,hw,g0,g2,g4,g31,g32,g65,g33,h66,m0,m1,m2,m3,m4,m6,h6,mN,hN,m7,h7,y1,y2,y3,y4,hn',gn,hwn,x0,x1,gk,gy];try rfl⟩,⟨_,by simp only [go_sem,↓reduceIte,nE,nA,nM,nB,oN,iT,nS,nL,nD,iE,iL,reduceCtorEq,j0,j2,j4,j31,j32,h33,m0,m1,m2,m3,m4,hi',ga,hw,g0,g2,g4,g31,g32,g65,g33,h66,m0,m1,m2,m3,m4,m6,h6,mN,hN,m7,h7,y1,y2,y3,y4,hn',gn,hwn,x0,x1,gk,gy];try rfl,by simp only [go_sem,↓reduceIte,nE,nA,nM,nB,oN,iT,nS,nL,nD,iE,iL,reduceCtorEq,j0,j2,j4,j31,j32,h33,m0,m1,m2,m3,m4,hi',ga,hw,g0,g2,g4,g31,g32,g65,g33,h66,m0,m1,m2,m3,m4,m6,h6,mN,hN,m7,h7,y1,y2,y3,y4,hn',gn,hwn,x0,x1,gk,gy];try rfl⟩,⟨_,_,_,_,_,by simp only [go_sem,↓reduceIte,nE,nA,nM,nB,oN,iT,nS,nL,nD,iE,iL,reduceCtorEq,j0,j2,j4,j31,j32,h33,m0,m1,m2,m3,m4,hi',ga,hw,g0,g2,g4,g31,g32,g65,g33,h66,m0,m1,m2,m3,m4,m6,h6,mN,hN,m7,h7,y1,y2,y3,y4,hn',gn,hwn,x0,x1,gk,gy];try rfl,by simp only [go_sem,↓reduceIte,nE,nA,nM,nB,oN,iT,nS,nL,nD,iE,iL,reduceCtorEq,j0,j2,j4,j31,j32,h33,m0,m1,m2,m3,m4,hi',ga,hw,g0,g2,g4,g31,g32,g65,g33,h66,m0,m1,m2,m3,m4,m6,h6,mN,hN,m7,h7,y1,y2,y3,y4,hn',gn,hwn,x0,x1,gk,gy];try rfl,by simp only [go_sem,↓reduceIte,nE,nA,nM,nB,oN,iT,nS,nL,nD,iE,iL,reduceCtorEq,j0,j2,j4,j31,j32,h33,m0,m1,m2,m3,m4,hi',ga,hw,g0,g2,g4,g31,g32,g65,g33,h66,m0,m1,m2,m3,m4,m6,h6,mN,hN,m7,h7,y1,y2,y3,y4,hn',gn,hwn,x0,x1,gk,gy];try rfl,by simp only [go_sem,↓reduceIte,nE,nA,nM,nB,oN,iT,nS,nL,nD,iE,iL,reduceCtorEq,j0,j2,j4,j31,j32,h33,m0,m1,m2,m3,m4,hi',ga,hw,g0,g2,g4,g31,g32,g65,g33,h66,m0,m1,m2,m3,m4,m6,h6,mN,hN,m7,h7,y1,y2,y3,y4,hn',gn,hwn,x0,x1,gk,gy];try rfl,by simp only [go_sem,↓reduceIte,nE,nA,nM,nB,oN,iT,nS,nL,nD,iE,iL,reduceCtorEq,j0,j2,j4,j31,j32,h33,m0,m1,m2,m3,m4,hi',ga,hw,g0,g2,g4,g31,g32,g65,g33,h66,m0,m1,m2,m3,m4,m6,h6,mN,hN,m7,h7,y1,y2,y3,y4,hn',gn,hwn,x0,x1,gk,gy];try rfl,by simp only [go_sem,↓reduceIte,nE,nA,nM,nB,oN,iT,nS,nL,nD,iE,iL,reduceCtorEq,j0,j2,j4,j31,j32,h33,m0,m1,m2,m3,m4,hi',ga,hw,g0,g2,g4,g31,g32,g65,g33,h66,m0,m1,m2,m3,m4,m6,h6,mN,hN,m7,h7,y1,y2,y3,y4,hn',gn,hwn,x0,x1,gk,gy];try rfl⟩⟩
          · have hi':¬ (n:Int) < N.length:=by omega
            obtain rfl:n=N.length:=by omega
            rw [List.drop_length] at hfo
            have hfo:q=R:=hfo
            simp only [go_sem,↓reduceIte,nE,nA,nM,nB,oN,iT,nS,nL,nD,iE,iL,reduceCtorEq,Int.lt_irrefl,hw,j0,j2,j4,j31,j32,h33,m0,m1,m2,m3,m4,hi',ga,hw,g0,g2,g4,g31,g32,g65,g33,h66,m0,m1,m2,m3,m4,m6,h6,mN,hN,m7,h7,y1,y2,y3,y4]
            subst hfo
            exact ⟨i+1,by dsimp only;omega,by omega,by simp only [go_sem,↓reduceIte,nE,nA,nM,nB,oN,iT,nS,nL,nD,iE,iL,reduceCtorEq,j0,j2,j4,j31,j32,h33,m0,m1,m2,m3,m4,hi',ga,hw,g0,g2,g4,g31,g32,g65,g33,h66,m0,m1,m2,m3,m4,m6,h6,mN,hN,m7,h7,y1,y2,y3,y4],by simp only [go_sem,↓reduceIte,nE,nA,nM,nB,oN,iT,nS,nL,nD,iE,iL,reduceCtorEq,j0,j2,j4,j31,j32,h33,m0,m1,m2,m3,m4,hi',ga,hw,g0,g2,g4,g31,g32,g65,g33,h66,m0,m1,m2,m3,m4,m6,h6,mN,hN,m7,h7,y1,y2,y3,y4],by simp only [go_sem,↓reduceIte,nE,nA,nM,nB,oN,iT,nS,nL,nD,iE,iL,reduceCtorEq,hst,j0,j2,j4,j31,j32,h33,m0,m1,m2,m3,m4,hi',ga,hw,g0,g2,g4,g31,g32,g65,g33,h66,m0,m1,m2,m3,m4,m6,h6,mN,hN,m7,h7,y1,y2,y3,y4],by simp only [go_sem,↓reduceIte,nE,nA,nM,nB,oN,iT,nS,nL,nD,iE,iL,reduceCtorEq,hst,j0,j2,j4,j31,j32,h33,m0,m1,m2,m3,m4,hi',ga,hw,g0,g2,g4,g31,g32,g65,g33,h66,m0,m1,m2,m3,m4,m6,h6,mN,hN,m7,h7,y1,y2,y3,y4],_,_,by simp only [go_sem,↓reduceIte,nE,nA,nM,nB,oN,iT,nS,nL,nD,iE,iL,reduceCtorEq,j0,j2,j4,j31,j32,h33,m0,m1,m2,m3,m4,hi',ga,hw,g0,g2,g4,g31,g32,g65,g33,h66,m0,m1,m2,m3,m4,m6,h6,mN,hN,m7,h7,y1,y2,y3,y4];try rfl,rfl,by simp only [go_sem,↓reduceIte,nE,nA,nM,nB,oN,iT,nS,nL,nD,iE,iL,reduceCtorEq,j0,j2,j4,j31,j32,h33,m0,m1,m2,m3,m4,hi',ga,hw,g0,g2,g4,g31,g32,g65,g33,h66,m0,m1,m2,m3,m4,m6,h6,mN,hN,m7,h7,y1,y2,y3,y4];rw [hst,hqb];exact hbx⟩
    · have hi':¬ (i:Int) < p.length:=by omega
      obtain rfl:i=p.length:=by omega
      have tb:∀ (b:List Bool),b.length=p.length→(b.map Bb).take p.length=b.map Bb:=fun b h=>List.take_of_length_le (by simp [h])
      have ty:∀ (b:List MayD),b.length=p.length→(b.map MayD.d).take p.length=b.map MayD.d:=fun b h=>List.take_of_length_le (by simp [h])
      have k1:=ok.lm
      have k2:=ok.ly
      generalize anaN p p.length=r at m1 m2 hbx hbl k1 k2 ⊢
      have t1:=tb _ k1
      have t2:=ty _ k2
      rcases hbx with ⟨b1,b2⟩|⟨v,b1,b2⟩
      · subst b2
        simp only [go_sem,↓reduceIte,nE,nA,nM,nB,oN,iT,nS,nL,nD,iE,iL,reduceCtorEq,Int.lt_irrefl,k1,k2,t1,t2,Nat.le_refl,j0,j2,j4,j31,j32,h33,m0,m1,m2,m3,m4]
        obtain ⟨rm,ry,rb⟩:=r
        dsimp only at b1
        subst b1
        rfl
      · subst b1
        rw [b2] at m4
        have tk:(r.bad.map Ii).take r.bad.length=r.bad.map Ii:=List.take_of_length_le (by simp)
        simp only [go_sem,↓reduceIte,nE,nA,nM,nB,oN,iT,nS,nL,nD,iE,iL,reduceCtorEq,Int.lt_irrefl,k1,k2,t1,t2,m4,tk,Nat.le_refl,j0,j2,j4,j31,j32,h33,m0,m1,m2,m3,m4]
end Go.Vm.YtmbhjcgikblpiaaGreat
namespace Go.Vm.YtmbhjcgikblpiaaGreat
open Go Go.Vm
set_option maxRecDepth 10000
set_option maxHeartbeats 32000000
set_option linter.unusedSimpArgs false
set_option linter.unusedVariables false
theorem spec_l13Analyse.fc (p:List StepD) (op:ProgOk p):FCt prog F_spec_l13Analyse [.ro] [steps p] (anaN p p.length).d []:=by
  refine fct_run spec_l13Analyse.ok rfl ?_
  have l1:=op.len.1
  have l2:=op.len.2
  have q1:(p.length:Int) * (1:Nat)≤70368744177664:=by omega
  have q2:(p.length:Int) * (96:Nat)≤70368744177664:=by omega
  have q3:(0:Int) < p.length:=by omega
  have q4:0 < p.length:=by omega
  have st:=startM_ok.len
  have s1:=st.reg
  have s2:=st.bits
  have s3:=st.cell
  have s4:=st.isset
  have z0:(D.agg [D.sl 2 [],D.sl 2 [],D.sl 2 [],D.sl 1 []])=zeroM.d:=rfl
  have e1:((List.replicate p.length (D.bool false)).set 0 (.bool true))=((List.replicate p.length false).set 0 true).map Bb:=by simp
  have e2:((List.replicate p.length zeroM.d).set 0 startM.d)=((List.replicate p.length zeroM).set 0 startM).map MayD.d:=by simp
  have g0:∀ d:D,(List.replicate p.length d)[0]? = some d:=fun d=>by rw [List.getElem?_replicate,if_pos q4]
  simp only [go_sem,↓reduceIte,nE,nA,nM,nB,oN,iT,nS,nL,nD,iE,iL,reduceCtorEq,q1,q2,q3,g0,Int.le_refl]
  refine fcW_bd spec_StartMay.fc noRs_May ?_
  simp only [go_sem,↓reduceIte,nE,nA,nM,nB,oN,iT,nS,nL,nD,iE,iL,reduceCtorEq,q3,s1,s2,s3,s4,tk_S,tk_K,tk_B,g0,take_map_len]
  refine R_loop (α:=Nat) (fun i s' M'=>i≤p.length∧s' 28=aI i∧M'.m 64=some (.box 0 (.agg [.nil 1,.nil 4,.nil 1]))∧M'.m 256=some (.arr 192 true 1 ((anaN p i).met.map Bb))∧M'.m 448=some (.arr 384 true 4 ((anaN p i).mays.map MayD.d)) ∧
      (∃ bx o,M'.m 576=some (.box 512 (.agg [.sl 256 192 0 p.length 1,.sl 448 384 0 p.length 4,bx]))∧M'.m 3584=o∧BadX 3584 bx o (anaN p i).bad)) (fun i=>p.length - i) 0
    ⟨by omega,by simp only [go_sem,↓reduceIte,nE,nA,nM,nB,oN,iT,nS,nL,nD,iE,iL,reduceCtorEq];rfl,by simp only [go_sem,↓reduceIte,nE,nA,nM,nB,oN,iT,nS,nL,nD,iE,iL,reduceCtorEq],by simp only [go_sem,↓reduceIte,nE,nA,nM,nB,oN,iT,nS,nL,nD,iE,iL,reduceCtorEq,e1];try rfl,by simp only [go_sem,↓reduceIte,nE,nA,nM,nB,oN,iT,nS,nL,nD,iE,iL,reduceCtorEq];rw [z0];exact congrArg (fun z=>some (Obj.arr 384 true 4 z)) e2,_,_,by simp only [go_sem,↓reduceIte,nE,nA,nM,nB,oN,iT,nS,nL,nD,iE,iL,reduceCtorEq];try rfl,rfl,.inl ⟨rfl,rfl⟩⟩ ?_
  rintro i s' M' ⟨hi,h28,m0,m1,m2,bx,o,m3,m4,hbx⟩ ho
  unfold spec_l13Analyse.b1
  have j0:s' 0=.dat none (steps p):=by rw [ho 0 rfl];simp only [go_sem,↓reduceIte,nE,nA,nM,nB,oN,iT,nS,nL,nD,iE,iL,reduceCtorEq]
  have j2:s' 2=.ptr 64 0 0 none:=by rw [ho 2 rfl];simp only [go_sem,↓reduceIte,nE,nA,nM,nB,oN,iT,nS,nL,nD,iE,iL,reduceCtorEq]
  have j3:s' 3=.ptr 576 512 0 none:=by rw [ho 3 rfl];simp only [go_sem,↓reduceIte,nE,nA,nM,nB,oN,iT,nS,nL,nD,iE,iL,reduceCtorEq]
  have j26:s' 26=.dat none (steps p):=by rw [ho 26 rfl];simp only [go_sem,↓reduceIte,nE,nA,nM,nB,oN,iT,nS,nL,nD,iE,iL,reduceCtorEq]
  have j27:s' 27=aI p.length:=by rw [ho 27 rfl];simp only [go_sem,↓reduceIte,nE,nA,nM,nB,oN,iT,nS,nL,nD,iE,iL,reduceCtorEq]
  clear ho
  have ok:=anaN_ok op i
  have hbl:=anaN_bad (p:=p) i
  by_cases hlt:i < p.length
  · have hi':(i:Int) < p.length:=by omega
    have ga:p[i]? = some p[i]:=List.getElem?_eq_getElem hlt
    have hw:IntKind.i64.wrap (i+1)=((i+1:Nat):Int):=wrap_k hlt (by omega)
    have hst:anaN p (i+1)=anaS p i (anaN p i):=rfl
    have hv:=(op.all i hlt).1
    unfold anaS at hst
    rw [ga] at hst
    dsimp only at hst
    generalize p[i]=s at ga hv hst
    generalize anaN p i=r at hst ok hbl m1 m2 hbx
    have gm:r.met[i]? = some (metB r i):=getD_some (by rw [ok.lm];exact hlt)
    have gy:r.mays[i]? = some (getM r i):=getD_some (by rw [ok.ly];exact hlt)
    cases hm:metB r i with
    | false =>
      rw [hm] at hst gm
      simp only [Bool.false_eq_true,if_false] at hst
      simp only [go_sem,↓reduceIte,nE,nA,nM,nB,oN,iT,nS,nL,nD,iE,iL,reduceCtorEq,gm,j0,j2,j3,j26,j27,h28,m0,m1,m2,m3,m4,hi',ga,hw]
      exact ⟨i+1,by dsimp only;omega,by omega,by simp only [go_sem,↓reduceIte,nE,nA,nM,nB,oN,iT,nS,nL,nD,iE,iL,reduceCtorEq,j0,j2,j3,j26,j27,h28,m0,m1,m2,m3,m4,hi',ga,hw],by simp only [go_sem,↓reduceIte,nE,nA,nM,nB,oN,iT,nS,nL,nD,iE,iL,reduceCtorEq,j0,j2,j3,j26,j27,h28,m0,m1,m2,m3,m4,hi',ga,hw],by simp only [go_sem,↓reduceIte,nE,nA,nM,nB,oN,iT,nS,nL,nD,iE,iL,reduceCtorEq,hst,j0,j2,j3,j26,j27,h28,m0,m1,m2,m3,m4,hi',ga,hw],by simp only [go_sem,↓reduceIte,nE,nA,nM,nB,oN,iT,nS,nL,nD,iE,iL,reduceCtorEq,hst,j0,j2,j3,j26,j27,h28,m0,m1,m2,m3,m4,hi',ga,hw],_,_,by simp only [go_sem,↓reduceIte,nE,nA,nM,nB,oN,iT,nS,nL,nD,iE,iL,reduceCtorEq,j0,j2,j3,j26,j27,h28,m0,m1,m2,m3,m4,hi',ga,hw];rfl,rfl,by simp only [go_sem,↓reduceIte,nE,nA,nM,nB,oN,iT,nS,nL,nD,iE,iL,reduceCtorEq,j0,j2,j3,j26,j27,h28,m0,m1,m2,m3,m4,hi',ga,hw];rw [hst];exact hbx⟩
    | true =>
      rw [hm] at hst gm
      simp only [if_true] at hst
      have om:=ok.ok i hm
      have cs:=spec_l13Step.fc s (getM r i) om hv
      have oa:=mayV_ok om hv
      generalize getM r i=m at gy om cs oa hst
      simp only [go_sem,↓reduceIte,nE,nA,nM,nB,oN,iT,nS,nL,nD,iE,iL,reduceCtorEq,gm,gy,j0,j2,j3,j26,j27,h28,m0,m1,m2,m3,m4,hi',ga,hw]
      refine fcW_bd (spec_l13Own.fc m om.len) noRs_May ?_
      have M1:=tk_S om.reg
      have M2:=tk_K om.bits
      have M3:=tk_S om.cell
      have M4:=tk_B om.isset
      have M5:=om.reg
      have M6:=om.bits
      have M7:=om.cell
      have M8:=om.isset
      have hfz:=mayV_fault (s:=s) (m:=m)
      generalize mayV s m=A at cs oa hst hfz
      obtain ⟨a,f⟩:=A
      dsimp only at cs oa hst hfz
      simp only [go_sem,↓reduceIte,nE,nA,nM,nB,oN,iT,nS,nL,nD,iE,iL,reduceCtorEq,M1,M2,M3,M4,M5,M6,M7,M8,Nat.le_refl,j0,j2,j3,j26,j27,h28,m0,m1,m2,m3,m4,hi',ga,hw]
      refine coW_of cs noRs_mayI rfl ?_
      cases hf:(f == 0) with
      | false =>
        have hf2:f > 0:=by rcases hfz with q|q;rw [q] at hf;cases hf;exact q
        rw [hf] at hst
        simp only [Bool.false_eq_true,if_false] at hst
        have hbb:(r.bad.length+1) * 8≤70368744177664:=by omega
        have sn:r.bad.map Ii++[Ii i]=(r.bad++[(i:Int)]).map Ii:=by simp
        have el:(r.bad++[(i:Int)]).length=r.bad.length+1:=by simp
        have el2:([(i:Int)]:List Int).length=1:=rfl
        have tk:(r.bad.map Ii).take r.bad.length=r.bad.map Ii:=List.take_of_length_le (by simp)
        rcases hbx with ⟨b1,b2⟩|⟨v,b1,b2⟩
        · subst b2
          simp only [go_sem,↓reduceIte,nE,nA,nM,nB,oN,iT,nS,nL,nD,iE,iL,reduceCtorEq,hf2,j0,j2,j3,j26,j27,h28,m0,m1,m2,m3,m4,hi',ga,hw]
          exact ⟨i+1,by dsimp only;omega,by omega,by simp only [go_sem,↓reduceIte,nE,nA,nM,nB,oN,iT,nS,nL,nD,iE,iL,reduceCtorEq,j0,j2,j3,j26,j27,h28,m0,m1,m2,m3,m4,hi',ga,hw],by simp only [go_sem,↓reduceIte,nE,nA,nM,nB,oN,iT,nS,nL,nD,iE,iL,reduceCtorEq,j0,j2,j3,j26,j27,h28,m0,m1,m2,m3,m4,hi',ga,hw],by simp only [go_sem,↓reduceIte,nE,nA,nM,nB,oN,iT,nS,nL,nD,iE,iL,reduceCtorEq,hst,j0,j2,j3,j26,j27,h28,m0,m1,m2,m3,m4,hi',ga,hw],by simp only [go_sem,↓reduceIte,nE,nA,nM,nB,oN,iT,nS,nL,nD,iE,iL,reduceCtorEq,hst,j0,j2,j3,j26,j27,h28,m0,m1,m2,m3,m4,hi',ga,hw],_,_,by simp only [go_sem,↓reduceIte,nE,nA,nM,nB,oN,iT,nS,nL,nD,iE,iL,reduceCtorEq,j0,j2,j3,j26,j27,h28,m0,m1,m2,m3,m4,hi',ga,hw];try rfl,rfl,.inr ⟨_,by rw [hst];dsimp only;rw [b1];rfl,by simp only [go_sem,↓reduceIte,nE,nA,nM,nB,oN,iT,nS,nL,nD,iE,iL,reduceCtorEq,hst,b1,j0,j2,j3,j26,j27,h28,m0,m1,m2,m3,m4,hi',ga,hw];try rfl⟩⟩
        · subst b1
          rw [b2] at m4
          simp only [go_sem,↓reduceIte,nE,nA,nM,nB,oN,iT,nS,nL,nD,iE,iL,reduceCtorEq,hf2,m4,hbb,sn,tk,j0,j2,j3,j26,j27,h28,m0,m1,m2,m3,m4,hi',ga,hw]
          exact ⟨i+1,by dsimp only;omega,by omega,by simp only [go_sem,↓reduceIte,nE,nA,nM,nB,oN,iT,nS,nL,nD,iE,iL,reduceCtorEq,j0,j2,j3,j26,j27,h28,m0,m1,m2,m3,m4,hi',ga,hw],by simp only [go_sem,↓reduceIte,nE,nA,nM,nB,oN,iT,nS,nL,nD,iE,iL,reduceCtorEq,j0,j2,j3,j26,j27,h28,m0,m1,m2,m3,m4,hi',ga,hw],by simp only [go_sem,↓reduceIte,nE,nA,nM,nB,oN,iT,nS,nL,nD,iE,iL,reduceCtorEq,hst,j0,j2,j3,j26,j27,h28,m0,m1,m2,m3,m4,hi',ga,hw],by simp only [go_sem,↓reduceIte,nE,nA,nM,nB,oN,iT,nS,nL,nD,iE,iL,reduceCtorEq,hst,j0,j2,j3,j26,j27,h28,m0,m1,m2,m3,m4,hi',ga,hw],_,_,by simp only [go_sem,↓reduceIte,nE,nA,nM,nB,oN,iT,nS,nL,nD,iE,iL,reduceCtorEq,j0,j2,j3,j26,j27,h28,m0,m1,m2,m3,m4,hi',ga,hw];try rfl,rfl,.inr ⟨_,by rw [hst];dsimp only;rw [el];try rfl,by simp only [go_sem,↓reduceIte,nE,nA,nM,nB,oN,iT,nS,nL,nD,iE,iL,reduceCtorEq,hst,j0,j2,j3,j26,j27,h28,m0,m1,m2,m3,m4,hi',ga,hw];try rfl⟩⟩
      | true =>
        have hf2:¬ f > 0:=by have:f=0:=(by simpa using hf);omega
        rw [hf] at hst
        simp only [if_true] at hst
        simp only [go_sem,↓reduceIte,nE,nA,nM,nB,oN,iT,nS,nL,nD,iE,iL,reduceCtorEq,hf2,j0,j2,j3,j26,j27,h28,m0,m1,m2,m3,m4,hi',ga,hw]
        have cn:=spec_l2Nexts.fc p i s (by omega) hi' op.len.2 (by rw [Int.toNat_natCast];exact ga) hv
        have hnx:∀ x∈nextsL s i,0≤x∧x < p.length:=fun x hx=>next_in (b:=x) op (by omega) (by rw [Int.toNat_natCast];exact ga) (List.any_eq_true.2 ⟨x,hx,by simp⟩)
        have hbr:brB s=true→s.kind=9∨s.kind=10:=fun h=>by simpa [brB] using h
        have co:=spec_l13Own.fc a oa.len
        have hlen:(nextsL s i).length≤2:=by
          unfold nextsL
          repeat' split
          all_goals simp
        generalize nextsL s i=N at cn hnx hst hlen
        refine fcW_bd cn noRs_ints ?_
        obtain ⟨a1,a2,a3,a4,_,_,_⟩:=oa.len.reg,oa.len.bits,oa.len.cell,oa.len.isset,trivial,trivial,trivial
        simp only [go_sem,↓reduceIte,nE,nA,nM,nB,oN,iT,nS,nL,nD,iE,iL,reduceCtorEq,j0,j2,j3,j26,j27,h28,m0,m1,m2,m3,m4,hi',ga,hw]
        generalize hR:foldN s a 0 N r=R at hst
        refine R_loop (α:=Nat×RepD) (fun b s' M'=>b.1≤N.length∧s' 62=aI b.1∧foldN s a b.1 (N.drop b.1) b.2=R∧RepOk p b.2∧b.2.bad=r.bad∧M'.m 64=some (.box 0 (.agg [.nil 1,.nil 4,.nil 1]))∧M'.m 256=some (.arr 192 true 1 (b.2.met.map Bb))∧M'.m 448=some (.arr 384 true 4 (b.2.mays.map MayD.d)) ∧
            M'.m 576=some (.box 512 (.agg [.sl 256 192 0 p.length 1,.sl 448 384 0 p.length 4,bx]))∧M'.m 3584=o ∧
            (∃ v,M'.m 1728=some (.box v (.dat none s.d))∧s' 5=.ptr 1728 v 0 none)∧(∃ v,M'.m 3904=some (.arr v true 1 (N.map Ii))∧s' 60=.sl 3904 v 0 N.length 1) ∧
            (∃ v v1 v2 v3 v4,M'.m 3008=some (.box v (.agg [.sl 2752 v1 0 6 2,.sl 2753 v2 0 6 2,.sl 2754 v3 0 16 2,.sl 2755 v4 0 16 1]))∧s' 6=.ptr 3008 v 0 none∧M'.m 2752=some (.arr v1 true 2 (a.reg.map strD))∧M'.m 2753=some (.arr v2 true 2 (a.bits.map knownD))∧M'.m 2754=some (.arr v3 true 2 (a.cell.map strD))∧M'.m 2755=some (.arr v4 true 1 (a.isset.map Bb))))
          (fun b=>N.length - b.1) (0,r)
          ⟨Nat.zero_le _,by simp only [go_sem,↓reduceIte,nE,nA,nM,nB,oN,iT,nS,nL,nD,iE,iL,reduceCtorEq,j0,j2,j3,j26,j27,h28,m0,m1,m2,m3,m4,hi',ga,hw];rfl,hR,ok,rfl,by simp only [go_sem,↓reduceIte,nE,nA,nM,nB,oN,iT,nS,nL,nD,iE,iL,reduceCtorEq,j0,j2,j3,j26,j27,h28,m0,m1,m2,m3,m4,hi',ga,hw],by simp only [go_sem,↓reduceIte,nE,nA,nM,nB,oN,iT,nS,nL,nD,iE,iL,reduceCtorEq,j0,j2,j3,j26,j27,h28,m0,m1,m2,m3,m4,hi',ga,hw],by simp only [go_sem,↓reduceIte,nE,nA,nM,nB,oN,iT,nS,nL,nD,iE,iL,reduceCtorEq,j0,j2,j3,j26,j27,h28,m0,m1,m2,m3,m4,hi',ga,hw],by simp only [go_sem,↓reduceIte,nE,nA,nM,nB,oN,iT,nS,nL,nD,iE,iL,reduceCtorEq,j0,j2,j3,j26,j27,h28,m0,m1,m2,m3,m4,hi',ga,hw],by simp only [go_sem,↓reduceIte,nE,nA,nM,nB,oN,iT,nS,nL,nD,iE,iL,reduceCtorEq,j0,j2,j3,j26,j27,h28,m0,m1,m2,m3,m4,hi',ga,hw];try simp,⟨_,by simp only [go_sem,↓reduceIte,nE,nA,nM,nB,oN,iT,nS,nL,nD,iE,iL,reduceCtorEq,j0,j2,j3,j26,j27,h28,m0,m1,m2,m3,m4,hi',ga,hw];try rfl,by simp only [go_sem,↓reduceIte,nE,nA,nM,nB,oN,iT,nS,nL,nD,iE,iL,reduceCtorEq,j0,j2,j3,j26,j27,h28,m0,m1,m2,m3,m4,hi',ga,hw];try rfl⟩,⟨_,by simp only [go_sem,↓reduceIte,nE,nA,nM,nB,oN,iT,nS,nL,nD,iE,iL,reduceCtorEq,j0,j2,j3,j26,j27,h28,m0,m1,m2,m3,m4,hi',ga,hw];try rfl,by simp only [go_sem,↓reduceIte,nE,nA,nM,nB,oN,iT,nS,nL,nD,iE,iL,reduceCtorEq,j0,j2,j3,j26,j27,h28,m0,m1,m2,m3,m4,hi',ga,hw];try rfl⟩,⟨_,_,_,_,_,by simp only [go_sem,↓reduceIte,nE,nA,nM,nB,oN,iT,nS,nL,nD,iE,iL,reduceCtorEq,a1,a2,a3,a4,j0,j2,j3,j26,j27,h28,m0,m1,m2,m3,m4,hi',ga,hw];try rfl,by simp only [go_sem,↓reduceIte,nE,nA,nM,nB,oN,iT,nS,nL,nD,iE,iL,reduceCtorEq,j0,j2,j3,j26,j27,h28,m0,m1,m2,m3,m4,hi',ga,hw];try rfl,by simp only [go_sem,↓reduceIte,nE,nA,nM,nB,oN,iT,nS,nL,nD,iE,iL,reduceCtorEq,j0,j2,j3,j26,j27,h28,m0,m1,m2,m3,m4,hi',ga,hw];try rfl,by simp only [go_sem,↓reduceIte,nE,nA,nM,nB,oN,iT,nS,nL,nD,iE,iL,reduceCtorEq,j0,j2,j3,j26,j27,h28,m0,m1,m2,m3,m4,hi',ga,hw];try rfl,by simp only [go_sem,↓reduceIte,nE,nA,nM,nB,oN,iT,nS,nL,nD,iE,iL,reduceCtorEq,j0,j2,j3,j26,j27,h28,m0,m1,m2,m3,m4,hi',ga,hw];try rfl,by simp only [go_sem,↓reduceIte,nE,nA,nM,nB,oN,iT,nS,nL,nD,iE,iL,reduceCtorEq,j0,j2,j3,j26,j27,h28,m0,m1,m2,m3,m4,hi',ga,hw];try rfl⟩⟩ ?_
        rintro ⟨n,q⟩ s2 M2 ⟨hn,h62,hfo,oq,hqb,m0,m1,m2,m3,m4,⟨v6,m6,h6⟩,⟨vN,mN,hN⟩,⟨v7,w1,w2,w3,w4,m7,h7,y1,y2,y3,y4⟩⟩ ho
        dsimp only at hn h62 hfo oq hqb m1 m2
        unfold spec_l13Analyse.b0
        have g0:s2 0=.dat none (steps p):=by rw [ho 0 rfl];simp only [go_sem,↓reduceIte,nE,nA,nM,nB,oN,iT,nS,nL,nD,iE,iL,reduceCtorEq,j0,j2,j3,j26,j27,h28,m0,m1,m2,m3,m4,hi',ga,hw]
        have g2:s2 2=.ptr 64 0 0 none:=by rw [ho 2 rfl];simp only [go_sem,↓reduceIte,nE,nA,nM,nB,oN,iT,nS,nL,nD,iE,iL,reduceCtorEq,j0,j2,j3,j26,j27,h28,m0,m1,m2,m3,m4,hi',ga,hw]
        have g3:s2 3=.ptr 576 512 0 none:=by rw [ho 3 rfl];simp only [go_sem,↓reduceIte,nE,nA,nM,nB,oN,iT,nS,nL,nD,iE,iL,reduceCtorEq,j0,j2,j3,j26,j27,h28,m0,m1,m2,m3,m4,hi',ga,hw]
        have g26:s2 26=.dat none (steps p):=by rw [ho 26 rfl];simp only [go_sem,↓reduceIte,nE,nA,nM,nB,oN,iT,nS,nL,nD,iE,iL,reduceCtorEq,j0,j2,j3,j26,j27,h28,m0,m1,m2,m3,m4,hi',ga,hw]
        have g27:s2 27=aI p.length:=by rw [ho 27 rfl];simp only [go_sem,↓reduceIte,nE,nA,nM,nB,oN,iT,nS,nL,nD,iE,iL,reduceCtorEq,j0,j2,j3,j26,j27,h28,m0,m1,m2,m3,m4,hi',ga,hw]
        have g61:s2 61=aI N.length:=by rw [ho 61 rfl];simp only [go_sem,↓reduceIte,nE,nA,nM,nB,oN,iT,nS,nL,nD,iE,iL,reduceCtorEq,j0,j2,j3,j26,j27,h28,m0,m1,m2,m3,m4,hi',ga,hw]
        have g28:s2 28=aI i:=by rw [ho 28 rfl];simp only [go_sem,↓reduceIte,nE,nA,nM,nB,oN,iT,nS,nL,nD,iE,iL,reduceCtorEq,j0,j2,j3,j26,j27,h28,m0,m1,m2,m3,m4,hi',ga,hw]
        clear ho
        by_cases hltn:n < N.length
        · have hn':(n:Int) < N.length:=by omega
          have gn:N[n]? = some N[n]:=List.getElem?_eq_getElem hltn
          have hwn:IntKind.i64.wrap (n+1)=((n+1:Nat):Int):=wrap_k hltn (by omega)
          have hd:N.drop n=N[n]::N.drop (n+1):=List.drop_eq_getElem_cons hltn
          have hx:=hnx N[n] (List.getElem_mem hltn)
          rw [hd,foldN_cons] at hfo
          generalize N[n]=x at gn hx hfo
          have T1:=tk_S a1
          have T2:=tk_K a2
          have T3:=tk_S a3
          have T4:=tk_B a4
          have x0:=hx.1
          have x1:=hx.2
          have gk:q.met[x.toNat]? = some (metB q x.toNat):=getD_some (by rw [oq.lm];omega)
          have gy:q.mays[x.toNat]? = some (getM q x.toNat):=getD_some (by rw [oq.ly];omega)
          have hxl:x.toNat < p.length:=by omega
          simp only [go_sem,↓reduceIte,nE,nA,nM,nB,oN,iT,nS,nL,nD,iE,iL,reduceCtorEq,a1,a2,a3,a4,T1,T2,T3,T4,Nat.le_refl,j0,j2,j3,j26,j27,h28,m0,m1,m2,m3,m4,hi',ga,hw,g0,g2,g3,g26,g27,g61,g28,h62,m0,m1,m2,m3,m4,m6,h6,mN,hN,m7,h7,y1,y2,y3,y4,hn',gn,hwn,x0,x1,gk,gy]
          refine fcW_bd co noRs_May ?_
          cases hbb:brB s with
          | true =>
            have ch:=spec_l13Heed.fc s a ((n:Int) == 1) oa hv (hbr hbb)
            have oh:=heedV_ok (t:=((n:Int) == 1)) oa hv
            have hfs:flowS s a n x q=if (heedV s a ((n:Int) == 1)).2 then landM q x.toNat (heedV s a ((n:Int) == 1)).1 else q:=by unfold flowS;rw [hbb];rfl
            rw [hfs] at hfo
            generalize heedV s a ((n:Int) == 1)=H at ch oh hfo
            obtain ⟨h,t⟩:=H
            dsimp only at ch oh hfo
            rcases hbr hbb with k9|k9 <;>
            · simp only [go_sem,↓reduceIte,nE,nA,nM,nB,oN,iT,nS,nL,nD,iE,iL,reduceCtorEq,a1,a2,a3,a4,T1,T2,T3,T4,Nat.le_refl,k9,Int.reduceBEq,j0,j2,j3,j26,j27,h28,m0,m1,m2,m3,m4,hi',ga,hw,g0,g2,g3,g26,g27,g61,g28,h62,m0,m1,m2,m3,m4,m6,h6,mN,hN,m7,h7,y1,y2,y3,y4,hn',gn,hwn,x0,x1,gk,gy]
              refine coW_of ch noRs_mayB rfl ?_
              cases t with
              | false =>
                simp only [Bool.false_eq_true,if_false] at hfo
                simp only [go_sem,↓reduceIte,nE,nA,nM,nB,oN,iT,nS,nL,nD,iE,iL,reduceCtorEq,j0,j2,j3,j26,j27,h28,m0,m1,m2,m3,m4,hi',ga,hw,g0,g2,g3,g26,g27,g61,g28,h62,m0,m1,m2,m3,m4,m6,h6,mN,hN,m7,h7,y1,y2,y3,y4,hn',gn,hwn,x0,x1,gk,gy]
                exact ⟨(n+1,q),by dsimp only;omega,by dsimp only;omega,by simp only [go_sem,↓reduceIte,nE,nA,nM,nB,oN,iT,nS,nL,nD,iE,iL,reduceCtorEq,j0,j2,j3,j26,j27,h28,m0,m1,m2,m3,m4,hi',ga,hw,g0,g2,g3,g26,g27,g61,g28,h62,m0,m1,m2,m3,m4,m6,h6,mN,hN,m7,h7,y1,y2,y3,y4,hn',gn,hwn,x0,x1,gk,gy],hfo,oq,hqb,by simp only [go_sem,↓reduceIte,nE,nA,nM,nB,oN,iT,nS,nL,nD,iE,iL,reduceCtorEq,j0,j2,j3,j26,j27,h28,m0,m1,m2,m3,m4,hi',ga,hw,g0,g2,g3,g26,g27,g61,g28,h62,m0,m1,m2,m3,m4,m6,h6,mN,hN,m7,h7,y1,y2,y3,y4,hn',gn,hwn,x0,x1,gk,gy],by simp only [go_sem,↓reduceIte,nE,nA,nM,nB,oN,iT,nS,nL,nD,iE,iL,reduceCtorEq,j0,j2,j3,j26,j27,h28,m0,m1,m2,m3,m4,hi',ga,hw,g0,g2,g3,g26,g27,g61,g28,h62,m0,m1,m2,m3,m4,m6,h6,mN,hN,m7,h7,y1,y2,y3,y4,hn',gn,hwn,x0,x1,gk,gy],by simp only [go_sem,↓reduceIte,nE,nA,nM,nB,oN,iT,nS,nL,nD,iE,iL,reduceCtorEq,j0,j2,j3,j26,j27,h28,m0,m1,m2,m3,m4,hi',ga,hw,g0,g2,g3,g26,g27,g61,g28,h62,m0,m1,m2,m3,m4,m6,h6,mN,hN,m7,h7,y1,y2,y3,y4,hn',gn,hwn,x0,x1,gk,gy],by simp only [go_sem,↓reduceIte,nE,nA,nM,nB,oN,iT,nS,nL,nD,iE,iL,reduceCtorEq,j0,j2,j3,j26,j27,h28,m0,m1,m2,m3,m4,hi',ga,hw,g0,g2,g3,g26,g27,g61,g28,h62,m0,m1,m2,m3,m4,m6,h6,mN,hN,m7,h7,y1,y2,y3,y4,hn',gn,hwn,x0,x1,gk,gy],by simp only [go_sem,↓reduceIte,nE,nA,nM,nB,oN,iT,nS,nL,nD,iE,iL,reduceCtorEq,j0,j2,j3,j26,j27,h28,m0,m1,m2,m3,m4,hi',ga,hw,g0,g2,g3,g26,g27,g61,g28,h62,m0,m1,m2,m3,m4,m6,h6,mN,hN,m7,h7,y1,y2,y3,y4,hn',gn,hwn,x0,x1,gk,gy],⟨_,by simp only [go_sem,↓reduceIte,nE,nA,nM,nB,oN,iT,nS,nL,nD,iE,iL,reduceCtorEq,j0,j2,j3,j26,j27,h28,m0,m1,m2,m3,m4,hi',ga,hw,g0,g2,g3,g26,g27,g61,g28,h62,m0,m1,m2,m3,m4,m6,h6,mN,hN,m7,h7,y1,y2,y3,y4,hn',gn,hwn,x0,x1,gk,gy];try rfl,by simp only [go_sem,↓reduceIte,nE,nA,nM,nB,oN,iT,nS,nL,nD,iE,iL,reduceCtorEq,j0,j2,j3,j26,j27,h28,m0,m1,m2,m3,m4,hi',ga,hw,g0,g2,g3,g26,g27,g61,g28,h62,m0,m1,m2,m3,m4,m6,h6,mN,hN,m7,h7,y1,y2,y3,y4,hn',gn,hwn,x0,x1,gk,gy];try rfl⟩,⟨_,by simp only [go_sem,↓reduceIte,nE,nA,nM,nB,oN,iT,nS,nL,nD,iE,iL,reduceCtorEq,j0,j2,j3,j26,j27,h28,m0,m1,m2,m3,m4,hi',ga,hw,g0,g2,g3,g26,g27,g61,g28,h62,m0,m1,m2,m3,m4,m6,h6,mN,hN,m7,h7,y1,y2,y3,y4,hn',gn,hwn,x0,x1,gk,gy];try rfl,by simp only [go_sem,↓reduceIte,nE,nA,nM,nB,oN,iT,nS,nL,nD,iE,iL,reduceCtorEq,j0,j2,j3,j26,j27,h28,m0,m1,m2,m3,m4,hi',ga,hw,g0,g2,g3,g26,g27,g61,g28,h62,m0,m1,m2,m3,m4,m6,h6,mN,hN,m7,h7,y1,y2,y3,y4,hn',gn,hwn,x0,x1,gk,gy];try rfl⟩,⟨_,_,_,_,_,by simp only [go_sem,↓reduceIte,nE,nA,nM,nB,oN,iT,nS,nL,nD,iE,iL,reduceCtorEq,j0,j2,j3,j26,j27,h28,m0,m1,m2,m3,m4,hi',ga,hw,g0,g2,g3,g26,g27,g61,g28,h62,m0,m1,m2,m3,m4,m6,h6,mN,hN,m7,h7,y1,y2,y3,y4,hn',gn,hwn,x0,x1,gk,gy];try rfl,by simp only [go_sem,↓reduceIte,nE,nA,nM,nB,oN,iT,nS,nL,nD,iE,iL,reduceCtorEq,j0,j2,j3,j26,j27,h28,m0,m1,m2,m3,m4,hi',ga,hw,g0,g2,g3,g26,g27,g61,g28,h62,m0,m1,m2,m3,m4,m6,h6,mN,hN,m7,h7,y1,y2,y3,y4,hn',gn,hwn,x0,x1,gk,gy];try rfl,by simp only [go_sem,↓reduceIte,nE,nA,nM,nB,oN,iT,nS,nL,nD,iE,iL,reduceCtorEq,j0,j2,j3,j26,j27,h28,m0,m1,m2,m3,m4,hi',ga,hw,g0,g2,g3,g26,g27,g61,g28,h62,m0,m1,m2,m3,m4,m6,h6,mN,hN,m7,h7,y1,y2,y3,y4,hn',gn,hwn,x0,x1,gk,gy];try rfl,by simp only [go_sem,↓reduceIte,nE,nA,nM,nB,oN,iT,nS,nL,nD,iE,iL,reduceCtorEq,j0,j2,j3,j26,j27,h28,m0,m1,m2,m3,m4,hi',ga,hw,g0,g2,g3,g26,g27,g61,g28,h62,m0,m1,m2,m3,m4,m6,h6,mN,hN,m7,h7,y1,y2,y3,y4,hn',gn,hwn,x0,x1,gk,gy];try rfl,by simp only [go_sem,↓reduceIte,nE,nA,nM,nB,oN,iT,nS,nL,nD,iE,iL,reduceCtorEq,j0,j2,j3,j26,j27,h28,m0,m1,m2,m3,m4,hi',ga,hw,g0,g2,g3,g26,g27,g61,g28,h62,m0,m1,m2,m3,m4,m6,h6,mN,hN,m7,h7,y1,y2,y3,y4,hn',gn,hwn,x0,x1,gk,gy];try rfl,by simp only [go_sem,↓reduceIte,nE,nA,nM,nB,oN,iT,nS,nL,nD,iE,iL,reduceCtorEq,j0,j2,j3,j26,j27,h28,m0,m1,m2,m3,m4,hi',ga,hw,g0,g2,g3,g26,g27,g61,g28,h62,m0,m1,m2,m3,m4,m6,h6,mN,hN,m7,h7,y1,y2,y3,y4,hn',gn,hwn,x0,x1,gk,gy];try rfl⟩⟩
              | true =>
                simp only [if_true] at hfo
                have oh:=oh rfl
                obtain ⟨b1,b2,b3,b4⟩:=oh.len
                have U1:=tk_S b1
                have U2:=tk_K b2
                have U3:=tk_S b3
                have U4:=tk_B b4
                simp only [go_sem,↓reduceIte,nE,nA,nM,nB,oN,iT,nS,nL,nD,iE,iL,reduceCtorEq,j0,j2,j3,j26,j27,h28,m0,m1,m2,m3,m4,hi',ga,hw,g0,g2,g3,g26,g27,g61,g28,h62,m0,m1,m2,m3,m4,m6,h6,mN,hN,m7,h7,y1,y2,y3,y4,hn',gn,hwn,x0,x1,gk,gy]
                have ol:=landM_ok (k:=x.toNat) oq oh
                have hlb:(landM q x.toNat h).bad=q.bad:=landM_bad
                cases hk:metB q x.toNat with
                | true =>
                  have cj:=spec_l13Join.fc (getM q x.toNat) h (oq.ok _ hk).len oh.len
                  have hl:landM q x.toNat h = { q with mays:=q.mays.set x.toNat (joinM (getM q x.toNat) h) }:=by unfold landM;rw [hk];rfl
                  obtain ⟨c1,c2,c3,c4⟩:=joinM_len (oq.ok _ hk).len oh.len
                  generalize joinM (getM q x.toNat) h=J at cj hl c1 c2 c3 c4
                  rw [hl] at ol hlb hfo
                  have V1:=tk_S c1
                  have V2:=tk_K c2
                  have V3:=tk_S c3
                  have V4:=tk_B c4
                  simp only [go_sem,↓reduceIte,nE,nA,nM,nB,oN,iT,nS,nL,nD,iE,iL,reduceCtorEq,b1,b2,b3,b4,U1,U2,U3,U4,Nat.le_refl,j0,j2,j3,j26,j27,h28,m0,m1,m2,m3,m4,hi',ga,hw,g0,g2,g3,g26,g27,g61,g28,h62,m0,m1,m2,m3,m4,m6,h6,mN,hN,m7,h7,y1,y2,y3,y4,hn',gn,hwn,x0,x1,gk,gy]
                  refine fcW_bd cj noRs_May ?_
                  simp only [go_sem,↓reduceIte,nE,nA,nM,nB,oN,iT,nS,nL,nD,iE,iL,reduceCtorEq,c1,c2,c3,c4,V1,V2,V3,V4,Nat.le_refl,hxl,my_set,j0,j2,j3,j26,j27,h28,m0,m1,m2,m3,m4,hi',ga,hw,g0,g2,g3,g26,g27,g61,g28,h62,m0,m1,m2,m3,m4,m6,h6,mN,hN,m7,h7,y1,y2,y3,y4,hn',gn,hwn,x0,x1,gk,gy]
                  exact ⟨(n+1,_),by dsimp only;omega,by dsimp only;omega,by simp only [go_sem,↓reduceIte,nE,nA,nM,nB,oN,iT,nS,nL,nD,iE,iL,reduceCtorEq,j0,j2,j3,j26,j27,h28,m0,m1,m2,m3,m4,hi',ga,hw,g0,g2,g3,g26,g27,g61,g28,h62,m0,m1,m2,m3,m4,m6,h6,mN,hN,m7,h7,y1,y2,y3,y4,hn',gn,hwn,x0,x1,gk,gy],hfo,ol,hlb.trans hqb,by simp only [go_sem,↓reduceIte,nE,nA,nM,nB,oN,iT,nS,nL,nD,iE,iL,reduceCtorEq,j0,j2,j3,j26,j27,h28,m0,m1,m2,m3,m4,hi',ga,hw,g0,g2,g3,g26,g27,g61,g28,h62,m0,m1,m2,m3,m4,m6,h6,mN,hN,m7,h7,y1,y2,y3,y4,hn',gn,hwn,x0,x1,gk,gy],by simp only [go_sem,↓reduceIte,nE,nA,nM,nB,oN,iT,nS,nL,nD,iE,iL,reduceCtorEq,j0,j2,j3,j26,j27,h28,m0,m1,m2,m3,m4,hi',ga,hw,g0,g2,g3,g26,g27,g61,g28,h62,m0,m1,m2,m3,m4,m6,h6,mN,hN,m7,h7,y1,y2,y3,y4,hn',gn,hwn,x0,x1,gk,gy],by simp only [go_sem,↓reduceIte,nE,nA,nM,nB,oN,iT,nS,nL,nD,iE,iL,reduceCtorEq,j0,j2,j3,j26,j27,h28,m0,m1,m2,m3,m4,hi',ga,hw,g0,g2,g3,g26,g27,g61,g28,h62,m0,m1,m2,m3,m4,m6,h6,mN,hN,m7,h7,y1,y2,y3,y4,hn',gn,hwn,x0,x1,gk,gy],by simp only [go_sem,↓reduceIte,nE,nA,nM,nB,oN,iT,nS,nL,nD,iE,iL,reduceCtorEq,j0,j2,j3,j26,j27,h28,m0,m1,m2,m3,m4,hi',ga,hw,g0,g2,g3,g26,g27,g61,g28,h62,m0,m1,m2,m3,m4,m6,h6,mN,hN,m7,h7,y1,y2,y3,y4,hn',gn,hwn,x0,x1,gk,gy],by simp only [go_sem,↓reduceIte,nE,nA,nM,nB,oN,iT,nS,nL,nD,iE,iL,reduceCtorEq,j0,j2,j3,j26,j27,h28,m0,m1,m2,m3,m4,hi',ga,hw,g0,g2,g3,g26,g27,g61,g28,h62,m0,m1,m2,m3,m4,m6,h6,mN,hN,m7,h7,y1,y2,y3,y4,hn',gn,hwn,x0,x1,gk,gy],⟨_,by simp only [go_sem,↓reduceIte,nE,nA,nM,nB,oN,iT,nS,nL,nD,iE,iL,reduceCtorEq,j0,j2,j3,j26,j27,h28,m0,m1,m2,m3,m4,hi',ga,hw,g0,g2,g3,g26,g27,g61,g28,h62,m0,m1,m2,m3,m4,m6,h6,mN,hN,m7,h7,y1,y2,y3,y4,hn',gn,hwn,x0,x1,gk,gy];try rfl,by simp only [go_sem,↓reduceIte,nE,nA,nM,nB,oN,iT,nS,nL,nD,iE,iL,reduceCtorEq,j0,j2,j3,j26,j27,h28,m0,m1,m2,m3,m4,hi',ga,hw,g0,g2,g3,g26,g27,g61,g28,h62,m0,m1,m2,m3,m4,m6,h6,mN,hN,m7,h7,y1,y2,y3,y4,hn',gn,hwn,x0,x1,gk,gy];try rfl⟩,⟨_,by simp only [go_sem,↓reduceIte,nE,nA,nM,nB,oN,iT,nS,nL,nD,iE,iL,reduceCtorEq,j0,j2,j3,j26,j27,h28,m0,m1,m2,m3,m4,hi',ga,hw,g0,g2,g3,g26,g27,g61,g28,h62,m0,m1,m2,m3,m4,m6,h6,mN,hN,m7,h7,y1,y2,y3,y4,hn',gn,hwn,x0,x1,gk,gy];try rfl,by simp only [go_sem,↓reduceIte,nE,nA,nM,nB,oN,iT,nS,nL,nD,iE,iL,reduceCtorEq,j0,j2,j3,j26,j27,h28,m0,m1,m2,m3,m4,hi',ga,hw,g0,g2,g3,g26,g27,g61,g28,h62,m0,m1,m2,m3,m4,m6,h6,mN,hN,m7,h7,y1,y2,y3,y4,hn',gn,hwn,x0,x1,gk,gy];try rfl⟩,⟨_,_,_,_,_,by simp only [go_sem,↓reduceIte,nE,nA,nM,nB,oN,iT,nS,nL,nD,iE,iL,reduceCtorEq,j0,j2,j3,j26,j27,h28,m0,m1,m2,m3,m4,hi',ga,hw,g0,g2,g3,g26,g27,g61,g28,h62,m0,m1,m2,m3,m4,m6,h6,mN,hN,m7,h7,y1,y2,y3,y4,hn',gn,hwn,x0,x1,gk,gy];try rfl,by simp only [go_sem,↓reduceIte,nE,nA,nM,nB,oN,iT,nS,nL,nD,iE,iL,reduceCtorEq,j0,j2,j3,j26,j27,h28,m0,m1,m2,m3,m4,hi',ga,hw,g0,g2,g3,g26,g27,g61,g28,h62,m0,m1,m2,m3,m4,m6,h6,mN,hN,m7,h7,y1,y2,y3,y4,hn',gn,hwn,x0,x1,gk,gy];try rfl,by simp only [go_sem,↓reduceIte,nE,nA,nM,nB,oN,iT,nS,nL,nD,iE,iL,reduceCtorEq,j0,j2,j3,j26,j27,h28,m0,m1,m2,m3,m4,hi',ga,hw,g0,g2,g3,g26,g27,g61,g28,h62,m0,m1,m2,m3,m4,m6,h6,mN,hN,m7,h7,y1,y2,y3,y4,hn',gn,hwn,x0,x1,gk,gy];try rfl,by simp only [go_sem,↓reduceIte,nE,nA,nM,nB,oN,iT,nS,nL,nD,iE,iL,reduceCtorEq,j0,j2,j3,j26,j27,h28,m0,m1,m2,m3,m4,hi',ga,hw,g0,g2,g3,g26,g27,g61,g28,h62,m0,m1,m2,m3,m4,m6,h6,mN,hN,m7,h7,y1,y2,y3,y4,hn',gn,hwn,x0,x1,gk,gy];try rfl,by simp only [go_sem,↓reduceIte,nE,nA,nM,nB,oN,iT,nS,nL,nD,iE,iL,reduceCtorEq,j0,j2,j3,j26,j27,h28,m0,m1,m2,m3,m4,hi',ga,hw,g0,g2,g3,g26,g27,g61,g28,h62,m0,m1,m2,m3,m4,m6,h6,mN,hN,m7,h7,y1,y2,y3,y4,hn',gn,hwn,x0,x1,gk,gy];try rfl,by simp only [go_sem,↓reduceIte,nE,nA,nM,nB,oN,iT,nS,nL,nD,iE,iL,reduceCtorEq,j0,j2,j3,j26,j27,h28,m0,m1,m2,m3,m4,hi',ga,hw,g0,g2,g3,g26,g27,g61,g28,h62,m0,m1,m2,m3,m4,m6,h6,mN,hN,m7,h7,y1,y2,y3,y4,hn',gn,hwn,x0,x1,gk,gy];try rfl⟩⟩
                | false =>
                  have hl:landM q x.toNat h = { q with met:=q.met.set x.toNat true,mays:=q.mays.set x.toNat h }:=by unfold landM;rw [hk];rfl
                  rw [hl] at ol hlb hfo
                  simp only [go_sem,↓reduceIte,nE,nA,nM,nB,oN,iT,nS,nL,nD,iE,iL,reduceCtorEq,b1,b2,b3,b4,U1,U2,U3,U4,Nat.le_refl,hxl,my_set,setBb,j0,j2,j3,j26,j27,h28,m0,m1,m2,m3,m4,hi',ga,hw,g0,g2,g3,g26,g27,g61,g28,h62,m0,m1,m2,m3,m4,m6,h6,mN,hN,m7,h7,y1,y2,y3,y4,hn',gn,hwn,x0,x1,gk,gy]
                  exact ⟨(n+1,_),by dsimp only;omega,by dsimp only;omega,by simp only [go_sem,↓reduceIte,nE,nA,nM,nB,oN,iT,nS,nL,nD,iE,iL,reduceCtorEq,j0,j2,j3,j26,j27,h28,m0,m1,m2,m3,m4,hi',ga,hw,g0,g2,g3,g26,g27,g61,g28,h62,m0,m1,m2,m3,m4,m6,h6,mN,hN,m7,h7,y1,y2,y3,y4,hn',gn,hwn,x0,x1,gk,gy],hfo,ol,hlb.trans hqb,by simp only [go_sem,↓reduceIte,nE,nA,nM,nB,oN,iT,nS,nL,nD,iE,iL,reduceCtorEq,j0,j2,j3,j26,j27,h28,m0,m1,m2,m3,m4,hi',ga,hw,g0,g2,g3,g26,g27,g61,g28,h62,m0,m1,m2,m3,m4,m6,h6,mN,hN,m7,h7,y1,y2,y3,y4,hn',gn,hwn,x0,x1,gk,gy],by simp only [go_sem,↓reduceIte,nE,nA,nM,nB,oN,iT,nS,nL,nD,iE,iL,reduceCtorEq,j0,j2,j3,j26,j27,h28,m0,m1,m2,m3,m4,hi',ga,hw,g0,g2,g3,g26,g27,g61,g28,h62,m0,m1,m2,m3,m4,m6,h6,mN,hN,m7,h7,y1,y2,y3,y4,hn',gn,hwn,x0,x1,gk,gy],by simp only [go_sem,↓reduceIte,nE,nA,nM,nB,oN,iT,nS,nL,nD,iE,iL,reduceCtorEq,j0,j2,j3,j26,j27,h28,m0,m1,m2,m3,m4,hi',ga,hw,g0,g2,g3,g26,g27,g61,g28,h62,m0,m1,m2,m3,m4,m6,h6,mN,hN,m7,h7,y1,y2,y3,y4,hn',gn,hwn,x0,x1,gk,gy],by simp only [go_sem,↓reduceIte,nE,nA,nM,nB,oN,iT,nS,nL,nD,iE,iL,reduceCtorEq,j0,j2,j3,j26,j27,h28,m0,m1,m2,m3,m4,hi',ga,hw,g0,g2,g3,g26,g27,g61,g28,h62,m0,m1,m2,m3,m4,m6,h6,mN,hN,m7,h7,y1,y2,y3,y4,hn',gn,hwn,x0,x1,gk,gy],by simp only [go_sem,↓reduceIte,nE,nA,nM,nB,oN,iT,nS,nL,nD,iE,iL,reduceCtorEq,j0,j2,j3,j26,j27,h28,m0,m1,m2,m3,m4,hi',ga,hw,g0,g2,g3,g26,g27,g61,g28,h62,m0,m1,m2,m3,m4,m6,h6,mN,hN,m7,h7,y1,y2,y3,y4,hn',gn,hwn,x0,x1,gk,gy],⟨_,by simp only [go_sem,↓reduceIte,nE,nA,nM,nB,oN,iT,nS,nL,nD,iE,iL,reduceCtorEq,j0,j2,j3,j26,j27,h28,m0,m1,m2,m3,m4,hi',ga,hw,g0,g2,g3,g26,g27,g61,g28,h62,m0,m1,m2,m3,m4,m6,h6,mN,hN,m7,h7,y1,y2,y3,y4,hn',gn,hwn,x0,x1,gk,gy];try rfl,by simp only [go_sem,↓reduceIte,nE,nA,nM,nB,oN,iT,nS,nL,nD,iE,iL,reduceCtorEq,j0,j2,j3,j26,j27,h28,m0,m1,m2,m3,m4,hi',ga,hw,g0,g2,g3,g26,g27,g61,g28,h62,m0,m1,m2,m3,m4,m6,h6,mN,hN,m7,h7,y1,y2,y3,y4,hn',gn,hwn,x0,x1,gk,gy];try rfl⟩,⟨_,by simp only [go_sem,↓reduceIte,nE,nA,nM,nB,oN,iT,nS,nL,nD,iE,iL,reduceCtorEq,j0,j2,j3,j26,j27,h28,m0,m1,m2,m3,m4,hi',ga,hw,g0,g2,g3,g26,g27,g61,g28,h62,m0,m1,m2,m3,m4,m6,h6,mN,hN,m7,h7,y1,y2,y3,y4,hn',gn,hwn,x0,x1,gk,gy];try rfl,by simp only [go_sem,↓reduceIte,nE,nA,nM,nB,oN,iT,nS,nL,nD,iE,iL,reduceCtorEq,j0,j2,j3,j26,j27,h28,m0,m1,m2,m3,m4,hi',ga,hw,g0,g2,g3,g26,g27,g61,g28,h62,m0,m1,m2,m3,m4,m6,h6,mN,hN,m7,h7,y1,y2,y3,y4,hn',gn,hwn,x0,x1,gk,gy];try rfl⟩,⟨_,_,_,_,_,by simp only [go_sem,↓reduceIte,nE,nA,nM,nB,oN,iT,nS,nL,nD,iE,iL,reduceCtorEq,j0,j2,j3,j26,j27,h28,m0,m1,m2,m3,m4,hi',ga,hw,g0,g2,g3,g26,g27,g61,g28,h62,m0,m1,m2,m3,m4,m6,h6,mN,hN,m7,h7,y1,y2,y3,y4,hn',gn,hwn,x0,x1,gk,gy];try rfl,by simp only [go_sem,↓reduceIte,nE,nA,nM,nB,oN,iT,nS,nL,nD,iE,iL,reduceCtorEq,j0,j2,j3,j26,j27,h28,m0,m1,m2,m3,m4,hi',ga,hw,g0,g2,g3,g26,g27,g61,g28,h62,m0,m1,m2,m3,m4,m6,h6,mN,hN,m7,h7,y1,y2,y3,y4,hn',gn,hwn,x0,x1,gk,gy];try rfl,by simp only [go_sem,↓reduceIte,nE,nA,nM,nB,oN,iT,nS,nL,nD,iE,iL,reduceCtorEq,j0,j2,j3,j26,j27,h28,m0,m1,m2,m3,m4,hi',ga,hw,g0,g2,g3,g26,g27,g61,g28,h62,m0,m1,m2,m3,m4,m6,h6,mN,hN,m7,h7,y1,y2,y3,y4,hn',gn,hwn,x0,x1,gk,gy];try rfl,by simp only [go_sem,↓reduceIte,nE,nA,nM,nB,oN,iT,nS,nL,nD,iE,iL,reduceCtorEq,j0,j2,j3,j26,j27,h28,m0,m1,m2,m3,m4,hi',ga,hw,g0,g2,g3,g26,g27,g61,g28,h62,m0,m1,m2,m3,m4,m6,h6,mN,hN,m7,h7,y1,y2,y3,y4,hn',gn,hwn,x0,x1,gk,gy];try rfl,by simp only [go_sem,↓reduceIte,nE,nA,nM,nB,oN,iT,nS,nL,nD,iE,iL,reduceCtorEq,j0,j2,j3,j26,j27,h28,m0,m1,m2,m3,m4,hi',ga,hw,g0,g2,g3,g26,g27,g61,g28,h62,m0,m1,m2,m3,m4,m6,h6,mN,hN,m7,h7,y1,y2,y3,y4,hn',gn,hwn,x0,x1,gk,gy];try rfl,by simp only [go_sem,↓reduceIte,nE,nA,nM,nB,oN,iT,nS,nL,nD,iE,iL,reduceCtorEq,j0,j2,j3,j26,j27,h28,m0,m1,m2,m3,m4,hi',ga,hw,g0,g2,g3,g26,g27,g61,g28,h62,m0,m1,m2,m3,m4,m6,h6,mN,hN,m7,h7,y1,y2,y3,y4,hn',gn,hwn,x0,x1,gk,gy];try rfl⟩⟩
          | false =>
            have hfs:flowS s a n x q=landM q x.toNat a:=by unfold flowS;rw [hbb];rfl
            rw [hfs] at hfo
            have k9:(s.kind == 9)=false∧(s.kind == 10)=false:=by unfold brB at hbb;rwa [Bool.or_eq_false_iff] at hbb
            simp only [go_sem,↓reduceIte,nE,nA,nM,nB,oN,iT,nS,nL,nD,iE,iL,reduceCtorEq,k9.1,k9.2,a1,a2,a3,a4,T1,T2,T3,T4,Nat.le_refl,j0,j2,j3,j26,j27,h28,m0,m1,m2,m3,m4,hi',ga,hw,g0,g2,g3,g26,g27,g61,g28,h62,m0,m1,m2,m3,m4,m6,h6,mN,hN,m7,h7,y1,y2,y3,y4,hn',gn,hwn,x0,x1,gk,gy]
            have ol:=landM_ok (k:=x.toNat) oq oa
            have hlb:(landM q x.toNat a).bad=q.bad:=landM_bad
            cases hk:metB q x.toNat with
            | true =>
              have cj:=spec_l13Join.fc (getM q x.toNat) a (oq.ok _ hk).len oa.len
              have hl:landM q x.toNat a = { q with mays:=q.mays.set x.toNat (joinM (getM q x.toNat) a) }:=by unfold landM;rw [hk];rfl
              obtain ⟨c1,c2,c3,c4⟩:=joinM_len (oq.ok _ hk).len oa.len
              generalize joinM (getM q x.toNat) a=J at cj hl c1 c2 c3 c4
              rw [hl] at ol hlb hfo
              have V1:=tk_S c1
              have V2:=tk_K c2
              have V3:=tk_S c3
              have V4:=tk_B c4
              simp only [go_sem,↓reduceIte,nE,nA,nM,nB,oN,iT,nS,nL,nD,iE,iL,reduceCtorEq,a1,a2,a3,a4,T1,T2,T3,T4,Nat.le_refl,j0,j2,j3,j26,j27,h28,m0,m1,m2,m3,m4,hi',ga,hw,g0,g2,g3,g26,g27,g61,g28,h62,m0,m1,m2,m3,m4,m6,h6,mN,hN,m7,h7,y1,y2,y3,y4,hn',gn,hwn,x0,x1,gk,gy]
              refine fcW_bd cj noRs_May ?_
              simp only [go_sem,↓reduceIte,nE,nA,nM,nB,oN,iT,nS,nL,nD,iE,iL,reduceCtorEq,c1,c2,c3,c4,V1,V2,V3,V4,Nat.le_refl,hxl,my_set,j0,j2,j3,j26,j27,h28,m0,m1,m2,m3,m4,hi',ga,hw,g0,g2,g3,g26,g27,g61,g28,h62,m0,m1,m2,m3,m4,m6,h6,mN,hN,m7,h7,y1,y2,y3,y4,hn',gn,hwn,x0,x1,gk,gy]
              exact ⟨(n+1,_),by dsimp only;omega,by dsimp only;omega,by simp only [go_sem,↓reduceIte,nE,nA,nM,nB,oN,iT,nS,nL,nD,iE,iL,reduceCtorEq,j0,j2,j3,j26,j27,h28,m0,m1,m2,m3,m4,hi',ga,hw,g0,g2,g3,g26,g27,g61,g28,h62,m0,m1,m2,m3,m4,m6,h6,mN,hN,m7,h7,y1,y2,y3,y4,hn',gn,hwn,x0,x1,gk,gy],hfo,ol,hlb.trans hqb,by simp only [go_sem,↓reduceIte,nE,nA,nM,nB,oN,iT,nS,nL,nD,iE,iL,reduceCtorEq,j0,j2,j3,j26,j27,h28,m0,m1,m2,m3,m4,hi',ga,hw,g0,g2,g3,g26,g27,g61,g28,h62,m0,m1,m2,m3,m4,m6,h6,mN,hN,m7,h7,y1,y2,y3,y4,hn',gn,hwn,x0,x1,gk,gy],by simp only [go_sem,↓reduceIte,nE,nA,nM,nB,oN,iT,nS,nL,nD,iE,iL,reduceCtorEq,j0,j2,j3,j26,j27,h28,m0,m1,m2,m3,m4,hi',ga,hw,g0,g2,g3,g26,g27,g61,g28,h62,m0,m1,m2,m3,m4,m6,h6,mN,hN,m7,h7,y1,y2,y3,y4,hn',gn,hwn,x0,x1,gk,gy],by simp only [go_sem,↓reduceIte,nE,nA,nM,nB,oN,iT,nS,nL,nD,iE,iL,reduceCtorEq,j0,j2,j3,j26,j27,h28,m0,m1,m2,m3,m4,hi',ga,hw,g0,g2,g3,g26,g27,g61,g28,h62,m0,m1,m2,m3,m4,m6,h6,mN,hN,m7,h7,y1,y2,y3,y4,hn',gn,hwn,x0,x1,gk,gy],by simp only [go_sem,↓reduceIte,nE,nA,nM,nB,oN,iT,nS,nL,nD,iE,iL,reduceCtorEq,j0,j2,j3,j26,j27,h28,m0,m1,m2,m3,m4,hi',ga,hw,g0,g2,g3,g26,g27,g61,g28,h62,m0,m1,m2,m3,m4,m6,h6,mN,hN,m7,h7,y1,y2,y3,y4,hn',gn,hwn,x0,x1,gk,gy],by simp only [go_sem,↓reduceIte,nE,nA,nM,nB,oN,iT,nS,nL,nD,iE,iL,reduceCtorEq,j0,j2,j3,j26,j27,h28,m0,m1,m2,m3,m4,hi',ga,hw,g0,g2,g3,g26,g27,g61,g28,h62,m0,m1,m2,m3,m4,m6,h6,mN,hN,m7,h7,y1,y2,y3,y4,hn',gn,hwn,x0,x1,gk,gy],⟨_,by simp only [go_sem,↓reduceIte,nE,nA,nM,nB,oN,iT,nS,nL,nD,iE,iL,reduceCtorEq,j0,j2,j3,j26,j27,h28,m0,m1,m2,m3,m4,hi',ga,hw,g0,g2,g3,g26,g27,g61,g28,h62,m0,m1,m2,m3,m4,m6,h6,mN,hN,m7,h7,y1,y2,y3,y4,hn',gn,hwn,x0,x1,gk,gy];try rfl,by simp only [go_sem,↓reduceIte,nE,nA,nM,nB,oN,iT,nS,nL,nD,iE,iL,reduceCtorEq,j0,j2,j3,j26,j27,h28,m0,m1,m2,m3,m4,hi',ga,hw,g0,g2,g3,g26,g27,g61,g28,h62,m0,m1,m2,m3,m4,m6,h6,mN,hN,m7,h7,y1,y2,y3,y4,hn',gn,hwn,x0,x1,gk,gy];try rfl⟩,⟨_,by simp only [go_sem,↓reduceIte,nE,nA,nM,nB,oN,iT,nS,nL,nD,iE,iL,reduceCtorEq,j0,j2,j3,j26,j27,h28,m0,m1,m2,m3,m4,hi',ga,hw,g0,g2,g3,g26,g27,g61,g28,h62,m0,m1,m2,m3,m4,m6,h6,mN,hN,m7,h7,y1,y2,y3,y4,hn',gn,hwn,x0,x1,gk,gy];try rfl,by simp only [go_sem,↓reduceIte,nE,nA,nM,nB,oN,iT,nS,nL,nD,iE,iL,reduceCtorEq,j0,j2,j3,j26,j27,h28,m0,m1,m2,m3,m4,hi',ga,hw,g0,g2,g3,g26,g27,g61,g28,h62,m0,m1,m2,m3,m4,m6,h6,mN,hN,m7,h7,y1,y2,y3,y4,hn',gn,hwn,x0,x1,gk,gy];try rfl⟩,⟨_,_,_,_,_,by simp only [go_sem,↓reduceIte,nE,nA,nM,nB,oN,iT,nS,nL,nD,iE,iL,reduceCtorEq,j0,j2,j3,j26,j27,h28,m0,m1,m2,m3,m4,hi',ga,hw,g0,g2,g3,g26,g27,g61,g28,h62,m0,m1,m2,m3,m4,m6,h6,mN,hN,m7,h7,y1,y2,y3,y4,hn',gn,hwn,x0,x1,gk,gy];try rfl,by simp only [go_sem,↓reduceIte,nE,nA,nM,nB,oN,iT,nS,nL,nD,iE,iL,reduceCtorEq,j0,j2,j3,j26,j27,h28,m0,m1,m2,m3,m4,hi',ga,hw,g0,g2,g3,g26,g27,g61,g28,h62,m0,m1,m2,m3,m4,m6,h6,mN,hN,m7,h7,y1,y2,y3,y4,hn',gn,hwn,x0,x1,gk,gy];try rfl,by simp only [go_sem,↓reduceIte,nE,nA,nM,nB,oN,iT,nS,nL,nD,iE,iL,reduceCtorEq,j0,j2,j3,j26,j27,h28,m0,m1,m2,m3,m4,hi',ga,hw,g0,g2,g3,g26,g27,g61,g28,h62,m0,m1,m2,m3,m4,m6,h6,mN,hN,m7,h7,y1,y2,y3,y4,hn',gn,hwn,x0,x1,gk,gy];try rfl,by simp only [go_sem,↓reduceIte,nE,nA,nM,nB,oN,iT,nS,nL,nD,iE,iL,reduceCtorEq,j0,j2,j3,j26,j27,h28,m0,m1,m2,m3,m4,hi',ga,hw,g0,g2,g3,g26,g27,g61,g28,h62,m0,m1,m2,m3,m4,m6,h6,mN,hN,m7,h7,y1,y2,y3,y4,hn',gn,hwn,x0,x1,gk,gy];try rfl,by simp only [go_sem,↓reduceIte,nE,nA,nM,nB,oN,iT,nS,nL,nD,iE,iL,reduceCtorEq,j0,j2,j3,j26,j27,h28,m0,m1,m2,m3,m4,hi',ga,hw,g0,g2,g3,g26,g27,g61,g28,h62,m0,m1,m2,m3,m4,m6,h6,mN,hN,m7,h7,y1,y2,y3,y4,hn',gn,hwn,x0,x1,gk,gy];try rfl,by simp only [go_sem,↓reduceIte,nE,nA,nM,nB,oN,iT,nS,nL,nD,iE,iL,reduceCtorEq,j0,j2,j3,j26,j27,h28,m0,m1,m2,m3,m4,hi',ga,hw,g0,g2,g3,g26,g27,g61,g28,h62,m0,m1,m2,m3,m4,m6,h6,mN,hN,m7,h7,y1,y2,y3,y4,hn',gn,hwn,x0,x1,gk,gy];try rfl⟩⟩
            | false =>
              have hl:landM q x.toNat a = { q with met:=q.met.set x.toNat true,mays:=q.mays.set x.toNat a }:=by unfold landM;rw [hk];rfl
              rw [hl] at ol hlb hfo
              simp only [go_sem,↓reduceIte,nE,nA,nM,nB,oN,iT,nS,nL,nD,iE,iL,reduceCtorEq,a1,a2,a3,a4,T1,T2,T3,T4,Nat.le_refl,hxl,my_set,setBb,j0,j2,j3,j26,j27,h28,m0,m1,m2,m3,m4,hi',ga,hw,g0,g2,g3,g26,g27,g61,g28,h62,m0,m1,m2,m3,m4,m6,h6,mN,hN,m7,h7,y1,y2,y3,y4,hn',gn,hwn,x0,x1,gk,gy]
              exact ⟨(n+1,_),by dsimp only;omega,by dsimp only;omega,by simp only [go_sem,↓reduceIte,nE,nA,nM,nB,oN,iT,nS,nL,nD,iE,iL,reduceCtorEq,j0,j2,j3,j26,j27,h28,m0,m1,m2,m3,m4,hi',ga,hw,g0,g2,g3,g26,g27,g61,g28,h62,m0,m1,m2,m3,m4,m6,h6,mN,hN,m7,h7,y1,y2,y3,y4,hn',gn,hwn,x0,x1,gk,gy],hfo,ol,hlb.trans hqb,by simp only [go_sem,↓reduceIte,nE,nA,nM,nB,oN,iT,nS,nL,nD,iE,iL,reduceCtorEq,j0,j2,j3,j26,j27,h28,m0,m1,m2,m3,m4,hi',ga,hw,g0,g2,g3,g26,g27,g61,g28,h62,m0,m1,m2,m3,m4,m6,h6,mN,hN,m7,h7,y1,y2,y3,y4,hn',gn,hwn,x0,x1,gk,gy],by simp only [go_sem,↓reduceIte,nE,nA,nM,nB,oN,iT,nS,nL,nD,iE,iL,reduceCtorEq,j0,j2,j3,j26,j27,h28,m0,m1,m2,m3,m4,hi',ga,hw,g0,g2,g3,g26,g27,g61,g28,h62,m0,m1,m2,m3,m4,m6,h6,mN,hN,m7,h7,y1,y2,y3,y4,hn',gn,hwn,x0,x1,gk,gy],by simp only [go_sem,↓reduceIte,nE,nA,nM,nB,oN,iT,nS,nL,nD,iE,iL,reduceCtorEq,j0,j2,j3,j26,j27,h28,m0,m1,m2,m3,m4,hi',ga,hw,g0,g2,g3,g26,g27,g61,g28,h62,m0,m1,m2,m3,m4,m6,h6,mN,hN,m7,h7,y1,y2,y3,y4,hn',gn,hwn,x0,x1,gk,gy],by simp only [go_sem,↓reduceIte,nE,nA,nM,nB,oN,iT,nS,nL,nD,iE,iL,reduceCtorEq,j0,j2,j3,j26,j27,h28,m0,m1,m2,m3,m4,hi',ga,hw,g0,g2,g3,g26,g27,g61,g28,h62,m0,m1,m2,m3,m4,m6,h6,mN,hN,m7,h7,y1,y2,y3,y4,hn',gn,hwn,x0,x1,gk,gy],by simp only [go_sem,↓reduceIte,nE,nA,nM,nB,oN,iT,nS,nL,nD,iE,iL,reduceCtorEq,j0,j2,j3,j26,j27,h28,m0,m1,m2,m3,m4,hi',ga,hw,g0,g2,g3,g26,g27,g61,g28,h62,m0,m1,m2,m3,m4,m6,h6,mN,hN,m7,h7,y1,y2,y3,y4,hn',gn,hwn,x0,x1,gk,gy],⟨_,by simp only [go_sem,↓reduceIte,nE,nA,nM,nB,oN,iT,nS,nL,nD,iE,iL,reduceCtorEq,j0,j2,j3,j26,j27,h28,m0,m1,m2,m3,m4,hi',ga,hw,g0,g2,g3,g26,g27,g61,g28,h62,m0,m1,m2,m3,m4,m6,h6,mN,hN,m7,h7,y1,y2,y3,y4,hn',gn,hwn,x0,x1,gk,gy];try rfl,by simp only [go_sem,↓reduceIte,nE,nA,nM,nB,oN,iT,nS,nL,nD,iE,iL,reduceCtorEq,j0,j2,j3,j26,j27,h28,m0,m1,m2,m3,m4,hi',ga,hw,g0,g2,g3,g26,g27,g61,g28,h62,m0,m1,m2,m3,m4,m6,h6,mN,hN,m7,h7,y1,y2,y3,y4,hn',gn,hwn,x0,x1,gk,gy];try rfl⟩,⟨_,by simp only [go_sem,↓reduceIte,nE,nA,nM,nB,oN,iT,nS,nL,nD,iE,iL,reduceCtorEq,j0,j2,j3,j26,j27,h28,m0,m1,m2,m3,m4,hi',ga,hw,g0,g2,g3,g26,g27,g61,g28,h62,m0,m1,m2,m3,m4,m6,h6,mN,hN,m7,h7,y1,y2,y3,y4,hn',gn,hwn,x0,x1,gk,gy];try rfl,by simp only [go_sem,↓reduceIte,nE,nA,nM,nB,oN,iT,nS,nL,nD,iE,iL,reduceCtorEq,j0,j2,j3,j26,j27,h28,m0,m1,m2,m3,m4,hi',ga,hw,g0,g2,g3,g26,g27,g61,g28,h62,m0,m1,m2,m3,m4,m6,h6,mN,hN,m7,h7,y1,y2,y3,y4,hn',gn,hwn,x0,x1,gk,gy];try rfl⟩,⟨_,_,_,_,_,by simp only [go_sem,↓reduceIte,nE,nA,nM,nB,oN,iT,nS,nL,nD,iE,iL,reduceCtorEq,j0,j2,j3,j26,j27,h28,m0,m1,m2,m3,m4,hi',ga,hw,g0,g2,g3,g26,g27,g61,g28,h62,m0,m1,m2,m3,m4,m6,h6,mN,hN,m7,h7,y1,y2,y3,y4,hn',gn,hwn,x0,x1,gk,gy];try rfl,by simp only [go_sem,↓reduceIte,nE,nA,nM,nB,oN,iT,nS,nL,nD,iE,iL,reduceCtorEq,j0,j2,j3,j26,j27,h28,m0,m1,m2,m3,m4,hi',ga,hw,g0,g2,g3,g26,g27,g61,g28,h62,m0,m1,m2,m3,m4,m6,h6,mN,hN,m7,h7,y1,y2,y3,y4,hn',gn,hwn,x0,x1,gk,gy];try rfl,by simp only [go_sem,↓reduceIte,nE,nA,nM,nB,oN,iT,nS,nL,nD,iE,iL,reduceCtorEq,j0,j2,j3,j26,j27,h28,m0,m1,m2,m3,m4,hi',ga,hw,g0,g2,g3,g26,g27,g61,g28,h62,m0,m1,m2,m3,m4,m6,h6,mN,hN,m7,h7,y1,y2,y3,y4,hn',gn,hwn,x0,x1,gk,gy];try rfl,by simp only [go_sem,↓reduceIte,nE,nA,nM,nB,oN,iT,nS,nL,nD,iE,iL,reduceCtorEq,j0,j2,j3,j26,j27,h28,m0,m1,m2,m3,m4,hi',ga,hw,g0,g2,g3,g26,g27,g61,g28,h62,m0,m1,m2,m3,m4,m6,h6,mN,hN,m7,h7,y1,y2,y3,y4,hn',gn,hwn,x0,x1,gk,gy];try rfl,by simp only [go_sem,↓reduceIte,nE,nA,nM,nB,oN,iT,nS,nL,nD,iE,iL,reduceCtorEq,j0,j2,j3,j26,j27,h28,m0,m1,m2,m3,m4,hi',ga,hw,g0,g2,g3,g26,g27,g61,g28,h62,m0,m1,m2,m3,m4,m6,h6,mN,hN,m7,h7,y1,y2,y3,y4,hn',gn,hwn,x0,x1,gk,gy];try rfl,by simp only [go_sem,↓reduceIte,nE,nA,nM,nB,oN,iT,nS,nL,nD,iE,iL,reduceCtorEq,j0,j2,j3,j26,j27,h28,m0,m1,m2,m3,m4,hi',ga,hw,g0,g2,g3,g26,g27,g61,g28,h62,m0,m1,m2,m3,m4,m6,h6,mN,hN,m7,h7,y1,y2,y3,y4,hn',gn,hwn,x0,x1,gk,gy];try rfl⟩⟩
        · have hi':¬ (n:Int) < N.length:=by omega
          obtain rfl:n=N.length:=by omega
          rw [List.drop_length] at hfo
          have hfo:q=R:=hfo
          simp only [go_sem,↓reduceIte,nE,nA,nM,nB,oN,iT,nS,nL,nD,iE,iL,reduceCtorEq,Int.lt_irrefl,hw,j0,j2,j3,j26,j27,h28,m0,m1,m2,m3,m4,hi',ga,hw,g0,g2,g3,g26,g27,g61,g28,h62,m0,m1,m2,m3,m4,m6,h6,mN,hN,m7,h7,y1,y2,y3,y4]
          subst hfo
          exact ⟨i+1,by dsimp only;omega,by omega,by simp only [go_sem,↓reduceIte,nE,nA,nM,nB,oN,iT,nS,nL,nD,iE,iL,reduceCtorEq,j0,j2,j3,j26,j27,h28,m0,m1,m2,m3,m4,hi',ga,hw,g0,g2,g3,g26,g27,g61,g28,h62,m0,m1,m2,m3,m4,m6,h6,mN,hN,m7,h7,y1,y2,y3,y4],by simp only [go_sem,↓reduceIte,nE,nA,nM,nB,oN,iT,nS,nL,nD,iE,iL,reduceCtorEq,j0,j2,j3,j26,j27,h28,m0,m1,m2,m3,m4,hi',ga,hw,g0,g2,g3,g26,g27,g61,g28,h62,m0,m1,m2,m3,m4,m6,h6,mN,hN,m7,h7,y1,y2,y3,y4],by simp only [go_sem,↓reduceIte,nE,nA,nM,nB,oN,iT,nS,nL,nD,iE,iL,reduceCtorEq,hst,j0,j2,j3,j26,j27,h28,m0,m1,m2,m3,m4,hi',ga,hw,g0,g2,g3,g26,g27,g61,g28,h62,m0,m1,m2,m3,m4,m6,h6,mN,hN,m7,h7,y1,y2,y3,y4],by simp only [go_sem,↓reduceIte,nE,nA,nM,nB,oN,iT,nS,nL,nD,iE,iL,reduceCtorEq,hst,j0,j2,j3,j26,j27,h28,m0,m1,m2,m3,m4,hi',ga,hw,g0,g2,g3,g26,g27,g61,g28,h62,m0,m1,m2,m3,m4,m6,h6,mN,hN,m7,h7,y1,y2,y3,y4],_,_,by simp only [go_sem,↓reduceIte,nE,nA,nM,nB,oN,iT,nS,nL,nD,iE,iL,reduceCtorEq,j0,j2,j3,j26,j27,h28,m0,m1,m2,m3,m4,hi',ga,hw,g0,g2,g3,g26,g27,g61,g28,h62,m0,m1,m2,m3,m4,m6,h6,mN,hN,m7,h7,y1,y2,y3,y4];try rfl,rfl,by simp only [go_sem,↓reduceIte,nE,nA,nM,nB,oN,iT,nS,nL,nD,iE,iL,reduceCtorEq,j0,j2,j3,j26,j27,h28,m0,m1,m2,m3,m4,hi',ga,hw,g0,g2,g3,g26,g27,g61,g28,h62,m0,m1,m2,m3,m4,m6,h6,mN,hN,m7,h7,y1,y2,y3,y4];rw [hst,hqb];exact hbx⟩
  · have hi':¬ (i:Int) < p.length:=by omega
    obtain rfl:i=p.length:=by omega
    have tb:∀ (b:List Bool),b.length=p.length→(b.map Bb).take p.length=b.map Bb:=fun b h=>List.take_of_length_le (by simp [h])
    have ty:∀ (b:List MayD),b.length=p.length→(b.map MayD.d).take p.length=b.map MayD.d:=fun b h=>List.take_of_length_le (by simp [h])
    have k1:=ok.lm
    have k2:=ok.ly
    generalize anaN p p.length=r at m1 m2 hbx hbl k1 k2 ⊢
    have t1:=tb _ k1
    have t2:=ty _ k2
    rcases hbx with ⟨b1,b2⟩|⟨v,b1,b2⟩
    · subst b2
      simp only [go_sem,↓reduceIte,nE,nA,nM,nB,oN,iT,nS,nL,nD,iE,iL,reduceCtorEq,Int.lt_irrefl,k1,k2,t1,t2,Nat.le_refl,j0,j2,j3,j26,j27,h28,m0,m1,m2,m3,m4]
      obtain ⟨rm,ry,rb⟩:=r
      dsimp only at b1
      subst b1
      rfl
    · subst b1
      rw [b2] at m4
      have tk:(r.bad.map Ii).take r.bad.length=r.bad.map Ii:=List.take_of_length_le (by simp)
      simp only [go_sem,↓reduceIte,nE,nA,nM,nB,oN,iT,nS,nL,nD,iE,iL,reduceCtorEq,Int.lt_irrefl,k1,k2,t1,t2,m4,tk,Nat.le_refl,j0,j2,j3,j26,j27,h28,m0,m1,m2,m3,m4]
theorem noRs_rep2 {r:RepD} {b:Bool}:noRs (.tup [r.d,Bb b])=true:=noRs_t2 noRs_Report rfl
end Go.Vm.YtmbhjcgikblpiaaGreat
namespace Go.Vm.YtmbhjcgikblpiaaGreat
open Go Go.Vm
set_option maxRecDepth 10000
set_option maxHeartbeats 16000000
set_option linter.unusedSimpArgs false
set_option linter.unusedVariables false
structure VerD where
  kind:Int
  code:Int
  wit:List Int
  fault:Int
  pc:Int
  size:Int
  deriving DecidableEq
abbrev VerD.d (x:VerD):D:=.agg [Ii x.kind,Ii x.code,ints x.wit,Ii x.fault,Ii x.pc,Ii x.size]
theorem noRs_Verdict {x:VerD}:noRs (VerD.d x)=true:=noRs_agg fun d hd=>by
  rcases List.mem_cons.1 hd with rfl|hd
  · exact rfl
  rcases List.mem_cons.1 hd with rfl|hd
  · exact rfl
  rcases List.mem_cons.1 hd with rfl|hd
  · exact noRs_ints
  rcases List.mem_cons.1 hd with rfl|hd
  · exact rfl
  rcases List.mem_cons.1 hd with rfl|hd
  · exact rfl
  rcases List.mem_cons.1 hd with rfl|hd
  · exact rfl
  cases hd
def wVerdict (x:VerD):Nat:=x.wit.length
def cVerdict (x:VerD):Nat:=x.wit.length
def mkVerdict (n:Int) (x:VerD):VerD:={ x with wit:=mkIntS (n) x.wit }
theorem cVerdict_le (x:VerD):cVerdict x≤8 * wVerdict x:=by
  unfold cVerdict wVerdict;omega
def zeroV:VerD:=⟨0,0,[],0,0,0⟩
def judgeG (p:List StepD) (bad:List Int):VerD :=
  if (bad.length:Int) == 0 then ⟨1,0,[],0,0,p.length⟩ else
  if (harmV p).2.2.2 then ⟨2,0,(harmV p).1,(harmV p).2.1,(harmV p).2.2.1,p.length⟩ else ⟨3,0,[],0,bad.getD 0 0,p.length⟩
def judgeV (p:List StepD):VerD:=if goodP p then judgeG p (anaN p p.length).bad else zeroV
theorem noRs_harm {r:List Int×Int×Int×Bool}:noRs (harmD r)=true:=noRs_t4 noRs_ints rfl rfl rfl
theorem impl_JudgeProgram.fc (p:List StepD) (hp:p.length≤4194304):FCt prog F_impl_JudgeProgram [.ro] [steps p] (.tup [(judgeV p).d,Bb (goodP p)]) []:=by
  refine fct_run impl_JudgeProgram.ok rfl ?_
  have ca:=impl_AnalyseProgram.fc p hp
  have ch:=impl_HarmIn.fc p hp
  unfold judgeV
  unfold anaV at ca
  simp only [go_sem,↓reduceIte,nE,nA,nM,nB,oN,iT,nS,nL,nD,iE,iL,reduceCtorEq]
  cases hg:goodP p with
  | false =>
    rw [hg] at ca
    refine fcW_bd ca noRs_rep2 ?_
    simp only [go_sem,↓reduceIte,nE,nA,nM,nB,oN,iT,nS,nL,nD,iE,iL,reduceCtorEq,zeroR,List.length_nil,List.map_nil]
    rfl
  | true =>
    rw [hg] at ca
    refine fcW_bd ca noRs_rep2 ?_
    have hs:=harmV_small p
    unfold judgeG
    generalize anaN p p.length=r
    obtain ⟨rm,ry,rb⟩:=r
    generalize harmV p=H at ch hs
    obtain ⟨H0,H1,H2,H3⟩:=H
    dsimp only at hs
    try simp only [if_true]
    cases h0:((rb.length:Int) == 0) with
    | true=>simp only [go_sem,↓reduceIte,nE,nA,nM,nB,oN,iT,nS,nL,nD,iE,iL,reduceCtorEq,h0];try rfl
    | false =>
      have hne:0 < rb.length:=by
        have:¬ (rb.length:Int)=0:=by simpa using h0
        omega
      have h1:(0:Int) < rb.length:=by omega
      have g0:rb[0]? = some (rb.getD 0 0):=getD_some hne
      simp only [go_sem,↓reduceIte,nE,nA,nM,nB,oN,iT,nS,nL,nD,iE,iL,reduceCtorEq,h0]
      refine fcW_bd ch noRs_harm ?_
      unfold harmD
      cases H3 with
      | true=>simp only [go_sem,↓reduceIte,nE,nA,nM,nB,oN,iT,nS,nL,nD,iE,iL,reduceCtorEq,take_map_len]
      | false=>simp only [go_sem,↓reduceIte,nE,nA,nM,nB,oN,iT,nS,nL,nD,iE,iL,reduceCtorEq,h1,g0];try rfl
theorem spec_JudgeProgram.fc (p:List StepD) (hp:p.length≤4194304):FCt prog F_spec_JudgeProgram [.ro] [steps p] (.tup [(judgeV p).d,Bb (goodP p)]) []:=by
  refine fct_run spec_JudgeProgram.ok rfl ?_
  have ch:=spec_HarmIn.fc p hp
  unfold judgeV
  simp only [go_sem,↓reduceIte,nE,nA,nM,nB,oN,iT,nS,nL,nD,iE,iL,reduceCtorEq]
  refine fcW_bool (spec_GoodProgram.fc p hp) ?_
  cases hg:goodP p with
  | false=>simp only [go_sem,↓reduceIte,nE,nA,nM,nB,oN,iT,nS,nL,nD,iE,iL,reduceCtorEq];rfl
  | true =>
    have ca:=spec_l13Analyse.fc p (prog_ok hg)
    simp only [go_sem,↓reduceIte,nE,nA,nM,nB,oN,iT,nS,nL,nD,iE,iL,reduceCtorEq]
    refine fcW_bd ca noRs_Report ?_
    have hs:=harmV_small p
    unfold judgeG
    generalize anaN p p.length=r
    obtain ⟨rm,ry,rb⟩:=r
    generalize harmV p=H at ch hs
    obtain ⟨H0,H1,H2,H3⟩:=H
    dsimp only at hs
    try simp only [if_true]
    cases h0:((rb.length:Int) == 0) with
    | true=>simp only [go_sem,↓reduceIte,nE,nA,nM,nB,oN,iT,nS,nL,nD,iE,iL,reduceCtorEq,h0];try rfl
    | false =>
      have hne:0 < rb.length:=by
        have:¬ (rb.length:Int)=0:=by simpa using h0
        omega
      have h1:(0:Int) < rb.length:=by omega
      have g0:rb[0]? = some (rb.getD 0 0):=getD_some hne
      simp only [go_sem,↓reduceIte,nE,nA,nM,nB,oN,iT,nS,nL,nD,iE,iL,reduceCtorEq,h0]
      refine fcW_bd ch noRs_harm ?_
      unfold harmD
      cases H3 with
      | true=>simp only [go_sem,↓reduceIte,nE,nA,nM,nB,oN,iT,nS,nL,nD,iE,iL,reduceCtorEq,take_map_len]
      | false=>simp only [go_sem,↓reduceIte,nE,nA,nM,nB,oN,iT,nS,nL,nD,iE,iL,reduceCtorEq,h1,g0];try rfl
theorem judgeV_w (p:List StepD):(judgeV p).wit.length≤8:=by
  unfold judgeV
  split
  · rename_i hg
    unfold judgeG
    split
    · simp
    split
    · show (harmV p).1.length≤8
      unfold harmV
      rw [hg]
      exact harm_small (p:=p) (T:=triesOf (seenL p)) fun c hc=>triesOf_mem hc
    · simp
  · simp [zeroV]
end Go.Vm.YtmbhjcgikblpiaaGreat
namespace Go.Vm.YtmbhjcgikblpiaaGreat
open Go Go.Vm
set_option maxRecDepth 10000
set_option maxHeartbeats 16000000
set_option linter.unusedSimpArgs false
set_option linter.unusedVariables false
theorem laws_eqVerdict.fcu (x:VerD) (h:wVerdict x≤1048576) :
    FCt prog F_laws_eqVerdict [.ro,.ro] [VerD.d x,VerD.d x] (Bb true) []:=by
  refine fct_run laws_eqVerdict.ok rfl ?_
  unfold wVerdict at h
  simp only [go_sem,↓reduceIte,nE,nA,nM,nB,oN,iT,nS,nL,nD,iE,iL,reduceCtorEq]
  refine fcW_bool (laws_eqIntS.fcu x.wit (by omega)) ?_
  simp only [go_sem,↓reduceIte,nE,nA,nM,nB,oN,iT,nS,nL,nD,iE,iL,reduceCtorEq]
theorem laws_markVerdict.fcu (x:VerD) (n:Int) (h:wVerdict x≤1048576) (hc:cVerdict x≤16777216) (hn:0≤n∧n+(cVerdict x:Nat)≤576460752303423488) :
    FCt prog F_laws_markVerdict [.io,.ro] [VerD.d x,Ii n] (Ii (n+(cVerdict x:Nat))) [VerD.d (mkVerdict n x)]:=by
  refine fct_run laws_markVerdict.ok rfl ?_
  unfold wVerdict at h
  unfold cVerdict at hc hn ⊢
  unfold mkVerdict
  simp only [go_sem,↓reduceIte,nE,nA,nM,nB,oN,iT,nS,nL,nD,iE,iL,reduceCtorEq,take_map_len]
  refine coW_of (laws_markIntS.fcu x.wit (n) (by omega) (by omega) (by omega)) rfl (by simp only [noRsL,noRs_ints,Bool.and_self]) ?_
  simp only [go_sem,↓reduceIte,nE,nA,nM,nB,oN,iT,nS,nL,nD,iE,iL,reduceCtorEq,mkIntS_len,mkIntS_take,take_map_len]
  try simp [Int.add_assoc,List.take_of_length_le,mkIntS_len]
theorem laws_heldVerdict.fcu (x:VerD) (n:Int) (h:wVerdict x≤1048576) (hc:cVerdict x≤16777216) (hn:0≤n∧n+(cVerdict x:Nat)≤576460752303423488) :
    FCt prog F_laws_heldVerdict [.ro,.ro] [VerD.d (mkVerdict n x),Ii n] (Ii (n+(cVerdict x:Nat))) []:=by
  refine fct_run laws_heldVerdict.ok rfl ?_
  unfold wVerdict at h
  unfold cVerdict at hc hn ⊢
  unfold mkVerdict
  simp only [go_sem,↓reduceIte,nE,nA,nM,nB,oN,iT,nS,nL,nD,iE,iL,reduceCtorEq]
  refine fcW_int (laws_heldIntS.fcu x.wit (n) (by omega) (by omega) (by omega)) ?_
  have hng:¬ (n+(x.wit.length:Nat) < 0):=by omega
  simp only [go_sem,↓reduceIte,nE,nA,nM,nB,oN,iT,nS,nL,nD,iE,iL,reduceCtorEq,hng]
  try simp [Int.add_assoc]
end Go.Vm.YtmbhjcgikblpiaaGreat
