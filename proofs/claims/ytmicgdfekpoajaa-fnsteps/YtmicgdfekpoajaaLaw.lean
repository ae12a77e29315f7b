/- The law FnSteps returns true at all arguments; its row. -/
import Derived.Test.YtmicgdfekpoajaaWkb
import Derived.Test.YtmicgdfekpoajaaRows
open Int renaming reduceEq → iQ, reduceBEq → iB, reduceBNe → iX, reduceNeg → iN, reduceAdd → iA, reduceSub → iS, reduceMul → iM
namespace Go.Vm.Ytmicgdfekpoajaa
open Go Go.Vm
set_option maxRecDepth 10000
set_option maxHeartbeats 4000000
set_option linter.unusedSimpArgs false
set_option linter.unusedVariables false
def BoxI (s:Nat→AV) (M:Mem) (t b n:Nat) (x:MachD):Prop:=∃ v v1 v2 v3,s t=.ptr b v 0 none ∧
 M.m b=some (.box v (.agg [aI x.pc,.sl n v1 0 x.regs.length 1,.sl (n+1) v2 0 x.cells.length 1,.sl (n+2) v3 0 x.isset.length 1])) ∧
 M.m n=some (.arr v1 true 1 (x.regs.map Ii))∧M.m (n+1)=some (.arr v2 true 1 (x.cells.map Ii))∧M.m (n+2)=some (.arr v3 true 1 (x.isset.map Bb))
def BoxS (s:Nat→AV) (M:Mem) (x:StepD):Prop:=∃ v,s 16=.ptr 5376 v 0 none∧M.m 5376=some (.box v (.dat none x.d))
theorem laws_FnSteps.fc (code more:List Int) (wc:code.length≤9223372036854775807) (wm:more.length≤9223372036854775807) (bc:∀ b∈code,0≤b∧b≤255) (bm:∀ b∈more,0≤b∧b≤255) :
 FCt prog F_laws_FnSteps [.ro,.ro] [.sl 1 (code.map Ub),.sl 1 (more.map Ub)] (Bb true) []:=by
 obtain ⟨p,ctx,m,pl,cl,m1,m2,m3,d1⟩:=dd_ex code wc bc
 obtain ⟨q,c,ql,cql,d2⟩:=ff_ex more wm bm
 have ml:MachLen m:=⟨m1,m2,m3⟩
 have mw:=mach_w ml
 have c1:=impl_DoStep.fc p ctx m (by omega) (by omega) (by omega)
 have c2:=spec_DoStep.fc p ctx m (by omega) (by omega) (by omega)
 have c3:=impl_GoodMachine.fc m (by omega)
 have c4:=spec_GoodMachine.fc m (by omega)
 have hD:=do_law (p:=p) (ctx:=ctx) (m:=m)
 have xw:=doStep_w (p:=p) (ctx:=ctx) (m:=m)
 unfold doStepD at c1 c2
 generalize doStepV p ctx m=S at c1 c2 hD xw
 obtain ⟨x,f,en,ok⟩:=S
 dsimp only at c1 c2 hD xw
 have xl:x.regs.length≤1048576∧x.cells.length≤1048576∧x.isset.length≤1048576:=by unfold wMachine at xw;omega
 have s1:=laws_sameMachine.fc x (by omega) (by omega) (by omega)
 have q1:=impl_FaultFree.fc q c (by omega) (by omega)
 have q2:=spec_FaultFree.fcq q c (by omega) (by omega)
 have hT:(traceV q c).2.2=(runQV q c 100).2.2.2∧((traceV q c).2.2&&((traceV q c).2.1 == 0))=((runQV q c 100).2.2.2&&((runQV q c 100).2.1 == 0)):=by
  unfold traceV runQV
  cases hq:(goodP q&&ctxB c) with
  | true=>exact ⟨rfl,rfl⟩
  | false=>exact ⟨rfl,rfl⟩
 rw [← hT.2,← hT.1] at q2
 generalize ((traceV q c).2.2&&((traceV q c).2.1 == 0))=free at q1 q2
 generalize (traceV q c).2.2=fine at q1 q2
 have n1:=impl_NewMachine.fc
 have n2:=spec_NewMachine.fc
 have nl:newM.regs.length=6∧newM.cells.length=16∧newM.isset.length=16:=⟨rfl,rfl,rfl⟩
 have n3:=impl_GoodMachine.fc newM (by unfold wMachine;omega)
 rw [mach_good newM_ok] at n3
 have n4:=laws_sameMachine.fc newM (by omega) (by omega) (by omega)
 have x1:(ok != ok)=false:=by simp
 have x2:(f != f)=false:=by simp
 have x3:(en != en)=false:=by simp
 have x4:((goodMach m) != (goodMach m))=false:=by simp
 have x5:(fine == fine)=true:=by simp
 have x6:(free == free)=true:=by simp
 have x7:(true != false)=true:=rfl
 refine fct_run laws_FnSteps.ok rfl ?_
 simp only [go_sem]
 refine cdW_any (fun hlen=>?_) (fun hlen=>?_)
 · simp only [go_sem];try rfl
 simp only [go_sem,take_map_len]
 refine fcW_bd d1 (noRs_t3 noRs_steps noRs_ints noRs_Machine) ?_
 simp only [go_sem,take_map_len]
 refine fcW_bd c1 (noRs_t4 noRs_Machine rfl rfl rfl) ?_
 simp only [go_sem,take_map_len]
 refine fcW_bd c2 (noRs_t4 noRs_Machine rfl rfl rfl) ?_
 simp only [go_sem,take_map_len,x1,x2,x3]
 refine fcW_bool s1 ?_
 simp only [go_sem,take_map_len]
 refine fcW_bool c3 ?_
 simp only [go_sem,take_map_len]
 refine fcW_bool c4 ?_
 simp only [go_sem,take_map_len,x4]
 cases ok with
 | false =>
  simp only [go_sem]
  refine fcW_bd d2 (noRs_t2 noRs_steps noRs_ints) ?_
  simp only [go_sem,take_map_len]
  refine fcW_bd q1 rfl ?_
  simp only [go_sem,take_map_len]
  refine fcW_bd q2 rfl ?_
  simp only [go_sem,take_map_len]
  refine fcW_bd n1 noRs_Machine ?_
  simp only [go_sem,take_map_len,x5,x6,x7,nl.1,nl.2.1,nl.2.2]
  refine fcW_bool n3 ?_
  simp only [go_sem,take_map_len]
  refine fcW_bd n2 noRs_Machine ?_
  simp only [go_sem,take_map_len,nl.1,nl.2.1,nl.2.2]
  refine fcW_bool n4 ?_
  simp only [go_sem];try rfl
 | true =>
  simp only [go_sem]
  refine cdW_cut (fun e _ _=>e=.n) ?_ ?_
  · by_cases hf:f=0
    · subst hf
      obtain ⟨s,gs,⟨pc0,pc1⟩,p20,gp,sb,gm,⟨r1,r2,r3⟩,_,law⟩:=hD rfl rfl
      obtain ⟨len,lnx,lrg,lcl⟩:=law
      have c5:=impl_NextsOf.fc p m.pc s pc0 pc1 p20 gs sb gp
      have c6:=impl_GoodMachine.fc x (by omega)
      rw [gm] at c6
      have nlen:=nexts_len s m.pc
      have c7:=laws_has.fc (nextsL s m.pc) x.pc (by omega)
      have b0:((0:Int) == 0)=true:=rfl
      dsimp only at len lnx lrg lcl r1 r2 r3 gm
      simp only [go_sem,b0,take_map_len,pc0,pc1,gs]
      refine fcW_bd c5 (noRs_t2 noRs_ints rfl) ?_
      simp only [go_sem,take_map_len]
      refine fcW_bool c6 ?_
      simp only [go_sem,take_map_len]
      have b1:((0:Int) != 0)=false:=rfl
      have ml0:m.regs.length=6:=m1
      cases en
      case' true =>
       have lk:(s.kind == 11)=true:=len.symm
       simp only [go_sem,lk]
      case' false =>
       have lk:(s.kind == 11)=false:=len.symm
       have ln:=lnx rfl
       rw [ln] at c7
       simp only [go_sem,take_map_len]
       refine fcW_bool c7 ?_
       simp only [go_sem,lk]
      all_goals
       refine R_loop (α:=Nat) (fun k s' M'=>k≤6∧s' 129=aI k∧BoxI s' M' 7 960 642 m∧BoxI s' M' 8 1792 1408 x∧BoxS s' M' s) (fun k=>6 - k) 0
        ⟨Nat.zero_le _,by simp only [go_sem];try rfl,⟨_,_,_,_,by simp only [go_sem];try rfl,by simp only [go_sem];try rfl,by simp only [go_sem];try rfl,by simp only [go_sem];try rfl,by simp only [go_sem];try rfl⟩,⟨_,_,_,_,by simp only [go_sem];try rfl,by simp only [go_sem];try rfl,by simp only [go_sem];try rfl,by simp only [go_sem];try rfl,by simp only [go_sem];try rfl⟩,⟨_,by simp only [go_sem];try rfl,by simp only [go_sem];try rfl⟩⟩ ?_
       rintro k s2 M2 ⟨hk,g129,⟨v,v1,v2,v3,a1,a2,a3,a4,a5⟩,⟨w,w1,w2,w3,z1,z2,z3,z4,z5⟩,⟨u,u1,u2⟩⟩ ho
       simp only [Nat.reduceAdd] at a2 a4 a5 z2 z4 z5
       unfold laws_FnSteps.b0
       have j128:s2 128=aI x.regs.length:=by rw [ho 128 rfl];simp only [go_sem]
       clear ho
       by_cases hlt:k < 6
       · have hi':(k:Int) < x.regs.length:=by omega
         have hi2:(k:Int) < m.regs.length:=by omega
         have ga:x.regs[k]? = some (x.regs.getD k 0):=getD_some (by omega)
         have gb:m.regs[k]? = some (m.regs.getD k 0):=getD_some (by omega)
         have hw:IntKind.i64.wrap ((k:Int)+1)=((k+1:Nat):Int):=wrap_k hlt (by omega)
         by_cases hd:(k:Int)=s.dst
         · have h9:((k:Int) != s.dst)=false:=by simp [hd]
           simp only [go_sem,hi',h9,hw,j128,g129,a1,a2,a3,a4,a5,z1,z2,z3,z4,z5,u1,u2]
           exact ⟨k+1,by dsimp only;omega,by omega,by simp only [go_sem,j128,g129,a1,a2,a3,a4,a5,z1,z2,z3,z4,z5,u1,u2],⟨_,_,_,_,by simp only [go_sem,j128,g129,a1,a2,a3,a4,a5,z1,z2,z3,z4,z5,u1,u2];try rfl,by simp only [go_sem,j128,g129,a1,a2,a3,a4,a5,z1,z2,z3,z4,z5,u1,u2];try rfl,by simp only [go_sem,j128,g129,a1,a2,a3,a4,a5,z1,z2,z3,z4,z5,u1,u2];try rfl,by simp only [go_sem,j128,g129,a1,a2,a3,a4,a5,z1,z2,z3,z4,z5,u1,u2];try rfl,by simp only [go_sem,j128,g129,a1,a2,a3,a4,a5,z1,z2,z3,z4,z5,u1,u2];try rfl⟩,⟨_,_,_,_,by simp only [go_sem,j128,g129,a1,a2,a3,a4,a5,z1,z2,z3,z4,z5,u1,u2];try rfl,by simp only [go_sem,j128,g129,a1,a2,a3,a4,a5,z1,z2,z3,z4,z5,u1,u2];try rfl,by simp only [go_sem,j128,g129,a1,a2,a3,a4,a5,z1,z2,z3,z4,z5,u1,u2];try rfl,by simp only [go_sem,j128,g129,a1,a2,a3,a4,a5,z1,z2,z3,z4,z5,u1,u2];try rfl,by simp only [go_sem,j128,g129,a1,a2,a3,a4,a5,z1,z2,z3,z4,z5,u1,u2];try rfl⟩,⟨_,by simp only [go_sem,j128,g129,a1,a2,a3,a4,a5,z1,z2,z3,z4,z5,u1,u2];try rfl,by simp only [go_sem,j128,g129,a1,a2,a3,a4,a5,z1,z2,z3,z4,z5,u1,u2];try rfl⟩⟩
         · have h9:((k:Int) != s.dst)=true:=by simp [hd]
           have h10:(x.regs.getD k 0 != m.regs.getD k 0)=false:=by rw [lrg k hd];simp
           simp only [go_sem,hi',hi2,h9,h10,hw,ga,gb,j128,g129,a1,a2,a3,a4,a5,z1,z2,z3,z4,z5,u1,u2]
           exact ⟨k+1,by dsimp only;omega,by omega,by simp only [go_sem,j128,g129,a1,a2,a3,a4,a5,z1,z2,z3,z4,z5,u1,u2],⟨_,_,_,_,by simp only [go_sem,j128,g129,a1,a2,a3,a4,a5,z1,z2,z3,z4,z5,u1,u2];try rfl,by simp only [go_sem,j128,g129,a1,a2,a3,a4,a5,z1,z2,z3,z4,z5,u1,u2];try rfl,by simp only [go_sem,j128,g129,a1,a2,a3,a4,a5,z1,z2,z3,z4,z5,u1,u2];try rfl,by simp only [go_sem,j128,g129,a1,a2,a3,a4,a5,z1,z2,z3,z4,z5,u1,u2];try rfl,by simp only [go_sem,j128,g129,a1,a2,a3,a4,a5,z1,z2,z3,z4,z5,u1,u2];try rfl⟩,⟨_,_,_,_,by simp only [go_sem,j128,g129,a1,a2,a3,a4,a5,z1,z2,z3,z4,z5,u1,u2];try rfl,by simp only [go_sem,j128,g129,a1,a2,a3,a4,a5,z1,z2,z3,z4,z5,u1,u2];try rfl,by simp only [go_sem,j128,g129,a1,a2,a3,a4,a5,z1,z2,z3,z4,z5,u1,u2];try rfl,by simp only [go_sem,j128,g129,a1,a2,a3,a4,a5,z1,z2,z3,z4,z5,u1,u2];try rfl,by simp only [go_sem,j128,g129,a1,a2,a3,a4,a5,z1,z2,z3,z4,z5,u1,u2];try rfl⟩,⟨_,by simp only [go_sem,j128,g129,a1,a2,a3,a4,a5,z1,z2,z3,z4,z5,u1,u2];try rfl,by simp only [go_sem,j128,g129,a1,a2,a3,a4,a5,z1,z2,z3,z4,z5,u1,u2];try rfl⟩⟩
       · obtain rfl:k=6:=by omega
         have hi':¬ ((6:Nat):Int) < x.regs.length:=by omega
         simp only [go_sem,hi',j128,g129,a1,a2,a3,a4,a5,z1,z2,z3,z4,z5,u1,u2]
         refine R_loop (α:=Nat) (fun k s' M'=>k≤16∧s' 153=aI k∧BoxI s' M' 7 960 642 m∧BoxI s' M' 8 1792 1408 x∧BoxS s' M' s) (fun k=>16 - k) 0
          ⟨Nat.zero_le _,by simp only [go_sem,j128,g129,a1,a2,a3,a4,a5,z1,z2,z3,z4,z5,u1,u2];try rfl,⟨_,_,_,_,by simp only [go_sem,j128,g129,a1,a2,a3,a4,a5,z1,z2,z3,z4,z5,u1,u2];try rfl,by simp only [go_sem,j128,g129,a1,a2,a3,a4,a5,z1,z2,z3,z4,z5,u1,u2];try rfl,by simp only [go_sem,j128,g129,a1,a2,a3,a4,a5,z1,z2,z3,z4,z5,u1,u2];try rfl,by simp only [go_sem,j128,g129,a1,a2,a3,a4,a5,z1,z2,z3,z4,z5,u1,u2];try rfl,by simp only [go_sem,j128,g129,a1,a2,a3,a4,a5,z1,z2,z3,z4,z5,u1,u2];try rfl⟩,⟨_,_,_,_,by simp only [go_sem,j128,g129,a1,a2,a3,a4,a5,z1,z2,z3,z4,z5,u1,u2];try rfl,by simp only [go_sem,j128,g129,a1,a2,a3,a4,a5,z1,z2,z3,z4,z5,u1,u2];try rfl,by simp only [go_sem,j128,g129,a1,a2,a3,a4,a5,z1,z2,z3,z4,z5,u1,u2];try rfl,by simp only [go_sem,j128,g129,a1,a2,a3,a4,a5,z1,z2,z3,z4,z5,u1,u2];try rfl,by simp only [go_sem,j128,g129,a1,a2,a3,a4,a5,z1,z2,z3,z4,z5,u1,u2];try rfl⟩,⟨_,by simp only [go_sem,j128,g129,a1,a2,a3,a4,a5,z1,z2,z3,z4,z5,u1,u2];try rfl,by simp only [go_sem,j128,g129,a1,a2,a3,a4,a5,z1,z2,z3,z4,z5,u1,u2];try rfl⟩⟩ ?_
         rintro k s3 M3 ⟨hk,G153,⟨v,v1,v2,v3,A1,A2,A3,A4,A5⟩,⟨w,w1,w2,w3,Z1,Z2,Z3,Z4,Z5⟩,⟨u,U1,U2⟩⟩ ho
         simp only [Nat.reduceAdd] at A2 A4 A5 Z2 Z4 Z5
         unfold laws_FnSteps.b1
         have J152:s3 152=aI x.cells.length:=by rw [ho 152 rfl];simp only [go_sem,j128,g129,a1,a2,a3,a4,a5,z1,z2,z3,z4,z5,u1,u2]
         clear ho
         by_cases hlt:k < 16
         · have hi':(k:Int) < x.cells.length:=by omega
           have hi2:(k:Int) < m.cells.length:=by omega
           have hi3:(k:Int) < x.isset.length:=by omega
           have hi4:(k:Int) < m.isset.length:=by omega
           have ga:x.cells[k]? = some (x.cells.getD k 0):=getD_some (by omega)
           have gb:m.cells[k]? = some (m.cells.getD k 0):=getD_some (by omega)
           have gc:x.isset[k]? = some (x.isset.getD k false):=getD_some (by omega)
           have gd:m.isset[k]? = some (m.isset.getD k false):=getD_some (by omega)
           have hw:IntKind.i64.wrap ((k:Int)+1)=((k+1:Nat):Int):=wrap_k hlt (by omega)
           have go:s.kind≠7∨(k:Int)≠s.imm→(x.cells.getD k 0 != m.cells.getD k 0)=false∧(x.isset.getD k false == m.isset.getD k false)=true:=fun h=>by rw [(lcl k h).1,(lcl k h).2];simp
           have y7:(true != true)=false:=rfl
           by_cases hd:s.kind=7
           · have h9:(s.kind != 7)=false:=by simp [hd]
             by_cases he:(k:Int)=s.imm
             · have h8:((k:Int) != s.imm)=false:=by simp [he]
               simp only [go_sem,hi',h9,h8,hw,j128,g129,a1,a2,a3,a4,a5,z1,z2,z3,z4,z5,u1,u2,J152,G153,A1,A2,A3,A4,A5,Z1,Z2,Z3,Z4,Z5,U1,U2]
               exact ⟨k+1,by dsimp only;omega,by omega,by simp only [go_sem,j128,g129,a1,a2,a3,a4,a5,z1,z2,z3,z4,z5,u1,u2,J152,G153,A1,A2,A3,A4,A5,Z1,Z2,Z3,Z4,Z5,U1,U2],⟨_,_,_,_,by simp only [go_sem,j128,g129,a1,a2,a3,a4,a5,z1,z2,z3,z4,z5,u1,u2,J152,G153,A1,A2,A3,A4,A5,Z1,Z2,Z3,Z4,Z5,U1,U2];try rfl,by simp only [go_sem,j128,g129,a1,a2,a3,a4,a5,z1,z2,z3,z4,z5,u1,u2,J152,G153,A1,A2,A3,A4,A5,Z1,Z2,Z3,Z4,Z5,U1,U2];try rfl,by simp only [go_sem,j128,g129,a1,a2,a3,a4,a5,z1,z2,z3,z4,z5,u1,u2,J152,G153,A1,A2,A3,A4,A5,Z1,Z2,Z3,Z4,Z5,U1,U2];try rfl,by simp only [go_sem,j128,g129,a1,a2,a3,a4,a5,z1,z2,z3,z4,z5,u1,u2,J152,G153,A1,A2,A3,A4,A5,Z1,Z2,Z3,Z4,Z5,U1,U2];try rfl,by simp only [go_sem,j128,g129,a1,a2,a3,a4,a5,z1,z2,z3,z4,z5,u1,u2,J152,G153,A1,A2,A3,A4,A5,Z1,Z2,Z3,Z4,Z5,U1,U2];try rfl⟩,⟨_,_,_,_,by simp only [go_sem,j128,g129,a1,a2,a3,a4,a5,z1,z2,z3,z4,z5,u1,u2,J152,G153,A1,A2,A3,A4,A5,Z1,Z2,Z3,Z4,Z5,U1,U2];try rfl,by simp only [go_sem,j128,g129,a1,a2,a3,a4,a5,z1,z2,z3,z4,z5,u1,u2,J152,G153,A1,A2,A3,A4,A5,Z1,Z2,Z3,Z4,Z5,U1,U2];try rfl,by simp only [go_sem,j128,g129,a1,a2,a3,a4,a5,z1,z2,z3,z4,z5,u1,u2,J152,G153,A1,A2,A3,A4,A5,Z1,Z2,Z3,Z4,Z5,U1,U2];try rfl,by simp only [go_sem,j128,g129,a1,a2,a3,a4,a5,z1,z2,z3,z4,z5,u1,u2,J152,G153,A1,A2,A3,A4,A5,Z1,Z2,Z3,Z4,Z5,U1,U2];try rfl,by simp only [go_sem,j128,g129,a1,a2,a3,a4,a5,z1,z2,z3,z4,z5,u1,u2,J152,G153,A1,A2,A3,A4,A5,Z1,Z2,Z3,Z4,Z5,U1,U2];try rfl⟩,⟨_,by simp only [go_sem,j128,g129,a1,a2,a3,a4,a5,z1,z2,z3,z4,z5,u1,u2,J152,G153,A1,A2,A3,A4,A5,Z1,Z2,Z3,Z4,Z5,U1,U2];try rfl,by simp only [go_sem,j128,g129,a1,a2,a3,a4,a5,z1,z2,z3,z4,z5,u1,u2,J152,G153,A1,A2,A3,A4,A5,Z1,Z2,Z3,Z4,Z5,U1,U2];try rfl⟩⟩
             · have h8:((k:Int) != s.imm)=true:=by simp [he]
               obtain ⟨h10,h11⟩:=go (.inr he)
               simp only [go_sem,hi',hi2,hi3,hi4,h8,h9,h10,h11,hw,ga,gb,gc,gd,y7,j128,g129,a1,a2,a3,a4,a5,z1,z2,z3,z4,z5,u1,u2,J152,G153,A1,A2,A3,A4,A5,Z1,Z2,Z3,Z4,Z5,U1,U2]
               exact ⟨k+1,by dsimp only;omega,by omega,by simp only [go_sem,j128,g129,a1,a2,a3,a4,a5,z1,z2,z3,z4,z5,u1,u2,J152,G153,A1,A2,A3,A4,A5,Z1,Z2,Z3,Z4,Z5,U1,U2],⟨_,_,_,_,by simp only [go_sem,j128,g129,a1,a2,a3,a4,a5,z1,z2,z3,z4,z5,u1,u2,J152,G153,A1,A2,A3,A4,A5,Z1,Z2,Z3,Z4,Z5,U1,U2];try rfl,by simp only [go_sem,j128,g129,a1,a2,a3,a4,a5,z1,z2,z3,z4,z5,u1,u2,J152,G153,A1,A2,A3,A4,A5,Z1,Z2,Z3,Z4,Z5,U1,U2];try rfl,by simp only [go_sem,j128,g129,a1,a2,a3,a4,a5,z1,z2,z3,z4,z5,u1,u2,J152,G153,A1,A2,A3,A4,A5,Z1,Z2,Z3,Z4,Z5,U1,U2];try rfl,by simp only [go_sem,j128,g129,a1,a2,a3,a4,a5,z1,z2,z3,z4,z5,u1,u2,J152,G153,A1,A2,A3,A4,A5,Z1,Z2,Z3,Z4,Z5,U1,U2];try rfl,by simp only [go_sem,j128,g129,a1,a2,a3,a4,a5,z1,z2,z3,z4,z5,u1,u2,J152,G153,A1,A2,A3,A4,A5,Z1,Z2,Z3,Z4,Z5,U1,U2];try rfl⟩,⟨_,_,_,_,by simp only [go_sem,j128,g129,a1,a2,a3,a4,a5,z1,z2,z3,z4,z5,u1,u2,J152,G153,A1,A2,A3,A4,A5,Z1,Z2,Z3,Z4,Z5,U1,U2];try rfl,by simp only [go_sem,j128,g129,a1,a2,a3,a4,a5,z1,z2,z3,z4,z5,u1,u2,J152,G153,A1,A2,A3,A4,A5,Z1,Z2,Z3,Z4,Z5,U1,U2];try rfl,by simp only [go_sem,j128,g129,a1,a2,a3,a4,a5,z1,z2,z3,z4,z5,u1,u2,J152,G153,A1,A2,A3,A4,A5,Z1,Z2,Z3,Z4,Z5,U1,U2];try rfl,by simp only [go_sem,j128,g129,a1,a2,a3,a4,a5,z1,z2,z3,z4,z5,u1,u2,J152,G153,A1,A2,A3,A4,A5,Z1,Z2,Z3,Z4,Z5,U1,U2];try rfl,by simp only [go_sem,j128,g129,a1,a2,a3,a4,a5,z1,z2,z3,z4,z5,u1,u2,J152,G153,A1,A2,A3,A4,A5,Z1,Z2,Z3,Z4,Z5,U1,U2];try rfl⟩,⟨_,by simp only [go_sem,j128,g129,a1,a2,a3,a4,a5,z1,z2,z3,z4,z5,u1,u2,J152,G153,A1,A2,A3,A4,A5,Z1,Z2,Z3,Z4,Z5,U1,U2];try rfl,by simp only [go_sem,j128,g129,a1,a2,a3,a4,a5,z1,z2,z3,z4,z5,u1,u2,J152,G153,A1,A2,A3,A4,A5,Z1,Z2,Z3,Z4,Z5,U1,U2];try rfl⟩⟩
           · have h9:(s.kind != 7)=true:=by simp [hd]
             obtain ⟨h10,h11⟩:=go (.inl hd)
             simp only [go_sem,hi',hi2,hi3,hi4,h9,h10,h11,hw,ga,gb,gc,gd,y7,j128,g129,a1,a2,a3,a4,a5,z1,z2,z3,z4,z5,u1,u2,J152,G153,A1,A2,A3,A4,A5,Z1,Z2,Z3,Z4,Z5,U1,U2]
             exact ⟨k+1,by dsimp only;omega,by omega,by simp only [go_sem,j128,g129,a1,a2,a3,a4,a5,z1,z2,z3,z4,z5,u1,u2,J152,G153,A1,A2,A3,A4,A5,Z1,Z2,Z3,Z4,Z5,U1,U2],⟨_,_,_,_,by simp only [go_sem,j128,g129,a1,a2,a3,a4,a5,z1,z2,z3,z4,z5,u1,u2,J152,G153,A1,A2,A3,A4,A5,Z1,Z2,Z3,Z4,Z5,U1,U2];try rfl,by simp only [go_sem,j128,g129,a1,a2,a3,a4,a5,z1,z2,z3,z4,z5,u1,u2,J152,G153,A1,A2,A3,A4,A5,Z1,Z2,Z3,Z4,Z5,U1,U2];try rfl,by simp only [go_sem,j128,g129,a1,a2,a3,a4,a5,z1,z2,z3,z4,z5,u1,u2,J152,G153,A1,A2,A3,A4,A5,Z1,Z2,Z3,Z4,Z5,U1,U2];try rfl,by simp only [go_sem,j128,g129,a1,a2,a3,a4,a5,z1,z2,z3,z4,z5,u1,u2,J152,G153,A1,A2,A3,A4,A5,Z1,Z2,Z3,Z4,Z5,U1,U2];try rfl,by simp only [go_sem,j128,g129,a1,a2,a3,a4,a5,z1,z2,z3,z4,z5,u1,u2,J152,G153,A1,A2,A3,A4,A5,Z1,Z2,Z3,Z4,Z5,U1,U2];try rfl⟩,⟨_,_,_,_,by simp only [go_sem,j128,g129,a1,a2,a3,a4,a5,z1,z2,z3,z4,z5,u1,u2,J152,G153,A1,A2,A3,A4,A5,Z1,Z2,Z3,Z4,Z5,U1,U2];try rfl,by simp only [go_sem,j128,g129,a1,a2,a3,a4,a5,z1,z2,z3,z4,z5,u1,u2,J152,G153,A1,A2,A3,A4,A5,Z1,Z2,Z3,Z4,Z5,U1,U2];try rfl,by simp only [go_sem,j128,g129,a1,a2,a3,a4,a5,z1,z2,z3,z4,z5,u1,u2,J152,G153,A1,A2,A3,A4,A5,Z1,Z2,Z3,Z4,Z5,U1,U2];try rfl,by simp only [go_sem,j128,g129,a1,a2,a3,a4,a5,z1,z2,z3,z4,z5,u1,u2,J152,G153,A1,A2,A3,A4,A5,Z1,Z2,Z3,Z4,Z5,U1,U2];try rfl,by simp only [go_sem,j128,g129,a1,a2,a3,a4,a5,z1,z2,z3,z4,z5,u1,u2,J152,G153,A1,A2,A3,A4,A5,Z1,Z2,Z3,Z4,Z5,U1,U2];try rfl⟩,⟨_,by simp only [go_sem,j128,g129,a1,a2,a3,a4,a5,z1,z2,z3,z4,z5,u1,u2,J152,G153,A1,A2,A3,A4,A5,Z1,Z2,Z3,Z4,Z5,U1,U2];try rfl,by simp only [go_sem,j128,g129,a1,a2,a3,a4,a5,z1,z2,z3,z4,z5,u1,u2,J152,G153,A1,A2,A3,A4,A5,Z1,Z2,Z3,Z4,Z5,U1,U2];try rfl⟩⟩
         · obtain rfl:k=16:=by omega
           have hi':¬ ((16:Nat):Int) < x.cells.length:=by omega
           simp only [go_sem,hi',j128,g129,a1,a2,a3,a4,a5,z1,z2,z3,z4,z5,u1,u2,J152,G153,A1,A2,A3,A4,A5,Z1,Z2,Z3,Z4,Z5,U1,U2]
    · have hf':(f == 0)=false:=by simp [hf]
      simp only [go_sem,hf']
  rintro e2 s' M' rfl ho
  have g1:s' 1=.dat none (.sl 1 (more.map Ub)):=by rw [ho 1 rfl];simp only [go_sem]
  clear ho
  simp only [go_sem,take_map_len,g1]
  refine fcW_bd d2 (noRs_t2 noRs_steps noRs_ints) ?_
  simp only [go_sem,take_map_len]
  refine fcW_bd q1 rfl ?_
  simp only [go_sem,take_map_len]
  refine fcW_bd q2 rfl ?_
  simp only [go_sem,take_map_len]
  refine fcW_bd n1 noRs_Machine ?_
  simp only [go_sem,take_map_len,x5,x6,x7,nl.1,nl.2.1,nl.2.2]
  refine fcW_bool n3 ?_
  simp only [go_sem,take_map_len]
  refine fcW_bd n2 noRs_Machine ?_
  simp only [go_sem,take_map_len,nl.1,nl.2.1,nl.2.2]
  refine fcW_bool n4 ?_
  simp only [go_sem];try rfl
end Go.Vm.Ytmicgdfekpoajaa
namespace Go.Proofs.Ytmicgdfekpoajaa
open Go Go.Vm
theorem steps_own:ownKnob Try.prog.godebug=none:=by kernel_rfl
theorem steps_laid:laidOutB Try.prog=true:=by kernel_rfl
set_option maxRecDepth 100000 in
theorem steps_lifted (os:Os) (started:os.Started) (H:Type) (enc:TypeId×Value→H) :
 ReturnsInHanded {} Try.checked os 11 .any (Rows.fnStepsSpec.pre6 enc Try.prog Try.f11 Rows.fnStepsRow.domain false) (Rows.fnStepsSpec.post enc Try.prog Try.f11 false true false false):=by
 refine returnsInHanded_of_change_sized (C:=Try.checked) steps_own started (by kernel_rfl) Try.func11
  (ChangeSpec.witness6 (enc:=enc) (C:=Try.checked) false ⟨#[],#[.slice none 0 0,.slice none 0 0],[]⟩ 8 (by kernel_rfl) (by kernel_rfl) (by kernel_rfl) (by kernel_rfl)) ?_
 intro W base args ds gs before hval hW _ _ _
 refine law_contract (C:=Try.checked) (f:=11) [.sl (.int .u8),.sl (.int .u8)] (rt:=4) rfl (by kernel_rfl) rfl (by kernel_rfl) steps_laid (fun H ds h=>?_) (fun ds h=>?_) hval hW
 · match ds,h with
   | [_,_],_=>rfl
 · simp only [HasTys] at h
   obtain ⟨d1,ds1,rfl,h1,d2,ds2,rfl,h2,rfl⟩:=h
   obtain ⟨code,rfl,wc,bc⟩:=Vm.Ytmicgdfekpoajaa.hasBytes h1
   obtain ⟨more,rfl,wm,bm⟩:=Vm.Ytmicgdfekpoajaa.hasBytes h2
   exact Vm.Ytmicgdfekpoajaa.laws_FnSteps.fc code more wc wm bc bm
theorem steps_over:Rows.fnStepsRow.holds Try.pinned (OpenSpec.ofChange Rows.fnStepsSpec) :=
 OpenClaim.holds_of_wide 11 Try.f11 rfl rfl rfl rfl rfl rfl rfl ⟨rfl,rfl,rfl,rfl,rfl⟩ rfl rfl rfl rfl rfl (by kernel_rfl) Try.func11 (by kernel_rfl)
  (of_decide_eq_true (by kernel_rfl)) (by unfold Func.isWrapper;first|(rw [if_pos (by decide +kernel)];kernel_rfl)|(rw [if_neg (by decide +kernel)];exact ⟨rfl,rfl⟩))
  (fun os started H enc _=>steps_lifted os started H enc)
theorem steps_holds:Rows.FnStepsSaid:=steps_over
#print axioms steps_holds
end Go.Proofs.Ytmicgdfekpoajaa
