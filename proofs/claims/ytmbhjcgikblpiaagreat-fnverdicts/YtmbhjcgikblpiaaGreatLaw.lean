/- The law FnVerdicts returns true at all arguments; its row. -/
import Derived.Test.YtmbhjcgikblpiaaGreatWkd
import Derived.Test.YtmbhjcgikblpiaaGreatRows
open Int renaming reduceEq → iQ, reduceBEq → iB, reduceBNe → iX, reduceNeg → iN, reduceAdd → iA, reduceSub → iS, reduceMul → iM
namespace Go.Vm.YtmbhjcgikblpiaaGreat
open Go Go.Vm
set_option maxRecDepth 10000
set_option maxHeartbeats 16000000
set_option linter.unusedSimpArgs false
set_option linter.unusedVariables false
theorem noRs_cv {s:List UInt8} {v:VerD}:noRs (.tup [strU s,v.d])=true:=noRs_t2 rfl noRs_Verdict
theorem noRs_tries {l:List (List Int)} {b:Bool}:noRs (.tup [intss l,Bb b])=true:=noRs_t2 noRs_intss rfl
theorem noRs_harm4 {w:List Int} {a b:Int} {c:Bool}:noRs (.tup [ints w,Ii a,Ii b,Bb c])=true:=noRs_t4 noRs_ints rfl rfl rfl
theorem noRs_chk {r:Bool×Bool}:noRs (checkD r)=true:=rfl
theorem laws_FnVerdicts.fc (code more:List Int) (wc:code.length≤9223372036854775807) (wm:more.length≤9223372036854775807) (bc:∀ b∈code,0≤b∧b≤255) (bm:∀ b∈more,0≤b∧b≤255) :
 FCt prog F_laws_FnVerdicts [.ro,.ro] [.sl 1 (code.map Ub),.sl 1 (more.map Ub)] (Bb true) []:=by
 obtain ⟨s,v,sl,vl,f1⟩:=cv_ex code wc bc
 obtain ⟨p,pl,f2⟩:=dj_ex more wm bm
 have c1:=impl_CheckVerdict.fc s v (by omega) (by omega)
 have c2:=spec_CheckVerdict.fc s v (by omega) (by omega)
 have c3:=impl_JudgeBytes.fc s (by omega)
 have j1:=impl_JudgeProgram.fc p (by omega)
 have j2:=spec_JudgeProgram.fc p (by omega)
 have t1:=impl_TriesFor.fc p (by omega)
 have t2:=spec_TriesFor.fc p (by omega)
 have h1:=impl_HarmIn.fc p (by omega)
 have h2:=spec_HarmIn.fc p (by omega)
 have sv:=laws_sameVerdict.fc (judgeV p) (by have:=judgeV_w p;omega)
 have key:(harmV p).2.2.2=true→(harmV p).1∈(if goodP p then triesOf (seenL p) else [])∧(harmV p).2.1 > 0∧(judgeV p).kind=2:=by
  intro h
  rw [if_pos (harm_bad h).1]
  exact judge_harm h
 have tl:(if goodP p then triesOf (seenL p) else []).length≤15:=by
  split
  · rw [tries_len];have:=seenL_len p;omega
  · simp
 have tr:∀ r∈(if goodP p then triesOf (seenL p) else []),r.length≤4294967296:=by
  intro r hr
  split at hr
  · rw [triesOf_mem hr];decide
  · cases hr
 have hl:(harmV p).1.length≤1048576:=harmV_small p
 have gg:(goodP p != goodP p)=false:=by simp
 have gj:(goodP p == goodP p)=true:=by simp
 generalize (if goodP p then triesOf (seenL p) else [])=T at t1 t2 key tl tr
 unfold harmD at h1 h2
 generalize harmV p=H at h1 h2 key hl
 obtain ⟨wl,hf,hp,fo⟩:=H
 generalize judgeV p=J at j1 j2 sv key
 obtain ⟨ak,ac,aw,af,ap,as_⟩:=J
 generalize goodP p=g at j1 j2 t1 t2 gg gj
 dsimp only at key hl
 have sr:=laws_sameRows.fc T T (by omega) (by omega) tr tr
 rw [decide_eq_true rfl] at sr
 have si:=laws_sameInts.fc wl wl (by omega) (by omega)
 rw [decide_eq_true rfl] at si
 have nf:(hf != hf)=false:=by simp
 have np:(hp != hp)=false:=by simp
 have go:(fo != fo)=false:=by simp
 have kl:=check_let (l:=s) (v:=v)
 unfold checkD at c1 c2
 unfold judgeD at c3
 generalize checkV s v=R at c1 c2 kl
 obtain ⟨R0,R1⟩:=R
 generalize judgeB s=J at c3 kl
 obtain ⟨⟨jk,jc,jw,jf,jp,js⟩,jo⟩:=J
 obtain ⟨vk,vc,vw,vf,vp,vs⟩:=v
 refine fct_run laws_FnVerdicts.ok rfl ?_
 simp only [go_sem,take_map_len]
 refine cdW_any (fun e=>?_) (fun e=>?_)
 · simp only [go_sem];try rfl
 simp only [go_sem,take_map_len]
 refine fcW_bd f1 noRs_cv ?_
 simp only [go_sem,take_map_len]
 refine fcW_bd c1 rfl ?_
 simp only [go_sem,take_map_len]
 refine fcW_bd c2 rfl ?_
 simp only [go_sem,take_map_len]
 cases R1
 case' true =>
  cases R0
  case' true=>cases hk:(vk == 1)
 case' true.true.true=>obtain ⟨rfl,rfl⟩:=kl rfl (eq_of_beq hk)
 all_goals first
  | simp only [go_sem,take_map_len,hk]
  | simp only [go_sem,take_map_len]
 case' true.true.true =>
  refine fcW_bd c3 noRs_ver2 ?_
  simp only [go_sem,take_map_len]
 all_goals
  refine fcW_bd f2 noRs_steps ?_
  simp only [go_sem,take_map_len]
  refine fcW_bd j1 noRs_ver2 ?_
  simp only [go_sem,take_map_len]
  refine fcW_bd j2 noRs_ver2 ?_
  simp only [go_sem,take_map_len]
  refine fcW_bd t1 noRs_tries ?_
  simp only [go_sem,take_map_len]
  refine fcW_bd t2 noRs_tries ?_
  simp only [go_sem,take_map_len]
  refine fcW_bd h1 noRs_harm4 ?_
  simp only [go_sem,take_map_len]
  refine fcW_bd h2 noRs_harm4 ?_
  simp only [go_sem,take_map_len,gg,gj]
  refine fcW_bool sv ?_
  simp only [go_sem,take_map_len,gg,gj]
  refine fcW_bool sr ?_
  simp only [go_sem,take_map_len,go]
  refine fcW_bool si ?_
  simp only [go_sem,nf,np]
  cases fo
  · simp only [go_sem];try rfl
  obtain ⟨kin,kf,kk⟩:=key rfl
  have kk':(ak == 2)=true:=by simp [kk]
  simp only [go_sem]
  refine R_loop (α:=Nat) (fun k s' M'=>k≤T.length∧s' 165=aI k∧s' 30=.dat none (Bb ((T.take k).any (fun x=>decide (x=wl))))
   ∧ (∃ n,s' 163=.sl 5568 n 0 T.length 1∧M'.m 5568=some (.arr n true 1 (T.map ints)))∧(∃ n,s' 22=.sl 6464 n 0 wl.length 1∧M'.m 6464=some (.arr n true 1 (wl.map Ii)))
   ∧ (∃ n n2,s' 14=.ptr 4800 n 0 none∧M'.m 4800=some (.box n (.agg [.dat none (Ii ak),.dat none (Ii ac),.sl 4544 n2 0 aw.length 1,.dat none (Ii af),.dat none (Ii ap),.dat none (Ii as_)])))) (fun k=>T.length - k) 0
   ⟨Nat.zero_le _,by simp only [go_sem];try rfl,by simp only [go_sem];try rfl,⟨_,by simp only [go_sem];try rfl,by simp only [go_sem];try rfl⟩,⟨_,by simp only [go_sem];try rfl,by simp only [go_sem];try rfl⟩,⟨_,_,by simp only [go_sem];try rfl,by simp only [go_sem];try rfl⟩⟩ ?_
  rintro k s' M' ⟨hk,h13,h30,⟨n1,g1,m1⟩,⟨n2,g2,m2⟩,⟨n3,n4,g3,m3⟩⟩ ho
  unfold laws_FnVerdicts.b0
  have q23:=ho 23 rfl
  have q164:=ho 164 rfl
  simp only [go_sem] at q23 q164
  clear ho
  by_cases hlt:k < T.length
  · have hi':(k:Int) < T.length:=by omega
    have ga:T[k]? = some T[k]:=List.getElem?_eq_getElem hlt
    have hw:IntKind.i64.wrap (k+1)=((k+1:Nat):Int):=wrap_k hlt (by omega)
    have s1:=laws_sameInts.fc T[k] wl (tr _ (List.getElem_mem hlt)) (by omega)
    have st:(T.take (k+1)).any (fun x=>decide (x=wl))=((T.take k).any (fun x=>decide (x=wl))||decide (T[k]=wl)):=by
     rw [take_succ' hlt,List.any_append];simp
    generalize decide (T[k]=wl)=e1 at s1 st
    generalize (T.take k).any (fun x=>decide (x=wl))=e2 at h30 st
    have tm:(T.map ints)[k]? = some (ints T[k]):=by rw [List.getElem?_map,ga];rfl
    cases e2
    · simp only [go_sem,hi',ga,tm,h30,take_map_len,h13,g1,m1,g2,m2,g3,m3,q23,q164]
      refine fcW_bool s1 ?_
      simp only [go_sem,hw,h13,g1,m1,g2,m2,g3,m3,q23,q164]
      exact ⟨k+1,by dsimp only;omega,by omega,by simp only [go_sem,h13,g1,m1,g2,m2,g3,m3,q23,q164],by simp only [go_sem,h13,g1,m1,g2,m2,g3,m3,q23,q164];rw [st];try rfl,⟨n1,by simp only [go_sem,h13,g1,m1,g2,m2,g3,m3,q23,q164],by simp only [go_sem,h13,g1,m1,g2,m2,g3,m3,q23,q164]⟩,⟨n2,by simp only [go_sem,h13,g1,m1,g2,m2,g3,m3,q23,q164],by simp only [go_sem,h13,g1,m1,g2,m2,g3,m3,q23,q164]⟩,⟨n3,n4,by simp only [go_sem,h13,g1,m1,g2,m2,g3,m3,q23,q164],by simp only [go_sem,h13,g1,m1,g2,m2,g3,m3,q23,q164]⟩⟩
    · simp only [go_sem,hi',ga,tm,h30,hw,take_map_len,h13,g1,m1,g2,m2,g3,m3,q23,q164]
      exact ⟨k+1,by dsimp only;omega,by omega,by simp only [go_sem,h13,g1,m1,g2,m2,g3,m3,q23,q164],by simp only [go_sem,h13,g1,m1,g2,m2,g3,m3,q23,q164];rw [st];try rfl,⟨n1,by simp only [go_sem,h13,g1,m1,g2,m2,g3,m3,q23,q164],by simp only [go_sem,h13,g1,m1,g2,m2,g3,m3,q23,q164]⟩,⟨n2,by simp only [go_sem,h13,g1,m1,g2,m2,g3,m3,q23,q164],by simp only [go_sem,h13,g1,m1,g2,m2,g3,m3,q23,q164]⟩,⟨n3,n4,by simp only [go_sem,h13,g1,m1,g2,m2,g3,m3,q23,q164],by simp only [go_sem,h13,g1,m1,g2,m2,g3,m3,q23,q164]⟩⟩
  · have hi':¬ (k:Int) < T.length:=by omega
    obtain rfl:k=T.length:=by omega
    have ea:T.any (fun x=>decide (x=wl))=true:=List.any_eq_true.2 ⟨wl,kin,by simp⟩
    rw [List.take_length,ea] at h30
    simp only [go_sem,Int.lt_irrefl,h30,kf,kk',h13,g1,m1,g2,m2,g3,m3,q23,q164];try rfl
end Go.Vm.YtmbhjcgikblpiaaGreat
namespace Go.Proofs.YtmbhjcgikblpiaaGreat
open Go Go.Vm
theorem verdicts_own:ownKnob Tryz.prog.godebug=none:=by kernel_rfl
theorem verdicts_laid:laidOutB Tryz.prog=true:=by kernel_rfl
set_option maxRecDepth 100000 in
theorem verdicts_lifted (os:Os) (started:os.Started) (H:Type) (enc:TypeId×Value→H) :
 ReturnsInHanded {} Tryz.checked os 10 .any (Rows.fnVerdictsSpec.pre6 enc Tryz.prog Tryz.f10 Rows.fnVerdictsRow.domain false) (Rows.fnVerdictsSpec.post enc Tryz.prog Tryz.f10 false true false false):=by
 refine returnsInHanded_of_change_sized (C:=Tryz.checked) verdicts_own started (by kernel_rfl) Tryz.func10
  (ChangeSpec.witness6 (enc:=enc) (C:=Tryz.checked) false ⟨#[],#[.slice none 0 0,.slice none 0 0],[]⟩ 8 (by kernel_rfl) (by kernel_rfl) (by kernel_rfl) (by kernel_rfl)) ?_
 intro W base args ds gs before hval hW _ _ _
 refine law_contract (C:=Tryz.checked) (f:=10) [.sl (.int .u8),.sl (.int .u8)] (rt:=4) rfl (by kernel_rfl) rfl (by kernel_rfl) verdicts_laid (fun H ds h=>?_) (fun ds h=>?_) hval hW
 · match ds,h with
   | [_,_],_=>rfl
 · simp only [HasTys] at h
   obtain ⟨d1,ds1,rfl,h1,d2,ds2,rfl,h2,rfl⟩:=h
   obtain ⟨code,rfl,wc,bc⟩:=Vm.YtmbhjcgikblpiaaGreat.hasBytes h1
   obtain ⟨more,rfl,wm,bm⟩:=Vm.YtmbhjcgikblpiaaGreat.hasBytes h2
   exact Vm.YtmbhjcgikblpiaaGreat.laws_FnVerdicts.fc code more wc wm bc bm
theorem verdicts_over:Rows.fnVerdictsRow.holds Tryz.pinned (OpenSpec.ofChange Rows.fnVerdictsSpec) :=
 OpenClaim.holds_of_wide 10 Tryz.f10 rfl rfl rfl rfl rfl rfl rfl ⟨rfl,rfl,rfl,rfl,rfl⟩ rfl rfl rfl rfl rfl (by kernel_rfl) Tryz.func10 (by kernel_rfl)
  (of_decide_eq_true (by kernel_rfl)) (by unfold Func.isWrapper;first|(rw [if_pos (by decide +kernel)];kernel_rfl)|(rw [if_neg (by decide +kernel)];exact ⟨rfl,rfl⟩))
  (fun os started H enc _=>verdicts_lifted os started H enc)
theorem verdicts_holds:Rows.FnVerdictsSaid:=verdicts_over
#print axioms verdicts_holds
end Go.Proofs.YtmbhjcgikblpiaaGreat
