/- What the functions that the law reaches return: part 4 (the conditions stand at each). -/
import Derived.Test.YtmbhjcgikblpiaaGreatWkc
open Int renaming reduceEq → iQ, reduceBEq → iB, reduceBNe → iX, reduceNeg → iN, reduceAdd → iA, reduceSub → iS, reduceMul → iM
namespace Go.Vm.YtmbhjcgikblpiaaGreat
open Go Go.Vm
set_option maxRecDepth 10000
set_option maxHeartbeats 16000000
set_option linter.unusedSimpArgs false
set_option linter.unusedVariables false
theorem bt_drop (l:List UInt8) (k i:Nat):bt l (k+i)=bt (l.drop k) i:=by
 unfold bt
 rw [List.getD_eq_getElem?_getD,List.getD_eq_getElem?_getD,List.getElem?_drop]
theorem spec_ReadProgram.fc (l0:List UInt8) (hl0:l0.length≤4194304):FCt prog F_spec_ReadProgram [.ro] [.str (strL l0)] (readD (readV l0)) []:=by
 refine fct_run spec_ReadProgram.ok rfl ?_
 unfold readD readV
 have sz0:=strL_len l0
 by_cases h160:l0.length > 160
 · have h:(l0.length:Int) > 160:=by omega
   simp only [go_sem,sz0,h]
   rw [if_pos h160]
   try rfl
 · have h:¬ (l0.length:Int) > 160:=by omega
   rw [if_neg h160]
   generalize hR:readN l0.length l0 []=R
   simp only [go_sem,sz0,h]
   refine R_loop (α:=Nat×Nat×List StepD) (fun a s' M'=>a.2.1≤l0.length∧l0.length - a.2.1≤a.1∧a.1≤160∧a.2.2.length+a.1≤160∧readN a.1 (l0.drop a.2.1) a.2.2=R∧s' 0=.dat none (.str (strL l0))∧s' 6=aI a.2.1∧∃ v,s' 5=.sl 6592 v 0 a.2.2.length 6∧M'.m 6592=some (.arr v true 6 (a.2.2.map StepD.d)))
    (fun a=>a.1) (l0.length,0,[]) ⟨Nat.zero_le _,Nat.le_refl _,by dsimp only;omega,by simp only [List.length_nil];omega,hR,by simp only [go_sem],by simp only [go_sem];try rfl,_,by simp only [go_sem];try rfl,by simp only [go_sem];try rfl⟩ ?_
   rintro ⟨n,k,p⟩ s' M' ⟨hk,hn,hn2,hp,hr,h0,h6,v,h5,hm⟩ ho
   dsimp only at hk hn hn2 hp hr h0 h6 h5 hm
   unfold spec_ReadProgram.b0
   clear ho
   have ll:(l0.drop k).length=l0.length - k:=List.length_drop
   by_cases hnil:k=l0.length
   · subst hnil
     rw [List.drop_length,readN_end] at hr
     subst hr
     simp only [go_sem,Int.lt_irrefl,h0,h6,h5,hm,sz0]
     have cg:=spec_GoodProgram.fc p (by omega)
     simp only [go_sem,take_map_len,h0,h6,h5,hm,sz0]
     refine fcW_bool cg ?_
     unfold readE
     cases hg:goodP p with
     | true=>simp only [go_sem,take_map_len,h0,h6,h5,hm,sz0];try rfl
     | false=>simp only [go_sem,h0,h6,h5,hm,sz0];try rfl
   · have ck:(k:Int) < l0.length:=by omega
     obtain ⟨m,rfl⟩:∃ m,n=m+1:=⟨n - 1,by omega⟩
     generalize hl:l0.drop k=l at hr ll
     have hl:=hl.symm
     have hpos:0 < l.length:=by omega
     rw [readN_succ,if_neg (by omega)] at hr
     have wsub:IntKind.i64.wrap ((l0.length:Int) - k)=(l.length:Int):=by rw [wrap_in (by omega) (by omega)];omega
     have at0:∀ h,(((strL l0)[k]'h).toNat:Int)=bt l 0:=fun h=>by rw [strL_bt,hl];exact bt_drop l0 k 0
     have at_:∀ i h,(((strL l0)[k+i]'h).toNat:Int)=bt l i:=fun i h=>by rw [strL_bt,hl];exact bt_drop l0 k i
     have b16:=bt16 l
     have bw:=bt_w l
     have bw1:=bt_w1 l
     have bw2:=bt_w2 l
     have bw3:=bt_w3 l
     have bw4:=bt_w4 l
     have b16q:∀ i,IntKind.i64.wrap (Int.tdiv (bt l i) 16)=bt l i / 16:=fun i=>by rw [Int.tdiv_eq_ediv_of_nonneg (bt_in l i).1];exact bw2 i
     have hwd:(bt l 0 % 16 == 4)=wideU l:=rfl
     have hlu:=longU_in l
     have cv:=spec_l2Step.fc (stepU l)
     have hbb:(p.length+1) * 48≤70368744177664:=by omega
     have sn:p.map StepD.d++[(stepU l).d]=(p++[stepU l]).map StepD.d:=by simp
     have tk:(p.map StepD.d).take p.length=p.map StepD.d:=List.take_of_length_le (by simp)
     have el:(p++[stepU l]).length=p.length+1:=by simp
     by_cases h4:l.length < 4
     · have h4':(l.length:Int) < 4:=by omega
       rw [if_pos (by omega)] at hr
       subst hr
       unfold readE
       simp only [go_sem,h4',h0,h6,h5,hm,sz0,↓reduceDIte,iQ,iB,ck,wsub,at0,at_,b16,b16q,bw,bw1,bw2,bw3,bw4,hwd];try rfl
     · have h4':¬ (l.length:Int) < 4:=by omega
       have c1:((k+1:Nat):Int) < l0.length:=by omega
       have c2:((k+2:Nat):Int) < l0.length:=by omega
       have c3:((k+3:Nat):Int) < l0.length:=by omega
       have w1:IntKind.i64.wrap ((k:Int)+1)=((k+1:Nat):Int):=by rw [wrap_in (by omega) (by omega)];omega
       have w2:IntKind.i64.wrap ((k:Int)+2)=((k+2:Nat):Int):=by rw [wrap_in (by omega) (by omega)];omega
       have w3:IntKind.i64.wrap ((k:Int)+3)=((k+3:Nat):Int):=by rw [wrap_in (by omega) (by omega)];omega
       cases hwi:wideU l with
       | false =>
        have hlo:longU l=4:=by unfold longU;rw [hwi];rfl
        rw [hlo,if_neg h4] at hr
        have hd:(stepU l).d=.agg [.int .i64 (bt l 0 % 16),.int .i64 (bt l 0 / 16),.int .i64 (bt l 1 / 16),.int .i64 (bt l 1 % 16),.int .i64 (bt l 3),.int .i64 (bt l 2)]:=by unfold stepU;rw [hwi];rfl
        simp only [go_sem,hwi,h0,h6,h5,hm,sz0,↓reduceDIte,iQ,iB,ck,wsub,at0,at_,b16,b16q,bw,bw1,bw2,bw3,bw4,hwd,h4',c1,c2,c3,w1,w2,w3]
        rw [← hd]
        refine fcW_bool cv ?_
        cases hst:stepB (stepU l) with
        | false =>
         have hok:okU l=false:=by unfold okU;rw [hst];rfl
         rw [hok] at hr
         simp only [Bool.false_eq_true,if_false] at hr
         subst hr
         unfold readE
         simp only [go_sem,h0,h6,h5,hm,sz0,↓reduceDIte,iQ,iB,ck,wsub,at0,at_,b16,b16q,bw,bw1,bw2,bw3,bw4,hwd,h4',c1,c2,c3,w1,w2,w3];try rfl
        | true =>
         have cb:=spec_l2Bytes.fc (stepU l) hst
         simp only [go_sem,h0,h6,h5,hm,sz0,↓reduceDIte,iQ,iB,ck,wsub,at0,at_,b16,b16q,bw,bw1,bw2,bw3,bw4,hwd,h4',c1,c2,c3,w1,w2,w3]
         rw [← hd]
         refine fcW_str cb ?_
         have exk:(strL l0).extract k (k+4)=strL (l.take 4):=by rw [strL_ext,hl,List.drop_take];simp
         have ecmp:((strL (encU (stepU l))).toList == ((strL l0).extract k (k+4)).toList)=decide (encU (stepU l)=l.take 4):=by
          rw [exk]
          exact str_eq (encU (stepU l)) (l.take 4)
         have hok:okU l=decide (encU (stepU l)=l.take 4):=by unfold okU;rw [hst,hlo];rfl
         have wk:IntKind.i64.wrap ((k:Int)+4)=((k+4:Nat):Int):=by rw [wrap_in (by omega) (by omega)];omega
         have b1:(k:Int)≤((k+4:Nat):Int):=by omega
         have b2:((k+4:Nat):Int)≤l0.length:=by omega
         cases hq:decide (encU (stepU l)=l.take 4) with
         | false =>
          rw [hq] at ecmp hok
          rw [hok] at hr
          simp only [Bool.false_eq_true,if_false] at hr
          subst hr
          unfold readE
          simp only [go_sem,wk,b1,b2,ecmp,h0,h6,h5,hm,sz0,↓reduceDIte,iQ,iB,ck,wsub,at0,at_,b16,b16q,bw,bw1,bw2,bw3,bw4,hwd,h4',c1,c2,c3,w1,w2,w3];try rfl
         | true =>
          rw [hq] at ecmp hok
          rw [hok] at hr
          simp only [if_true] at hr
          simp only [go_sem,wk,b1,b2,ecmp,hbb,tk,h0,h6,h5,hm,sz0,↓reduceDIte,iQ,iB,ck,wsub,at0,at_,b16,b16q,bw,bw1,bw2,bw3,bw4,hwd,h4',c1,c2,c3,w1,w2,w3]
          exact ⟨(m,k+4,p++[stepU l]),by dsimp only;omega,by dsimp only;omega,by dsimp only;omega,by dsimp only;omega,by simp only [List.length_append,List.length_singleton];omega,by rw [← hr,hl,List.drop_drop],by simp only [go_sem,h0,h6,h5,hm,sz0,↓reduceDIte,iQ,iB,ck,wsub,at0,at_,b16,b16q,bw,bw1,bw2,bw3,bw4,hwd,h4',c1,c2,c3,w1,w2,w3],by simp only [go_sem,wk,h0,h6,h5,hm,sz0,↓reduceDIte,iQ,iB,ck,wsub,at0,at_,b16,b16q,bw,bw1,bw2,bw3,bw4,hwd,h4',c1,c2,c3,w1,w2,w3];try rfl,_,by simp only [go_sem,el,h0,h6,h5,hm,sz0,↓reduceDIte,iQ,iB,ck,wsub,at0,at_,b16,b16q,bw,bw1,bw2,bw3,bw4,hwd,h4',c1,c2,c3,w1,w2,w3];try rfl,by simp only [go_sem,h0,h6,h5,hm,sz0,↓reduceDIte,iQ,iB,ck,wsub,at0,at_,b16,b16q,bw,bw1,bw2,bw3,bw4,hwd,h4',c1,c2,c3,w1,w2,w3];rw [← hd,sn]⟩
       | true =>
        have hlo:longU l=8:=by unfold longU;rw [hwi];rfl
        rw [hlo] at hr
        by_cases h8:l.length < 8
        · have h8':(l.length:Int) < 8:=by omega
          rw [if_pos h8] at hr
          subst hr
          unfold readE
          simp only [go_sem,hwi,h8',h0,h6,h5,hm,sz0,↓reduceDIte,iQ,iB,ck,wsub,at0,at_,b16,b16q,bw,bw1,bw2,bw3,bw4,hwd,h4',c1,c2,c3,w1,w2,w3];try rfl
        · have h8':¬ (l.length:Int) < 8:=by omega
          rw [if_neg h8] at hr
          have c7:((k+7:Nat):Int) < l0.length:=by omega
          have w7:IntKind.i64.wrap ((k:Int)+7)=((k+7:Nat):Int):=by rw [wrap_in (by omega) (by omega)];omega
          have hd:(stepU l).d=.agg [.int .i64 (bt l 0 % 16),.int .i64 (bt l 0 / 16),.int .i64 (bt l 1 / 16),.int .i64 (bt l 1 % 16),.int .i64 (bt l 3+256 * bt l 7),.int .i64 (bt l 2)]:=by unfold stepU;rw [hwi];rfl
          simp only [go_sem,hwi,h8',c7,w7,h0,h6,h5,hm,sz0,↓reduceDIte,iQ,iB,ck,wsub,at0,at_,b16,b16q,bw,bw1,bw2,bw3,bw4,hwd,h4',c1,c2,c3,w1,w2,w3]
          rw [← hd]
          refine fcW_bool cv ?_
          cases hst:stepB (stepU l) with
          | false =>
           have hok:okU l=false:=by unfold okU;rw [hst];rfl
           rw [hok] at hr
           simp only [Bool.false_eq_true,if_false] at hr
           subst hr
           unfold readE
           simp only [go_sem,h0,h6,h5,hm,sz0,↓reduceDIte,iQ,iB,ck,wsub,at0,at_,b16,b16q,bw,bw1,bw2,bw3,bw4,hwd,h4',c1,c2,c3,w1,w2,w3];try rfl
          | true =>
           have cb:=spec_l2Bytes.fc (stepU l) hst
           simp only [go_sem,h0,h6,h5,hm,sz0,↓reduceDIte,iQ,iB,ck,wsub,at0,at_,b16,b16q,bw,bw1,bw2,bw3,bw4,hwd,h4',c1,c2,c3,w1,w2,w3]
           rw [← hd]
           refine fcW_str cb ?_
           have exk:(strL l0).extract k (k+8)=strL (l.take 8):=by rw [strL_ext,hl,List.drop_take];simp
           have ecmp:((strL (encU (stepU l))).toList == ((strL l0).extract k (k+8)).toList)=decide (encU (stepU l)=l.take 8):=by
            rw [exk]
            exact str_eq (encU (stepU l)) (l.take 8)
           have hok:okU l=decide (encU (stepU l)=l.take 8):=by unfold okU;rw [hst,hlo];rfl
           have wk:IntKind.i64.wrap ((k:Int)+8)=((k+8:Nat):Int):=by rw [wrap_in (by omega) (by omega)];omega
           have b1:(k:Int)≤((k+8:Nat):Int):=by omega
           have b2:((k+8:Nat):Int)≤l0.length:=by omega
           cases hq:decide (encU (stepU l)=l.take 8) with
           | false =>
            rw [hq] at ecmp hok
            rw [hok] at hr
            simp only [Bool.false_eq_true,if_false] at hr
            subst hr
            unfold readE
            simp only [go_sem,wk,b1,b2,ecmp,h0,h6,h5,hm,sz0,↓reduceDIte,iQ,iB,ck,wsub,at0,at_,b16,b16q,bw,bw1,bw2,bw3,bw4,hwd,h4',c1,c2,c3,w1,w2,w3];try rfl
           | true =>
            rw [hq] at ecmp hok
            rw [hok] at hr
            simp only [if_true] at hr
            simp only [go_sem,wk,b1,b2,ecmp,hbb,tk,h0,h6,h5,hm,sz0,↓reduceDIte,iQ,iB,ck,wsub,at0,at_,b16,b16q,bw,bw1,bw2,bw3,bw4,hwd,h4',c1,c2,c3,w1,w2,w3]
            exact ⟨(m,k+8,p++[stepU l]),by dsimp only;omega,by dsimp only;omega,by dsimp only;omega,by dsimp only;omega,by simp only [List.length_append,List.length_singleton];omega,by rw [← hr,hl,List.drop_drop],by simp only [go_sem,h0,h6,h5,hm,sz0,↓reduceDIte,iQ,iB,ck,wsub,at0,at_,b16,b16q,bw,bw1,bw2,bw3,bw4,hwd,h4',c1,c2,c3,w1,w2,w3],by simp only [go_sem,wk,h0,h6,h5,hm,sz0,↓reduceDIte,iQ,iB,ck,wsub,at0,at_,b16,b16q,bw,bw1,bw2,bw3,bw4,hwd,h4',c1,c2,c3,w1,w2,w3];try rfl,_,by simp only [go_sem,el,h0,h6,h5,hm,sz0,↓reduceDIte,iQ,iB,ck,wsub,at0,at_,b16,b16q,bw,bw1,bw2,bw3,bw4,hwd,h4',c1,c2,c3,w1,w2,w3];try rfl,by simp only [go_sem,h0,h6,h5,hm,sz0,↓reduceDIte,iQ,iB,ck,wsub,at0,at_,b16,b16q,bw,bw1,bw2,bw3,bw4,hwd,h4',c1,c2,c3,w1,w2,w3];rw [← hd,sn]⟩
theorem noRs_read {r:List StepD×Int×Bool}:noRs (readD r)=true:=noRs_t3 noRs_steps rfl rfl
theorem noRs_ver2 {v:VerD} {b:Bool}:noRs (.tup [v.d,Bb b])=true:=noRs_t2 noRs_Verdict rfl
def judgeB (l:List UInt8):VerD×Bool :=
 if l.length > 160 then (zeroV,false) else if (readV l).2.2 then (judgeV (readV l).1,true) else (⟨4,(readV l).2.1,[],0,0,0⟩,true)
def judgeD (r:VerD×Bool):D:=.tup [r.1.d,Bb r.2]
theorem judgeB_w (l:List UInt8):(judgeB l).1.wit.length≤8:=by
 unfold judgeB
 split
 · simp [zeroV]
 split
 · exact judgeV_w _
 · simp
theorem impl_JudgeBytes.fc (l:List UInt8) (hl:l.length≤4194304):FCt prog F_impl_JudgeBytes [.ro] [.str (strL l)] (judgeD (judgeB l)) []:=by
 refine fct_run impl_JudgeBytes.ok rfl ?_
 have sz:=strL_len l
 have cr:=impl_ReadProgram.fc l hl
 unfold judgeD judgeB
 by_cases h:l.length > 160
 · have h1:(l.length:Int) > 160:=by omega
   rw [if_pos h]
   simp only [go_sem,sz,h1];try rfl
 · have h1:¬ (l.length:Int) > 160:=by omega
   rw [if_neg h]
   have hg:=readV_good (l:=l)
   have hpl:=readV_len l
   generalize readV l=R at cr hg hpl ⊢
   obtain ⟨p,c,ok⟩:=R
   dsimp only at hg hpl
   unfold readD at cr
   simp only [go_sem,sz,h1]
   refine fcW_bd cr noRs_read ?_
   cases ok with
   | false=>simp only [go_sem];try rfl
   | true =>
    have cj:=impl_JudgeProgram.fc p (by omega)
    rw [hg rfl] at cj
    simp only [if_true]
    generalize judgeV p=v at cj ⊢
    simp only [go_sem,take_map_len]
    refine fcW_bd cj noRs_ver2 ?_
    simp only [go_sem,take_map_len]
theorem spec_JudgeBytes.fc (l:List UInt8) (hl:l.length≤4194304):FCt prog F_spec_JudgeBytes [.ro] [.str (strL l)] (judgeD (judgeB l)) []:=by
 refine fct_run spec_JudgeBytes.ok rfl ?_
 have sz:=strL_len l
 have cr:=spec_ReadProgram.fc l hl
 unfold judgeD judgeB
 by_cases h:l.length > 160
 · have h1:(l.length:Int) > 160:=by omega
   rw [if_pos h]
   simp only [go_sem,sz,h1];try rfl
 · have h1:¬ (l.length:Int) > 160:=by omega
   rw [if_neg h]
   have hg:=readV_good (l:=l)
   have hpl:=readV_len l
   generalize readV l=R at cr hg hpl ⊢
   obtain ⟨p,c,ok⟩:=R
   dsimp only at hg hpl
   unfold readD at cr
   simp only [go_sem,sz,h1]
   refine fcW_bd cr noRs_read ?_
   cases ok with
   | false=>simp only [go_sem];try rfl
   | true =>
    have cj:=spec_JudgeProgram.fc p (by omega)
    rw [hg rfl] at cj
    simp only [if_true]
    generalize judgeV p=v at cj ⊢
    simp only [go_sem,take_map_len]
    refine fcW_bd cj noRs_ver2 ?_
    simp only [go_sem,take_map_len]
def runPV (p:List StepD) (ctx:List Int) (fuel:Nat):Int×Int×Int×Bool :=
 if goodP p&&ctxB ctx then ((runP p ctx fuel).1,(runP p ctx fuel).2.1,(runP p ctx fuel).2.2.1,true) else (0,0,0,false)
def runPD (r:Int×Int×Int×Bool):D:=.tup [Ii r.1,Ii r.2.1,Ii r.2.2.1,Bb r.2.2.2]
theorem impl_RunProgram.fc (p:List StepD) (ctx:List Int) (fuel:Nat) (hp:p.length≤4194304) (hc:ctx.length≤4194304) (hf:fuel≤100):FCt prog F_impl_RunProgram [.ro,.ro,.ro] [steps p,ints ctx,Ii fuel] (runPD (runPV p ctx fuel)) []:=by
 refine fct_run impl_RunProgram.ok rfl ?_
 have c1:=impl_GoodProgram.fc p hp
 have c2:=impl_isContext.fc ctx (by omega)
 have c3:=impl_in.fc fuel 0 100
 have e3:inB fuel 0 100=true:=by unfold inB;rw [Bool.and_eq_true,decide_eq_true_eq,decide_eq_true_eq];omega
 rw [e3] at c3
 unfold runPD runPV
 cases h1:goodP p with
 | false=>rw [h1] at c1;repeat' (first|with_reducible rfl|refine fcW_bool (c1) ?_|with_reducible refine cdW_dec (fun _=>?_) (fun _=>?_)|refine cdW_not (fun _=>?_) (fun _=>?_)|refine cdW_any (fun _=>?_) (fun _=>?_)|with_reducible refine gdW_decT (fun _=>?_) (fun _=>?_)|with_reducible refine gdW_decF (fun _=>?_) (fun _=>?_)|refine gdW_not (fun _=>?_) (fun _=>?_)|refine gdW_any (fun _=>?_) (fun _=>?_)|simp only [go_sem,bne,iQ,iB,iX,Int.reduceLE,iN,iA,iS,iM, *]|rfl)
 | true =>
  rw [h1] at c1
  cases h2:ctxB ctx with
  | false=>rw [h2] at c2;repeat' (first|with_reducible rfl|refine fcW_bool (c1) ?_|refine fcW_bool (c2) ?_|with_reducible refine cdW_dec (fun _=>?_) (fun _=>?_)|refine cdW_not (fun _=>?_) (fun _=>?_)|refine cdW_any (fun _=>?_) (fun _=>?_)|with_reducible refine gdW_decT (fun _=>?_) (fun _=>?_)|with_reducible refine gdW_decF (fun _=>?_) (fun _=>?_)|refine gdW_not (fun _=>?_) (fun _=>?_)|refine gdW_any (fun _=>?_) (fun _=>?_)|simp only [go_sem,bne,iQ,iB,iX,Int.reduceLE,iN,iA,iS,iM, *]|rfl)
  | true =>
   rw [h2] at c2
   have c4:=impl_run.fc p ctx fuel hf (prog_ok h1) (ctx_ok h2)
   generalize runP p ctx fuel=R at c4 ⊢
   obtain ⟨R0,R1,R2,R3⟩:=R
   unfold runD at c4
   repeat' (first|with_reducible rfl|refine fcW_bool (c1) ?_|refine fcW_bool (c2) ?_|refine fcW_bool (c3) ?_|refine fcW_bd (c4) (noRs_run) ?_|with_reducible refine cdW_dec (fun _=>?_) (fun _=>?_)|refine cdW_not (fun _=>?_) (fun _=>?_)|refine cdW_any (fun _=>?_) (fun _=>?_)|with_reducible refine gdW_decT (fun _=>?_) (fun _=>?_)|with_reducible refine gdW_decF (fun _=>?_) (fun _=>?_)|refine gdW_not (fun _=>?_) (fun _=>?_)|refine gdW_any (fun _=>?_) (fun _=>?_)|simp only [go_sem,bne,iQ,iB,iX,Int.reduceLE,iN,iA,iS,iM, *]|rfl)
def runLV (l:List UInt8) (ctx:List Int):Int×Int×Bool :=
 if (judgeB l).2&&((judgeB l).1.kind == 1)&&ctxB ctx then ((runP (readV l).1 ctx 100).1,(runP (readV l).1 ctx 100).2.1,true) else (0,0,false)
def runLD (r:Int×Int×Bool):D:=.tup [Ii r.1,Ii r.2.1,Bb r.2.2]
theorem judge_kind {l:List UInt8} (h:(judgeB l).2=true) (hk:((judgeB l).1.kind == 1)=true):goodP (readV l).1=true:=by
 unfold judgeB at h hk
 split at h
 · cases h
 rename_i h1
 rw [if_neg h1] at hk
 split at hk
 · rename_i h2;exact readV_good h2
 · cases hk
theorem impl_RunLet.fc (l:List UInt8) (ctx:List Int) (hl:l.length≤4194304) (hc:ctx.length≤4194304):FCt prog F_impl_RunLet [.ro,.ro] [.str (strL l),ints ctx] (runLD (runLV l ctx)) []:=by
 refine fct_run impl_RunLet.ok rfl ?_
 have cj:=impl_JudgeBytes.fc l hl
 have cr:=impl_ReadProgram.fc l hl
 have cp:=impl_RunProgram.fc (readV l).1 ctx 100 (by have:=readV_len l;omega) hc (by omega)
 have c100:((100:Nat):Int)=100:=rfl
 rw [c100] at cp
 have hgd:=judge_kind (l:=l)
 have hw:=judgeB_w l
 unfold runLD runLV
 generalize judgeB l=J at cj hgd hw ⊢
 obtain ⟨⟨k,c,w,f,pc,sz⟩,b⟩:=J
 dsimp only at hgd hw ⊢
 unfold judgeD at cj
 simp only [go_sem]
 refine fcW_bd cj noRs_ver2 ?_
 cases b with
 | false=>simp only [go_sem,take_map_len];try rfl
 | true =>
  cases hk:(k == 1) with
  | false =>
   have hk2:(k != 1)=true:=by rw [bne,hk];rfl
   simp only [go_sem,take_map_len,hk2];try rfl
  | true =>
   have hk2:(k != 1)=false:=by rw [bne,hk];rfl
   have hgd:=hgd rfl hk
   simp only [go_sem,take_map_len,hk2]
   refine fcW_bd cr noRs_read ?_
   unfold readD
   unfold runPD runPV at cp
   rw [hgd] at cp
   generalize readV l=R at cp ⊢
   obtain ⟨p,rc,ro⟩:=R
   dsimp only at cp ⊢
   cases hcx:ctxB ctx with
   | false =>
    rw [hcx] at cp
    simp only [go_sem,take_map_len]
    refine fcW_bd cp rfl ?_
    simp only [go_sem];try rfl
   | true =>
    rw [hcx] at cp
    generalize runP p ctx 100=Q at cp ⊢
    obtain ⟨Q0,Q1,Q2,Q3⟩:=Q
    simp only [go_sem,take_map_len]
    refine fcW_bd cp rfl ?_
    simp only [go_sem];try rfl
theorem spec_RunLet.fc (l:List UInt8) (ctx:List Int) (hl:l.length≤4194304) (hc:ctx.length≤4194304):FCt prog F_spec_RunLet [.ro,.ro] [.str (strL l),ints ctx] (runLD (runLV l ctx)) []:=by
 refine fct_run spec_RunLet.ok rfl ?_
 have cj:=spec_JudgeBytes.fc l hl
 have cr:=spec_ReadProgram.fc l hl
 have cx:=spec_l3Ctx.fc ctx (by omega)
 have hgd:=judge_kind (l:=l)
 have hw:=judgeB_w l
 unfold runLD runLV
 generalize judgeB l=J at cj hgd hw ⊢
 obtain ⟨⟨k,c,w,f,pc,sz⟩,b⟩:=J
 dsimp only at hgd hw ⊢
 unfold judgeD at cj
 simp only [go_sem]
 refine fcW_bd cj noRs_ver2 ?_
 cases b with
 | false=>simp only [go_sem,take_map_len];try rfl
 | true =>
  cases hk:(k == 1) with
  | false =>
   have hk2:(k != 1)=true:=by rw [bne,hk];rfl
   simp only [go_sem,take_map_len,hk2];try rfl
  | true =>
   have hk2:(k != 1)=false:=by rw [bne,hk];rfl
   have hgd:=hgd rfl hk
   simp only [go_sem,take_map_len,hk2]
   refine fcW_bool cx ?_
   cases hcx:ctxB ctx with
   | false=>simp only [go_sem];try rfl
   | true =>
    simp only [go_sem]
    refine fcW_bd cr noRs_read ?_
    have cp:=spec_l3Run.fc (readV l).1 ctx 100 (by omega) (prog_ok hgd) (ctx_ok hcx)
    have c100:((100:Nat):Int)=100:=rfl
    rw [c100] at cp
    unfold readD
    generalize readV l=R at cp ⊢
    obtain ⟨p,rc,ro⟩:=R
    dsimp only at cp ⊢
    generalize runP p ctx 100=Q at cp ⊢
    obtain ⟨Q0,Q1,Q2,Q3⟩:=Q
    unfold runD at cp
    simp only [go_sem,take_map_len]
    refine fcW_bd cp noRs_run ?_
    simp only [go_sem];try rfl
def trueV (p:List StepD) (v:VerD):Bool :=
 if (v.size != (p.length:Int)) then false else if v.code != 0 then false else
 if v.kind == 1 then (((anaN p p.length).bad.length:Int) == 0)&&((v.wit.length:Int) == 0)&&(v.fault == 0)&&(v.pc == 0) else
 if v.kind == 2 then (if ctxB v.wit then (if v.fault < 1 then false else ((runP p v.wit 100).2.1 == v.fault)&&((runP p v.wit 100).2.2.1 == v.pc)) else false) else
 (v.kind == 3)&&((v.wit.length:Int) == 0)&&(v.fault == 0)&&hasI (anaN p p.length).bad v.pc
def checkV (l:List UInt8) (v:VerD):Bool×Bool :=
 if l.length > 160 then (false,false) else
 if (readV l).2.2 then (trueV (readV l).1 v,true) else
 ((v.kind == 4)&&(v.code == (readV l).2.1)&&((v.wit.length:Int) == 0)&&(v.fault == 0)&&(v.pc == 0)&&(v.size == 0),true)
def checkD (r:Bool×Bool):D:=.tup [Bb r.1,Bb r.2]
theorem impl_CheckVerdict.fc (l:List UInt8) (v:VerD) (hl:l.length≤4194304) (hw:v.wit.length≤4194304):FCt prog F_impl_CheckVerdict [.ro,.ro] [strU l,v.d] (checkD (checkV l v)) []:=by
 refine fct_run impl_CheckVerdict.ok rfl ?_
 have cr:=impl_ReadProgram.fc l hl
 have sz:=strL_len l
 unfold checkD checkV
 by_cases h:l.length > 160
 · have h1:(l.length:Int) > 160:=by omega
   rw [if_pos h]
   simp only [go_sem,sz,h1]
 · have h1:¬ (l.length:Int) > 160:=by omega
   rw [if_neg h]
   have hg:=readV_good (l:=l)
   have hpl:=readV_len l
   generalize readV l=R at cr hg hpl ⊢
   obtain ⟨p,c,ok⟩:=R
   dsimp only at hg hpl ⊢
   unfold readD at cr
   simp only [go_sem,sz,h1]
   refine fcW_bd cr noRs_read ?_
   obtain ⟨k,vc,w,f,pc,sz⟩:=v
   dsimp only at hw ⊢
   cases ok with
   | false =>
    cases q0:(k == 4)<;>cases q1:(vc == c)<;>cases q2:((w.length:Int) == 0)<;>cases q3:(f == 0)<;>cases q4:(pc == 0)<;>simp only [go_sem,q0,q1,q2,q3,q4]<;>try rfl
   | true =>
    have hgp:=hg rfl
    have op:=prog_ok hgp
    have ca:=impl_AnalyseProgram.fc p (by omega)
    have cp:=impl_RunProgram.fc p w 100 (by omega) hw (by omega)
    have c100:((100:Nat):Int)=100:=rfl
    rw [c100] at cp
    unfold runPV runPD at cp
    unfold anaV at ca
    rw [hgp] at ca cp
    unfold trueV
    have hb:=anaN_bad (p:=p) p.length
    have hp:=op.len.2
    simp only [if_true] at ca ⊢
    generalize anaN p p.length=r at ca hb ⊢
    obtain ⟨rm,ry,rb⟩:=r
    dsimp only at hb ca ⊢
    have ch:=slices_Contains__sint_int.fc rb pc (by omega)
    cases e1:(sz != (p.length:Int)) with
    | true=>cases q2:((w.length:Int) == 0)<;>simp only [go_sem,e1,q2]
    | false =>
     cases e2:(vc != 0) with
     | true=>cases q2:((w.length:Int) == 0)<;>simp only [go_sem,e1,e2,q2]
     | false =>
      cases q2:((w.length:Int) == 0)<;>cases q3:(f == 0) <;>
      · simp only [go_sem,e1,e2,q2,q3,take_map_len]
        refine fcW_bd ca noRs_rep2 ?_
        cases k2:(k == 2) with
        | true =>
         have k1:(k == 1)=false:=by have:k=2:=(by simpa using k2);subst this;rfl
         simp only [go_sem,k1,k2,take_map_len]
         refine fcW_bd cp rfl ?_
         cases hx:ctxB w with
         | false =>
          by_cases hf:f < 1
          · have hf2:¬ f > 0:=by omega
            simp only [go_sem,hf2,k1,k2];try rfl
          · have hf2:f > 0:=by omega
            simp only [go_sem,hf2,k1,k2];try rfl
         | true =>
          generalize runP p w 100=Q
          obtain ⟨Q0,Q1,Q2,Q3⟩:=Q
          by_cases hf:f < 1
          · have hf2:¬ f > 0:=by omega
            simp only [go_sem,hf,hf2,k1,k2];try rfl
          · have hf2:f > 0:=by omega
            cases q1:(Q1 == f)<;>simp only [go_sem,hf,hf2,q1,k1,k2]<;>try rfl
        | false =>
         cases k1:(k == 1) with
         | true=>cases q1:((rb.length:Int) == 0)<;>simp only [go_sem,k1,k2,q1]<;>try rfl
         | false =>
          cases k3:(k == 3) with
          | false=>simp only [go_sem,k1,k2,k3]
          | true =>
           simp only [go_sem,k1,k2,k3,take_map_len]
           refine fcW_bool ch ?_
           have eh:rb.any (fun x=>x == pc)=hasI rb pc:=rfl
           cases qh:hasI rb pc<;>rw [qh] at eh<;>simp only [go_sem,eh]<;>try rfl
def curS (code:List Int):CurD:=⟨code,0,0⟩
theorem curS_ok {code:List Int} (hl:code.length≤9223372036854775807) (h8:∀ b∈code,0≤b∧b≤255) {n:Nat} (hn:n≤1000000):CurOk (curS code) n :=
 ⟨Int.le_refl 0,by show (0:Int)+n≤_;omega,hl,h8⟩
theorem noRs_pb {s:List UInt8} {b:Bool}:noRs (.tup [strU s,Bb b])=true:=rfl
theorem jb_in {code:List Int} {s:List UInt8} (fc:FCt prog F_spec_DrawJudgeBytes [.ro] [.sl 1 (code.map Ub)] (strU s) []) (hl:s.length≤170) :
 ∃ s,s.length≤170∧FCt prog F_spec_DrawJudgeBytes [.ro] [.sl 1 (code.map Ub)] (strU s) []:=⟨_,hl,fc⟩
theorem jb_ex (code:List Int) (hl:code.length≤9223372036854775807) (h8:∀ b∈code,0≤b∧b≤255) :
 ∃ s,s.length≤170∧FCt prog F_spec_DrawJudgeBytes [.ro] [.sl 1 (code.map Ub)] (strU s) []:=by
 obtain ⟨p,c1,pl,ok1,f1⟩:=any_ex (curS code) (curS_ok hl h8 (by omega))
 have f2:=spec_ProgramBytes.fc p (by omega)
 have sl:=pbV_len p pl
 have o1:CurOk c1 16:=ok1 16 (curS_ok hl h8 (by omega))
 have f3:=spec_pl1Cur_one.fc c1 8 (m:=14) o1
 have o2:CurOk (pickC c1 8) 14:=pickC_ok o1
 generalize pickC c1 8=c2 at f3 o2
 generalize (pickV c1 8 == 0)=b at f3
 cases b
 · refine jb_in (s:=pbV p) ?_ (by omega)
   refine fct_run spec_DrawJudgeBytes.ok rfl ?_
   simp only [go_sem]
   refine coW_c f1 ?_
   simp only [go_sem,take_map_len]
   refine fcW_bd f2 noRs_pb ?_
   simp only [go_sem]
   refine coW_c f3 ?_
   simp only [go_sem];try rfl
 · obtain ⟨r,c3,rl,ok3,f4⟩:=sp_ex c2 (pbV p) [0,1,11,3] (by omega) (by decide) (by decide) o2
   have e:(⟨#[0,1,11,3]⟩:ByteArray)=strL [0,1,11,3]:=rfl
   refine jb_in (s:=r) ?_ (by omega)
   refine fct_run spec_DrawJudgeBytes.ok rfl ?_
   simp only [go_sem]
   refine coW_c f1 ?_
   simp only [go_sem,take_map_len]
   refine fcW_bd f2 noRs_pb ?_
   simp only [go_sem]
   refine coW_c f3 ?_
   simp only [go_sem,e]
   refine coW_c f4 ?_
   simp only [go_sem];try rfl
theorem rl_in {code:List Int} {s:List UInt8} {l:List Int} (fc:FCt prog F_spec_DrawRunLet [.ro] [.sl 1 (code.map Ub)] (.tup [strU s,ints l]) []) (hl:s.length≤170) (h2:l.length≤170) :
 ∃ (s:List UInt8) (l:List Int),s.length≤170∧l.length≤170∧FCt prog F_spec_DrawRunLet [.ro] [.sl 1 (code.map Ub)] (.tup [strU s,ints l]) []:=⟨_,_,hl,h2,fc⟩
theorem rl_ex (code:List Int) (hl:code.length≤9223372036854775807) (h8:∀ b∈code,0≤b∧b≤255) :
 ∃ (s:List UInt8) (l:List Int),s.length≤170∧l.length≤170∧FCt prog F_spec_DrawRunLet [.ro] [.sl 1 (code.map Ub)] (.tup [strU s,ints l]) []:=by
 obtain ⟨p,c1,pl,ok1,f1⟩:=tame_ex (curS code) (curS_ok hl h8 (by omega))
 have f2:=spec_ProgramBytes.fc p (by omega)
 have sl:=pbV_len p pl
 have o1:CurOk c1 40:=ok1 40 (curS_ok hl h8 (by omega))
 obtain ⟨l,c2,ll,ok2,f3⟩:=ctx_ex c1 o1
 refine rl_in (s:=pbV p) (l:=l) ?_ (by omega) (by omega)
 refine fct_run spec_DrawRunLet.ok rfl ?_
 simp only [go_sem]
 refine coW_c f1 ?_
 simp only [go_sem,take_map_len]
 refine fcW_bd f2 noRs_pb ?_
 simp only [go_sem]
 refine coW_c f3 ?_
 simp only [go_sem,take_map_len];try rfl
set_option maxHeartbeats 4000000
def inS (x:Int) (s:Int×Int):Prop:=s.1≤x∧x≤s.2
def inK (x:Int) (k:Int×Int):Prop:=andNotI x k.2=k.1
theorem SOk.wd_of {s:Int×Int} (h:SOk s) {x:Int} (hx:inS x s):wd x:=⟨by have:=h.lo;have:=hx.1;omega,by have:=h.hi;have:=hx.2;omega⟩
theorem ends_sound {lo hi z:Int} (h1:lo≤z) (h2:z≤hi):inS (z % 65536) (endsI lo hi):=by
 unfold endsI inS
 split
 · dsimp only;omega
 · rename_i hc
   have hc:lo / 65536=hi / 65536:=by simpa using hc
   dsimp only
   omega
theorem or_ge {x y:Int} (hx:wd x) (hy:wd y):x≤orI x y∧y≤orI x y:=by
 rw [orI_nat hx.nn hy.nn]
 have h1:x.toNat≤x.toNat ||| y.toNat:=Nat.left_le_or
 have h2:y.toNat≤x.toNat ||| y.toNat:=Nat.right_le_or
 have:=hx.1;have:=hy.1
 omega
theorem or_ones {x y n:Int} (hx:wd x) (hy:wd y) (h1:x≤n) (h2:y≤n) (hn:n≤65535):orI x y≤onesW n 0∧xorI x y≤onesW n 0:=by
 obtain ⟨j,hj,e⟩:=onesW_form n hn
 have hge:=onesW_ge n 0 (Int.le_refl 0)
 rw [e] at hge ⊢
 have hx0:=hx.1
 have hy0:=hy.1
 have ex:((2:Nat) ^ j:Nat)=((2:Int) ^ j):=by simp
 have bx:x.toNat < 2 ^ j:=by omega
 have b_y:y.toNat < 2 ^ j:=by omega
 have ho:=Nat.or_lt_two_pow bx b_y
 have hxo:=Nat.xor_lt_two_pow bx b_y
 rw [orI_nat hx.nn hy.nn,xorI_nat hx.nn hy.nn]
 omega
theorem and_le {x y:Int} (hx:wd x) (hy:wd y):0≤andI x y∧andI x y≤x∧andI x y≤y:=by
 rw [andI_nat hx.nn hy.nn]
 have h1:x.toNat &&& y.toNat≤x.toNat:=Nat.and_le_left
 have h2:x.toNat &&& y.toNat≤y.toNat:=Nat.and_le_right
 have:=hx.1;have:=hy.1
 omega
theorem doI_cases (op x y:Int):doI op x y=if op == 1 then IntKind.i64.wrap (x+y) % 65536 else if op == 2 then IntKind.i64.wrap (x - y) % 65536 else if op == 3 then IntKind.i64.wrap (x * y) % 65536
 else if op == 4 then (if y == 0 then 0 else IntKind.i64.wrap (Int.tdiv x y)) else if op == 5 then (if y == 0 then x else Int.tmod x y)
 else if op == 6 then andI x y else if op == 7 then orI x y else if op == 8 then xorI x y
 else if op == 9 then IntKind.i64.wrap (x * shP y) % 65536 else Int.fdiv x (shP y):=rfl
theorem tdiv_w {x y:Int} (hx:wd x) (hy:0≤y):IntKind.i64.wrap (Int.tdiv x y)=Int.tdiv x y:=by
 have:=tdiv_in hx.1 hy
 have:=hx.2
 exact wrap_in (by omega) (by omega)
theorem stI_sound {op x y:Int} {a b:Int×Int} (ha:SOk a) (hb:SOk b) (hx:inS x a) (hy:inS y b):inS (doI op x y) (stI op a b):=by
 have wx:=ha.wd_of hx
 have wy:=hb.wd_of hy
 have hp:=shP_in wy.1
 have hor:=or_ge wx wy
 have hand:=and_le wx wy
 obtain ⟨a1,a2,a3⟩:=ha
 obtain ⟨b1,b2,b3⟩:=hb
 obtain ⟨x1,x2⟩:=hx
 obtain ⟨y1,y2⟩:=hy
 have hm:=mxI_ge (a:=a.1) (b:=b.1)
 have hm2:=mxI_ge (a:=a.2) (b:=b.2)
 have hn:=mnI_le (a:=a.2) (b:=b.2)
 have hn2:=mnI_le (a:=a.2) (b:=b.2 - 1)
 have hoo:=or_ones (n:=mxI a.2 b.2) wx wy (by omega) (by omega) (by omega)
 have ww:0≤x∧x≤65535:=wx
 have ww2:0≤y∧y≤65535:=wy
 rw [doI_cases]
 unfold stI
 split
 · rw [wrap_in (x:=x+y) (by omega) (by omega)]
   exact ends_sound (by omega) (by omega)
 split
 · rw [wrap_in (x:=x - y) (by omega) (by omega)]
   exact ends_sound (by omega) (by omega)
 split
 · have h1:x * y≤a.2 * b.2:=Int.mul_le_mul x2 y2 ww2.1 (by omega)
   have h2:a.1 * b.1≤x * y:=Int.mul_le_mul x1 y1 b1 (by omega)
   have h3:=mul_in (a:=x) (b:=y) (A:=65535) (B:=65535) ww.1 ww.2 ww2.1 ww2.2
   rw [wrap_in (x:=x * y) (by omega) (by omega)]
   exact ends_sound h2 h1
 split
 · by_cases y0:y=0
   · subst y0
     have:b.1=0:=by omega
     simp only [this,beq_self_eq_true,if_true]
     exact ⟨Int.le_refl 0,by dsimp only;omega⟩
   · have yb:(y == 0)=false:=by simpa using y0
     rw [yb,tdiv_w wx ww2.1]
     simp only [Bool.false_eq_true,if_false]
     have hin:=tdiv_in (a:=x) (b:=y) ww.1 ww2.1
     split
     · exact ⟨hin.1,by dsimp only;omega⟩
     · rename_i hb0
       have hb0:¬ b.1=0:=by simpa using hb0
       have h1:=tdiv_anti (a:=a.1) (b:=x) (c:=b.2) (d:=y) a1 x1 (by omega) y2
       have h2:=tdiv_anti (a:=x) (b:=a.2) (c:=y) (d:=b.1) ww.1 x2 (by omega) y1
       exact ⟨h1,h2⟩
 split
 · unfold modS
   by_cases y0:y=0
   · subst y0
     have hb0:b.1=0:=by omega
     simp only [beq_self_eq_true,if_true,hb0]
     split
     · exact ⟨x1,x2⟩
     · exact ⟨ww.1,by dsimp only;omega⟩
   · have yb:(y == 0)=false:=by simpa using y0
     rw [yb]
     simp only [Bool.false_eq_true,if_false]
     rw [Int.tmod_eq_emod_of_nonneg ww.1]
     have hl:=Int.emod_lt_of_pos x (show 0 < y by omega)
     have hg:=Int.emod_nonneg x y0
     have hle:x % y≤x:=by
      have:=Int.emod_add_mul_ediv x y
      have h3:0≤x / y:=Int.ediv_nonneg ww.1 ww2.1
      have h4:0≤y * (x / y):=Int.mul_nonneg ww2.1 h3
      omega
     split
     · rw [Int.emod_eq_of_lt ww.1 (by omega)]
       exact ⟨x1,x2⟩
     split
     · exact ⟨hg,by dsimp only;omega⟩
     · refine ⟨hg,?_⟩
       dsimp only
       omega
 split
 · exact ⟨hand.1,by dsimp only;omega⟩
 split
 · exact ⟨by dsimp only;omega,hoo.1⟩
 split
 · exact ⟨(xorI_wd wx wy).1,hoo.2⟩
 unfold shS
 split
 · split
   · rename_i hb1
     have hb1:b.1=b.2:=by simpa using hb1
     obtain rfl:y=b.1:=by omega
     have h3:=mul_in (a:=x) (b:=shP b.1) (A:=65535) (B:=32768) ww.1 ww.2 (by omega) hp.2
     rw [wrap_in (x:=x * shP b.1) (by omega) (by omega)]
     exact ends_sound (Int.mul_le_mul_of_nonneg_right x1 (by omega)) (Int.mul_le_mul_of_nonneg_right x2 (by omega))
   · have:=emod_wd (IntKind.i64.wrap (x * shP y))
     exact ⟨this.1,this.2⟩
 · rw [fdivP ww.1 (by omega)]
   have hin:=tdiv_in (a:=x) (b:=shP y) ww.1 (by omega)
   split
   · rename_i hb1
     have hb1:b.1=b.2:=by simpa using hb1
     obtain rfl:y=b.1:=by omega
     exact ⟨tdiv_mono a1 x1 (by omega),tdiv_mono ww.1 x2 (by omega)⟩
   · exact ⟨hin.1,by dsimp only;omega⟩
theorem inK_bits {x:Int} {k:Int×Int} (hk:KOk k) (hx:wd x):inK x k↔∀ i,i < 16→((bI x).getLsbD i&&!(bI k.2).getLsbD i)=(bI k.1).getLsbD i:=by
 unfold inK
 constructor
 · intro h i hi
   have e:bI (andNotI x k.2)=bI k.1:=by rw [h]
   rw [andNotI_bv,bI_toInt] at e
   rw [← e]
   simp [show i < 64 by omega]
 · intro h
   refine bI_inj (andNotI_wd hx) hk.v ?_
   rw [andNotI_bv,bI_toInt]
   apply BitVec.eq_of_getLsbD_eq
   intro i hi
   by_cases h16:i < 16
   · rw [← h i h16];simp [hi]
   · rw [bI_wd hk.v (by omega)]
     simp [bI_wd hx (show 16≤i by omega)]
theorem inK_exact {x n:Int} (hx:wd x) (h:inK x (n,0)):x=n:=by
 unfold inK at h
 rw [andNotI_nat (b:=0) hx.nn wd0.nn] at h
 have:=hx.1
 simp at h
 omega
theorem inK_self {n:Int} (hn:wd n):inK n (n,0):=by
 unfold inK
 rw [andNotI_nat (b:=0) hn.nn wd0.nn]
 have:=hn.1
 simp
 omega
theorem inK_all {x:Int} (hx:wd x):inK x (0,65535):=by
 rw [inK_bits unk_ok hx]
 intro i hi
 rw [bI_mask,bI_zero]
 simp [hi]
theorem knN_bits {x v m:Int} (hx:wd x) (hv:wd v) (hm:wd m) (h:∀ i,i < 16→(bI m).getLsbD i=false→(bI x).getLsbD i=(bI v).getLsbD i):inK x (knN v m):=by
 rw [inK_bits (knN_ok hv hm) hx]
 intro i hi
 have h64:i < 64:=by omega
 show _=(bI (andNotI v m)).getLsbD i
 rw [andNotI_bv,bI_toInt]
 simp only [knN,BitVec.getLsbD_and,BitVec.getLsbD_not,h64,decide_true,Bool.true_and]
 have:=h i hi
 cases hmi:(bI m).getLsbD i with
 | true=>simp
 | false=>rw [this hmi]
theorem joinK_sound {x:Int} {a b:Int×Int} (ha:KOk a) (hb:KOk b) (hx:wd x) (h:inK x a∨inK x b):inK x (joinK a b):=by
 refine knN_bits hx ha.v (orI_wd (orI_wd ha.m hb.m) (xorI_wd ha.v hb.v)) fun i hi hm=>?_
 rw [orI_bv,bI_toInt,orI_bv,bI_toInt,xorI_bv,bI_toInt] at hm
 simp only [BitVec.getLsbD_or,BitVec.getLsbD_xor,Bool.or_eq_false_iff] at hm
 obtain ⟨⟨h1,h2⟩,h3⟩:=hm
 rcases h with h|h
 · have:=(inK_bits ha hx).1 h i hi
   rw [h1] at this
   simpa using this
 · have:=(inK_bits hb hx).1 h i hi
   rw [h2] at this
   have h4:(bI a.1).getLsbD i=(bI b.1).getLsbD i:=by
    revert h3;cases (bI a.1).getLsbD i<;>cases (bI b.1).getLsbD i<;>simp
   rw [h4]
   simpa using this
theorem kbI_sound {op x y:Int} {a b:Int×Int} (ho:op=6∨op=7∨op=8) (ha:KOk a) (hb:KOk b) (wx:wd x) (wy:wd y) (hx:inK x a) (hy:inK y b):inK (doI op x y) (kbI op a b):=by
 have hx:=(inK_bits ha wx).1 hx
 have hy:=(inK_bits hb wy).1 hy
 rw [inK_bits (kbI_ok ha hb) (doI_wd wx wy)]
 intro i hi
 have h1:=hx i hi
 have h2:=hy i hi
 have d1:=disj ha.dj i
 have d2:=disj hb.dj i
 have h64:i < 64:=by omega
 rcases ho with rfl|rfl|rfl
 · show ((bI (andI x y)).getLsbD i&&!(bI (andNotI (andI (orI a.1 a.2) (orI b.1 b.2)) (andI a.1 b.1))).getLsbD i)=(bI (andI a.1 b.1)).getLsbD i
   simp only [andNotI_bv,orI_bv,andI_bv,bI_toInt,BitVec.getLsbD_and,BitVec.getLsbD_not,BitVec.getLsbD_or,h64,decide_true,Bool.true_and]
   revert h1 h2 d1 d2
   cases (bI a.1).getLsbD i<;>cases (bI a.2).getLsbD i<;>cases (bI b.1).getLsbD i<;>cases (bI b.2).getLsbD i<;>cases (bI x).getLsbD i<;>cases (bI y).getLsbD i<;>simp
 · show ((bI (orI x y)).getLsbD i&&!(bI (andNotI (orI a.2 b.2) (orI a.1 b.1))).getLsbD i)=(bI (orI a.1 b.1)).getLsbD i
   simp only [andNotI_bv,orI_bv,andI_bv,bI_toInt,BitVec.getLsbD_and,BitVec.getLsbD_not,BitVec.getLsbD_or,h64,decide_true,Bool.true_and]
   revert h1 h2 d1 d2
   cases (bI a.1).getLsbD i<;>cases (bI a.2).getLsbD i<;>cases (bI b.1).getLsbD i<;>cases (bI b.2).getLsbD i<;>cases (bI x).getLsbD i<;>cases (bI y).getLsbD i<;>simp
 · show ((bI (xorI x y)).getLsbD i&&!(bI (orI a.2 b.2)).getLsbD i)=(bI (andNotI (xorI a.1 b.1) (orI a.2 b.2))).getLsbD i
   simp only [andNotI_bv,orI_bv,andI_bv,xorI_bv,bI_toInt,BitVec.getLsbD_and,BitVec.getLsbD_not,BitVec.getLsbD_or,BitVec.getLsbD_xor,h64,decide_true,Bool.true_and]
   revert h1 h2 d1 d2
   cases (bI a.1).getLsbD i<;>cases (bI a.2).getLsbD i<;>cases (bI b.1).getLsbD i<;>cases (bI b.2).getLsbD i<;>cases (bI x).getLsbD i<;>cases (bI y).getLsbD i<;>simp
def sub (x y:BitVec 64):Prop:=∀ i,x.getLsbD i=true→y.getLsbD i=true
theorem sub_mod {x y:BitVec 64} (h:sub x y) (i:Nat):x.toNat % 2 ^ i≤y.toNat % 2 ^ i:=by
 have e:x.toNat % 2 ^ i=(x.toNat % 2 ^ i) &&& (y.toNat % 2 ^ i):=by
  apply Nat.eq_of_testBit_eq
  intro j
  simp only [Nat.testBit_and,Nat.testBit_mod_two_pow]
  have:=h j
  simp only [BitVec.getLsbD] at this
  cases hx:x.toNat.testBit j
  · simp
  · simp [this hx]
 rw [e]
 exact Nat.and_le_right
theorem carry_mono {i:Nat} {x y x' y':BitVec 64} (hx:sub x x') (hy:sub y y') (c:Bool) (h:BitVec.carry i x y c=true):BitVec.carry i x' y' c=true:=by
 simp only [BitVec.carry,decide_eq_true_eq] at h ⊢
 have:=sub_mod hx i
 have:=sub_mod hy i
 omega
theorem sum_bits {i:Nat} (hi:i < 64) {l m u l' m' u':BitVec 64} (c:Bool) (h1:sub l m) (h2:sub m u) (h3:sub l' m') (h4:sub m' u')
 (e1:l.getLsbD i=u.getLsbD i) (e2:l'.getLsbD i=u'.getLsbD i) (e:(l+l'+BitVec.setWidth 64 (BitVec.ofBool c)).getLsbD i=(u+u'+BitVec.setWidth 64 (BitVec.ofBool c)).getLsbD i) :
 (m+m'+BitVec.setWidth 64 (BitVec.ofBool c)).getLsbD i=(l+l'+BitVec.setWidth 64 (BitVec.ofBool c)).getLsbD i:=by
 have em:m.getLsbD i=l.getLsbD i:=by
  have a:=h1 i;have b:=h2 i
  revert a b e1
  cases l.getLsbD i<;>cases m.getLsbD i<;>cases u.getLsbD i<;>simp
 have em':m'.getLsbD i=l'.getLsbD i:=by
  have a:=h3 i;have b:=h4 i
  revert a b e2
  cases l'.getLsbD i<;>cases m'.getLsbD i<;>cases u'.getLsbD i<;>simp
 rw [BitVec.getLsbD_add_add_bool hi,BitVec.getLsbD_add_add_bool hi] at e ⊢
 rw [em,em']
 have c1:=carry_mono (i:=i) h1 h3 c
 have c2:=carry_mono (i:=i) h2 h4 c
 rw [← e1,← e2] at e
 revert c1 c2 e
 cases BitVec.carry i l l' c<;>cases BitVec.carry i m m' c<;>cases BitVec.carry i u u' c<;>cases l.getLsbD i<;>cases l'.getLsbD i<;>simp
theorem bI_add (a b:Int):bI (a+b)=bI a+bI b:=BitVec.ofInt_add a b
theorem bI_sub (a b:Int):bI (a - b)=bI a+~~~bI b+BitVec.setWidth 64 (BitVec.ofBool true):=by
 have h:bI (a - b)+bI b=bI a:=by rw [← bI_add];exact congrArg bI (by omega)
 have h2:bI a+~~~bI b+BitVec.setWidth 64 (BitVec.ofBool true)=bI a - bI b:=by
  rw [BitVec.sub_eq_add_neg,BitVec.neg_eq_not_add,BitVec.add_assoc];rfl
 rw [h2,← h,BitVec.add_sub_cancel]
theorem bI_emod (n:Int) {i:Nat} (hi:i < 16):(bI (n % 65536)).getLsbD i=(bI n).getLsbD i:=by
 rw [← andI_mask,andI_bv,bI_toInt,BitVec.getLsbD_and,bI_mask]
 simp [hi]
theorem add0 (x:BitVec 64):x+BitVec.setWidth 64 (BitVec.ofBool false)=x:=by
 have:BitVec.setWidth 64 (BitVec.ofBool false)=0#64:=by decide
 rw [this,BitVec.add_zero]
theorem sub_lo {x:Int} {k:Int×Int} (hk:KOk k) (hx:wd x) (h:inK x k):sub (bI k.1) (bI x):=by
 intro i hi
 by_cases h16:i < 16
 · have:=(inK_bits hk hx).1 h i h16
   rw [hi] at this
   simp only [Bool.and_eq_true] at this
   exact this.1
 · rw [bI_wd hk.v (by omega)] at hi;cases hi
theorem sub_hi {x:Int} {k:Int×Int} (hk:KOk k) (hx:wd x) (h:inK x k):sub (bI x) (bI k.1 ||| bI k.2):=by
 intro i hi
 by_cases h16:i < 16
 · have:=(inK_bits hk hx).1 h i h16
   rw [hi] at this
   rw [BitVec.getLsbD_or,← this]
   cases (bI k.2).getLsbD i<;>rfl
 · rw [bI_wd hx (by omega)] at hi;cases hi
theorem sub_not {x y:BitVec 64} (h:sub x y):sub (~~~y) (~~~x):=by
 intro i hi
 simp only [BitVec.getLsbD_not,Bool.and_eq_true,decide_eq_true_eq,Bool.not_eq_true'] at hi ⊢
 refine ⟨hi.1,?_⟩
 have:=h i
 cases hx:x.getLsbD i
 · rfl
 · rw [this hx] at hi;exact absurd hi.2 (by simp)
theorem or_add {k:Int×Int} (hk:KOk k):bI k.1 ||| bI k.2=bI (k.1+k.2):=by
 rw [bI_add,BitVec.add_eq_or_of_and_eq_zero _ _ (andI_zero hk.dj)]
theorem sub_or (x y:BitVec 64):sub x (x ||| y):=fun i h=>by rw [BitVec.getLsbD_or,h];rfl
theorem sub_refl (x:BitVec 64):sub x x:=fun _ h=>h
theorem kd_add {x y:Int} {a b:Int×Int} (ha:KOk a) (hb:KOk b) (wx:wd x) (wy:wd y) (hx:inK x a) (hy:inK y b):inK (doI 1 x y) (kdI 1 a b):=by
 have w1:=ha.v;have w2:=ha.m;have w3:=hb.v;have w4:=hb.m
 unfold wd at wx wy w1 w2 w3 w4
 have e1:doI 1 x y=(x+y) % 65536:=by
  show IntKind.i64.wrap (x+y) % 65536=_
  rw [wrap_in (x:=x+y) (by omega) (by omega)]
 have e2:kdI 1 a b=knN ((a.1+b.1) % 65536) (orI (orI a.2 b.2) (xorI ((a.1+b.1) % 65536) ((a.1+a.2+b.1+b.2) % 65536))):=by
  show knN (IntKind.i64.wrap (a.1+b.1) % 65536) (orI (orI a.2 b.2) (xorI (IntKind.i64.wrap (a.1+b.1) % 65536) (IntKind.i64.wrap (IntKind.i64.wrap (IntKind.i64.wrap (a.1+a.2)+b.1)+b.2) % 65536)))=_
  rw [wrap_in (x:=a.1+b.1) (by omega) (by omega),wrap_in (x:=a.1+a.2) (by omega) (by omega),wrap_in (x:=a.1+a.2+b.1) (by omega) (by omega),wrap_in (x:=a.1+a.2+b.1+b.2) (by omega) (by omega)]
 rw [e1,e2]
 refine knN_bits (emod_wd _) (emod_wd _) (orI_wd (orI_wd ha.m hb.m) (xorI_wd (emod_wd _) (emod_wd _))) fun i hi hm=>?_
 rw [orI_bv,bI_toInt,orI_bv,bI_toInt,xorI_bv,bI_toInt] at hm
 simp only [BitVec.getLsbD_or,BitVec.getLsbD_xor,Bool.or_eq_false_iff] at hm
 obtain ⟨⟨m1,m2⟩,m3⟩:=hm
 rw [bI_emod _ hi,bI_emod _ hi] at m3
 rw [bI_emod _ hi,bI_emod _ hi]
 have e3:a.1+a.2+b.1+b.2=(a.1+a.2)+(b.1+b.2):=by omega
 rw [e3,bI_add (a.1+a.2),← or_add ha,← or_add hb] at m3
 have m3:(bI (a.1+b.1)).getLsbD i=((bI a.1 ||| bI a.2)+(bI b.1 ||| bI b.2)).getLsbD i:=by
  revert m3
  cases (bI (a.1+b.1)).getLsbD i<;>cases ((bI a.1 ||| bI a.2)+(bI b.1 ||| bI b.2)).getLsbD i<;>simp
 rw [bI_add] at m3
 rw [bI_add,bI_add]
 have:=sum_bits (i:=i) (by omega) false (sub_lo ha wx hx) (sub_hi ha wx hx) (sub_lo hb wy hy) (sub_hi hb wy hy)
  (by rw [BitVec.getLsbD_or,m1,Bool.or_false]) (by rw [BitVec.getLsbD_or,m2,Bool.or_false]) (by rw [add0,add0];exact m3)
 rwa [add0,add0] at this
theorem kd_sub {x y:Int} {a b:Int×Int} (ha:KOk a) (hb:KOk b) (wx:wd x) (wy:wd y) (hx:inK x a) (hy:inK y b):inK (doI 2 x y) (kdI 2 a b):=by
 have w1:=ha.v;have w2:=ha.m;have w3:=hb.v;have w4:=hb.m
 unfold wd at wx wy w1 w2 w3 w4
 have e1:doI 2 x y=(x - y) % 65536:=by
  show IntKind.i64.wrap (x - y) % 65536=_
  rw [wrap_in (x:=x - y) (by omega) (by omega)]
 have e2:kdI 2 a b=knN ((a.1 - b.1) % 65536) (orI (orI a.2 b.2) (xorI ((a.1+a.2 - b.1) % 65536) ((a.1 - (b.1+b.2)) % 65536))):=by
  show knN (IntKind.i64.wrap (a.1 - b.1) % 65536) (orI (orI a.2 b.2) (xorI (IntKind.i64.wrap (IntKind.i64.wrap (a.1 - b.1) % 65536+a.2) % 65536) (IntKind.i64.wrap (IntKind.i64.wrap (a.1 - b.1) % 65536 - b.2) % 65536)))=_
  rw [wrap_in (x:=a.1 - b.1) (by omega) (by omega),wrap_in (x:=(a.1 - b.1) % 65536+a.2) (by omega) (by omega),wrap_in (x:=(a.1 - b.1) % 65536 - b.2) (by omega) (by omega)]
  have f1:((a.1 - b.1) % 65536+a.2) % 65536=(a.1+a.2 - b.1) % 65536:=by omega
  have f2:((a.1 - b.1) % 65536 - b.2) % 65536=(a.1 - (b.1+b.2)) % 65536:=by omega
  rw [f1,f2]
 rw [e1,e2]
 refine knN_bits (emod_wd _) (emod_wd _) (orI_wd (orI_wd ha.m hb.m) (xorI_wd (emod_wd _) (emod_wd _))) fun i hi hm=>?_
 rw [orI_bv,bI_toInt,orI_bv,bI_toInt,xorI_bv,bI_toInt] at hm
 simp only [BitVec.getLsbD_or,BitVec.getLsbD_xor,Bool.or_eq_false_iff] at hm
 obtain ⟨⟨m1,m2⟩,m3⟩:=hm
 rw [bI_emod _ hi,bI_emod _ hi] at m3
 rw [bI_emod _ hi,bI_emod _ hi]
 rw [bI_sub,bI_sub,← or_add ha,← or_add hb] at m3
 have h64:i < 64:=by omega
 have q1:(bI a.1).getLsbD i=(bI a.1 ||| bI a.2).getLsbD i:=by rw [BitVec.getLsbD_or,m1,Bool.or_false]
 have q2:(~~~(bI b.1 ||| bI b.2)).getLsbD i=(~~~bI b.1).getLsbD i:=by simp [m2]
 have m3:(bI a.1+~~~(bI b.1 ||| bI b.2)+BitVec.setWidth 64 (BitVec.ofBool true)).getLsbD i=((bI a.1 ||| bI a.2)+~~~bI b.1+BitVec.setWidth 64 (BitVec.ofBool true)).getLsbD i:=by
  revert m3
  generalize (bI a.1+~~~(bI b.1 ||| bI b.2)+BitVec.setWidth 64 (BitVec.ofBool true)).getLsbD i=p
  generalize ((bI a.1 ||| bI a.2)+~~~bI b.1+BitVec.setWidth 64 (BitVec.ofBool true)).getLsbD i=q
  cases p<;>cases q<;>simp
 have s1:=sum_bits h64 true (sub_lo ha wx hx) (sub_hi ha wx hx) (sub_not (sub_hi hb wy hy)) (sub_not (sub_lo hb wy hy)) q1 q2 m3
 have s2:=sum_bits h64 true (sub_refl (bI a.1)) (sub_or (bI a.1) (bI a.2)) (sub_not (sub_or (bI b.1) (bI b.2))) (sub_refl (~~~bI b.1)) q1 q2 m3
 rw [bI_sub,bI_sub,s1,s2]
theorem bI_nat {x:Int} (hx:0≤x):bI x=BitVec.ofNat 64 x.toNat:=by
 obtain ⟨n,rfl⟩:=Int.eq_ofNat_of_zero_le hx
 rw [Int.toNat_natCast]
 exact BitVec.ofInt_natCast 64 n
theorem bits_nat {x:Int} (hx:wd x) {i:Nat} (hi:i < 16):(bI x).getLsbD i=x.toNat.testBit i:=by
 rw [bI_nat hx.1,BitVec.getLsbD_ofNat]
 simp [show i < 64 by omega]
theorem inK_nat {x:Int} {k:Int×Int} (hk:KOk k) (hx:wd x):inK x k↔∀ i,i < 16→(x.toNat.testBit i&&!k.2.toNat.testBit i)=k.1.toNat.testBit i:=by
 rw [inK_bits hk hx]
 constructor
 · intro h i hi
   have:=h i hi
   rwa [bits_nat hx hi,bits_nat hk.m hi,bits_nat hk.v hi] at this
 · intro h i hi
   rw [bits_nat hx hi,bits_nat hk.m hi,bits_nat hk.v hi]
   exact h i hi
theorem kd_sh {op x y:Int} {a b:Int×Int} (ho:op=9∨op=10) (ha:KOk a) (hb:KOk b) (wx:wd x) (wy:wd y) (hx:inK x a) (hy:inK y b) (h0:b.2=0):inK (doI op x y) (doI op a.1 b.1,doI op a.2 b.1):=by
 have hk:KOk (doI op a.1 b.1,doI op a.2 b.1):=sh_ok ho ha hb
 obtain rfl:y=b.1:=inK_exact wy (by unfold inK at hy ⊢;rw [h0] at hy;exact hy)
 rw [inK_nat hk (doI_wd wx wy)]
 have hx:=(inK_nat ha wx).1 hx
 have ht:=tmod16 hb.v.1
 have hn:min (Int.tmod b.1 16).toNat IntKind.i64.bits < 16:=by show min _ 64 < 16;omega
 generalize hq:min (Int.tmod b.1 16).toNat IntKind.i64.bits=k at hn
 intro i hi
 dsimp only
 rcases ho with rfl|rfl
 · have e:∀ x,doI 9 x b.1=IntKind.i64.wrap (x * 2 ^ k) % 65536:=fun x=>by rw [← hq];rfl
   rw [e,e,e,shl_mod ha.v hn,shl_mod ha.m hn,shl_mod wx hn]
   simp only [Int.toNat_natCast,Nat.testBit_mod_two_pow,Nat.testBit_shiftLeft,hi,decide_true,Bool.true_and]
   by_cases hki:k≤i
   · simp only [ge_iff_le,hki,decide_true,Bool.true_and]
     exact hx (i - k) (by omega)
   · simp [hki]
 · have e:∀ x,doI 10 x b.1=Int.fdiv x (2 ^ k):=fun x=>by rw [← hq];rfl
   rw [e,e,e,fdiv_shift ha.v,fdiv_shift ha.m,fdiv_shift wx]
   simp only [Int.toNat_natCast,Nat.testBit_shiftRight]
   by_cases hki:k+i < 16
   · exact hx (k+i) hki
   · have z:∀ n:Int,wd n→n.toNat.testBit (k+i)=false:=fun n hn=>Nat.testBit_lt_two_pow (Nat.lt_of_lt_of_le hn.lt (Nat.pow_le_pow_right (by omega) (by omega)))
     rw [z x wx,z a.1 ha.v]
     simp
theorem kdI_sound {op x y:Int} {a b:Int×Int} (ha:KOk a) (hb:KOk b) (wx:wd x) (wy:wd y) (hx:inK x a) (hy:inK y b):inK (doI op x y) (kdI op a b):=by
 have hw:=doI_wd (op:=op) wx wy
 have bk:∀ j:Int,(op == j)=true→op=j:=fun j h=>by simpa using h
 unfold kdI
 split
 · rename_i h;exact kbI_sound (.inl (bk _ h)) ha hb wx wy hx hy
 split
 · rename_i h;exact kbI_sound (.inr (.inl (bk _ h))) ha hb wx wy hx hy
 split
 · rename_i h;exact kbI_sound (.inr (.inr (bk _ h))) ha hb wx wy hx hy
 split
 · rename_i h
   obtain rfl:=bk _ h
   exact kd_add ha hb wx wy hx hy
 split
 · rename_i h
   obtain rfl:=bk _ h
   exact kd_sub ha hb wx wy hx hy
 split
 · rename_i h
   obtain rfl:=bk _ h
   split
   · rename_i h0;exact kd_sh (.inl rfl) ha hb wx wy hx hy (by simpa using h0)
   · exact inK_all hw
 split
 · rename_i h
   obtain rfl:=bk _ h
   split
   · rename_i h0;exact kd_sh (.inr rfl) ha hb wx wy hx hy (by simpa using h0)
   · exact inK_all hw
 split
 · rename_i ha0
   split
   · rename_i hb0
     have ha0:a.2=0:=by simpa using ha0
     have hb0:b.2=0:=by simpa using hb0
     obtain rfl:x=a.1:=inK_exact wx (by unfold inK at hx ⊢;rw [ha0] at hx;exact hx)
     obtain rfl:y=b.1:=inK_exact wy (by unfold inK at hy ⊢;rw [hb0] at hy;exact hy)
     exact inK_self hw
   · exact inK_all hw
 · exact inK_all hw
theorem inK_bounds {x:Int} {k:Int×Int} (hk:KOk k) (hx:wd x) (h:inK x k):k.1≤x∧x≤k.1+k.2:=by
 unfold inK at h
 have e:andNotI x k.2+andI x k.2=x:=by
  have h1:bI (andNotI x k.2)+bI (andI x k.2)=bI x:=by
   rw [andNotI_bv,andI_bv,bI_toInt,bI_toInt,BitVec.add_eq_or_of_and_eq_zero]
   · apply BitVec.eq_of_getLsbD_eq
     intro i hi
     simp only [BitVec.getLsbD_or,BitVec.getLsbD_and,BitVec.getLsbD_not,hi,decide_true,Bool.true_and]
     cases (bI x).getLsbD i<;>cases (bI k.2).getLsbD i<;>simp
   · apply BitVec.eq_of_getLsbD_eq
     intro i hi
     simp only [BitVec.getLsbD_and,BitVec.getLsbD_not,hi,decide_true,Bool.true_and]
     cases (bI x).getLsbD i<;>cases (bI k.2).getLsbD i<;>simp
  rw [← bI_add] at h1
  have a1:=andNotI_wd (b:=k.2) hx
  have a2:=and_le hx hk.m
  unfold wd at a1
  have h2:=congrArg BitVec.toNat h1
  have w1:nn (andNotI x k.2+andI x k.2):=⟨by omega,by have:=hx.2;omega⟩
  have b1:(bI (andNotI x k.2+andI x k.2)).toNat=(andNotI x k.2+andI x k.2).toNat:=bv_nn w1
  have b2:(bI x).toNat=x.toNat:=bv_nn hx.nn
  rw [b1,b2] at h2
  have:=hx.1
  omega
 have a2:=and_le hx hk.m
 omega
theorem reduS_sound {s k:Int×Int} (hs:SOk s) (hk:KOk k) {x:Int} (hx:wd x):(inS x s∧inK x k)↔∃ r,reduS s k=some r∧inS x r.1∧inK x r.2:=by
 have k1:=hk.v
 have k2:=hk.m
 unfold wd at k1 k2
 have hw:IntKind.i64.wrap (k.1+k.2)=k.1+k.2:=wrap_in (by omega) (by omega)
 have hb:=inK_bounds hk hx
 unfold reduS
 dsimp only
 rw [hw]
 generalize hlo:(if k.1 > s.1 then k.1 else s.1)=lo
 generalize hhi:(if k.1+k.2 < s.2 then k.1+k.2 else s.2)=hi
 have l1:k.1≤lo∧s.1≤lo∧(lo=k.1∨lo=s.1):=by subst hlo;split<;>omega
 have l2:hi≤k.1+k.2∧hi≤s.2∧(hi=k.1+k.2∨hi=s.2):=by subst hhi;split<;>omega
 clear hlo hhi
 have back:lo≤x→x≤hi→inS x s:=fun h1 h2=>⟨by omega,by omega⟩
 constructor
 · rintro ⟨h1,h2⟩
   have hb:=hb h2
   obtain ⟨h3,h4⟩:=h1
   rw [if_neg (by omega)]
   split
   · exact ⟨_,rfl,⟨by dsimp only;omega,by dsimp only;omega⟩,h2⟩
   · have e:x=lo:=by omega
     subst e
     rw [if_pos (by rw [beq_iff_eq];exact h2)]
     exact ⟨_,rfl,⟨by dsimp only;omega,by dsimp only;omega⟩,inK_self hx⟩
 · rintro ⟨r,hr,h1,h2⟩
   split at hr
   · cases hr
   split at hr
   · injection hr with hr
     subst hr
     exact ⟨back h1.1 h1.2,h2⟩
   split at hr
   · rename_i hm
     injection hr with hr
     subst hr
     have e:x=lo:=inK_exact hx h2
     subst e
     exact ⟨back h1.1 h1.2,by rw [beq_iff_eq] at hm;exact hm⟩
   · cases hr
theorem putV_sound {s k:Int×Int} (hs:SOk s) (hk:KOk k) {x:Int} (h1:inS x s) (h2:inK x k):inS x (putV s k).1∧inK x (putV s k).2:=by
 obtain ⟨r,hr,h3,h4⟩:=(reduS_sound hs hk (hs.wd_of h1)).1 ⟨h1,h2⟩
 unfold putV
 rw [hr]
 exact ⟨h3,h4⟩
structure InM (m:MayD) (x:MachD):Prop where
 rs:∀ i,i < 6→inS (x.regs.getD i 0) (m.reg.getD i (0,0))
 rk:∀ i,i < 6→inK (x.regs.getD i 0) (m.bits.getD i (0,0))
 cs:∀ i,i < 16→x.isset.getD i false=true→inS (x.cells.getD i 0) (m.cell.getD i (0,0))
 st:∀ i,i < 16→m.isset.getD i false=true→x.isset.getD i false=true
theorem getD_setN {α:Type} {l:List α} {i j:Nat} {x d:α} (hi:i < l.length):(l.set i x).getD j d=if i=j then x else l.getD j d:=by
 rw [List.getD_eq_getElem?_getD,List.getD_eq_getElem?_getD,List.getElem?_set]
 by_cases h:i=j
 · subst h;simp [hi]
 · simp [h]
theorem InM.pc {m:MayD} {x:MachD} (h:InM m x) (n:Int):InM m (setP x n):=⟨h.rs,h.rk,h.cs,h.st⟩
theorem InM.setR {m:MayD} {x:MachD} {i n:Int} {r:(Int×Int)×(Int×Int)} (h:InM m x) (hm:MLen m) (hx:MachOk x) (hi:i.toNat < 6) (h1:inS n r.1) (h2:inK n r.2):InM (putM m i r) (setR x i n):=by
 have l1:=hm.reg;have l2:=hm.bits;have l3:=hx.regs
 refine ⟨fun j hj=>?_,fun j hj=>?_,h.cs,h.st⟩
 · show inS ((x.regs.set i.toNat n).getD j 0) ((m.reg.set i.toNat r.1).getD j (0,0))
   rw [getD_setN (by omega),getD_setN (by omega)]
   split
   · exact h1
   · exact h.rs j hj
 · show inK ((x.regs.set i.toNat n).getD j 0) ((m.bits.set i.toNat r.2).getD j (0,0))
   rw [getD_setN (by omega),getD_setN (by omega)]
   split
   · exact h2
   · exact h.rk j hj
theorem mayV_sound {s:StepD} {m:MayD} {x:MachD} {ctx:List Int} (hm:MayOk m) (hx:MachOk x) (hc:CtxOk ctx) (hv:stepB s=true) (h:InM m x) (h0:(mayV s m).2=0) :
 (stepM s ctx x).2.1=0∧InM (mayV s m).1 (stepM s ctx x).1:=by
 have ok:=step_ok hv
 have kd:=valid_kind (.inr hv)
 obtain ⟨_,od,os,oi,oo,ot,_,_⟩:=ok
 have di:s.dst.toNat < 6:=by omega
 have si:s.src.toNat < 6:=by omega
 have rd:=regS_ok hm od.1 od.2
 have rs:=regS_ok hm os.1 os.2
 have bd:=bitS_ok hm od.1 od.2
 have bs:=bitS_ok hm os.1 os.2
 have wi:wd s.imm:=oi
 have sc:=sOk_const oi
 have kc:=kOk_const oi
 have xd1:inS (regI x s.dst) (regS m s.dst):=h.rs _ di
 have xs1:inS (regI x s.src) (regS m s.src):=h.rs _ si
 have xd2:inK (regI x s.dst) (bitS m s.dst):=h.rk _ di
 have xs2:inK (regI x s.src) (bitS m s.src):=h.rk _ si
 have wxd:=rd.wd_of xd1
 have wxs:=rs.wd_of xs1
 have ci:inS s.imm (s.imm,s.imm):=⟨Int.le_refl _,Int.le_refl _⟩
 have ki:inK s.imm (s.imm,0):=inK_self wi
 obtain ⟨k,op,dst,src,imm,to⟩:=s
 dsimp only at *
 rcases kd with rfl|rfl|rfl|rfl|rfl|rfl|rfl|rfl|rfl|rfl|rfl
 · refine ⟨rfl,?_⟩
   have:=putV_sound (stI_ok (op:=op) rd rs) (kdI_ok (op:=op) bd bs) (stI_sound rd rs xd1 xs1) (kdI_sound bd bs wxd wxs xd2 xs2)
   exact h.setR hm.len hx di this.1 this.2
 · refine ⟨rfl,?_⟩
   have:=putV_sound (stI_ok (op:=op) rd sc) (kdI_ok (op:=op) bd kc) (stI_sound rd sc xd1 ci) (kdI_sound bd kc wxd wi xd2 ki)
   exact h.setR hm.len hx di this.1 this.2
 · exact ⟨rfl,h.setR hm.len hx di ci ki⟩
 · exact ⟨rfl,h.setR hm.len hx di ci ki⟩
 · by_cases hf:(regS m src).2+imm ≥ 8
   · have:(mayV ⟨5,op,dst,src,imm,to⟩ m).2=1:=by show (if (regS m src).2+imm ≥ 8 then (m,(1:Int)) else _).2=1;rw [if_pos hf]
     omega
   · have e1:mayV ⟨5,op,dst,src,imm,to⟩ m=(putM m dst ((0,255),(0,255)),0):=by show (if (regS m src).2+imm ≥ 8 then (m,(1:Int)) else _)=_;rw [if_neg hf]
     have hr:¬ regI x src+imm ≥ 8:=by have:=xs1.2;omega
     have e2:stepM ⟨5,op,dst,src,imm,to⟩ ctx x=(setR x dst (ctx.getD (regI x src+imm).toNat 0),0,false):=by show (if regI x src+imm ≥ 8 then (x,(1:Int),false) else _)=_;rw [if_neg hr]
     rw [e1,e2]
     refine ⟨rfl,?_⟩
     have r0:0≤regI x src:=wxs.1
     have hl:(regI x src+imm).toNat < ctx.length:=by rw [hc.len];omega
     have hb:=hc.all _ (getD_memL (d:=0) hl)
     have wb:wd (ctx.getD (regI x src+imm).toNat 0):=⟨hb.1,by omega⟩
     refine h.setR hm.len hx di ⟨hb.1,hb.2⟩ ?_
     generalize ctx.getD (regI x src+imm).toNat 0=n at hb wb
     rw [inK_nat (⟨wd0,⟨by decide,by decide⟩,by decide⟩:KOk (0,255)) wb]
     intro i hi
     have hn:n.toNat < 2 ^ 8:=by omega
     show (n.toNat.testBit i&&!(255:Nat).testBit i)=(0:Nat).testBit i
     rw [show (255:Nat)=2 ^ 8 - 1 from rfl,Nat.testBit_two_pow_sub_one]
     by_cases h8:i < 8
     · simp [h8]
     · rw [Nat.testBit_lt_two_pow (Nat.lt_of_lt_of_le hn (Nat.pow_le_pow_right (by omega) (by omega)))]
       simp
 · by_cases hf:imm ≥ 16
   · have:(mayV ⟨6,op,dst,src,imm,to⟩ m).2=2:=by show (if imm ≥ 16 then (m,(2:Int)) else _).2=2;rw [if_pos hf]
     omega
   · cases hq:m.isset.getD imm.toNat false with
     | false =>
      have:(mayV ⟨6,op,dst,src,imm,to⟩ m).2=3:=by
       show (if imm ≥ 16 then (m,(2:Int)) else if m.isset.getD imm.toNat false then _ else (m,3)).2=3
       rw [if_neg hf,hq];rfl
      omega
     | true =>
      have e1:mayV ⟨6,op,dst,src,imm,to⟩ m=(putM m dst (putV (m.cell.getD imm.toNat (0,0)) (0,65535)),0):=by
       show (if imm ≥ 16 then (m,(2:Int)) else if m.isset.getD imm.toNat false then _ else (m,3))=_
       rw [if_neg hf,hq];rfl
      have ii:imm.toNat < 16:=by omega
      have hs:=h.st _ ii hq
      have e2:stepM ⟨6,op,dst,src,imm,to⟩ ctx x=(setR x dst (x.cells.getD imm.toNat 0),0,false):=by
       show (if imm ≥ 16 then (x,(2:Int),false) else if x.isset.getD imm.toNat false then _ else (x,3,false))=_
       rw [if_neg hf,hs];rfl
      rw [e1,e2]
      refine ⟨rfl,?_⟩
      have cw:=h.cs _ ii hs
      have co:=cellS_ok hm oi.1 hf
      have:=putV_sound co unk_ok cw (inK_all (co.wd_of cw))
      exact h.setR hm.len hx di this.1 this.2
 · by_cases hf:imm ≥ 16
   · have:(mayV ⟨7,op,dst,src,imm,to⟩ m).2=2:=by show (if imm ≥ 16 then (m,(2:Int)) else _).2=2;rw [if_pos hf]
     omega
   · have e1:mayV ⟨7,op,dst,src,imm,to⟩ m=({ m with cell:=m.cell.set imm.toNat (regS m dst),isset:=m.isset.set imm.toNat true },0):=by show (if imm ≥ 16 then (m,(2:Int)) else _)=_;rw [if_neg hf]
     have e2:stepM ⟨7,op,dst,src,imm,to⟩ ctx x=(setC x imm (regI x dst),0,false):=by show (if imm ≥ 16 then (x,(2:Int),false) else _)=_;rw [if_neg hf]
     rw [e1,e2]
     have ii:imm.toNat < 16:=by omega
     have l1:=hm.cell;have l2:=hm.isset;have l3:=hx.cells;have l4:=hx.isset
     refine ⟨rfl,h.rs,h.rk,fun j hj hs=>?_,fun j hj hs=>?_⟩
     · have hs:(x.isset.set imm.toNat true).getD j false=true:=hs
       show inS ((x.cells.set imm.toNat (regI x dst)).getD j 0) ((m.cell.set imm.toNat (regS m dst)).getD j (0,0))
       rw [getD_setN (by omega)] at hs
       rw [getD_setN (by omega),getD_setN (by omega)]
       by_cases e:imm.toNat=j
       · rw [if_pos e,if_pos e];exact xd1
       · rw [if_neg e] at hs
         rw [if_neg e,if_neg e];exact h.cs j hj hs
     · have hs:(m.isset.set imm.toNat true).getD j false=true:=hs
       show (x.isset.set imm.toNat true).getD j false=true
       rw [getD_setN (by omega)] at hs ⊢
       by_cases e:imm.toNat=j
       · rw [if_pos e]
       · rw [if_neg e] at hs ⊢;exact h.st j hj hs
 · exact ⟨rfl,h.pc _⟩
 · have:stepM ⟨9,op,dst,src,imm,to⟩ ctx x=if regI x dst == regI x src then (setP x (x.pc+to+1),0,false) else (setP x (x.pc+1),0,false):=rfl
   rw [this]
   show _∧InM m _
   split<;>exact ⟨rfl,h.pc _⟩
 · have:stepM ⟨10,op,dst,src,imm,to⟩ ctx x=if regI x dst < regI x src then (setP x (x.pc+to+1),0,false) else (setP x (x.pc+1),0,false):=rfl
   rw [this]
   show _∧InM m _
   split<;>exact ⟨rfl,h.pc _⟩
 · exact ⟨rfl,h⟩
theorem meetS_sound {a b:Int×Int} {x:Int} (h1:inS x a) (h2:inS x b):meetSb a b=false∧inS x (meetS a b):=by
 have m1:=mxI_ge (a:=a.1) (b:=b.1)
 have m2:=mnI_le (a:=a.2) (b:=b.2)
 obtain ⟨a1,a2⟩:=h1
 obtain ⟨b1,b2⟩:=h2
 have hf:meetSb a b=false:=by unfold meetSb;rw [decide_eq_false_iff_not];omega
 refine ⟨hf,?_⟩
 unfold meetS
 rw [hf]
 exact ⟨by simp only [Bool.false_eq_true,if_false];omega,by simp only [Bool.false_eq_true,if_false];omega⟩
theorem meetK_sound {a b:Int×Int} {x:Int} (ha:KOk a) (hb:KOk b) (hx:wd x) (h1:inK x a) (h2:inK x b):meetKb a b=false∧inK x (meetK a b):=by
 have k1:=(inK_bits ha hx).1 h1
 have k2:=(inK_bits hb hx).1 h2
 have hf:meetKb a b=false:=by
  unfold meetKb
  have:andNotI (xorI a.1 b.1) (orI a.2 b.2)=0:=by
   rw [andNotI_bv,xorI_bv,bI_toInt,orI_bv,bI_toInt]
   have:(bI a.1 ^^^ bI b.1) &&& ~~~(bI a.2 ||| bI b.2)=0#64:=by
    apply BitVec.eq_of_getLsbD_eq
    intro i hi
    by_cases h16:i < 16
    · have q1:=k1 i h16
      have q2:=k2 i h16
      simp only [BitVec.getLsbD_and,BitVec.getLsbD_xor,BitVec.getLsbD_not,BitVec.getLsbD_or,hi,decide_true,Bool.true_and,BitVec.getLsbD_zero]
      revert q1 q2
      cases (bI a.1).getLsbD i<;>cases (bI a.2).getLsbD i<;>cases (bI b.1).getLsbD i<;>cases (bI b.2).getLsbD i<;>cases (bI x).getLsbD i<;>simp
    · simp [bI_wd ha.v (show 16≤i by omega),bI_wd hb.v (show 16≤i by omega)]
   rw [this];rfl
  rw [this];rfl
 refine ⟨hf,?_⟩
 have hk:=meetK_ok ha hb
 unfold meetK at hk ⊢
 rw [hf] at hk ⊢
 simp only [Bool.false_eq_true,if_false] at hk ⊢
 rw [inK_bits hk hx]
 intro i hi
 have q1:=k1 i hi
 have q2:=k2 i hi
 dsimp only
 rw [orI_bv,bI_toInt,andI_bv,bI_toInt,BitVec.getLsbD_or,BitVec.getLsbD_and]
 revert q1 q2
 cases (bI a.1).getLsbD i<;>cases (bI a.2).getLsbD i<;>cases (bI b.1).getLsbD i<;>cases (bI b.2).getLsbD i<;>cases (bI x).getLsbD i<;>simp
theorem lessS_sound {a b:Int×Int} {x y:Int} (h1:inS x a) (h2:inS y b) (h:x < y):(lessS a b).2.2=true∧inS x (lessS a b).1∧inS y (lessS a b).2.1:=by
 have m1:=mxI_ge (a:=b.1) (b:=a.1+1)
 have m2:=mnI_le (a:=a.2) (b:=b.2 - 1)
 obtain ⟨a1,a2⟩:=h1
 obtain ⟨b1,b2⟩:=h2
 unfold lessS
 rw [if_neg (by omega)]
 exact ⟨rfl,⟨a1,by dsimp only;omega⟩,⟨by dsimp only;omega,b2⟩⟩
theorem InM.setR2 {m:MayD} {x:MachD} {i j:Int} {a b:Int×Int} (h:InM m x) (hm:MLen m) (hi:i.toNat < 6) (hj:j.toNat < 6) (h1:i.toNat=j.toNat→inS (regI x i) b) (h2:inS (regI x i) a) (h3:inS (regI x j) b):InM (setR2 m i j a b) x:=by
 have l1:=hm.reg
 refine ⟨fun k hk=>?_,h.rk,h.cs,h.st⟩
 show inS (x.regs.getD k 0) (((m.reg.set i.toNat a).set j.toNat b).getD k (0,0))
 rw [getD_setN (by simp;omega),getD_setN (by omega)]
 split
 · rename_i e;subst e;exact h3
 split
 · rename_i e;subst e;exact h2
 · exact h.rs k hk
theorem InM.setB2 {m:MayD} {x:MachD} {i j:Int} {a:Int×Int} (h:InM m x) (hm:MLen m) (hi:i.toNat < 6) (hj:j.toNat < 6) (h2:inK (regI x i) a) (h3:inK (regI x j) a):InM (setB2 m i j a) x:=by
 have l1:=hm.bits
 refine ⟨h.rs,fun k hk=>?_,h.cs,h.st⟩
 show inK (x.regs.getD k 0) (((m.bits.set i.toNat a).set j.toNat a).getD k (0,0))
 rw [getD_setN (by simp;omega),getD_setN (by omega)]
 split
 · rename_i e;subst e;exact h3
 split
 · rename_i e;subst e;exact h2
 · exact h.rk k hk
def takesB (s:StepD) (x:MachD):Bool:=if s.kind == 9 then regI x s.dst == regI x s.src else decide (regI x s.dst < regI x s.src)
theorem heedV_sound {s:StepD} {m:MayD} {x:MachD} {t:Bool} (hm:MayOk m) (hv:stepB s=true) (hk:s.kind=9∨s.kind=10) (h:InM m x) (ht:takesB s x=t) :
 (heedV s m t).2=true∧InM (heedV s m t).1 x:=by
 have ok:=step_ok hv
 obtain ⟨_,od,os,oi,oo,ot,_,_⟩:=ok
 have di:s.dst.toNat < 6:=by omega
 have si:s.src.toNat < 6:=by omega
 have rd:=regS_ok hm od.1 od.2
 have rs:=regS_ok hm os.1 os.2
 have bd:=bitS_ok hm od.1 od.2
 have bs:=bitS_ok hm os.1 os.2
 have xd1:inS (regI x s.dst) (regS m s.dst):=h.rs _ di
 have xs1:inS (regI x s.src) (regS m s.src):=h.rs _ si
 have xd2:inK (regI x s.dst) (bitS m s.dst):=h.rk _ di
 have xs2:inK (regI x s.src) (bitS m s.src):=h.rk _ si
 have wxd:=rd.wd_of xd1
 have hm6:=hm.len
 obtain ⟨k,op,dst,src,imm,to⟩:=s
 dsimp only at *
 unfold takesB at ht
 dsimp only at ht
 rcases hk with rfl|rfl
 · simp only [beq_self_eq_true,if_true] at ht
   cases t with
   | false=>exact ⟨rfl,h⟩
   | true =>
    have e:regI x dst=regI x src:=by simpa using ht
    have m1:=meetS_sound xd1 (e▸xs1)
    have m2:=meetK_sound bd bs wxd xd2 (e▸xs2)
    have e1:heedV ⟨9,op,dst,src,imm,to⟩ m true=(setB2 (setR2 m dst src (meetS (regS m dst) (regS m src)) (meetS (regS m dst) (regS m src))) dst src (meetK (bitS m dst) (bitS m src)),true):=by
     show (if meetSb (regS m dst) (regS m src) then _ else if meetKb (bitS m dst) (bitS m src) then _ else _)=_
     rw [m1.1,m2.1];rfl
    rw [e1]
    refine ⟨rfl,?_⟩
    exact (h.setR2 hm6 di si (fun _=>m1.2) m1.2 (e▸m1.2)).setB2 (setR2_len hm6) di si m2.2 (e▸m2.2)
 · have ht:decide (regI x dst < regI x src)=t:=ht
   cases t with
   | true =>
    have e:regI x dst < regI x src:=by simpa using ht
    have m1:=lessS_sound xd1 xs1 e
    have hne:(dst == src)=false:=by rw [beq_eq_false_iff_ne];intro c;subst c;omega
    have e1:heedV ⟨10,op,dst,src,imm,to⟩ m true=(setR2 m dst src (lessS (regS m dst) (regS m src)).1 (lessS (regS m dst) (regS m src)).2.1,true):=by
     show (if (lessS (regS m dst) (regS m src)).2.2 then (if dst == src then _ else _) else _)=_
     rw [m1.1,hne];rfl
    rw [e1]
    refine ⟨rfl,h.setR2 hm6 di si (fun c=>?_) m1.2.1 m1.2.2⟩
    have:dst=src:=by omega
    subst this;omega
   | false =>
    have e:¬ regI x dst < regI x src:=by simpa using ht
    cases hne:(dst == src) with
    | true =>
     have e1:heedV ⟨10,op,dst,src,imm,to⟩ m false=(m,true):=by
      show (if dst == src then (m,true) else _)=_
      rw [hne];rfl
     rw [e1];exact ⟨rfl,h⟩
    | false =>
     have hge:(regS m dst).2 ≥ (regS m src).1:=by have:=xd1.2;have:=xs1.1;omega
     have e1:heedV ⟨10,op,dst,src,imm,to⟩ m false=(setR2 m dst src (mxI (regS m dst).1 (regS m src).1,(regS m dst).2) ((regS m src).1,mnI (regS m src).2 (regS m dst).2),true):=by
      show (if dst == src then (m,true) else if (regS m dst).2 ≥ (regS m src).1 then _ else _)=_
      rw [hne,if_pos hge];rfl
     rw [e1]
     have q1:=mxI_ge (a:=(regS m dst).1) (b:=(regS m src).1)
     have q2:=mnI_le (a:=(regS m src).2) (b:=(regS m dst).2)
     have hne':dst≠src:=by simpa using hne
     obtain ⟨x1,x2⟩:=xd1
     obtain ⟨y1,y2⟩:=xs1
     refine ⟨rfl,h.setR2 hm6 di si (fun c=>?_) ⟨by dsimp only;omega,x2⟩ ⟨y1,by dsimp only;omega⟩⟩
     exact absurd (show dst=src by omega) hne'
theorem joinM_sound {a b:MayD} {x:MachD} (ha:MayOk a) (hb:MayOk b) (hx:MachOk x) (h:InM a x∨InM b x):InM (joinM a b) x:=by
 have g:∀ {α:Type} (f:α→α→α) (l r:List α) (d:α) (i:Nat),i < l.length→i < r.length→(List.zipWith f l r).getD i d=f (l.getD i d) (r.getD i d):=by
  intro α f l r d i h1 h2
  rw [List.getD_eq_getElem?_getD,List.getD_eq_getElem?_getD,List.getD_eq_getElem?_getD,List.getElem?_zipWith,List.getElem?_eq_getElem h1,List.getElem?_eq_getElem h2];rfl
 have a1:=ha.reg;have a2:=ha.bits;have a3:=ha.cell;have a4:=ha.isset
 have b1:=hb.reg;have b2:=hb.bits;have b3:=hb.cell;have b4:=hb.isset
 have js:∀ (p q:Int×Int) (n:Int),inS n p∨inS n q→inS n (joinS p q):=by
  intro p q n h
  have h1:=mnI_le (a:=p.1) (b:=q.1)
  have h2:=mxI_ge (a:=p.2) (b:=q.2)
  unfold joinS inS at *
  dsimp only
  omega
 refine ⟨fun i hi=>?_,fun i hi=>?_,fun i hi hs=>?_,fun i hi hs=>?_⟩
 · show inS _ ((List.zipWith joinS a.reg b.reg).getD i (0,0))
   rw [g _ _ _ _ _ (by omega) (by omega)]
   exact js _ _ _ (h.imp (fun h=>h.rs i hi) (fun h=>h.rs i hi))
 · show inK _ ((List.zipWith joinK a.bits b.bits).getD i (0,0))
   rw [g _ _ _ _ _ (by omega) (by omega)]
   have w:wd (x.regs.getD i 0):=hx.wr _ (getD_memL (by have:=hx.regs;omega))
   exact joinK_sound (gK_ok (ha.gb _ (getD_memL (by omega)))) (gK_ok (hb.gb _ (getD_memL (by omega)))) w (h.imp (fun h=>h.rk i hi) (fun h=>h.rk i hi))
 · show inS _ ((List.zipWith joinS a.cell b.cell).getD i (0,0))
   rw [g _ _ _ _ _ (by omega) (by omega)]
   exact js _ _ _ (h.imp (fun h=>h.cs i hi hs) (fun h=>h.cs i hi hs))
 · have hs:(List.zipWith (·&&·) a.isset b.isset).getD i false=true:=hs
   rw [g _ _ _ _ _ (by omega) (by omega),Bool.and_eq_true] at hs
   rcases h with h|h
   · exact h.st i hi hs.1
   · exact h.st i hi hs.2
theorem start_sound:InM startM newM:=by
 refine ⟨fun i hi=>?_,fun i hi=>?_,fun i hi hs=>?_,fun i hi hs=>?_⟩
 · have:i=0∨i=1∨i=2∨i=3∨i=4∨i=5:=by omega
   rcases this with rfl|rfl|rfl|rfl|rfl|rfl<;>exact ⟨by decide,by decide⟩
 · have:i=0∨i=1∨i=2∨i=3∨i=4∨i=5:=by omega
   rcases this with rfl|rfl|rfl|rfl|rfl|rfl<;>(show andNotI _ _=_;decide)
 · have e:newM.isset.getD i false=false:=by show (List.replicate 16 false).getD i false=false;rw [List.getD_eq_getElem?_getD,List.getElem?_replicate];split<;>rfl
   rw [e] at hs;cases hs
 · have e:startM.isset.getD i false=false:=by show (List.replicate 16 false).getD i false=false;rw [List.getD_eq_getElem?_getD,List.getElem?_replicate];split<;>rfl
   rw [e] at hs;cases hs
def Has (r:RepD) (j:Nat) (x:MachD):Prop:=metB r j=true∧InM (getM r j) x
theorem landM_has {p:List StepD} {r:RepD} {k j:Nat} {m:MayD} {x:MachD} (h:RepOk p r) (hm:MayOk m) (hx:MachOk x) (hj:Has r j x):Has (landM r k m) j x:=by
 obtain ⟨h1,h2⟩:=hj
 unfold landM Has
 split
 · rename_i hc
   refine ⟨h1,?_⟩
   rw [getM_set]
   split
   · rename_i e
     obtain ⟨rfl,_⟩:=e
     exact joinM_sound (h.ok k hc) hm hx (.inl h2)
   · exact h2
 · rename_i hc
   have e:k≠j:=fun e=>hc (e▸h1)
   rw [getM_set,metB_set,if_neg (fun c=>e c.1),if_neg (fun c=>e c.1)]
   exact ⟨h1,h2⟩
theorem landM_new {p:List StepD} {r:RepD} {k:Nat} {m:MayD} {x:MachD} (h:RepOk p r) (hk:k < p.length) (hm:MayOk m) (hx:MachOk x) (hj:InM m x):Has (landM r k m) k x:=by
 have l1:=h.lm
 have l2:=h.ly
 unfold landM Has
 split
 · rename_i hc
   refine ⟨hc,?_⟩
   rw [getM_set,if_pos ⟨rfl,by omega⟩]
   exact joinM_sound (h.ok k hc) hm hx (.inr hj)
 · rw [getM_set,metB_set,if_pos ⟨rfl,by omega⟩,if_pos ⟨rfl,by omega⟩]
   exact ⟨rfl,hj⟩
theorem landM_same {r:RepD} {k j:Nat} {m:MayD} (e:k≠j):getM (landM r k m) j=getM r j∧metB (landM r k m) j=metB r j:=by
 unfold landM
 split
 · refine ⟨?_,rfl⟩
   rw [getM_set,if_neg (fun c=>e c.1)]
 · rw [getM_set,metB_set,if_neg (fun c=>e c.1),if_neg (fun c=>e c.1)]
   exact ⟨rfl,rfl⟩
theorem flowS_has {p:List StepD} {s:StepD} {a:MayD} {n:Nat} {k:Int} {r:RepD} {j:Nat} {x:MachD} (h:RepOk p r) (ha:MayOk a) (hv:stepB s=true) (hx:MachOk x) (hj:Has r j x):Has (flowS s a n k r) j x:=by
 unfold flowS
 split
 · split
   · rename_i hp;exact landM_has h (heedV_ok ha hv hp) hx hj
   · exact hj
 · exact landM_has h ha hx hj
theorem flowS_same {s:StepD} {a:MayD} {n:Nat} {k:Int} {r:RepD} {j:Nat} (e:k.toNat≠j):getM (flowS s a n k r) j=getM r j∧metB (flowS s a n k r) j=metB r j:=by
 unfold flowS
 split
 · split
   · exact landM_same e
   · exact ⟨rfl,rfl⟩
 · exact landM_same e
theorem foldN_has {p:List StepD} {s:StepD} {a:MayD} {j:Nat} {x:MachD} (ha:MayOk a) (hv:stepB s=true) (hx:MachOk x):∀ (ks:List Int) (n:Nat) (r:RepD),RepOk p r→Has r j x→Has (foldN s a n ks r) j x
 | [],_,_,_,h=>h
 | k::ks,n,r,h,hj=>foldN_has ha hv hx ks (n+1) _ (flowS_ok h ha hv) (flowS_has h ha hv hx hj)
theorem foldN_same {s:StepD} {a:MayD} {j:Nat}:∀ (ks:List Int) (n:Nat) (r:RepD),(∀ k∈ks,k.toNat≠j)→getM (foldN s a n ks r) j=getM r j∧metB (foldN s a n ks r) j=metB r j
 | [],_,_,_=>⟨rfl,rfl⟩
 | k::ks,n,r,h=>by
  have i1:=foldN_same (s:=s) (a:=a) ks (n+1) (flowS s a n k r) fun x hx=>h x (List.mem_cons_of_mem _ hx)
  have i2:=flowS_same (s:=s) (a:=a) (n:=n) (r:=r) (h k List.mem_cons_self)
  rw [foldN_cons]
  exact ⟨i1.1.trans i2.1,i1.2.trans i2.2⟩
theorem foldN_new {p:List StepD} {s:StepD} {a:MayD} {x:MachD} {k:Int} (ha:MayOk a) (hv:stepB s=true) (hx:MachOk x) (hk:k.toNat < p.length) (hin:InM a x):∀ (ks:List Int) (n j:Nat) (r:RepD),RepOk p r→ks[j]? = some k→(brB s=true→takesB s x=(((n+j:Nat):Int) == 1))→Has (foldN s a n ks r) k.toNat x
 | [],_,_,_,_,h,_=>by cases h
 | k'::ks,n,0,r,h,hk',hb=>by
  obtain rfl:k'=k:=by simpa using hk'
  rw [foldN_cons]
  refine foldN_has (p:=p) ha hv hx ks (n+1) _ (flowS_ok h ha hv) ?_
  unfold flowS
  split
  · rename_i hbr
    have kd:s.kind=9∨s.kind=10:=by
     unfold brB at hbr
     simpa using hbr
    have hs:=heedV_sound ha hv kd hin (hb hbr)
    rw [show ((n+0:Nat):Int)=(n:Int) from rfl] at hs
    rw [if_pos hs.1]
    exact landM_new h hk (heedV_ok ha hv hs.1) hx hs.2
  · exact landM_new h hk ha hx hin
 | k'::ks,n,j+1,r,h,hk',hb=>by
  rw [foldN_cons]
  refine foldN_new ha hv hx hk hin ks (n+1) j _ (flowS_ok h ha hv) (by simpa using hk') (fun c=>?_)
  rw [hb c,show n+(j+1)=n+1+j by omega]
theorem anaS_has {p:List StepD} (hp:ProgOk p) {i j:Nat} {r:RepD} {x:MachD} (h:RepOk p r) (hx:MachOk x) (hj:Has r j x):Has (anaS p i r) j x:=by
 unfold anaS
 split
 · exact hj
 · rename_i s hs
   obtain ⟨hi,rfl⟩:=List.getElem?_eq_some_iff.1 hs
   have hv:=(hp.all _ hi).1
   split
   · rename_i hc
     split
     · exact foldN_has (p:=p) (mayV_ok (h.ok i hc) hv) hv hx _ _ _ h hj
     · exact hj
   · exact hj
theorem nexts_gt {s:StepD} (hv:stepB s=true) {i k:Int} (h:k∈nextsL s i):i < k:=by
 have:=(step_ok hv).to
 unfold nextsL at h
 split at h
 · cases h
 split at h
 · simp at h;omega
 split at h
 · simp at h;omega
 split at h
 · simp at h;omega
 · simp at h;omega
theorem anaS_same {p:List StepD} (hp:ProgOk p) {i j:Nat} (hij:j≤i) {r:RepD}:getM (anaS p i r) j=getM r j∧metB (anaS p i r) j=metB r j:=by
 unfold anaS
 split
 · exact ⟨rfl,rfl⟩
 · rename_i s hs
   obtain ⟨hi,rfl⟩:=List.getElem?_eq_some_iff.1 hs
   have hv:=(hp.all _ hi).1
   split
   · split
     · exact foldN_same _ _ _ fun k hk=>by have:=nexts_gt hv hk;omega
     · exact ⟨rfl,rfl⟩
   · exact ⟨rfl,rfl⟩
theorem anaN_has {p:List StepD} (hp:ProgOk p) {j n:Nat} {x:MachD} (hx:MachOk x) (hj:Has (anaN p n) j x):∀ k,Has (anaN p (n+k)) j x
 | 0=>hj
 | k+1=>anaS_has hp (anaN_ok hp _) hx (anaN_has hp hx hj k)
theorem anaN_same {p:List StepD} (hp:ProgOk p) {i:Nat}:∀ k,getM (anaN p (i+k)) i=getM (anaN p i) i∧metB (anaN p (i+k)) i=metB (anaN p i) i
 | 0=>⟨rfl,rfl⟩
 | k+1=>by
  have a:=anaS_same hp (i:=i+k) (j:=i) (by omega) (r:=anaN p (i+k))
  have b:=anaN_same hp (i:=i) k
  exact ⟨a.1.trans b.1,a.2.trans b.2⟩
theorem anaS_mono {p:List StepD} {i:Nat} {r:RepD} {b:Int} (h:b∈r.bad):b∈(anaS p i r).bad:=by
 unfold anaS
 split
 · exact h
 · split
   · split
     · rw [foldN_bad];exact h
     · exact List.mem_append_left _ h
   · exact h
theorem anaN_mono {p:List StepD} {n:Nat} {b:Int} (h:b∈(anaN p n).bad):∀ k,b∈(anaN p (n+k)).bad
 | 0=>h
 | k+1=>anaS_mono (anaN_mono h k)
def wayI (s:StepD) (x:MachD):Nat:=if brB s&&takesB s x then 1 else 0
structure Goes (s:StepD) (m:MachD) (r:MachD×Int×Bool):Prop where
 nx:(nextsL s m.pc)[wayI s r.1]? = some r.1.pc
theorem stepM_goes {s:StepD} {ctx:List Int} {m:MachD} (hv:stepB s=true) (h0:(stepM s ctx m).2.1=0) (he:(stepM s ctx m).2.2=false):Goes s m (stepM s ctx m):=by
 rcases valid_kind (.inr hv) with e|e|e|e|e|e|e|e|e|e|e
 all_goals (obtain ⟨k,o,d,r,i,t⟩:=s;dsimp only at e;subst e;constructor)
 all_goals (simp [stepM,setR,setC,setP,nextsL,wayI,brB,takesB,regI] at h0 he ⊢)
 · split at h0
   · cases h0
   · rename_i c;rw [if_neg c]
 · split at h0
   · cases h0
   · rename_i c
     rw [if_neg c]
     split at h0
     · rename_i c2;rw [if_pos c2]
     · cases h0
 · split at h0
   · cases h0
   · rename_i c;rw [if_neg c]
 · split
   · rename_i c;simp [c]
   · rename_i c;simp [c]
 · split
   · rename_i c;simp [c]
   · rename_i c;simp [c]
theorem fin_step {p:List StepD} {ctx:List Int} {m:MachD} (hp:ProgOk p) (hc:CtxOk ctx) (hm:MachOk m) (hl:m.pc < p.length) (h:Has (anaN p p.length) m.pc.toNat m) (hb:¬ m.pc∈(anaN p p.length).bad) :
 (stepAt p ctx m).2.1=0∧((stepAt p ctx m).2.2=false→Has (anaN p p.length) (stepAt p ctx m).1.pc.toNat (stepAt p ctx m).1∧m.pc < (stepAt p ctx m).1.pc):=by
 have p0:=hm.pc.1
 have sk:=step_keeps hp hc hm hl
 obtain ⟨i,hi⟩:∃ i:Nat,m.pc=i:=⟨m.pc.toNat,by omega⟩
 have hit:m.pc.toNat=i:=by omega
 have hil:i < p.length:=by omega
 have hv:=(hp.all i hil).1
 rw [hit] at h
 obtain ⟨d,hd⟩:∃ d,p.length=i+1+d:=⟨p.length - (i+1),by omega⟩
 have sm:=anaN_same hp (i:=i) (1+d)
 rw [← Nat.add_assoc,← hd] at sm
 have ro:=anaN_ok hp i
 unfold Has at h
 rw [sm.1,sm.2] at h
 have ea:stepAt p ctx m=stepM p[i] ctx m:=by unfold stepAt;rw [hit,List.getElem?_eq_getElem hil]
 have sa:anaN p (i+1)=if (mayV p[i] (getM (anaN p i) i)).2 == 0 then foldN p[i] (mayV p[i] (getM (anaN p i) i)).1 0 (nextsL p[i] i) (anaN p i) else { anaN p i with bad:=(anaN p i).bad++[(i:Int)] }:=by
  rw [anaN_succ];unfold anaS;rw [List.getElem?_eq_getElem hil];dsimp only;rw [if_pos h.1]
 have mo:=ro.ok i h.1
 by_cases hf:(mayV p[i] (getM (anaN p i) i)).2=0
 · have sd:=mayV_sound (ctx:=ctx) mo hm hc hv h.2 hf
   rw [ea] at sk ⊢
   refine ⟨sd.1,fun he=>?_⟩
   have gn:=(stepM_goes hv sd.1 he).nx
   rw [hi] at gn
   have gt:=nexts_gt hv (List.mem_of_getElem? gn)
   have pcl:=sk.pc
   rw [if_pos (by rw [hf];rfl)] at sa
   refine ⟨?_,by rw [hi];exact gt⟩
   have hn:=foldN_new (p:=p) (mayV_ok mo hv) hv sk.ok (k:=(stepM p[i] ctx m).1.pc) (by omega) sd.2 _ 0 _ _ ro gn (by
    intro hbr
    unfold wayI
    rw [hbr,Bool.true_and]
    cases takesB p[i] (stepM p[i] ctx m).1<;>rfl)
   rw [← sa] at hn
   have:=anaN_has hp sk.ok hn d
   rw [← hd] at this
   exact this
 · exfalso
   apply hb
   rw [if_neg (by simpa using hf)] at sa
   have:(i:Int)∈(anaN p (i+1)).bad:=by rw [sa];simp
   have:=anaN_mono this d
   rw [← hd] at this
   rw [hi];exact this
theorem start_has {p:List StepD} (hp:ProgOk p):Has (anaN p p.length) 0 newM:=by
 have h0:Has (anaN p 0) 0 newM:=by
  have l:=hp.len
  unfold Has anaN getM metB
  dsimp only
  rw [getD_set,getD_set,if_pos ⟨rfl,by simp;omega⟩,if_pos ⟨rfl,by simp;omega⟩]
  exact ⟨rfl,start_sound⟩
 have:=anaN_has hp newM_ok h0 p.length
 rwa [Nat.zero_add] at this
theorem run_sound {p:List StepD} {ctx:List Int} (hp:ProgOk p) (hc:CtxOk ctx) (hb:(anaN p p.length).bad=[]):∀ (n:Nat) (m:MachD) (tr:List Int),MachOk m→m.pc < p.length→Has (anaN p p.length) m.pc.toNat m→20 - m.pc≤n →
 (runF p ctx n m tr).2.1=0
 | 0,m,tr,hm,hl,h,hn=>by have:=hm.pc.2;omega
 | n+1,m,tr,hm,hl,h,hn=>by
  have sk:=step_keeps hp hc hm hl
  have fs:=fin_step hp hc hm hl h (by rw [hb];simp)
  unfold runF
  rw [if_pos (by rw [fs.1];rfl)]
  split
  · rfl
  · rename_i e
    have g:=fs.2 (by simpa using e)
    exact run_sound hp hc hb n _ _ sk.ok sk.pc g.1 (by have:=g.2;omega)
theorem runP_sound {p:List StepD} {ctx:List Int} (hp:ProgOk p) (hc:CtxOk ctx) (hb:(anaN p p.length).bad=[]):(runP p ctx 100).2.1=0 :=
 run_sound hp hc hb 100 newM [] newM_ok (by have:=hp.len;show (0:Int) < _;omega) (start_has hp) (by show 20 - (0:Int)≤_;decide)
theorem harmL_found {p:List StepD}:∀ {l:List (List Int)},(harmL p l).2.2.2=true→(harmL p l).1∈l∧(runP p (harmL p l).1 100).2.1=(harmL p l).2.1∧(runP p (harmL p l).1 100).2.2.1=(harmL p l).2.2.1∧(harmL p l).2.1 > 0
 | [],h=>by cases h
 | c::cs,h=>by
  rw [harmL_cons] at h ⊢
  split
  · rename_i e
    rw [if_pos e] at h
    have:=harmL_found h
    exact ⟨List.mem_cons_of_mem _ this.1,this.2⟩
  · rename_i e
    refine ⟨List.mem_cons_self,rfl,rfl,?_⟩
    rcases runF_fault (p:=p) (ctx:=c) (n:=100) (m:=newM) (tr:=[]) with q|q
    · exact absurd (by show (runF p c 100 newM []).2.1 == 0;rw [q];rfl) e
    · exact q
theorem let_sound {l:List UInt8} {ctx:List Int} (h:(judgeB l).2=true) (hk:(judgeB l).1.kind=1) (hc:ctxB ctx=true):(runP (readV l).1 ctx 100).2.1=0:=by
 have hg:=judge_kind h (by rw [hk];rfl)
 refine runP_sound (prog_ok hg) (ctx_ok hc) ?_
 unfold judgeB at hk h
 split at h
 · cases h
 rename_i h1
 rw [if_neg h1] at hk
 split at hk
 · have hk:(judgeV (readV l).1).kind=1:=hk
   unfold judgeV judgeG at hk
   rw [if_pos hg] at hk
   split at hk
   · rename_i c
     exact List.length_eq_zero_iff.1 (by have:=eq_of_beq c;omega)
   · split at hk
     · exact absurd (show (2:Int)=1 from hk) (by decide)
     · exact absurd (show (3:Int)=1 from hk) (by decide)
 · exfalso;revert hk;show ¬ ((4:Int)=1);decide
theorem hasI_mem {l:List Int} {n:Int} (h:n∈l):hasI l n=true:=by
 unfold hasI
 rw [List.any_eq_true]
 exact ⟨n,h,by simp⟩
theorem ctx_of {l:List Int} (h:CtxOk l):ctxB l=true:=by
 simp only [ctxB,Bool.and_eq_true,decide_eq_true_eq,List.all_eq_true,isB,inB]
 exact ⟨h.len,h.all⟩
theorem judgeV_away {p:List StepD} (hk:(judgeV p).kind=2):goodP p=true∧ctxB (judgeV p).wit=true∧(runP p (judgeV p).wit 100).2.1=(judgeV p).fault∧(runP p (judgeV p).wit 100).2.2.1=(judgeV p).pc∧(judgeV p).fault > 0:=by
 unfold judgeV at hk ⊢
 split at hk
 · rename_i hg
   rw [if_pos hg]
   unfold judgeG at hk ⊢
   split at hk
   · exact absurd (show (1:Int)=2 from hk) (by decide)
   · rename_i h1
     rw [if_neg h1]
     split at hk
     · rename_i h2
       rw [if_pos h2]
       have e:harmV p=harmL p (triesOf (seenL p)):=by unfold harmV;rw [if_pos hg]
       have hf:=harmL_found (p:=p) (l:=triesOf (seenL p)) (e▸h2)
       rw [← e] at hf
       exact ⟨hg,ctx_of (tries_ctx (prog_ok hg) _ hf.1),hf.2.1,hf.2.2.1,hf.2.2.2⟩
     · exact absurd (show (3:Int)=2 from hk) (by decide)
 · exact absurd (show (0:Int)=2 from hk) (by decide)
theorem judgeV_true {p:List StepD} (hg:goodP p=true):trueV p (judgeV p)=true:=by
 have hw:=judgeV_away (p:=p)
 unfold judgeV at hw ⊢
 rw [if_pos hg] at hw ⊢
 unfold judgeG at hw ⊢
 by_cases h1:((anaN p p.length).bad.length:Int) == 0
 · rw [if_pos h1]
   unfold trueV
   dsimp only
   rw [if_neg (by simp),if_neg (by decide),if_pos (by decide),h1]
   decide
 · rw [if_neg h1] at hw ⊢
   by_cases h2:(harmV p).2.2.2=true
   · rw [if_pos h2] at hw ⊢
     obtain ⟨_,h3,h4,h5,h6⟩:=hw rfl
     dsimp only at h3 h4 h5 h6
     unfold trueV
     dsimp only
     rw [if_neg (by simp),if_neg (by decide),if_neg (by decide),if_pos (by decide),if_pos h3,if_neg (by omega),h4,h5]
     simp
   · rw [if_neg h2]
     unfold trueV
     dsimp only
     rw [if_neg (by simp),if_neg (by decide),if_neg (by decide),if_neg (by decide)]
     have:(anaN p p.length).bad≠[]:=fun c=>h1 (by rw [c];rfl)
     have hm:hasI (anaN p p.length).bad ((anaN p p.length).bad.getD 0 0)=true:=by
      apply hasI_mem
      cases h:(anaN p p.length).bad with
      | nil=>exact absurd h this
      | cons x l=>simp
     rw [hm];decide
theorem judge_check {l:List UInt8} (h:(judgeB l).2=true):checkV l (judgeB l).1=(true,true):=by
 unfold judgeB at h
 split at h
 · cases h
 rename_i h1
 unfold checkV judgeB
 rw [if_neg h1,if_neg h1]
 by_cases h2:(readV l).2.2=true
 · rw [if_pos h2,if_pos h2]
   dsimp only
   rw [judgeV_true (readV_good h2)]
 · rw [if_neg h2,if_neg h2]
   simp
theorem judge_broken {l:List UInt8} (h:(judgeB l).2=true):((readV l).2.2 == ((judgeB l).1.kind == 4))=false:=by
 unfold judgeB at h ⊢
 split at h
 · cases h
 rename_i h1
 rw [if_neg h1]
 by_cases h2:(readV l).2.2=true
 · rw [if_pos h2,h2]
   have hg:=readV_good h2
   show (true == ((judgeV (readV l).1).kind == 4))=false
   unfold judgeV judgeG
   rw [if_pos hg]
   split
   · rfl
   split
   · rfl
   · rfl
 · rw [if_neg h2]
   have:(readV l).2.2=false:=by simpa using h2
   rw [this];rfl
theorem judgeB_away {l:List UInt8} (h:(judgeB l).2=true) (hk:(judgeB l).1.kind=2):goodP (readV l).1=true∧ctxB (judgeB l).1.wit=true∧(runP (readV l).1 (judgeB l).1.wit 100).2.1=(judgeB l).1.fault∧(runP (readV l).1 (judgeB l).1.wit 100).2.2.1=(judgeB l).1.pc∧(judgeB l).1.fault > 0:=by
 unfold judgeB at h hk ⊢
 split at h
 · cases h
 rename_i h1
 rw [if_neg h1] at hk ⊢
 by_cases h2:(readV l).2.2=true
 · rw [if_pos h2] at hk ⊢
   exact judgeV_away hk
 · rw [if_neg h2] at hk
   exact absurd (show (4:Int)=2 from hk) (by decide)
set_option maxHeartbeats 16000000
theorem same_end {α:Type} {a b:List α} {k:Nat} (hl:a.length=b.length) (hk:a.length≤k) (h:∀ i,i < k→a[i]? = b[i]?):a=b:=by
 apply List.ext_getElem?
 intro i
 by_cases hi:i < k
 · exact h i hi
 · rw [List.getElem?_eq_none (by omega),List.getElem?_eq_none (by omega)]
theorem same_not {α:Type} {a b:List α} {i:Nat} (h1:i < a.length) (h2:i < b.length) (h:a[i]≠b[i]):a≠b:=fun e=>by subst e;exact h rfl
theorem laws_sameInts.fc (a b:List Int) (ha:a.length≤4294967296) (hb:b.length≤4294967296):FCt prog F_laws_sameInts [.ro,.ro] [ints a,ints b] (Bb (decide (a=b))) []:=by
 refine fct_run laws_sameInts.ok rfl ?_
 by_cases hl:a.length=b.length
 · have e1:((a.length:Int) != b.length)=false:=by rw [hl];simp
   simp only [go_sem,e1]
   refine R_loop (α:=Nat) (fun k s' M'=>k≤a.length∧s' 13=aI k∧∀ i,i < k→a[i]? = b[i]?) (fun k=>a.length - k) 0 ⟨Nat.zero_le _,by simp only [go_sem];try rfl,fun i hi=>absurd hi (Nat.not_lt_zero i)⟩ ?_
   rintro k s' M' ⟨hk,h13,hr⟩ ho
   unfold laws_sameInts.b0
   have j0:s' 0=.dat none (ints a):=by rw [ho 0 rfl];simp only [go_sem]
   have j1:s' 1=.dat none (ints b):=by rw [ho 1 rfl];simp only [go_sem]
   have j12:s' 12=aI a.length:=by rw [ho 12 rfl];simp only [go_sem]
   clear ho
   by_cases hlt:k < a.length
   · have hi':(k:Int) < a.length:=by omega
     have ga:a[k]? = some a[k]:=List.getElem?_eq_getElem hlt
     have hw:IntKind.i64.wrap (k+1)=((k+1:Nat):Int):=wrap_k hlt (by omega)
     have gb:b[k]? = some b[k]:=List.getElem?_eq_getElem (by omega)
     have hb':(k:Int) < b.length:=by omega
     by_cases hx:a[k]=b[k]
     · have hx':(a[k] != b[k])=false:=by simp [hx]
       simp only [go_sem,hi',hb',ga,gb,hx',hw,j0,j1,j12,h13]
       refine ⟨k+1,by dsimp only;omega,by omega,by simp only [go_sem,j0,j1,j12,h13],fun i hi=>?_⟩
       by_cases c:i < k
       · exact hr i c
       · obtain rfl:i=k:=by omega
         rw [ga,gb,hx]
     · have hne:=same_not hlt (by omega) hx
       have hd:decide (a=b)=false:=by simp [hne]
       have hx':(a[k] != b[k])=true:=by simp [hx]
       generalize a[k]=x at *
       simp only [go_sem,hi',hb',ga,gb,hx',hd,j0,j1,j12,h13];try rfl
   · have hi':¬ (k:Int) < a.length:=by omega
     obtain rfl:k=a.length:=by omega
     have e:=same_end hl hk hr
     have hd:decide (a=b)=true:=by simp [e]
     simp only [go_sem,Int.lt_irrefl,hd,j0,j1,j12,h13];try rfl
 · have e1:((a.length:Int) != b.length)=true:=by simp;omega
   have hd:decide (a=b)=false:=by simp;intro e;exact hl (by rw [e])
   simp only [go_sem,e1,hd];try rfl
theorem laws_sameVerdict.fc (v:VerD) (hv:v.wit.length≤4294967296):FCt prog F_laws_sameVerdict [.ro,.ro] [v.d,v.d] (Bb true) []:=by
 obtain ⟨vk,vc,vw,vf,vp,vs⟩:=v
 have c1:=laws_sameInts.fc vw vw hv hv
 have e:decide (vw=vw)=true:=by simp
 rw [e] at c1
 have e1:(vk == vk)=true:=by simp
 have e2:(vc == vc)=true:=by simp
 have e3:(vf == vf)=true:=by simp
 have e4:(vp == vp)=true:=by simp
 have e5:(vs == vs)=true:=by simp
 refine fct_run laws_sameVerdict.ok rfl ?_
 simp only [go_sem,e1,e2,e3,e4,e5]
 refine fcW_bool c1 ?_
 simp only [go_sem,e1,e2,e3,e4,e5];try rfl
theorem hasByte {d:D} (h:HasTy (.int .u8) d):∃ n:Int,d=.int .u8 n∧(0≤n∧n≤255):=by
 simp only [HasTy] at h
 obtain ⟨n,rfl,h⟩:=h
 refine ⟨n,rfl,?_⟩
 simp [Lit.wf,IntKind.has,IntKind.min,IntKind.max,IntKind.signed,IntKind.bits] at h
 exact ⟨by omega,by omega⟩
theorem hasBytes {d:D} (h:HasTy (.sl (.int .u8)) d):∃ l:List Int,d=.sl 1 (l.map (fun n=>(.int .u8 n:D)))∧l.length≤9223372036854775807∧∀ b∈l,0≤b∧b≤255 :=
 hasSl (f:=fun n=>(.int .u8 n:D)) (p:=fun b=>0≤b∧b≤255) (fun _ h=>hasByte h) h
end Go.Vm.YtmbhjcgikblpiaaGreat
