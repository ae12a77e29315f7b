/- What the functions that the law reaches return: part 2 (the conditions stand at each). -/
import Derived.Test.YtdebllkmblakkaaWka
open Int renaming reduceEq → iQ, reduceBEq → iB, reduceBNe → iX, reduceNeg → iN, reduceAdd → iA, reduceSub → iS, reduceMul → iM
namespace Go.Vm.Ytdebllkmblakkaa
open Go Go.Vm
set_option maxRecDepth 10000
set_option maxHeartbeats 4000000
set_option linter.unusedSimpArgs false
set_option linter.unusedVariables false
def modelB (n k:Nat):List Bool:=(List.range n).map fun i=>k.testBit i
theorem modelB_get {n k i:Nat} (h:i < n):(modelB n k)[i]? = some (k.testBit i):=by simp [modelB,h]
theorem model_ex (p:Nat→Bool):∀ n,∃ k,k < 2 ^ n∧∀ i,i < n→k.testBit i=p i
 | 0=>⟨0,by simp,fun i h=>by omega⟩
 | n+1=>by
  obtain ⟨k,h1,h2⟩:=model_ex p n
  refine ⟨2 ^ n * (if p n then 1 else 0)+k,?_,fun i hi=>?_⟩
  · rw [Nat.pow_succ];split<;>omega
  · rw [Nat.testBit_two_pow_mul_add _ h1]
    by_cases e:i < n
    · rw [if_pos e];exact h2 i e
    · obtain rfl:i=n:=by omega
      rw [if_neg e,Nat.sub_self]
      cases p i<;>rfl
theorem shr_nat (k:Nat) {i:Nat} (hi:i≤63):Int.fdiv (k:Int) (2 ^ min i 64)=((k >>> i:Nat):Int):=by
 rw [Nat.min_eq_left (by omega),Int.fdiv_eq_ediv_of_nonneg _ (Int.pow_nonneg (by omega)),Nat.shiftRight_eq_div_pow]
 simp
theorem bit_nat {k i:Nat} (hk:k < 9223372036854775808):(IntKind.i64.wrap ((BitVec.ofInt 64 ((k >>> i:Nat):Int) &&& BitVec.ofInt 64 1).toNat:Nat) == 1)=k.testBit i:=by
 have h1:k >>> i < 9223372036854775808:=by
  rw [Nat.shiftRight_eq_div_pow]
  exact Nat.lt_of_le_of_lt (Nat.div_le_self _ _) hk
 have e:(BitVec.ofInt 64 ((k >>> i:Nat):Int) &&& BitVec.ofInt 64 1).toNat=(k >>> i) % 2:=by
  rw [BitVec.toNat_and]
  have a1:(BitVec.ofInt 64 ((k >>> i:Nat):Int)).toNat=k >>> i:=by
   rw [BitVec.toNat_ofInt]
   generalize k >>> i=q at h1
   omega
  have a2:(BitVec.ofInt 64 1).toNat=1:=by decide
  rw [a1,a2,Nat.and_one_is_mod]
 rw [e,wrap_in (by omega) (by omega)]
 unfold Nat.testBit
 rw [Nat.and_comm,Nat.and_one_is_mod]
 have:(k >>> i) % 2=0∨(k >>> i) % 2=1:=by omega
 rcases this with h|h<;>rw [h]<;>rfl
def hallD (n:Int) (l:List (List Int)) (m:List Bool):D:=if goodC n l&&decide ((m.length:Int)=n) then .tup [Bb (l.all (holdsC m)),Bb true] else .tup [Bb false,Bb false]
theorem goodC_all {n:Int} {l:List (List Int)} (h:goodC n l=true):(0≤n∧n≤12)∧l.length≤60∧∀ c∈l,c.length≤12∧∀ x∈c,litB x n=true:=by
 have hl:=goodC_lit h
 simp only [goodC,Bool.and_eq_true,List.all_eq_true,inB,decide_eq_true_eq] at h
 refine ⟨h.1.1,h.1.2,fun c hc=>⟨?_,hl c hc⟩⟩
 have:=h.2 c hc
 unfold clauseB at this
 rw [Bool.and_eq_true,decide_eq_true_eq] at this
 exact this.2
def allInB (m:List Bool) (l:List Int):Bool:=l.all (litIn m)
structure LeOk (n:Int) (l:List RuleD) (s:List Int) (may:Bool) (c:List (List Int)) (N:Nat):Prop where
 nN:n=N
 n12:N≤12
 sl:s.length≤13
 hs:holdsI n l s=.tup [Bb may,Bb true]
 rc:rcD n l=.tup [intss c,Bb true]
 cl:c.length≤60
 ce:∀ x∈c,x.length≤12
 horn:hornD n c=.tup [Bb true,Bb true]
 hm:∀ m:List Bool,m.length=N→holdsI n l (soOf m N)=.tup [Bb (c.all (holdsC m)),Bb true]∧hallD n c m=.tup [Bb (c.all (holdsC m)),Bb true]∧(c.all (holdsC m)=true→allInB m s=true∧may=true)
 lit:∀ x∈s,litB x N=true
 some:may=true→∃ k,k < 2 ^ N∧c.all (holdsC (modelB N k))=true
theorem lit_pos {x:Int} {N:Nat} (h:1≤x∧x≤(N:Int)):litB x N=true:=by
 simp only [litB,inB,Bool.and_eq_true,decide_eq_true_eq,bne_iff_ne]
 omega
theorem le_is (n:Int) (l:List RuleD):∃ (s:List Int) (may ok:Bool) (c:List (List Int)) (N:Nat),leastD n l=.tup [ints s,Bb may,Bb ok]∧ok=goodRules n l∧s.length≤13∧(ok=true→LeOk n l s may c N):=by
 cases hg:goodRules n l with
 | false=>exact ⟨[],false,false,[],0,by unfold leastD;rw [hg];rfl,rfl,by simp,fun h=>by cases h⟩
 | true =>
  have h1:leastD n l=.tup [ints (leastP l).1,Bb (fineR l (leastP l).1),Bb true]:=by unfold leastD;rw [hg];rfl
  obtain ⟨hn,hl,hr⟩:=good_rules hg
  obtain ⟨N,rfl⟩:∃ N:Nat,n=N:=⟨n.toNat,by omega⟩
  have n12:N≤12:=by omega
  have hin:=leastP_in hr
  have hris:=leastP_ris n12 hr
  have hok:=leastP_ok2 n12 hr
  have hlen:=((leastP_ok n12 (fun r h=>(good_thn (hr r h)).2)).len n12).1
  have hgc:=clausesR_good hg
  obtain ⟨_,c60,hc⟩:=goodC_all hgc
  have all_okR:∀ m:List Bool,l.all (okR (soOf m N))=(clausesR l).all (holdsC m):=fun m=>rules_clauses n12 hr
  refine ⟨_,_,true,clausesR l,N,h1,rfl,hlen,fun _=>⟨rfl,n12,hlen,?_,?_,c60,fun x hx=>(hc x hx).1,?_,?_,fun x hx=>lit_pos (hin.pos x hx),?_⟩⟩
  · unfold holdsI
    rw [hg,hris,hok];rfl
  · unfold rcD
    rw [hg];rfl
  · unfold hornD
    rw [hgc,clausesR_horn hg];rfl
  · intro m hml
    refine ⟨?_,?_,?_⟩
    · unfold holdsI
      rw [hg,soOf_ris (Int.le_refl _),all_okR];rfl
    · unfold hallD
      rw [hgc,decide_eq_true (by rw [hml])];rfl
    · intro h
      rw [← all_okR] at h
      obtain ⟨h2,h3⟩:=model_least n12 hr (fun x hx=>by have:=soOf_mem.1 hx;omega) h
      refine ⟨?_,h3⟩
      unfold allInB
      rw [List.all_eq_true]
      intro x hx
      have h4:=hin.pos x hx
      have h5:=soOf_mem.1 (hasI_iff.1 (h2 x hx))
      unfold litIn
      rw [varI_pos (by omega),h5.2.2]
      simp;omega
  · intro h
    obtain ⟨k,hk,hb⟩:=model_ex (fun i=>hasI (leastP l).1 ((i:Int)+1)) N
    refine ⟨k,hk,?_⟩
    rw [← all_okR]
    have e:hasI (soOf (modelB N k) N)=hasI (leastP l).1:=by
     funext x
     rw [Bool.eq_iff_iff,hasI_iff,soOf_mem,hasI_iff]
     constructor
     · rintro ⟨a,b,d⟩
       rw [List.getD_eq_getElem?_getD,modelB_get (by omega),Option.getD_some,hb _ (by omega)] at d
       have:=hasI_iff.1 d
       rw [show (((x - 1).toNat:Nat):Int)+1=x by omega] at this
       exact this
     · intro hx
       have hp:=hin.pos x hx
       refine ⟨by omega,by omega,?_⟩
       rw [List.getD_eq_getElem?_getD,modelB_get (by omega),Option.getD_some,hb _ (by omega),show (((x - 1).toNat:Nat):Int)+1=x by omega]
       exact hasI_iff.2 hx
    have e2:okR (soOf (modelB N k) N)=okR (leastP l).1:=by
     funext r
     unfold okR
     rw [e]
    rw [e2,hok];exact h
def gives (l:List RuleD) (x:Int) (i:Int):Bool:=(ruleAt l i.toNat).thn == x
def whyD (n:Int) (l:List RuleD) (x:Int):D:=if goodRules n l then (match (leastP l).2.findIdx? (gives l x) with
 | none=>.tup [.sl 1 [],Bb false]
 | some j=>.tup [ints ((leastP l).2.take (j+1)),Bb true]) else .tup [.sl 1 [],Bb false]
theorem impl_WhyOf_c1.fc (i:Int) (l:List RuleD) (x:Int) (h:0≤i∧i < l.length):FCt prog F_impl_WhyOf_c1 [.ro,.ro,.ro] [Ii i,.ptr (rules l),.ptr (Ii x)] (Bb (gives l x i)) []:=by
 refine fct_run impl_WhyOf_c1.ok rfl ?_
 have h0:=h.1
 have h1:=h.2
 have hlt:i.toNat < l.length:=by omega
 have ga:l[i.toNat]? = some l[i.toNat]:=List.getElem?_eq_getElem hlt
 unfold gives
 rw [ruleAt_get hlt]
 simp only [go_sem,h0,h1,ga]
theorem impl_WhyOf.fc (n:Int) (l:List RuleD) (x:Int) (hl:l.length≤4294967296) (hi:∀ r∈l,r.ifs.length≤4294967296):FCt prog F_impl_WhyOf [.ro,.ro,.ro] [Ii n,rules l,Ii x] (whyD n l x) []:=by
 refine fct_run impl_WhyOf.ok rfl ?_
 unfold whyD
 simp only [go_sem]
 refine fcW_bool (impl_GoodRules.fc l n hl hi) ?_
 cases hg:goodRules n l with
 | false=>simp only [go_sem]
 | true =>
  obtain ⟨hn,hl2,hr⟩:=good_rules hg
  obtain ⟨N,rfl⟩:∃ N:Nat,n=N:=⟨n.toNat,by omega⟩
  have hok:=leastP_ok (n:=N) (l:=l) (by omega) (fun r h=>(good_thn (hr r h)).2)
  have hlen:=hok.len (by omega)
  simp only [go_sem]
  refine fcW_bool (impl_in.fc ..) ?_
  cases hx:inB x 1 N with
  | false =>
   have e:(leastP l).2.findIdx? (gives l x)=none:=findIdx_none (List.all_eq_true.2 fun i hm=>by
    obtain ⟨a,b,c⟩:=hok.apl i hm
    have hlt:i.toNat < l.length:=by omega
    have:=good_thn (hr (ruleAt l i.toNat) (by rw [ruleAt_get hlt];exact List.getElem_mem hlt))
    have:¬ (ruleAt l i.toNat).thn=x:=fun he=>by rw [← he,inB,Bool.and_eq_false_iff,decide_eq_false_iff_not,decide_eq_false_iff_not] at hx;omega
    simp [gives,this])
   simp only [go_sem,e]
  | true =>
   simp only [go_sem]
   refine fcW_bd (impl_least.fc N l (by omega) hl2 hi hr) (noRs_t2 noRs_bools noRs_ints) ?_
   generalize leastP l=P at *
   obtain ⟨so,ap⟩:=P
   dsimp only at hok hlen ⊢
   have htr:((isRow N so).map Bb).take (N+1)=(isRow N so).map Bb:=List.take_of_length_le (by simp [isRow_len])
   simp only [go_sem,isRow_len,htr,take_map_len]
   refine fcW_int (slices_IndexFunc__sint_int.fc ap F_impl_WhyOf_c1 [.ptr (rules l),.ptr (Ii x)] (gives l x) (by omega) (fun i hm=>impl_WhyOf_c1.fc i l x (by have:=hok.apl i hm;omega))) ?_
   cases hc:ap.findIdx? (gives l x) with
   | none =>
    have e:idxB (gives l x) ap = -1:=by unfold idxB;rw [hc]
    simp only [go_sem,e,isRow_len,htr,take_map_len]
   | some j =>
    have e:idxB (gives l x) ap=(j:Int):=by unfold idxB;rw [hc]
    have hj:j < ap.length:=by
     rw [List.findIdx?_eq_some_iff_getElem] at hc
     exact hc.1
    have hn0:¬ (j:Int) < 0:=by omega
    have hw1:IntKind.i64.wrap ((j:Int)+1)=((j+1:Nat):Int):=by rw [wrap_in (by omega) (by omega)];omega
    have hle:((j+1:Nat):Int)≤ap.length:=by omega
    have hle':j+1≤ap.length:=by omega
    simp only [go_sem,e,hn0,hw1,hle,hle',Int.sub_zero,List.drop_zero,← List.map_take,isRow_len,htr,take_map_len]
theorem spec_WhyOf.fc (n:Int) (l:List RuleD) (x:Int) (hl:l.length≤4294967296) (hi:∀ r∈l,r.ifs.length≤4294967296):FCt prog F_spec_WhyOf [.ro,.ro,.ro] [Ii n,rules l,Ii x] (whyD n l x) []:=by
 refine fct_run spec_WhyOf.ok rfl ?_
 unfold whyD
 simp only [go_sem]
 refine fcW_bool (spec_GoodRules.fc l n hl hi) ?_
 cases hg:goodRules n l with
 | false=>simp only [go_sem]
 | true =>
  obtain ⟨hn,hl2,hr⟩:=good_rules hg
  obtain ⟨N,rfl⟩:∃ N:Nat,n=N:=⟨n.toNat,by omega⟩
  have hok:=leastP_ok (n:=N) (l:=l) (by omega) (fun r h=>(good_thn (hr r h)).2)
  have hlen:=hok.len (by omega)
  simp only [go_sem]
  refine fcW_bd (spec_l16Least.fc N l (by omega) hl2 hi hr) (noRs_t3 noRs_ints noRs_ints rfl) ?_
  generalize leastP l=P at *
  obtain ⟨so,ap⟩:=P
  dsimp only at hok hlen ⊢
  simp only [go_sem,take_map_len]
  refine R_loop (α:=Nat) (fun k s' M'=>k≤ap.length∧s' 25=aI k∧(ap.take k).all (fun i=>!gives l x i)=true∧∃ v,s' 23=.sl 641 v 0 ap.length 1∧s' 9=.sl 641 v 0 ap.length 1∧M'.m 641=some (.arr v true 1 (ap.map Ii))) (fun k=>ap.length - k) 0
   ⟨by omega,by simp only [go_sem];rfl,by simp,_,by simp only [go_sem];rfl,by simp only [go_sem],by simp only [go_sem]⟩ ?_
  rintro k s' M' ⟨hk,h25,hrd,v,h23,h9,hm⟩ ho
  unfold spec_WhyOf.b0
  have k1:s' 1=.dat none (rules l):=by rw [ho 1 rfl];simp only [go_sem]
  have k2:s' 2=aI x:=by rw [ho 2 rfl];simp only [go_sem]
  have k24:s' 24=aI ap.length:=by rw [ho 24 rfl];simp only [go_sem]
  clear ho
  by_cases hlt:k < ap.length
  · have hi':(k:Int) < ap.length:=by omega
    have ga:ap[k]? = some ap[k]:=List.getElem?_eq_getElem hlt
    have hw:IntKind.i64.wrap (k+1)=((k+1:Nat):Int):=wrap_k hlt (by omega)
    obtain ⟨a0,a1,_⟩:=hok.apl _ (List.getElem_mem hlt)
    have hla:ap[k].toNat < l.length:=by omega
    have gl:l[ap[k].toNat]? = some l[ap[k].toNat]:=List.getElem?_eq_getElem hla
    have hgv:gives l x ap[k]=(l[ap[k].toNat].thn == x):=by unfold gives;rw [ruleAt_get hla]
    simp only [go_sem,hi',ga,a0,a1,gl,k1,k2,k24,h25,h23,h9,hm]
    cases hc:(l[ap[k].toNat].thn == x) with
    | false =>
     rw [hc] at hgv
     simp only [go_sem,hw,k1,k2,k24,h25,h23,h9,hm]
     exact ⟨k+1,by dsimp only;omega,by omega,by simp only [go_sem,k1,k2,k24,h25,h23,h9,hm],all_take hlt hrd (by rw [hgv];rfl),v,by simp only [go_sem,k1,k2,k24,h25,h23,h9,hm],by simp only [go_sem,k1,k2,k24,h25,h23,h9,hm],by simp only [go_sem,k1,k2,k24,h25,h23,h9,hm]⟩
    | true =>
     rw [hc] at hgv
     have hfi:=findIdx_first hlt hrd hgv
     have hw1:IntKind.i64.wrap ((k:Int)+1)=((k+1:Nat):Int):=by rw [wrap_in (by omega) (by omega)];omega
     have hle:((k+1:Nat):Int)≤ap.length:=by omega
     have hle':k+1≤ap.length:=by omega
     have hbb:(k+1) * 8≤70368744177664:=by omega
     have hmin:min (k+1) ap.length=k+1:=by omega
     have htk:((ap.take (k+1)).map Ii).take (k+1)=(ap.take (k+1)).map Ii:=List.take_of_length_le (by simp;omega)
     simp only [go_sem,hw1,hle,hle',Int.sub_zero,List.drop_zero,← List.map_take,hfi,hbb,allSc,List.length_take,hmin,htk,k1,k2,k24,h25,h23,h9,hm]
  · have hi':¬ (k:Int) < ap.length:=by omega
    obtain rfl:k=ap.length:=by omega
    rw [List.take_length] at hrd
    simp only [go_sem,hi',findIdx_none hrd,k1,k2,k24,h25,h23,h9,hm]
def thensL (l:List RuleD) (w:List Int):List Int:=w.map fun i=>(ruleAt l i.toNat).thn
structure WhyOk (n:Int) (l:List RuleD) (x:Int) (w:List Int):Prop where
 gr:goodRules n l=true
 at':∀ j,j < w.length→0≤w.getD j 0∧w.getD j 0 < l.length
 why:∀ j,j < w.length→∀ y∈(ruleAt l (w.getD j 0).toNat).ifs,(thensL l (w.take j)).any (· == y)=true
 ne:0 < w.length
 last:(thensL l w).getD (w.length - 1) 0=x
 has:(leastP l).1.any (· == x)=true
theorem take_getD {l:List Int} {k j:Nat} (h:j < k) (hk:k≤l.length):(l.take k).getD j 0=l.getD j 0:=by
 rw [List.getD_eq_getElem?_getD,List.getD_eq_getElem?_getD,List.getElem?_take,if_pos h]
theorem leastI_len (l:List RuleD):∀ (f:Nat) (so ap:List Int),(leastI l f so ap).2.length≤ap.length+f
 | 0,so,ap=>by simp [leastI]
 | f+1,so,ap=>by
  simp only [leastI]
  cases l.findIdx? (readyR so) with
  | none=>simp
  | some i=>have:=leastI_len l f (putI so (ruleAt l i).thn) (ap++[(i:Int)]);simp at this ⊢;omega
theorem why_law (n:Int) (l:List RuleD) (x:Int):∃ (w:List Int) (ok:Bool),whyD n l x=.tup [ints w,Bb ok]∧w.length≤14∧(ok=true→WhyOk n l x w):=by
 unfold whyD
 split
 case isFalse=>exact ⟨[],false,rfl,by simp,fun h=>by cases h⟩
 rename_i hg
 obtain ⟨hn,hl2,hr⟩:=good_rules hg
 obtain ⟨N,rfl⟩:∃ N:Nat,n=N:=⟨n.toNat,by omega⟩
 have hi:=leastP_in (n:=N) (l:=l) hr
 have hlen:(leastP l).2.length≤14:=by have:=leastI_len l 14 [] [];simpa [leastP] using this
 cases hf:(leastP l).2.findIdx? (gives l x) with
 | none=>exact ⟨[],false,rfl,by simp,fun h=>by cases h⟩
 | some j =>
  rw [List.findIdx?_eq_some_iff_getElem] at hf
  obtain ⟨hj,hgv,_⟩:=hf
  refine ⟨(leastP l).2.take (j+1),true,rfl,by rw [List.length_take];omega,fun _=>?_⟩
  have hl:((leastP l).2.take (j+1)).length=j+1:=by rw [List.length_take];omega
  have hx:(ruleAt l (leastP l).2[j].toNat).thn=x:=by simpa [gives] using hgv
  refine ⟨hg,fun i hi2=>?_,fun i hi2 y hy=>?_,by omega,?_,?_⟩
  · rw [hl] at hi2
    rw [take_getD hi2 (by omega)]
    have:=hi.at' ((leastP l).2.getD i 0) (by rw [List.getD_eq_getElem?_getD,List.getElem?_eq_getElem (by omega)];exact List.getElem_mem _)
    exact ⟨this.1,this.2.1⟩
  · rw [hl] at hi2
    rw [take_getD hi2 (by omega)] at hy
    have:=hi.why i (by omega) y hy
    rw [List.take_take,show min i (j+1)=i by omega]
    exact hasI_iff.2 this
  · rw [hl,Nat.add_sub_cancel]
    unfold thensL
    rw [List.getD_eq_getElem?_getD,List.getElem?_map,List.getElem?_take,if_pos (by omega),List.getElem?_eq_getElem hj]
    exact hx
  · refine hasI_iff.2 ((hi.thens x).2 ?_)
    rw [List.mem_map]
    exact ⟨(leastP l).2[j],List.getElem_mem _,hx⟩
theorem thens_step {l:List RuleD} {w:List Int} {k:Nat} (h:k < w.length):thensL l (w.take (k+1))=thensL l (w.take k)++[(ruleAt l (w.getD k 0).toNat).thn]:=by
 unfold thensL
 rw [List.take_add_one,List.getElem?_eq_getElem h,List.map_append]
 simp [List.getD_eq_getElem?_getD,h]
theorem meet_ok {l:List RuleD} {a b:List Int} (ha:l.all (okR a)=true) (hb:l.all (okR b)=true):l.all (okR (a.filter (hasI b)))=true:=by
 rw [List.all_eq_true] at ha hb ⊢
 intro r hm
 have h1:=okR_iff.1 (ha r hm)
 have h2:=okR_iff.1 (hb r hm)
 refine okR_iff.2 fun h=>?_
 rw [List.all_eq_true] at h
 have key:∀ y,hasI (a.filter (hasI b)) y=true↔hasI a y=true∧hasI b y=true:=by
  intro y
  rw [hasI_iff,List.mem_filter,hasI_iff (l:=a)]
 have k1:r.ifs.all (hasI a)=true:=List.all_eq_true.2 fun y hy=>((key y).1 (h y hy)).1
 have k2:r.ifs.all (hasI b)=true:=List.all_eq_true.2 fun y hy=>((key y).1 (h y hy)).2
 exact (key _).2 ⟨h1 k1,h2 k2⟩
def listO (N k:Nat):List Int:=soOf (modelB N k) N
theorem listO_pw {N k:Nat}:(listO N k).Pairwise (· < ·):=by
 unfold listO soOf
 rw [List.pairwise_map]
 refine List.Pairwise.filter _ ?_
 exact List.pairwise_lt_range.imp fun h=>by omega
theorem listO_mem {N k:Nat} {x:Int} (h:x∈listO N k):1≤x∧x≤N:=by
 have:=soOf_mem.1 h
 exact ⟨this.1,this.2.1⟩
theorem listO_ris {N k:Nat} {n:Int} (h:(N:Int)≤n):rising 1 n (listO N k)=true:=ris_of listO_pw fun x hx=>by have:=listO_mem hx;omega
theorem meetO_ris {N k:Nat} {p:Int→Bool} {n:Int} (h:(N:Int)≤n):rising 1 n ((listO N k).filter p)=true :=
 ris_of (listO_pw.filter p) fun x hx=>by have:=listO_mem (List.mem_filter.1 hx |>.1);omega
theorem listO_len {N k:Nat}:(listO N k).length≤N:=soOf_len
set_option maxHeartbeats 16000000
abbrev curA (c:CurD):AV:=.agg [.dat none (.sl 1 (c.code.map Ub)),.dat none (Ii c.pos),.dat none (.int .u64 c.seed)]
def ArcsQ (m:Nat) (r:D) (outs:List D):Prop:=∃ (n:Int) (l:List (Int×Int)) (c':CurD),r=.tup [Ii n,arcs l]∧outs=[.ptr c'.d]∧(0≤n∧n≤7)∧l.length≤30∧CurOk c' m
theorem ArcsQ.mk {m:Nat} {n:Int} {l:List (Int×Int)} {c':CurD} (h1:0≤n∧n≤7) (h2:l.length≤30) (h3:CurOk c' m):ArcsQ m (.tup [Ii n,arcs l]) [.ptr c'.d]:=⟨n,l,c',rfl,rfl,h1,h2,h3⟩
def CleanQ (n:Nat) (r:D) (outs:List D):Prop:=∃ (w:List Int) (b:Bool),r=.tup [ints w,Bb b]∧outs=[]∧w.length≤n
theorem CleanQ.mk {n:Nat} {w:List Int} {b:Bool} (h2:w.length≤n):CleanQ n (.tup [ints w,Bb b]) []:=⟨w,b,rfl,rfl,h2⟩
theorem clean_ex (c:List Int) (hc:c.length≤1000):∃ (w:List Int) (b:Bool),w.length≤c.length∧FCt prog F_spec_CleanClause [.ro] [ints c] (.tup [ints w,Bb b]) []:=by
 suffices H:∃ r outs,CleanQ c.length r outs∧FCt prog F_spec_CleanClause [.ro] [ints c] r outs by
  obtain ⟨_,_,⟨w,b,rfl,rfl,h1⟩,hf⟩:=H
  exact ⟨w,b,h1,hf⟩
 refine fct_ex _ spec_CleanClause.ok rfl rfl ?_
 simp only [go_sem]
 refine cdW_dec (fun h40=>?_) (fun h40=>?_)
 · simp only [go_sem]
   exact CleanQ.mk (w:=[]) (by simp)
 simp only [go_sem]
 refine R_loop (α:=Nat×List Int) (fun a s' M'=>a.1≤c.length∧a.2.length≤a.1∧s' 12=aI a.1∧∃ v,s' 4=.sl 2432 v 0 a.2.length 1∧M'.m 2432=some (.arr v true 1 (a.2.map Ii))) (fun a=>c.length - a.1) (0,[])
  ⟨by omega,by simp,by simp only [go_sem];try rfl,_,by simp only [go_sem];try rfl,by simp only [go_sem];try rfl⟩ ?_
 rintro ⟨k,w⟩ s2 M2 ⟨hk,hwl,g12,v,g4,gm⟩ ho
 dsimp only at hk hwl g12 g4 gm
 unfold spec_CleanClause.b0
 have j10:s2 10=.dat none (ints c):=by rw [ho 10 rfl];simp only [go_sem]
 have j11:s2 11=aI c.length:=by rw [ho 11 rfl];simp only [go_sem]
 clear ho
 by_cases hlt:k < c.length
 · have hi':(k:Int) < c.length:=by omega
   have ga:c[k]? = some c[k]:=List.getElem?_eq_getElem hlt
   have hw:IntKind.i64.wrap (k+1)=((k+1:Nat):Int):=wrap_k hlt (by omega)
   generalize c[k]=x at ga
   have hno:CleanQ c.length (.tup [ints [],Bb false]) []:=CleanQ.mk (by simp)
   have neg:IntKind.i64.wrap (0 - x)=IntKind.i64.wrap (0 - x):=rfl
   have i1:=spec_l1In.fc x (-12) 12
   have h1:=spec_l1Has.fc w (IntKind.i64.wrap (0 - x)) (by omega)
   have h2:=spec_l1Has.fc w x (by omega)
   have hbb:(w.length+1) * 8≤70368744177664:=by omega
   have sn:w.map Ii++[Ii x]=(w++[x]).map Ii:=by simp
   cases hx0:(x == 0) with
   | true =>
    simp only [go_sem,hi',ga,hx0,j10,j11,g12,g4,gm]
    exact hno
   | false =>
    simp only [go_sem,hi',ga,hx0,j10,j11,g12,g4,gm]
    refine fcW_bool i1 ?_
    cases inB x (-12) 12 with
    | false =>
     simp only [go_sem,j10,j11,g12,g4,gm]
     exact hno
    | true =>
     simp only [go_sem,take_map_len,j10,j11,g12,g4,gm]
     refine fcW_bool h1 ?_
     cases w.any (· == IntKind.i64.wrap (0 - x)) with
     | true =>
      simp only [go_sem,j10,j11,g12,g4,gm]
      exact hno
     | false =>
      simp only [go_sem,take_map_len,j10,j11,g12,g4,gm]
      refine fcW_bool h2 ?_
      cases w.any (· == x) with
      | true =>
       simp only [go_sem,hw,j10,j11,g12,g4,gm]
       exact ⟨(k+1,w),by dsimp only;omega,by dsimp only;omega,by dsimp only;omega,by simp only [go_sem,j10,j11,g12,g4,gm],v,by simp only [go_sem,j10,j11,g12,g4,gm],by simp only [go_sem,j10,j11,g12,g4,gm]⟩
      | false =>
       simp only [go_sem,hw,hbb,take_map_len,j10,j11,g12,g4,gm]
       exact ⟨(k+1,w++[x]),by dsimp only;omega,by dsimp only;omega,by simp;omega,by simp only [go_sem,j10,j11,g12,g4,gm],_,by simp only [go_sem,List.length_append,j10,j11,g12,g4,gm];rfl,by simp only [go_sem,j10,j11,g12,g4,gm];rw [← sn]⟩
 · have hi':¬ (k:Int) < c.length:=by omega
   obtain rfl:k=c.length:=by omega
   simp only [go_sem,Int.lt_irrefl,take_map_len,j10,j11,g12,g4,gm]
   exact CleanQ.mk (by omega)
def LitQ (m:Nat) (r:D) (outs:List D):Prop:=∃ (x:Int) (c':CurD),r=Ii x∧outs=[.ptr c'.d]∧CurOk c' m
theorem lit_ex (c:CurD) (k:Int) (hk:0≤k∧k≤100) {m:Nat} (h:CurOk c (m+4)):∃ (x:Int) (c':CurD),CurOk c' m∧FCt prog F_spec_pl1Cur_lit [.io,.ro] [.ptr c.d,Ii k] (Ii x) [.ptr c'.d]:=by
 suffices H:∃ r outs,LitQ m r outs∧FCt prog F_spec_pl1Cur_lit [.io,.ro] [.ptr c.d,Ii k] r outs by
  obtain ⟨_,_,⟨x,c',rfl,rfl,h1⟩,hf⟩:=H
  exact ⟨x,c',h1,hf⟩
 refine fct_ex _ spec_pl1Cur_lit.ok rfl rfl ?_
 have f1:=spec_pl1Cur_pick.fc c k (m:=m+2) h
 have o1:CurOk (pickC c k) (m+2):=pickC_ok h
 generalize pickV c k=n0 at f1
 generalize pickC c k=c1 at f1 o1
 have f2:=spec_pl1Cur_one.fc c1 2 (m:=m) o1
 have o2:CurOk (pickC c1 2) m:=pickC_ok o1
 generalize pickC c1 2=c2 at f2 o2
 simp only [go_sem]
 refine coW_c f1 ?_
 simp only [go_sem]
 refine coW_c f2 ?_
 cases (pickV c1 2 == 0) with
 | true =>
  simp only [go_sem]
  exact ⟨_,c2,rfl,rfl,o2⟩
 | false =>
  simp only [go_sem]
  exact ⟨_,c2,rfl,rfl,o2⟩
def TwosQ (m:Nat) (r:D) (outs:List D):Prop:=∃ (n:Int) (l:List (List Int)) (c':CurD),r=.tup [Ii n,intss l]∧outs=[.ptr c'.d]∧(0≤n∧n≤13)∧l.length≤11∧(∀ r∈l,r.length≤3)∧CurOk c' m
theorem TwosQ.mk {m:Nat} {n:Int} {l:List (List Int)} {c':CurD} (h1:0≤n∧n≤13) (h2:l.length≤11) (h3:∀ r∈l,r.length≤3) (h4:CurOk c' m):TwosQ m (.tup [Ii n,intss l]) [.ptr c'.d]:=⟨n,l,c',rfl,rfl,h1,h2,h3,h4⟩
def ClsQ (m:Nat) (r:D) (outs:List D):Prop:=∃ (n:Int) (l:List (List Int)) (c':CurD),r=.tup [Ii n,intss l]∧outs=[.ptr c'.d]∧(0≤n∧n≤13)∧l.length≤13∧(∀ r∈l,r.length≤4)∧CurOk c' m
theorem ClsQ.mk {m:Nat} {n:Int} {l:List (List Int)} {c':CurD} (h1:0≤n∧n≤13) (h2:l.length≤13) (h3:∀ r∈l,r.length≤4) (h4:CurOk c' m):ClsQ m (.tup [Ii n,intss l]) [.ptr c'.d]:=⟨n,l,c',rfl,rfl,h1,h2,h3,h4⟩
def RowH (x:AV) (M:Mem) (nms:List Nat) (ds:List D):Prop:=(ds=[]∧x=.nil 1)∨∃ nm∈nms,∃ v,x=.sl nm v 0 ds.length 1∧M.m nm=some (.arr v true 1 ds)
theorem clauses_ex (c:CurD) {m:Nat} (h:CurOk c (m+2000)):∃ (n:Int) (l:List (List Int)) (c':CurD),(0≤n∧n≤13)∧l.length≤13∧(∀ r∈l,r.length≤4)∧CurOk c' m∧FCt prog F_spec_pl1Cur_clauses [.io] [.ptr c.d] (.tup [Ii n,intss l]) [.ptr c'.d]:=by
 suffices H:∃ r outs,ClsQ m r outs∧FCt prog F_spec_pl1Cur_clauses [.io] [.ptr c.d] r outs by
  obtain ⟨_,_,⟨n,l,c',rfl,rfl,h1,h2,h3,h4⟩,hf⟩:=H
  exact ⟨n,l,c',h1,h2,h3,h4,hf⟩
 refine fct_ex _ spec_pl1Cur_clauses.ok rfl rfl ?_
 have f1:=spec_pl1Cur_pick.fc c 6 (m:=m+1998) h
 have o1:CurOk (pickC c 6) (m+1998):=pickC_ok h
 have p1:=pickV_in (c:=c) (n:=6) (by omega)
 generalize pickV c 6=n0 at f1 p1
 generalize pickC c 6=c1 at f1 o1
 have f2:=spec_pl1Cur_one.fc c1 30 (m:=m+1996) o1
 have o2:CurOk (pickC c1 30) (m+1996):=pickC_ok o1
 generalize (pickV c1 30 == 0)=b1 at f2
 generalize pickC c1 30=c2 at f2 o2
 have f3:=spec_pl1Cur_among.fc c2 [0,10,13] (by simp) (by simp) (m:=m+1994) o2
 have o3:CurOk (pickC c2 ([0,10,13]:List Int).length) (m+1994):=pickC_ok o2
 have m3:amongV c2 [0,10,13]=0∨amongV c2 [0,10,13]=10∨amongV c2 [0,10,13]=13:=by simpa using amongV_mem c2 [0,10,13] (by simp)
 generalize amongV c2 [0,10,13]=n1 at f3 m3
 generalize pickC c2 ([0,10,13]:List Int).length=c3 at f3 o3
 have w1:IntKind.i64.wrap (1+n0)=1+n0:=wrap_in (by omega) (by omega)
 simp only [go_sem]
 refine coW_c f1 ?_
 simp only [go_sem,w1]
 refine coW_c f2 ?_
 simp only [go_sem]
 refine cdW_cut (fun e s' M'=>e=.n∧∃ (n:Nat) (u:CurD),n≤13∧CurOk u (m+1994)∧s' 0=.ptr 0 0 0 none∧s' 4=aI n∧M'.m 0=some (.box 0 (curA u))∧(M'.r != 0)=true) ?_ ?_
 · cases b1
   · simp only [go_sem]
     exact ⟨(1+n0).toNat,c2,by omega,o2.mono (by omega),by congr 2;omega,rfl,rfl⟩
   · simp only [go_sem]
     refine coW_c f3 ?_
     simp only [go_sem]
     exact ⟨n1.toNat,c3,by omega,o3,by congr 2;omega,rfl,rfl⟩
 clear f1 f2 f3 o1 o2 o3 p1 m3 w1
 rintro e s' M' ⟨rfl,n,u,hn,hu,g0,g4,gm,hr0⟩ ho
 have g7:s' 7=.bad:=by rw [ho 7 rfl];simp only [go_sem];rfl
 clear ho
 have f1:=spec_pl1Cur_pick.fc u 14 (m:=m+1992) hu
 have o1:CurOk (pickC u 14) (m+1992):=pickC_ok hu
 have p1:=pickV_in (c:=u) (n:=14) (by omega)
 generalize pickV u 14=n0 at f1 p1
 generalize pickC u 14=c1 at f1 o1
 simp only [go_sem,gm,g0,g4,g7]
 refine coW_c f1 ?_
 simp only [go_sem,g0,g4,g7]
 refine cdW_cut (fun e s' M'=>e=.n∧∃ (k:Nat),k≤13∧s' 6=aI k∧M'.m 0=some (.box 0 (curA c1))∧(M'.r != 0)=true) ?_ ?_
 · cases (((n:Nat):Int) == 0)
   · simp only [go_sem,g0,g4,g7]
     exact ⟨n0.toNat,by omega,by congr 2;omega,hr0⟩
   · simp only [go_sem,g0,g4,g7]
     exact ⟨0,by omega,rfl,hr0⟩
 clear f1 p1
 clear hr0
 rintro e s2 M2 ⟨rfl,N,hN,g6,gm,hr0⟩ ho
 have j0:s2 0=.ptr 0 0 0 none:=by rw [ho 0 rfl];simp only [go_sem,g0,g4,g7]
 have j4:s2 4=aI n:=by rw [ho 4 rfl];simp only [go_sem,g0,g4,g7]
 have j5:s2 5=.nil 1:=by rw [ho 5 rfl];simp only [go_sem,g0,g4,g7]
 have j7:s2 7=.bad:=by rw [ho 7 rfl];simp only [go_sem,g0,g4,g7]
 clear ho
 simp only [go_sem,gm,g6,nmW,g0,g4,g7,j0,j4,j5,j7]
 refine R_loop (α:=Nat×List (List Int)×CurD) (fun a s' M'=>a.1≤N∧a.2.1.length+a.1≤N∧(∀ r∈a.2.1,r.length≤3)∧CurOk a.2.2 (m+100+60 * a.1)∧s' 6=aI a.1∧M'.m 0=some (.box 0 (curA a.2.2))∧(M'.r != 0)=true∧∃ v,s' 5=.sl 3200 v 0 a.2.1.length 1∧M'.m 3200=some (.arr v true 1 (a.2.1.map ints))) (fun a=>a.1) (N,[],c1)
  ⟨Nat.le_refl _,by simp,by simp,o1.mono (by omega),by simp only [go_sem,g6,g0,g4,g7,j0,j4,j5,j7];try rfl,by simp only [go_sem,gm,g0,g4,g7,j0,j4,j5,j7];try rfl,by simp only [go_sem,g0,g4,g7,j0,j4,j5,j7];try exact hr0,_,by simp only [go_sem,g0,g4,g7,j0,j4,j5,j7];try rfl,by simp only [go_sem,g0,g4,g7,j0,j4,j5,j7];try rfl⟩ ?_
 clear o1 g6 gm hr0
 rintro ⟨j,l,u⟩ s3 M3 ⟨hj,hjl,hl,hu,g6,gm,hr0,v,g5,gr⟩ ho
 dsimp only at hj hjl hl hu g6 gm g5 gr
 unfold spec_pl1Cur_clauses.b1
 have j0:s3 0=.ptr 0 0 0 none:=by rw [ho 0 rfl];simp only [go_sem,g0,g4,g7,j0,j4,j5,j7]
 have j4:s3 4=aI n:=by rw [ho 4 rfl];simp only [go_sem,g0,g4,g7,j0,j4,j5,j7]
 clear ho
 have hr1:¬ M3.r=0:=by simpa using hr0
 cases j with
 | zero =>
  have hz:¬ ((0:Nat):Int) > 0:=by omega
  by_cases h1:(l.length:Int) > 0
  · have f1:=spec_pl1Cur_one.fc u 30 (m:=m+50) (hu.mono (by omega))
    have o1:CurOk (pickC u 30) (m+50):=pickC_ok (hu.mono (by omega))
    generalize pickC u 30=u1 at f1 o1
    simp only [go_sem,hz,h1,g0,g4,g7,j0,j4,j5,j7,j0,j4,g6,gm,g5,gr]
    refine coW_c f1 ?_
    cases (pickV u 30 == 0) with
    | false =>
     simp only [go_sem,take_map_len,g0,g4,g7,j0,j4,j5,j7,j0,j4,g6,gm,g5,gr]
     exact ClsQ.mk (by omega) (by omega) (fun r hr=>Nat.le_succ_of_le (hl r hr)) (o1.mono (by omega))
    | true =>
     have f3:=spec_pl1Cur_among.fc u1 [0,13,1] (by simp) (by simp) (m:=m) (o1.mono (by omega))
     have o3:CurOk (pickC u1 ([0,13,1]:List Int).length) m:=pickC_ok (o1.mono (by omega))
     generalize amongV u1 [0,13,1]=n1 at f3
     generalize pickC u1 ([0,13,1]:List Int).length=c3 at f3 o3
     have k0:(0:Int) < l.length:=by omega
     have k1:([0]:List Nat).contains 3200=false:=rfl
     have e0:l[0]? = some l[0]:=List.getElem?_eq_getElem (by omega)
     have e1:l[0].length≤3:=hl _ (List.getElem_mem _)
     have sn:(l.map ints).set 0 (ints (l[0]++[n1]))=(l.set 0 (l[0]++[n1])).map ints:=by rw [List.map_set]
     have sl:(l.set 0 (l[0]++[n1])).length=l.length:=by simp
     simp only [go_sem,k0,k1,e0,hr0,hr1,g0,g4,g7,j0,j4,j5,j7,j0,j4,g6,gm,g5,gr]
     refine coW_c f3 ?_
     have hb1:(l[0].length+1) * 8≤70368744177664:=by omega
     have sm:l[0].map Ii++[Ii n1]=(l[0]++[n1]).map Ii:=by simp
     have sd:((l.map ints).set 0 D.dead).set 0 (ints (l[0]++[n1]))=(l.set 0 (l[0]++[n1])).map ints:=by rw [List.set_set,sn]
     have s2:(l[0]++[n1]).length=l[0].length+1:=by simp
     have hle:l[0].length+1≤(l[0]++[n1]).length:=by rw [s2];exact Nat.le_refl _
     have tk:((l[0]++[n1]).map Ii).take (l[0].length+1)=(l[0]++[n1]).map Ii:=List.take_of_length_le (by simp)
     have xs0:((l.map ints).set 0 D.dead)[0]? = some .dead:=by rw [List.getElem?_set_self (by rw [List.length_map];omega)]
     have hle2:l.length≤(l.set 0 (l[0]++[n1])).length:=by rw [sl];exact Nat.le_refl _
     have tk2:((l.set 0 (l[0]++[n1])).map ints).take l.length=(l.set 0 (l[0]++[n1])).map ints:=List.take_of_length_le (by simp)
     have hz0:(l.map ints).length=l.length:=List.length_map ..
     simp only [go_sem,k0,k1,e0,hr0,hr1,hb1,take_map_len,sm,sd,hle,tk,xs0,hle2,tk2,g0,g4,g7,j0,j4,j5,j7,j0,j4,g6,gm,g5,gr]
     refine ClsQ.mk (m:=m) (n:=n) (c':=c3) (l:=l.set 0 (l[0]++[n1])) (by omega) (by rw [sl];omega) ?_ o3
     intro r hr
     rcases List.mem_or_eq_of_mem_set hr with hr|rfl
     · exact Nat.le_succ_of_le (hl r hr)
     · omega
  · simp only [go_sem,hz,h1,take_map_len,g0,g4,g7,j0,j4,j5,j7,j0,j4,g6,gm,g5,gr]
    exact ClsQ.mk (by omega) (by omega) (fun r hr=>Nat.le_succ_of_le (hl r hr)) (hu.mono (by omega))
 | succ j =>
  have hz:((j+1:Nat):Int) > 0:=by omega
  have hw:IntKind.i64.wrap (((j+1:Nat):Int) - 1)=(j:Int):=by rw [wrap_in (by omega) (by omega)];omega
  have f1:=spec_pl1Cur_pick.fc u 3 (m:=m+100+60 * j+50) (hu.mono (by omega))
  have o1:CurOk (pickC u 3) (m+100+60 * j+50):=pickC_ok (hu.mono (by omega))
  have p1:=pickV_in (c:=u) (n:=3) (by omega)
  generalize pickV u 3=n0 at f1 p1
  generalize pickC u 3=c2 at f1 o1
  have w1:IntKind.i64.wrap (1+n0)=((1+n0).toNat:Int):=by rw [wrap_in (by omega) (by omega)];omega
  generalize hQ:(1+n0).toNat=Q at w1
  have hQ3:Q≤3:=by omega
  clear hQ
  simp only [go_sem,hz,g0,g4,g7,j0,j4,j5,j7,j0,j4,g6,gm,g5,gr]
  refine coW_c f1 ?_
  simp only [go_sem,w1,g0,g4,g7,j0,j4,j5,j7,j0,j4,g6,gm,g5,gr]
  clear f1 p1
  refine R_loop (α:=Nat×List Int×CurD) (fun a s' M'=>a.1≤Q∧a.2.1.length+a.1≤Q∧CurOk a.2.2 (m+100+60 * j+10 * a.1)∧s' 8=aI a.1∧M'.m 0=some (.box 0 (curA a.2.2))∧(M'.r != 0)=true∧(∃ v,s' 5=.sl 3200 v 0 l.length 1∧M'.m 3200=some (.arr v true 1 (l.map ints)))∧RowH (s' 7) M' [2176] (a.2.1.map Ii)) (fun a=>a.1) (Q,[],c2)
   ⟨Nat.le_refl _,by simp,o1.mono (by omega),by simp only [go_sem,g0,g4,g7,j0,j4,j5,j7,j0,j4,g6,gm,g5,gr];try rfl,by simp only [go_sem,g0,g4,g7,j0,j4,j5,j7,j0,j4,g6,gm,g5,gr];try rfl,by simp only [go_sem,g0,g4,g7,j0,j4,j5,j7,j0,j4,g6,gm,g5,gr];try exact hr0,⟨_,by simp only [go_sem,g0,g4,g7,j0,j4,j5,j7,j0,j4,g6,gm,g5,gr];try rfl,by simp only [go_sem,g0,g4,g7,j0,j4,j5,j7,j0,j4,g6,gm,g5,gr];try rfl⟩,.inl ⟨rfl,by simp only [go_sem,g0,g4,g7,j0,j4,j5,j7,j0,j4,g6,gm,g5,gr];try rfl⟩⟩ ?_
  clear o1
  rintro ⟨i,x,u2⟩ s4 M4 ⟨hi,hix,hu2,g8,gm4,hr4,⟨v4,g54,gr4⟩,hX⟩ ho
  dsimp only at hi hix hu2 g8 gm4 g54 gr4 hX
  unfold spec_pl1Cur_clauses.b0
  have q0:s4 0=.ptr 0 0 0 none:=by rw [ho 0 rfl];simp only [go_sem,g0,g4,g7,j0,j4,j5,j7,j0,j4,g6,gm,g5,gr]
  have q4:s4 4=aI n:=by rw [ho 4 rfl];simp only [go_sem,g0,g4,g7,j0,j4,j5,j7,j0,j4,g6,gm,g5,gr]
  have q6:s4 6=aI ((j+1:Nat):Int):=by rw [ho 6 rfl];simp only [go_sem,g0,g4,g7,j0,j4,j5,j7,j0,j4,g6,gm,g5,gr]
  clear ho
  have hr5:¬ M4.r=0:=by simpa using hr4
  cases i with
  | zero =>
   have hz2:¬ ((0:Nat):Int) > 0:=by omega
   obtain ⟨y,ok,yl,f4⟩:=clean_ex x (by omega)
   have hbb:(l.length+1) * 24≤70368744177664:=by omega
   have sn:l.map ints++[ints y]=(l++[y]).map ints:=by simp
   have key:∀ r∈l++[y],r.length≤3:=by
    intro r hr
    rcases List.mem_append.1 hr with hr|hr
    · exact hl r hr
    · obtain rfl:r=y:=by simpa using hr
      omega
   rcases hX with ⟨hx,g7⟩|⟨nm,hnm,w,g7,gw⟩
   · obtain rfl:x=[]:=by simpa using hx
     simp only [go_sem,hz2,g0,g4,g7,j0,j4,j5,j7,j0,j4,g6,gm,g5,gr,q0,q4,q6,g8,gm4,g54,gr4,g7]
     refine fcW_bd f4 (noRs_t2 noRs_ints rfl) ?_
     cases ok with
     | false =>
      simp only [go_sem,hw,g0,g4,g7,j0,j4,j5,j7,j0,j4,g6,gm,g5,gr,q0,q4,q6,g8,gm4,g54,gr4,g7]
      exact ⟨(j,l,u2),by dsimp only;omega,by dsimp only;omega,by dsimp only;omega,hl,hu2.mono (by omega),by simp only [go_sem,g0,g4,g7,j0,j4,j5,j7,j0,j4,g6,gm,g5,gr,q0,q4,q6,g8,gm4,g54,gr4,g7],by simp only [go_sem,g0,g4,g7,j0,j4,j5,j7,j0,j4,g6,gm,g5,gr,q0,q4,q6,g8,gm4,g54,gr4,g7],by simp only [go_sem,g0,g4,g7,j0,j4,j5,j7,j0,j4,g6,gm,g5,gr,q0,q4,q6,g8,gm4,g54,gr4,g7];try exact hr4,v4,by simp only [go_sem,g0,g4,g7,j0,j4,j5,j7,j0,j4,g6,gm,g5,gr,q0,q4,q6,g8,gm4,g54,gr4,g7],by simp only [go_sem,g0,g4,g7,j0,j4,j5,j7,j0,j4,g6,gm,g5,gr,q0,q4,q6,g8,gm4,g54,gr4,g7]⟩
     | true =>
      simp only [go_sem,hw,hbb,take_map_len,g0,g4,g7,j0,j4,j5,j7,j0,j4,g6,gm,g5,gr,q0,q4,q6,g8,gm4,g54,gr4,g7]
      exact ⟨(j,l++[y],u2),by dsimp only;omega,by dsimp only;omega,by simp;omega,key,hu2.mono (by omega),by simp only [go_sem,g0,g4,g7,j0,j4,j5,j7,j0,j4,g6,gm,g5,gr,q0,q4,q6,g8,gm4,g54,gr4,g7],by simp only [go_sem,g0,g4,g7,j0,j4,j5,j7,j0,j4,g6,gm,g5,gr,q0,q4,q6,g8,gm4,g54,gr4,g7],by simp only [go_sem,g0,g4,g7,j0,j4,j5,j7,j0,j4,g6,gm,g5,gr,q0,q4,q6,g8,gm4,g54,gr4,g7];try exact hr4,_,by simp only [go_sem,List.length_append,g0,g4,g7,j0,j4,j5,j7,j0,j4,g6,gm,g5,gr,q0,q4,q6,g8,gm4,g54,gr4,g7];rfl,by simp only [go_sem,g0,g4,g7,j0,j4,j5,j7,j0,j4,g6,gm,g5,gr,q0,q4,q6,g8,gm4,g54,gr4,g7];rw [← sn]⟩
   · obtain rfl:nm=2176:=by simpa using hnm
     rw [List.length_map] at g7
     simp only [go_sem,hz2,take_map_len,g0,g4,g7,j0,j4,j5,j7,j0,j4,g6,gm,g5,gr,q0,q4,q6,g8,gm4,g54,gr4,g7,gw]
     refine fcW_bd f4 (noRs_t2 noRs_ints rfl) ?_
     cases ok with
     | false =>
      simp only [go_sem,hw,g0,g4,g7,j0,j4,j5,j7,j0,j4,g6,gm,g5,gr,q0,q4,q6,g8,gm4,g54,gr4,g7,gw]
      exact ⟨(j,l,u2),by dsimp only;omega,by dsimp only;omega,by dsimp only;omega,hl,hu2.mono (by omega),by simp only [go_sem,g0,g4,g7,j0,j4,j5,j7,j0,j4,g6,gm,g5,gr,q0,q4,q6,g8,gm4,g54,gr4,g7,gw],by simp only [go_sem,g0,g4,g7,j0,j4,j5,j7,j0,j4,g6,gm,g5,gr,q0,q4,q6,g8,gm4,g54,gr4,g7,gw],by simp only [go_sem,g0,g4,g7,j0,j4,j5,j7,j0,j4,g6,gm,g5,gr,q0,q4,q6,g8,gm4,g54,gr4,g7,gw];try exact hr4,v4,by simp only [go_sem,g0,g4,g7,j0,j4,j5,j7,j0,j4,g6,gm,g5,gr,q0,q4,q6,g8,gm4,g54,gr4,g7,gw],by simp only [go_sem,g0,g4,g7,j0,j4,j5,j7,j0,j4,g6,gm,g5,gr,q0,q4,q6,g8,gm4,g54,gr4,g7,gw]⟩
     | true =>
      simp only [go_sem,hw,hbb,take_map_len,g0,g4,g7,j0,j4,j5,j7,j0,j4,g6,gm,g5,gr,q0,q4,q6,g8,gm4,g54,gr4,g7,gw]
      exact ⟨(j,l++[y],u2),by dsimp only;omega,by dsimp only;omega,by simp;omega,key,hu2.mono (by omega),by simp only [go_sem,g0,g4,g7,j0,j4,j5,j7,j0,j4,g6,gm,g5,gr,q0,q4,q6,g8,gm4,g54,gr4,g7,gw],by simp only [go_sem,g0,g4,g7,j0,j4,j5,j7,j0,j4,g6,gm,g5,gr,q0,q4,q6,g8,gm4,g54,gr4,g7,gw],by simp only [go_sem,g0,g4,g7,j0,j4,j5,j7,j0,j4,g6,gm,g5,gr,q0,q4,q6,g8,gm4,g54,gr4,g7,gw];try exact hr4,_,by simp only [go_sem,List.length_append,g0,g4,g7,j0,j4,j5,j7,j0,j4,g6,gm,g5,gr,q0,q4,q6,g8,gm4,g54,gr4,g7,gw];rfl,by simp only [go_sem,g0,g4,g7,j0,j4,j5,j7,j0,j4,g6,gm,g5,gr,q0,q4,q6,g8,gm4,g54,gr4,g7,gw];rw [← sn]⟩
  | succ i =>
   have hz2:((i+1:Nat):Int) > 0:=by omega
   have hw2:IntKind.i64.wrap (((i+1:Nat):Int) - 1)=(i:Int):=by rw [wrap_in (by omega) (by omega)];omega
   obtain ⟨a,u3,o3,f3⟩:=lit_ex u2 n (by omega) (m:=m+100+60 * j+10 * i) (hu2.mono (by omega))
   have hbb:(x.length+1) * 8≤70368744177664:=by omega
   have sn:x.map Ii++[Ii a]=(x++[a]).map Ii:=by simp
   rcases hX with ⟨hx,g7⟩|⟨nm,hnm,w,g7,gw⟩
   · obtain rfl:x=[]:=by simpa using hx
     simp only [go_sem,hz2,g0,g4,g7,j0,j4,j5,j7,j0,j4,g6,gm,g5,gr,q0,q4,q6,g8,gm4,g54,gr4,g7]
     refine coW_c f3 ?_
     simp only [go_sem,hw2,g0,g4,g7,j0,j4,j5,j7,j0,j4,g6,gm,g5,gr,q0,q4,q6,g8,gm4,g54,gr4,g7]
     exact ⟨(i,[a],u3),by dsimp only;omega,by dsimp only;omega,by dsimp only [List.length];omega,o3,by simp only [go_sem,g0,g4,g7,j0,j4,j5,j7,j0,j4,g6,gm,g5,gr,q0,q4,q6,g8,gm4,g54,gr4,g7],by simp only [go_sem,g0,g4,g7,j0,j4,j5,j7,j0,j4,g6,gm,g5,gr,q0,q4,q6,g8,gm4,g54,gr4,g7],by simp only [go_sem,g0,g4,g7,j0,j4,j5,j7,j0,j4,g6,gm,g5,gr,q0,q4,q6,g8,gm4,g54,gr4,g7];try exact hr4,⟨v4,by simp only [go_sem,g0,g4,g7,j0,j4,j5,j7,j0,j4,g6,gm,g5,gr,q0,q4,q6,g8,gm4,g54,gr4,g7],by simp only [go_sem,g0,g4,g7,j0,j4,j5,j7,j0,j4,g6,gm,g5,gr,q0,q4,q6,g8,gm4,g54,gr4,g7]⟩,.inr ⟨2176,by simp,_,by simp only [go_sem,g0,g4,g7,j0,j4,j5,j7,j0,j4,g6,gm,g5,gr,q0,q4,q6,g8,gm4,g54,gr4,g7];try rfl,by simp only [go_sem,g0,g4,g7,j0,j4,j5,j7,j0,j4,g6,gm,g5,gr,q0,q4,q6,g8,gm4,g54,gr4,g7];try rfl⟩⟩
   · obtain rfl:nm=2176:=by simpa using hnm
     rw [List.length_map] at g7
     simp only [go_sem,hz2,g0,g4,g7,j0,j4,j5,j7,j0,j4,g6,gm,g5,gr,q0,q4,q6,g8,gm4,g54,gr4,g7,gw]
     refine coW_c f3 ?_
     simp only [go_sem,hw2,hbb,take_map_len,g0,g4,g7,j0,j4,j5,j7,j0,j4,g6,gm,g5,gr,q0,q4,q6,g8,gm4,g54,gr4,g7,gw]
     exact ⟨(i,x++[a],u3),by dsimp only;omega,by dsimp only;omega,by simp;omega,o3,by simp only [go_sem,g0,g4,g7,j0,j4,j5,j7,j0,j4,g6,gm,g5,gr,q0,q4,q6,g8,gm4,g54,gr4,g7,gw],by simp only [go_sem,g0,g4,g7,j0,j4,j5,j7,j0,j4,g6,gm,g5,gr,q0,q4,q6,g8,gm4,g54,gr4,g7,gw],by simp only [go_sem,g0,g4,g7,j0,j4,j5,j7,j0,j4,g6,gm,g5,gr,q0,q4,q6,g8,gm4,g54,gr4,g7,gw];try exact hr4,⟨v4,by simp only [go_sem,g0,g4,g7,j0,j4,j5,j7,j0,j4,g6,gm,g5,gr,q0,q4,q6,g8,gm4,g54,gr4,g7,gw],by simp only [go_sem,g0,g4,g7,j0,j4,j5,j7,j0,j4,g6,gm,g5,gr,q0,q4,q6,g8,gm4,g54,gr4,g7,gw]⟩,.inr ⟨2176,by simp,_,by simp only [go_sem,List.length_append,List.length_map,g0,g4,g7,j0,j4,j5,j7,j0,j4,g6,gm,g5,gr,q0,q4,q6,g8,gm4,g54,gr4,g7,gw];rfl,by simp only [go_sem,g0,g4,g7,j0,j4,j5,j7,j0,j4,g6,gm,g5,gr,q0,q4,q6,g8,gm4,g54,gr4,g7,gw];rw [← sn]⟩⟩
set_option maxHeartbeats 4000000
theorem num_ex (code:List Int) (hl:code.length≤9223372036854775807) (h8:∀ b∈code,0≤b∧b≤255):∃ n:Int,(0≤n∧n < 1000003)∧FCt prog F_laws_numberOf [.ro] [.sl 1 (code.map Ub)] (Ii n) []:=by
 suffices H:∃ r outs,(∃ n:Int,r=Ii n∧outs=[]∧0≤n∧n < 1000003)∧FCt prog F_laws_numberOf [.ro] [.sl 1 (code.map Ub)] r outs by
  obtain ⟨_,_,⟨n,rfl,rfl,h1⟩,hf⟩:=H
  exact ⟨n,h1,hf⟩
 refine fct_ex _ laws_numberOf.ok rfl rfl ?_
 have n0:¬ (1000003:Int)=0:=by decide
 simp only [go_sem]
 refine R_loop (α:=Nat×Int) (fun a s' M'=>a.1≤code.length∧(0≤a.2∧a.2 < 1000003)∧s' 8=aI a.1∧s' 3=aI a.2) (fun a=>code.length - a.1) (0,0)
  ⟨Nat.zero_le _,by decide,by simp only [go_sem];try rfl,by simp only [go_sem];try rfl⟩ ?_
 rintro ⟨k,n⟩ s2 M2 ⟨hk,hn,g8,gn⟩ ho
 dsimp only at hk hn g8 gn
 unfold laws_numberOf.b0
 have j6:s2 6=.dat none (.sl 1 (code.map Ub)):=by rw [ho 6 rfl];simp only [go_sem]
 have j7:s2 7=aI code.length:=by rw [ho 7 rfl];simp only [go_sem]
 clear ho
 by_cases hlt:k < code.length
 · have hi':(k:Int) < code.length:=by omega
   have ga:code[k]? = some code[k]:=List.getElem?_eq_getElem hlt
   have hw:IntKind.i64.wrap (k+1)=((k+1:Nat):Int):=wrap_k hlt (by omega)
   have hb:=h8 code[k] (List.getElem_mem hlt)
   have w1:IntKind.i64.wrap (31 * n)=31 * n:=wrap_in (by omega) (by omega)
   have w2:IntKind.i64.wrap code[k]=code[k]:=wrap_in (by omega) (by omega)
   have w3:IntKind.i64.wrap (31 * n+code[k])=31 * n+code[k]:=wrap_in (by omega) (by omega)
   have t0:0≤Int.tmod (31 * n+code[k]) 1000003:=Int.tmod_nonneg _ (by omega)
   have t1:Int.tmod (31 * n+code[k]) 1000003 < 1000003:=Int.tmod_lt_of_pos _ (by decide)
   generalize code[k]=x at *
   simp only [go_sem,hi',ga,hw,w1,w2,w3,n0,j6,j7,g8,gn]
   exact ⟨(k+1,_),by dsimp only;omega,by dsimp only;omega,⟨t0,t1⟩,by simp only [go_sem,j6,j7,g8,gn],by simp only [go_sem,j6,j7,g8,gn];try rfl⟩
 · have hi':¬ (k:Int) < code.length:=by omega
   obtain rfl:k=code.length:=by omega
   simp only [go_sem,Int.lt_irrefl,j6,j7,g8,gn]
   exact ⟨n,rfl,hn.1,hn.2⟩
set_option maxHeartbeats 16000000
theorem same_end {α:Type} {a b:List α} {k:Nat} (hl:a.length=b.length) (hk:a.length≤k) (h:∀ i,i < k→a[i]? = b[i]?):a=b:=by
 apply List.ext_getElem?
 intro i
 by_cases hi:i < k
 · exact h i hi
 · rw [List.getElem?_eq_none (by omega),List.getElem?_eq_none (by omega)]
theorem same_not {α:Type} {a b:List α} {i:Nat} (h1:i < a.length) (h2:i < b.length) (h:a[i]≠b[i]):a≠b:=fun e=>by subst e;exact h rfl
theorem laws_sameInts.fc (a b:List Int) (ha:a.length≤4294967296) (hb:b.length≤4294967296):FCt prog F_laws_sameInts [.ro,.ro] [ints a,ints b] (Bb (decide (a=b))) []:=by
 refine fct_run laws_sameInts.ok rfl ?_
 by_cases hl:a.length=b.length
 · have e1:((a.length:Int) != b.length)=false:=by rw [hl];simp
   simp only [go_sem,e1]
   refine R_loop (α:=Nat) (fun k s' M'=>k≤a.length∧s' 13=aI k∧∀ i,i < k→a[i]? = b[i]?) (fun k=>a.length - k) 0 ⟨Nat.zero_le _,by simp only [go_sem];try rfl,fun i hi=>absurd hi (Nat.not_lt_zero i)⟩ ?_
   rintro k s' M' ⟨hk,h13,hr⟩ ho
   unfold laws_sameInts.b0
   have j0:s' 0=.dat none (ints a):=by rw [ho 0 rfl];simp only [go_sem]
   have j1:s' 1=.dat none (ints b):=by rw [ho 1 rfl];simp only [go_sem]
   have j12:s' 12=aI a.length:=by rw [ho 12 rfl];simp only [go_sem]
   clear ho
   by_cases hlt:k < a.length
   · have hi':(k:Int) < a.length:=by omega
     have ga:a[k]? = some a[k]:=List.getElem?_eq_getElem hlt
     have hw:IntKind.i64.wrap (k+1)=((k+1:Nat):Int):=wrap_k hlt (by omega)
     have gb:b[k]? = some b[k]:=List.getElem?_eq_getElem (by omega)
     have hb':(k:Int) < b.length:=by omega
     by_cases hx:a[k]=b[k]
     · have hx':(a[k] != b[k])=false:=by simp [hx]
       simp only [go_sem,hi',hb',ga,gb,hx',hw,j0,j1,j12,h13]
       refine ⟨k+1,by dsimp only;omega,by omega,by simp only [go_sem,j0,j1,j12,h13],fun i hi=>?_⟩
       by_cases c:i < k
       · exact hr i c
       · obtain rfl:i=k:=by omega
         rw [ga,gb,hx]
     · have hne:=same_not hlt (by omega) hx
       have hd:decide (a=b)=false:=by simp [hne]
       have hx':(a[k] != b[k])=true:=by simp [hx]
       generalize a[k]=x at *
       simp only [go_sem,hi',hb',ga,gb,hx',hd,j0,j1,j12,h13];try rfl
   · have hi':¬ (k:Int) < a.length:=by omega
     obtain rfl:k=a.length:=by omega
     have e:=same_end hl hk hr
     have hd:decide (a=b)=true:=by simp [e]
     simp only [go_sem,Int.lt_irrefl,hd,j0,j1,j12,h13];try rfl
 · have e1:((a.length:Int) != b.length)=true:=by simp;omega
   have hd:decide (a=b)=false:=by simp;intro e;exact hl (by rw [e])
   simp only [go_sem,e1,hd];try rfl
theorem laws_sameRows.fc (a b:List (List Int)) (ha:a.length≤4294967296) (hb:b.length≤4294967296) (h1:∀ r∈a,r.length≤4294967296) (h2:∀ r∈b,r.length≤4294967296):FCt prog F_laws_sameRows [.ro,.ro] [intss a,intss b] (Bb (decide (a=b))) []:=by
 refine fct_run laws_sameRows.ok rfl ?_
 by_cases hl:a.length=b.length
 · have e1:((a.length:Int) != b.length)=false:=by rw [hl];simp
   simp only [go_sem,e1]
   refine R_loop (α:=Nat) (fun k s' M'=>k≤a.length∧s' 13=aI k∧∀ i,i < k→a[i]? = b[i]?) (fun k=>a.length - k) 0 ⟨Nat.zero_le _,by simp only [go_sem];try rfl,fun i hi=>absurd hi (Nat.not_lt_zero i)⟩ ?_
   rintro k s' M' ⟨hk,h13,hr⟩ ho
   unfold laws_sameRows.b0
   have j0:s' 0=.dat none (intss a):=by rw [ho 0 rfl];simp only [go_sem]
   have j1:s' 1=.dat none (intss b):=by rw [ho 1 rfl];simp only [go_sem]
   have j12:s' 12=aI a.length:=by rw [ho 12 rfl];simp only [go_sem]
   clear ho
   by_cases hlt:k < a.length
   · have hi':(k:Int) < a.length:=by omega
     have ga:a[k]? = some a[k]:=List.getElem?_eq_getElem hlt
     have hw:IntKind.i64.wrap (k+1)=((k+1:Nat):Int):=wrap_k hlt (by omega)
     have gb:b[k]? = some b[k]:=List.getElem?_eq_getElem (by omega)
     have hb':(k:Int) < b.length:=by omega
     have c1:=laws_sameInts.fc a[k] b[k] (h1 _ (List.getElem_mem hlt)) (h2 _ (List.getElem_mem (by omega)))
     by_cases hx:a[k]=b[k]
     · rw [decide_eq_true hx] at c1
       simp only [go_sem,hi',hb',ga,gb,j0,j1,j12,h13]
       refine fcW_bool c1 ?_
       simp only [go_sem,hw,j0,j1,j12,h13]
       refine ⟨k+1,by dsimp only;omega,by omega,by simp only [go_sem,j0,j1,j12,h13],fun i hi=>?_⟩
       by_cases c:i < k
       · exact hr i c
       · obtain rfl:i=k:=by omega
         rw [ga,gb,hx]
     · have hne:=same_not hlt (by omega) hx
       have hd:decide (a=b)=false:=by simp [hne]
       rw [decide_eq_false hx] at c1
       simp only [go_sem,hi',hb',ga,gb,j0,j1,j12,h13]
       refine fcW_bool c1 ?_
       simp only [go_sem,hd,j0,j1,j12,h13];try rfl
   · have hi':¬ (k:Int) < a.length:=by omega
     obtain rfl:k=a.length:=by omega
     have e:=same_end hl hk hr
     have hd:decide (a=b)=true:=by simp [e]
     simp only [go_sem,Int.lt_irrefl,hd,j0,j1,j12,h13];try rfl
 · have e1:((a.length:Int) != b.length)=true:=by simp;omega
   have hd:decide (a=b)=false:=by simp;intro e;exact hl (by rw [e])
   simp only [go_sem,e1,hd];try rfl
set_option maxHeartbeats 4000000
theorem laws_has.fc (l:List Int) (n:Int) (hl:l.length≤4294967296):FCt prog F_laws_has [.ro,.ro] [ints l,Ii n] (Bb (l.any (· == n))) []:=by
 refine fct_run laws_has.ok rfl ?_
 simp only [go_sem]
 refine R_loop (α:=Nat) (fun k s' M'=>k≤l.length∧s' 9=aI k∧(l.take k).all (fun a=>!(a == n))=true) (fun k=>l.length - k) 0 ⟨Nat.zero_le _,by simp only [go_sem];rfl,rfl⟩ ?_
 rintro k s' M' ⟨hk,h8,hr⟩ ho
 unfold laws_has.b0
 have j1:s' 1=aI n:=by rw [ho 1 rfl];simp only [go_sem]
 have j7:s' 7=.dat none (ints l):=by rw [ho 7 rfl];simp only [go_sem]
 have j8:s' 8=aI l.length:=by rw [ho 8 rfl];simp only [go_sem]
 clear ho
 by_cases hlt:k < l.length
 · have hi':(k:Int) < l.length:=by omega
   have ga:l[k]? = some l[k]:=List.getElem?_eq_getElem hlt
   have hw:IntKind.i64.wrap (k+1)=((k+1:Nat):Int):=wrap_k hlt (by omega)
   cases h1:(l[k] == n)
   · simp only [go_sem,hi',ga,h1,hw,j1,j7,j8,h8]
     refine ⟨k+1,by dsimp only;omega,by omega,by simp only [go_sem,j1,j7,j8,h8],all_take hlt hr (by simp [h1])⟩
   · have:l.any (· == n)=true:=List.any_eq_true.2 ⟨l[k],List.getElem_mem hlt,h1⟩
     simp only [go_sem,hi',ga,h1,this,j1,j7,j8,h8];try rfl
 · have hi':¬ (k:Int) < l.length:=by omega
   obtain rfl:k=l.length:=by omega
   rw [List.take_length] at hr
   have:l.any (· == n)=false:=by
    rw [List.any_eq_false]
    intro a ha
    have:=List.all_eq_true.1 hr a ha
    rw [Bool.not_eq_true'] at this
    rw [this];exact Bool.false_ne_true
   simp only [go_sem,Int.lt_irrefl,this,j1,j7,j8,h8];try rfl
theorem gc_ex (code:List Int) (hl:code.length≤9223372036854775807) (h8:∀ b∈code,0≤b∧b≤255) :
 ∃ (n:Int) (l:List (List Int)),l.length≤13∧(∀ r∈l,r.length≤4)∧FCt prog F_spec_DrawGoodClauses [.ro] [.sl 1 (code.map Ub)] (.tup [Ii n,intss l]) []:=by
 obtain ⟨n,l,c1,hn,hl2,hr,o1,f1⟩:=clauses_ex (curS code) (m:=20) (curS_ok hl h8 (by omega))
 refine ⟨n,l,hl2,hr,?_⟩
 refine fct_run spec_DrawGoodClauses.ok rfl ?_
 simp only [go_sem]
 refine coW_c f1 ?_
 simp only [go_sem,take_map_len]
theorem ih_ex (code:List Int) (hl:code.length≤9223372036854775807) (h8:∀ b∈code,0≤b∧b≤255) :
 ∃ (n:Int) (l:List (List Int)),l.length≤13∧(∀ r∈l,r.length≤4)∧FCt prog F_spec_DrawIsHorn [.ro] [.sl 1 (code.map Ub)] (.tup [Ii n,intss l]) []:=by
 obtain ⟨n,l,hl2,hr,f1⟩:=gc_ex code hl h8
 refine ⟨n,l,hl2,hr,?_⟩
 refine fct_run spec_DrawIsHorn.ok rfl ?_
 simp only [go_sem]
 refine fcW_bd f1 (noRs_t2 rfl noRs_intss) ?_
 simp only [go_sem,take_map_len]
theorem laws_sameRules.fc (a b:List (List Int)) (ha:a.length≤4294967296) (hb:b.length≤4294967296) (h1:∀ r∈a,r.length≤4294967296) (h2:∀ r∈b,r.length≤4294967296):FCt prog F_laws_sameRules [.ro,.ro] [intss a,intss b] (Bb (decide (a=b))) []:=by
 refine fct_run laws_sameRules.ok rfl ?_
 simp only [go_sem]
 refine fcW_bool (laws_sameRows.fc a b ha hb h1 h2) ?_
 simp only [go_sem];try rfl
theorem listO_succ {i k:Nat}:listO (i+1) k=listO i k++(if k.testBit i then [(i:Int)+1] else []):=by
 unfold listO
 rw [soOf_succ]
 congr 1
 · unfold soOf
   congr 1
   refine List.filter_congr fun j hj=>?_
   rw [List.mem_range] at hj
   rw [List.getD_eq_getElem?_getD,List.getD_eq_getElem?_getD,modelB_get (by omega),modelB_get hj]
 · rw [List.getD_eq_getElem?_getD,modelB_get (by omega)]
   rfl
theorem laws_listOf.fc (N k:Nat) (hn:N≤8) (hk:k < 9223372036854775808):FCt prog F_laws_listOf [.ro,.ro] [Ii N,Ii k] (ints (listO N k)) []:=by
 refine fct_run laws_listOf.ok rfl ?_
 simp only [go_sem,nmW]
 refine R_loop (α:=Nat) (fun i s' M'=>i≤N∧s' 6=aI i∧∃ v,s' 5=.sl 1088 v 0 (listO i k).length 1∧M'.m 1088=some (.arr v true 1 ((listO i k).map Ii))) (fun i=>N - i) 0
  ⟨Nat.zero_le _,by simp only [go_sem];try rfl,_,by simp only [go_sem];try rfl,by simp only [go_sem];try rfl⟩ ?_
 rintro i s' M' ⟨hi,g6,v,g5,gm⟩ ho
 unfold laws_listOf.b0
 have j0:s' 0=aI N:=by rw [ho 0 rfl];simp only [go_sem]
 have j1:s' 1=aI k:=by rw [ho 1 rfl];simp only [go_sem]
 clear ho
 by_cases hlt:i < N
 · have hi':(i:Int) < N:=by omega
   have hw:IntKind.i64.wrap (i+1)=((i+1:Nat):Int):=wrap_k hlt (by omega)
   have u1:IntKind.u64.wrap (i:Int)=i:=by simp [IntKind.wrap,IntKind.signed,IntKind.bits];omega
   have u2:¬ (i:Int) < 0:=by omega
   have sh:=shr_nat k (i:=i) (by omega)
   have bn:=bit_nat (k:=k) (i:=i) hk
   have sl:(listO i k).length≤i:=listO_len
   have hbb:((listO i k).length+1) * 8≤70368744177664:=by omega
   simp only [go_sem,hi',u1,u2,sh,hw,j0,j1,g6,g5,gm]
   have ls:=listO_succ (i:=i) (k:=k)
   refine cdW_any (fun h=>?_) (fun h=>?_)
   · have hb:k.testBit i=true:=bn.symm.trans h
     rw [hb,if_pos rfl] at ls
     have sn:(listO i k).map Ii++[Ii ((i+1:Nat):Int)]=(listO (i+1) k).map Ii:=by rw [ls];simp
     simp only [go_sem,hw,hbb,take_map_len,j0,j1,g6,g5,gm]
     exact ⟨i+1,by dsimp only;omega,by omega,by simp only [go_sem,j0,j1,g6,g5,gm],_,by simp only [go_sem,j0,j1,g6,g5,gm];rw [ls,List.length_append];rfl,by simp only [go_sem,j0,j1,g6,g5,gm];rw [← sn]⟩
   · have hb:k.testBit i=false:=bn.symm.trans h
     rw [hb] at ls
     simp only [Bool.false_eq_true,if_false,List.append_nil] at ls
     simp only [go_sem,hw,j0,j1,g6,g5,gm]
     exact ⟨i+1,by dsimp only;omega,by omega,by simp only [go_sem,j0,j1,g6,g5,gm],v,by simp only [go_sem,ls,j0,j1,g6,g5,gm],by simp only [go_sem,ls,j0,j1,g6,g5,gm]⟩
 · obtain rfl:i=N:=by omega
   simp only [go_sem,Int.lt_irrefl,take_map_len,j0,j1,g6,g5,gm]
set_option maxHeartbeats 16000000
def FactsQ (m:Nat) (r:D) (outs:List D):Prop:=∃ (w:List Int) (c':CurD),r=ints w∧outs=[.ptr c'.d]∧w.length≤14∧CurOk c' m
theorem FactsQ.mk {m:Nat} {w:List Int} {c':CurD} (h2:w.length≤14) (h3:CurOk c' m):FactsQ m (ints w) [.ptr c'.d]:=⟨w,c',rfl,rfl,h2,h3⟩
theorem facts_ex (c:CurD) (k:Int) (hk:k≤14) {m:Nat} (h:CurOk c (m+30)):∃ (w:List Int) (c':CurD),w.length≤14∧CurOk c' m∧FCt prog F_spec_pl1Cur_facts [.io,.ro] [.ptr c.d,Ii k] (ints w) [.ptr c'.d]:=by
 suffices H:∃ r outs,FactsQ m r outs∧FCt prog F_spec_pl1Cur_facts [.io,.ro] [.ptr c.d,Ii k] r outs by
  obtain ⟨_,_,⟨w,c',rfl,rfl,h1,h2⟩,hf⟩:=H
  exact ⟨w,c',h1,h2,hf⟩
 refine fct_ex _ spec_pl1Cur_facts.ok rfl rfl ?_
 simp only [go_sem]
 refine R_loop (α:=Nat×List Int×CurD) (fun a s' M'=>a.1≤14∧a.2.1.length≤a.1∧CurOk a.2.2 (m+2 * (14 - a.1))∧s' 6=aI ((a.1+1:Nat):Int)∧M'.m 0=some (.box 0 (curA a.2.2))∧∃ v,s' 5=.sl 768 v 0 a.2.1.length 1∧M'.m 768=some (.arr v true 1 (a.2.1.map Ii))) (fun a=>14 - a.1) (0,[],c)
  ⟨by omega,by simp,h.mono (by omega),by simp only [go_sem];try rfl,by simp only [go_sem];try rfl,_,by simp only [go_sem];try rfl,by simp only [go_sem];try rfl⟩ ?_
 rintro ⟨x,l,u⟩ s2 M2 ⟨hx,hl,hu,g6,gm,v,g5,gr⟩ ho
 dsimp only at hx hl hu g6 gm g5 gr
 unfold spec_pl1Cur_facts.b0
 have j0:s2 0=.ptr 0 0 0 none:=by rw [ho 0 rfl];simp only [go_sem]
 have j1:s2 1=aI k:=by rw [ho 1 rfl];simp only [go_sem]
 clear ho
 by_cases hlt:((x+1:Nat):Int)≤k
 · have hw:IntKind.i64.wrap (((x+1:Nat):Int)+1)=((x+1+1:Nat):Int):=by rw [wrap_in (by omega) (by omega)];omega
   have f1:=spec_pl1Cur_one.fc u 3 (m:=m+2 * (14 - (x+1))) (hu.mono (by omega))
   have o1:CurOk (pickC u 3) (m+2 * (14 - (x+1))):=pickC_ok (hu.mono (by omega))
   generalize pickC u 3=u1 at f1 o1
   simp only [go_sem,hlt,j0,j1,g6,gm,g5,gr]
   refine coW_c f1 ?_
   cases (pickV u 3 == 0) with
   | false =>
    simp only [go_sem,hw,j0,j1,g6,gm,g5,gr]
    exact ⟨(x+1,l,u1),by dsimp only;omega,by dsimp only;omega,by dsimp only;omega,o1,by simp only [go_sem,j0,j1,g6,gm,g5,gr],by simp only [go_sem,j0,j1,g6,gm,g5,gr],v,by simp only [go_sem,j0,j1,g6,gm,g5,gr],by simp only [go_sem,j0,j1,g6,gm,g5,gr]⟩
   | true =>
    have hbb:(l.length+1) * 8≤70368744177664:=by omega
    have sn:l.map Ii++[Ii ((x+1:Nat):Int)]=(l++[((x+1:Nat):Int)]).map Ii:=by simp
    simp only [go_sem,hw,hbb,take_map_len,j0,j1,g6,gm,g5,gr]
    exact ⟨(x+1,l++[((x+1:Nat):Int)],u1),by dsimp only;omega,by dsimp only;omega,by simp;omega,o1,by simp only [go_sem,j0,j1,g6,gm,g5,gr],by simp only [go_sem,j0,j1,g6,gm,g5,gr],_,by simp only [go_sem,List.length_append,j0,j1,g6,gm,g5,gr];rfl,by simp only [go_sem,j0,j1,g6,gm,g5,gr];rw [← sn]⟩
 · simp only [go_sem,hlt,take_map_len,j0,j1,g6,gm,g5,gr]
   exact FactsQ.mk (by omega) (hu.mono (by omega))
def RulesQ (m:Nat) (r:D) (outs:List D):Prop:=∃ (n:Int) (l:List RuleD) (c':CurD),r=.tup [Ii n,rules l]∧outs=[.ptr c'.d]∧(0≤n∧n≤13)∧l.length≤31∧(∀ r∈l,r.ifs.length≤14)∧CurOk c' m
theorem RulesQ.mk {m:Nat} {n:Int} {l:List RuleD} {c':CurD} (h1:0≤n∧n≤13) (h2:l.length≤31) (h3:∀ r∈l,r.ifs.length≤14) (h4:CurOk c' m):RulesQ m (.tup [Ii n,rules l]) [.ptr c'.d]:=⟨n,l,c',rfl,rfl,h1,h2,h3,h4⟩
theorem rules_ex (c:CurD) {m:Nat} (h:CurOk c (m+3000)):∃ (n:Int) (l:List RuleD) (c':CurD),(0≤n∧n≤13)∧l.length≤31∧(∀ r∈l,r.ifs.length≤14)∧CurOk c' m∧FCt prog F_spec_pl1Cur_rules [.io] [.ptr c.d] (.tup [Ii n,rules l]) [.ptr c'.d]:=by
 suffices H:∃ r outs,RulesQ m r outs∧FCt prog F_spec_pl1Cur_rules [.io] [.ptr c.d] r outs by
  obtain ⟨_,_,⟨n,l,c',rfl,rfl,h1,h2,h3,h4⟩,hf⟩:=H
  exact ⟨n,l,c',h1,h2,h3,h4,hf⟩
 refine fct_ex _ spec_pl1Cur_rules.ok rfl rfl ?_
 have f1:=spec_pl1Cur_pick.fc c 7 (m:=m+2998) h
 have o1:CurOk (pickC c 7) (m+2998):=pickC_ok h
 have p1:=pickV_in (c:=c) (n:=7) (by omega)
 generalize pickV c 7=n0 at f1 p1
 generalize pickC c 7=c1 at f1 o1
 have f2:=spec_pl1Cur_one.fc c1 30 (m:=m+2996) o1
 have o2:CurOk (pickC c1 30) (m+2996):=pickC_ok o1
 generalize (pickV c1 30 == 0)=b1 at f2
 generalize pickC c1 30=c2 at f2 o2
 have f3:=spec_pl1Cur_among.fc c2 [0,12,13] (by simp) (by simp) (m:=m+2994) o2
 have o3:CurOk (pickC c2 ([0,12,13]:List Int).length) (m+2994):=pickC_ok o2
 have m3:amongV c2 [0,12,13]=0∨amongV c2 [0,12,13]=12∨amongV c2 [0,12,13]=13:=by simpa using amongV_mem c2 [0,12,13] (by simp)
 generalize amongV c2 [0,12,13]=n1 at f3 m3
 generalize pickC c2 ([0,12,13]:List Int).length=c3 at f3 o3
 have w1:IntKind.i64.wrap (1+n0)=1+n0:=wrap_in (by omega) (by omega)
 simp only [go_sem]
 refine coW_c f1 ?_
 simp only [go_sem,w1]
 refine coW_c f2 ?_
 simp only [go_sem]
 refine cdW_cut (fun e s' M'=>e=.n∧∃ (n:Nat) (u:CurD),n≤13∧CurOk u (m+2994)∧s' 0=.ptr 0 0 0 none∧s' 4=aI n∧M'.m 0=some (.box 0 (curA u))) ?_ ?_
 · cases b1
   · simp only [go_sem]
     exact ⟨(1+n0).toNat,c2,by omega,o2.mono (by omega),by congr 2;omega,rfl⟩
   · simp only [go_sem]
     refine coW_c f3 ?_
     simp only [go_sem]
     exact ⟨n1.toNat,c3,by omega,o3,by congr 2;omega,rfl⟩
 clear f1 f2 f3 o1 o2 o3 p1 m3 w1
 rintro e s' M' ⟨rfl,n,u,hn,hu,g0,g4,gm⟩ -
 have f1:=spec_pl1Cur_pick.fc u 10 (m:=m+2992) hu
 have o1:CurOk (pickC u 10) (m+2992):=pickC_ok hu
 have p1:=pickV_in (c:=u) (n:=10) (by omega)
 generalize pickV u 10=n0 at f1 p1
 generalize pickC u 10=c1 at f1 o1
 have f2:=spec_pl1Cur_one.fc c1 20 (m:=m+2990) o1
 have o2:CurOk (pickC c1 20) (m+2990):=pickC_ok o1
 generalize (pickV c1 20 == 0)=b1 at f2
 generalize pickC c1 20=c2 at f2 o2
 have f3:=spec_pl1Cur_pick.fc c2 2 (m:=m+2988) o2
 have o3:CurOk (pickC c2 2) (m+2988):=pickC_ok o2
 have p3:=pickV_in (c:=c2) (n:=2) (by omega)
 generalize pickV c2 2=n1 at f3 p3
 generalize pickC c2 2=c3 at f3 o3
 have w1:IntKind.i64.wrap (30+n1)=30+n1:=wrap_in (by omega) (by omega)
 simp only [go_sem,gm,g0,g4]
 refine coW_c f1 ?_
 simp only [go_sem,g0,g4]
 refine coW_c f2 ?_
 simp only [go_sem,g0,g4]
 refine cdW_cut (fun e s' M'=>e=.n∧∃ (k:Nat) (u:CurD),k≤31∧CurOk u (m+2988)∧s' 5=.nil 2∧s' 6=aI k∧M'.m 0=some (.box 0 (curA u))) ?_ ?_
 · cases b1
   · simp only [go_sem,g0,g4]
     exact ⟨n0.toNat,c2,by omega,o2.mono (by omega),by congr 2;omega,rfl⟩
   · simp only [go_sem,w1,g0,g4]
     refine coW_c f3 ?_
     simp only [go_sem,w1,g0,g4]
     exact ⟨(30+n1).toNat,c3,by omega,o3,by congr 2;omega,rfl⟩
 clear f1 f2 f3 o1 o2 o3 p1 p3 w1
 rintro e s2 M2 ⟨rfl,N,u,hN,hu,g5,g6,gm⟩ ho
 have j0:s2 0=.ptr 0 0 0 none:=by rw [ho 0 rfl];simp only [go_sem,g0,g4]
 have j4:s2 4=aI n:=by rw [ho 4 rfl];simp only [go_sem,g0,g4]
 clear ho
 simp only [go_sem,gm,g5,g6,g0,g4,j0,j4]
 refine R_loop (α:=Nat×List RuleD×CurD) (fun a s' M'=>a.1≤N∧a.2.1.length+a.1=N∧(∀ r∈a.2.1,r.ifs.length≤14)∧CurOk a.2.2 (m+100+60 * a.1)∧s' 6=aI a.1∧M'.m 0=some (.box 0 (curA a.2.2))∧∃ v,s' 5=.sl 2752 v 0 a.2.1.length 2∧M'.m 2752=some (.arr v true 2 (a.2.1.map RuleD.d))) (fun a=>a.1) (N,[],u)
  ⟨Nat.le_refl _,by simp,by simp,hu.mono (by omega),by simp only [go_sem,g6,g0,g4,j0,j4];try rfl,by simp only [go_sem,gm,g0,g4,j0,j4];try rfl,_,by simp only [go_sem,g0,g4,j0,j4];try rfl,by simp only [go_sem,g0,g4,j0,j4];try rfl⟩ ?_
 clear hu g5 g6 gm
 rintro ⟨j,l,u⟩ s3 M3 ⟨hj,hjl,hl,hu,g6,gm,v,g5,gr⟩ ho
 dsimp only at hj hjl hl hu g6 gm g5 gr
 unfold spec_pl1Cur_rules.b0
 have j0:s3 0=.ptr 0 0 0 none:=by rw [ho 0 rfl];simp only [go_sem,g0,g4,j0,j4]
 have j4:s3 4=aI n:=by rw [ho 4 rfl];simp only [go_sem,g0,g4,j0,j4]
 clear ho
 cases j with
 | zero =>
  have hz:¬ ((0:Nat):Int) > 0:=by omega
  have out:CurOk u m:=hu.mono (by omega)
  by_cases h1:(l.length:Int) > 0
  · have f1:=spec_pl1Cur_one.fc u 30 (m:=m+50) (hu.mono (by omega))
    have o1:CurOk (pickC u 30) (m+50):=pickC_ok (hu.mono (by omega))
    generalize pickC u 30=u1 at f1 o1
    simp only [go_sem,hz,h1,g0,g4,j0,j4,j0,j4,g6,gm,g5,gr]
    refine coW_c f1 ?_
    cases (pickV u 30 == 0) with
    | false =>
     simp only [go_sem,take_map_len,g0,g4,j0,j4,j0,j4,g6,gm,g5,gr]
     exact RulesQ.mk (by omega) (by omega) hl (o1.mono (by omega))
    | true =>
     have f2:=spec_pl1Cur_pick.fc u1 14 (m:=m+48) o1
     have o2:CurOk (pickC u1 14) (m+48):=pickC_ok o1
     generalize pickV u1 14=x2 at f2
     generalize pickC u1 14=u2 at f2 o2
     have f3:=spec_pl1Cur_among.fc u2 [-1,13] (by simp) (by simp) (m:=m+46) o2
     have o3:CurOk (pickC u2 ([-1,13]:List Int).length) (m+46):=pickC_ok o2
     generalize amongV u2 [-1,13]=x3 at f3
     generalize pickC u2 ([-1,13]:List Int).length=u3 at f3 o3
     have k0:(0:Int) < l.length:=by omega
     have e0:l[0]? = some l[0]:=List.getElem?_eq_getElem (by omega)
     have sn:(l.map RuleD.d).set 0 (.agg [.sl 1 [Ii x2],Ii x3])=(l.set 0 ⟨[x2],x3⟩).map RuleD.d:=by rw [List.map_set];rfl
     have sl:(l.set 0 (⟨[x2],x3⟩:RuleD)).length=l.length:=by simp
     simp only [go_sem,k0,e0,g0,g4,j0,j4,j0,j4,g6,gm,g5,gr]
     refine coW_c f2 ?_
     simp only [go_sem,g0,g4,j0,j4,j0,j4,g6,gm,g5,gr]
     refine coW_c f3 ?_
     have hle:l.length≤(l.set 0 (⟨[x2],x3⟩:RuleD)).length:=by rw [sl];exact Nat.le_refl _
     have tk:((l.set 0 (⟨[x2],x3⟩:RuleD)).map RuleD.d).take l.length=(l.set 0 (⟨[x2],x3⟩:RuleD)).map RuleD.d:=List.take_of_length_le (by simp)
     simp only [go_sem,k0,e0,sn,hle,tk,g0,g4,j0,j4,j0,j4,g6,gm,g5,gr]
     refine RulesQ.mk (m:=m) (n:=n) (c':=u3) (l:=l.set 0 ⟨[x2],x3⟩) (by omega) (by rw [sl];omega) ?_ (o3.mono (by omega))
     intro r hr
     rcases List.mem_or_eq_of_mem_set hr with hr|rfl
     · exact hl r hr
     · simp
  · simp only [go_sem,hz,h1,take_map_len,g0,g4,j0,j4,j0,j4,g6,gm,g5,gr]
    exact RulesQ.mk (by omega) (by omega) hl out
 | succ j =>
  have hz:((j+1:Nat):Int) > 0:=by omega
  have hw:IntKind.i64.wrap (((j+1:Nat):Int) - 1)=(j:Int):=by rw [wrap_in (by omega) (by omega)];omega
  have w1:IntKind.i64.wrap ((n:Int)+1)=(n:Int)+1:=wrap_in (by omega) (by omega)
  obtain ⟨fs,u1,fl,o1,f1⟩:=facts_ex u (if (4:Int) < n then 4 else n) (by split<;>omega) (m:=m+100+60 * j+30) (hu.mono (by omega))
  have f2:=spec_pl1Cur_pick.fc u1 (n+1) (m:=m+100+60 * j+28) o1
  have o2:CurOk (pickC u1 (n+1)) (m+100+60 * j+28):=pickC_ok o1
  generalize pickV u1 (n+1)=th at f2
  generalize pickC u1 (n+1)=u2 at f2 o2
  have f3:=spec_pl1Cur_one.fc u2 4 (m:=m+100+60 * j+26) o2
  have o3:CurOk (pickC u2 4) (m+100+60 * j+26):=pickC_ok o2
  generalize (pickV u2 4 == 0)=b3 at f3
  generalize pickC u2 4=u3 at f3 o3
  have hbb:(l.length+1) * 32≤70368744177664:=by omega
  simp only [go_sem,hz,g0,g4,j0,j4,j0,j4,g6,gm,g5,gr]
  refine fcW_int (spec_l1Least.fc n 4) ?_
  simp only [go_sem,g0,g4,j0,j4,j0,j4,g6,gm,g5,gr]
  refine coW_c f1 ?_
  simp only [go_sem,w1,g0,g4,j0,j4,j0,j4,g6,gm,g5,gr]
  refine coW_c f2 ?_
  simp only [go_sem,take_map_len,g0,g4,j0,j4,j0,j4,g6,gm,g5,gr]
  refine coW_c f3 ?_
  cases b3 with
  | false =>
   have sn:l.map RuleD.d++[RuleD.d ⟨fs,th⟩]=(l++[(⟨fs,th⟩:RuleD)]).map RuleD.d:=by simp
   simp only [go_sem,take_map_len,hw,hbb,g0,g4,j0,j4,j0,j4,g6,gm,g5,gr]
   refine ⟨(j,l++[(⟨fs,th⟩:RuleD)],u3),by dsimp only;omega,by dsimp only;omega,by simp;omega,?_,o3.mono (by omega),by simp only [go_sem,g0,g4,j0,j4,j0,j4,g6,gm,g5,gr],by simp only [go_sem,g0,g4,j0,j4,j0,j4,g6,gm,g5,gr],_,by simp only [go_sem,List.length_append,g0,g4,j0,j4,j0,j4,g6,gm,g5,gr];rfl,by simp only [go_sem,g0,g4,j0,j4,j0,j4,g6,gm,g5,gr];rw [← sn]⟩
   intro r hr
   rcases List.mem_append.1 hr with hr|hr
   · exact hl r hr
   · obtain rfl:r=⟨fs,th⟩:=by simpa using hr
     exact fl
  | true =>
   have sn:l.map RuleD.d++[RuleD.d ⟨[],th⟩]=(l++[(⟨[],th⟩:RuleD)]).map RuleD.d:=by simp
   simp only [go_sem,take_map_len,hw,hbb,g0,g4,j0,j4,j0,j4,g6,gm,g5,gr]
   refine ⟨(j,l++[(⟨[],th⟩:RuleD)],u3),by dsimp only;omega,by dsimp only;omega,by simp;omega,?_,o3.mono (by omega),by simp only [go_sem,g0,g4,j0,j4,j0,j4,g6,gm,g5,gr],by simp only [go_sem,g0,g4,j0,j4,j0,j4,g6,gm,g5,gr],_,by simp only [go_sem,List.length_append,g0,g4,j0,j4,j0,j4,g6,gm,g5,gr];rfl,by simp only [go_sem,g0,g4,j0,j4,j0,j4,g6,gm,g5,gr];rw [← sn];rfl⟩
   intro r hr
   rcases List.mem_append.1 hr with hr|hr
   · exact hl r hr
   · obtain rfl:r=⟨[],th⟩:=by simpa using hr
     simp
theorem gr_ex (code:List Int) (hl:code.length≤9223372036854775807) (h8:∀ b∈code,0≤b∧b≤255) :
 ∃ (n:Int) (l:List RuleD),(0≤n∧n≤13)∧l.length≤31∧(∀ r∈l,r.ifs.length≤14)∧FCt prog F_spec_DrawGoodRules [.ro] [.sl 1 (code.map Ub)] (.tup [Ii n,rules l]) []:=by
 obtain ⟨n,l,c1,hn,hl2,hr,o1,f1⟩:=rules_ex (curS code) (m:=20) (curS_ok hl h8 (by omega))
 refine ⟨n,l,hn,hl2,hr,?_⟩
 refine fct_run spec_DrawGoodRules.ok rfl ?_
 simp only [go_sem]
 refine coW_c f1 ?_
 simp only [go_sem,take_map_len]
theorem rc_ex (code:List Int) (hl:code.length≤9223372036854775807) (h8:∀ b∈code,0≤b∧b≤255) :
 ∃ (n:Int) (l:List RuleD),(0≤n∧n≤13)∧l.length≤31∧(∀ r∈l,r.ifs.length≤14)∧FCt prog F_spec_DrawRulesAsClauses [.ro] [.sl 1 (code.map Ub)] (.tup [Ii n,rules l]) []:=by
 obtain ⟨n,l,hn,hl2,hr,f1⟩:=gr_ex code hl h8
 refine ⟨n,l,hn,hl2,hr,?_⟩
 refine fct_run spec_DrawRulesAsClauses.ok rfl ?_
 simp only [go_sem]
 refine fcW_bd f1 (noRs_t2 rfl noRs_rules) ?_
 simp only [go_sem,take_map_len]
theorem wo_ex2 (code:List Int) (hl:code.length≤9223372036854775807) (h8:∀ b∈code,0≤b∧b≤255) :
 ∃ (n:Int) (l:List RuleD) (x:Int),(0≤n∧n≤13)∧l.length≤31∧(∀ r∈l,r.ifs.length≤14)∧FCt prog F_spec_DrawWhyOf [.ro] [.sl 1 (code.map Ub)] (.tup [Ii n,rules l,Ii x]) []:=by
 obtain ⟨n,l,c1,hn,hl2,hr,o1,f1⟩:=rules_ex (curS code) (m:=200) (curS_ok hl h8 (by omega))
 have w1:IntKind.i64.wrap (n+2)=n+2:=wrap_in (by omega) (by omega)
 have f2:=spec_pl1Cur_pick.fc c1 (n+2) (m:=198) o1
 refine ⟨n,l,pickV c1 (n+2),hn,hl2,hr,?_⟩
 refine fct_run spec_DrawWhyOf.ok rfl ?_
 simp only [go_sem]
 refine coW_c f1 ?_
 simp only [go_sem,take_map_len,w1]
 refine coW_c f2 ?_
 simp only [go_sem,take_map_len]
theorem mo_ex (code:List Int) (hl:code.length≤9223372036854775807) (h8:∀ b∈code,0≤b∧b≤255) :
 ∃ (a b:List Int),a.length≤14∧b.length≤14∧FCt prog F_spec_DrawMeetOf [.ro] [.sl 1 (code.map Ub)] (.tup [ints a,ints b]) []:=by
 have o1:CurOk (curS code) 300:=curS_ok hl h8 (by omega)
 have f2:=spec_pl1Cur_pick.fc (curS code) 20 (m:=298) o1
 have o2:CurOk (pickC (curS code) 20) 298:=pickC_ok o1
 have p2:=pickV_in (c:=curS code) (n:=20) (by omega)
 generalize pickV (curS code) 20=x2 at f2 p2
 generalize pickC (curS code) 20=c2 at f2 o2
 have q2:0≤Int.tdiv x2 19∧Int.tdiv x2 19≤1:=by
  rw [Int.tdiv_eq_ediv_of_nonneg (by omega)];omega
 have w1:IntKind.i64.wrap (12+IntKind.i64.wrap (Int.tdiv x2 19))=12+Int.tdiv x2 19:=by
  rw [wrap_in (x:=Int.tdiv x2 19) (by omega) (by omega),wrap_in (by omega) (by omega)]
 obtain ⟨a,c3,al,o3,f3⟩:=facts_ex c2 (12+Int.tdiv x2 19) (by omega) (m:=200) (o2.mono (by omega))
 obtain ⟨b,c4,bl,o4,f4⟩:=facts_ex c3 8 (by omega) (m:=20) (o3.mono (by omega))
 have n19:¬ (19:Int)=0:=by decide
 refine ⟨a,b,al,bl,?_⟩
 refine fct_run spec_DrawMeetOf.ok rfl ?_
 simp only [go_sem]
 refine coW_c f2 ?_
 simp only [go_sem,n19,w1]
 refine coW_c f3 ?_
 simp only [go_sem]
 refine coW_c f4 ?_
 simp only [go_sem,take_map_len]
set_option maxHeartbeats 4000000
theorem meet_is (a b:List Int):∃ (m:List Int) (t:Bool),meetD a b=.tup [ints m,Bb t]∧m.length≤a.length:=by
 unfold meetD
 split
 · exact ⟨_,_,rfl,List.length_filter_le _ _⟩
 · exact ⟨[],_,rfl,by simp⟩
theorem rc_is (n:Int) (l:List RuleD) {k:Nat} (h:∀ r∈l,r.ifs.length≤k):∃ (c:List (List Int)) (t:Bool),rcD n l=.tup [intss c,Bb t]∧c.length≤l.length∧∀ r∈c,r.length≤k+1:=by
 unfold rcD
 split
 · refine ⟨_,_,rfl,by rw [List.length_map];exact List.length_filter_le _ _,?_⟩
   intro r hr
   obtain ⟨q,hq,rfl⟩:=List.mem_map.1 hr
   have h1:=h q (List.mem_filter.1 hq).1
   unfold rcC
   rw [List.length_append,List.length_map]
   have:(if q.thn > 0 then [q.thn] else []).length≤1:=by split<;>simp
   omega
 · exact ⟨[],_,rfl,by simp,by simp⟩
theorem horn_is (v:Int) (l:List (List Int)):∃ a b:Bool,hornD v l=.tup [Bb a,Bb b]:=by
 unfold hornD
 split
 · exact ⟨_,_,rfl⟩
 · exact ⟨_,_,rfl⟩
theorem least_len {n:Int} {l:List RuleD} (h:goodRules n l=true):(leastP l).1.length≤13:=by
 obtain ⟨s,may,ok,c,N,h1,h2,h3,_⟩:=le_is n l
 have e:leastD n l=.tup [ints (leastP l).1,Bb (fineR l (leastP l).1),Bb true]:=by unfold leastD;rw [h];rfl
 rw [e] at h1
 injection h1 with h1
 injection h1 with h1
 injection h1 with _ h1
 have:=congrArg List.length h1
 rw [List.length_map,List.length_map] at this
 omega
structure MeO (n:Int) (l:List RuleD) (a b m:List Int) (p q h:Bool):Prop where
 la:a.length≤8
 lb:b.length≤8
 lm:m.length≤8
 ha:holdsI n l a=.tup [Bb p,Bb true]
 hb:holdsI n l b=.tup [Bb q,Bb true]
 hm:meetD a b=.tup [ints m,Bb true]
 hh:holdsI n l m=.tup [Bb h,Bb true]
 law:(p&&q&&!h)=false
theorem me_o {N i j:Nat} {l:List RuleD} (hg:goodRules N l=true) (h8:N≤8):∃ m p q h,MeO N l (listO N i) (listO N j) m p q h:=by
 have hf:((listO N i).filter (hasI (listO N j))).length≤8:=Nat.le_trans (List.length_filter_le _ _) (Nat.le_trans listO_len h8)
 refine ⟨(listO N i).filter (hasI (listO N j)),l.all (okR (listO N i)),l.all (okR (listO N j)),l.all (okR ((listO N i).filter (hasI (listO N j)))),?_⟩
 refine ⟨Nat.le_trans listO_len h8,Nat.le_trans listO_len h8,hf,?_,?_,?_,?_,?_⟩
 · unfold holdsI;rw [hg,listO_ris (Int.le_refl _)];rfl
 · unfold holdsI;rw [hg,listO_ris (Int.le_refl _)];rfl
 · unfold meetD;rw [listO_ris (by omega),listO_ris (by omega)];rfl
 · unfold holdsI;rw [hg,meetO_ris (Int.le_refl _)];rfl
 · cases hp:l.all (okR (listO N i)) with
   | false=>rfl
   | true =>
    cases hq:l.all (okR (listO N j)) with
    | false=>rfl
    | true=>rw [meet_ok hp hq];rfl
theorem laws_FnHorn.fc (code more:List Int) (wc:code.length≤9223372036854775807) (wm:more.length≤9223372036854775807) (bc:∀ b∈code,0≤b∧b≤255) (bm:∀ b∈more,0≤b∧b≤255) :
 FCt prog F_laws_FnHorn [.ro,.ro] [.sl 1 (code.map Ub),.sl 1 (more.map Ub)] (Bb true) []:=by
 obtain ⟨n,l,x,hn,hl,hr,d1⟩:=wo_ex2 code wc bc
 obtain ⟨a,b,la,lb,d2⟩:=mo_ex more wm bm
 obtain ⟨n2,r2,hn2,hl2,hr2,d3⟩:=rc_ex more wm bm
 obtain ⟨v,d,hd1,hd2,d4⟩:=ih_ex more wm bm
 obtain ⟨K0,hK,d5⟩:=num_ex more wm bm
 obtain ⟨K,rfl⟩:∃ K:Nat,K0=K:=⟨K0.toNat,by omega⟩
 have hr':∀ r∈l,r.ifs.length≤4294967296:=fun r h=>by have:=hr r h;omega
 have hr2':∀ r∈r2,r.ifs.length≤4294967296:=fun r h=>by have:=hr2 r h;omega
 have hd2':∀ r∈d,r.length≤4294967296:=fun r h=>by have:=hd2 r h;omega
 obtain ⟨w,ok,eW,lw,hW⟩:=why_law n l x
 have c1:=impl_WhyOf.fc n l x (by omega) hr'
 have c2:=spec_WhyOf.fc n l x (by omega) hr'
 rw [eW] at c1 c2
 have c3:=impl_GoodRules.fc l n (by omega) hr'
 have s1:=laws_sameInts.fc w w (by omega) (by omega)
 rw [show decide (w=w)=true by simp] at s1
 obtain ⟨m,t1,eM,lm⟩:=meet_is a b
 have q1:=impl_MeetOf.fc a b (by omega) (by omega)
 have q2:=spec_MeetOf.fc a b (by omega) (by omega)
 rw [eM] at q1 q2
 obtain ⟨c,t3,eC,lc1,lc2⟩:=rc_is n2 r2 hr2
 have q3:=impl_RulesAsClauses.fc n2 r2 (by omega) hr2'
 have q4:=spec_RulesAsClauses.fc n2 r2 (by omega) hr2'
 rw [eC] at q3 q4
 obtain ⟨t5,t6,eH⟩:=horn_is v d
 have q5:=impl_IsHorn.fc v d (by omega) hd2'
 have q6:=spec_IsHorn.fc v d (by omega) hd2'
 rw [eH] at q5 q6
 have z2:=laws_sameInts.fc m m (by omega) (by omega)
 rw [show decide (m=m)=true by simp] at z2
 have hc':∀ r∈c,r.length≤4294967296:=fun r h=>by have:=lc2 r h;omega
 have z3:=laws_sameRules.fc c c (by omega) (by omega) hc' hc'
 rw [show decide (c=c)=true by simp] at z3
 have x1:(ok != ok)=false:=by simp
 have x2:(t1 == t1)=true:=by simp
 have x3:(t3 == t3)=true:=by simp
 have x4:(t6 == t6)=true:=by simp
 have x5:(t5 == t5)=true:=by simp
 have x7:(true != false)=true:=rfl
 refine fct_run laws_FnHorn.ok rfl ?_
 simp only [go_sem]
 refine cdW_any (fun hlen=>?_) (fun hlen=>?_)
 · simp only [go_sem];try rfl
 simp only [go_sem,take_map_len]
 refine fcW_bd d1 (noRs_t3 rfl noRs_rules rfl) ?_
 simp only [go_sem,take_map_len]
 refine fcW_bd c1 (noRs_t2 noRs_ints rfl) ?_
 simp only [go_sem,take_map_len]
 refine fcW_bd c2 (noRs_t2 noRs_ints rfl) ?_
 simp only [go_sem,take_map_len,x1]
 refine fcW_bool s1 ?_
 simp only [go_sem,take_map_len]
 refine cdW_cut (fun e _ _=>e=.n) ?_ ?_
 · cases ok
   · simp only [go_sem]
   · have hO:=hW rfl
     have eL:leastD n l=.tup [ints (leastP l).1,Bb (fineR l (leastP l).1),Bb true]:=by unfold leastD;rw [hO.gr];rfl
     have lL:=least_len hO.gr
     have c4:=impl_LeastOf.fc n l (by omega) hr'
     rw [eL] at c4
     have c5:=laws_has.fc (leastP l).1 x (by omega)
     rw [hO.has] at c5
     have lw0:(w.length:Int)≠0:=by have:=hO.ne;omega
     simp only [go_sem,take_map_len,nmW]
     refine R_loop (α:=Nat) (fun k s' M'=>k≤w.length∧s' 86=aI k∧∃ v,s' 12=.sl 5120 v 0 (thensL l (w.take k)).length 1∧M'.m 5120=some (.arr v true 1 ((thensL l (w.take k)).map Ii))) (fun k=>w.length - k) 0
      ⟨Nat.zero_le _,by simp only [go_sem];try rfl,_,by simp only [go_sem];try rfl,by simp only [go_sem];try rfl⟩ ?_
     rintro k s' M' ⟨hk,g86,v,g12,gm⟩ ho
     unfold laws_FnHorn.b1
     have j1:s' 1=.dat none (.sl 1 (more.map Ub)):=by rw [ho 1 rfl];simp only [go_sem]
     have j5:s' 5=aI n:=by rw [ho 5 rfl];simp only [go_sem]
     have j6:s' 6=.dat none (rules l):=by rw [ho 6 rfl];simp only [go_sem]
     have j7:s' 7=aI x:=by rw [ho 7 rfl];simp only [go_sem]
     have j84:s' 84=.dat none (ints w):=by rw [ho 84 rfl];simp only [go_sem]
     have j85:s' 85=aI w.length:=by rw [ho 85 rfl];simp only [go_sem]
     clear ho
     have tl:(thensL l (w.take k)).length=k:=by unfold thensL;rw [List.length_map,List.length_take];omega
     by_cases hlt:k < w.length
     · have hi':(k:Int) < w.length:=by omega
       have ga:w[k]? = some w[k]:=List.getElem?_eq_getElem hlt
       have hw:IntKind.i64.wrap (k+1)=((k+1:Nat):Int):=wrap_k hlt (by omega)
       have hat:=hO.at' k hlt
       have hwy:=hO.why k hlt
       have hst:=thens_step (l:=l) hlt
       rw [List.getD_eq_getElem?_getD,List.getElem?_eq_getElem hlt,Option.getD_some] at hat hwy hst
       generalize w[k]=i at ga hat hwy hst
       obtain ⟨i0,i1⟩:=hat
       have gi:l[i.toNat]? = some (ruleAt l i.toNat):=by rw [ruleAt_get (by omega)];exact List.getElem?_eq_getElem (by omega)
       have hri:=hr _ (List.mem_of_getElem? gi)
       generalize hQ:thensL l (w.take k)=Q at *
       generalize ruleAt l i.toNat=rr at gi hwy hst hri
       have hbb:(Q.length+1) * 8≤70368744177664:=by omega
       have sn:Q.map Ii++[Ii rr.thn]=(thensL l (w.take (k+1))).map Ii:=by rw [hst];simp
       have sl:(thensL l (w.take (k+1))).length=Q.length+1:=by rw [hst];simp
       simp only [go_sem,hi',ga,i0,i1,gi,j1,j5,j6,j7,j84,j85,g86,g12,gm]
       refine R_loop (α:=Nat) (fun q s' M'=>q≤rr.ifs.length∧s' 96=aI q∧∃ v,s' 12=.sl 5120 v 0 Q.length 1∧M'.m 5120=some (.arr v true 1 (Q.map Ii))) (fun q=>rr.ifs.length - q) 0
        ⟨Nat.zero_le _,by simp only [go_sem,j1,j5,j6,j7,j84,j85,g86,g12,gm];try rfl,v,by simp only [go_sem,j1,j5,j6,j7,j84,j85,g86,g12,gm];try rfl,by simp only [go_sem,j1,j5,j6,j7,j84,j85,g86,g12,gm];try rfl⟩ ?_
       rintro q s2 M2 ⟨hq,g96,u,p12,pm⟩ ho
       unfold laws_FnHorn.b0
       have p1:s2 1=.dat none (.sl 1 (more.map Ub)):=by rw [ho 1 rfl];simp only [go_sem,j1,j5,j6,j7,j84,j85,g86,g12,gm]
       have p5:s2 5=aI n:=by rw [ho 5 rfl];simp only [go_sem,j1,j5,j6,j7,j84,j85,g86,g12,gm]
       have p6:s2 6=.dat none (rules l):=by rw [ho 6 rfl];simp only [go_sem,j1,j5,j6,j7,j84,j85,g86,g12,gm]
       have p7:s2 7=aI x:=by rw [ho 7 rfl];simp only [go_sem,j1,j5,j6,j7,j84,j85,g86,g12,gm]
       have p14:s2 14=aI i:=by rw [ho 14 rfl];simp only [go_sem,j1,j5,j6,j7,j84,j85,g86,g12,gm]
       have p84:s2 84=.dat none (ints w):=by rw [ho 84 rfl];simp only [go_sem,j1,j5,j6,j7,j84,j85,g86,g12,gm]
       have p85:s2 85=aI w.length:=by rw [ho 85 rfl];simp only [go_sem,j1,j5,j6,j7,j84,j85,g86,g12,gm]
       have p86:s2 86=aI k:=by rw [ho 86 rfl];simp only [go_sem,j1,j5,j6,j7,j84,j85,g86,g12,gm]
       have p94:s2 94=.dat none (ints rr.ifs):=by rw [ho 94 rfl];simp only [go_sem,j1,j5,j6,j7,j84,j85,g86,g12,gm]
       have p95:s2 95=aI rr.ifs.length:=by rw [ho 95 rfl];simp only [go_sem,j1,j5,j6,j7,j84,j85,g86,g12,gm]
       clear ho
       by_cases hl2:q < rr.ifs.length
       · have gq:rr.ifs[q]? = some rr.ifs[q]:=List.getElem?_eq_getElem hl2
         have hq2:(q:Int) < rr.ifs.length:=by omega
         have hw2:IntKind.i64.wrap ((q:Int)+1)=((q+1:Nat):Int):=wrap_k hl2 (by omega)
         have f1:=laws_has.fc Q rr.ifs[q] (by omega)
         rw [hwy _ (List.getElem_mem hl2)] at f1
         simp only [go_sem,hq2,gq,take_map_len,j1,j5,j6,j7,j84,j85,g86,g12,gm,p1,p5,p6,p7,p14,p84,p85,p86,p94,p95,g96,p12,pm]
         refine fcW_bool f1 ?_
         simp only [go_sem,hw2,j1,j5,j6,j7,j84,j85,g86,g12,gm,p1,p5,p6,p7,p14,p84,p85,p86,p94,p95,g96,p12,pm]
         exact ⟨q+1,by dsimp only;omega,by omega,by simp only [go_sem,j1,j5,j6,j7,j84,j85,g86,g12,gm,p1,p5,p6,p7,p14,p84,p85,p86,p94,p95,g96,p12,pm],u,by simp only [go_sem,j1,j5,j6,j7,j84,j85,g86,g12,gm,p1,p5,p6,p7,p14,p84,p85,p86,p94,p95,g96,p12,pm],by simp only [go_sem,j1,j5,j6,j7,j84,j85,g86,g12,gm,p1,p5,p6,p7,p14,p84,p85,p86,p94,p95,g96,p12,pm]⟩
       · obtain rfl:q=rr.ifs.length:=by omega
         simp only [go_sem,Int.lt_irrefl,hw,hbb,take_map_len,i0,i1,gi,j1,j5,j6,j7,j84,j85,g86,g12,gm,p1,p5,p6,p7,p14,p84,p85,p86,p94,p95,g96,p12,pm]
         exact ⟨k+1,by dsimp only;omega,by omega,by simp only [go_sem,j1,j5,j6,j7,j84,j85,g86,g12,gm,p1,p5,p6,p7,p14,p84,p85,p86,p94,p95,g96,p12,pm],_,by simp only [go_sem,sl,j1,j5,j6,j7,j84,j85,g86,g12,gm,p1,p5,p6,p7,p14,p84,p85,p86,p94,p95,g96,p12,pm];try rfl,by simp only [go_sem,j1,j5,j6,j7,j84,j85,g86,g12,gm,p1,p5,p6,p7,p14,p84,p85,p86,p94,p95,g96,p12,pm];rw [← sn]⟩
     · obtain rfl:k=w.length:=by omega
       rw [List.take_length] at *
       have hla:=hO.last
       have w1:IntKind.i64.wrap ((w.length:Int) - 1)=((w.length - 1:Nat):Int):=by rw [wrap_in (by omega) (by omega)];omega
       have hl3:((w.length - 1:Nat):Int) < w.length:=by omega
       have gl:(thensL l w)[w.length - 1]? = some x:=by
        rw [List.getD_eq_getElem?_getD,List.getElem?_eq_getElem (by omega),Option.getD_some] at hla
        rw [List.getElem?_eq_getElem (by omega),hla]
       have x6:(x != x)=false:=by simp
       have e0:((w.length:Int) == 0)=false:=by simpa using lw0
       simp only [go_sem,Int.lt_irrefl,j1,j5,j6,j7,j84,j85,g86,g12,gm]
       refine fcW_bd c4 (noRs_t3 noRs_ints rfl rfl) ?_
       simp only [go_sem,tl,w1,hl3,gl,x6,e0,take_map_len,j1,j5,j6,j7,j84,j85,g86,g12,gm]
       refine fcW_bool c5 ?_
       simp only [go_sem,j1,j5,j6,j7,j84,j85,g86,g12,gm]
 rintro e2 s' M' rfl ho
 have j1:s' 1=.dat none (.sl 1 (more.map Ub)):=by rw [ho 1 rfl];simp only [go_sem]
 have j5:s' 5=aI n:=by rw [ho 5 rfl];simp only [go_sem]
 have j6:s' 6=.dat none (rules l):=by rw [ho 6 rfl];simp only [go_sem]
 clear ho
 simp only [go_sem,take_map_len,j1,j5,j6]
 refine fcW_bool c3 ?_
 cases hg:goodRules n l with
 | false =>
  simp only [go_sem,take_map_len,j1,j5,j6]
  refine fcW_bd d2 (noRs_t2 noRs_ints noRs_ints) ?_
  simp only [go_sem,take_map_len,j1,j5,j6]
  refine fcW_bd q1 (noRs_t2 noRs_ints rfl) ?_
  simp only [go_sem,take_map_len,j1,j5,j6]
  refine fcW_bd q2 (noRs_t2 noRs_ints rfl) ?_
  simp only [go_sem,take_map_len,j1,j5,j6]
  refine fcW_bd d3 (noRs_t2 rfl noRs_rules) ?_
  simp only [go_sem,take_map_len,j1,j5,j6]
  refine fcW_bd q3 (noRs_t2 noRs_intss rfl) ?_
  simp only [go_sem,take_map_len,j1,j5,j6]
  refine fcW_bd q4 (noRs_t2 noRs_intss rfl) ?_
  simp only [go_sem,take_map_len,j1,j5,j6]
  refine fcW_bd d4 (noRs_t2 rfl noRs_intss) ?_
  simp only [go_sem,take_map_len,j1,j5,j6]
  refine fcW_bd q5 rfl ?_
  simp only [go_sem,take_map_len,j1,j5,j6]
  refine fcW_bd q6 rfl ?_
  simp only [go_sem,take_map_len,x2,x7,j1,j5,j6]
  refine fcW_bool z2 ?_
  simp only [go_sem,take_map_len,x3,x7,j1,j5,j6]
  refine fcW_bool z3 ?_
  simp only [go_sem,take_map_len,x4,x5,x7,j1,j5,j6];try rfl
 | true =>
  simp only [go_sem,take_map_len,j1,j5,j6]
  refine cdW_cut (fun e _ _=>e=.n) ?_ ?_
  · obtain ⟨hn12,_,_⟩:=good_rules hg
    obtain ⟨N,rfl⟩:∃ N:Nat,n=N:=⟨n.toNat,by omega⟩
    by_cases h8:(N:Int)≤8
    · obtain ⟨y,p,q,h,hy⟩:=me_o (i:=K) (j:=K / 256) hg (by omega)
      have f1:=laws_listOf.fc N K (by omega) (by omega)
      have f2:=laws_listOf.fc N (K / 256) (by omega) (by omega)
      generalize listO N K=A at hy f1
      generalize listO N (K / 256)=B at hy f2
      have a1:=hy.la
      have a2:=hy.lb
      have a3:=hy.lm
      have f3:=impl_HoldsIn.fc N l A (by omega) hr' (by omega)
      have f4:=impl_HoldsIn.fc N l B (by omega) hr' (by omega)
      have f5:=impl_MeetOf.fc A B (by omega) (by omega)
      have f6:=impl_HoldsIn.fc N l y (by omega) hr' (by omega)
      rw [hy.ha] at f3
      rw [hy.hb] at f4
      rw [hy.hm] at f5
      rw [hy.hh] at f6
      have z0:¬ (256:Int)=0:=by decide
      have z1:IntKind.i64.wrap (Int.tdiv (K:Int) 256)=((K / 256:Nat):Int):=by
       rw [Int.tdiv_eq_ediv_of_nonneg (by omega),wrap_in (by omega) (by omega)];omega
      simp only [go_sem,h8,j1,j5,j6]
      refine fcW_int d5 ?_
      simp only [go_sem,j1,j5,j6]
      refine fcW_bd f1 noRs_ints ?_
      simp only [go_sem,take_map_len,j1,j5,j6]
      refine fcW_int d5 ?_
      simp only [go_sem,z0,z1,j1,j5,j6]
      refine fcW_bd f2 noRs_ints ?_
      simp only [go_sem,take_map_len,j1,j5,j6]
      refine fcW_bd f3 rfl ?_
      simp only [go_sem,take_map_len,j1,j5,j6]
      refine fcW_bd f4 rfl ?_
      simp only [go_sem,take_map_len,j1,j5,j6]
      refine fcW_bd f5 (noRs_t2 noRs_ints rfl) ?_
      simp only [go_sem,take_map_len,j1,j5,j6]
      refine fcW_bd f6 rfl ?_
      have hla:=hy.law
      cases p
      · simp only [go_sem,j1,j5,j6]
      · cases q
        · simp only [go_sem,j1,j5,j6]
        · cases h
          · cases hla
          · simp only [go_sem,j1,j5,j6]
    · simp only [go_sem,h8,j1,j5,j6]
  rintro e3 s3 M3 rfl ho
  have p1:s3 1=.dat none (.sl 1 (more.map Ub)):=by rw [ho 1 rfl];simp only [go_sem,j1,j5,j6]
  clear ho
  simp only [go_sem,take_map_len,j1,j5,j6,p1]
  refine fcW_bd d2 (noRs_t2 noRs_ints noRs_ints) ?_
  simp only [go_sem,take_map_len,j1,j5,j6,p1]
  refine fcW_bd q1 (noRs_t2 noRs_ints rfl) ?_
  simp only [go_sem,take_map_len,j1,j5,j6,p1]
  refine fcW_bd q2 (noRs_t2 noRs_ints rfl) ?_
  simp only [go_sem,take_map_len,j1,j5,j6,p1]
  refine fcW_bd d3 (noRs_t2 rfl noRs_rules) ?_
  simp only [go_sem,take_map_len,j1,j5,j6,p1]
  refine fcW_bd q3 (noRs_t2 noRs_intss rfl) ?_
  simp only [go_sem,take_map_len,j1,j5,j6,p1]
  refine fcW_bd q4 (noRs_t2 noRs_intss rfl) ?_
  simp only [go_sem,take_map_len,j1,j5,j6,p1]
  refine fcW_bd d4 (noRs_t2 rfl noRs_intss) ?_
  simp only [go_sem,take_map_len,j1,j5,j6,p1]
  refine fcW_bd q5 rfl ?_
  simp only [go_sem,take_map_len,j1,j5,j6,p1]
  refine fcW_bd q6 rfl ?_
  simp only [go_sem,take_map_len,x2,x7,j1,j5,j6,p1]
  refine fcW_bool z2 ?_
  simp only [go_sem,take_map_len,x3,x7,j1,j5,j6,p1]
  refine fcW_bool z3 ?_
  simp only [go_sem,take_map_len,x4,x5,x7,j1,j5,j6,p1];try rfl
theorem hasByte {d:D} (h:HasTy (.int .u8) d):∃ n:Int,d=.int .u8 n∧(0≤n∧n≤255):=by
 simp only [HasTy] at h
 obtain ⟨n,rfl,h⟩:=h
 refine ⟨n,rfl,?_⟩
 simp [Lit.wf,IntKind.has,IntKind.min,IntKind.max,IntKind.signed,IntKind.bits] at h
 exact ⟨by omega,by omega⟩
theorem hasBytes {d:D} (h:HasTy (.sl (.int .u8)) d):∃ l:List Int,d=.sl 1 (l.map (fun n=>(.int .u8 n:D)))∧l.length≤9223372036854775807∧∀ b∈l,0≤b∧b≤255 :=
 hasSl (f:=fun n=>(.int .u8 n:D)) (p:=fun b=>0≤b∧b≤255) (fun _ h=>hasByte h) h
end Go.Vm.Ytdebllkmblakkaa
