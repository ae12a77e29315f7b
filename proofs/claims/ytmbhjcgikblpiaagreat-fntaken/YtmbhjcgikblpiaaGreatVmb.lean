/- An interpreter for loaded functions over plain data, and that it is right: part 2 (no condition). -/
import Derived.Test.YtmbhjcgikblpiaaGreatVma
import Derived.Laws.BytesString
import Derived.Laws.AppendOwn
import Derived.Orders
namespace Go.Vm
open Go
set_option linter.unusedVariables false
set_option linter.unusedSimpArgs false
section
variable {P:Program} {g:G} {Y:Nat→Prop} {M:Mem} {w:World} {s:Nat→AV} {ρ:Operand→Value} {o:Oper} {nb ib:Nat} {av:AV} {M':Mem}
structure Wr (A:Addr) (w w':World) (k:Nat) (us:List Value):Prop where
 size:w'.heap.size=w.heap.size
 io:IOk w w'
 other:∀ b,b≠A.block→w'.heap[b]? = w.heap[b]?
 rm:∀ m,RM w A m→RM w' A m
 same:∀ i,i < k∨k+us.length≤i→w'.cell? (A.add i)=w.cell? (A.add i)
 new:∀ i u,us[i]? = some u→w'.cell? (A.add (k+i))=some u
theorem ZlO {b o:Nat} {k:Nat} {cs:Array Value} {E:TypeId} {us:List Value} (hg:w.heap[b]? = some (.cells cs E (0,0))) (hb:o+k+us.length≤cs.size) :
 Wr ⟨b,o,none⟩ w (w.setRow b (cs.toList.take (o+k)++us++cs.toList.drop (o+k+us.length)).toArray) k us:=by
 have hh:=setRow_heap w b cs (cs.toList.take (o+k)++us++cs.toList.drop (o+k+us.length)).toArray E (0,0) hg
 refine ⟨by simp,⟨rfl,rfl,rfl,fun b' cs' E' fr' k=>?_⟩,fun b' h=>setRow_other _ _ _ _ h,fun m ⟨cs',E',h1,h2⟩=>?_,fun i hi=>?_,fun i v hi=>?_⟩
 · by_cases e:b'=b
   · subst e
     rw [hg] at k
     cases k
     exact ⟨_,_,hh,by simp;omega⟩
   · exact ⟨cs',E',by rw [setRow_other _ _ _ _ e];exact k,rfl⟩
 · rw [hg] at h1
   cases h1
   refine ⟨_,_,hh,?_⟩
   rcases h2 with h2|h2
   · exact .inl h2
   · right;simp only at h2 ⊢;simp;omega
 · rw [Addr.add_lit]
   simp only [World.cell?,hh,hg,Option.isSome_none,Bool.false_eq_true,if_false,List.getElem?_toArray]
   rcases hi with c1|c2
   · rw [List.append_assoc,List.getElem?_append_left (by simp;omega),List.getElem?_take]
     simp only [show o+i < o+k by omega,if_true]
     simp
   · rw [List.getElem?_append_right (by simp;omega),List.getElem?_drop]
     have e1:o+k+us.length+(o+i - (cs.toList.take (o+k)++us).length)=o+i:=by simp;omega
     rw [e1]
     simp
 · have hlt:=(List.getElem?_eq_some_iff.1 hi).1
   rw [Addr.add_lit]
   simp only [World.cell?,hh,Option.isSome_none,Bool.false_eq_true,if_false,List.getElem?_toArray]
   rw [List.append_assoc,List.getElem?_append_right (by simp;omega),List.getElem?_append_left (by simp;omega),← hi]
   congr 1
   simp
   omega
theorem Wr.cl {A:Addr} {w':World} {k:Nat} {us:List Value} (h:Wr A w w' k us) (v1 uo v2:List Value) (h1:v1.length=k) (h2:uo.length=us.length) (hc:CL w A (v1++uo++v2)):CL w' A (v1++us++v2):=by
 intro i v hi
 by_cases c1:i < k
 · rw [h.same i (.inl c1)]
   refine hc i v ?_
   rw [List.append_assoc,List.getElem?_append_left (by omega)] at hi ⊢
   exact hi
 · by_cases c2:i < k+us.length
   · have:=h.new (i - k) v (by rw [List.append_assoc,List.getElem?_append_right (by omega),List.getElem?_append_left (by omega),h1] at hi;exact hi)
     rwa [show k+(i - k)=i by omega] at this
   · rw [h.same i (.inr (by omega))]
     refine hc i v ?_
     rw [List.append_assoc,List.getElem?_append_right (by omega),List.getElem?_append_right (by omega)] at hi ⊢
     rw [h2]
     exact hi
theorem Wr.cl0 {A:Addr} {w':World} {k:Nat} {us:List Value} (h:Wr A w w' k us) (v1:List Value) (h1:v1.length=k) (hc:CL w A v1):CL w' A (v1++us):=by
 intro i v hi
 by_cases c1:i < k
 · rw [h.same i (.inl c1)]
   refine hc i v ?_
   rwa [List.getElem?_append_left (by omega)] at hi
 · have:=h.new (i - k) v (by rw [List.getElem?_append_right (by omega),h1] at hi;exact hi)
   rwa [show k+(i - k)=i by omega] at this
theorem ZoC {A:Addr} {t:TypeId} {n k bs:Nat} {v:Value} (h1:szT P t n=true) (hn:0 < n) (hsp:A.spot=none) (hr:RM w A bs) (hk:k+n≤bs)
 (hv1:∀ u∈v.cells.toList,u.oneCell'=true) (hv2:v.cells.size=n) :
 ∃ w',(Instr.storeAt t (.pointer (some (A.add k))) v).run P w=.ok () w'∧Wr A w w' k v.cells.toList:=by
 obtain ⟨b,o,sp⟩:=A
 simp only at hsp
 subst hsp
 obtain ⟨cs,E,hg,hb⟩:=hr
 simp only at hg hb
 obtain ⟨i,hi,hi1⟩:=Zbz h1
 have hl:v.cells.toList.length=n:=by simpa using hv2
 have hst:=run_storeCells_at P b (o+k) E v.cells.toList 0 cs w hg (by rw [hl];omega) hv1
 refine ⟨_,?_,ZlO hg (by rw [hl];omega)⟩
 rw [Addr.add_lit]
 simp only [Instr.storeAt,Instr.sureAddr,storeVar]
 simp only [Sem.run_bind,Sem.run_pure,Result.andThen_ok,ZcR hi]
 simp only [Nat.add_zero] at hst
 simp [hi1,hv2,hst]
theorem SVL.set:∀ {xs:List AV} {vs:List Value} {j:Nat} {a:AV} {u:Value},SVL g Y M w xs vs→SV g Y M w a u→SVL g Y M w (xs.set j a) (vs.set j u)
 | [],vs,j,a,u,h,_=>by simp only [SVL] at h;subst h;simp [SVL]
 | x::xs,vs,0,a,u,h,ha=>by
  simp only [SVL] at h
  obtain ⟨u0,us,rfl,h1,h2⟩:=h
  simp only [List.set_cons_zero,SVL]
  exact ⟨u,us,rfl,ha,h2⟩
 | x::xs,vs,j+1,a,u,h,ha=>by
  simp only [SVL] at h
  obtain ⟨u0,us,rfl,h1,h2⟩:=h
  simp only [List.set_cons_succ,SVL]
  exact ⟨u0,_,rfl,h1,SVL.set h2 ha⟩
theorem SVL.ofTL {e:Option Nat} (he:vD M e=true):∀ {fs:List D} {vs:List Value} {F:List Nat},TL (match e with|none=>XA g Y M|some _=>XB g Y M) false w fs vs F→SVL g Y M w (fs.map (.dat e)) vs
 | [],vs,F,h=>by simp only [TL] at h;simp only [List.map_nil,SVL];exact h.1
 | x::xs,vs,F,h=>by
  simp only [TL] at h
  obtain ⟨u,us,F1,F2,rfl,_,h2,h3⟩:=h
  simp only [List.map_cons,SVL]
  refine ⟨u,us,rfl,?_,SVL.ofTL he h3⟩
  have:=h2.nof
  subst this
  cases e with
  | none=>simp only [SV];exact h2
  | some e=>simp only [vD,beq_iff_eq] at he;simp only [SV];exact ⟨Nat.le_of_eq he,fun _=>h2⟩
theorem ZpF {x a x' y:AV} {v u:Value} {j:Option Nat} {n:Nat} (hx:SV g Y M w x v) (ha:SV g Y M w a u) (hf:fldA M x j=some y) (hset:setA M x j a=some x') (hyn:y.size=n)
 (hg:j=none∧gd M x=true∨j≠none∧isAg a=false) (hok:okA M a=true) (han:a.size=n) :
 ∃ v' v1 uo v2,SV g Y M w x' v'∧isBad x'=false∧v.cells.toList=v1++uo++v2∧v1.length=j.getD 0∧uo.length=n∧v'.cells.toList=v1++u.cells.toList++v2:=by
 have hun:u.cells.size=n:=by rw [(ZpT ha hok).2,han]
 rcases hg with ⟨rfl,hgd⟩|⟨hj,hag⟩
 · simp only [fldA,setA] at hf hset
   cases hf
   cases hset
   refine ⟨u,[],v.cells.toList,[],ha,by cases a<;>simp [okA,oneA] at hok<;>rfl,by simp,rfl,?_,by simp⟩
   cases hia:isAg x with
   | true =>
    obtain ⟨vs,rfl,hl⟩:=ZoE hx hgd hia
    simp [Value.cells,hl,hyn]
   | false =>
    rw [Zjh hx hgd hia]
    rw [← hyn]
    cases x<;>simp [isAg] at hia<;>try rfl
    rename_i e d
    cases d<;>simp [isAgD] at hia<;>rfl
 · cases j with
   | none=>exact absurd rfl hj
   | some j =>
    have hu1:u.cells = #[u]:=by
     have h1:oneA M a=true:=by
      cases a with
      | agg xs=>simp [isAg] at hag
      | dat e d=>cases d<;>simp [isAg,isAgD] at hag<;>exact hok
      | _=>exact hok
     exact (Zgp ha h1).2
    have hn1:n=1:=by rw [← hun,hu1];rfl
    have split:∀ (vs:List Value),j < vs.length→∃ v1 uo v2,vs=v1++uo++v2∧v1.length=j∧uo.length=1∧vs.set j u=v1++[u]++v2:=by
     intro vs hlt
     refine ⟨vs.take j,[vs[j]],vs.drop (j+1),?_,by simp;omega,rfl,?_⟩
     · simp
     · rw [List.set_eq_take_append_cons_drop,if_pos hlt];simp
    cases x with
    | agg xs =>
     simp only [setA] at hset
     split at hset
     · rename_i hlt
       cases hset
       simp only [SV] at hx
       obtain ⟨vs,rfl,hx⟩:=hx
       obtain ⟨v1,uo,v2,q1,q2,q3,q4⟩:=split vs (by rw [hx.length];exact hlt)
       refine ⟨.agg (vs.set j u).toArray,v1,uo,v2,?_,rfl,by simpa [Value.cells] using q1,q2,by rw [hn1];exact q3,by rw [hu1];simpa [Value.cells] using q4⟩
       simp only [SV]
       exact ⟨_,rfl,SVL.set hx ha⟩
     · cases hset
    | dat e d =>
     cases d with
     | agg fs =>
      simp only [setA] at hset
      split at hset
      · rename_i hlt
        simp only [Bool.and_eq_true,decide_eq_true_eq] at hlt
        cases hset
        have hx2:∃ vs:List Value,v=.agg vs.toArray∧SVL g Y M w (fs.map (.dat e)) vs:=by
         cases e with
         | none =>
          simp only [SV,TV] at hx
          obtain ⟨vs,rfl,hx⟩:=hx
          exact ⟨vs,rfl,SVL.ofTL (e:=none) hlt.1 hx⟩
         | some e =>
          have:=hlt.1
          simp only [vD,beq_iff_eq] at this
          simp only [SV,TV] at hx
          obtain ⟨vs,h1,h2⟩:=hx.2 this
          exact ⟨vs,h1,SVL.ofTL (e:=some e) hlt.1 h2⟩
        obtain ⟨vs,rfl,hx2⟩:=hx2
        obtain ⟨v1,uo,v2,q1,q2,q3,q4⟩:=split vs (by rw [hx2.length];simpa using hlt.2)
        refine ⟨.agg (vs.set j u).toArray,v1,uo,v2,?_,rfl,by simpa [Value.cells] using q1,q2,by rw [hn1];exact q3,by rw [hu1];simpa [Value.cells] using q4⟩
        simp only [SV]
        exact ⟨_,rfl,SVL.set hx2 ha⟩
      · cases hset
     | _=>simp [setA] at hset
    | _=>simp [setA] at hset
theorem RM.of_cl {A:Addr} {m:Nat} {vs:List Value} (hsp:A.spot=none) (hr:RM w A m) (hc:CL w A vs):RM w A vs.length:=by
 obtain ⟨b,o,sp⟩:=A
 simp only at hsp
 subst hsp
 obtain ⟨cs,E,h1,_⟩:=hr
 simp only at h1
 refine ⟨cs,E,h1,?_⟩
 cases hl:vs.length with
 | zero=>exact .inl rfl
 | succ k =>
  right
  have hk:k < vs.length:=by omega
  have:=hc k vs[k] (List.getElem?_eq_getElem hk)
  rw [Addr.add_lit] at this
  simp only [World.cell?,h1,Option.isSome_none,Bool.false_eq_true,if_false] at this
  have:=(Array.getElem?_eq_some_iff.1 this).1
  simp only
  omega
theorem TE.place {X:Nat→Prop} {o:Bool} {sz:Nat} {xs:List D} {vs:List Value} {F:List Nat} {i:Nat} {x y:D} {j:Option Nat} (h:TE X o w sz xs vs F) (hx:xs[i]? = some x) (hf:fldD x j=some y) :
 ∃ v1 uo v2 F1 Fo F2,vs=v1++uo++v2∧F=F1++Fo++F2∧v1.length=i * sz+j.getD 0∧uo.length=y.size ∧
  ∀ (d':D) (us:List Value) (Fd:List Nat) (x':D),setD x j d'=some x'→TC X o w d' us Fd→d'.size=y.size→(j=none∨isAgD d'=false)→(∀ u∈us,u.oneCell'=true) →
   TE X o w sz (xs.set i x') (v1++us++v2) (F1++Fd++F2):=by
 obtain ⟨v1,us0,v2,F1,Fi,F2,q1,q2,q3,q4,q5,q6,q7,q8⟩:=TE.get h hx
 have hlt:i < xs.length:=(List.getElem?_eq_some_iff.1 hx).1
 cases j with
 | none =>
  simp only [fldD] at hf
  cases hf
  refine ⟨v1,us0,v2,F1,Fi,F2,q1,q2,by simpa using q3,by rw [q4.1,q5],fun d' us Fd x' h1 h2 h3 _ h4=>?_⟩
  simp only [setD] at h1
  cases h1
  exact TE.set hlt q7 h2 (by rw [h3,q5]) h4 q8
 | some j =>
  obtain ⟨fs,p1,rfl,p2⟩:=Zcm hf
  obtain ⟨u1,u,u2,G1,Gj,G2,e1,e2,e3,e4,e5,e6⟩:=TL.get q6 p1
  subst e1 e2
  refine ⟨v1++u1,[u],u2++v2,F1++G1,Gj,G2++F2,by rw [q1];simp,by rw [q2];simp,by simp [q3,e3],by cases y<;>simp [isAgD] at p2<;>rfl,fun d' us Fd x' h1 h2 h3 h4 h5=>?_⟩
  simp only [setD] at h1
  split at h1
  · rename_i hj
    cases h1
    have ha:isAgD d'=false:=h4.resolve_left (by simp)
    obtain ⟨u',rfl,ht⟩:=(TC.mk ha).1 h2
    have hset:=TL.set (d:=d') hj e5 ht e6
    have:=TE.set (us:=u1++u'::u2) (y:=.agg (fs.set j d')) hlt q7 hset (by simpa [D.size] using q5) (by
     intro a ha
     rcases List.mem_append.1 ha with ha|ha
     · exact q4.2 a (by simp [ha])
     · rcases List.mem_cons.1 ha with rfl|ha
       · exact h5 _ (by simp)
       · exact q4.2 a (by simp [ha])) q8
    simpa using this
  · cases h1
theorem Mem.set_set {l:Nat} {a b:Option Obj}:(M.set l a).set l b=M.set l b:=by
 have:∀ i,((M.set l a).set l b).m i=(M.set l b).m i:=fun i=>by simp [Mem.set,upd];split<;>simp_all
 have h2:=funext this
 simp only [Mem.set] at h2 ⊢
 rw [h2]
theorem mset_set {l:Nat} {a b:Option Obj}:((M.set l a).set l b).m=(M.set l b).m:=by
 funext i
 simp [Mem.set,upd]
 split<;>simp_all
theorem ZmO {t:TypeId} {n:Nat} {x z:Operand} {x' z':X} (ho:o.op=.store t x z) (h1:chkX x x'=true) (h2:chkX z z'=true) (hsz:szT P t n=true) (hn0:0 < n)
 (hI:Inv g Y M w) (hp:∀ b,¬ g.P b) (hs:Slots g Y M w s ρ) (h:stp s M nb ib (.store n x' z')=some (av,M')):Res P o ρ g Y M w ib av M':=by
 simp only [stp] at h
 cases hst:stpStore M n (x'.ev s) (z'.ev s) with
 | none=>rw [hst] at h;cases h
 | some M2 =>
 rw [hst] at h
 simp only [Option.map_some,Option.some.injEq,Prod.mk.injEq] at h
 obtain ⟨rfl,rfl⟩:=h
 have hx:=Zaq hs h1
 have hz:=Zaq hs h2
 unfold stpStore at hst
 split at hst
 · cases hst
 rename_i hc
 simp only [Bool.or_eq_true,Bool.not_eq_true',not_or,Bool.not_eq_false,beq_iff_eq] at hc
 obtain ⟨hok,hasz⟩:=hc
 obtain ⟨hone,hcsz⟩:=ZpT hz hok
 rw [hasz] at hcsz
 have hexec:∀ A w',ρ x=.pointer (some A)→(Instr.storeAt t (.pointer (some A)) (ρ z)).run P w=.ok () w'→(execOp ρ o).run P w=.ok .skip w':=by
  intro A w' hA hr
  simp only [execOp,ho,hA]
  simp only [Sem.run_bind,hr,Result.andThen_ok]
  rfl
 split at hst
 case h_2=>cases hst
 rename_i l id i j ea
 rw [ea] at hx
 simp only [SV] at hx
 obtain ⟨hu,hvr,hv⟩:=hx
 split at hst
 · -- a box
   rename_i v' xb hm
   split at hst
   · rename_i hcond
     obtain ⟨rfl,rfl,hcond⟩:=hcond
     split at hst
     · rename_i y xn hf hset
       split at hst
       · rename_i hyn
         cases hst
         have hob:=hI.ob l _ hm
         simp only [OB] at hob
         obtain ⟨_,_,hfp,hsp,_,vv,hrm,hcl,hsv⟩:=hob
         obtain ⟨vn,v1,uo,v2,k1,k1b,k2,k3,k4,k5⟩:=ZpF hsv hz hf hset hyn hcond hok hasz
         have hlen:vv.cells.size=v1.length+n+v2.length:=by have:=congrArg List.length k2;simp at this;omega
         obtain ⟨w',hr,hw⟩:=ZoC (P:=P) (v:=ρ z) (k:=j.getD 0) hsz hn0 hsp hrm (by omega) hone hcsz
         have hlen2:vn.cells.size=vv.cells.size:=by have:=congrArg List.length k5;simp [hcsz] at this;omega
         obtain ⟨i1,s1⟩:=hI.drop hm (F:=[(g.AD v').block]) (by intro b hb;simp only [Obj.ver];rw [hfp];exact hb)
         obtain ⟨i2,s2⟩:=i1.world hw.io (w':=w') (N:=[]) (Nat.le_of_eq hw.size.symm) (fun b hb hnb=>hw.other b fun e=>hnb (.inr ⟨List.mem_singleton.2 e,e⟩)) (by simp)
         have hno:∀ l' o',(M.set l none).m l'=some o'→o'.ver≠v':=by
          intro l' o' hm'
          obtain ⟨q1,q2⟩:=ZbU hm'
          exact (hI.dj l' l o' _ q2 hm q1).1
         obtain ⟨i3,s3⟩:=i2.put (l:=l) (id:=v') (fp:=[(g.AD v').block]) (o:=.box v' xn) (M':=M.set l (some (.box v' xn))) mset_set.symm rfl (Nat.le_refl _) (by simp [isArrO]) rfl hu hno
          (fun b hb=>.inl (.inr hb)) (fun b hb _=>.inl (.inr ⟨hb,List.mem_singleton.1 hb⟩)) (fun st=>by
           simp only [OB]
           refine ⟨hu,hvr,by simp [G.put,upd];rfl,hsp,k1b,vn,?_,?_,SV.stp st _ _ (SV.stp s2 _ _ (SV.stp s1 _ _ k1))⟩
           · rw [hlen2];exact hw.rm _ hrm
           · rw [k5]
             exact hw.cl v1 uo v2 k3 (by rw [k4];simp [hcsz]) (by rw [← k2];exact hcl))
         refine Res.fin (.inr ⟨hexec _ _ hv ?_,rfl⟩) i3 ((s1.trans s2).trans s3) (by simp only [SV]) (fun id h=>.inl h)
         simpa using hr
       · cases hst
     · cases hst
   · cases hst
 · -- a row
   split at hst
   case h_2=>cases hst
   rename_i d M1 htk
   split at hst
   case h_2=>cases hst
   rename_i v' own sz xs hm
   split at hst
   case isFalse=>cases hst
   rename_i hvv
   subst hvv
   split at hst
   case h_2=>cases hst
   rename_i xe hxe
   split at hst
   case h_2=>cases hst
   rename_i y xn hf hset
   split at hst
   case isFalse=>cases hst
   rename_i hcond
   obtain ⟨hyn,hdn,hjd⟩:=hcond
   cases hst
   obtain ⟨g1,F,tk,htv⟩:=ZbF 8 g M _ _ d M1 hI hz htk
   have hob:=tk.inv.ob l _ hm
   have hAD:g1.AD=g.AD:=by rw [tk.gh]
   have hVR:g1.VR=g.VR:=by rw [tk.gh]
   have hU:g1.U=g.U:=by rw [tk.gh]
   simp only [OB] at hob
   obtain ⟨hu1,hsz1,hnd,h3⟩:=hob
   rcases h3 with h3|⟨hvr1,vs,F',h4,h5,h6,h7,h8⟩
   · exact absurd h3.1 (by rw [hVR];exact hvr)
   obtain ⟨v1,uo,v2,F1,Fo,F2,k1,k2,k3,k4,k5⟩:=TE.place h8 hxe hf
   have hrm:=RM.of_cl h5 h6 h7
   have hsz2:g.SZ v'=sz:=by rw [← hsz1,tk.gh]
   have hvl:vs.length=i * sz+j.getD 0+n+v2.length:=by have:=congrArg List.length k1;simp at this;omega
   rw [hsz2] at hv
   obtain ⟨w',hr,hw⟩:=ZoC (P:=P) (v:=ρ z) (k:=i * sz+j.getD 0) hsz hn0 h5 hrm (by omega) hone hcsz
   have hcl':=hw.cl v1 uo v2 k3 (by rw [k4,hyn];simp [hcsz]) (by rw [← k1];exact h7)
   have hFd:∀ b∈F,b≠(g1.AD v').block:=fun b hb e=>tk.inv.pd b (tk.inP b hb) l _ hm (by simp only [Obj.ver];rw [h4,e];exact List.mem_cons_self)
   have hF'd:∀ b∈F',b≠(g1.AD v').block:=fun b hb e=>by rw [h4] at hnd;exact (List.nodup_cons.1 hnd).1 (e▸hb)
   obtain ⟨i1,s1⟩:=tk.inv.drop hm (F:=g1.FP v') (fun b hb=>hb)
   obtain ⟨i2,s2⟩:=i1.world hw.io (w':=w') (N:=[]) (Nat.le_of_eq hw.size.symm) (fun b hb hnb=>hw.other b fun e=>hnb (.inr ⟨by rw [h4,e];exact List.mem_cons_self,e⟩)) (by simp)
   have s12:=s1.trans s2
   have hsame:∀ G:List Nat,(∀ b∈G,b∈F'∨b∈F)→Same (XA g1 Y M1) (XA ((g1.pend (g1.FP v') (· = (g1.AD v').block)).pend [] fun _=>True) Y (M1.set l none)) w w' G:=fun G hG =>
    ⟨s12.size,s12.sameA.out,fun b hb hx=>by
     rcases hx with hx|hx
     · exact s12.sameA.heap b hb (.inl hx)
     · exact hw.other b (by rcases hG b hx with h|h;exact hF'd b h;exact hFd b h)⟩
   have hno:∀ l' o',(M1.set l none).m l'=some o'→o'.ver≠v':=by
    intro l' o' hm'
    obtain ⟨q1,q2⟩:=ZbU hm'
    exact (tk.inv.dj l' l o' _ q2 hm q1).1
   have hrun:(execOp ρ o).run P w=.ok .skip w':=hexec _ _ hv (by rw [← hAD];exact hr)
   have hag:isAgD (slD d)=isAgD d:=by cases d<;>rfl
   have hFP:∀ b,b∈F'∨b∈F→((g1.pend (g1.FP v') (· = (g1.AD v').block)).pend [] fun _=>True).P b:=fun b hb=>by
    rcases hb with hb|hb
    · exact .inl (.inr (by rw [h4];exact List.mem_cons_of_mem _ hb))
    · exact .inl (.inl (tk.inP b hb))
   cases hoo:(own&&!hasRs d) with
   | true =>
    simp only [Bool.and_eq_true,Bool.not_eq_true'] at hoo
    obtain ⟨rfl,hrs⟩:=hoo
    rw [Zku hrs] at hset
    have hte:=k5 d _ F xn hset (TC.of htv) (by rw [hdn,hyn]) hjd hone
    have hte2:=TE.stable _ _ _ hte (hsame _ (by
     intro b hb
     rw [k2]
     simp only [List.mem_append] at hb ⊢
     rcases hb with (hb|hb)|hb
     · exact .inl (.inl (.inl hb))
     · exact .inr hb
     · exact .inl (.inr hb)))
    obtain ⟨i3,s3⟩:=i2.put (l:=l) (id:=v') (fp:=(g1.AD v').block::(F1++F++F2)) (o:=.arr v' true sz (xs.set i xn)) (M':=(M1.set l (some (.arr v' true sz (xs.set i xn)))).tickR)
     (by simp only [Mem.tickR];exact mset_set.symm) rfl (Nat.le_succ _) (fun _=>by simp [Mem.tickR,Mem.set]) rfl hu1 hno
     (by
      intro b hb
      rcases List.mem_cons.1 hb with rfl|hb
      · exact .inl (.inr (by rw [h4];exact List.mem_cons_self))
      · refine hFP b ?_
        rw [k2]
        simp only [List.mem_append] at hb ⊢
        rcases hb with (hb|hb)|hb
        · exact .inl (.inl (.inl hb))
        · exact .inr hb
        · exact .inl (.inr hb))
     (fun b hb e=>.inl (.inr ⟨by rw [h4];exact List.mem_cons.2 (.inl e),e⟩)) (fun st=>by
      simp only [OB]
      refine ⟨hu1,hsz1,?_,.inr ⟨hvr1,v1++(ρ z).cells.toList++v2,F1++F++F2,by simp [G.put,upd];rfl,h5,hw.rm _ h6,hcl',TE.stable _ _ _ hte2 ⟨Nat.le_refl _,st.sameA.out,fun _ _ _=>rfl⟩⟩⟩
      have e1:∀ (gg:G),(gg.put v' ((g1.AD v').block::(F1++F++F2))).FP v'=(g1.AD v').block::(F1++F++F2):=fun gg=>by simp [G.put,upd]
      rw [e1]
      rw [h4] at hnd
      have hn2:=(List.nodup_cons.1 hnd).2
      rw [k2] at hn2
      have hdis:∀ b∈F,b ∉ F1++Fo++F2:=fun b hb hb'=>tk.inv.pd b (tk.inP b hb) l _ hm (by simp only [Obj.ver];rw [h4,k2];exact List.mem_cons_of_mem _ hb')
      refine List.nodup_cons.2 ⟨fun hb=>?_,?_⟩
      · simp only [List.mem_append] at hb
        rcases hb with (hb|hb)|hb
        · exact hF'd _ (by rw [k2];simp [hb]) rfl
        · exact hFd _ hb rfl
        · exact hF'd _ (by rw [k2];simp [hb]) rfl
      · rw [List.append_assoc] at hn2 ⊢
        rw [List.nodup_append] at hn2 ⊢
        obtain ⟨m1,m2,m3⟩:=hn2
        rw [List.nodup_append] at m2 ⊢
        obtain ⟨m4,m5,m6⟩:=m2
        refine ⟨m1,⟨tk.nd,m5,fun a ha b hb e=>hdis a ha (by rw [e];simp [hb])⟩,fun a ha b hb e=>?_⟩
        rcases List.mem_append.1 hb with hb|hb
        · exact hdis b hb (by rw [← e];simp [ha])
        · exact m3 a ha b (by simp [hb]) e)
    exact Res.fin (.inr ⟨hrun,rfl⟩) i3 (tk.stp.trans (s12.trans s3)) (by simp only [SV]) (fun id h=>.inl (by rw [← hU];exact h))
   | false =>
    have hPb:((g1.pend (g1.FP v') (· = (g1.AD v').block)).pend [] fun _=>True).P (g1.AD v').block:=.inl (.inr (by rw [h4];exact List.mem_cons_self))
    have hPBb:((g1.pend (g1.FP v') (· = (g1.AD v').block)).pend [] fun _=>True).PB (g1.AD v').block:=.inl (.inr ⟨by rw [h4];exact List.mem_cons_self,rfl⟩)
    obtain ⟨i2b,s2b⟩:=Inv.sub (g':={ ((g1.pend (g1.FP v') (· = (g1.AD v').block)).pend [] fun _=>True) with P:=fun b=>b=(g1.AD v').block,PB:=fun b=>b=(g1.AD v').block })
     i2 (fun _ _ h=>h) rfl (fun b h=>.inl (h▸hPb)) (fun b h=>.inl (h▸hPBb)) (fun b h=>h) (fun b h l' o' ho'=>i2.pd b (h▸hPb) l' o' ho') (Nat.le_refl _) (Nat.le_refl _)
    have hcool:Cool w' (XA ((g1.pend (g1.FP v') (· = (g1.AD v').block)).pend [] fun _=>True) Y (M1.set l none))
     (XA { ((g1.pend (g1.FP v') (· = (g1.AD v').block)).pend [] fun _=>True) with P:=fun b=>b=(g1.AD v').block,PB:=fun b=>b=(g1.AD v').block } Y (M1.set l none)) (F'++F):=by
     refine ⟨fun b hb hx=>s2b.sameA.out b hb hx,fun b hb hx=>?_⟩
     have hb':=List.mem_append.1 hb
     rcases hx with hx|hx|⟨l',o',m1,m2⟩
     · exact (i2.lt b (.inl (hFP b hb'))).2 hx
     · rcases hb' with h|h
       · exact hF'd b h hx
       · exact hFd b h hx
     · exact i2.pd b (hFP b hb') l' o' m1 m2
    have h8b:=TE.cool _ _ _ (TE.stable _ _ _ h8 (hsame _ fun b hb=>.inl hb)) (hcool.sub fun b hb=>List.mem_append_left _ hb)
    obtain ⟨v1,uo,v2,F1,Fo,F2,k1,k2,k3,k4,k5⟩:=TE.place h8b hxe hf
    have hcl':=hw.cl v1 uo v2 k3 (by rw [k4,hyn];simp [hcsz]) (by rw [← k1];exact h7)
    have hdd:=TV.cool_slD (TV.stable _ _ _ htv (hsame _ fun b hb=>.inr hb)) (hcool.sub fun b hb=>List.mem_append_right _ hb)
    have hte:=k5 (slD d) _ [] xn hset (TC.of hdd) (by rw [Zjj,hdn,hyn]) (by rw [hag];exact hjd) hone
    have hF0:=hte.nof
    rw [hF0] at hte
    obtain ⟨i3,s3⟩:=i2b.put (l:=l) (id:=v') (fp:=[(g1.AD v').block]) (o:=.arr v' false sz (xs.set i xn)) (M':=(M1.set l (some (.arr v' false sz (xs.set i xn)))).tickR)
     (by simp only [Mem.tickR];exact mset_set.symm) rfl (Nat.le_succ _) (fun _=>by simp [Mem.tickR,Mem.set]) rfl hu1 hno
     (fun b hb=>List.mem_singleton.1 hb)
     (fun b hb e=>e) (fun st=>by
      simp only [OB]
      refine ⟨hu1,hsz1,?_,.inr ⟨hvr1,v1++(ρ z).cells.toList++v2,[],by simp [G.put,upd];rfl,h5,hw.rm _ h6,hcl',TE.stable _ _ _ hte ⟨Nat.le_refl _,st.sameA.out,fun _ _ _=>rfl⟩⟩⟩
      simp [G.put,upd])
    exact Res.fin (.inr ⟨hrun,rfl⟩) i3 (tk.stp.trans (s12.trans (s2b.trans s3))) (by simp only [SV]) (fun id h=>.inl (by rw [← hU];exact h))
 · cases hst
end
end Go.Vm
namespace Go.Vm
open Go
set_option linter.unusedVariables false
set_option linter.unusedSimpArgs false
section
variable {P:Program} {g:G} {Y:Nat→Prop} {M:Mem} {w:World} {s:Nat→AV} {ρ:Operand→Value} {o:Oper} {nb ib:Nat} {av:AV} {M':Mem}
def XC (w:World) (sz:Nat) (x:Value) (n:Nat) (news:List Value):Prop :=
 (x=.slice none 0 0∧n=0∧news=[])∨∃ a c,x=.slice (some a) n c∧CL w a news∧news.length=n * sz
theorem XC.nil {o:Bool} {v:Value} {sz:Nat} (h:NilV o v):XC w sz v 0 []:=by
 obtain ⟨a,rfl⟩:=h.ex
 cases a with
 | none=>exact .inl ⟨rfl,rfl,rfl⟩
 | some a=>exact .inr ⟨a,0,rfl,fun k v hk=>by simp at hk,by simp⟩
theorem XC.len {x:Value} {sz n:Nat} {news:List Value} (h:XC w sz x n news):news.length=n * sz:=by
 rcases h with ⟨_,rfl,rfl⟩|⟨a,c,_,_,h⟩
 · simp
 · exact h
theorem ZeR {x:Value} {sz n:Nat} {news:List Value} (h:XC w sz x n news) (w0:World):(Builtin.lenOf x).run P w0=.ok n w0:=by
 rcases h with ⟨rfl,rfl,_⟩|⟨a,c,rfl,_,_⟩<;>simp [Builtin.lenOf,Sem.run]
theorem Zgb {x:Value} {sz n:Nat} {news:List Value} (h:XC w sz x n news):(Builtin.firstCells sz n x).run P w=.ok news.toArray w:=by
 rcases h with ⟨rfl,rfl,rfl⟩|⟨a,c,rfl,h1,h2⟩
 · exact run_firstCells_none w sz 0 0 0
 · exact run_firstCells_some w sz n a n c news h2 h1
theorem XC.drew {x:Value} {sz n:Nat} {news:List Value} (h:XC w sz x n news):XC w.drew sz x n news:=by
 rcases h with h|⟨a,c,h1,h2,h3⟩
 · exact .inl h
 · exact .inr ⟨a,c,h1,fun k v hk=>by simpa using h2 k v hk,h3⟩
section
variable {t tu ty e:TypeId} {i:TypeInfo} {z:Value} {e2:TypeId}
theorem Zn9 (ht:P.underlying t=some (.slice e)) (htu:P.underlying tu=some (.slice e2)) (hi:P.info? e=some i) {x:Value} (hx:XC w i.size x 0 []) :
 (Builtin.append_ #[t,tu] ty #[.slice none 0 0,x]).run P w=.ok (.slice none 0 0) w:=by
 have h1:=ZeR (P:=P) hx w
 have h2:=Zgb (P:=P) hx
 simp [Builtin.append_,run_underlying ht,run_underlying htu,sizeOf,typeInfo,hi,h1,h2]
theorem Zn8 (ht:P.underlying t=some (.slice e)) (htu:P.underlying tu=some (.slice e2)) (hi:P.info? e=some i) {x:Value} {n:Nat} {news:List Value} (hx:XC w i.size x n news)
 {a:Addr} {len c:Nat} (hsp:a.spot=none) (hr:RM w a (c * i.size)) (hroom:len+n≤c) (h1:∀ u∈news,u.oneCell'=true) :
 ∃ w',(Builtin.append_ #[t,tu] ty #[.slice (some a) len c,x]).run P w=.ok (.slice (some a) (len+n) c) w'∧Wr a w w' (len * i.size) news:=by
 have hl:=ZeR (P:=P) hx w
 have hf:=Zgb (P:=P) hx
 have hnl:=hx.len
 obtain ⟨b,o,sp⟩:=a
 simp only at hsp
 subst hsp
 obtain ⟨cs,E,hg,hb⟩:=hr
 simp only at hg hb
 cases hne:news with
 | nil =>
  subst hne
  refine ⟨w,?_,⟨rfl,IOk.refl,fun _ _=>rfl,fun _ h=>h,fun _ _=>rfl,fun i u h=>by simp at h⟩⟩
  simp [Builtin.append_,run_underlying ht,run_underlying htu,sizeOf,typeInfo,hi,hl,hf,hroom,storeCells]
 | cons u us =>
  have hn:news.length≠0:=by rw [hne];simp
  have hle:len * i.size+news.length≤c * i.size:=by rw [hnl,← Nat.add_mul];exact Nat.mul_le_mul_right _ hroom
  have hst:=run_storeCells_at P b (o+len * i.size) E news 0 cs w hg (by omega) h1
  simp only [Nat.add_zero] at hst
  rw [← hne]
  refine ⟨_,?_,ZlO (o:=o) (k:=len * i.size) hg (by omega)⟩
  simp [Builtin.append_,run_underlying ht,run_underlying htu,sizeOf,typeInfo,hi,hl,hf,hroom,Addr.add_lit,hst]
theorem ZnV (ht:P.underlying t=some (.slice e)) (htu:P.underlying tu=some (.slice e2)) (hi:P.info? e=some i) (hz:i.zero=some z) {x y:Value} {n len c:Nat} {olds news:List Value} (hx:XC w i.size x n news)
 (hy:(y=.slice none 0 0∧len=0∧c=0∧olds=[])∨∃ b,y=.slice (some b) len c∧CL w b olds∧olds.length=len * i.size) (hg:c < len+n) (h63:((len+n:Nat):Int)≤9223372036854775807) (hfit:Builtin.nextslicecap (len+n) c * i.bytes≤281474976710656) :
 (Builtin.append_ #[t,tu] ty #[y,x]).run P w=.ok (.slice (some ⟨w.heap.size,0,none⟩) (len+n) (grownCap w (len+n) c e))
  (w.drew.alloc (.cells (olds.toArray++news.toArray++Builtin.zeroCells z.cells (grownCap w (len+n) c e - (len+n))) e)):=by
 have hn:¬ (len+n≤c):=by omega
 have h63':¬ (9223372036854775807 < ((len:Int)+(n:Int))):=by omega
 have h48':¬ (281474976710656 < Builtin.nextslicecap (len+n) c * i.bytes):=by omega
 have hl:=ZeR (P:=P) hx w
 have hf:=Zgb (P:=P) hx.drew
 rcases hy with ⟨rfl,rfl,rfl,rfl⟩|⟨b,rfl,hc,hol⟩
 · have hfo:=run_firstCells_none (P:=P) w.drew i.size 0 0 0
   have hn0:n≠0:=by omega
   have h63'':¬ (9223372036854775807 < (n:Int)):=by simpa using h63'
   simp only [Nat.zero_add] at h48'
   simp [Builtin.append_,run_underlying ht,run_underlying htu,sizeOf,typeInfo,zeroValue,hi,hz,hl,hf,hfo,hn0,h63'',h48',Question.forced,newRow,grownCap]
 · have hfo:=run_firstCells_some (P:=P) w.drew i.size len b len c olds hol (fun j v hj=>by simpa using hc j v hj)
   simp [Builtin.append_,run_underlying ht,run_underlying htu,sizeOf,typeInfo,zeroValue,hi,hz,hl,hn,h63',h48',Question.forced,hf,hfo,newRow,grownCap]
   congr 2
   apply Array.ext'
   simp [List.append_assoc]
end
theorem TC.sc {X X':Nat→Prop} {o o':Bool} {w w':World} {d:D} {us:List Value} {F:List Nat} (hs:isSc d=true) (h:TC X o w d us F):F=[]∧TC X' o' w' d us []:=by
 cases d with
 | agg fs=>exact TL.sc (by simpa [isSc] using hs) h
 | _=>obtain ⟨u,rfl,ht⟩:=(TC.mk rfl).1 h;exact ⟨(TV.sc (X':=X') (o':=o') (w':=w') hs ht).1,(TC.mk rfl).2 ⟨u,rfl,(TV.sc hs ht).2⟩⟩
theorem TE.sc {X X':Nat→Prop} {o o':Bool} {w w':World} {sz:Nat}:∀ {xs:List D} {vs:List Value} {F:List Nat},xs.all isSc=true→TE X o w sz xs vs F→F=[]∧TE X' o' w' sz xs vs []
 | [],vs,F,_,h=>by simp only [TE] at h ⊢;exact ⟨h.2,h.1,trivial⟩
 | x::xs,vs,F,ha,h=>by
  simp only [List.all_cons,Bool.and_eq_true] at ha
  rw [Za8] at h ⊢
  obtain ⟨us,r,F1,F2,h1,h2,rfl,h3,h4⟩:=h
  obtain ⟨k1,k2⟩:=TC.sc (X':=X') (o':=o') (w':=w') ha.1 h3
  obtain ⟨k3,k4⟩:=TE.sc (X':=X') (o':=o') (w':=w') ha.2 h4
  subst k1 k3
  exact ⟨rfl,us,r,[],[],h1,h2,rfl,k2,k4⟩
theorem TE.ones {X:Nat→Prop} {o:Bool} {sz:Nat}:∀ {xs:List D} {vs:List Value} {F:List Nat},TE X o w sz xs vs F→∀ u∈vs,u.oneCell'=true
 | [],vs,F,h=>by simp only [TE] at h;simp [h.1]
 | x::xs,vs,F,h=>by
  rw [Za8] at h
  obtain ⟨us,r,F1,F2,rfl,h2,_,_,h4⟩:=h
  intro u hu
  rcases List.mem_append.1 hu with hu|hu
  · exact h2.2 u hu
  · exact TE.ones h4 u hu
theorem TE.split3 {X:Nat→Prop} {o:Bool} {sz:Nat} {xs:List D} {vs:List Value} {F:List Nat} (h:TE X o w sz xs vs F) (off len:Nat) (hl:off+len≤xs.length) :
 ∃ va vb vc Fa Fb Fc,vs=va++vb++vc∧F=Fa++Fb++Fc∧va.length=off * sz∧vb.length=len * sz∧TE X o w sz ((xs.drop off).take len) vb Fb:=by
 have e1:xs=xs.take off++((xs.drop off).take len++(xs.drop off).drop len):=by rw [List.take_append_drop,List.take_append_drop]
 rw [e1] at h
 obtain ⟨va,vr,Fa,Fr,h1,h2,h3,h4⟩:=TE.split h
 obtain ⟨vb,vc,Fb,Fc,k1,k2,k3,k4⟩:=TE.split h4
 subst h1 h2 k1 k2
 refine ⟨va,vb,vc,Fa,Fb,Fc,by simp,by simp,?_,?_,k3⟩
 · rw [h3.len,List.length_take,Nat.min_eq_left (by omega)]
 · rw [k3.len,List.length_take,List.length_drop,Nat.min_eq_left (by omega)]
theorem ZhN {sz:Nat} {a:AV} {v:Value} {own:Bool} {ys:List D} {M1:Mem} (hI:Inv g Y M w) (hsv:SV g Y M w a v) (h:mvE M sz a=some (own,ys,M1)) :
 ∃ g1 F news,Tk g Y M w g1 M1 F∧XC w sz v ys.length news∧TE (XA g1 Y M1) own w sz ys news F:=by
 unfold mvE at h
 split at h
 · split at h
   · cases h
     simp only [SV] at hsv
     exact ⟨g,[],[],Tk.same hI,.inl ⟨hsv,rfl,rfl⟩,by simp only [TE];exact ⟨trivial,trivial⟩⟩
   · cases h
 · rename_i e d
   split at h
   case h_2=>cases h
   rename_i sz' ys' hls
   split at h
   case isFalse=>cases h
   rename_i hsz
   subst hsz
   have key:∀ X,TV X false w d v []→∃ news,XC w sz' v ys'.length news∧TE X false w sz' ys' news []:=by
    intro X ht
    cases d with
    | sl s2 zs =>
     simp only [lsOf,Option.some.injEq,Prod.mk.injEq] at hls
     obtain ⟨rfl,rfl⟩:=hls
     simp only [TV] at ht
     rcases ht with ⟨rfl,hnv,_⟩|⟨a,c,vs,rfl,_,_,_,hc,h5⟩
     · exact ⟨[],XC.nil hnv,by simp only [TE];exact ⟨trivial,trivial⟩⟩
     · rcases h5 with ⟨ho,_⟩|⟨_,_,hte⟩
       · cases ho
       · exact ⟨vs,.inr ⟨a,c,rfl,hc,hte.len⟩,hte⟩
    | rs s2 zs =>
     simp only [lsOf,Option.some.injEq,Prod.mk.injEq] at hls
     obtain ⟨rfl,rfl⟩:=hls
     simp only [TV] at ht
     rcases ht.2 with ⟨rfl,hnv⟩|⟨a,c,vs,rfl,_,_,_,hc,_,hte⟩
     · exact ⟨[],XC.nil hnv,by simp only [TE];exact ⟨trivial,trivial⟩⟩
     · exact ⟨vs,.inr ⟨a,c,rfl,hc,hte.len⟩,hte⟩
    | _=>simp [lsOf] at hls
   split at h
   · rename_i hall
     split at h
     · rename_i hv
       cases h
       have:∃ X,TV X false w d v []:=by
        cases e with
        | none=>simp only [SV] at hsv;exact ⟨_,hsv⟩
        | some e=>simp only [SV] at hsv;simp only [vD,beq_iff_eq] at hv;exact ⟨_,hsv.2 hv⟩
       obtain ⟨X,ht⟩:=this
       obtain ⟨news,k1,k2⟩:=key X ht
       exact ⟨g,[],news,Tk.same hI,k1,(TE.sc hall k2).2⟩
     · cases h
   · split at h
     · rename_i he
       subst he
       cases h
       simp only [SV] at hsv
       obtain ⟨news,k1,k2⟩:=key _ hsv
       exact ⟨g,[],news,Tk.same hI,k1,k2⟩
     · cases h
 · rename_i l id off len sz'
   simp only [SV] at hsv
   obtain ⟨hu,hz,hsv⟩:=hsv
   split at h
   case h_2=>cases h
   rename_i v' own' sz'' xs hm
   split at h
   case isFalse=>cases h
   rename_i hc
   obtain ⟨rfl,rfl,rfl,hlen⟩:=hc
   have hob:=hI.ob l _ hm
   simp only [OB] at hob
   obtain ⟨_,_,hnd,h3⟩:=hob
   have hll:((xs.drop off).take len).length=len:=by simp;omega
   have cells:∃ news Fb,XC w sz'' v len news∧TE (XA g Y M) own' w sz'' ((xs.drop off).take len) news Fb∧(∀ b∈Fb,b∈g.FP v')∧Fb.Nodup:=by
    rcases hsv with ⟨hvr,rfl,rfl,rfl⟩|⟨hvr,a,c,rfl,hsp,hab,hlc,hca,hcb⟩
    · refine ⟨[],[],.inl ⟨rfl,rfl,rfl⟩,by simp only [List.take_zero,TE];exact ⟨trivial,trivial⟩,by simp,by simp⟩
    · rcases h3 with h3|⟨_,vs,F',h4,h5,h6,h7,h8⟩
      · exact absurd h3.1 hvr
      · obtain ⟨va,vb,vc,Fa,Fb,Fc,e1,e2,e3,e4,e5⟩:=TE.split3 h8 off len hlen
        refine ⟨vb,Fb,.inr ⟨a,c,rfl,?_,e4⟩,e5,fun b hb=>by rw [h4,e2];simp [hb],?_⟩
        · rcases hca with rfl|rfl
          · have:len=0:=by omega
            subst this
            simp at e4
            subst e4
            intro k v hk
            simp at hk
          · rw [e1] at h7
            have:=h7.left.right
            rwa [e3] at this
        · rw [h4,e2] at hnd
          have:=(List.nodup_cons.1 hnd).2
          exact ((List.nodup_append.1 (List.nodup_append.1 this).1).2).1
   obtain ⟨news,Fb,c1,c2,c3,c4⟩:=cells
   split at h
   · rename_i hall
     cases h
     exact ⟨g,[],news,Tk.same hI,by rw [hll];exact c1,(TE.sc hall c2).2⟩
   · cases h
     have tk:=hI.dropTk hm (F:=Fb) c3 c4
     exact ⟨_,Fb,news,tk,by rw [hll];exact c1,TE.stable _ _ _ c2 ⟨Nat.le_refl _,tk.stp.sameA.out,fun _ _ _=>rfl⟩⟩
 · cases h
theorem TE.join (hI:Inv g Y M w) {sz:Nat} {zs ys:List D} {vs us:List Value} {F1 F2:List Nat} {o1 o2:Bool} (h1:TE (XA g Y M) o1 w sz zs vs F1) (h2:TE (XA g Y M) o2 w sz ys us F2)
 (hP:∀ b∈F1++F2,g.P b) (hn:(F1++F2).Nodup) (B:Nat→Prop) (hB:∀ b,B b→g.PB b∧b ∉ F1++F2) :
 ∃ g' F,Inv g' Y M w∧Stp g M w g' M w∧g' = { g with P:=g'.P,PB:=g'.PB }∧(∀ b,B b→g'.PB b)∧(∀ b∈F,g'.P b∧b∈F1++F2)∧F.Nodup ∧
  TE (XA g' Y M) (o1&&o2) w sz (zs++ys) (vs++us) F:=by
 cases hoo:(o1&&o2) with
 | true =>
  simp only [Bool.and_eq_true] at hoo
  obtain ⟨rfl,rfl⟩:=hoo
  exact ⟨g,F1++F2,hI,Stp.refl _ _ _,rfl,fun b h=>(hB b h).1,fun b h=>⟨hP b h,h⟩,hn,TE.append h1 h2⟩
 | false =>
  obtain ⟨i2,s2⟩:=Inv.sub (g':={ g with P:=B,PB:=B }) hI (fun _ _ h=>h) rfl (fun b h=>.inl (hI.pb b (hB b h).1)) (fun b h=>.inl (hB b h).1) (fun b h=>h)
   (fun b h l' o' ho'=>hI.pd b (hI.pb b (hB b h).1) l' o' ho') (Nat.le_refl _) (Nat.le_refl _)
  have hcool:Cool w (XA g Y M) (XA { g with P:=B,PB:=B } Y M) (F1++F2):=by
   refine ⟨fun b hb hx=>s2.sameA.out b hb hx,fun b hb hx=>?_⟩
   rcases hx with hx|hx|⟨l',o',m1,m2⟩
   · exact (hI.lt b (.inl (hP b hb))).2 hx
   · exact (hB b hx).2 hb
   · exact hI.pd b (hP b hb) l' o' m1 m2
  have k1:=TE.cool _ _ _ h1 (hcool.sub fun b hb=>List.mem_append_left _ hb)
  have k2:=TE.cool _ _ _ h2 (hcool.sub fun b hb=>List.mem_append_right _ hb)
  exact ⟨_,[],i2,s2,rfl,fun b h=>h,by simp,by simp,TE.append k1 k2⟩
theorem Zlx {t:TypeId} {sz:Nat} (h:zeroSz P t sz=true):∃ i z,P.info? t=some i∧i.zero=some z∧z.cells.size=sz:=by
 unfold zeroSz at h
 split at h
 · rename_i i hi
   split at h
   · rename_i z hz
     exact ⟨i,z,hi,hz,by simpa using h⟩
   · cases h
 · cases h
theorem ZjH {c:Call} {t tu:TypeId} {x u:Operand} {sz bytes:Nat} (ho:o.op=.call c) (hcal:c.callee=.builtin .append) (hargs:c.args = #[x,u]) (hty:c.argTypes = #[t,tu])
 (ht:isSlT P t=true) (htu:isSlT P tu=true) (hsz:szT P (elT P t) sz=true) (hby:byT P (elT P t) bytes=true) (hb0:0 < bytes)
 (hzs:zeroSz P (elT P t) sz=true) (hid0:¬ g.U ib) (hI:Inv g Y M w) {sa xa:AV} (hx:SV g Y M w sa (ρ x)) (hu:SV g Y M w xa (ρ u))
 (h:stpApp M nb ib sz bytes sa xa=some (av,M')):Res P o ρ g Y M w ib av M':=by
 obtain ⟨i,z,hi,hz,hzz⟩:=Zlx hzs
 obtain ⟨i2,hi2,hi3⟩:=Zbz hsz
 obtain ⟨i4,hi4,hi5⟩:=Zhs hby
 rw [hi] at hi2 hi4
 cases hi2
 cases hi4
 have ht1:=slT ht
 have htu1:=slT htu
 have hexec:∀ v w',(Builtin.append_ #[t,tu] o.type #[ρ x,ρ u]).run P w=.ok v w'→(execOp ρ o).run P w=.ok (.value v) w':=by
  intro v w' hr
  simp [execOp,ho,resolve,hcal,hargs,hty,invoke,builtin,hr]
 unfold stpApp at h
 split at h
 case h_2=>cases h
 rename_i own ys M1 hmv
 obtain ⟨g1,F,news,tk,hxc,hte⟩:=ZhN hI hu hmv
 have hgU:g1.U=g.U:=by rw [tk.gh]
 have hones:=hte.ones
 have hnl:=hxc.len
 rw [← hi3] at hxc
 have grow : ∀ (g2 : G) (M2 : Mem) (l : Nat) (o2 : Bool) (zs : List D) (vs : List Value) (F2 : List Nat) (cp cc : Nat), Inv g2 Y M2 w → Stp g M w g2 M2 w → g2.U = g.U → ρ x = .slice none 0 0 ∧ cc = 0 ∧ zs = [] ∧ vs = [] ∨
       (∃ b,ρ x=.slice (some b) zs.length cc∧CL w b vs∧vs.length=zs.length * sz)→cc < zs.length+ys.length →
  (zs.length+ys.length) * bytes≤70368744177664 →
  (∀ b∈F2,g2.P b)→F2.Nodup→TE (XA g2 Y M2) o2 w sz (zs++ys) (vs++news) F2→Res P o ρ g Y M w ib (.sl l ib 0 (zs.length+ys.length) sz) (M2.set l (some (.arr ib o2 sz (zs++ys)))):=by
  intro g2 M2 l o2 zs vs F2 cp cc q1 q2 q3 q4 q5 q6 q7 q8 q9
  have hle:zs.length+ys.length≤70368744177664:=by
   have:(zs.length+ys.length) * 1≤(zs.length+ys.length) * bytes:=Nat.mul_le_mul_left _ hb0
   omega
  have hrun:=ZnV (P:=P) (ty:=o.type) ht1 htu1 hi hz (x:=ρ u) (y:=ρ x) (len:=zs.length) (c:=cc) (olds:=vs) hxc (by
   rcases q4 with ⟨e1,e2,e3,e4⟩|⟨b,e1,e2,e3⟩
   · exact .inl ⟨e1,by rw [e3];rfl,e2,e4⟩
   · exact .inr ⟨b,e1,e2,by rw [hi3];exact e3⟩) q5 (by omega) (growslice_fits q5 (by rw [hi5];omega))
  have hge:=grownCap_ge w (zs.length+ys.length) cc (elT P t)
  have hlen:=q9.len
  obtain ⟨g3,hn,k1,k2,k3,k4,k5,k6⟩:=ZfL (l:=l) (id:=ib) (sz:=sz) (bs:=grownCap w (zs.length+ys.length) cc (elT P t) * sz) (own:=o2) (F:=F2) q1 ⟨rfl,rfl,rfl,Rows.push rfl⟩ (by rw [q3];exact hid0)
   (w':=(w.drew.alloc (.cells (vs.toArray++news.toArray++Builtin.zeroCells z.cells (grownCap w (zs.length+ys.length) cc (elT P t) - (zs.length+ys.length))) (elT P t)))) rfl
   (vs:=vs++news) (rest:=(Builtin.zeroCells z.cells (grownCap w (zs.length+ys.length) cc (elT P t) - (zs.length+ys.length))).toList) (by simp)
   (by
    rw [List.length_append,List.length_append] at hlen
    simp only [Array.size_append,List.size_toArray,size_zeroCells,hzz]
    rw [hlen,← Nat.add_mul]
    exact Nat.mul_le_mul_right _ (by omega)) q7 q8 q9
  refine Res.fin (.inl (hexec _ _ hrun)) hn.inv (q2.trans hn.stp) ?_ (fun id hi=>?_)
  · simp only [SV]
    exact ⟨k1,k3,.inr ⟨k5,_,_,rfl,rfl,by rw [k2],hge,.inr (by rw [k2];simp [Addr.add]),by rw [k4];omega⟩⟩
  · rcases hn.u id hi with h|h
    · exact .inl (by rw [← q3];exact h)
    · exact .inr (by omega)
 have virt:∀ (g2:G) (M2:Mem) (l:Nat) (o2:Bool),Inv g2 Y M2 w→Stp g M w g2 M2 w→g2.U=g.U→ρ x=.slice none 0 0→ys=[] →
  Res P o ρ g Y M w ib (.sl l ib 0 0 sz) (M2.set l (some (.arr ib o2 sz []))):=by
  intro g2 M2 l o2 q1 q2 q3 q4 q5
  subst q5
  have hn0:news=[]:=List.eq_nil_of_length_eq_zero (by simpa using hnl)
  subst hn0
  obtain ⟨i3,s3⟩:=q1.addVirt (l:=l) (id:=ib) (sz:=sz) (own:=o2) (by rw [q3];exact hid0)
  have hrun:=Zn9 (P:=P) (ty:=o.type) ht1 htu1 hi hxc
  rw [← q4] at hrun
  refine Res.fin (.inl (hexec _ _ hrun)) i3 (q2.trans s3) ?_ (fun id hi=>?_)
  · simp only [SV]
    exact ⟨by simp [G.add],by simp [G.add,upd],.inl ⟨by simp [G.add],q4,trivial,trivial⟩⟩
  · rcases hi with h|h
    · exact .inl (by rw [← q3];exact h)
    · exact .inr (by omega)
 split at h
 · -- nil
   rename_i sz'
   simp only [SV] at hx
   split at h
   case isFalse=>cases h
   rename_i hcond
   obtain ⟨rfl,hlim⟩:=hcond
   cases h
   by_cases hy:ys=[]
   · have:=virt g1 M1 nb own tk.inv tk.stp hgU hx hy
     subst hy
     simpa using this
   · have hpos:0 < ys.length:=List.length_pos_iff.2 hy
     have:=grow g1 M1 nb own [] [] F 0 0 tk.inv tk.stp hgU (.inl ⟨hx,rfl,rfl,rfl⟩) (by simpa using hpos) (by simpa using hlim) tk.inP tk.nd (by simpa using hte)
     simpa using this
 · rename_i l id off len sz'
   split at h
   case h_2=>cases h
   rename_i v' own' sz'' xs hm
   split at h
   case isFalse=>cases h
   rename_i hcond
   obtain ⟨rfl,rfl,rfl,hol,hlim⟩:=hcond
   cases h
   have hx1:=SV.stp tk.stp _ _ hx
   simp only [SV] at hx1
   obtain ⟨hu1,hz1,hx1⟩:=hx1
   have hob:=tk.inv.ob l _ hm
   simp only [OB] at hob
   obtain ⟨_,_,hnd,h3⟩:=hob
   have hll:((xs.drop off).take len).length=len:=by simp;omega
   obtain ⟨i1,s1⟩:=tk.inv.drop hm (F:=g1.FP v') (fun b hb=>hb)
   have hU2:(g1.pend (g1.FP v') (· = (g1.AD v').block)).U=g.U:=hgU
   rcases hx1 with ⟨hvr,hv,rfl,rfl⟩|⟨hvr,a,c,hv,hsp,hab,hlc,hca,hcb⟩
   · rcases h3 with ⟨_,rfl,hf0⟩|⟨hvr',_⟩
     · by_cases hy:ys=[]
       · have:=virt _ (M1.set l none) l (own'&&own) i1 (tk.stp.trans s1) hU2 hv hy
         subst hy
         rw [Mem.set_set] at this
         simpa using this
       · have hpos:0 < ys.length:=List.length_pos_iff.2 hy
         obtain ⟨g3,F3,j1,j2,j3,_,j5,j6,j7⟩:=TE.join (o1:=own') (zs:=[]) (vs:=[]) (F1:=[]) i1 (by simp only [TE];exact ⟨trivial,trivial⟩) (TE.stable _ _ _ hte ⟨Nat.le_refl _,s1.sameA.out,fun _ _ _=>rfl⟩)
          (by intro b hb;exact .inl (tk.inP b (by simpa using hb))) (by simpa using tk.nd) (fun _=>False) (by simp)
         have:=grow g3 (M1.set l none) l (own'&&own) [] [] F3 0 0 j1 ((tk.stp.trans s1).trans j2) (by rw [j3];exact hU2) (.inl ⟨hv,rfl,rfl,rfl⟩) (by simpa using hpos) (by simpa using hlim) (fun b hb=>(j5 b hb).1) j6 j7
         rw [Mem.set_set] at this
         simpa using this
     · exact absurd hvr hvr'
   · rcases h3 with h3|⟨_,vs,F',h4,h5,h6,h7,h8⟩
     · exact absurd h3.1 hvr
     · obtain ⟨va,vb,vc,Fa,Fb,Fc,e1,e2,e3,e4,e5⟩:=TE.split3 h8 off len hol
       have hFbm:∀ b∈Fb,b∈g1.FP v':=fun b hb=>by rw [h4,e2];simp [hb]
       have hdis:∀ b∈F,b ∉ g1.FP v':=fun b hb hb'=>tk.inv.pd b (tk.inP b hb) l _ hm hb'
       have hnd2:(Fb++F).Nodup:=by
        rw [h4,e2] at hnd
        have h9:=(List.nodup_append.1 (List.nodup_append.1 (List.nodup_cons.1 hnd).2).1).2.1
        exact List.nodup_append.2 ⟨h9,tk.nd,fun a ha b hb e=>hdis b hb (e▸hFbm a ha)⟩
       have hPP:∀ b∈Fb++F,(g1.pend (g1.FP v') (· = (g1.AD v').block)).P b:=by
        intro b hb
        rcases List.mem_append.1 hb with hb|hb
        · exact .inr (hFbm b hb)
        · exact .inl (tk.inP b hb)
       have hclb:CL w a vb:=by
        rcases hca with rfl|rfl
        · have:len=0:=by omega
          subst this
          simp at e4
          subst e4
          intro k v hk
          simp at hk
        · rw [e1] at h7
          have:=h7.left.right
          rwa [e3] at this
       have hblkF:∀ b∈Fb++F,b≠(g1.AD v').block:=by
        intro b hb e
        rcases List.mem_append.1 hb with hb|hb
        · rw [h4,e2] at hnd
          exact (List.nodup_cons.1 hnd).1 (by rw [← e];simp [hb])
        · exact hdis b hb (by rw [h4,e];exact List.mem_cons_self)
       by_cases hroom:len+ys.length≤c
       · have hra:RM w a (c * i.size):=by
          obtain ⟨cs,E,m1,m2⟩:=h6
          refine ⟨cs,E,by rw [hab];exact m1,?_⟩
          rcases hca with rfl|hca
          · left;simp
          · rcases m2 with m2|m2
            · left;rw [hi3];omega
            · right
              rw [hca]
              have:((g1.AD v').add (off * sz'')).off=(g1.AD v').off+off * sz'':=by
               unfold Addr.add;split
               · rename_i h0;rw [h0];rfl
               · rfl
              rw [this,hi3]
              omega
         obtain ⟨w',hr,hw⟩:=Zn8 (P:=P) (ty:=o.type) ht1 htu1 hi hxc hsp hra hroom hones
         rw [← hv] at hr
         obtain ⟨i2,s2⟩:=i1.world hw.io (w':=w') (N:=[]) (Nat.le_of_eq hw.size.symm) (fun b hb hnb=>hw.other b fun e=>hnb (.inr ⟨by rw [h4,e,hab];exact List.mem_cons_self,e.trans hab⟩)) (by simp)
         have s12:=s1.trans s2
         have hsame:∀ G:List Nat,(∀ b∈G,b∈Fb++F)→Same (XA g1 Y M1) (XA ((g1.pend (g1.FP v') (· = (g1.AD v').block)).pend [] fun _=>True) Y (M1.set l none)) w w' G:=fun G hG =>
          ⟨s12.size,s12.sameA.out,fun b hb hx=>by
           rcases hx with hx|hx
           · exact s12.sameA.heap b hb (.inl hx)
           · exact hw.other b (by rw [hab];exact hblkF b (hG b hx))⟩
         obtain ⟨g3,F3,j1,j2,j3,j4,j5,j6,j7⟩:=TE.join i2 (TE.stable _ _ _ e5 (hsame _ fun b hb=>List.mem_append_left _ hb)) (TE.stable _ _ _ hte (hsame _ fun b hb=>List.mem_append_right _ hb))
          (fun b hb=>.inl (hPP b hb)) hnd2 (· = (g1.AD v').block) (fun b hb=>⟨.inl (.inr ⟨by rw [h4];exact List.mem_cons.2 (.inl hb),hb⟩),fun hb'=>hblkF b hb' hb⟩)
         have hU3:g3.U=g.U:=by rw [j3];exact hU2
         obtain ⟨i4,s4⟩:=j1.addArr (l:=l) (id:=ib) (sz:=sz'') (bs:=c * sz'') (ad:=a) (own:=own'&&own) (vs:=vb++news) (F:=F3) (by rw [hU3];exact hid0) hsp
          (by
           intro b hb
           rcases List.mem_cons.1 hb with rfl|hb
           · exact j1.pb _ (j4 _ hab)
           · exact (j5 b hb).1) (j4 _ hab)
          (List.nodup_cons.2 ⟨fun hb=>hblkF _ (j5 _ hb).2 hab,j6⟩) (by rw [← hi3];exact hw.rm _ hra) (hw.cl0 vb (by rw [hi3];exact e4) hclb) j7
         rw [Mem.set_set] at i4 s4
         refine Res.fin (.inl (hexec _ _ hr)) i4 (((tk.stp.trans s12).trans j2).trans s4) ?_ (fun id hi=>?_)
         · simp only [SV]
           refine ⟨by simp [G.add],by simp [G.add,upd],.inr ⟨by simp [G.add],a,c,rfl,hsp,by simp [G.add,upd],hroom,.inr ?_,?_⟩⟩
           · simp [G.add,upd,Addr.add]
           · simp [G.add,upd]
         · rcases hi with h|h
           · exact .inl (by rw [← hU3];exact h)
           · exact .inr (by omega)
       · obtain ⟨g3,F3,j1,j2,j3,_,j5,j6,j7⟩:=TE.join i1 (TE.stable _ _ _ e5 ⟨Nat.le_refl _,s1.sameA.out,fun _ _ _=>rfl⟩) (TE.stable _ _ _ hte ⟨Nat.le_refl _,s1.sameA.out,fun _ _ _=>rfl⟩)
          hPP hnd2 (fun _=>False) (by simp)
         have:=grow g3 (M1.set l none) l (own'&&own) ((xs.drop off).take len) vb F3 0 c j1 ((tk.stp.trans s1).trans j2) (by rw [j3];exact hU2) (.inr ⟨a,by rw [hll];exact hv,hclb,by rw [hll];exact e4⟩)
          (by rw [hll];omega) (by rw [hll];exact hlim) (fun b hb=>(j5 b hb).1) j6 j7
         rw [Mem.set_set,hll] at this
         exact this
 · cases h
theorem ZpH {c:Call} {t tu:TypeId} {x u:Operand} {x' u':X} {sz bytes:Nat} (ho:o.op=.call c) (hcal:c.callee=.builtin .append) (hargs:c.args = #[x,u]) (hty:c.argTypes = #[t,tu])
 (h1:chkX x x'=true) (h2:chkX u u'=true) (ht:isSlT P t=true) (htu:isSlT P tu=true) (hsz:szT P (elT P t) sz=true) (hby:byT P (elT P t) bytes=true) (hb0:0 < bytes)
 (hzs:zeroSz P (elT P t) sz=true) (hid:∀ k,k < 64→¬ g.U (ib+k)) (hI:Inv g Y M w) (hs:Slots g Y M w s ρ)
 (h:stp s M nb ib (.app sz bytes x' u')=some (av,M')):Res P o ρ g Y M w ib av M':=by
 simp only [stp] at h
 exact ZjH ho hcal hargs hty ht htu hsz hby hb0 hzs (by simpa using hid 0 (by omega)) hI (Zaq hs h1) (Zaq hs h2) h
theorem ZlZ {x x':D} {j:Option Nat} {s2:Nat} {ys:List D} (hf:fldD x j=some (.sl s2 ys)) (h:setD x j .dead=some x'):x'.size=x.size:=by
 cases j with
 | none=>simp only [fldD,Option.some.injEq] at hf;simp only [setD,Option.some.injEq] at h;subst hf h;rfl
 | some j=>cases x with
  | agg fs =>
   simp only [setD] at h
   split at h
   · cases h;simp [D.size]
   · cases h
  | _=>simp [fldD] at hf
theorem Zhf {l id r i sz:Nat} {j:Option Nat} {u:Value} {a:AV} (hI:Inv g Y M w) (hs:SV g Y M w (.ref l id r i j) u) (hid:¬ g.U (ib+1))
 (h:takeOut M nb ib sz l id r i j=some (a,M')):∃ g',Inv g' Y M' w∧Stp g M w g' M' w∧SV g' Y M' w a u∧(∀ k,g'.U k→g.U k∨k=ib+1):=by
 unfold takeOut at h
 split at h
 case isFalse=>cases h
 rename_i hr
 split at h
 case h_2=>cases h
 rename_i v' own sz' xs hm
 split at h
 case isFalse=>cases h
 rename_i hv
 obtain ⟨rfl,rfl⟩:=hv
 split at h
 case h_2=>cases h
 rename_i x hx
 split at h
 case h_2=>cases h
 rename_i s2 ys x' hf hset
 split at h
 case isFalse=>cases h
 rename_i hsz
 subst hsz
 cases h
 simp only [SV] at hs
 obtain ⟨hu,hs⟩:=hs.2 hr.1
 obtain ⟨_,hvr,d1,p1,p2,p3⟩:=hs true sz' xs hm
 rw [hx] at p1
 simp only [Option.bind_some,hf,Option.some.injEq] at p1
 subst p1
 have hob:=hI.ob l _ hm
 simp only [OB] at hob
 obtain ⟨_,hz,hnd,hob⟩:=hob
 rcases hob with hob|⟨_,vs,F',k1,k2,k3,k4,k5⟩
 · exact absurd hob.1 hvr
 obtain ⟨v1,us,v2,F1,Fi,F2,q1,q2,q3,q4,q5,q6,q7,q8⟩:=TE.get k5 hx
 have hlt:i < xs.length:=(List.getElem?_eq_some_iff.1 hx).1
 have hcu:CL w ((g.AD v').add (i * sz')) us:=by
  have k4':=k4
  rw [q1] at k4'
  have:=k4'.left.right
  rwa [q3] at this
 have key:∃ Fa Fj Fb,Fi=Fa++Fj++Fb∧TV (XA g Y M) true w (.sl s2 ys) u Fj∧TC (XA g Y M) true w x' us (Fa++[]++Fb):=by
  have dd:∀ F,TV (XA g Y M) true w (.sl s2 ys) u F→TV (XA g Y M) true w .dead u []:=by
   intro F ht
   simp only [TV] at ht ⊢
   refine ⟨?_,trivial⟩
   rcases ht with ⟨_,hnv,_⟩|⟨a,c,vs,rfl,_⟩
   · obtain ⟨a,rfl⟩:=hnv.ex;exact ⟨_,_,_,rfl⟩
   · exact ⟨_,_,_,rfl⟩
  cases j with
  | none =>
   simp only [fldD,Option.some.injEq] at hf
   simp only [setD,Option.some.injEq] at hset
   subst hf hset
   obtain ⟨u',rfl,ht⟩:=(TC.mk rfl).1 q6
   have h0:=hcu 0 u' rfl
   rw [ZaW] at h0
   simp only [Option.getD_none] at p3
   rw [p3] at h0
   cases h0
   exact ⟨[],Fi,[],by simp,ht,(TC.mk rfl).2 ⟨u,rfl,dd _ ht⟩⟩
  | some j =>
   obtain ⟨fs,p1a,rfl,p1b⟩:=Zcm hf
   obtain ⟨u1,u',u2,G1,Gj,G2,e1,e2,e3,e4,e5,e6⟩:=TL.get q6 p1a
   have h0:=hcu j u' (by rw [e1,← e3];simp)
   rw [ZaW] at h0
   simp only [Option.getD_some] at p3
   rw [p3] at h0
   cases h0
   have hj:j < fs.length:=(List.getElem?_eq_some_iff.1 p1a).1
   simp only [setD,if_pos hj,Option.some.injEq] at hset
   subst hset
   refine ⟨G1,Gj,G2,e2,e4,?_⟩
   rw [e1]
   exact TL.set hj e5 (dd _ e4) e6
 obtain ⟨Fa,Fj,Fb,e1,e2,e3⟩:=key
 have e4:x'.size=sz':=(ZlZ hf hset).trans q5
 have hte:=TE.set (i:=i) (y:=x') hlt q7 e3 e4 q4.2 q8
 have hperm:((g.AD v').block::(F1++(Fa++Fj++Fb)++F2)).Perm (Fj++(g.AD v').block::(F1++(Fa++[]++Fb)++F2)):=by
  rw [List.perm_iff_count]
  intro a
  simp only [List.count_cons,List.count_append,List.count_nil]
  omega
 have hnd2:(Fj++(g.AD v').block::(F1++(Fa++[]++Fb)++F2)).Nodup:=hperm.nodup_iff.1 (by rw [← e1,← q2,← k1];exact hnd)
 have hmem:∀ b,b∈Fj++(g.AD v').block::(F1++(Fa++[]++Fb)++F2)→b∈g.FP (Obj.arr v' true sz' xs).ver:=by
  intro b hb
  have:=hperm.mem_iff.2 hb
  rw [← e1,← q2,← k1] at this
  exact this
 have hdis:=List.nodup_append.1 hnd2
 obtain ⟨i1,s1⟩:=hI.drop hm (F:=g.FP v') (fun b hb=>hb)
 obtain ⟨i2,s2t⟩:=i1.tick
 have s12:=s1.trans s2t
 have hno:∀ l' o',((M.set l none).tick).m l'=some o'→o'.ver≠v':=fun l' o' h e=>by
  obtain ⟨hne,h⟩:=ZbU (M:=M) h
  exact (hI.dj l l' _ o' hm h (fun e=>hne e.symm)).1 e.symm
 obtain ⟨i3,s3⟩:=i2.put (l:=l) (id:=v') (fp:=(g.AD v').block::(F1++(Fa++[]++Fb)++F2)) (o:=.arr v' true sz' (xs.set i x')) (M':=(M.set l (some (.arr v' true sz' (xs.set i x')))).tick.tickR)
  (by simp only [Mem.tickR,Mem.tick];exact (congrArg Mem.m (Mem.set_set (M:=M))).symm) rfl (Nat.le_succ _) (fun _=>Nat.succ_ne_self _) rfl hu hno
  (fun b hb=>.inr (hmem b (List.mem_append_right _ hb))) (fun b hb _=>.inr (hmem b (List.mem_append_right _ hb))) (fun st=>by
   simp only [OB]
   refine ⟨hu,hz,by simpa [G.put,upd] using hdis.2.1,.inr ⟨hvr,v1++us++v2,F1++(Fa++[]++Fb)++F2,by simp only [G.put,upd,if_true];rfl,k2,k3,by rw [← q1];exact k4,?_⟩⟩
   exact TE.stable _ _ _ hte ⟨Nat.le_refl _,(s12.trans st).sameA.out,fun _ _ _=>rfl⟩)
 have s13:=s12.trans s3
 have ht3:=TV.later s13 e2
 have hPj:∀ b∈Fj,((({ (g.pend (g.FP v') (· = (g.AD v').block)) with PB:=(g.pend (g.FP v') (· = (g.AD v').block)).P }:G).put v' ((g.AD v').block::(F1++(Fa++[]++Fb)++F2))).P b) ∧
  ((({ (g.pend (g.FP v') (· = (g.AD v').block)) with PB:=(g.pend (g.FP v') (· = (g.AD v').block)).P }:G).put v' ((g.AD v').block::(F1++(Fa++[]++Fb)++F2))).PB b):=by
  intro b hb
  have hn:b ∉ (g.AD v').block::(F1++(Fa++[]++Fb)++F2):=fun hb'=>hdis.2.2 b hb b hb' rfl
  have hp:(g.pend (g.FP v') (· = (g.AD v').block)).P b:=.inr (hmem b (List.mem_append_left _ hb))
  exact ⟨⟨hp,hn⟩,⟨hp,hn⟩⟩
 simp only [TV] at ht3
 rcases ht3 with ⟨rfl,hnv,rfl⟩|⟨a,c,ws,rfl,t1,t2,t3,t4,t5⟩
 · obtain ⟨i4,s4⟩:=i3.addVirt (l:=nb) (id:=ib+1) (sz:=s2) (own:=true) hid
   refine ⟨_,i4,s13.trans s4,?_,fun k hk=>hk⟩
   simp only [SV]
   exact ⟨by simp [G.add],by simp [G.add,upd],.inl ⟨by simp [G.add],hnv.own,rfl,trivial⟩⟩
 · rcases t5 with ⟨_,Fk,rfl,t6,t7⟩|⟨t6,_⟩
   · obtain ⟨i4,s4⟩:=i3.addArr (l:=nb) (id:=ib+1) (sz:=s2) (bs:=c * s2) (ad:=a) (own:=true) (xs:=ys) (vs:=ws) (F:=Fk) hid t1 (fun b hb=>(hPj b hb).1) (hPj _ List.mem_cons_self).2 hdis.1 t6 t4 t7
     refine ⟨_,i4,s13.trans s4,?_,fun k hk=>hk⟩
     simp only [SV]
     exact ⟨by simp [G.add],by simp [G.add,upd],.inr ⟨by simp [G.add],a,c,rfl,t1,by simp [G.add,upd],t2,.inr (by simp [G.add,upd,Addr.add]),by simp [G.add,upd]⟩⟩
   · cases t6
theorem Zpc {c:Call} {t tu:TypeId} {x u:Operand} {x' u':X} {sz bytes:Nat} (ho:o.op=.call c) (hcal:c.callee=.builtin .append) (hargs:c.args = #[x,u]) (hty:c.argTypes = #[t,tu])
 (h1:chkX x x'=true) (h2:chkX u u'=true) (ht:isSlT P t=true) (htu:isSlT P tu=true) (hsz:szT P (elT P t) sz=true) (hby:byT P (elT P t) bytes=true) (hb0:0 < bytes)
 (hzs:zeroSz P (elT P t) sz=true) (hid:∀ k,k < 64→¬ g.U (ib+k)) (hI:Inv g Y M w) (hs:Slots g Y M w s ρ)
 (h:stp s M nb ib (.apr sz bytes x' u')=some (av,M')):Res P o ρ g Y M w ib av M':=by
 simp only [stp] at h
 unfold stpApr at h
 have hx:=Zaq hs h1
 have hu:=Zaq hs h2
 split at h
 case h_2=>cases h
 rename_i l v r i j ea
 rw [ea] at hx
 split at h
 case h_2=>cases h
 rename_i a M1 hto
 obtain ⟨g1,j1,j2,j3,j4⟩:=Zhf hI hx (hid 1 (by omega)) hto
 obtain ⟨v2,w2,g2,z1,z2,z3,z4,z5,z6⟩:=ZjH ho hcal hargs hty ht htu hsz hby hb0 hzs (fun hh=>by
  rcases j4 _ hh with hh|hh
  · exact hid 0 (by omega) (by simpa using hh)
  · omega) j1 j3 (SV.stp j2 _ _ hu) h
 refine ⟨v2,w2,g2,z1,z2,j2.trans z3,z4,fun id hh=>?_,z6⟩
 rcases z5 id hh with hh|hh
 · rcases j4 id hh with hh|hh
   · exact .inl hh
   · exact .inr (by omega)
 · exact .inr hh
theorem Zib {sz:Nat} {a:AV} {v:Value} {ys:List D} (hI:Inv g Y M w) (hsv:SV g Y M w a v) (h:plO M sz a=some ys) :
 ys.all isSc=true∧∃ news,XC w sz v ys.length news∧∀ (X:Nat→Prop) (o:Bool) (w':World),TE X o w' sz ys news []:=by
 unfold plO at h
 split at h
 · rename_i own ys' M1 hm
   split at h
   · rename_i hsc
     cases h
     obtain ⟨g1,F,news,_,h2,h3⟩:=ZhN hI hsv hm
     exact ⟨hsc,news,h2,fun X o w'=>(TE.sc hsc h3).2⟩
   · cases h
 · cases h
theorem XC.take {x:Value} {sz n k:Nat} {news:List Value} (h:XC w sz x n news) (hk:k≤n):(Builtin.firstCells sz k x).run P w=.ok (news.take (k * sz)).toArray w:=by
 rcases h with ⟨rfl,rfl,rfl⟩|⟨a,c,rfl,h1,h2⟩
 · have:k=0:=by omega
   subst this
   simpa using run_firstCells_none (P:=P) w sz 0 0 0
 · refine run_firstCells_some w sz k a n c (news.take (k * sz)) ?_ fun j v hj=>?_
   · rw [List.length_take,h2]
     exact Nat.min_eq_left (Nat.mul_le_mul_right _ hk)
   · rw [List.getElem?_take] at hj
     split at hj
     · exact h1 j v hj
     · cases hj
theorem TE.take {X:Nat→Prop} {o:Bool} {sz:Nat} {ys:List D} {us:List Value} (h:TE X o w sz ys us []) (k:Nat):TE X o w sz (ys.take k) (us.take (k * sz)) []:=by
 rw [← List.take_append_drop k ys] at h
 obtain ⟨v1,v2,F1,F2,h1,h2,h3,h4⟩:=TE.split h
 have hF:F1=[]:=by
  have:=congrArg List.length h2
  simp at this
  exact List.eq_nil_of_length_eq_zero (by omega)
 subst hF
 subst h1
 by_cases hk:k≤ys.length
 · have hl:v1.length=k * sz:=by rw [h3.len,List.length_take,Nat.min_eq_left hk]
   rw [← hl,List.take_left]
   exact h3
 · have hl:v1.length=ys.length * sz:=by rw [h3.len,List.length_take,Nat.min_eq_right (by omega)]
   have h5:v2=[]:=by
    have:=h4.len
    rw [List.drop_eq_nil_of_le (by omega)] at this
    simp at this
    exact this
   subst h5
   rw [List.append_nil]
   have e:v1.take (k * sz)=v1:=List.take_of_length_le (by rw [hl];exact Nat.mul_le_mul_right _ (by omega))
   rw [e]
   exact h3
theorem Zkq {l v sz off:Nat} {ys:List D} {us:List Value} {M2:Mem} (hI:Inv g Y M w) (h:stpWr M l v sz off ys=some M2) (hsc:ys.all isSc=true) (hvr:¬ g.VR v)
 (hte:∀ (X:Nat→Prop) (o:Bool) (w':World),TE X o w' sz ys us []) :
 ∃ w' g',(storeCells ((g.AD v).add (off * sz)) us).run P w=.ok () w'∧Inv g' Y M2 w'∧Stp g M w g' M2 w'∧∀ id,g'.U id→g.U id:=by
 unfold stpWr at h
 split at h
 case h_2=>cases h
 rename_i v' own sz' xs hm
 split at h
 case isFalse=>cases h
 rename_i hc
 obtain ⟨rfl,rfl,hle,hold⟩:=hc
 cases h
 have hob:=hI.ob l _ hm
 simp only [OB] at hob
 obtain ⟨hu1,hsz1,hnd,h3⟩:=hob
 rcases h3 with h3|⟨hvr1,vs,F',h4,h5,h6,h7,h8⟩
 · exact absurd h3.1 hvr
 have e1:xs=xs.take off++((xs.drop off).take ys.length++xs.drop (off+ys.length)):=by
  rw [← List.drop_drop,List.take_append_drop,List.take_append_drop]
 have h8':=h8
 rw [e1] at h8'
 obtain ⟨va,vr,Fa,Fr,q1,q2,q3,q4⟩:=TE.split h8'
 obtain ⟨vb,vc,Fb,Fc,k1,k2,k3,k4⟩:=TE.split q4
 have hFb:=(TE.sc (X':=fun _=>True) (o':=true) (w':=w) hold k3).1
 subst hFb
 have hva:va.length=off * sz':=by rw [q3.len,List.length_take,Nat.min_eq_left (by omega)]
 have hvb:vb.length=us.length:=by
  rw [k3.len,(hte (fun _=>True) true w).len,List.length_take,List.length_drop,Nat.min_eq_left (by omega)]
 have hrm:=RM.of_cl h5 h6 h7
 have hvl:vs.length=off * sz'+us.length+vc.length:=by rw [q1,k1,List.length_append,List.length_append,hva,hvb];omega
 have hone:∀ u∈us,u.oneCell'=true:=(hte (fun _=>True) true w).ones
 obtain ⟨b,o,sp,hadd⟩:∃ b o sp,g.AD v'=⟨b,o,sp⟩:=⟨_,_,_,rfl⟩
 have h5':=h5
 rw [hadd] at h5 hrm
 simp only at h5
 subst h5
 obtain ⟨cs,E,hg,hb⟩:=hrm
 simp only at hg hb
 have hbb:o+off * sz'+us.length≤cs.size∨us=[]:=by
  rcases hb with hb|hb
  · right;exact List.eq_nil_of_length_eq_zero (by omega)
  · left;omega
 have hrun:∃ w',(storeCells ((g.AD v').add (off * sz')) us).run P w=.ok () w'∧Wr (g.AD v') w w' (off * sz') us:=by
  rcases hbb with hbb|rfl
  · have hst:=run_storeCells_at P b (o+off * sz') E us 0 cs w hg (by omega) hone
    refine ⟨_,?_,by rw [hadd];exact ZlO hg hbb⟩
    rw [hadd,Addr.add_lit]
    simpa using hst
  · refine ⟨w,by simp [storeCells,Sem.run],⟨rfl,⟨rfl,rfl,rfl,fun b' cs' E' fr' k=>⟨cs',E',k,rfl⟩⟩,fun _ _=>rfl,fun _ h=>h,fun _ _=>rfl,fun i u hi=>by simp at hi⟩⟩
 obtain ⟨w',hr,hw⟩:=hrun
 have hcl':=hw.cl va vb vc hva hvb (by rw [List.append_assoc,← k1,← q1];exact h7)
 have hF'd:∀ c∈F',c≠(g.AD v').block:=fun c hc e=>by rw [h4] at hnd;exact (List.nodup_cons.1 hnd).1 (e▸hc)
 obtain ⟨i1,s1⟩:=hI.drop hm (F:=g.FP v') (fun b hb=>hb)
 obtain ⟨i2,s2⟩:=i1.world hw.io (w':=w') (N:=[]) (Nat.le_of_eq hw.size.symm) (fun b hb hnb=>hw.other b fun e=>hnb (.inr ⟨by rw [h4,e];exact List.mem_cons_self,e⟩)) (by simp)
 have s12:=s1.trans s2
 have hte1:TE (XA g Y M) own w sz' (xs.take off++ys++xs.drop (off+ys.length)) (va++us++vc) F':=by
  rw [q2,k2]
  have:=TE.append (TE.append q3 (hte (XA g Y M) own w)) k4
  simpa using this
 have hte2:=TE.stable (X':=XA ((g.pend (g.FP v') (· = (g.AD v').block)).pend [] fun _=>True) Y (M.set l none)) (w':=w') _ _ _ hte1 ⟨s12.size,s12.sameA.out,fun b hb hx=>by
  rcases hx with hx|hx
  · exact s12.sameA.heap b hb (.inl hx)
  · exact hw.other b (hF'd b hx)⟩
 have hno:∀ l' o',(M.set l none).m l'=some o'→o'.ver≠v':=by
  intro l' o' hm'
  obtain ⟨q1,q2⟩:=ZbU hm'
  exact (hI.dj l' l o' _ q2 hm q1).1
 obtain ⟨i3,s3⟩:=i2.put (l:=l) (id:=v') (fp:=(g.AD v').block::F') (o:=.arr v' own sz' (xs.take off++ys++xs.drop (off+ys.length))) (M':=(M.set l (some (.arr v' own sz' (xs.take off++ys++xs.drop (off+ys.length))))).tickR)
  (by simp only [Mem.tickR];exact mset_set.symm) rfl (Nat.le_succ _) (fun _=>by simp [Mem.tickR,Mem.set]) rfl hu1 hno
  (fun b hb=>.inl (.inr (by rw [h4];exact hb)))
  (fun b hb e=>.inl (.inr ⟨by rw [h4];exact List.mem_cons.2 (.inl e),e⟩)) (fun st=>by
   simp only [OB]
   have e1:∀ (gg:G),(gg.put v' ((g.AD v').block::F')).FP v'=(g.AD v').block::F':=fun gg=>by simp [G.put,upd]
   refine ⟨hu1,hsz1,by rw [e1,← h4];exact hnd,.inr ⟨hvr1,va++us++vc,F',by simp [G.put,upd];rfl,h5',hw.rm _ h6,hcl',TE.stable _ _ _ hte2 ⟨Nat.le_refl _,st.sameA.out,fun _ _ _=>rfl⟩⟩⟩)
 exact ⟨w',_,hr,i3,s12.trans s3,fun id h=>h⟩
theorem Zpd {c:Call} {t:TypeId} {x:Operand} {x':X} {sz:Nat} {z:D} (ho:o.op=.call c) (hcal:c.callee=.builtin .clear) (hargs:c.args = #[x]) (hty:c.argTypes = #[t])
 (h1:chkX x x'=true) (ht:isSlT P t=true) (hsz:szT P (elT P t) sz=true) (hs0:0 < sz) (hz:zeroD P (elT P t) z=true)
 (hI:Inv g Y M w) (hp:∀ b,¬ g.P b) (hs:Slots g Y M w s ρ) (h:stp s M nb ib (.clr sz z x')=some (av,M')):Res P o ρ g Y M w ib av M':=by
 simp only [stp] at h
 have hx:=Zaq hs h1
 have hu:=slT ht
 obtain ⟨i,v,hi,hv,htc,hone⟩:=Zhk (X:=fun _=>True) (w:=w) hz
 have hz0:(zeroValue (elT P t)).run P w=.ok v w:=by simp [zeroValue,ZhC hi,hv,go_sem]
 split at h
 · rename_i sz' ea
   split at h
   · cases h
     rw [ea] at hx
     simp only [SV] at hx
     refine Res.fin (v:=.tuple #[]) (.inl ?_) hI (Stp.refl _ _ _) (by simp only [SV];exact ⟨[],rfl,by simp only [SVL]⟩) fun _ h=>.inl h
     simp [execOp,ho,resolve,hcal,hargs,hty,invoke,builtin,hx,Builtin.clear_,Za5 hu,go_sem]
   · cases h
 · rename_i l id off len sz' ea
   rw [ea] at hx
   simp only [SV] at hx
   obtain ⟨hgu,hgs,hx⟩:=hx
   split at h
   · rename_i h0
     subst h0
     cases h
     have hv:∃ a c,ρ x=.slice a 0 c:=by
      rcases hx with ⟨_,hv,_⟩|⟨_,A,c,hv,_⟩
      · exact ⟨_,_,hv⟩
      · exact ⟨_,_,hv⟩
     obtain ⟨a,c,hv⟩:=hv
     refine Res.fin (v:=.tuple #[]) (.inl ?_) hI (Stp.refl _ _ _) (by simp only [SV];exact ⟨[],rfl,by simp only [SVL]⟩) fun _ h=>.inl h
     cases a<;>simp [execOp,ho,resolve,hcal,hargs,hty,invoke,builtin,hv,Builtin.clear_,Za5 hu,go_sem]
   rename_i h0
   split at h
   case isFalse=>cases h
   rename_i hc
   obtain ⟨rfl,hzs,hsc⟩:=hc
   cases hw:stpWr M l id sz' off (List.replicate len z) with
   | none=>rw [hw] at h;cases h
   | some M2 =>
    rw [hw] at h
    simp only [Option.map_some,Option.some.injEq,Prod.mk.injEq] at h
    obtain ⟨rfl,rfl⟩:=h
    have hvs:v.cells.size=sz':=by have:=htc.len;simp at this;omega
    rcases hx with ⟨_,_,hl,_⟩|⟨hvr,A,c,hvx,q1,q2,q3,q4,q5⟩
    · exact absurd hl h0
    have hA:A=(g.AD id).add (off * sz'):=q4.resolve_left (by omega)
    have hall:(List.replicate len z).all isSc=true:=by simp [hsc]
    obtain ⟨w',g',k1,k2,k3,k4⟩:=Zkq (P:=P) (us:=(List.replicate len v.cells.toList).flatten) hI hw hall hvr (fun X o w0=>(TE.sc hall (TE.rep htc hzs hone len)).2)
    refine Res.fin (v:=.tuple #[]) (.inl ?_) k2 k3 (by simp only [SV];exact ⟨[],rfl,by simp only [SVL]⟩) fun i h=>.inl (k4 i h)
    rw [← ZeM v.cells hvs hs0 len,← hA] at k1
    obtain ⟨len',rfl⟩:∃ k,len=k+1:=⟨len - 1,by omega⟩
    have k1':(storeCells A (Builtin.zeroCells v.cells (len'+1)).toList).run P w=.ok () w':=by
     unfold Builtin.zeroCells;rw [hvs];simp only [hvs] at k1;exact k1
    have hcl:(Builtin.clear_ #[t] o.type #[.slice (some A) (len'+1) c]).run P w=.ok (.tuple #[]) w':=by
     simp [Builtin.clear_,Sem.run_bind,Za5 hu,hz0,k1']
    simp [execOp,ho,resolve,hcal,hargs,hty,invoke,builtin,hvx,hcl,go_sem]
 · cases h
theorem ZpW {c:Call} {t tu:TypeId} {d x:Operand} {d' x':X} {sz:Nat} (ho:o.op=.call c) (hcal:c.callee=.builtin .copy) (hargs:c.args = #[d,x]) (hty:c.argTypes = #[t,tu])
 (h0:chkX d d'=true) (h1:chkX x x'=true) (ht:isSlT P t=true) (hsz:szT P (elT P t) sz=true) (hs0:0 < sz)
 (hI:Inv g Y M w) (hp:∀ b,¬ g.P b) (hs:Slots g Y M w s ρ) (h:stp s M nb ib (.cpy sz d' x')=some (av,M')):Res P o ρ g Y M w ib av M':=by
 simp only [stp] at h
 have hx:=Zaq hs h1
 have hd:=Zaq hs h0
 have hu:=slT ht
 obtain ⟨i,hi,hi1⟩:=Zbz hsz
 split at h
 · rename_i ys l id off len sz' hy ea
   obtain ⟨hsc,news,hxc,hte⟩:=Zib hI hx hy
   have hlo:=ZeR (P:=P) hxc w
   rw [ea] at hd
   simp only [SV] at hd
   obtain ⟨hgu,hgs,hd⟩:=hd
   split at h
   · rename_i hl0
     subst hl0
     cases h
     have hv:∃ a c,ρ d=.slice a 0 c:=by
      rcases hd with ⟨_,hv,_⟩|⟨_,A,c,hv,_⟩
      · exact ⟨_,_,hv⟩
      · exact ⟨_,_,hv⟩
     obtain ⟨a,c,hv⟩:=hv
     have hf:=XC.take (P:=P) hxc (Nat.zero_le ys.length)
     rw [Nat.zero_mul,List.take_zero] at hf
     refine Res.fin (v:=.int .i64 0) (.inl ?_) hI (Stp.refl _ _ _) ZcL fun _ h=>.inl h
     have hcp:(Builtin.copy_ #[t,tu] o.type #[.slice a 0 c,ρ x]).run P w=.ok (.int .i64 0) w:=by
      generalize ρ x=vx at hlo hf
      cases a<;>simp [Builtin.copy_,Sem.run_bind,Za5 hu,hlo,ZcR hi,hi1,hf,goInt,storeCells]
     simp [execOp,ho,resolve,hcal,hargs,hty,invoke,builtin,hv,hcp,go_sem]
   rename_i hl0
   split at h
   case isFalse=>cases h
   rename_i hc
   subst hc
   cases hw:stpWr M l id sz' off (ys.take len) with
   | none=>rw [hw] at h;cases h
   | some M2 =>
    rw [hw] at h
    simp only [Option.map_some,Option.some.injEq,Prod.mk.injEq] at h
    obtain ⟨rfl,rfl⟩:=h
    rcases hd with ⟨_,_,hl,_⟩|⟨hvr,A,c,hvx,q1,q2,q3,q4,q5⟩
    · exact absurd hl hl0
    have hA:A=(g.AD id).add (off * sz'):=q4.resolve_left (by omega)
    have hall:(ys.take len).all isSc=true:=List.all_eq_true.2 fun y hy=>List.all_eq_true.1 hsc y (List.mem_of_mem_take hy)
    obtain ⟨w',g',k1,k2,k3,k4⟩:=Zkq (P:=P) (us:=news.take (len * sz')) hI hw hall hvr (fun X o w0=>TE.take (hte X o w0) len)
    refine Res.fin (v:=.int .i64 (min ys.length len:Nat)) (.inl ?_) k2 k3 ZcL fun i h=>.inl (k4 i h)
    rw [← hA] at k1
    have hf:=XC.take (P:=P) hxc (Nat.min_le_left ys.length len)
    have e:news.take (min ys.length len * sz')=news.take (len * sz'):=by
     by_cases hle:ys.length≤len
     · rw [Nat.min_eq_left hle,← hxc.len,List.take_length,List.take_of_length_le]
       rw [hxc.len];exact Nat.mul_le_mul_right _ hle
     · rw [Nat.min_eq_right (by omega)]
    rw [e] at hf
    have e2:Nat.min ys.length len=min ys.length len:=rfl
    have hcp:(Builtin.copy_ #[t,tu] o.type #[.slice (some A) len c,ρ x]).run P w=.ok (.int .i64 (min ys.length len:Nat)) w':=by
     generalize ρ x=vx at hlo hf
     simp only [Builtin.copy_,e2]
     simp [Sem.run_bind,Za5 hu,hlo,ZcR hi,hi1,e2,hf,k1,goInt]
    simp [execOp,ho,resolve,hcal,hargs,hty,invoke,builtin,hvx,hcp,go_sem]
 · cases h
theorem ZpM {src dst:TypeId} {k:IntKind} {x:Operand} {x':X} {td:TypeDesc} (ho:o.op=.convert src dst x) (h1:chkX x x'=true) (hsrc:P.underlying src=some td) (hdst:P.underlying dst=some (.int k))
 (hI:Inv g Y M w) (hp:∀ b,¬ g.P b) (hs:Slots g Y M w s ρ) (h:stp s M nb ib (.cnv k x')=some (av,M')):Res P o ρ g Y M w ib av M':=by
 simp only [stp] at h
 have hx:=Zaq hs h1
 split at h
 · rename_i k' n ea
   cases h
   rw [ea] at hx
   simp only [SV,TV] at hx
   refine Res.pure (v:=.int k (k.wrap n)) hI hp ?_ ZcL
   simp [execOp,ho,hx.1,convert,Za5 hsrc,Za5 hdst,Conv.intToInt,go_sem]
 · cases h
theorem Zo4 {x:Operand} {x':X} (ho:o.op=.nilCheck x) (h1:chkX x x'=true)
 (hI:Inv g Y M w) (hp:∀ b,¬ g.P b) (hs:Slots g Y M w s ρ) (h:stp s M nb ib (.nck x')=some (av,M')):Res P o ρ g Y M w ib av M':=by
 simp only [stp] at h
 have hx:=Zaq hs h1
 split at h
 · rename_i l v i j ea
   cases h
   rw [ea] at hx
   have hx2:=hx
   simp only [SV] at hx2
   refine Res.pure (v:=ρ x) hI hp ?_ hx
   simp [execOp,ho,hx2.2.2,go_sem]
 · rename_i d ea
   cases h
   rw [ea] at hx
   have hx2:=hx
   simp only [SV] at hx2
   obtain ⟨a,us,hv,_⟩:=Zav.1 hx2
   refine Res.pure (v:=ρ x) hI hp ?_ hx
   simp [execOp,ho,hv,go_sem]
 · cases h
theorem ZgA (f:Int→UInt8):∀ (ns:List Int) (r:ByteArray),ns.foldl (fun r n=>r.push (f n)) r=⟨r.data++(ns.map f).toArray⟩
 | [],r=>by simp
 | n::ns,r=>by
  rw [List.foldl_cons,ZgA f ns]
  simp [ByteArray.push]
theorem ZmM {ns:List Int} {a:Addr} (hc:CL w a (ns.map (Value.int .u8))) (c:Nat):(Conv.bytesToString (.slice (some a) ns.length c)).run P w=.ok (.string ⟨(ns.map fun n=>UInt8.ofNat n.toNat).toArray⟩) w:=by
 have hl:=run_loadCells_list (P:=P) w a (ns.map (Value.int .u8)) (fun j v hj=>hc j v hj)
 rw [List.length_map] at hl
 rw [run_bytesToString w a ns.length c ns (by rw [hl])]
 rw [ZgA]
 simp
theorem Zkh {X:Nat→Prop} {o:Bool}:∀ {ys:List D} {us:List Value} {bs:List UInt8},TE X o w 1 ys us []→bytesOf ys=some bs→∃ ns:List Int,us=ns.map (Value.int .u8)∧bs=ns.map fun n=>UInt8.ofNat n.toNat
 | [],us,bs,h,hb=>by
  simp only [TE] at h
  simp only [bytesOf] at hb
  cases hb
  exact ⟨[],h.1,rfl⟩
 | y::ys,us,bs,h,hb=>by
  rw [Za8] at h
  obtain ⟨u1,u2,F1,F2,rfl,h2,h3,h4,h5⟩:=h
  have hF2:F2=[]:=by
   have:=congrArg List.length h3
   simp at this
   exact List.eq_nil_of_length_eq_zero (by omega)
  subst hF2
  have key:∃ n,y=.int .u8 n∧∃ b2,bytesOf ys=some b2∧bs=UInt8.ofNat n.toNat::b2:=by
   cases y with
   | int k n =>
    cases k<;>simp only [bytesOf] at hb<;>try (cases hb;done)
    cases hr:bytesOf ys with
    | none=>rw [hr] at hb;cases hb
    | some b2=>rw [hr] at hb;cases hb;exact ⟨n,rfl,b2,rfl,rfl⟩
   | _=>simp [bytesOf] at hb
  obtain ⟨n,rfl,b2,hr,rfl⟩:=key
  obtain ⟨ns,e1,e2⟩:=Zkh h5 hr
  obtain ⟨u,rfl,ht⟩:=(TC.mk rfl).1 h4
  simp only [TV] at ht
  exact ⟨n::ns,by rw [ht.1,e1];rfl,by rw [e2];rfl⟩
theorem ZpU {src dst:TypeId} {x:Operand} {x':X} (ho:o.op=.convert src dst x) (h1:chkX x x'=true) (hsrc:isSlT P src=true) (hdst:P.underlying dst=some .string) (hel:P.underlying (elT P src)=some (.int .u8))
 (hI:Inv g Y M w) (hp:∀ b,¬ g.P b) (hs:Slots g Y M w s ρ) (h:stp s M nb ib (.b2s x')=some (av,M')):Res P o ρ g Y M w ib av M':=by
 simp only [stp] at h
 have hx:=Zaq hs h1
 have hu:=slT hsrc
 split at h
 · rename_i ys hy
   obtain ⟨hsc,news,hxc,hte⟩:=Zib hI hx hy
   cases hb:bytesOf ys with
   | none=>rw [hb] at h;cases h
   | some bs =>
    rw [hb] at h
    simp only [Option.map_some,Option.some.injEq,Prod.mk.injEq] at h
    obtain ⟨rfl,rfl⟩:=h
    obtain ⟨ns,e1,e2⟩:=Zkh (hte (fun _=>True) true w) hb
    refine Res.pure (v:=.string ⟨bs.toArray⟩) hI hp ?_ (ZfV fun X=>by simp only [TV];exact ⟨trivial,trivial⟩)
    have hcv:(convert src dst (ρ x)).run P w=.ok (.string ⟨bs.toArray⟩) w:=by
     rcases hxc with ⟨hv,_,hn⟩|⟨a,c,hv,hcl,_⟩
     · subst hn
       have:ns=[]:=List.map_eq_nil_iff.1 e1.symm
       subst this
       rw [hv,run_convert_bytes_string w src dst (elT P src) none 0 0 hu hel hdst,e2]
       simp [Conv.bytesToString,Sem.run]
       rfl
     · have hln:ys.length=ns.length:=by
        have:=(hte (fun _=>True) true w).len
        rw [e1] at this;simpa using this.symm
       rw [hv,run_convert_bytes_string w src dst (elT P src) (some a) _ _ hu hel hdst,hln,e2]
       exact ZmM (by rw [← e1];exact hcl) c
    simp [execOp,ho,hcv,go_sem]
 · cases h
theorem Zn7 {e:TypeId} {t tu:TypeId} {i:TypeInfo} {z:Value} {kk k:IntKind} {ty:TypeId} (ht:P.underlying t=some (.slice e)) (htu:P.underlying tu=some (.int kk)) (hi:P.info? e=some i) (hz:i.zero=some z) {n:Int} (h0:0 < n) (hs:0 < i.size) (hb0:0 < i.bytes)
 (hlim:n * i.bytes≤70368744177664) :
 (Builtin.append_ #[t,tu] ty #[.slice none 0 0,.int k n]).run P w=.ok (.slice (some ⟨w.heap.size,0,none⟩) n.toNat (grownCap w n.toNat 0 e))
  (w.drew.alloc (.cells (Builtin.zeroCells z.cells n.toNat++Builtin.zeroCells z.cells (grownCap w n.toNat 0 e - n.toNat)) e)):=by
 have hle:n≤70368744177664:=by
  have:n * 1≤n * i.bytes:=Int.mul_le_mul_of_nonneg_left (by omega) (by omega)
  omega
 have hw:IntKind.i64.wrap n=n:=by simp [IntKind.wrap,IntKind.signed,IntKind.bits,Int.bmod];omega
 have n0:¬ n < 0:=by omega
 have n48:¬ (281474976710656 < n * (i.bytes:Int)):=by omega
 have hnn:¬ n.toNat=0:=by omega
 have hsz:¬ i.size=0:=by omega
 have h63:¬ (9223372036854775807 < (n.toNat:Int)):=by omega
 have hfit:=growslice_fits (need:=n.toNat) (old:=0) (bytes:=i.bytes) (by omega) (by
  have:((n.toNat * i.bytes:Nat):Int)=n * i.bytes:=by rw [Int.natCast_mul,Int.toNat_of_nonneg (by omega)]
  omega)
 have h48':¬ (281474976710656 < Builtin.nextslicecap n.toNat 0 * i.bytes):=by omega
 have hfo:=run_firstCells_none (P:=P) w.drew i.size 0 0 0
 have m1:¬ n≤0:=by omega
 have m2:¬ (9223372036854775807 < max n 0):=by omega
 have m3:¬ (n.toNat * i.size=0):=Nat.mul_ne_zero hnn hsz
 simp [Builtin.append_,run_underlying ht,run_underlying htu,sizeOf,typeInfo,zeroValue,hi,hz,asInt,asIntOf,hw,n0,n48,hnn,hsz,h63,h48',hfo,m1,m2,m3,Question.forced,newRow,grownCap]
theorem Zgt (z:Array Value) {sz:Nat} (hz:z.size=sz) (h0:0 < sz) (n:Nat):(Builtin.zeroCells z n).toList=(List.replicate n z.toList).flatten:=by
 unfold Builtin.zeroCells
 have:=ZeM z hz h0 n
 rw [hz] at this ⊢
 exact this
theorem ZpC {c:Call} {t tu:TypeId} {x u:Operand} {x' n':X} {sz bytes:Nat} {z:D} {kk:IntKind} (ho:o.op=.call c) (hcal:c.callee=.builtin .append) (hargs:c.args = #[x,u]) (hty:c.argTypes = #[t,tu])
 (h1:chkX x x'=true) (h2:chkX u n'=true) (ht:isSlT P t=true) (hsz:szT P (elT P t) sz=true) (hby:byT P (elT P t) bytes=true) (hb0:0 < bytes) (hs0:0 < sz) (hz:zeroD P (elT P t) z=true) (htu:P.underlying tu=some (.int kk))
 (hid:∀ k,k < 64→¬ g.U (ib+k)) (hI:Inv g Y M w) (hs:Slots g Y M w s ρ)
 (h:stp s M nb ib (.apz sz bytes z x' n')=some (av,M')):Res P o ρ g Y M w ib av M':=by
 simp only [stp] at h
 have hx:=Zaq hs h1
 split at h
 case h_2=>cases h
 rename_i sz' ln ea eb
 split at h
 case isFalse=>cases h
 rename_i hcond
 obtain ⟨rfl,a1,a2,a3⟩:=hcond
 cases h
 rw [ea] at hx
 simp only [SV] at hx
 obtain ⟨kl,hlv⟩:=ZgQ (Zaq hs h2) eb
 obtain ⟨i,v,hi,hv,htc,hone⟩:=Zhk (X:=XA g Y M) (w:=w) hz
 obtain ⟨i2,hi2,hi3⟩:=Zbz hsz
 obtain ⟨i4,hi4,hi5⟩:=Zhs hby
 rw [hi] at hi2 hi4
 cases hi2
 cases hi4
 have hvs:v.cells.size=sz':=by have:=htc.len;simp at this;omega
 have hrun:=Zn7 (P:=P) (w:=w) (ty:=o.type) (k:=kl) (slT ht) htu hi hv a1 (by omega) (by omega) (by rw [hi5];exact a2)
 have hexec:(execOp ρ o).run P w=.ok (.value (.slice (some ⟨w.heap.size,0,none⟩) ln.toNat (grownCap w ln.toNat 0 (elT P t)))) (w.drew.alloc (.cells (Builtin.zeroCells v.cells ln.toNat++Builtin.zeroCells v.cells (grownCap w ln.toNat 0 (elT P t) - ln.toNat)) (elT P t))):=by
  rw [← hx,← hlv] at hrun
  simp [execOp,ho,resolve,hcal,hargs,hty,invoke,builtin,hrun]
 have hge:=grownCap_ge w ln.toNat 0 (elT P t)
 obtain ⟨g',hn,k1,k2,k3,k4,k5,k6⟩:=ZfL (l:=nb) (id:=ib) (sz:=sz') (bs:=grownCap w ln.toNat 0 (elT P t) * sz') (own:=true) (F:=[]) hI ⟨rfl,rfl,rfl,Rows.push rfl⟩ (by simpa using hid 0 (by omega))
  (w':=(w.drew.alloc (.cells (Builtin.zeroCells v.cells ln.toNat++Builtin.zeroCells v.cells (grownCap w ln.toNat 0 (elT P t) - ln.toNat)) (elT P t)))) rfl
  (vs:=(List.replicate ln.toNat v.cells.toList).flatten) (rest:=(Builtin.zeroCells v.cells (grownCap w ln.toNat 0 (elT P t) - ln.toNat)).toList) (by simp [Zgt v.cells hvs hs0])
  (by
   simp only [Array.size_append,size_zeroCells,hvs]
   rw [← Nat.add_mul]
   exact Nat.mul_le_mul_right _ (by omega)) (by simp) (by simp)
  (TE.rep htc a3 hone ln.toNat)
 refine Res.fin (.inl hexec) hn.inv hn.stp ?_ (fun id hi=>?_)
 · simp only [SV]
   exact ⟨k1,k3,.inr ⟨k5,_,_,rfl,rfl,by rw [k2],hge,.inr (by rw [k2];simp [Addr.add]),by rw [k4];omega⟩⟩
 · rcases hn.u id hi with h|h
   · exact .inl h
   · exact .inr (by omega)
end
end Go.Vm
namespace Go.Vm
open Go
set_option linter.unusedVariables false
set_option linter.unusedSimpArgs false
section
variable {P:Program} {g:G} {Y:Nat→Prop} {M:Mem} {w:World} {s:Nat→AV} {ρ:Operand→Value} {o:Oper} {i:I} {nb ib:Nat} {av:AV} {M':Mem}
theorem eqop {op:BinOp} {neg:Bool} (h:(match op with|.eql=>!neg|.neq=>neg|_=>false)=true):(op=.eql∧neg=false)∨(op=.neq∧neg=true):=by
 cases op<;>simp at h<;>simp [h]
theorem ofL {α:Type} {a:Array α} {l:List α} (h:a.toList=l):a=l.toArray:=by rw [← h,Array.toArray_toList]
theorem Zpb {op:BinOp} {t tt:TypeId} {x u:Operand} (ho:o.op=.binOp op t x u tt) (h:isNilI u=true):o.op=.binOp op t x (.const .nilIface) tt:=by
 unfold isNilI at h
 split at h
 · exact ho
 · cases h
theorem Zpp {op:BinOp} {t tt:TypeId} {x u:Operand} (ho:o.op=.binOp op t x u tt) (h:isNilS u=true):o.op=.binOp op t x (.const (.slice none 0 0)) tt:=by
 unfold isNilS at h
 split at h
 · exact ho
 · cases h
theorem ZsY {fn:Fn} {fs:Array Operand} {caps:Array Operand} {f:FuncId} (ho:o.op=.makeFunc fn fs caps) (h:isFn fn f=true) (h2:fs.size=0):o.op=.makeFunc (.func f) #[] caps:=by
 have:fs = #[]:=Array.eq_empty_of_size_eq_zero h2
 subst this
 cases fn<;>simp [isFn] at h
 subst h
 exact ho
theorem Zqy {t:TypeId} {x:Operand} {lo hi mx:Option Operand} (ho:o.op=.slice t x lo hi mx) (h:mx.isNone=true):o.op=.slice t x lo hi none:=by
 cases mx with
 | none=>exact ho
 | some _=>cases h
theorem Zma (hc:chkI P o i=true) (h:stp s M nb ib i=some (av,M')) (hI:Inv g Y M w) (hp:∀ b,¬ g.P b) (hs:Slots g Y M w s ρ) (hid:∀ k,k < 64→¬ g.U (ib+k)) :
 Res P o ρ g Y M w ib av M':=by
 unfold chkI at hc
 split at hc
 · rename_i ho;exact ZoQ (.inl ho) hc hI hp hs h
 · rename_i ho;exact ZoQ (.inr ho) hc hI hp hs h
 · rename_i ho
   simp only [Bool.and_eq_true] at hc
   exact Zoq ho hc.1.1 hc.1.2 hc.2 hI hp hs h
 · rename_i ho
   split at hc
   · exact Zls ho hc hid hI hp h
   · cases hc
 · rename_i ho;exact ZnO ho hc hid hI hp hs h
 · rename_i ho
   split at hc
   · rename_i fs i hu hi
     split at hc
     · rename_i zs hz
       simp only [Bool.and_eq_true,beq_iff_eq] at hc
       exact ZpN ho hu hi hz hc.1.1 hc.1.2 hc.2 hI hp hs h
     · cases hc
   · cases hc
 · rename_i ho
   simp only [Bool.and_eq_true,Bool.or_eq_true,beq_iff_eq,decide_eq_true_eq] at hc
   obtain ⟨⟨⟨⟨⟨c1,c2⟩,c3⟩,c4⟩,c5⟩,c6⟩:=hc
   refine Zpv ho c1 c2 c3 c4 ?_ c6 hid hI hp hs h
   rcases c5 with c5|c5
   · exact .inl c5
   · right
     split at c5
     · rename_i i hi
       obtain ⟨z,hz⟩:=Option.isSome_iff_exists.1 c5
       exact ⟨i,z,hi,hz⟩
     · cases c5
 · rename_i ho
   simp only [Bool.and_eq_true,beq_iff_eq] at hc
   exact Znn ho hc.1.1.1 hc.1.1.2 hc.1.2 hc.2 hI hp hs h
 · rename_i ho
   simp only [Bool.and_eq_true,decide_eq_true_eq] at hc
   exact ZmO ho hc.1.1.1 hc.1.1.2 hc.1.2 hc.2 hI hp hs h
 · rename_i ho
   simp only [Bool.and_eq_true,beq_iff_eq] at hc
   obtain ⟨⟨rfl,c2⟩,c3⟩:=hc
   exact Zpk ho c2 c3 hI hp hs h
 · rename_i ho
   simp only [Bool.and_eq_true] at hc
   obtain ⟨⟨⟨c1,c2⟩,c3⟩,c4⟩:=hc
   refine ZpQ ho c1 c2 ?_ (eqop c4) hI hp hs h
   split at c3
   · assumption
   · cases c3
 · rename_i ho
   simp only [Bool.and_eq_true] at hc
   obtain ⟨⟨⟨c0,c1⟩,c2⟩,c3⟩:=hc
   have ho:=Zpb ho c0
   split at c2
   · rename_i ms hms
     exact ZoU ho c1 hms (eqop c3) hI hp hs h
   · cases c2
 · rename_i ho
   simp only [Bool.and_eq_true] at hc
   obtain ⟨⟨⟨c0,c1⟩,c2⟩,c3⟩:=hc
   exact ZmI (Zpp ho c0) c1 c2 (eqop c3) hI hp hs h
 · rename_i ho
   simp only [Bool.and_eq_true,Bool.not_eq_true'] at hc
   obtain ⟨⟨⟨⟨⟨c1,c2⟩,c3⟩,c4⟩,c5⟩,c6⟩:=hc
   exact ZnQ ho c1 c2 c3 c4 c5 (eqop c6) hI hp hs h
 · rename_i ho
   simp only [Bool.and_eq_true,beq_iff_eq] at hc
   obtain ⟨rfl,c2⟩:=hc
   exact Zqj ho c2 hI hp hs h
 · rename_i ho
   simp only [Bool.and_eq_true,beq_iff_eq] at hc
   obtain ⟨⟨c0,c1⟩,c2⟩:=hc
   exact Zo1 (ZsY ho c0 c1) c2 hI hp hs h
 · rename_i ho
   simp only [Bool.and_eq_true,decide_eq_true_eq] at hc
   obtain ⟨⟨⟨⟨⟨⟨⟨c1,c2⟩,c3⟩,c4⟩,c5⟩,c6⟩,c7⟩,c8⟩:=hc
   exact Zph ho c1 c2 c3 c4 c5 c6 c7 c8 hid hI hp hs h
 · rename_i ho
   simp only [Bool.and_eq_true] at hc
   obtain ⟨⟨⟨⟨⟨c0,c1⟩,c2⟩,c3⟩,c4⟩,c5⟩:=hc
   exact ZoY (Zqy ho c0) c1 c2 c3 c4 c5 hI hp hs h
 · rename_i ho
   simp only [Bool.and_eq_true] at hc
   obtain ⟨⟨⟨⟨c0,c1⟩,c2⟩,c3⟩,c4⟩:=hc
   refine Zo2 (Zqy ho c0) c1 c2 c3 ?_ hI hp hs h
   split at c4
   · assumption
   · cases c4
 · rename_i ho
   simp only [Bool.and_eq_true] at hc
   obtain ⟨c1,c2⟩:=hc
   split at c2
   · rename_i fs hu
     split at c2
     · rename_i fd hf
       simp only [Bool.and_eq_true,beq_iff_eq] at c2
       exact Zo9 ho c1 hu hf c2.1 c2.2 hI hp hs h
     · cases c2
   · cases c2
 · rename_i ho
   simp only [Bool.and_eq_true] at hc
   obtain ⟨⟨⟨c1,c2⟩,c3⟩,c4⟩:=hc
   exact Zo0 ho c1 c2 c3 c4 hI hp hs h
 · rename_i ho
   simp only [Bool.and_eq_true] at hc
   obtain ⟨⟨c1,c2⟩,c3⟩:=hc
   refine ZpX ho c1 c2 ?_ hI hp hs h
   split at c3
   · assumption
   · cases c3
 · rename_i ho
   simp only [Bool.and_eq_true,beq_iff_eq] at hc
   obtain ⟨⟨rfl,c2⟩,c3⟩:=hc
   exact Zpn ho c2 (of_decide_eq_true c3) hI hp hs h
 · rename_i ho
   simp only [Bool.and_eq_true] at hc
   obtain ⟨c1,c2⟩:=hc
   split at c2
   · rename_i fs hu
     split at c2
     · rename_i fd hf
       simp only [Bool.and_eq_true,beq_iff_eq,Bool.not_eq_true'] at c2
       exact ZpG ho c1 hu hf c2.1.1 c2.1.2 c2.2 hI hp hs h
     · cases c2
   · cases c2
 · rename_i c y ho
   split at hc
   · rename_i x t e1 e2 e3
     simp only [Bool.and_eq_true] at hc
     exact Zo7 ho e1 (ofL e2) (ofL e3) hc.1 hc.2 hI hp hs h
   · cases hc
 · rename_i c y ho
   split at hc
   · rename_i x t e1 e2 e3
     simp only [Bool.and_eq_true] at hc
     obtain ⟨c1,c2⟩:=hc
     refine ZnR ho e1 (ofL e2) (ofL e3) c1 ?_ hI hp hs h
     split at c2
     · assumption
     · cases c2
   · cases hc
 · rename_i c y ho
   split at hc
   · rename_i x t e1 e2 e3
     simp only [Bool.and_eq_true] at hc
     exact Zn6 ho e1 (ofL e2) (ofL e3) hc.1 hc.2 hI hp hs h
   · cases hc
 · rename_i c z y n ho
   split at hc
   · rename_i x u t tu e1 e2 e3
     simp only [Bool.and_eq_true,decide_eq_true_eq] at hc
     obtain ⟨⟨⟨⟨⟨⟨⟨⟨c1,c2⟩,c3⟩,c4⟩,c5⟩,c6⟩,c7⟩,c8⟩,c9⟩:=hc
     split at c9
     · rename_i kk hu
       exact ZpC ho e1 (ofL e2) (ofL e3) c1 c2 c3 c4 c5 c6 c7 c8 hu hid hI hs h
     · cases c9
   · cases hc
 · rename_i c sz bytes y z ho
   split at hc
   · rename_i x u t tu e1 e2 e3
     simp only [Bool.and_eq_true,decide_eq_true_eq] at hc
     obtain ⟨⟨⟨⟨⟨⟨⟨c1,c2⟩,c3⟩,c4⟩,c5⟩,c6⟩,c7⟩,c8⟩:=hc
     exact ZpH ho e1 (ofL e2) (ofL e3) c1 c2 c3 c8 c4 c5 c6 c7 hid hI hs h
   · cases hc
 · rename_i c sz bytes y z ho
   split at hc
   · rename_i x u t tu e1 e2 e3
     simp only [Bool.and_eq_true,decide_eq_true_eq] at hc
     obtain ⟨⟨⟨⟨⟨⟨⟨c1,c2⟩,c3⟩,c4⟩,c5⟩,c6⟩,c7⟩,c8⟩:=hc
     exact Zpc ho e1 (ofL e2) (ofL e3) c1 c2 c3 c8 c4 c5 c6 c7 hid hI hs h
   · cases hc
 · rename_i c mx y z ho
   split at hc
   · rename_i x u e1 e2
     simp only [Bool.and_eq_true] at hc
     obtain ⟨⟨rfl,c1⟩,c2⟩:=hc
     exact ZlU (mx:=true) ho e1 (ofL e2) c1 c2 hI hp hs h
   · rename_i x u e1 e2
     simp only [Bool.and_eq_true,Bool.not_eq_true'] at hc
     obtain ⟨⟨rfl,c1⟩,c2⟩:=hc
     exact ZlU (mx:=false) ho e1 (ofL e2) c1 c2 hI hp hs h
   · cases hc
 · rename_i ho
   simp only [Bool.and_eq_true] at hc
   obtain ⟨⟨c1,c2⟩,c3⟩:=hc
   unfold hasU at c2
   obtain ⟨td,htd⟩:=Option.isSome_iff_exists.1 c2
   split at c3
   · rename_i k' hk
     rw [beq_iff_eq] at c3
     subst c3
     exact ZpM ho c1 htd hk hI hp hs h
   · cases c3
 · rename_i ho;exact Zo4 ho hc hI hp hs h
 · rename_i ho
   simp only [Bool.and_eq_true] at hc
   obtain ⟨⟨⟨c1,c2⟩,c3⟩,c4⟩:=hc
   refine ZpU ho c1 c2 ?_ ?_ hI hp hs h
   · split at c3
     · assumption
     · cases c3
   · split at c4
     · assumption
     · cases c4
 · rename_i ho
   split at hc
   · rename_i x t e1 e2 e3
     simp only [Bool.and_eq_true,decide_eq_true_eq] at hc
     obtain ⟨⟨⟨⟨c1,c2⟩,c3⟩,c4⟩,c5⟩:=hc
     exact Zpd ho e1 (ofL e2) (ofL e3) c1 c2 c3 c4 c5 hI hp hs h
   · cases hc
 · rename_i ho
   split at hc
   · rename_i u x t tu e1 e2 e3
     simp only [Bool.and_eq_true,decide_eq_true_eq] at hc
     obtain ⟨⟨⟨⟨c1,c2⟩,c3⟩,c4⟩,c5⟩:=hc
     exact ZpW ho e1 (ofL e2) (ofL e3) c1 c2 c3 c4 c5 hI hp hs h
   · cases hc
 · simp only [stp] at h;cases h
 · cases hc
end
end Go.Vm
namespace Go.Vm
open Go
set_option linter.unusedSimpArgs false
set_option linter.unusedVariables false
structure Le (M Mc:Mem):Prop where
 m:∀ l o,M.m l=some o→Mc.m l=some o
 e:Mc.e=M.e
 r:M.r=0∨Mc.r=M.r
theorem Le.refl (M:Mem):Le M M:=⟨fun _ _ h=>h,rfl,.inr rfl⟩
theorem Le.rr {M Mc:Mem} (k:Le M Mc) {r:Nat} (h:r=M.r∧r≠0):r=Mc.r∧r≠0:=⟨by rcases k.r with k|k;exact absurd (h.1.trans k) h.2;rw [k];exact h.1,h.2⟩
structure Rm (M M' Mc Mc':Mem):Prop where
 m:∀ l,(M'.m l=none∧Mc'.m l=none∧(M.m l).isSome=true)∨(M'.m l=M.m l∧Mc'.m l=Mc.m l)
 e:M'.e=M.e∧Mc'.e=Mc.e
 r:M'.r=M.r∧Mc'.r=Mc.r
 c:M'.c=M.c∧Mc'.c=Mc.c
section
variable {M M' Mc Mc':Mem}
theorem Rm.same:Rm M M Mc Mc:=⟨fun _=>.inr ⟨rfl,rfl⟩,⟨rfl,rfl⟩,⟨rfl,rfl⟩,⟨rfl,rfl⟩⟩
theorem Rm.le (h:Rm M M' Mc Mc') (k:Le M Mc):Le M' Mc':=by
 refine ⟨fun l o ho=>?_,by rw [h.e.1,h.e.2,k.e],by rw [h.r.1,h.r.2];exact k.r⟩
 rcases h.m l with ⟨h1,_,_⟩|⟨h1,h2⟩
 · rw [h1] at ho;cases ho
 · rw [h2];exact k.m l o (by rw [← h1];exact ho)
theorem Rm.trans {M2 Mc2:Mem} (h:Rm M M' Mc Mc') (k:Rm M' M2 Mc' Mc2):Rm M M2 Mc Mc2:=by
 refine ⟨fun l=>?_,⟨k.e.1.trans h.e.1,k.e.2.trans h.e.2⟩,⟨k.r.1.trans h.r.1,k.r.2.trans h.r.2⟩,⟨k.c.1.trans h.c.1,k.c.2.trans h.c.2⟩⟩
 rcases k.m l with ⟨a1,a2,a3⟩|⟨a1,a2⟩
 · rcases h.m l with ⟨b1,_,_⟩|⟨b1,b2⟩
   · rw [b1] at a3;cases a3
   · exact .inl ⟨a1,a2,by rw [← b1];exact a3⟩
 · rcases h.m l with ⟨b1,b2,b3⟩|⟨b1,b2⟩
   · exact .inl ⟨a1.trans b1,a2.trans b2,b3⟩
   · exact .inr ⟨a1.trans b1,a2.trans b2⟩
theorem Rm.del {l:Nat} {o:Obj} (h:M.m l=some o):Rm M (M.set l none) Mc (Mc.set l none):=by
 refine ⟨fun l'=>?_,⟨rfl,rfl⟩,⟨rfl,rfl⟩,⟨rfl,rfl⟩⟩
 by_cases e:l'=l
 · subst e;exact .inl ⟨by simp [Mem.set,upd],by simp [Mem.set,upd],by rw [h];rfl⟩
 · exact .inr ⟨by simp [Mem.set,upd,e],by simp [Mem.set,upd,e]⟩
theorem Zfg (h:Le M Mc) (e:Option Nat):vD Mc e=vD M e:=by cases e<;>simp [vD,h.e]
theorem ZeA (h:Le M Mc) {l v i:Nat} {j:Option Nat} {p:Bool×D} (hp:placeD M l v i j=some p):placeD Mc l v i j=some p:=by
 unfold placeD at hp ⊢
 split at hp
 · rename_i v' own sz xs hm
   rw [h.m l _ hm]
   exact hp
 · cases hp
theorem ZdW {f:AV→Mem→Option (D×Mem)} (ih:∀ a M M' Mc d,f a M=some (d,M')→Le M Mc→∃ Mc',f a Mc=some (d,Mc')∧Rm M M' Mc Mc') :
 ∀ (xs:List AV) (M M' Mc:Mem) (ds:List D),takL f xs M=some (ds,M')→Le M Mc→∃ Mc',takL f xs Mc=some (ds,Mc')∧Rm M M' Mc Mc'
 | [],M,M',Mc,ds,h,k=>by simp only [takL] at h;cases h;exact ⟨Mc,rfl,Rm.same⟩
 | x::xs,M,M',Mc,ds,h,k=>by
  simp only [takL] at h
  split at h
  case h_2=>cases h
  rename_i d M1 h1
  split at h
  case h_2=>cases h
  rename_i ds' M2 h2
  cases h
  obtain ⟨Mc1,e1,r1⟩:=ih x M M1 Mc d h1 k
  obtain ⟨Mc2,e2,r2⟩:=ZdW ih xs M1 M' Mc1 ds' h2 (r1.le k)
  exact ⟨Mc2,by simp only [takL,e1,e2],r1.trans r2⟩
theorem Zbq:∀ (n:Nat) (a:AV) (M M' Mc:Mem) (d:D),tak n a M=some (d,M')→Le M Mc→∃ Mc',tak n a Mc=some (d,Mc')∧Rm M M' Mc Mc'
 | 0,a,M,M',Mc,d,h,k=>by simp [tak] at h
 | n+1,.bad,M,M',Mc,d,h,k=>by simp [tak] at h
 | n+1,.dp _ _,M,M',Mc,d,h,k=>by simp [tak] at h
 | n+1,.clo _ _,M,M',Mc,d,h,k=>by simp [tak] at h
 | n+1,.dat (some _) _,M,M',Mc,d,h,k=>by simp [tak] at h
 | n+1,.dat none d0,M,M',Mc,d,h,k=>by
  simp only [tak] at h ⊢
  split at h
  · rename_i hs;cases h;exact ⟨Mc,by simp [hs],Rm.same⟩
  · rename_i hs
    split at h
    · rename_i hr;cases h;exact ⟨Mc,by simp [hs,hr],Rm.same⟩
    · cases h
 | n+1,.nil sz,M,M',Mc,d,h,k=>by simp only [tak] at h ⊢;cases h;exact ⟨Mc,rfl,Rm.same⟩
 | n+1,.sl l v off len sz,M,M',Mc,d,h,k=>by
  simp only [tak] at h ⊢
  split at h
  case h_2=>cases h
  rename_i v' own sz' xs hm
  split at h
  case isFalse=>cases h
  rename_i hc
  cases h
  rw [k.m l _ hm]
  simp only [hc,and_self,if_true]
  exact ⟨_,rfl,Rm.del hm⟩
 | n+1,.ref l v r i j,M,M',Mc,d,h,k=>by
  simp only [tak] at h ⊢
  split at h
  case isFalse=>cases h
  rename_i hr
  split at h
  case h_2=>cases h
  rename_i own d' hp
  split at h
  case isFalse=>cases h
  rename_i ho
  cases h
  rw [if_pos (k.rr hr),ZeA k hp]
  simp only [ho,if_true]
  have hm:∃ o,M.m l=some o:=by
   unfold placeD at hp
   split at hp
   · rename_i v' own sz xs hm;exact ⟨_,hm⟩
   · cases hp
  obtain ⟨o,hm⟩:=hm
  exact ⟨_,rfl,Rm.del hm⟩
 | n+1,.ptr l v i j,M,M',Mc,d,h,k=>by
  simp only [tak] at h ⊢
  split at h
  case h_2=>cases h
  rename_i v' x hm
  split at h
  case isFalse=>cases h
  rename_i hc
  split at h
  case h_2=>cases h
  rename_i d' M1 h1
  cases h
  have r0:Rm M (M.set l none) Mc (Mc.set l none):=Rm.del hm
  obtain ⟨Mc1,e1,r1⟩:=Zbq n x _ _ (Mc.set l none) d' h1 (r0.le k)
  rw [k.m l _ hm]
  simp only [hc,and_self,if_true,e1]
  exact ⟨_,rfl,r0.trans r1⟩
 | n+1,.agg xs,M,M',Mc,d,h,k=>by
  simp only [tak] at h ⊢
  split at h
  case h_2=>cases h
  rename_i ds M1 h1
  cases h
  obtain ⟨Mc1,e1,r1⟩:=ZdW (fun a M M' Mc d=>Zbq n a M M' Mc d) xs _ _ Mc ds h1 k
  exact ⟨Mc1,by rw [e1],r1⟩
 | n+1,.tup xs,M,M',Mc,d,h,k=>by
  simp only [tak] at h ⊢
  split at h
  case h_2=>cases h
  rename_i ds M1 h1
  cases h
  obtain ⟨Mc1,e1,r1⟩:=ZdW (fun a M M' Mc d=>Zbq n a M M' Mc d) xs _ _ Mc ds h1 k
  exact ⟨Mc1,by rw [e1],r1⟩
theorem ZoW (k:Le M Mc) (a:AV):gd Mc a=gd M a:=by cases a<;>simp [gd,Zfg k]
theorem Zja (k:Le M Mc) (a:AV):oneA Mc a=oneA M a:=by cases a<;>simp [oneA,Zfg k]
theorem Zj2 (k:Le M Mc):oneA Mc=oneA M:=funext (Zja k)
theorem ZoJ (k:Le M Mc) (a:AV):okA Mc a=okA M a:=by
 cases a with
 | agg xs=>simp only [okA,Zj2 k]
 | dat e d=>cases d<;>simp [okA,Zja k,Zj2 k,Zfg k]
 | _=>simp [okA,Zja k]
theorem Zhw (k:Le M Mc) (a:AV) (j:Option Nat):fldA Mc a j=fldA M a j:=by
 cases j with
 | none=>rfl
 | some j=>cases a with
  | dat e d=>cases d<;>simp [fldA,Zfg k]
  | _=>rfl
theorem ZpO (k:Le M Mc) (a:AV) (j:Option Nat) (y:AV):setA Mc a j y=setA M a j y:=by
 cases j with
 | none=>rfl
 | some j=>cases a with
  | dat e d=>cases d<;>simp [setA,Zfg k]
  | _=>rfl
theorem ZqG (k:Le M Mc) (own:Bool) (d:D):ldD Mc own d=ldD M own d:=by simp [ldD,k.e]
def ptrAt:AV→Nat→Bool
 | .ptr l' _ _ _,l=>l == l'
 | _,_=>false
def tgt (s:Nat→AV) (nb:Nat):I→Nat→Bool
 | .box _,l=>l == nb
 | .mks _ _ _ _ _,l=>l == nb
 | .apz _ _ _ _ _,l=>l == nb
 | .bsl fr _ _,l=>!fr&&l == nb
 | .store _ p _,l=>ptrAt (p.ev s) l
 | .app _ _ t _,l=>match t.ev s with
  | .sl l' _ _ _ _=>l == l'
  | _=>l == nb
 | .apr _ _ t _,l=>match t.ev s with
  | .ref l' _ _ _ _=>l == l'||l == nb
  | _=>false
 | .clr _ _ x,l=>match x.ev s with
  | .sl l' _ _ len _=>decide (len≠0)&&l == l'
  | _=>false
 | .cpy _ d _,l=>match d.ev s with
  | .sl l' _ _ len _=>decide (len≠0)&&l == l'
  | _=>false
 | _,_=>false
def wrt (T:Nat→Bool) (M M':Mem) (l:Nat):Bool:=((M.m l).isSome&&(M'.m l).isNone)||T l
structure Up (W:Nat→Bool) (M M' Mc Mc':Mem):Prop where
 i:∀ l,W l=true→Mc'.m l=M'.m l
 o:∀ l,W l=false→Mc'.m l=Mc.m l∧M'.m l=M.m l
 e:Mc'.e=M'.e
 r:Mc.r=M.r→Mc'.r=M'.r
 c:Mc'.c=Mc.c∧M'.c=M.c
theorem Up.same {T:Nat→Bool} (k:Le M Mc) (hT:∀ l,T l=false):Up (wrt T M M) M M Mc Mc:=by
 refine ⟨fun l h=>?_,fun l h=>⟨rfl,rfl⟩,k.e,fun h=>h,rfl,rfl⟩
 simp only [wrt,hT,Bool.or_false] at h
 cases hm:M.m l<;>rw [hm] at h<;>cases h
theorem Up.rm {T:Nat→Bool} (k:Le M Mc) (h:Rm M M' Mc Mc') (hT:∀ l,T l=false):Up (wrt T M M') M M' Mc Mc':=by
 refine ⟨fun l hw=>?_,fun l hw=>?_,by rw [h.e.1,h.e.2,k.e],fun q=>by rw [h.r.1,h.r.2,q],h.c.2,h.c.1⟩
 · simp only [wrt,hT,Bool.or_false,Bool.and_eq_true] at hw
   rcases h.m l with ⟨a1,a2,_⟩|⟨a1,a2⟩
   · rw [a1,a2]
   · rw [a1] at hw;cases hm:M.m l<;>rw [hm] at hw<;>simp at hw
 · simp only [wrt,hT,Bool.or_false] at hw
   rcases h.m l with ⟨a1,a2,a3⟩|⟨a1,a2⟩
   · rw [a1,a3] at hw;cases hw
   · exact ⟨a2,a1⟩
theorem Up.set {T:Nat→Bool} (k:Le M Mc) (h:Rm M M' Mc Mc') {l0:Nat} {o:Obj} (hT:∀ l,T l=(l == l0)):Up (wrt T M (M'.set l0 (some o))) M (M'.set l0 (some o)) Mc (Mc'.set l0 (some o)):=by
 refine ⟨fun l hw=>?_,fun l hw=>?_,by simp only [Mem.set];rw [h.e.1,h.e.2,k.e],fun q=>by simp only [Mem.set];rw [h.r.1,h.r.2,q],h.c.2,h.c.1⟩
 · by_cases e:l=l0
   · subst e;simp [Mem.set,upd]
   · simp only [wrt,hT,Mem.set,upd,e,if_false,beq_eq_false_iff_ne.2 e,Bool.or_false,Bool.and_eq_true] at hw ⊢
     rcases h.m l with ⟨a1,a2,_⟩|⟨a1,a2⟩
     · rw [a1,a2]
     · rw [a1] at hw;cases hm:M.m l<;>rw [hm] at hw<;>simp at hw
 · by_cases e:l=l0
   · subst e;simp [wrt,hT] at hw
   · simp only [wrt,hT,Mem.set,upd,e,if_false,beq_eq_false_iff_ne.2 e,Bool.or_false] at hw ⊢
     rcases h.m l with ⟨a1,a2,a3⟩|⟨a1,a2⟩
     · rw [a1,a3] at hw;cases hw
     · exact ⟨a2,a1⟩
theorem Up.tickR {W:Nat→Bool} (h:Up W M M' Mc Mc'):Up W M M'.tickR Mc Mc'.tickR:=⟨h.i,h.o,h.e,fun q=>by simp only [Mem.tickR];rw [h.r q],h.c⟩
theorem Zdz {sz:Nat} {a:AV} {own:Bool} {ys:List D} (h:mvE M sz a=some (own,ys,M')) (k:Le M Mc):∃ Mc',mvE Mc sz a=some (own,ys,Mc')∧Rm M M' Mc Mc':=by
 unfold mvE at h ⊢
 split at h
 · split at h
   · rename_i hz;cases h;exact ⟨Mc,by simp [hz],Rm.same⟩
   · cases h
 · rename_i e d
   split at h
   case h_2=>cases h
   rename_i sz' ys' hl
   split at h
   case isFalse=>cases h
   rename_i hz
   simp only [hl,hz,if_true,Zfg k]
   split at h
   · rename_i hall
     split at h
     · rename_i hv;cases h;exact ⟨Mc,by simp [hall,hv],Rm.same⟩
     · cases h
   · rename_i hall
     split at h
     · rename_i hv;cases h;exact ⟨Mc,by simp [hall,hv],Rm.same⟩
     · cases h
 · rename_i l v off len sz'
   split at h
   case h_2=>cases h
   rename_i v' own' sz'' xs hm
   split at h
   case isFalse=>cases h
   rename_i hc
   rw [k.m l _ hm]
   simp only [hc,and_self,if_true]
   split at h
   · rename_i hall;cases h;exact ⟨Mc,by simp [hall],Rm.same⟩
   · rename_i hall;cases h;exact ⟨Mc.set l none,by simp [hall],Rm.del hm⟩
 · cases h
theorem Ziu {sz:Nat} {a:AV} {ys:List D} (h:plO M sz a=some ys) (k:Le M Mc):plO Mc sz a=some ys:=by
 unfold plO at h
 split at h
 · rename_i own ys' M1 hm
   obtain ⟨Mc',e,_⟩:=Zdz hm k
   unfold plO
   rw [e]
   exact h
 · cases h
theorem ZfG {l v sz off:Nat} {ys:List D} {M2:Mem} (h:stpWr M l v sz off ys=some M2) (k:Le M Mc) {T:Nat→Bool} (hT:∀ i,T i=(i == l)):∃ Mc2,stpWr Mc l v sz off ys=some Mc2∧Up (wrt T M M2) M M2 Mc Mc2:=by
 unfold stpWr at h
 split at h
 · rename_i v' own sz' xs hm
   split at h
   · rename_i hc
     cases h
     unfold stpWr
     rw [k.m l _ hm]
     exact ⟨_,if_pos hc,(Up.set k Rm.same hT).tickR⟩
   · cases h
 · cases h
theorem Zhj {h:Bool} {p a:AV} (hl:stpLoad M h p=some a) (k:Le M Mc):stpLoad Mc h p=some a:=by
 unfold stpLoad at hl ⊢
 split at hl
 · rename_i l v i j
   split at hl
   · rename_i v' own sz xs hm
     rw [k.m l _ hm]
     simp only [ZqG k]
     cases h with
     | false=>exact hl
     | true =>
      rcases k.r with k0|k0
      · simp [k0] at hl
      · rw [k0];exact hl
   · rename_i v' x hm
     rw [k.m l _ hm]
     simp only [Zhw k]
     exact hl
   · cases hl
 · exact hl
 · cases hl
theorem ZhQ {p a:AV} (hl:stpLen M p=some a) (k:Le M Mc):stpLen Mc p=some a:=by
 unfold stpLen at hl ⊢
 split at hl
 · exact hl
 · simp only [Zfg k];exact hl
 · exact hl
 · split at hl
   case isFalse=>cases hl
   rename_i hr
   rw [if_pos (k.rr hr)]
   split at hl
   · rename_i hp;rw [ZeA k hp];exact hl
   · cases hl
 · cases hl
theorem Ziv {sz:Nat} {p a:AV} {i:Int} (hl:stpIad M sz p i=some a) (k:Le M Mc):stpIad Mc sz p i=some a:=by
 unfold stpIad at hl ⊢
 split at hl
 · exact hl
 · simp only [Zfg k];exact hl
 · split at hl
   case isFalse=>cases hl
   rename_i hr
   rw [if_pos (k.rr hr)]
   split at hl
   · rename_i hp;rw [ZeA k hp,k.e];exact hl
   · cases hl
 · cases hl
theorem ZiC {sz:Nat} {p a:AV} {lo hi:Option Int} (hl:stpSlc M sz p lo hi=some a) (k:Le M Mc):stpSlc Mc sz p lo hi=some a:=by
 unfold stpSlc at hl ⊢
 split at hl
 · exact hl
 · simp only [Zfg k];exact hl
 · exact hl
 · cases hl
theorem Zgv {n:Nat} {p a:AV} {T:Nat→Bool} (hs:stpStore M n p a=some M') (k:Le M Mc) (hT:∀ l,T l=ptrAt p l) :
 ∃ Mc',stpStore Mc n p a=some Mc'∧Up (wrt T M M') M M' Mc Mc':=by
 unfold stpStore at hs ⊢
 rw [ZoJ k]
 split at hs
 · cases hs
 rename_i hc
 simp only [hc,if_false,Bool.false_eq_true]
 cases p with
 | ptr l v i j=>?_
 | _=>simp at hs
 simp only [ptrAt] at hT hs ⊢
 split at hs
 · rename_i v' x hm
   rw [k.m l _ hm]
   simp only [ZoW k,Zhw k,ZpO k]
   split at hs
   · rename_i hc2
     simp only [hc2,and_self,if_true]
     split at hs
     · rename_i y x' h1 h2
       split at hs
       · rename_i hn
         cases hs
         simp only [hn,if_true]
         exact ⟨_,rfl,Up.set k Rm.same hT⟩
       · cases hs
     · cases hs
   · cases hs
 · rename_i v0 own0 sz0 xs0 hm0
   rw [k.m l _ hm0]
   simp only
   split at hs
   case h_2=>cases hs
   rename_i d M1 ht
   obtain ⟨Mc1,e1,r1⟩:=Zbq 8 a M M1 Mc d ht k
   rw [e1]
   simp only
   split at hs
   case h_2=>cases hs
   rename_i v' own sz xs hm
   rw [(r1.le k).m l _ hm]
   simp only
   split at hs
   case isFalse=>cases hs
   rename_i hv
   simp only [hv,if_true]
   split at hs
   case h_2=>cases hs
   rename_i x hx
   rw [hv] at *
   skip
   split at hs
   case h_2=>cases hs
   rename_i y x' h1 h2
   skip
   split at hs
   case isFalse=>cases hs
   rename_i hn
   cases hs
   simp only [hn,and_self,if_true]
   exact ⟨_,rfl,(Up.set k r1 hT).tickR⟩
 · cases hs
end
end Go.Vm
namespace Go.Vm
open Go
set_option linter.unusedSimpArgs false
set_option linter.unusedVariables false
section
variable {M M' Mc:Mem} {s:Nat→AV} {nb ib:Nat} {a:AV}
theorem keepK {f:Mem→Option AV} {T:Nat→Bool} (hT:∀ l,T l=false) (k:Le M Mc) (hf:∀ x,f M=some x→f Mc=some x) (h:(f M).map (·,M)=some (a,M')) :
 ∃ Mc',(f Mc).map (·,Mc)=some (a,Mc')∧Up (wrt T M M') M M' Mc Mc':=by
 cases hq:f M with
 | none=>rw [hq] at h;cases h
 | some x =>
  rw [hq] at h
  cases h
  exact ⟨Mc,by rw [hf _ hq];rfl,Up.same k hT⟩
theorem Zhq {sz l v r i:Nat} {j:Option Nat} (h:takeOut M nb ib sz l v r i j=some (a,M')) (k:Le M Mc) :
 ∃ Mc' n,takeOut Mc nb ib sz l v r i j=some (a,Mc')∧Le M' Mc'∧a=.sl nb (ib+1) 0 n sz∧M'.r=M.r+1∧Mc'.r=Mc.r+1∧Mc.r=M.r∧M'.e=M.e+1∧M'.c=M.c∧Mc'.c=Mc.c ∧
  (∀ l',l'≠l→l'≠nb→M'.m l'=M.m l'∧Mc'.m l'=Mc.m l')∧((M'.m l).isSome=true∧Mc'.m l=M'.m l)∧((M'.m nb).isSome=true∧Mc'.m nb=M'.m nb):=by
 unfold takeOut at h ⊢
 split at h
 case isFalse=>cases h
 rename_i hr
 rw [if_pos (k.rr hr)]
 split at h
 case h_2=>cases h
 rename_i v' own sz' xs hm
 rw [k.m l _ hm]
 dsimp only
 split at h
 case isFalse=>cases h
 rename_i hv
 rw [if_pos hv]
 split at h
 case h_2=>cases h
 rename_i x hx
 split at h
 case h_2=>cases h
 rename_i s2 ys x' hf hset
 split at h
 case isFalse=>cases h
 rename_i hsz
 rw [if_pos hsz]
 cases h
 have hrr:Mc.r=M.r:=by
  rcases k.r with k|k
  · exact absurd (hr.1.trans k) hr.2
  · exact k
 refine ⟨_,_,rfl,⟨fun l' o ho=>?_,by simp [Mem.set,Mem.tick,Mem.tickR,k.e],.inr (by simp [Mem.set,Mem.tick,Mem.tickR,hrr])⟩,rfl,rfl,rfl,hrr,rfl,rfl,rfl,fun l' h1 h2=>by simp [Mem.set,Mem.tick,Mem.tickR,upd,h1,h2],?_,by simp [Mem.set,Mem.tick,Mem.tickR,upd]⟩
 · simp only [Mem.set,Mem.tick,Mem.tickR,upd] at ho ⊢
   split at ho
   · rename_i e;rw [if_pos e];exact ho
   · rename_i e
     rw [if_neg e]
     split at ho
     · rename_i e2;rw [if_pos e2];exact ho
     · rename_i e2;rw [if_neg e2];exact k.m _ _ ho
 · by_cases e:l=nb
   · subst e;simp [Mem.set,Mem.tick,Mem.tickR,upd]
   · simp [Mem.set,Mem.tick,Mem.tickR,upd,e]
theorem ZhT {sz bytes:Nat} {sa xa:AV} (h:stpApr M nb ib sz bytes sa xa=some (a,M')) (k:Le M Mc) {T:Nat→Bool} (hT:∀ l v r i j,sa=.ref l v r i j→∀ l',T l'=(l' == l||l' == nb)) :
 ∃ Mc',stpApr Mc nb ib sz bytes sa xa=some (a,Mc')∧Up (wrt T M M') M M' Mc Mc':=by
 unfold stpApr at h ⊢
 split at h
 case h_2=>cases h
 rename_i l v r i j
 have hT:=hT l v r i j rfl
 split at h
 case h_2=>cases h
 rename_i a1 M1 hto
 obtain ⟨Mc1,n,e1,k1,ea,r1,r2,r3,e2,c1,c2,q1,q2,q3⟩:=Zhq hto k
 try dsimp only
 rw [e1]
 dsimp only
 subst ea
 unfold stpApp at h ⊢
 split at h
 case h_2=>cases h
 rename_i own ys M2 hm
 obtain ⟨Mc2,e3,r4⟩:=Zdz hm k1
 rw [e3]
 dsimp only at h ⊢
 split at h
 case h_2=>cases h
 rename_i v' own' sz'' xs hm1
 rw [(r4.le k1).m nb _ hm1]
 dsimp only
 split at h
 case isFalse=>cases h
 rename_i hc
 rw [if_pos hc]
 cases h
 have old:∀ l',l'≠nb→(M2.set nb (some (.arr ib (own'&&own) sz ((xs.drop 0).take n++ys)))).m l'=M2.m l':=fun l' h=>by simp [Mem.set,upd,h]
 have old2:∀ l',l'≠nb→(Mc2.set nb (some (.arr ib (own'&&own) sz ((xs.drop 0).take n++ys)))).m l'=Mc2.m l':=fun l' h=>by simp [Mem.set,upd,h]
 refine ⟨_,rfl,fun l' hw=>?_,fun l' hw=>?_,?_,fun _=>?_,?_⟩
 · by_cases en:l'=nb
   · subst en;simp [Mem.set,upd]
   · rw [old _ en,old2 _ en]
     rcases r4.m l' with ⟨a1,a2,_⟩|⟨a1,a2⟩
     · rw [a1,a2]
     · rw [a1,a2]
       by_cases el:l'=l
       · subst el;exact q2.2
       · simp only [wrt,hT,old _ en,beq_eq_false_iff_ne.2 en,beq_eq_false_iff_ne.2 el,Bool.or_false,Bool.and_eq_true] at hw
         rw [a1,(q1 l' el en).1] at hw
         cases hq:M.m l'<;>rw [hq] at hw<;>simp at hw
 · simp only [wrt,hT,Bool.or_eq_false_iff,beq_eq_false_iff_ne] at hw
   obtain ⟨hw,el,en⟩:=hw
   rw [old _ en] at hw
   rw [old _ en,old2 _ en]
   rcases r4.m l' with ⟨a1,a2,a3⟩|⟨a1,a2⟩
   · rw [(q1 l' el en).1] at a3
     rw [a1,a3] at hw;cases hw
   · rw [a1,a2];exact ⟨(q1 l' el en).2,(q1 l' el en).1⟩
 · simp only [Mem.set];rw [r4.e.1,r4.e.2,k1.e]
 · simp only [Mem.set];rw [r4.r.1,r4.r.2,r1,r2,r3]
 · simp only [Mem.set];exact ⟨r4.c.2.trans c2,r4.c.1.trans c1⟩
theorem Zh8 (i:I) (h:stp s M nb ib i=some (a,M')) (k:Le M Mc):∃ Mc',stp s Mc nb ib i=some (a,Mc')∧Up (wrt (tgt s nb i) M M') M M' Mc Mc':=by
 cases i with
 | mv x=>simp only [stp] at h ⊢;cases h;exact ⟨Mc,rfl,Up.same k fun _=>rfl⟩
 | pick c x y =>
  simp only [stp] at h ⊢
  cases hb:asB (c.ev s) with
  | none=>rw [hb] at h;cases h
  | some t=>rw [hb] at h;cases h;exact ⟨Mc,rfl,Up.same k fun _=>rfl⟩
 | box x =>
  simp only [stp] at h ⊢
  split at h
  · cases h
  · rename_i hb
    cases h
    exact ⟨_,by simp only [hb,if_false,Bool.false_eq_true],Up.set k Rm.same fun _=>rfl⟩
 | bld xs =>
  simp only [stp] at h ⊢
  simp only [ZoW k]
  split at h
  · rename_i hb
    cases h
    exact ⟨Mc,by simp [hb],Up.same k fun _=>rfl⟩
  · cases h
 | bsl fr sz xs =>
  simp only [stp] at h ⊢
  split at h
  case h_2=>cases h
  rename_i ds M1 ht
  obtain ⟨Mc1,e1,r1⟩:=ZdW (fun a M M' Mc d=>Zbq 8 a M M' Mc d) _ _ _ Mc ds ht k
  rw [e1]
  simp only [ZoJ k]
  split at h
  case isFalse=>cases h
  rename_i hc
  rw [if_pos hc]
  cases fr with
  | true =>
   simp only [if_true] at h ⊢
   split at h
   · rename_i hall
     cases h
     rw [if_pos hall]
     exact ⟨Mc1,rfl,Up.rm k r1 fun _=>rfl⟩
   · cases h
  | false =>
   simp only [Bool.false_eq_true,if_false] at h ⊢
   cases h
   exact ⟨_,rfl,Up.set k r1 fun l=>by simp [tgt]⟩
 | load hh ag n p =>
  simp only [stp] at h ⊢
  split at h
  case h_2=>cases h
  rename_i x hx
  rw [Zhj hx k]
  simp only [ZoW k]
  split at h
  · rename_i hc
    cases h
    exact ⟨Mc,by rw [if_pos hc],Up.same k fun _=>rfl⟩
  · cases h
 | store n p v =>
  simp only [stp] at h ⊢
  cases hq:stpStore M n (p.ev s) (v.ev s) with
  | none=>rw [hq] at h;cases h
  | some M2 =>
   rw [hq] at h
   simp only [Option.map_some,Option.some.injEq,Prod.mk.injEq] at h
   obtain ⟨rfl,rfl⟩:=h
   obtain ⟨Mc',e1,u1⟩:=Zgv (T:=tgt s nb (.store n p v)) hq k (fun l=>by simp only [tgt])
   exact ⟨Mc',by rw [e1];rfl,u1⟩
 | bin op x y =>
  simp only [stp] at h ⊢
  split at h
  · exact keepK (f:=fun _=>(dbin op _ _).map fun d=>AV.dat none d) (fun _=>rfl) k (fun _ h=>h) (by simpa [Option.map_map,Function.comp_def] using h) |>.imp fun _ h=>⟨by simpa [Option.map_map,Function.comp_def] using h.1,h.2⟩
  · cases h
 | eqb neg x y =>
  simp only [stp] at h ⊢
  split at h
  · cases h;exact ⟨Mc,rfl,Up.same k fun _=>rfl⟩
  · cases h
 | eqn neg x =>
  simp only [stp] at h ⊢
  split at h
  · cases h;exact ⟨Mc,rfl,Up.same k fun _=>rfl⟩
  · cases h;exact ⟨Mc,rfl,Up.same k fun _=>rfl⟩
  · cases h
 | eqag n neg x y =>
  simp only [stp] at h ⊢
  split at h
  · rename_i p q hp hq
    split at h
    · rename_i hc
      rw [if_pos hc]
      cases he:eqL p q with
      | none=>rw [he] at h;cases h
      | some t=>rw [he] at h;cases h;exact ⟨Mc,rfl,Up.same k fun _=>rfl⟩
    · cases h
  · cases h
 | eqnil neg x =>
  simp only [stp] at h ⊢
  split at h<;>first|(cases h;exact ⟨Mc,rfl,Up.same k fun _=>rfl⟩)|cases h
 | un op x =>
  simp only [stp] at h ⊢
  split at h
  · exact keepK (f:=fun _=>(dun op _).map fun d=>AV.dat none d) (fun _=>rfl) k (fun _ h=>h) (by simpa [Option.map_map,Function.comp_def] using h) |>.imp fun _ h=>⟨by simpa [Option.map_map,Function.comp_def] using h.1,h.2⟩
  · cases h
 | mkf f caps=>simp only [stp] at h ⊢;cases h;exact ⟨Mc,rfl,Up.same k fun _=>rfl⟩
 | mks sz bytes z l c =>
  simp only [stp] at h ⊢
  split at h
  · split at h
    · rename_i hc
      cases h
      exact ⟨_,by rw [if_pos hc],Up.set k Rm.same fun _=>rfl⟩
    · cases h
  · cases h
 | apz sz bytes z x n =>
  simp only [stp] at h ⊢
  split at h
  · split at h
    · rename_i hc
      cases h
      exact ⟨_,by rw [if_pos hc],Up.set k Rm.same fun _=>rfl⟩
    · cases h
  · cases h
 | slc sz x lo hi =>
  simp only [stp] at h ⊢
  split at h
  · exact keepK (f:=fun M=>stpSlc M sz (x.ev s) _ _) (fun _=>rfl) k (fun _ h=>ZiC h k) h
  · cases h
 | sls x lo hi =>
  simp only [stp] at h ⊢
  split at h
  · exact keepK (f:=fun _=>stpSls (x.ev s) _ _) (fun _=>rfl) k (fun _ h=>h) h
  · cases h
 | fad j x =>
  simp only [stp] at h ⊢
  split at h
  · cases h;exact ⟨Mc,rfl,Up.same k fun _=>rfl⟩
  · rw [Zfg k]
    split at h
    · rename_i hv
      split at h
      · split at h
        · cases h
        · rename_i ha
          cases h
          exact ⟨Mc,by simp [hv, *],Up.same k fun _=>rfl⟩
      · cases h
    · cases h
  · cases h
 | iad sz x y =>
  simp only [stp] at h ⊢
  cases hi:asI (y.ev s) with
  | none=>rw [hi] at h;cases h
  | some n =>
   rw [hi] at h
   simp only [Option.bind_some] at h ⊢
   exact keepK (f:=fun M=>stpIad M sz (x.ev s) n) (fun _=>rfl) k (fun _ h=>Ziv h k) h
 | ids x y =>
  simp only [stp] at h ⊢
  split at h
  · cases hi:asI (y.ev s) with
    | none=>rw [hi] at h;cases h
    | some n =>
     rw [hi] at h
     simp only [Option.bind_some] at h ⊢
     split at h
     · rename_i hc
       cases h
       exact ⟨Mc,by rw [dif_pos hc],Up.same k fun _=>rfl⟩
     · cases h
  · cases h
 | ext j x =>
  simp only [stp] at h ⊢
  by_cases hj:1000≤j
  · rw [if_pos hj] at h ⊢
    rw [Zhw k]
    split at h
    · split at h
      · cases h
      · rename_i hb
        cases h
        exact ⟨Mc,by simp [hb, *],Up.same k fun _=>rfl⟩
    · cases h
  rw [if_neg hj] at h ⊢
  split at h
  · split at h
    · split at h
      · cases h
      · rename_i hb
        cases h
        exact ⟨Mc,by simp [hb, *],Up.same k fun _=>rfl⟩
    · cases h
  · rw [Zfg k]
    split at h
    · rename_i hv
      rename_i e ds ee
      cases hj:ds[j]? with
      | none=>rw [hj] at h;cases h
      | some d =>
       rw [hj] at h
       cases h
       exact ⟨Mc,by simp [hv],Up.same k fun _=>rfl⟩
    · cases h
  · cases h
 | len x =>
  simp only [stp] at h ⊢
  exact keepK (f:=fun M=>stpLen M (x.ev s)) (fun _=>rfl) k (fun _ h=>ZhQ h k) h
 | capn x =>
  simp only [stp] at h ⊢
  split at h
  · cases h;exact ⟨Mc,rfl,Up.same k fun _=>rfl⟩
  · cases h
 | lens x =>
  simp only [stp] at h ⊢
  split at h
  · cases h;exact ⟨Mc,rfl,Up.same k fun _=>rfl⟩
  · cases h
 | app sz bytes t x =>
  simp only [stp,stpApp] at h ⊢
  split at h
  case h_2=>cases h
  rename_i own ys M1 hm
  obtain ⟨Mc1,e1,r1⟩:=Zdz hm k
  rw [e1]
  simp only
  cases ht:t.ev s with
  | nil sz' =>
   rw [ht] at h
   simp only at h ⊢
   split at h
   · rename_i hc
     cases h
     rw [if_pos hc]
     exact ⟨_,rfl,Up.set k r1 fun l=>by simp [tgt,ht]⟩
   · cases h
  | sl l v off len sz' =>
   rw [ht] at h
   simp only at h ⊢
   split at h
   case h_2=>cases h
   rename_i v' own' sz'' xs hm1
   rw [(r1.le k).m l _ hm1]
   simp only
   split at h
   · rename_i hc
     cases h
     rw [if_pos hc]
     exact ⟨_,rfl,Up.set k r1 fun l=>by simp [tgt,ht]⟩
   · cases h
  | _=>rw [ht] at h;simp at h
 | apr sz bytes t x =>
  simp only [stp] at h ⊢
  exact ZhT h k fun l v r i j e l'=>by simp only [tgt,e]
 | mnx mx x y =>
  simp only [stp] at h ⊢
  split at h
  · cases h;exact ⟨Mc,rfl,Up.same k fun _=>rfl⟩
  · cases h
 | cnv kd x =>
  simp only [stp] at h ⊢
  split at h
  · cases h;exact ⟨Mc,rfl,Up.same k fun _=>rfl⟩
  · cases h
 | no=>simp only [stp] at h;cases h
 | nck x =>
  simp only [stp] at h ⊢
  split at h
  · cases h;exact ⟨Mc,rfl,Up.same k fun _=>rfl⟩
  · cases h;exact ⟨Mc,rfl,Up.same k fun _=>rfl⟩
  · cases h
 | b2s x =>
  simp only [stp] at h ⊢
  split at h
  · rename_i ys hy
    rw [Ziu hy k]
    cases hb:bytesOf ys with
    | none=>rw [hb] at h;cases h
    | some b=>rw [hb] at h;cases h;exact ⟨Mc,by simp [hb],Up.same k fun _=>rfl⟩
  · cases h
 | clr sz z x =>
  simp only [stp] at h ⊢
  cases hx:x.ev s with
  | nil sz' =>
   rw [hx] at h
   simp only at h ⊢
   split at h
   · rename_i hc;cases h;exact ⟨Mc,by rw [if_pos hc],Up.same k fun l=>by simp [tgt,hx]⟩
   · cases h
  | sl l v off len sz' =>
   rw [hx] at h
   simp only at h ⊢
   split at h
   · rename_i h0;cases h;exact ⟨Mc,if_pos h0,Up.same k fun i=>by simp [tgt,hx,h0]⟩
   rename_i h0
   rw [if_neg h0]
   split at h
   · rename_i hc
     cases hw:stpWr M l v sz off (List.replicate len z) with
     | none=>rw [hw] at h;cases h
     | some M2 =>
      rw [hw] at h
      cases h
      obtain ⟨Mc2,e1,u1⟩:=ZfG (T:=tgt s nb (.clr sz z x)) hw k fun i=>by simp [tgt,hx,h0]
      exact ⟨Mc2,by rw [if_pos hc,e1];rfl,u1⟩
   · cases h
  | _=>rw [hx] at h;cases h
 | cpy sz d x =>
  simp only [stp] at h ⊢
  cases hd:d.ev s with
  | sl l v off len sz' =>
   rw [hd] at h
   cases hy:plO M sz (x.ev s) with
   | none=>rw [hy] at h;cases h
   | some ys =>
    rw [hy] at h
    rw [Ziu hy k]
    simp only at h ⊢
    split at h
    · rename_i h0;cases h;exact ⟨Mc,if_pos h0,Up.same k fun i=>by simp [tgt,hd,h0]⟩
    rename_i h0
    rw [if_neg h0]
    split at h
    · rename_i hc
      cases hw:stpWr M l v sz off (ys.take len) with
      | none=>rw [hw] at h;cases h
      | some M2 =>
       rw [hw] at h
       cases h
       obtain ⟨Mc2,e1,u1⟩:=ZfG (T:=tgt s nb (.cpy sz d x)) hw k fun i=>by simp [tgt,hd,h0]
       exact ⟨Mc2,by rw [if_pos hc,e1];rfl,u1⟩
    · cases h
  | _=>rw [hd] at h;cases hq:plO M sz (x.ev s)<;>simp [hq] at h
def zk:I→Bool
 | .mv _|.pick _ _ _|.bin _ _ _|.eqb _ _ _|.eqn _ _|.eqag _ _ _ _|.eqnil _ _|.un _ _|.mkf _ _|.sls _ _ _|.ids _ _|.lens _|.capn _|.mnx _ _ _|.cnv _ _|.nck _|.no=>true
 | _=>false
theorem Zm3 {i:I} (hz:zk i=true) (h:stp s M nb ib i=some (a,M')) (M2:Mem):M'=M∧stp s M2 nb ib i=some (a,M2):=by
 have key:∀ (f:Option AV),f.map (·,M)=some (a,M')→M'=M∧f.map (·,M2)=some (a,M2):=by
  intro f hf
  cases f with
  | none=>cases hf
  | some x=>simp at hf;obtain ⟨rfl,rfl⟩:=hf;exact ⟨rfl,rfl⟩
 cases i<;>simp [zk] at hz<;>simp only [stp] at h ⊢
 case mv=>exact key (some _) h
 case pick c x y =>
  cases hb:asB (c.ev s) with
  | none=>rw [hb] at h;cases h
  | some t=>rw [hb] at h;exact key (some _) h
 case bin op x y =>
  split at h
  · have:=key ((dbin op _ _).map fun d=>AV.dat none d) (by simpa [Option.map_map,Function.comp_def] using h);simpa [Option.map_map,Function.comp_def] using this
  · cases h
 case eqb => split at h
             · exact key (some _) h
             · cases h
 case eqn => split at h
             · exact key (some _) h
             · exact key (some _) h
             · cases h
 case eqag n neg x y =>
  split at h
  · rename_i p q hp hq
    split at h
    · rename_i hc
      rw [if_pos hc]
      cases he:eqL p q with
      | none=>rw [he] at h;cases h
      | some t=>rw [he] at h;exact key (some _) h
    · cases h
  · cases h
 case eqnil => split at h
               · exact key (some _) h
               · exact key (some _) h
               · exact key (some _) h
               · exact key (some _) h
               · exact key (some _) h
               · cases h
 case un op x =>
  split at h
  · have:=key ((dun op _).map fun d=>AV.dat none d) (by simpa [Option.map_map,Function.comp_def] using h);simpa [Option.map_map,Function.comp_def] using this
  · cases h
 case mkf=>exact key (some _) h
 case sls => split at h
             · exact key _ h
             · cases h
 case ids x y =>
  split at h
  · cases hi:asI (y.ev s) with
    | none=>rw [hi] at h;cases h
    | some n =>
     rw [hi] at h
     simp only [Option.bind_some] at h ⊢
     split at h
     · rename_i hc;rw [dif_pos hc];exact key (some _) h
     · cases h
  · cases h
 case capn => split at h
              · exact key (some _) h
              · cases h
 case lens => split at h
              · exact key (some _) h
              · cases h
 case mnx => split at h
             · exact key (some _) h
             · cases h
 case cnv => split at h
             · exact key (some _) h
             · cases h
 case nck => split at h
             · exact key (some _) h
             · exact key (some _) h
             · cases h
 case no=>cases h
end
end Go.Vm
namespace Go.Vm
open Go
set_option linter.unusedSimpArgs false
set_option linter.unusedVariables false
def X.us:X→List Nat
 | .t n=>[n]
 | .k _=>[]
def oX:Option X→List Nat
 | some x=>x.us
 | none=>[]
def I.us:I→List Nat
 | .mv x|.box x|.load _ _ _ x|.eqn _ x|.eqnil _ x|.un _ x|.fad _ x|.ext _ x|.len x|.lens x|.capn x|.cnv _ x|.nck x|.b2s x|.clr _ _ x=>x.us
 | .no=>[]
 | .pick c a b=>c.us++a.us++b.us
 | .bld xs|.bsl _ _ xs|.mkf _ xs=>(xs.map X.us).flatten
 | .store _ p v=>p.us++v.us
 | .bin _ x y|.eqb _ x y|.eqag _ _ x y|.iad _ x y|.ids x y|.app _ _ x y|.apr _ _ x y|.mnx _ x y|.cpy _ x y=>x.us++y.us
 | .mks _ _ _ l c|.apz _ _ _ l c=>l.us++c.us
 | .slc _ x lo hi|.sls x lo hi=>x.us++oX lo++oX hi
section
variable {M:Mem} {s s':Nat→AV} {nb ib:Nat}
theorem X.ev_cong {x:X} (h:∀ t∈x.us,s t=s' t):x.ev s=x.ev s':=by
 cases x with
 | t n=>exact h n (by simp [X.us])
 | k a=>rfl
theorem Zha {xs:List X} (h:∀ t∈(xs.map X.us).flatten,s t=s' t):xs.map (X.ev s)=xs.map (X.ev s') :=
 List.map_congr_left fun x hx=>X.ev_cong fun t ht=>h t (List.mem_flatten.2 ⟨x.us,List.mem_map_of_mem hx,ht⟩)
theorem ZfC {x:Option X} (h:∀ t∈oX x,s t=s' t):opI s x=opI s' x:=by
 cases x with
 | none=>rfl
 | some x=>simp only [opI];rw [X.ev_cong h]
theorem Zkk {i:I} (h:∀ t∈i.us,s t=s' t):stp s M nb ib i=stp s' M nb ib i∧∀ l,tgt s nb i l=tgt s' nb i l:=by
 have l1:∀ {A B:List Nat},(∀ t∈A++B,s t=s' t)→(∀ t∈A,s t=s' t)∧∀ t∈B,s t=s' t:=fun h=>⟨fun t ht=>h t (List.mem_append_left _ ht),fun t ht=>h t (List.mem_append_right _ ht)⟩
 cases i<;>simp only [I.us] at h<;>simp only [stp,tgt]
 case mv x=>rw [X.ev_cong h];first|exact ⟨rfl,fun _=>rfl⟩|exact ⟨rfl,fun _=>trivial⟩|exact ⟨rfl,trivial⟩
 case box x=>rw [X.ev_cong h];first|exact ⟨rfl,fun _=>rfl⟩|exact ⟨rfl,fun _=>trivial⟩|exact ⟨rfl,trivial⟩
 case load x=>rw [X.ev_cong h];first|exact ⟨rfl,fun _=>rfl⟩|exact ⟨rfl,fun _=>trivial⟩|exact ⟨rfl,trivial⟩
 case eqn x=>rw [X.ev_cong h];first|exact ⟨rfl,fun _=>rfl⟩|exact ⟨rfl,fun _=>trivial⟩|exact ⟨rfl,trivial⟩
 case eqnil x=>rw [X.ev_cong h];first|exact ⟨rfl,fun _=>rfl⟩|exact ⟨rfl,fun _=>trivial⟩|exact ⟨rfl,trivial⟩
 case un x=>rw [X.ev_cong h];first|exact ⟨rfl,fun _=>rfl⟩|exact ⟨rfl,fun _=>trivial⟩|exact ⟨rfl,trivial⟩
 case fad x=>rw [X.ev_cong h];first|exact ⟨rfl,fun _=>rfl⟩|exact ⟨rfl,fun _=>trivial⟩|exact ⟨rfl,trivial⟩
 case ext x=>rw [X.ev_cong h];first|exact ⟨rfl,fun _=>rfl⟩|exact ⟨rfl,fun _=>trivial⟩|exact ⟨rfl,trivial⟩
 case len x=>rw [X.ev_cong h];first|exact ⟨rfl,fun _=>rfl⟩|exact ⟨rfl,fun _=>trivial⟩|exact ⟨rfl,trivial⟩
 case capn x=>rw [X.ev_cong h];first|exact ⟨rfl,fun _=>rfl⟩|exact ⟨rfl,fun _=>trivial⟩|exact ⟨rfl,trivial⟩
 case lens x=>rw [X.ev_cong h];first|exact ⟨rfl,fun _=>rfl⟩|exact ⟨rfl,fun _=>trivial⟩|exact ⟨rfl,trivial⟩
 case cnv x=>rw [X.ev_cong h];first|exact ⟨rfl,fun _=>rfl⟩|exact ⟨rfl,fun _=>trivial⟩|exact ⟨rfl,trivial⟩
 case nck x=>rw [X.ev_cong h];first|exact ⟨rfl,fun _=>rfl⟩|exact ⟨rfl,fun _=>trivial⟩|exact ⟨rfl,trivial⟩
 case b2s x=>rw [X.ev_cong h];first|exact ⟨rfl,fun _=>rfl⟩|exact ⟨rfl,fun _=>trivial⟩|exact ⟨rfl,trivial⟩
 case clr x=>rw [X.ev_cong h];first|exact ⟨rfl,fun _=>rfl⟩|exact ⟨rfl,fun _=>trivial⟩|exact ⟨rfl,trivial⟩
 case cpy x y=>rw [X.ev_cong (l1 h).1,X.ev_cong (l1 h).2];first|exact ⟨rfl,fun _=>rfl⟩|exact ⟨rfl,fun _=>trivial⟩|exact ⟨rfl,trivial⟩
 case no=>simp
 case pick c a b=>rw [X.ev_cong (l1 (l1 h).1).1,X.ev_cong (l1 (l1 h).1).2,X.ev_cong (l1 h).2];first|exact ⟨rfl,fun _=>rfl⟩|exact ⟨rfl,fun _=>trivial⟩|exact ⟨rfl,trivial⟩
 case bld xs=>rw [Zha h];first|exact ⟨rfl,fun _=>rfl⟩|exact ⟨rfl,fun _=>trivial⟩|exact ⟨rfl,trivial⟩
 case bsl xs=>rw [Zha h];first|exact ⟨rfl,fun _=>rfl⟩|exact ⟨rfl,fun _=>trivial⟩|exact ⟨rfl,trivial⟩
 case mkf xs=>rw [Zha h];first|exact ⟨rfl,fun _=>rfl⟩|exact ⟨rfl,fun _=>trivial⟩|exact ⟨rfl,trivial⟩
 case store p v=>rw [X.ev_cong (l1 h).1,X.ev_cong (l1 h).2];first|exact ⟨rfl,fun _=>rfl⟩|exact ⟨rfl,fun _=>trivial⟩|exact ⟨rfl,trivial⟩
 case bin x y=>rw [X.ev_cong (l1 h).1,X.ev_cong (l1 h).2];first|exact ⟨rfl,fun _=>rfl⟩|exact ⟨rfl,fun _=>trivial⟩|exact ⟨rfl,trivial⟩
 case eqb x y=>rw [X.ev_cong (l1 h).1,X.ev_cong (l1 h).2];first|exact ⟨rfl,fun _=>rfl⟩|exact ⟨rfl,fun _=>trivial⟩|exact ⟨rfl,trivial⟩
 case eqag x y=>rw [X.ev_cong (l1 h).1,X.ev_cong (l1 h).2];first|exact ⟨rfl,fun _=>rfl⟩|exact ⟨rfl,fun _=>trivial⟩|exact ⟨rfl,trivial⟩
 case iad x y=>rw [X.ev_cong (l1 h).1,X.ev_cong (l1 h).2];first|exact ⟨rfl,fun _=>rfl⟩|exact ⟨rfl,fun _=>trivial⟩|exact ⟨rfl,trivial⟩
 case ids x y=>rw [X.ev_cong (l1 h).1,X.ev_cong (l1 h).2];first|exact ⟨rfl,fun _=>rfl⟩|exact ⟨rfl,fun _=>trivial⟩|exact ⟨rfl,trivial⟩
 case app x y=>rw [X.ev_cong (l1 h).1,X.ev_cong (l1 h).2];first|exact ⟨rfl,fun _=>rfl⟩|exact ⟨rfl,fun _=>trivial⟩|exact ⟨rfl,trivial⟩
 case apr x y=>rw [X.ev_cong (l1 h).1,X.ev_cong (l1 h).2];first|exact ⟨rfl,fun _=>rfl⟩|exact ⟨rfl,fun _=>trivial⟩|exact ⟨rfl,trivial⟩
 case mnx x y=>rw [X.ev_cong (l1 h).1,X.ev_cong (l1 h).2];first|exact ⟨rfl,fun _=>rfl⟩|exact ⟨rfl,fun _=>trivial⟩|exact ⟨rfl,trivial⟩
 case mks l c=>rw [X.ev_cong (l1 h).1,X.ev_cong (l1 h).2];first|exact ⟨rfl,fun _=>rfl⟩|exact ⟨rfl,fun _=>trivial⟩|exact ⟨rfl,trivial⟩
 case apz l c=>rw [X.ev_cong (l1 h).1,X.ev_cong (l1 h).2];first|exact ⟨rfl,fun _=>rfl⟩|exact ⟨rfl,fun _=>trivial⟩|exact ⟨rfl,trivial⟩
 case slc x lo hi=>rw [X.ev_cong (l1 (l1 h).1).1,ZfC (l1 (l1 h).1).2,ZfC (l1 h).2];first|exact ⟨rfl,fun _=>rfl⟩|exact ⟨rfl,fun _=>trivial⟩|exact ⟨rfl,trivial⟩
 case sls x lo hi=>rw [X.ev_cong (l1 (l1 h).1).1,ZfC (l1 (l1 h).1).2,ZfC (l1 h).2];first|exact ⟨rfl,fun _=>rfl⟩|exact ⟨rfl,fun _=>trivial⟩|exact ⟨rfl,trivial⟩
end
inductive Md where
 | ro
 | io
 | co
 deriving DecidableEq,Inhabited
def Md.own:Md→Bool
 | .ro=>false
 | _=>true
mutual
def noRs:D→Bool
 | .rs _ _=>false
 | .clo _ _=>false
 | .sl _ xs=>noRsL xs
 | .agg xs=>noRsL xs
 | .tup xs=>noRsL xs
 | .ptr d=>noRs d
 | _=>true
def noRsL:List D→Bool
 | []=>true
 | d::ds=>noRs d&&noRsL ds
end
def coldA1:AV→Bool
 | .dat none _|.dp none _|.nil _=>true
 | _=>false
def coldA:AV→Bool
 | .agg xs=>xs.all coldA1
 | .tup xs=>xs.all coldA1
 | .clo _ xs=>xs.all coldA1
 | a=>coldA1 a
def takA (s:Nat→AV):List (Md×X)→Mem→Option (List D×Mem)
 | [],M=>some ([],M)
 | (md,x)::as,M=>if md.own then match tak 8 (x.ev s) M with
  | some (d,M1)=>match takA s as M1 with
   | some (ds,M2)=>some (d::ds,M2)
   | none=>none
  | none=>none else takA s as M
def frzA (s:Nat→AV) (M:Mem):List (Md×X)→List D→Option (List D)
 | [],_=>some []
 | (md,x)::as,ds=>if md.own then match ds with
  | d::ds=>(frzA s M as ds).map (d::·)
  | []=>none else match frz M 8 (x.ev s),frzA s M as ds with
  | some d,some r=>some (d::r)
  | _,_=>none
def putV1:AV→D→Mem→Option Mem
 | .sl l v off len sz,d,M=>match d with
  | .sl sz' ys=>if off=0∧sz'=sz∧ys.length=len then some (M.set l (some (.arr v true sz ys))).tickR else none
  | _=>none
 | .nil _,_,M=>some M
 | .dat none _,_,M=>some M
 | _,_,_=>none
def putL:List AV→List D→Mem→Option Mem
 | [],_,M=>some M
 | x::xs,ds,M=>match ds with
  | d::ds=>match putV1 x d M with
   | some M'=>putL xs ds M'
   | none=>none
  | []=>none
def putX (M0:Mem) (nb ib:Nat) (a:AV) (d:D) (k:Nat) (M:Mem):Option (Nat×Mem):=match a with
 | .ptr l v i j=>match d with
  | .ptr d=>if i=0∧j=none then some ((bindD nb ib d k M).2.1,(bindD nb ib d k M).2.2.set l (some (.box v (bindD nb ib d k M).1))) else none
  | _=>none
 | .agg xs=>match d with
  | .agg ds=>(putL xs ds M).map (k,·)
  | _=>none
 | .ref l v r i j=>match M0.m l with
  | some (.arr v' own sz xs)=>if v'=v∧own=true∧isAgD d=false then match (xs[i]?).bind (setD · j d) with
   | some x'=>some (k,(M.set l (some (.arr v true sz (xs.set i x')))).tickR)
   | none=>none else none
  | _=>none
 | a=>(putV1 a d M).map (k,·)
def putA (s:Nat→AV) (nb ib:Nat) (M0:Mem):List (Md×X)→List D→Nat→Mem→Option (Nat×Mem)
 | [],_,k,M=>some (k,M)
 | (md,x)::as,ds,k,M=>if md=.io then match ds with
  | d::ds=>match putX M0 nb ib (x.ev s) d k M with
   | some (k',M')=>putA s nb ib M0 as ds k' M'
   | none=>none
  | []=>none else putA s nb ib M0 as ds k M
def ioN1:AV→List Nat
 | .ptr l _ _ _|.sl l _ _ _ _|.ref l _ _ _ _=>[l]
 | _=>[]
def ioN:AV→List Nat
 | .agg xs=>(xs.map ioN1).flatten
 | a=>ioN1 a
def ioNames (s:Nat→AV):List (Md×X)→List Nat
 | []=>[]
 | (md,x)::as=>if md=.io then ioN (x.ev s)++ioNames s as else ioNames s as
def stpCall (den:List D→Option (D×List D)) (s:Nat→AV) (M:Mem) (nb ib:Nat) (cold:Bool) (args:List (Md×X)):Option (AV×Mem×(Nat→Bool)) :=
 match takA s args M with
 | some (ds,M1)=>match if args.any (·.1.own) then M1.tick else M1 with
  | M2=>match frzA s M2 args ds with
   | some all=>match den all with
    | some (r,outs) =>
     if (if cold then args.all (fun p=>p.1.own||coldA (p.2.ev s)) else noRs r&&noRsL outs) then match putA s nb ib M args outs 0 M2 with
      | some (k,M3)=>match bindD nb ib r k M3 with
       | (a,k',M4)=>if k'≤64&&!isBad a then some (a,M4,fun l=>(ioNames s args).contains l||(decide (nb≤l)&&decide (l < nb+k'))) else none
      | none=>none else none
    | none=>none
   | none=>none
 | none=>none
end Go.Vm
namespace Go.Vm
open Go
set_option linter.unusedSimpArgs false
set_option linter.unusedVariables false
mutual
theorem TV.nors {X X':Nat→Prop} {w:World}:∀ (d:D) (v:Value) (F:List Nat),noRs d=true→TV X true w d v F→TV X' true w d v F
 | .int _ _,_,_,_,h=>by simpa only [TV] using h
 | .bool _,_,_,_,h=>by simpa only [TV] using h
 | .str _,_,_,_,h=>by simpa only [TV] using h
 | .nili,_,_,_,h=>by simpa only [TV] using h
 | .ifc,_,_,_,h=>by simpa only [TV] using h
 | .anyb,_,_,_,h=>by simpa only [TV] using h
 | .dead,_,_,_,h=>by simpa only [TV] using h
 | .sl sz xs,v,F,hn,h=>by
  simp only [noRs] at hn
  simp only [TV] at h ⊢
  rcases h with h|⟨a,c,vs,h1,h2,h3,h4,hc,h5⟩
  · exact .inl h
  · refine .inr ⟨a,c,vs,h1,h2,h3,h4,hc,?_⟩
    rcases h5 with ⟨ho,F',rfl,hr,ht⟩|⟨ho,_⟩
    · exact .inl ⟨ho,F',rfl,hr,TE.nors xs vs F' hn ht⟩
    · cases ho
 | .rs sz xs,v,F,hn,h=>by simp [noRs] at hn
 | .agg fs,v,F,hn,h=>by
  simp only [noRs] at hn
  simp only [TV] at h ⊢
  obtain ⟨vs,h1,h2⟩:=h
  exact ⟨vs,h1,TL.nors fs vs F hn h2⟩
 | .tup fs,v,F,hn,h=>by
  simp only [noRs] at hn
  simp only [TV] at h ⊢
  obtain ⟨vs,h1,h2⟩:=h
  exact ⟨vs,h1,TL.nors fs vs F hn h2⟩
 | .ptr d,v,F,hn,h=>by
  simp only [noRs] at hn
  obtain ⟨a,us,h1,h2,h4,hc,h5⟩:=Zav.1 h
  refine Zav.2 ⟨a,us,h1,h2,h4,hc,?_⟩
  rcases h5 with ⟨ho,F',rfl,hr,ht⟩|⟨ho,_⟩
  · refine .inl ⟨ho,F',rfl,hr,?_⟩
    cases d with
    | agg fs=>simp only [noRs] at hn;exact TL.nors fs us F' hn ht
    | int k n=>obtain ⟨u,e,t⟩:=ht;exact ⟨u,e,TV.nors (.int k n) u F' hn t⟩
    | bool b=>obtain ⟨u,e,t⟩:=ht;exact ⟨u,e,TV.nors (.bool b) u F' hn t⟩
    | str b=>obtain ⟨u,e,t⟩:=ht;exact ⟨u,e,TV.nors (.str b) u F' hn t⟩
    | sl s l=>obtain ⟨u,e,t⟩:=ht;exact ⟨u,e,TV.nors (.sl s l) u F' hn t⟩
    | rs s l=>simp [noRs] at hn
    | tup l=>obtain ⟨u,e,t⟩:=ht;exact ⟨u,e,TV.nors (.tup l) u F' hn t⟩
    | ptr d=>obtain ⟨u,e,t⟩:=ht;exact ⟨u,e,TV.nors (.ptr d) u F' hn t⟩
    | clo f l=>simp [noRs] at hn
    | nili=>obtain ⟨u,e,t⟩:=ht;exact ⟨u,e,TV.nors .nili u F' hn t⟩
    | ifc=>obtain ⟨u,e,t⟩:=ht;exact ⟨u,e,TV.nors .ifc u F' hn t⟩
    | anyb=>obtain ⟨u,e,t⟩:=ht;exact ⟨u,e,TV.nors .anyb u F' hn t⟩
    | dead=>obtain ⟨u,e,t⟩:=ht;exact ⟨u,e,TV.nors .dead u F' hn t⟩
  · cases ho
 | .clo f caps,v,F,hn,h=>by simp [noRs] at hn
theorem TE.nors {X X':Nat→Prop} {w:World} {sz:Nat}:∀ (xs:List D) (vs:List Value) (F:List Nat),noRsL xs=true→TE X true w sz xs vs F→TE X' true w sz xs vs F
 | [],_,_,_,h=>by simpa only [TE] using h
 | x::xs,vs,F,hn,h=>by
  simp only [noRsL,Bool.and_eq_true] at hn
  rw [Za8] at h ⊢
  obtain ⟨us,r,F1,F2,h1,h2,rfl,h3,h4⟩:=h
  refine ⟨us,r,F1,F2,h1,h2,rfl,?_,TE.nors xs r F2 hn.2 h4⟩
  have hn:=hn.1
  cases x with
  | agg fs=>simp only [noRs] at hn;exact TL.nors fs us F1 hn h3
  | int k n=>obtain ⟨u,e,t⟩:=h3;exact ⟨u,e,TV.nors (.int k n) u F1 hn t⟩
  | bool b=>obtain ⟨u,e,t⟩:=h3;exact ⟨u,e,TV.nors (.bool b) u F1 hn t⟩
  | str b=>obtain ⟨u,e,t⟩:=h3;exact ⟨u,e,TV.nors (.str b) u F1 hn t⟩
  | sl s l=>obtain ⟨u,e,t⟩:=h3;exact ⟨u,e,TV.nors (.sl s l) u F1 hn t⟩
  | rs s l=>simp [noRs] at hn
  | tup l=>obtain ⟨u,e,t⟩:=h3;exact ⟨u,e,TV.nors (.tup l) u F1 hn t⟩
  | ptr d=>obtain ⟨u,e,t⟩:=h3;exact ⟨u,e,TV.nors (.ptr d) u F1 hn t⟩
  | clo f l=>simp [noRs] at hn
  | nili=>obtain ⟨u,e,t⟩:=h3;exact ⟨u,e,TV.nors .nili u F1 hn t⟩
  | ifc=>obtain ⟨u,e,t⟩:=h3;exact ⟨u,e,TV.nors .ifc u F1 hn t⟩
  | anyb=>obtain ⟨u,e,t⟩:=h3;exact ⟨u,e,TV.nors .anyb u F1 hn t⟩
  | dead=>obtain ⟨u,e,t⟩:=h3;exact ⟨u,e,TV.nors .dead u F1 hn t⟩
theorem TL.nors {X X':Nat→Prop} {w:World}:∀ (xs:List D) (vs:List Value) (F:List Nat),noRsL xs=true→TL X true w xs vs F→TL X' true w xs vs F
 | [],_,_,_,h=>by simpa only [TL] using h
 | x::xs,vs,F,hn,h=>by
  simp only [noRsL,Bool.and_eq_true] at hn
  simp only [TL] at h ⊢
  obtain ⟨u,us,F1,F2,h1,rfl,h2,h3⟩:=h
  exact ⟨u,us,F1,F2,h1,rfl,TV.nors x u F1 hn.1 h2,TL.nors xs us F2 hn.2 h3⟩
end
def AR (X:Nat→Prop) (w:World):List Md→List D→List Value→List Nat→Prop
 | [],ds,vs,F=>ds=[]∧vs=[]∧F=[]
 | m::ms,ds,vs,F=>∃ d ds' v vs' F1 F2,ds=d::ds'∧vs=v::vs'∧F=F1++F2∧TV X m.own w d v F1∧AR X w ms ds' vs' F2
def AO (X:Nat→Prop) (w:World):List Md→List D→List Value→List Nat→Prop
 | [],ds,vs,F=>F=[]
 | m::ms,ds,vs,F=>∃ v vs',vs=v::vs' ∧
  if m=.io then ∃ d ds' F1 F2,ds=d::ds'∧F=F1++F2∧TV X true w d v F1∧AO X w ms ds' vs' F2 else AO X w ms ds vs' F
structure CallRes (ms:List Md) (r:D) (outs:List D) (Y:Nat→Prop) (w:World) (args:List Value) (F:List Nat) (v:Value) (w':World):Prop where
 size:w.heap.size≤w'.heap.size
 io:IOk w w'
 heap:∀ b,b < w.heap.size→b ∉ F→w'.heap[b]? = w.heap[b]?
 res:∃ Fr Fo,(Fr++Fo).Nodup∧(∀ b∈Fr++Fo,b∈F∨w.heap.size≤b)∧TV (fun b=>Y b∨b∈Fr++Fo) true w' r v Fr∧AO (fun b=>Y b∨b∈Fr++Fo) w' ms outs args Fo
def retd (R:Value→World→Prop):Ending→World→Prop
 | .returned v,w=>R v w
 | _,_=>False
def FC (P:Program) (f:FuncId) (ms:List Md) (ds:List D) (r:D) (outs:List D):Prop :=
 ∀ (Y:Nat→Prop) (w:World) (args:List Value) (F:List Nat),(∀ b,Y b→b < w.heap.size)→F.Nodup→(∀ b∈F,¬ Y b)→AR (fun b=>Y b∨b∈F) w ms ds args F →
  Calls P f args.toArray w (retd (CallRes ms r outs Y w args F))
def hasBody (P:Program) (f:FuncId):Bool:=match P.funcs[f]? with
 | some fn => fn.name != "runtime.NumGoroutine" && fn.body.isSome
 | none=>false
end Go.Vm
namespace Go.Vm
open Go
set_option linter.unusedSimpArgs false
set_option linter.unusedVariables false
section
variable {Y:Nat→Prop} {w:World} {nb ib:Nat}
mutual
theorem Za2:∀ (d:D) (k:Nat) (M:Mem),k≤(bindD nb ib d k M).2.1
 | .sl sz xs,k,M=>by simp [bindD]
 | .rs sz xs,k,M=>by simp [bindD]
 | .agg fs,k,M=>by simp only [bindD];exact bindL_mono fs k M
 | .tup fs,k,M=>by simp only [bindD];exact bindL_mono fs k M
 | .ptr d,k,M=>by simp only [bindD];exact Nat.le_trans (Nat.le_succ k) (Za2 d (k+1) M)
 | .clo _ _,k,M=>by simp [bindD]
 | .int _ _,k,M=>by simp [bindD]
 | .bool _,k,M=>by simp [bindD]
 | .str _,k,M=>by simp [bindD]
 | .nili,k,M=>by simp [bindD]
 | .ifc,k,M=>by simp [bindD]
 | .anyb,k,M=>by simp [bindD]
 | .dead,k,M=>by simp [bindD]
theorem bindL_mono:∀ (ds:List D) (k:Nat) (M:Mem),k≤(bindL nb ib ds k M).2.1
 | [],k,M=>by simp [bindL]
 | d::ds,k,M=>by simp only [bindL];exact Nat.le_trans (Za2 d k M) (bindL_mono ds _ _)
end
structure Bd (g:G) (Y:Nat→Prop) (M:Mem) (w:World) (ib k k':Nat) (F:List Nat) (g':G) (M':Mem):Prop where
 inv:Inv g' Y M' w
 stp:Stp g M w g' M' w
 u:∀ i,g'.U i→g.U i∨(ib+k≤i∧i < ib+k')
 p1:∀ b,g'.P b→g.P b∧b ∉ F
 p2:∀ b,g.P b→b ∉ F→g'.P b
 pb2:∀ b,g.PB b→b ∉ F→g'.PB b
theorem Bd.refl {g:G} {M:Mem} (hI:Inv g Y M w) {k:Nat}:Bd g Y M w ib k k [] g M :=
 ⟨hI,Stp.refl _ _ _,fun _ h=>.inl h,fun _ h=>⟨h,by simp⟩,fun _ h _=>h,fun _ h _=>h⟩
theorem Bd.trans {g g1 g2:G} {M M1 M2:Mem} {k k1 k2:Nat} {F1 F2:List Nat} (a:Bd g Y M w ib k k1 F1 g1 M1) (b:Bd g1 Y M1 w ib k1 k2 F2 g2 M2) (h1:k≤k1) (h2:k1≤k2) :
 Bd g Y M w ib k k2 (F1++F2) g2 M2 where
 inv:=b.inv
 stp:=a.stp.trans b.stp
 u:=fun i h=>by
  rcases b.u i h with h|h
  · rcases a.u i h with h|h
    · exact .inl h
    · exact .inr (by omega)
  · exact .inr (by omega)
 p1:=fun x h=>by
  obtain ⟨q1,q2⟩:=b.p1 x h
  obtain ⟨q3,q4⟩:=a.p1 x q1
  exact ⟨q3,by simp [q2,q4]⟩
 p2:=fun x h hn=>by simp at hn;exact b.p2 x (a.p2 x h hn.1) hn.2
 pb2:=fun x h hn=>by simp at hn;exact b.pb2 x (a.pb2 x h hn.1) hn.2
mutual
theorem ZcB:∀ (d:D) (k:Nat) (g:G) (M:Mem) (v:Value) (F:List Nat),Inv g Y M w→TV (XA g Y M) true w d v F→(∀ b∈F,g.P b∧g.PB b)→F.Nodup →
 (∀ j,k≤j→j < (bindD nb ib d k M).2.1→¬ g.U (ib+j)) →
 ∃ g',Bd g Y M w ib k (bindD nb ib d k M).2.1 F g' (bindD nb ib d k M).2.2∧SV g' Y (bindD nb ib d k M).2.2 w (bindD nb ib d k M).1 v∧isBad (bindD nb ib d k M).1=false
 | .sl sz xs,k,g,M,v,F,hI,ht,hP,hn,hu=>by
  simp only [bindD] at hu ⊢
  simp only [TV] at ht
  have hid:¬ g.U (ib+k):=hu k (Nat.le_refl _) (Nat.lt_succ_self _)
  rcases ht with ⟨rfl,hnv,rfl⟩|⟨a,c,vs,rfl,hsp,hlc,hlt,hc,h5⟩
  · obtain rfl:=hnv.own
    obtain ⟨i1,s1⟩:=hI.addVirt (l:=nb+k) (id:=ib+k) (sz:=sz) (own:=true) hid
    refine ⟨_,⟨i1,s1,fun i h=>?_,fun b h=>h,fun b h hb=>⟨h,hb⟩,fun b h hb=>⟨h,hb⟩⟩,?_,rfl⟩
    · rcases h with h|h
      · exact .inl h
      · exact .inr (by omega)
    · simp only [SV]
      exact ⟨by simp [G.add],by simp [G.add,upd],.inl ⟨by simp [G.add],trivial,rfl,trivial⟩⟩
  · rcases h5 with ⟨_,F',rfl,hr,hte⟩|⟨ho,_⟩
    · obtain ⟨i1,s1⟩:=hI.addArr (l:=nb+k) (id:=ib+k) (sz:=sz) (bs:=c * sz) (ad:=a) (own:=true) (xs:=xs) (vs:=vs) (F:=F') hid hsp (fun b hb=>(hP b hb).1) (hP _ List.mem_cons_self).2 hn hr hc hte
      refine ⟨_,⟨i1,s1,fun i h=>?_,fun b h=>h,fun b h hb=>⟨h,hb⟩,fun b h hb=>⟨h,hb⟩⟩,?_,rfl⟩
      · rcases h with h|h
        · exact .inl h
        · exact .inr (by omega)
      · simp only [SV]
        exact ⟨by simp [G.add],by simp [G.add,upd],.inr ⟨by simp [G.add],a,c,rfl,hsp,by simp [G.add,upd],hlc,.inr (by simp [G.add,upd,Addr.add]),by simp [G.add,upd]⟩⟩
    · cases ho
 | .rs sz xs,k,g,M,v,F,hI,ht,hP,hn,hu=>by
  simp only [bindD]
  have hF:F=[]:=by simp only [TV] at ht;exact ht.1
  subst hF
  exact ⟨g,Bd.refl hI,by simp only [SV];exact ht.sl_rs.2,rfl⟩
 | .agg fs,k,g,M,v,F,hI,ht,hP,hn,hu=>by
  simp only [bindD] at hu ⊢
  simp only [TV] at ht
  obtain ⟨vs,rfl,ht⟩:=ht
  obtain ⟨g',h1,h2⟩:=bindL_sound fs k g M vs F hI ht hP hn hu
  exact ⟨g',h1,by simp only [SV];exact ⟨vs,rfl,h2⟩,rfl⟩
 | .tup fs,k,g,M,v,F,hI,ht,hP,hn,hu=>by
  simp only [bindD] at hu ⊢
  simp only [TV] at ht
  obtain ⟨vs,rfl,ht⟩:=ht
  obtain ⟨g',h1,h2⟩:=bindL_sound fs k g M vs F hI ht hP hn hu
  exact ⟨g',h1,by simp only [SV];exact ⟨vs,rfl,h2⟩,rfl⟩
 | .ptr d,k,g,M,v,F,hI,ht,hP,hn,hu=>by
  simp only [bindD] at hu ⊢
  obtain ⟨a,us,rfl,hsp,hlt,hc,h5⟩:=Zav.1 ht
  rcases h5 with ⟨_,F',rfl,hr,htc⟩|⟨ho,_⟩
  · have hval:∃ u,TV (XA g Y M) true w d u F'∧u.cells.toList=us:=by
     cases hd:isAgD d with
     | true =>
      cases d<;>simp [isAgD] at hd
      exact ⟨.agg us.toArray,by simp only [TV];exact ⟨us,rfl,htc⟩,by simp [Value.cells]⟩
     | false =>
      obtain ⟨u,rfl,hu'⟩:=(TC.mk hd).1 htc
      exact ⟨u,hu',by rw [TV.noag hd hu']⟩
    obtain ⟨u,hu1,hu2⟩:=hval
    have hm:=Za2 (nb:=nb) (ib:=ib) d (k+1) M
    obtain ⟨g1,b1,sv1,bad1⟩:=ZcB d (k+1) g M u F' hI hu1 (fun b hb=>hP b (List.mem_cons_of_mem _ hb)) (List.nodup_cons.1 hn).2 (fun j h1 h2=>hu j (by omega) h2)
    rcases hq:bindD nb ib d (k+1) M with ⟨x,k',M'⟩
    rw [hq] at hm b1 sv1 bad1 hu
    simp only at hm b1 sv1 bad1 hu ⊢
    have hid:¬ g1.U (ib+k):=fun h=>by
     rcases b1.u _ h with h|h
     · exact hu k (Nat.le_refl _) (by omega) h
     · omega
    have hab:=hP _ (List.mem_cons_self (a:=a.block) (l:=F'))
    have hnF:=(List.nodup_cons.1 hn).1
    obtain ⟨i2,s2⟩:=b1.inv.addBox (l:=nb+k) (id:=ib+k) (sz:=0) (bs:=0) (ad:=a) (v:=u) hid hsp (b1.p2 _ hab.1 hnF) (b1.pb2 _ hab.2 hnF) bad1
     (by have:u.cells.size=us.length:=by rw [← hu2];simp
         rw [this];exact hr) (by rw [hu2];exact hc) sv1
    refine ⟨_,⟨i2,b1.stp.trans s2,fun i h=>?_,fun b h=>?_,fun b h hb=>?_,fun b h hb=>?_⟩,?_,rfl⟩
    · rcases h with h|h
      · rcases b1.u i h with h|h
        · exact .inl h
        · exact .inr (by omega)
      · exact .inr (by omega)
    · obtain ⟨q1,q2⟩:=h
      obtain ⟨q3,q4⟩:=b1.p1 b q1
      exact ⟨q3,by simp at q2 ⊢;exact ⟨q2,q4⟩⟩
    · simp at hb;exact ⟨b1.p2 b h hb.2,by simp [hb.1]⟩
    · simp at hb;exact ⟨b1.pb2 b h hb.2,by simp [hb.1]⟩
    · simp only [SV]
      exact ⟨by simp [G.add],by simp [G.add],by simp [G.add,upd,Addr.add]⟩
  · cases ho
 | .clo f caps,k,g,M,v,F,hI,ht,hP,hn,hu=>by
  simp only [bindD]
  simp only [TV] at ht
  obtain ⟨rfl,ht⟩:=ht
  exact ⟨g,Bd.refl hI,by simp only [SV,TV];exact ⟨trivial,ht⟩,rfl⟩
 | .int _ _,k,g,M,v,F,hI,ht,hP,hn,hu=>by
  simp only [bindD]
  have:=TV.sc (X':=XA g Y M) (o':=false) (w':=w) rfl ht
  obtain ⟨rfl,ht⟩:=this
  exact ⟨g,Bd.refl hI,by simp only [SV];exact ht,rfl⟩
 | .bool _,k,g,M,v,F,hI,ht,hP,hn,hu=>by
  simp only [bindD]
  have:=TV.sc (X':=XA g Y M) (o':=false) (w':=w) rfl ht
  obtain ⟨rfl,ht⟩:=this
  exact ⟨g,Bd.refl hI,by simp only [SV];exact ht,rfl⟩
 | .str _,k,g,M,v,F,hI,ht,hP,hn,hu=>by
  simp only [bindD]
  have:=TV.sc (X':=XA g Y M) (o':=false) (w':=w) rfl ht
  obtain ⟨rfl,ht⟩:=this
  exact ⟨g,Bd.refl hI,by simp only [SV];exact ht,rfl⟩
 | .nili,k,g,M,v,F,hI,ht,hP,hn,hu=>by
  simp only [bindD]
  have:=TV.sc (X':=XA g Y M) (o':=false) (w':=w) rfl ht
  obtain ⟨rfl,ht⟩:=this
  exact ⟨g,Bd.refl hI,by simp only [SV];exact ht,rfl⟩
 | .ifc,k,g,M,v,F,hI,ht,hP,hn,hu=>by
  simp only [bindD]
  have:=TV.sc (X':=XA g Y M) (o':=false) (w':=w) rfl ht
  obtain ⟨rfl,ht⟩:=this
  exact ⟨g,Bd.refl hI,by simp only [SV];exact ht,rfl⟩
 | .anyb,k,g,M,v,F,hI,ht,hP,hn,hu=>by
  simp only [bindD]
  have:=TV.sc (X':=XA g Y M) (o':=false) (w':=w) rfl ht
  obtain ⟨rfl,ht⟩:=this
  exact ⟨g,Bd.refl hI,by simp only [SV];exact ht,rfl⟩
 | .dead,k,g,M,v,F,hI,ht,hP,hn,hu=>by
  simp only [bindD]
  simp only [TV] at ht
  obtain ⟨hv,rfl⟩:=ht
  exact ⟨g,Bd.refl hI,by simp only [SV,TV];exact ⟨hv,trivial⟩,rfl⟩
theorem bindL_sound:∀ (ds:List D) (k:Nat) (g:G) (M:Mem) (vs:List Value) (F:List Nat),Inv g Y M w→TL (XA g Y M) true w ds vs F→(∀ b∈F,g.P b∧g.PB b)→F.Nodup →
 (∀ j,k≤j→j < (bindL nb ib ds k M).2.1→¬ g.U (ib+j)) →
 ∃ g',Bd g Y M w ib k (bindL nb ib ds k M).2.1 F g' (bindL nb ib ds k M).2.2∧SVL g' Y (bindL nb ib ds k M).2.2 w (bindL nb ib ds k M).1 vs
 | [],k,g,M,vs,F,hI,ht,hP,hn,hu=>by
  simp only [TL] at ht
  obtain ⟨rfl,rfl⟩:=ht
  simp only [bindL]
  exact ⟨g,Bd.refl hI,by simp only [SVL]⟩
 | d::ds,k,g,M,vs,F,hI,ht,hP,hn,hu=>by
  simp only [TL] at ht
  obtain ⟨u,us,F1,F2,rfl,rfl,h1,h2⟩:=ht
  simp only [bindL] at hu ⊢
  have m1:=Za2 (nb:=nb) (ib:=ib) d k M
  have m2:=bindL_mono (nb:=nb) (ib:=ib) ds (bindD nb ib d k M).2.1 (bindD nb ib d k M).2.2
  obtain ⟨n1,n2,n3⟩:=List.nodup_append.1 hn
  obtain ⟨g1,b1,sv1,_⟩:=ZcB d k g M u F1 hI h1 (fun b hb=>hP b (List.mem_append_left _ hb)) n1 (fun j a b=>hu j a (Nat.lt_of_lt_of_le b m2))
  have h2':TL (XA g1 Y (bindD nb ib d k M).2.2) true w ds us F2:=TL.stable _ _ _ h2 ⟨Nat.le_refl _,b1.stp.sameA.out,fun _ _ _=>rfl⟩
  obtain ⟨g2,b2,sv2⟩:=bindL_sound ds _ g1 _ us F2 b1.inv h2' (fun b hb=>by
   have hp:=hP b (List.mem_append_right _ hb)
   have hnb:b ∉ F1:=fun h=>n3 b h b hb rfl
   exact ⟨b1.p2 b hp.1 hnb,b1.pb2 b hp.2 hnb⟩) n2 (fun j a b h=>by
   rcases b1.u _ h with h|h
   · exact hu j (Nat.le_trans m1 a) b h
   · omega)
  exact ⟨g2,b1.trans b2 m1 m2,by simp only [SVL];exact ⟨u,us,rfl,SV.stp b2.stp _ _ sv1,sv2⟩⟩
end
end
end Go.Vm
namespace Go.Vm
open Go
set_option linter.unusedSimpArgs false
set_option linter.unusedVariables false
section
variable {Y:Nat→Prop} {w:World} {nb ib:Nat} {s:Nat→AV}
def TA (X:Nat→Prop) (w:World):List Md→List D→List Value→List Nat→Prop
 | [],ds,vs,F=>ds=[]∧vs=[]∧F=[]
 | m::ms,ds,vs,F=>∃ v vs',vs=v::vs' ∧
  if m.own=true then ∃ d ds' F1 F2,ds=d::ds'∧F=F1++F2∧TV X true w d v F1∧TA X w ms ds' vs' F2 else TA X w ms ds vs' F
theorem TA.stable {X X':Nat→Prop} {w w':World}:∀ {ms:List Md} {ds:List D} {vs:List Value} {F:List Nat},TA X w ms ds vs F→Same X X' w w' F→TA X' w' ms ds vs F
 | [],ds,vs,F,h,_=>by simpa only [TA] using h
 | m::ms,ds,vs,F,h,hs=>by
  simp only [TA] at h ⊢
  obtain ⟨v,vs',rfl,h⟩:=h
  refine ⟨v,vs',rfl,?_⟩
  split at h
  · rename_i hm
    rw [if_pos hm]
    obtain ⟨d,ds',F1,F2,rfl,rfl,h1,h2⟩:=h
    exact ⟨d,ds',F1,F2,rfl,rfl,TV.stable d v F1 h1 hs.left,TA.stable h2 hs.right⟩
  · rename_i hm
    rw [if_neg hm]
    exact TA.stable h hs
def slC (g:G) (w:World):AV→Prop
 | .sl _ id _ _ _=>¬ g.VR id→(g.AD id).spot=none∧RM w (g.AD id) (g.BS id)
 | _=>True
def Hole (X:Nat→Prop) (w:World) (sz:Nat) (xs:List D) (i:Nat) (j:Option Nat) (vs:List Value) (u:Value) (R1 R2:List Nat):Prop :=
 ∀ (X':Nat→Prop) (w':World),Same X X' w w' (R1++R2)→∀ (d:D) (F':List Nat) (x':D),TV X' true w' d u F'→isAgD d=false→(xs[i]?).bind (setD · j d)=some x'→TE X' true w' sz (xs.set i x') vs (R1++F'++R2)
theorem Hole.stable {X X1:Nat→Prop} {w w1:World} {sz:Nat} {xs:List D} {i:Nat} {j:Option Nat} {vs:List Value} {u:Value} {R1 R2:List Nat} (h:Hole X w sz xs i j vs u R1 R2) (k:Same X X1 w w1 (R1++R2)) :
 Hole X1 w1 sz xs i j vs u R1 R2:=fun X' w' hs=>h X' w' ⟨Nat.le_trans k.size hs.size,fun b hb hn=>hs.out b (Nat.lt_of_lt_of_le hb k.size) (k.out b hb hn),fun b hb hn=>by
  refine (hs.heap b (Nat.lt_of_lt_of_le hb k.size) ?_).trans (k.heap b hb hn)
  exact hn.imp (k.out b hb) id⟩
def CX (X:Nat→Prop) (w:World) (g:G) (M0:Mem) (a:AV) (u:Value) (R:List Nat):Prop:=match a with
 | .agg xs=>R=[]∧∀ x∈xs,slC g w x
 | .ref l id _ i j=>∃ sz xs vs R1 R2,R=(g.AD id).block::(R1++R2)∧M0.m l=some (.arr id true sz xs)∧g.U id∧¬ g.VR id∧g.SZ id=sz∧(g.AD id).spot=none∧RM w (g.AD id) (g.BS id)∧CL w (g.AD id) vs ∧
  Hole X w sz xs i j vs u R1 R2
 | a=>R=[]∧slC g w a
theorem ZoP {g:G} {M Mi:Mem} {n:Nat} {x:AV} {p:D×Mem} (hI:Inv g Y M w) (hs:∀ l o,Mi.m l=some o→M.m l=some o) (h:tak n x Mi=some p):slC g w x:=by
 cases x<;>simp only [slC]
 rename_i l id off len sz
 intro hv
 cases n with
 | zero=>simp [tak] at h
 | succ n =>
  simp only [tak] at h
  split at h
  case h_2=>cases h
  rename_i v' own sz' xs hm
  split at h
  case isFalse=>cases h
  rename_i hc
  obtain ⟨rfl,_,_⟩:=hc
  have hob:=hI.ob l _ (hs l _ hm)
  simp only [OB] at hob
  rcases hob.2.2.2 with hob|⟨_,vs,F',k1,k2,k3,k4,k5⟩
  · exact absurd hob.1 hv
  · exact ⟨k2,k3⟩
theorem Ze0 {n:Nat} {a:AV} {M M1:Mem} {d:D} (h:tak n a M=some (d,M1)) (l:Nat) (o:Obj) (hl:M1.m l=some o):M.m l=some o:=by
 obtain ⟨_,_,r⟩:=Zbq n a M M1 M d h (Le.refl M)
 rcases r.m l with ⟨a1,_,_⟩|⟨a1,_⟩
 · rw [a1] at hl;cases hl
 · rw [← a1];exact hl
theorem Zmf {g:G} {M:Mem} {n:Nat} (hI:Inv g Y M w):∀ {xs:List AV} {Mi:Mem} {p:List D×Mem},(∀ l o,Mi.m l=some o→M.m l=some o)→takL (tak n) xs Mi=some p→∀ x∈xs,slC g w x
 | [],_,_,_,_,x,hx=>by cases hx
 | y::xs,Mi,p,hs,h,x,hx=>by
  simp only [takL] at h
  cases hq:tak n y Mi with
  | none=>rw [hq] at h;cases h
  | some q =>
   obtain ⟨d,M'⟩:=q
   rw [hq] at h
   simp only at h
   cases hr:takL (tak n) xs M' with
   | none=>rw [hr] at h;cases h
   | some r =>
    rcases List.mem_cons.1 hx with rfl|hx
    · exact ZoP hI hs hq
    · exact Zmf hI (fun l o k=>hs l o (Ze0 hq l o k)) hr x hx
theorem Zqi {g:G} {M:Mem} {a:AV} {v:Value} {d:D} {M1:Mem} (hI:Inv g Y M w) (hs:SV g Y M w a v) (h:tak 8 a M=some (d,M1)) :
 ∃ g1 F R,Tk g Y M w g1 M1 (F++R)∧TV (XA g1 Y M1) true w d v F∧CX (XA g1 Y M1) w g M a v R:=by
 have other:(∀ X:Nat→Prop,CX X w g M a v [])→∃ g1 F R,Tk g Y M w g1 M1 (F++R)∧TV (XA g1 Y M1) true w d v F∧CX (XA g1 Y M1) w g M a v R:=fun hc=>by
  obtain ⟨g1,F,h1,h2⟩:=ZbF 8 g M a v d M1 hI hs h
  exact ⟨g1,F,[],by simpa using h1,h2,hc _⟩
 cases a with
 | agg xs =>
  refine other fun X=>⟨rfl,?_⟩
  simp only [tak] at h
  cases hr:takL (tak 7) xs M with
  | none=>rw [hr] at h;cases h
  | some p=>exact Zmf hI (fun _ _ h=>h) hr
 | sl l id off len sz=>exact other fun X=>⟨rfl,ZoP hI (fun _ _ h=>h) h⟩
 | ref l id r i j =>
  simp only [tak] at h
  split at h
  case isFalse=>cases h
  rename_i hr
  split at h
  case h_2=>cases h
  rename_i own d0 hp
  split at h
  case isFalse=>cases h
  rename_i hown
  cases h
  simp only [placeD] at hp
  split at hp
  case h_2=>simp at hp
  rename_i v' own' sz xs hm
  split at hp
  case isFalse=>simp at hp
  rename_i hv
  subst hv
  simp only [SV] at hs
  obtain ⟨hu,hs⟩:=hs.2 hr.1
  obtain ⟨hown',hvr,d1,p1,p2,p3⟩:=hs own' sz xs hm
  rw [p1] at hp
  simp [p2] at hp
  obtain ⟨_,rfl⟩:=hp
  subst hown'
  have hob:=hI.ob l _ hm
  simp only [OB] at hob
  obtain ⟨_,hsz,hnd,hob⟩:=hob
  rcases hob with hob|⟨_,vs,F',k1,k2,k3,k4,k5⟩
  · exact absurd hob.1 hvr
  cases hx:xs[i]? with
  | none=>rw [hx] at p1;simp at p1
  | some x =>
   have hilt:i < xs.length:=(List.getElem?_eq_some_iff.1 hx).1
   rw [hx] at p1
   simp at p1
   obtain ⟨v1,us,v2,F1,Fi,F2,q1,q2,q3,q4,q5,q6,q7,q8⟩:=TE.get k5 hx
   have k4':=k4
   rw [q1] at k4'
   have hcu:=k4'.left.right
   rw [q3] at hcu
   have key:∃ G1 Gj G2,Fi=G1++Gj++G2∧TV (XA g Y M) true w d1 v Gj∧Hole (XA g Y M) w sz xs i j vs v (F1++G1) (G2++F2):=by
    cases j with
    | none =>
     simp [fldD] at p1
     subst p1
     obtain ⟨u,rfl,ht⟩:=(TC.mk p2).1 q6
     have h0:=hcu 0 u rfl
     rw [ZaW] at h0
     simp only [Option.getD_none] at p3
     rw [p3] at h0
     cases h0
     refine ⟨[],Fi,[],by simp,ht,fun X' w' hs' dn F' x' htn hag hse=>?_⟩
     simp only [List.append_nil,List.nil_append] at hs' ⊢
     rw [hx] at hse
     simp only [Option.bind_some,setD,Option.some.injEq] at hse
     subst hse
     rw [q1]
     exact TE.set hilt (TE.stable _ _ _ q7 hs'.left) ((TC.mk hag).2 ⟨_,rfl,htn⟩) (by
      have:dn.size=1:=by cases dn<;>first|rfl|simp [isAgD] at hag
      rw [this];exact q4.1) q4.2 (TE.stable _ _ _ q8 hs'.right)
    | some j =>
     obtain ⟨fs,p1a,rfl,p1b⟩:=Zcm p1
     obtain ⟨u1,u,u2,G1,Gj,G2,e1,e2,e3,e4,e5,e6⟩:=TL.get q6 p1a
     have h0:=hcu j u (by rw [e1,← e3];simp)
     rw [ZaW] at h0
     simp only [Option.getD_some] at p3
     rw [p3] at h0
     cases h0
     refine ⟨G1,Gj,G2,e2,e4,fun X' w' hs' dn F' x' htn hag hse=>?_⟩
     rw [hx] at hse
     simp only [Option.bind_some,setD] at hse
     split at hse
     case isFalse=>cases hse
     rename_i hj
     cases hse
     rw [q1]
     have hT:TL X' true w' (fs.set j dn) us (G1++F'++G2):=by
      rw [e1]
      exact TL.set hj (TL.stable _ _ _ e5 (hs'.sub (by intro b hb;simp [hb]))) htn (TL.stable _ _ _ e6 (hs'.sub (by intro b hb;simp [hb])))
     have:=TE.set (y:=.agg (fs.set j dn)) (Fi:=G1++F'++G2) hilt (TE.stable _ _ _ q7 (hs'.sub (by intro b hb;simp [hb]))) hT (by
      simp only [D.size,List.length_set];exact q5) q4.2 (TE.stable _ _ _ q8 (hs'.sub (by intro b hb;simp [hb])))
     have e:F1++G1++F'++(G2++F2)=F1++(G1++F'++G2)++F2:=by simp [List.append_assoc]
     rw [e]
     exact this
   obtain ⟨G1,Gj,G2,j1,j2,j3⟩:=key
   have hperm:(Gj++((g.AD v').block::((F1++G1)++(G2++F2)))).Perm (g.FP v'):=by
    rw [k1,q2,j1,List.perm_iff_count]
    intro b
    simp only [List.count_append,List.count_cons]
    omega
   have ht:=hI.dropTk hm (F:=Gj++((g.AD v').block::((F1++G1)++(G2++F2)))) (fun b hb=>hperm.mem_iff.1 hb) (hperm.nodup_iff.2 hnd)
   refine ⟨_,Gj,_,ht,TV.later ht.stp j2,sz,xs,vs,F1++G1,G2++F2,rfl,hm,hu,hvr,hsz,k2,k3,k4,j3.stable ⟨Nat.le_refl _,ht.stp.sameA.out,fun _ _ _=>rfl⟩⟩
 | _=>exact other fun X=>⟨rfl,trivial⟩
def CA (Z:Nat→Prop) (w:World) (g:G) (M0:Mem) (s:Nat→AV):List (Md×X)→List Value→List Nat→Prop
 | [],vs,R=>R=[]
 | (md,x)::as,vs,R=>∃ v vs' R1 R2,vs=v::vs'∧R=R1++R2∧(if md=.io then CX Z w g M0 (x.ev s) v R1 else R1=[])∧CA Z w g M0 s as vs' R2
theorem CX.stable {X X1:Nat→Prop} {w w1:World} {g:G} {M0:Mem} {a:AV} {u:Value} {R:List Nat} (h:CX X w g M0 a u R) (k:Same X X1 w w1 R) (hr:Rows w w1):CX X1 w1 g M0 a u R:=by
 have hsl:∀ x,slC g w x→slC g w1 x:=fun x h=>by
  cases x<;>simp only [slC] at h ⊢
  exact fun hv=>⟨(h hv).1,hr.rm (h hv).2⟩
 cases a with
 | agg xs=>exact ⟨h.1,fun x hx=>hsl x (h.2 x hx)⟩
 | ref l id r i j =>
  obtain ⟨sz,xs,vs,R1,R2,rfl,h1,h2,h3,h4,h5,h6,h7,h8⟩:=h
  refine ⟨sz,xs,vs,R1,R2,rfl,h1,h2,h3,h4,h5,hr.rm h6,h7.eq ?_,h8.stable k.tail⟩
  obtain ⟨cs,E,e,_⟩:=h6
  exact k.heap _ (Array.getElem?_eq_some_iff.1 e).1 (.inr List.mem_cons_self)
 | _=>exact ⟨h.1,hsl _ h.2⟩
theorem CA.stable {Z Z1:Nat→Prop} {w w1:World} {g:G} {M0:Mem}:∀ {as:List (Md×X)} {vs:List Value} {R:List Nat},CA Z w g M0 s as vs R→Same Z Z1 w w1 R→Rows w w1→CA Z1 w1 g M0 s as vs R
 | [],vs,R,h,_,_=>h
 | (md,x)::as,vs,R,h,k,hr=>by
  simp only [CA] at h ⊢
  obtain ⟨v,vs',R1,R2,rfl,rfl,h1,h2⟩:=h
  refine ⟨v,vs',R1,R2,rfl,rfl,?_,CA.stable h2 k.right hr⟩
  split at h1
  · rename_i hm;rw [if_pos hm];exact h1.stable k.left hr
  · rename_i hm;rw [if_neg hm];exact h1
theorem CX.move {X:Nat→Prop} {w:World} {g g':G} {M0 M1:Mem} {a:AV} {u:Value} {R:List Nat} (h:CX X w g M0 a u R) (hU:∀ x,g.U x→g'.U x) (hg:∀ id,g'.AD id=g.AD id∧g'.SZ id=g.SZ id∧g'.BS id=g.BS id∧(g'.VR id↔g.VR id))
 (hm:∀ l o,M0.m l=some o→M1.m l=some o):CX X w g' M1 a u R:=by
 have hsl:∀ x,slC g w x→slC g' w x:=fun x h=>by
  cases x<;>simp only [slC] at h ⊢
  rename_i l id off len sz
  obtain ⟨k1,k2,k3,k4⟩:=hg id
  intro hv
  rw [k1,k3]
  exact h fun q=>hv (k4.2 q)
 cases a with
 | agg xs=>exact ⟨h.1,fun x hx=>hsl x (h.2 x hx)⟩
 | ref l id r i j =>
  obtain ⟨sz,xs,vs,R1,R2,rfl,h1,h2,h3,h4,h5,h6,h7,h8⟩:=h
  obtain ⟨k1,k2,k3,k4⟩:=hg id
  exact ⟨sz,xs,vs,R1,R2,by rw [k1],hm _ _ h1,hU _ h2,fun q=>h3 (k4.1 q),by rw [k2];exact h4,by rw [k1];exact h5,by rw [k1,k3];exact h6,by rw [k1];exact h7,h8⟩
 | _=>exact ⟨h.1,hsl _ h.2⟩
theorem CA.move {Z:Nat→Prop} {w:World} {g g':G} {M0 M1:Mem} (hU:∀ x,g.U x→g'.U x) (hg:∀ id,g'.AD id=g.AD id∧g'.SZ id=g.SZ id∧g'.BS id=g.BS id∧(g'.VR id↔g.VR id))
 (hm:∀ l o,M0.m l=some o→M1.m l=some o):∀ {as:List (Md×X)} {vs:List Value} {R:List Nat},CA Z w g M0 s as vs R→CA Z w g' M1 s as vs R
 | [],vs,R,h=>h
 | (md,x)::as,vs,R,h=>by
  simp only [CA] at h ⊢
  obtain ⟨v,vs',R1,R2,rfl,rfl,h1,h2⟩:=h
  refine ⟨v,vs',R1,R2,rfl,rfl,?_,CA.move hU hg hm h2⟩
  split at h1
  · rename_i hm';rw [if_pos hm'];exact h1.move hU hg hm
  · rename_i hm';rw [if_neg hm'];exact h1
theorem Ze6:∀ (as:List (Md×X)) (g:G) (M:Mem) (vs:List Value) (ds:List D) (M1:Mem),Inv g Y M w→SVL g Y M w (as.map fun p=>p.2.ev s) vs→takA s as M=some (ds,M1) →
 ∃ g1 F R FR,Tk g Y M w g1 M1 FR∧FR.Perm (F++R)∧TA (XA g1 Y M1) w (as.map (·.1)) ds vs F∧CA (XA g1 Y M1) w g M s as vs R
 | [],g,M,vs,ds,M1,hI,hs,h=>by
  simp only [takA] at h
  cases h
  simp only [List.map_nil,SVL] at hs
  exact ⟨g,[],[],[],Tk.same hI,List.Perm.nil,by simp only [List.map_nil,TA];exact ⟨trivial,hs,trivial⟩,rfl⟩
 | (md,x)::as,g,M,vs,ds,M1,hI,hs,h=>by
  simp only [takA] at h
  simp only [List.map_cons,SVL] at hs
  obtain ⟨u,us,rfl,hu,hus⟩:=hs
  simp only [List.map_cons,TA,CA]
  split at h
  · rename_i hm
    split at h
    case h_2=>cases h
    rename_i d Ma h1
    split at h
    case h_2=>cases h
    rename_i ds' Mb h2
    cases h
    have hfirst:∃ g1 F R,Tk g Y M w g1 Ma (F++R)∧TV (XA g1 Y Ma) true w d u F∧(if md=.io then CX (XA g1 Y Ma) w g M (x.ev s) u R else R=[]):=by
     by_cases hio:md=.io
     · obtain ⟨g1,F,R,a1,a2,a3⟩:=Zqi hI hu h1
       exact ⟨g1,F,R,a1,a2,by rw [if_pos hio];exact a3⟩
     · obtain ⟨g1,F,a1,a2⟩:=ZbF 8 g M _ u d Ma hI hu h1
       exact ⟨g1,F,[],by simpa using a1,a2,by rw [if_neg hio]⟩
    obtain ⟨g1,F1,R1,t1,tv1,c1⟩:=hfirst
    obtain ⟨g2,F2,R2,FR,t2,pm,ta2,c2⟩:=Ze6 as g1 Ma us ds' M1 t1.inv (SVL.stp t1.stp _ _ hus) h2
    have hsame:Same (XA g1 Y Ma) (XA g2 Y M1) w w []:=⟨Nat.le_refl _,t2.stp.sameA.out,fun _ _ _=>rfl⟩
    have hsame':∀ R,Same (XA g1 Y Ma) (XA g2 Y M1) w w R:=fun R=>⟨Nat.le_refl _,t2.stp.sameA.out,fun _ _ _=>rfl⟩
    refine ⟨g2,F1++F2,R1++R2,_,t1.trans t2,?_,⟨u,us,rfl,?_⟩,u,us,R1,R2,rfl,rfl,?_,?_⟩
    · rw [List.perm_iff_count]
      intro b
      have:=(List.perm_iff_count.1 pm) b
      simp only [List.count_append] at this ⊢
      omega
    · rw [if_pos hm]
      exact ⟨d,ds',F1,F2,rfl,rfl,TV.later t2.stp tv1,ta2⟩
    · split at c1
      · rename_i hio;rw [if_pos hio];exact c1.stable (hsame' _) (Rows.same rfl)
      · rename_i hio;rw [if_neg hio];exact c1
    · have e:=t1.gh
      refine CA.move (fun x hx=>by rw [e] at hx;exact hx) (fun id=>by rw [e];exact ⟨rfl,rfl,rfl,Iff.rfl⟩) (fun l o hl=>t1.sub l o hl) c2
  · rename_i hm
    obtain ⟨g2,F2,R2,FR,t2,pm,ta2,c2⟩:=Ze6 as g M us ds M1 hI hus h
    refine ⟨g2,F2,R2,FR,t2,pm,⟨u,us,rfl,by rw [if_neg hm];exact ta2⟩,u,us,[],R2,rfl,rfl,?_,c2⟩
    rw [if_neg (fun e:md=.io=>hm (by rw [e];rfl))]
theorem Zf7 {g:G} {M:Mem} {n:Nat} {a:AV} {v:Value} {d:D} (hc:coldA1 a=true) (hs:SV g Y M w a v) (h:frz M n a=some d):TV (XA g Y M) false w d v []:=by
 cases n with
 | zero=>simp [frz] at h
 | succ n =>
  cases a with
  | dat e d0 =>
   cases e with
   | some e=>simp [coldA1] at hc
   | none=>simp only [frz,vD,if_true] at h;cases h;simpa only [SV] using hs
  | dp e d0 =>
   cases e with
   | some e=>simp [coldA1] at hc
   | none=>simp only [frz,vD,if_true] at h;cases h;simpa only [SV] using hs
  | nil sz=>simp only [frz] at h;cases h;simp only [SV] at hs;simp only [TV];exact .inl ⟨trivial,.inl hs,trivial⟩
  | _=>simp [coldA1] at hc
theorem Zde {g:G} {M:Mem} {n:Nat}:∀ {xs:List AV} {vs:List Value} {ds:List D},xs.all coldA1=true→SVL g Y M w xs vs→optL (xs.map (frz M n))=some ds→TL (XA g Y M) false w ds vs []
 | [],vs,ds,_,hs,h=>by
  simp only [List.map_nil,optL] at h
  cases h
  simp only [SVL] at hs
  simp only [TL]
  exact ⟨hs,trivial⟩
 | x::xs,vs,ds,hc,hs,h=>by
  simp only [List.all_cons,Bool.and_eq_true] at hc
  simp only [SVL] at hs
  obtain ⟨u,us,rfl,h1,h2⟩:=hs
  simp only [List.map_cons] at h
  cases hq:frz M n x with
  | none=>rw [hq] at h;simp [optL] at h
  | some d =>
   rw [hq] at h
   simp only [optL] at h
   cases hr:optL (xs.map (frz M n)) with
   | none=>rw [hr] at h;cases h
   | some ds' =>
    rw [hr] at h
    cases h
    simp only [TL]
    exact ⟨u,us,[],[],rfl,rfl,Zf7 hc.1 h1 hq,Zde hc.2 h2 hr⟩
theorem ZkZ {g:G} {M:Mem} {n:Nat} {a:AV} {v:Value} {d:D} (hc:coldA a=true) (hs:SV g Y M w a v) (h:frz M n a=some d):TV (XA g Y M) false w d v []:=by
 cases n with
 | zero=>simp [frz] at h
 | succ n =>
  cases a with
  | agg xs =>
   simp only [coldA] at hc
   simp only [frz] at h
   cases hr:optL (xs.map (frz M n)) with
   | none=>rw [hr] at h;cases h
   | some ds =>
    rw [hr] at h
    cases h
    simp only [SV] at hs
    obtain ⟨vs,rfl,hs⟩:=hs
    simp only [TV]
    exact ⟨vs,rfl,Zde hc hs hr⟩
  | tup xs =>
   simp only [coldA] at hc
   simp only [frz] at h
   cases hr:optL (xs.map (frz M n)) with
   | none=>rw [hr] at h;cases h
   | some ds =>
    rw [hr] at h
    cases h
    simp only [SV] at hs
    obtain ⟨vs,rfl,hs⟩:=hs
    simp only [TV]
    exact ⟨vs,rfl,Zde hc hs hr⟩
  | clo f xs =>
   simp only [coldA] at hc
   simp only [frz] at h
   cases hr:optL (xs.map (frz M n)) with
   | none=>rw [hr] at h;cases h
   | some ds =>
    rw [hr] at h
    cases h
    simp only [SV] at hs
    obtain ⟨vs,rfl,hs⟩:=hs
    simp only [TV]
    exact ⟨trivial,vs,rfl,Zde hc hs hr⟩
  | _=>first|exact Zf7 (by simpa only [coldA] using hc) hs h|(simp [coldA,coldA1] at hc;done)
theorem ZdV {X':Nat→Prop} {g:G} {M:Mem}:∀ (as:List (Md×X)) (vs:List Value) (ds all:List D) (F:List Nat),
 (∀ p∈as,p.1.own=false→∀ v d,SV g Y M w (p.2.ev s) v→frz M 8 (p.2.ev s)=some d→TV X' false w d v [])→SVL g Y M w (as.map fun p=>p.2.ev s) vs →
 TA X' w (as.map (·.1)) ds vs F→frzA s M as ds=some all→AR X' w (as.map (·.1)) all vs F
 | [],vs,ds,all,F,_,_,ht,h=>by
  simp only [frzA] at h
  cases h
  simp only [List.map_nil,TA] at ht
  simp only [List.map_nil,AR]
  exact ⟨trivial,ht.2⟩
 | (md,x)::as,vs,ds,all,F,hro,hs,ht,h=>by
  simp only [frzA] at h
  simp only [List.map_cons,SVL] at hs
  obtain ⟨u,us,rfl,hu,hus⟩:=hs
  simp only [List.map_cons,TA] at ht
  obtain ⟨v,vs',e,ht⟩:=ht
  simp only [List.cons.injEq] at e
  obtain ⟨rfl,rfl⟩:=e
  simp only [List.map_cons,AR]
  have hro':=fun p hp=>hro p (List.mem_cons_of_mem _ hp)
  split at h
  · rename_i hm
    rw [if_pos hm] at ht
    obtain ⟨d,ds',F1,F2,rfl,rfl,h1,h2⟩:=ht
    simp only at h
    cases hr:frzA s M as ds' with
    | none=>rw [hr] at h;cases h
    | some r =>
     rw [hr] at h
     cases h
     exact ⟨d,r,u,us,F1,F2,rfl,rfl,rfl,by rw [hm];exact h1,ZdV as us ds' r F2 hro' hus h2 hr⟩
  · rename_i hm
    rw [if_neg hm] at ht
    split at h
    · rename_i d r h1 h2
      cases h
      have hmf:md.own=false:=by simpa using hm
      exact ⟨d,r,u,us,[],F,rfl,rfl,rfl,by rw [hmf];exact hro (md,x) List.mem_cons_self hmf u d hu h1,ZdV as us ds r F hro' hus ht h2⟩
    · cases h
end
end Go.Vm
namespace Go.Vm
open Go
set_option linter.unusedSimpArgs false
set_option linter.unusedVariables false
section
variable {Y:Nat→Prop} {w:World} {nb ib:Nat} {s:Nat→AV}
def ioV1:AV→List Nat
 | .ptr _ v _ _|.sl _ v _ _ _|.ref _ v _ _ _=>[v]
 | _=>[]
def ioV:AV→List Nat
 | .agg xs=>(xs.map ioV1).flatten
 | a=>ioV1 a
def ioVers (s:Nat→AV):List (Md×X)→List Nat
 | []=>[]
 | (md,x)::as=>(if md=.io then ioV (x.ev s) else [])++ioVers s as
theorem AO.stable {X X':Nat→Prop} {w w':World}:∀ {ms:List Md} {ds:List D} {vs:List Value} {F:List Nat},AO X w ms ds vs F→Same X X' w w' F→AO X' w' ms ds vs F
 | [],ds,vs,F,h,_=>by simpa only [AO] using h
 | m::ms,ds,vs,F,h,hs=>by
  simp only [AO] at h ⊢
  obtain ⟨v,vs',rfl,h⟩:=h
  refine ⟨v,vs',rfl,?_⟩
  split at h
  · rename_i hm
    rw [if_pos hm]
    obtain ⟨d,ds',F1,F2,rfl,rfl,h1,h2⟩:=h
    exact ⟨d,ds',F1,F2,rfl,rfl,TV.stable d v F1 h1 hs.left,AO.stable h2 hs.right⟩
  · rename_i hm
    rw [if_neg hm]
    exact AO.stable h hs
def DJ (M:Mem):Prop:=∀ l l' o o',M.m l=some o→M.m l'=some o'→l≠l'→o.ver≠o'.ver
theorem DJ.sub {M M1:Mem} (h:DJ M) (hs:∀ l o,M1.m l=some o→M.m l=some o):DJ M1:=fun l l' o o' h1 h2=>h l l' o o' (hs _ _ h1) (hs _ _ h2)
theorem Zof {n:Nat} {a:AV} {M M1:Mem} {d:D} {v:Nat} (h:tak n a M=some (d,M1)) (hv:v∈ioV1 a):∃ l o,M.m l=some o∧o.ver=v∧M1.m l=none:=by
 cases n with
 | zero=>simp [tak] at h
 | succ n =>
  cases a with
  | ptr l v' i j =>
   simp only [ioV1,List.mem_singleton] at hv
   subst hv
   simp only [tak] at h
   split at h
   case h_2=>cases h
   rename_i v'' x hm
   split at h
   case isFalse=>cases h
   rename_i hc
   split at h
   case h_2=>cases h
   rename_i d' M2 h1
   cases h
   refine ⟨l,_,hm,hc.1,?_⟩
   cases hq:M1.m l with
   | none=>rfl
   | some o =>
    obtain ⟨Mc',_,r⟩:=Zbq n x _ _ _ d' h1 (Le.refl _)
    rcases r.m l with ⟨q,_,_⟩|⟨q,_⟩
    · rw [q] at hq;cases hq
    · rw [q] at hq;simp [Mem.set,upd] at hq
  | sl l v' off len sz =>
   simp only [ioV1,List.mem_singleton] at hv
   subst hv
   simp only [tak] at h
   split at h
   case h_2=>cases h
   rename_i hm
   split at h
   case isFalse=>cases h
   rename_i hc
   cases h
   exact ⟨l,_,hm,hc.1,Zb4⟩
  | ref l v' r i j =>
   simp only [ioV1,List.mem_singleton] at hv
   subst hv
   simp only [tak] at h
   split at h
   case isFalse=>cases h
   split at h
   case h_2=>cases h
   rename_i own d' hp
   split at h
   case isFalse=>cases h
   cases h
   simp only [placeD] at hp
   split at hp
   case h_2=>cases hp
   rename_i hm
   split at hp
   case isFalse=>cases hp
   rename_i hc
   exact ⟨l,_,hm,hc,Zb4⟩
  | _=>simp [ioV1] at hv
theorem ZgI (a:AV):(ioV1 a).Nodup:=by cases a<;>simp [ioV1]
theorem Zj3 {n:Nat} {a:AV} {M M1:Mem} {d:D} (hd:DJ M) (h:tak n a M=some (d,M1)):∀ v∈ioV1 a,(∃ l o,M.m l=some o∧o.ver=v)∧∀ l o,M1.m l=some o→o.ver≠v:=by
 intro v hv
 obtain ⟨l,o,e1,e2,e3⟩:=Zof h hv
 refine ⟨⟨l,o,e1,e2⟩,fun l' o' h'=>?_⟩
 have hne:l'≠l:=fun e=>by rw [e,e3] at h';cases h'
 have:=hd l' l o' o (Ze0 h l' o' h') e1 hne
 rwa [e2] at this
theorem Zkp {n:Nat}:∀ {xs:List AV} {M M1:Mem} {ds:List D},takL (tak n) xs M=some (ds,M1)→∀ l o,M1.m l=some o→M.m l=some o
 | [],M,M1,ds,h=>by simp only [takL] at h;cases h;exact fun _ _ h=>h
 | x::xs,M,M1,ds,h=>by
  simp only [takL] at h
  split at h
  case h_2=>cases h
  rename_i d M' h1
  split at h
  case h_2=>cases h
  rename_i ds' M'' h2
  cases h
  exact fun l o k=>Ze0 h1 l o (Zkp h2 l o k)
theorem ZjY {n:Nat}:∀ {xs:List AV} {M M1:Mem} {ds:List D},DJ M→takL (tak n) xs M=some (ds,M1) →
 (∀ v∈(xs.map ioV1).flatten,(∃ l o,M.m l=some o∧o.ver=v)∧∀ l o,M1.m l=some o→o.ver≠v)∧((xs.map ioV1).flatten).Nodup
 | [],M,M1,ds,hd,h=>by simp
 | x::xs,M,M1,ds,hd,h=>by
  simp only [takL] at h
  split at h
  case h_2=>cases h
  rename_i d M' h1
  split at h
  case h_2=>cases h
  rename_i ds' M'' h2
  cases h
  have key:=Zj3 hd h1
  obtain ⟨q1,q2⟩:=ZjY (hd.sub (Ze0 h1)) h2
  simp only [List.map_cons,List.flatten_cons]
  refine ⟨fun v hv=>?_,List.nodup_append.2 ⟨ZgI x,q2,fun a ha b hb e=>?_⟩⟩
  · rcases List.mem_append.1 hv with hv|hv
    · exact ⟨(key v hv).1,fun l o h=>(key v hv).2 l o (Zkp h2 l o h)⟩
    · obtain ⟨⟨l,o,e1,e2⟩,e3⟩:=q1 v hv
      exact ⟨⟨l,o,Ze0 h1 l o e1,e2⟩,e3⟩
  · subst e
    obtain ⟨⟨l,o,e1,e2⟩,_⟩:=q1 a hb
    exact (key a ha).2 l o e1 e2
theorem ZpP {n:Nat} {a:AV} {M M1:Mem} {d:D} (hd:DJ M) (h:tak n a M=some (d,M1)):(∀ v∈ioV a,(∃ l o,M.m l=some o∧o.ver=v)∧∀ l o,M1.m l=some o→o.ver≠v)∧(ioV a).Nodup:=by
 cases a with
 | agg xs =>
  cases n with
  | zero=>simp [tak] at h
  | succ n =>
   simp only [tak] at h
   split at h
   case h_2=>cases h
   rename_i ds M' h1
   cases h
   exact ZjY hd h1
 | _=>simp only [ioV];exact ⟨Zj3 hd h,ZgI _⟩
theorem ZfQ:∀ (as:List (Md×X)) (M:Mem) (ds:List D) (M1:Mem),DJ M→takA s as M=some (ds,M1) →
 (∀ v∈ioVers s as,(∃ l o,M.m l=some o∧o.ver=v)∧∀ l o,M1.m l=some o→o.ver≠v)∧(ioVers s as).Nodup∧∀ l o,M1.m l=some o→M.m l=some o
 | [],M,ds,M1,hd,h=>by
  simp only [takA] at h
  cases h
  exact ⟨by simp [ioVers],by simp [ioVers],fun _ _ h=>h⟩
 | (md,x)::as,M,ds,M1,hd,h=>by
  simp only [takA] at h
  split at h
  · rename_i hm
    split at h
    case h_2=>cases h
    rename_i d Ma h1
    split at h
    case h_2=>cases h
    rename_i ds' Mb h2
    cases h
    have hs1:=Ze0 h1
    obtain ⟨q1,q2,q3⟩:=ZfQ as Ma ds' M1 (hd.sub hs1) h2
    obtain ⟨key,kn⟩:=ZpP hd h1
    refine ⟨fun v hv=>?_,?_,fun l o h=>hs1 l o (q3 l o h)⟩
    · simp only [ioVers,List.mem_append] at hv
      rcases hv with hv|hv
      · split at hv
        · exact ⟨(key v hv).1,fun l o h=>(key v hv).2 l o (q3 l o h)⟩
        · cases hv
      · obtain ⟨⟨l,o,e1,e2⟩,e3⟩:=q1 v hv
        exact ⟨⟨l,o,hs1 l o e1,e2⟩,e3⟩
    · simp only [ioVers]
      refine List.nodup_append.2 ⟨?_,q2,fun a ha b hb e=>?_⟩
      · split
        · exact kn
        · simp
      · subst e
        split at ha
        · obtain ⟨⟨l,o,e1,e2⟩,_⟩:=q1 a hb
          exact (key a ha).2 l o e1 e2
        · cases ha
  · rename_i hm
    obtain ⟨q1,q2,q3⟩:=ZfQ as M ds M1 hd h
    have hne:md≠.io:=fun e=>hm (by rw [e];rfl)
    exact ⟨by simpa [ioVers,hne] using q1,by simpa [ioVers,hne] using q2,q3⟩
mutual
theorem Zgd:∀ (d:D) (k:Nat) (M:Mem) (l:Nat) (o:Obj),(bindD nb ib d k M).2.2.m l=some o→M.m l=some o∨∃ j,k≤j∧j < (bindD nb ib d k M).2.1∧o.ver=ib+j
 | .sl sz xs,k,M,l,o,h=>by
  simp only [bindD] at h ⊢
  by_cases e:l=nb+k
  · subst e;rw [Zb4] at h;cases h;exact .inr ⟨k,Nat.le_refl _,Nat.lt_succ_self _,rfl⟩
  · rw [Zbj e] at h;exact .inl h
 | .rs sz xs,k,M,l,o,h=>.inl (by simpa only [bindD] using h)
 | .agg fs,k,M,l,o,h=>by simp only [bindD] at h ⊢;exact bindL_objs fs k M l o h
 | .tup fs,k,M,l,o,h=>by simp only [bindD] at h ⊢;exact bindL_objs fs k M l o h
 | .ptr d,k,M,l,o,h=>by
  have hm:=Za2 (nb:=nb) (ib:=ib) d (k+1) M
  have ih:=Zgd d (k+1) M l o
  simp only [bindD] at h ⊢
  rcases hq:bindD nb ib d (k+1) M with ⟨x,k',M'⟩
  rw [hq] at h hm ih
  simp only at h hm ih ⊢
  by_cases e:l=nb+k
  · subst e;rw [Zb4] at h;cases h;exact .inr ⟨k,Nat.le_refl _,by omega,rfl⟩
  · rw [Zbj e] at h
    rcases ih h with h|⟨j,h1,h2,h3⟩
    · exact .inl h
    · exact .inr ⟨j,by omega,h2,h3⟩
 | .clo _ _,k,M,l,o,h=>.inl (by simpa only [bindD] using h)
 | .int _ _,k,M,l,o,h=>.inl (by simpa only [bindD] using h)
 | .bool _,k,M,l,o,h=>.inl (by simpa only [bindD] using h)
 | .str _,k,M,l,o,h=>.inl (by simpa only [bindD] using h)
 | .nili,k,M,l,o,h=>.inl (by simpa only [bindD] using h)
 | .ifc,k,M,l,o,h=>.inl (by simpa only [bindD] using h)
 | .anyb,k,M,l,o,h=>.inl (by simpa only [bindD] using h)
 | .dead,k,M,l,o,h=>.inl (by simpa only [bindD] using h)
theorem bindL_objs:∀ (ds:List D) (k:Nat) (M:Mem) (l:Nat) (o:Obj),(bindL nb ib ds k M).2.2.m l=some o→M.m l=some o∨∃ j,k≤j∧j < (bindL nb ib ds k M).2.1∧o.ver=ib+j
 | [],k,M,l,o,h=>.inl (by simpa only [bindL] using h)
 | d::ds,k,M,l,o,h=>by
  have m1:=Za2 (nb:=nb) (ib:=ib) d k M
  have m2:=bindL_mono (nb:=nb) (ib:=ib) ds (bindD nb ib d k M).2.1 (bindD nb ib d k M).2.2
  simp only [bindL] at h ⊢
  rcases bindL_objs ds _ _ l o h with h|⟨j,h1,h2,h3⟩
  · rcases Zgd d k M l o h with h|⟨j,h1,h2,h3⟩
    · exact .inl h
    · exact .inr ⟨j,h1,Nat.lt_of_lt_of_le h2 m2,h3⟩
  · exact .inr ⟨j,Nat.le_trans m1 h1,h2,h3⟩
end
theorem Zgh {M0:Mem} {a:AV} {d:D} {k k':Nat} {M M':Mem} (h:putX M0 nb ib a d k M=some (k',M')):k≤k':=by
 cases a<;>simp only [putX,Option.map_eq_some_iff,Prod.mk.injEq] at h<;>try (obtain ⟨_,_,rfl,_⟩:=h;exact Nat.le_refl _)
 · split at h
   · split at h
     · cases h;exact Za2 _ _ _
     · cases h
   · cases h
 · split at h
   · split at h
     · split at h
       · cases h;exact Nat.le_refl _
       · cases h
     · cases h
   · cases h
 · split at h
   · simp only [Option.map_eq_some_iff,Prod.mk.injEq] at h
     obtain ⟨_,_,rfl,_⟩:=h
     exact Nat.le_refl _
   · cases h
theorem Zc4 {M0:Mem}:∀ (as:List (Md×X)) (M:Mem) (outs:List D) (k k':Nat) (M':Mem),putA s nb ib M0 as outs k M=some (k',M')→k≤k'
 | [],M,outs,k,k',M',h=>by simp only [putA] at h;cases h;exact Nat.le_refl _
 | (md,x)::as,M,outs,k,k',M',h=>by
  simp only [putA] at h
  split at h
  · split at h
    · split at h
      · rename_i hx;exact Nat.le_trans (Zgh hx) (Zc4 as _ _ _ _ _ h)
      · cases h
    · cases h
  · exact Zc4 as _ _ _ _ _ h
theorem Bd.eqv {g g':G} {M M':Mem} {k k':Nat} {F F':List Nat} (h:Bd g Y M w ib k k' F g' M') (e:∀ b,b∈F'↔b∈F):Bd g Y M w ib k k' F' g' M' :=
 ⟨h.inv,h.stp,h.u,fun b q=>⟨(h.p1 b q).1,fun k=>(h.p1 b q).2 ((e b).1 k)⟩,fun b q k=>h.p2 b q fun z=>k ((e b).2 z),fun b q k=>h.pb2 b q fun z=>k ((e b).2 z)⟩
theorem Bd.drop {g:G} {M:Mem} (hI:Inv g Y M w) (k:Nat) (F:List Nat):∃ g',Bd g Y M w ib k k F g' M∧g' = { g with P:=g'.P,PB:=g'.PB }:=by
 obtain ⟨h1,h2⟩:=Inv.sub (g':={ g with P:=fun b=>g.P b∧b ∉ F,PB:=fun b=>g.PB b∧b ∉ F }) hI (fun _ _ h=>h) rfl (fun b h=>.inl h.1) (fun b h=>.inl h.1) (fun b h=>⟨hI.pb b h.1,h.2⟩)
  (fun b h l o ho=>hI.pd b h.1 l o ho) (Nat.le_refl _) (Nat.le_refl _)
 exact ⟨_,⟨h1,h2,fun i h=>.inl h,fun b h=>h,fun b h k=>⟨h,k⟩,fun b h k=>⟨h,k⟩⟩,rfl⟩
theorem rowPut {g:G} {M:Mem} {l id sz:Nat} {xs:List D} {vs:List Value} {F':List Nat} {k:Nat} (hI:Inv g Y M w) (hU:g.U id) (hv:¬ g.VR id) (hz:g.SZ id=sz) (hsp:(g.AD id).spot=none)
 (hr:RM w (g.AD id) (g.BS id)) (hc:CL w (g.AD id) vs) (ht:TE (XA g Y M) true w sz xs vs F') (hP:∀ b∈(g.AD id).block::F',g.P b∧g.PB b) (hn:((g.AD id).block::F').Nodup)
 (hno:∀ l o,M.m l=some o→o.ver≠id):∃ g',Bd g Y M w ib k k ((g.AD id).block::F') g' (M.set l (some (.arr id true sz xs))).tickR:=by
 obtain ⟨i2,s2⟩:=hI.put (l:=l) (id:=id) (fp:=(g.AD id).block::F') (o:=.arr id true sz xs) (M':=(M.set l (some (.arr id true sz xs))).tickR) rfl rfl (Nat.le_succ _) (fun _=>Nat.succ_ne_self _) rfl hU hno
  (fun b hb=>(hP b hb).1) (fun b hb _=>(hP b hb).2) (fun st=>by
   simp only [OB]
   refine ⟨hU,hz,by simpa [G.put,upd] using hn,.inr ⟨hv,vs,F',by simp [G.put,upd],hsp,hr,hc,TE.stable xs vs F' ht ⟨Nat.le_refl _,st.sameA.out,fun _ _ _=>rfl⟩⟩⟩)
 exact ⟨_,⟨i2,s2,fun i h=>.inl h,fun b h=>h,fun b h hb=>⟨h,hb⟩,fun b h hb=>⟨h,hb⟩⟩⟩
theorem rowPut0 {g:G} {M:Mem} {l id sz k:Nat} (hI:Inv g Y M w) (hU:g.U id) (hv:g.VR id) (hz:g.SZ id=sz) (hno:∀ l o,M.m l=some o→o.ver≠id) :
 ∃ g',Bd g Y M w ib k k [] g' (M.set l (some (.arr id true sz []))).tickR:=by
 obtain ⟨i2,s2⟩:=hI.put (l:=l) (id:=id) (fp:=[]) (o:=.arr id true sz []) (M':=(M.set l (some (.arr id true sz []))).tickR) rfl rfl (Nat.le_succ _) (fun _=>Nat.succ_ne_self _) rfl hU hno
  (by simp) (by simp) (fun st=>by
   simp only [OB]
   exact ⟨hU,hz,by simp [G.put,upd],.inl ⟨hv,trivial,by simp [G.put,upd]⟩⟩)
 exact ⟨_,⟨i2,s2,fun i h=>.inl h,fun b h=>⟨h.1,by simp⟩,fun b h hb=>⟨h,hb⟩,fun b h hb=>⟨h,hb⟩⟩⟩
def NewO (M M':Mem) (vs:List Nat) (ib k k':Nat):Prop:=∀ l o,M'.m l=some o→M.m l=some o∨o.ver∈vs∨∃ j,k≤j∧j < k'∧o.ver=ib+j
theorem NewO.set {M:Mem} {l:Nat} {o:Obj} {vs:List Nat} {k:Nat} (h:o.ver∈vs):NewO M (M.set l (some o)).tickR vs ib k k:=fun l' o' h'=>by
 have h':(M.set l (some o)).m l'=some o':=h'
 by_cases e:l'=l
 · subst e;rw [Zb4] at h';cases h';exact .inr (.inl h)
 · rw [Zbj e] at h';exact .inl h'
theorem ZfH {g:G} {M M':Mem} {a:AV} {u:Value} {d:D} {F:List Nat} {k:Nat} (hI:Inv g Y M w) (hs:SV g Y M w a u) (hc:slC g w a) (ht:TV (XA g Y M) true w d u F) (hP:∀ b∈F,g.P b∧g.PB b) (hn:F.Nodup)
 (hno:∀ v∈ioV1 a,∀ l o,M.m l=some o→o.ver≠v) (h:putV1 a d M=some M'):(∃ g',Bd g Y M w ib k k F g' M')∧NewO M M' (ioV1 a) ib k k:=by
 have dropped:(∃ g',Bd g Y M w ib k k F g' M)∧NewO M M (ioV1 a) ib k k:=by
  obtain ⟨g',b,_⟩:=Bd.drop (ib:=ib) hI k F
  exact ⟨⟨g',b⟩,fun l o h=>.inl h⟩
 cases a with
 | sl l id off len sz =>
  simp only [putV1] at h
  split at h
  case h_2=>cases h
  rename_i sz' ys
  split at h
  case isFalse=>cases h
  rename_i hcond
  obtain ⟨rfl,rfl,hlen⟩:=hcond
  cases h
  refine ⟨?_,NewO.set (by simp [ioV1,Obj.ver])⟩
  simp only [SV] at hs
  obtain ⟨hU,hz,hs⟩:=hs
  have hno':=hno id (by simp [ioV1])
  rcases hs with ⟨hvr,rfl,rfl,_⟩|⟨hvr,a,c,rfl,h2,h3,h4,h5,h6⟩
  · obtain rfl:=List.length_eq_zero_iff.1 hlen
    simp only [TV] at ht
    rcases ht with ⟨_,_,rfl⟩|⟨a,c,vs,e,_⟩
    · exact rowPut0 hI hU hvr hz hno'
    · cases e
  · obtain ⟨hsp,hrm⟩:=hc hvr
    simp only [TV] at ht
    rcases ht with ⟨rfl,hnv,rfl⟩|⟨a',c',vs,e,e2,e3,e4,hcl,hq⟩
    · rcases hnv.own with e
      cases e
    · cases e
      rcases hq with ⟨_,F',rfl,hr',hte⟩|⟨ho,_⟩
      case inr=>cases ho
      rw [h3] at hP hn ⊢
      refine rowPut hI hU hvr hz hsp hrm ?_ hte hP hn hno'
      rcases h5 with h5|h5
      · subst h5
        have:ys=[]:=List.length_eq_zero_iff.1 (by omega)
        subst this
        simp only [TE] at hte
        rw [hte.1]
        intro k v hk
        simp at hk
      · rw [h5] at hcl
        simpa [Addr.add] using hcl
 | nil sz=>simp only [putV1] at h;cases h;exact dropped
 | dat e d0 =>
  cases e with
  | none=>simp only [putV1] at h;cases h;exact dropped
  | some e=>simp [putV1] at h
 | _=>simp [putV1] at h
theorem slC.stp {g g':G} {M M':Mem} {a:AV} {u:Value} (hs:SV g Y M w a u) (st:Stp g M w g' M' w) (h:slC g w a):slC g' w a:=by
 cases a<;>simp only [slC] at h ⊢
 simp only [SV] at hs
 obtain ⟨k1,k2,k3,k4,k5⟩:=st.gh _ hs.1
 rw [k2,k4]
 exact fun hv=>h fun q=>hv (k5.2 q)
theorem Bd.fresh {g g':G} {M M':Mem} {k k':Nat} {F:List Nat} {us vs:List Nat} (b:Bd g Y M w ib k k' F g' M') (hn:NewO M M' us ib k k') (hu:∀ j,k≤j→j < k'→¬ g.U (ib+j))
 (hd:∀ v∈vs,v ∉ us) (hv:∀ v∈vs,g.U v∧∀ l o,M.m l=some o→o.ver≠v):∀ v∈vs,g'.U v∧∀ l o,M'.m l=some o→o.ver≠v:=fun v hvs=>by
 obtain ⟨q1,q2⟩:=hv v hvs
 refine ⟨(b.stp.gh v q1).1,fun l o ho e=>?_⟩
 rcases hn l o ho with h|h|⟨j,j1,j2,j3⟩
 · exact q2 l o h e
 · exact hd v hvs (e▸h)
 · exact hu j j1 j2 (by rw [← j3,e];exact q1)
theorem NewO.trans {M M1 M2:Mem} {us vs:List Nat} {k k1 k2:Nat} (a:NewO M M1 us ib k k1) (b:NewO M1 M2 vs ib k1 k2) (h1:k≤k1) (h2:k1≤k2):NewO M M2 (us++vs) ib k k2:=fun l o h=>by
 rcases b l o h with h|h|⟨j,j1,j2,j3⟩
 · rcases a l o h with h|h|⟨j,j1,j2,j3⟩
   · exact .inl h
   · exact .inr (.inl (List.mem_append_left _ h))
   · exact .inr (.inr ⟨j,j1,by omega,j3⟩)
 · exact .inr (.inl (List.mem_append_right _ h))
 · exact .inr (.inr ⟨j,by omega,j2,j3⟩)
theorem xaSame {g g':G} {M M':Mem} {F:List Nat} (st:Stp g M w g' M' w):Same (XA g Y M) (XA g' Y M') w w F:=⟨Nat.le_refl _,st.sameA.out,fun _ _ _=>rfl⟩
theorem ZgV {k:Nat}:∀ {xs:List AV} {us:List Value} {ds:List D} {g:G} {M M':Mem} {F:List Nat},Inv g Y M w→SVL g Y M w xs us→(∀ x∈xs,slC g w x)→TL (XA g Y M) true w ds us F →
 (∀ b∈F,g.P b∧g.PB b)→F.Nodup→(∀ v∈(xs.map ioV1).flatten,g.U v∧∀ l o,M.m l=some o→o.ver≠v)→((xs.map ioV1).flatten).Nodup→putL xs ds M=some M' →
 (∃ g',Bd g Y M w ib k k F g' M')∧NewO M M' ((xs.map ioV1).flatten) ib k k
 | [],us,ds,g,M,M',F,hI,hs,hc,ht,hP,hn,hv,hvn,h=>by
  simp only [putL] at h
  cases h
  obtain ⟨g',b,_⟩:=Bd.drop (ib:=ib) hI k F
  exact ⟨⟨g',b⟩,fun l o h=>.inl h⟩
 | x::xs,us,ds,g,M,M',F,hI,hs,hc,ht,hP,hn,hv,hvn,h=>by
  simp only [putL] at h
  split at h
  case h_2=>cases h
  rename_i d ds'
  split at h
  case h_2=>cases h
  rename_i M1 h1
  simp only [SVL] at hs
  obtain ⟨u,us',rfl,hu,hus⟩:=hs
  simp only [TL] at ht
  obtain ⟨u2,us2,F1,F2,e,rfl,t1,t2⟩:=ht
  simp only [List.cons.injEq] at e
  obtain ⟨rfl,rfl⟩:=e
  obtain ⟨n1,n2,n3⟩:=List.nodup_append.1 hn
  simp only [List.map_cons,List.flatten_cons] at hv hvn ⊢
  obtain ⟨m1,m2,m3⟩:=List.nodup_append.1 hvn
  obtain ⟨⟨g1,b1⟩,o1⟩:=ZfH (ib:=ib) (k:=k) hI hu (hc x List.mem_cons_self) t1 (fun b hb=>hP b (List.mem_append_left _ hb)) n1 (fun v hvv=>(hv v (List.mem_append_left _ hvv)).2) h1
  obtain ⟨⟨g2,b2⟩,o2⟩:=ZgV (k:=k) b1.inv (SVL.stp b1.stp _ _ hus) (fun y hy=>by
   obtain ⟨uy,_,hsy⟩:∃ uy,True∧SV g Y M w y uy:=by
    obtain ⟨j,hj⟩:=List.getElem?_of_mem hy
    obtain ⟨uy,_,q⟩:=SVL.get hus hj
    exact ⟨uy,trivial,q⟩
   exact (hc y (List.mem_cons_of_mem _ hy)).stp hsy b1.stp) (TL.stable _ _ _ t2 (xaSame b1.stp)) (fun b hb=>by
   have hnb:b ∉ F1:=fun q=>n3 b q b hb rfl
   have hp:=hP b (List.mem_append_right _ hb)
   exact ⟨b1.p2 b hp.1 hnb,b1.pb2 b hp.2 hnb⟩) n2 (b1.fresh o1 (fun j h1 h2=>by omega) (fun v hvv q=>m3 v q v hvv rfl) fun v hvv=>hv v (List.mem_append_right _ hvv)) m2 h
  exact ⟨⟨g2,b1.trans b2 (Nat.le_refl _) (Nat.le_refl _)⟩,o1.trans o2 (Nat.le_refl _) (Nat.le_refl _)⟩
theorem Zk5 {g:G} {M0 M M':Mem} {a:AV} {u:Value} {d:D} {F R:List Nat} {k k':Nat} (hI:Inv g Y M w) (hs:SV g Y M w a u) (hc:CX (XA g Y M) w g M0 a u R) (ht:TV (XA g Y M) true w d u F)
 (hP:∀ b∈F++R,g.P b∧g.PB b) (hn:(F++R).Nodup) (hv:∀ v∈ioV a,g.U v∧∀ l o,M.m l=some o→o.ver≠v) (hvn:(ioV a).Nodup) (h:putX M0 nb ib a d k M=some (k',M'))
 (hu:∀ j,k≤j→j < k'→¬ g.U (ib+j)):(∃ g',Bd g Y M w ib k k' (F++R) g' M')∧NewO M M' (ioV a) ib k k':=by
 have simple:R=[]∧slC g w a→ioV a=ioV1 a→putX M0 nb ib a d k M=(putV1 a d M).map (k,·)→(∃ g',Bd g Y M w ib k k' (F++R) g' M')∧NewO M M' (ioV a) ib k k':=by
  rintro ⟨rfl,hsl⟩ e1 e2
  rw [e2] at h
  simp only [Option.map_eq_some_iff,Prod.mk.injEq] at h
  obtain ⟨M1,h,rfl,rfl⟩:=h
  rw [e1] at hv ⊢
  rw [List.append_nil] at hP hn ⊢
  exact ZfH hI hs hsl ht hP hn (fun v q=>(hv v q).2) h
 cases a with
 | agg xs =>
  obtain ⟨rfl,hsl⟩:=hc
  simp only [putX] at h
  split at h
  case h_2=>cases h
  rename_i ds
  simp only [Option.map_eq_some_iff,Prod.mk.injEq] at h
  obtain ⟨M1,h,rfl,rfl⟩:=h
  simp only [SV] at hs
  obtain ⟨us,rfl,hs⟩:=hs
  simp only [TV] at ht
  obtain ⟨us',e,ht⟩:=ht
  have e:us'=us:=by simpa using e.symm
  subst e
  rw [List.append_nil] at hP hn ⊢
  exact ZgV hI hs hsl ht hP hn hv hvn h
 | ref l id r i j =>
  obtain ⟨sz,xs,vs,R1,R2,rfl,h1,h2,h3,h4,h5,h6,h7,h8⟩:=hc
  simp only [putX,h1,true_and] at h
  split at h
  case isFalse=>cases h
  rename_i hag
  split at h
  case h_2=>cases h
  rename_i x' hx'
  cases h
  have hte:=h8 _ w ⟨Nat.le_refl _,fun _ _ h=>h,fun _ _ _=>rfl⟩ d F x' ht hag hx'
  have hmem:∀ b,b∈F++(g.AD id).block::(R1++R2)↔b∈(g.AD id).block::(R1++F++R2):=by intro b;simp;grind
  have hperm:((g.AD id).block::(R1++F++R2)).Perm (F++(g.AD id).block::(R1++R2)):=by
   rw [List.perm_iff_count]
   intro b
   simp only [List.count_append,List.count_cons]
   omega
  obtain ⟨g',b⟩:=rowPut (ib:=ib) (k:=k) (l:=l) hI h2 h3 h4 h5 h6 h7 hte (fun b hb=>hP b ((hmem b).2 hb)) (hperm.nodup_iff.2 hn) (hv id (by simp [ioV,ioV1])).2
  exact ⟨⟨g',b.eqv hmem⟩,NewO.set (by simp [ioV,ioV1,Obj.ver])⟩
 | ptr l v i j =>
  obtain ⟨rfl,_⟩:=hc
  simp only [putX] at h
  split at h
  case h_2=>cases h
  rename_i d
  split at h
  case isFalse=>cases h
  rename_i hij
  obtain ⟨rfl,rfl⟩:=hij
  simp only [Option.some.injEq,Prod.mk.injEq] at h
  obtain ⟨h,hM⟩:=h
  simp only [SV,Option.getD_none,Nat.zero_mul,Nat.add_zero] at hs
  obtain ⟨hU,hVR,hval⟩:=hs
  subst hval
  obtain ⟨a,cs,e1,hsp,hlt,hc,h5⟩:=Zav.1 ht
  simp only [Value.pointer.injEq,Option.some.injEq] at e1
  have e1:a=g.AD v:=by rw [← e1];simp [Addr.add]
  subst e1
  rcases h5 with ⟨_,F',rfl,hr,htc⟩|⟨ho,_⟩
  case inr=>cases ho
  rw [List.append_nil] at hP hn ⊢
  have hvalx:∃ u,TV (XA g Y M) true w d u F'∧u.cells.toList=cs:=by
   cases hd:isAgD d with
   | true =>
    cases d<;>simp [isAgD] at hd
    exact ⟨.agg cs.toArray,by simp only [TV];exact ⟨cs,rfl,htc⟩,by simp [Value.cells]⟩
   | false =>
    obtain ⟨u,rfl,hu'⟩:=(TC.mk hd).1 htc
    exact ⟨u,hu',by rw [TV.noag hd hu']⟩
  obtain ⟨u,hu1,hu2⟩:=hvalx
  have hbs:=ZcB (Y:=Y) (nb:=nb) (ib:=ib) d k g M u F' hI hu1 (fun b hb=>hP b (by simp [hb])) (List.nodup_cons.1 hn).2
  have hobj:=Zgd (nb:=nb) (ib:=ib) d k M
  rcases hq:bindD nb ib d k M with ⟨xa,k1,M1⟩
  rw [hq] at hbs hobj h hM
  simp only at hbs hobj h hM
  subst h hM
  obtain ⟨g1,b1,sv1,bad1⟩:=hbs hu
  obtain ⟨hUv,hnov⟩:=hv v (by simp [ioV,ioV1])
  have hAD:=b1.stp.gh v hUv
  have hb0:=hP _ (List.mem_cons_self (a:=(g.AD v).block) (l:=F'))
  have hbF:=(List.nodup_cons.1 hn).1
  have hno1:∀ l' o',M1.m l'=some o'→o'.ver≠v:=by
   intro l' o' h' e
   rcases hobj l' o' h' with h'|⟨j,j1,j2,j3⟩
   · exact hnov l' o' h' e
   · exact hu j j1 (by omega) (by rw [← j3,e];exact hUv)
  obtain ⟨i2,s2⟩:=b1.inv.put (l:=l) (id:=v) (fp:=[(g.AD v).block]) (o:=.box v xa) (M':=M1.set l (some (.box v xa))) rfl rfl (Nat.le_refl _) (by simp [isArrO]) rfl hAD.1 hno1
   (fun b hb=>by rw [List.mem_singleton.1 hb];exact b1.p2 _ hb0.1 hbF) (fun b hb _=>by rw [List.mem_singleton.1 hb];exact b1.pb2 _ hb0.2 hbF) (fun st=>by
    simp only [OB]
    have eAD:(g1.put v [(g.AD v).block]).AD v=g.AD v:=hAD.2.1
    rw [eAD]
    refine ⟨hAD.1,fun h=>hVR (hAD.2.2.2.2.1 h),by simp [G.put,upd],hsp,bad1,u,?_,?_,SV.stp st _ _ sv1⟩
    · have:u.cells.size=cs.length:=by rw [← hu2];simp
      rw [this];exact hr
    · rw [hu2];exact hc)
  refine ⟨⟨g1.put v [(g.AD v).block],i2,b1.stp.trans s2,b1.u,fun b h=>?_,fun b h hb=>?_,fun b h hb=>?_⟩,fun l' o' h'=>?_⟩
  · obtain ⟨q1,q2⟩:=h
    obtain ⟨q3,q4⟩:=b1.p1 b q1
    exact ⟨q3,by simp at q2 ⊢;exact ⟨q2,q4⟩⟩
  · simp at hb;exact ⟨b1.p2 b h hb.2,by simp [hb.1]⟩
  · simp at hb;exact ⟨b1.pb2 b h hb.2,by simp [hb.1]⟩
  · by_cases e:l'=l
    · subst e;rw [Zb4] at h';cases h';exact .inr (.inl (by simp [ioV,ioV1,Obj.ver]))
    · rw [Zbj e] at h'
      rcases hobj l' o' h' with h'|h'
      · exact .inl h'
      · exact .inr (.inr h')
 | sl l v off len sz=>exact simple hc (by simp only [ioV]) (by simp only [putX])
 | nil sz=>exact simple hc (by simp only [ioV]) (by simp only [putX])
 | dat e d0=>exact simple hc (by simp only [ioV]) (by simp only [putX])
 | _=>simp [putX,putV1] at h
theorem CX.stp {Z:Nat→Prop} {g g':G} {M0 M M':Mem} {a:AV} {u:Value} {R:List Nat} (hs:SV g Y M w a u) (st:Stp g M w g' M' w) (h:CX Z w g M0 a u R):CX Z w g' M0 a u R:=by
 cases a with
 | agg xs =>
  simp only [SV] at hs
  obtain ⟨us,rfl,hs⟩:=hs
  refine ⟨h.1,fun y hy=>?_⟩
  obtain ⟨j,hj⟩:=List.getElem?_of_mem hy
  obtain ⟨uy,_,q⟩:=SVL.get hs hj
  exact (h.2 y hy).stp q st
 | ref l id r i j =>
  obtain ⟨sz,xs,vs,R1,R2,rfl,h1,h2,h3,h4,h5,h6,h7,h8⟩:=h
  obtain ⟨k1,k2,k3,k4,k5⟩:=st.gh _ h2
  exact ⟨sz,xs,vs,R1,R2,by rw [k2],h1,k1,fun q=>h3 (k5.1 q),by rw [k3];exact h4,by rw [k2];exact h5,by rw [k2,k4];exact h6,by rw [k2];exact h7,h8⟩
 | _=>exact ⟨h.1,h.2.stp hs st⟩
theorem CA.stp {Z:Nat→Prop} {g g':G} {M0 M M':Mem} (st:Stp g M w g' M' w):∀ {as:List (Md×X)} {vs:List Value} {R:List Nat},SVL g Y M w (as.map fun p=>p.2.ev s) vs→CA Z w g M0 s as vs R→CA Z w g' M0 s as vs R
 | [],vs,R,_,h=>h
 | (md,x)::as,vs,R,hs,h=>by
  simp only [List.map_cons,SVL] at hs
  obtain ⟨u,us,rfl,hu,hus⟩:=hs
  simp only [CA] at h ⊢
  obtain ⟨v,vs',R1,R2,e,rfl,h1,h2⟩:=h
  simp only [List.cons.injEq] at e
  obtain ⟨rfl,rfl⟩:=e
  refine ⟨u,us,R1,R2,rfl,rfl,?_,CA.stp st hus h2⟩
  split at h1
  · rename_i hm;rw [if_pos hm];exact h1.stp hu st
  · rename_i hm;rw [if_neg hm];exact h1
theorem Zfe {M0:Mem}:∀ (as:List (Md×X)) (g:G) (M:Mem) (vs:List Value) (outs:List D) (k k':Nat) (M':Mem) (F R:List Nat),Inv g Y M w→SVL g Y M w (as.map fun p=>p.2.ev s) vs →
 AO (XA g Y M) w (as.map (·.1)) outs vs F→CA (XA g Y M) w g M0 s as vs R→(∀ b∈F++R,g.P b∧g.PB b)→(F++R).Nodup→(∀ v∈ioVers s as,g.U v∧∀ l o,M.m l=some o→o.ver≠v)→(ioVers s as).Nodup →
 putA s nb ib M0 as outs k M=some (k',M')→(∀ j,k≤j→j < k'→¬ g.U (ib+j)) →
 k≤k'∧∃ g',Bd g Y M w ib k k' (F++R) g' M'
 | [],g,M,vs,outs,k,k',M',F,R,hI,hs,ha,hca,hP,hn,hv,hvn,h,hu=>by
  simp only [putA] at h
  cases h
  simp only [List.map_nil,AO] at ha
  subst ha
  simp only [CA] at hca
  subst hca
  exact ⟨Nat.le_refl _,g,Bd.refl hI⟩
 | (md,x)::as,g,M,vs,outs,k,k',M',F,R,hI,hs,ha,hca,hP,hn,hv,hvn,h,hu=>by
  simp only [putA] at h
  simp only [List.map_cons,SVL] at hs
  obtain ⟨u,us,rfl,hsv,hus⟩:=hs
  simp only [List.map_cons,AO] at ha
  obtain ⟨v0,vs0,e,ha⟩:=ha
  simp only [List.cons.injEq] at e
  obtain ⟨rfl,rfl⟩:=e
  simp only [CA] at hca
  obtain ⟨v0,vs0,R1,R2,e,rfl,hc1,hca⟩:=hca
  simp only [List.cons.injEq] at e
  obtain ⟨rfl,rfl⟩:=e
  split at h
  · rename_i hm
    subst hm
    simp only [if_true] at ha hc1
    obtain ⟨d,ds',F1,F2,rfl,rfl,h1,h2⟩:=ha
    simp only at h
    split at h
    case h_2=>cases h
    rename_i k1 M1 hx
    have m1:=Zgh hx
    have m2:=Zc4 as _ _ _ _ _ h
    simp only [ioVers,if_true] at hv hvn
    obtain ⟨w1,w2,w3⟩:=List.nodup_append.1 hvn
    have hmem:∀ b,b∈F1++F2++(R1++R2)↔b∈(F1++R1)++(F2++R2):=by intro b;simp;grind
    have hperm:((F1++R1)++(F2++R2)).Perm (F1++F2++(R1++R2)):=by
     rw [List.perm_iff_count]
     intro b
     simp only [List.count_append]
     omega
    obtain ⟨n1,n2,n3⟩:=List.nodup_append.1 (hperm.nodup_iff.2 hn)
    obtain ⟨⟨g1,b1⟩,o1⟩:=Zk5 (nb:=nb) (ib:=ib) hI hsv hc1 h1 (fun b hb=>hP b ((hmem b).2 (List.mem_append_left _ hb))) n1 (fun v q=>hv v (List.mem_append_left _ q)) w1 hx (fun j h1 h2=>hu j h1 (by omega))
    have hcm:CA (XA g1 Y M1) w g1 M0 s as us R2:=by
     have:=CA.stable (s:=s) hca (xaSame (F:=R2) b1.stp) (Rows.same rfl)
     exact CA.stp b1.stp hus this
    obtain ⟨q1,g2,b2⟩:=Zfe as g1 M1 us ds' k1 k' M' F2 R2 b1.inv (SVL.stp b1.stp _ _ hus) (AO.stable h2 (xaSame b1.stp)) hcm (fun b hb=>by
     have hnb:b ∉ F1++R1:=fun q=>n3 b q b hb rfl
     have hp:=hP b ((hmem b).2 (List.mem_append_right _ hb))
     exact ⟨b1.p2 b hp.1 hnb,b1.pb2 b hp.2 hnb⟩) n2 (b1.fresh o1 (fun j h1 h2=>hu j h1 (by omega)) (fun v hvv q=>w3 v q v hvv rfl) fun v hvv=>hv v (List.mem_append_right _ hvv)) w2 h (fun j h1 h2 hU'=>by
      rcases b1.u _ hU' with q|q
      · exact hu j (by omega) h2 q
      · omega)
    exact ⟨by omega,g2,(b1.trans b2 m1 q1).eqv hmem⟩
  · rename_i hm
    rw [if_neg hm] at ha hc1
    subst hc1
    simp only [ioVers,hm,if_false,List.nil_append] at hv hvn
    exact Zfe as g M us outs k k' M' F R2 hI hus ha hca hP hn hv hvn h hu
end
end Go.Vm
namespace Go.Vm
open Go
set_option linter.unusedSimpArgs false
set_option linter.unusedVariables false
section
variable {P:Program} {g:G} {Y:Nat→Prop} {M M':Mem} {w:World} {nb ib:Nat} {s:Nat→AV}
theorem CA.eqg {Z:Nat→Prop} {g g4:G} {M0:Mem} {as:List (Md×X)} {vs:List Value} {R:List Nat} (h:CA Z w g M0 s as vs R) (e1:g4.U=g.U) (e2:g4.AD=g.AD) (e3:g4.SZ=g.SZ) (e4:g4.BS=g.BS) (e5:g4.VR=g.VR) :
 CA Z w g4 M0 s as vs R:=CA.move (fun x hx=>by rw [e1];exact hx) (fun id=>by rw [e2,e3,e4,e5];exact ⟨rfl,rfl,rfl,Iff.rfl⟩) (fun l o hl=>hl) h
theorem AO.lt {X:Nat→Prop}:∀ {ms:List Md} {ds:List D} {vs:List Value} {F:List Nat},AO X w ms ds vs F→∀ b∈F,b < w.heap.size
 | [],ds,vs,F,h=>by simp only [AO] at h;simp [h]
 | m::ms,ds,vs,F,h=>by
  simp only [AO] at h
  obtain ⟨v,vs',rfl,h⟩:=h
  split at h
  · obtain ⟨d,ds',F1,F2,rfl,rfl,h1,h2⟩:=h
    intro b hb
    rcases List.mem_append.1 hb with hb|hb
    · exact TV.lt d v F1 h1 b hb
    · exact AO.lt h2 b hb
  · exact AO.lt h
theorem AO.nors {X X':Nat→Prop}:∀ {ms:List Md} {ds:List D} {vs:List Value} {F:List Nat},noRsL ds=true→AO X w ms ds vs F→AO X' w ms ds vs F
 | [],ds,vs,F,_,h=>by simpa only [AO] using h
 | m::ms,ds,vs,F,hn,h=>by
  simp only [AO] at h ⊢
  obtain ⟨v,vs',rfl,h⟩:=h
  refine ⟨v,vs',rfl,?_⟩
  split at h
  · rename_i hm
    rw [if_pos hm]
    obtain ⟨d,ds',F1,F2,rfl,rfl,h1,h2⟩:=h
    simp only [noRsL,Bool.and_eq_true] at hn
    exact ⟨d,ds',F1,F2,rfl,rfl,TV.nors d v F1 hn.1 h1,AO.nors hn.2 h2⟩
  · rename_i hm
    rw [if_neg hm]
    exact AO.nors hn h
theorem ZlB:∀ {as:List (Md×X)} {vs:List Value},as.any (·.1.own)=false→SVL g Y M w (as.map fun p=>p.2.ev s) vs→takA s as M=some ([],M)∧∀ Z:Nat→Prop,TA Z w (as.map (·.1)) [] vs []∧∀ g' M',CA Z w g' M' s as vs []
 | [],vs,_,h=>by simp only [List.map_nil,SVL] at h;exact ⟨rfl,fun Z=>⟨by simp only [List.map_nil,TA];exact ⟨trivial,h,trivial⟩,fun _ _=>rfl⟩⟩
 | (md,x)::as,vs,ha,h=>by
  simp only [List.any_cons,Bool.or_eq_false_iff] at ha
  simp only [List.map_cons,SVL] at h
  obtain ⟨u,us,rfl,_,h⟩:=h
  obtain ⟨q1,q2⟩:=ZlB ha.2 h
  refine ⟨by simp only [takA,ha.1,Bool.false_eq_true,if_false];exact q1,fun Z=>⟨?_,fun g' M'=>?_⟩⟩
  · simp only [List.map_cons,TA]
    exact ⟨u,us,rfl,by simp only [ha.1,Bool.false_eq_true,if_false];exact (q2 Z).1⟩
  · simp only [CA]
    exact ⟨u,us,[],[],rfl,rfl,by rw [if_neg (fun e:md=.io=>by rw [e] at ha;simp [Md.own] at ha)],(q2 Z).2 g' M'⟩
theorem ZgT {f:FuncId} {den:List D→Option (D×List D)} {cold:Bool} {args:List (Md×X)} {vs:List Value} {av:AV} {W:Nat→Bool}
 (hI:Inv g Y M w) (hp:∀ b,¬ g.P b) (hs:SVL g Y M w (args.map fun p=>p.2.ev s) vs) (hid:∀ k,k < 64→¬ g.U (ib+k))
 (hden:∀ all r outs,den all=some (r,outs)→FC P f (args.map (·.1)) all r outs) (h:stpCall den s M nb ib cold args=some (av,M',W)) :
 Calls P f vs.toArray w (retd fun v w'=>∃ g',Inv g' Y M' w'∧Stp g M w g' M' w'∧SV g' Y M' w' av v∧(∀ id,g'.U id→g.U id∨(ib≤id∧id < ib+64))∧∀ b,¬ g'.P b):=by
 unfold stpCall at h
 split at h
 case h_2=>cases h
 rename_i ds M1 htk
 obtain ⟨vers,versn,sub⟩:=ZfQ args M ds M1 (fun l l' o o' h1 h2 hne=>(hI.dj l l' o o' h1 h2 hne).1) htk
 have key:∃ g2 F R,Inv g2 Y (if args.any (·.1.own) then M1.tick else M1) w∧Stp g M w g2 (if args.any (·.1.own) then M1.tick else M1) w∧g2.U=g.U∧(∀ b,g2.P b→g2.PB b)∧(F++R).Nodup∧(∀ b∈F++R,g2.P b) ∧
  TA (XA g2 Y (if args.any (·.1.own) then M1.tick else M1)) w (args.map (·.1)) ds vs F∧CA (XA g2 Y (if args.any (·.1.own) then M1.tick else M1)) w g2 M s args vs R:=by
  cases ho:args.any (·.1.own) with
  | true =>
   obtain ⟨g1,F,R,FR,tk,pm,ta,ca⟩:=Ze6 args g M vs ds M1 hI hs htk
   obtain ⟨i2,s2⟩:=tk.inv.tick
   exact ⟨_,F,R,i2,tk.stp.trans s2,by show g1.U=g.U;rw [tk.gh],fun b h=>h,pm.nodup_iff.1 tk.nd,fun b hb=>tk.inP b (pm.mem_iff.2 hb),TA.stable ta ⟨Nat.le_refl _,s2.sameA.out,fun _ _ _=>rfl⟩,
    CA.stp (tk.stp.trans s2) hs (CA.stable ca ⟨Nat.le_refl _,s2.sameA.out,fun _ _ _=>rfl⟩ (Rows.same rfl))⟩
  | false =>
   obtain ⟨q1,q2⟩:=ZlB ho hs
   rw [q1] at htk
   cases htk
   simp only [Bool.false_eq_true,if_false]
   exact ⟨g,[],[],hI,Stp.refl _ _ _,rfl,fun b h=>absurd h (hp b),List.nodup_nil,by simp,(q2 _).1,(q2 _).2 _ _⟩
 have hM2:∀ l,(if args.any (·.1.own) then M1.tick else M1).m l=M1.m l:=fun l=>by split<;>rfl
 generalize (if args.any (·.1.own) then M1.tick else M1)=M2 at h key hM2
 obtain ⟨g2,F,R,i2,s2,hU2,hPB,hFRn,hFRP,hta,hca⟩:=key
 obtain ⟨hFn,hRn,hFR⟩:=List.nodup_append.1 hFRn
 have hFP:∀ b∈F,g2.P b:=fun b hb=>hFRP b (List.mem_append_left _ hb)
 have hRP:∀ b∈R,g2.P b:=fun b hb=>hFRP b (List.mem_append_right _ hb)
 simp only at h
 split at h
 case h_2=>cases h
 rename_i all hall
 split at h
 case h_2=>cases h
 rename_i r outs hd
 by_cases hcold:(if cold then args.all (fun p=>p.1.own||coldA (p.2.ev s)) else noRs r&&noRsL outs)=true
 case neg=>rw [if_neg hcold] at h;cases h
 rw [if_pos hcold] at h
 split at h
 case h_2=>cases h
 rename_i k M3 hput
 rcases hb:bindD nb ib r k M3 with ⟨a,k',M4⟩
 rw [hb] at h
 simp only at h
 split at h
 case isFalse=>cases h
 rename_i hk'
 cases h
 simp only [Bool.and_eq_true,decide_eq_true_eq,Bool.not_eq_true'] at hk'
 have hs2:=SVL.stp s2 _ _ hs
 have hY:∃ Yc:Nat→Prop,(∀ b,Yc b→XA g2 Y M2 b)∧(∀ b∈F,¬ Yc b)∧AR (fun b=>Yc b∨b∈F) w (args.map (·.1)) all vs F ∧
  (cold=true→∀ b,XA g2 Y M2 b→b ∉ F→Yc b):=by
  cases cold with
  | true =>
   refine ⟨fun b=>XA g2 Y M2 b∧b ∉ F,fun b h=>h.1,fun b hb h=>h.2 hb,?_,fun _ b h1 h2=>⟨h1,h2⟩⟩
   have hsub:Same (XA g2 Y M2) (fun b=>(XA g2 Y M2 b∧b ∉ F)∨b∈F) w w []:=⟨Nat.le_refl _,fun b _ hn h=>by
    rcases h with h|h
    · exact hn h.1
    · exact hn (.inr (.inl (hFP b h))),fun _ _ _=>rfl⟩
   refine ZdV (g:=g2) (Y:=Y) (s:=s) args vs ds all F (fun p hpm hro v d hsv hfr=>?_) hs2 (TA.stable hta ⟨Nat.le_refl _,hsub.out,fun _ _ _=>rfl⟩) hall
   have hc:=List.all_eq_true.1 (show args.all (fun p=>p.1.own||coldA (p.2.ev s))=true from hcold) p hpm
   simp only [hro,Bool.false_or] at hc
   exact TV.stable _ _ _ (ZkZ hc hsv hfr) hsub
  | false =>
   refine ⟨Y,fun b h=>.inl h,fun b hb h=>(i2.lt b (.inl (hFP b hb))).2 h,?_,fun h=>by cases h⟩
   refine ZdV (g:=g2) (Y:=Y) (s:=s) args vs ds all F (fun p hpm hro v d hsv hfr=>?_) hs2 (TA.stable hta ⟨Nat.le_refl _,fun b _ hn h=>by
    rcases h with h|h
    · exact hn (.inl h)
    · exact hn (.inr (.inl (hFP b h))),fun _ _ _=>rfl⟩) hall
   exact TV.stable _ _ _ (Zc3 i2 hPB 8 _ v d hsv hfr) ⟨Nat.le_refl _,fun b _ hn h=>by
    rcases h with h|h
    · exact hn (.inl h)
    · exact hn (.inr (hFP b h)),fun _ _ _=>rfl⟩
 obtain ⟨Yc,y1,y2,har,y3⟩:=hY
 have hcall:=hden all r outs hd Yc w vs F (fun b hb=>by
  rcases y1 b hb with h|h
  · exact i2.y b h
  · exact (i2.lt b h).1) hFn y2 har
 refine Calls.mono hcall fun e w' he=>?_
 cases e with
 | panicked c=>exact he
 | outgrown=>exact he
 | returned v =>
  simp only [retd] at he ⊢
  obtain ⟨hsize,hio,hheap,Fr,Fo,hnd,hnew,htv,hao⟩:=he
  have hltr:=TV.lt r v Fr htv
  have hlto:=hao.lt
  have hlt:∀ b∈Fr++Fo,b < w'.heap.size:=fun b hb=>by
   rcases List.mem_append.1 hb with hb|hb
   · exact hltr b hb
   · exact hlto b hb
  obtain ⟨i3,s3⟩:=i2.world hio (w':=w') (N:=(Fr++Fo).filter fun b=>decide (w.heap.size≤b)) hsize (fun b hb hn=>hheap b hb fun hbF=>hn (hPB b (hFP b hbF))) (fun b hb=>by
   simp only [List.mem_filter,decide_eq_true_eq] at hb
   exact ⟨hb.2,hlt b hb.1⟩)
  have hin:∀ b∈Fr++Fo++R,(g2.pend ((Fr++Fo).filter fun b=>decide (w.heap.size≤b)) fun _=>True).PB b:=fun b hb=>by
   rcases List.mem_append.1 hb with hb|hb
   · rcases hnew b hb with h|h
     · exact .inl (hPB b (hFP b h))
     · exact .inr ⟨by simp only [List.mem_filter,decide_eq_true_eq];exact ⟨hb,h⟩,trivial⟩
   · exact .inl (hPB b (hRP b hb))
  have hRlt:∀ b∈R,b < w.heap.size:=fun b hb=>(i2.lt b (.inl (hRP b hb))).1
  have hRnot:∀ b∈Fr++Fo,b ∉ R:=fun b hb hr=>by
   rcases hnew b hb with h|h
   · exact hFR b h b hr rfl
   · have:=hRlt b hr;omega
  obtain ⟨i4,s4⟩:=Inv.sub (g':={ (g2.pend ((Fr++Fo).filter fun b=>decide (w.heap.size≤b)) fun _=>True) with P:=fun b=>b∈Fr++Fo++R,PB:=fun b=>b∈Fr++Fo++R }) i3 (fun _ _ h=>h) rfl
   (fun b h=>.inl (i3.pb b (hin b h))) (fun b h=>.inl (hin b h)) (fun b h=>h) (fun b h l' o' ho'=>i3.pd b (i3.pb b (hin b h)) l' o' ho') (Nat.le_refl _) (Nat.le_refl _)
  have s24:=s3.trans s4
  have hX:TV (XA { (g2.pend ((Fr++Fo).filter fun b=>decide (w.heap.size≤b)) fun _=>True) with P:=fun b=>b∈Fr++Fo++R,PB:=fun b=>b∈Fr++Fo++R } Y M2) true w' r v Fr ∧
   AO (XA { (g2.pend ((Fr++Fo).filter fun b=>decide (w.heap.size≤b)) fun _=>True) with P:=fun b=>b∈Fr++Fo++R,PB:=fun b=>b∈Fr++Fo++R } Y M2) w' (args.map (·.1)) outs vs Fo:=by
   cases cold with
   | true =>
    have hsub:∀ b,b < w'.heap.size→¬ (Yc b∨b∈Fr++Fo)→¬ XA { (g2.pend ((Fr++Fo).filter fun b=>decide (w.heap.size≤b)) fun _=>True) with P:=fun b=>b∈Fr++Fo++R,PB:=fun b=>b∈Fr++Fo++R } Y M2 b:=by
     intro b _ hn hx
     rcases hx with hx|hx|⟨l,o,m1,m2⟩
     · exact hn (.inl (y3 rfl b (.inl hx) fun hbF=>(i2.lt b (.inl (hFP b hbF))).2 hx))
     · rcases List.mem_append.1 hx with hx|hx
       · exact hn (.inr hx)
       · exact hn (.inl (y3 rfl b (.inr (.inl (hRP b hx))) fun hbF=>hFR b hbF b hx rfl))
     · exact hn (.inl (y3 rfl b (.inr (.inr ⟨l,o,m1,m2⟩)) fun hbF=>i2.pd b (hFP b hbF) l o m1 m2))
    exact ⟨TV.stable _ _ _ htv ⟨Nat.le_refl _,hsub,fun _ _ _=>rfl⟩,AO.stable hao ⟨Nat.le_refl _,hsub,fun _ _ _=>rfl⟩⟩
   | false =>
    simp only [Bool.false_eq_true,if_false,Bool.and_eq_true] at hcold
    exact ⟨TV.nors r v Fr hcold.1 htv,AO.nors hcold.2 hao⟩
  obtain ⟨hX1,hX2⟩:=hX
  obtain ⟨n1,n2,n3⟩:=List.nodup_append.1 hnd
  have hput':=Zc4 args M2 outs 0 k M3 hput
  have hbm:=Za2 (nb:=nb) (ib:=ib) r k M3
  rw [hb] at hbm
  simp only at hbm
  have hca4:CA (XA { (g2.pend ((Fr++Fo).filter fun b=>decide (w.heap.size≤b)) fun _=>True) with P:=fun b=>b∈Fr++Fo++R,PB:=fun b=>b∈Fr++Fo++R } Y M2) w'
   { (g2.pend ((Fr++Fo).filter fun b=>decide (w.heap.size≤b)) fun _=>True) with P:=fun b=>b∈Fr++Fo++R,PB:=fun b=>b∈Fr++Fo++R } M s args vs R:=by
   refine CA.eqg (g:=g2) (CA.stable hca ⟨s24.size,s24.sameA.out,fun b hb hx=>?_⟩ hio.2.2.2) rfl rfl rfl rfl rfl
   refine hheap b hb fun hbF=>?_
   rcases hx with hx|hx
   · exact hx (.inr (.inl (hFP b hbF)))
   · exact hFR b hbF b hx rfl
  obtain ⟨_,g5,b5⟩:=Zfe args _ M2 vs outs 0 k M3 Fo R i4 (SVL.stp s24 _ _ hs2) hX2 hca4 (fun b hb=>by
   have:b∈Fr++Fo++R:=by
    rcases List.mem_append.1 hb with hb|hb
    · exact List.mem_append_left _ (List.mem_append_right _ hb)
    · exact List.mem_append_right _ hb
   exact ⟨this,this⟩) (List.nodup_append.2 ⟨n2,hRn,fun a ha b hb e=>hRnot a (List.mem_append_right _ ha) (e▸hb)⟩) (fun v' hv'=>by
   obtain ⟨⟨l,o,e1,e2⟩,e3⟩:=vers v' hv'
   refine ⟨?_,fun l' o' h'=>e3 l' o' (by rw [← hM2];exact h')⟩
   show g2.U v'
   rw [hU2,← e2]
   exact (hI.ob l o e1).u) versn hput (fun j h1 h2 hU=>hid j (by omega) (by rw [← hU2];exact hU))
  have hX1':=TV.stable _ _ _ hX1 ⟨Nat.le_refl _,b5.stp.sameA.out,fun _ _ _=>rfl⟩
  have hbs:=ZcB (Y:=Y) (nb:=nb) (ib:=ib) r k g5 M3 v Fr b5.inv hX1' (fun b hb=>by
   have hnb:b ∉ Fo++R:=fun h=>(List.mem_append.1 h).elim (fun h=>n3 b hb b h rfl) (hRnot b (List.mem_append_left _ hb))
   exact ⟨b5.p2 b (List.mem_append_left _ (List.mem_append_left _ hb)) hnb,b5.pb2 b (List.mem_append_left _ (List.mem_append_left _ hb)) hnb⟩) n1
  rw [hb] at hbs
  simp only at hbs
  obtain ⟨g6,b6,sv6,_⟩:=hbs (fun j h1 h2 hU=>by
   rcases b5.u _ hU with h|h
   · exact hid j (by omega) (by rw [← hU2];exact h)
   · omega)
  refine ⟨g6.clear,b6.inv.clear.1,(((s2.trans s24).trans b5.stp).trans b6.stp).trans b6.inv.clear.2,Zg7 b6.inv sv6,fun id hi=>?_,fun _ h=>h⟩
  rcases b6.u id hi with h|h
  · rcases b5.u id h with h|h
    · exact .inl (by rw [← hU2];exact h)
    · exact .inr (by omega)
  · exact .inr (by omega)
end
end Go.Vm
namespace Go.Vm
open Go
set_option linter.unusedSimpArgs false
set_option linter.unusedVariables false
abbrev Den:=FuncId→List Md→List D→Option (D×List D)
inductive KO where
 | i (x:I)
 | call (f:FuncId) (cold:Bool) (args:List (Md×X))
 | ccl (x:X) (cold:Bool) (args:List X)
 | fcl (f:FuncId) (x y:X)
 | tkl (n:Nat) (x:X)
 deriving Inhabited
def plD:Option (D×List D)→Option Nat
 | some (.int _ j,_)=>some j.toNat
 | _=>none
def roA (args:List X):List (Md×X):=args.map fun x=>(Md.ro,x)
def stpTkl (M:Mem) (nb ib n:Nat) (a:AV):Option (AV×Mem×(Nat→Bool)):=match a with
 | .ptr l v i none=>match M.m l with
  | some (.arr v' true _ xs)=>if v'=v then match xs[i]? with
   | some d=>if isAgD d=true∧d.size=n∧(bindD nb ib d 0 (M.set l none).tick).2.1≤64 then
    some ((bindD nb ib d 0 (M.set l none).tick).1,(bindD nb ib d 0 (M.set l none).tick).2.2,fun l'=>decide (nb≤l')&&decide (l' < nb+(bindD nb ib d 0 (M.set l none).tick).2.1)) else none
   | none=>none else none
  | _=>none
 | _=>none
def kst (den:Den) (s:Nat→AV) (M:Mem) (nb ib:Nat):KO→Option (AV×Mem×(Nat→Bool))
 | .i x=>(stp s M nb ib x).map fun p=>(p.1,p.2,tgt s nb x)
 | .call f cold args=>stpCall (den f (args.map (·.1))) s M nb ib cold args
 | .ccl x cold args=>match x.ev s with
  | .clo f caps=>stpCall (den f ((roA (args++caps.map X.k)).map (·.1))) s M nb ib cold (roA (args++caps.map X.k))
  | .dat none (.clo f caps)=>stpCall (den f ((roA (args++caps.map fun c=>X.k (.dat none c))).map (·.1))) s M nb ib cold (roA (args++caps.map fun c=>X.k (.dat none c)))
  | _=>none
 | .fcl f x y=>match y.ev s with
  | .dat none d=>match plD (den f [] [d]) with
   | some j=>(stp s M nb ib (.fad j x)).map fun p=>(p.1,p.2,tgt s nb (.fad j x))
   | none=>none
  | _=>none
 | .tkl n x=>stpTkl M nb ib n (x.ev s)
def PC (P:Program) (f:FuncId) (d:D) (j:Nat):Prop :=
 ∀ (X:Nat→Prop) (w:World) (a:Addr) (v:Value),TV X false w d v []→Calls P f #[.pointer (some a),v] w (retd fun r w'=>r=.pointer (some (a.add j))∧w'=w)
def DenOk (P:Program) (den:Den):Prop:=∀ f ms all r outs,den f ms all=some (r,outs)→hasBody P f=true∧FC P f ms all r outs∧(ms=[]→∀ d,all=[d]→∀ j,plD (some (r,outs))=some j→PC P f d j)
def isFnO:Operand→FuncId→Bool
 | .func f,f'=>f == f'
 | .const (.func (.func f) fs cs),f'=>f == f'&&fs.size == 0&&cs.size == 0
 | _,_=>false
def chkK (P:Program) (o:Oper):KO→Bool
 | .i x=>chkI P o x
 | .call f _ args=>match o.op with
  | .call c=>(match c.callee with|.value u=>isFnO u f|_=>false)&&chkXs c.args.toList (args.map (·.2))
  | _=>false
 | .ccl x _ args=>match o.op with
  | .call c=>(match c.callee with|.value u=>chkX u x|_=>false)&&chkXs c.args.toList args
  | _=>false
 | .fcl f x y=>match o.op with
  | .call c=>(match c.callee with|.value u=>isFnO u f|_=>false)&&(match c.args.toList with|[p,q]=>chkX p x&&chkX q y|_=>false)
  | _=>false
 | .tkl n y=>match o.op with
  | .load t x=>chkX x y&&hasU P t&&isAggT P t&&szT P t n
  | _=>false
def Aft (g:G) (Y:Nat→Prop) (M:Mem) (w:World) (ib:Nat) (av:AV) (M':Mem) (v:Value) (w':World):Prop :=
 ∃ g',Inv g' Y M' w'∧Stp g M w g' M' w'∧SV g' Y M' w' av v∧(∀ id,g'.U id→g.U id∨(ib≤id∧id < ib+64))∧∀ b,¬ g'.P b
def OpS (P:Program) (o:Oper) (a:Act) (w:World) (R:Value→World→Prop):Prop :=
 ∀ (next:Act→World→Prop) (Q:Exit→Act→World→Prop),(∀ v w',R v w'→next (a.put o.dst v) w')→o.wp P a w next Q
section
variable {P:Program} {g:G} {Y:Nat→Prop} {M M':Mem} {w:World} {nb ib:Nat} {s:Nat→AV} {o:Oper} {a:Act} {av:AV} {den:Den} {W:Nat→Bool}
theorem OpS.ofRes (h:Res P o a.eval g Y M w ib av M'):OpS P o a w (Aft g Y M w ib av M'):=by
 obtain ⟨v,w',g',hr,h1,h2,h3,h4,h5⟩:=h
 intro next Q hn
 unfold Oper.wp
 rcases hr with hr|⟨hr,rfl⟩
 · rw [hr];exact hn v w' ⟨g',h1,h2,h3,h4,h5⟩
 · rw [hr];exact hn undef w' ⟨g',h1,h2,h3,h4,h5⟩
theorem Zh3 {f:FuncId} {args:Array Value} (hb:hasBody P f=true):(callFunc f args).run P w=.ok (.enter f args) w:=by
 unfold hasBody at hb
 split at hb
 · rename_i fn hf
   simp only [Bool.and_eq_true,bne_iff_ne,ne_eq,Option.isSome_iff_exists] at hb
   obtain ⟨h1,c,h2⟩:=hb
   have hp:(program).run P w=.ok P w:=rfl
   simp only [callFunc,Sem.run_bind,hp,Result.andThen_ok,hf]
   simp [h1,h2]
 · cases hb
theorem OpS.ofCalls {f:FuncId} {c:Call} {u:Operand} {vs cs:List Value} {R:Value→World→Prop} (ho:o.op=.call c) (hcal:c.callee=.value u) (hu:a.eval u=.func (.func f) #[] cs.toArray) (hargs:c.args.toList.map a.eval=vs)
 (hb:hasBody P f=true) (h:Calls P f (vs++cs).toArray w (retd R)):OpS P o a w R:=by
 intro next Q hn
 have hr:(execOp a.eval o).run P w=.ok (.enter f (vs++cs).toArray) w:=by
  have h1:c.args.map a.eval=vs.toArray:=Array.ext' (by rw [Array.toList_map];exact hargs)
  simp [execOp,ho,resolve,hcal,Deferred.ofValue,hu,h1,invoke,Zh3 hb]
 unfold Oper.wp
 rw [hr]
 refine Calls.mono h fun e w' he=>?_
 cases e with
 | returned v=>exact hn v w' he
 | panicked _=>exact he.elim
 | outgrown=>exact he.elim
theorem SVL.append:∀ {xs ys:List AV} {vs us:List Value},SVL g Y M w xs vs→SVL g Y M w ys us→SVL g Y M w (xs++ys) (vs++us)
 | [],ys,vs,us,h,k=>by simp only [SVL] at h;subst h;exact k
 | x::xs,ys,vs,us,h,k=>by
  simp only [SVL] at h
  obtain ⟨u,r,rfl,h1,h2⟩:=h
  simp only [List.cons_append,SVL]
  exact ⟨u,r++us,rfl,h1,SVL.append h2 k⟩
theorem ZgX {u:Operand} {f:FuncId} (h:isFnO u f=true):a.eval u=.func (.func f) #[] ([]:List Value).toArray:=by
 unfold isFnO at h
 split at h
 · simp only [beq_iff_eq] at h;subst h;rfl
 · rename_i f' fs cs f''
   simp only [Bool.and_eq_true,beq_iff_eq] at h
   obtain ⟨⟨rfl,h1⟩,h2⟩:=h
   have h1:=Array.eq_empty_of_size_eq_zero h1
   have h2:=Array.eq_empty_of_size_eq_zero h2
   subst h1 h2
   rfl
 · cases h
theorem evL {xs:List X} {cs:List AV}:(roA (xs++cs.map X.k)).map (fun p=>p.2.ev s)=xs.map (X.ev s)++cs:=by
 simp [roA,List.map_map,Function.comp_def,X.ev]
theorem ZnD {k:KO} (hd:DenOk P den) (hc:chkK P o k=true) (h:kst den s M nb ib k=some (av,M',W)) (hI:Inv g Y M w) (hp:∀ b,¬ g.P b) (hs:Slots g Y M w s a.eval)
 (hid:∀ k,k < 64→¬ g.U (ib+k)):OpS P o a w (Aft g Y M w ib av M'):=by
 cases k with
 | i x =>
  simp only [kst] at h
  cases hq:stp s M nb ib x with
  | none=>rw [hq] at h;cases h
  | some p =>
   rw [hq] at h
   simp only [Option.map_some,Option.some.injEq,Prod.mk.injEq] at h
   obtain ⟨h1,h2,_⟩:=h
   have hq':stp s M nb ib x=some (av,M'):=by rw [hq,← h1,← h2]
   exact OpS.ofRes (Zma (by simpa only [chkK] using hc) hq' hI hp hs hid)
 | call f cold args =>
  simp only [kst] at h
  simp only [chkK] at hc
  split at hc
  case h_2=>cases hc
  rename_i c ho
  simp only [Bool.and_eq_true] at hc
  obtain ⟨c1,c2⟩:=hc
  split at c1
  case h_2=>cases c1
  rename_i u hcal
  have hsv:=Zfz hs c2
  have hb:hasBody P f=true:=by
   unfold stpCall at h
   split at h
   case h_2=>cases h
   simp only at h
   split at h
   case h_2=>cases h
   split at h
   case h_2=>cases h
   rename_i hde
   exact (hd _ _ _ _ _ hde).1
  refine OpS.ofCalls (cs:=[]) ho hcal (ZgX c1) rfl hb ?_
  rw [List.append_nil]
  exact ZgT hI hp (by simpa [List.map_map,Function.comp_def] using hsv) hid (fun all r outs hde=>(hd _ _ _ _ _ hde).2.1) h
 | ccl x cold args =>
  simp only [kst] at h
  simp only [chkK] at hc
  split at hc
  case h_2=>cases hc
  rename_i c ho
  simp only [Bool.and_eq_true] at hc
  obtain ⟨c1,c2⟩:=hc
  split at c1
  case h_2=>cases c1
  rename_i u hcal
  have hsv:=Zfz hs c2
  have hx:=Zaq hs c1
  have go:∀ (f:FuncId) (caps:List AV) (cs:List Value),a.eval u=.func (.func f) #[] cs.toArray→SVL g Y M w caps cs →
   stpCall (den f ((roA (args++caps.map X.k)).map (·.1))) s M nb ib cold (roA (args++caps.map X.k))=some (av,M',W)→OpS P o a w (Aft g Y M w ib av M'):=by
   intro f caps cs hu hcs h
   have hb:hasBody P f=true:=by
    unfold stpCall at h
    split at h
    case h_2=>cases h
    simp only at h
    split at h
    case h_2=>cases h
    split at h
    case h_2=>cases h
    rename_i hde
    exact (hd _ _ _ _ _ hde).1
   refine OpS.ofCalls (cs:=cs) ho hcal hu rfl hb ?_
   exact ZgT hI hp (by rw [evL];exact SVL.append hsv hcs) hid (fun all r outs hde=>(hd _ _ _ _ _ hde).2.1) h
  split at h
  · rename_i f caps ea
    rw [ea] at hx
    simp only [SV] at hx
    obtain ⟨cs,hu,hcs⟩:=hx
    exact go f caps cs hu hcs h
  · rename_i f caps ea
    rw [ea] at hx
    simp only [SV,TV] at hx
    obtain ⟨_,cs,hu,hcs⟩:=hx
    have hm:(caps.map fun c=>X.k (.dat none c))=(caps.map fun c=>AV.dat none c).map X.k:=by simp [List.map_map,Function.comp_def]
    rw [hm] at h
    exact go f _ cs hu (SVL.ofTL (e:=none) rfl hcs) h
  · cases h
 | fcl f x y =>
  simp only [kst] at h
  simp only [chkK] at hc
  split at hc
  case h_2=>cases hc
  rename_i c ho
  simp only [Bool.and_eq_true] at hc
  obtain ⟨c1,c2⟩:=hc
  split at c1
  case h_2=>cases c1
  rename_i u hcal
  split at c2
  case h_2=>cases c2
  rename_i p q hargs
  simp only [Bool.and_eq_true] at c2
  have hy:=Zaq hs c2.2
  split at h
  case h_2=>cases h
  rename_i d ey
  rw [ey] at hy
  simp only [SV] at hy
  split at h
  case h_2=>cases h
  rename_i j hj
  cases hq:stp s M nb ib (.fad j x) with
  | none=>rw [hq] at h;cases h
  | some r =>
   rw [hq] at h
   simp only [Option.map_some,Option.some.injEq,Prod.mk.injEq] at h
   obtain ⟨e1,e2,_⟩:=h
   obtain ⟨hM,ad,hv,hsv⟩:=ZqY (f:=j) c2.1 hs (av:=av) (M':=M') (by rw [hq,← e1,← e2])
   cases hde:den f [] [d] with
   | none=>rw [hde] at hj;cases hj
   | some ro =>
    obtain ⟨b1,_,b3⟩:=hd f [] [d] ro.1 ro.2 hde
    have pc:=b3 rfl d rfl j (by rw [hde] at hj;exact hj)
    subst hM
    refine OpS.ofCalls (cs:=[]) (vs:=[.pointer (some ad),a.eval q]) ho hcal (ZgX c1) (by rw [hargs];simp [hv]) b1 ?_
    refine Calls.mono (pc _ w ad (a.eval q) hy) fun e w' he=>?_
    cases e with
    | returned v =>
     obtain ⟨rfl,rfl⟩:=he
     exact ⟨g,hI,Stp.refl _ _ _,hsv,fun _ h=>.inl h,hp⟩
    | panicked _=>exact he.elim
    | outgrown=>exact he.elim
 | tkl n x =>
  simp only [kst] at h
  simp only [chkK] at hc
  split at hc
  case h_2=>cases hc
  rename_i t x0 ho
  simp only [Bool.and_eq_true] at hc
  obtain ⟨⟨⟨c1,c2⟩,c3⟩,c4⟩:=hc
  obtain ⟨i0,hi0,hi1⟩:=Zbz c4
  have hx:=Zaq hs c1
  unfold stpTkl at h
  split at h
  case h_2=>cases h
  rename_i l v i ea
  rw [ea] at hx
  simp only [SV] at hx
  obtain ⟨hu,hvr,hv⟩:=hx
  split at h
  case h_2=>cases h
  rename_i v' sz xs hm
  split at h
  case isFalse=>cases h
  rename_i hvv
  subst hvv
  split at h
  case h_2=>cases h
  rename_i d hx
  split at h
  case isFalse=>cases h
  rename_i hcd
  obtain ⟨d1,d2,d3⟩:=hcd
  have hob:=hI.ob l _ hm
  simp only [OB] at hob
  obtain ⟨_,hz,hnd,hob⟩:=hob
  rcases hob with hob|⟨_,vs,F',k1,k2,k3,k4,k5⟩
  · exact absurd hob.1 hvr
  obtain ⟨v1,us,v2,F1,Fi,F2,q1,q2,q3,q4,q5,q6,q7,q8⟩:=TE.get k5 hx
  have hcu:CL w ((g.AD v').add (i * sz)) us:=by
   have k4':=k4
   rw [q1] at k4'
   have:=k4'.left.right
   rwa [q3] at this
  have htl:TV (XA g Y M) true w d (.agg us.toArray) Fi:=by
   cases d<;>simp [isAgD] at d1
   simp only [TV]
   exact ⟨us,rfl,q6⟩
  have hul:us.length=n:=by rw [q4.1,← q5,d2]
  have hin:∀ b∈Fi,b∈g.FP (Obj.arr v' true sz xs).ver:=by
   intro b hb
   simp only [Obj.ver]
   rw [k1,q2]
   exact List.mem_cons_of_mem _ (List.mem_append_left _ (List.mem_append_right _ hb))
  have hnj:Fi.Nodup:=by
   rw [k1,q2] at hnd
   exact (List.nodup_append.1 (List.nodup_append.1 (List.nodup_cons.1 hnd).2).1).2.1
  obtain ⟨i1,s1⟩:=hI.drop hm (F:=Fi) hin
  obtain ⟨i2,s2⟩:=i1.tick
  have s12:=s1.trans s2
  have hbs:=ZcB (Y:=Y) (nb:=nb) (ib:=ib) d 0 _ _ _ Fi i2 (TV.later s12 htl) (fun b hb=>⟨.inr hb,.inr hb⟩) hnj (fun j _ hj hU=>hid j (by omega) (by simpa [G.pend] using hU))
  cases h
  obtain ⟨g3,b3,sv3,_⟩:=hbs
  refine OpS.ofRes (g:=g) (M:=M) ⟨.agg us.toArray,w,g3.clear,.inl ?_,b3.inv.clear.1,(s12.trans b3.stp).trans b3.inv.clear.2,Zg7 b3.inv sv3,fun id hh=>?_,fun _ h=>h⟩
  · have hv2:a.eval x0=.pointer (some ((g.AD v').add (i * sz))):=by rw [hv,hz];simp
    have:=Zf6 (P:=P) c2 hi0 hcu (by rw [c3,hi1];exact fun _=>hul) (by rw [c3];simp)
    rw [c3] at this
    simp only [execOp,ho,Instr.loadAt,Instr.sureAddr,hv2]
    simp only [Sem.run_bind,Sem.run_pure,Result.andThen_ok,this,if_true]
  · rcases b3.u id hh with h|h
    · exact .inl h
    · exact .inr (by omega)
end
end Go.Vm
namespace Go.Vm
open Go
set_option linter.unusedSimpArgs false
set_option linter.unusedVariables false
section
variable {M M' Mc:Mem} {s:Nat→AV} {nb ib:Nat}
theorem ZdU {f fc:AV→Option D} (ih:∀ x d,f x=some d→fc x=some d):∀ {xs:List AV} {ds:List D},optL (xs.map f)=some ds→optL (xs.map fc)=some ds
 | [],ds,h=>h
 | x::xs,ds,h=>by
  simp only [List.map_cons] at h ⊢
  cases hq:f x with
  | none=>rw [hq] at h;simp [optL] at h
  | some d =>
   rw [hq] at h
   rw [ih x d hq]
   simp only [optL] at h ⊢
   cases hr:optL (xs.map f) with
   | none=>rw [hr] at h;cases h
   | some r=>rw [hr] at h;rw [ZdU ih hr];exact h
theorem ZdG (k:Le M Mc):∀ (n:Nat) (a:AV) (d:D),frz M n a=some d→frz Mc n a=some d
 | 0,a,d,h=>by simp [frz] at h
 | n+1,a,d,h=>by
  cases a with
  | bad=>simp [frz] at h
  | dat e d0=>simp only [frz,Zfg k] at h ⊢;exact h
  | dp e d0=>simp only [frz,Zfg k] at h ⊢;exact h
  | nil sz=>simpa only [frz] using h
  | sl l v off len sz =>
   simp only [frz] at h ⊢
   split at h
   · rename_i hm;rw [k.m l _ hm];exact h
   · cases h
  | ref l v r i j =>
   simp only [frz] at h ⊢
   split at h
   case isFalse=>cases h
   rename_i hr
   rw [if_pos (k.rr hr)]
   cases hq:placeD M l v i j with
   | none=>rw [hq] at h;cases h
   | some p=>rw [hq] at h;rw [ZeA k hq];exact h
  | ptr l v i j =>
   simp only [frz] at h ⊢
   split at h
   · rename_i hm;rw [k.m l _ hm];exact h
   · rename_i v' x hm
     rw [k.m l _ hm]
     simp only [Zhw k]
     split at h
     case isFalse=>cases h
     rename_i hc
     rw [if_pos hc]
     cases hq:fldA M x j with
     | none=>rw [hq] at h;cases h
     | some y =>
      rw [hq] at h
      simp only at h ⊢
      cases hr:frz M n y with
      | none=>rw [hr] at h;cases h
      | some d'=>rw [hr] at h;rw [ZdG k n y d' hr];exact h
   · cases h
  | agg xs =>
   simp only [frz] at h ⊢
   cases hr:optL (xs.map (frz M n)) with
   | none=>rw [hr] at h;cases h
   | some ds=>rw [hr] at h;rw [ZdU (fun x d=>ZdG k n x d) hr];exact h
  | tup xs =>
   simp only [frz] at h ⊢
   cases hr:optL (xs.map (frz M n)) with
   | none=>rw [hr] at h;cases h
   | some ds=>rw [hr] at h;rw [ZdU (fun x d=>ZdG k n x d) hr];exact h
  | clo f xs =>
   simp only [frz] at h ⊢
   cases hr:optL (xs.map (frz M n)) with
   | none=>rw [hr] at h;cases h
   | some ds=>rw [hr] at h;rw [ZdU (fun x d=>ZdG k n x d) hr];exact h
theorem Ze7 (k:Le M Mc):∀ (as:List (Md×X)) (ds all:List D),frzA s M as ds=some all→frzA s Mc as ds=some all
 | [],ds,all,h=>h
 | (md,x)::as,ds,all,h=>by
  simp only [frzA] at h ⊢
  split at h
  · rename_i hm
    rw [if_pos hm]
    cases ds with
    | nil=>cases h
    | cons d ds =>
     simp only at h ⊢
     cases hr:frzA s M as ds with
     | none=>rw [hr] at h;cases h
     | some r=>rw [hr] at h;rw [Ze7 k as ds r hr];exact h
  · rename_i hm
    rw [if_neg hm]
    cases hq:frz M 8 (x.ev s) with
    | none=>rw [hq] at h;cases h
    | some d =>
     cases hr:frzA s M as ds with
     | none=>rw [hq,hr] at h;cases h
     | some r=>rw [hq,hr] at h;rw [ZdG k 8 _ d hq,Ze7 k as ds r hr];exact h
theorem Zc5:∀ (as:List (Md×X)) (M M' Mc:Mem) (ds:List D),takA s as M=some (ds,M')→Le M Mc→∃ Mc',takA s as Mc=some (ds,Mc')∧Rm M M' Mc Mc'
 | [],M,M',Mc,ds,h,k=>by simp only [takA] at h;cases h;exact ⟨Mc,rfl,Rm.same⟩
 | (md,x)::as,M,M',Mc,ds,h,k=>by
  simp only [takA] at h ⊢
  split at h
  · rename_i hm
    split at h
    case h_2=>cases h
    rename_i d M1 h1
    split at h
    case h_2=>cases h
    rename_i ds' M2 h2
    cases h
    obtain ⟨Mc1,e1,r1⟩:=Zbq 8 _ M M1 Mc d h1 k
    obtain ⟨Mc2,e2,r2⟩:=Zc5 as M1 M' Mc1 ds' h2 (r1.le k)
    exact ⟨Mc2,by rw [if_pos hm,e1];simp only [e2],r1.trans r2⟩
  · rename_i hm
    rw [if_neg hm]
    exact Zc5 as M M' Mc ds h k
structure St2 (S:Nat→Prop) (M M' Mc Mc':Mem):Prop where
 i:∀ l,S l→Mc'.m l=M'.m l
 o:∀ l,¬ S l→Mc'.m l=Mc.m l∧M'.m l=M.m l
 e:M'.e=M.e∧Mc'.e=Mc.e
 r:Mc.r=M.r→Mc'.r=M'.r
 c:M'.c=M.c∧Mc'.c=Mc.c
theorem St2.same:St2 (fun _=>False) M M Mc Mc:=⟨fun _ h=>h.elim,fun _ _=>⟨rfl,rfl⟩,⟨rfl,rfl⟩,id,⟨rfl,rfl⟩⟩
theorem St2.set {l0:Nat} {o:Option Obj}:St2 (· = l0) M (M.set l0 o) Mc (Mc.set l0 o) :=
 ⟨fun l h=>by subst h;rw [Zb4,Zb4],fun l h=>⟨Zbj h,Zbj h⟩,⟨rfl,rfl⟩,id,⟨rfl,rfl⟩⟩
theorem St2.setR {l0:Nat} {o:Option Obj}:St2 (· = l0) M (M.set l0 o).tickR Mc (Mc.set l0 o).tickR :=
 ⟨fun l h=>by subst h;simp only [Mem.tickR];rw [Zb4,Zb4],fun l h=>⟨Zbj h,Zbj h⟩,⟨rfl,rfl⟩,fun h=>by simp only [Mem.tickR,Mem.set];rw [h],⟨rfl,rfl⟩⟩
theorem St2.eqv {S S':Nat→Prop} {Mc':Mem} (h:St2 S M M' Mc Mc') (e:∀ l,S' l↔S l):St2 S' M M' Mc Mc':=⟨fun l k=>h.i l ((e l).1 k),fun l k=>h.o l fun q=>k ((e l).2 q),h.e,h.r,h.c⟩
theorem St2.trans {S1 S2 S:Nat→Prop} {M1 M2 Mc1 Mc2:Mem} (a:St2 S1 M M1 Mc Mc1) (b:St2 S2 M1 M2 Mc1 Mc2) (hS:∀ l,S l↔S1 l∨S2 l):St2 S M M2 Mc Mc2 where
 i:=fun l h=>by
  by_cases h2:S2 l
  · exact b.i l h2
  · obtain ⟨q1,q2⟩:=b.o l h2
    rw [q1,q2]
    exact a.i l (((hS l).1 h).resolve_right h2)
 o:=fun l h=>by
  have h1:¬ S1 l:=fun k=>h ((hS l).2 (.inl k))
  have h2:¬ S2 l:=fun k=>h ((hS l).2 (.inr k))
  obtain ⟨q1,q2⟩:=b.o l h2
  obtain ⟨q3,q4⟩:=a.o l h1
  exact ⟨q1.trans q3,q2.trans q4⟩
 e:=⟨b.e.1.trans a.e.1,b.e.2.trans a.e.2⟩
 r:=fun h=>b.r (a.r h)
 c:=⟨b.c.1.trans a.c.1,b.c.2.trans a.c.2⟩
mutual
theorem Zb5:∀ (d:D) (k:Nat) (M Mc:Mem),(bindD nb ib d k Mc).1=(bindD nb ib d k M).1∧(bindD nb ib d k Mc).2.1=(bindD nb ib d k M).2.1 ∧
 St2 (fun l=>nb+k≤l∧l < nb+(bindD nb ib d k M).2.1) M (bindD nb ib d k M).2.2 Mc (bindD nb ib d k Mc).2.2
 | .sl sz xs,k,M,Mc=>by
  simp only [bindD]
  exact ⟨trivial,trivial,St2.trans St2.same St2.set fun l=>⟨fun h=>.inr (by omega),fun h=>h.elim (fun h=>h.elim) fun h=>by omega⟩⟩
 | .rs sz xs,k,M,Mc=>by simp only [bindD];exact ⟨trivial,trivial,⟨fun l h=>by omega,fun _ _=>⟨rfl,rfl⟩,⟨rfl,rfl⟩,id,⟨rfl,rfl⟩⟩⟩
 | .agg fs,k,M,Mc=>by
  obtain ⟨h1,h2,h3⟩:=bindL_frame fs k M Mc
  simp only [bindD]
  exact ⟨by rw [h1],h2,h3⟩
 | .tup fs,k,M,Mc=>by
  obtain ⟨h1,h2,h3⟩:=bindL_frame fs k M Mc
  simp only [bindD]
  exact ⟨by rw [h1],h2,h3⟩
 | .ptr d,k,M,Mc=>by
  obtain ⟨h1,h2,h3⟩:=Zb5 d (k+1) M Mc
  have hm:=Za2 (nb:=nb) (ib:=ib) d (k+1) M
  simp only [bindD]
  rcases hq:bindD nb ib d (k+1) M with ⟨x,k',M'⟩
  rcases hr:bindD nb ib d (k+1) Mc with ⟨x2,k2,M2⟩
  rw [hq] at hm
  rw [hq,hr] at h1 h2 h3
  simp only at hm h1 h2 h3 ⊢
  subst h1 h2
  exact ⟨trivial,rfl,h3.trans St2.set fun l=>by constructor<;>intro h<;>omega⟩
 | .clo f caps,k,M,Mc=>by simp only [bindD];exact ⟨trivial,trivial,⟨fun l h=>by omega,fun _ _=>⟨rfl,rfl⟩,⟨rfl,rfl⟩,id,⟨rfl,rfl⟩⟩⟩
 | .int _ _,k,M,Mc=>by simp only [bindD];exact ⟨trivial,trivial,⟨fun l h=>by omega,fun _ _=>⟨rfl,rfl⟩,⟨rfl,rfl⟩,id,⟨rfl,rfl⟩⟩⟩
 | .bool _,k,M,Mc=>by simp only [bindD];exact ⟨trivial,trivial,⟨fun l h=>by omega,fun _ _=>⟨rfl,rfl⟩,⟨rfl,rfl⟩,id,⟨rfl,rfl⟩⟩⟩
 | .str _,k,M,Mc=>by simp only [bindD];exact ⟨trivial,trivial,⟨fun l h=>by omega,fun _ _=>⟨rfl,rfl⟩,⟨rfl,rfl⟩,id,⟨rfl,rfl⟩⟩⟩
 | .nili,k,M,Mc=>by simp only [bindD];exact ⟨trivial,trivial,⟨fun l h=>by omega,fun _ _=>⟨rfl,rfl⟩,⟨rfl,rfl⟩,id,⟨rfl,rfl⟩⟩⟩
 | .ifc,k,M,Mc=>by simp only [bindD];exact ⟨trivial,trivial,⟨fun l h=>by omega,fun _ _=>⟨rfl,rfl⟩,⟨rfl,rfl⟩,id,⟨rfl,rfl⟩⟩⟩
 | .anyb,k,M,Mc=>by simp only [bindD];exact ⟨trivial,trivial,⟨fun l h=>by omega,fun _ _=>⟨rfl,rfl⟩,⟨rfl,rfl⟩,id,⟨rfl,rfl⟩⟩⟩
 | .dead,k,M,Mc=>by simp only [bindD];exact ⟨trivial,trivial,⟨fun l h=>by omega,fun _ _=>⟨rfl,rfl⟩,⟨rfl,rfl⟩,id,⟨rfl,rfl⟩⟩⟩
theorem bindL_frame:∀ (ds:List D) (k:Nat) (M Mc:Mem),(bindL nb ib ds k Mc).1=(bindL nb ib ds k M).1∧(bindL nb ib ds k Mc).2.1=(bindL nb ib ds k M).2.1 ∧
 St2 (fun l=>nb+k≤l∧l < nb+(bindL nb ib ds k M).2.1) M (bindL nb ib ds k M).2.2 Mc (bindL nb ib ds k Mc).2.2
 | [],k,M,Mc=>by simp only [bindL];exact ⟨trivial,trivial,⟨fun l h=>by omega,fun _ _=>⟨rfl,rfl⟩,⟨rfl,rfl⟩,id,⟨rfl,rfl⟩⟩⟩
 | d::ds,k,M,Mc=>by
  obtain ⟨h1,h2,h3⟩:=Zb5 d k M Mc
  have m1:=Za2 (nb:=nb) (ib:=ib) d k M
  simp only [bindL]
  rcases hq:bindD nb ib d k M with ⟨x,k',M'⟩
  rcases hr:bindD nb ib d k Mc with ⟨x2,k2,M2⟩
  rw [hq] at m1
  rw [hq,hr] at h1 h2 h3
  simp only at m1 h1 h2 h3 ⊢
  subst h1 h2
  obtain ⟨q1,q2,q3⟩:=bindL_frame ds k2 M' M2
  have m2:=bindL_mono (nb:=nb) (ib:=ib) ds k2 M'
  rcases hs:bindL nb ib ds k2 M' with ⟨x3,k3,M3⟩
  rcases ht:bindL nb ib ds k2 M2 with ⟨x4,k4,M4⟩
  rw [hs] at m2
  rw [hs,ht] at q1 q2 q3
  simp only at m2 q1 q2 q3 ⊢
  subst q1 q2
  exact ⟨rfl,rfl,h3.trans q3 fun l=>by constructor<;>intro h<;>omega⟩
end
mutual
theorem ZlK:∀ (d:D) (k:Nat) (M:Mem),(bindD nb ib d k M).2.2.r=M.r
 | .sl sz xs,k,M=>rfl
 | .rs sz xs,k,M=>rfl
 | .agg fs,k,M=>by simp only [bindD];exact bindL_r fs k M
 | .tup fs,k,M=>by simp only [bindD];exact bindL_r fs k M
 | .ptr d,k,M=>by simp only [bindD];exact ZlK d (k+1) M
 | .clo f caps,k,M=>rfl
 | .int _ _,k,M=>rfl
 | .bool _,k,M=>rfl
 | .str _,k,M=>rfl
 | .nili,k,M=>rfl
 | .ifc,k,M=>rfl
 | .anyb,k,M=>rfl
 | .dead,k,M=>rfl
theorem bindL_r:∀ (ds:List D) (k:Nat) (M:Mem),(bindL nb ib ds k M).2.2.r=M.r
 | [],k,M=>rfl
 | d::ds,k,M=>by simp only [bindL];exact (bindL_r ds _ _).trans (ZlK d k M)
end
theorem St2.none {S:Nat→Prop} (h:∀ l,¬ S l):St2 S M M Mc Mc:=⟨fun l k=>absurd k (h l),fun _ _=>⟨rfl,rfl⟩,⟨rfl,rfl⟩,id,⟨rfl,rfl⟩⟩
theorem Zgo {a:AV} {d:D} {M M' Mc:Mem} (h:putV1 a d M=some M'):∃ Mc',putV1 a d Mc=some Mc'∧St2 (fun l=>l∈ioN1 a) M M' Mc Mc':=by
 cases a with
 | sl l v off len sz =>
  simp only [putV1] at h ⊢
  split at h
  case h_2=>cases h
  split at h
  case isFalse=>cases h
  rename_i hc
  cases h
  exact ⟨_,by rw [if_pos hc],St2.setR.eqv fun l'=>by simp [ioN1]⟩
 | nil sz=>simp only [putV1] at h ⊢;cases h;exact ⟨Mc,rfl,St2.none fun l=>by simp [ioN1]⟩
 | dat e d0 =>
  cases e with
  | none=>simp only [putV1] at h ⊢;cases h;exact ⟨Mc,rfl,St2.none fun l=>by simp [ioN1]⟩
  | some e=>simp [putV1] at h
 | _=>simp [putV1] at h
theorem ZgC:∀ {xs:List AV} {ds:List D} {M M' Mc:Mem},putL xs ds M=some M'→∃ Mc',putL xs ds Mc=some Mc'∧St2 (fun l=>l∈(xs.map ioN1).flatten) M M' Mc Mc'
 | [],ds,M,M',Mc,h=>by simp only [putL] at h ⊢;cases h;exact ⟨Mc,rfl,St2.none fun l=>by simp⟩
 | x::xs,ds,M,M',Mc,h=>by
  simp only [putL] at h ⊢
  split at h
  case h_2=>cases h
  rename_i d ds'
  split at h
  case h_2=>cases h
  rename_i M1 h1
  obtain ⟨Mc1,e1,u1⟩:=Zgo (Mc:=Mc) h1
  obtain ⟨Mc2,e2,u2⟩:=ZgC (Mc:=Mc1) h
  exact ⟨Mc2,by simp only [e1];exact e2,u1.trans u2 fun l=>by simp⟩
theorem ZkA {M0 Mc0:Mem} (kk:Le M0 Mc0) {a:AV} {d:D} {k k':Nat} {M M' Mc:Mem} (h:putX M0 nb ib a d k M=some (k',M')):∃ Mc',putX Mc0 nb ib a d k Mc=some (k',Mc') ∧
 St2 (fun l=>l∈ioN a∨(nb+k≤l∧l < nb+k')) M M' Mc Mc':=by
 have simple:ioN a=ioN1 a→(∀ M0 M:Mem,putX M0 nb ib a d k M=(putV1 a d M).map (k,·))→∃ Mc',putX Mc0 nb ib a d k Mc=some (k',Mc')∧St2 (fun l=>l∈ioN a∨(nb+k≤l∧l < nb+k')) M M' Mc Mc':=by
  intro e1 e2
  rw [e2] at h
  simp only [Option.map_eq_some_iff,Prod.mk.injEq] at h
  obtain ⟨M1,h,rfl,rfl⟩:=h
  obtain ⟨Mc1,q1,u1⟩:=Zgo (Mc:=Mc) h
  exact ⟨Mc1,by rw [e2,q1];rfl,u1.eqv fun l=>by rw [e1];constructor;rintro (h|h);exact h;omega;exact .inl⟩
 cases a with
 | ptr l v i j =>
  simp only [putX] at h ⊢
  split at h
  case h_2=>cases h
  rename_i d
  split at h
  case isFalse=>cases h
  rename_i hc
  obtain ⟨h1,h2,h3⟩:=Zb5 (nb:=nb) (ib:=ib) d k M Mc
  cases h
  refine ⟨_,by rw [if_pos hc,h2],?_⟩
  rw [h1]
  refine (h3.trans (S:=fun l'=>(nb+k≤l'∧l' < nb+(bindD nb ib d k M).2.1)∨l'=l) St2.set fun l'=>Iff.rfl).eqv fun l'=>?_
  simp only [ioN,ioN1,List.mem_singleton]
  exact Or.comm
 | agg xs =>
  simp only [putX] at h ⊢
  split at h
  case h_2=>cases h
  simp only [Option.map_eq_some_iff,Prod.mk.injEq] at h
  obtain ⟨M1,h,rfl,rfl⟩:=h
  obtain ⟨Mc1,q1,u1⟩:=ZgC (Mc:=Mc) h
  exact ⟨Mc1,by rw [q1];rfl,u1.eqv fun l=>by simp only [ioN];constructor;rintro (h|h);exact h;omega;exact .inl⟩
 | ref l v r i j =>
  simp only [putX] at h ⊢
  split at h
  case h_2=>cases h
  rename_i hm
  rw [kk.m l _ hm]
  simp only
  split at h
  case isFalse=>cases h
  rename_i hc
  rw [if_pos hc]
  split at h
  case h_2=>cases h
  rename_i x' hx
  cases h
  exact ⟨_,rfl,St2.setR.eqv fun l'=>by simp only [ioN,ioN1,List.mem_singleton];constructor;rintro (h|h);exact h;omega;exact .inl⟩
 | sl l v off len sz=>exact simple rfl fun _ _=>rfl
 | nil sz=>exact simple rfl fun _ _=>rfl
 | dat e d0=>exact simple rfl fun _ _=>rfl
 | _=>simp [putX,putV1] at h
theorem Zd5 {M0 Mc0:Mem} (kk:Le M0 Mc0):∀ (as:List (Md×X)) (outs:List D) (k k':Nat) (M M' Mc:Mem),putA s nb ib M0 as outs k M=some (k',M')→∃ Mc',putA s nb ib Mc0 as outs k Mc=some (k',Mc') ∧
 St2 (fun l=>l∈ioNames s as∨(nb+k≤l∧l < nb+k')) M M' Mc Mc'
 | [],outs,k,k',M,M',Mc,h=>by
  simp only [putA] at h ⊢
  cases h
  exact ⟨Mc,rfl,St2.none fun l h=>by rcases h with h|h;simp [ioNames] at h;omega⟩
 | (md,x)::as,outs,k,k',M,M',Mc,h=>by
  simp only [putA] at h ⊢
  split at h
  · rename_i hm
    rw [if_pos hm]
    split at h
    case h_2=>cases h
    rename_i d ds
    split at h
    case h_2=>cases h
    rename_i k1 M1 hx
    obtain ⟨Mc1,e1,u1⟩:=ZkA kk (Mc:=Mc) hx
    obtain ⟨Mc2,e2,u2⟩:=Zd5 kk as ds k1 k' M1 M' Mc1 h
    have m1:=Zgh hx
    have m2:=Zc4 as _ _ _ _ _ h
    refine ⟨Mc2,by simp only [e1];exact e2,u1.trans u2 fun l'=>?_⟩
    simp only [ioNames,hm,if_true,List.mem_append]
    constructor
    · rintro ((h|h)|h)
      · exact .inl (.inl h)
      · exact .inr (.inl h)
      · by_cases q:l' < nb+k1
        · exact .inl (.inr ⟨h.1,q⟩)
        · exact .inr (.inr ⟨by omega,h.2⟩)
    · rintro ((h|h)|(h|h))
      · exact .inl (.inl h)
      · exact .inr ⟨h.1,by omega⟩
      · exact .inl (.inr h)
      · exact .inr ⟨by omega,h.2⟩
  · rename_i hm
    rw [if_neg hm]
    obtain ⟨Mc',e1,u1⟩:=Zd5 kk as outs k k' M M' Mc h
    exact ⟨Mc',e1,by simpa only [ioNames,hm,if_false] using u1⟩
end
end Go.Vm
namespace Go.Vm
open Go
set_option linter.unusedSimpArgs false
set_option linter.unusedVariables false
section
variable {M M' Mc:Mem} {s:Nat→AV} {nb ib:Nat} {a:AV}
theorem Up.mix {S:Nat→Prop} {T:Nat→Bool} {M1 M2 Mc1 Mc2 Mc':Mem} (k:Le M Mc) (r:Rm M M1 Mc Mc1) (h1:∀ l,M2.m l=M1.m l) (h2:∀ l,Mc2.m l=Mc1.m l) (he:Mc2.e=M2.e) (hr:Mc.r=M.r→Mc2.r=M2.r)
 (hc:M2.c=M1.c∧Mc2.c=Mc1.c) (b:St2 S M2 M' Mc2 Mc') (hT:∀ l,T l=true↔S l):Up (wrt T M M') M M' Mc Mc':=by
 refine ⟨fun l hw=>?_,fun l hw=>?_,by rw [b.e.1,b.e.2,he],fun q=>b.r (hr q),by rw [b.c.2,hc.2,r.c.2],by rw [b.c.1,hc.1,r.c.1]⟩
 · by_cases hs:S l
   · exact b.i l hs
   · obtain ⟨q1,q2⟩:=b.o l hs
     have hf:T l=false:=by
      cases ht:T l with
      | false=>rfl
      | true=>exact absurd ((hT l).1 ht) hs
     simp only [wrt,hf,Bool.or_false,Bool.and_eq_true] at hw
     rcases r.m l with ⟨a1,a2,_⟩|⟨a1,a2⟩
     · rw [q1,q2,h1,h2,a1,a2]
     · rw [q2,h1,a1] at hw
       cases hm:M.m l<;>rw [hm] at hw<;>simp at hw
 · simp only [wrt,Bool.or_eq_false_iff] at hw
   have hs:¬ S l:=fun h=>by rw [(hT l).2 h] at hw;cases hw.2
   obtain ⟨q1,q2⟩:=b.o l hs
   rcases r.m l with ⟨a1,a2,a3⟩|⟨a1,a2⟩
   · have:=hw.1
     rw [q2,h1,a1,a3] at this
     cases this
   · exact ⟨by rw [q1,h2,a2],by rw [q2,h1,a1]⟩
theorem Zdl {den:List D→Option (D×List D)} {cold:Bool} {args:List (Md×X)} {T:Nat→Bool} (h:stpCall den s M nb ib cold args=some (a,M',T)) (k:Le M Mc) :
 ∃ Mc',stpCall den s Mc nb ib cold args=some (a,Mc',T)∧Up (wrt T M M') M M' Mc Mc':=by
 unfold stpCall at h ⊢
 split at h
 case h_2=>cases h
 rename_i ds M1 htk
 obtain ⟨Mc1,e1,r1⟩:=Zc5 args M M1 Mc ds htk k
 have k1:=r1.le k
 rw [e1]
 simp only at h ⊢
 have hle:Le (if args.any (·.1.own) then M1.tick else M1) (if args.any (·.1.own) then Mc1.tick else Mc1):=by
  split
  · exact ⟨k1.m,by simp only [Mem.tick];rw [k1.e],by simp only [Mem.tick];rcases k1.r with q|q;exact .inl (by simp [q]);exact .inr (by rw [q])⟩
  · exact k1
 have hrr:Mc.r=M.r→(if args.any (·.1.own) then Mc1.tick else Mc1).r=(if args.any (·.1.own) then M1.tick else M1).r:=by
  intro q
  have q1:Mc1.r=M1.r:=by rw [r1.r.1,r1.r.2,q]
  split
  · simp only [Mem.tick];rw [q1]
  · exact q1
 have hm1:∀ l,(if args.any (·.1.own) then M1.tick else M1).m l=M1.m l:=fun l=>by split<;>rfl
 have hm2:∀ l,(if args.any (·.1.own) then Mc1.tick else Mc1).m l=Mc1.m l:=fun l=>by split<;>rfl
 have hc1:(if args.any (·.1.own) then M1.tick else M1).c=M1.c∧(if args.any (·.1.own) then Mc1.tick else Mc1).c=Mc1.c:=by split<;>exact ⟨rfl,rfl⟩
 generalize (if args.any (·.1.own) then M1.tick else M1)=M2 at h hle hm1 hc1 hrr
 generalize (if args.any (·.1.own) then Mc1.tick else Mc1)=Mc2 at hle hm2 hc1 hrr ⊢
 split at h
 case h_2=>cases h
 rename_i all hall
 rw [Ze7 hle args ds all hall]
 simp only
 split at h
 case h_2=>cases h
 rename_i r outs hd
 by_cases hcold:(if cold then args.all (fun p=>p.1.own||coldA (p.2.ev s)) else noRs r&&noRsL outs)=true
 case neg=>rw [if_neg hcold] at h;cases h
 rw [if_pos hcold] at h ⊢
 split at h
 case h_2=>cases h
 rename_i k0 M3 hput
 obtain ⟨Mc3,e3,u3⟩:=Zd5 (nb:=nb) (ib:=ib) (s:=s) k args outs 0 k0 M2 M3 Mc2 hput
 rw [e3]
 simp only
 obtain ⟨q1,q2,q3⟩:=Zb5 (nb:=nb) (ib:=ib) r k0 M3 Mc3
 have hp:=Zc4 args _ _ _ _ _ hput
 have hbm:=Za2 (nb:=nb) (ib:=ib) r k0 M3
 rcases hb:bindD nb ib r k0 M3 with ⟨x,k',M4⟩
 rcases hbc:bindD nb ib r k0 Mc3 with ⟨x2,k2,Mc4⟩
 rw [hb] at h hbm
 rw [hb,hbc] at q1 q2 q3
 simp only at h q1 q2 q3 hbm
 subst q1 q2
 split at h
 case isFalse=>cases h
 rename_i hk'
 cases h
 refine ⟨Mc4,by simp only [hk',if_true],Up.mix (S:=fun l=>(l∈ioNames s args∨(nb+0≤l∧l < nb+k0))∨(nb+k0≤l∧l < nb+k2)) k r1 hm1 hm2 hle.e hrr hc1 (u3.trans q3 fun l=>Iff.rfl) fun l=>?_⟩
 simp only [Bool.or_eq_true,Bool.and_eq_true,decide_eq_true_eq,List.contains_iff_mem]
 constructor
 · rintro (h|h)
   · exact .inl (.inl h)
   · by_cases q:l < nb+k0
     · exact .inl (.inr ⟨by omega,q⟩)
     · exact .inr ⟨by omega,h.2⟩
 · rintro ((h|h)|h)
   · exact .inl h
   · exact .inr ⟨by omega,by omega⟩
   · exact .inr ⟨by omega,h.2⟩
theorem Zh9 {n:Nat} {a0:AV} {T:Nat→Bool} (h:stpTkl M nb ib n a0=some (a,M',T)) (k:Le M Mc):∃ Mc',stpTkl Mc nb ib n a0=some (a,Mc',T)∧Up (wrt T M M') M M' Mc Mc':=by
 unfold stpTkl at h ⊢
 split at h
 case h_2=>cases h
 rename_i l v i
 split at h
 case h_2=>cases h
 rename_i v' sz xs hm
 rw [k.m l _ hm]
 dsimp only
 split at h
 case isFalse=>cases h
 rename_i hv
 rw [if_pos hv]
 split at h
 case h_2=>cases h
 rename_i d hx
 obtain ⟨q1,q2,q3⟩:=Zb5 (nb:=nb) (ib:=ib) d 0 (M.set l none).tick (Mc.set l none).tick
 split at h
 case isFalse=>cases h
 rename_i hc
 rw [q1,q2]
 rw [if_pos hc]
 cases h
 refine ⟨_,rfl,Up.mix (M2:=(M.set l none).tick) (Mc2:=(Mc.set l none).tick) (S:=fun l'=>nb+0≤l'∧l' < nb+(bindD nb ib d 0 (M.set l none).tick).2.1) k (Rm.del hm) (fun _=>rfl) (fun _=>rfl) (by simp only [Mem.tick,Mem.set,k.e]) (fun q=>by simp only [Mem.tick,Mem.set,q]) ⟨rfl,rfl⟩ q3 fun l'=>?_⟩
 simp only [Bool.and_eq_true,decide_eq_true_eq,Nat.add_zero]
theorem ZcK {den:Den} {x:KO} {T:Nat→Bool} (h:kst den s M nb ib x=some (a,M',T)) (k:Le M Mc):∃ Mc',kst den s Mc nb ib x=some (a,Mc',T)∧Up (wrt T M M') M M' Mc Mc':=by
 cases x with
 | i x =>
  simp only [kst] at h ⊢
  cases hq:stp s M nb ib x with
  | none=>rw [hq] at h;cases h
  | some p =>
   rw [hq] at h
   simp only [Option.map_some,Option.some.injEq,Prod.mk.injEq] at h
   obtain ⟨h1,h2,h3⟩:=h
   obtain ⟨Mc',e1,u1⟩:=Zh8 x (a:=p.1) (M':=p.2) (by rw [hq]) k
   subst h1 h2 h3
   exact ⟨Mc',by rw [e1];rfl,u1⟩
 | call f cold args=>exact Zdl h k
 | tkl n x =>
  simp only [kst] at h ⊢
  exact Zh9 h k
 | ccl x cold args =>
  simp only [kst] at h ⊢
  split at h
  · exact Zdl h k
  · exact Zdl h k
  · cases h
 | fcl f x y =>
  simp only [kst] at h ⊢
  split at h
  case h_2=>cases h
  split at h
  case h_2=>cases h
  rename_i j _
  cases hq:stp s M nb ib (.fad j x) with
  | none=>rw [hq] at h;cases h
  | some p =>
   rw [hq] at h
   simp only [Option.map_some,Option.some.injEq,Prod.mk.injEq] at h
   obtain ⟨h1,h2,h3⟩:=h
   obtain ⟨Mc',e1,u1⟩:=Zh8 (.fad j x) (a:=p.1) (M':=p.2) (by rw [hq]) k
   subst h1 h2 h3
   exact ⟨Mc',by rw [e1];rfl,u1⟩
end
end Go.Vm
namespace Go.Vm
open Go
set_option linter.unusedSimpArgs false
set_option linter.unusedVariables false
section
variable {M M':Mem} {s s':Nat→AV} {nb ib:Nat} {a:AV}
theorem Zij:∀ (as:List (Md×X)) (M:Mem),(∀ p∈as,p.2.ev s=p.2.ev s')→takA s as M=takA s' as M
 | [],M,_=>rfl
 | (md,x)::as,M,h=>by
  have h1:=h (md,x) List.mem_cons_self
  have h2:=fun M=>Zij as M fun p hp=>h p (List.mem_cons_of_mem _ hp)
  simp only at h1
  simp only [takA,h1,h2]
theorem Zir:∀ (as:List (Md×X)) (ds:List D),(∀ p∈as,p.2.ev s=p.2.ev s')→frzA s M as ds=frzA s' M as ds
 | [],ds,_=>rfl
 | (md,x)::as,ds,h=>by
  have h1:=h (md,x) List.mem_cons_self
  have h2:=fun ds=>Zir as ds fun p hp=>h p (List.mem_cons_of_mem _ hp)
  simp only at h1
  simp only [frzA,h1,h2]
theorem ZhY {M0:Mem}:∀ (as:List (Md×X)) (ds:List D) (k:Nat) (M:Mem),(∀ p∈as,p.2.ev s=p.2.ev s')→putA s nb ib M0 as ds k M=putA s' nb ib M0 as ds k M
 | [],ds,k,M,_=>by simp only [putA]
 | (md,x)::as,ds,k,M,h=>by
  have h1:=h (md,x) List.mem_cons_self
  have h2:=fun ds k M=>ZhY (M0:=M0) as ds k M fun p hp=>h p (List.mem_cons_of_mem _ hp)
  simp only at h1
  simp only [putA,h1,h2]
theorem Zfj:∀ (as:List (Md×X)),(∀ p∈as,p.2.ev s=p.2.ev s')→ioNames s as=ioNames s' as
 | [],_=>rfl
 | (md,x)::as,h=>by
  have h1:=h (md,x) List.mem_cons_self
  have h2:=Zfj as fun p hp=>h p (List.mem_cons_of_mem _ hp)
  simp only at h1
  simp only [ioNames,h1,h2]
theorem Zdx {den:List D→Option (D×List D)} {cold:Bool} {args:List (Md×X)} (h:∀ p∈args,p.2.ev s=p.2.ev s'):stpCall den s M nb ib cold args=stpCall den s' M nb ib cold args:=by
 have h5:args.all (fun p=>p.1.own||coldA (p.2.ev s))=args.all (fun p=>p.1.own||coldA (p.2.ev s')):=by
  rw [Bool.eq_iff_iff,List.all_eq_true,List.all_eq_true]
  constructor<;>intro hh p hp
  · rw [← h p hp];exact hh p hp
  · rw [h p hp];exact hh p hp
 simp only [stpCall,Zij args _ h,Zir args _ h,ZhY args _ _ _ h,Zfj args h,h5]
def KO.us:KO→List Nat
 | .i x=>x.us
 | .call _ _ args=>(args.map fun p=>p.2.us).flatten
 | .ccl x _ args=>x.us++(args.map X.us).flatten
 | .fcl _ x y=>x.us++y.us
 | .tkl _ x=>x.us
theorem Znu {den:Den} {x:KO} (h:∀ t∈x.us,s t=s' t):kst den s M nb ib x=kst den s' M nb ib x:=by
 cases x with
 | i x =>
  obtain ⟨h1,h2⟩:=Zkk (M:=M) (nb:=nb) (ib:=ib) h
  have h2:=funext h2
  simp only [kst,h1,h2]
 | call f cold args =>
  simp only [kst]
  exact Zdx fun p hp=>X.ev_cong fun t ht=>h t (List.mem_flatten.2 ⟨p.2.us,List.mem_map_of_mem (f:=fun p:Md×X=>p.2.us) hp,ht⟩)
 | ccl x cold args =>
  have hx:=X.ev_cong (x:=x) fun t ht=>h t (List.mem_append_left _ ht)
  have key:∀ cs:List AV,∀ p∈roA (args++cs.map X.k),p.2.ev s=p.2.ev s':=by
   intro cs p hp
   simp only [roA,List.mem_map,List.mem_append] at hp
   obtain ⟨y,hy,rfl⟩:=hp
   rcases hy with hy|⟨c,_,rfl⟩
   · exact X.ev_cong fun t ht=>h t (List.mem_append_right _ (List.mem_flatten.2 ⟨y.us,List.mem_map_of_mem hy,ht⟩))
   · rfl
  simp only [kst,hx]
  split
  · rename_i f caps _;exact Zdx (key caps)
  · rename_i f caps _
    have hm:(caps.map fun c=>X.k (.dat none c))=(caps.map fun c=>AV.dat none c).map X.k:=by simp [List.map_map,Function.comp_def]
    rw [hm]
    exact Zdx (key _)
  · rfl
 | fcl f x y =>
  have hy:=X.ev_cong (x:=y) fun t ht=>h t (List.mem_append_right _ ht)
  have hx:∀ j,stp s M nb ib (.fad j x)=stp s' M nb ib (.fad j x)∧tgt s nb (.fad j x)=tgt s' nb (.fad j x):=by
   intro j
   obtain ⟨h1,h2⟩:=Zkk (i:=.fad j x) (s:=s) (s':=s') (M:=M) (nb:=nb) (ib:=ib) (fun t ht=>h t (List.mem_append_left _ ht))
   exact ⟨h1,funext h2⟩
  simp only [kst,hy]
  split
  · split
    · rename_i j _;rw [(hx j).1,(hx j).2]
    · rfl
  · rfl
 | tkl n x=>simp only [kst,X.ev_cong (x:=x) h]
end
end Go.Vm
