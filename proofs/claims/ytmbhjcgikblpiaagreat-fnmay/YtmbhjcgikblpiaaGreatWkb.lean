/- What the functions that the law reaches return: part 2 (the conditions stand at each). -/
import Derived.Test.YtmbhjcgikblpiaaGreatWka
import Derived.Tactics
import Derived.Tactics2
import Derived.StillTactics
import Derived.Laws.Pointers
open Int renaming reduceEq → iQ, reduceBEq → iB, reduceBNe → iX, reduceNeg → iN, reduceAdd → iA, reduceSub → iS, reduceMul → iM
namespace Go.Vm.YtmbhjcgikblpiaaGreat
open Go Go.Vm
set_option maxRecDepth 10000
set_option maxHeartbeats 8000000
set_option linter.unusedSimpArgs false
set_option linter.unusedVariables false
theorem slices_Clone__sStretch_Stretch.fc (l:List (Int×Int)) (hl:l.length≤4294967296):FCt prog F_slices_Clone__sStretch_Stretch [.ro] [strs l] (strs l) []:=by
 refine fct_run slices_Clone__sStretch_Stretch.ok rfl ?_
 have hsc:(l.map strD).all isSc=true:=by rw [List.all_eq_true];intro d hd;obtain ⟨x,_,rfl⟩:=List.mem_map.1 hd;rfl
 cases l with
 | nil=>simp only [go_sem,List.length_nil,List.map_nil,List.all_nil];try rfl
 | cons b l =>
  have hb:(l.length+1) * 16≤70368744177664:=by simp only [List.length_cons] at hl;omega
  have htk:(l.map strD).take l.length=l.map strD:=List.take_of_length_le (by simp)
  simp only [List.map_cons,List.all_cons,Bool.and_eq_true] at hsc
  have h1:=hsc.1
  have h2:=hsc.2
  simp only [go_sem,h1,h2,hb,Nat.zero_le,htk]
  try rfl
theorem slices_Clone__sKnown_Known.fc (l:List (Int×Int)) (hl:l.length≤4294967296):FCt prog F_slices_Clone__sKnown_Known [.ro] [knowns l] (knowns l) []:=by
 refine fct_run slices_Clone__sKnown_Known.ok rfl ?_
 have hsc:(l.map knownD).all isSc=true:=by rw [List.all_eq_true];intro d hd;obtain ⟨x,_,rfl⟩:=List.mem_map.1 hd;rfl
 cases l with
 | nil=>simp only [go_sem,List.length_nil,List.map_nil,List.all_nil];try rfl
 | cons b l =>
  have hb:(l.length+1) * 16≤70368744177664:=by simp only [List.length_cons] at hl;omega
  have htk:(l.map knownD).take l.length=l.map knownD:=List.take_of_length_le (by simp)
  simp only [List.map_cons,List.all_cons,Bool.and_eq_true] at hsc
  have h1:=hsc.1
  have h2:=hsc.2
  simp only [go_sem,h1,h2,hb,Nat.zero_le,htk]
  try rfl
structure MLen (m:MayD):Prop where
 reg:m.reg.length=6
 bits:m.bits.length=6
 cell:m.cell.length=16
 isset:m.isset.length=16
theorem MayOk.len {m:MayD} (h:MayOk m):MLen m:=⟨h.reg,h.bits,h.cell,h.isset⟩
theorem sc_all {α:Type} {f:α→D} (hf:∀ x,isSc (f x)=true) (l:List α):(l.map f).all isSc=true:=by
 rw [List.all_eq_true];intro d hd;obtain ⟨x,_,rfl⟩:=List.mem_map.1 hd;exact hf x
theorem impl_May_own.fc (m:MayD) (h:MLen m):FCt prog F_impl_May_own [.ro] [m.d] m.d []:=by
 refine fct_run impl_May_own.ok rfl ?_
 obtain ⟨h1,h2,h3,h4⟩:=h
 simp only [go_sem]
 refine fcW_bd (slices_Clone__sStretch_Stretch.fc m.reg (by omega)) noRs_strs ?_
 simp only [go_sem]
 refine fcW_bd (slices_Clone__sKnown_Known.fc m.bits (by omega)) noRs_knowns ?_
 simp only [go_sem]
 refine fcW_bd (slices_Clone__sStretch_Stretch.fc m.cell (by omega)) noRs_strs ?_
 simp only [go_sem]
 refine fcW_bd (slices_Clone__sbool_bool.fc1 m.isset (by omega) (by omega)) noRs_bools ?_
 simp only [go_sem,take_map_len]
theorem spec_l13Own.fc (m:MayD) (h:MLen m):FCt prog F_spec_l13Own [.ro] [m.d] m.d []:=by
 refine fct_run spec_l13Own.ok rfl ?_
 obtain ⟨h1,h2,h3,h4⟩:=h
 have a1:=sc_all (f:=strD) (fun _=>rfl) m.reg
 have a2:=sc_all (f:=knownD) (fun _=>rfl) m.bits
 have a3:=sc_all (f:=strD) (fun _=>rfl) m.cell
 have a4:=sc_all (f:=Bb) (fun _=>rfl) m.isset
 simp only [go_sem,take_map_len,a1,a2,a3,a4,h1,h2,h3,h4]
 rw [List.take_of_length_le (by simp [h1]),List.take_of_length_le (by simp [h2]),List.take_of_length_le (by simp [h3]),List.take_of_length_le (by simp [h4])]
def joinM (a b:MayD):MayD:={ reg:=List.zipWith joinS a.reg b.reg,bits:=List.zipWith joinK a.bits b.bits,cell:=List.zipWith joinS a.cell b.cell,isset:=List.zipWith (·&&·) a.isset b.isset }
theorem joinM_len {a b:MayD} (ha:MLen a) (hb:MLen b):MLen (joinM a b):=by
 obtain ⟨h1,h2,h3,h4⟩:=ha
 obtain ⟨g1,g2,g3,g4⟩:=hb
 constructor<;>simp [joinM, *]
section
variable {α:Type} {A B:List α} {k:Nat} {f:α→D}
theorem ovr_mset {x:α} (h:A.length=B.length) (hk:k < B.length) (hx:A[k]? = some x):((ovr A B k).map f).set k (f x)=(ovr A B (k+1)).map f:=by rw [← List.map_set,ovr_set h hk hx]
theorem ovr_gk (h:A.length=B.length) (hk:k < B.length):(ovr A B k)[k]? = some B[k]:=by rw [ovr_get h hk];exact List.getElem?_eq_getElem hk
end
theorem zip_get {α β γ:Type} {g:α→β→γ} {l:List α} {r:List β} {k:Nat} {x:α} {y:β} (h1:l[k]? = some x) (h2:r[k]? = some y):(List.zipWith g l r)[k]? = some (g x y):=by
 rw [List.getElem?_zipWith,h1,h2]
theorem impl_joined.fc (a b:MayD) (ha:MLen a) (hb:MLen b):FCt prog F_impl_joined [.ro,.ro] [a.d,b.d] (joinM a b).d []:=by
 refine fct_run impl_joined.ok rfl ?_
 simp only [go_sem]
 refine fcW_bd (impl_May_own.fc a ha) noRs_May ?_
 have hJ:=joinM_len ha hb
 generalize hj:joinM a b=J at hJ ⊢
 have e1:List.zipWith joinS a.reg b.reg=J.reg:=by rw [← hj];rfl
 have e2:List.zipWith joinK a.bits b.bits=J.bits:=by rw [← hj];rfl
 have e3:List.zipWith joinS a.cell b.cell=J.cell:=by rw [← hj];rfl
 have e4:List.zipWith (·&&·) a.isset b.isset=J.isset:=by rw [← hj];rfl
 clear hj
 obtain ⟨r1,r2,r3,r4⟩:=J
 obtain ⟨h1,h2,h3,h4⟩:=ha
 obtain ⟨g1,g2,g3,g4⟩:=hb
 obtain ⟨j1,j2,j3,j4⟩:=hJ
 dsimp only at j1 j2 j3 j4 e1 e2 e3 e4
 have c6:((6:Nat):Int)=6:=rfl
 have c16:((16:Nat):Int)=16:=rfl
 simp only [go_sem,h1,h2,h3,h4,c6]
 refine R_loop (α:=Nat) (fun k s' M'=>k≤6∧s' 13=aI k∧M'.m 64=some (.box 0 (.dat none a.d))∧M'.m 128=some (.box 64 (.dat none b.d))∧M'.m 192=some (.box 128 (.agg [.nil 2,.nil 2,.nil 2,.nil 1])) ∧
  M'.m 384=some (.box 320 (.agg [.sl 320 256 0 6 2,.sl 321 257 0 6 2,.sl 322 258 0 16 2,.sl 323 259 0 16 1])) ∧
  M'.m 320=some (.arr 256 true 2 ((ovr r1 a.reg k).map strD))∧M'.m 321=some (.arr 257 true 2 ((ovr r2 a.bits k).map knownD))∧M'.m 322=some (.arr 258 true 2 (a.cell.map strD))∧M'.m 323=some (.arr 259 true 1 (a.isset.map Bb))) (fun k=>6 - k) 0
  ⟨by omega,by simp only [go_sem];rfl,by simp only [go_sem],by simp only [go_sem],by simp only [go_sem],by simp only [go_sem],by simp only [go_sem,ovr_zero],by simp only [go_sem,ovr_zero],by simp only [go_sem],by simp only [go_sem]⟩ ?_
 rintro k s' M' ⟨hk,h13,m1,m2,m3,m4,m5,m6,m7,m8⟩ ho
 unfold impl_joined.b0
 have q2:s' 2=.ptr 64 0 0 none:=by rw [ho 2 rfl];simp only [go_sem]
 have q3:s' 3=.ptr 128 64 0 none:=by rw [ho 3 rfl];simp only [go_sem]
 have q4:s' 4=.ptr 192 128 0 none:=by rw [ho 4 rfl];simp only [go_sem]
 have q5:s' 5=.ptr 384 320 0 none:=by rw [ho 5 rfl];simp only [go_sem]
 have q12:s' 12=aI 6:=by rw [ho 12 rfl];simp only [go_sem]
 clear ho
 by_cases hlt:k < 6
 · have hi':(k:Int) < 6:=by omega
   have hw:IntKind.i64.wrap (k+1)=((k+1:Nat):Int):=by rw [wrap_in (by omega) (by omega)];omega
   have y1:a.reg[k]? = some a.reg[k]:=List.getElem?_eq_getElem (by omega)
   have y2:b.reg[k]? = some b.reg[k]:=List.getElem?_eq_getElem (by omega)
   have y3:a.bits[k]? = some a.bits[k]:=List.getElem?_eq_getElem (by omega)
   have y4:b.bits[k]? = some b.bits[k]:=List.getElem?_eq_getElem (by omega)
   have z1:=ovr_gk (A:=r1) (B:=a.reg) (k:=k) (by omega) (by omega)
   have z2:=ovr_gk (A:=r2) (B:=a.bits) (k:=k) (by omega) (by omega)
   have u1:=ovr_mset (f:=strD) (A:=r1) (B:=a.reg) (k:=k) (by omega) (by omega) (by rw [← e1];exact zip_get y1 y2)
   have u2:=ovr_mset (f:=knownD) (A:=r2) (B:=a.bits) (k:=k) (by omega) (by omega) (by rw [← e2];exact zip_get y3 y4)
   simp only [go_sem,q2,q3,q4,q5,q12,h13,m1,m2,m3,m4,m5,m6,m7,m8,hi',h1,h2,h3,h4,g1,g2,g3,g4,y1,y2,y3,y4,z1,z2,c6,c16]
   refine fcW_bd (impl_joinStretch.fc a.reg[k] b.reg[k]) rfl ?_
   simp only [go_sem,q2,q3,q4,q5,q12,h13,m1,m2,m3,m4,m5,m6,m7,m8,hi',h1,h2,h3,h4,g1,g2,g3,g4,y1,y2,y3,y4,z1,z2,c6,c16]
   refine fcW_bd (impl_joinKnown.fc a.bits[k] b.bits[k]) rfl ?_
   simp only [go_sem,u1,u2,hw,q2,q3,q4,q5,q12,h13,m1,m2,m3,m4,m5,m6,m7,m8,hi',h1,h2,h3,h4,g1,g2,g3,g4,y1,y2,y3,y4,z1,z2,c6,c16]
   exact ⟨k+1,by dsimp only;omega,by omega,by simp only [go_sem,q2,q3,q4,q5,q12,h13,m1,m2,m3,m4,m5,m6,m7,m8,hi',h1,h2,h3,h4,g1,g2,g3,g4,y1,y2,y3,y4,z1,z2,c6,c16],by simp only [go_sem,q2,q3,q4,q5,q12,h13,m1,m2,m3,m4,m5,m6,m7,m8,hi',h1,h2,h3,h4,g1,g2,g3,g4,y1,y2,y3,y4,z1,z2,c6,c16],by simp only [go_sem,q2,q3,q4,q5,q12,h13,m1,m2,m3,m4,m5,m6,m7,m8,hi',h1,h2,h3,h4,g1,g2,g3,g4,y1,y2,y3,y4,z1,z2,c6,c16],by simp only [go_sem,q2,q3,q4,q5,q12,h13,m1,m2,m3,m4,m5,m6,m7,m8,hi',h1,h2,h3,h4,g1,g2,g3,g4,y1,y2,y3,y4,z1,z2,c6,c16],by simp only [go_sem,q2,q3,q4,q5,q12,h13,m1,m2,m3,m4,m5,m6,m7,m8,hi',h1,h2,h3,h4,g1,g2,g3,g4,y1,y2,y3,y4,z1,z2,c6,c16],by simp only [go_sem,u1,q2,q3,q4,q5,q12,h13,m1,m2,m3,m4,m5,m6,m7,m8,hi',h1,h2,h3,h4,g1,g2,g3,g4,y1,y2,y3,y4,z1,z2,c6,c16],by simp only [go_sem,u2,q2,q3,q4,q5,q12,h13,m1,m2,m3,m4,m5,m6,m7,m8,hi',h1,h2,h3,h4,g1,g2,g3,g4,y1,y2,y3,y4,z1,z2,c6,c16],by simp only [go_sem,q2,q3,q4,q5,q12,h13,m1,m2,m3,m4,m5,m6,m7,m8,hi',h1,h2,h3,h4,g1,g2,g3,g4,y1,y2,y3,y4,z1,z2,c6,c16],by simp only [go_sem,q2,q3,q4,q5,q12,h13,m1,m2,m3,m4,m5,m6,m7,m8,hi',h1,h2,h3,h4,g1,g2,g3,g4,y1,y2,y3,y4,z1,z2,c6,c16]⟩
 obtain rfl:k=6:=by omega
 have v1:ovr r1 a.reg 6=r1:=by have:=ovr_all (A:=r1) (B:=a.reg) (by omega);rwa [h1] at this
 have v2:ovr r2 a.bits 6=r2:=by have:=ovr_all (A:=r2) (B:=a.bits) (by omega);rwa [h2] at this
 rw [v1] at m5
 rw [v2] at m6
 simp only [go_sem,c6,c16,Int.lt_irrefl,q2,q3,q4,q5,q12,h13,m1,m2,m3,m4,m5,m6,m7,m8]
 refine R_loop (α:=Nat) (fun k s' M'=>k≤16∧s' 50=aI k∧M'.m 64=some (.box 0 (.dat none a.d))∧M'.m 128=some (.box 64 (.dat none b.d))∧M'.m 192=some (.box 128 (.agg [.nil 2,.nil 2,.nil 2,.nil 1])) ∧
  M'.m 384=some (.box 320 (.agg [.sl 320 256 0 6 2,.sl 321 257 0 6 2,.sl 322 258 0 16 2,.sl 323 259 0 16 1])) ∧
  M'.m 320=some (.arr 256 true 2 (r1.map strD))∧M'.m 321=some (.arr 257 true 2 (r2.map knownD))∧M'.m 322=some (.arr 258 true 2 ((ovr r3 a.cell k).map strD))∧M'.m 323=some (.arr 259 true 1 ((ovr r4 a.isset k).map Bb))) (fun k=>16 - k) 0
  ⟨by omega,by simp only [go_sem,q2,q3,q4,q5,q12,h13,m1,m2,m3,m4,m5,m6,m7,m8];rfl,by simp only [go_sem,q2,q3,q4,q5,q12,h13,m1,m2,m3,m4,m5,m6,m7,m8],by simp only [go_sem,q2,q3,q4,q5,q12,h13,m1,m2,m3,m4,m5,m6,m7,m8],by simp only [go_sem,q2,q3,q4,q5,q12,h13,m1,m2,m3,m4,m5,m6,m7,m8],by simp only [go_sem,q2,q3,q4,q5,q12,h13,m1,m2,m3,m4,m5,m6,m7,m8],by simp only [go_sem,q2,q3,q4,q5,q12,h13,m1,m2,m3,m4,m5,m6,m7,m8],by simp only [go_sem,q2,q3,q4,q5,q12,h13,m1,m2,m3,m4,m5,m6,m7,m8],by simp only [go_sem,ovr_zero,q2,q3,q4,q5,q12,h13,m1,m2,m3,m4,m5,m6,m7,m8],by simp only [go_sem,ovr_zero,q2,q3,q4,q5,q12,h13,m1,m2,m3,m4,m5,m6,m7,m8]⟩ ?_
 clear m1 m2 m3 m4 m5 m6 m7 m8
 rintro k s2 M2 ⟨hk,h50,m1,m2,m3,m4,m5,m6,m7,m8⟩ ho
 unfold impl_joined.b1
 have o2:s2 2=.ptr 64 0 0 none:=by rw [ho 2 rfl];simp only [go_sem,q2,q3,q4,q5,q12,h13,m1,m2,m3,m4,m5,m6,m7,m8]
 have o3:s2 3=.ptr 128 64 0 none:=by rw [ho 3 rfl];simp only [go_sem,q2,q3,q4,q5,q12,h13,m1,m2,m3,m4,m5,m6,m7,m8]
 have o4:s2 4=.ptr 192 128 0 none:=by rw [ho 4 rfl];simp only [go_sem,q2,q3,q4,q5,q12,h13,m1,m2,m3,m4,m5,m6,m7,m8]
 have o5:s2 5=.ptr 384 320 0 none:=by rw [ho 5 rfl];simp only [go_sem,q2,q3,q4,q5,q12,h13,m1,m2,m3,m4,m5,m6,m7,m8]
 have o49:s2 49=aI 16:=by rw [ho 49 rfl];simp only [go_sem,q2,q3,q4,q5,q12,h13,m1,m2,m3,m4,m5,m6,m7,m8]
 clear ho
 by_cases hlt:k < 16
 · have hi':(k:Int) < 16:=by omega
   have hw:IntKind.i64.wrap (k+1)=((k+1:Nat):Int):=by rw [wrap_in (by omega) (by omega)];omega
   have y1:a.cell[k]? = some a.cell[k]:=List.getElem?_eq_getElem (by omega)
   have y2:b.cell[k]? = some b.cell[k]:=List.getElem?_eq_getElem (by omega)
   have y3:a.isset[k]? = some a.isset[k]:=List.getElem?_eq_getElem (by omega)
   have y4:b.isset[k]? = some b.isset[k]:=List.getElem?_eq_getElem (by omega)
   have z1:=ovr_gk (A:=r3) (B:=a.cell) (k:=k) (by omega) (by omega)
   have z2:=ovr_gk (A:=r4) (B:=a.isset) (k:=k) (by omega) (by omega)
   have u1:=ovr_mset (f:=strD) (A:=r3) (B:=a.cell) (k:=k) (by omega) (by omega) (by rw [← e3];exact zip_get y1 y2)
   have u2:=ovr_mset (f:=Bb) (A:=r4) (B:=a.isset) (k:=k) (by omega) (by omega) (by rw [← e4];exact zip_get y3 y4)
   simp only [go_sem,q2,q3,q4,q5,q12,h13,m1,m2,m3,m4,m5,m6,m7,m8,o2,o3,o4,o5,o49,h50,m1,m2,m3,m4,m5,m6,m7,m8,hi',h1,h2,h3,h4,g1,g2,g3,g4,y1,y2,y3,y4,z1,z2,c6,c16]
   refine fcW_bd (impl_joinStretch.fc a.cell[k] b.cell[k]) rfl ?_
   cases hs:a.isset[k] with
   | false =>
    rw [hs,Bool.false_and] at u2
    simp only [go_sem,hs,u1,u2,hw,q2,q3,q4,q5,q12,h13,m1,m2,m3,m4,m5,m6,m7,m8,o2,o3,o4,o5,o49,h50,m1,m2,m3,m4,m5,m6,m7,m8,hi',h1,h2,h3,h4,g1,g2,g3,g4,y1,y2,y3,y4,z1,z2,c6,c16]
    exact ⟨k+1,by dsimp only;omega,by omega,by simp only [go_sem,q2,q3,q4,q5,q12,h13,m1,m2,m3,m4,m5,m6,m7,m8,o2,o3,o4,o5,o49,h50,m1,m2,m3,m4,m5,m6,m7,m8,hi',h1,h2,h3,h4,g1,g2,g3,g4,y1,y2,y3,y4,z1,z2,c6,c16],by simp only [go_sem,q2,q3,q4,q5,q12,h13,m1,m2,m3,m4,m5,m6,m7,m8,o2,o3,o4,o5,o49,h50,m1,m2,m3,m4,m5,m6,m7,m8,hi',h1,h2,h3,h4,g1,g2,g3,g4,y1,y2,y3,y4,z1,z2,c6,c16],by simp only [go_sem,q2,q3,q4,q5,q12,h13,m1,m2,m3,m4,m5,m6,m7,m8,o2,o3,o4,o5,o49,h50,m1,m2,m3,m4,m5,m6,m7,m8,hi',h1,h2,h3,h4,g1,g2,g3,g4,y1,y2,y3,y4,z1,z2,c6,c16],by simp only [go_sem,q2,q3,q4,q5,q12,h13,m1,m2,m3,m4,m5,m6,m7,m8,o2,o3,o4,o5,o49,h50,m1,m2,m3,m4,m5,m6,m7,m8,hi',h1,h2,h3,h4,g1,g2,g3,g4,y1,y2,y3,y4,z1,z2,c6,c16],by simp only [go_sem,q2,q3,q4,q5,q12,h13,m1,m2,m3,m4,m5,m6,m7,m8,o2,o3,o4,o5,o49,h50,m1,m2,m3,m4,m5,m6,m7,m8,hi',h1,h2,h3,h4,g1,g2,g3,g4,y1,y2,y3,y4,z1,z2,c6,c16],by simp only [go_sem,q2,q3,q4,q5,q12,h13,m1,m2,m3,m4,m5,m6,m7,m8,o2,o3,o4,o5,o49,h50,m1,m2,m3,m4,m5,m6,m7,m8,hi',h1,h2,h3,h4,g1,g2,g3,g4,y1,y2,y3,y4,z1,z2,c6,c16],by simp only [go_sem,q2,q3,q4,q5,q12,h13,m1,m2,m3,m4,m5,m6,m7,m8,o2,o3,o4,o5,o49,h50,m1,m2,m3,m4,m5,m6,m7,m8,hi',h1,h2,h3,h4,g1,g2,g3,g4,y1,y2,y3,y4,z1,z2,c6,c16],by simp only [go_sem,u1,q2,q3,q4,q5,q12,h13,m1,m2,m3,m4,m5,m6,m7,m8,o2,o3,o4,o5,o49,h50,m1,m2,m3,m4,m5,m6,m7,m8,hi',h1,h2,h3,h4,g1,g2,g3,g4,y1,y2,y3,y4,z1,z2,c6,c16],by simp only [go_sem,u2,q2,q3,q4,q5,q12,h13,m1,m2,m3,m4,m5,m6,m7,m8,o2,o3,o4,o5,o49,h50,m1,m2,m3,m4,m5,m6,m7,m8,hi',h1,h2,h3,h4,g1,g2,g3,g4,y1,y2,y3,y4,z1,z2,c6,c16]⟩
   | true =>
    rw [hs,Bool.true_and] at u2
    simp only [go_sem,hs,u1,u2,hw,q2,q3,q4,q5,q12,h13,m1,m2,m3,m4,m5,m6,m7,m8,o2,o3,o4,o5,o49,h50,m1,m2,m3,m4,m5,m6,m7,m8,hi',h1,h2,h3,h4,g1,g2,g3,g4,y1,y2,y3,y4,z1,z2,c6,c16]
    exact ⟨k+1,by dsimp only;omega,by omega,by simp only [go_sem,q2,q3,q4,q5,q12,h13,m1,m2,m3,m4,m5,m6,m7,m8,o2,o3,o4,o5,o49,h50,m1,m2,m3,m4,m5,m6,m7,m8,hi',h1,h2,h3,h4,g1,g2,g3,g4,y1,y2,y3,y4,z1,z2,c6,c16],by simp only [go_sem,q2,q3,q4,q5,q12,h13,m1,m2,m3,m4,m5,m6,m7,m8,o2,o3,o4,o5,o49,h50,m1,m2,m3,m4,m5,m6,m7,m8,hi',h1,h2,h3,h4,g1,g2,g3,g4,y1,y2,y3,y4,z1,z2,c6,c16],by simp only [go_sem,q2,q3,q4,q5,q12,h13,m1,m2,m3,m4,m5,m6,m7,m8,o2,o3,o4,o5,o49,h50,m1,m2,m3,m4,m5,m6,m7,m8,hi',h1,h2,h3,h4,g1,g2,g3,g4,y1,y2,y3,y4,z1,z2,c6,c16],by simp only [go_sem,q2,q3,q4,q5,q12,h13,m1,m2,m3,m4,m5,m6,m7,m8,o2,o3,o4,o5,o49,h50,m1,m2,m3,m4,m5,m6,m7,m8,hi',h1,h2,h3,h4,g1,g2,g3,g4,y1,y2,y3,y4,z1,z2,c6,c16],by simp only [go_sem,q2,q3,q4,q5,q12,h13,m1,m2,m3,m4,m5,m6,m7,m8,o2,o3,o4,o5,o49,h50,m1,m2,m3,m4,m5,m6,m7,m8,hi',h1,h2,h3,h4,g1,g2,g3,g4,y1,y2,y3,y4,z1,z2,c6,c16],by simp only [go_sem,q2,q3,q4,q5,q12,h13,m1,m2,m3,m4,m5,m6,m7,m8,o2,o3,o4,o5,o49,h50,m1,m2,m3,m4,m5,m6,m7,m8,hi',h1,h2,h3,h4,g1,g2,g3,g4,y1,y2,y3,y4,z1,z2,c6,c16],by simp only [go_sem,q2,q3,q4,q5,q12,h13,m1,m2,m3,m4,m5,m6,m7,m8,o2,o3,o4,o5,o49,h50,m1,m2,m3,m4,m5,m6,m7,m8,hi',h1,h2,h3,h4,g1,g2,g3,g4,y1,y2,y3,y4,z1,z2,c6,c16],by simp only [go_sem,u1,q2,q3,q4,q5,q12,h13,m1,m2,m3,m4,m5,m6,m7,m8,o2,o3,o4,o5,o49,h50,m1,m2,m3,m4,m5,m6,m7,m8,hi',h1,h2,h3,h4,g1,g2,g3,g4,y1,y2,y3,y4,z1,z2,c6,c16],by simp only [go_sem,u2,q2,q3,q4,q5,q12,h13,m1,m2,m3,m4,m5,m6,m7,m8,o2,o3,o4,o5,o49,h50,m1,m2,m3,m4,m5,m6,m7,m8,hi',h1,h2,h3,h4,g1,g2,g3,g4,y1,y2,y3,y4,z1,z2,c6,c16]⟩
 obtain rfl:k=16:=by omega
 have v1:ovr r3 a.cell 16=r3:=by have:=ovr_all (A:=r3) (B:=a.cell) (by omega);rwa [h3] at this
 have v2:ovr r4 a.isset 16=r4:=by have:=ovr_all (A:=r4) (B:=a.isset) (by omega);rwa [h4] at this
 rw [v1] at m7
 rw [v2] at m8
 have k1:(r1.map strD).take 6=r1.map strD:=List.take_of_length_le (by simp;omega)
 have k2:(r2.map knownD).take 6=r2.map knownD:=List.take_of_length_le (by simp;omega)
 have k3:(r3.map strD).take 16=r3.map strD:=List.take_of_length_le (by simp;omega)
 have k4:(r4.map Bb).take 16=r4.map Bb:=List.take_of_length_le (by simp;omega)
 simp only [go_sem,c16,Int.lt_irrefl,j1,j2,j3,j4,k1,k2,k3,k4,q2,q3,q4,q5,q12,h13,m1,m2,m3,m4,m5,m6,m7,m8,o2,o3,o4,o5,o49,h50,m1,m2,m3,m4,m5,m6,m7,m8]
theorem spec_l13Join.fc (a b:MayD) (ha:MLen a) (hb:MLen b):FCt prog F_spec_l13Join [.ro,.ro] [a.d,b.d] (joinM a b).d []:=by
 refine fct_run spec_l13Join.ok rfl ?_
 simp only [go_sem]
 refine fcW_bd (spec_l13Own.fc a ha) noRs_May ?_
 have hJ:=joinM_len ha hb
 generalize hj:joinM a b=J at hJ ⊢
 have e1:List.zipWith joinS a.reg b.reg=J.reg:=by rw [← hj];rfl
 have e2:List.zipWith joinK a.bits b.bits=J.bits:=by rw [← hj];rfl
 have e3:List.zipWith joinS a.cell b.cell=J.cell:=by rw [← hj];rfl
 have e4:List.zipWith (·&&·) a.isset b.isset=J.isset:=by rw [← hj];rfl
 clear hj
 obtain ⟨r1,r2,r3,r4⟩:=J
 obtain ⟨h1,h2,h3,h4⟩:=ha
 obtain ⟨g1,g2,g3,g4⟩:=hb
 obtain ⟨j1,j2,j3,j4⟩:=hJ
 dsimp only at j1 j2 j3 j4 e1 e2 e3 e4
 have c6:((6:Nat):Int)=6:=rfl
 have c16:((16:Nat):Int)=16:=rfl
 simp only [go_sem,h1,h2,h3,h4,c6]
 refine R_loop (α:=Nat) (fun k s' M'=>k≤6∧s' 13=aI k∧M'.m 64=some (.box 0 (.dat none a.d))∧M'.m 128=some (.box 64 (.dat none b.d))∧M'.m 192=some (.box 128 (.agg [.nil 2,.nil 2,.nil 2,.nil 1])) ∧
  M'.m 384=some (.box 320 (.agg [.sl 320 256 0 6 2,.sl 321 257 0 6 2,.sl 322 258 0 16 2,.sl 323 259 0 16 1])) ∧
  M'.m 320=some (.arr 256 true 2 ((ovr r1 a.reg k).map strD))∧M'.m 321=some (.arr 257 true 2 ((ovr r2 a.bits k).map knownD))∧M'.m 322=some (.arr 258 true 2 (a.cell.map strD))∧M'.m 323=some (.arr 259 true 1 (a.isset.map Bb))) (fun k=>6 - k) 0
  ⟨by omega,by simp only [go_sem];rfl,by simp only [go_sem],by simp only [go_sem],by simp only [go_sem],by simp only [go_sem],by simp only [go_sem,ovr_zero],by simp only [go_sem,ovr_zero],by simp only [go_sem],by simp only [go_sem]⟩ ?_
 rintro k s' M' ⟨hk,h13,m1,m2,m3,m4,m5,m6,m7,m8⟩ ho
 unfold spec_l13Join.b0
 have q2:s' 2=.ptr 64 0 0 none:=by rw [ho 2 rfl];simp only [go_sem]
 have q3:s' 3=.ptr 128 64 0 none:=by rw [ho 3 rfl];simp only [go_sem]
 have q4:s' 4=.ptr 192 128 0 none:=by rw [ho 4 rfl];simp only [go_sem]
 have q5:s' 5=.ptr 384 320 0 none:=by rw [ho 5 rfl];simp only [go_sem]
 have q12:s' 12=aI 6:=by rw [ho 12 rfl];simp only [go_sem]
 clear ho
 by_cases hlt:k < 6
 · have hi':(k:Int) < 6:=by omega
   have hw:IntKind.i64.wrap (k+1)=((k+1:Nat):Int):=by rw [wrap_in (by omega) (by omega)];omega
   have y1:a.reg[k]? = some a.reg[k]:=List.getElem?_eq_getElem (by omega)
   have y2:b.reg[k]? = some b.reg[k]:=List.getElem?_eq_getElem (by omega)
   have y3:a.bits[k]? = some a.bits[k]:=List.getElem?_eq_getElem (by omega)
   have y4:b.bits[k]? = some b.bits[k]:=List.getElem?_eq_getElem (by omega)
   have z1:=ovr_gk (A:=r1) (B:=a.reg) (k:=k) (by omega) (by omega)
   have z2:=ovr_gk (A:=r2) (B:=a.bits) (k:=k) (by omega) (by omega)
   have u1:=ovr_mset (f:=strD) (A:=r1) (B:=a.reg) (k:=k) (by omega) (by omega) (by rw [← e1];exact zip_get y1 y2)
   have u2:=ovr_mset (f:=knownD) (A:=r2) (B:=a.bits) (k:=k) (by omega) (by omega) (by rw [← e2];exact zip_get y3 y4)
   simp only [go_sem,q2,q3,q4,q5,q12,h13,m1,m2,m3,m4,m5,m6,m7,m8,hi',h1,h2,h3,h4,g1,g2,g3,g4,y1,y2,y3,y4,z1,z2,c6,c16]
   refine fcW_bd (spec_l9Join.fc a.reg[k] b.reg[k]) rfl ?_
   simp only [go_sem,q2,q3,q4,q5,q12,h13,m1,m2,m3,m4,m5,m6,m7,m8,hi',h1,h2,h3,h4,g1,g2,g3,g4,y1,y2,y3,y4,z1,z2,c6,c16]
   refine fcW_bd (spec_l10Join.fc a.bits[k] b.bits[k]) rfl ?_
   simp only [go_sem,u1,u2,hw,q2,q3,q4,q5,q12,h13,m1,m2,m3,m4,m5,m6,m7,m8,hi',h1,h2,h3,h4,g1,g2,g3,g4,y1,y2,y3,y4,z1,z2,c6,c16]
   exact ⟨k+1,by dsimp only;omega,by omega,by simp only [go_sem,q2,q3,q4,q5,q12,h13,m1,m2,m3,m4,m5,m6,m7,m8,hi',h1,h2,h3,h4,g1,g2,g3,g4,y1,y2,y3,y4,z1,z2,c6,c16],by simp only [go_sem,q2,q3,q4,q5,q12,h13,m1,m2,m3,m4,m5,m6,m7,m8,hi',h1,h2,h3,h4,g1,g2,g3,g4,y1,y2,y3,y4,z1,z2,c6,c16],by simp only [go_sem,q2,q3,q4,q5,q12,h13,m1,m2,m3,m4,m5,m6,m7,m8,hi',h1,h2,h3,h4,g1,g2,g3,g4,y1,y2,y3,y4,z1,z2,c6,c16],by simp only [go_sem,q2,q3,q4,q5,q12,h13,m1,m2,m3,m4,m5,m6,m7,m8,hi',h1,h2,h3,h4,g1,g2,g3,g4,y1,y2,y3,y4,z1,z2,c6,c16],by simp only [go_sem,q2,q3,q4,q5,q12,h13,m1,m2,m3,m4,m5,m6,m7,m8,hi',h1,h2,h3,h4,g1,g2,g3,g4,y1,y2,y3,y4,z1,z2,c6,c16],by simp only [go_sem,u1,q2,q3,q4,q5,q12,h13,m1,m2,m3,m4,m5,m6,m7,m8,hi',h1,h2,h3,h4,g1,g2,g3,g4,y1,y2,y3,y4,z1,z2,c6,c16],by simp only [go_sem,u2,q2,q3,q4,q5,q12,h13,m1,m2,m3,m4,m5,m6,m7,m8,hi',h1,h2,h3,h4,g1,g2,g3,g4,y1,y2,y3,y4,z1,z2,c6,c16],by simp only [go_sem,q2,q3,q4,q5,q12,h13,m1,m2,m3,m4,m5,m6,m7,m8,hi',h1,h2,h3,h4,g1,g2,g3,g4,y1,y2,y3,y4,z1,z2,c6,c16],by simp only [go_sem,q2,q3,q4,q5,q12,h13,m1,m2,m3,m4,m5,m6,m7,m8,hi',h1,h2,h3,h4,g1,g2,g3,g4,y1,y2,y3,y4,z1,z2,c6,c16]⟩
 obtain rfl:k=6:=by omega
 have v1:ovr r1 a.reg 6=r1:=by have:=ovr_all (A:=r1) (B:=a.reg) (by omega);rwa [h1] at this
 have v2:ovr r2 a.bits 6=r2:=by have:=ovr_all (A:=r2) (B:=a.bits) (by omega);rwa [h2] at this
 rw [v1] at m5
 rw [v2] at m6
 simp only [go_sem,c6,c16,Int.lt_irrefl,q2,q3,q4,q5,q12,h13,m1,m2,m3,m4,m5,m6,m7,m8]
 refine R_loop (α:=Nat) (fun k s' M'=>k≤16∧s' 50=aI k∧M'.m 64=some (.box 0 (.dat none a.d))∧M'.m 128=some (.box 64 (.dat none b.d))∧M'.m 192=some (.box 128 (.agg [.nil 2,.nil 2,.nil 2,.nil 1])) ∧
  M'.m 384=some (.box 320 (.agg [.sl 320 256 0 6 2,.sl 321 257 0 6 2,.sl 322 258 0 16 2,.sl 323 259 0 16 1])) ∧
  M'.m 320=some (.arr 256 true 2 (r1.map strD))∧M'.m 321=some (.arr 257 true 2 (r2.map knownD))∧M'.m 322=some (.arr 258 true 2 ((ovr r3 a.cell k).map strD))∧M'.m 323=some (.arr 259 true 1 ((ovr r4 a.isset k).map Bb))) (fun k=>16 - k) 0
  ⟨by omega,by simp only [go_sem,q2,q3,q4,q5,q12,h13,m1,m2,m3,m4,m5,m6,m7,m8];rfl,by simp only [go_sem,q2,q3,q4,q5,q12,h13,m1,m2,m3,m4,m5,m6,m7,m8],by simp only [go_sem,q2,q3,q4,q5,q12,h13,m1,m2,m3,m4,m5,m6,m7,m8],by simp only [go_sem,q2,q3,q4,q5,q12,h13,m1,m2,m3,m4,m5,m6,m7,m8],by simp only [go_sem,q2,q3,q4,q5,q12,h13,m1,m2,m3,m4,m5,m6,m7,m8],by simp only [go_sem,q2,q3,q4,q5,q12,h13,m1,m2,m3,m4,m5,m6,m7,m8],by simp only [go_sem,q2,q3,q4,q5,q12,h13,m1,m2,m3,m4,m5,m6,m7,m8],by simp only [go_sem,ovr_zero,q2,q3,q4,q5,q12,h13,m1,m2,m3,m4,m5,m6,m7,m8],by simp only [go_sem,ovr_zero,q2,q3,q4,q5,q12,h13,m1,m2,m3,m4,m5,m6,m7,m8]⟩ ?_
 clear m1 m2 m3 m4 m5 m6 m7 m8
 rintro k s2 M2 ⟨hk,h50,m1,m2,m3,m4,m5,m6,m7,m8⟩ ho
 unfold spec_l13Join.b1
 have o2:s2 2=.ptr 64 0 0 none:=by rw [ho 2 rfl];simp only [go_sem,q2,q3,q4,q5,q12,h13,m1,m2,m3,m4,m5,m6,m7,m8]
 have o3:s2 3=.ptr 128 64 0 none:=by rw [ho 3 rfl];simp only [go_sem,q2,q3,q4,q5,q12,h13,m1,m2,m3,m4,m5,m6,m7,m8]
 have o4:s2 4=.ptr 192 128 0 none:=by rw [ho 4 rfl];simp only [go_sem,q2,q3,q4,q5,q12,h13,m1,m2,m3,m4,m5,m6,m7,m8]
 have o5:s2 5=.ptr 384 320 0 none:=by rw [ho 5 rfl];simp only [go_sem,q2,q3,q4,q5,q12,h13,m1,m2,m3,m4,m5,m6,m7,m8]
 have o49:s2 49=aI 16:=by rw [ho 49 rfl];simp only [go_sem,q2,q3,q4,q5,q12,h13,m1,m2,m3,m4,m5,m6,m7,m8]
 clear ho
 by_cases hlt:k < 16
 · have hi':(k:Int) < 16:=by omega
   have hw:IntKind.i64.wrap (k+1)=((k+1:Nat):Int):=by rw [wrap_in (by omega) (by omega)];omega
   have y1:a.cell[k]? = some a.cell[k]:=List.getElem?_eq_getElem (by omega)
   have y2:b.cell[k]? = some b.cell[k]:=List.getElem?_eq_getElem (by omega)
   have y3:a.isset[k]? = some a.isset[k]:=List.getElem?_eq_getElem (by omega)
   have y4:b.isset[k]? = some b.isset[k]:=List.getElem?_eq_getElem (by omega)
   have z1:=ovr_gk (A:=r3) (B:=a.cell) (k:=k) (by omega) (by omega)
   have z2:=ovr_gk (A:=r4) (B:=a.isset) (k:=k) (by omega) (by omega)
   have u1:=ovr_mset (f:=strD) (A:=r3) (B:=a.cell) (k:=k) (by omega) (by omega) (by rw [← e3];exact zip_get y1 y2)
   have u2:=ovr_mset (f:=Bb) (A:=r4) (B:=a.isset) (k:=k) (by omega) (by omega) (by rw [← e4];exact zip_get y3 y4)
   simp only [go_sem,q2,q3,q4,q5,q12,h13,m1,m2,m3,m4,m5,m6,m7,m8,o2,o3,o4,o5,o49,h50,m1,m2,m3,m4,m5,m6,m7,m8,hi',h1,h2,h3,h4,g1,g2,g3,g4,y1,y2,y3,y4,z1,z2,c6,c16]
   refine fcW_bd (spec_l9Join.fc a.cell[k] b.cell[k]) rfl ?_
   cases hs:a.isset[k] with
   | false =>
    rw [hs,Bool.false_and] at u2
    simp only [go_sem,hs,u1,u2,hw,q2,q3,q4,q5,q12,h13,m1,m2,m3,m4,m5,m6,m7,m8,o2,o3,o4,o5,o49,h50,m1,m2,m3,m4,m5,m6,m7,m8,hi',h1,h2,h3,h4,g1,g2,g3,g4,y1,y2,y3,y4,z1,z2,c6,c16]
    exact ⟨k+1,by dsimp only;omega,by omega,by simp only [go_sem,q2,q3,q4,q5,q12,h13,m1,m2,m3,m4,m5,m6,m7,m8,o2,o3,o4,o5,o49,h50,m1,m2,m3,m4,m5,m6,m7,m8,hi',h1,h2,h3,h4,g1,g2,g3,g4,y1,y2,y3,y4,z1,z2,c6,c16],by simp only [go_sem,q2,q3,q4,q5,q12,h13,m1,m2,m3,m4,m5,m6,m7,m8,o2,o3,o4,o5,o49,h50,m1,m2,m3,m4,m5,m6,m7,m8,hi',h1,h2,h3,h4,g1,g2,g3,g4,y1,y2,y3,y4,z1,z2,c6,c16],by simp only [go_sem,q2,q3,q4,q5,q12,h13,m1,m2,m3,m4,m5,m6,m7,m8,o2,o3,o4,o5,o49,h50,m1,m2,m3,m4,m5,m6,m7,m8,hi',h1,h2,h3,h4,g1,g2,g3,g4,y1,y2,y3,y4,z1,z2,c6,c16],by simp only [go_sem,q2,q3,q4,q5,q12,h13,m1,m2,m3,m4,m5,m6,m7,m8,o2,o3,o4,o5,o49,h50,m1,m2,m3,m4,m5,m6,m7,m8,hi',h1,h2,h3,h4,g1,g2,g3,g4,y1,y2,y3,y4,z1,z2,c6,c16],by simp only [go_sem,q2,q3,q4,q5,q12,h13,m1,m2,m3,m4,m5,m6,m7,m8,o2,o3,o4,o5,o49,h50,m1,m2,m3,m4,m5,m6,m7,m8,hi',h1,h2,h3,h4,g1,g2,g3,g4,y1,y2,y3,y4,z1,z2,c6,c16],by simp only [go_sem,q2,q3,q4,q5,q12,h13,m1,m2,m3,m4,m5,m6,m7,m8,o2,o3,o4,o5,o49,h50,m1,m2,m3,m4,m5,m6,m7,m8,hi',h1,h2,h3,h4,g1,g2,g3,g4,y1,y2,y3,y4,z1,z2,c6,c16],by simp only [go_sem,q2,q3,q4,q5,q12,h13,m1,m2,m3,m4,m5,m6,m7,m8,o2,o3,o4,o5,o49,h50,m1,m2,m3,m4,m5,m6,m7,m8,hi',h1,h2,h3,h4,g1,g2,g3,g4,y1,y2,y3,y4,z1,z2,c6,c16],by simp only [go_sem,u1,q2,q3,q4,q5,q12,h13,m1,m2,m3,m4,m5,m6,m7,m8,o2,o3,o4,o5,o49,h50,m1,m2,m3,m4,m5,m6,m7,m8,hi',h1,h2,h3,h4,g1,g2,g3,g4,y1,y2,y3,y4,z1,z2,c6,c16],by simp only [go_sem,u2,q2,q3,q4,q5,q12,h13,m1,m2,m3,m4,m5,m6,m7,m8,o2,o3,o4,o5,o49,h50,m1,m2,m3,m4,m5,m6,m7,m8,hi',h1,h2,h3,h4,g1,g2,g3,g4,y1,y2,y3,y4,z1,z2,c6,c16]⟩
   | true =>
    rw [hs,Bool.true_and] at u2
    simp only [go_sem,hs,u1,u2,hw,q2,q3,q4,q5,q12,h13,m1,m2,m3,m4,m5,m6,m7,m8,o2,o3,o4,o5,o49,h50,m1,m2,m3,m4,m5,m6,m7,m8,hi',h1,h2,h3,h4,g1,g2,g3,g4,y1,y2,y3,y4,z1,z2,c6,c16]
    exact ⟨k+1,by dsimp only;omega,by omega,by simp only [go_sem,q2,q3,q4,q5,q12,h13,m1,m2,m3,m4,m5,m6,m7,m8,o2,o3,o4,o5,o49,h50,m1,m2,m3,m4,m5,m6,m7,m8,hi',h1,h2,h3,h4,g1,g2,g3,g4,y1,y2,y3,y4,z1,z2,c6,c16],by simp only [go_sem,q2,q3,q4,q5,q12,h13,m1,m2,m3,m4,m5,m6,m7,m8,o2,o3,o4,o5,o49,h50,m1,m2,m3,m4,m5,m6,m7,m8,hi',h1,h2,h3,h4,g1,g2,g3,g4,y1,y2,y3,y4,z1,z2,c6,c16],by simp only [go_sem,q2,q3,q4,q5,q12,h13,m1,m2,m3,m4,m5,m6,m7,m8,o2,o3,o4,o5,o49,h50,m1,m2,m3,m4,m5,m6,m7,m8,hi',h1,h2,h3,h4,g1,g2,g3,g4,y1,y2,y3,y4,z1,z2,c6,c16],by simp only [go_sem,q2,q3,q4,q5,q12,h13,m1,m2,m3,m4,m5,m6,m7,m8,o2,o3,o4,o5,o49,h50,m1,m2,m3,m4,m5,m6,m7,m8,hi',h1,h2,h3,h4,g1,g2,g3,g4,y1,y2,y3,y4,z1,z2,c6,c16],by simp only [go_sem,q2,q3,q4,q5,q12,h13,m1,m2,m3,m4,m5,m6,m7,m8,o2,o3,o4,o5,o49,h50,m1,m2,m3,m4,m5,m6,m7,m8,hi',h1,h2,h3,h4,g1,g2,g3,g4,y1,y2,y3,y4,z1,z2,c6,c16],by simp only [go_sem,q2,q3,q4,q5,q12,h13,m1,m2,m3,m4,m5,m6,m7,m8,o2,o3,o4,o5,o49,h50,m1,m2,m3,m4,m5,m6,m7,m8,hi',h1,h2,h3,h4,g1,g2,g3,g4,y1,y2,y3,y4,z1,z2,c6,c16],by simp only [go_sem,q2,q3,q4,q5,q12,h13,m1,m2,m3,m4,m5,m6,m7,m8,o2,o3,o4,o5,o49,h50,m1,m2,m3,m4,m5,m6,m7,m8,hi',h1,h2,h3,h4,g1,g2,g3,g4,y1,y2,y3,y4,z1,z2,c6,c16],by simp only [go_sem,u1,q2,q3,q4,q5,q12,h13,m1,m2,m3,m4,m5,m6,m7,m8,o2,o3,o4,o5,o49,h50,m1,m2,m3,m4,m5,m6,m7,m8,hi',h1,h2,h3,h4,g1,g2,g3,g4,y1,y2,y3,y4,z1,z2,c6,c16],by simp only [go_sem,u2,q2,q3,q4,q5,q12,h13,m1,m2,m3,m4,m5,m6,m7,m8,o2,o3,o4,o5,o49,h50,m1,m2,m3,m4,m5,m6,m7,m8,hi',h1,h2,h3,h4,g1,g2,g3,g4,y1,y2,y3,y4,z1,z2,c6,c16]⟩
 obtain rfl:k=16:=by omega
 have v1:ovr r3 a.cell 16=r3:=by have:=ovr_all (A:=r3) (B:=a.cell) (by omega);rwa [h3] at this
 have v2:ovr r4 a.isset 16=r4:=by have:=ovr_all (A:=r4) (B:=a.isset) (by omega);rwa [h4] at this
 rw [v1] at m7
 rw [v2] at m8
 have k1:(r1.map strD).take 6=r1.map strD:=List.take_of_length_le (by simp;omega)
 have k2:(r2.map knownD).take 6=r2.map knownD:=List.take_of_length_le (by simp;omega)
 have k3:(r3.map strD).take 16=r3.map strD:=List.take_of_length_le (by simp;omega)
 have k4:(r4.map Bb).take 16=r4.map Bb:=List.take_of_length_le (by simp;omega)
 simp only [go_sem,c16,Int.lt_irrefl,j1,j2,j3,j4,k1,k2,k3,k4,q2,q3,q4,q5,q12,h13,m1,m2,m3,m4,m5,m6,m7,m8,o2,o3,o4,o5,o49,h50,m1,m2,m3,m4,m5,m6,m7,m8]
def zeroM:MayD:=⟨[],[],[],[]⟩
theorem wMay_len {m:MayD} (h:MLen m):wMay m≤1048576:=by obtain ⟨h1,h2,h3,h4⟩:=h;unfold wMay;omega
theorem wMay_zero:wMay zeroM≤1048576:=by decide
def joinG (a b:MayD):MayD:=if goodMay a&&goodMay b then joinM a b else zeroM
theorem joinG_w (a b:MayD):wMay (joinG a b)≤1048576:=by
 unfold joinG;split
 · rename_i h
   rw [Bool.and_eq_true] at h
   exact wMay_len (joinM_len (goodMay_ok h.1).len (goodMay_ok h.2).len)
 · exact wMay_zero
theorem impl_JoinMay.fc (a b:MayD) (ha:wMay a≤4194304) (hb:wMay b≤4194304):FCt prog F_impl_JoinMay [.ro,.ro] [a.d,b.d] (.tup [(joinG a b).d,Bb (goodMay a&&goodMay b)]) []:=by
 refine fct_run impl_JoinMay.ok rfl ?_
 unfold joinG
 simp only [go_sem]
 refine fcW_bool (impl_GoodMay.fc a ha) ?_
 cases h1:goodMay a with
 | false=>simp only [go_sem];rfl
 | true =>
  simp only [go_sem]
  refine fcW_bool (impl_GoodMay.fc b hb) ?_
  cases h2:goodMay b with
  | false=>simp only [go_sem];rfl
  | true =>
   simp only [go_sem]
   refine fcW_bd (impl_joined.fc a b (goodMay_ok h1).len (goodMay_ok h2).len) noRs_May ?_
   simp only [go_sem,take_map_len]
theorem spec_JoinMay.fc (a b:MayD) (ha:wMay a≤4194304) (hb:wMay b≤4194304):FCt prog F_spec_JoinMay [.ro,.ro] [a.d,b.d] (.tup [(joinG a b).d,Bb (goodMay a&&goodMay b)]) []:=by
 refine fct_run spec_JoinMay.ok rfl ?_
 unfold joinG
 simp only [go_sem]
 refine fcW_bool (spec_GoodMay.fc a ha) ?_
 cases h1:goodMay a with
 | false=>simp only [go_sem];rfl
 | true =>
  simp only [go_sem]
  refine fcW_bool (spec_GoodMay.fc b hb) ?_
  cases h2:goodMay b with
  | false=>simp only [go_sem];rfl
  | true =>
   simp only [go_sem]
   refine fcW_bd (spec_l13Join.fc a b (goodMay_ok h1).len (goodMay_ok h2).len) noRs_May ?_
   simp only [go_sem,take_map_len]
structure StepD where
 kind:Int
 op:Int
 dst:Int
 src:Int
 imm:Int
 to:Int
 deriving DecidableEq
abbrev StepD.d (x:StepD):D:=.agg [Ii x.kind,Ii x.op,Ii x.dst,Ii x.src,Ii x.imm,Ii x.to]
abbrev steps (l:List StepD):D:=.sl 6 (l.map StepD.d)
theorem noRs_steps {l:List StepD}:noRs (steps l)=true:=noRs_sl (by
 intro d hd
 obtain ⟨x,_,rfl⟩:=List.mem_map.1 hd
 exact rfl)
theorem spec_l2Reg.fc (n:Int):FCt prog F_spec_l2Reg [.ro] [Ii n] (Bb (inB n 0 5)) []:=by
 refine fct_run spec_l2Reg.ok rfl ?_
 repeat' (first|with_reducible rfl|refine fcW_bool (spec_l1In.fc ..) ?_|with_reducible refine cdW_dec (fun _=>?_) (fun _=>?_)|refine cdW_not (fun _=>?_) (fun _=>?_)|refine cdW_any (fun _=>?_) (fun _=>?_)|with_reducible refine gdW_decT (fun _=>?_) (fun _=>?_)|with_reducible refine gdW_decF (fun _=>?_) (fun _=>?_)|refine gdW_not (fun _=>?_) (fun _=>?_)|refine gdW_any (fun _=>?_) (fun _=>?_)|simp only [go_sem,bne,iQ,iB,iX,Int.reduceLE,iN,iA,iS,iM, *]|rfl)
def zeroB (s:StepD) (op dst src imm to:Bool):Bool:=(op||s.op == 0)&&(dst||s.dst == 0)&&(src||s.src == 0)&&(imm||s.imm == 0)&&(to||s.to == 0)
theorem spec_l2Zero.fc (s:StepD) (op dst src imm to:Bool):FCt prog F_spec_l2Zero [.ro,.ro,.ro,.ro,.ro,.ro] [s.d,Bb op,Bb dst,Bb src,Bb imm,Bb to] (Bb (zeroB s op dst src imm to)) []:=by
 refine fct_run spec_l2Zero.ok rfl ?_
 unfold zeroB
 repeat' (first|with_reducible rfl|with_reducible refine cdW_dec (fun _=>?_) (fun _=>?_)|refine cdW_not (fun _=>?_) (fun _=>?_)|refine cdW_any (fun _=>?_) (fun _=>?_)|with_reducible refine gdW_decT (fun _=>?_) (fun _=>?_)|with_reducible refine gdW_decF (fun _=>?_) (fun _=>?_)|refine gdW_not (fun _=>?_) (fun _=>?_)|refine gdW_any (fun _=>?_) (fun _=>?_)|simp only [go_sem,bne,iQ,iB,iX,Int.reduceLE,iN,iA,iS,iM, *]|rfl)
def stepB (s:StepD):Bool :=
 if !inB s.dst 0 5 then false else if !inB s.src 0 5 then false else
 if s.kind == 1 then inB s.op 1 10&&zeroB s true true true false false else
 if s.kind == 2 then inB s.op 1 10&&inB s.imm 0 255&&zeroB s true true false true false else
 if s.kind == 3 then inB s.imm 0 255&&zeroB s false true false true false else
 if s.kind == 4 then inB s.imm 256 65535&&zeroB s false true false true false else
 if s.kind == 5 then inB s.imm 0 7&&zeroB s false true true true false else
 if s.kind == 6 then inB s.imm 0 255&&zeroB s false true false true false else
 if s.kind == 7 then inB s.imm 0 255&&zeroB s false true false true false else
 if s.kind == 8 then inB s.to 1 19&&zeroB s false false false false true else
 if s.kind == 9 then inB s.to 1 19&&zeroB s false true true false true else
 if s.kind == 10 then inB s.to 1 19&&zeroB s false true true false true else
 (s.kind == 11)&&zeroB s false false false false false
theorem spec_l2Step.fc (s:StepD):FCt prog F_spec_l2Step [.ro] [s.d] (Bb (stepB s)) []:=by
 refine fct_run spec_l2Step.ok rfl ?_
 unfold stepB
 repeat' (first|with_reducible rfl|refine fcW_bool (spec_l1In.fc ..) ?_|refine fcW_bool (spec_l2Reg.fc ..) ?_|refine fcW_bool (spec_l2Zero.fc ..) ?_|with_reducible refine cdW_dec (fun _=>?_) (fun _=>?_)|refine cdW_not (fun _=>?_) (fun _=>?_)|refine cdW_any (fun _=>?_) (fun _=>?_)|with_reducible refine gdW_decT (fun _=>?_) (fun _=>?_)|with_reducible refine gdW_decF (fun _=>?_) (fun _=>?_)|refine gdW_not (fun _=>?_) (fun _=>?_)|refine gdW_any (fun _=>?_) (fun _=>?_)|simp only [go_sem,bne,iQ,iB,iX,Int.reduceLE,iN,iA,iS,iM, *]|rfl)
def fldL (k:Int):List UInt8 :=
 if k == 1 then [111,100,115] else if k == 2 then [111,100,105] else if k == 3 then [100,105] else if k == 4 then [100,105] else if k == 6 then [100,105] else if k == 7 then [100,105] else
 if k == 5 then [100,115,105] else if k == 8 then [116] else if k == 9 then [100,115,116] else if k == 10 then [100,115,116] else []
def strL (l:List UInt8):ByteArray:=⟨l.toArray⟩
theorem impl_fields.fc (k:Int):FCt prog F_impl_fields [.ro] [Ii k] (.str (strL (fldL k))) []:=by
 refine fct_run impl_fields.ok rfl ?_
 unfold fldL
 repeat' (first|with_reducible rfl|with_reducible refine cdW_dec (fun _=>?_) (fun _=>?_)|refine cdW_not (fun _=>?_) (fun _=>?_)|refine cdW_any (fun _=>?_) (fun _=>?_)|with_reducible refine gdW_decT (fun _=>?_) (fun _=>?_)|with_reducible refine gdW_decF (fun _=>?_) (fun _=>?_)|refine gdW_not (fun _=>?_) (fun _=>?_)|refine gdW_any (fun _=>?_) (fun _=>?_)|simp only [go_sem,bne,iQ,iB,iX,Int.reduceLE,iN,iA,iS,iM, *]|rfl)
 all_goals rfl
def rgF (k:Int) (c:Int):Int×Int :=
 if c == 111 then (1,10) else if c == 100 then (0,5) else if c == 115 then (0,5) else if c == 116 then (1,19) else
 if k == 4 then (256,65535) else if k == 5 then (0,7) else (0,255)
theorem impl_Step_ranges.fc (s:StepD) (c:Int):FCt prog F_impl_Step_ranges [.ro,.ro] [s.d,.int .u8 c] (.tup [Ii (rgF s.kind c).1,Ii (rgF s.kind c).2]) []:=by
 refine fct_run impl_Step_ranges.ok rfl ?_
 unfold rgF
 repeat' (first|with_reducible rfl|with_reducible refine cdW_dec (fun _=>?_) (fun _=>?_)|refine cdW_not (fun _=>?_) (fun _=>?_)|refine cdW_any (fun _=>?_) (fun _=>?_)|with_reducible refine gdW_decT (fun _=>?_) (fun _=>?_)|with_reducible refine gdW_decF (fun _=>?_) (fun _=>?_)|refine gdW_not (fun _=>?_) (fun _=>?_)|refine gdW_any (fun _=>?_) (fun _=>?_)|simp only [go_sem,bne,iQ,iB,iX,Int.reduceLE,iN,iA,iS,iM, *]|rfl)
theorem field_pc {c:Int} {j:Nat} (h:c=111∧j=1∨c=100∧j=2∨c=115∧j=3∨c=105∧j=4∨c=116∧j=5):PCt prog F_impl_pStep_field (.int .u8 c) j:=by
 refine ⟨by kernel_rfl,?_⟩
 intro X w a v hv
 simp only [TV] at hv
 obtain ⟨rfl,_⟩:=hv
 rcases h with ⟨rfl,rfl⟩|⟨rfl,rfl⟩|⟨rfl,rfl⟩|⟨rfl,rfl⟩|⟨rfl,rfl⟩ <;>
 · go_enter Go.Proofs.Tryz.func197,Go.Proofs.Tryz.ntmps197
   go_wp2
   go_ret
   exact ⟨rfl,rfl⟩
def getF (s:StepD) (c:UInt8):Int:=if c=111 then s.op else if c=100 then s.dst else if c=115 then s.src else if c=105 then s.imm else s.to
def clrF (s:StepD) (c:UInt8):StepD:=if c=111 then { s with op:=0 } else if c=100 then { s with dst:=0 } else if c=115 then { s with src:=0 } else if c=105 then { s with imm:=0 } else { s with to:=0 }
def okF (s:StepD) (c:UInt8):Bool:=inB (getF s c) (rgF s.kind c.toNat).1 (rgF s.kind c.toNat).2
def restF (s:StepD) (l:List UInt8):StepD:=l.foldl clrF { s with kind:=0 }
def validB (s:StepD):Bool:=(fldL s.kind).all (okF s)&&(inB s.kind 1 11&&(restF s (fldL s.kind) == ⟨0,0,0,0,0,0⟩))
theorem fldL_len (k:Int):(fldL k).length≤3:=by
 unfold fldL;repeat' (split<;>try decide)
theorem fldL_mem {k:Int} {c:UInt8} (h:c∈fldL k):c=111∨c=100∨c=115∨c=105∨c=116:=by
 have:(fldL k).all (fun c=>c == 111||c == 100||c == 115||c == 105||c == 116)=true:=by
  unfold fldL;repeat' split
  all_goals rfl
 have:=List.all_eq_true.1 this c h
 simp only [Bool.or_eq_true,beq_iff_eq] at this
 rcases this with (((h|h)|h)|h)|h<;>simp [h]
theorem valid_not {s:StepD} {i:Nat} (h:i < (fldL s.kind).length) (h2:okF s (fldL s.kind)[i]=false):validB s=false:=by
 unfold validB;rw [not_all h h2];rfl
theorem rest_step {s:StepD} {l:List UInt8} {i:Nat} (h:i < l.length):restF s (l.take (i+1))=clrF (restF s (l.take i)) l[i]:=by
 unfold restF;rw [take_succ' h,List.foldl_append];rfl
theorem impl_Step_valid.fc (s:StepD):FCt prog F_impl_Step_valid [.ro] [s.d] (Bb (validB s)) []:=by
 refine fct_run impl_Step_valid.ok rfl ?_
 simp only [go_sem]
 refine fcW_str (impl_fields.fc s.kind) ?_
 have hln:=fldL_len s.kind
 have hsz:(strL (fldL s.kind)).size=(fldL s.kind).length:=rfl
 simp only [go_sem,hsz]
 refine R_loop (α:=Nat) (fun i s' M'=>i≤(fldL s.kind).length∧s' 14=aI i∧((fldL s.kind).take i).all (okF s)=true∧M'.m 64=some (.box 0 (.dat none s.d)) ∧
  ∃ r,restF s ((fldL s.kind).take i)=r∧M'.m 256=some (.box 192 (.agg [aI r.kind,aI r.op,aI r.dst,aI r.src,aI r.imm,aI r.to]))) (fun i=>(fldL s.kind).length - i) 0
  ⟨by omega,by simp only [go_sem];rfl,by simp,by simp only [go_sem],{ s with kind:=0 },by simp [restF],by simp only [go_sem]⟩ ?_
 rintro i s' M' ⟨hi,h14,hall,m1,r,hr,m2⟩ ho
 unfold impl_Step_valid.b0
 have k1:s' 1=.ptr 64 0 0 none:=by rw [ho 1 rfl];simp only [go_sem]
 have k3:s' 3=.ptr 256 192 0 none:=by rw [ho 3 rfl];simp only [go_sem]
 have k13:s' 13=aI (fldL s.kind).length:=by rw [ho 13 rfl];simp only [go_sem]
 clear ho
 by_cases hlt:i < (fldL s.kind).length
 · have hi':(i:Int) < (fldL s.kind).length:=by omega
   have hw:IntKind.i64.wrap (i+1)=((i+1:Nat):Int):=by rw [wrap_in (by omega) (by omega)];omega
   have hbd:0≤(i:Int)∧(i:Int) < (strL (fldL s.kind)).size:=⟨by omega,by rw [hsz];omega⟩
   have hgt:∀ h,(strL (fldL s.kind))[i]'h=(fldL s.kind)[i]:=fun _=>rfl
   have hmem:=fldL_mem (List.getElem_mem hlt)
   have hnot:=valid_not hlt
   have hst:=rest_step (s:=s) hlt
   rw [hr] at hst
   have hall':okF s (fldL s.kind)[i]=true→((fldL s.kind).take (i+1)).all (okF s)=true:=fun h=>all_take hlt hall h
   simp only [go_sem,hi',k1,k3,k13,h14,m1,m2]
   refine fcW_str (impl_fields.fc s.kind) ?_
   simp only [go_sem,hbd,hgt,↓reduceDIte,k1,k3,k13,h14,m1,m2]
   generalize (fldL s.kind)[i]=c at hmem hnot hst hall' ⊢
   refine fcW_bd (impl_Step_ranges.fc s c.toNat) rfl ?_
   simp only [go_sem,k1,k3,k13,h14,m1,m2]
   unfold okF at hnot hall'
   rcases hmem with rfl|rfl|rfl|rfl|rfl
   · refine fcF_of (field_pc (j:=1) (.inl ⟨rfl,rfl⟩)) ?_
     simp only [go_sem,k1,k3,k13,h14,m1,m2]
     refine fcW_bool (impl_in.fc _ _ _) ?_
     cases hc:inB s.op (rgF s.kind (UInt8.toNat 111)).1 (rgF s.kind (UInt8.toNat 111)).2 with
     | false=>simp only [go_sem,hnot hc,k1,k3,k13,h14,m1,m2]
     | true =>
      simp only [go_sem,k1,k3,k13,h14,m1,m2]
      refine fcF_of (field_pc (j:=1) (.inl ⟨rfl,rfl⟩)) ?_
      simp only [go_sem,hw,k1,k3,k13,h14,m1,m2]
      exact ⟨i+1,by dsimp only;omega,by omega,by simp only [go_sem,k1,k3,k13,h14,m1,m2],hall' hc,by simp only [go_sem,k1,k3,k13,h14,m1,m2],_,hst,by simp only [go_sem,k1,k3,k13,h14,m1,m2];rfl⟩
   · refine fcF_of (field_pc (j:=2) (.inr (.inl ⟨rfl,rfl⟩))) ?_
     simp only [go_sem,k1,k3,k13,h14,m1,m2]
     refine fcW_bool (impl_in.fc _ _ _) ?_
     cases hc:inB s.dst (rgF s.kind (UInt8.toNat 100)).1 (rgF s.kind (UInt8.toNat 100)).2 with
     | false=>simp only [go_sem,hnot hc,k1,k3,k13,h14,m1,m2]
     | true =>
      simp only [go_sem,k1,k3,k13,h14,m1,m2]
      refine fcF_of (field_pc (j:=2) (.inr (.inl ⟨rfl,rfl⟩))) ?_
      simp only [go_sem,hw,k1,k3,k13,h14,m1,m2]
      exact ⟨i+1,by dsimp only;omega,by omega,by simp only [go_sem,k1,k3,k13,h14,m1,m2],hall' hc,by simp only [go_sem,k1,k3,k13,h14,m1,m2],_,hst,by simp only [go_sem,k1,k3,k13,h14,m1,m2];rfl⟩
   · refine fcF_of (field_pc (j:=3) (.inr (.inr (.inl ⟨rfl,rfl⟩)))) ?_
     simp only [go_sem,k1,k3,k13,h14,m1,m2]
     refine fcW_bool (impl_in.fc _ _ _) ?_
     cases hc:inB s.src (rgF s.kind (UInt8.toNat 115)).1 (rgF s.kind (UInt8.toNat 115)).2 with
     | false=>simp only [go_sem,hnot hc,k1,k3,k13,h14,m1,m2]
     | true =>
      simp only [go_sem,k1,k3,k13,h14,m1,m2]
      refine fcF_of (field_pc (j:=3) (.inr (.inr (.inl ⟨rfl,rfl⟩)))) ?_
      simp only [go_sem,hw,k1,k3,k13,h14,m1,m2]
      exact ⟨i+1,by dsimp only;omega,by omega,by simp only [go_sem,k1,k3,k13,h14,m1,m2],hall' hc,by simp only [go_sem,k1,k3,k13,h14,m1,m2],_,hst,by simp only [go_sem,k1,k3,k13,h14,m1,m2];rfl⟩
   · refine fcF_of (field_pc (j:=4) (.inr (.inr (.inr (.inl ⟨rfl,rfl⟩))))) ?_
     simp only [go_sem,k1,k3,k13,h14,m1,m2]
     refine fcW_bool (impl_in.fc _ _ _) ?_
     cases hc:inB s.imm (rgF s.kind (UInt8.toNat 105)).1 (rgF s.kind (UInt8.toNat 105)).2 with
     | false=>simp only [go_sem,hnot hc,k1,k3,k13,h14,m1,m2]
     | true =>
      simp only [go_sem,k1,k3,k13,h14,m1,m2]
      refine fcF_of (field_pc (j:=4) (.inr (.inr (.inr (.inl ⟨rfl,rfl⟩))))) ?_
      simp only [go_sem,hw,k1,k3,k13,h14,m1,m2]
      exact ⟨i+1,by dsimp only;omega,by omega,by simp only [go_sem,k1,k3,k13,h14,m1,m2],hall' hc,by simp only [go_sem,k1,k3,k13,h14,m1,m2],_,hst,by simp only [go_sem,k1,k3,k13,h14,m1,m2];rfl⟩
   · refine fcF_of (field_pc (j:=5) (.inr (.inr (.inr (.inr ⟨rfl,rfl⟩))))) ?_
     simp only [go_sem,k1,k3,k13,h14,m1,m2]
     refine fcW_bool (impl_in.fc _ _ _) ?_
     cases hc:inB s.to (rgF s.kind (UInt8.toNat 116)).1 (rgF s.kind (UInt8.toNat 116)).2 with
     | false=>simp only [go_sem,hnot hc,k1,k3,k13,h14,m1,m2]
     | true =>
      simp only [go_sem,k1,k3,k13,h14,m1,m2]
      refine fcF_of (field_pc (j:=5) (.inr (.inr (.inr (.inr ⟨rfl,rfl⟩))))) ?_
      simp only [go_sem,hw,k1,k3,k13,h14,m1,m2]
      exact ⟨i+1,by dsimp only;omega,by omega,by simp only [go_sem,k1,k3,k13,h14,m1,m2],hall' hc,by simp only [go_sem,k1,k3,k13,h14,m1,m2],_,hst,by simp only [go_sem,k1,k3,k13,h14,m1,m2];rfl⟩
 obtain rfl:i=(fldL s.kind).length:=by omega
 rw [List.take_length] at hall hr
 simp only [go_sem,Int.lt_irrefl,k1,k3,k13,h14,m1,m2]
 refine fcW_bool (impl_in.fc _ _ _) ?_
 have hv:validB s=(inB s.kind 1 11&&(r == ⟨0,0,0,0,0,0⟩)):=by unfold validB;rw [hall,hr,Bool.true_and]
 cases hc:inB s.kind 1 11 with
 | false=>simp only [go_sem,hv,hc,k1,k3,k13,h14,m1,m2]
 | true =>
  rw [hc,Bool.true_and] at hv
  have hz:(r == ⟨0,0,0,0,0,0⟩)=(r.kind == 0&&(r.op == 0&&(r.dst == 0&&(r.src == 0&&(r.imm == 0&&r.to == 0))))):=by
   obtain ⟨a,b,c,d,e,f⟩:=r
   rw [Bool.eq_iff_iff]
   simp only [beq_iff_eq,StepD.mk.injEq,Bool.and_eq_true]
  simp only [go_sem,hv,hz,Bool.bne_false,k1,k3,k13,h14,m1,m2]
theorem valid_kind {s:StepD} (h:validB s=true∨stepB s=true):s.kind=1∨s.kind=2∨s.kind=3∨s.kind=4∨s.kind=5∨s.kind=6∨s.kind=7∨s.kind=8∨s.kind=9∨s.kind=10∨s.kind=11:=by
 by_cases hk:1≤s.kind∧s.kind≤11
 · omega
 · exfalso
   have e:∀ j:Int,1≤j∧j≤11→(s.kind == j)=false:=fun j hj=>by rw [beq_eq_false_iff_ne];omega
   rcases h with h|h
   · unfold validB at h
     simp only [Bool.and_eq_true,inB,decide_eq_true_eq] at h
     omega
   · unfold stepB at h
     simp only [e 1 (by omega),e 2 (by omega),e 3 (by omega),e 4 (by omega),e 5 (by omega),e 6 (by omega),e 7 (by omega),e 8 (by omega),e 9 (by omega),e 10 (by omega),e 11 (by omega)] at h
     simp at h
theorem valid_step (s:StepD):validB s=stepB s:=by
 by_cases h:validB s=true∨stepB s=true
 · obtain ⟨k,o,d,r,m,t⟩:=s
   rcases valid_kind h with rfl|rfl|rfl|rfl|rfl|rfl|rfl|rfl|rfl|rfl|rfl <;>
   · rw [Bool.eq_iff_iff]
     simp [validB,stepB,fldL,okF,getF,rgF,restF,clrF,zeroB,inB]
     try omega
 · cases h1:validB s<;>cases h2:stepB s<;>simp_all
def jumpB (s:StepD):Bool:=s.kind == 8||(s.kind == 9||s.kind == 10)
theorem impl_Step_jumps.fc (s:StepD):FCt prog F_impl_Step_jumps [.ro] [s.d] (Bb (jumpB s)) []:=by
 refine fct_run impl_Step_jumps.ok rfl ?_
 unfold jumpB
 repeat' (first|with_reducible rfl|with_reducible refine cdW_dec (fun _=>?_) (fun _=>?_)|refine cdW_not (fun _=>?_) (fun _=>?_)|refine cdW_any (fun _=>?_) (fun _=>?_)|with_reducible refine gdW_decT (fun _=>?_) (fun _=>?_)|with_reducible refine gdW_decF (fun _=>?_) (fun _=>?_)|refine gdW_not (fun _=>?_) (fun _=>?_)|refine gdW_any (fun _=>?_) (fun _=>?_)|simp only [go_sem,bne,iQ,iB,iX,Int.reduceLE,iN,iA,iS,iM, *]|rfl)
structure StepOk (s:StepD):Prop where
 kind:1≤s.kind∧s.kind≤11
 dst:0≤s.dst∧s.dst≤5
 src:0≤s.src∧s.src≤5
 imm:0≤s.imm∧s.imm≤65535
 op:0≤s.op∧s.op≤10
 to:0≤s.to∧s.to≤19
 jmp:s.to > 0↔s.kind=8∨s.kind=9∨s.kind=10
 iop:s.kind=1∨s.kind=2→1≤s.op
theorem step_ok {s:StepD} (h:stepB s=true):StepOk s:=by
 obtain ⟨k,o,d,r,m,t⟩:=s
 rcases valid_kind (.inr h) with rfl|rfl|rfl|rfl|rfl|rfl|rfl|rfl|rfl|rfl|rfl <;>
 · simp [stepB,zeroB,inB] at h
   constructor<;>dsimp only<;>omega
theorem jump_to {s:StepD} (h:stepB s=true):jumpB s=decide (s.to > 0):=by
 have:=(step_ok h).jmp
 rw [Bool.eq_iff_iff,decide_eq_true_eq,this]
 simp [jumpB]
def okAt (p:List StepD) (i:Nat):Bool:=match p[i]? with
 | some s=>stepB s&&!(decide (s.to > 0)&&decide ((i:Int)+s.to+1 ≥ p.length))
 | none=>false
def lastK (p:List StepD):Int:=match p[p.length - 1]? with
 | some s=>s.kind
 | none=>0
def goodP (p:List StepD):Bool:=inB p.length 1 20&&(lastK p == 11)&&(List.range p.length).all (okAt p)
theorem goodP_not {p:List StepD} {i:Nat} (hi:i < p.length) (h:okAt p i=false):goodP p=false:=by
 unfold goodP;rw [not_range hi h,Bool.and_false]
theorem impl_GoodProgram.fc (p:List StepD) (hp:p.length≤4194304):FCt prog F_impl_GoodProgram [.ro] [steps p] (Bb (goodP p)) []:=by
 refine fct_run impl_GoodProgram.ok rfl ?_
 simp only [go_sem]
 refine fcW_bool (impl_in.fc _ _ _) ?_
 cases h1:inB p.length 1 20 with
 | false =>
  have:goodP p=false:=by unfold goodP;rw [h1];rfl
  simp only [go_sem,this]
 | true =>
  have hl:1≤p.length∧p.length≤20:=by simp [inB] at h1;omega
  have w1:IntKind.i64.wrap ((p.length:Int) - 1)=((p.length - 1:Nat):Int):=by rw [wrap_in (by omega) (by omega)];omega
  have g1:p[p.length - 1]? = some (p[p.length - 1]'(by omega)):=List.getElem?_eq_getElem (by omega)
  have b1:((p.length - 1:Nat):Int) < p.length:=by omega
  have hk:lastK p=(p[p.length - 1]'(by omega)).kind:=by unfold lastK;rw [g1]
  simp only [go_sem,w1,g1,b1]
  cases h2:((p[p.length - 1]'(by omega)).kind == 11) with
  | false =>
   have:goodP p=false:=by unfold goodP;rw [hk,h2,Bool.and_false];rfl
   have h3:((p[p.length - 1]'(by omega)).kind != 11)=true:=by rw [bne,h2];rfl
   simp only [go_sem,this,h3]
  | true =>
   have h3:((p[p.length - 1]'(by omega)).kind != 11)=false:=by rw [bne,h2];rfl
   simp only [go_sem,h3]
   refine R_loop (α:=Nat) (fun i s' M'=>i≤p.length∧s' 21=aI i∧(List.range i).all (okAt p)=true) (fun i=>p.length - i) 0 ⟨by omega,by simp only [go_sem];rfl,by simp⟩ ?_
   rintro i s' M' ⟨hi,h21,hr⟩ ho
   unfold impl_GoodProgram.b0
   have k0:s' 0=.dat none (steps p):=by rw [ho 0 rfl];simp only [go_sem]
   have k19:s' 19=.dat none (steps p):=by rw [ho 19 rfl];simp only [go_sem]
   have k20:s' 20=aI p.length:=by rw [ho 20 rfl];simp only [go_sem]
   clear ho
   by_cases hlt:i < p.length
   · have hi':(i:Int) < p.length:=by omega
     have ga:p[i]? = some p[i]:=List.getElem?_eq_getElem hlt
     have hw:IntKind.i64.wrap (i+1)=((i+1:Nat):Int):=wrap_k hlt (by omega)
     have bad:=goodP_not hlt
     have oka:okAt p i=(stepB p[i]&&!(decide (p[i].to > 0)&&decide ((i:Int)+p[i].to+1 ≥ p.length))):=by unfold okAt;rw [ga]
     simp only [go_sem,hi',ga,k0,k19,k20,h21]
     refine fcW_bool (impl_Step_valid.fc p[i]) ?_
     rw [valid_step]
     cases hv:stepB p[i] with
     | false =>
      have hb:=bad (by rw [oka,hv,Bool.false_and])
      simp only [go_sem,hb,k0,k19,k20,h21]
     | true =>
      have ok:=step_ok hv
      rw [hv,Bool.true_and] at oka
      simp only [go_sem,k0,k19,k20,h21]
      refine fcW_bool (impl_Step_jumps.fc p[i]) ?_
      rw [jump_to hv]
      have w2:IntKind.i64.wrap ((i:Int)+p[i].to)=(i:Int)+p[i].to:=by have:=ok.to;exact wrap_in (by omega) (by omega)
      have w3:IntKind.i64.wrap ((i:Int)+p[i].to+1)=(i:Int)+p[i].to+1:=by have:=ok.to;exact wrap_in (by omega) (by omega)
      by_cases hj:p[i].to > 0
      · by_cases he:(i:Int)+p[i].to+1 ≥ p.length
        · have hb:=bad (by rw [oka,decide_eq_true hj,decide_eq_true he];rfl)
          simp only [go_sem,hj,he,w2,w3,hb,k0,k19,k20,h21]
        · simp only [go_sem,hj,he,w2,w3,hw,k0,k19,k20,h21]
          exact ⟨i+1,by dsimp only;omega,by omega,by simp only [go_sem,k0,k19,k20,h21],all_range hr (by rw [oka,decide_eq_false he,Bool.and_false];rfl)⟩
      · simp only [go_sem,hj,hw,k0,k19,k20,h21]
        exact ⟨i+1,by dsimp only;omega,by omega,by simp only [go_sem,k0,k19,k20,h21],all_range hr (by rw [oka,decide_eq_false hj,Bool.false_and];rfl)⟩
   · have hi':¬ (i:Int) < p.length:=by omega
     obtain rfl:i=p.length:=by omega
     have:goodP p=true:=by unfold goodP;rw [h1,hk,h2,hr];rfl
     simp only [go_sem,this,Int.lt_irrefl,k0,k19,k20,h21]
theorem spec_GoodProgram.fc (p:List StepD) (hp:p.length≤4194304):FCt prog F_spec_GoodProgram [.ro] [steps p] (Bb (goodP p)) []:=by
 refine fct_run spec_GoodProgram.ok rfl ?_
 simp only [go_sem]
 refine R_loop (α:=Nat) (fun i s' M'=>i≤p.length∧s' 7=aI i∧(List.range i).all (okAt p)=true) (fun i=>p.length - i) 0 ⟨by omega,by simp only [go_sem];rfl,by simp⟩ ?_
 rintro i s' M' ⟨hi,h21,hr⟩ ho
 unfold spec_GoodProgram.b0
 have k0:s' 0=.dat none (steps p):=by rw [ho 0 rfl];simp only [go_sem]
 have k5:s' 5=.dat none (steps p):=by rw [ho 5 rfl];simp only [go_sem]
 have k6:s' 6=aI p.length:=by rw [ho 6 rfl];simp only [go_sem]
 clear ho
 by_cases hlt:i < p.length
 · have hi':(i:Int) < p.length:=by omega
   have ga:p[i]? = some p[i]:=List.getElem?_eq_getElem hlt
   have hw:IntKind.i64.wrap (i+1)=((i+1:Nat):Int):=wrap_k hlt (by omega)
   have bad:=goodP_not hlt
   have oka:okAt p i=(stepB p[i]&&!(decide (p[i].to > 0)&&decide ((i:Int)+p[i].to+1 ≥ p.length))):=by unfold okAt;rw [ga]
   simp only [go_sem,hi',ga,k0,k5,k6,h21]
   refine fcW_bool (spec_l2Step.fc p[i]) ?_
   cases hv:stepB p[i] with
   | false =>
    have hb:=bad (by rw [oka,hv,Bool.false_and])
    simp only [go_sem,hb,k0,k5,k6,h21]
   | true =>
    have ok:=step_ok hv
    rw [hv,Bool.true_and] at oka
    have w2:IntKind.i64.wrap ((i:Int)+p[i].to)=(i:Int)+p[i].to:=by have:=ok.to;exact wrap_in (by omega) (by omega)
    have w3:IntKind.i64.wrap ((i:Int)+p[i].to+1)=(i:Int)+p[i].to+1:=by have:=ok.to;exact wrap_in (by omega) (by omega)
    by_cases hj:p[i].to > 0
    · by_cases he:(i:Int)+p[i].to+1 ≥ p.length
      · have hb:=bad (by rw [oka,decide_eq_true hj,decide_eq_true he];rfl)
        simp only [go_sem,hj,he,w2,w3,hb,k0,k5,k6,h21]
      · simp only [go_sem,hj,he,w2,w3,hw,k0,k5,k6,h21]
        exact ⟨i+1,by dsimp only;omega,by omega,by simp only [go_sem,k0,k5,k6,h21],all_range hr (by rw [oka,decide_eq_false he,Bool.and_false];rfl)⟩
    · simp only [go_sem,hj,hw,k0,k5,k6,h21]
      exact ⟨i+1,by dsimp only;omega,by omega,by simp only [go_sem,k0,k5,k6,h21],all_range hr (by rw [oka,decide_eq_false hj,Bool.false_and];rfl)⟩
 · have hi':¬ (i:Int) < p.length:=by omega
   obtain rfl:i=p.length:=by omega
   simp only [go_sem,Int.lt_irrefl,k0,k5,k6,h21]
   refine fcW_bool (spec_l1In.fc _ _ _) ?_
   cases h1:inB p.length 1 20 with
   | false =>
    have:goodP p=false:=by unfold goodP;rw [h1];rfl
    simp only [go_sem,this,k0,k5,k6,h21]
   | true =>
    have hl:1≤p.length∧p.length≤20:=by simp [inB] at h1;omega
    have w1:IntKind.i64.wrap ((p.length:Int) - 1)=((p.length - 1:Nat):Int):=by rw [wrap_in (by omega) (by omega)];omega
    have g1:p[p.length - 1]? = some (p[p.length - 1]'(by omega)):=List.getElem?_eq_getElem (by omega)
    have b1:((p.length - 1:Nat):Int) < p.length:=by omega
    have hk:lastK p=(p[p.length - 1]'(by omega)).kind:=by unfold lastK;rw [g1]
    have:goodP p=((p[p.length - 1]'(by omega)).kind == 11):=by unfold goodP;rw [h1,hk,hr,Bool.and_true,Bool.true_and]
    simp only [go_sem,w1,g1,b1,this,k0,k5,k6,h21]
set_option maxHeartbeats 16000000
def isB (n:Int):Bool:=inB n 0 255
def ctxB (l:List Int):Bool:=decide (l.length=8)&&l.all isB
structure CtxOk (l:List Int):Prop where
 len:l.length=8
 all:∀ x∈l,0≤x∧x≤255
theorem ctx_ok {l:List Int} (h:ctxB l=true):CtxOk l:=by
 simp only [ctxB,Bool.and_eq_true,decide_eq_true_eq,List.all_eq_true,isB,inB] at h
 exact ⟨h.1,h.2⟩
theorem impl_isContext_c1.fc (n:Int):FCt prog F_impl_isContext_c1 [.ro] [Ii n] (Bb (!isB n)) []:=by
 refine fct_run impl_isContext_c1.ok rfl ?_
 unfold isB
 repeat' (first|with_reducible rfl|refine fcW_bool (impl_in.fc ..) ?_|with_reducible refine cdW_dec (fun _=>?_) (fun _=>?_)|refine cdW_not (fun _=>?_) (fun _=>?_)|refine cdW_any (fun _=>?_) (fun _=>?_)|with_reducible refine gdW_decT (fun _=>?_) (fun _=>?_)|with_reducible refine gdW_decF (fun _=>?_) (fun _=>?_)|refine gdW_not (fun _=>?_) (fun _=>?_)|refine gdW_any (fun _=>?_) (fun _=>?_)|simp only [go_sem,bne,iQ,iB,iX,Int.reduceLE,iN,iA,iS,iM, *]|rfl)
theorem impl_isContext.fc (l:List Int) (hl:l.length≤4294967296):FCt prog F_impl_isContext [.ro] [ints l] (Bb (ctxB l)) []:=by
 refine fct_run impl_isContext.ok rfl ?_
 have e1:((l.length:Int) == 8)=decide (l.length=8):=eq_dec (b:=8)
 have e2:l.any (fun n=>!isB n) = !l.all isB:=by rw [List.not_all_eq_any_not]
 unfold ctxB
 by_cases h:l.length=8
 · rw [decide_eq_true h] at e1 ⊢
   simp only [go_sem,e1]
   refine fcW_bool (slices_ContainsFunc__sint_int.fc l F_impl_isContext_c1 [] (fun n=>!isB n) hl (fun n _=>impl_isContext_c1.fc n)) ?_
   simp only [go_sem,e2,Bool.not_not]
 · rw [decide_eq_false h] at e1 ⊢
   simp only [go_sem,e1]
structure MachLen (m:MachD):Prop where
 regs:m.regs.length=6
 cells:m.cells.length=16
 isset:m.isset.length=16
theorem MachOk.len {m:MachD} (h:MachOk m):MachLen m:=⟨h.regs,h.cells,h.isset⟩
theorem impl_Machine_own.fc (m:MachD) (h:MachLen m):FCt prog F_impl_Machine_own [.ro] [m.d] m.d []:=by
 refine fct_run impl_Machine_own.ok rfl ?_
 obtain ⟨h1,h2,h3⟩:=h
 simp only [go_sem]
 refine fcW_bd (slices_Clone__sint_int.fc m.regs (by omega)) noRs_ints ?_
 simp only [go_sem]
 refine fcW_bd (slices_Clone__sint_int.fc m.cells (by omega)) noRs_ints ?_
 simp only [go_sem]
 refine fcW_bd (slices_Clone__sbool_bool.fc1 m.isset (by omega) (by omega)) noRs_bools ?_
 simp only [go_sem,take_map_len]
def regI (m:MachD) (i:Int):Int:=m.regs.getD i.toNat 0
def setR (m:MachD) (i n:Int):MachD:={ m with pc:=m.pc+1,regs:=m.regs.set i.toNat n }
def setC (m:MachD) (i n:Int):MachD:={ m with pc:=m.pc+1,cells:=m.cells.set i.toNat n,isset:=m.isset.set i.toNat true }
def setP (m:MachD) (n:Int):MachD:={ m with pc:=n }
def stepM (s:StepD) (ctx:List Int) (m:MachD):MachD×Int×Bool :=
 if s.kind == 1 then (setR m s.dst (doI s.op (regI m s.dst) (regI m s.src)),0,false) else
 if s.kind == 2 then (setR m s.dst (doI s.op (regI m s.dst) s.imm),0,false) else
 if s.kind == 3 then (setR m s.dst s.imm,0,false) else
 if s.kind == 4 then (setR m s.dst s.imm,0,false) else
 if s.kind == 5 then (if regI m s.src+s.imm ≥ 8 then (m,1,false) else (setR m s.dst (ctx.getD (regI m s.src+s.imm).toNat 0),0,false)) else
 if s.kind == 7 then (if s.imm ≥ 16 then (m,2,false) else (setC m s.imm (regI m s.dst),0,false)) else
 if s.kind == 6 then (if s.imm ≥ 16 then (m,2,false) else if m.isset.getD s.imm.toNat false then (setR m s.dst (m.cells.getD s.imm.toNat 0),0,false) else (m,3,false)) else
 if s.kind == 11 then (m,0,true) else
 if s.kind == 8 then (setP m (m.pc+s.to+1),0,false) else
 if s.kind == 9 then (if regI m s.dst == regI m s.src then (setP m (m.pc+s.to+1),0,false) else (setP m (m.pc+1),0,false)) else
 (if regI m s.dst < regI m s.src then (setP m (m.pc+s.to+1),0,false) else (setP m (m.pc+1),0,false))
theorem setIi {l:List Int} {i:Nat} {x:Int}:(l.map Ii).set i (D.int .i64 x)=(l.set i x).map Ii:=by rw [List.map_set]
theorem setBb {l:List Bool} {i:Nat} {x:Bool}:(l.map Bb).set i (D.bool x)=(l.set i x).map Bb:=by rw [List.map_set]
theorem getD_some {α:Type} {l:List α} {i:Nat} {d:α} (h:i < l.length):l[i]? = some (l.getD i d):=by rw [getD_get h];exact List.getElem?_eq_getElem h
theorem tk_I {n:Nat} {l:List Int} (h:l.length=n):(l.map Ii).take n=l.map Ii:=List.take_of_length_le (by simp [h])
theorem tk_B {n:Nat} {l:List Bool} (h:l.length=n):(l.map Bb).take n=l.map Bb:=List.take_of_length_le (by simp [h])
theorem impl_pMachine_step.fc (p:List StepD) (ctx:List Int) (m:MachD) (s:StepD) (hp:p.length≤20) (hc:CtxOk ctx) (hm:MachOk m) (hpc:m.pc < p.length) (hs:p[m.pc.toNat]? = some s) (hv:stepB s=true) :
 FCt prog F_impl_pMachine_step [.io,.ro,.ro] [.ptr m.d,steps p,ints ctx] (.tup [Ii (stepM s ctx m).2.1,Bb (stepM s ctx m).2.2]) [.ptr (stepM s ctx m).1.d]:=by
 refine fct_run impl_pMachine_step.ok rfl ?_
 have ok:=step_ok hv
 have kd:=valid_kind (.inr hv)
 obtain ⟨⟨pc0,pc1⟩,l1,l2,l3,wr,wc⟩:=hm
 obtain ⟨cl,ca⟩:=hc
 obtain ⟨pc,regs,cells,isset⟩:=m
 obtain ⟨k,op,dst,src,imm,to⟩:=s
 obtain ⟨_,od,os,oi,oo,ot,_,_⟩:=ok
 dsimp only at *
 have gd:regs[dst.toNat]? = some (regI ⟨pc,regs,cells,isset⟩ dst):=getD_some (by omega)
 have gs:regs[src.toNat]? = some (regI ⟨pc,regs,cells,isset⟩ src):=getD_some (by omega)
 have ws:0≤regI ⟨pc,regs,cells,isset⟩ src∧regI ⟨pc,regs,cells,isset⟩ src≤65535:=wr _ (List.mem_of_getElem? gs)
 have w1:IntKind.i64.wrap (pc+1)=pc+1:=wrap_in (by omega) (by omega)
 have w2:IntKind.i64.wrap (pc+1+to)=pc+to+1:=by rw [wrap_in (by omega) (by omega)];omega
 have w3:IntKind.i64.wrap (regI ⟨pc,regs,cells,isset⟩ src+imm)=regI ⟨pc,regs,cells,isset⟩ src+imm:=wrap_in (by omega) (by omega)
 have od1:=od.1
 have od2:dst < 6:=by omega
 have os1:=os.1
 have os2:src < 6:=by omega
 have c6:((6:Nat):Int)=6:=rfl
 have c8:((8:Nat):Int)=8:=rfl
 have c16:((16:Nat):Int)=16:=rfl
 have i0:0≤imm:=oi.1
 have r0:0≤regI ⟨pc,regs,cells,isset⟩ src+imm:=by omega
 have h5:¬ regI ⟨pc,regs,cells,isset⟩ src+imm ≥ 8→ctx[(regI ⟨pc,regs,cells,isset⟩ src+imm).toNat]? = some (ctx.getD (regI ⟨pc,regs,cells,isset⟩ src+imm).toNat 0):=fun h=>getD_some (by omega)
 have h6:¬ imm ≥ 16→cells[imm.toNat]? = some (cells.getD imm.toNat 0):=fun h=>getD_some (by omega)
 have h7:¬ imm ≥ 16→isset[imm.toNat]? = some (isset.getD imm.toNat false):=fun h=>getD_some (by omega)
 have b5:¬ regI ⟨pc,regs,cells,isset⟩ src+imm ≥ 8→regI ⟨pc,regs,cells,isset⟩ src+imm < 8:=fun h=>by omega
 have b6:¬ imm ≥ 16→imm < 16:=fun h=>by omega
 unfold stepM setR setC setP
 rcases kd with rfl|rfl|rfl|rfl|rfl|rfl|rfl|rfl|rfl|rfl|rfl
 · clear h5 h6 h7 b5 b6
   repeat' (first|with_reducible rfl|refine fcW_int (impl_do.fc _ _ _ ws.1) ?_|refine fcW_int (impl_do.fc _ _ _ i0) ?_|with_reducible refine cdW_dec (fun _=>?_) (fun _=>?_)|refine cdW_not (fun _=>?_) (fun _=>?_)|refine cdW_any (fun _=>?_) (fun _=>?_)|with_reducible refine gdW_decT (fun _=>?_) (fun _=>?_)|with_reducible refine gdW_decF (fun _=>?_) (fun _=>?_)|refine gdW_not (fun _=>?_) (fun _=>?_)|refine gdW_any (fun _=>?_) (fun _=>?_)|simp only [go_sem,bne,iQ,iB,iX,Int.reduceLE,iN,iA,iS,iM,setIi,setBb,tk_I,tk_B,List.length_set, *]|rfl)
 · clear h5 h6 h7 b5 b6
   repeat' (first|with_reducible rfl|refine fcW_int (impl_do.fc _ _ _ ws.1) ?_|refine fcW_int (impl_do.fc _ _ _ i0) ?_|with_reducible refine cdW_dec (fun _=>?_) (fun _=>?_)|refine cdW_not (fun _=>?_) (fun _=>?_)|refine cdW_any (fun _=>?_) (fun _=>?_)|with_reducible refine gdW_decT (fun _=>?_) (fun _=>?_)|with_reducible refine gdW_decF (fun _=>?_) (fun _=>?_)|refine gdW_not (fun _=>?_) (fun _=>?_)|refine gdW_any (fun _=>?_) (fun _=>?_)|simp only [go_sem,bne,iQ,iB,iX,Int.reduceLE,iN,iA,iS,iM,setIi,setBb,tk_I,tk_B,List.length_set, *]|rfl)
 · clear h5 h6 h7 b5 b6
   repeat' (first|with_reducible rfl|refine fcW_int (impl_do.fc _ _ _ ws.1) ?_|refine fcW_int (impl_do.fc _ _ _ i0) ?_|with_reducible refine cdW_dec (fun _=>?_) (fun _=>?_)|refine cdW_not (fun _=>?_) (fun _=>?_)|refine cdW_any (fun _=>?_) (fun _=>?_)|with_reducible refine gdW_decT (fun _=>?_) (fun _=>?_)|with_reducible refine gdW_decF (fun _=>?_) (fun _=>?_)|refine gdW_not (fun _=>?_) (fun _=>?_)|refine gdW_any (fun _=>?_) (fun _=>?_)|simp only [go_sem,bne,iQ,iB,iX,Int.reduceLE,iN,iA,iS,iM,setIi,setBb,tk_I,tk_B,List.length_set, *]|rfl)
 · clear h5 h6 h7 b5 b6
   repeat' (first|with_reducible rfl|refine fcW_int (impl_do.fc _ _ _ ws.1) ?_|refine fcW_int (impl_do.fc _ _ _ i0) ?_|with_reducible refine cdW_dec (fun _=>?_) (fun _=>?_)|refine cdW_not (fun _=>?_) (fun _=>?_)|refine cdW_any (fun _=>?_) (fun _=>?_)|with_reducible refine gdW_decT (fun _=>?_) (fun _=>?_)|with_reducible refine gdW_decF (fun _=>?_) (fun _=>?_)|refine gdW_not (fun _=>?_) (fun _=>?_)|refine gdW_any (fun _=>?_) (fun _=>?_)|simp only [go_sem,bne,iQ,iB,iX,Int.reduceLE,iN,iA,iS,iM,setIi,setBb,tk_I,tk_B,List.length_set, *]|rfl)
 · clear h6 h7 b6
   by_cases h:regI ⟨pc,regs,cells,isset⟩ src+imm ≥ 8
   · clear h5 b5
     repeat' (first|with_reducible rfl|refine fcW_int (impl_do.fc _ _ _ ws.1) ?_|refine fcW_int (impl_do.fc _ _ _ i0) ?_|with_reducible refine cdW_dec (fun _=>?_) (fun _=>?_)|refine cdW_not (fun _=>?_) (fun _=>?_)|refine cdW_any (fun _=>?_) (fun _=>?_)|with_reducible refine gdW_decT (fun _=>?_) (fun _=>?_)|with_reducible refine gdW_decF (fun _=>?_) (fun _=>?_)|refine gdW_not (fun _=>?_) (fun _=>?_)|refine gdW_any (fun _=>?_) (fun _=>?_)|simp only [go_sem,bne,iQ,iB,iX,Int.reduceLE,iN,iA,iS,iM,setIi,setBb,tk_I,tk_B,List.length_set, *]|rfl)
   · have h5:=h5 h
     have b5:=b5 h
     repeat' (first|with_reducible rfl|refine fcW_int (impl_do.fc _ _ _ ws.1) ?_|refine fcW_int (impl_do.fc _ _ _ i0) ?_|with_reducible refine cdW_dec (fun _=>?_) (fun _=>?_)|refine cdW_not (fun _=>?_) (fun _=>?_)|refine cdW_any (fun _=>?_) (fun _=>?_)|with_reducible refine gdW_decT (fun _=>?_) (fun _=>?_)|with_reducible refine gdW_decF (fun _=>?_) (fun _=>?_)|refine gdW_not (fun _=>?_) (fun _=>?_)|refine gdW_any (fun _=>?_) (fun _=>?_)|simp only [go_sem,bne,iQ,iB,iX,Int.reduceLE,iN,iA,iS,iM,setIi,setBb,tk_I,tk_B,List.length_set, *]|rfl)
 · clear h5 b5
   by_cases h:imm ≥ 16
   · clear h6 h7 b6
     repeat' (first|with_reducible rfl|refine fcW_int (impl_do.fc _ _ _ ws.1) ?_|refine fcW_int (impl_do.fc _ _ _ i0) ?_|with_reducible refine cdW_dec (fun _=>?_) (fun _=>?_)|refine cdW_not (fun _=>?_) (fun _=>?_)|refine cdW_any (fun _=>?_) (fun _=>?_)|with_reducible refine gdW_decT (fun _=>?_) (fun _=>?_)|with_reducible refine gdW_decF (fun _=>?_) (fun _=>?_)|refine gdW_not (fun _=>?_) (fun _=>?_)|refine gdW_any (fun _=>?_) (fun _=>?_)|simp only [go_sem,bne,iQ,iB,iX,Int.reduceLE,iN,iA,iS,iM,setIi,setBb,tk_I,tk_B,List.length_set, *]|rfl)
   · have h6:=h6 h
     have h7:=h7 h
     have b6:=b6 h
     cases hq:isset.getD imm.toNat false<;>rw [hq] at h7
     · repeat' (first|with_reducible rfl|refine fcW_int (impl_do.fc _ _ _ ws.1) ?_|refine fcW_int (impl_do.fc _ _ _ i0) ?_|with_reducible refine cdW_dec (fun _=>?_) (fun _=>?_)|refine cdW_not (fun _=>?_) (fun _=>?_)|refine cdW_any (fun _=>?_) (fun _=>?_)|with_reducible refine gdW_decT (fun _=>?_) (fun _=>?_)|with_reducible refine gdW_decF (fun _=>?_) (fun _=>?_)|refine gdW_not (fun _=>?_) (fun _=>?_)|refine gdW_any (fun _=>?_) (fun _=>?_)|simp only [go_sem,bne,iQ,iB,iX,Int.reduceLE,iN,iA,iS,iM,setIi,setBb,tk_I,tk_B,List.length_set, *]|rfl)
     · repeat' (first|with_reducible rfl|refine fcW_int (impl_do.fc _ _ _ ws.1) ?_|refine fcW_int (impl_do.fc _ _ _ i0) ?_|with_reducible refine cdW_dec (fun _=>?_) (fun _=>?_)|refine cdW_not (fun _=>?_) (fun _=>?_)|refine cdW_any (fun _=>?_) (fun _=>?_)|with_reducible refine gdW_decT (fun _=>?_) (fun _=>?_)|with_reducible refine gdW_decF (fun _=>?_) (fun _=>?_)|refine gdW_not (fun _=>?_) (fun _=>?_)|refine gdW_any (fun _=>?_) (fun _=>?_)|simp only [go_sem,bne,iQ,iB,iX,Int.reduceLE,iN,iA,iS,iM,setIi,setBb,tk_I,tk_B,List.length_set, *]|rfl)
 · clear h5 b5
   by_cases h:imm ≥ 16
   · clear h6 h7 b6
     repeat' (first|with_reducible rfl|refine fcW_int (impl_do.fc _ _ _ ws.1) ?_|refine fcW_int (impl_do.fc _ _ _ i0) ?_|with_reducible refine cdW_dec (fun _=>?_) (fun _=>?_)|refine cdW_not (fun _=>?_) (fun _=>?_)|refine cdW_any (fun _=>?_) (fun _=>?_)|with_reducible refine gdW_decT (fun _=>?_) (fun _=>?_)|with_reducible refine gdW_decF (fun _=>?_) (fun _=>?_)|refine gdW_not (fun _=>?_) (fun _=>?_)|refine gdW_any (fun _=>?_) (fun _=>?_)|simp only [go_sem,bne,iQ,iB,iX,Int.reduceLE,iN,iA,iS,iM,setIi,setBb,tk_I,tk_B,List.length_set, *]|rfl)
   · have h6:=h6 h
     have h7:=h7 h
     have b6:=b6 h
     repeat' (first|with_reducible rfl|refine fcW_int (impl_do.fc _ _ _ ws.1) ?_|refine fcW_int (impl_do.fc _ _ _ i0) ?_|with_reducible refine cdW_dec (fun _=>?_) (fun _=>?_)|refine cdW_not (fun _=>?_) (fun _=>?_)|refine cdW_any (fun _=>?_) (fun _=>?_)|with_reducible refine gdW_decT (fun _=>?_) (fun _=>?_)|with_reducible refine gdW_decF (fun _=>?_) (fun _=>?_)|refine gdW_not (fun _=>?_) (fun _=>?_)|refine gdW_any (fun _=>?_) (fun _=>?_)|simp only [go_sem,bne,iQ,iB,iX,Int.reduceLE,iN,iA,iS,iM,setIi,setBb,tk_I,tk_B,List.length_set, *]|rfl)
 · clear h5 h6 h7 b5 b6
   repeat' (first|with_reducible rfl|refine fcW_int (impl_do.fc _ _ _ ws.1) ?_|refine fcW_int (impl_do.fc _ _ _ i0) ?_|with_reducible refine cdW_dec (fun _=>?_) (fun _=>?_)|refine cdW_not (fun _=>?_) (fun _=>?_)|refine cdW_any (fun _=>?_) (fun _=>?_)|with_reducible refine gdW_decT (fun _=>?_) (fun _=>?_)|with_reducible refine gdW_decF (fun _=>?_) (fun _=>?_)|refine gdW_not (fun _=>?_) (fun _=>?_)|refine gdW_any (fun _=>?_) (fun _=>?_)|simp only [go_sem,bne,iQ,iB,iX,Int.reduceLE,iN,iA,iS,iM,setIi,setBb,tk_I,tk_B,List.length_set, *]|rfl)
 · clear h5 h6 h7 b5 b6
   repeat' (first|with_reducible rfl|refine fcW_int (impl_do.fc _ _ _ ws.1) ?_|refine fcW_int (impl_do.fc _ _ _ i0) ?_|with_reducible refine cdW_dec (fun _=>?_) (fun _=>?_)|refine cdW_not (fun _=>?_) (fun _=>?_)|refine cdW_any (fun _=>?_) (fun _=>?_)|with_reducible refine gdW_decT (fun _=>?_) (fun _=>?_)|with_reducible refine gdW_decF (fun _=>?_) (fun _=>?_)|refine gdW_not (fun _=>?_) (fun _=>?_)|refine gdW_any (fun _=>?_) (fun _=>?_)|simp only [go_sem,bne,iQ,iB,iX,Int.reduceLE,iN,iA,iS,iM,setIi,setBb,tk_I,tk_B,List.length_set, *]|rfl)
 · clear h5 h6 h7 b5 b6
   repeat' (first|with_reducible rfl|refine fcW_int (impl_do.fc _ _ _ ws.1) ?_|refine fcW_int (impl_do.fc _ _ _ i0) ?_|with_reducible refine cdW_dec (fun _=>?_) (fun _=>?_)|refine cdW_not (fun _=>?_) (fun _=>?_)|refine cdW_any (fun _=>?_) (fun _=>?_)|with_reducible refine gdW_decT (fun _=>?_) (fun _=>?_)|with_reducible refine gdW_decF (fun _=>?_) (fun _=>?_)|refine gdW_not (fun _=>?_) (fun _=>?_)|refine gdW_any (fun _=>?_) (fun _=>?_)|simp only [go_sem,bne,iQ,iB,iX,Int.reduceLE,iN,iA,iS,iM,setIi,setBb,tk_I,tk_B,List.length_set, *]|rfl)
 · clear h5 h6 h7 b5 b6
   repeat' (first|with_reducible rfl|refine fcW_int (impl_do.fc _ _ _ ws.1) ?_|refine fcW_int (impl_do.fc _ _ _ i0) ?_|with_reducible refine cdW_dec (fun _=>?_) (fun _=>?_)|refine cdW_not (fun _=>?_) (fun _=>?_)|refine cdW_any (fun _=>?_) (fun _=>?_)|with_reducible refine gdW_decT (fun _=>?_) (fun _=>?_)|with_reducible refine gdW_decF (fun _=>?_) (fun _=>?_)|refine gdW_not (fun _=>?_) (fun _=>?_)|refine gdW_any (fun _=>?_) (fun _=>?_)|simp only [go_sem,bne,iQ,iB,iX,Int.reduceLE,iN,iA,iS,iM,setIi,setBb,tk_I,tk_B,List.length_set, *]|rfl)
theorem noRs_t4 {a b c d:D} (ha:noRs a=true) (hb:noRs b=true) (hc:noRs c=true) (hd:noRs d=true):noRs (.tup [a,b,c,d])=true:=by
 simp only [noRs,noRsL,ha,hb,hc,hd,Bool.and_self]
structure ProgOk (p:List StepD):Prop where
 len:1≤p.length∧p.length≤20
 all:∀ (i:Nat) (h:i < p.length),stepB p[i]=true∧(p[i].to > 0→(i:Int)+p[i].to+1 < p.length)
 last:lastK p=11
theorem prog_ok {p:List StepD} (h:goodP p=true):ProgOk p:=by
 simp only [goodP,Bool.and_eq_true,inB,decide_eq_true_eq,beq_iff_eq,List.all_eq_true,List.mem_range] at h
 refine ⟨by omega,fun i hi=>?_,h.1.2⟩
 have:=h.2 i hi
 unfold okAt at this
 rw [List.getElem?_eq_getElem hi] at this
 simp only [Bool.and_eq_true,Bool.not_eq_true',Bool.and_eq_false_iff,decide_eq_false_iff_not] at this
 exact ⟨this.1,by omega⟩
def zeroMach:MachD:=⟨0,[],[],[]⟩
def doOk (p:List StepD) (ctx:List Int) (m:MachD):Bool:=goodP p&&ctxB ctx&&goodMach m&&decide (m.pc < p.length)
def stepAt (p:List StepD) (ctx:List Int) (m:MachD):MachD×Int×Bool:=match p[m.pc.toNat]? with
 | some s=>stepM s ctx m
 | none=>(m,0,false)
def doStepV (p:List StepD) (ctx:List Int) (m:MachD):MachD×Int×Bool×Bool :=
 if doOk p ctx m then (if (stepAt p ctx m).2.1 == 0 then ((stepAt p ctx m).1,0,(stepAt p ctx m).2.2,true) else (zeroMach,(stepAt p ctx m).2.1,false,true)) else (zeroMach,0,false,false)
def doStepD (r:MachD×Int×Bool×Bool):D:=.tup [r.1.d,Ii r.2.1,Bb r.2.2.1,Bb r.2.2.2]
theorem step_fault {s:StepD} {ctx:List Int} {m:MachD}:(stepM s ctx m).2.1=0∨(stepM s ctx m).2.1 > 0:=by
 have key:∀ (c:Prop) [Decidable c] (a b:MachD×Int×Bool),(a.2.1=0∨a.2.1 > 0)→(b.2.1=0∨b.2.1 > 0)→((if c then a else b).2.1=0∨(if c then a else b).2.1 > 0):=by
  intro c _ a b ha hb;split
  · exact ha
  · exact hb
 unfold stepM
 repeat' (first|exact .inl rfl|exact .inr (show (1:Int) > 0 by decide)|exact .inr (show (2:Int) > 0 by decide)|exact .inr (show (3:Int) > 0 by decide)|apply key)
theorem noRsL_pM {m:MachD}:noRsL [.ptr m.d]=true:=by
 show (noRs (.ptr m.d)&&true)=true
 rw [Bool.and_true]
 exact noRs_Machine
theorem impl_DoStep.fc (p:List StepD) (ctx:List Int) (m:MachD) (hp:p.length≤4194304) (hc:ctx.length≤4194304) (hm:wMachine m≤4194304) :
 FCt prog F_impl_DoStep [.ro,.ro,.ro] [steps p,ints ctx,m.d] (doStepD (doStepV p ctx m)) []:=by
 refine fct_run impl_DoStep.ok rfl ?_
 have c1:=impl_GoodProgram.fc p hp
 have c2:=impl_isContext.fc ctx (by omega)
 have c3:=impl_GoodMachine.fc m hm
 unfold doStepV doOk doStepD zeroMach
 cases h1:goodP p with
 | false=>repeat' (first|with_reducible rfl|refine fcW_bool (c1) ?_|refine fcW_bool (c2) ?_|refine fcW_bool (c3) ?_|with_reducible refine cdW_dec (fun _=>?_) (fun _=>?_)|refine cdW_not (fun _=>?_) (fun _=>?_)|refine cdW_any (fun _=>?_) (fun _=>?_)|with_reducible refine gdW_decT (fun _=>?_) (fun _=>?_)|with_reducible refine gdW_decF (fun _=>?_) (fun _=>?_)|refine gdW_not (fun _=>?_) (fun _=>?_)|refine gdW_any (fun _=>?_) (fun _=>?_)|simp only [go_sem,bne,iQ,iB,iX,Int.reduceLE,iN,iA,iS,iM, *]|rfl)
 | true =>
  cases h2:ctxB ctx with
  | false=>repeat' (first|with_reducible rfl|refine fcW_bool (c1) ?_|refine fcW_bool (c2) ?_|refine fcW_bool (c3) ?_|with_reducible refine cdW_dec (fun _=>?_) (fun _=>?_)|refine cdW_not (fun _=>?_) (fun _=>?_)|refine cdW_any (fun _=>?_) (fun _=>?_)|with_reducible refine gdW_decT (fun _=>?_) (fun _=>?_)|with_reducible refine gdW_decF (fun _=>?_) (fun _=>?_)|refine gdW_not (fun _=>?_) (fun _=>?_)|refine gdW_any (fun _=>?_) (fun _=>?_)|simp only [go_sem,bne,iQ,iB,iX,Int.reduceLE,iN,iA,iS,iM, *]|rfl)
  | true =>
   cases h3:goodMach m with
   | false=>repeat' (first|with_reducible rfl|refine fcW_bool (c1) ?_|refine fcW_bool (c2) ?_|refine fcW_bool (c3) ?_|with_reducible refine cdW_dec (fun _=>?_) (fun _=>?_)|refine cdW_not (fun _=>?_) (fun _=>?_)|refine cdW_any (fun _=>?_) (fun _=>?_)|with_reducible refine gdW_decT (fun _=>?_) (fun _=>?_)|with_reducible refine gdW_decF (fun _=>?_) (fun _=>?_)|refine gdW_not (fun _=>?_) (fun _=>?_)|refine gdW_any (fun _=>?_) (fun _=>?_)|simp only [go_sem,bne,iQ,iB,iX,Int.reduceLE,iN,iA,iS,iM, *]|rfl)
   | true =>
    by_cases h4:m.pc < p.length
    case neg =>
     have h5:m.pc ≥ p.length:=by omega
     repeat' (first|with_reducible rfl|refine fcW_bool (c1) ?_|refine fcW_bool (c2) ?_|refine fcW_bool (c3) ?_|with_reducible refine cdW_dec (fun _=>?_) (fun _=>?_)|refine cdW_not (fun _=>?_) (fun _=>?_)|refine cdW_any (fun _=>?_) (fun _=>?_)|with_reducible refine gdW_decT (fun _=>?_) (fun _=>?_)|with_reducible refine gdW_decF (fun _=>?_) (fun _=>?_)|refine gdW_not (fun _=>?_) (fun _=>?_)|refine gdW_any (fun _=>?_) (fun _=>?_)|simp only [go_sem,bne,iQ,iB,iX,Int.reduceLE,iN,iA,iS,iM, *]|rfl)
    have h5:¬ m.pc ≥ p.length:=by omega
    have op:=prog_ok h1
    have om:=goodMach_ok h3
    have p0:=om.pc.1
    obtain ⟨hs,_⟩:=op.all m.pc.toNat (by omega)
    have gs:p[m.pc.toNat]? = some (p[m.pc.toNat]'(by omega)):=List.getElem?_eq_getElem (by omega)
    have hst:stepAt p ctx m=stepM (p[m.pc.toNat]'(by omega)) ctx m:=by unfold stepAt;rw [gs]
    rw [hst]
    have c5:=impl_pMachine_step.fc p ctx m _ op.len.2 (ctx_ok h2) om h4 gs hs
    have sf:=step_fault (s:=p[m.pc.toNat]'(by omega)) (ctx:=ctx) (m:=m)
    generalize stepM (p[m.pc.toNat]'(by omega)) ctx m=R at c5 sf ⊢
    obtain ⟨R0,R1,R2⟩:=R
    simp only [go_sem,h1,h2,h3,h4,h5]
    refine fcW_bool c1 ?_
    simp only [go_sem,h1]
    refine fcW_bool c2 ?_
    simp only [go_sem,h2]
    refine fcW_bool c3 ?_
    simp only [go_sem,h3,h5]
    refine fcW_bd (impl_Machine_own.fc m om.len) noRs_Machine ?_
    simp only [go_sem,take_map_len]
    refine coW_of c5 rfl noRsL_pM ?_
    rcases sf with sf|sf
    · dsimp only at sf
      subst sf
      simp only [go_sem,take_map_len,bne_self_eq_false]
      rw [decide_eq_true h4]
      rfl
    · dsimp only at sf
      have s1:(R1 == 0)=false:=by rw [beq_eq_false_iff_ne];omega
      have s2:(R1 != 0)=true:=by rw [bne,s1];rfl
      simp only [go_sem,s1,s2,take_map_len]
      rw [decide_eq_true h4]
      rfl
set_option maxHeartbeats 8000000
theorem tdiv_wd {a b:Int} (ha:wd a) (hb:wd b):wd (IntKind.i64.wrap (Int.tdiv a b)):=by
 have h1:0≤Int.tdiv a b:=by rw [Int.tdiv_eq_ediv_of_nonneg ha.1];exact Int.ediv_nonneg ha.1 hb.1
 have h2:Int.tdiv a b≤a:=by rw [Int.tdiv_eq_ediv_of_nonneg ha.1];exact Int.ediv_le_self b ha.1
 have:=ha.2
 rw [wrap_in (by omega) (by omega)]
 exact ⟨h1,by omega⟩
theorem tmod_wd {a b:Int} (ha:wd a) (hb:wd b) (h:b≠0):wd (Int.tmod a b):=by
 rw [Int.tmod_eq_emod_of_nonneg ha.1]
 have h1:=Int.emod_nonneg a h
 have h2:=Int.emod_lt_of_pos a (show 0 < b by have:=hb.1;omega)
 have:=hb.2
 exact ⟨h1,by omega⟩
theorem fdiv_wd {a:Int} {k:Nat} (ha:wd a):wd (Int.fdiv a (2 ^ k)):=by
 have hp:(0:Int)≤2 ^ k:=Int.pow_nonneg (by decide)
 rw [Int.fdiv_eq_ediv_of_nonneg _ hp]
 have h1:=Int.ediv_nonneg ha.1 hp
 have h2:=Int.ediv_le_self (2 ^ k:Int) ha.1
 have:=ha.2
 exact ⟨h1,by omega⟩
theorem doI_wd {op a b:Int} (ha:wd a) (hb:wd b):wd (doI op a b):=by
 have key:∀ (c:Prop) [Decidable c] (x y:Int),(c→wd x)→(¬ c→wd y)→wd (if c then x else y):=by
  intro c _ x y hx hy;split
  · rename_i h;exact hx h
  · rename_i h;exact hy h
 have z:wd 0:=⟨by decide,by decide⟩
 unfold doI
 refine key _ _ _ (fun _=>emod_wd _) fun _=>key _ _ _ (fun _=>emod_wd _) fun _=>key _ _ _ (fun _=>emod_wd _) fun _=>key _ _ _ (fun _=>key _ _ _ (fun _=>z) fun _=>tdiv_wd ha hb) fun _=>key _ _ _ (fun _=>key _ _ _ (fun _=>ha) fun h=>tmod_wd ha hb (by simpa using h)) fun _ =>
  key _ _ _ (fun _=>andI_wd ha) fun _=>key _ _ _ (fun _=>orI_wd ha hb) fun _=>key _ _ _ (fun _=>xorI_wd ha hb) fun _=>key _ _ _ (fun _=>emod_wd _) fun _=>fdiv_wd ha
theorem mem_set {α:Type} {l:List α} {i:Nat} {x y:α} (h:y∈l.set i x):y∈l∨y=x:=List.mem_or_eq_of_mem_set h
theorem setR_ok {m:MachD} {i n:Int} (hm:MachOk m) (hp:m.pc+1≤19) (hn:wd n):MachOk (setR m i n) :=
 ⟨⟨by have:=hm.pc.1;show 0≤m.pc+1;omega,hp⟩,by simp [setR,hm.regs],hm.cells,hm.isset,fun x hx=>(mem_set hx).elim (hm.wr x) (fun e=>e▸hn),hm.wc⟩
theorem setC_ok {m:MachD} {i n:Int} (hm:MachOk m) (hp:m.pc+1≤19) (hn:wd n):MachOk (setC m i n) :=
 ⟨⟨by have:=hm.pc.1;show 0≤m.pc+1;omega,hp⟩,hm.regs,by simp [setC,hm.cells],by simp [setC,hm.isset],hm.wr,fun x hx=>(mem_set hx).elim (hm.wc x) (fun e=>e▸hn)⟩
theorem setP_ok {m:MachD} {n:Int} (hm:MachOk m) (hp:0≤n∧n≤19):MachOk (setP m n):=⟨hp,hm.regs,hm.cells,hm.isset,hm.wr,hm.wc⟩
theorem regI_wd {m:MachD} {i:Int} (hm:MachOk m):wd (regI m i):=by
 unfold regI
 rw [List.getD_eq_getElem?_getD]
 cases h:m.regs[i.toNat]? with
 | none=>exact ⟨by decide,by decide⟩
 | some x=>exact hm.wr x (List.mem_of_getElem? h)
theorem getD_mem {α:Type} {P:α→Prop} {l:List α} {i:Nat} {d:α} (hd:P d) (h:∀ x∈l,P x):P (l.getD i d):=by
 rw [List.getD_eq_getElem?_getD]
 cases e:l[i]? with
 | none=>exact hd
 | some x=>exact h x (List.mem_of_getElem? e)
structure StepKeeps (p:List StepD) (r:MachD×Int×Bool):Prop where
 ok:MachOk r.1
 pc:r.1.pc < p.length
theorem step_keeps {p:List StepD} {ctx:List Int} {m:MachD} (hp:ProgOk p) (hc:CtxOk ctx) (hm:MachOk m) (hpc:m.pc < p.length):StepKeeps p (stepAt p ctx m):=by
 have p0:=hm.pc.1
 have hi:m.pc.toNat < p.length:=by omega
 obtain ⟨hv,ht⟩:=hp.all m.pc.toNat hi
 have gs:p[m.pc.toNat]? = some p[m.pc.toNat]:=List.getElem?_eq_getElem hi
 unfold stepAt
 rw [gs]
 dsimp only
 have hlast:p[m.pc.toNat].kind=11∨m.pc+1 < p.length:=by
  by_cases h:m.pc+1 < p.length
  · exact .inr h
  · left
    have e:p.length - 1=m.pc.toNat:=by omega
    have:=hp.last
    unfold lastK at this
    rw [e,gs] at this
    exact this
 have kd:=valid_kind (.inr hv)
 have ok:=step_ok hv
 generalize p[m.pc.toNat]=s at hv ht hlast kd ok
 have hto:=ok.to
 have hj:=ok.jmp
 have hw:∀ i,wd (regI m i):=fun i=>regI_wd hm
 have hl20:=hp.len.2
 have k0:StepKeeps p (m,(1:Int),false):=⟨hm,hpc⟩
 have k1:∀ f e,StepKeeps p (m,f,e):=fun f e=>⟨hm,hpc⟩
 have key:∀ (c:Prop) [Decidable c] (a b:MachD×Int×Bool),(c→StepKeeps p a)→(¬ c→StepKeeps p b)→StepKeeps p (if c then a else b):=by
  intro c _ a b ha hb;split
  · rename_i h;exact ha h
  · rename_i h;exact hb h
 have wi:wd s.imm:=ok.imm
 have z:wd 0:=⟨by decide,by decide⟩
 have kR:∀ n,s.kind≠11→wd n→StepKeeps p (setR m s.dst n,(0:Int),false):=fun n hk hn=>⟨setR_ok hm (by omega) hn,by show m.pc+1 < _;omega⟩
 have kC:∀ n,s.kind≠11→wd n→StepKeeps p (setC m s.imm n,(0:Int),false):=fun n hk hn=>⟨setC_ok hm (by omega) hn,by show m.pc+1 < _;omega⟩
 have kJ:s.to > 0→StepKeeps p (setP m (m.pc+s.to+1),(0:Int),false):=fun h=>⟨setP_ok hm (by have:=ht h;omega),by show m.pc+s.to+1 < _;have:=ht h;omega⟩
 have kN:s.kind≠11→StepKeeps p (setP m (m.pc+1),(0:Int),false):=fun h=>⟨setP_ok hm (by omega),by show m.pc+1 < _;omega⟩
 have bk:∀ j:Int,(s.kind == j)=true→s.kind=j:=fun j h=>by simpa using h
 have nk:∀ j:Int,¬ (s.kind == j)=true→s.kind≠j:=fun j h=>by simpa using h
 unfold stepM
 refine key _ _ _ (fun h=>kR _ (by have:=bk _ h;omega) (doI_wd (hw _) (hw _))) fun h1=>key _ _ _ (fun h=>kR _ (by have:=bk _ h;omega) (doI_wd (hw _) wi)) fun h2=>key _ _ _ (fun h=>kR _ (by have:=bk _ h;omega) wi) fun h3=>key _ _ _ (fun h=>kR _ (by have:=bk _ h;omega) wi) fun h4 =>
  key _ _ _ (fun h=>key _ _ _ (fun _=>k1 _ _) fun _=>kR _ (by have:=bk _ h;omega) (getD_mem (P:=wd) z fun x hx=>⟨(hc.all x hx).1,by have:=(hc.all x hx).2;omega⟩)) fun h5 =>
  key _ _ _ (fun h=>key _ _ _ (fun _=>k1 _ _) fun _=>kC _ (by have:=bk _ h;omega) (hw _)) fun h7 =>
  key _ _ _ (fun h=>key _ _ _ (fun _=>k1 _ _) fun _=>key _ _ _ (fun _=>kR _ (by have:=bk _ h;omega) (getD_mem (P:=wd) z fun x hx=>hm.wc x hx)) fun _=>k1 _ _) fun h6 =>
  key _ _ _ (fun h=>k1 _ _) fun h11=>key _ _ _ (fun h=>kJ (hj.2 (by have:=bk _ h;omega))) fun h8 =>
  key _ _ _ (fun h=>key _ _ _ (fun _=>kJ (hj.2 (by have:=bk _ h;omega))) fun _=>kN (by have:=bk _ h;omega)) fun h9 =>
  key _ _ _ (fun _=>kJ (hj.2 (by have:=nk _ h1;have:=nk _ h2;have:=nk _ h3;have:=nk _ h4;have:=nk _ h5;have:=nk _ h7;have:=nk _ h6;have:=nk _ h11;have:=nk _ h8;have:=nk _ h9;omega))) fun _=>kN (nk _ h11)
def newM:MachD:=⟨0,List.replicate 6 0,List.replicate 16 0,List.replicate 16 false⟩
theorem newM_ok:MachOk newM:=by
 refine ⟨⟨by decide,by decide⟩,by decide,by decide,by decide,?_,?_⟩
 · intro x hx;rw [List.eq_of_mem_replicate hx];decide
 · intro x hx;rw [List.eq_of_mem_replicate hx];decide
set_option maxHeartbeats 4000000
theorem mach_good {m:MachD} (h:MachOk m):goodMach m=true:=by
 obtain ⟨h1,h2,h3,h4,h5,h6⟩:=h
 simp only [goodMach,Bool.and_eq_true,List.all_eq_true,beq_iff_eq,inB,decide_eq_true_eq,isW]
 exact ⟨⟨⟨⟨⟨h1,by omega⟩,by omega⟩,by omega⟩,h5⟩,h6⟩
set_option maxHeartbeats 16000000
def nextsL (s:StepD) (i:Int):List Int :=
 if s.kind == 11 then [] else if s.kind == 8 then [i+s.to+1] else if s.kind == 9 then [i+1,i+s.to+1] else if s.kind == 10 then [i+1,i+s.to+1] else [i+1]
theorem impl_nexts.fc (p:List StepD) (i:Int) (s:StepD) (h0:0≤i) (h1:i < p.length) (hl:p.length≤20) (hs:p[i.toNat]? = some s) (hv:stepB s=true):FCt prog F_impl_nexts [.ro,.ro] [steps p,Ii i] (ints (nextsL s i)) []:=by
 refine fct_run impl_nexts.ok rfl ?_
 have ot:=(step_ok hv).to
 have w1:IntKind.i64.wrap (i+1)=i+1:=wrap_in (by omega) (by omega)
 have w2:IntKind.i64.wrap (i+s.to)=i+s.to:=wrap_in (by omega) (by omega)
 have w3:IntKind.i64.wrap (i+s.to+1)=i+s.to+1:=wrap_in (by omega) (by omega)
 unfold nextsL
 repeat' (first|with_reducible rfl|with_reducible refine cdW_dec (fun _=>?_) (fun _=>?_)|refine cdW_not (fun _=>?_) (fun _=>?_)|refine cdW_any (fun _=>?_) (fun _=>?_)|with_reducible refine gdW_decT (fun _=>?_) (fun _=>?_)|with_reducible refine gdW_decF (fun _=>?_) (fun _=>?_)|refine gdW_not (fun _=>?_) (fun _=>?_)|refine gdW_any (fun _=>?_) (fun _=>?_)|simp only [go_sem,bne,iQ,iB,iX,Int.reduceLE,iN,iA,iS,iM, *]|rfl)
theorem spec_l2Nexts.fc (p:List StepD) (i:Int) (s:StepD) (h0:0≤i) (h1:i < p.length) (hl:p.length≤20) (hs:p[i.toNat]? = some s) (hv:stepB s=true):FCt prog F_spec_l2Nexts [.ro,.ro] [steps p,Ii i] (ints (nextsL s i)) []:=by
 refine fct_run spec_l2Nexts.ok rfl ?_
 have ot:=(step_ok hv).to
 have w1:IntKind.i64.wrap (i+1)=i+1:=wrap_in (by omega) (by omega)
 have w2:IntKind.i64.wrap (i+s.to)=i+s.to:=wrap_in (by omega) (by omega)
 have w3:IntKind.i64.wrap (i+s.to+1)=i+s.to+1:=wrap_in (by omega) (by omega)
 unfold nextsL
 repeat' (first|with_reducible rfl|with_reducible refine cdW_dec (fun _=>?_) (fun _=>?_)|refine cdW_not (fun _=>?_) (fun _=>?_)|refine cdW_any (fun _=>?_) (fun _=>?_)|with_reducible refine gdW_decT (fun _=>?_) (fun _=>?_)|with_reducible refine gdW_decF (fun _=>?_) (fun _=>?_)|refine gdW_not (fun _=>?_) (fun _=>?_)|refine gdW_any (fun _=>?_) (fun _=>?_)|simp only [go_sem,bne,iQ,iB,iX,Int.reduceLE,iN,iA,iS,iM, *]|rfl)
theorem impl_NewMachine.fc:FCt prog F_impl_NewMachine [] [] newM.d []:=by
 refine fct_run impl_NewMachine.ok rfl ?_
 have c1:(6:Int) * (8:Nat)≤70368744177664:=by omega
 have c2:(16:Int) * (8:Nat)≤70368744177664:=by omega
 have c3:(16:Int) * (1:Nat)≤70368744177664:=by omega
 simp only [go_sem,c1,c2,c3,Int.le_refl,List.length_replicate,Nat.le_refl]
 rfl
theorem spec_NewMachine.fc:FCt prog F_spec_NewMachine [] [] newM.d []:=by
 refine fct_run spec_NewMachine.ok rfl ?_
 have c1:(6:Int) * (8:Nat)≤70368744177664:=by omega
 have c2:(16:Int) * (8:Nat)≤70368744177664:=by omega
 have c3:(16:Int) * (1:Nat)≤70368744177664:=by omega
 simp only [go_sem,c1,c2,c3,Int.le_refl,List.length_replicate,Nat.le_refl]
 rfl
structure WayD where
 steps:List Int
 turns:List Bool
 deriving DecidableEq
abbrev WayD.d (x:WayD):D:=.agg [ints x.steps,bools x.turns]
def brB (s:StepD):Bool:=s.kind == 9||s.kind == 10
theorem impl_Step_branches.fc (s:StepD):FCt prog F_impl_Step_branches [.ro] [s.d] (Bb (brB s)) []:=by
 refine fct_run impl_Step_branches.ok rfl ?_
 unfold brB
 repeat' (first|with_reducible rfl|with_reducible refine cdW_dec (fun _=>?_) (fun _=>?_)|refine cdW_not (fun _=>?_) (fun _=>?_)|refine cdW_any (fun _=>?_) (fun _=>?_)|with_reducible refine gdW_decT (fun _=>?_) (fun _=>?_)|with_reducible refine gdW_decF (fun _=>?_) (fun _=>?_)|refine gdW_not (fun _=>?_) (fun _=>?_)|refine gdW_any (fun _=>?_) (fun _=>?_)|simp only [go_sem,bne,iQ,iB,iX,Int.reduceLE,iN,iA,iS,iM, *]|rfl)
abbrev Ub (n:Int):D:=.int .u8 n
theorem getD_sm {α:Type} {l:List α} {i:Nat} {d:α} (h:i < l.length):l[i]? = some (l.getD i d):=by
 rw [List.getD_eq_getElem?_getD,List.getElem?_eq_getElem h];rfl
structure CurD where
 code:List Int
 pos:Int
 seed:Int
abbrev CurD.d (c:CurD):D:=.agg [.rs 1 (c.code.map Ub),Ii c.pos,.int .u64 c.seed]
structure CurOk (c:CurD) (n:Nat):Prop where
 p0:0≤c.pos
 p1:c.pos+n≤4611686018427387904
 len:c.code.length≤9223372036854775807
 by8:∀ b∈c.code,0≤b∧b≤255
def seedV (c:CurD) (b:Int):Int:=IntKind.u64.wrap (IntKind.u64.wrap (IntKind.u64.wrap (c.seed * 6364136223846793005)+IntKind.u64.wrap b)+1442695040888963407)
def byteV (c:CurD):Int:=if c.pos < c.code.length then c.code.getD c.pos.toNat 0 else 0
def foldV (s:Int):Int:=IntKind.i64.wrap (IntKind.u64.wrap (BitVec.ofInt IntKind.u64.bits (Int.fdiv s (2 ^ min (40:Int).toNat IntKind.u64.bits)) &&& BitVec.ofInt IntKind.u64.bits 255).toNat)
def nextV (c:CurD):Int:=if c.pos+1≤c.code.length then byteV c else foldV (seedV c (byteV c))
def nextC (c:CurD):CurD:=⟨c.code,c.pos+1,seedV c (byteV c)⟩
theorem nextC_ok {c:CurD} {n:Nat} (h:CurOk c (n+1)):CurOk (nextC c) n:=by
 obtain ⟨h1,h2,h3,h4⟩:=h
 refine ⟨?_,?_,h3,h4⟩
 · show 0≤c.pos+1;omega
 · show c.pos+1+n≤_;omega
theorem byteV_in {c:CurD} {n:Nat} (h:CurOk c n):0≤byteV c∧byteV c≤255:=by
 unfold byteV
 split
 · rename_i hl
   have h0:=h.p0
   have hl':c.pos.toNat < c.code.length:=by omega
   rw [List.getD_eq_getElem?_getD,List.getElem?_eq_getElem hl']
   exact h.by8 _ (List.getElem_mem hl')
 · omega
theorem foldV_in (s:Int):0≤foldV s∧foldV s≤255:=by
 unfold foldV
 have hn:(BitVec.ofInt IntKind.u64.bits (Int.fdiv s (2 ^ min (40:Int).toNat IntKind.u64.bits)) &&& BitVec.ofInt IntKind.u64.bits 255).toNat≤255:=by
  rw [BitVec.toNat_and]
  have:(BitVec.ofInt IntKind.u64.bits 255).toNat=255:=by decide
  rw [this]
  exact Nat.and_le_right
 generalize (BitVec.ofInt IntKind.u64.bits (Int.fdiv s (2 ^ min (40:Int).toNat IntKind.u64.bits)) &&& BitVec.ofInt IntKind.u64.bits 255).toNat=m at hn
 have e:IntKind.u64.wrap (m:Int)=m:=by simp [IntKind.wrap,IntKind.signed,IntKind.bits];omega
 rw [e,wrap_in (by omega) (by omega)]
 omega
theorem nextV_in {c:CurD} {n:Nat} (h:CurOk c n):0≤nextV c∧nextV c≤255:=by
 unfold nextV
 split
 · exact byteV_in h
 · exact foldV_in _
theorem CurOk.mono {c:CurD} {n m:Nat} (h:CurOk c n) (hm:m≤n):CurOk c m:=⟨h.p0,by have:=h.p1;omega,h.len,h.by8⟩
theorem spec_pl1Cur_next.fc (c:CurD) {n:Nat} (h:CurOk c (n+1)):FCt prog F_spec_pl1Cur_next [.io] [.ptr c.d] (Ii (nextV c)) [.ptr (nextC c).d]:=by
 refine fct_run spec_pl1Cur_next.ok rfl ?_
 have hb:=byteV_in h
 obtain ⟨h1,h2,h3,h4⟩:=h
 obtain ⟨code,pos,seed⟩:=c
 dsimp only at h1 h2 h3
 have w1:IntKind.i64.wrap (pos+1)=pos+1:=wrap_in (by omega) (by omega)
 unfold nextV nextC foldV
 by_cases hp:pos < code.length
 · have hl:pos.toNat < code.length:=by omega
   have g:code[pos.toNat]? = some (code.getD pos.toNat 0):=getD_sm hl
   have e:byteV ⟨code,pos,seed⟩=code.getD pos.toNat 0:=by unfold byteV;rw [if_pos hp]
   have hq:pos+1≤code.length:=by omega
   rw [e] at hb ⊢
   have w2:IntKind.i64.wrap (code.getD pos.toNat 0)=code.getD pos.toNat 0:=wrap_in (by omega) (by omega)
   rw [if_pos hq]
   unfold seedV
   simp only [go_sem,hp,h1,g,w1,w2,hq];try rfl
 · have e:byteV ⟨code,pos,seed⟩=0:=by unfold byteV;rw [if_neg hp]
   have hq:¬ pos+1≤code.length:=by omega
   rw [e,if_neg hq]
   unfold seedV
   simp only [go_sem,hp,w1,hq];try rfl
def pickV (c:CurD) (n:Int):Int:=if n≤1 then 0 else if n > 200 then (nextV c * 256+nextV (nextC c)) % n else nextV c % n
def pickC (c:CurD) (n:Int):CurD:=if n≤1 then c else if n > 200 then nextC (nextC c) else nextC c
theorem pickV_in {c:CurD} {n:Int} (h:1≤n):0≤pickV c n∧pickV c n < n:=by
 unfold pickV
 split
 · omega
 · split
   · exact ⟨Int.emod_nonneg _ (by omega),Int.emod_lt_of_pos _ (by omega)⟩
   · exact ⟨Int.emod_nonneg _ (by omega),Int.emod_lt_of_pos _ (by omega)⟩
theorem pickC_ok {c:CurD} {n:Int} {m:Nat} (h:CurOk c (m+2)):CurOk (pickC c n) m:=by
 unfold pickC
 split
 · exact h.mono (by omega)
 · split
   · exact nextC_ok (nextC_ok h)
   · exact (nextC_ok h).mono (by omega)
theorem spec_pl1Cur_pick.fc (c:CurD) (n:Int) {m:Nat} (h:CurOk c (m+2)):FCt prog F_spec_pl1Cur_pick [.io,.ro] [.ptr c.d,Ii n] (Ii (pickV c n)) [.ptr (pickC c n).d]:=by
 refine fct_run spec_pl1Cur_pick.ok rfl ?_
 have c1:=spec_pl1Cur_next.fc c h
 have h2:=nextC_ok h
 have c2:=spec_pl1Cur_next.fc (nextC c) h2
 have b1:=nextV_in h
 have b2:=nextV_in h2
 unfold pickV pickC
 generalize nextV c=x at c1 b1 ⊢
 generalize nextV (nextC c)=y at c2 b2 ⊢
 generalize nextC (nextC c)=z at c2 ⊢
 generalize nextC c=u at c1 c2 ⊢
 by_cases h1:n≤1
 · simp only [go_sem,h1]
 · by_cases h3:n > 200
   · have w1:IntKind.i64.wrap (x * 256)=x * 256:=wrap_in (by omega) (by omega)
     have w2:IntKind.i64.wrap (x * 256+y)=x * 256+y:=wrap_in (by omega) (by omega)
     have w3:Int.tmod (x * 256+y) n=(x * 256+y) % n:=Int.tmod_eq_emod_of_nonneg (by omega)
     have n0:¬ n=0:=by omega
     simp only [go_sem,h1,h3]
     refine coW_c c1 ?_
     simp only [go_sem,h1,h3,w1]
     refine coW_c c2 ?_
     simp only [go_sem,w1,w2,w3,n0,h1,h3]
   · have w3:Int.tmod x n=x % n:=Int.tmod_eq_emod_of_nonneg (by omega)
     have n0:¬ n=0:=by omega
     simp only [go_sem,h1,h3]
     refine coW_c c1 ?_
     simp only [go_sem,h1,h3,w3,n0]
theorem spec_pl1Cur_one.fc (c:CurD) (n:Int) {m:Nat} (h:CurOk c (m+2)):FCt prog F_spec_pl1Cur_one [.io,.ro] [.ptr c.d,Ii n] (Bb (pickV c n == 0)) [.ptr (pickC c n).d]:=by
 refine fct_run spec_pl1Cur_one.ok rfl ?_
 have c1:=spec_pl1Cur_pick.fc c n h
 generalize pickV c n=x at c1 ⊢
 generalize pickC c n=u at c1 ⊢
 simp only [go_sem]
 refine coW_c c1 ?_
 simp only [go_sem]
def amongV (c:CurD) (l:List Int):Int:=l.getD (pickV c l.length).toNat 0
theorem spec_pl1Cur_among.fc (c:CurD) (l:List Int) (hl:1≤l.length) (hl2:l.length≤1000) {m:Nat} (h:CurOk c (m+2)):FCt prog F_spec_pl1Cur_among [.io,.co] [.ptr c.d,ints l] (Ii (amongV c l)) [.ptr (pickC c l.length).d]:=by
 refine fct_run spec_pl1Cur_among.ok rfl ?_
 have c1:=spec_pl1Cur_pick.fc c l.length h
 have hp:=pickV_in (c:=c) (n:=l.length) (by omega)
 unfold amongV
 generalize pickV c l.length=x at c1 hp ⊢
 generalize pickC c l.length=u at c1 ⊢
 have g:l[x.toNat]? = some (l.getD x.toNat 0):=getD_sm (by omega)
 simp only [go_sem]
 refine coW_c c1 ?_
 simp only [go_sem,hp.1,hp.2,g]
theorem amongV_mem (c:CurD) (l:List Int) (hl:1≤l.length):amongV c l∈l:=by
 have hp:=pickV_in (c:=c) (n:=l.length) (by omega)
 unfold amongV
 rw [List.getD_eq_getElem?_getD,List.getElem?_eq_getElem (by omega)]
 exact List.getElem_mem (by omega)
def curS (code:List Int):CurD:=⟨code,0,0⟩
theorem curS_ok {code:List Int} (hl:code.length≤9223372036854775807) (h8:∀ b∈code,0≤b∧b≤255) {n:Nat} (hn:n≤1000000):CurOk (curS code) n :=
 ⟨Int.le_refl 0,by show (0:Int)+n≤_;omega,hl,h8⟩
set_option maxHeartbeats 4000000
def w8 (n:Int):Int:=IntKind.u8.wrap n
set_option maxHeartbeats 16000000
theorem among_kind (c:CurD):∃ k,amongV c [1,1,2,2,2,3,3,4,5,5,6,7,7,8,9,10,10]=k∧1≤k∧k≤10:=by
 have h:=amongV_mem c [1,1,2,2,2,3,3,4,5,5,6,7,7,8,9,10,10] (by simp)
 refine ⟨_,rfl,?_⟩
 simp only [List.mem_cons,List.not_mem_nil,or_false] at h
 omega
theorem step_in {c:CurD} {room:Int} {a b d e f g:Int} {v:CurD} (fc:FCt prog F_spec_pl1Cur_step [.io,.ro] [.ptr c.d,Ii room] (StepD.d ⟨a,b,d,e,f,g⟩) [.ptr (CurD.d v)]) (ok:∀ m,CurOk c (m+14)→CurOk v m) :
 ∃ s c',(∀ m,CurOk c (m+14)→CurOk c' m)∧FCt prog F_spec_pl1Cur_step [.io,.ro] [.ptr c.d,Ii room] (StepD.d s) [.ptr (CurD.d c')]:=⟨_,_,ok,fc⟩
theorem step_ex (c:CurD) (room:Int) (hr:0≤room∧room≤1000) (h:CurOk c 14):∃ s c',(∀ m,CurOk c (m+14)→CurOk c' m)∧FCt prog F_spec_pl1Cur_step [.io,.ro] [.ptr c.d,Ii room] (StepD.d s) [.ptr (CurD.d c')]:=by
 obtain ⟨k,hk,k1,k2⟩:=among_kind c
 have ca:=spec_pl1Cur_among.fc c [1,1,2,2,2,3,3,4,5,5,6,7,7,8,9,10,10] (by simp) (by simp) (m:=12) h
 rw [hk] at ca
 have h2:∀ m,CurOk c (m+14)→CurOk (pickC c 17) (m+12):=fun m hm=>pickC_ok hm
 have h1:=h2 0 h
 have l17:(([1,1,2,2,2,3,3,4,5,5,6,7,7,8,9,10,10]:List Int).length:Int)=17:=rfl
 rw [l17] at ca
 generalize pickC c 17=u at ca h1 h2
 have hc:k=1∨k=2∨k=3∨k=4∨k=5∨k=6∨k=7∨k=8∨k=9∨k=10:=by omega
 by_cases h3:room < 2<;>rcases hc with rfl|rfl|rfl|rfl|rfl|rfl|rfl|rfl|rfl|rfl <;>
 · apply step_in
   · refine fct_run spec_pl1Cur_step.ok rfl ?_
     simp only [go_sem]
     refine coW_c ca ?_
     simp only [go_sem,h3,iB,Int.reduceLE,iX,bne,ge_iff_le]
     repeat' (first|with_reducible rfl|refine coW_c (spec_pl1Cur_pick.fc _ _ (m:=0) (by first|exact h1.mono (by omega)|exact pickC_ok (h1.mono (by omega))|exact pickC_ok (pickC_ok (h1.mono (by omega)))|exact pickC_ok (pickC_ok (pickC_ok (h1.mono (by omega))))|exact pickC_ok (pickC_ok (pickC_ok (pickC_ok (h1.mono (by omega)))))|exact pickC_ok (pickC_ok (pickC_ok (pickC_ok (pickC_ok (h1.mono (by omega))))))|exact pickC_ok (pickC_ok (pickC_ok (pickC_ok (pickC_ok (pickC_ok (h1.mono (by omega))))))))) ?_|refine coW_c (spec_pl1Cur_among.fc _ [0,1,3,7,255,_] (by simp) (by simp) (m:=0) (by first|exact h1.mono (by omega)|exact pickC_ok (h1.mono (by omega))|exact pickC_ok (pickC_ok (h1.mono (by omega)))|exact pickC_ok (pickC_ok (pickC_ok (h1.mono (by omega))))|exact pickC_ok (pickC_ok (pickC_ok (pickC_ok (h1.mono (by omega)))))|exact pickC_ok (pickC_ok (pickC_ok (pickC_ok (pickC_ok (h1.mono (by omega))))))|exact pickC_ok (pickC_ok (pickC_ok (pickC_ok (pickC_ok (pickC_ok (h1.mono (by omega))))))))) ?_|refine coW_c (spec_pl1Cur_among.fc _ [256,65535,_] (by simp) (by simp) (m:=0) (by first|exact h1.mono (by omega)|exact pickC_ok (h1.mono (by omega))|exact pickC_ok (pickC_ok (h1.mono (by omega)))|exact pickC_ok (pickC_ok (pickC_ok (h1.mono (by omega))))|exact pickC_ok (pickC_ok (pickC_ok (pickC_ok (h1.mono (by omega)))))|exact pickC_ok (pickC_ok (pickC_ok (pickC_ok (pickC_ok (h1.mono (by omega))))))|exact pickC_ok (pickC_ok (pickC_ok (pickC_ok (pickC_ok (pickC_ok (h1.mono (by omega))))))))) ?_|refine fcW_int (spec_l1Least.fc ..) ?_|with_reducible refine cdW_dec (fun _=>?_) (fun _=>?_)|refine cdW_not (fun _=>?_) (fun _=>?_)|refine cdW_any (fun _=>?_) (fun _=>?_)|with_reducible refine gdW_decT (fun _=>?_) (fun _=>?_)|with_reducible refine gdW_decF (fun _=>?_) (fun _=>?_)|refine gdW_not (fun _=>?_) (fun _=>?_)|refine gdW_any (fun _=>?_) (fun _=>?_)|simp only [go_sem,bne,iQ,iB,iX,Int.reduceLE,iN,iA,iS,iM,h3,ge_iff_le, *]|rfl)
     all_goals exact ⟨rfl,rfl⟩
   · intro m hm
     have h1:=h2 m hm
     exact (by first|exact h1.mono (by omega)|exact pickC_ok (h1.mono (by omega))|exact pickC_ok (pickC_ok (h1.mono (by omega)))|exact pickC_ok (pickC_ok (pickC_ok (h1.mono (by omega))))|exact pickC_ok (pickC_ok (pickC_ok (pickC_ok (h1.mono (by omega)))))|exact pickC_ok (pickC_ok (pickC_ok (pickC_ok (pickC_ok (h1.mono (by omega))))))|exact pickC_ok (pickC_ok (pickC_ok (pickC_ok (pickC_ok (pickC_ok (h1.mono (by omega))))))))
open Classical in
noncomputable def stepX (c:CurD) (room:Int):StepD×CurD :=
 if h:(0≤room∧room≤1000)∧CurOk c 14 then ((step_ex c room h.1 h.2).choose,(step_ex c room h.1 h.2).choose_spec.choose) else (⟨0,0,0,0,0,0⟩,c)
theorem stepX_ok {c:CurD} {room:Int} (hr:0≤room∧room≤1000) {m:Nat} (h:CurOk c (m+14)):CurOk (stepX c room).2 m:=by
 have h0:(0≤room∧room≤1000)∧CurOk c 14:=⟨hr,h.mono (by omega)⟩
 unfold stepX
 rw [dif_pos h0]
 exact (step_ex c room h0.1 h0.2).choose_spec.choose_spec.1 m h
theorem stepX_fc {c:CurD} {room:Int} (hr:0≤room∧room≤1000) (h:CurOk c 14):FCt prog F_spec_pl1Cur_step [.io,.ro] [.ptr c.d,Ii room] (StepD.d (stepX c room).1) [.ptr (CurD.d (stepX c room).2)]:=by
 have h0:(0≤room∧room≤1000)∧CurOk c 14:=⟨hr,h⟩
 unfold stepX
 rw [dif_pos h0]
 exact (step_ex c room h0.1 h0.2).choose_spec.choose_spec.2
noncomputable def stepsX (n:Nat) (c:CurD):Nat→List StepD×CurD
 | 0=>([],c)
 | k+1=>((stepsX n c k).1++[(stepX (stepsX n c k).2 ((n:Int) - k)).1],(stepX (stepsX n c k).2 ((n:Int) - k)).2)
theorem stepsX_succ (n:Nat) (c:CurD) (k:Nat):stepsX n c (k+1)=((stepsX n c k).1++[(stepX (stepsX n c k).2 ((n:Int) - k)).1],(stepX (stepsX n c k).2 ((n:Int) - k)).2):=rfl
theorem stepsX_len (n:Nat) (c:CurD):∀ k,(stepsX n c k).1.length=k
 | 0=>rfl
 | k+1=>by rw [stepsX_succ];simp [stepsX_len n c k]
theorem stepsX_ok {n:Nat} (hn:n≤1000) {c:CurD} {m:Nat} (h:CurOk c (m+14 * n)):∀ k,k≤n→CurOk (stepsX n c k).2 (m+14 * (n - k))
 | 0,_=>h
 | k+1,hk=>by
  have ih:=stepsX_ok hn h k (by omega)
  rw [stepsX_succ]
  exact stepX_ok (m:=m+14 * (n - (k+1))) ⟨by omega,by omega⟩ (ih.mono (by omega))
abbrev curA (c:CurD):AV:=.agg [.dat none (.sl 1 (c.code.map Ub)),.dat none (Ii c.pos),.dat none (.int .u64 c.seed)]
theorem prog_in {c:CurD} {p:List StepD} {v:CurD} (fc:FCt prog F_spec_pl1Cur_program [.io] [.ptr c.d] (steps p) [.ptr (CurD.d v)]) (hl:p.length≤20) (ok:∀ m,CurOk c (m+320)→CurOk v m) :
 ∃ p c',p.length≤20∧(∀ m,CurOk c (m+320)→CurOk c' m)∧FCt prog F_spec_pl1Cur_program [.io] [.ptr c.d] (steps p) [.ptr (CurD.d c')]:=⟨_,_,hl,ok,fc⟩
theorem prog_ex (c:CurD) (h:CurOk c 320):∃ p c',p.length≤20∧(∀ m,CurOk c (m+320)→CurOk c' m)∧FCt prog F_spec_pl1Cur_program [.io] [.ptr c.d] (steps p) [.ptr (CurD.d c')]:=by
 have f1:=spec_pl1Cur_pick.fc c 12 (m:=318) h
 have h1:∀ m,CurOk c (m+320)→CurOk (pickC c 12) (m+318):=fun m hm=>pickC_ok hm
 have p1:=pickV_in (c:=c) (n:=12) (by omega)
 generalize pickV c 12=n0 at f1 p1
 generalize pickC c 12=c1 at f1 h1
 have f2:=spec_pl1Cur_one.fc c1 30 (m:=316) (h1 0 h)
 have h2:∀ m,CurOk c (m+320)→CurOk (pickC c1 30) (m+316):=fun m hm=>pickC_ok (h1 m hm)
 generalize (pickV c1 30 == 0)=b1 at f2
 generalize pickC c1 30=c2 at f2 h2
 obtain ⟨n,hn,hn2⟩:∃ n:Nat,(if b1 then 19 else n0)=(n:Int)∧n≤19:=by
  cases b1
  · exact ⟨n0.toNat,by simp only [Bool.false_eq_true,if_false];omega,by omega⟩
  · exact ⟨19,rfl,Nat.le_refl _⟩
 have h3:∀ m,CurOk c (m+320)→∀ k,k≤n→CurOk (stepsX n c2 k).2 (m+30+14 * (n - k)):=fun m hm k hk=>stepsX_ok (by omega) ((h2 m hm).mono (by omega)) k hk
 have hsl:=stepsX_len n c2
 have f4:=spec_pl1Cur_one.fc (stepsX n c2 n).2 30 (m:=28) ((h3 0 h n (Nat.le_refl _)).mono (by omega))
 have h4:∀ m,CurOk c (m+320)→CurOk (pickC (stepsX n c2 n).2 30) (m+28):=fun m hm=>pickC_ok ((h3 m hm n (Nat.le_refl _)).mono (by omega))
 cases h5:(pickV (stepsX n c2 n).2 30 == 0) with
 | false =>
  rw [h5] at f4
  refine prog_in (p:=(stepsX n c2 n).1++[(⟨11,0,0,0,0,0⟩:StepD)]) (v:=pickC (stepsX n c2 n).2 30) ?_ (by simp [hsl];omega) (fun m hm=>(h4 m hm).mono (by omega))
  refine fct_run spec_pl1Cur_program.ok rfl ?_
  simp only [go_sem]
  refine coW_c f1 ?_
  simp only [go_sem]
  refine coW_c f2 ?_
  cases b1<;>simp only [Bool.false_eq_true,if_false,if_true] at hn <;>
  · simp only [go_sem]
    refine R_loop (α:=Nat) (fun k s' M'=>k≤n∧s' 5=aI k∧M'.m 0=some (.box 0 (curA (stepsX n c2 k).2))∧∃ v,s' 3=.sl 1280 v 0 k 6∧M'.m 1280=some (.arr v true 6 ((stepsX n c2 k).1.map StepD.d))) (fun k=>n - k) 0
     ⟨Nat.zero_le _,by simp only [go_sem];try rfl,by simp only [go_sem];try rfl,_,by simp only [go_sem];try rfl,by simp only [go_sem];try rfl⟩ ?_
    rintro k s' M' ⟨hk,g5,gm,v,g3,gr⟩ ho
    unfold spec_pl1Cur_program.b0
    have j4:s' 4=aI n:=by rw [ho 4 rfl,← hn];simp only [go_sem]
    have j0:s' 0=.ptr 0 0 0 none:=by rw [ho 0 rfl];simp only [go_sem]
    clear ho
    by_cases hlt:k < n
    · have hi':(k:Int) < n:=by omega
      have hw:IntKind.i64.wrap (k+1)=((k+1:Nat):Int):=wrap_k hlt (by omega)
      have hs:IntKind.i64.wrap ((n:Int) - k)=(n:Int) - k:=wrap_in (by omega) (by omega)
      have fs:=stepX_fc (c:=(stepsX n c2 k).2) (room:=(n:Int) - k) ⟨by omega,by omega⟩ ((h3 0 h k hk).mono (by omega))
      have hsu:=stepsX_succ n c2 k
      have lk:=hsl k
      have lk1:=hsl (k+1)
      have hbb:(k+1) * 48≤70368744177664:=by omega
      generalize stepX (stepsX n c2 k).2 ((n:Int) - k)=S at fs hsu
      have sn:(stepsX n c2 k).1.map StepD.d++[S.1.d]=(stepsX n c2 (k+1)).1.map StepD.d:=by rw [hsu];simp
      have s2:S.2=(stepsX n c2 (k+1)).2:=by rw [hsu]
      have tk:((stepsX n c2 k).1.map StepD.d).take k=(stepsX n c2 k).1.map StepD.d:=List.take_of_length_le (by simp [lk])
      simp only [go_sem,hi',hs,j0,g5,gm,g3,gr,j4]
      refine coW_c fs ?_
      simp only [go_sem,hw,hbb,tk,lk,j0,g5,gm,g3,gr,j4]
      exact ⟨k+1,by dsimp only;omega,by omega,by simp only [go_sem,j0,g5,gm,g3,gr,j4],by simp only [go_sem,j0,g5,gm,g3,gr,j4];rw [← s2],_,by simp only [go_sem,j0,g5,gm,g3,gr,j4];try rfl,by simp only [go_sem,j0,g5,gm,g3,gr,j4];rw [← sn]⟩
    · obtain rfl:k=n:=by omega
      have lk:=hsl k
      have hbb:(k+1) * 48≤70368744177664:=by omega
      have tk:((stepsX k c2 k).1.map StepD.d).take k=(stepsX k c2 k).1.map StepD.d:=List.take_of_length_le (by simp [lk])
      have sn:(stepsX k c2 k).1.map StepD.d++[StepD.d ⟨11,0,0,0,0,0⟩]=((stepsX k c2 k).1++[(⟨11,0,0,0,0,0⟩:StepD)]).map StepD.d:=by simp
      have l1:((stepsX k c2 k).1++[(⟨11,0,0,0,0,0⟩:StepD)]).length=k+1:=by simp [lk]
      have tk1:(((stepsX k c2 k).1++[(⟨11,0,0,0,0,0⟩:StepD)]).map StepD.d).take (k+1)=((stepsX k c2 k).1++[(⟨11,0,0,0,0,0⟩:StepD)]).map StepD.d:=List.take_of_length_le (by simp [lk])
      simp only [go_sem,Int.lt_irrefl,hbb,tk,lk,j0,g5,gm,g3,gr,j4]
      refine coW_c f4 ?_
      simp only [go_sem,sn,tk1,l1,j0,g5,gm,g3,gr,j4];try rfl
 | true =>
  rw [h5] at f4
  have a4:=h4 0 h
  generalize pickC (stepsX n c2 n).2 30=v0 at f4 h4 a4
  have e0:=spec_pl1Cur_pick.fc v0 ((n+1:Nat):Int) (m:=26) a4
  have q0:∀ m,CurOk c (m+320)→CurOk (pickC v0 ((n+1:Nat):Int)) (m+26):=fun m hm=>pickC_ok (h4 m hm)
  have b0:=pickV_in (c:=v0) (n:=((n+1:Nat):Int)) (by omega)
  generalize pickV v0 ((n+1:Nat):Int)=i0 at e0 b0
  generalize pickC v0 ((n+1:Nat):Int)=v1 at e0 q0
  have e1:=spec_pl1Cur_pick.fc v1 13 (m:=24) (q0 0 h)
  have q1:∀ m,CurOk c (m+320)→CurOk (pickC v1 13) (m+24):=fun m hm=>pickC_ok (q0 m hm)
  generalize pickV v1 13=i1 at e1
  generalize pickC v1 13=v2 at e1 q1
  have e2:=spec_pl1Cur_pick.fc v2 3 (m:=22) (q1 0 h)
  have q2:∀ m,CurOk c (m+320)→CurOk (pickC v2 3) (m+22):=fun m hm=>pickC_ok (q1 m hm)
  generalize pickV v2 3=i2 at e2
  generalize pickC v2 3=v3 at e2 q2
  have e3:=spec_pl1Cur_pick.fc v3 8 (m:=20) (q2 0 h)
  have q3:∀ m,CurOk c (m+320)→CurOk (pickC v3 8) (m+20):=fun m hm=>pickC_ok (q2 m hm)
  generalize pickV v3 8=i3 at e3
  generalize pickC v3 8=v4 at e3 q3
  have e4:=spec_pl1Cur_among.fc v4 [0,255,256,65536] (by simp) (by simp) (m:=18) (q3 0 h)
  have q4:∀ m,CurOk c (m+320)→CurOk (pickC v4 (([0,255,256,65536]:List Int).length:Int)) (m+18):=fun m hm=>pickC_ok (q3 m hm)
  generalize amongV v4 [0,255,256,65536]=i4 at e4
  generalize pickC v4 (([0,255,256,65536]:List Int).length:Int)=v5 at e4 q4
  have e5:=spec_pl1Cur_pick.fc v5 4 (m:=16) (q4 0 h)
  have q5:∀ m,CurOk c (m+320)→CurOk (pickC v5 4) (m+16):=fun m hm=>pickC_ok (q4 m hm)
  generalize pickV v5 4=i5 at e5
  generalize pickC v5 4=v6 at e5 q5
  have e00:=b0.1
  refine prog_in (p:=((stepsX n c2 n).1++[(⟨11,0,0,0,0,0⟩:StepD)]).set i0.toNat ⟨i1,i2,IntKind.i64.wrap (i3 - 1),0,i4,i5⟩) (v:=v6) ?_ (by simp [hsl];omega) (fun m hm=>(q5 m hm).mono (by omega))
  refine fct_run spec_pl1Cur_program.ok rfl ?_
  simp only [go_sem]
  refine coW_c f1 ?_
  simp only [go_sem]
  refine coW_c f2 ?_
  cases b1<;>simp only [Bool.false_eq_true,if_false,if_true] at hn <;>
  · simp only [go_sem]
    refine R_loop (α:=Nat) (fun k s' M'=>k≤n∧s' 5=aI k∧M'.m 0=some (.box 0 (curA (stepsX n c2 k).2))∧∃ v,s' 3=.sl 1280 v 0 k 6∧M'.m 1280=some (.arr v true 6 ((stepsX n c2 k).1.map StepD.d))) (fun k=>n - k) 0
     ⟨Nat.zero_le _,by simp only [go_sem];try rfl,by simp only [go_sem];try rfl,_,by simp only [go_sem];try rfl,by simp only [go_sem];try rfl⟩ ?_
    rintro k s' M' ⟨hk,g5,gm,v,g3,gr⟩ ho
    unfold spec_pl1Cur_program.b0
    have j4:s' 4=aI n:=by rw [ho 4 rfl,← hn];simp only [go_sem]
    have j0:s' 0=.ptr 0 0 0 none:=by rw [ho 0 rfl];simp only [go_sem]
    clear ho
    by_cases hlt:k < n
    · have hi':(k:Int) < n:=by omega
      have hw:IntKind.i64.wrap (k+1)=((k+1:Nat):Int):=wrap_k hlt (by omega)
      have hs:IntKind.i64.wrap ((n:Int) - k)=(n:Int) - k:=wrap_in (by omega) (by omega)
      have fs:=stepX_fc (c:=(stepsX n c2 k).2) (room:=(n:Int) - k) ⟨by omega,by omega⟩ ((h3 0 h k hk).mono (by omega))
      have hsu:=stepsX_succ n c2 k
      have lk:=hsl k
      have lk1:=hsl (k+1)
      have hbb:(k+1) * 48≤70368744177664:=by omega
      generalize stepX (stepsX n c2 k).2 ((n:Int) - k)=S at fs hsu
      have sn:(stepsX n c2 k).1.map StepD.d++[S.1.d]=(stepsX n c2 (k+1)).1.map StepD.d:=by rw [hsu];simp
      have s2:S.2=(stepsX n c2 (k+1)).2:=by rw [hsu]
      have tk:((stepsX n c2 k).1.map StepD.d).take k=(stepsX n c2 k).1.map StepD.d:=List.take_of_length_le (by simp [lk])
      simp only [go_sem,hi',hs,j0,g5,gm,g3,gr,j4]
      refine coW_c fs ?_
      simp only [go_sem,hw,hbb,tk,lk,j0,g5,gm,g3,gr,j4]
      exact ⟨k+1,by dsimp only;omega,by omega,by simp only [go_sem,j0,g5,gm,g3,gr,j4],by simp only [go_sem,j0,g5,gm,g3,gr,j4];rw [← s2],_,by simp only [go_sem,j0,g5,gm,g3,gr,j4];try rfl,by simp only [go_sem,j0,g5,gm,g3,gr,j4];rw [← sn]⟩
    · obtain rfl:k=n:=by omega
      have lk:=hsl k
      have hbb:(k+1) * 48≤70368744177664:=by omega
      have tk:((stepsX k c2 k).1.map StepD.d).take k=(stepsX k c2 k).1.map StepD.d:=List.take_of_length_le (by simp [lk])
      have sn:(stepsX k c2 k).1.map StepD.d++[StepD.d ⟨11,0,0,0,0,0⟩]=((stepsX k c2 k).1++[(⟨11,0,0,0,0,0⟩:StepD)]).map StepD.d:=by simp
      have l1:((stepsX k c2 k).1++[(⟨11,0,0,0,0,0⟩:StepD)]).length=k+1:=by simp [lk]
      have tk1:(((stepsX k c2 k).1++[(⟨11,0,0,0,0,0⟩:StepD)]).map StepD.d).take (k+1)=((stepsX k c2 k).1++[(⟨11,0,0,0,0,0⟩:StepD)]).map StepD.d:=List.take_of_length_le (by simp [lk])
      simp only [go_sem,Int.lt_irrefl,hbb,tk,lk,j0,g5,gm,g3,gr,j4]
      refine coW_c f4 ?_
      have hx:((stepsX k c2 k).1++[(⟨11,0,0,0,0,0⟩:StepD)])[i0.toNat]? = some (((stepsX k c2 k).1++[(⟨11,0,0,0,0,0⟩:StepD)]).getD i0.toNat ⟨0,0,0,0,0,0⟩):=getD_some (by rw [l1];omega)
      have i0k:i0 < ((k+1:Nat):Int):=by omega
      have ss:(((stepsX k c2 k).1++[(⟨11,0,0,0,0,0⟩:StepD)]).map StepD.d).set i0.toNat (.agg [.int .i64 i1,.int .i64 i2,.int .i64 (IntKind.i64.wrap (i3 - 1)),.int .i64 0,.int .i64 i4,.int .i64 i5])=(((stepsX k c2 k).1++[(⟨11,0,0,0,0,0⟩:StepD)]).set i0.toNat ⟨i1,i2,IntKind.i64.wrap (i3 - 1),0,i4,i5⟩).map StepD.d:=by rw [List.map_set]
      have tk2:(((((stepsX k c2 k).1++[(⟨11,0,0,0,0,0⟩:StepD)]).set i0.toNat ⟨i1,i2,IntKind.i64.wrap (i3 - 1),0,i4,i5⟩).map StepD.d)).take (k+1)=(((stepsX k c2 k).1++[(⟨11,0,0,0,0,0⟩:StepD)]).set i0.toNat ⟨i1,i2,IntKind.i64.wrap (i3 - 1),0,i4,i5⟩).map StepD.d:=List.take_of_length_le (by simp [lk])
      have l2:(((stepsX k c2 k).1++[(⟨11,0,0,0,0,0⟩:StepD)]).set i0.toNat ⟨i1,i2,IntKind.i64.wrap (i3 - 1),0,i4,i5⟩).length=k+1:=by simp [lk]
      simp only [go_sem,sn,l1,j0,g5,gm,g3,gr,j4]
      refine coW_c e0 ?_
      simp only [go_sem,j0,g5,gm,g3,gr,j4]
      refine coW_c e1 ?_
      simp only [go_sem,j0,g5,gm,g3,gr,j4]
      refine coW_c e2 ?_
      simp only [go_sem,j0,g5,gm,g3,gr,j4]
      refine coW_c e3 ?_
      simp only [go_sem,j0,g5,gm,g3,gr,j4]
      refine coW_c e4 ?_
      simp only [go_sem,j0,g5,gm,g3,gr,j4]
      refine coW_c e5 ?_
      simp only [go_sem,e00,i0k,hx,l1,ss,tk2,l2,Nat.le_refl,j0,g5,gm,g3,gr,j4];try rfl
def ctxX (c:CurD):Nat→List Int×CurD
 | 0=>([],c)
 | k+1=>((ctxX c k).1++[amongV (pickC (ctxX c k).2 256) [0,1,7,8,255,pickV (ctxX c k).2 256]],pickC (pickC (ctxX c k).2 256) 6)
theorem ctxX_succ (c:CurD) (k:Nat):ctxX c (k+1)=((ctxX c k).1++[amongV (pickC (ctxX c k).2 256) [0,1,7,8,255,pickV (ctxX c k).2 256]],pickC (pickC (ctxX c k).2 256) 6):=rfl
theorem ctxX_len (c:CurD):∀ k,(ctxX c k).1.length=k
 | 0=>rfl
 | k+1=>by rw [ctxX_succ];simp [ctxX_len c k]
theorem ctxX_ok {c:CurD} {m:Nat} (h:CurOk c (m+32)):∀ k,k≤8→CurOk (ctxX c k).2 (m+4 * (8 - k))
 | 0,_=>h
 | k+1,hk=>by
  have ih:=ctxX_ok h k (by omega)
  rw [ctxX_succ]
  show CurOk (pickC (pickC (ctxX c k).2 256) 6) _
  exact pickC_ok (m:=m+4 * (8 - (k+1))) (pickC_ok (m:=m+4 * (8 - (k+1))+2) (ih.mono (by omega)))
theorem ctx_in {c:CurD} {p:List Int} {v:CurD} (fc:FCt prog F_spec_pl1Cur_ctx [.io] [.ptr c.d] (ints p) [.ptr (CurD.d v)]) (hl:p.length=8) (ok:∀ m,CurOk c (m+40)→CurOk v m) :
 ∃ p c',p.length=8∧(∀ m,CurOk c (m+40)→CurOk c' m)∧FCt prog F_spec_pl1Cur_ctx [.io] [.ptr c.d] (ints p) [.ptr (CurD.d c')]:=⟨_,_,hl,ok,fc⟩
theorem ctx_ex (c:CurD) (h:CurOk c 40):∃ p c',p.length=8∧(∀ m,CurOk c (m+40)→CurOk c' m)∧FCt prog F_spec_pl1Cur_ctx [.io] [.ptr c.d] (ints p) [.ptr (CurD.d c')]:=by
 have h3:∀ m,CurOk c (m+40)→∀ k,k≤8→CurOk (ctxX c k).2 (m+8+4 * (8 - k)):=fun m hm k hk=>ctxX_ok (hm.mono (by omega)) k hk
 have hsl:=ctxX_len c
 have f4:=spec_pl1Cur_one.fc (ctxX c 8).2 30 (m:=6) ((h3 0 h 8 (Nat.le_refl _)).mono (by omega))
 have h4:∀ m,CurOk c (m+40)→CurOk (pickC (ctxX c 8).2 30) (m+6):=fun m hm=>pickC_ok ((h3 m hm 8 (Nat.le_refl _)).mono (by omega))
 have l6:∀ x:Int,(([0,1,7,8,255,x]:List Int).length:Int)=6:=fun _=>rfl
 have l2:(([-1,256]:List Int).length:Int)=2:=rfl
 have e5:=spec_pl1Cur_among.fc (pickC (ctxX c 8).2 30) [-1,256] (by simp) (by simp) (m:=4) (h4 0 h)
 rw [l2] at e5
 have h5:∀ m,CurOk c (m+40)→CurOk (pickC (pickC (ctxX c 8).2 30) 2) (m+4):=fun m hm=>pickC_ok (h4 m hm)
 generalize amongV (pickC (ctxX c 8).2 30) [-1,256]=z at e5
 generalize pickC (pickC (ctxX c 8).2 30) 2=v2 at e5 h5
 generalize pickC (ctxX c 8).2 30=v1 at f4 h4 e5
 have h81:(ctxX c 8).1.length=8:=hsl 8
 cases hb:(pickV (ctxX c 8).2 30 == 0)<;>rw [hb] at f4
 case false =>
  refine ctx_in (p:=(ctxX c 8).1) (v:=v1) ?_ h81 (fun m hm=>(h4 m hm).mono (by omega))
  refine fct_run spec_pl1Cur_ctx.ok rfl ?_
  simp only [go_sem]
  refine R_loop (α:=Nat) (fun k s' M'=>k≤8∧s' 4=aI k∧M'.m 0=some (.box 0 (curA (ctxX c k).2))∧∃ v,s' 3=.sl 832 v 0 k 1∧M'.m 832=some (.arr v true 1 ((ctxX c k).1.map Ii))) (fun k=>8 - k) 0
   ⟨Nat.zero_le _,by simp only [go_sem];try rfl,by simp only [go_sem];try rfl,_,by simp only [go_sem];try rfl,by simp only [go_sem];try rfl⟩ ?_
  rintro k s' M' ⟨hk,g5,gm,v,g3,gr⟩ ho
  unfold spec_pl1Cur_ctx.b0
  have j0:s' 0=.ptr 0 0 0 none:=by rw [ho 0 rfl];simp only [go_sem]
  clear ho
  by_cases hlt:k < 8
  · have hi':(k:Int) < 8:=by omega
    have hw:IntKind.i64.wrap (k+1)=((k+1:Nat):Int):=wrap_k hlt (by omega)
    have ok:=(h3 0 h k hk).mono (m:=4) (by omega)
    have e1:=spec_pl1Cur_pick.fc (ctxX c k).2 256 (m:=2) ok
    have hsu:=ctxX_succ c k
    have o1:CurOk (pickC (ctxX c k).2 256) 2:=pickC_ok ok
    generalize pickV (ctxX c k).2 256=x at e1 hsu
    generalize pickC (ctxX c k).2 256=c1 at e1 hsu o1
    have e2:=spec_pl1Cur_among.fc c1 [0,1,7,8,255,x] (by simp) (by simp) (m:=0) o1
    rw [l6] at e2
    generalize amongV c1 [0,1,7,8,255,x]=y at e2 hsu
    generalize pickC c1 6=c2 at e2 hsu
    have lk:=hsl k
    have hbb:(k+1) * 8≤70368744177664:=by omega
    have tk:((ctxX c k).1.map Ii).take k=(ctxX c k).1.map Ii:=List.take_of_length_le (by simp [lk])
    have sn:(ctxX c k).1.map Ii++[Ii y]=(ctxX c (k+1)).1.map Ii:=by rw [hsu];simp
    have s2:c2=(ctxX c (k+1)).2:=by rw [hsu]
    simp only [go_sem,hi',j0,g5,gm,g3,gr]
    refine coW_c e1 ?_
    simp only [go_sem,j0,g5,gm,g3,gr]
    refine coW_c e2 ?_
    simp only [go_sem,hw,hbb,tk,lk,j0,g5,gm,g3,gr]
    exact ⟨k+1,by dsimp only;omega,by omega,by simp only [go_sem,j0,g5,gm,g3,gr],by simp only [go_sem,j0,g5,gm,g3,gr];rw [← s2],_,by simp only [go_sem,j0,g5,gm,g3,gr];try rfl,by simp only [go_sem,j0,g5,gm,g3,gr];rw [← sn]⟩
  · obtain rfl:k=8:=by omega
    have c8:((8:Nat):Int)=8:=rfl
    have tk:((ctxX c 8).1.map Ii).take 8=(ctxX c 8).1.map Ii:=List.take_of_length_le (by simp [h81])
    simp only [go_sem,Int.lt_irrefl,c8,j0,g5,gm,g3,gr]
    refine coW_c f4 ?_
    simp only [go_sem,h81,tk,Nat.le_refl,j0,g5,gm,g3,gr];try rfl
 case true =>
  refine ctx_in (p:=(ctxX c 8).1.set 0 z) (v:=v2) ?_ (by simp [h81]) (fun m hm=>(h5 m hm).mono (by omega))
  refine fct_run spec_pl1Cur_ctx.ok rfl ?_
  simp only [go_sem]
  refine R_loop (α:=Nat) (fun k s' M'=>k≤8∧s' 4=aI k∧M'.m 0=some (.box 0 (curA (ctxX c k).2))∧∃ v,s' 3=.sl 832 v 0 k 1∧M'.m 832=some (.arr v true 1 ((ctxX c k).1.map Ii))) (fun k=>8 - k) 0
   ⟨Nat.zero_le _,by simp only [go_sem];try rfl,by simp only [go_sem];try rfl,_,by simp only [go_sem];try rfl,by simp only [go_sem];try rfl⟩ ?_
  rintro k s' M' ⟨hk,g5,gm,v,g3,gr⟩ ho
  unfold spec_pl1Cur_ctx.b0
  have j0:s' 0=.ptr 0 0 0 none:=by rw [ho 0 rfl];simp only [go_sem]
  clear ho
  by_cases hlt:k < 8
  · have hi':(k:Int) < 8:=by omega
    have hw:IntKind.i64.wrap (k+1)=((k+1:Nat):Int):=wrap_k hlt (by omega)
    have ok:=(h3 0 h k hk).mono (m:=4) (by omega)
    have e1:=spec_pl1Cur_pick.fc (ctxX c k).2 256 (m:=2) ok
    have hsu:=ctxX_succ c k
    have o1:CurOk (pickC (ctxX c k).2 256) 2:=pickC_ok ok
    generalize pickV (ctxX c k).2 256=x at e1 hsu
    generalize pickC (ctxX c k).2 256=c1 at e1 hsu o1
    have e2:=spec_pl1Cur_among.fc c1 [0,1,7,8,255,x] (by simp) (by simp) (m:=0) o1
    rw [l6] at e2
    generalize amongV c1 [0,1,7,8,255,x]=y at e2 hsu
    generalize pickC c1 6=c2 at e2 hsu
    have lk:=hsl k
    have hbb:(k+1) * 8≤70368744177664:=by omega
    have tk:((ctxX c k).1.map Ii).take k=(ctxX c k).1.map Ii:=List.take_of_length_le (by simp [lk])
    have sn:(ctxX c k).1.map Ii++[Ii y]=(ctxX c (k+1)).1.map Ii:=by rw [hsu];simp
    have s2:c2=(ctxX c (k+1)).2:=by rw [hsu]
    simp only [go_sem,hi',j0,g5,gm,g3,gr]
    refine coW_c e1 ?_
    simp only [go_sem,j0,g5,gm,g3,gr]
    refine coW_c e2 ?_
    simp only [go_sem,hw,hbb,tk,lk,j0,g5,gm,g3,gr]
    exact ⟨k+1,by dsimp only;omega,by omega,by simp only [go_sem,j0,g5,gm,g3,gr],by simp only [go_sem,j0,g5,gm,g3,gr];rw [← s2],_,by simp only [go_sem,j0,g5,gm,g3,gr];try rfl,by simp only [go_sem,j0,g5,gm,g3,gr];rw [← sn]⟩
  · obtain rfl:k=8:=by omega
    have c8:((8:Nat):Int)=8:=rfl
    have tk:((ctxX c 8).1.map Ii).take 8=(ctxX c 8).1.map Ii:=List.take_of_length_le (by simp [h81])
    simp only [go_sem,Int.lt_irrefl,c8,j0,g5,gm,g3,gr]
    refine coW_c f4 ?_
    simp only [go_sem,j0,g5,gm,g3,gr]
    refine coW_c e5 ?_
    have g0:(ctxX c 8).1[0]? = some ((ctxX c 8).1.getD 0 0):=getD_some (by omega)
    have ss:((ctxX c 8).1.map Ii).set 0 (.int .i64 z)=((ctxX c 8).1.set 0 z).map Ii:=by rw [List.map_set]
    have tk2:(((ctxX c 8).1.set 0 z).map Ii).take 8=((ctxX c 8).1.set 0 z).map Ii:=List.take_of_length_le (by simp [h81])
    have l3:((ctxX c 8).1.set 0 z).length=8:=by simp [h81]
    simp only [go_sem,c8,h81,g0,ss,tk2,l3,Nat.le_refl,j0,g5,gm,g3,gr];try rfl
theorem tr_ex (code:List Int) (hl:code.length≤9223372036854775807) (h8:∀ b∈code,0≤b∧b≤255) :
 ∃ (p:List StepD) (ctx:List Int),p.length≤20∧ctx.length=8∧FCt prog F_spec_DrawTraceOf [.ro] [.sl 1 (code.map Ub)] (.tup [steps p,ints ctx]) []:=by
 obtain ⟨p,c1,pl,ok1,f1⟩:=prog_ex (curS code) (curS_ok hl h8 (by omega))
 have o1:CurOk c1 40:=ok1 40 (curS_ok hl h8 (by omega))
 obtain ⟨l,c2,ll,ok2,f2⟩:=ctx_ex c1 o1
 refine ⟨p,l,pl,ll,?_⟩
 refine fct_run spec_DrawTraceOf.ok rfl ?_
 simp only [go_sem]
 refine coW_c f1 ?_
 simp only [go_sem,take_map_len]
 refine coW_c f2 ?_
 simp only [go_sem,take_map_len]
theorem word_ex (c:CurD) {m:Nat} (h:CurOk c (m+12)):∃ (x:Int) (c':CurD),(0≤x∧x≤65535)∧CurOk c' m∧FCt prog F_spec_pl1Cur_word [.io] [.ptr c.d] (Ii x) [.ptr c'.d]:=by
 have f1:=spec_pl1Cur_pick.fc c 256 (m:=m+10) h
 have o1:CurOk (pickC c 256) (m+10):=pickC_ok h
 have p1:=pickV_in (c:=c) (n:=256) (by omega)
 generalize pickV c 256=x1 at f1 p1
 generalize pickC c 256=c1 at f1 o1
 have f2:=spec_pl1Cur_pick.fc c1 256 (m:=m+8) o1
 have o2:CurOk (pickC c1 256) (m+8):=pickC_ok o1
 have p2:=pickV_in (c:=c1) (n:=256) (by omega)
 generalize pickV c1 256=x2 at f2 p2
 generalize pickC c1 256=c2 at f2 o2
 have f3:=spec_pl1Cur_pick.fc c2 256 (m:=m+6) o2
 have o3:CurOk (pickC c2 256) (m+6):=pickC_ok o2
 have p3:=pickV_in (c:=c2) (n:=256) (by omega)
 generalize pickV c2 256=x3 at f3 p3
 generalize pickC c2 256=c3 at f3 o3
 have f4:=spec_pl1Cur_pick.fc c3 256 (m:=m+4) o3
 have o4:CurOk (pickC c3 256) (m+4):=pickC_ok o3
 have p4:=pickV_in (c:=c3) (n:=256) (by omega)
 generalize pickV c3 256=x4 at f4 p4
 generalize pickC c3 256=c4 at f4 o4
 have f5:=spec_pl1Cur_pick.fc c4 20 (m:=m+2) o4
 have o5:CurOk (pickC c4 20) (m+2):=pickC_ok o4
 have p5:=pickV_in (c:=c4) (n:=20) (by omega)
 generalize pickV c4 20=x5 at f5 p5
 generalize pickC c4 20=c5 at f5 o5
 have f6:=spec_pl1Cur_among.fc c5 [0,1,2,255,256,32767,32768,65535,x1 * 256+x2,x3 * 256+x4,x5] (by simp) (by simp) (m:=m) o5
 have e6:=amongV_mem c5 [0,1,2,255,256,32767,32768,65535,x1 * 256+x2,x3 * 256+x4,x5] (by simp)
 have o6:CurOk (pickC c5 11) m:=pickC_ok o5
 have hx:0≤amongV c5 [0,1,2,255,256,32767,32768,65535,x1 * 256+x2,x3 * 256+x4,x5]∧amongV c5 [0,1,2,255,256,32767,32768,65535,x1 * 256+x2,x3 * 256+x4,x5]≤65535:=by
  simp only [List.mem_cons,List.not_mem_nil,or_false] at e6
  omega
 clear e6
 generalize amongV c5 [0,1,2,255,256,32767,32768,65535,x1 * 256+x2,x3 * 256+x4,x5]=x at f6 hx
 refine ⟨x,pickC c5 11,hx,o6,?_⟩
 have w1:IntKind.i64.wrap (x1 * 256)=x1 * 256:=wrap_in (by omega) (by omega)
 have w2:IntKind.i64.wrap (x1 * 256+x2)=x1 * 256+x2:=wrap_in (by omega) (by omega)
 have w3:IntKind.i64.wrap (x3 * 256)=x3 * 256:=wrap_in (by omega) (by omega)
 have w4:IntKind.i64.wrap (x3 * 256+x4)=x3 * 256+x4:=wrap_in (by omega) (by omega)
 refine fct_run spec_pl1Cur_word.ok rfl ?_
 simp only [go_sem]
 refine coW_c f1 ?_
 simp only [go_sem,w1]
 refine coW_c f2 ?_
 simp only [go_sem,w1,w2]
 refine coW_c f3 ?_
 simp only [go_sem,w3]
 refine coW_c f4 ?_
 simp only [go_sem,w3,w4]
 refine coW_c f5 ?_
 simp only [go_sem]
 refine coW_c f6 ?_
 simp only [go_sem]
 rfl
def MachQ (n:Int) (m:Nat) (r:D) (outs:List D):Prop:=∃ (k:MachD) (c':CurD),r=k.d∧outs=[.ptr c'.d]∧k.regs.length=6∧k.cells.length=16∧k.isset.length=16∧CurOk c' m
theorem mach_ex (c:CurD) (n:Int) {m:Nat} (h:CurOk c (m+400)):∃ (k:MachD) (c':CurD),k.regs.length=6∧k.cells.length=16∧k.isset.length=16∧CurOk c' m∧FCt prog F_spec_pl1Cur_machine [.io,.ro] [.ptr c.d,Ii n] k.d [.ptr c'.d]:=by
 suffices H:∃ r outs,MachQ n m r outs∧FCt prog F_spec_pl1Cur_machine [.io,.ro] [.ptr c.d,Ii n] r outs by
  obtain ⟨_,_,⟨k,c',rfl,rfl,h1,h2,h3,h4⟩,hf⟩:=H
  exact ⟨k,c',h1,h2,h3,h4,hf⟩
 refine fct_ex _ spec_pl1Cur_machine.ok rfl rfl ?_
 have f1:=spec_pl1Cur_pick.fc c n (m:=m+398) h
 have o1:CurOk (pickC c n) (m+398):=pickC_ok h
 generalize pickV c n=x1 at f1
 generalize pickC c n=c1 at f1 o1
 simp only [go_sem]
 refine fcW_bd spec_NewMachine.fc noRs_Machine ?_
 simp only [go_sem]
 refine coW_c f1 ?_
 simp only [go_sem]
 have n1:newM.regs.length=6:=rfl
 have n2:newM.cells.length=16:=rfl
 have n3:newM.isset.length=16:=rfl
 refine R_loop (α:=Nat×List Int×CurD) (fun a s' M'=>a.1≤6∧a.2.1.length=6∧CurOk a.2.2 (m+250+14 * (6 - a.1))∧s' 15=aI 6∧s' 16=aI a.1∧M'.m 0=some (.box 0 (curA a.2.2)) ∧
  M'.m 128=some (.arr 65 true 1 (a.2.1.map Ii))∧M'.m 129=some (.arr 66 true 1 (newM.cells.map Ii))∧M'.m 130=some (.arr 67 true 1 (newM.isset.map Bb)) ∧
  M'.m 192=some (.box 129 (.agg [aI x1,.sl 128 65 0 6 1,.sl 129 66 0 16 1,.sl 130 67 0 16 1]))∧M'.m 64=some (.box 1 (.agg [aI 0,.nil 1,.nil 1,.nil 1]))) (fun a=>6 - a.1) (0,newM.regs,c1)
  ⟨by omega,rfl,o1.mono (by omega),by simp only [go_sem];try rfl,by simp only [go_sem];try rfl,by simp only [go_sem];try rfl,by simp only [go_sem];try rfl,by simp only [go_sem];try rfl,by simp only [go_sem];try rfl,by simp only [go_sem];try rfl,by simp only [go_sem];try rfl⟩ ?_
 rintro ⟨i,l,u⟩ s2 M2 ⟨hi,hl,hu,g15,g16,gm,ga,gb,gc,gx,gz⟩ ho
 dsimp only at hi hl hu g15 g16 gm ga gb gc gx gz
 unfold spec_pl1Cur_machine.b0
 have j0:s2 0=.ptr 0 0 0 none:=by rw [ho 0 rfl];simp only [go_sem]
 have j4:s2 4=.ptr 64 1 0 none:=by rw [ho 4 rfl];simp only [go_sem]
 have j5:s2 5=.ptr 192 129 0 none:=by rw [ho 5 rfl];simp only [go_sem]
 clear ho
 by_cases hlt:(i:Int) < 6
 · have hw:IntKind.i64.wrap ((i:Int)+1)=((i+1:Nat):Int):=by rw [wrap_in (by omega) (by omega)];omega
   obtain ⟨x,u1,hx,ou,fw⟩:=word_ex u (m:=m+252+14 * (6 - (i+1))) (hu.mono (by omega))
   have fa:=spec_pl1Cur_among.fc u1 [0,1,5,x] (by simp) (by simp) (m:=m+250+14 * (6 - (i+1))) (ou.mono (by omega))
   have oa:CurOk (pickC u1 4) (m+250+14 * (6 - (i+1))):=pickC_ok (ou.mono (by omega))
   generalize amongV u1 [0,1,5,x]=y at fa
   have k1:([0]:List Nat).contains 192=false:=rfl
   have k2:([0]:List Nat).contains 128=false:=rfl
   simp only [go_sem,hlt,j0,j4,j5,g15,g16,gm,ga,gb,gc,gx,gz]
   refine coW_c fw ?_
   simp only [go_sem,j0,j4,j5,g15,g16,gm,ga,gb,gc,gx,gz]
   refine coW_c fa ?_
   obtain ⟨z,hgi⟩:∃ z,l[i]? = some z:=⟨_,List.getElem?_eq_getElem (by omega)⟩
   have h6:(i:Int) < ((6:Nat):Int):=by omega
   simp only [go_sem,hw,k1,k2,h6,hgi,j0,j4,j5,g15,g16,gm,ga,gb,gc,gx,gz]
   exact ⟨(i+1,l.set i y,pickC u1 4),by dsimp only;omega,by dsimp only;omega,by simp [hl],oa,by simp only [go_sem,j0,j4,j5,g15,g16,gm,ga,gb,gc,gx,gz],by simp only [go_sem,j0,j4,j5,g15,g16,gm,ga,gb,gc,gx,gz],by simp only [go_sem,j0,j4,j5,g15,g16,gm,ga,gb,gc,gx,gz];try rfl,by simp only [go_sem,List.map_set,j0,j4,j5,g15,g16,gm,ga,gb,gc,gx,gz],by simp only [go_sem,j0,j4,j5,g15,g16,gm,ga,gb,gc,gx,gz],by simp only [go_sem,j0,j4,j5,g15,g16,gm,ga,gb,gc,gx,gz],by simp only [go_sem,j0,j4,j5,g15,g16,gm,ga,gb,gc,gx,gz],by simp only [go_sem,j0,j4,j5,g15,g16,gm,ga,gb,gc,gx,gz]⟩
 · simp only [go_sem,hlt,j0,j4,j5,g15,g16,gm,ga,gb,gc,gx,gz]
   clear hlt
   refine R_loop (α:=Nat×List Int×List Bool×CurD) (fun a s' M'=>a.1≤16∧a.2.1.length=16∧a.2.2.1.length=16∧CurOk a.2.2.2 (m+20+14 * (16 - a.1))∧s' 31=aI 16∧s' 32=aI a.1∧M'.m 0=some (.box 0 (curA a.2.2.2)) ∧
    M'.m 128=some (.arr 65 true 1 (l.map Ii))∧M'.m 129=some (.arr 66 true 1 (a.2.1.map Ii))∧M'.m 130=some (.arr 67 true 1 (a.2.2.1.map Bb)) ∧
    M'.m 192=some (.box 129 (.agg [aI x1,.sl 128 65 0 6 1,.sl 129 66 0 16 1,.sl 130 67 0 16 1]))∧M'.m 64=some (.box 1 (.agg [aI 0,.nil 1,.nil 1,.nil 1]))) (fun a=>16 - a.1) (0,newM.cells,newM.isset,u)
    ⟨by omega,rfl,rfl,hu.mono (by omega),by simp only [go_sem,j0,j4,j5,g15,g16,gm,ga,gb,gc,gx,gz];try rfl,by simp only [go_sem,j0,j4,j5,g15,g16,gm,ga,gb,gc,gx,gz];try rfl,by simp only [go_sem,j0,j4,j5,g15,g16,gm,ga,gb,gc,gx,gz];try rfl,by simp only [go_sem,j0,j4,j5,g15,g16,gm,ga,gb,gc,gx,gz];try rfl,by simp only [go_sem,j0,j4,j5,g15,g16,gm,ga,gb,gc,gx,gz];try rfl,by simp only [go_sem,j0,j4,j5,g15,g16,gm,ga,gb,gc,gx,gz];try rfl,by simp only [go_sem,j0,j4,j5,g15,g16,gm,ga,gb,gc,gx,gz];try rfl,by simp only [go_sem,j0,j4,j5,g15,g16,gm,ga,gb,gc,gx,gz];try rfl⟩ ?_
   rintro ⟨i,e,b,u⟩ s3 M3 ⟨hi,he,hb,hu,g31,g32,gm,ga,gb,gc,gx,gz⟩ ho
   dsimp only at hi he hb hu g31 g32 gm ga gb gc gx gz
   unfold spec_pl1Cur_machine.b1
   have j0:s3 0=.ptr 0 0 0 none:=by rw [ho 0 rfl];simp only [go_sem,j0,j4,j5,g15,g16,gm,ga,gb,gc,gx,gz]
   have j4:s3 4=.ptr 64 1 0 none:=by rw [ho 4 rfl];simp only [go_sem,j0,j4,j5,g15,g16,gm,ga,gb,gc,gx,gz]
   have j5:s3 5=.ptr 192 129 0 none:=by rw [ho 5 rfl];simp only [go_sem,j0,j4,j5,g15,g16,gm,ga,gb,gc,gx,gz]
   clear ho
   by_cases hlt:(i:Int) < 16
   · have hw:IntKind.i64.wrap ((i:Int)+1)=((i+1:Nat):Int):=by rw [wrap_in (by omega) (by omega)];omega
     have fo:=spec_pl1Cur_one.fc u 2 (m:=m+32+14 * (16 - (i+1))) (hu.mono (by omega))
     have oo:CurOk (pickC u 2) (m+32+14 * (16 - (i+1))):=pickC_ok (hu.mono (by omega))
     generalize pickC u 2=u0 at fo oo
     obtain ⟨x,u2,hx,ou,fw⟩:=word_ex u0 (m:=m+20+14 * (16 - (i+1))) (oo.mono (by omega))
     have k1:([0]:List Nat).contains 192=false:=rfl
     have k2:([0]:List Nat).contains 129=false:=rfl
     obtain ⟨z,hgi⟩:∃ z,e[i]? = some z:=⟨_,List.getElem?_eq_getElem (by omega)⟩
     obtain ⟨z2,hg2⟩:∃ z,b[i]? = some z:=⟨_,List.getElem?_eq_getElem (by omega)⟩
     have h6:(i:Int) < ((16:Nat):Int):=by omega
     simp only [go_sem,hlt,j0,j4,j5,g15,g16,gm,ga,gb,gc,gx,gz,j0,j4,j5,g31,g32,gm,ga,gb,gc,gx,gz]
     refine coW_c fo ?_
     cases (pickV u 2 == 0) with
     | false =>
      simp only [go_sem,hw,j0,j4,j5,g15,g16,gm,ga,gb,gc,gx,gz,j0,j4,j5,g31,g32,gm,ga,gb,gc,gx,gz]
      exact ⟨(i+1,e,b,u0),by dsimp only;omega,by dsimp only;omega,he,hb,oo.mono (by omega),by simp only [go_sem,j0,j4,j5,g15,g16,gm,ga,gb,gc,gx,gz,j0,j4,j5,g31,g32,gm,ga,gb,gc,gx,gz],by simp only [go_sem,j0,j4,j5,g15,g16,gm,ga,gb,gc,gx,gz,j0,j4,j5,g31,g32,gm,ga,gb,gc,gx,gz],by simp only [go_sem,j0,j4,j5,g15,g16,gm,ga,gb,gc,gx,gz,j0,j4,j5,g31,g32,gm,ga,gb,gc,gx,gz];try rfl,by simp only [go_sem,j0,j4,j5,g15,g16,gm,ga,gb,gc,gx,gz,j0,j4,j5,g31,g32,gm,ga,gb,gc,gx,gz],by simp only [go_sem,j0,j4,j5,g15,g16,gm,ga,gb,gc,gx,gz,j0,j4,j5,g31,g32,gm,ga,gb,gc,gx,gz],by simp only [go_sem,j0,j4,j5,g15,g16,gm,ga,gb,gc,gx,gz,j0,j4,j5,g31,g32,gm,ga,gb,gc,gx,gz],by simp only [go_sem,j0,j4,j5,g15,g16,gm,ga,gb,gc,gx,gz,j0,j4,j5,g31,g32,gm,ga,gb,gc,gx,gz],by simp only [go_sem,j0,j4,j5,g15,g16,gm,ga,gb,gc,gx,gz,j0,j4,j5,g31,g32,gm,ga,gb,gc,gx,gz]⟩
     | true =>
      simp only [go_sem,j0,j4,j5,g15,g16,gm,ga,gb,gc,gx,gz,j0,j4,j5,g31,g32,gm,ga,gb,gc,gx,gz]
      refine coW_c fw ?_
      simp only [go_sem,hw,k1,k2,h6,hgi,hg2,j0,j4,j5,g15,g16,gm,ga,gb,gc,gx,gz,j0,j4,j5,g31,g32,gm,ga,gb,gc,gx,gz]
      exact ⟨(i+1,e.set i x,b.set i true,u2),by dsimp only;omega,by dsimp only;omega,by simp [he],by simp [hb],ou,by simp only [go_sem,j0,j4,j5,g15,g16,gm,ga,gb,gc,gx,gz,j0,j4,j5,g31,g32,gm,ga,gb,gc,gx,gz],by simp only [go_sem,j0,j4,j5,g15,g16,gm,ga,gb,gc,gx,gz,j0,j4,j5,g31,g32,gm,ga,gb,gc,gx,gz],by simp only [go_sem,j0,j4,j5,g15,g16,gm,ga,gb,gc,gx,gz,j0,j4,j5,g31,g32,gm,ga,gb,gc,gx,gz];try rfl,by simp only [go_sem,j0,j4,j5,g15,g16,gm,ga,gb,gc,gx,gz,j0,j4,j5,g31,g32,gm,ga,gb,gc,gx,gz],by simp only [go_sem,List.map_set,j0,j4,j5,g15,g16,gm,ga,gb,gc,gx,gz,j0,j4,j5,g31,g32,gm,ga,gb,gc,gx,gz],by simp only [go_sem,List.map_set,j0,j4,j5,g15,g16,gm,ga,gb,gc,gx,gz,j0,j4,j5,g31,g32,gm,ga,gb,gc,gx,gz],by simp only [go_sem,j0,j4,j5,g15,g16,gm,ga,gb,gc,gx,gz,j0,j4,j5,g31,g32,gm,ga,gb,gc,gx,gz],by simp only [go_sem,j0,j4,j5,g15,g16,gm,ga,gb,gc,gx,gz,j0,j4,j5,g31,g32,gm,ga,gb,gc,gx,gz]⟩
   · have fo:=spec_pl1Cur_one.fc u 30 (m:=m+18) (hu.mono (by omega))
     have oo:CurOk (pickC u 30) (m+18):=pickC_ok (hu.mono (by omega))
     generalize pickC u 30=u0 at fo oo
     have fa:=spec_pl1Cur_among.fc u0 [-1,65536] (by simp) (by simp) (m:=m+16) oo
     have oa:CurOk (pickC u0 2) (m+16):=pickC_ok oo
     generalize amongV u0 [-1,65536]=y at fa
     have k1:([0]:List Nat).contains 192=false:=rfl
     have k2:([0]:List Nat).contains 128=false:=rfl
     obtain ⟨z,hgi⟩:∃ z,l[0]? = some z:=⟨_,List.getElem?_eq_getElem (by omega)⟩
     have h6:(0:Int) < ((6:Nat):Int):=by omega
     have q6:6≤l.length:=by omega
     have qe:16≤e.length:=by omega
     have qb:16≤b.length:=by omega
     have tl:List.take 6 (List.map Ii l)=List.map Ii l:=List.take_of_length_le (by simp [hl])
     have te:List.take 16 (List.map Ii e)=List.map Ii e:=List.take_of_length_le (by simp [he])
     have tb:List.take 16 (List.map Bb b)=List.map Bb b:=List.take_of_length_le (by simp [hb])
     have ts:List.take 6 ((List.map Ii l).set 0 (Ii y))=List.map Ii (l.set 0 y):=by rw [← List.map_set];exact List.take_of_length_le (by simp [hl])
     have qs:6≤((List.map Ii l).set 0 (Ii y)).length:=by simp [hl]
     simp only [go_sem,hlt,j0,j4,j5,g15,g16,gm,ga,gb,gc,gx,gz,j0,j4,j5,g31,g32,gm,ga,gb,gc,gx,gz]
     refine coW_c fo ?_
     cases (pickV u 30 == 0) with
     | false =>
      simp only [go_sem,q6,qe,qb,tl,te,tb,j0,j4,j5,g15,g16,gm,ga,gb,gc,gx,gz,j0,j4,j5,g31,g32,gm,ga,gb,gc,gx,gz]
      exact ⟨⟨x1,l,e,b⟩,u0,rfl,rfl,hl,he,hb,oo.mono (by omega)⟩
     | true =>
      simp only [go_sem,j0,j4,j5,g15,g16,gm,ga,gb,gc,gx,gz,j0,j4,j5,g31,g32,gm,ga,gb,gc,gx,gz]
      refine coW_c fa ?_
      simp only [go_sem,k1,k2,h6,hgi,qs,qe,qb,ts,te,tb,j0,j4,j5,g15,g16,gm,ga,gb,gc,gx,gz,j0,j4,j5,g31,g32,gm,ga,gb,gc,gx,gz]
      exact ⟨⟨x1,l.set 0 y,e,b⟩,pickC u0 2,rfl,rfl,by simp [hl],he,hb,oa.mono (by omega)⟩
def reduS (s k:Int×Int):Option ((Int×Int)×(Int×Int)) :=
 let lo:=if k.1 > s.1 then k.1 else s.1
 let hi:=if IntKind.i64.wrap (k.1+k.2) < s.2 then IntKind.i64.wrap (k.1+k.2) else s.2
 if lo > hi then none else if lo < hi then some ((lo,hi),k) else if andNotI lo k.2 == k.1 then some ((lo,hi),(lo,0)) else none
def reduD (o:Option ((Int×Int)×(Int×Int))):D:=match o with
 | some r=>.tup [strD r.1,knownD r.2,Bb true]
 | none=>.tup [strD (0,0),knownD (0,0),Bb false]
theorem redu_eq (s k:Int×Int):redu s.1 s.2 k.1 k.2=reduD (reduS s k):=by
 unfold redu reduS reduD
 generalize (if k.1 > s.1 then k.1 else s.1)=lo
 generalize (if IntKind.i64.wrap (k.1+k.2) < s.2 then IntKind.i64.wrap (k.1+k.2) else s.2)=hi
 dsimp only
 split
 · rfl
 · split
   · rfl
   · split<;>rfl
theorem impl_reduceBoth.fcv (s k:Int×Int):FCt prog F_impl_reduceBoth [.ro,.ro] [strD s,knownD k] (reduD (reduS s k)) []:=redu_eq s k▸impl_reduceBoth.fc s.1 s.2 k.1 k.2
theorem spec_l13Reduce.fcv (s k:Int×Int):FCt prog F_spec_l13Reduce [.ro,.ro] [strD s,knownD k] (reduD (reduS s k)) []:=redu_eq s k▸spec_l13Reduce.fc s.1 s.2 k.1 k.2
def putV (s k:Int×Int):(Int×Int)×(Int×Int):=match reduS s k with
 | some r=>r
 | none=>(s,k)
def putM (m:MayD) (i:Int) (r:(Int×Int)×(Int×Int)):MayD:={ m with reg:=m.reg.set i.toNat r.1,bits:=m.bits.set i.toNat r.2 }
theorem putM_len {m:MayD} {i:Int} {r:(Int×Int)×(Int×Int)} (h:MLen m):MLen (putM m i r):=⟨by simp [putM,h.reg],by simp [putM,h.bits],h.cell,h.isset⟩
theorem setSt {l:List (Int×Int)} {i:Nat} {x:Int×Int}:(l.map strD).set i (strD x)=(l.set i x).map strD:=by rw [List.map_set]
theorem setKn {l:List (Int×Int)} {i:Nat} {x:Int×Int}:(l.map knownD).set i (knownD x)=(l.set i x).map knownD:=by rw [List.map_set]
theorem tk_S {n:Nat} {l:List (Int×Int)} (h:l.length=n):(l.map strD).take n=l.map strD:=List.take_of_length_le (by simp [h])
theorem tk_K {n:Nat} {l:List (Int×Int)} (h:l.length=n):(l.map knownD).take n=l.map knownD:=List.take_of_length_le (by simp [h])
theorem noRsL_pMay {m:MayD}:noRsL [.ptr m.d]=true:=by
 show (noRs (.ptr m.d)&&true)=true
 rw [Bool.and_true]
 exact noRs_May
theorem impl_pMay_put.fc (m:MayD) (i:Int) (s k:Int×Int) (hm:MLen m) (h0:0≤i) (h1:i < 6) :
 FCt prog F_impl_pMay_put [.io,.ro,.ro,.ro] [.ptr m.d,Ii i,strD s,knownD k] (.tup []) [.ptr (putM m i (putV s k)).d]:=by
 refine fct_run impl_pMay_put.ok rfl ?_
 obtain ⟨l1,l2,l3,l4⟩:=hm
 have cr:=impl_reduceBoth.fcv s k
 have c6:((6:Nat):Int)=6:=rfl
 have g1:m.reg[i.toNat]? = some (m.reg[i.toNat]'(by omega)):=List.getElem?_eq_getElem (by omega)
 have g2:m.bits[i.toNat]? = some (m.bits[i.toNat]'(by omega)):=List.getElem?_eq_getElem (by omega)
 unfold putM putV
 unfold reduD at cr
 cases hr:reduS s k with
 | none =>
  rw [hr] at cr
  repeat' (first|with_reducible rfl|refine fcW_bd (cr) rfl ?_|with_reducible refine cdW_dec (fun _=>?_) (fun _=>?_)|refine cdW_not (fun _=>?_) (fun _=>?_)|refine cdW_any (fun _=>?_) (fun _=>?_)|with_reducible refine gdW_decT (fun _=>?_) (fun _=>?_)|with_reducible refine gdW_decF (fun _=>?_) (fun _=>?_)|refine gdW_not (fun _=>?_) (fun _=>?_)|refine gdW_any (fun _=>?_) (fun _=>?_)|simp only [go_sem,bne,iQ,iB,iX,Int.reduceLE,iN,iA,iS,iM,setSt,setKn,tk_S,tk_K,tk_B,List.length_set, *]|rfl)
 | some r =>
  rw [hr] at cr
  obtain ⟨r1,r2⟩:=r
  dsimp only at cr
  repeat' (first|with_reducible rfl|refine fcW_bd (cr) rfl ?_|with_reducible refine cdW_dec (fun _=>?_) (fun _=>?_)|refine cdW_not (fun _=>?_) (fun _=>?_)|refine cdW_any (fun _=>?_) (fun _=>?_)|with_reducible refine gdW_decT (fun _=>?_) (fun _=>?_)|with_reducible refine gdW_decF (fun _=>?_) (fun _=>?_)|refine gdW_not (fun _=>?_) (fun _=>?_)|refine gdW_any (fun _=>?_) (fun _=>?_)|simp only [go_sem,bne,iQ,iB,iX,Int.reduceLE,iN,iA,iS,iM,setSt,setKn,tk_S,tk_K,tk_B,List.length_set, *]|rfl)
theorem spec_l13Set.fc (m:MayD) (i:Int) (s k:Int×Int) (hm:MLen m) (h0:0≤i) (h1:i < 6) :
 FCt prog F_spec_l13Set [.co,.ro,.ro,.ro] [m.d,Ii i,strD s,knownD k] (putM m i (putV s k)).d []:=by
 refine fct_run spec_l13Set.ok rfl ?_
 obtain ⟨l1,l2,l3,l4⟩:=hm
 have cr:=spec_l13Reduce.fcv s k
 have c6:((6:Nat):Int)=6:=rfl
 have g1:m.reg[i.toNat]? = some (m.reg[i.toNat]'(by omega)):=List.getElem?_eq_getElem (by omega)
 have g2:m.bits[i.toNat]? = some (m.bits[i.toNat]'(by omega)):=List.getElem?_eq_getElem (by omega)
 unfold putM putV
 unfold reduD at cr
 cases hr:reduS s k with
 | none =>
  rw [hr] at cr
  repeat' (first|with_reducible rfl|refine fcW_bd (cr) rfl ?_|with_reducible refine cdW_dec (fun _=>?_) (fun _=>?_)|refine cdW_not (fun _=>?_) (fun _=>?_)|refine cdW_any (fun _=>?_) (fun _=>?_)|with_reducible refine gdW_decT (fun _=>?_) (fun _=>?_)|with_reducible refine gdW_decF (fun _=>?_) (fun _=>?_)|refine gdW_not (fun _=>?_) (fun _=>?_)|refine gdW_any (fun _=>?_) (fun _=>?_)|simp only [go_sem,bne,iQ,iB,iX,Int.reduceLE,iN,iA,iS,iM,setSt,setKn,tk_S,tk_K,tk_B,List.length_set, *]|rfl)
 | some r =>
  rw [hr] at cr
  obtain ⟨r1,r2⟩:=r
  dsimp only at cr
  repeat' (first|with_reducible rfl|refine fcW_bd (cr) rfl ?_|with_reducible refine cdW_dec (fun _=>?_) (fun _=>?_)|refine cdW_not (fun _=>?_) (fun _=>?_)|refine cdW_any (fun _=>?_) (fun _=>?_)|with_reducible refine gdW_decT (fun _=>?_) (fun _=>?_)|with_reducible refine gdW_decF (fun _=>?_) (fun _=>?_)|refine gdW_not (fun _=>?_) (fun _=>?_)|refine gdW_any (fun _=>?_) (fun _=>?_)|simp only [go_sem,bne,iQ,iB,iX,Int.reduceLE,iN,iA,iS,iM,setSt,setKn,tk_S,tk_K,tk_B,List.length_set, *]|rfl)
set_option maxHeartbeats 32000000
def regS (m:MayD) (i:Int):Int×Int:=m.reg.getD i.toNat (0,0)
def bitS (m:MayD) (i:Int):Int×Int:=m.bits.getD i.toNat (0,0)
def mayV (s:StepD) (m:MayD):MayD×Int :=
 if s.kind == 1 then (putM m s.dst (putV (stI s.op (regS m s.dst) (regS m s.src)) (kdI s.op (bitS m s.dst) (bitS m s.src))),0) else
 if s.kind == 2 then (putM m s.dst (putV (stI s.op (regS m s.dst) (s.imm,s.imm)) (kdI s.op (bitS m s.dst) (s.imm,0))),0) else
 if s.kind == 3 then (putM m s.dst ((s.imm,s.imm),(s.imm,0)),0) else
 if s.kind == 4 then (putM m s.dst ((s.imm,s.imm),(s.imm,0)),0) else
 if s.kind == 5 then (if (regS m s.src).2+s.imm ≥ 8 then (m,1) else (putM m s.dst ((0,255),(0,255)),0)) else
 if s.kind == 7 then (if s.imm ≥ 16 then (m,2) else ({ m with cell:=m.cell.set s.imm.toNat (regS m s.dst),isset:=m.isset.set s.imm.toNat true },0)) else
 if s.kind == 6 then (if s.imm ≥ 16 then (m,2) else if m.isset.getD s.imm.toNat false then (putM m s.dst (putV (m.cell.getD s.imm.toNat (0,0)) (0,65535)),0) else (m,3)) else
 (m,0)
theorem putV_const {n:Int} (h:0≤n∧n≤65535):putV (n,n) (n,0)=((n,n),(n,0)):=by
 have e:andNotI n 0=n:=by
  have hn:wd n:=h
  rw [andNotI_nat hn.nn ⟨by decide,by decide⟩]
  simp
  omega
 have hw:IntKind.i64.wrap (n+0)=n:=by rw [Int.add_zero];exact wrap_in (by omega) (by omega)
 unfold putV reduS
 dsimp only
 rw [hw]
 simp [e]
theorem putV_byte:putV (0,255) (0,255)=((0,255),(0,255)):=by decide
theorem kOk_const {n:Int} (h:0≤n∧n≤65535):KOk (n,0):=by
 refine ⟨h,(⟨by decide,by decide⟩:wd 0),?_⟩
 have hn:wd n:=h
 show andI n 0=0
 rw [andI_nat hn.nn ⟨by decide,by decide⟩];simp
theorem sOk_const {n:Int} (h:0≤n∧n≤65535):SOk (n,n):=⟨h.1,Int.le_refl _,h.2⟩
theorem setAg {l:List (Int×Int)} {i:Nat} {a b:Int}:(l.map strD).set i (D.agg [D.int .i64 a,D.int .i64 b])=(l.set i (a,b)).map strD:=by rw [List.map_set]
def MayZ (m:MayD) (f:Int):MayD:=if f == 0 then m else zeroM
theorem impl_stepMay.fc (s:StepD) (m:MayD) (hm:MayOk m) (hv:stepB s=true) :
 FCt prog F_impl_stepMay [.ro,.ro] [s.d,m.d] (.tup [(MayZ (mayV s m).1 (mayV s m).2).d,Ii (mayV s m).2]) []:=by
 refine fct_run impl_stepMay.ok rfl ?_
 have ok:=step_ok hv
 have kd:=valid_kind (.inr hv)
 have ln:=hm.len
 have co:=impl_May_own.fc m ln
 obtain ⟨l1,l2,l3,l4,gr,gb,gc⟩:=hm
 obtain ⟨k,op,dst,src,imm,to⟩:=s
 obtain ⟨_,od,os,oi,oo,ot,_,_⟩:=ok
 dsimp only at *
 have c6:((6:Nat):Int)=6:=rfl
 have c16:((16:Nat):Int)=16:=rfl
 have od1:=od.1
 have od2:dst < 6:=by omega
 have os1:=os.1
 have os2:src < 6:=by omega
 have i0:0≤imm:=oi.1
 have q1:m.reg[dst.toNat]? = some (regS m dst):=getD_some (by omega)
 have q2:m.reg[src.toNat]? = some (regS m src):=getD_some (by omega)
 have q3:m.bits[dst.toNat]? = some (bitS m dst):=getD_some (by omega)
 have q4:m.bits[src.toNat]? = some (bitS m src):=getD_some (by omega)
 have sd:=gS_ok (gr _ (List.mem_of_getElem? q1))
 have ss:=gS_ok (gr _ (List.mem_of_getElem? q2))
 have kd1:=gK_ok (gb _ (List.mem_of_getElem? q3))
 have ks:=gK_ok (gb _ (List.mem_of_getElem? q4))
 have sc:=sOk_const oi
 have kc:=kOk_const oi
 have w5:IntKind.i64.wrap ((regS m src).2+imm)=(regS m src).2+imm:=by have:=ss.hi;have:=ss.lo;have:=ss.le;exact wrap_in (by omega) (by omega)
 have h6:¬ imm ≥ 16→m.cell[imm.toNat]? = some (m.cell.getD imm.toNat (0,0)):=fun h=>getD_some (by omega)
 have h7:¬ imm ≥ 16→m.isset[imm.toNat]? = some (m.isset.getD imm.toNat false):=fun h=>getD_some (by omega)
 have b6:¬ imm ≥ 16→imm < 16:=fun h=>by omega
 have cs:=impl_stretched.fc op (regS m dst) (regS m src) sd ss
 have ck:=impl_doKnown.fc op (bitS m dst) (bitS m src) kd1 ks
 have cs2:=impl_stretched.fc op (regS m dst) (imm,imm) sd sc
 have ck2:=impl_doKnown.fc op (bitS m dst) (imm,0) kd1 kc
 have cp:=fun s k=>impl_pMay_put.fc m dst s k ln od1 od2
 have hp:=fun r=>putM_len (m:=m) (i:=dst) (r:=r) ln
 have pl1:=fun r=>(hp r).reg
 have pl2:=fun r=>(hp r).bits
 have pl3:=fun r=>(hp r).cell
 have pl4:=fun r=>(hp r).isset
 clear hp gr gb gc sd ss kd1 ks sc kc
 unfold mayV MayZ zeroM
 rcases kd with rfl|rfl|rfl|rfl|rfl|rfl|rfl|rfl|rfl|rfl|rfl
 · clear h6 h7 b6
   repeat' (first|with_reducible rfl|refine fcW_bd (co) (noRs_May) ?_|refine fcW_bd (cs) rfl ?_|refine fcW_bd (ck) rfl ?_|refine coW_of (cp _ _) (rfl) (noRsL_pMay) ?_|with_reducible refine cdW_dec (fun _=>?_) (fun _=>?_)|refine cdW_not (fun _=>?_) (fun _=>?_)|refine cdW_any (fun _=>?_) (fun _=>?_)|with_reducible refine gdW_decT (fun _=>?_) (fun _=>?_)|with_reducible refine gdW_decF (fun _=>?_) (fun _=>?_)|refine gdW_not (fun _=>?_) (fun _=>?_)|refine gdW_any (fun _=>?_) (fun _=>?_)|simp only [go_sem,bne,iQ,iB,iX,Int.reduceLE,iN,iA,iS,iM,setAg,setSt,setKn,setBb,tk_S,tk_K,tk_B,take_map_len,List.length_set, *]|rfl)
 · clear h6 h7 b6
   repeat' (first|with_reducible rfl|refine fcW_bd (co) (noRs_May) ?_|refine fcW_bd (cs2) rfl ?_|refine fcW_bd (impl_exact.fc imm) rfl ?_|refine fcW_bd (ck2) rfl ?_|refine coW_of (cp _ _) (rfl) (noRsL_pMay) ?_|with_reducible refine cdW_dec (fun _=>?_) (fun _=>?_)|refine cdW_not (fun _=>?_) (fun _=>?_)|refine cdW_any (fun _=>?_) (fun _=>?_)|with_reducible refine gdW_decT (fun _=>?_) (fun _=>?_)|with_reducible refine gdW_decF (fun _=>?_) (fun _=>?_)|refine gdW_not (fun _=>?_) (fun _=>?_)|refine gdW_any (fun _=>?_) (fun _=>?_)|simp only [go_sem,bne,iQ,iB,iX,Int.reduceLE,iN,iA,iS,iM,setAg,setSt,setKn,setBb,tk_S,tk_K,tk_B,take_map_len,List.length_set, *]|rfl)
 · clear h6 h7 b6
   repeat' (first|with_reducible rfl|refine fcW_bd (co) (noRs_May) ?_|refine fcW_bd (impl_exact.fc imm) rfl ?_|with_reducible refine cdW_dec (fun _=>?_) (fun _=>?_)|refine cdW_not (fun _=>?_) (fun _=>?_)|refine cdW_any (fun _=>?_) (fun _=>?_)|with_reducible refine gdW_decT (fun _=>?_) (fun _=>?_)|with_reducible refine gdW_decF (fun _=>?_) (fun _=>?_)|refine gdW_not (fun _=>?_) (fun _=>?_)|refine gdW_any (fun _=>?_) (fun _=>?_)|simp only [go_sem,bne,iQ,iB,iX,Int.reduceLE,iN,iA,iS,iM,setAg,setSt,setKn,setBb,tk_S,tk_K,tk_B,take_map_len,List.length_set, *]|rfl)
 · clear h6 h7 b6
   repeat' (first|with_reducible rfl|refine fcW_bd (co) (noRs_May) ?_|refine fcW_bd (impl_exact.fc imm) rfl ?_|with_reducible refine cdW_dec (fun _=>?_) (fun _=>?_)|refine cdW_not (fun _=>?_) (fun _=>?_)|refine cdW_any (fun _=>?_) (fun _=>?_)|with_reducible refine gdW_decT (fun _=>?_) (fun _=>?_)|with_reducible refine gdW_decF (fun _=>?_) (fun _=>?_)|refine gdW_not (fun _=>?_) (fun _=>?_)|refine gdW_any (fun _=>?_) (fun _=>?_)|simp only [go_sem,bne,iQ,iB,iX,Int.reduceLE,iN,iA,iS,iM,setAg,setSt,setKn,setBb,tk_S,tk_K,tk_B,take_map_len,List.length_set, *]|rfl)
 · clear h6 h7 b6
   by_cases h:(regS m src).2+imm ≥ 8
   · repeat' (first|with_reducible rfl|refine fcW_bd (co) (noRs_May) ?_|with_reducible refine cdW_dec (fun _=>?_) (fun _=>?_)|refine cdW_not (fun _=>?_) (fun _=>?_)|refine cdW_any (fun _=>?_) (fun _=>?_)|with_reducible refine gdW_decT (fun _=>?_) (fun _=>?_)|with_reducible refine gdW_decF (fun _=>?_) (fun _=>?_)|refine gdW_not (fun _=>?_) (fun _=>?_)|refine gdW_any (fun _=>?_) (fun _=>?_)|simp only [go_sem,bne,iQ,iB,iX,Int.reduceLE,iN,iA,iS,iM,setAg,setSt,setKn,setBb,tk_S,tk_K,tk_B,take_map_len,List.length_set, *]|rfl)
   · repeat' (first|with_reducible rfl|refine fcW_bd (co) (noRs_May) ?_|with_reducible refine cdW_dec (fun _=>?_) (fun _=>?_)|refine cdW_not (fun _=>?_) (fun _=>?_)|refine cdW_any (fun _=>?_) (fun _=>?_)|with_reducible refine gdW_decT (fun _=>?_) (fun _=>?_)|with_reducible refine gdW_decF (fun _=>?_) (fun _=>?_)|refine gdW_not (fun _=>?_) (fun _=>?_)|refine gdW_any (fun _=>?_) (fun _=>?_)|simp only [go_sem,bne,iQ,iB,iX,Int.reduceLE,iN,iA,iS,iM,setAg,setSt,setKn,setBb,tk_S,tk_K,tk_B,take_map_len,List.length_set, *]|rfl)
 · by_cases h:imm ≥ 16
   · clear h6 h7 b6
     repeat' (first|with_reducible rfl|refine fcW_bd (co) (noRs_May) ?_|with_reducible refine cdW_dec (fun _=>?_) (fun _=>?_)|refine cdW_not (fun _=>?_) (fun _=>?_)|refine cdW_any (fun _=>?_) (fun _=>?_)|with_reducible refine gdW_decT (fun _=>?_) (fun _=>?_)|with_reducible refine gdW_decF (fun _=>?_) (fun _=>?_)|refine gdW_not (fun _=>?_) (fun _=>?_)|refine gdW_any (fun _=>?_) (fun _=>?_)|simp only [go_sem,bne,iQ,iB,iX,Int.reduceLE,iN,iA,iS,iM,setAg,setSt,setKn,setBb,tk_S,tk_K,tk_B,take_map_len,List.length_set, *]|rfl)
   · have h6:=h6 h
     have h7:=h7 h
     have b6:=b6 h
     cases hq:m.isset.getD imm.toNat false<;>rw [hq] at h7
     · repeat' (first|with_reducible rfl|refine fcW_bd (co) (noRs_May) ?_|with_reducible refine cdW_dec (fun _=>?_) (fun _=>?_)|refine cdW_not (fun _=>?_) (fun _=>?_)|refine cdW_any (fun _=>?_) (fun _=>?_)|with_reducible refine gdW_decT (fun _=>?_) (fun _=>?_)|with_reducible refine gdW_decF (fun _=>?_) (fun _=>?_)|refine gdW_not (fun _=>?_) (fun _=>?_)|refine gdW_any (fun _=>?_) (fun _=>?_)|simp only [go_sem,bne,iQ,iB,iX,Int.reduceLE,iN,iA,iS,iM,setAg,setSt,setKn,setBb,tk_S,tk_K,tk_B,take_map_len,List.length_set, *]|rfl)
     · repeat' (first|with_reducible rfl|refine fcW_bd (co) (noRs_May) ?_|refine fcW_bd (impl_unknown.fc) rfl ?_|refine coW_of (cp _ (0,65535)) (rfl) (noRsL_pMay) ?_|with_reducible refine cdW_dec (fun _=>?_) (fun _=>?_)|refine cdW_not (fun _=>?_) (fun _=>?_)|refine cdW_any (fun _=>?_) (fun _=>?_)|with_reducible refine gdW_decT (fun _=>?_) (fun _=>?_)|with_reducible refine gdW_decF (fun _=>?_) (fun _=>?_)|refine gdW_not (fun _=>?_) (fun _=>?_)|refine gdW_any (fun _=>?_) (fun _=>?_)|simp only [go_sem,bne,iQ,iB,iX,Int.reduceLE,iN,iA,iS,iM,setAg,setSt,setKn,setBb,tk_S,tk_K,tk_B,take_map_len,List.length_set, *]|rfl)
 · by_cases h:imm ≥ 16
   · clear h6 h7 b6
     repeat' (first|with_reducible rfl|refine fcW_bd (co) (noRs_May) ?_|with_reducible refine cdW_dec (fun _=>?_) (fun _=>?_)|refine cdW_not (fun _=>?_) (fun _=>?_)|refine cdW_any (fun _=>?_) (fun _=>?_)|with_reducible refine gdW_decT (fun _=>?_) (fun _=>?_)|with_reducible refine gdW_decF (fun _=>?_) (fun _=>?_)|refine gdW_not (fun _=>?_) (fun _=>?_)|refine gdW_any (fun _=>?_) (fun _=>?_)|simp only [go_sem,bne,iQ,iB,iX,Int.reduceLE,iN,iA,iS,iM,setAg,setSt,setKn,setBb,tk_S,tk_K,tk_B,take_map_len,List.length_set, *]|rfl)
   · have h6:=h6 h
     have h7:=h7 h
     have b6:=b6 h
     repeat' (first|with_reducible rfl|refine fcW_bd (co) (noRs_May) ?_|with_reducible refine cdW_dec (fun _=>?_) (fun _=>?_)|refine cdW_not (fun _=>?_) (fun _=>?_)|refine cdW_any (fun _=>?_) (fun _=>?_)|with_reducible refine gdW_decT (fun _=>?_) (fun _=>?_)|with_reducible refine gdW_decF (fun _=>?_) (fun _=>?_)|refine gdW_not (fun _=>?_) (fun _=>?_)|refine gdW_any (fun _=>?_) (fun _=>?_)|simp only [go_sem,bne,iQ,iB,iX,Int.reduceLE,iN,iA,iS,iM,setAg,setSt,setKn,setBb,tk_S,tk_K,tk_B,take_map_len,List.length_set, *]|rfl)
 · clear h6 h7 b6
   repeat' (first|with_reducible rfl|refine fcW_bd (co) (noRs_May) ?_|with_reducible refine cdW_dec (fun _=>?_) (fun _=>?_)|refine cdW_not (fun _=>?_) (fun _=>?_)|refine cdW_any (fun _=>?_) (fun _=>?_)|with_reducible refine gdW_decT (fun _=>?_) (fun _=>?_)|with_reducible refine gdW_decF (fun _=>?_) (fun _=>?_)|refine gdW_not (fun _=>?_) (fun _=>?_)|refine gdW_any (fun _=>?_) (fun _=>?_)|simp only [go_sem,bne,iQ,iB,iX,Int.reduceLE,iN,iA,iS,iM,setAg,setSt,setKn,setBb,tk_S,tk_K,tk_B,take_map_len,List.length_set, *]|rfl)
 · clear h6 h7 b6
   repeat' (first|with_reducible rfl|refine fcW_bd (co) (noRs_May) ?_|with_reducible refine cdW_dec (fun _=>?_) (fun _=>?_)|refine cdW_not (fun _=>?_) (fun _=>?_)|refine cdW_any (fun _=>?_) (fun _=>?_)|with_reducible refine gdW_decT (fun _=>?_) (fun _=>?_)|with_reducible refine gdW_decF (fun _=>?_) (fun _=>?_)|refine gdW_not (fun _=>?_) (fun _=>?_)|refine gdW_any (fun _=>?_) (fun _=>?_)|simp only [go_sem,bne,iQ,iB,iX,Int.reduceLE,iN,iA,iS,iM,setAg,setSt,setKn,setBb,tk_S,tk_K,tk_B,take_map_len,List.length_set, *]|rfl)
 · clear h6 h7 b6
   repeat' (first|with_reducible rfl|refine fcW_bd (co) (noRs_May) ?_|with_reducible refine cdW_dec (fun _=>?_) (fun _=>?_)|refine cdW_not (fun _=>?_) (fun _=>?_)|refine cdW_any (fun _=>?_) (fun _=>?_)|with_reducible refine gdW_decT (fun _=>?_) (fun _=>?_)|with_reducible refine gdW_decF (fun _=>?_) (fun _=>?_)|refine gdW_not (fun _=>?_) (fun _=>?_)|refine gdW_any (fun _=>?_) (fun _=>?_)|simp only [go_sem,bne,iQ,iB,iX,Int.reduceLE,iN,iA,iS,iM,setAg,setSt,setKn,setBb,tk_S,tk_K,tk_B,take_map_len,List.length_set, *]|rfl)
 · clear h6 h7 b6
   repeat' (first|with_reducible rfl|refine fcW_bd (co) (noRs_May) ?_|with_reducible refine cdW_dec (fun _=>?_) (fun _=>?_)|refine cdW_not (fun _=>?_) (fun _=>?_)|refine cdW_any (fun _=>?_) (fun _=>?_)|with_reducible refine gdW_decT (fun _=>?_) (fun _=>?_)|with_reducible refine gdW_decF (fun _=>?_) (fun _=>?_)|refine gdW_not (fun _=>?_) (fun _=>?_)|refine gdW_any (fun _=>?_) (fun _=>?_)|simp only [go_sem,bne,iQ,iB,iX,Int.reduceLE,iN,iA,iS,iM,setAg,setSt,setKn,setBb,tk_S,tk_K,tk_B,take_map_len,List.length_set, *]|rfl)
end Go.Vm.YtmbhjcgikblpiaaGreat
