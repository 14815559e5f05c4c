import Derived.Test.YtigjhfijkdlldaaDoorSliSa
namespace Go.Proofs.YtigjhfijkdlldaaDoor.H
open Go.RowKit Go.Proofs.YtigjhfijkdlldaaDoorW.PrintWords Go.Proofs.YtigjhfijkdlldaaDoorW.PrintLast Go.Proofs.YtigjhfijkdlldaaDoorW.PrintMore Go.Proofs.YtigjhfijkdlldaaDoor.Q
set_option linter.unusedVariables false
set_option linter.unusedSimpArgs false
section
def digitB (s:ByteArray):Int:=if s.size=1 then(if 48≤bt s 0 then(if bt s 0≤57 then bt s 0 - 48 else -1)else -1)else -1
theorem l5Digit_c {w:World} {s:ByteArray}:Calls Tryd.prog 19 #[.string s] w fun e w'=>e=.returned (.int .i64 (digitB s))∧w'=w:=by
  have HB:=AK (show ∀h:0<s.size,bt s 0=((s[0]'h).toNat:Int)from fun h=>(bt_at s 0 h).symm)
  by_cases h1:s.size=1
  · have H1:=AK h1
    have c1:((s.size:Int) == 1)=true:=by simp[h1]
    have c1b:=eq_true h1
    have c2:=eq_true (show 0<s.size by omega)
    clear h1
    go_enter Tryd.func19,Tryd.ntmps19
    go_wp2
    all_goals
      go_ret
      refine⟨congrArg (fun v=>Ending.returned (Value.int .i64 v)) ?_,rfl⟩
      unfold digitB
      rw[if_pos H1.out,HB.out (by have:=H1.out;omega)]
      repeat' split
      all_goals omega
  · have c1:((s.size:Int) == 1)=false:=by simp;omega
    have c1b:=eq_false h1
    have e:digitB s=-1:=by unfold digitB;rw[if_neg h1]
    rw[e]
    clear h1 e
    go_enter Tryd.func19,Tryd.ntmps19
    go_wp2
    go_ret
    exact⟨rfl,rfl⟩
theorem wr_in {x:Int} (h0:-9223372036854775808≤x) (h1:x≤9223372036854775807):wrap64 x=x:=by unfold wrap64;omega
theorem own_one {W:World} {base:Nat} {ok:Nat→Prop} {v:Value} {y:List Int} (h:Kd.R (Kd.int .u8) 5 W base ok v y):(convert 24 9 v).run Tryd.prog W=.ok (.string (strOfNums y)) W:=
  own_string (P:=Tryd.prog) Tryd.underlying24 Tryd.underlying5 Tryd.underlying9 (Kd.own_of_R h)
def decB (n:Nat):ByteArray:=if n<10 then strOfNums [48+(n:Int)]else strOfNums [48+((n / 10:Nat):Int)]++strOfNums [48+((n % 10:Nat):Int)]
set_option maxRecDepth 100000 in
theorem l5Dec1_c {w:World} {n:Int} (h0:0≤n) (h:n<10):Calls Tryd.prog 11 #[.int .i64 n] w fun e w'=>e=.returned (.string (strOfNums [48+n]))∧Below w.heap.size w w':=by
  have c1:decide (n<10)=true:=deT h
  have c2:=eq_true h
  obtain⟨y,ey⟩:∃y,y=[wrap64 (48+n) % 256]:=⟨_,rfl⟩
  have hy:[48+n]=y:=by rw[ey,show wrap64 (48+n) % 256=48+n by unfold wrap64;omega]
  rw[hy]
  have EY:=AK ey
  clear h h0 ey hy
  go_enter Tryd.func11,Tryd.ntmps11
  go_wp2_with ((with_reducible refine gate_dst (N:=8) rfl ?_);refine Kd.R_lit (Kd.int .u8) (w0:=w) (World.heap w).size 5 ?hg (N:=8) ?hd (xs:=([wrap64 (48+n) % 256]:List Int)) (inner:=[.int .u8 (wrap64 (48+n) % 256)]) (ok:=fun _=>True) (okp:=fun _=>True) ?hr ?hp (fun _ hk=>hk) trivial (Below.refl _ _) (Nat.le_refl _) (by simp) ?_;(case hd=>rfl);(case hg=>rfl);(case hr=>first|(go_simp;done)|(go_simp;rfl));(case hp=>exact(Reps.one (show Kd.M (Kd.int .u8) _ _ _ (wrap64 (48+n) % 256) [.int .u8 (wrap64 (48+n) % 256)]from rfl) (Reps.none _ _)));intro v8 w6 ho hb hg hn;rw[←EY.out]at ho;have HB6:=AK hb;clear hg hn hb;have hcv:=own_one ho)
  go_ret
  exact⟨rfl,HB6.out⟩
theorem dec3_tab:rtab .any (opsOf Tryd.f11 3)=(true,[([],[]),([0],[0]),([1],[1]),([],[]),([3],[3]),([4],[4]),([5],[5]),([6],[6]),([7],[7]),([2,8],[2,8]),([9,2,0,1,2,3,4,5,6,7,8,9],[9])]):=by kernel_rfl
theorem dec3_bits:waitsOk [([],[]),([0],[0]),([1],[1]),([],[]),([3],[3]),([4],[4]),([5],[5]),([6],[6]),([7],[7]),([2,8],[2,8]),([9,2,0,1,2,3,4,5,6,7,8,9],[9])] [0,1,3,0,8,24,56,120,248,511,1023]=true:=by kernel_rfl
set_option maxHeartbeats 1000000 in
set_option maxRecDepth 100000 in
theorem l5Dec2_c {w:World} {n:Nat} (h0:10≤n) (h:n<100):Calls Tryd.prog 11 #[.int .i64 (n:Int)] w fun e w'=>e=.returned (.string (decB n))∧Below w.heap.size w w':=by
  have c1:decide ((n:Int)<10)=false:=deF (by omega)
  have c2:=eq_false (show ¬ n<10 by omega)
  have HN:=AK (show 10≤n∧n<100 from⟨h0,h⟩)
  have HB:=AK (below_drew1 (Below.refl w.heap.size w))
  obtain⟨m1,hm1⟩:∃m,wrap64 ((n:Int) / 10)=m:=⟨_,rfl⟩
  obtain⟨m2,hm2⟩:∃m,(n:Int).tmod 10=m:=⟨_,rfl⟩
  obtain⟨x,hx⟩:∃x,IntKind.u8.wrap (wrap64 (48+m2))=x:=⟨_,rfl⟩
  have e1:m1=((n / 10:Nat):Int):=by rw[←hm1,wr_in (by omega) (by omega)];omega
  have e2:m2=((n % 10:Nat):Int):=by rw[←hm2,Int.tmod_eq_emod_of_nonneg (by omega)];omega
  have e3:x=48+m2:=by
    rw[←hx,wr_in (by omega) (by omega)]
    show (48+m2) % 256=48+m2
    omega
  have HM:=AK (show 0≤m1∧m1<10 from⟨by omega,by omega⟩)
  obtain⟨r,er⟩:∃r,r=decB n:=⟨_,rfl⟩
  have ER:=AK (show r=strOfNums [48+m1]++strOfNums [x]from by
    rw[er];unfold decB;rw[if_neg (by omega),e1,e3,e2])
  rw[←er]
  obtain⟨ya,eya⟩:∃y,y=strOfNums [48+m1]:=⟨_,rfl⟩
  obtain⟨yb,eyb⟩:∃y,y=strOfNums [x]:=⟨_,rfl⟩
  have EYA:=AK eya
  have EYB:=AK eyb
  have sa:ya.size=1:=by rw[eya,strOfNums_size];rfl
  have sb:yb.size=1:=by rw[eyb,strOfNums_size];rfl
  have k0:=eq_true (show ya.size+yb.size≤9223372036854775807 by omega)
  have k1:decide (ya.size+yb.size≤9223372036854775807)=true:=deT (by omega)
  have k2:=eq_false (show ¬ 9223372036854775807<ya.size+yb.size by omega)
  clear h h0 e1 e2 e3 er eya eyb sa sb
  go_enter Tryd.func11,Tryd.ntmps11
  go_upto_region 3 with fail
  clear c1 c2
  refine start_ (n:=11) (S:=(fun _=>True)) (ds:=[]) #[fF,fF,fF,fF,fF,fF,fF,fF,fF,fF,fF] (by kernel_rfl) rfl rfl trivial (fun hHeld=>?_);refine with_tabW dec3_tab dec3_bits (fun HT_ HW_=>?_)
  generalize World.drew w=vv at HB hHeld ⊢
  refine pU HT_ 0 (some 10) (bM 11 1) ?_
  refine pU HT_ 1 (some 11) (bM 11 3) ?_
  refine pU HT_ 3 (some 13) (bM 11 11) ?_
  refine pU HT_ 4 (some 14) (bM 11 27) ?_
  refine pU HT_ 5 (some 15) (bM 11 59) ?_
  refine pU HT_ 6 (some 16) (bM 11 123) ?_
  refine two_ (i:=2) (j:=7) (Ni:=some 12) (Nj:=some 17) (bM 11 127) (bM 11 251) rfl rfl rfl rfl (two_of HT_.out (by kernel_rfl)) (by decide) (by decide) (fun K hK=>?_) (fun K hK=>?_)
  · skip
    refine goes_ Tryd.func11 (by kernel_rfl) rfl #[.int .i64 (wrap64 ((n:Int) / 10))] (by rfl) rfl rfl zI ?_
    rw[hm1]
    refine(l5Dec1_c (n:=m1) HM.out.1 HM.out.2).mono ?_
    rintro en vv ⟨rfl,hb⟩
    rw[←EYA.out]
    refine⟨_,rfl,?_⟩
    replace HB:=AK (bst HB.out hb)
    clear hb
    refine hK.out _ _ trivial (fun hHeld=>?_)
    clear hK K
    refine nO (some 12) ?_
    refine one_ (i:=7) (N:=some 17) (bM 11 255) rfl rfl (one_of HT_.out (by kernel_rfl)) (by decide) (fun K hK=>?_)
    refine Kd.R_lit_step (Kd.int .u8) (w0:=vv) (World.heap vv).size 5 (by rfl) (N:=17) ?hd (xs:=[x]) (inner:=[.int .u8 x]) (ok:=fun _=>True) (okp:=fun _=>True) ?hr ?hp (fun _ hk=>hk) trivial (Below.refl _ _) (Nat.le_refl _) (by simp) ?_;(case hd=>rfl);(case hr=>first|(go_simp;done)|(go_simp;rfl));(case hp=>exact(Reps.one (show Kd.M (Kd.int .u8) _ _ _ x [.int .u8 x]from rfl) (Reps.none _ _)))
    intro v17 vv ho hb hg hn
    have HO:=AK ho
    replace HB:=AK (bst HB.out hb)
    clear ho hb hg hn
    refine hK.out _ _ trivial (fun hHeld=>?_)
    clear hK K
    refine nO (some 17) ?_
    refine one_ (i:=8) (N:=some 18) (bM 11 511) rfl rfl (one_of HT_.out (by kernel_rfl)) (by decide) (fun K hK=>?_)
    have hcv:=own_one HO.out
    rw[←EYB.out]at hcv
    refine value_ (v:=.string yb) (w1:=vv) (by rfl) rfl ?hr ?_;(case hr=>first|(go_simp;done)|(go_simp;rfl))
    clear hcv
    refine hK.out _ _ trivial (fun hHeld=>?_)
    clear hK K
    refine nO (some 18) ?_
    refine pU HT_ 9 (some 19) (bM 11 1023) ?_
    refine pU HT_ 10 (some 2) (bM 11 2047) ?_
    refine done_ (done_of HT_.out (by kernel_rfl)) ?_
    clear HT_ HW_ hHeld
    rw[←EYA.out,←EYB.out]at ER
    have ER2:=ER.out
    go_wp2
    go_ret
    exact⟨by rw[ER2];rfl,HB.out⟩
  · skip
    refine Kd.R_lit_step (Kd.int .u8) (w0:=vv) (World.heap vv).size 5 (by rfl) (N:=17) ?hd (xs:=[x]) (inner:=[.int .u8 x]) (ok:=fun _=>True) (okp:=fun _=>True) ?hr ?hp (fun _ hk=>hk) trivial (Below.refl _ _) (Nat.le_refl _) (by simp) ?_;(case hd=>rfl);(case hr=>first|(go_simp;done)|(go_simp;rfl));(case hp=>exact(Reps.one (show Kd.M (Kd.int .u8) _ _ _ x [.int .u8 x]from rfl) (Reps.none _ _)))
    intro v17 vv ho hb hg hn
    have HO:=AK ho
    replace HB:=AK (bst HB.out hb)
    clear ho hb hg hn
    refine hK.out _ _ trivial (fun hHeld=>?_)
    clear hK K
    refine nO (some 17) ?_
    refine two_ (i:=2) (j:=8) (Ni:=some 12) (Nj:=some 18) (bM 11 255) (bM 11 507) rfl rfl rfl rfl (two_of HT_.out (by kernel_rfl)) (by decide) (by decide) (fun K hK=>?_) (fun K hK=>?_)
    · skip
      refine goes_ Tryd.func11 (by kernel_rfl) rfl #[.int .i64 (wrap64 ((n:Int) / 10))] (by rfl) rfl rfl zI ?_
      rw[hm1]
      refine(l5Dec1_c (n:=m1) HM.out.1 HM.out.2).mono ?_
      rintro en vv ⟨rfl,hb⟩
      rw[←EYA.out]
      refine⟨_,rfl,?_⟩
      replace HB:=AK (bst HB.out hb)
      replace HO:=AK (Kd.R_below HO.out hb)
      clear hb
      refine hK.out _ _ trivial (fun hHeld=>?_)
      clear hK K
      refine nO (some 12) ?_
      refine one_ (i:=8) (N:=some 18) (bM 11 511) rfl rfl (one_of HT_.out (by kernel_rfl)) (by decide) (fun K hK=>?_)
      have hcv:=own_one HO.out
      rw[←EYB.out]at hcv
      refine value_ (v:=.string yb) (w1:=vv) (by rfl) rfl ?hr ?_;(case hr=>first|(go_simp;done)|(go_simp;rfl))
      clear hcv
      refine hK.out _ _ trivial (fun hHeld=>?_)
      clear hK K
      refine nO (some 18) ?_
      refine pU HT_ 9 (some 19) (bM 11 1023) ?_
      refine pU HT_ 10 (some 2) (bM 11 2047) ?_
      refine done_ (done_of HT_.out (by kernel_rfl)) ?_
      clear HT_ HW_ hHeld
      rw[←EYA.out,←EYB.out]at ER
      have ER2:=ER.out
      go_wp2
      go_ret
      exact⟨by rw[ER2];rfl,HB.out⟩
    · skip
      have hcv:=own_one HO.out
      rw[←EYB.out]at hcv
      refine value_ (v:=.string yb) (w1:=vv) (by rfl) rfl ?hr ?_;(case hr=>first|(go_simp;done)|(go_simp;rfl))
      clear hcv
      refine hK.out _ _ trivial (fun hHeld=>?_)
      clear hK K
      refine nO (some 18) ?_
      refine one_ (i:=2) (N:=some 12) (bM 11 511) rfl rfl (one_of HT_.out (by kernel_rfl)) (by decide) (fun K hK=>?_)
      refine goes_ Tryd.func11 (by kernel_rfl) rfl #[.int .i64 (wrap64 ((n:Int) / 10))] (by rfl) rfl rfl zI ?_
      rw[hm1]
      refine(l5Dec1_c (n:=m1) HM.out.1 HM.out.2).mono ?_
      rintro en vv ⟨rfl,hb⟩
      rw[←EYA.out]
      refine⟨_,rfl,?_⟩
      replace HB:=AK (bst HB.out hb)
      replace HO:=AK (Kd.R_below HO.out hb)
      clear hb
      refine hK.out _ _ trivial (fun hHeld=>?_)
      clear hK K
      refine nO (some 12) ?_
      refine pU HT_ 9 (some 19) (bM 11 1023) ?_
      refine pU HT_ 10 (some 2) (bM 11 2047) ?_
      refine done_ (done_of HT_.out (by kernel_rfl)) ?_
      clear HT_ HW_ hHeld
      rw[←EYA.out,←EYB.out]at ER
      have ER2:=ER.out
      go_wp2
      go_ret
      exact⟨by rw[ER2];rfl,HB.out⟩
theorem l5Dec_c {w:World} {n:Nat} (h:n<100):Calls Tryd.prog 11 #[.int .i64 (n:Int)] w fun e w'=>e=.returned (.string (decB n))∧Below w.heap.size w w':=by
  by_cases c:n<10
  · unfold decB
    rw[if_pos c]
    exact l5Dec1_c (by omega) (by omega)
  · exact l5Dec2_c (by omega) h
theorem decB_size (n:Nat):(decB n).size≤2:=by
  unfold decB
  split
  · rw[strOfNums_size];simp
  · rw[ByteArray.size_append,strOfNums_size,strOfNums_size];simp
end
section
theorem info9:(Tryd.prog.info? 9).map (fun i=>(i.zero,i.size,i.bytes))=some (some (.string ⟨#[]⟩),1,16):=by kernel_rfl
theorem wr_in2 {x:Int} (h0:-9223372036854775808≤x) (h1:x≤9223372036854775807):wrap64 x=x:=by unfold wrap64;omega
theorem drop_bt (s:ByteArray) (i:Int) (h0:0≤i) (h1:i<s.size):∃x:UInt8,s.data.toList.drop i.toNat=x :: s.data.toList.drop (i+1).toNat∧bt s i=x.toNat:=by
  have hl:i.toNat<s.data.toList.length:=by rw[Array.length_toList];show i.toNat<s.size;omega
  refine⟨s.data.toList[i.toNat],?_,?_⟩
  · rw[show (i+1).toNat=i.toNat+1 by omega,List.drop_eq_getElem_cons hl]
  · have hb:=bt_at s i (by omega)
    rw[←hb]
    rfl
def segL (s:ByteArray) (f i:Int):List UInt8:=(s.data.toList.drop f.toNat).take (i.toNat - f.toNat)
theorem seg_data (s:ByteArray) (f i:Int):(s.extract f.toNat i.toNat).data.toList=segL s f i:=Lib.extract_data _ _ _
theorem cut_hit {c:UInt8} {s:ByteArray} {m:List ByteArray} {f i:Int} (h0:0≤i) (h1:i<s.size) (hx:bt s i=c.toNat) (h:m.map (·.data.toList)++glue (segL s f i) (cutL c (s.data.toList.drop i.toNat))=cutL c s.data.toList) :
    (m++[s.extract f.toNat i.toNat]).map (·.data.toList)++glue (segL s (i+1) (i+1)) (cutL c (s.data.toList.drop (i+1).toNat))=cutL c s.data.toList:=by
  obtain⟨x,e1,e2⟩:=drop_bt s i h0 h1
  have hxc:x=c:=by
    have h3:x.toNat=c.toNat:=by omega
    exact UInt8.toNat_inj.1 h3
  subst hxc
  rw[e1,glue_hit]at h
  rw[←h,List.map_append,List.map_singleton,seg_data,show segL s (i+1) (i+1)=[]by simp[segL],glue_nil,List.append_assoc]
  rfl
theorem cut_miss {c:UInt8} {s:ByteArray} {m:List ByteArray} {f i:Int} (h0:0≤f) (h2:f≤i) (h1:i<s.size) (hx:bt s i≠c.toNat) (h:m.map (·.data.toList)++glue (segL s f i) (cutL c (s.data.toList.drop i.toNat))=cutL c s.data.toList) :
    m.map (·.data.toList)++glue (segL s f (i+1)) (cutL c (s.data.toList.drop (i+1).toNat))=cutL c s.data.toList:=by
  obtain⟨x,e1,e2⟩:=drop_bt s i (by omega) h1
  have hxc:x≠c:=fun e=>hx (by rw[e2,e])
  rw[e1,glue_miss _ hxc]at h
  rw[←h]
  congr 2
  unfold segL
  rw[show (i+1).toNat - f.toNat=(i.toNat - f.toNat)+1 by omega,List.take_add_one,List.getElem?_drop,show f.toNat+(i.toNat - f.toNat)=i.toNat by omega]
  have e3:s.data.toList[i.toNat]?=some x:=by
    have h4:(s.data.toList.drop i.toNat)[0]?=some x:=by rw[e1];rfl
    rwa [List.getElem?_drop,Nat.add_zero]at h4
  rw[e3];rfl
theorem cut_end {c:UInt8} {s:ByteArray} {m:List ByteArray} {f i:Int} (h1:i=s.size) (h:m.map (·.data.toList)++glue (segL s f i) (cutL c (s.data.toList.drop i.toNat))=cutL c s.data.toList):m++[s.extract f.toNat s.size]=cutB c s:=by
  apply data_inj
  have hl:s.data.toList.length≤i.toNat:=by rw[Array.length_toList];show s.size≤i.toNat;omega
  rw[cutB_data,←h,List.drop_eq_nil_of_le hl,glue_end,List.map_append,List.map_singleton,←seg_data,h1]
  rfl
set_option maxHeartbeats 1000000 in
theorem l5Cut_c {w:World} {s:ByteArray} {c:UInt8} (hs:s.size≤1048576):Calls Tryd.prog 8 #[.string s,.int .u8 (c.toNat:Int)] w fun e w'=>∃(A:Option Addr) (d:Nat),e=.returned (.slice A (cutB c s).length d)∧Kd.R Kd.string 9 w' w.heap.size (fun _=>True) (.slice A (cutB c s).length d) (cutB c s)∧Below w.heap.size w w':=by
  have HS:=AK hs
  obtain⟨b,hb⟩:∃b:Int,b=(c.toNat:Int):=⟨_,rfl⟩
  have HC:=AK hb
  rw[←hb]
  obtain⟨r,hr⟩:∃r,r=cutB c s:=⟨_,rfl⟩
  have ER:=AK hr
  rw[←hr]
  clear hs hb hr
  go_enter Tryd.func8,Tryd.ntmps8
  go_wp2_with ((with_reducible refine gate_dst (N:=8) rfl ?_);refine Kd.R_lit Kd.string (w0:=w) (World.heap w).size 9 ?hg (N:=8) ?hd (xs:=([]:List ByteArray)) (inner:=[]) (ok:=fun _=>True) (okp:=fun _=>True) ?hr ?hp (fun _ hk=>hk) trivial (Below.refl _ _) (Nat.le_refl _) (by simp) ?_;(case hd=>rfl);(case hg=>rfl);(case hr=>first|(go_simp;done)|(go_simp;rfl));(case hp=>exact Reps.none _ _);intro v8 w8 hr hb hg hn;obtain⟨M,cm,hv⟩:=Kd.R_slice hr;subst hv;have HR:=AK hr;have HB:=AK hb;clear hr hb hg hn)
  go_loopg [5,6,7] s.size (fun kq v5 v6 v7 w'=>∃(m:List ByteArray) (M:Option Addr) (cm:Nat) (f i:Int),v5=.slice M m.length cm∧v6=.int .i64 f∧v7=.int .i64 i∧Aside0 (0≤f∧f≤i∧i+kq=s.size∧(m.length:Int)≤i)∧Aside0 (m.map (·.data.toList)++glue (segL s f i) (cutL c (s.data.toList.drop i.toNat))=cutL c s.data.toList)∧Aside0 (Kd.R Kd.string 9 w' w.heap.size (fun _=>True) (.slice M m.length cm) m)∧Aside0 (Below w.heap.size w w'))
  case atStart=>exact⟨[],M,cm,0,0,rfl,rfl,rfl,⟨by omega,by omega,by omega,by simp⟩,⟨by simp[segL,glue_nil]⟩,HR,HB⟩
  case round=>
    clear HR HB
    obtain⟨m,M,cm,f,i,rfl,rfl,rfl,HI,HT,HR,HB⟩:=hrel
    cases gk with
    | zero=>
      have c9:decide (i<(s.size:Int))=false:=deF (by have:=HI.out;omega)
      have f0:=eq_true (show 0≤f by have:=HI.out;omega)
      have f1:=eq_true (show f≤(s.size:Int)by have:=HI.out;omega)
      obtain⟨m2,em2⟩:∃l,l=m++[s.extract f.toNat s.size]:=⟨_,rfl⟩
      have EM:=AK em2
      clear em2
      go_wp2_with ((with_reducible refine gate_builtin (b:=.append) (xs:=#[.tmp 29,.tmp 33]) rfl ?_);at_builtin;refine Kd.R_append Kd.string (w0:=w) w.heap.size rfl (.tmp 29) (.tmp 33) 27 9 (.string ⟨#[]⟩) 16 rfl Tryd.underlying27 info9 rfl (by decide) (by omega) (.slice M m.length cm) m (s.extract f.toNat s.size) [.string (s.extract f.toNat s.size)] (fun _=>True) (fun _=>False) rfl rfl ?aP (fun _ hk=>hk.elim) (fun _ _=>trivial) HR.out HB.out HB.out.size ?aL ?_;(case aP=>exact rfl);(case aL=>have:=HI.out;have:=HS.out;omega);intro v9 w9 ho hb hg hat;rw[←EM.out]at ho;obtain⟨M2,cm2,hv⟩:=Kd.R_slice ho;subst hv;have HR2:=AK ho;have HB2:=AK hb;clear ho hb hg hat)
      go_ret
      have e:r=m2:=by rw[ER.out,EM.out];exact(cut_end (by have:=HI.out;omega) HT.out).symm
      subst e
      exact⟨M2,cm2,rfl,HR2.out,HB2.out⟩
    | succ k1=>
      have c9:decide (i<(s.size:Int))=true:=deT (by have:=HI.out;omega)
      have hi0:=eq_true (show 0≤i by have:=HI.out;omega)
      have hi1:=eq_true (show i<(s.size:Int)by have:=HI.out;omega)
      have f0:=eq_true (show 0≤f by have:=HI.out;omega)
      have f1:=eq_true (show f≤i by have:=HI.out;omega)
      have f2:=eq_true (show i≤(s.size:Int)by have:=HI.out;omega)
      have hb:=bt_at s i
      obtain⟨t,ht⟩:∃t,(bt s i == b)=t:=⟨_,rfl⟩
      have HTT:=AK ht
      cases t
      · go_wp2
        go_roundg k1
        case measure=>omega
        case rel=>
          rw[wr_in2 (x:=i+1) (by have:=HI.out;omega) (by have:=HI.out;have:=HS.out;omega)]
          exact⟨m,M,cm,f,i+1,rfl,rfl,rfl,⟨by have:=HI.out;omega,by have:=HI.out;omega,by have:=HI.out;omega,by have:=HI.out;omega⟩,⟨cut_miss (by have:=HI.out;omega) (by have:=HI.out;omega) (by have:=HI.out;omega) (by have h1:=HTT.out;have h2:=HC.out;rw[←h2];simpa using h1) HT.out⟩,HR,HB⟩
      · obtain⟨m2,em2⟩:∃l,l=m++[s.extract f.toNat i.toNat]:=⟨_,rfl⟩
        have EM:=AK em2
        clear em2
        go_wp2_with ((with_reducible refine gate_builtin (b:=.append) (xs:=#[.tmp 20,.tmp 25]) rfl ?_);at_builtin;refine Kd.R_append Kd.string (w0:=w) w.heap.size rfl (.tmp 20) (.tmp 25) 27 9 (.string ⟨#[]⟩) 16 rfl Tryd.underlying27 info9 rfl (by decide) (by omega) (.slice M m.length cm) m (s.extract f.toNat i.toNat) [.string (s.extract f.toNat i.toNat)] (fun _=>True) (fun _=>False) rfl rfl ?aP (fun _ hk=>hk.elim) (fun _ _=>trivial) HR.out HB.out HB.out.size ?aL ?_;(case aP=>exact rfl);(case aL=>have:=HI.out;have:=HS.out;omega);intro v9 w9 ho hb hg hat;rw[←EM.out]at ho;obtain⟨M2,cm2,hv⟩:=Kd.R_slice ho;subst hv;have HR2:=AK ho;have HB2:=AK hb;clear ho hb hg hat)
        go_roundg k1
        case measure=>omega
        case rel=>
          have hl:m2.length=m.length+1:=by rw[EM.out];simp
          rw[wr_in2 (x:=i+1) (by have:=HI.out;omega) (by have:=HI.out;have:=HS.out;omega)]
          exact⟨m2,M2,cm2,i+1,i+1,rfl,rfl,rfl,⟨by have:=HI.out;omega,by omega,by have:=HI.out;omega,by have:=HI.out;omega⟩,⟨by rw[EM.out];exact cut_hit (by have:=HI.out;omega) (by have:=HI.out;omega) (by have h1:=HTT.out;have h2:=HC.out;rw[←h2];simpa using h1) HT.out⟩,HR2,HB2⟩
end
end Go.Proofs.YtigjhfijkdlldaaDoor.H
