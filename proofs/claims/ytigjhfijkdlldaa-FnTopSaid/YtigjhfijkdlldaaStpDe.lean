import Derived.Test.YtigjhfijkdlldaaStpPz
import Derived.Test.YtigjhfijkdlldaaStpDr
import Derived.Test.YtigjhfijkdlldaaStpYeq
import Derived.Test.YtigjhfijkdlldaaStpCa
namespace Go.Proofs.Ytigjhfijkdlldaa.H
open Go.RowKit Go.Proofs.YtigjhfijkdlldaaW.PrintWords Go.Proofs.YtigjhfijkdlldaaW.PrintLast Go.Proofs.YtigjhfijkdlldaaW.PrintMore Go.Proofs.Ytigjhfijkdlldaa.Q
set_option linter.unusedVariables false
set_option linter.unusedSimpArgs false
section
theorem xor_range (a b:Int) (ha:0≤a) (ha2:a<2 ^ 62) (hb:0≤b) (hb2:b<2 ^ 62):0≤Go.bits .xor .i64 a b:=by
  obtain⟨m,rfl⟩:=Int.eq_ofNat_of_zero_le ha
  obtain⟨n,rfl⟩:=Int.eq_ofNat_of_zero_le hb
  have hm:m<2 ^ 62:=by omega
  have hn:n<2 ^ 62:=by omega
  have h1:m % 2 ^ 64=m:=Nat.mod_eq_of_lt (by omega)
  have h2:n % 2 ^ 64=n:=Nat.mod_eq_of_lt (by omega)
  have h3:=Nat.xor_lt_two_pow hm hn
  have h4:Go.bits .xor .i64 m n=IntKind.i64.wrap ((m ^^^ n:Nat):Int):=by
    show IntKind.i64.wrap ((BitVec.ofInt 64 (m:Int) ^^^ BitVec.ofInt 64 (n:Int)).toNat:Int)=_
    rw[BitVec.ofInt_natCast,BitVec.ofInt_natCast,BitVec.toNat_xor,BitVec.toNat_ofNat,BitVec.toNat_ofNat,h1,h2]
  rw[h4,IntKind.wrap_i64]
  omega
theorem tmod_range {a n:Int} (ha:0≤a) (hn:1≤n):0≤Int.tmod a n∧Int.tmod a n<n:=⟨Int.tmod_nonneg _ ha,Int.tmod_lt_of_pos _ (by omega)⟩
theorem wrap_in {x:Int} (h0:-9223372036854775808≤x) (h1:x<9223372036854775808):wrap64 x=x:=by unfold wrap64;omega
theorem pick_some {bs:List Int} {p n:Int} (hb:∀b∈bs,0≤b∧b<256) (h0:0≤p) (h1:p≤1000000):∃r,spec_l1Rd_pick.f 1 bs p n=some (r,p+1)∧0≤r∧(1≤n→r<n)∧(n<1→r=0):=by
  have e1:wrap64 (p+1)=p+1:=wrap_in (by omega) (by omega)
  have e2:wrap64 (p+1 - 1)=p:=by rw[show p+1 - 1=p by omega];exact wrap_in (by omega) (by omega)
  unfold spec_l1Rd_pick.f
  rw[e1]
  by_cases c:n<1
  · rw[if_pos c]
    exact⟨0,rfl,by omega,by omega,fun _=>rfl⟩
  rw[if_neg c]
  cases bs with
  | nil=>exact⟨0,rfl,by omega,by omega,fun _=>rfl⟩
  | cons b0 bs0=>
    obtain⟨bs,ebs⟩:∃l,l=b0 :: bs0:=⟨_,rfl⟩
    have hl:1≤bs.length:=by rw[ebs];simp
    rw[←ebs]at hb ⊢
    have hz:((bs.length:Int) == 0)=false:=by rw[beq_eq_false_iff_ne];omega
    have hr:∀i:Int,0≤i→i<bs.length→0≤rd bs i∧rd bs i<256:=fun i h2 h3=>hb _ (getD_mem bs 0 i h2 h3)
    simp only[hz,spec_l1Rd_pick.j0,e2]
    rw[if_neg (by decide)]
    by_cases d:p<(bs.length:Int)
    · have h3:=hr p h0 d
      rw[if_pos d,if_pos h0,if_neg (by omega),wrap_in (by omega) (by omega)]
      have h4:=tmod_range h3.1 (show 1≤n by omega)
      exact⟨_,rfl,h4.1,fun _=>h4.2,fun h=>absurd h c⟩
    · have e7:wrap64 (p*7)=p*7:=wrap_in (by omega) (by omega)
      have e8:wrap64 (p*7+3)=p*7+3:=wrap_in (by omega) (by omega)
      have i1:=tmod_range h0 (show 1≤(bs.length:Int)by omega)
      have i2:=tmod_range (show 0≤p*7+3 by omega) (show 1≤(bs.length:Int)by omega)
      rw[if_neg d,if_neg (by omega),if_pos i1.1,if_pos i1.2,e7,e8,if_pos i2.1,if_pos i2.2,if_neg (by omega)]
      have h3:=hr _ i1.1 i1.2
      have h4:=hr _ i2.1 i2.2
      obtain⟨x,hx⟩:∃x,x=rd bs (Int.tmod p bs.length):=⟨_,rfl⟩
      obtain⟨y,hy⟩:∃y,y=rd bs (Int.tmod (p*7+3) bs.length):=⟨_,rfl⟩
      obtain⟨z,hz2⟩:∃z,z=Int.tdiv p bs.length:=⟨_,rfl⟩
      have hz0:0≤z:=by rw[hz2];exact Int.tdiv_nonneg h0 (by omega)
      have hz1:z≤p:=by rw[hz2,Int.tdiv_eq_ediv_of_nonneg h0];exact Int.ediv_le_self _ h0
      rw[←hx]at h3 ⊢
      rw[←hy]at h4 ⊢
      rw[←hz2]
      have w1:wrap64 x=x:=wrap_in (by omega) (by omega)
      have w2:wrap64 y=y:=wrap_in (by omega) (by omega)
      have w3:wrap64 (x*131)=x*131:=wrap_in (by omega) (by omega)
      have w4:wrap64 (y*1117)=y*1117:=wrap_in (by omega) (by omega)
      have w5:wrap64 (x*131+y*1117)=x*131+y*1117:=wrap_in (by omega) (by omega)
      have w6:wrap64 (p*29)=p*29:=wrap_in (by omega) (by omega)
      have w7:wrap64 (x*131+y*1117+p*29)=x*131+y*1117+p*29:=wrap_in (by omega) (by omega)
      have w8:wrap64 z=z:=wrap_in (by omega) (by omega)
      have w9:wrap64 (z*53)=z*53:=wrap_in (by omega) (by omega)
      have w10:wrap64 (x*131+y*1117+p*29+z*53)=x*131+y*1117+p*29+z*53:=wrap_in (by omega) (by omega)
      rw[w1,w2,w3,w4,w5,w6,w7,w8,w9,w10]
      obtain⟨s,hs⟩:∃s,s=x*131+y*1117+p*29+z*53:=⟨_,rfl⟩
      rw[←hs]
      have hs0:0≤s∧s<2 ^ 62:=by rw[hs];constructor<;>omega
      have hd0:0≤Int.tdiv s 64:=Int.tdiv_nonneg hs0.1 (by omega)
      have hd1:Int.tdiv s 64≤s:=by rw[Int.tdiv_eq_ediv_of_nonneg hs0.1];exact Int.ediv_le_self _ hs0.1
      rw[wrap_in (x:=Int.tdiv s 64) (by omega) (by omega)]
      have hx0:=xor_range s (Int.tdiv s 64) hs0.1 hs0.2 hd0 (by omega)
      have h5:=tmod_range hx0 (show 1≤n by omega)
      exact⟨_,rfl,h5.1,fun _=>h5.2,fun h=>absurd h c⟩
structure Rdr (v w:World) (g:Nat) (P:Int):Prop where
  ex:∃bs p,IsS121 v w g bs p∧(0≤p∧p≤P)∧∀b∈bs,0≤b∧b<256
section
variable {v w w1:World} {g:Nat} {P:Int}
theorem Rdr.below (h:Rdr v w g P) (hb:Below w.heap.size w w1):Rdr v w1 g P:=by
  obtain⟨bs,p,hi,h2⟩:=h.ex;exact⟨bs,p,hi.below hb,h2⟩
theorem Rdr.far (h:Rdr v w g P) {a:Addr} (hne:g≠a.block) (u:Value):Rdr v (w.setCell a u) g P:=by
  obtain⟨bs,p,hi,h2⟩:=h.ex;exact⟨bs,p,hi.far hne u,h2⟩
theorem Rdr.grown {row:Option Nat} (h:Rdr v w g P) (hg:w.grownBy w1 row) (hne:some g≠row):Rdr v w1 g P:=by
  obtain⟨bs,p,hi,h2⟩:=h.ex;exact⟨bs,p,hi.grown hg hne,h2⟩
theorem Rdr.more {Q:Int} (h:Rdr v w g P) (hq:P≤Q):Rdr v w g Q:=by
  obtain⟨bs,p,hi,h2,h3⟩:=h.ex;exact⟨bs,p,hi,⟨h2.1,by omega⟩,h3⟩
theorem Rdr.lt (h:Rdr v w g P):g<w.heap.size:=by obtain⟨bs,p,hi,h2⟩:=h.ex;exact hi.lt
theorem Rdr.ge (h:Rdr v w g P):v.heap.size≤g:=by obtain⟨bs,p,hi,h2⟩:=h.ex;exact hi.ge
theorem Rdr.ne {k t:Nat} {cs:Array Value} (h:Rdr v w g P) (hb:w.heap[k]?=some (.cells cs t (0,0))) (ht:t≠121):g≠k:=by
  obtain⟨bs,p,hi,h2⟩:=h.ex;exact hi.ne_blk hb ht
theorem Rdr.ne_own {α:Type} {d:Kd α} {e base:Nat} {ok:Nat→Prop} {u:Value} {xs:List α} (h:Rdr v w g P) (ho:d.R e w base ok u xs) (ht:e≠121):some g≠u.ownBlock:=by
  obtain⟨bs,p,hi,h2⟩:=h.ex;exact hi.own_ne ho ht
theorem Rdr.R {α:Type} {d:Kd α} {e base:Nat} {ok:Nat→Prop} {u:Value} {xs:List α} (h:Rdr v w g P) (hk:KeepBut w w1 g none) (ho:d.R e w base ok u xs) (ht:∀q,q∈e :: d.E→q≠121):d.R e w1 base ok u xs:=by
  obtain⟨bs,p,hi,h2⟩:=h.ex
  exact Kd.R_mono (Kd.R_keep (hi.apart ho ht) hk (fun k hk=>hk.2)) (fun k hk=>hk.1)
theorem Rdr.S {α:Type} {d:Kd α} {e base:Nat} {ok:Nat→Prop} {u:Value} {xs:List α} (h:Rdr v w g P) (hk:KeepBut w w1 g none) (ho:d.S e w base ok u xs) (ht:∀q,q∈e :: d.E→q≠121):d.S e w1 base ok u xs:=by
  obtain⟨bs,p,hi,h2⟩:=h.ex
  exact Kd.S_mono (Kd.S_keep (hi.apartS ho ht) hk (fun k hk=>hk.2)) (fun k hk=>hk.1)
theorem Rdr.blk {k t:Nat} {cs:Array Value} (h:Rdr v w g P) (hk:KeepBut w w1 g none) (hb:w.heap[k]?=some (.cells cs t (0,0))) (ht:t≠121):w1.heap[k]?=some (.cells cs t (0,0)):=
  hk.blk hb (fun e=>h.ne hb ht e.symm) (by simp)
theorem Rdr.own (h:Rdr v w g P) (hk:KeepBut w w1 g none) {base:Nat} {A0 A1 A2 A3:Option Addr} {c0 c1 c2 c3:Nat} {l0:List S38} {l1:List Int} {l2 l3:List S60} (ho:OwnH w base A0 c0 A1 c1 A2 c2 A3 c3 l0 l1 l2 l3):OwnH w1 base A0 c0 A1 c1 A2 c2 A3 c3 l0 l1 l2 l3:=
  ⟨h.S hk ho.s0 (k38_ap 121 (by decide) (by decide)),h.R hk ho.s1 (int_ap 121 (by decide)),h.R hk ho.s2 (k60_ap 121 (by decide)),h.R hk ho.s3 (k60_ap 121 (by decide))⟩
end
theorem keep_below {w w1 w2:World} {g:Nat} (h:KeepBut w w1 g none) (hb:Below w1.heap.size w1 w2):KeepBut w w2 g none:=h.trans (KeepBut.of_below hb g none) (.inl rfl)
theorem keep_then {w w1 w2:World} {g:Nat} (h:KeepBut w w1 g none) (k:KeepBut w1 w2 g none):KeepBut w w2 g none:=h.trans k (.inl rfl)
theorem pick_c {v w:World} {g:Nat} {P:Int} (n:Int) (hR:Rdr v w g P) (hB:Below v.heap.size v w) (hP:P≤1000000) :
    Calls Try.prog 63 #[.pointer (some ⟨g,0,none⟩),.int .i64 n] w fun e w'=>∃k:Int,e=.returned (.int .i64 k)∧(0≤k∧(1≤n→k<n)∧(n<1→k=0))∧Rdr v w' g (P+1)∧Below v.heap.size v w'∧KeepBut w w' g none:=by
  obtain⟨bs,p,hi,hp,hb⟩:=hR.ex
  obtain⟨r,hr,h1,h2,h3⟩:=pick_some (n:=n) hb hp.1 (by omega)
  refine(spec_l1Rd_pick.calls 1 g bs p n r (p+1) v w hi hB hr).mono ?_
  rintro e w' ⟨rfl,hi2,hb2,hk⟩
  exact⟨r,rfl,⟨h1,h2,h3⟩,⟨bs,p+1,hi2,⟨by omega,by omega⟩,hb⟩,hb2,hk⟩
theorem of_c {v w:World} {g:Nat} {P:Int} {A:Option Addr} {c:Nat} {ts:List ByteArray} (hR:Rdr v w g P) (hB:Below v.heap.size v w) (hP:P≤1000000) (hr:Kd.C Kd.string w A ts.length ts) (hc:ts.length≤c) (hf:∀ad,A=some ad→0<ts.length→ad.block≠g) (hn:1≤ts.length) :
    Calls Try.prog 121 #[.pointer (some ⟨g,0,none⟩),.slice A ts.length c] w fun e w'=>∃t:ByteArray,e=.returned (.string t)∧t∈ts∧Rdr v w' g (P+1)∧Below v.heap.size v w'∧KeepBut w w' g none:=by
  obtain⟨bs,p,hi,hp,hb⟩:=hR.ex
  obtain⟨r,hr2,h1,h2,h3⟩:=pick_some (n:=(ts.length:Int)) hb hp.1 (by omega)
  have h4:=h2 (by omega)
  have hf2:spec_l1Rd_of.f 1 bs p ts=some (rdOf ByteArray.empty ts r,p+1):=by
    unfold spec_l1Rd_of.f
    rw[hr2]
    show (if 0≤r then(if r<(ts.length:Int)then(some (rdOf ByteArray.empty ts r,p+1))else none)else none)=_
    rw[if_pos h1,if_pos h4]
  refine(spec_l1Rd_of.calls 1 g bs p A c ts _ (p+1) v w hi hB hr hc hf hf2).mono ?_
  rintro e w' ⟨rfl,hi2,hb2,hk⟩
  exact⟨_,rfl,getD_mem ts _ r h1 h4,⟨bs,p+1,hi2,⟨by omega,by omega⟩,hb⟩,hb2,hk⟩
theorem open_c {w:World} {A:Option Addr} {c:Nat} {code:List Int} (hr:Kd.C (Kd.int .u8) w A code.length code) (hc:code.length≤c) (hb:∀b∈code,0≤b∧b<256) :
    Calls Try.prog 60 #[.slice A code.length c] w fun e w'=>∃g:Nat,e=.returned (.pointer (some ⟨g,0,none⟩))∧Rdr w w' g 0∧Below w.heap.size w w':=by
  have hf:∃bs,spec_l1Open.f code=some (bs,0)∧∀b∈bs,0≤b∧b<256:=by
    unfold spec_l1Open.f
    by_cases d:(code.length:Int) > 2000
    · rw[if_pos d,if_pos (by omega)]
      exact⟨_,rfl,fun b h=>hb b (List.mem_of_mem_take h)⟩
    · rw[if_neg d]
      exact⟨_,rfl,hb⟩
  obtain⟨bs,hf,hb2⟩:=hf
  refine(spec_l1Open.calls A c code bs 0 w w (Below.refl _ _) hr hc hf).mono ?_
  rintro e w' ⟨g,rfl,hi,hb3,hb4⟩
  exact⟨g,rfl,⟨bs,0,hi,⟨by omega,by omega⟩,hb2⟩,hb4⟩
end
section
section
variable {w:World} {A A0 A1 A2 A3:Option Addr} {c c0 c1 c2 c3:Nat}
end
end
section
theorem box7 {w:World} {g t:Nat} {a b c d e f h:Value} (hb:w.heap[g]?=some (.cells #[a,b,c,d,e,f,h] t (0,0))):w.cell? ⟨g,0,none⟩=some a∧w.cell? ⟨g,1,none⟩=some b∧w.cell? ⟨g,2,none⟩=some c∧w.cell? ⟨g,3,none⟩=some d∧w.cell? ⟨g,4,none⟩=some e∧w.cell? ⟨g,5,none⟩=some f∧w.cell? ⟨g,6,none⟩=some h:=
  ⟨(bcl hb 0).trans rfl,(bcl hb 1).trans rfl,(bcl hb 2).trans rfl,(bcl hb 3).trans rfl,(bcl hb 4).trans rfl,(bcl hb 5).trans rfl,(bcl hb 6).trans rfl⟩
theorem frz7 {w:World} {g t:Nat} {cs:Array Value} (hb:w.heap[g]?=some (.cells cs t (0,0))):w.frozen? ⟨g,0,none⟩=false∧w.frozen? ⟨g,1,none⟩=false∧w.frozen? ⟨g,2,none⟩=false∧w.frozen? ⟨g,3,none⟩=false∧w.frozen? ⟨g,4,none⟩=false∧w.frozen? ⟨g,5,none⟩=false∧w.frozen? ⟨g,6,none⟩=false:=
  ⟨bfz hb 0,bfz hb 1,bfz hb 2,bfz hb 3,bfz hb 4,bfz hb 5,bfz hb 6⟩
end
section
def TxA (t:ByteArray):Prop:=(t.size:Int)≤13∧t≠sNo∧t≠sFull
theorem tx_a:∀t∈([⟨#[97]⟩,⟨#[98]⟩,⟨#[99,49]⟩,⟨#[100,100]⟩]:List ByteArray),TxA t:=by unfold TxA;decide
theorem tx_b:∀t∈([⟨#[]⟩,⟨#[65]⟩,⟨#[120]⟩,⟨#[116,104,105,114,116,101,101,110,98,121,116,101,115]⟩]:List ByteArray),TxA t:=by unfold TxA;decide
theorem tx_0:TxA ⟨#[]⟩:=by unfold TxA;decide
theorem gb_none {w w1:World} (hg:w.grownBy w1 none):Below w.heap.size w w1:=⟨hg.os,hg.tape,hg.output,hg.size,fun k hk=>hg.block k hk (by simp)⟩
def zevC:Array Value:=#[.int .i64 0,.int .i64 0,.int .i64 0,.int .i64 0,.int .i64 0,.string ⟨#[]⟩,.slice none 0 0]
structure DB (v w0:World) (g:Nat) (P:Int) (hc:Array Value) (w':World):Prop where
  b:Below v.heap.size v w'
  r:Rdr v w' g P
  k:KeepBut w0 w' g none
  hb:w'.heap[w0.heap.size]?=some (.cells hc 28 (0,0))
  ob:w'.heap[w0.heap.size+1]?=some (.cells zevC 40 (0,0))
  vl:v.heap.size≤w0.heap.size
structure DW (v w0:World) (g n8:Nat) (P:Int) (hc cs:Array Value) (E:Option Addr) (c:Nat) (x:List Int) (w':World):Prop where
  d:DB v w0 g P hc w'
  eb:w'.heap[n8]?=some (.cells cs 40 (0,0))
  lo:w0.heap.size+1<n8
  eo:Kd.R (Kd.int .i64) 3 w' w0.heap.size (fun _=>True) (.slice E x.length c) x
section
variable {v w0 w w1 w2:World} {g n8:Nat} {P:Int} {hc cs:Array Value} {E:Option Addr} {c:Nat} {x:List Int}
theorem DB.start (hR:Rdr v w g P) (hB:Below v.heap.size v w):DB v w g P hc ((w.alloc (.cells hc 28 (0,0))).alloc (.cells zevC 40 (0,0))):=by
  have hb:=below_alloc (below_alloc (Below.refl w.heap.size w) (.cells hc 28 (0,0))) (.cells zevC 40 (0,0))
  exact⟨bst hB hb,hR.below hb,KeepBut.of_below hb g none,blk_alloc (blk_new w _) _,blk_new1 w _ _,hB.size⟩
theorem DB.below (h:DB v w0 g P hc w) (hb:Below w.heap.size w w1):DB v w0 g P hc w1:=
  ⟨bst h.b hb,h.r.below hb,keep_below h.k hb,bbl h.hb hb,bbl h.ob hb,h.vl⟩
theorem DB.more {Q:Int} (h:DB v w0 g P hc w) (hq:P≤Q):DB v w0 g Q hc w:=⟨h.b,h.r.more hq,h.k,h.hb,h.ob,h.vl⟩
theorem DB.pick {Q:Int} (h:DB v w0 g P hc w) (hr:Rdr v w1 g Q) (hb:Below v.heap.size v w1) (hk:KeepBut w w1 g none):DB v w0 g Q hc w1:=
  ⟨hb,hr,keep_then h.k hk,h.r.blk hk h.hb (by decide),h.r.blk hk h.ob (by decide),h.vl⟩
theorem DW.below (h:DW v w0 g n8 P hc cs E c x w) (hb:Below w.heap.size w w1):DW v w0 g n8 P hc cs E c x w1:=
  ⟨h.d.below hb,bbl h.eb hb,h.lo,Kd.R_below h.eo hb⟩
theorem DW.more {Q:Int} (h:DW v w0 g n8 P hc cs E c x w) (hq:P≤Q):DW v w0 g n8 Q hc cs E c x w:=⟨h.d.more hq,h.eb,h.lo,h.eo⟩
theorem DW.pick {Q:Int} (h:DW v w0 g n8 P hc cs E c x w) (hr:Rdr v w1 g Q) (hb:Below v.heap.size v w1) (hk:KeepBut w w1 g none):DW v w0 g n8 Q hc cs E c x w1:=
  ⟨h.d.pick hr hb hk,h.d.r.blk hk h.eb (by decide),h.lo,h.d.r.R hk h.eo (int_ap 121 (by decide))⟩
theorem DW.new (h:DB v w0 g P hc w) (cs:Array Value):DW v w0 g w.heap.size P hc cs none 0 [] (w.alloc (.cells cs 40 (0,0))):=
  have hb:=below_alloc (Below.refl w.heap.size w) (.cells cs 40 (0,0))
  ⟨h.below hb,blk_new w _,by have:=blk_lt h.ob;omega,Kd.R_nil _ _ _ _ _⟩
theorem DW.set (h:DW v w0 g n8 P hc cs E c x w) (j:Nat) (u:Value) (cs':Array Value) (e:cs.setIfInBounds j u=cs'):DW v w0 g n8 P hc cs' E c x (w.setCell ⟨n8,j,none⟩ u):=
  have hlo:w0.heap.size≤n8:=by have:=h.lo;omega
  have hv:v.heap.size≤n8:=by have:=h.d.vl;omega
  ⟨⟨below_set h.d.b hv,h.d.r.far (a:=⟨n8,j,none⟩) (h.d.r.ne h.eb (by decide)) u,keep_far h.d.k (p:=⟨n8,j,none⟩) hlo u,blk_far h.d.hb (p:=⟨n8,j,none⟩) (by have:=h.lo;show w0.heap.size≠n8;omega) u,blk_far h.d.ob (p:=⟨n8,j,none⟩) (by have:=h.lo;show w0.heap.size+1≠n8;omega) u,h.d.vl⟩,
    e ▸ blk_set h.eb j u,h.lo,Kd.R_set h.eo h.eb (int_ap 40 (by decide)) j u⟩
theorem DW.drew (h:DW v w0 g n8 P hc cs E c x w):DW v w0 g n8 P hc cs E c x w.drew:=h.below (below_drew1 (Below.refl _ _))
theorem DW.row (h:DW v w0 g n8 P hc cs E c x w) {F:Option Addr} {f:Nat} {y:List Int} (hr:Kd.R (Kd.int .i64) 3 w w0.heap.size (fun _=>True) (.slice F y.length f) y):DW v w0 g n8 P hc cs F f y w:=⟨h.d,h.eb,h.lo,hr⟩
theorem DW.none (h:DW v w0 g n8 P hc cs E c x w):DW v w0 g n8 P hc cs .none 0 [] w:=h.row (Kd.R_nil _ _ _ _ _)
theorem DW.grown (h:DW v w0 g n8 P hc cs E c x w) (hg:w.grownBy w1 (Value.slice E x.length c).ownBlock) {F:Option Addr} {f:Nat} {y:List Int} (hr:Kd.R (Kd.int .i64) 3 w1 w0.heap.size (fun _=>True) (.slice F y.length f) y):DW v w0 g n8 P hc cs F f y w1:=by
  have hlo:∀k,(Value.slice E x.length c).ownBlock=some k→w0.heap.size≤k:=fun k hk=>((Kd.R_bound h.eo).1 k hk).2.1
  refine⟨⟨h.d.b.grown hg h.d.b.size (fun k hk=>by have:=hlo k hk;have:=h.d.vl;omega),h.d.r.grown hg (h.d.r.ne_own h.eo (by decide)),?_,blk_grown h.d.hb hg (Kd.R_ne h.eo h.d.hb (by decide)),blk_grown h.d.ob hg (Kd.R_ne h.eo h.d.ob (by decide)),h.d.vl⟩,blk_grown h.eb hg (Kd.R_ne h.eo h.eb (by decide)),h.lo,hr⟩
  refine h.d.k.trans (KeepBut.of_grown hg g) ?_
  cases e:(Value.slice E x.length c).ownBlock with
  | none=>exact .inl rfl
  | some k=>exact .inr ⟨k,rfl,hlo k e⟩
theorem DW.out {e:S40} {F:Option Addr} {f:Nat} (h:DW v w0 g n8 P hc (evC e F f) F f e.f4.f2 w):let W:=((((((w.setCell ⟨w0.heap.size+1,0,.none⟩ (.int .i64 e.f0)).setCell ⟨w0.heap.size+1,1,.none⟩ (.int .i64 e.f1)).setCell ⟨w0.heap.size+1,2,.none⟩ (.int .i64 e.f2)).setCell ⟨w0.heap.size+1,3,.none⟩ (.int .i64 e.f3)).setCell ⟨w0.heap.size+1,4,.none⟩ (.int .i64 e.f4.f0)).setCell ⟨w0.heap.size+1,5,.none⟩ (.string e.f4.f1)).setCell ⟨w0.heap.size+1,6,.none⟩ (.slice F e.f4.f2.length f);
    W.heap[w0.heap.size+1]?=some (.cells #[.int .i64 e.f0,.int .i64 e.f1,.int .i64 e.f2,.int .i64 e.f3,.int .i64 e.f4.f0,.string e.f4.f1,.slice F e.f4.f2.length f] 40 (0,0))∧Kd.R (Kd.int .i64) 3 W w0.heap.size (fun _=>True) (.slice F e.f4.f2.length f) e.f4.f2∧Rdr v W g P∧Below v.heap.size v W∧KeepBut w0 W g .none:=by
  intro W
  have hv:v.heap.size≤w0.heap.size+1:=by have:=h.d.vl;omega
  have hne:g≠w0.heap.size+1:=h.d.r.ne h.d.ob (by decide)
  have b0:=h.d.ob
  have b1:=blk_put b0 0 (.int .i64 e.f0) rfl
  have b2:=blk_put b1 1 (.int .i64 e.f1) rfl
  have b3:=blk_put b2 2 (.int .i64 e.f2) rfl
  have b4:=blk_put b3 3 (.int .i64 e.f3) rfl
  have b5:=blk_put b4 4 (.int .i64 e.f4.f0) rfl
  have b6:=blk_put b5 5 (.string e.f4.f1) rfl
  have b7:=blk_put b6 6 (.slice F e.f4.f2.length f) rfl
  have ap:=int_ap 40 (by decide)
  refine⟨b7,Kd.R_set (Kd.R_set (Kd.R_set (Kd.R_set (Kd.R_set (Kd.R_set (Kd.R_set h.eo b0 ap 0 _) b1 ap 1 _) b2 ap 2 _) b3 ap 3 _) b4 ap 4 _) b5 ap 5 _) b6 ap 6 _,?_,?_,?_⟩
  · exact((((((h.d.r.far (a:=⟨w0.heap.size+1,0,.none⟩) hne _).far (a:=⟨w0.heap.size+1,1,.none⟩) hne _).far (a:=⟨w0.heap.size+1,2,.none⟩) hne _).far (a:=⟨w0.heap.size+1,3,.none⟩) hne _).far (a:=⟨w0.heap.size+1,4,.none⟩) hne _).far (a:=⟨w0.heap.size+1,5,.none⟩) hne _).far (a:=⟨w0.heap.size+1,6,.none⟩) hne _
  · exact below_set (below_set (below_set (below_set (below_set (below_set (below_set h.d.b hv) hv) hv) hv) hv) hv) hv
  · have hp:w0.heap.size≤w0.heap.size+1:=by omega
    exact keep_far (keep_far (keep_far (keep_far (keep_far (keep_far (keep_far h.d.k (p:=⟨w0.heap.size+1,0,.none⟩) hp _) (p:=⟨w0.heap.size+1,1,.none⟩) hp _) (p:=⟨w0.heap.size+1,2,.none⟩) hp _) (p:=⟨w0.heap.size+1,3,.none⟩) hp _) (p:=⟨w0.heap.size+1,4,.none⟩) hp _) (p:=⟨w0.heap.size+1,5,.none⟩) hp _) (p:=⟨w0.heap.size+1,6,.none⟩) hp _
end
end
section
section
variable {w:World} {A0 A1 A2 A3:Option Addr} {c0 c1 c2 c3:Nat} {l0:List S38} {l1:List Int} {l2 l3:List S60}
theorem root_c {p:Int} (h:InH w A0 c0 A1 c1 A2 c2 A3 c3 l0 l1 l2 l3) (hr:l1.length≤8):Calls Try.prog 129 #[.agg #[.slice A0 l0.length c0,.slice A1 l1.length c1,.slice A2 l2.length c2,.slice A3 l3.length c3],.int .i64 p] w fun e w'=>e=.returned (.int .i64 (knownL l1 p))∧Below w.heap.size w w':=by
  have HB:=AK (show Below w.heap.size w (w.alloc (.cells #[.slice A0 l0.length c0,.slice A1 l1.length c1,.slice A2 l2.length c2,.slice A3 l3.length c3] 28 (0,0)))∧(w.alloc (.cells #[.slice A0 l0.length c0,.slice A1 l1.length c1,.slice A2 l2.length c2,.slice A3 l3.length c3] 28 (0,0))).heap[w.heap.size]?=some (.cells #[.slice A0 l0.length c0,.slice A1 l1.length c1,.slice A2 l2.length c2,.slice A3 l3.length c3] 28 (0,0))from⟨below_alloc (Below.refl _ _) _,blk_new w _⟩)
  have HI:=AK (h.r1)
  have HW:=AK (show wrap64 ((l1.length:Int) - 1)=l1.length - 1 by unfold wrap64;omega)
  obtain⟨r,er⟩:∃r,r=knownL l1 p:=⟨_,rfl⟩
  rw[←er]
  unfold knownL at er
  clear h hr
  go_enter Try.func129,Try.ntmps129
  go_wp2_with fail
  generalize (w.alloc (.cells #[.slice A0 l0.length c0,.slice A1 l1.length c1,.slice A2 l2.length c2,.slice A3 l3.length c3] 28 (0,0)))=w1 at HB ⊢
  obtain⟨p0,p1,p2,p3⟩:=box4 HB.out.2
  rw[HW.out]
  refine(l1In_c (p:=p) (a:=0) (b:=l1.length - 1)).mono ?_
  rintro e w2 ⟨rfl,rfl⟩
  by_cases d:0≤p∧p<l1.length
  · rw[if_pos d]at er
    rw[show lB p 0 (l1.length - 1)=true by unfold lB;rw[deT d.1,deT (show p≤(l1.length:Int) - 1 by omega)];rfl]
    obtain⟨ad,e1,hq⟩:=Kd.at_int (Kd.C_below HI.out HB.out.1) p d.1 d.2
    subst e1
    rw[←er]at hq
    have h0:=eq_true d.1
    have h1:=eq_true d.2
    clear er d
    go_wp2
    go_ret
    exact⟨rfl,HB.out.1⟩
  · rw[if_neg d]at er
    rw[show lB p 0 (l1.length - 1)=false by
      unfold lB
      by_cases a:0≤p
      · rw[deF (show ¬ p≤(l1.length:Int) - 1 by omega)];simp
      · rw[deF a];rfl]
    subst er
    clear d
    go_wp2
    go_ret
    exact⟨rfl,HB.out.1⟩
theorem part_c {p a:Int} (h:InH w A0 c0 A1 c1 A2 c2 A3 c3 l0 l1 l2 l3) (hk:OkH l0 l1 l2 l3):Calls Try.prog 127 #[.agg #[.slice A0 l0.length c0,.slice A1 l1.length c1,.slice A2 l2.length c2,.slice A3 l3.length c3],.int .i64 p,.int .i64 a] w fun e w'=>e=.returned (.int .i64 (partL l0 l1 p a))∧Below w.heap.size w w':=by
  have HB:=AK (show Below w.heap.size w (w.alloc (.cells #[.slice A0 l0.length c0,.slice A1 l1.length c1,.slice A2 l2.length c2,.slice A3 l3.length c3] 28 (0,0)))∧(w.alloc (.cells #[.slice A0 l0.length c0,.slice A1 l1.length c1,.slice A2 l2.length c2,.slice A3 l3.length c3] 28 (0,0))).heap[w.heap.size]?=some (.cells #[.slice A0 l0.length c0,.slice A1 l1.length c1,.slice A2 l2.length c2,.slice A3 l3.length c3] 28 (0,0))from⟨below_alloc (Below.refl _ _) _,blk_new w _⟩)
  have HI:=AK h
  have HK:=AK hk
  obtain⟨r,er⟩:∃r,r=partL l0 l1 p a:=⟨_,rfl⟩
  rw[←er]
  unfold partL at er
  have hr:=known_range hk p
  clear h hk
  go_enter Try.func127,Try.ntmps127
  go_wp2_with fail
  generalize (w.alloc (.cells #[.slice A0 l0.length c0,.slice A1 l1.length c1,.slice A2 l2.length c2,.slice A3 l3.length c3] 28 (0,0)))=w1 at HB ⊢
  refine(root_c (HI.out.below HB.out.1) HK.out.r).mono ?_
  rintro e w2 ⟨rfl,hb⟩
  replace HB:=AK (And.intro (bst HB.out.1 hb) (bbl HB.out.2 hb))
  clear hb
  obtain⟨q,eq⟩:∃q,q=knownL l1 p:=⟨_,rfl⟩
  rw[←eq]at er hr ⊢
  clear eq
  obtain⟨p0,p1,p2,p3⟩:=box4 HB.out.2
  by_cases d:q<0
  · rw[if_pos d]at er
    have d1:decide (q<0)=true:=deT d
    subst er
    clear d hr
    go_wp2
    go_ret
    exact⟨rfl,HB.out.1⟩
  · rw[if_neg d]at er
    have d1:decide (q<0)=false:=deF d
    have HL:=AK (show (rd_T38 l0 q).f2.length≤6 by rcases(ob_parts (ob_at HK.out (by omega) hr.2)).2.2 with⟨_,b⟩|⟨_,b⟩|⟨_,b⟩|⟨_,b⟩<;>first|omega|(rw[b];exact Nat.zero_le _))
    obtain⟨ad,P,cp,e1,x0,x1,x2,_,_⟩:=at_T38 (Kd.C_below HI.out.r0 HB.out.1) q (by omega) hr.2
    subst e1
    obtain⟨n,en⟩:∃n,n=(rd_T38 l0 q).f2.length:=⟨_,rfl⟩
    rw[←en]at x2 HL er
    have h0:=eq_true (show 0≤q by omega)
    have h1:=eq_true hr.2
    have HW:=AK (show wrap64 ((n:Int) - 1)=n - 1 by have:=HL.out;unfold wrap64;omega)
    clear d hr en x0 x1
    go_wp2_with fail
    rw[HW.out]
    refine(l1In_c (p:=a) (a:=0) (b:=(n:Int) - 1)).mono ?_
    rintro e w3 ⟨rfl,rfl⟩
    by_cases d:0≤a∧a<n
    · rw[if_pos d]at er
      rw[show lB a 0 ((n:Int) - 1)=true by unfold lB;rw[deT d.1,deT (show a≤(n:Int) - 1 by omega)];rfl]
      subst er
      clear d
      go_wp2
      go_ret
      exact⟨rfl,HB.out.1⟩
    · rw[if_neg d]at er
      rw[show lB a 0 ((n:Int) - 1)=false by
        unfold lB
        by_cases a':0≤a
        · rw[deF (show ¬ a≤(n:Int) - 1 by omega)];simp
        · rw[deF a'];rfl]
      subst er
      clear d
      go_wp2
      go_ret
      exact⟨rfl,HB.out.1⟩
set_option maxRecDepth 100000 in
theorem sees_c {p:Int} (h:InH w A0 c0 A1 c1 A2 c2 A3 c3 l0 l1 l2 l3) (hp:p<l0.length) (hl:0≤p→(rd_T38 l0 p).f2.length≤6) :
    Calls Try.prog 128 #[.agg #[.slice A0 l0.length c0,.slice A1 l1.length c1,.slice A2 l2.length c2,.slice A3 l3.length c3],.int .i64 p] w fun e w'=>e=.returned (.string (seesB l0 p))∧Below w.heap.size w w':=by
  have HI:=AK h.r0
  clear h
  obtain⟨r,er⟩:∃r,r=seesB l0 p:=⟨_,rfl⟩
  rw[←er]
  by_cases a:p<0
  case pos=>
    have a1:decide (p<0)=true:=deT a
    have e:r=sNone:=by rw[er];unfold seesB;exact if_pos a
    subst e
    clear er a hl hp
    go_enter Try.func128,Try.ntmps128
    go_wp2
    go_ret
    exact⟨rfl,below_alloc (Below.refl _ _) _⟩
  have a1:decide (p<0)=false:=deF a
  obtain⟨ad,Af,cf,ea,ha0,ha1,ha2,_,_⟩:=at_T38 HI.out p (by omega) hp
  subst ea
  have h0:=eq_true (show 0≤p by omega)
  have h1:=eq_true hp
  have h6:=hl (by omega)
  have es:r=if(rd_T38 l0 p).f0=1 then(rd_T38 l0 p).f1 else if(rd_T38 l0 p).f0=2 then sCell++strOfNums [48+((rd_T38 l0 p).f2.length:Int)]else if(rd_T38 l0 p).f0=3 then sWeak else sGuard:=by rw[er];unfold seesB;exact if_neg a
  obtain⟨z,ez⟩:∃z,z=rd_T38 l0 p:=⟨_,rfl⟩
  rw[←ez]at ha0 ha1 ha2 es h6
  obtain⟨k,hk⟩:∃k,k=z.f2.length:=⟨_,rfl⟩
  rw[←hk]at ha2 es h6
  clear hk
  have hb:=below_alloc (Below.refl w.heap.size w) (.cells #[.slice (some ad) l0.length c0,.slice A1 l1.length c1,.slice A2 l2.length c2,.slice A3 l3.length c3] 28 (0,0))
  have HB:=AK hb
  have HX:=AK (blk_new w (.cells #[.slice (some ad) l0.length c0,.slice A1 l1.length c1,.slice A2 l2.length c2,.slice A3 l3.length c3] 28 (0,0)))
  replace ha0:=pcb hb ha0
  replace ha1:=pcb hb ha1
  replace ha2:=pcb hb ha2
  clear ez er a hl hp HI hb
  go_enter Try.func128,Try.ntmps128
  go_upto_region 3 with fail
  generalize (w.alloc (.cells #[.slice (some ad) l0.length c0,.slice A1 l1.length c1,.slice A2 l2.length c2,.slice A3 l3.length c3] 28 (0,0)))=w1 at HB HX ha0 ha1 ha2 ⊢
  have hx:=(box4 HX.out).1
  clear HX
  by_cases k1:z.f0=1
  case pos=>
    have f1:(z.f0 == 1)=true:=beq_iff_eq.mpr k1
    rw[if_pos k1]at es
    subst es
    clear k1 h6
    go_wp2
    go_ret
    exact⟨rfl,below_alloc HB.out _⟩
  have f1:(z.f0 == 1)=false:=beq_eq_false_iff_ne.mpr k1
  rw[if_neg k1]at es
  clear k1
  by_cases k2:z.f0=2
  case pos=>
    have f2:(z.f0 == 2)=true:=beq_iff_eq.mpr k2
    rw[if_pos k2]at es
    clear k2
    have hy:[wrap64 (48+(k:Int)) % 256]=[48+(k:Int)]:=by rw[show wrap64 (48+(k:Int)) % 256=48+k by unfold wrap64;omega]
    have hsz:(strOfNums [48+(k:Int)]).size=1:=by rw[strOfNums_size];rfl
    obtain⟨y,ey⟩:∃y,y=[wrap64 (48+(k:Int)) % 256]:=⟨_,rfl⟩
    rw[←hy,←ey]at es hsz
    have EY:=AK ey
    have c0:=eq_true (show 8+(strOfNums y).size≤9223372036854775807 by omega)
    have c1:decide (8+(strOfNums y).size≤9223372036854775807)=true:=deT (by omega)
    have c2:=eq_false (show ¬ 9223372036854775807<8+(strOfNums y).size by omega)
    subst es
    clear h6 hy hsz ey
    go_wp2_with ((with_reducible refine gate_dst (N:=26) rfl ?_);refine Kd.R_lit (Kd.int .u8) _ 5 ?hg (N:=26) ?hd (xs:=([wrap64 (48+(k:Int)) % 256]:List Int)) (inner:=[.int .u8 (wrap64 (48+(k:Int)) % 256)]) (ok:=fun _=>True) (okp:=fun _=>True) ?hr ?hp (fun _ hk=>hk) trivial (Below.refl _ _) (Nat.le_refl _) (by simp) ?_;(case hd=>rfl);(case hg=>rfl);(case hr=>first|(go_simp;done)|(go_simp;rfl));(case hp=>exact(Reps.one (show Kd.M (Kd.int .u8) _ _ _ (wrap64 (48+(k:Int)) % 256) [.int .u8 (wrap64 (48+(k:Int)) % 256)]from rfl) (Reps.none _ _)));intro v26 w6 ho hb hg hn;rw[←EY.out]at ho;have HB6:=AK (bst (below_alloc HB.out _) hb);have HO6:=AK ho;clear hb ho hg hn;have hcv:=own_string (P:=Try.prog) Try.underlying23 Try.underlying5 Try.underlying9 (Kd.own_of_R HO6.out))
    go_ret
    exact⟨rfl,HB6.out⟩
  have f2:(z.f0 == 2)=false:=beq_eq_false_iff_ne.mpr k2
  rw[if_neg k2]at es
  clear k2 h6
  by_cases k3:z.f0=3
  case pos=>
    have f3:(z.f0 == 3)=true:=beq_iff_eq.mpr k3
    rw[if_pos k3]at es
    subst es
    clear k3
    go_wp2
    go_ret
    exact⟨rfl,below_alloc HB.out _⟩
  have f3:(z.f0 == 3)=false:=beq_eq_false_iff_ne.mpr k3
  rw[if_neg k3]at es
  subst es
  clear k3
  go_wp2
  go_ret
  exact⟨rfl,below_alloc HB.out _⟩
end
end
section
def codeIn:Code→List Bool→Code
  | .seq a b,true :: l=>codeIn b l
  | .seq a b,false :: l=>codeIn a l
  | c,_=>c
def codeAt (f:Func) (l:List Bool):Code:=codeIn (f.body.getD .ret) l
section
variable {v w:World} {g lo:Nat} {P:Int} {A0 A1 A2 A3:Option Addr} {c0 c1 c2 c3:Nat} {G:Hp}
set_option maxHeartbeats 4000000 in
set_option maxRecDepth 100000 in
theorem draw63 {plain:Bool} {n8:Nat} {e:S40} {F:Option Addr} {f:Nat} {wc:World} {u3 u5 u9 u10 u11 u12 u13 u14 u15 u16 u17 u18 u19 u20 u21 u22 u23 u24 u25 u26 u27 u28 u29 u30 u31 u32 u33 u34 u35 u36 u37 u38 u39 u40 u41 u42 u43 u44 u45 u46 u47 u48 u49 u50 u51 u52 u53 u54 u55 u56 u57 u58 u59 u60 u61 u62 u63 u64 u65 u66 u67 u68 u69 u70 u71 u72 u73 u74 u75 u76 u77 u78 u79 u80 u81 u82 u83 u84 u85 u86 u87 u88 u89 u90 u91 u92 u93 u94 u95 u96 u97 u98 u99 u100 u101 u102 u103 u104 u105 u106 u107 u108 u109 u110 u111 u112 u113 u114 u115 u116 u117 u118 u119 u120 u121 u122 u123 u124 u125 u126 u127 u128 u129 u130 u131 u132 u133 u134 u135 u136 u137 u138 u139 u140 u141 u142 u143 u144 u145 u146 u147 u148 u149 u150 u151 u152 u153 u154 u155 u156 u157 u158 u159 u160 u161 u162 u163 u164 u165 u166 u167 u168 u169 u170 u171 u172 u173 u174 u175 u176 u177 u178 u179 u180 u181 u182 u183 u184 u185 u186 u187 u188 u189 u190 u191 u192 u193 u194 u195 u196 u197 u198 u199 u200 u201 u202 u203 u204 u205 u206 u207 u208 u209 u210 u211 u212 u213 u214:Value} (HP:Aside0 (P≤900000)) (HE:Aside0 ((e.f4.f2.length≤8∧TxA e.f4.f1)∧(plain=true→e.f4.f0<3))) (D:Aside0 (DW v w g n8 (P+20) #[.slice A0 G.o.length c0,.slice A1 G.r.length c1,.slice A2 G.w.length c2,.slice A3 G.d.length c3] (evC e F f) F f e.f4.f2 wc)) :
    Code.wp Try.prog (codeAt Try.f102 [true,true,true,true,true,true]) (bodyPost Try.prog Try.f102 (fun en w'=>∃(e:S40) (F:Option Addr) (f:Nat),en=.returned (.agg (evC e F f))∧e.f4.f2.length≤8∧TxA e.f4.f1∧(plain=true→e.f4.f0<3)∧Kd.R (Kd.int .i64) 3 w' w.heap.size (fun _=>True) (.slice F e.f4.f2.length f) e.f4.f2∧Rdr v w' g (P+20)∧Below v.heap.size v w'∧KeepBut w w' g none)) { tmps:=#[.pointer (some ⟨g,0,none⟩),.agg #[.slice A0 G.o.length c0,.slice A1 G.r.length c1,.slice A2 G.w.length c2,.slice A3 G.d.length c3],.bool plain,u3,.pointer (some ⟨w.heap.size,0,none⟩),u5,.pointer (some ⟨w.heap.size+1,0,none⟩),.int .i64 G.r.length,.pointer (some ⟨n8,0,none⟩),u9,u10,u11,u12,u13,u14,u15,u16,u17,u18,u19,u20,u21,u22,u23,u24,u25,u26,u27,u28,u29,u30,u31,u32,u33,u34,u35,u36,u37,u38,u39,u40,u41,u42,u43,u44,u45,u46,u47,u48,u49,u50,u51,u52,u53,u54,u55,u56,u57,u58,u59,u60,u61,u62,u63,u64,u65,u66,u67,u68,u69,u70,u71,u72,u73,u74,u75,u76,u77,u78,u79,u80,u81,u82,u83,u84,u85,u86,u87,u88,u89,u90,u91,u92,u93,u94,u95,u96,u97,u98,u99,u100,u101,u102,u103,u104,u105,u106,u107,u108,u109,u110,u111,u112,u113,u114,u115,u116,u117,u118,u119,u120,u121,u122,u123,u124,u125,u126,u127,u128,u129,u130,u131,u132,u133,u134,u135,u136,u137,u138,u139,u140,u141,u142,u143,u144,u145,u146,u147,u148,u149,u150,u151,u152,u153,u154,u155,u156,u157,u158,u159,u160,u161,u162,u163,u164,u165,u166,u167,u168,u169,u170,u171,u172,u173,u174,u175,u176,u177,u178,u179,u180,u181,u182,u183,u184,u185,u186,u187,u188,u189,u190,u191,u192,u193,u194,u195,u196,u197,u198,u199,u200,u201,u202,u203,u204,u205,u206,u207,u208,u209,u210,u211,u212,u213,u214],defers:=[] } wc:=by
  conv=>arg 2;whnf
  conv=>arg 4;zeta
  obtain⟨q0,q1,q2,q3,q4,q5,q6⟩:=box7 (show (World.heap wc)[n8]?=some (.cells #[.int .i64 e.f0,.int .i64 e.f1,.int .i64 e.f2,.int .i64 e.f3,.int .i64 e.f4.f0,.string e.f4.f1,.slice F e.f4.f2.length f] 40 (0,0))from D.out.eb)
  obtain⟨z0,z1,z2,z3,z4,z5,z6⟩:=frz7 D.out.eb
  obtain⟨o0,o1,o2,o3,o4,o5,o6⟩:=box7 (show wc.heap[w.heap.size+1]?=some (.cells #[.int .i64 0,.int .i64 0,.int .i64 0,.int .i64 0,.int .i64 0,.string ⟨#[]⟩,.slice none 0 0] 40 (0,0))from D.out.d.ob)
  obtain⟨s0,s1,s2,s3,s4,s5,s6⟩:=frz7 D.out.d.ob
  go_wp2
  have h7:=DW.out D.out
  refine bodyPost_ret (results_cell_row rfl _ _ (w.heap.size+1) 40 #[.int .i64 e.f0,.int .i64 e.f1,.int .i64 e.f2,.int .i64 e.f3,.int .i64 e.f4.f0,.string e.f4.f1,.slice F e.f4.f2.length f] (0,0) _ rfl h7.1 Try.underlying40 rfl (by kernel_rfl)) rfl ?_
  exact⟨e,F,f,rfl,HE.out.1.1,HE.out.1.2,HE.out.2,h7.2.1,h7.2.2.1,h7.2.2.2.1,h7.2.2.2.2⟩
end
end
section
section
variable {v w:World} {g lo:Nat} {P:Int} {A0 A1 A2 A3:Option Addr} {c0 c1 c2 c3:Nat} {G:Hp}
set_option maxHeartbeats 4000000 in
set_option maxRecDepth 100000 in
theorem draw50 {plain:Bool} {n8:Nat} {e:S40} {F:Option Addr} {f:Nat} {wc:World} {u3 u5 u9 u10 u11 u12 u13 u14 u15 u16 u17 u18 u19 u20 u21 u22 u23 u24 u25 u26 u27 u28 u29 u30 u31 u32 u33 u34 u35 u36 u37 u38 u39 u40 u41 u42 u43 u44 u45 u46 u47 u48 u49 u50 u51 u52 u53 u54 u55 u56 u57 u58 u59 u60 u61 u62 u63 u64 u65 u66 u67 u68 u69 u70 u71 u72 u73 u74 u75 u76 u77 u78 u79 u80 u81 u82 u83 u84 u85 u86 u87 u88 u89 u90 u91 u92 u93 u94 u95 u96 u97 u98 u99 u100 u101 u102 u103 u104 u105 u106 u107 u108 u109 u110 u111 u112 u113 u114 u115 u116 u117 u118 u119 u120 u121 u122 u123 u124 u125 u126 u127 u128 u129 u130 u131 u132 u133 u134 u135 u136 u137 u138 u139 u140 u141 u142 u143 u144 u145 u146 u147 u148 u149 u150 u151 u152 u153 u154 u155 u156 u157 u158 u159 u160 u161 u162 u163 u164 u165 u166 u167 u168 u169 u170 u171 u172 u173 u174 u175 u176 u177 u178 u179 u180 u181 u182 u183 u184 u185 u186 u187 u188 u189 u190 u191 u192 u193 u194 u195 u196 u197 u198 u199 u200 u201 u202 u203 u204 u205 u206 u207 u208 u209 u210 u211 u212 u213 u214:Value} (HP:Aside0 (P≤900000)) (HE:Aside0 ((e.f4.f2.length≤3∧TxA e.f4.f1)∧(plain=true→e.f4.f0<3))) (D:Aside0 (DW v w g n8 (P+8) #[.slice A0 G.o.length c0,.slice A1 G.r.length c1,.slice A2 G.w.length c2,.slice A3 G.d.length c3] (evC e F f) F f e.f4.f2 wc)) :
    Code.wp Try.prog (codeAt Try.f102 [true,true,true,true,true]) (bodyPost Try.prog Try.f102 (fun en w'=>∃(e:S40) (F:Option Addr) (f:Nat),en=.returned (.agg (evC e F f))∧e.f4.f2.length≤8∧TxA e.f4.f1∧(plain=true→e.f4.f0<3)∧Kd.R (Kd.int .i64) 3 w' w.heap.size (fun _=>True) (.slice F e.f4.f2.length f) e.f4.f2∧Rdr v w' g (P+20)∧Below v.heap.size v w'∧KeepBut w w' g none)) { tmps:=#[.pointer (some ⟨g,0,none⟩),.agg #[.slice A0 G.o.length c0,.slice A1 G.r.length c1,.slice A2 G.w.length c2,.slice A3 G.d.length c3],.bool plain,u3,.pointer (some ⟨w.heap.size,0,none⟩),u5,.pointer (some ⟨w.heap.size+1,0,none⟩),.int .i64 G.r.length,.pointer (some ⟨n8,0,none⟩),u9,u10,u11,u12,u13,u14,u15,u16,u17,u18,u19,u20,u21,u22,u23,u24,u25,u26,u27,u28,u29,u30,u31,u32,u33,u34,u35,u36,u37,u38,u39,u40,u41,u42,u43,u44,u45,u46,u47,u48,u49,u50,u51,u52,u53,u54,u55,u56,u57,u58,u59,u60,u61,u62,u63,u64,u65,u66,u67,u68,u69,u70,u71,u72,u73,u74,u75,u76,u77,u78,u79,u80,u81,u82,u83,u84,u85,u86,u87,u88,u89,u90,u91,u92,u93,u94,u95,u96,u97,u98,u99,u100,u101,u102,u103,u104,u105,u106,u107,u108,u109,u110,u111,u112,u113,u114,u115,u116,u117,u118,u119,u120,u121,u122,u123,u124,u125,u126,u127,u128,u129,u130,u131,u132,u133,u134,u135,u136,u137,u138,u139,u140,u141,u142,u143,u144,u145,u146,u147,u148,u149,u150,u151,u152,u153,u154,u155,u156,u157,u158,u159,u160,u161,u162,u163,u164,u165,u166,u167,u168,u169,u170,u171,u172,u173,u174,u175,u176,u177,u178,u179,u180,u181,u182,u183,u184,u185,u186,u187,u188,u189,u190,u191,u192,u193,u194,u195,u196,u197,u198,u199,u200,u201,u202,u203,u204,u205,u206,u207,u208,u209,u210,u211,u212,u213,u214],defers:=[] } wc:=by
  conv=>arg 2;whnf
  conv=>arg 4;zeta
  go_wp2_with fail
  have hP8:P+8≤1000000:=by have:=HP.out;omega
  refine(pick_c (P:=P+8) 40 D.out.d.r D.out.d.b hP8).mono ?_
  clear hP8
  rintro en w6 ⟨k,rfl,hk,hr,hb,hkk⟩
  replace D:=AK (D.out.pick hr hb hkk)
  clear hr hb hkk
  go_upto_block 7 with fail
  go_cut [] (fun wd=>∃(e:S40) (F:Option Addr) (f:Nat),Aside0 ((e.f4.f2.length≤8∧TxA e.f4.f1)∧(plain=true→e.f4.f0<3))∧Aside0 (DW v w g n8 (P+20) #[.slice A0 G.o.length c0,.slice A1 G.r.length c1,.slice A2 G.w.length c2,.slice A3 G.d.length c3] (evC e F f) F f e.f4.f2 wd))
  case first=>
    rcases(show k=0∨k=1∨k=2∨k=3∨k=4∨k=5∨6≤k by omega)with h|h|h|h|h|h|h
    all_goals clear hk
    · subst h
      go_wp2_with fail
      refine(pick_c (P:=P+8+1) 10 D.out.d.r D.out.d.b (by have:=HP.out;omega)).mono ?_
      rintro en w7 ⟨q,rfl,hk,hr,hb,hkk⟩
      replace D:=AK (D.out.pick hr hb hkk)
      clear hr hb hkk hk
      obtain⟨q0,q1,q2,q3,q4,q5,q6⟩:=box7 (show (World.heap w7)[n8]?=some (.cells #[.int .i64 e.f0,.int .i64 e.f1,.int .i64 e.f2,.int .i64 e.f3,.int .i64 e.f4.f0,.string e.f4.f1,.slice F e.f4.f2.length f] 40 (0,0))from D.out.eb)
      obtain⟨z0,z1,z2,z3,z4,z5,z6⟩:=frz7 D.out.eb
      go_wp2
      go_meet
      case rel=>exact⟨⟨wrap64 (q - 1),e.f1,e.f2,e.f3,e.f4⟩,F,f,⟨⟨⟨show e.f4.f2.length≤8 by have:=HE.out.1.1;omega,HE.out.1.2⟩,HE.out.2⟩⟩,⟨(DW.set D.out 0 (.int .i64 (wrap64 (q - 1))) (evC ⟨wrap64 (q - 1),e.f1,e.f2,e.f3,e.f4⟩ F f) rfl).more (by omega)⟩⟩
    · subst h
      go_wp2_with ((with_reducible refine gate_dst (N:=174) rfl ?_);refine Kd.R_lit (Kd.int .i64) (w0:=w6) w6.heap.size 3 ?hg (N:=174) ?hd (xs:=([-1,(G.r.length:Int)]:List Int)) (inner:=[.int .i64 (-1),.int .i64 (G.r.length:Int)]) (ok:=fun k=>k≠g) (okp:=fun _=>False) ?hr ?hp (fun _ hk=>hk.elim) ?hf (Below.refl _ _) (Nat.le_refl _) (by simp) ?_;(case hd=>rfl);(case hg=>rfl);(case hr=>first|(go_simp;done)|(go_simp;rfl));(case hp=>exact(Reps.one (show Kd.M (Kd.int .i64) _ _ _ (-1) [.int .i64 (-1)]from rfl) (Reps.one (show Kd.M (Kd.int .i64) _ _ _ ((G.r.length:Int)) [.int .i64 (G.r.length:Int)]from rfl) (Reps.none _ _))));(case hf=>have:=D.out.d.r.lt;omega);intro v63 w8 hs hb hg hn;obtain⟨S,cS,hv⟩:=Kd.R_slice hs;subst hv;have D2:=AK (D.out.below (gb_none hg));have HS:=AK hs;clear hb hg hn hs)
      refine(pick_c (P:=P+8+1) 2 D2.out.d.r D2.out.d.b (by have:=HP.out;omega)).mono ?_
      rintro en w7 ⟨q,rfl,hk,hr,hb,hkk⟩
      have D3:=AK (D2.out.pick hr hb hkk)
      have HS2:=AK (Kd.R_keep HS.out hkk (fun _ h=>h))
      clear hr hb hkk D D2 HS
      have D:=D3
      clear D3
      obtain⟨ad,e1,hq⟩:=Kd.at_int (Kd.R_reads' HS2.out).2.2 q hk.1 (hk.2.1 (by omega))
      subst e1
      have hi0:=eq_true hk.1
      have hi1:=eq_true (show q<2 from hk.2.1 (by omega))
      generalize hr2:rd ([-1,(G.r.length:Int)]:List Int) q=r2 at hq
      clear hr2 hk
      obtain⟨q0,q1,q2,q3,q4,q5,q6⟩:=box7 (show (World.heap w7)[n8]?=some (.cells #[.int .i64 e.f0,.int .i64 e.f1,.int .i64 e.f2,.int .i64 e.f3,.int .i64 e.f4.f0,.string e.f4.f1,.slice F e.f4.f2.length f] 40 (0,0))from D.out.eb)
      obtain⟨z0,z1,z2,z3,z4,z5,z6⟩:=frz7 D.out.eb
      go_wp2
      go_meet
      case rel=>exact⟨⟨e.f0,r2,e.f2,e.f3,e.f4⟩,F,f,⟨⟨⟨show e.f4.f2.length≤8 by have:=HE.out.1.1;omega,HE.out.1.2⟩,HE.out.2⟩⟩,⟨(DW.set D.out 1 (.int .i64 r2) (evC ⟨e.f0,r2,e.f2,e.f3,e.f4⟩ F f) rfl).more (by omega)⟩⟩
    · subst h
      go_wp2_with ((with_reducible refine gate_dst (N:=182) rfl ?_);refine Kd.R_lit (Kd.int .i64) (w0:=w6) w6.heap.size 3 ?hg (N:=182) ?hd (xs:=([-1,9]:List Int)) (inner:=[.int .i64 (-1),.int .i64 9]) (ok:=fun k=>k≠g) (okp:=fun _=>False) ?hr ?hp (fun _ hk=>hk.elim) ?hf (Below.refl _ _) (Nat.le_refl _) (by simp) ?_;(case hd=>rfl);(case hg=>rfl);(case hr=>first|(go_simp;done)|(go_simp;rfl));(case hp=>exact(Reps.one (show Kd.M (Kd.int .i64) _ _ _ (-1) [.int .i64 (-1)]from rfl) (Reps.one (show Kd.M (Kd.int .i64) _ _ _ (9) [.int .i64 9]from rfl) (Reps.none _ _))));(case hf=>have:=D.out.d.r.lt;omega);intro v63 w8 hs hb hg hn;obtain⟨S,cS,hv⟩:=Kd.R_slice hs;subst hv;have D2:=AK (D.out.below (gb_none hg));have HS:=AK hs;clear hb hg hn hs)
      refine(pick_c (P:=P+8+1) 2 D2.out.d.r D2.out.d.b (by have:=HP.out;omega)).mono ?_
      rintro en w7 ⟨q,rfl,hk,hr,hb,hkk⟩
      have D3:=AK (D2.out.pick hr hb hkk)
      have HS2:=AK (Kd.R_keep HS.out hkk (fun _ h=>h))
      clear hr hb hkk D D2 HS
      have D:=D3
      clear D3
      obtain⟨ad,e1,hq⟩:=Kd.at_int (Kd.R_reads' HS2.out).2.2 q hk.1 (hk.2.1 (by omega))
      subst e1
      have hi0:=eq_true hk.1
      have hi1:=eq_true (show q<2 from hk.2.1 (by omega))
      generalize hr2:rd ([-1,9]:List Int) q=r2 at hq
      clear hr2 hk
      obtain⟨q0,q1,q2,q3,q4,q5,q6⟩:=box7 (show (World.heap w7)[n8]?=some (.cells #[.int .i64 e.f0,.int .i64 e.f1,.int .i64 e.f2,.int .i64 e.f3,.int .i64 e.f4.f0,.string e.f4.f1,.slice F e.f4.f2.length f] 40 (0,0))from D.out.eb)
      obtain⟨z0,z1,z2,z3,z4,z5,z6⟩:=frz7 D.out.eb
      go_wp2
      go_meet
      case rel=>exact⟨⟨e.f0,e.f1,e.f2,r2,e.f4⟩,F,f,⟨⟨⟨show e.f4.f2.length≤8 by have:=HE.out.1.1;omega,HE.out.1.2⟩,HE.out.2⟩⟩,⟨(DW.set D.out 3 (.int .i64 r2) (evC ⟨e.f0,e.f1,e.f2,r2,e.f4⟩ F f) rfl).more (by omega)⟩⟩
    · subst h
      go_wp2_with ((with_reducible refine gate_dst (N:=191) rfl ?_);refine Kd.R_lit (Kd.int .i64) (w0:=w6) w6.heap.size 3 ?hg (N:=191) ?hd (xs:=([-1,(G.r.length:Int)]:List Int)) (inner:=[.int .i64 (-1),.int .i64 (G.r.length:Int)]) (ok:=fun k=>k≠g) (okp:=fun _=>False) ?hr ?hp (fun _ hk=>hk.elim) ?hf (Below.refl _ _) (Nat.le_refl _) (by simp) ?_;(case hd=>rfl);(case hg=>rfl);(case hr=>first|(go_simp;done)|(go_simp;rfl));(case hp=>exact(Reps.one (show Kd.M (Kd.int .i64) _ _ _ (-1) [.int .i64 (-1)]from rfl) (Reps.one (show Kd.M (Kd.int .i64) _ _ _ ((G.r.length:Int)) [.int .i64 (G.r.length:Int)]from rfl) (Reps.none _ _))));(case hf=>have:=D.out.d.r.lt;omega);intro v63 w8 hs hb hg hn;obtain⟨S,cS,hv⟩:=Kd.R_slice hs;subst hv;have D2:=AK (D.out.below (gb_none hg));have HS:=AK hs;clear hb hg hn hs)
      refine(pick_c (P:=P+8+1) 2 D2.out.d.r D2.out.d.b (by have:=HP.out;omega)).mono ?_
      rintro en w7 ⟨q,rfl,hk,hr,hb,hkk⟩
      have D3:=AK (D2.out.pick hr hb hkk)
      have HS2:=AK (Kd.R_keep HS.out hkk (fun _ h=>h))
      clear hr hb hkk D D2 HS
      have D:=D3
      clear D3
      obtain⟨ad,e1,hq⟩:=Kd.at_int (Kd.R_reads' HS2.out).2.2 q hk.1 (hk.2.1 (by omega))
      subst e1
      have hi0:=eq_true hk.1
      have hi1:=eq_true (show q<2 from hk.2.1 (by omega))
      generalize hr2:rd ([-1,(G.r.length:Int)]:List Int) q=r2 at hq
      clear hr2 hk
      obtain⟨q0,q1,q2,q3,q4,q5,q6⟩:=box7 (show (World.heap w7)[n8]?=some (.cells #[.int .i64 e.f0,.int .i64 e.f1,.int .i64 e.f2,.int .i64 e.f3,.int .i64 e.f4.f0,.string e.f4.f1,.slice F e.f4.f2.length f] 40 (0,0))from D.out.eb)
      obtain⟨z0,z1,z2,z3,z4,z5,z6⟩:=frz7 D.out.eb
      go_wp2
      go_meet
      case rel=>exact⟨⟨e.f0,e.f1,r2,e.f3,e.f4⟩,F,f,⟨⟨⟨show e.f4.f2.length≤8 by have:=HE.out.1.1;omega,HE.out.1.2⟩,HE.out.2⟩⟩,⟨(DW.set D.out 2 (.int .i64 r2) (evC ⟨e.f0,e.f1,r2,e.f3,e.f4⟩ F f) rfl).more (by omega)⟩⟩
    · subst h
      obtain⟨q0,q1,q2,q3,q4,q5,q6⟩:=box7 (show (World.heap w6)[n8]?=some (.cells #[.int .i64 e.f0,.int .i64 e.f1,.int .i64 e.f2,.int .i64 e.f3,.int .i64 e.f4.f0,.string e.f4.f1,.slice F e.f4.f2.length f] 40 (0,0))from D.out.eb)
      obtain⟨z0,z1,z2,z3,z4,z5,z6⟩:=frz7 D.out.eb
      obtain⟨y,ey⟩:∃y,y=(e.f4.f2++[-1,(G.r.length:Int),0,0,0]):=⟨_,rfl⟩
      have EY:=AK ey
      clear ey
      go_wp2_with (first|((with_reducible refine gate_dst (N:=203) rfl ?_);refine Kd.R_lit (Kd.int .i64) (w0:=w6) w6.heap.size 3 ?hg (N:=203) ?hd (xs:=([-1,(G.r.length:Int),0,0,0]:List Int)) (inner:=[.int .i64 (-1),.int .i64 ((G.r.length:Int)),.int .i64 (0),.int .i64 (0),.int .i64 (0)]) (ok:=fun _=>True) (okp:=fun _=>False) ?hr ?hp (fun _ hk=>hk.elim) trivial (Below.refl _ _) (Nat.le_refl _) (by simp) ?_;(case hd=>rfl);(case hg=>rfl);(case hr=>first|(go_simp;done)|(go_simp;rfl));(case hp=>exact(Reps.one (show Kd.M (Kd.int .i64) _ _ _ (-1) [.int .i64 (-1)]from rfl) (Reps.one (show Kd.M (Kd.int .i64) _ _ _ ((G.r.length:Int)) [.int .i64 ((G.r.length:Int))]from rfl) (Reps.one (show Kd.M (Kd.int .i64) _ _ _ (0) [.int .i64 (0)]from rfl) (Reps.one (show Kd.M (Kd.int .i64) _ _ _ (0) [.int .i64 (0)]from rfl) (Reps.one (show Kd.M (Kd.int .i64) _ _ _ (0) [.int .i64 (0)]from rfl) (Reps.none _ _)))))));intro v63 w8 hs hb hg hn;obtain⟨S,cS,hv⟩:=Kd.R_slice hs;subst hv;have D2:=AK (D.out.below (gb_none hg));have HS:=AK hs;clear hb hg hn hs)|((with_reducible refine gate_dst (N:=204) rfl ?_);at_builtin;refine Kd.R_append_rows (Kd.int .i64) (w0:=w8) w.heap.size rfl (.tmp 201) (.tmp 203) 25 3 (.int .i64 0) 8 rfl Try.underlying25 info3 rfl (by decide) (by omega) (.slice F e.f4.f2.length f) e.f4.f2 [-1,(G.r.length:Int),0,0,0] S 5 cS (fun _=>True) (fun _=>False) rfl rfl ?aO ?aR (fun _ _ h=>h) (fun _ h=>h.elim) (fun _ _=>trivial) (Below.refl _ _) ?aS ?aL ?_;(case aO=>exact D2.out.eo);(case aR=>exact(Kd.R_reads' HS.out).2.2);(case aS=>exact D2.out.d.k.1);(case aL=>have:=HE.out.1.1;omega);intro v66 w9 ho hb hg hat;rw[←EY.out]at ho;obtain⟨F2,f2_,ee⟩:=Kd.R_slice ho;subst ee;have D3:=AK (D2.out.grown hg ho);clear ho hb hg hat;obtain⟨q0,q1,q2,q3,q4,q5,q6⟩:=box7 (show (World.heap w9)[n8]?=some (.cells #[.int .i64 e.f0,.int .i64 e.f1,.int .i64 e.f2,.int .i64 e.f3,.int .i64 e.f4.f0,.string e.f4.f1,.slice F e.f4.f2.length f] 40 (0,0))from D3.out.eb);obtain⟨z0,z1,z2,z3,z4,z5,z6⟩:=frz7 D3.out.eb))
      go_meet
      case rel=>exact⟨⟨e.f0,e.f1,e.f2,e.f3,⟨e.f4.f0,e.f4.f1,y⟩⟩,F2,f2_,⟨⟨by show y.length≤8;rw[EY.out,List.length_append];have:=HE.out.1.1;simp;omega,HE.out.1.2⟩,HE.out.2⟩,⟨(DW.set D3.out 6 (.slice F2 y.length f2_) (evC ⟨e.f0,e.f1,e.f2,e.f3,⟨e.f4.f0,e.f4.f1,y⟩⟩ F2 f2_) rfl).more (by omega)⟩⟩
    · subst h
      go_wp2_with ((with_reducible refine gate_dst (N:=210) rfl ?_);refine Kd.R_lit Kd.string (w0:=w6) w6.heap.size 9 ?hg (N:=210) ?hd (xs:=([⟨#[]⟩,⟨#[65]⟩,⟨#[120]⟩,⟨#[116,104,105,114,116,101,101,110,98,121,116,101,115]⟩]:List ByteArray)) (inner:=[.string ⟨#[]⟩,.string ⟨#[65]⟩,.string ⟨#[120]⟩,.string ⟨#[116,104,105,114,116,101,101,110,98,121,116,101,115]⟩]) (ok:=fun k=>k≠g) (okp:=fun _=>False) ?hr ?hp (fun _ hk=>hk.elim) ?hf (Below.refl _ _) (Nat.le_refl _) (by simp) ?_;(case hd=>rfl);(case hg=>rfl);(case hr=>first|(go_simp;done)|(go_simp;rfl));(case hp=>exact(Reps.one (show Kd.M Kd.string _ _ _ (⟨#[]⟩:ByteArray) [.string ⟨#[]⟩]from rfl) (Reps.one (show Kd.M Kd.string _ _ _ (⟨#[65]⟩:ByteArray) [.string ⟨#[65]⟩]from rfl) (Reps.one (show Kd.M Kd.string _ _ _ (⟨#[120]⟩:ByteArray) [.string ⟨#[120]⟩]from rfl) (Reps.one (show Kd.M Kd.string _ _ _ (⟨#[116,104,105,114,116,101,101,110,98,121,116,101,115]⟩:ByteArray) [.string ⟨#[116,104,105,114,116,101,101,110,98,121,116,101,115]⟩]from rfl) (Reps.none _ _))))));(case hf=>have:=D.out.d.r.lt;omega);intro v63 w8 hs hb hg hn;obtain⟨S,cS,hv⟩:=Kd.R_slice hs;subst hv;have D2:=AK (D.out.below hb);have HS:=AK hs;clear hb hg hn hs)
      refine(of_c (P:=P+8+1) (ts:=[⟨#[]⟩,⟨#[65]⟩,⟨#[120]⟩,⟨#[116,104,105,114,116,101,101,110,98,121,116,101,115]⟩]) D2.out.d.r D2.out.d.b (by have:=HP.out;omega) (Kd.R_reads' HS.out).2.2 (Kd.R_reads' HS.out).2.1 (fun ad e _=>HS.out.1 ad.block (by rw[e];rfl)) (by simp)).mono ?_
      rintro en w9 ⟨t,rfl,ht,hr,hb,hk⟩
      have D3:=AK (D2.out.pick hr hb hk)
      have HT:=AK (tx_b t ht)
      clear hr hb hk ht D D2 HS
      have D:=D3
      clear D3
      obtain⟨q0,q1,q2,q3,q4,q5,q6⟩:=box7 (show (World.heap w9)[n8]?=some (.cells #[.int .i64 e.f0,.int .i64 e.f1,.int .i64 e.f2,.int .i64 e.f3,.int .i64 e.f4.f0,.string e.f4.f1,.slice F e.f4.f2.length f] 40 (0,0))from D.out.eb)
      obtain⟨z0,z1,z2,z3,z4,z5,z6⟩:=frz7 D.out.eb
      go_wp2
      go_meet
      case rel=>exact⟨⟨e.f0,e.f1,e.f2,e.f3,⟨e.f4.f0,t,e.f4.f2⟩⟩,F,f,⟨⟨by have:=HE.out.1.1;show e.f4.f2.length≤8;omega,HT.out⟩,HE.out.2⟩,⟨(DW.set D.out 5 (.string t) (evC ⟨e.f0,e.f1,e.f2,e.f3,⟨e.f4.f0,t,e.f4.f2⟩⟩ F f) rfl).more (by omega)⟩⟩
    · skip
      have c0:(k == 0)=false:=beq_eq_false_iff_ne.2 (by omega)
      have c1:(k == 1)=false:=beq_eq_false_iff_ne.2 (by omega)
      have c2:(k == 2)=false:=beq_eq_false_iff_ne.2 (by omega)
      have c3:(k == 3)=false:=beq_eq_false_iff_ne.2 (by omega)
      have c4:(k == 4)=false:=beq_eq_false_iff_ne.2 (by omega)
      have c5:(k == 5)=false:=beq_eq_false_iff_ne.2 (by omega)
      clear h
      go_wp2
      go_meet
      case rel=>exact⟨e,F,f,⟨⟨⟨show e.f4.f2.length≤8 by have:=HE.out.1.1;omega,HE.out.1.2⟩,HE.out.2⟩⟩,⟨D.out.more (by omega)⟩⟩
  case rest=>
    clear HE D hk
    obtain⟨e,F,f,HE,D⟩:=hcut
    exact ‹∀(a:Act) (w:World),Code.wp Try.prog (codeAt Try.f102 [true,true,true,true,true,true]) _ a w→_› _ _ (draw63 HP HE D)
end
end
end Go.Proofs.Ytigjhfijkdlldaa.H
