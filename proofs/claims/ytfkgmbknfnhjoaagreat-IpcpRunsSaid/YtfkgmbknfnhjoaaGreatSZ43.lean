/- Z51 Z49 Z41 Z43 -/
import Derived.Test.YtfkgmbknfnhjoaaGreatSZ7
import Derived.Test.YtfkgmbknfnhjoaaGreatSZ5
import Derived.Test.YtfkgmbknfnhjoaaGreatSZ9
import Derived.Test.YtfkgmbknfnhjoaaGreatSA
import Derived.Lib.SmallJoins
import Derived.Deep.Slices
import Derived.Test.YtfkgmbknfnhjoaaGreatSZ40
set_option linter.all false
set_option linter.ambiguousOpen false
namespace Go.Proofs.YtfkgmbknfnhjoaaGreat
open Go.RowKit
open Ne (Rl bF aD bM dJ aS bN)
open Fs (av hasB)
theorem G6 {c:Cf} {inn ans:Pk} {tick:Int} {acts:List Int} {a:Au} {x:Int}: ∀p∈(fK c inn ans tick acts a x).2,p.code=1→p.data=(Op.encR a.ask).1∨p=ans:=by
 intro p hp h1
 unfold fK at hp
 split at hp
 ·simp at hp
 ·split at hp
  ·simp at hp
  ·split at hp
   ·simp only[List.mem_singleton] at hp;subst hp;exact .inl rfl
   ·split at hp
    ·simp only[List.mem_singleton] at hp;exact .inr hp
    ·split at hp
     ·simp only[List.mem_singleton] at hp;exact .inr hp
     ·split at hp
      ·simp only[List.mem_singleton] at hp;subst hp;dsimp only at h1;omega
      ·split at hp
       ·simp only[List.mem_singleton] at hp;subst hp;dsimp only at h1;omega
       ·split at hp
        ·unfold rQ at hp
         split at hp
         ·simp only[List.mem_singleton] at hp;subst hp;dsimp only at h1;omega
         ·simp at hp
        ·split at hp
         ·simp only[List.mem_singleton] at hp;exact .inr hp
         ·simp at hp
theorem wR (c:Cf) (inn ans:Pk) (tick:Int) (acts:List Int) (a:Au) (x:Int):(fK c inn ans tick acts a x).1.ask=a.ask:=jQ c inn ans tick acts [x] (a,[])
theorem Bd {c:Cf} {inn ans:Pk} {tick:Int} {acts:List Int}: ∀(l:List Int) (s:Au×List Pk),(∀p∈s.2,p.code=1→p.data=(Op.encR s.1.ask).1∨p=ans)→ ∀p∈(fO c inn ans tick acts s l).2,p.code=1→p.data=(Op.encR s.1.ask).1∨p=ans
 |[],s,h=>h
 |x::l,s,h=>by
  have h2:=Bd (c:=c) (inn:=inn) (ans:=ans) (tick:=tick) l ((fK c inn ans tick acts s.1 x).1,s.2++(fK c inn ans tick acts s.1 x).2) (acts:=acts) (by
   intro p hp h1
   dsimp only at hp ⊢
   rw[wR]
   rcases List.mem_append.1 hp with hp|hp
   ·exact h p hp h1
   ·exact G6 p hp h1)
  dsimp only at h2
  rw[wR] at h2
  exact h2
theorem K4 {c:Cf} {a:Au} {e:Int} {inn ans:Pk} {tick:Int}: ∀p∈(jo c a e inn ans tick).2.1,p.code=1→p.data=(Op.encR a.ask).1∨p=ans:=by
 unfold jo
 split
 ·exact Bd _ ({a with st:=Fs.aZ e a.st},[]) (fun p hp=>by cases hp)
 ·intro p hp;cases hp
theorem G9 (R:List Rl) (L:List bF) (n m:Int):(aS R L n m).1≠1:=by
 unfold aS
 split
 ·decide
 ·split
  ·dsimp only;decide
  ·split
   ·dsimp only;decide
   ·split
    ·dsimp only;decide
    ·dsimp only;decide
def o_ (own:Int) (L:List bF):Prop:=L=fH own∨L=[]
theorem Um {own:Int} {O M:List bF} (h:o_ own O):o_ own (bN O 4 M).1:=by
 unfold bN
 split
 ·exact h
 ·rw[if_neg (by decide),if_pos rfl]
  split
  ·rcases h with rfl|rfl
   ·unfold Ne.fI fH
    simp only[List.foldl_cons,List.foldl_nil]
    unfold Ne.rejStep
    split
    ·exact .inr rfl
    ·exact .inl rfl
   ·exact .inr rfl
  ·exact h
theorem Gd {own:Int} {c:Cf} {a:Au} {inn ans:Pk} {e:Int} {next:List bF} (h:bK c a inn=some (e,ans,next)) (h3:inn.code≠3) (ha:o_ own a.ask):ans.code≠1∧o_ own next:=by
 unfold bK at h
 split at h
 ·unfold fV at h
  split at h
  ·cases h
  ·split at h
   ·cases h
   ·cases h
    exact⟨G9 _ _ _ _,ha⟩
 ·split at h
  ·split at h
   ·cases h;exact⟨by dsimp only;omega,ha⟩
   ·cases h
  ·split at h
   ·rename_i h34
    have h4:inn.code=4:=by rcases h34 with h|h;exact absurd h h3;exact h
    unfold cZ at h
    split at h
    ·cases h
    ·split at h
     ·cases h
      refine⟨by dsimp only;omega,?_⟩
      rw[h4]
      exact Um ha
     ·cases h
   ·split at h
    ·cases h;exact⟨by dsimp only;omega,ha⟩
    ·split at h
     ·cases h;exact⟨by dsimp only;omega,ha⟩
     ·split at h
      ·cases h
      ·split at h
       ·cases h;exact⟨by dsimp only;omega,ha⟩
       ·cases h;exact⟨by dsimp only;omega,ha⟩
def AZ (own:Int) (r:Au×List Pk×List Int):Prop:=o_ own r.1.ask∧ ∀p∈r.2.1,p.code=1→p.data=(Op.encR r.1.ask).1
theorem nJ {own:Int} {c:Cf} {a:Au} {e:Int} {inn ans:Pk} {tick:Int} (ha:o_ own a.ask) (hn:ans.code≠1):AZ own (jo c a e inn ans tick):=by
 refine⟨by rw[fU];exact ha,fun p hp h1=>?_⟩
 rw[fU]
 rcases K4 p hp h1 with h|rfl
 ·exact h
 ·exact absurd h1 hn
theorem iC {own:Int} {a:Au} (ha:o_ own a.ask):AZ own (a,[],[]):=⟨ha,fun p hp=>by cases hp⟩
theorem Dh {own:Int} {c:Cf} {a:Au} {inn:Pk} {tick:Int} (h3:inn.code≠3) (ha:o_ own a.ask):AZ own (eP c a inn tick).1:=by
 unfold eP
 split
 ·exact iC ha
 ·split
  ·exact iC ha
  ·split
   ·exact iC ha
   ·rename_i e ans next hw
    split
    ·exact iC ha
    ·obtain⟨h1,h2⟩:=Gd hw h3 ha
     exact nJ (a:={a with ask:=next}) h2 h1
theorem Fe {mc mt mf wt own peer e tick:Int} {a:Au} (ha:o_ own a.ask):AZ own (iQ mc mt mf wt a own peer e tick):=by
 unfold iQ
 split
 ·exact nJ ha (by dsimp only;omega)
 ·exact iC ha
theorem Aw {mc mt mf wt own peer tick:Int} {a:Au} (ha:o_ own a.ask):AZ own (fM mc mt mf wt a own peer tick):=by
 unfold fM
 split
 ·unfold mh
  split
  ·exact iC ha
  ·exact nJ ha (by dsimp only;omega)
 ·exact iC ha
theorem sD {mc mt mf wt own peer tick:Int} {a:Au} {i:Pk} (ha:o_ own a.ask):AZ own (b_ mc mt mf wt a own peer i tick):=by
 unfold b_
 split
 ·split
  ·split
   ·exact nJ ha (by dsimp only;omega)
   ·exact iC ha
  ·rename_i h3
   split
   ·exact Dh h3 ha
   ·exact nJ ha (by dsimp only;omega)
 ·exact iC ha
theorem Le {mc mt mf wt own peer e tick:Int} {a:Au} (ha:fA a=true):fA (iQ mc mt mf wt a own peer e tick).1=true:=by
 unfold iQ
 split
 ·exact uL ha _ _ _
 ·exact ha
theorem Fg {mc mt mf wt own peer tick:Int} {a:Au} (ha:fA a=true):fA (fM mc mt mf wt a own peer tick).1=true:=by
 unfold fM
 split
 ·exact OA ha
 ·exact ha
theorem xw {mc mt mf wt own peer tick:Int} {a:Au} {i:Pk} (ha:fA a=true):fA (b_ mc mt mf wt a own peer i tick).1=true:=by
 unfold b_
 split
 ·split
  ·split
   ·exact uL ha _ _ _
   ·exact ha
  ·split
   ·exact I6 ha
   ·exact uL ha _ _ _
 ·exact ha
end Go.Proofs.YtfkgmbknfnhjoaaGreat

namespace Go.Proofs.YtfkgmbknfnhjoaaGreat
open Go.ChangeShapes Go.WideShapes Go.ChangeAt Go.RowKit Go.Joins Go.Deep
set_option maxRecDepth 100000
structure KP where
 d:Nat
 e:Int
 kc:Int
 ki:Int
 ai:Option Addr
 ni:Nat
 ci:Nat
 li:List UInt8
 later:Nat
structure TA (W:World) (B b o:Nat) (k:Nat) (x:KP):Prop where
 c0:W.cell? ⟨b,o+k*6,none⟩=some (.int .u8 (x.d:Int))
 c1:W.cell? ⟨b,o+k*6+1,none⟩=some (.int .i64 x.e)
 c2:W.cell? ⟨b,o+k*6+2,none⟩=some (.int .i64 x.kc)
 c3:W.cell? ⟨b,o+k*6+2+1,none⟩=some (.int .i64 x.ki)
 c4:W.cell? ⟨b,o+k*6+2+2,none⟩=some (.slice x.ai x.ni x.ci)
 c5:W.cell? ⟨b,o+k*6+5,none⟩=some (.int .u8 (x.later:Int))
 inn:At W B x.ai (x.li.map bv)
 ni:x.ni=x.li.length
 nc:x.ni≤x.ci
 nl:(x.ni:Int)≤9223372036854775807
 d1:x.d<256
 l1:x.later<256
def uw (W:World) (B:Nat) (A:Option Addr) (L:List KP):Prop:=
 L=[]∨ ∃b o,A=some ⟨b,o,none⟩∧b<B∧ ∀(k:Nat) (hk:k<L.length),TA W B b o k L[k]
theorem uw.keep {W W':World} {B:Nat} {A:Option Addr} {L:List KP} (h:uw W B A L) (hb:Below B W W'):uw W' B A L:=by
 rcases h with h|⟨b,o,rfl,hB,h⟩
 ·exact .inl h
 ·refine .inr ⟨b,o,rfl,hB,fun k hk=>?_⟩
  obtain⟨h0,h1,h2,h3,h4,h5,h6,h7,h8,h9,h10,h11⟩:=h k hk
  exact⟨(hb.cell (p:=⟨b,_,none⟩) hB).trans h0,(hb.cell (p:=⟨b,_,none⟩) hB).trans h1,(hb.cell (p:=⟨b,_,none⟩) hB).trans h2,(hb.cell (p:=⟨b,_,none⟩) hB).trans h3,(hb.cell (p:=⟨b,_,none⟩) hB).trans h4,(hb.cell (p:=⟨b,_,none⟩) hB).trans h5,h6.keep hb,h7,h8,h9,h10,h11⟩
theorem uw.get {W:World} {B:Nat} {A:Option Addr} {L:List KP} (h:uw W B A L) {k:Nat} (hk:k<L.length): ∃b o,A=some ⟨b,o,none⟩∧b<B∧TA W B b o k L[k]:=by
 rcases h with h|⟨b,o,hA,hB,h⟩
 ·subst h;simp at hk
 ·exact⟨b,o,hA,hB,h k hk⟩
theorem IY {H:Type} {enc:TypeId×Value→H} {W:World} {base:Nat} {v:Value} {d:DataW H} {p:List MemPlace} (o:Value.okWide Tryz.prog W .any base 82 v) (h:DataW.Trod enc Tryz.prog W 0 (fun _=>true) true 82 v d p):
  ∃(A:Option Addr) (n c:Nat) (L:List KP),v=.slice A n c∧uw W W.heap.size A L∧n=L.length∧n≤c∧(n:Int)≤9223372036854775807:=by
 obtain⟨a,len,cap,rfl⟩:=okWide_slice Tryz.underlying82 o
 obtain⟨fuel,hf⟩:=h
 rcases open_slice Tryz.underlying82 hf with⟨hcs,-⟩|⟨a',len',cap',m,n,D,Pl,hcs,-,hl,hm,hmm,-,hi⟩
 ·simp only[Value.cells,List.cons.injEq,and_true,Value.slice.injEq] at hcs
  obtain⟨rfl,rfl,rfl⟩:=hcs
  exact⟨none,0,0,[],rfl,.inl rfl,rfl,aaE _,by omega⟩
 ·simp only[Value.cells,List.cons.injEq,and_true,Value.slice.injEq] at hcs
  obtain⟨rfl,rfl,rfl⟩:=hcs
  simp only[if_true] at hmm
  subst hmm
  unfold maxLen at hm
  have hC:Tryz.prog.cellsOf 79=6:=by kernel_rfl
  rw[hC] at hi
  rcases Nat.eq_zero_or_pos len with h0|h0
  ·subst h0
   exact⟨_,0,m,[],rfl,.inl rfl,rfl,Nat.zero_le _,by omega⟩
  ·obtain⟨b,off,spot⟩:=a'
   have Ph: ∀i,i<m→ ∃cs':List Value,(∀j,j<6→W.cell? ((⟨b,off,spot⟩:Addr).add (i*6+j))=cs'[j]?)∧ ∃x:KP,cs'=[.int .u8 (x.d:Int),.int .i64 x.e,.int .i64 x.kc,.int .i64 x.ki,.slice x.ai x.ni x.ci,.int .u8 (x.later:Int)]∧At W W.heap.size x.ai (x.li.map bv)∧x.ni=x.li.length∧x.ni≤x.ci∧(x.ni:Int)≤9223372036854775807∧x.d<256∧x.later<256:=by
    intro i him
    obtain⟨cs',hc,ht'⟩:=hi i him
    obtain⟨ys,n',-,-,hlen,hyl,hf⟩:=DataW.trod_struct Tryz.underlying79 ht'
    obtain⟨_,hcl,hat⟩:=World.cells?_some hc
    refine⟨cs',fun j hj=>by rw[←Go.Deep.add_add];exact hat j hj,?_⟩
    have h6:cs'.length=6:=hcl
    obtain⟨v0,v1,v2,v3,v4,v5,rfl⟩: ∃v0 v1 v2 v3 v4 v5,cs'=[v0,v1,v2,v3,v4,v5]:=by
     match cs',h6 with
     |[v0,v1,v2,v3,v4,v5],_=>exact⟨v0,v1,v2,v3,v4,v5,rfl⟩
    have f0:=hf 0 _ rfl
    have f1:=hf 1 _ rfl
    have f2:=hf 2 _ rfl
    have f3:=hf 3 _ rfl
    have q0:DataW.trod enc Tryz.prog W 0 (fun _=>true) true n' 5 [v0]=ys[0]?:=f0
    have q1:DataW.trod enc Tryz.prog W 0 (fun _=>true) true n' 40 [v1]=ys[1]?:=f1
    have q2:DataW.trod enc Tryz.prog W 0 (fun _=>true) true n' 32 [v2,v3,v4]=ys[2]?:=f2
    have q3:DataW.trod enc Tryz.prog W 0 (fun _=>true) true n' 5 [v5]=ys[3]?:=f3
    have hyl:ys.length=4:=hyl
    rw[List.getElem?_eq_getElem (by omega)] at q0 q1 q2 q3
    obtain⟨x0,e0,-,w0⟩:=DataW.trod_int Tryz.underlying5 q0
    obtain⟨x1,e1,-⟩:=DataW.trod_int Tryz.underlying40 q1
    obtain⟨x5,e5,-,w5⟩:=DataW.trod_int Tryz.underlying5 q3
    obtain⟨zs,n2,-,-,-,hzl,hg⟩:=DataW.trod_struct Tryz.underlying32 q2
    have g0:=hg 0 _ rfl
    have g1:=hg 1 _ rfl
    have g2:=hg 2 _ rfl
    have r0:DataW.trod enc Tryz.prog W 0 (fun _=>true) true n2 3 [v2]=zs[0]?:=g0
    have r1:DataW.trod enc Tryz.prog W 0 (fun _=>true) true n2 3 [v3]=zs[1]?:=g1
    have r2:DataW.trod enc Tryz.prog W 0 (fun _=>true) true n2 30 [v4]=zs[2]?:=g2
    have hzl:zs.length=3:=hzl
    rw[List.getElem?_eq_getElem (by omega)] at r0 r1 r2
    obtain⟨x2,e2,-⟩:=DataW.trod_int Tryz.underlying3 r0
    obtain⟨x3,e3,-⟩:=DataW.trod_int Tryz.underlying3 r1
    obtain⟨A,ln,c,l,e4,hA,hl1,hc1,hb1⟩:=pR r2
    simp only[List.cons.injEq,and_true] at e0 e1 e2 e3 e4 e5
    have b0:0≤x0∧x0≤255:=by simpa[Lit.wf,IntKind.min,IntKind.max,IntKind.signed,IntKind.bits] using w0
    have b5:0≤x5∧x5≤255:=by simpa[Lit.wf,IntKind.min,IntKind.max,IntKind.signed,IntKind.bits] using w5
    obtain⟨j0,rfl⟩:=Int.eq_ofNat_of_zero_le b0.1
    obtain⟨j5,rfl⟩:=Int.eq_ofNat_of_zero_le b5.1
    exact⟨⟨j0,x1,x2,x3,A,ln,c,l,j5⟩,by rw[e0,e1,e2,e3,e4,e5],hA,hl1,hc1,hb1,by simp only;omega,by simp only;omega⟩
   have hcell: ∀i,i<m→(W.cell? ((⟨b,off,spot⟩:Addr).add (i*6))).isSome=true:=fun i hi2=>by
    obtain⟨cs',h1,x,rfl,-⟩:=Ph i hi2
    have:=h1 0 (by omega)
    rw[Nat.add_zero] at this
    rw[this];rfl
   have hc0:=hcell 0 (by omega)
   obtain⟨u0,hu0⟩:=Option.isSome_iff_exists.1 hc0
   have hspot:spot=none:=by simpa[Addr.add] using World.cell?_spot hu0
   subst hspot
   have hlt:b<W.heap.size:=by
    have:=World.block_lt_of_cell? W _ hu0
    simpa[Addr.add] using this
   have each: ∀i,i<m→ ∃x:KP,TA W W.heap.size b off i x:=by
    intro i him
    obtain⟨cs',h1,x,rfl,p1,p2,p3,p4,p5,p6⟩:=Ph i him
    have g: ∀j,j<6→W.cell? ⟨b,off+i*6+j,none⟩=[Value.int .u8 (x.d:Int),.int .i64 x.e,.int .i64 x.kc,.int .i64 x.ki,.slice x.ai x.ni x.ci,.int .u8 (x.later:Int)][j]?:=fun j hj=>by
     have:=h1 j hj
     rwa [zV,←Nat.add_assoc] at this
    exact⟨x,⟨g 0 (by omega),g 1 (by omega),g 2 (by omega),g 3 (by omega),g 4 (by omega),g 5 (by omega),p1,p2,p3,p4,p5,p6⟩⟩
   have:Inhabited KP:=⟨⟨0,0,0,0,none,0,0,[],0⟩⟩
   obtain⟨y,hy⟩:=choose_lt each
   refine⟨some ⟨b,off,none⟩,len,m,(List.range len).map y,rfl,.inr ⟨b,off,rfl,hlt,fun k hk=>?_⟩,by simp,hl,by omega⟩
   simp only[List.getElem_map,List.getElem_range]
   exact hy k (by simp at hk;omega)
end Go.Proofs.YtfkgmbknfnhjoaaGreat

set_option maxHeartbeats 4000000
namespace Go.Proofs.YtfkgmbknfnhjoaaGreat
open Lib (hid)
open Go.RowKit
open Ne (Rl bF aD bM dJ)
end Go.Proofs.YtfkgmbknfnhjoaaGreat

set_option maxHeartbeats 8000000
namespace Go.Proofs.YtfkgmbknfnhjoaaGreat
open Lib (hid)
open Go.RowKit
open Ne (Rl bF aD bM dJ)
theorem JJ {W:World} {X:Nat} {T:TypeId} (H:W.heap[X]? =some (.cells #[.int .i64 0,.int .i64 0,.int .i64 0,.slice none 0 0,.int .i64 0,.int .i64 0,.int .i64 0,.int .i64 0,.int .i64 0] T (0,0))):(((((((((W.setCell ⟨X,0,none⟩ (.int .i64 0)).setCell ⟨X,1,none⟩ (.int .i64 0)).setCell ⟨X,2,none⟩ (.int .i64 0)).setCell ⟨X,3,none⟩ (.slice none 0 0)).setCell ⟨X,4,none⟩ (.int .i64 0)).setCell ⟨X,5,none⟩ (.int .i64 0)).setCell ⟨X,6,none⟩ (.int .i64 0)).setCell ⟨X,7,none⟩ (.int .i64 0)).setCell ⟨X,8,none⟩ (.int .i64 0)).heap[X]? =some (.cells #[.int .i64 0,.int .i64 0,.int .i64 0,.slice none 0 0,.int .i64 0,.int .i64 0,.int .i64 0,.int .i64 0,.int .i64 0] T (0,0)):=rR H rfl _ _ _ _ _ _ _ _ _
def NoP (w:World) (x:Ending) (w':World):Prop:=x=.returned (.tuple #[.agg #[.int .i64 0,.int .i64 0,.int .i64 0,.slice none 0 0,.int .i64 0,.int .i64 0,.int .i64 0,.int .i64 0,.int .i64 0],.int .i64 180])∧Below w.heap.size w w'
set_option maxRecDepth 100000 in
theorem Li (own peer:Int) (w:World) (h: ¬(bC own 1 4294967295=true∧bC peer 1 4294967295=true)):Calls Tryz.prog 35 #[.int .i64 own,.int .i64 peer] w (NoP w):=by
 cases h1:bC own 1 4294967295
 rotate_left
 focus
  have h2:bC peer 1 4294967295=false:=by
   cases h3:bC peer 1 4294967295
   ·rfl
   ·exact absurd ⟨h1,h3⟩ h
 rotate_left
 all_goals
  clear h
  go_enter Tryz.func35,Tryz.ntmps35
  go_upto_region 1 with(fail)
  refine bY (fun W=>W.heap[w.heap.size]? =some (.cells #[.int .i64 0,.int .i64 0,.int .i64 0,.slice none 0 0,.int .i64 0,.int .i64 0,.int .i64 0,.int .i64 0,.int .i64 0] 60 (0,0))∧Below w.heap.size w W) ⟨heap_alloc_new _ _,by exact aA⟩ ?_
  rintro W1 ⟨hz,hb⟩
  have HZ1:=hid hz
  have HB1:=hid hb
  have hs1:=hb.size
  have lz:=aj hz
  obtain⟨z0,z1,z2,z3,z4,z5,z6,z7,z8⟩:=aL hz
  have fz:=frees hz
  clear hz hb
  go_wp2_with ((first|(go_at_call 72;refine(iY _ _ _ _ (by assumption)).mono ?_)|(go_at_call 72;refine(iX _ _ _ _ (by assumption)).mono ?_));rintro e w9 ⟨rfl,rfl⟩)
  generalize hWf:World.setCell _ _ _=Wf
  have hr:Wf.heap[w.heap.size]? =some (.cells #[.int .i64 0,.int .i64 0,.int .i64 0,.slice none 0 0,.int .i64 0,.int .i64 0,.int .i64 0,.int .i64 0,.int .i64 0] 60 (0,0)):=by rw[←hWf];exact JJ HZ1.out
  have hbf:Below w.heap.size w Wf:=by rw[←hWf];exact Below.setCell (Below.setCell (Below.setCell (Below.setCell (Below.setCell (Below.setCell (Below.setCell (Below.setCell (Below.setCell HB1.out (aaE _) _) (aaE _) _) (aaE _) _) (aaE _) _) (aaE _) _) (aaE _) _) (aaE _) _) (aaE _) _) (aaE _) _
  clear hWf z0 z1 z2 z3 z4 z5 z6 z7 z8 fz
  obtain⟨u0,u1,u2,u3,u4,u5,u6,u7,u8⟩:=aL hr
  refine bodyPost_ret (v:=.tuple #[.agg #[.int .i64 0,.int .i64 0,.int .i64 0,.slice none 0 0,.int .i64 0,.int .i64 0,.int .i64 0,.int .i64 0,.int .i64 0],.int .i64 180]) (by simp[results,Tryz.results35,go_sem,u0,u1,u2,u3,u4,u5,u6,u7,u8]) rfl ⟨rfl,hbf⟩
end Go.Proofs.YtfkgmbknfnhjoaaGreat
