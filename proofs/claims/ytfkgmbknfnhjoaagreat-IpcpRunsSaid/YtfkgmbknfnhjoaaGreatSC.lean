/- C -/
import Derived.Test.YtfkgmbknfnhjoaaGreatSA
set_option linter.all false
set_option maxHeartbeats 2000000
namespace Go.Proofs.YtfkgmbknfnhjoaaGreat.Cp
open Lib (hid)
open Go.RowKit
theorem kK (n:Int) (w:World):Calls Tryz.prog 93 #[.int .i64 n] w fun e w'=>e=.returned (.bool (bC n 0 255))∧w=w':=by
 by_cases h1:0≤n
 ·by_cases h2:n≤255
  ·have H:=hid (show bC n 0 255=true by simp[bC,h1,h2])
   go_enter Tryz.func93,Tryz.ntmps93
   go_wp2
   go_ret
   rw[H.out]
   exact⟨rfl,rfl⟩
  ·have H:=hid (show bC n 0 255=false by simp[bC,h2])
   go_enter Tryz.func93,Tryz.ntmps93
   go_wp2
   go_ret
   rw[H.out]
   exact⟨rfl,rfl⟩
 ·have H:=hid (show bC n 0 255=false by simp[bC,h1])
  go_enter Tryz.func93,Tryz.ntmps93
  go_wp2
  go_ret
  rw[H.out]
  exact⟨rfl,rfl⟩
theorem kG (n:Int) (w:World):Calls Tryz.prog 98 #[.int .i64 n] w fun e w'=>e=.returned (.bool (bC n 0 255))∧w=w':=by
 by_cases h1:0≤n
 ·by_cases h2:n≤255
  ·have H:=hid (show bC n 0 255=true by simp[bC,h1,h2])
   go_enter Tryz.func98,Tryz.ntmps98
   go_wp2
   go_ret
   rw[H.out]
   exact⟨rfl,rfl⟩
  ·have H:=hid (show bC n 0 255=false by simp[bC,h2])
   go_enter Tryz.func98,Tryz.ntmps98
   go_wp2
   go_ret
   rw[H.out]
   exact⟨rfl,rfl⟩
 ·have H:=hid (show bC n 0 255=false by simp[bC,h1])
  go_enter Tryz.func98,Tryz.ntmps98
  go_wp2
  go_ret
  rw[H.out]
  exact⟨rfl,rfl⟩
def aV (a b:Int) (n:Nat):Int:=if !bC a 0 255|| !bC b 0 255 then 1 else if 1488<n then 2 else 0
def fZ (a b:Int) (l:List UInt8):List UInt8:=if aV a b l.length=0 then [UInt8.ofNat a.toNat,UInt8.ofNat b.toNat]++bX (l.length+4) 2++l else []
def gK (w:World) (a b:Int) (l:List UInt8) (e:Ending) (w':World):Prop:=
 ∃v,e=.returned (.tuple #[v,.int .i64 (aV a b l.length)])∧Below w.heap.size w w'∧w'.ownsRow w.heap.size 5 1 v (fZ a b l).length ((fZ a b l).map bv)
theorem byte_of {a:Int} (h:bC a 0 255=true): ∃x:UInt8,a=(x.toNat:Int)∧UInt8.ofNat a.toNat=x:=by
 simp only[bC,Bool.and_eq_true,decide_eq_true_eq] at h
 obtain⟨n,rfl⟩:=Int.eq_ofNat_of_zero_le h.1
 have h2:n<256:=by omega
 refine⟨UInt8.ofNat n,?_,by simp⟩
 rw[show(UInt8.ofNat n).toNat=n%256 from by simp,Nat.mod_eq_of_lt h2]
set_option maxRecDepth 100000 in
theorem dZ (a b:Int) (A:Option Addr) (len c:Nat) (l:List UInt8) (w:World) (B:Nat) (hB:B≤w.heap.size) (hA:At w B A (l.map bv)) (hlen:len=l.length) (hl:len≤1000000000):
  Calls Tryz.prog 60 #[.agg #[.int .i64 a,.int .i64 b,.slice A len c]] w (gK w a b l):=by
 have HA:=hid (hA.more hB)
 have HL:=hid hlen
 clear hA hB hlen
 cases h1:bC a 0 255
 focus
  have H:Hid (aV a b l.length=1∧fZ a b l=[]):=by
   have e:aV a b l.length=1:=by simp[aV,h1]
   exact⟨e,by simp[fZ,e]⟩
 rotate_left
 focus
  cases h2:bC b 0 255
 focus
  have H:Hid (aV a b l.length=1∧fZ a b l=[]):=by
   have e:aV a b l.length=1:=by simp[aV,h2]
   exact⟨e,by simp[fZ,e]⟩
 rotate_left
 focus
  by_cases h3:1488<len
 focus
  have H:Hid (aV a b l.length=2∧fZ a b l=[]):=by
   have e:aV a b l.length=2:=by rw[←HL.out];simp[aV,h1,h2,h3]
   exact⟨e,by simp[fZ,e]⟩
 rotate_left
 ·obtain⟨x,hx,hx2⟩:=byte_of h1
  obtain⟨y,hy,hy2⟩:=byte_of h2
  have H:Hid (aV a b l.length=0∧fZ a b l=[x,y]++bX (l.length+4) 2++l):=by
   have e:aV a b l.length=0:=by rw[←HL.out];simp[aV,h1,h2,h3]
   exact⟨e,by simp[fZ,e,hx2,hy2]⟩
  clear hx2 hy2
  subst hx hy
  obtain⟨m,hm,hm2⟩: ∃m:Nat,(4:Int)+(len:Int)=(m:Int)∧m=l.length+4:=⟨l.length+4,by have:=HL.out;omega,rfl⟩
  have HM:=hid hm2
  have hm3:m≤1492:=by have:=HL.out;omega
  have HQ:=hid (show m<18446744073709551616 by omega)
  have HN:=hid (show 2+2+len≤2000000000 by omega)
  have xb:((x.toNat:Nat):Int)<256:=by have:=x.toNat_lt;omega
  have yb:((y.toNat:Nat):Int)<256:=by have:=y.toNat_lt;omega
  have i1:IntKind.u8.wrap (x.toNat:Int)=(x.toNat:Int):=IntWalk.u8_in _ (by omega)
  have i2:IntKind.u8.wrap (y.toNat:Int)=(y.toNat:Int):=IntWalk.u8_in _ (by omega)
  have i3:IntKind.i64.wrap (m:Int)=(m:Int):=IntWalk.i64_in _ (by omega)
  have i4:IntKind.u64.wrap (m:Int)=(m:Int):=IntWalk.u64_in _ (by omega)
  clear hm2
  go_enter Tryz.func60,Tryz.ntmps60
  go_wp2_with (go_at_call 93;refine(kK _ _).mono ?_;rintro e w1 ⟨rfl,rfl⟩)
  go_region_held3 (fun w'=>w'.cell? ⟨w.heap.size,0,none⟩=some (.int .i64 (x.toNat:Int))∧w'.cell? ⟨w.heap.size,1,none⟩=some (.int .i64 (y.toNat:Int))∧w'.cell? ⟨w.heap.size,2,none⟩=some (.slice A len c)) (first|(go_keep;done)|(go_simp;done)|(simp[go_sem];done)) (first|(go_at_call 94;refine(oC m 2 _ HQ.out (by omega) (by omega)).mono ?_;rintro e w1 ⟨v,rfl,hb,ho⟩;obtain⟨xs,d,rfl⟩:=aB hb;clear hb;obtain⟨A2,c2,rfl,-,-⟩:=ownsRow_form ho;have HA2:=hid (At.bq ho);clear ho)|(refine xL (w.alloc (.cells #[.int .i64 (x.toNat:Int),.int .i64 (y.toNat:Int),.slice A len c] 32)) rfl (.tmp 25) (.tmp 31) 30 rfl 5 Tryz.underlying30 dW _ 2 [x,y] rfl (eO (by(repeat(first|((refine aF _ _ _ ?_);(simp[go_sem];done))|((refine(aO _ _ _ _ ?_).trans ?_);(focus (simp[go_sem];done)))|((refine(aC _ _ _ ?_).trans ?_);(focus (simp[go_sem];done)))))) (by simp[go_sem]) (by decide) rfl rfl) _ A2 _ _ (bX m 2) rfl (aP m 2).symm (by omega) (HA2.out.move (by exact aA) (aaE _)) (by exact aA) ?_;intro v' ys d' hown CG hsz;clear CG hsz;have HP:=hid hown;clear hown HA2))
  all_goals
   go_wp2_with (at_builtin;refine nY (w.alloc (.cells #[.int .i64 (x.toNat:Int),.int .i64 (y.toNat:Int),.slice A len c] 32)) rfl (.tmp 33) (.tmp 35) 30 rfl 5 Tryz.underlying30 dW _ (2+2) ([x,y]++bX m 2) rfl HP.out w.heap.size _ _ _ l rfl HL.out HN.out (by simpa[go_sem] using HA.out) (by exact aA) ?_;intro v3 ys2 d2 hown CG hsz;clear CG hsz;have HR:=hid hown;clear hown)
   go_ret2
   refine⟨v3,by rw[H.out.1];rfl,by exact aA,?_⟩
   rw[H.out.2,List.length_append,List.length_append,aP,←HL.out,HL.out,←HM.out,←HL.out]
   exact aK HR.out (by simp)
 all_goals
  go_enter Tryz.func60,Tryz.ntmps60
  go_wp2_with (go_at_call 93;refine(kK _ _).mono ?_;rintro e w1 ⟨rfl,rfl⟩)
  go_ret2
  exact⟨.slice none 0 0,by rw[H.out.1];rfl,by exact aA,by rw[H.out.2];exact aN _ _ _ _⟩
set_option maxRecDepth 100000 in
theorem kT (a b:Int) (A:Option Addr) (len c:Nat) (l:List UInt8) (w:World) (B:Nat) (hB:B≤w.heap.size) (hA:At w B A (l.map bv)) (hlen:len=l.length) (hl:len≤1000000000):
  Calls Tryz.prog 62 #[.agg #[.int .i64 a,.int .i64 b,.slice A len c]] w (gK w a b l):=by
 have HA:=hid (hA.more hB)
 have HL:=hid hlen
 clear hA hB hlen
 cases h1:bC a 0 255
 focus
  have H:Hid (aV a b l.length=1∧fZ a b l=[]):=by
   have e:aV a b l.length=1:=by simp[aV,h1]
   exact⟨e,by simp[fZ,e]⟩
 rotate_left
 focus
  cases h2:bC b 0 255
 focus
  have H:Hid (aV a b l.length=1∧fZ a b l=[]):=by
   have e:aV a b l.length=1:=by simp[aV,h2]
   exact⟨e,by simp[fZ,e]⟩
 rotate_left
 focus
  by_cases h3:1488<len
 focus
  have H:Hid (aV a b l.length=2∧fZ a b l=[]):=by
   have e:aV a b l.length=2:=by rw[←HL.out];simp[aV,h1,h2,h3]
   exact⟨e,by simp[fZ,e]⟩
 rotate_left
 ·obtain⟨x,hx,hx2⟩:=byte_of h1
  obtain⟨y,hy,hy2⟩:=byte_of h2
  have H:Hid (aV a b l.length=0∧fZ a b l=[x,y]++bX (l.length+4) 2++l):=by
   have e:aV a b l.length=0:=by rw[←HL.out];simp[aV,h1,h2,h3]
   exact⟨e,by simp[fZ,e,hx2,hy2]⟩
  clear hx2 hy2
  subst hx hy
  obtain⟨m,hm,hm2⟩: ∃m:Nat,(len:Int)+4=(m:Int)∧m=l.length+4:=⟨l.length+4,by have:=HL.out;omega,rfl⟩
  have HM:=hid hm2
  have hm3:m≤1492:=by have:=HL.out;omega
  have HQ:=hid (show m<18446744073709551616 by omega)
  have HN:=hid (show 2+2+len≤2000000000 by omega)
  have xb:((x.toNat:Nat):Int)<256:=by have:=x.toNat_lt;omega
  have yb:((y.toNat:Nat):Int)<256:=by have:=y.toNat_lt;omega
  have i1:IntKind.u8.wrap (x.toNat:Int)=(x.toNat:Int):=IntWalk.u8_in _ (by omega)
  have i2:IntKind.u8.wrap (y.toNat:Int)=(y.toNat:Int):=IntWalk.u8_in _ (by omega)
  have i3:IntKind.i64.wrap (m:Int)=(m:Int):=IntWalk.i64_in _ (by omega)
  have i4:IntKind.u64.wrap (m:Int)=(m:Int):=IntWalk.u64_in _ (by omega)
  clear hm2
  go_enter Tryz.func62,Tryz.ntmps62
  go_wp2_with (go_at_call 98;refine(kG _ _).mono ?_;rintro e w1 ⟨rfl,rfl⟩)
  go_region_held3 (fun w'=>w'.cell? ⟨w.heap.size,0,none⟩=some (.int .i64 (x.toNat:Int))∧w'.cell? ⟨w.heap.size,1,none⟩=some (.int .i64 (y.toNat:Int))∧w'.cell? ⟨w.heap.size,2,none⟩=some (.slice A len c)) (first|(go_keep;done)|(go_simp;done)|(simp[go_sem];done)) (first|(go_at_call 29;refine(vH m 2 _ HQ.out (by omega) (by omega)).mono ?_;rintro e w1 ⟨v,rfl,hb,ho⟩;obtain⟨xs,d,rfl⟩:=aB hb;clear hb;obtain⟨A2,c2,rfl,-,-⟩:=ownsRow_form ho;have HA2:=hid (At.bq ho);clear ho)|(refine xL (w.alloc (.cells #[.int .i64 (x.toNat:Int),.int .i64 (y.toNat:Int),.slice A len c] 32)) rfl (.tmp 25) (.tmp 31) 30 rfl 5 Tryz.underlying30 dW _ 2 [x,y] rfl (eO (by(repeat(first|((refine aF _ _ _ ?_);(simp[go_sem];done))|((refine(aO _ _ _ _ ?_).trans ?_);(focus (simp[go_sem];done)))|((refine(aC _ _ _ ?_).trans ?_);(focus (simp[go_sem];done)))))) (by simp[go_sem]) (by decide) rfl rfl) _ A2 _ _ (bX m 2) rfl (aP m 2).symm (by omega) (HA2.out.move (by exact aA) (aaE _)) (by exact aA) ?_;intro v' ys d' hown CG hsz;clear CG hsz;have HP:=hid hown;clear hown HA2))
  all_goals
   go_wp2_with (at_builtin;refine nY (w.alloc (.cells #[.int .i64 (x.toNat:Int),.int .i64 (y.toNat:Int),.slice A len c] 32)) rfl (.tmp 33) (.tmp 35) 30 rfl 5 Tryz.underlying30 dW _ (2+2) ([x,y]++bX m 2) rfl HP.out w.heap.size _ _ _ l rfl HL.out HN.out (by simpa[go_sem] using HA.out) (by exact aA) ?_;intro v3 ys2 d2 hown CG hsz;clear CG hsz;have HR:=hid hown;clear hown)
   go_ret2
   refine⟨v3,by rw[H.out.1];rfl,by exact aA,?_⟩
   rw[H.out.2,List.length_append,List.length_append,aP,←HL.out,HL.out,←HM.out,←HL.out]
   exact aK HR.out (by simp)
 all_goals
  go_enter Tryz.func62,Tryz.ntmps62
  go_wp2_with (go_at_call 98;refine(kG _ _).mono ?_;rintro e w1 ⟨rfl,rfl⟩)
  go_ret2
  exact⟨.slice none 0 0,by rw[H.out.1];rfl,by exact aA,by rw[H.out.2];exact aN _ _ _ _⟩
@[go_sem] theorem XM (x:Nat):x≤x+1+1:=by omega
@[go_sem] theorem XV (x:Nat):x<x+1+1:=by omega
@[go_sem] theorem XO (x:Nat):x≤x+1+1+1:=by omega
@[go_sem] theorem XW (x:Nat):x<x+1+1+1:=by omega
@[go_sem] theorem XP (x:Nat):x≤x+1+1+1+1:=by omega
@[go_sem] theorem XY (x:Nat):x<x+1+1+1+1:=by omega
@[go_sem] theorem XQ (x:Nat):x≤x+1+1+1+1+1:=by omega
@[go_sem] theorem XZ (x:Nat):x<x+1+1+1+1+1:=by omega
@[go_sem] theorem XR (x:Nat):x≤x+1+1+1+1+1+1:=by omega
@[go_sem] theorem X0 (x:Nat):x<x+1+1+1+1+1+1:=by omega
@[go_sem] theorem XT (x:Nat):x≤x+1+1+1+1+1+1+1:=by omega
@[go_sem] theorem X3 (x:Nat):x<x+1+1+1+1+1+1+1:=by omega
@[go_sem] theorem XU (x:Nat):x≤x+1+1+1+1+1+1+1+1:=by omega
@[go_sem] theorem X9 (x:Nat):x<x+1+1+1+1+1+1+1+1:=by omega
set_option maxRecDepth 100000 in
theorem F9 (a b:Int) (A1 A2:Option Addr) (n c1 c2:Nat) (l:List UInt8) (w:World) (B:Nat) (hB:B≤w.heap.size) (g1:At w B A1 (l.map bv)) (g2:At w B A2 (l.map bv)) (hn:n=l.length):
  Calls Tryz.prog 65 #[.agg #[.int .i64 a,.int .i64 b,.slice A1 n c1],.agg #[.int .i64 a,.int .i64 b,.slice A2 n c2]] w fun e w'=>e=.returned (.bool true)∧Below w.heap.size w w':=by
 have h1:=g1.more hB
 have h2:=g2.more hB
 clear g1 g2 hB
 have q1: ∀W:World,At W w.heap.size A1 (l.map bv)→(convert 30 9 (.slice A1 n c1)).run Tryz.prog W=.ok (.string ⟨l.toArray⟩) W:=fun W h=>gM Tryz.underlying30 Tryz.underlying5 Tryz.underlying9 hn h
 have q2: ∀W:World,At W w.heap.size A2 (l.map bv)→(convert 30 9 (.slice A2 n c2)).run Tryz.prog W=.ok (.string ⟨l.toArray⟩) W:=fun W h=>gM Tryz.underlying30 Tryz.underlying5 Tryz.underlying9 hn h
 have HN:=hid hn
 clear hn
 go_enter Tryz.func65,Tryz.ntmps65
 go_wp2
 go_ret
 exact⟨rfl,by exact aA⟩
def Gt (w:World) (k id:Int) (l:List UInt8) (e:Ending) (w':World):Prop:=
 ∃v,e=.returned (.agg #[.int .i64 k,.int .i64 id,v])∧Below w.heap.size w w'∧w'.ownsRow w.heap.size 5 1 v (l.take 1488).length ((l.take 1488).map bv)
set_option maxRecDepth 100000 in
theorem qX (k id:Int) (A:Option Addr) (len c:Nat) (l:List UInt8) (w:World) (B:Nat) (hB:B≤w.heap.size) (hA:At w B A (l.map bv)) (hlen:len=l.length) (hl:len≤1000000000) (hlc:len≤c):
  Calls Tryz.prog 172 #[.int .i64 k,.int .i64 id,.slice A len c] w (Gt w k id l):=by
 by_cases h0:len=0
 ·have hl0:l=[]:=List.eq_nil_of_length_eq_zero (by omega)
  subst hl0
  subst h0
  clear hA hB hlen
  go_enter Tryz.func172,Tryz.ntmps172
  go_wp2_with (at_builtin;refine bT _ rfl (.tmp 13) (.tmp 17) 30 rfl 5 Tryz.underlying30 dW _ (by simp) rfl w.heap.size _ 0 _ [] rfl rfl (by omega) (At.nil _ _ _) (by simp only[World.size_alloc];omega) ?_;intro v' ys d hown;obtain⟨A2,c2,rfl,-,-⟩:=ownsRow_form hown;have HO:=hid hown;clear hown)
  all_goals
   refine bodyPost_ret (v:=.agg #[.int .i64 k,.int .i64 id,.slice A2 0 c2]) (by simp[results,Tryz.results172,go_sem]) rfl ⟨.slice A2 0 c2,rfl,?_,?_⟩
   ·exact aA
   ·exact aK (dI HO.out (by simp) (by simp)) (by simp only[World.size_alloc];omega)
 ·obtain⟨b,o,rfl,hb,hc⟩:=hA.get (by simp;omega)
  have HA:=hid (show At w w.heap.size (some ⟨b,o,none⟩) ((l.take 1488).map bv) by rw[List.map_take];exact(hA.more hB).take _)
  have hbw:b<w.heap.size:=by omega
  have c0: ¬c=0:=by omega
  by_cases h:1488<len
  ·have HM:=hid (show 1488=(l.take 1488).length by rw[List.length_take];omega)
   have hcc:(1488:Int)≤(c:Int):=by omega
   clear hA hB hlen hc hb
   go_enter Tryz.func172,Tryz.ntmps172
   go_wp2_with (at_builtin;refine bT _ rfl (.tmp 13) (.tmp 17) 30 rfl 5 Tryz.underlying30 dW _ (by simp) rfl w.heap.size _ 1488 _ (l.take 1488) rfl HM.out (by omega) (HA.out.keep (by exact aA)) (by simp only[World.size_alloc];omega) ?_;intro v' ys d hown;obtain⟨A2,c2,rfl,-,-⟩:=ownsRow_form hown;have HO:=hid hown;clear hown)
   refine bodyPost_ret (v:=.agg #[.int .i64 k,.int .i64 id,.slice A2 1488 c2]) (by simp[results,Tryz.results172,go_sem]) rfl ⟨.slice A2 1488 c2,rfl,?_,?_⟩
   ·exact aA
   ·rw[←HM.out];exact aK (dI HO.out (by simp) (by simp)) (by simp only[World.size_alloc];omega)
  ·have HM:=hid (show len=(l.take 1488).length by rw[List.length_take];omega)
   have hcc:(len:Int)≤(c:Int):=by omega
   have hl1:(0:Int)<(len:Int):=by omega
   clear hA hB hlen hc hb
   go_enter Tryz.func172,Tryz.ntmps172
   go_wp2_with (at_builtin;refine bT _ rfl (.tmp 13) (.tmp 17) 30 rfl 5 Tryz.underlying30 dW _ (by simp) rfl w.heap.size _ len _ (l.take 1488) rfl HM.out (by omega) (HA.out.keep (by exact aA)) (by simp only[World.size_alloc];omega) ?_;intro v' ys d hown;obtain⟨A2,c2,rfl,-,-⟩:=ownsRow_form hown;have HO:=hid hown;clear hown)
   refine bodyPost_ret (v:=.agg #[.int .i64 k,.int .i64 id,.slice A2 len c2]) (by simp[results,Tryz.results172,go_sem]) rfl ⟨.slice A2 len c2,rfl,?_,?_⟩
   ·exact aA
   ·rw[←HM.out];exact aK (dI HO.out (by simp) (by simp)) (by simp only[World.size_alloc];omega)
set_option maxRecDepth 100000 in
theorem gu (k id:Int) (A:Option Addr) (len c:Nat) (l:List UInt8) (w:World) (B:Nat) (hB:B≤w.heap.size) (hA:At w B A (l.map bv)) (hlen:len=l.length) (hl:len≤1000000000) (hlc:len≤c):
  Calls Tryz.prog 136 #[.int .i64 k,.int .i64 id,.slice A len c] w (Gt w k id l):=by
 by_cases h0:len=0
 ·have hl0:l=[]:=List.eq_nil_of_length_eq_zero (by omega)
  subst hl0
  subst h0
  clear hA hB hlen
  go_enter Tryz.func136,Tryz.ntmps136
  go_wp2_with (at_builtin;refine bT _ rfl (.tmp 9) (.tmp 14) 30 rfl 5 Tryz.underlying30 dW _ (by simp) rfl w.heap.size _ 0 _ [] rfl rfl (by omega) (At.nil _ _ _) (by simp only[World.size_alloc];omega) ?_;intro v' ys d hown;obtain⟨A2,c2,rfl,-,-⟩:=ownsRow_form hown;have HO:=hid hown;clear hown)
  all_goals
   refine bodyPost_ret (v:=.agg #[.int .i64 k,.int .i64 id,.slice A2 0 c2]) (by simp[results,Tryz.results136,go_sem]) rfl ⟨.slice A2 0 c2,rfl,?_,?_⟩
   ·exact aA
   ·exact aK (dI HO.out (by simp) (by simp)) (by simp only[World.size_alloc];omega)
 ·obtain⟨b,o,rfl,hb,hc⟩:=hA.get (by simp;omega)
  have HA:=hid (show At w w.heap.size (some ⟨b,o,none⟩) ((l.take 1488).map bv) by rw[List.map_take];exact(hA.more hB).take _)
  have hbw:b<w.heap.size:=by omega
  have c0: ¬c=0:=by omega
  by_cases h:1488<len
  ·have HM:=hid (show 1488=(l.take 1488).length by rw[List.length_take];omega)
   have hcc:(1488:Int)≤(c:Int):=by omega
   clear hA hB hlen hc hb
   go_enter Tryz.func136,Tryz.ntmps136
   go_wp2_with (at_builtin;refine bT _ rfl (.tmp 9) (.tmp 14) 30 rfl 5 Tryz.underlying30 dW _ (by simp) rfl w.heap.size _ 1488 _ (l.take 1488) rfl HM.out (by omega) (HA.out.keep (by exact aA)) (by simp only[World.size_alloc];omega) ?_;intro v' ys d hown;obtain⟨A2,c2,rfl,-,-⟩:=ownsRow_form hown;have HO:=hid hown;clear hown)
   refine bodyPost_ret (v:=.agg #[.int .i64 k,.int .i64 id,.slice A2 1488 c2]) (by simp[results,Tryz.results136,go_sem]) rfl ⟨.slice A2 1488 c2,rfl,?_,?_⟩
   ·exact aA
   ·rw[←HM.out];exact aK (dI HO.out (by simp) (by simp)) (by simp only[World.size_alloc];omega)
  ·have HM:=hid (show len=(l.take 1488).length by rw[List.length_take];omega)
   have hcc:(len:Int)≤(c:Int):=by omega
   have hl1:(0:Int)<(len:Int):=by omega
   clear hA hB hlen hc hb
   go_enter Tryz.func136,Tryz.ntmps136
   go_wp2_with (at_builtin;refine bT _ rfl (.tmp 9) (.tmp 14) 30 rfl 5 Tryz.underlying30 dW _ (by simp) rfl w.heap.size _ len _ (l.take 1488) rfl HM.out (by omega) (HA.out.keep (by exact aA)) (by simp only[World.size_alloc];omega) ?_;intro v' ys d hown;obtain⟨A2,c2,rfl,-,-⟩:=ownsRow_form hown;have HO:=hid hown;clear hown)
   refine bodyPost_ret (v:=.agg #[.int .i64 k,.int .i64 id,.slice A2 len c2]) (by simp[results,Tryz.results136,go_sem]) rfl ⟨.slice A2 len c2,rfl,?_,?_⟩
   ·exact aA
   ·rw[←HM.out];exact aK (dI HO.out (by simp) (by simp)) (by simp only[World.size_alloc];omega)
def oM (id e:Int):Int:=if !bC id 0 255 then 1 else e
def rK (err k:Int):Int:=if err=0 then k else 0
def rL (err:Int) (l:List UInt8):List UInt8:=if err=0 then l.take 1488 else []
def Wh (w:World) (k id err:Int) (l:List UInt8) (e:Ending) (w':World):Prop:=
 ∃v,e=.returned (.tuple #[.agg #[.int .i64 (rK err k),.int .i64 (rK err id),v],.int .i64 err])∧Below w.heap.size w w'∧w'.ownsRow w.heap.size 5 1 v (rL err l).length ((rL err l).map bv)
theorem lK (a b:Int) (l:List UInt8):(fZ a b l).length≤1492:=by
 unfold fZ
 split
 ·rename_i h
  unfold aV at h
  split at h
  ·omega
  ·split at h
   ·omega
   ·simp[aP];omega
 ·simp
theorem oh (a b:Int) (n:Nat):aV a b n=0∨aV a b n=1∨aV a b n=2:=by
 unfold aV;split
 ·exact .inr (.inl rfl)
 ·split
  ·exact .inr (.inr rfl)
  ·exact .inl rfl
set_option maxRecDepth 100000 in
theorem qG (a b:Int) (A:Option Addr) (len c:Nat) (l:List UInt8) (id:Int) (w:World) (B:Nat) (hB:B≤w.heap.size) (hA:At w B A (l.map bv)) (hlen:len=l.length) (hl:len≤1000000000):
  Calls Tryz.prog 161 #[.agg #[.int .i64 a,.int .i64 b,.slice A len c],.int .i64 id] w (Wh w 7 id (oM id (aV a b l.length)) (fZ a b l)):=by
 have HA:=hid (hA.more hB)
 have HL:=hid hlen
 clear hA hB hlen
 cases h1:bC id 0 255
 ·have He:=hid (show oM id (aV a b l.length)=1 by simp[oM,h1])
  rcases oh a b l.length with e0|e0|e0
  all_goals
   have E0:=hid e0
   rw[He.out]
   go_enter Tryz.func161,Tryz.ntmps161
   go_wp2_with (first|(go_at_call 93;refine(kK _ _).mono ?_;rintro e w1 ⟨rfl,rfl⟩)|(go_at_call 60;refine(dZ a b A len c l _ w.heap.size (by simp[go_sem]) (HA.out.keep (by exact aA)) HL.out (by omega)).mono ?_;rintro e w1 ⟨v,rfl,hb,ho⟩;obtain⟨xs1,d1,rfl⟩:=aB hb;clear hb;obtain⟨B1,k1,rfl,hk1,-⟩:=ownsRow_form ho;have ql:=hid ho;have qP:=hid hk1;clear ho hk1)|(go_at_call 172;refine(qX _ _ B1 _ k1 (fZ a b l) _ _ (aaE _) (At.bq ql.out) rfl (by have:=lK a b l;omega) qP.out).mono ?_;rintro e w1 ⟨v,rfl,hb,ho⟩;obtain⟨xs2,d2,rfl⟩:=aB hb;clear hb;obtain⟨B2,k2,rfl,hk2,-⟩:=ownsRow_form ho;have j_:=hid ho;have tF:=hid hk2;clear ho hk2))
   refine bodyPost_ret (v:=.tuple #[.agg #[.int .i64 0,.int .i64 0,.slice none 0 0],.int .i64 1]) (by simp[results,Tryz.results161,go_sem]) rfl ⟨.slice none 0 0,rfl,?_,by exact aN _ _ _ _⟩
   exact aA
 ·rcases oh a b l.length with e0|e0|e0
  ·have He:=hid (show oM id (aV a b l.length)=0 by simp[oM,h1,e0])
   rw[He.out]
   go_enter Tryz.func161,Tryz.ntmps161
   go_wp2_with (first|(go_at_call 93;refine(kK _ _).mono ?_;rintro e w1 ⟨rfl,rfl⟩)|(go_at_call 60;refine(dZ a b A len c l _ w.heap.size (by simp[go_sem]) (HA.out.keep (by exact aA)) HL.out (by omega)).mono ?_;rintro e w1 ⟨v,rfl,hb,ho⟩;obtain⟨xs1,d1,rfl⟩:=aB hb;clear hb;obtain⟨B1,k1,rfl,hk1,-⟩:=ownsRow_form ho;have ql:=hid ho;have qP:=hid hk1;clear ho hk1)|(go_at_call 172;refine(qX _ _ B1 _ k1 (fZ a b l) _ _ (aaE _) (At.bq ql.out) rfl (by have:=lK a b l;omega) qP.out).mono ?_;rintro e w1 ⟨v,rfl,hb,ho⟩;obtain⟨xs2,d2,rfl⟩:=aB hb;clear hb;obtain⟨B2,k2,rfl,hk2,-⟩:=ownsRow_form ho;have j_:=hid ho;have tF:=hid hk2;clear ho hk2))
   refine bodyPost_ret (v:=.tuple #[.agg #[.int .i64 7,.int .i64 id,.slice B2 ((fZ a b l).take 1488).length k2],.int .i64 0]) (by simp[results,Tryz.results161,go_sem]) rfl ⟨.slice B2 ((fZ a b l).take 1488).length k2,rfl,?_,?_⟩
   ·exact aA
   ·exact aK (dI j_.out (by simp[size_ext]) (by simp)) (by simp[size_ext,grow];omega)
  all_goals
   have He:=hid (show oM id (aV a b l.length)=aV a b l.length by simp[oM,h1])
   rw[He.out]
   rw[e0]
   go_enter Tryz.func161,Tryz.ntmps161
   go_wp2_with (first|(go_at_call 93;refine(kK _ _).mono ?_;rintro e w1 ⟨rfl,rfl⟩)|(go_at_call 60;refine(dZ a b A len c l _ w.heap.size (by simp[go_sem]) (HA.out.keep (by exact aA)) HL.out (by omega)).mono ?_;rintro e w1 ⟨v,rfl,hb,ho⟩;obtain⟨xs1,d1,rfl⟩:=aB hb;clear hb;obtain⟨B1,k1,rfl,hk1,-⟩:=ownsRow_form ho;have ql:=hid ho;have qP:=hid hk1;clear ho hk1)|(go_at_call 172;refine(qX _ _ B1 _ k1 (fZ a b l) _ _ (aaE _) (At.bq ql.out) rfl (by have:=lK a b l;omega) qP.out).mono ?_;rintro e w1 ⟨v,rfl,hb,ho⟩;obtain⟨xs2,d2,rfl⟩:=aB hb;clear hb;obtain⟨B2,k2,rfl,hk2,-⟩:=ownsRow_form ho;have j_:=hid ho;have tF:=hid hk2;clear ho hk2))
   refine bodyPost_ret (v:=.tuple #[.agg #[.int .i64 0,.int .i64 0,.slice none 0 0],.int .i64 _]) (by simp[results,Tryz.results161,go_sem]) rfl ⟨.slice none 0 0,rfl,?_,by exact aN _ _ _ _⟩
   exact aA
set_option maxRecDepth 100000 in
theorem D_ (a b:Int) (A:Option Addr) (len c:Nat) (l:List UInt8) (id:Int) (w:World) (B:Nat) (hB:B≤w.heap.size) (hA:At w B A (l.map bv)) (hlen:len=l.length) (hl:len≤1000000000):
  Calls Tryz.prog 92 #[.agg #[.int .i64 a,.int .i64 b,.slice A len c],.int .i64 id] w (Wh w 7 id (oM id (aV a b l.length)) (fZ a b l)):=by
 have HA:=hid (hA.more hB)
 have HL:=hid hlen
 clear hA hB hlen
 cases h1:bC id 0 255
 ·have He:=hid (show oM id (aV a b l.length)=1 by simp[oM,h1])
  rcases oh a b l.length with e0|e0|e0
  all_goals
   have E0:=hid e0
   rw[He.out]
   go_enter Tryz.func92,Tryz.ntmps92
   go_wp2_with (first|(go_at_call 98;refine(kG _ _).mono ?_;rintro e w1 ⟨rfl,rfl⟩)|(go_at_call 62;refine(kT a b A len c l _ w.heap.size (by simp[go_sem]) (HA.out.keep (by exact aA)) HL.out (by omega)).mono ?_;rintro e w1 ⟨v,rfl,hb,ho⟩;obtain⟨xs1,d1,rfl⟩:=aB hb;clear hb;obtain⟨B1,k1,rfl,hk1,-⟩:=ownsRow_form ho;have ql:=hid ho;have qP:=hid hk1;clear ho hk1)|(go_at_call 136;refine(gu _ _ B1 _ k1 (fZ a b l) _ _ (aaE _) (At.bq ql.out) rfl (by have:=lK a b l;omega) qP.out).mono ?_;rintro e w1 ⟨v,rfl,hb,ho⟩;obtain⟨xs2,d2,rfl⟩:=aB hb;clear hb;obtain⟨B2,k2,rfl,hk2,-⟩:=ownsRow_form ho;have j_:=hid ho;have tF:=hid hk2;clear ho hk2))
   refine bodyPost_ret (v:=.tuple #[.agg #[.int .i64 0,.int .i64 0,.slice none 0 0],.int .i64 1]) (by simp[results,Tryz.results92,go_sem]) rfl ⟨.slice none 0 0,rfl,?_,by exact aN _ _ _ _⟩
   exact aA
 ·rcases oh a b l.length with e0|e0|e0
  ·have He:=hid (show oM id (aV a b l.length)=0 by simp[oM,h1,e0])
   rw[He.out]
   go_enter Tryz.func92,Tryz.ntmps92
   go_wp2_with (first|(go_at_call 98;refine(kG _ _).mono ?_;rintro e w1 ⟨rfl,rfl⟩)|(go_at_call 62;refine(kT a b A len c l _ w.heap.size (by simp[go_sem]) (HA.out.keep (by exact aA)) HL.out (by omega)).mono ?_;rintro e w1 ⟨v,rfl,hb,ho⟩;obtain⟨xs1,d1,rfl⟩:=aB hb;clear hb;obtain⟨B1,k1,rfl,hk1,-⟩:=ownsRow_form ho;have ql:=hid ho;have qP:=hid hk1;clear ho hk1)|(go_at_call 136;refine(gu _ _ B1 _ k1 (fZ a b l) _ _ (aaE _) (At.bq ql.out) rfl (by have:=lK a b l;omega) qP.out).mono ?_;rintro e w1 ⟨v,rfl,hb,ho⟩;obtain⟨xs2,d2,rfl⟩:=aB hb;clear hb;obtain⟨B2,k2,rfl,hk2,-⟩:=ownsRow_form ho;have j_:=hid ho;have tF:=hid hk2;clear ho hk2))
   refine bodyPost_ret (v:=.tuple #[.agg #[.int .i64 7,.int .i64 id,.slice B2 ((fZ a b l).take 1488).length k2],.int .i64 0]) (by simp[results,Tryz.results92,go_sem]) rfl ⟨.slice B2 ((fZ a b l).take 1488).length k2,rfl,?_,?_⟩
   ·exact aA
   ·exact aK (dI j_.out (by simp[size_ext]) (by simp)) (by simp[size_ext,grow];omega)
  all_goals
   have He:=hid (show oM id (aV a b l.length)=aV a b l.length by simp[oM,h1])
   rw[He.out]
   rw[e0]
   go_enter Tryz.func92,Tryz.ntmps92
   go_wp2_with (first|(go_at_call 98;refine(kG _ _).mono ?_;rintro e w1 ⟨rfl,rfl⟩)|(go_at_call 62;refine(kT a b A len c l _ w.heap.size (by simp[go_sem]) (HA.out.keep (by exact aA)) HL.out (by omega)).mono ?_;rintro e w1 ⟨v,rfl,hb,ho⟩;obtain⟨xs1,d1,rfl⟩:=aB hb;clear hb;obtain⟨B1,k1,rfl,hk1,-⟩:=ownsRow_form ho;have ql:=hid ho;have qP:=hid hk1;clear ho hk1)|(go_at_call 136;refine(gu _ _ B1 _ k1 (fZ a b l) _ _ (aaE _) (At.bq ql.out) rfl (by have:=lK a b l;omega) qP.out).mono ?_;rintro e w1 ⟨v,rfl,hb,ho⟩;obtain⟨xs2,d2,rfl⟩:=aB hb;clear hb;obtain⟨B2,k2,rfl,hk2,-⟩:=ownsRow_form ho;have j_:=hid ho;have tF:=hid hk2;clear ho hk2))
   refine bodyPost_ret (v:=.tuple #[.agg #[.int .i64 0,.int .i64 0,.slice none 0 0],.int .i64 _]) (by simp[results,Tryz.results92,go_sem]) rfl ⟨.slice none 0 0,rfl,?_,by exact aN _ _ _ _⟩
   exact aA
end Go.Proofs.YtfkgmbknfnhjoaaGreat.Cp
