/- token.Join, walked through the program's text: what it gives, if it is known which tokens are valid. -/
import Derived.Test.YtjhhnkemeegahaaGreatDoorIP16
import Derived.Shelf.Lays
import Derived.Shelf.Strings.BuilderK
import Derived.Shelf.Strings.Repeat
import Derived.WalkKit
set_option linter.all false
namespace Go.Proofs
open Go.Shelf
set_option maxRecDepth 100000
def Tryz.lays105_ren:Go.Shelf.Ren:=⟨fun|99=>129|105=>68|165=>130|166=>67|169=>71|170=>70|206=>190|212=>128|240=>127|241=>191|263=>188|264=>189|276=>187|277=>226|n=>n,fun|0=>0|3=>3|4=>4|5=>5|9=>9|20=>20|37=>100|46=>148|51=>176|53=>155|70=>99|72=>102|75=>104|76=>105|80=>46|109=>149|127=>152|146=>184|148=>186|164=>182|n=>n,fun n=>n⟩
theorem Tryz.lays105:Go.Proofs.Lays.n105 Tryz.prog Tryz.lays105_ren:={
 mixed:=by kernel_rfl
 f99:=Go.Eng.lz Tryz.func129
 f105:=Go.Eng.lz Tryz.func68
 f165:=Go.Eng.lz Tryz.func130
 f166:=Go.Eng.lz Tryz.func67
 f169:=Go.Eng.lz Tryz.func71
 f170:=Go.Eng.lz Tryz.func70
 f206:=Go.Eng.lz Tryz.func190
 f212:=Go.Eng.lz Tryz.func128
 f240:=Go.Eng.lz Tryz.func127
 f241:=Go.Eng.lz Tryz.func191
 f263:=Go.Eng.lz Tryz.func188
 f264:=Go.Eng.lz Tryz.func189
 f276:=Go.Eng.lz Tryz.func187
 f277:=Go.Eng.lz Tryz.func226
 t0:=Tryz.underlying0
 a0:=Tryz.isAgg0
 z0:=Tryz.sizeOf0
 v0:=Tryz.zeroValue0
 t3:=Tryz.underlying3
 a3:=Tryz.isAgg3
 z3:=Tryz.sizeOf3
 v3:=Tryz.zeroValue3
 t4:=Tryz.underlying4
 a4:=Tryz.isAgg4
 z4:=Tryz.sizeOf4
 v4:=Tryz.zeroValue4
 t5:=Tryz.underlying5
 a5:=Tryz.isAgg5
 z5:=Tryz.sizeOf5
 v5:=Tryz.zeroValue5
 t9:=Tryz.underlying9
 a9:=Tryz.isAgg9
 z9:=Tryz.sizeOf9
 v9:=Tryz.zeroValue9
 t20:=Tryz.underlying20
 a20:=Tryz.isAgg20
 z20:=Tryz.sizeOf20
 v20:=Tryz.zeroValue20
 t37:=Tryz.underlying100
 a37:=Tryz.isAgg100
 z37:=Tryz.sizeOf100
 v37:=Tryz.zeroValue100
 t46:=Tryz.underlying148
 a46:=Tryz.isAgg148
 z46:=Tryz.sizeOf148
 v46:=Tryz.zeroValue148
 t51:=Tryz.underlying176
 a51:=Tryz.isAgg176
 z51:=Tryz.sizeOf176
 v51:=Tryz.zeroValue176
 t53:=Tryz.underlying155
 a53:=Tryz.isAgg155
 z53:=Tryz.sizeOf155
 v53:=Tryz.zeroValue155
 t70:=Tryz.underlying99
 a70:=Tryz.isAgg99
 z70:=Tryz.sizeOf99
 v70:=Tryz.zeroValue99
 t72:=Tryz.underlying102
 a72:=Tryz.isAgg102
 z72:=Tryz.sizeOf102
 v72:=Tryz.zeroValue102
 t75:=Tryz.underlying104
 a75:=Tryz.isAgg104
 z75:=Tryz.sizeOf104
 v75:=Tryz.zeroValue104
 t76:=Tryz.underlying105
 a76:=Tryz.isAgg105
 z76:=Tryz.sizeOf105
 v76:=Tryz.zeroValue105
 t109:=Tryz.underlying149
 a109:=Tryz.isAgg149
 z109:=Tryz.sizeOf149
 v109:=Tryz.zeroValue149
 t127:=Tryz.underlying152
 a127:=Tryz.isAgg152
 z127:=Tryz.sizeOf152
 v127:=Tryz.zeroValue152
 t146:=Tryz.underlying184
 a146:=Tryz.isAgg184
 z146:=Tryz.sizeOf184
 v146:=Tryz.zeroValue184
 t148:=Tryz.underlying186
 a148:=Tryz.isAgg186
 z148:=Tryz.sizeOf186
 v148:=Tryz.zeroValue186
 t164:=Tryz.underlying182
 a164:=Tryz.isAgg182
 z164:=Tryz.sizeOf182
 v164:=Tryz.zeroValue182 }
def Tryz.lays167_ren:Go.Shelf.Ren:=⟨fun|167=>69|240=>127|276=>187|n=>n,fun|0=>0|4=>4|5=>5|9=>9|20=>20|37=>100|70=>99|72=>102|75=>104|80=>46|164=>182|n=>n,fun n=>n⟩
theorem Tryz.lays167:Go.Proofs.Lays.n167 Tryz.prog Tryz.lays167_ren:={
 mixed:=by kernel_rfl
 f167:=Go.Eng.lz Tryz.func69
 f240:=Go.Eng.lz Tryz.func127
 f276:=Go.Eng.lz Tryz.func187
 t0:=Tryz.underlying0
 a0:=Tryz.isAgg0
 z0:=Tryz.sizeOf0
 v0:=Tryz.zeroValue0
 t4:=Tryz.underlying4
 a4:=Tryz.isAgg4
 z4:=Tryz.sizeOf4
 v4:=Tryz.zeroValue4
 t5:=Tryz.underlying5
 a5:=Tryz.isAgg5
 z5:=Tryz.sizeOf5
 v5:=Tryz.zeroValue5
 t9:=Tryz.underlying9
 a9:=Tryz.isAgg9
 z9:=Tryz.sizeOf9
 v9:=Tryz.zeroValue9
 t20:=Tryz.underlying20
 a20:=Tryz.isAgg20
 z20:=Tryz.sizeOf20
 v20:=Tryz.zeroValue20
 t37:=Tryz.underlying100
 a37:=Tryz.isAgg100
 z37:=Tryz.sizeOf100
 v37:=Tryz.zeroValue100
 t70:=Tryz.underlying99
 a70:=Tryz.isAgg99
 z70:=Tryz.sizeOf99
 v70:=Tryz.zeroValue99
 t72:=Tryz.underlying102
 a72:=Tryz.isAgg102
 z72:=Tryz.sizeOf102
 v72:=Tryz.zeroValue102
 t75:=Tryz.underlying104
 a75:=Tryz.isAgg104
 z75:=Tryz.sizeOf104
 v75:=Tryz.zeroValue104
 t164:=Tryz.underlying182
 a164:=Tryz.isAgg182
 z164:=Tryz.sizeOf182
 v164:=Tryz.zeroValue182 }
end Go.Proofs
namespace Go.Proofs.H16
open Go Go.Eng Go.Tk Go.Proofs Go.RowKit Go.Shelf
set_option maxRecDepth 100000
theorem bx:Builder.Extra Tryz.prog Tryz.lays105_ren where
 sizeBuilder:=by kernel_rfl
 liesBuilder:=by kernel_rfl
 t5:=Tryz.underlying5
 a5:=Tryz.isAgg5
 z5:=Tryz.sizeOf5
 v5:=Tryz.zeroValue5
 infoByte:=by kernel_rfl
 cellsByte:=by kernel_rfl
 sizeByte:=by kernel_rfl
 neB5:=by decide
theorem bx':Builder.Extra Tryz.prog Tryz.lays167_ren where
 sizeBuilder:=by kernel_rfl
 liesBuilder:=by kernel_rfl
 t5:=Tryz.underlying5
 a5:=Tryz.isAgg5
 z5:=Tryz.sizeOf5
 v5:=Tryz.zeroValue5
 infoByte:=by kernel_rfl
 cellsByte:=by kernel_rfl
 sizeByte:=by kernel_rfl
 neB5:=by decide
theorem q4s(c:Nat)(w:World)(hc:c<=1000000):Calls Tryz.prog 68 #[.string ⟨#[10]⟩,.int .i64 c] w fun e w'=>e= .returned (.string ⟨(List.replicate c 10).toArray⟩)/\Below w.heap.size w w':=by
 have h:=Any.strings_Repeat Tryz.lays105 bx ⟨#[10]⟩ c w (by omega) (by show 1*c<=_;omega);have e:∀c,Lib.repeatL (⟨#[10]⟩:ByteArray).data.toList c=List.replicate c 10:=by
  intro c
  induction c with
  |zero=>rfl
  |succ c ih=>rw[Lib.repeatL,ih,List.replicate_succ];rfl
 rw[e]at h;exact h
theorem qrb(B:Nat)(bs s:List UInt8)(w:World)(h:Lib.IsBuilderF 102 5 B B (Lib.byteCells bs) w)(hl:bs.length+s.length<=140737488355328)(hB:B<=w.heap.size) :
  Calls Tryz.prog 67 #[.pointer (some ⟨B,0,none⟩),.string ⟨s.toArray⟩] w fun e w'=>e= .returned (.tuple #[.int .i64 s.length,.nilIface])/\Lib.IsBuilderF 102 5 B B (Lib.byteCells (bs++s)) w'/\Below B w w'/\Lib.OthersKept 5 (some B) w w':=by
 have hsz:(⟨s.toArray⟩:ByteArray).size=s.length:=by simp[ByteArray.size]
 refine(Any.Builder_WriteString_k { Tryz.lays105 with } bx B B (Lib.byteCells bs) ⟨s.toArray⟩ w h (by rw[Lib.byteCells_length,hsz];exact hl) hB).mono ?_;rintro e w' ⟨rfl,h1,h2,h3⟩;refine⟨by rw[hsz],?_,h2,h3⟩;rw[Lib.byteCells_append];rw[Lib.strCells_eq]at h1;exact .inr h1
theorem zlj(B:Nat)(bs:List UInt8)(c:UInt8)(w:World)(h:Lib.IsBuilderF 102 5 B B (Lib.byteCells bs) w)(hl:bs.length+1<=140737488355328)(hB:B<=w.heap.size) :
  Calls Tryz.prog 69 #[.pointer (some ⟨B,0,none⟩),.int .u8 c.toNat] w fun e w'=>e= .returned .nilIface/\Lib.IsBuilderF 102 5 B B (Lib.byteCells (bs++[c])) w'/\Below B w w'/\Lib.OthersKept 5 (some B) w w':=by
 refine(Any.Builder_WriteByte_k Tryz.lays167 bx' B B (Lib.byteCells bs) c.toNat w h (by rw[Lib.byteCells_length];exact hl) hB).mono ?_;rintro e w' ⟨rfl,h1,h2,h3⟩;refine⟨rfl,?_,h2,h3⟩;rw[Lib.byteCells_append];exact .inr h1
theorem zfv(B:Nat)(bs:List UInt8)(w:World)(h:Lib.IsBuilderF 102 5 B B (Lib.byteCells bs) w):Calls Tryz.prog 70 #[.pointer (some ⟨B,0,none⟩)] w fun e w'=>e= .returned (.int .i64 bs.length)/\w'=w:=by
 have:=Any.Builder_Len_f { Tryz.lays105 with } B B (Lib.byteCells bs) w h;rw[Lib.byteCells_length]at this;exact this
theorem zlk(B:Nat)(bs:List UInt8)(w:World)(h:Lib.IsBuilderF 102 5 B B (Lib.byteCells bs) w)(hB:B<=w.heap.size):Calls Tryz.prog 71 #[.pointer (some ⟨B,0,none⟩)] w fun e w'=>e= .returned (.string ⟨bs.toArray⟩)/\Below B w w':=by
 refine(Any.Builder_String_any_k { Tryz.lays105 with } bx B B bs w h hB).mono ?_;rintro e w' ⟨rfl,_,h2,_⟩;exact⟨rfl,h2⟩
theorem qRA{B:Nat}{bs:List Value}{w w':World}(h:Lib.IsBuilderF 102 5 B B bs w)(hb:Below w.heap.size w w'):Lib.IsBuilderF 102 5 B B bs w':=by
 have key:∀p,Lib.BuilderAtF 102 5 B B p bs w->Lib.BuilderAtF 102 5 B B p bs w':=by
  intro p h;have hlt:=h.lt;obtain⟨hB,v,hbk,hown,hne⟩:=h;exact⟨hB,v,(hb.block _ hlt).trans hbk,hown.kept (row:=none) ⟨hb.os,hb.tape,hb.output,hb.size,fun k hk _=>hb.block k hk⟩ (by cases hv:v.ownBlock<;>simp),hne⟩
 exact h.elim (fun x=>.inl (key _ x)) (fun x=>.inr (key _ x))
theorem q0x(c:Int)(h0:0<=c)(w:World)(hc:c<=1000000):Calls Tryz.prog 68 #[.string ⟨#[10]⟩,.int .i64 c] w fun e w'=>e= .returned (.string ⟨(List.replicate c.toNat 10).toArray⟩)/\Below w.heap.size w w':=by
 have:=q4s c.toNat w (by omega);rw[Int.toNat_of_nonneg h0]at this;exact this
def znB(l:List Tok)(b o:Nat)(w:World):Prop:=∀(i:Nat) (h:i<l.length),w.cell? ⟨b,o+i*3,none⟩=some (.int .i64 l[i].kind)/\w.cell? ⟨b,o+i*3+1,none⟩=some (.int .i64 l[i].line)/\w.cell? ⟨b,o+i*3+2,none⟩=some (.string ⟨l[i].text.toArray⟩)
def zfp(t:Tok):Value:=.agg #[.int .i64 t.kind,.int .i64 t.line,.string ⟨t.text.toArray⟩]
set_option maxHeartbeats 1000000 in
theorem qTJ{call:qa2}{l:List Tok}{x:Bs×Int}(hb:q37 l=true)(hx:qnJ call 66 l=some x)(w:World)(p:Option Addr)(b o cap:Nat)(hp:0<l.length->p=some ⟨b,o,none⟩)(hbw0:0<l.length->b<w.heap.size)(ht:znB l b o w)
    (hV:∀t∈l,∀q,vO call 66 t=some q-> ∀wr,Below w.heap.size w wr->Calls Tryz.prog 66 #[zfp t] wr fun e w'=>e= .returned (.bool q)/\Below wr.heap.size wr w') :
    Calls Tryz.prog 24 #[.slice p l.length cap] w fun e w'=>e= .returned (.tuple #[.string ⟨x.1.toArray⟩,.int .i64 x.2])/\Below w.heap.size w w':=by
  have hlen:l.length<=1000000:=by
    simp only[q37,jA1,jA6]at hb;exact hb.1
  have hrng:∀t∈l,t.text.length<=1000000/\ -9223372036854775808<=t.line/\t.line<=9223372036854775807:=by
    intro t ht;simp only[q37,jA1,jA6,jAb]at hb;exact hb.2 t ht
  go_enter Tryz.func24,Tryz.ntmps24
  go_wp2
  go_loopw [4,13] (fun n i wr=>∃(k:Nat) (z:Int),k<=l.length/\i= .int .i64 k/\n= .int .i64 z/\Below w.heap.size w wr/\qCY call 66 z (l.drop k)=qCY call 66 1 l) (fun _ i _=>l.length-(Lib.intOf i).toNat)
  case atStart=>exact⟨0,1,jBa _,rfl,rfl,Below.refl _ _,rfl⟩
  case round=>
    obtain⟨k,z,hk,rfl,rfl,hbl,hck⟩:=hrel;by_cases hlt:k<l.length
    · have hbw:=hbw0 (by omega)
      obtain rfl:=hp (by omega);have hdr:l.drop k=l[k]::l.drop (k+1):=(jC8 hlt).symm;obtain⟨t0,t1,t2⟩:=ht k hlt;have c0:wr.cell? ⟨b,o+k*3,none⟩=some (.int .i64 l[k].kind):=by simp only[World.cell?];rw[hbl.block b hbw];exact t0
      have c1:wr.cell? ⟨b,o+k*3+1,none⟩=some (.int .i64 l[k].line):=by simp only[World.cell?];rw[hbl.block b hbw];exact t1
      have c2:wr.cell? ⟨b,o+k*3+2,none⟩=some (.string ⟨l[k].text.toArray⟩):=by simp only[World.cell?];rw[hbl.block b hbw];exact t2
      obtain⟨t,htl⟩:∃t,l[k]=t:=⟨_,rfl⟩;rw[htl]at c0 c1 c2 hdr;have hmem:t∈l:=by rw[<-htl];exact jAi hlt
      rw[hdr]at hck;simp only[qCY]at hck;have hba:Below w.heap.size w (wr.alloc (.cells #[.int .i64 t.kind,.int .i64 t.line,.string ⟨t.text.toArray⟩] 75)):=hbl.alloc hbl.size _;cases hv:vO call 66 t with
      |none=>
        rw[hv]at hck;unfold qnJ at hx;rw[<-hck]at hx;cases hx
      |some q=>
        have cV:=hV t hmem q hv;rw[hv]at hck;cases q with
        |false=>
          have hx0:x=([],1):=by
            unfold qnJ at hx;rw[<-hck]at hx;cases hx;rfl
          subst hx0
          go_wp2_with (go_at_call 66;refine(cV _ hba).mono ?_)
          rintro e w1 rfl hb1;have hb1:Below (wr.heap.size+1) (wr.alloc (.cells #[.int .i64 t.kind,.int .i64 t.line,.string ⟨t.text.toArray⟩] 75)) w1:=hb1
          go_wp2
          go_ret2
          exact⟨rfl,hba.trans (hb1.mono (by have:=hbl.size;omega))⟩
        |true=>
          go_wp2_with (go_at_call 66;refine(cV _ hba).mono ?_)
          rintro e w1 rfl hb1;have hb1:Below (wr.heap.size+1) (wr.alloc (.cells #[.int .i64 t.kind,.int .i64 t.line,.string ⟨t.text.toArray⟩] 75)) w1:=hb1;have d1:w1.cell? ⟨wr.heap.size,1,none⟩=some (.int .i64 t.line):=by
            simp only[World.cell?];rw[hb1.block _ (Nat.lt_succ_self _),heap_alloc_new];rfl
          go_wp2
          · have hlt2:t.line < z:=by assumption
            simp only[jAr hlt2]at hck;have hx0:x=([],1):=by
              unfold qnJ at hx;rw[<-hck]at hx;cases hx;rfl
            subst hx0
            go_ret2
            exact⟨rfl,hba.trans (hb1.mono (by have:=hbl.size;omega))⟩
          · have hge2:¬ t.line < z:=by omega
            simp only[jAm hge2]at hck
            go_roundw
            case rel=>exact⟨k+1,t.line,by omega,by simp,rfl,hba.trans (hb1.mono (by have:=hbl.size;omega)),hck⟩
            case measure=>simp[Lib.intOf];omega
    · obtain rfl:k = l.length:=by omega
      rw[jC0]at hck;simp only[qCY]at hck;have hck1:qCY call 66 1 l=some true:=hck.symm;have hx1:x=jnF 0 1 [] l:=by
        unfold qnJ at hx;rw[hck1]at hx;cases hx;rfl
      subst hx1
      go_wp2
      have hB0:Lib.IsBuilderF 102 5 wr.heap.size wr.heap.size (Lib.byteCells []) (wr.alloc (.cells #[.pointer none,.slice none 0 0] 102)):=Lib.IsBuilderF.of (Lib.fresh_isBuilder 102 5 wr);have hBl0:Below w.heap.size w (wr.alloc (.cells #[.pointer none,.slice none 0 0] 102)):=hbl.alloc hbl.size _;have hBs:=hbl.size;obtain⟨B,hBe⟩:∃B,wr.heap.size=B:=⟨_,rfl⟩;rw[hBe]at hB0 hBs ⊢
      go_loopw [4,31] (fun n i wx=>∃(k:Nat) (z:Int) (acc:Bs),k<=l.length/\i= .int .i64 k/\n= .int .i64 z/\1<=z/\acc.length<=2048/\B<wx.heap.size/\Lib.IsBuilderF 102 5 B B (Lib.byteCells acc) wx/\Below w.heap.size w wx/\qCY call 66 z (l.drop k)=some true/\jnF k z acc (l.drop k)=jnF 0 1 [] l) (fun _ i _=>l.length-(Lib.intOf i).toNat)
      case atStart=>exact⟨0,1,[],jBa _,rfl,rfl,by omega,by simp,by simp[hBe],hB0,hBl0,hck1,rfl⟩
      case round=>
        obtain⟨k,z,acc,hk,rfl,rfl,hz1,hal,hBx,hI,hbx,hck2,hjn⟩:=hrel;by_cases hlt:k<l.length
        · have hbw:=hbw0 (by omega)
          obtain rfl:=hp (by omega);have hdr:l.drop k=l[k]::l.drop (k+1):=(jC8 hlt).symm;obtain⟨t0,t1,t2⟩:=ht k hlt;have c0:wr.cell? ⟨b,o+k*3,none⟩=some (.int .i64 l[k].kind):=by simp only[World.cell?];rw[hbx.block b hbw];exact t0
          have c1:wr.cell? ⟨b,o+k*3+1,none⟩=some (.int .i64 l[k].line):=by simp only[World.cell?];rw[hbx.block b hbw];exact t1
          have c2:wr.cell? ⟨b,o+k*3+2,none⟩=some (.string ⟨l[k].text.toArray⟩):=by simp only[World.cell?];rw[hbx.block b hbw];exact t2
          obtain⟨t,htl⟩:∃t,l[k]=t:=⟨_,rfl⟩;rw[htl]at c0 c1 c2 hdr;have hmem:t∈l:=by rw[<-htl];exact jAi hlt
          have hrt:=hrng t hmem;rw[hdr]at hck2 hjn;obtain⟨hz2,hck3⟩:z<=t.line/\qCY call 66 t.line (l.drop (k+1))=some true:=by
            simp only[qCY]at hck2;split at hck2
            · cases hck2
            · cases hck2
            · split at hck2
              · cases hck2
              · exact⟨by omega,hck2⟩
          clear hck2;simp only[jnF]at hjn;by_cases hgap:t.line-z>2048
          · rw [jAr hgap] at hjn
            go_wp2
            go_ret2
            rw[<-hjn];exact⟨rfl,hbx.alloc hbx.size _⟩
          · rw [jAm hgap] at hjn
            have cR:=q0x (t.line-z) (by omega) (wr.alloc (.cells #[.int .i64 t.kind,.int .i64 t.line,.string ⟨t.text.toArray⟩] 75)) (by omega);have hI0:Lib.IsBuilderF 102 5 B B (Lib.byteCells acc) (wr.alloc (.cells #[.int .i64 t.kind,.int .i64 t.line,.string ⟨t.text.toArray⟩] 75)):=hI.alloc _;have hB0:Below w.heap.size w (wr.alloc (.cells #[.int .i64 t.kind,.int .i64 t.line,.string ⟨t.text.toArray⟩] 75)):=hbx.alloc hbx.size _;have hT0:(wr.alloc (.cells #[.int .i64 t.kind,.int .i64 t.line,.string ⟨t.text.toArray⟩] 75)).heap[wr.heap.size]? = some (.cells #[.int .i64 t.kind,.int .i64 t.line,.string ⟨t.text.toArray⟩] 75 (0,0)):=heap_alloc_new _ _;have hWs:wr.heap.size<(wr.alloc (.cells #[.int .i64 t.kind,.int .i64 t.line,.string ⟨t.text.toArray⟩] 75)).heap.size:=by simp
            have hstep:∀W1,Below (wr.alloc (.cells #[.int .i64 t.kind,.int .i64 t.line,.string ⟨t.text.toArray⟩] 75)).heap.size (wr.alloc (.cells #[.int .i64 t.kind,.int .i64 t.line,.string ⟨t.text.toArray⟩] 75)) W1 ->
                Lib.IsBuilderF 102 5 B B (Lib.byteCells acc) W1/\Below w.heap.size w W1/\W1.heap[wr.heap.size]? = some (.cells #[.int .i64 t.kind,.int .i64 t.line,.string ⟨t.text.toArray⟩] 75 (0,0))/\B<=W1.heap.size:=by
              intro W1 h1;refine⟨qRA hI0 h1,hB0.trans (h1.mono (by have:=hB0.size;exact jAz hbx.size (Nat.le_of_lt hWs))),(h1.block _ hWs).trans hT0,?_⟩;have:=h1.size;omega
            have cS:∀W1,Below (wr.alloc (.cells #[.int .i64 t.kind,.int .i64 t.line,.string ⟨t.text.toArray⟩] 75)).heap.size (wr.alloc (.cells #[.int .i64 t.kind,.int .i64 t.line,.string ⟨t.text.toArray⟩] 75)) W1->_:=fun W1 h1=>qrb B acc (List.replicate (t.line-z).toNat 10) W1 (hstep W1 h1).1 (by simp;omega) (hstep W1 h1).2.2.2
            by_cases hk0:¬0<k
            · have hsp:¬ (k > 0 /\ t.line = z):=fun h=>by omega
              go_wp2_with (first
                |(go_at_call 68;refine cR.mono ?_;rintro e W1 ⟨rfl,h1⟩;clear cR;obtain⟨hI1,hB1,hT1,hBW1⟩:=hstep _ h1)
                | (go_at_call 67
                   refine(cS _ h1).mono ?_;rintro e W2 ⟨rfl,hI2,hb2,hk2⟩;clear cS;have hT2:W2.heap[wr.heap.size]? = some (.cells #[.int .i64 t.kind,.int .i64 t.line,.string ⟨t.text.toArray⟩] 75 (0,0)):=hk2 _ _ hT1 (by simp;omega) (by intro c fz;simp);have hBW2:B<=W2.heap.size:=jAz hBW1 hb2.size;have hB2:Below w.heap.size w W2:=hB1.trans (hb2.mono hBs);have d2:W2.cell? ⟨wr.heap.size,2,none⟩=some (.string ⟨t.text.toArray⟩):=by rw[Lib.cell_of_heap hT2];rfl
                   have cW:=qrb B (acc++List.replicate (t.line-z).toNat 10) t.text W2 hI2 (by simp;omega) hBW2)
                | (go_at_call 67
                   refine cW.mono ?_;rintro e W4 ⟨rfl,hI4,hb4,hk4⟩;clear cW;have hT4:W4.heap[wr.heap.size]? = some (.cells #[.int .i64 t.kind,.int .i64 t.line,.string ⟨t.text.toArray⟩] 75 (0,0)):=hk4 _ _ hT2 (by simp;omega) (by intro c fz;simp);have hBW4:B<=W4.heap.size:=jAz hBW2 hb4.size;have hB4:Below w.heap.size w W4:=hB2.trans (hb4.mono hBs);have d4:W4.cell? ⟨wr.heap.size,1,none⟩=some (.int .i64 t.line):=by rw[Lib.cell_of_heap hT4];rfl
                   have hacc:acc++List.replicate (t.line-z).toNat 10++(if k>0/\t.line=z then[32]else[])++t.text=acc++List.replicate (t.line-z).toNat 10++t.text:=by
                     rw[jAm hsp];simp
                   rw[hacc]at hjn;clear hacc;generalize acc++List.replicate (t.line-z).toNat 10++t.text=acc2 at hI4 hjn;have cL:=zfv B acc2 W4 hI4)
                |(go_at_call 70;refine cL.mono ?_;clear cL;rintro e w' ⟨rfl,hw⟩;rw[hw]))
              · have hbig:2048 < acc2.length:=by omega
                rw[jAr hbig]at hjn
                go_ret2
                rw[<-hjn];exact⟨rfl,hB4⟩
              · have hsm:¬ 2048 < acc2.length:=by omega
                rw[jAm hsm]at hjn
                go_roundw
                case rel=>exact⟨k+1,t.line,acc2,by omega,by simp,rfl,by omega,by omega,by have:=(jBf.1 hT4).1;omega,hI4,hB4,hck3,hjn⟩
                case measure=>simp[Lib.intOf];omega
            · have hk1:0 < k:=by omega
              clear hk0;by_cases hgz:t.line-z=0
              · have hle:t.line <= z:=by omega
                clear hgz
                go_wp2_with (first
                  |(go_at_call 68;refine cR.mono ?_;rintro e W1 ⟨rfl,h1⟩;clear cR;obtain⟨hI1,hB1,hT1,hBW1⟩:=hstep _ h1)
                  | (go_at_call 67
                     refine(cS _ h1).mono ?_;rintro e W2 ⟨rfl,hI2,hb2,hk2⟩;clear cS;have hT2:W2.heap[wr.heap.size]? = some (.cells #[.int .i64 t.kind,.int .i64 t.line,.string ⟨t.text.toArray⟩] 75 (0,0)):=hk2 _ _ hT1 (by simp;omega) (by intro c fz;simp);have hBW2:B<=W2.heap.size:=jAz hBW1 hb2.size;have hB2:Below w.heap.size w W2:=hB1.trans (hb2.mono hBs);have cB:=zlj B _ 32 W2 hI2 (by simp;omega) hBW2)
                  | (go_at_call 69
                     refine cB.mono ?_;rintro e W3 ⟨rfl,hI3,hb3,hk3⟩;clear cB;have hT3:W3.heap[wr.heap.size]? = some (.cells #[.int .i64 t.kind,.int .i64 t.line,.string ⟨t.text.toArray⟩] 75 (0,0)):=hk3 _ _ hT2 (by simp;omega) (by intro c fz;simp);have hBW3:B<=W3.heap.size:=jAz hBW2 hb3.size;have hB3:Below w.heap.size w W3:=hB2.trans (hb3.mono hBs);have d2:W3.cell? ⟨wr.heap.size,2,none⟩=some (.string ⟨t.text.toArray⟩):=by rw[Lib.cell_of_heap hT3];rfl
                     have cW:=qrb B (acc++List.replicate (t.line-z).toNat 10++[32]) t.text W3 hI3 (by simp;omega) hBW3)
                  | (go_at_call 67
                     refine cW.mono ?_;rintro e W4 ⟨rfl,hI4,hb4,hk4⟩;clear cW;have hT4:W4.heap[wr.heap.size]? = some (.cells #[.int .i64 t.kind,.int .i64 t.line,.string ⟨t.text.toArray⟩] 75 (0,0)):=hk4 _ _ hT3 (by simp;omega) (by intro c fz;simp);have hBW4:B<=W4.heap.size:=jAz hBW3 hb4.size;have hB4:Below w.heap.size w W4:=hB3.trans (hb4.mono hBs);have d4:W4.cell? ⟨wr.heap.size,1,none⟩=some (.int .i64 t.line):=by rw[Lib.cell_of_heap hT4];rfl
                     have hacc:acc++List.replicate (t.line-z).toNat 10++(if k>0/\t.line=z then[32]else[])++t.text=acc++List.replicate (t.line-z).toNat 10++[32]++t.text:=by
                       rw[jAr ⟨hk1,by omega⟩]
                     rw[hacc]at hjn;clear hacc;generalize acc++List.replicate (t.line-z).toNat 10++[32]++t.text=acc2 at hI4 hjn;have cL:=zfv B acc2 W4 hI4)
                  |(go_at_call 70;refine cL.mono ?_;clear cL;rintro e w' ⟨rfl,hw⟩;rw[hw]))
                · have hbig:2048 < acc2.length:=by omega
                  rw[jAr hbig]at hjn
                  go_ret2
                  rw[<-hjn];exact⟨rfl,hB4⟩
                · have hsm:¬ 2048 < acc2.length:=by omega
                  rw[jAm hsm]at hjn
                  go_roundw
                  case rel=>exact⟨k+1,t.line,acc2,by omega,by simp,rfl,by omega,by omega,by have:=(jBf.1 hT4).1;omega,hI4,hB4,hck3,hjn⟩
                  case measure=>simp[Lib.intOf];omega
              · have hsp:¬ (k > 0 /\ t.line = z):=fun h=>by omega
                go_wp2_with (first
                  |(go_at_call 68;refine cR.mono ?_;rintro e W1 ⟨rfl,h1⟩;clear cR;obtain⟨hI1,hB1,hT1,hBW1⟩:=hstep _ h1)
                  | (go_at_call 67
                     refine(cS _ h1).mono ?_;rintro e W2 ⟨rfl,hI2,hb2,hk2⟩;clear cS;have hT2:W2.heap[wr.heap.size]? = some (.cells #[.int .i64 t.kind,.int .i64 t.line,.string ⟨t.text.toArray⟩] 75 (0,0)):=hk2 _ _ hT1 (by simp;omega) (by intro c fz;simp);have hBW2:B<=W2.heap.size:=jAz hBW1 hb2.size;have hB2:Below w.heap.size w W2:=hB1.trans (hb2.mono hBs);have d2:W2.cell? ⟨wr.heap.size,2,none⟩=some (.string ⟨t.text.toArray⟩):=by rw[Lib.cell_of_heap hT2];rfl
                     have cW:=qrb B (acc++List.replicate (t.line-z).toNat 10) t.text W2 hI2 (by simp;omega) hBW2)
                  | (go_at_call 67
                     refine cW.mono ?_;rintro e W4 ⟨rfl,hI4,hb4,hk4⟩;clear cW;have hT4:W4.heap[wr.heap.size]? = some (.cells #[.int .i64 t.kind,.int .i64 t.line,.string ⟨t.text.toArray⟩] 75 (0,0)):=hk4 _ _ hT2 (by simp;omega) (by intro c fz;simp);have hBW4:B<=W4.heap.size:=jAz hBW2 hb4.size;have hB4:Below w.heap.size w W4:=hB2.trans (hb4.mono hBs);have d4:W4.cell? ⟨wr.heap.size,1,none⟩=some (.int .i64 t.line):=by rw[Lib.cell_of_heap hT4];rfl
                     have hacc:acc++List.replicate (t.line-z).toNat 10++(if k>0/\t.line=z then[32]else[])++t.text=acc++List.replicate (t.line-z).toNat 10++t.text:=by
                       rw[jAm hsp];simp
                     rw[hacc]at hjn;clear hacc;generalize acc++List.replicate (t.line-z).toNat 10++t.text=acc2 at hI4 hjn;have cL:=zfv B acc2 W4 hI4)
                  |(go_at_call 70;refine cL.mono ?_;clear cL;rintro e w' ⟨rfl,hw⟩;rw[hw]))
                · have hbig:2048 < acc2.length:=by omega
                  rw[jAr hbig]at hjn
                  go_ret2
                  rw[<-hjn];exact⟨rfl,hB4⟩
                · have hsm:¬ 2048 < acc2.length:=by omega
                  rw[jAm hsm]at hjn
                  go_roundw
                  case rel=>exact⟨k+1,t.line,acc2,by omega,by simp,rfl,by omega,by omega,by have:=(jBf.1 hT4).1;omega,hI4,hB4,hck3,hjn⟩
                  case measure=>simp[Lib.intOf];omega
        · obtain rfl:k = l.length:=by omega
          rw[jC0]at hjn;have hjn:(acc,(0:Int))=jnF 0 1 [] l:=hjn;have cT:=zlk B acc wr hI (Nat.le_of_lt hBx)
          go_wp2_with (go_at_call 71;refine cT.mono ?_;clear cT;rintro e W1 ⟨rfl,h1⟩)
          go_ret2
          rw[<-hjn];exact⟨rfl,hbx.trans (h1.mono hBs)⟩
theorem qRy{w w':World}{I I':Imm}{m m':Names}{h':Eng.Heap}(A:Aft w w' I I' m m' [] h'):Below w.heap.size w w':=
 ⟨A.stays.out.1,A.stays.out.2.2,A.stays.out.2.1,A.stays.size,fun k hk=>A.frame k hk (by rintro⟨j,x,L,hj,_⟩;cases hj)⟩
theorem q0d{w:World}{I:Imm}{b:Nat}:∀{l:List Tok} {o:Nat},qDt w I 3 (ET l) b o->znB l b o w/\(0<l.length->I b o)
 | [],o,_=>⟨fun i h=>absurd h (Nat.not_lt_zero _),fun h=>absurd h (Nat.lt_irrefl _)⟩
 |t::l,o,h=>by
  rw[show ET (t::l)=t.av::ET l from rfl,qmB]at h;obtain⟨_,h1,h2⟩:=h;have ih:=(q0d h2).1;simp only[Tok.av,qai,qCV,Rel]at h1;obtain⟨⟨hI,_,_,q0,rfl⟩,⟨_,_,_,q1,rfl⟩,⟨_,_,_,q2,rfl⟩,_⟩:=h1;refine⟨fun i hi=>?_,fun _=>hI⟩;cases i with
  |zero=>exact⟨by simpa[ad]using q0,by simpa[ad]using q1,by simpa[ad]using q2⟩
  |succ i=>
   have:=ih i (by simpa using hi);rw[show o+(i+1)*3=o+3+i*3 by omega];exact this
theorem zef{w:World}{I:Imm}{sz b o:Nat}{t:Tok}{l:List Tok}(h:qDt w I sz (ET (t::l)) b o):sz=3:=by
 rw[show ET (t::l)=t.av::ET l from rfl,qmB]at h;exact h.1.symm
theorem zdE:qP6 Tryz.prog 24 (qml 66):=by
 intro call hc args h r h' hg w I m vs H hm hr;obtain⟨sz,l,x,rfl,rfl,hb,hx,he⟩:=qMO hg;cases he;simp only[qaQ,Rel]at hr;obtain⟨_,_,rfl,⟨a,cap,rfl,hcap,hcells,hz⟩,rfl⟩:=hr;rw[jA5]at hcells;have hV:∀t∈l,∀q,vO call 66 t=some q-> ∀wr,Below w.heap.size w wr->Calls Tryz.prog 66 #[zfp t] wr fun e w'=>e= .returned (.bool q)/\Below wr.heap.size wr w':=by
  intro t _ q hq wr hbl;have hcall:call 66 [t.av] []=some (.ret (.bool q),[]):=by
   unfold vO at hq;split at hq
   ·rename_i b he;cases hq;exact he
   ·cases hq
  have A:=qrr H hbl (I':=I) (fun _ _ h=>h) fun _ _ h=>.inl h
  have hrun:=hc _ _ _ _ _ hcall wr I m [zfp t] A.heap hm (by
   simp only[qaQ,zfp,Tok.av,Rel];exact⟨_,_,rfl,⟨_,rfl,_,_,rfl,rfl,_,_,rfl,rfl,_,_,rfl,rfl,rfl⟩,rfl⟩)
  rcases hrun with⟨_,h⟩|⟨v,h,_⟩
  ·refine h.mono ?_;rintro e w' ⟨I',m',hA,u,rfl,hu⟩;simp only[Rel]at hu;subst hu;exact⟨rfl,qRy hA⟩
  ·have he:(callFunc 66 #[zfp t]).run Tryz.prog wr= .ok (.enter 66 #[zfp t]) wr:=enters_of Tryz.func66 (by kernel_rfl) rfl #[zfp t] wr;rw[he]at h;cases h
 refine .inl ⟨⟨_,Tryz.func24,by kernel_rfl,by kernel_rfl⟩,?_⟩;have walk:∀(p:Option Addr) (b o:Nat),(0<l.length->p=some ⟨b,o,none⟩)->(0<l.length->b<w.heap.size)->znB l b o w->Calls Tryz.prog 24 #[.slice p l.length cap] w (qKN w I m [] (.ret (.tup [.str x.1,.int .i64 x.2])) []):=by
  intro p b o h1 h2 h3;refine(qTJ hb hx w p b o cap h1 h2 h3 hV).mono ?_;rintro e w' ⟨rfl,hbl⟩;refine qb5 H hbl ?_;simp only[Rel,qaQ];exact⟨_,rfl,_,_,rfl,rfl,_,_,rfl,rfl,rfl⟩
 have hlm:(ET l).length=l.length:=jA5 ..;rw[hlm];cases l with
 |nil=>exact walk a 0 0 (fun h=>absurd h (Nat.lt_irrefl _)) (fun h=>absurd h (Nat.lt_irrefl _)) fun i h=>absurd h (Nat.not_lt_zero _)
 |cons t l=>
  rcases hcells with h0|⟨b,o,rfl,hE⟩
  ·cases h0
  ·obtain rfl:=zef hE;obtain⟨q1,q2⟩:=q0d hE;exact walk _ b o (fun _=>rfl) (fun h=>H.old b o (q2 h)) q1
end Go.Proofs.H16
