import PyProof.Rows.All
import Wide.All
import OpenK.AllK
import Wide.FinOn
import PySem.Str
import PyProof.P3Statements
import HandS.ForMost
import HandS.ForExc
import HandS.Conv
import HandS.SortInts
import HandS.SortRule
import HandS.Deep
import HandS.IsInst
import HandS.More
import HandS.Zip
import HandS.DictTup
import HandS.RaiseMore
import HandS.Small
import PyProof.DictMoreH
import HandS.Defaults
import HandS.Comp
import HandS.ExcOwn
import HandS.Ends
import HandS.WordsExc
import KE.KStateDown
import HandS.Head0
import HandS.Head1
import HandS.Head2
import HandS.HeadEnd
import HandS.HeadHook1
import HandS.HeadHook2
import HandS.HeadHook3
import HandS.HeadHook4
import PySem.Challenge.RW_lazyrails_k12_one_step
/-! The names of the given texts: attributes (f), defs (d), classes (c). -/
namespace Rl
inductive Nm where
  | g_ENDS
  | g_PARTS
  | g__law_ranks
  | f_again
  | f_at
  | f_bells
  | f_bit_counts
  | f_bit_lists
  | f_bit_rods
  | f_bump
  | f_callers
  | f_comings
  | f_counter
  | f_door
  | f_door_of
  | f_drop
  | f_engine
  | f_fill
  | f_first_sides
  | f_go_on
  | f_heard
  | f_here
  | f_keep
  | f_kept
  | f_kind
  | f_kind_of
  | f_lay
  | f_lay_all
  | f_lay_call
  | f_lay_doors
  | f_lay_ends
  | f_lay_row
  | f_lead
  | f_leave
  | f_leavings
  | f_lies
  | f_lift
  | f_link
  | f_look_call
  | f_look_counter
  | f_look_deed
  | f_look_end
  | f_look_mark
  | f_look_piece
  | f_look_rod
  | f_look_row
  | f_look_stand
  | f_look_stretch
  | f_many
  | f_mark
  | f_mark_list
  | f_mark_rod
  | f_marks
  | f_mate
  | f_mate_of
  | f_new_rod
  | f_next_piece
  | f_next_rod
  | f_next_stand
  | f_note
  | f_note_of
  | f_notes_heard
  | f_numbers
  | f_off
  | f_parts
  | f_pieces
  | f_put
  | f_reads
  | f_rod
  | f_rod_of
  | f_rods
  | f_rooms
  | f_row_here
  | f_row_of
  | f_rows
  | f_rung
  | f_side
  | f_side_of
  | f_sides
  | f_sources
  | f_step
  | f_steps
  | f_sums
  | f_throw
  | f_told
  | f_trail
  | f_turn
  | f_unlink
  | f_waiting
  | f_where
  | f_widths
  | f_yard
  | d_Laid_init
  | d_Laid_bit_rods
  | d_Laid_door
  | d_Laid_fill
  | d_Laid_lies
  | d_Laid_mark_rod
  | d_Laid_reads
  | d_Laid_row_here
  | d_Laid_turn
  | d_Layer_init
  | d_Layer_lay_all
  | d_Layer_lay_call
  | d_Layer_lay_doors
  | d_Layer_lay_ends
  | d_Layer_lay_row
  | d_Layer_lead
  | d_Program_init
  | d_Program_look_call
  | d_Program_look_counter
  | d_Program_look_deed
  | d_Program_look_mark
  | d_Program_look_row
  | d_Program_look_stretch
  | d_Program_many
  | d_Program_marks
  | d_Program_rows
  | d_Program_widths
  | d_Reader_init
  | d_Reader_bump
  | d_Reader_callers
  | d_Reader_counter
  | d_Reader_fill
  | d_Reader_go_on
  | d_Reader_heard
  | d_Reader_leave
  | d_Reader_look_counter
  | d_Reader_look_mark
  | d_Reader_mark
  | d_Reader_step
  | d_Reader_turn
  | d_Reader_where
  | d_Shelf_init
  | d_Shelf_again
  | d_Shelf_drop
  | d_Shelf_keep
  | d_Shelf_look_stand
  | d_Shelf_numbers
  | d_Yard_init
  | d_Yard_bells
  | d_Yard_engine
  | d_Yard_kind
  | d_Yard_lay
  | d_Yard_lift
  | d_Yard_link
  | d_Yard_look_end
  | d_Yard_look_piece
  | d_Yard_look_rod
  | d_Yard_mate
  | d_Yard_new_rod
  | d_Yard_note
  | d_Yard_off
  | d_Yard_pieces
  | d_Yard_put
  | d_Yard_rod
  | d_Yard_rods
  | d_Yard_side
  | d_Yard_steps
  | d_Yard_throw
  | d_Yard_unlink
  | d__law_absent
  | d__law_agree
  | d__law_alike
  | d__law_all_asked
  | d__law_are
  | d__law_around
  | d__law_back
  | d__law_bad_kind
  | d__law_bad_piece_told
  | d__law_bad_place_told
  | d__law_bad_rod_told
  | d__law_bars
  | d__law_base
  | d__law_base_stays
  | d__law_begun
  | d__law_bound_spoilt
  | d__law_built
  | d__law_closure
  | d__law_copied
  | d__law_counts
  | d__law_doors
  | d__law_doors_met
  | d__law_draws
  | d__law_due
  | d__law_end_due
  | d__law_end_there
  | d__law_ends
  | d__law_exchanged
  | d__law_fan
  | d__law_fault
  | d__law_figures
  | d__law_filled
  | d__law_flipped
  | d__law_form_spoilt
  | d__law_freed
  | d__law_fresh
  | d__law_goes
  | d__law_gone
  | d__law_gone_on
  | d__law_hand
  | d__law_is
  | d__law_is_end
  | d__law_is_row
  | d__law_is_told
  | d__law_kept
  | d__law_kind
  | d__law_kinds
  | d__law_laid
  | d__law_laid_is
  | d__law_lay
  | d__law_leads
  | d__law_lift
  | d__law_lift_due
  | d__law_line
  | d__law_line_read
  | d__law_lines
  | d__law_link
  | d__law_link_due
  | d__law_link_read
  | d__law_linked
  | d__law_links
  | d__law_links_told
  | d__law_look
  | d__law_many
  | d__law_mates
  | d__law_model_copy
  | d__law_model_text
  | d__law_more
  | d__law_names
  | d__law_new_ends
  | d__law_next
  | d__law_no_names
  | d__law_none
  | d__law_none_there
  | d__law_notes
  | d__law_nothing
  | d__law_number
  | d__law_number_spoilt
  | d__law_numbers_spoilt
  | d__law_off
  | d__law_on_by_hand
  | d__law_only_asked
  | d__law_order
  | d__law_own
  | d__law_partly_back
  | d__law_parts
  | d__law_passing
  | d__law_pick
  | d__law_piece_asked
  | d__law_piece_read
  | d__law_pieces
  | d__law_points
  | d__law_program
  | d__law_program_text
  | d__law_put
  | d__law_rails
  | d__law_reads
  | d__law_reason
  | d__law_refused
  | d__law_refused_ones
  | d__law_renamed
  | d__law_right
  | d__law_ring
  | d__law_road
  | d__law_rods_told
  | d__law_row
  | d__law_row_at
  | d__law_row_at_ends
  | d__law_row_fault
  | d__law_rows
  | d__law_run
  | d__law_runs_alike
  | d__law_same
  | d__law_sense_spoilt
  | d__law_sent
  | d__law_set
  | d__law_shared_end
  | d__law_sides
  | d__law_sign
  | d__law_size
  | d__law_spoilt
  | d__law_stand
  | d__law_stands_told
  | d__law_stepped
  | d__law_steps
  | d__law_stopped
  | d__law_stretches
  | d__law_taken
  | d__law_target
  | d__law_text_good
  | d__law_text_set
  | d__law_there
  | d__law_throw
  | d__law_thrown
  | d__law_told
  | d__law_trail_gone
  | d__law_turn
  | d__law_turned
  | d__law_turned_there
  | d__law_unlink
  | d__law_values_are
  | d__law_walk
  | d__law_way
  | d__law_whole
  | d__law_why
  | d__law_yard_lines
  | d__wall
  | d_back
  | d_by_arm
  | d_by_stem
  | d_doorway
  | d_ends_of
  | d_fan
  | d_fate
  | d_follow
  | d_good_side
  | d_held
  | d_is_point
  | d_law
  | d_lay_out
  | d_leads
  | d_link_lines
  | d_look_count
  | d_look_note
  | d_look_true
  | d_merge
  | d_next_row
  | d_number_of
  | d_number_on
  | d_numbers_of
  | d_passage
  | d_piece_line
  | d_reached
  | d_read_deed
  | d_read_end
  | d_read_line
  | d_read_link
  | d_read_numbers
  | d_read_piece
  | d_read_program
  | d_read_rod
  | d_read_yard
  | d_renamed
  | d_room_of
  | d_run
  | d_set_number
  | d_shown
  | d_side_at
  | d_stand_of
  | d_step
  | d_step_back
  | d_tally
  | d_trimmed
  | d_twin
  | d_way_out
  | d_write_program
  | d_write_yard
  | c_FallsOut
  | c_Laid
  | c_Layer
  | c_Linked
  | c_NoBell
  | c_NoCounter
  | c_NoEnd
  | c_NoKind
  | c_NoMany
  | c_NoMark
  | c_NoNote
  | c_NoPiece
  | c_NoPoint
  | c_NoRod
  | c_NoRow
  | c_NoSide
  | c_NoStand
  | c_NoStretch
  | c_NoText
  | c_NoValue
  | c_NoWidth
  | c_NotLinked
  | c_Occupied
  | c_Program
  | c_RailError
  | c_Reader
  | c_SameEnd
  | c_Shelf
  | c_Yard
  deriving DecidableEq, Repr
/-- an attribute's name, a def's bare name, a class's name -/
def Nm.str : Nm → PySem.Str
  | .g_ENDS => "ENDS"
  | .g_PARTS => "PARTS"
  | .g__law_ranks => "_law_ranks"
  | .f_again => "again"
  | .f_at => "at"
  | .f_bells => "bells"
  | .f_bit_counts => "bit_counts"
  | .f_bit_lists => "bit_lists"
  | .f_bit_rods => "bit_rods"
  | .f_bump => "bump"
  | .f_callers => "callers"
  | .f_comings => "comings"
  | .f_counter => "counter"
  | .f_door => "door"
  | .f_door_of => "door_of"
  | .f_drop => "drop"
  | .f_engine => "engine"
  | .f_fill => "fill"
  | .f_first_sides => "first_sides"
  | .f_go_on => "go_on"
  | .f_heard => "heard"
  | .f_here => "here"
  | .f_keep => "keep"
  | .f_kept => "kept"
  | .f_kind => "kind"
  | .f_kind_of => "kind_of"
  | .f_lay => "lay"
  | .f_lay_all => "lay_all"
  | .f_lay_call => "lay_call"
  | .f_lay_doors => "lay_doors"
  | .f_lay_ends => "lay_ends"
  | .f_lay_row => "lay_row"
  | .f_lead => "lead"
  | .f_leave => "leave"
  | .f_leavings => "leavings"
  | .f_lies => "lies"
  | .f_lift => "lift"
  | .f_link => "link"
  | .f_look_call => "look_call"
  | .f_look_counter => "look_counter"
  | .f_look_deed => "look_deed"
  | .f_look_end => "look_end"
  | .f_look_mark => "look_mark"
  | .f_look_piece => "look_piece"
  | .f_look_rod => "look_rod"
  | .f_look_row => "look_row"
  | .f_look_stand => "look_stand"
  | .f_look_stretch => "look_stretch"
  | .f_many => "many"
  | .f_mark => "mark"
  | .f_mark_list => "mark_list"
  | .f_mark_rod => "mark_rod"
  | .f_marks => "marks"
  | .f_mate => "mate"
  | .f_mate_of => "mate_of"
  | .f_new_rod => "new_rod"
  | .f_next_piece => "next_piece"
  | .f_next_rod => "next_rod"
  | .f_next_stand => "next_stand"
  | .f_note => "note"
  | .f_note_of => "note_of"
  | .f_notes_heard => "notes_heard"
  | .f_numbers => "numbers"
  | .f_off => "off"
  | .f_parts => "parts"
  | .f_pieces => "pieces"
  | .f_put => "put"
  | .f_reads => "reads"
  | .f_rod => "rod"
  | .f_rod_of => "rod_of"
  | .f_rods => "rods"
  | .f_rooms => "rooms"
  | .f_row_here => "row_here"
  | .f_row_of => "row_of"
  | .f_rows => "rows"
  | .f_rung => "rung"
  | .f_side => "side"
  | .f_side_of => "side_of"
  | .f_sides => "sides"
  | .f_sources => "sources"
  | .f_step => "step"
  | .f_steps => "steps"
  | .f_sums => "sums"
  | .f_throw => "throw"
  | .f_told => "told"
  | .f_trail => "trail"
  | .f_turn => "turn"
  | .f_unlink => "unlink"
  | .f_waiting => "waiting"
  | .f_where => "where"
  | .f_widths => "widths"
  | .f_yard => "yard"
  | .d_Laid_init => "__init__"
  | .d_Laid_bit_rods => "bit_rods"
  | .d_Laid_door => "door"
  | .d_Laid_fill => "fill"
  | .d_Laid_lies => "lies"
  | .d_Laid_mark_rod => "mark_rod"
  | .d_Laid_reads => "reads"
  | .d_Laid_row_here => "row_here"
  | .d_Laid_turn => "turn"
  | .d_Layer_init => "__init__"
  | .d_Layer_lay_all => "lay_all"
  | .d_Layer_lay_call => "lay_call"
  | .d_Layer_lay_doors => "lay_doors"
  | .d_Layer_lay_ends => "lay_ends"
  | .d_Layer_lay_row => "lay_row"
  | .d_Layer_lead => "lead"
  | .d_Program_init => "__init__"
  | .d_Program_look_call => "look_call"
  | .d_Program_look_counter => "look_counter"
  | .d_Program_look_deed => "look_deed"
  | .d_Program_look_mark => "look_mark"
  | .d_Program_look_row => "look_row"
  | .d_Program_look_stretch => "look_stretch"
  | .d_Program_many => "many"
  | .d_Program_marks => "marks"
  | .d_Program_rows => "rows"
  | .d_Program_widths => "widths"
  | .d_Reader_init => "__init__"
  | .d_Reader_bump => "bump"
  | .d_Reader_callers => "callers"
  | .d_Reader_counter => "counter"
  | .d_Reader_fill => "fill"
  | .d_Reader_go_on => "go_on"
  | .d_Reader_heard => "heard"
  | .d_Reader_leave => "leave"
  | .d_Reader_look_counter => "look_counter"
  | .d_Reader_look_mark => "look_mark"
  | .d_Reader_mark => "mark"
  | .d_Reader_step => "step"
  | .d_Reader_turn => "turn"
  | .d_Reader_where => "where"
  | .d_Shelf_init => "__init__"
  | .d_Shelf_again => "again"
  | .d_Shelf_drop => "drop"
  | .d_Shelf_keep => "keep"
  | .d_Shelf_look_stand => "look_stand"
  | .d_Shelf_numbers => "numbers"
  | .d_Yard_init => "__init__"
  | .d_Yard_bells => "bells"
  | .d_Yard_engine => "engine"
  | .d_Yard_kind => "kind"
  | .d_Yard_lay => "lay"
  | .d_Yard_lift => "lift"
  | .d_Yard_link => "link"
  | .d_Yard_look_end => "look_end"
  | .d_Yard_look_piece => "look_piece"
  | .d_Yard_look_rod => "look_rod"
  | .d_Yard_mate => "mate"
  | .d_Yard_new_rod => "new_rod"
  | .d_Yard_note => "note"
  | .d_Yard_off => "off"
  | .d_Yard_pieces => "pieces"
  | .d_Yard_put => "put"
  | .d_Yard_rod => "rod"
  | .d_Yard_rods => "rods"
  | .d_Yard_side => "side"
  | .d_Yard_steps => "steps"
  | .d_Yard_throw => "throw"
  | .d_Yard_unlink => "unlink"
  | .d__law_absent => "_law_absent"
  | .d__law_agree => "_law_agree"
  | .d__law_alike => "_law_alike"
  | .d__law_all_asked => "_law_all_asked"
  | .d__law_are => "_law_are"
  | .d__law_around => "_law_around"
  | .d__law_back => "_law_back"
  | .d__law_bad_kind => "_law_bad_kind"
  | .d__law_bad_piece_told => "_law_bad_piece_told"
  | .d__law_bad_place_told => "_law_bad_place_told"
  | .d__law_bad_rod_told => "_law_bad_rod_told"
  | .d__law_bars => "_law_bars"
  | .d__law_base => "_law_base"
  | .d__law_base_stays => "_law_base_stays"
  | .d__law_begun => "_law_begun"
  | .d__law_bound_spoilt => "_law_bound_spoilt"
  | .d__law_built => "_law_built"
  | .d__law_closure => "_law_closure"
  | .d__law_copied => "_law_copied"
  | .d__law_counts => "_law_counts"
  | .d__law_doors => "_law_doors"
  | .d__law_doors_met => "_law_doors_met"
  | .d__law_draws => "_law_draws"
  | .d__law_due => "_law_due"
  | .d__law_end_due => "_law_end_due"
  | .d__law_end_there => "_law_end_there"
  | .d__law_ends => "_law_ends"
  | .d__law_exchanged => "_law_exchanged"
  | .d__law_fan => "_law_fan"
  | .d__law_fault => "_law_fault"
  | .d__law_figures => "_law_figures"
  | .d__law_filled => "_law_filled"
  | .d__law_flipped => "_law_flipped"
  | .d__law_form_spoilt => "_law_form_spoilt"
  | .d__law_freed => "_law_freed"
  | .d__law_fresh => "_law_fresh"
  | .d__law_goes => "_law_goes"
  | .d__law_gone => "_law_gone"
  | .d__law_gone_on => "_law_gone_on"
  | .d__law_hand => "_law_hand"
  | .d__law_is => "_law_is"
  | .d__law_is_end => "_law_is_end"
  | .d__law_is_row => "_law_is_row"
  | .d__law_is_told => "_law_is_told"
  | .d__law_kept => "_law_kept"
  | .d__law_kind => "_law_kind"
  | .d__law_kinds => "_law_kinds"
  | .d__law_laid => "_law_laid"
  | .d__law_laid_is => "_law_laid_is"
  | .d__law_lay => "_law_lay"
  | .d__law_leads => "_law_leads"
  | .d__law_lift => "_law_lift"
  | .d__law_lift_due => "_law_lift_due"
  | .d__law_line => "_law_line"
  | .d__law_line_read => "_law_line_read"
  | .d__law_lines => "_law_lines"
  | .d__law_link => "_law_link"
  | .d__law_link_due => "_law_link_due"
  | .d__law_link_read => "_law_link_read"
  | .d__law_linked => "_law_linked"
  | .d__law_links => "_law_links"
  | .d__law_links_told => "_law_links_told"
  | .d__law_look => "_law_look"
  | .d__law_many => "_law_many"
  | .d__law_mates => "_law_mates"
  | .d__law_model_copy => "_law_model_copy"
  | .d__law_model_text => "_law_model_text"
  | .d__law_more => "_law_more"
  | .d__law_names => "_law_names"
  | .d__law_new_ends => "_law_new_ends"
  | .d__law_next => "_law_next"
  | .d__law_no_names => "_law_no_names"
  | .d__law_none => "_law_none"
  | .d__law_none_there => "_law_none_there"
  | .d__law_notes => "_law_notes"
  | .d__law_nothing => "_law_nothing"
  | .d__law_number => "_law_number"
  | .d__law_number_spoilt => "_law_number_spoilt"
  | .d__law_numbers_spoilt => "_law_numbers_spoilt"
  | .d__law_off => "_law_off"
  | .d__law_on_by_hand => "_law_on_by_hand"
  | .d__law_only_asked => "_law_only_asked"
  | .d__law_order => "_law_order"
  | .d__law_own => "_law_own"
  | .d__law_partly_back => "_law_partly_back"
  | .d__law_parts => "_law_parts"
  | .d__law_passing => "_law_passing"
  | .d__law_pick => "_law_pick"
  | .d__law_piece_asked => "_law_piece_asked"
  | .d__law_piece_read => "_law_piece_read"
  | .d__law_pieces => "_law_pieces"
  | .d__law_points => "_law_points"
  | .d__law_program => "_law_program"
  | .d__law_program_text => "_law_program_text"
  | .d__law_put => "_law_put"
  | .d__law_rails => "_law_rails"
  | .d__law_reads => "_law_reads"
  | .d__law_reason => "_law_reason"
  | .d__law_refused => "_law_refused"
  | .d__law_refused_ones => "_law_refused_ones"
  | .d__law_renamed => "_law_renamed"
  | .d__law_right => "_law_right"
  | .d__law_ring => "_law_ring"
  | .d__law_road => "_law_road"
  | .d__law_rods_told => "_law_rods_told"
  | .d__law_row => "_law_row"
  | .d__law_row_at => "_law_row_at"
  | .d__law_row_at_ends => "_law_row_at_ends"
  | .d__law_row_fault => "_law_row_fault"
  | .d__law_rows => "_law_rows"
  | .d__law_run => "_law_run"
  | .d__law_runs_alike => "_law_runs_alike"
  | .d__law_same => "_law_same"
  | .d__law_sense_spoilt => "_law_sense_spoilt"
  | .d__law_sent => "_law_sent"
  | .d__law_set => "_law_set"
  | .d__law_shared_end => "_law_shared_end"
  | .d__law_sides => "_law_sides"
  | .d__law_sign => "_law_sign"
  | .d__law_size => "_law_size"
  | .d__law_spoilt => "_law_spoilt"
  | .d__law_stand => "_law_stand"
  | .d__law_stands_told => "_law_stands_told"
  | .d__law_stepped => "_law_stepped"
  | .d__law_steps => "_law_steps"
  | .d__law_stopped => "_law_stopped"
  | .d__law_stretches => "_law_stretches"
  | .d__law_taken => "_law_taken"
  | .d__law_target => "_law_target"
  | .d__law_text_good => "_law_text_good"
  | .d__law_text_set => "_law_text_set"
  | .d__law_there => "_law_there"
  | .d__law_throw => "_law_throw"
  | .d__law_thrown => "_law_thrown"
  | .d__law_told => "_law_told"
  | .d__law_trail_gone => "_law_trail_gone"
  | .d__law_turn => "_law_turn"
  | .d__law_turned => "_law_turned"
  | .d__law_turned_there => "_law_turned_there"
  | .d__law_unlink => "_law_unlink"
  | .d__law_values_are => "_law_values_are"
  | .d__law_walk => "_law_walk"
  | .d__law_way => "_law_way"
  | .d__law_whole => "_law_whole"
  | .d__law_why => "_law_why"
  | .d__law_yard_lines => "_law_yard_lines"
  | .d__wall => "_wall"
  | .d_back => "back"
  | .d_by_arm => "by_arm"
  | .d_by_stem => "by_stem"
  | .d_doorway => "doorway"
  | .d_ends_of => "ends_of"
  | .d_fan => "fan"
  | .d_fate => "fate"
  | .d_follow => "follow"
  | .d_good_side => "good_side"
  | .d_held => "held"
  | .d_is_point => "is_point"
  | .d_law => "law"
  | .d_lay_out => "lay_out"
  | .d_leads => "leads"
  | .d_link_lines => "link_lines"
  | .d_look_count => "look_count"
  | .d_look_note => "look_note"
  | .d_look_true => "look_true"
  | .d_merge => "merge"
  | .d_next_row => "next_row"
  | .d_number_of => "number_of"
  | .d_number_on => "number_on"
  | .d_numbers_of => "numbers_of"
  | .d_passage => "passage"
  | .d_piece_line => "piece_line"
  | .d_reached => "reached"
  | .d_read_deed => "read_deed"
  | .d_read_end => "read_end"
  | .d_read_line => "read_line"
  | .d_read_link => "read_link"
  | .d_read_numbers => "read_numbers"
  | .d_read_piece => "read_piece"
  | .d_read_program => "read_program"
  | .d_read_rod => "read_rod"
  | .d_read_yard => "read_yard"
  | .d_renamed => "renamed"
  | .d_room_of => "room_of"
  | .d_run => "run"
  | .d_set_number => "set_number"
  | .d_shown => "shown"
  | .d_side_at => "side_at"
  | .d_stand_of => "stand_of"
  | .d_step => "step"
  | .d_step_back => "step_back"
  | .d_tally => "tally"
  | .d_trimmed => "trimmed"
  | .d_twin => "twin"
  | .d_way_out => "way_out"
  | .d_write_program => "write_program"
  | .d_write_yard => "write_yard"
  | .c_FallsOut => "FallsOut"
  | .c_Laid => "Laid"
  | .c_Layer => "Layer"
  | .c_Linked => "Linked"
  | .c_NoBell => "NoBell"
  | .c_NoCounter => "NoCounter"
  | .c_NoEnd => "NoEnd"
  | .c_NoKind => "NoKind"
  | .c_NoMany => "NoMany"
  | .c_NoMark => "NoMark"
  | .c_NoNote => "NoNote"
  | .c_NoPiece => "NoPiece"
  | .c_NoPoint => "NoPoint"
  | .c_NoRod => "NoRod"
  | .c_NoRow => "NoRow"
  | .c_NoSide => "NoSide"
  | .c_NoStand => "NoStand"
  | .c_NoStretch => "NoStretch"
  | .c_NoText => "NoText"
  | .c_NoValue => "NoValue"
  | .c_NoWidth => "NoWidth"
  | .c_NotLinked => "NotLinked"
  | .c_Occupied => "Occupied"
  | .c_Program => "Program"
  | .c_RailError => "RailError"
  | .c_Reader => "Reader"
  | .c_SameEnd => "SameEnd"
  | .c_Shelf => "Shelf"
  | .c_Yard => "Yard"
end Rl

set_option linter.unusedVariables false
/-! Core: a small evaluator for the part of Python that the program and the laws use: own values (tuples are plain values), own heap (a map and the next free place). -/
namespace Rl
open PySem (PyData)

abbrev Tx := List Nat

inductive AV where
  | non | bl (b : Bool) | int (i : Int) | str (s : Tx) | tup (l : List AV) | ref (n : Nat) | kd (kvs : List (Tx × Int)) | rl (l : List AV)
  deriving Repr, Inhabited

mutual
def AV.beq : AV → AV → Bool
  | .non, .non => true
  | .bl a, .bl b => a == b
  | .int a, .int b => a == b
  | .str a, .str b => a == b
  | .ref a, .ref b => a == b
  | .kd a, .kd b => a == b
  | .tup a, .tup b => AV.beqs a b
  | .rl a, .rl b => AV.beqs a b
  | _, _ => false
def AV.beqs : List AV → List AV → Bool
  | [], [] => true
  | a :: as, b :: bs => AV.beq a b && AV.beqs as bs
  | _, _ => false
end
mutual
theorem AV.beq_rfl : ∀ a : AV, AV.beq a a = true
  | .non => by simp [AV.beq]
  | .bl _ => by simp [AV.beq]
  | .int _ => by simp [AV.beq]
  | .str _ => by simp [AV.beq]
  | .ref _ => by simp [AV.beq]
  | .kd _ => by simp [AV.beq]
  | .tup l => by simp only [AV.beq]; exact AV.beqs_rfl l
  | .rl l => by simp only [AV.beq]; exact AV.beqs_rfl l
theorem AV.beqs_rfl : ∀ a : List AV, AV.beqs a a = true
  | [] => by simp [AV.beqs]
  | a :: as => by simp only [AV.beqs]; rw [AV.beq_rfl a, AV.beqs_rfl as]; rfl
end
mutual
theorem AV.eq_of_beq : ∀ (a b : AV), AV.beq a b = true → a = b
  | .non, b, h => by cases b <;> simp_all [AV.beq]
  | .bl _, b, h => by cases b <;> simp_all [AV.beq]
  | .int _, b, h => by cases b <;> simp_all [AV.beq]
  | .str _, b, h => by cases b <;> simp_all [AV.beq]
  | .ref _, b, h => by cases b <;> simp_all [AV.beq]
  | .kd _, b, h => by cases b <;> simp_all [AV.beq]
  | .tup l, b, h => by
    cases b with
    | tup m => rw [AV.eq_of_beqs l m (by simpa [AV.beq] using h)]
    | _ => simp [AV.beq] at h
  | .rl l, b, h => by
    cases b with
    | rl m => rw [AV.eq_of_beqs l m (by simpa [AV.beq] using h)]
    | _ => simp [AV.beq] at h
theorem AV.eq_of_beqs : ∀ (a b : List AV), AV.beqs a b = true → a = b
  | [], [], _ => rfl
  | [], _ :: _, h => by simp [AV.beqs] at h
  | _ :: _, [], h => by simp [AV.beqs] at h
  | a :: as, b :: bs, h => by
    simp only [AV.beqs, Bool.and_eq_true] at h
    rw [AV.eq_of_beq a b h.1, AV.eq_of_beqs as bs h.2]
end
instance : DecidableEq AV := fun a b =>
  if h : AV.beq a b = true then .isTrue (AV.eq_of_beq a b h) else .isFalse fun e => h (by rw [e]; exact AV.beq_rfl b)

/-- an object: a list, a dict (tk: its keys are tuples), an instance -/
inductive AO (N : Type) where
  | lst (xs : List AV) | dct (tk : Bool) (kvs : List (AV × AV)) | obj (c : N) (fs : List (N × AV))
  deriving Repr, DecidableEq
end Rl

set_option linter.unusedVariables false
/-! Core: the evaluator. An expression or statement of the small language, the slots of a def, the own heap. -/
namespace Rl
open PySem (PyData)

abbrev O := AO Nm
/-- the own heap: what stands at a place; the next free place -/
structure AH where
  g : Nat → Option O
  n : Nat
def AH.put (h : AH) (a : Nat) (o : O) : AH := ⟨fun b => if b = a then some o else h.g b, h.n⟩
def AH.new (h : AH) (o : O) : AH := ⟨fun b => if b = h.n then some o else h.g b, h.n + 1⟩

inductive Res (α : Type) where
  | ok (a : α) (h : AH) | exc (c : Nm) (h : AH) | bad
def Res.bind {α β : Type} : Res α → (α → AH → Res β) → Res β
  | .ok a h, k => k a h
  | .exc c h, _ => .exc c h
  | .bad, _ => .bad

/-- operators of two values -/
inductive Op where
  | add | sub | mul | fdiv | mod | pow | lt | le | gt | ge | eq | ne | isin | notin | item
  deriving DecidableEq, Repr
/-- functions -/
inductive Bi where
  | abs | len | int | str | list | listRg | dict | tuple | sorted | sum | all | max | min
  deriving DecidableEq, Repr
/-- methods of lists, dicts, texts -/
inductive Mb where
  | append | pop | extend | insert | clear | get | index | upper | split | join | isdigit
  deriving DecidableEq, Repr
inductive Ty where
  | int | bool | tuple | list | str | dict | non | inst
  deriving DecidableEq, Repr
inductive Tg where
  | one (i : Nat) | tup (is : List Nat)
  deriving DecidableEq, Repr
/-- what a loop walks -/
inductive Ik where
  | seq | rng1 | rng2 | enum | zip | keys
  deriving DecidableEq, Repr

inductive E where
  | nil | cons (a r : E)
  | slot (i : Nat) | non | bl (b : Bool) | int (i : Int) | str (s : Tx) | kd (x : Nm) (kvs : List (Tx × Int))
  | tup (es : E) | lst (es : E) | dict0 (tk : Bool)
  | op (o : Op) (a b : E) | neg (a : E) | isN (a : E) | notN (a : E) | not (a : E) | and (a b : E) | or (a b : E) | ite (c a b : E)
  | slice (a lo hi : E)
  | call (f : Nm) (es : E) | meth (o : E) (m : Nm) (es : E) (ds : List AV) | methK (o : E) (m : Nm) (es : E) (mid : List AV) (kn : Nm) (e : E) | make (c : Nm) (es : E) | fld (o : E) (f : Nm)
  | bi (b : Bi) (es : E) | mth (b : Mb) (o es : E) | isTy (a : E) (t : Ty)
  | comp (t : Tg) (k : Ik) (src cond elt : E)
  deriving DecidableEq, Repr
def E.isNil : E → Bool
  | .nil => true
  | _ => false

inductive S where
  | nil | seq (s r : S)
  | asg (t : Tg) (e : E) | fset (o : E) (f : Nm) (e : E) | iset (o i e : E) | exp (e : E) | ret (e : E) | retN
  | ite (c : E) (a b : S) | while (c : E) (b : S) | for (t : Tg) (k : Ik) (src : E) (b : S) | raise (c : Nm) | pass
  deriving DecidableEq, Repr

abbrev Sl := List (Option AV)
def LIM : Nat := 16777216

/-! ### values -/
def tyOf (h : AH) : AV → Option Ty
  | .non => some .non
  | .bl _ => some .bool
  | .int _ => some .int
  | .str _ => some .str
  | .tup _ => some .tuple
  | .kd _ => none
  | .rl _ => none
  | .ref a => match h.g a with
    | some (.lst _) => some .list
    | some (.dct _ _) => some .dict
    | some (.obj _ _) => none
    | none => none
/-- isinstance -/
def isTy (t u : Ty) : Bool := decide (t = u) || (decide (t = .bool) && decide (u = .int))
def strOk (s : Tx) : Bool := s.all fun c => decide (c < 0x110000)
/-- a value as data -/
def toD : Nat → AH → AV → Option PyData
  | _, _, .non => some .none
  | _, _, .bl b => some (.bool b)
  | _, _, .int i => some (.int i)
  | _, _, .str s => if strOk s then some (.str ⟨s.toArray⟩) else none
  | k + 1, h, .tup l => (l.mapM (toD k h)).map .tuple
  | k + 1, h, .ref a => match h.g a with
    | some (.lst xs) => (xs.mapM (toD k h)).map .list
    | _ => none
  | _, _, _ => none
def eqA (h : AH) (a b : AV) : Option Bool := match toD 8 h a, toD 8 h b with
  | some x, some y => some (PyData.eqv x y)
  | _, _ => none
/-- the items of a list or tuple -/
def seqOf (h : AH) : AV → Option (List AV)
  | .tup l => some l
  | .ref a => match h.g a with
    | some (.lst xs) => some xs
    | _ => none
  | _ => none
def listOf (h : AH) : AV → Option (List AV)
  | .ref a => match h.g a with
    | some (.lst xs) => some xs
    | _ => none
  | _ => none
def flatK : AV → Bool
  | .int _ => true
  | .str _ => true
  | _ => false
def tupK : AV → Bool
  | .tup l => l.all flatK
  | _ => false
def keyOk (tk : Bool) (k : AV) : Bool := if tk then tupK k else flatK k
def dlook (kvs : List (AV × AV)) (k : AV) : Option AV := (kvs.find? fun p => decide (p.1 = k)).map (·.2)
def dput (kvs : List (AV × AV)) (k v : AV) : List (AV × AV) :=
  if kvs.any fun p => decide (p.1 = k) then kvs.map fun p => if p.1 = k then (p.1, v) else p else kvs ++ [(k, v)]
def ddrop (kvs : List (AV × AV)) (k : AV) : List (AV × AV) := kvs.filter fun p => decide (p.1 ≠ k)
def klook (kvs : List (Tx × Int)) (k : Tx) : Option Int := (kvs.find? fun p => decide (p.1 = k)).map (·.2)
def flook (fs : List (Nm × AV)) (f : Nm) : Option AV := (fs.find? fun p => decide (p.1 = f)).map (·.2)
def fput : List (Nm × AV) → Nm → AV → List (Nm × AV)
  | [], f, v => [(f, v)]
  | (g, x) :: r, f, v => if g = f then (g, v) :: r else (g, x) :: fput r f v
def ixN (n : Nat) (i : Int) : Option Nat := if 0 ≤ i then (if i < n then some i.toNat else none) else if -(n : Int) ≤ i then some (i + n).toNat else none
def atI {α : Type} (xs : List α) (i : Int) : Option α := (ixN xs.length i).bind fun j => xs[j]?
def sIx (n d : Nat) : Option Int → Nat
  | none => d
  | some v => if v < 0 then (v + (n : Int)).toNat else min v.toNat n
def cut {α : Type} (xs : List α) (lo hi : Option Int) : List α := (xs.drop (sIx xs.length 0 lo)).take (sIx xs.length xs.length hi - sIx xs.length 0 lo)
def allInt : List AV → Option (List Int)
  | [] => some []
  | .int i :: r => (allInt r).map (i :: ·)
  | _ => none
def allPair : List AV → Option (List (Int × Int))
  | [] => some []
  | .tup [.int i, .int j] :: r => (allPair r).map ((i, j) :: ·)
  | _ => none
def allBl : List AV → Option (List Bool)
  | [] => some []
  | .bl b :: r => (allBl r).map (b :: ·)
  | _ => none
def lexLt : List Int → List Int → Bool
  | [], [] => false
  | [], _ :: _ => true
  | _ :: _, [] => false
  | x :: xs, y :: ys => if x = y then lexLt xs ys else decide (x < y)
def leP (a b : Int × Int) : Bool := decide (a.1 < b.1) || (decide (a.1 = b.1) && decide (a.2 ≤ b.2))
def smallF (i : Int) : Bool := decide (-(2 ^ 64) < i) && decide (i < 2 ^ 64)

def flatA : AV → Bool
  | .non => true
  | .bl _ => true
  | .int _ => true
  | .str _ => true
  | _ => false
/-- == of flat values -/
def eqF : AV → AV → Bool
  | .non, .non => true
  | .bl a, .bl b => a == b
  | .bl a, .int b => (if a then 1 else 0) == b
  | .int a, .bl b => a == (if b then 1 else 0)
  | .int a, .int b => a == b
  | .str a, .str b => a == b
  | _, _ => false
/-! ### operators -/
def opEq (h : AH) (a b : AV) (p : Bool) : Res AV := match eqA h a b with
  | some r => .ok (.bl (if p then r else !r)) h
  | none => .bad
def opIn (h : AH) (a b : AV) (p : Bool) : Res AV := match b with
  | .kd kvs => match a with
    | .str s => .ok (.bl (if p then (klook kvs s).isSome else !(klook kvs s).isSome)) h
    | _ => .bad
  | .ref x => match h.g x with
    | some (.dct tk kvs) => if keyOk tk a then .ok (.bl (if p then (dlook kvs a).isSome else !(dlook kvs a).isSome)) h else .bad
    | _ => match toD 8 h a, toD 8 h b with
      | some d, some (.list ds) => .ok (.bl (if p then ds.any fun z => PyData.eqv z d else !ds.any fun z => PyData.eqv z d)) h
      | _, _ => .bad
  | .tup l => if flatA a && l.all flatA then .ok (.bl (if p then l.any fun z => eqF z a else !l.any fun z => eqF z a)) h else .bad
  | _ => .bad
def opItem (h : AH) (a b : AV) : Res AV := match a with
  | .kd kvs => match b with
    | .str s => match klook kvs s with
      | some i => .ok (.int i) h
      | none => .bad
    | _ => .bad
  | .tup l => match b with
    | .int i => match atI l i with
      | some v => .ok v h
      | none => .bad
    | _ => .bad
  | .str s => match b with
    | .int i => if s.length ≤ LIM then match atI s i with
      | some c => .ok (.str [c]) h
      | none => .bad else .bad
    | _ => .bad
  | .ref x => match h.g x with
    | some (.lst xs) => match b with
      | .int i => match atI xs i with
        | some v => .ok v h
        | none => .bad
      | _ => .bad
    | some (.dct tk kvs) => if keyOk tk b then match dlook kvs b with
      | some v => .ok v h
      | none => .bad else .bad
    | _ => .bad
  | _ => .bad
def op2 (o : Op) (a b : AV) (h : AH) : Res AV := match o with
  | .eq => opEq h a b true
  | .ne => opEq h a b false
  | .isin => opIn h a b true
  | .notin => opIn h a b false
  | .item => opItem h a b
  | .add => match a, b with
    | .int i, .int j => .ok (.int (i + j)) h
    | .str s, .str t => if s.length + t.length ≤ LIM then .ok (.str (s ++ t)) h else .bad
    | .ref x, .ref y => match h.g x, h.g y with
      | some (.lst xs), some (.lst ys) => if xs.length + ys.length ≤ LIM then .ok (.ref h.n) (h.new (.lst (xs ++ ys))) else .bad
      | _, _ => .bad
    | _, _ => .bad
  | .sub => match a, b with
    | .int i, .int j => .ok (.int (i - j)) h
    | _, _ => .bad
  | .mul => match a, b with
    | .int i, .int j => if smallF i || smallF j then .ok (.int (i * j)) h else .bad
    | _, _ => .bad
  | .fdiv => match a, b with
    | .int i, .int j => if 0 < j ∧ j < 1073741824 then .ok (.int (i / j)) h else .bad
    | _, _ => .bad
  | .mod => match a, b with
    | .int i, .int j => if 0 < j then .ok (.int (i % j)) h else .bad
    | _, _ => .bad
  | .pow => match a, b with
    | .int i, .int j => if 0 ≤ j ∧ j ≤ 1000000 ∧ i.natAbs < 2 ^ 64 then .ok (.int (i ^ j.toNat)) h else .bad
    | _, _ => .bad
  | .lt => match a, b with
    | .int i, .int j => .ok (.bl (decide (i < j))) h
    | .tup l, .tup m => match allInt l, allInt m with
      | some x, some y => .ok (.bl (lexLt x y)) h
      | _, _ => .bad
    | _, _ => .bad
  | .le => match a, b with
    | .int i, .int j => .ok (.bl (decide (i ≤ j))) h
    | _, _ => .bad
  | .gt => match a, b with
    | .int i, .int j => .ok (.bl (decide (j < i))) h
    | _, _ => .bad
  | .ge => match a, b with
    | .int i, .int j => .ok (.bl (decide (j ≤ i))) h
    | _, _ => .bad

/-! ### functions, methods -/
def newL (h : AH) (xs : List AV) : Res AV := if xs.length ≤ LIM then .ok (.ref h.n) (h.new (.lst xs)) else .bad
def rgI (lo hi : Int) : List AV := (List.range (hi - lo).toNat).map fun k => AV.int (lo + (k : Nat))
def smallR (i : Int) : Bool := decide (-(2 ^ 62) ≤ i) && decide (i < 2 ^ 62)
def pAbs (vs : List AV) (h : AH) : Res AV := match vs with
  | [.int i] => .ok (.int (if i < 0 then -i else i)) h
  | _ => .bad
def pLen (vs : List AV) (h : AH) : Res AV := match vs with
  | [.str s] => if s.length ≤ LIM then .ok (.int s.length) h else .bad
  | [.tup l] => .ok (.int l.length) h
  | [.ref a] => match h.g a with
    | some (.lst xs) => .ok (.int xs.length) h
    | some (.dct false kvs) => .ok (.int kvs.length) h
    | _ => .bad
  | _ => .bad
def pInt (vs : List AV) (h : AH) : Res AV := match vs with
  | [.int i] => .ok (.int i) h
  | [.bl b] => .ok (.int (if b then 1 else 0)) h
  | _ => .bad
def pList (vs : List AV) (h : AH) : Res AV := match vs with
  | [.tup l] => .ok (.ref h.n) (h.new (.lst l))
  | [.ref a] => match h.g a with
    | some (.lst xs) => .ok (.ref h.n) (h.new (.lst xs))
    | some (.dct _ kvs) => .ok (.ref h.n) (h.new (.lst (kvs.map (·.1))))
    | _ => .bad
  | _ => .bad
def pListRg (vs : List AV) (h : AH) : Res AV := match vs with
  | [.int n] => if smallR n ∧ n.toNat ≤ LIM then .ok (.ref h.n) (h.new (.lst (rgI 0 n))) else .bad
  | [.int m, .int n] => if smallR m ∧ smallR n ∧ (n - m).toNat ≤ LIM then .ok (.ref h.n) (h.new (.lst (rgI m n))) else .bad
  | _ => .bad
def pDict (vs : List AV) (h : AH) : Res AV := match vs with
  | [.ref a] => match h.g a with
    | some (.dct false kvs) => .ok (.ref h.n) (h.new (.dct false kvs))
    | _ => .bad
  | _ => .bad
def pTuple (vs : List AV) (h : AH) : Res AV := match vs with
  | [.tup l] => .ok (.tup l) h
  | [.ref a] => match h.g a with
    | some (.lst xs) => .ok (.tup xs) h
    | _ => .bad
  | _ => .bad
def sortA (xs : List AV) : Option (List AV) := match allInt xs with
  | some ns => some ((ns.mergeSort fun a b => decide (a ≤ b)).map .int)
  | none => match allPair xs with
    | some ps => some ((ps.mergeSort leP).map fun p => .tup [.int p.1, .int p.2])
    | none => none
def pSorted (vs : List AV) (h : AH) : Res AV := match vs with
  | [.ref a] => match h.g a with
    | some (.lst xs) => match sortA xs with
      | some ys => .ok (.ref h.n) (h.new (.lst ys))
      | none => .bad
    | _ => .bad
  | _ => .bad
def pSum (vs : List AV) (h : AH) : Res AV := match vs with
  | [.ref a] => match h.g a with
    | some (.lst xs) => match allInt xs with
      | some ns => .ok (.int ns.sum) h
      | none => .bad
    | _ => .bad
  | _ => .bad
def pAll (vs : List AV) (h : AH) : Res AV := match vs with
  | [.ref a] => match h.g a with
    | some (.lst xs) => match allBl xs with
      | some bs => .ok (.bl (bs.all id)) h
      | none => .bad
    | _ => .bad
  | _ => .bad
def pMax (vs : List AV) (h : AH) : Res AV := match vs with
  | [.int i, .int j] => .ok (.int (if j > i then j else i)) h
  | _ => .bad
def pMin (vs : List AV) (h : AH) : Res AV := match vs with
  | [.int i, .int j] => .ok (.int (if j < i then j else i)) h
  | _ => .bad
def primB (b : Bi) (vs : List AV) (h : AH) : Res AV := match b with
  | .abs => pAbs vs h
  | .len => pLen vs h
  | .int => pInt vs h
  | .str => .bad
  | .list => pList vs h
  | .listRg => pListRg vs h
  | .dict => pDict vs h
  | .tuple => pTuple vs h
  | .sorted => pSorted vs h
  | .sum => pSum vs h
  | .all => pAll vs h
  | .max => pMax vs h
  | .min => pMin vs h
/-- the kind of receiver that a method asks -/
def mthTy (b : Mb) (t : Ty) : Bool := match b with
  | .append | .extend | .insert | .index => decide (t = .list)
  | .clear => decide (t = .list)
  | .pop => decide (t = .list) || decide (t = .dict)
  | .get => decide (t = .dict)
  | .upper | .split | .join | .isdigit => decide (t = .str)
def mAppend (a : Nat) (xs : List AV) (vs : List AV) (h : AH) : Res AV := match vs with
  | [x] => if xs.length < LIM then .ok .non (h.put a (.lst (xs ++ [x]))) else .bad
  | _ => .bad
def mPopL (a : Nat) (xs : List AV) (vs : List AV) (h : AH) : Res AV := match vs with
  | [] => match xs[xs.length - 1]? with
    | some x => .ok x (h.put a (.lst xs.dropLast))
    | none => .bad
  | [.int i] => match ixN xs.length i with
    | some j => match xs[j]? with
      | some x => if smallR i then .ok x (h.put a (.lst (xs.eraseIdx j))) else .bad
      | none => .bad
    | none => .bad
  | _ => .bad
def mExtend (a : Nat) (xs : List AV) (vs : List AV) (h : AH) : Res AV := match vs with
  | [.ref c] => match h.g c with
    | some (.lst ys) => if xs.length + ys.length ≤ LIM then .ok .non (h.put a (.lst (xs ++ ys))) else .bad
    | _ => .bad
  | _ => .bad
def mInsert (a : Nat) (xs : List AV) (vs : List AV) (h : AH) : Res AV := match vs with
  | [.int i, y] => if xs.length < LIM ∧ 0 ≤ i ∧ smallR i then .ok .non (h.put a (.lst (xs.take i.toNat ++ [y] ++ xs.drop i.toNat))) else .bad
  | _ => .bad
def mClear (a : Nat) (vs : List AV) (h : AH) : Res AV := match vs with
  | [] => .ok .non (h.put a (.lst []))
  | _ => .bad
def mGet (tk : Bool) (kvs : List (AV × AV)) (vs : List AV) (h : AH) : Res AV := match vs with
  | [k] => if keyOk tk k then .ok ((dlook kvs k).getD .non) h else .bad
  | [k, d] => if keyOk tk k then .ok ((dlook kvs k).getD d) h else .bad
  | _ => .bad
def mPopD (a : Nat) (tk : Bool) (kvs : List (AV × AV)) (vs : List AV) (h : AH) : Res AV := match vs with
  | [k] => if keyOk tk k then match dlook kvs k with
    | some x => .ok x (h.put a (.dct tk (ddrop kvs k)))
    | none => .bad else .bad
  | [k, d] => if keyOk tk k then match dlook kvs k with
    | some x => .ok x (h.put a (.dct tk (ddrop kvs k)))
    | none => .ok d h else .bad
  | _ => .bad
def primM (b : Mb) (t : Ty) (v : AV) (vs : List AV) (h : AH) : Res AV := match t with
  | .list => match v with
    | .ref a => match h.g a with
      | some (.lst xs) => match b with
        | .append => mAppend a xs vs h
        | .pop => mPopL a xs vs h
        | .extend => mExtend a xs vs h
        | .insert => mInsert a xs vs h
        | .clear => mClear a vs h
        | _ => .bad
      | _ => .bad
    | _ => .bad
  | .dict => match v with
    | .ref a => match h.g a with
      | some (.dct tk kvs) => match b with
        | .get => mGet tk kvs vs h
        | .pop => mPopD a tk kvs vs h
        | _ => .bad
      | _ => .bad
    | _ => .bad
  | _ => .bad

/-! ### stores -/
def setI (h : AH) (o i v : AV) : Option AH := match o with
  | .ref a => match h.g a with
    | some (.lst xs) => match i with
      | .int k => match ixN xs.length k with
        | some j => some (h.put a (.lst (xs.set j v)))
        | none => none
      | _ => none
    | some (.dct tk kvs) => if keyOk tk i ∧ kvs.length < LIM then some (h.put a (.dct tk (dput kvs i v))) else none
    | _ => none
  | _ => none
def setF (at' : Nm → List Nm) (h : AH) (o : AV) (f : Nm) (v : AV) : Option AH := match o with
  | .ref a => match h.g a with
    | some (.obj c fs) => if fs.length < 900 ∧ f ∈ at' c then some (h.put a (.obj c (fput fs f v))) else none
    | _ => none
  | _ => none
def getF (h : AH) (o : AV) (f : Nm) : Option AV := match o with
  | .ref a => match h.g a with
    | some (.obj _ fs) => flook fs f
    | _ => none
  | _ => none
def bindTs : List Nat → List AV → Sl → Option Sl
  | [], [], σ => some σ
  | i :: is, v :: vs, σ => if i < σ.length then bindTs is vs (σ.set i (some v)) else none
  | _, _, _ => none
def bindT (t : Tg) (v : AV) (σ : Sl) : Option Sl := match t with
  | .one i => if i < σ.length then some (σ.set i (some v)) else none
  | .tup is => match v with
    | .tup vs => bindTs is vs σ
    | _ => none

/-! ### what a loop walks: the items, and what has to stand meanwhile -/
abbrev Gd := List (Nat × O)
def gdOk (g : Gd) (h : AH) : Bool := g.all fun p => decide (h.g p.1 = some p.2)
def walkSeq (h : AH) (v : AV) : Option (List AV × Gd) := match v with
  | .tup l => some (l, [])
  | .ref a => match h.g a with
    | some (.lst xs) => some (xs, [(a, .lst xs)])
    | _ => none
  | _ => none
def enumF : Nat → List AV → List AV
  | _, [] => []
  | i, x :: xs => .tup [.int i, x] :: enumF (i + 1) xs
def wk1 (vs : List AV) (h : AH) : Option (List AV × Gd) := match vs with
  | [v] => walkSeq h v
  | _ => none
def wkR1 (vs : List AV) : Option (List AV × Gd) := match vs with
  | [.int n] => if smallR n then some (rgI 0 n, []) else none
  | _ => none
def wkR2 (vs : List AV) : Option (List AV × Gd) := match vs with
  | [.int m, .int n] => if smallR m ∧ smallR n then some (rgI m n, []) else none
  | _ => none
def wkE (vs : List AV) (h : AH) : Option (List AV × Gd) := match vs with
  | [.ref a] => match walkSeq h (.ref a) with
    | some (xs, g) => some (enumF 0 xs, g)
    | none => none
  | _ => none
def wkZ (vs : List AV) (h : AH) : Option (List AV × Gd) := match vs with
  | [.ref a, .ref b] => match walkSeq h (.ref a), walkSeq h (.ref b) with
    | some (xs, g), some (ys, g') => some ((xs.zip ys).map (fun p => .tup [p.1, p.2]), g ++ g')
    | _, _ => none
  | _ => none
def walk (k : Ik) (vs : List AV) (h : AH) : Option (List AV × Gd) := match k with
  | .seq => wk1 vs h
  | .rng1 => wkR1 vs
  | .rng2 => wkR2 vs
  | .enum => wkE vs h
  | .zip => wkZ vs h
  | .keys => none

/-! ### evaluation -/
abbrev Cf := Nm → List AV → AH → Res AV
/-- nothing is raised here -/
def Res.calm {α : Type} : Res α → Res α
  | .exc _ _ => .bad
  | r => r
/-- a comprehension's loop -/
def compLoop (t : Tg) (g : Gd) (cond elt : Sl → AH → Res AV) : List AV → List AV → Sl → AH → Res (List AV)
  | [], acc, σ, h => if gdOk g h then .ok acc h else .bad
  | x :: xs, acc, σ, h => if gdOk g h then
      match bindT t x σ with
      | some σ1 => (cond σ1 h).bind fun c h1 => match c with
        | .bl true => (elt σ1 h1).bind fun v h2 => if acc.length < LIM then compLoop t g cond elt xs (acc ++ [v]) σ h2 else .bad
        | .bl false => compLoop t g cond elt xs acc σ h1
        | _ => .bad
      | none => .bad
    else .bad
def asI (v : AV) (h : AH) : Res (Option Int) := match v with
  | .int i => .ok (some i) h
  | _ => .bad
def sliceA (v : AV) (lo hi : Option Int) (h : AH) : Res AV := match v with
  | .str s => if s.length ≤ LIM then .ok (.str (cut s lo hi)) h else .bad
  | .ref a => match h.g a with
    | some (.lst xs) => .ok (.ref h.n) (h.new (.lst (cut xs lo hi)))
    | _ => .bad
  | .rl xs => .ok (.ref h.n) (h.new (.lst (cut xs lo hi)))
  | _ => .bad
/-- a class's __init__, the method of a class, its attributes; a def's defaults, what a call with its one keyword fills in -/
structure Cl where
  init : Nm → Option Nm
  mth : Nm → Nm → Option Nm
  at' : Nm → List Nm
  dfl : Nm → List AV
  kw : Nm → Option (List AV × Nm)

mutual
def ev (cl : Cl) (cf : Cf) (e : E) (σ : Sl) (h : AH) : Res AV :=
  match e with
  | .slot i => match σ[i]? with
    | some (some v) => .ok v h
    | _ => .bad
  | .non => .ok .non h
  | .bl b => .ok (.bl b) h
  | .int i => .ok (.int i) h
  | .str s => .ok (.str s) h
  | .kd _ kvs => .ok (.kd kvs) h
  | .tup es => (evs cl cf es σ h).bind fun vs h1 => if vs.length ≤ LIM then .ok (.tup vs) h1 else .bad
  | .lst es => (evs cl cf es σ h).bind fun vs h1 => newL h1 vs
  | .dict0 tk => .ok (.ref h.n) (h.new (.dct tk []))
  | .op o a b => (ev cl cf a σ h).bind fun x h1 => (ev cl cf b σ h1).bind fun y h2 => op2 o x y h2
  | .neg a => (ev cl cf a σ h).bind fun x h1 => match x with
    | .int i => .ok (.int (-i)) h1
    | _ => .bad
  | .isN a => (ev cl cf a σ h).bind fun x h1 => .ok (.bl (decide (x = .non))) h1
  | .notN a => (ev cl cf a σ h).bind fun x h1 => .ok (.bl (!decide (x = .non))) h1
  | .not a => (ev cl cf a σ h).bind fun x h1 => match x with
    | .bl b => .ok (.bl (!b)) h1
    | _ => .bad
  | .and a b => (ev cl cf a σ h).bind fun x h1 => match x with
    | .bl true => ev cl cf b σ h1
    | .bl false => .ok (.bl false) h1
    | _ => .bad
  | .or a b => (ev cl cf a σ h).bind fun x h1 => match x with
    | .bl true => .ok (.bl true) h1
    | .bl false => ev cl cf b σ h1
    | _ => .bad
  | .ite c a b => (ev cl cf c σ h).bind fun x h1 => match x with
    | .bl true => ev cl cf a σ h1
    | .bl false => ev cl cf b σ h1
    | _ => .bad
  | .slice a lo hi => (ev cl cf a σ h).bind fun x h1 => (if lo.isNil then .ok none h1 else (ev cl cf lo σ h1).bind asI).bind fun l h2 =>
    (if hi.isNil then .ok none h2 else (ev cl cf hi σ h2).bind asI).bind fun u h3 => sliceA x l u h3
  | .call f es => (evs cl cf es σ h).bind fun vs h1 => cf f vs h1
  | .meth o m es ds => (ev cl cf o σ h).bind fun x h1 => match x with
    | .ref a => match h1.g a with
      | some (.obj c fs) => match cl.mth c m with
        | some f => if ds.isSuffixOf (cl.dfl f) then (evs cl cf es σ h1).bind fun vs h2 => cf f (.ref a :: (vs ++ ds)) h2 else .bad
        | none => .bad
      | _ => .bad
    | _ => .bad
  | .methK o m es mid kn e => (ev cl cf o σ h).bind fun x h1 => match x with
    | .ref a => match h1.g a with
      | some (.obj c fs) => match cl.mth c m with
        | some f => if cl.kw f = some (mid, kn) then (evs cl cf es σ h1).bind fun vs h2 => (ev cl cf e σ h2).bind fun v h3 => cf f (.ref a :: (vs ++ mid ++ [v])) h3 else .bad
        | none => .bad
      | _ => .bad
    | _ => .bad
  | .make c es => match cl.init c with
    | some f => (evs cl cf es σ h).bind fun vs h1 => (cf f (.ref h1.n :: vs) (h1.new (.obj c []))).bind fun v h2 => match v with
      | .non => .ok (.ref h1.n) h2
      | _ => .bad
    | none => .bad
  | .fld o f => (ev cl cf o σ h).bind fun x h1 => match getF h1 x f with
    | some v => .ok v h1
    | none => .bad
  | .bi b es => (evs cl cf es σ h).bind fun vs h1 => primB b vs h1
  | .mth b o es => (ev cl cf o σ h).bind fun x h1 => match tyOf h1 x with
    | some t => if mthTy b t then (evs cl cf es σ h1).bind fun vs h2 => primM b t x vs h2 else .bad
    | none => .bad
  | .isTy a t => (ev cl cf a σ h).bind fun x h1 => match tyOf h1 x with
    | some u => .ok (.bl (isTy u t)) h1
    | none => .bad
  | .comp t k src cond elt => (evs cl cf src σ h).bind fun vs h1 => match walk k vs h1 with
    | some (xs, g) => ((compLoop t g (fun σ h => ev cl cf cond σ h) (fun σ h => ev cl cf elt σ h) xs [] σ h1).calm).bind fun l h2 => .ok (.ref h2.n) (h2.new (.lst l))
    | none => .bad
  | .nil => .bad
  | .cons _ _ => .bad
termination_by structural e
def evs (cl : Cl) (cf : Cf) (e : E) (σ : Sl) (h : AH) : Res (List AV) :=
  match e with
  | .nil => .ok [] h
  | .cons a r => (ev cl cf a σ h).bind fun v h1 => (evs cl cf r σ h1).bind fun vs h2 => .ok (v :: vs) h2
  | _ => .bad
termination_by structural e
end

inductive SR where
  | nx (σ : Sl) (h : AH) | rt (v : AV) (h : AH) | exc (c : Nm) (h : AH) | bad
def Res.bindS {α : Type} : Res α → (α → AH → SR) → SR
  | .ok a h, k => k a h
  | .exc c h, _ => .exc c h
  | .bad, _ => .bad
def SR.bind : SR → (Sl → AH → SR) → SR
  | .nx σ h, k => k σ h
  | .rt v h, _ => .rt v h
  | .exc c h, _ => .exc c h
  | .bad, _ => .bad
/-- so many turns a while may take -/
def WL : Nat := 2 ^ 60
def whileL (c : Sl → AH → Res AV) (b : Sl → AH → SR) : Nat → Sl → AH → SR
  | 0, _, _ => .bad
  | n + 1, σ, h => (c σ h).bindS fun v h1 => match v with
    | .bl true => (b σ h1).bind fun σ2 h2 => whileL c b n σ2 h2
    | .bl false => .nx σ h1
    | _ => .bad
def forL (t : Tg) (g : Gd) (b : Sl → AH → SR) : List AV → Sl → AH → SR
  | [], σ, h => if gdOk g h then .nx σ h else .bad
  | x :: xs, σ, h => if gdOk g h then
      match bindT t x σ with
      | some σ1 => (b σ1 h).bind fun σ2 h2 => forL t g b xs σ2 h2
      | none => .bad
    else .bad
def ex (cl : Cl) (cf : Cf) (s : S) (σ : Sl) (h : AH) : SR :=
  match s with
  | .nil => .nx σ h
  | .seq a r => (ex cl cf a σ h).bind fun σ1 h1 => ex cl cf r σ1 h1
  | .pass => .nx σ h
  | .asg t e => (ev cl cf e σ h).bindS fun v h1 => match bindT t v σ with
    | some σ1 => .nx σ1 h1
    | none => .bad
  | .fset o f e => (ev cl cf e σ h).bindS fun v h1 => (ev cl cf o σ h1).bindS fun x h2 => match setF cl.at' h2 x f v with
    | some h3 => .nx σ h3
    | none => .bad
  | .iset o i e => (ev cl cf e σ h).bindS fun v h1 => (ev cl cf o σ h1).bindS fun x h2 => (ev cl cf i σ h2).bindS fun y h3 => match setI h3 x y v with
    | some h4 => .nx σ h4
    | none => .bad
  | .exp e => (ev cl cf e σ h).bindS fun _ h1 => .nx σ h1
  | .ret e => (ev cl cf e σ h).bindS fun v h1 => .rt v h1
  | .retN => .rt .non h
  | .ite c a b => (ev cl cf c σ h).bindS fun v h1 => match v with
    | .bl true => ex cl cf a σ h1
    | .bl false => ex cl cf b σ h1
    | _ => .bad
  | .while c b => whileL (fun σ h => ev cl cf c σ h) (fun σ h => ex cl cf b σ h) WL σ h
  | .for t k src b => (evs cl cf src σ h).bindS fun vs h1 => match walk k vs h1 with
    | some (xs, g) => forL t g (fun σ h => ex cl cf b σ h) xs σ h1
    | none => .bad
  | .raise c => .exc c h
termination_by structural s

/-- a def: how many parameters, how many slots, its body -/
structure FD where
  np : Nat
  ns : Nat
  body : S
structure Prg where
  fn : Nm → Option FD
  cl : Cl
/-- calls, so deep -/
def callD (P : Prg) : Nat → Cf
  | 0, _, _, _ => .bad
  | d + 1, f, vs, h => match P.fn f with
    | some F => if vs.length = F.np then
        match ex P.cl (callD P d) F.body (vs.map some ++ List.replicate (F.ns - F.np) none) h with
        | .nx _ h1 => .ok .non h1
        | .rt v h1 => .ok v h1
        | .exc c h1 => .exc c h1
        | .bad => .bad
      else .bad
    | none => .bad
end Rl

set_option Elab.async false
set_option linter.all false
set_option maxRecDepth 100000
set_option autoImplicit false
set_option maxHeartbeats 4000000
/-! Sound1: how the own values and the own heap stand to the layer's. -/
namespace Rl
open PySem PySem.Spec PyProof.Rows L2

/-- a written dict with text keys and ints -/
structure KDat (K : PySem.W.Frag) (w : World) (a : Addr) (kvs : List (Tx × Int)) : Prop where
  dict : ∃ es n, KDict K w a es n
  look : ∀ s : Tx, ∃ r, PySem.W.nsIn K a ⟨s.toArray⟩ = some r ∧ r.isSome = (klook kvs s).isSome ∧ ∀ i, klook kvs s = some i → ∃ t, r = some (Value.int i t)

/-- a list that stays as it is -/
def SqF (K : PySem.W.Frag) (H : Hp) (a : Addr) (xs : List V) : Prop := (∃ o, H a = some (.frz o (.lst xs))) ∨
  ∃ (o : Obj) (its : Array Value) (n : Nat), K.lookup a = some o ∧ o.cls = .type "list" ∧ o.dict = none ∧ o.data = .seq its n ∧ its.size ≤ sizeLine ∧ Vals xs its.toList
theorem SqF.sq {K : PySem.W.Frag} {H : Hp} {a : Addr} {xs : List V} (h : SqF K H a xs) : SqL K H a xs := by
  rcases h with ⟨o, h⟩ | h
  · exact .inl (.inr ⟨o, h⟩)
  · exact .inr h
section
variable (w : World) (K : PySem.W.Frag)
mutual
inductive RA (ρ : List Addr) (H : Hp) : AV → V → Prop
  | non : RA ρ H .non .non
  | bl (b : Bool) : RA ρ H (.bl b) (.bl b)
  | int (i : Int) : RA ρ H (.int i) (.int i)
  | str (s : Tx) : RA ρ H (.str s) (.str ⟨s.toArray⟩)
  | ref {n : Nat} {a : Addr} : ρ[n]? = some a → RA ρ H (.ref n) (.ref a)
  | tup {l : List AV} {t : Addr} {vs : List V} : H t = some (.tup vs) → RAs ρ H l vs → RA ρ H (.tup l) (.ref t)
  | kd {kvs : List (Tx × Int)} {a : Addr} : KDat K w a kvs → RA ρ H (.kd kvs) (.ref a)
  | rl {l : List AV} {a : Addr} {vs : List V} : SqF K H a vs → RAs ρ H l vs → RA ρ H (.rl l) (.ref a)
inductive RAs (ρ : List Addr) (H : Hp) : List AV → List V → Prop
  | nil : RAs ρ H [] []
  | cons {x : AV} {v : V} {xs : List AV} {vs : List V} : RA ρ H x v → RAs ρ H xs vs → RAs ρ H (x :: xs) (v :: vs)
end
end
/-- what stays -/
structure Keep (H H' : Hp) : Prop where
  tup : ∀ b xs, H b = some (.tup xs) → H' b = some (.tup xs)
  frz : ∀ b o u, H b = some (.frz o u) → H' b = some (.frz o u)
theorem Keep.refl (H : Hp) : Keep H H := ⟨fun _ _ h => h, fun _ _ _ h => h⟩
theorem Keep.trans {H H1 H2 : Hp} (a : Keep H H1) (b : Keep H1 H2) : Keep H H2 := ⟨fun c xs h => b.tup c xs (a.tup c xs h), fun c o u h => b.frz c o u (a.frz c o u h)⟩
theorem Keep.new {H : Hp} {p : Addr} {o : HO} (h : H p = none) : Keep H (upd H p o) :=
  ⟨fun b xs e => by rw [upd_ne (ne_of_none e h)]; exact e, fun b ob u e => by rw [upd_ne (ne_of_none e h)]; exact e⟩
theorem Keep.write {H : Hp} {p : Addr} {o u : HO} (h : H p = some u) (n1 : ∀ xs, u ≠ .tup xs) (n2 : ∀ ob v, u ≠ .frz ob v) : Keep H (upd H p o) :=
  ⟨fun b xs e => by
    have : b ≠ p := by rintro rfl; rw [h] at e; cases e; exact n1 _ rfl
    rw [upd_ne this]; exact e,
  fun b ob v e => by
    have : b ≠ p := by rintro rfl; rw [h] at e; cases e; exact n2 _ _ rfl
    rw [upd_ne this]; exact e⟩
abbrev Pre (ρ ρ' : List Addr) : Prop := ρ <+: ρ'
theorem Pre.get {ρ ρ' : List Addr} (p : Pre ρ ρ') {n : Nat} {a : Addr} (h : ρ[n]? = some a) : ρ'[n]? = some a := by
  obtain ⟨t, rfl⟩ := p
  rw [List.getElem?_append_left (List.getElem?_eq_some_iff.mp h).1]; exact h
/-- a later moment -/
structure Ltr (ρ : List Addr) (H : Hp) (ρ' : List Addr) (H' : Hp) : Prop where
  pre : Pre ρ ρ'
  keep : Keep H H'
  fr : ∀ b o, H b = some o → b ∉ ρ → H' b = some o ∧ b ∉ ρ'
theorem Ltr.refl (ρ : List Addr) (H : Hp) : Ltr ρ H ρ H := ⟨List.prefix_refl _, .refl H, fun _ _ h n => ⟨h, n⟩⟩
theorem Ltr.trans {ρ ρ1 ρ2 : List Addr} {H H1 H2 : Hp} (a : Ltr ρ H ρ1 H1) (b : Ltr ρ1 H1 ρ2 H2) : Ltr ρ H ρ2 H2 := ⟨a.pre.trans b.pre, a.keep.trans b.keep, fun c o h n => let ⟨h1, n1⟩ := a.fr c o h n; b.fr c o h1 n1⟩

section
variable {w : World} {K : PySem.W.Frag} {ρ ρ' : List Addr} {H H' : Hp}
mutual
theorem RA.ltr (L : Ltr ρ H ρ' H') : ∀ {x : AV} {v : V}, RA w K ρ H x v → RA w K ρ' H' x v
  | _, _, .non => .non
  | _, _, .bl b => .bl b
  | _, _, .int i => .int i
  | _, _, .str s => .str s
  | _, _, .ref h => .ref (L.pre.get h)
  | _, _, .tup h r => .tup (L.keep.tup _ _ h) (RAs.ltr L r)
  | _, _, .kd h => .kd h
  | _, _, .rl (.inl ⟨o, h⟩) r => .rl (.inl ⟨o, L.keep.frz _ _ _ h⟩) (RAs.ltr L r)
  | _, _, .rl (.inr h) r => .rl (.inr h) (RAs.ltr L r)
theorem RAs.ltr (L : Ltr ρ H ρ' H') : ∀ {x : List AV} {v : List V}, RAs w K ρ H x v → RAs w K ρ' H' x v
  | _, _, .nil => .nil
  | _, _, .cons h r => .cons (RA.ltr L h) (RAs.ltr L r)
end
theorem RAs.length : ∀ {x : List AV} {v : List V}, RAs w K ρ H x v → x.length = v.length
  | _, _, .nil => rfl
  | _, _, .cons _ r => by simp [RAs.length r]
theorem RAs.get : ∀ {xs : List AV} {vs : List V} {i : Nat} {x : AV}, RAs w K ρ H xs vs → xs[i]? = some x → ∃ v, vs[i]? = some v ∧ RA w K ρ H x v
  | _, _, _, _, .nil, h => by simp at h
  | _, _, 0, _, .cons r _, h => by simp at h; subst h; exact ⟨_, rfl, r⟩
  | _, _, i + 1, x, .cons _ r, h => by
    obtain ⟨v, h1, h2⟩ := RAs.get (i := i) (x := x) r (by simpa using h)
    exact ⟨v, by simpa using h1, h2⟩
theorem RAs.get' : ∀ {xs : List AV} {vs : List V} {i : Nat} {v : V}, RAs w K ρ H xs vs → vs[i]? = some v → ∃ x, xs[i]? = some x ∧ RA w K ρ H x v
  | _, _, _, _, .nil, h => by simp at h
  | _, _, 0, _, .cons r _, h => by simp at h; subst h; exact ⟨_, rfl, r⟩
  | _, _, i + 1, x, .cons _ r, h => by
    obtain ⟨v, h1, h2⟩ := RAs.get' (i := i) r (by simpa using h)
    exact ⟨v, by simpa using h1, h2⟩
theorem RAs.append : ∀ {xs ys : List AV} {vs us : List V}, RAs w K ρ H xs vs → RAs w K ρ H ys us → RAs w K ρ H (xs ++ ys) (vs ++ us)
  | _, _, _, _, .nil, s => s
  | _, _, _, _, .cons r t, s => .cons r (RAs.append t s)
theorem RAs.take : ∀ {xs : List AV} {vs : List V} (n : Nat), RAs w K ρ H xs vs → RAs w K ρ H (xs.take n) (vs.take n)
  | _, _, 0, _ => by simp; exact .nil
  | _, _, _ + 1, .nil => by simp; exact .nil
  | _, _, n + 1, .cons r t => .cons r (RAs.take n t)
theorem RAs.drop : ∀ {xs : List AV} {vs : List V} (n : Nat), RAs w K ρ H xs vs → RAs w K ρ H (xs.drop n) (vs.drop n)
  | _, _, 0, r => r
  | _, _, _ + 1, .nil => by simp; exact .nil
  | _, _, n + 1, .cons _ t => RAs.drop n t
theorem RAs.set {x : AV} {v : V} (r : RA w K ρ H x v) : ∀ {xs : List AV} {vs : List V} (i : Nat), RAs w K ρ H xs vs → RAs w K ρ H (xs.set i x) (vs.set i v)
  | _, _, _, .nil => by simp; exact .nil
  | _, _, 0, .cons _ t => .cons r t
  | _, _, i + 1, .cons q t => .cons q (RAs.set r i t)
theorem RAs.eraseIdx : ∀ {xs : List AV} {vs : List V} (i : Nat), RAs w K ρ H xs vs → RAs w K ρ H (xs.eraseIdx i) (vs.eraseIdx i)
  | _, _, _, .nil => by simp; exact .nil
  | _, _, 0, .cons _ t => t
  | _, _, i + 1, .cons q t => .cons q (RAs.eraseIdx i t)
theorem RAs.dropLast {xs : List AV} {vs : List V} (r : RAs w K ρ H xs vs) : RAs w K ρ H xs.dropLast vs.dropLast := by
  rw [List.dropLast_eq_take, List.dropLast_eq_take, ← r.length]; exact r.take _
/-- an int's, a text's value is told by its own -/
theorem RA.int_inv {i : Int} {v : V} (r : RA w K ρ H (.int i) v) : v = .int i := by cases r; rfl
theorem RA.bl_inv {b : Bool} {v : V} (r : RA w K ρ H (.bl b) v) : v = .bl b := by cases r; rfl
theorem RA.non_inv {v : V} (r : RA w K ρ H .non v) : v = .non := by cases r; rfl
theorem RA.str_inv {s : Tx} {v : V} (r : RA w K ρ H (.str s) v) : v = .str ⟨s.toArray⟩ := by cases r; rfl
theorem RA.none_iff {x : AV} {v : V} (r : RA w K ρ H x v) : decide (v = .non) = decide (x = .non) := by
  cases r <;> simp
theorem RAs.ints : ∀ {xs : List AV} {vs : List V} {ns : List Int}, RAs w K ρ H xs vs → allInt xs = some ns → vs = ns.map V.int
  | _, _, _, .nil, h => by simp [allInt] at h; subst h; rfl
  | _, _, ns, .cons (x := x) r t, h => by
    cases x <;> simp only [allInt, Option.map_eq_some_iff, reduceCtorEq] at h
    obtain ⟨ms, h1, rfl⟩ := h
    rw [r.int_inv, RAs.ints t h1]; rfl
theorem RAs.bls : ∀ {xs : List AV} {vs : List V} {ns : List Bool}, RAs w K ρ H xs vs → allBl xs = some ns → vs = ns.map V.bl
  | _, _, _, .nil, h => by simp [allBl] at h; subst h; rfl
  | _, _, ns, .cons (x := x) r t, h => by
    cases x <;> simp only [allBl, Option.map_eq_some_iff, reduceCtorEq] at h
    obtain ⟨ms, h1, rfl⟩ := h
    rw [r.bl_inv, RAs.bls t h1]; rfl
theorem RAs.of_ints : ∀ ns : List Int, RAs w K ρ H (ns.map AV.int) (ns.map V.int)
  | [] => .nil
  | n :: ns => .cons (.int n) (RAs.of_ints ns)
end

/-! ### keys -/
/-- a flat key -/
def keyF : AV → Option Key
  | .int i => some (.inl i)
  | .str s => some (.inr ⟨s.toArray⟩)
  | _ => none
def keyFs : List AV → Option (List Key)
  | [] => some []
  | x :: xs => (keyF x).bind fun k => (keyFs xs).map (k :: ·)
def keyT : AV → Option (List Key)
  | .tup l => keyFs l
  | _ => none
theorem keyF_some {x : AV} (h : flatK x = true) : ∃ k, keyF x = some k := by cases x <;> simp [flatK, keyF] at *
theorem keyFs_some : ∀ {xs : List AV}, xs.all flatK = true → ∃ ks, keyFs xs = some ks
  | [], _ => ⟨[], rfl⟩
  | x :: xs, h => by
    simp only [List.all_cons, Bool.and_eq_true] at h
    obtain ⟨k, hk⟩ := keyF_some h.1
    obtain ⟨ks, hks⟩ := keyFs_some h.2
    exact ⟨k :: ks, by simp [keyFs, hk, hks]⟩
theorem keyT_some {x : AV} (h : tupK x = true) : ∃ ks, keyT x = some ks := by
  cases x <;> simp [tupK, keyT] at *
  exact keyFs_some (by simpa using h)
theorem arr_inj {a b : Tx} (h : (⟨a.toArray⟩ : Str) = ⟨b.toArray⟩) : a = b := by
  have := congrArg (fun s : Str => s.cps.toList) h
  simpa using this
theorem keyF_inj {x y : AV} {k : Key} (h1 : keyF x = some k) (h2 : keyF y = some k) : x = y := by
  cases x <;> simp [keyF] at h1 <;> cases y <;> simp [keyF] at h2 <;> subst h1 <;> cases h2
  · rfl
  · rfl
theorem keyFs_inj : ∀ {xs ys : List AV} {ks : List Key}, keyFs xs = some ks → keyFs ys = some ks → xs = ys
  | [], [], _, _, _ => rfl
  | [], y :: ys, ks, h1, h2 => by
    simp [keyFs] at h1; subst h1
    simp only [keyFs, Option.bind_eq_some_iff, Option.map_eq_some_iff] at h2
    obtain ⟨_, _, _, _, h⟩ := h2; cases h
  | x :: xs, [], ks, h1, h2 => by
    simp [keyFs] at h2; subst h2
    simp only [keyFs, Option.bind_eq_some_iff, Option.map_eq_some_iff] at h1
    obtain ⟨_, _, _, _, h⟩ := h1; cases h
  | x :: xs, y :: ys, ks, h1, h2 => by
    simp only [keyFs, Option.bind_eq_some_iff, Option.map_eq_some_iff] at h1 h2
    obtain ⟨k, e1, ks1, e2, rfl⟩ := h1
    obtain ⟨k', e3, ks2, e4, e5⟩ := h2
    injection e5 with e6 e7
    subst e6 e7
    rw [keyF_inj e1 e3, keyFs_inj e2 e4]
theorem keyT_inj {x y : AV} {k : List Key} (h1 : keyT x = some k) (h2 : keyT y = some k) : x = y := by
  cases x <;> simp [keyT] at h1
  cases y <;> simp [keyT] at h2
  rw [keyFs_inj h1 h2]
section
variable {w : World} {K : PySem.W.Frag} {ρ ρ' : List Addr} {H H' : Hp}
theorem RA.keyF {x : AV} {v : V} {k : Key} (r : RA w K ρ H x v) (h : keyF x = some k) : v = kV k := by
  cases r <;> simp [Rl.keyF] at h <;> subst h <;> rfl
theorem RAs.keyFs : ∀ {xs : List AV} {vs : List V} {ks : List Key}, RAs w K ρ H xs vs → keyFs xs = some ks → vs = ks.map kV
  | _, _, _, .nil, h => by simp [Rl.keyFs] at h; subst h; rfl
  | _, _, _, .cons r t, h => by
    simp only [Rl.keyFs, Option.bind_eq_some_iff, Option.map_eq_some_iff] at h
    obtain ⟨k, e1, ks1, e2, rfl⟩ := h
    rw [r.keyF e1, RAs.keyFs t e2]; rfl
theorem RA.of_keyF {x : AV} {k : Key} (h : Rl.keyF x = some k) : RA w K ρ H x (kV k) := by
  cases x <;> simp [Rl.keyF] at h <;> subst h
  · exact .int _
  · exact .str _
theorem RAs.of_keyFs : ∀ {xs : List AV} {ks : List Key}, Rl.keyFs xs = some ks → RAs w K ρ H xs (ks.map kV)
  | [], _, h => by simp [Rl.keyFs] at h; subst h; exact .nil
  | x :: xs, _, h => by
    simp only [Rl.keyFs, Option.bind_eq_some_iff, Option.map_eq_some_iff] at h
    obtain ⟨k, e1, ks1, e2, rfl⟩ := h
    exact .cons (.of_keyF e1) (RAs.of_keyFs e2)
end

/-! ### objects -/
/-- entries of a dict -/
inductive RKV {κ : Type} (key : AV → Option κ) (w : World) (K : PySem.W.Frag) (ρ : List Addr) (H : Hp) : List (AV × AV) → List (κ × V) → Prop
  | nil : RKV key w K ρ H [] []
  | cons {k : AV} {x : AV} {κ' : κ} {v : V} {kvs : List (AV × AV)} {vs : List (κ × V)} : key k = some κ' → RA w K ρ H x v → RKV key w K ρ H kvs vs → RKV key w K ρ H ((k, x) :: kvs) ((κ', v) :: vs)
/-- attributes -/
inductive RF (w : World) (K : PySem.W.Frag) (ρ : List Addr) (H : Hp) : List (Nm × AV) → List (Str × V) → Prop
  | nil : RF w K ρ H [] []
  | cons {f : Nm} {x : AV} {v : V} {fs : List (Nm × AV)} {vs : List (Str × V)} : RA w K ρ H x v → RF w K ρ H fs vs → RF w K ρ H ((f, x) :: fs) ((f.str, v) :: vs)
/-- the names that a program uses as attributes: told apart by their texts -/
def NmOk (l : List Nm) : Prop := ∀ f ∈ l, ∀ g ∈ l, f.str = g.str → f = g

/-- how an own object stands; ca: the classes' addresses; at: the attributes that may be asked of a class -/
inductive RO (w : World) (K : PySem.W.Frag) (ca : Nm → Addr) (at' : Nm → List Nm) (ρ : List Addr) (H : Hp) : O → HO → Prop
  | lst {xs : List AV} {vs : List V} : RAs w K ρ H xs vs → RO w K ca at' ρ H (.lst xs) (.lst vs)
  | dK {kvs : List (AV × AV)} {vs : List (Key × V)} : RKV keyF w K ρ H kvs vs → RO w K ca at' ρ H (.dct false kvs) (.dK vs)
  | dT {kvs : List (AV × AV)} {vs : List (List Key × V)} : RKV keyT w K ρ H kvs vs → RO w K ca at' ρ H (.dct true kvs) (.dT vs)
  | obj {c : Nm} {dx : Addr} {fs : List (Nm × AV)} {vs : List (Str × V)} : Cls K (ca c) → RF w K ρ H fs vs → (∀ p ∈ fs, p.1 ∈ at' c) → (∀ f ∈ at' c, NoAttr K (ca c) f.str) → NmOk (at' c) → RO w K ca at' ρ H (.obj c fs) (.ins (ca c) dx vs)
/-- what may be written -/
def Mt : HO → Prop
  | .lst _ => True
  | .dK _ => True
  | .dT _ => True
  | .ins _ _ _ => True
  | _ => False
section
variable {w : World} {K : PySem.W.Frag} {ca : Nm → Addr} {at' : Nm → List Nm} {ρ ρ' : List Addr} {H H' : Hp} {h : AH}
theorem RO.mt {o : O} {u : HO} (r : RO w K ca at' ρ H o u) : Mt u := by cases r <;> trivial
theorem RKV.ltr {κ : Type} {key : AV → Option κ} (L : Ltr ρ H ρ' H') {kvs : List (AV × AV)} {vs : List (κ × V)} (r : RKV key w K ρ H kvs vs) : RKV key w K ρ' H' kvs vs := by
  induction r with
  | nil => exact .nil
  | cons h x _ ih => exact .cons h (x.ltr L) ih
theorem RF.ltr (L : Ltr ρ H ρ' H') {kvs : List (Nm × AV)} {vs : List (Str × V)} (r : RF w K ρ H kvs vs) : RF w K ρ' H' kvs vs := by
  induction r with
  | nil => exact .nil
  | cons x _ ih => exact .cons (x.ltr L) ih
theorem RO.ltr (L : Ltr ρ H ρ' H') {o : O} {u : HO} (r : RO w K ca at' ρ H o u) : RO w K ca at' ρ' H' o u := by
  cases r with
  | lst r => exact .lst (r.ltr L)
  | dK r => exact .dK (r.ltr L)
  | dT r => exact .dT (r.ltr L)
  | obj a b c d e => exact .obj a (b.ltr L) c d e
/-- the own heap stands so -/
structure RH (w : World) (K : PySem.W.Frag) (ca : Nm → Addr) (at' : Nm → List Nm) (ρ : List Addr) (h : AH) (H : Hp) : Prop where
  len : ρ.length = h.n
  mt : ∀ (n : Nat) (a : Addr), ρ[n]? = some a → ∃ u, H a = some u ∧ Mt u
  inj : ∀ (n m : Nat) (a : Addr), ρ[n]? = some a → ρ[m]? = some a → n = m
  ob : ∀ (n : Nat) (o : O), h.g n = some o → ∃ (a : Addr) (u : HO), ρ[n]? = some a ∧ H a = some u ∧ RO w K ca at' ρ H o u
theorem Keep.mt {p : Addr} {o u : HO} (h : H p = some u) (m : Mt u) : Keep H (upd H p o) :=
  .write h (by rintro xs rfl; exact m) (by rintro ob v rfl; exact m)
theorem RH.fresh (r : RH w K ca at' ρ h H) {p : Addr} (hp : H p = none) {n : Nat} : ρ[n]? ≠ some p := fun e => by
  obtain ⟨u, h1, _⟩ := r.mt n p e
  rw [hp] at h1; cases h1
theorem Ltr.new (r : RH w K ca at' ρ h H) {p : Addr} (hp : H p = none) {u : HO} : Ltr ρ H (ρ ++ [p]) (upd H p u) :=
  ⟨List.prefix_append _ _, .new hp, fun b o e n => ⟨by rw [upd_ne (ne_of_none e hp)]; exact e, by simp [n, ne_of_none e hp]⟩⟩
theorem RH.new (r : RH w K ca at' ρ h H) {p : Addr} (hp : H p = none) {o : O} {u : HO} (ro : RO w K ca at' ρ H o u) : RH w K ca at' (ρ ++ [p]) (h.new o) (upd H p u) := by
  have L : Ltr ρ H (ρ ++ [p]) (upd H p u) := .new r hp
  have old : ∀ {n a}, n < ρ.length → (ρ ++ [p])[n]? = some a → ρ[n]? = some a := fun {n a} hn e => by rwa [List.getElem?_append_left hn] at e
  have nw : ∀ {n a}, ¬ n < ρ.length → (ρ ++ [p])[n]? = some a → n = ρ.length ∧ a = p := fun {n a} hn e => by
    rw [List.getElem?_append_right (by omega)] at e
    have : n - ρ.length = 0 := by
      rcases Nat.eq_zero_or_pos (n - ρ.length) with z | z
      · exact z
      · rw [List.getElem?_eq_none (by simp; omega)] at e; cases e
    rw [this] at e
    simp at e
    exact ⟨by omega, e.symm⟩
  refine ⟨by simp [AH.new, r.len], fun n a e => ?_, fun n m a e1 e2 => ?_, fun n o' e => ?_⟩
  · by_cases hn : n < ρ.length
    · obtain ⟨u', h1, m⟩ := r.mt n a (old hn e)
      exact ⟨u', by rw [upd_ne (ne_of_none h1 hp)]; exact h1, m⟩
    · obtain ⟨_, rfl⟩ := nw hn e
      exact ⟨u, upd_same, ro.mt⟩
  · by_cases h1 : n < ρ.length <;> by_cases h2 : m < ρ.length
    · exact r.inj n m a (old h1 e1) (old h2 e2)
    · obtain ⟨_, rfl⟩ := nw h2 e2
      exact absurd (old h1 e1) (r.fresh hp)
    · obtain ⟨_, rfl⟩ := nw h1 e1
      exact absurd (old h2 e2) (r.fresh hp)
    · rw [(nw h1 e1).1, (nw h2 e2).1]
  · by_cases hn : n = h.n
    · subst hn
      simp only [AH.new, if_pos rfl] at e
      cases e
      refine ⟨p, u, ?_, upd_same, ro.ltr L⟩
      rw [← r.len]; simp
    · simp only [AH.new, if_neg hn] at e
      obtain ⟨a, u', h1, h2, h3⟩ := r.ob n o' e
      exact ⟨a, u', L.pre.get h1, by rw [upd_ne (ne_of_none h2 hp)]; exact h2, h3.ltr L⟩
theorem RH.put (r : RH w K ca at' ρ h H) {n : Nat} {a : Addr} (hn : ρ[n]? = some a) {o : O} {u : HO} (ro : RO w K ca at' ρ (upd H a u) o u) : RH w K ca at' ρ (h.put n o) (upd H a u) ∧ Ltr ρ H ρ (upd H a u) := by
  obtain ⟨u0, h0, m0⟩ := r.mt n a hn
  have L : Ltr ρ H ρ (upd H a u) := ⟨List.prefix_refl _, .mt h0 m0, fun b o e n => ⟨by rw [upd_ne (fun z => n (by rw [z]; exact List.mem_of_getElem? hn))]; exact e, n⟩⟩
  refine ⟨⟨r.len, fun m b e => ?_, r.inj, fun m o' e => ?_⟩, L⟩
  · by_cases hb : b = a
    · subst hb; exact ⟨u, upd_same, ro.mt⟩
    · rw [upd_ne hb]; exact r.mt m b e
  · by_cases hm : m = n
    · subst hm
      simp only [AH.put, if_pos rfl] at e
      cases e
      exact ⟨a, u, hn, upd_same, ro⟩
    · simp only [AH.put, if_neg hm] at e
      obtain ⟨b, u', h1, h2, h3⟩ := r.ob m o' e
      have hb : b ≠ a := fun z => by subst z; exact hm (r.inj m n b h1 hn)
      exact ⟨b, u', h1, by rw [upd_ne hb]; exact h2, h3.ltr L⟩
theorem RH.get (r : RH w K ca at' ρ h H) {n : Nat} {a : Addr} (hn : ρ[n]? = some a) {o : O} (e : h.g n = some o) : ∃ u, H a = some u ∧ RO w K ca at' ρ H o u := by
  obtain ⟨b, u, h1, h2, h3⟩ := r.ob n o e
  rw [hn] at h1; cases h1
  exact ⟨u, h2, h3⟩
theorem RH.lst (r : RH w K ca at' ρ h H) {n : Nat} {a : Addr} (hn : ρ[n]? = some a) {xs : List AV} (e : h.g n = some (.lst xs)) : ∃ vs, H a = some (.lst vs) ∧ RAs w K ρ H xs vs := by
  obtain ⟨u, h1, h2⟩ := r.get hn e
  cases h2 with
  | lst q => exact ⟨_, h1, q⟩
theorem RH.dK (r : RH w K ca at' ρ h H) {n : Nat} {a : Addr} (hn : ρ[n]? = some a) {xs : List (AV × AV)} (e : h.g n = some (.dct false xs)) : ∃ vs, H a = some (.dK vs) ∧ RKV keyF w K ρ H xs vs := by
  obtain ⟨u, h1, h2⟩ := r.get hn e
  cases h2 with
  | dK q => exact ⟨_, h1, q⟩
theorem RH.dT (r : RH w K ca at' ρ h H) {n : Nat} {a : Addr} (hn : ρ[n]? = some a) {xs : List (AV × AV)} (e : h.g n = some (.dct true xs)) : ∃ vs, H a = some (.dT vs) ∧ RKV keyT w K ρ H xs vs := by
  obtain ⟨u, h1, h2⟩ := r.get hn e
  cases h2 with
  | dT q => exact ⟨_, h1, q⟩
theorem RH.obj (r : RH w K ca at' ρ h H) {n : Nat} {a : Addr} (hn : ρ[n]? = some a) {c : Nm} {fs : List (Nm × AV)} (e : h.g n = some (.obj c fs)) :
    ∃ dx vs, H a = some (.ins (ca c) dx vs) ∧ Cls K (ca c) ∧ RF w K ρ H fs vs ∧ (∀ p ∈ fs, p.1 ∈ at' c) ∧ (∀ f ∈ at' c, NoAttr K (ca c) f.str) ∧ NmOk (at' c) := by
  obtain ⟨u, h1, h2⟩ := r.get hn e
  cases h2 with
  | obj a b c d e => exact ⟨_, _, h1, a, b, c, d, e⟩
theorem RF.look {fs : List (Nm × AV)} {vs : List (Str × V)} (r : RF w K ρ H fs vs) {l : List Nm} (hl : NmOk l) : (∀ p ∈ fs, p.1 ∈ l) → ∀ {f : Nm}, f ∈ l → (∀ x, flook fs f = some x → ∃ v, vs.lookup f.str = some v ∧ RA w K ρ H x v) ∧ (flook fs f = none → vs.lookup f.str = none) := by
  induction r with
  | nil => intro _ f _; exact ⟨fun x e => by simp [flook] at e, fun _ => rfl⟩
  | @cons g x v fs vs hx _ ih =>
    intro hm f hf
    have ih := ih (fun p hp => hm p (List.mem_cons_of_mem _ hp)) hf
    have hg := hm (g, x) List.mem_cons_self
    by_cases e : g = f
    · subst e
      refine ⟨fun y h => ?_, fun h => ?_⟩
      · simp [flook] at h; subst h; exact ⟨v, by simp, hx⟩
      · simp [flook] at h
    · have ne : (f.str == g.str) = false := by simpa using fun z => e (hl g hg f hf z.symm)
      have e1 : flook ((g, x) :: fs) f = flook fs f := by simp [flook, List.find?_cons, e]
      rw [e1, List.lookup_cons, ne]
      exact ih
theorem RF.length {fs : List (Nm × AV)} {vs : List (Str × V)} (r : RF w K ρ H fs vs) : fs.length = vs.length := by
  induction r with
  | nil => rfl
  | cons _ _ ih => simp [ih]
theorem RF.put {fs : List (Nm × AV)} {vs : List (Str × V)} (r : RF w K ρ H fs vs) {l : List Nm} (hl : NmOk l) {f : Nm} (hf : f ∈ l) {x : AV} {v : V} (rx : RA w K ρ H x v) : (∀ p ∈ fs, p.1 ∈ l) → RF w K ρ H (fput fs f x) (putF f.str v vs) ∧ ∀ p ∈ fput fs f x, p.1 ∈ l := by
  induction r with
  | nil => intro _; exact ⟨.cons rx .nil, fun p hp => by simp [fput] at hp; subst hp; exact hf⟩
  | @cons g y u fs vs hy hr ih =>
    intro hm
    have hg := hm (g, y) List.mem_cons_self
    obtain ⟨i1, i2⟩ := ih fun p hp => hm p (List.mem_cons_of_mem _ hp)
    unfold fput putF
    by_cases e : g = f
    · subst e
      rw [if_pos rfl, if_pos rfl]
      exact ⟨.cons rx hr, fun p hp => by
        rcases List.mem_cons.mp hp with z | z
        · rw [z]; exact hf
        · exact hm p (List.mem_cons_of_mem _ z)⟩
    · rw [if_neg e, if_neg fun z => e (hl g hg f hf z)]
      exact ⟨.cons hy i1, fun p hp => by
        rcases List.mem_cons.mp hp with z | z
        · rw [z]; exact hg
        · exact i2 p z⟩
end
end Rl

set_option Elab.async false
set_option linter.all false
set_option maxRecDepth 100000
set_option autoImplicit false
set_option maxHeartbeats 4000000
/-! Sound2: readings by the evaluator; how they go on, one behind the other. -/
namespace Rl
open PySem PySem.Spec PyProof.Rows L2

abbrev St := L2.St
section
variable {w : World} {K : PySem.W.Frag} {ca : Nm → Addr} {at' : Nm → List Nm} {E : XK}
/-- what is wanted behind an evaluation -/
def KR (w : World) (K : PySem.W.Frag) (ca : Nm → Addr) (at' : Nm → List Nm) (E : XK) {α β : Type} (R : List Addr → Hp → α → β → Prop) (r : Res α) (ρ : List Addr) (H : Hp) (Q : β → Hp → Prop) : Prop :=
  match r with
  | .ok v h => ∀ ρ' H' v', Ltr ρ H ρ' H' → RH w K ca at' ρ' h H' → R ρ' H' v v' → Q v' H'
  | .exc c h => ∀ ρ' H', Ltr ρ H ρ' H' → RH w K ca at' ρ' h H' → E (.ref (ca c)) none H'
  | .bad => False
theorem KR.mono {α β : Type} {R : List Addr → Hp → α → β → Prop} {r : Res α} {ρ : List Addr} {H : Hp} {Q Q' : β → Hp → Prop} (k : KR w K ca at' E R r ρ H Q) (h : ∀ v H', Q v H' → Q' v H') : KR w K ca at' E R r ρ H Q' := by
  cases r with
  | ok v h1 => exact fun ρ' H' v' L r1 r2 => h _ _ (k ρ' H' v' L r1 r2)
  | exc c h1 => exact k
  | bad => exact k
theorem KR.later {α β : Type} {R : List Addr → Hp → α → β → Prop} {r : Res α} {ρ ρ' : List Addr} {H H' : Hp} {Q : β → Hp → Prop} (k : KR w K ca at' E R r ρ H Q) (L : Ltr ρ H ρ' H') : KR w K ca at' E R r ρ' H' Q := by
  cases r with
  | ok v h1 => exact fun ρ2 H2 v' L2 r1 r2 => k ρ2 H2 v' (L.trans L2) r1 r2
  | exc c h1 => exact fun ρ2 H2 L2 r1 => k ρ2 H2 (L.trans L2) r1
  | bad => exact k
/-- the slots, the heap -/
structure SS (w : World) (K : PySem.W.Frag) (ca : Nm → Addr) (at' : Nm → List Nm) (ρ : List Addr) (aσ : Sl) (h : AH) (σ : St) (H : Hp) : Prop where
  sl : ∀ (i : Nat) v, aσ[i]? = some (some v) → ∃ v', σ[i]? = some (some v') ∧ RA w K ρ H v v'
  len : aσ.length = σ.length
  hp : RH w K ca at' ρ h H
theorem SS.later {ρ ρ' : List Addr} {aσ : Sl} {h h' : AH} {σ : St} {H H' : Hp} (S : SS w K ca at' ρ aσ h σ H) (L : Ltr ρ H ρ' H') (r : RH w K ca at' ρ' h' H') : SS w K ca at' ρ' aσ h' σ H' :=
  ⟨fun i v e => let ⟨v', h1, h2⟩ := S.sl i v e; ⟨v', h1, h2.ltr L⟩, S.len, r⟩
/-- one thing behind the other -/
theorem KR.bind {α β γ δ : Type} {R : List Addr → Hp → α → β → Prop} {R2 : List Addr → Hp → γ → δ → Prop} {r : Res α} {k : α → AH → Res γ} {ρ : List Addr} {H : Hp} {Q : δ → Hp → Prop} (h : KR w K ca at' E R2 (r.bind k) ρ H Q) :
    KR w K ca at' E R r ρ H (fun v' H1 => ∃ ρ1 v h1, Ltr ρ H ρ1 H1 ∧ RH w K ca at' ρ1 h1 H1 ∧ R ρ1 H1 v v' ∧ KR w K ca at' E R2 (k v h1) ρ1 H1 Q) := by
  cases r with
  | ok v h1 => exact fun ρ' H' v' L r1 r2 => ⟨ρ', v, h1, L, r1, r2, h.later L⟩
  | exc c h1 => exact h
  | bad => exact h
end

section
variable (w : World) (K : PySem.W.Frag) (ca : Nm → Addr) (cl : Cl) (cf : Cf) (E : XK)
def tI (e : Rl.E) : TE := fun σ H Q => ∃ ρ aσ h, SS w K ca cl.at' ρ aσ h σ H ∧ KR w K ca cl.at' E (RA w K) (ev cl cf e aσ h) ρ H Q
def tIs (e : Rl.E) : TA := fun σ H Q => ∃ ρ aσ h, SS w K ca cl.at' ρ aσ h σ H ∧ KR w K ca cl.at' E (RAs w K) (evs cl cf e aσ h) ρ H Q
/-- a test: the value is a bool -/
def RB (ρ : List Addr) (H : Hp) (v : AV) (b : Bool) : Prop := v = .bl b
def tIT (e : Rl.E) : TT := fun σ H Q => ∃ ρ aσ h, SS w K ca cl.at' ρ aσ h σ H ∧ KR w K ca cl.at' E RB ((ev cl cf e aσ h).bind fun v h1 => match v with | .bl b => .ok (.bl b) h1 | _ => .bad) ρ H Q
end
section
variable {w : World} {K : PySem.W.Frag} {ca : Nm → Addr} {cl : Cl} {cf : Cf} {E : XK} {σ : St} {H : Hp}
theorem tI.mono {e : Rl.E} {Q Q' : VK} (t : tI w K ca cl cf E e σ H Q) (h : ∀ v H', Q v H' → Q' v H') : tI w K ca cl cf E e σ H Q' := let ⟨ρ, aσ, h', S, k⟩ := t; ⟨ρ, aσ, h', S, k.mono h⟩
theorem tIs.mono {e : Rl.E} {Q Q' : List V → Hp → Prop} (t : tIs w K ca cl cf E e σ H Q) (h : ∀ v H', Q v H' → Q' v H') : tIs w K ca cl cf E e σ H Q' := let ⟨ρ, aσ, h', S, k⟩ := t; ⟨ρ, aσ, h', S, k.mono h⟩
theorem tIT.mono {e : Rl.E} {Q Q' : Bool → Hp → Prop} (t : tIT w K ca cl cf E e σ H Q) (h : ∀ v H', Q v H' → Q' v H') : tIT w K ca cl cf E e σ H Q' := let ⟨ρ, aσ, h', S, k⟩ := t; ⟨ρ, aσ, h', S, k.mono h⟩
/-- an evaluation, then what follows -/
theorem tI.bind {e : Rl.E} {ρ : List Addr} {aσ : Sl} {h : AH} {γ δ : Type} {R2 : List Addr → Hp → γ → δ → Prop} {k : AV → AH → Res γ} {Q : δ → Hp → Prop} (S : SS w K ca cl.at' ρ aσ h σ H)
    (q : KR w K ca cl.at' E R2 ((ev cl cf e aσ h).bind k) ρ H Q) :
    tI w K ca cl cf E e σ H (fun v' H1 => ∃ ρ1 v h1, Ltr ρ H ρ1 H1 ∧ SS w K ca cl.at' ρ1 aσ h1 σ H1 ∧ RA w K ρ1 H1 v v' ∧ KR w K ca cl.at' E R2 (k v h1) ρ1 H1 Q) :=
  ⟨ρ, aσ, h, S, q.bind.mono fun v' H1 ⟨ρ1, v, h1, L, r1, r2, k1⟩ => ⟨ρ1, v, h1, L, S.later L r1, r2, k1⟩⟩
theorem tIs.bind {e : Rl.E} {ρ : List Addr} {aσ : Sl} {h : AH} {γ δ : Type} {R2 : List Addr → Hp → γ → δ → Prop} {k : List AV → AH → Res γ} {Q : δ → Hp → Prop} (S : SS w K ca cl.at' ρ aσ h σ H)
    (q : KR w K ca cl.at' E R2 ((evs cl cf e aσ h).bind k) ρ H Q) :
    tIs w K ca cl cf E e σ H (fun v' H1 => ∃ ρ1 v h1, Ltr ρ H ρ1 H1 ∧ SS w K ca cl.at' ρ1 aσ h1 σ H1 ∧ RAs w K ρ1 H1 v v' ∧ KR w K ca cl.at' E R2 (k v h1) ρ1 H1 Q) :=
  ⟨ρ, aσ, h, S, q.bind.mono fun v' H1 ⟨ρ1, v, h1, L, r1, r2, k1⟩ => ⟨ρ1, v, h1, L, S.later L r1, r2, k1⟩⟩
/-- a test, then what follows -/
theorem tIT.bind {e : Rl.E} {ρ : List Addr} {aσ : Sl} {h : AH} {γ δ : Type} {R2 : List Addr → Hp → γ → δ → Prop} {k : AV → AH → Res γ} {Q : δ → Hp → Prop} (S : SS w K ca cl.at' ρ aσ h σ H)
    (hk : ∀ v h, (∀ b, v ≠ .bl b) → k v h = .bad) (q : KR w K ca cl.at' E R2 ((ev cl cf e aσ h).bind k) ρ H Q) :
    tIT w K ca cl cf E e σ H (fun b H1 => ∃ ρ1 h1, Ltr ρ H ρ1 H1 ∧ SS w K ca cl.at' ρ1 aσ h1 σ H1 ∧ KR w K ca cl.at' E R2 (k (.bl b) h1) ρ1 H1 Q) := by
  refine ⟨ρ, aσ, h, S, ?_⟩
  generalize ev cl cf e aσ h = r at q
  cases r with
  | bad => exact q
  | exc c h1 => exact q
  | ok v h1 =>
    cases v with
    | bl b =>
      intro ρ1 H1 b' L r1 r2
      cases r2
      exact ⟨ρ1, h1, L, S.later L r1, q.later L⟩
    | _ =>
      have : KR w K ca cl.at' E R2 .bad ρ H Q := by
        have q' := q
        simp only [Res.bind] at q'
        rwa [hk _ _ (by intro b z; cases z)] at q'
      exact this
end

section
variable {X : Cx}
theorem peImp {e : Expr} {t t' : TE} (h : PE X e t) (i : ∀ σ H Q, t' σ H Q → t σ H Q) : PE X e t' := ⟨fun pins s σ H Q I q => h.run pins s σ H Q I (i _ _ _ q)⟩
theorem ptImp {e : Expr} {t t' : TT} (h : PT X e t) (i : ∀ σ H Q, t' σ H Q → t σ H Q) : PT X e t' := ⟨fun pins s σ H Q I q => h.run pins s σ H Q I (i _ _ _ q)⟩
theorem paImp {e : List Expr} {t t' : TA} (h : PA X e t) (i : ∀ σ H Q, t' σ H Q → t σ H Q) : PA X e t' := ⟨fun pos pins s σ H Q I q => h.run pos pins s σ H Q I (i _ _ _ q)⟩
theorem psImp {e : Stmt} {t t' : TS} (h : PS X e t) (i : ∀ σ H Q, t' σ H Q → t σ H Q) : PS X e t' := ⟨fun pins s σ H Q I q => h.run pins s σ H Q I (i _ _ _ q)⟩
theorem pssImp {e : List Stmt} {t t' : TS} (h : PSs X e t) (i : ∀ σ H Q, t' σ H Q → t σ H Q) : PSs X e t' := ⟨fun pins s σ H Q I q => h.run pins s σ H Q I (i _ _ _ q)⟩
end
end Rl

set_option Elab.async false
set_option linter.all false
set_option maxRecDepth 100000
set_option autoImplicit false
set_option maxHeartbeats 4000000
/-! Sound3: the operators. -/
namespace Rl
open PySem PySem.Spec PyProof.Rows L2

theorem lim_eq : LIM = sizeLine := by rw [sizeLine_eq]; rfl

section
variable {w : World} {K : PySem.W.Frag} {ca : Nm → Addr} {at' : Nm → List Nm} {E : XK} {ρ : List Addr} {H : Hp} {h : AH}
theorem KR.here {α β : Type} {R : List Addr → Hp → α → β → Prop} {v : α} {v' : β} {Q : β → Hp → Prop} (k : KR w K ca at' E R (.ok v h) ρ H Q) (r : RH w K ca at' ρ h H) (x : R ρ H v v') : Q v' H := k ρ H v' (.refl _ _) r x
theorem KR.made {o : O} {u : HO} {Q : VK} {p : Addr} (k : KR w K ca at' E (RA w K) (.ok (.ref h.n) (h.new o)) ρ H Q) (r : RH w K ca at' ρ h H) (hp : H p = none) (x : RO w K ca at' ρ H o u) : Q (.ref p) (upd H p u) :=
  k (ρ ++ [p]) _ _ (.new r hp) (r.new hp x) (.ref (by rw [← r.len]; simp))
theorem KR.put {n : Nat} {a : Addr} {o : O} {u : HO} {x : AV} {v : V} {Q : VK} (k : KR w K ca at' E (RA w K) (.ok x (h.put n o)) ρ H Q) (r : RH w K ca at' ρ h H) (hn : ρ[n]? = some a)
    (ro : RO w K ca at' ρ (upd H a u) o u) (rx : RA w K ρ H x v) : Q v (upd H a u) :=
  let ⟨r1, L⟩ := r.put hn ro
  k ρ _ _ L r1 (rx.ltr L)

theorem Ltr.put {n : Nat} {a : Addr} (r : RH w K ca at' ρ h H) (hn : ρ[n]? = some a) (u : HO) : Ltr ρ H ρ (upd H a u) := by
  obtain ⟨u0, h0, m0⟩ := r.mt n a hn
  exact ⟨List.prefix_refl _, .mt h0 m0, fun b o e n => ⟨by rw [upd_ne (fun z => n (by rw [z]; exact List.mem_of_getElem? hn))]; exact e, n⟩⟩
theorem KR.putO {n : Nat} {a : Addr} {o : O} {u : HO} {x : AV} {v : V} {Q : VK} (k : KR w K ca at' E (RA w K) (.ok x (h.put n o)) ρ H Q) (r : RH w K ca at' ρ h H) (hn : ρ[n]? = some a)
    (ro : RO w K ca at' ρ H o u) (rx : RA w K ρ H x v) : Q v (upd H a u) := k.put r hn (ro.ltr (.put r hn u)) rx

/-! ### values as data -/
theorem mapM_cons {α β : Type} {f : α → Option β} {a : α} {l : List α} {ds : List β} (h : (a :: l).mapM f = some ds) : ∃ d r, f a = some d ∧ l.mapM f = some r ∧ ds = d :: r := by
  rw [List.mapM_cons] at h
  cases e : f a with
  | none => rw [e] at h; simp at h
  | some d =>
    cases e2 : l.mapM f with
    | none => rw [e, e2] at h; simp at h
    | some r => rw [e, e2] at h; simp at h; exact ⟨d, r, rfl, rfl, h.symm⟩
theorem data_all {k : Nat} (ih : ∀ (a : AV) (x : V) (d : PyData), toD k h a = some d → RA w K ρ H a x → Dp K H x d ∧ d.canLay0 = true ∧ d.depth ≤ k) :
    ∀ (l : List AV) (vs : List V) (ds : List PyData), l.mapM (toD k h) = some ds → RAs w K ρ H l vs → DpAll K H vs ds ∧ PyData.canLayAll0 ds = true ∧ PyData.depthAll ds ≤ k := by
  intro l
  induction l with
  | nil =>
    intro vs ds e r
    cases r
    have : ds = [] := by simpa using e.symm
    subst this
    exact ⟨.nil, by simp [PyData.canLayAll0], by simp [PyData.depthAll]⟩
  | cons a l ihl =>
    intro vs ds e r
    obtain ⟨d, ds', e1, e2, rfl⟩ := mapM_cons e
    cases r with
    | cons ra rl =>
      obtain ⟨a1, a2, a3⟩ := ih a _ d e1 ra
      obtain ⟨b1, b2, b3⟩ := ihl _ ds' e2 rl
      exact ⟨.cons a1 b1, by simp [PyData.canLayAll0, a2, b2], by simp only [PyData.depthAll]; omega⟩
theorem data_of (r : RH w K ca at' ρ h H) : ∀ (k : Nat) (a : AV) (x : V) (d : PyData), toD k h a = some d → RA w K ρ H a x → Dp K H x d ∧ d.canLay0 = true ∧ d.depth ≤ k := by
  intro k
  induction k with
  | zero =>
    intro a x d e rx
    cases rx with
    | non => simp [toD] at e; subst e; exact ⟨.non, by simp [PyData.canLay0], by simp [PyData.depth]⟩
    | bl b => simp [toD] at e; subst e; exact ⟨.bl b, by simp [PyData.canLay0], by simp [PyData.depth]⟩
    | int i => simp [toD] at e; subst e; exact ⟨.int i, by simp [PyData.canLay0], by simp [PyData.depth]⟩
    | str s =>
      simp only [toD] at e
      split at e
      · rename_i hs
        cases e
        exact ⟨.str _, by simp only [PyData.canLay0]; simpa [PyData.strOk, PySem.PyData.strOk, Rl.strOk] using hs, by simp [PyData.depth]⟩
      · cases e
    | _ => simp [toD] at e
  | succ k ih =>
    intro a x d e rx
    cases rx with
    | non => simp [toD] at e; subst e; exact ⟨.non, by simp [PyData.canLay0], by simp [PyData.depth]⟩
    | bl b => simp [toD] at e; subst e; exact ⟨.bl b, by simp [PyData.canLay0], by simp [PyData.depth]⟩
    | int i => simp [toD] at e; subst e; exact ⟨.int i, by simp [PyData.canLay0], by simp [PyData.depth]⟩
    | str s =>
      simp only [toD] at e
      split at e
      · rename_i hs
        cases e
        exact ⟨.str _, by simp only [PyData.canLay0]; simpa [PyData.strOk, PySem.PyData.strOk, Rl.strOk] using hs, by simp [PyData.depth]⟩
      · cases e
    | kd _ => simp [toD] at e
    | rl _ _ => simp [toD] at e
    | tup ht rl =>
      simp only [toD, Option.map_eq_some_iff] at e
      obtain ⟨ds, e1, rfl⟩ := e
      obtain ⟨b1, b2, b3⟩ := data_all ih _ _ ds e1 rl
      exact ⟨.tup (SqT.of ht) b1, by simp [PyData.canLay0, b2], by simp only [PyData.depth]; omega⟩
    | @ref n b hn =>
      simp only [toD] at e
      split at e
      · rename_i xs hg
        simp only [Option.map_eq_some_iff] at e
        obtain ⟨ds, e1, rfl⟩ := e
        obtain ⟨vs, hH, rl⟩ := r.lst hn hg
        obtain ⟨b1, b2, b3⟩ := data_all ih _ _ ds e1 rl
        exact ⟨.lst (SqL.of hH) b1, by simp [PyData.canLay0, b2], by simp only [PyData.depth]; omega⟩
      · cases e
theorem shaped_of (r : RH w K ca at' ρ h H) {a : AV} {x : V} {d : PyData} (e : toD 8 h a = some d) (rx : RA w K ρ H a x) : Dp K H x d ∧ SeqAt.shaped d = true := by
  obtain ⟨h1, h2, h3⟩ := data_of r 8 a x d e rx
  refine ⟨h1, ?_⟩
  unfold SeqAt.shaped
  rw [h2, decide_eq_true (Nat.le_trans h3 (by decide))]
  rfl

/-! ### dicts -/
section
variable {κ : Type} [DecidableEq κ] {key : AV → Option κ}
theorem RKV.look (inj : ∀ {x y k}, key x = some k → key y = some k → x = y) {kvs : List (AV × AV)} {vs : List (κ × V)} (r : RKV key w K ρ H kvs vs) {x : AV} {k : κ} (hk : key x = some k) :
    (∀ y, dlook kvs x = some y → ∃ v, valV vs k = some v ∧ RA w K ρ H y v) ∧ (dlook kvs x = none → valV vs k = none) := by
  induction r with
  | nil => exact ⟨fun y e => by simp [dlook] at e, fun _ => rfl⟩
  | @cons k0 y0 κ0 v0 kvs vs h1 h2 _ ih =>
    by_cases e : k0 = x
    · subst e
      rw [hk] at h1; cases h1
      refine ⟨fun y q => ?_, fun q => ?_⟩
      · simp [dlook] at q; subst q
        exact ⟨v0, valV_pos rfl, h2⟩
      · simp [dlook] at q
    · have ne : ¬ κ0 = k := fun z => e (inj h1 (z ▸ hk))
      have e1 : dlook ((k0, y0) :: kvs) x = dlook kvs x := by simp [dlook, List.find?_cons, e]
      rw [e1, valV_neg (p := (κ0, v0)) ne]
      exact ih
theorem RKV.any (inj : ∀ {x y k}, key x = some k → key y = some k → x = y) {kvs : List (AV × AV)} {vs : List (κ × V)} (r : RKV key w K ρ H kvs vs) {x : AV} {k : κ} (hk : key x = some k) :
    (kvs.any fun p => decide (p.1 = x)) = (vs.any fun p => decide (p.1 = k)) := by
  induction r with
  | nil => rfl
  | @cons k0 y0 κ0 v0 kvs vs h1 h2 _ ih =>
    rw [List.any_cons, List.any_cons, ih]
    congr 1
    by_cases e : k0 = x
    · subst e; rw [hk] at h1; cases h1; simp
    · have ne : ¬ κ0 = k := fun z => e (inj h1 (z ▸ hk))
      simp [e, ne]
theorem RKV.map (inj : ∀ {x y k}, key x = some k → key y = some k → x = y) {kvs : List (AV × AV)} {vs : List (κ × V)} (r : RKV key w K ρ H kvs vs) {x y : AV} {v : V} {k : κ} (hk : key x = some k) (hv : RA w K ρ H y v) :
    RKV key w K ρ H (kvs.map fun p => if p.1 = x then (p.1, y) else p) (vs.map fun p => if p.1 = k then (p.1, v) else p) := by
  induction r with
  | nil => exact .nil
  | @cons k0 y0 κ0 v0 kvs vs h1 h2 _ ih =>
    rw [List.map_cons, List.map_cons]
    by_cases e : k0 = x
    · subst e; have h1' := h1; rw [hk] at h1'; cases h1'
      simp only [if_pos]
      exact .cons h1 hv ih
    · have ne : ¬ κ0 = k := fun z => e (inj h1 (z ▸ hk))
      simp only [if_neg e, if_neg ne]
      exact .cons h1 h2 ih
theorem RKV.snoc {kvs : List (AV × AV)} {vs : List (κ × V)} (r : RKV key w K ρ H kvs vs) {x y : AV} {v : V} {k : κ} (hk : key x = some k) (hv : RA w K ρ H y v) :
    RKV key w K ρ H (kvs ++ [(x, y)]) (vs ++ [(k, v)]) := by
  induction r with
  | nil => exact .cons hk hv .nil
  | cons h1 h2 _ ih => exact .cons h1 h2 ih
theorem RKV.put (inj : ∀ {x y k}, key x = some k → key y = some k → x = y) {kvs : List (AV × AV)} {vs : List (κ × V)} (r : RKV key w K ρ H kvs vs) {x y : AV} {v : V} {k : κ} (hk : key x = some k) (hv : RA w K ρ H y v) :
    RKV key w K ρ H (dput kvs x y) (putK vs k v) := by
  unfold dput putK
  rw [r.any inj hk]
  split
  · exact r.map inj hk hv
  · exact r.snoc hk hv
theorem RKV.drop (inj : ∀ {x y k}, key x = some k → key y = some k → x = y) {kvs : List (AV × AV)} {vs : List (κ × V)} (r : RKV key w K ρ H kvs vs) {x : AV} {k : κ} (hk : key x = some k) :
    RKV key w K ρ H (ddrop kvs x) (dropK vs k) := by
  unfold ddrop dropK
  induction r with
  | nil => exact .nil
  | @cons k0 y0 κ0 v0 kvs vs h1 h2 _ ih =>
    rw [List.filter_cons, List.filter_cons]
    by_cases e : k0 = x
    · subst e; rw [hk] at h1; cases h1
      simpa using ih
    · have ne : ¬ κ0 = k := fun z => e (inj h1 (z ▸ hk))
      simp only [e, ne, ne_eq, not_false_eq_true, decide_true, if_true]
      exact .cons h1 h2 ih
theorem RKV.length {kvs : List (AV × AV)} {vs : List (κ × V)} (r : RKV key w K ρ H kvs vs) : kvs.length = vs.length := by
  induction r with
  | nil => rfl
  | cons _ _ _ ih => simp [ih]
end
/-- what a dict holds at a key -/
theorem dget_of (r : RH w K ca at' ρ h H) {n : Nat} {a : Addr} {tk : Bool} {kvs : List (AV × AV)} {k : AV} {y : V} (hn : ρ[n]? = some a) (e : h.g n = some (.dct tk kvs)) (ok : keyOk tk k = true) (rk : RA w K ρ H k y) :
    (∀ x, dlook kvs k = some x → ∃ v, DGet H a y (some v) ∧ RA w K ρ H x v) ∧ (dlook kvs k = none → DGet H a y none) := by
  cases tk with
  | false =>
    obtain ⟨κ, hk⟩ := keyF_some (x := k) (by simpa [keyOk] using ok)
    obtain ⟨vs, hH, rv⟩ := r.dK hn e
    rw [rk.keyF hk]
    obtain ⟨l1, l2⟩ := rv.look (fun a b => keyF_inj a b) hk
    refine ⟨fun x q => ?_, fun q => ?_⟩
    · obtain ⟨v, h1, h2⟩ := l1 x q
      exact ⟨v, h1 ▸ DGet.k hH, h2⟩
    · rw [← l2 q]; exact DGet.k hH
  | true =>
    obtain ⟨κ, hk⟩ := keyT_some (x := k) (by simpa [keyOk] using ok)
    obtain ⟨vs, hH, rv⟩ := r.dT hn e
    cases k with
    | tup l =>
      cases rk with
      | tup ht rl =>
        have e2 := rl.keyFs (show keyFs l = some κ from hk)
        subst e2
        obtain ⟨l1, l2⟩ := rv.look (fun a b => keyT_inj a b) hk
        refine ⟨fun x q => ?_, fun q => ?_⟩
        · obtain ⟨v, h1, h2⟩ := l1 x q
          exact ⟨v, h1 ▸ DGet.t hH ht, h2⟩
        · rw [← l2 q]; exact DGet.t hH ht
    | _ => simp [keyT] at hk
theorem isD_of (r : RH w K ca at' ρ h H) {n : Nat} {a : Addr} {tk : Bool} {kvs : List (AV × AV)} (hn : ρ[n]? = some a) (e : h.g n = some (.dct tk kvs)) : IsD H a := by
  cases tk with
  | false => obtain ⟨vs, hH, _⟩ := r.dK hn e; exact .inl ⟨vs, .inl hH⟩
  | true => obtain ⟨vs, hH, _⟩ := r.dT hn e; exact .inr ⟨vs, .inl hH⟩
end

/-! ### operators by values -/
section
variable {X : Cx} {ca : Nm → Addr} {at' : Nm → List Nm} {E : XK}
def rOp (w : World) (K : PySem.W.Frag) (ca : Nm → Addr) (at' : Nm → List Nm) (E : XK) (o : Op) : R2 := fun x y H Q => ∃ ρ h a b, RH w K ca at' ρ h H ∧ RA w K ρ H a x ∧ RA w K ρ H b y ∧ KR w K ca at' E (RA w K) (op2 o a b h) ρ H Q

theorem o_arith {o : Op} {f : Value → Value → Sem Value} {C : Int → Int → Prop} {g : Int → Int → Int} (hf : OpR X f (rI C fun i j => .int (g i j)))
    (hb : ∀ a b h, (∀ i j, a = .int i → b = .int j → False) → op2 o a b h = .bad) (hi : ∀ i j h, op2 o (.int i) (.int j) h = .bad ∨ (C i j ∧ op2 o (.int i) (.int j) h = .ok (.int (g i j)) h)) : OpR X f (rOp X.w X.K ca at' E o) := by
  intro pins s σ H x y v u Q I rx ry q
  obtain ⟨ρ, h, a, b, r, ra, rb, k⟩ := q
  by_cases e : ∃ i j, a = .int i ∧ b = .int j
  · obtain ⟨i, j, rfl, rfl⟩ := e
    have ea := ra.int_inv
    have eb := rb.int_inv
    subst ea eb
    rcases hi i j h with z | ⟨c, z⟩
    · rw [z] at k; exact k.elim
    · rw [z] at k
      exact hf pins s σ H _ _ v u Q I rx ry ⟨i, j, rfl, rfl, c, k.here r (.int _)⟩
  · rw [hb a b h (fun i j h1 h2 => e ⟨i, j, h1, h2⟩)] at k
    exact k.elim
theorem o_sub : OpR X (binaryOp .Sub) (rOp X.w X.K ca at' E .sub) := o_arith (C := fun _ _ => True) (fun pins s σ H x y v u Q I rx ry ⟨i, j, e1, e2, _, q⟩ => op_sub pins s σ H x y v u Q I rx ry ⟨i, j, e1, e2, q⟩)
  (fun a b h n => by cases a <;> cases b <;> first | rfl | exact (n _ _ rfl rfl).elim) fun i j h => .inr ⟨trivial, rfl⟩
theorem o_mul : OpR X (binaryOp .Mult) (rOp X.w X.K ca at' E .mul) := o_arith op_mul
  (fun a b h n => by cases a <;> cases b <;> first | rfl | exact (n _ _ rfl rfl).elim) fun i j h => by
    simp only [op2]
    by_cases c : (smallF i || smallF j) = true
    · rw [if_pos c]
      refine .inr ⟨?_, rfl⟩
      simpa [smallF, CMul] using c
    · rw [if_neg c]; exact .inl rfl
theorem o_fdiv : OpR X (binaryOp .FloorDiv) (rOp X.w X.K ca at' E .fdiv) := o_arith op_fdiv
  (fun a b h n => by cases a <;> cases b <;> first | rfl | exact (n _ _ rfl rfl).elim) fun i j h => by
    simp only [op2]
    split
    · rename_i c; exact .inr ⟨c, rfl⟩
    · exact .inl rfl
theorem o_mod : OpR X (binaryOp .Mod) (rOp X.w X.K ca at' E .mod) := o_arith op_mod
  (fun a b h n => by cases a <;> cases b <;> first | rfl | exact (n _ _ rfl rfl).elim) fun i j h => by
    simp only [op2]
    split
    · rename_i c; exact .inr ⟨c, rfl⟩
    · exact .inl rfl
theorem o_pow : OpR X (binaryOp .Pow) (rOp X.w X.K ca at' E .pow) := o_arith op_pow
  (fun a b h n => by cases a <;> cases b <;> first | rfl | exact (n _ _ rfl rfl).elim) fun i j h => by
    simp only [op2]
    split
    · rename_i c; exact .inr ⟨c, rfl⟩
    · exact .inl rfl
theorem o_add : OpR X (binaryOp .Add) (rOp X.w X.K ca at' E .add) := by
  intro pins s σ H x y v u Q I rx ry q
  obtain ⟨ρ, h, a, b, r, ra, rb, k⟩ := q
  cases a with
  | int i =>
    cases b with
    | int j =>
      have ea := ra.int_inv
      have eb := rb.int_inv
      subst ea eb
      exact op_add pins s σ H _ _ v u Q I rx ry ⟨i, j, rfl, rfl, k.here r (.int _)⟩
    | _ => exact k.elim
  | str i =>
    cases b with
    | str j =>
      have ea := ra.str_inv
      have eb := rb.str_inv
      subst ea eb
      simp only [op2] at k
      split at k
      · rename_i c
        refine op_add_str pins s σ H _ _ v u Q I rx ry ⟨_, _, rfl, rfl, by rw [← lim_eq]; simpa [Str.length] using c, ?_⟩
        have e : (⟨i.toArray⟩ ++ ⟨j.toArray⟩ : Str) = ⟨(i ++ j).toArray⟩ := by
          exact TL.ext_tl (TL.tl_append _ _)
        rw [e]
        exact k.here r (.str _)
      · exact k.elim
    | _ => exact k.elim
  | ref n =>
    cases b with
    | ref m =>
      cases ra with
      | @ref _ p hn =>
        cases rb with
        | @ref _ q hm =>
          simp only [op2] at k
          split at k
          · rename_i xs ys e1 e2
            split at k
            · rename_i c
              obtain ⟨vs, h1, r1⟩ := r.lst hn e1
              obtain ⟨us, h2, r2⟩ := r.lst hm e2
              rw [r1.length, r2.length, lim_eq] at c
              exact op_cat pins s σ H _ _ v u Q I rx ry ⟨p, q, vs, us, rfl, rfl, h1, h2, c, fun z hz => k.made r hz (.lst (r1.append r2))⟩
            · exact k.elim
          · exact k.elim
    | _ => exact k.elim
  | _ => cases b <;> exact k.elim

/-! ### comparisons -/
theorem o_cmpI {o : Op} {f : Value → Value → Sem Value} {g : Int → Int → Bool} (hf : OpR X f (rI0 fun i j => .bl (g i j)))
    (hb : ∀ a b h, (∀ i j, a = .int i → b = .int j → False) → op2 o a b h = .bad) (hi : ∀ i j h, op2 o (.int i) (.int j) h = .ok (.bl (g i j)) h) : OpR X f (rOp X.w X.K ca at' E o) := by
  intro pins s σ H x y v u Q I rx ry q
  obtain ⟨ρ, h, a, b, r, ra, rb, k⟩ := q
  by_cases e : ∃ i j, a = .int i ∧ b = .int j
  · obtain ⟨i, j, rfl, rfl⟩ := e
    have ea := ra.int_inv
    have eb := rb.int_inv
    subst ea eb
    rw [hi] at k
    exact hf pins s σ H _ _ v u Q I rx ry ⟨i, j, rfl, rfl, k.here r (.bl _)⟩
  · rw [hb a b h (fun i j h1 h2 => e ⟨i, j, h1, h2⟩)] at k
    exact k.elim
theorem o_le : OpR X (compareOp .LtE) (rOp X.w X.K ca at' E .le) := o_cmpI op_le (fun a b h n => by cases a <;> cases b <;> first | rfl | exact (n _ _ rfl rfl).elim) fun _ _ _ => rfl
theorem o_gt : OpR X (compareOp .Gt) (rOp X.w X.K ca at' E .gt) := o_cmpI op_gt (fun a b h n => by cases a <;> cases b <;> first | rfl | exact (n _ _ rfl rfl).elim) fun _ _ _ => rfl
theorem o_ge : OpR X (compareOp .GtE) (rOp X.w X.K ca at' E .ge) := o_cmpI op_ge (fun a b h n => by cases a <;> cases b <;> first | rfl | exact (n _ _ rfl rfl).elim) fun _ _ _ => rfl
theorem lexLt_eq : ∀ xs ys : List Int, lexLt xs ys = HT.lexLt xs ys
  | [], [] => rfl
  | [], _ :: _ => rfl
  | _ :: _, [] => rfl
  | x :: xs, y :: ys => by rw [HT.lexLt_cons, lexLt, lexLt_eq xs ys]
theorem o_lt (hu : X.A.units < cLine) : OpR X (compareOp .Lt) (rOp X.w X.K ca at' E .lt) := by
  intro pins s σ H x y v u Q I rx ry q
  obtain ⟨ρ, h, a, b, r, ra, rb, k⟩ := q
  cases a with
  | int i =>
    cases b with
    | int j =>
      have ea := ra.int_inv
      have eb := rb.int_inv
      subst ea eb
      exact op_lt pins s σ H _ _ v u Q I rx ry ⟨i, j, rfl, rfl, k.here r (.bl _)⟩
    | _ => exact k.elim
  | tup l =>
    cases b with
    | tup m =>
      simp only [op2] at k
      split at k
      · rename_i ns ms e1 e2
        cases ra with
        | tup h1 r1 =>
          cases rb with
          | tup h2 r2 =>
            rw [r1.ints e1] at h1
            rw [r2.ints e2] at h2
            rw [lexLt_eq] at k
            exact op_ltT hu pins s σ H _ _ v u Q I rx ry ⟨_, _, ns, ms, rfl, rfl, SqT.of h1, SqT.of h2, k.here r (.bl _)⟩
      · exact k.elim
    | _ => exact k.elim
  | _ => cases b <;> exact k.elim
theorem o_eq (hu : X.A.units + 64 < cLine) : OpR X (compareOp .Eq) (rOp X.w X.K ca at' E .eq) := by
  intro pins s σ H x y v u Q I rx ry q
  obtain ⟨ρ, h, a, b, r, ra, rb, k⟩ := q
  simp only [op2, opEq, eqA] at k
  cases e1 : toD 8 h a with
  | none => rw [e1] at k; exact k.elim
  | some d1 =>
    cases e2 : toD 8 h b with
    | none => rw [e1, e2] at k; exact k.elim
    | some d2 =>
      rw [e1, e2] at k
      obtain ⟨p1, s1⟩ := shaped_of r e1 ra
      obtain ⟨p2, s2⟩ := shaped_of r e2 rb
      exact op_eqD hu pins s σ H x y v u Q I rx ry ⟨d1, d2, p1, p2, s1, s2, k.here r (.bl _)⟩
theorem o_ne (hu : X.A.units + 64 < cLine) : OpR X (compareOp .NotEq) (rOp X.w X.K ca at' E .ne) := by
  intro pins s σ H x y v u Q I rx ry q
  obtain ⟨ρ, h, a, b, r, ra, rb, k⟩ := q
  simp only [op2, opEq, eqA] at k
  cases e1 : toD 8 h a with
  | none => rw [e1] at k; exact k.elim
  | some d1 =>
    cases e2 : toD 8 h b with
    | none => rw [e1, e2] at k; exact k.elim
    | some d2 =>
      rw [e1, e2] at k
      obtain ⟨p1, s1⟩ := shaped_of r e1 ra
      obtain ⟨p2, s2⟩ := shaped_of r e2 rb
      exact op_neD hu pins s σ H x y v u Q I rx ry ⟨d1, d2, p1, p2, s1, s2, k.here r (.bl _)⟩

/-! ### in -/
theorem flat_of {ρ : List Addr} {H : Hp} {a : AV} {x : V} (r : RA X.w X.K ρ H a x) (f : flatA a = true) : flatV x = true := by
  cases r <;> simp [flatA] at f <;> rfl
theorem arr_beq (s t : Tx) : ((⟨s.toArray⟩ : Str) == ⟨t.toArray⟩) = (s == t) := by
  by_cases e : s = t
  · subst e; simp
  · have : ¬ ((⟨s.toArray⟩ : Str) = ⟨t.toArray⟩) := fun z => e (arr_inj z)
    rw [beq_eq_false_iff_ne.mpr e]
    exact beq_eq_false_iff_ne.mpr this
theorem eqF_of {ρ : List Addr} {H : Hp} {a b : AV} {x y : V} (r : RA X.w X.K ρ H a x) (r' : RA X.w X.K ρ H b y) (f : flatA a = true) (f' : flatA b = true) : eqV x y = eqF a b := by
  cases r <;> simp [flatA] at f <;> cases r' <;> simp [flatA] at f' <;> try rfl
  exact arr_beq _ _
theorem any_of {ρ : List Addr} {H : Hp} {a : AV} {x : V} (r : RA X.w X.K ρ H a x) (f : flatA a = true) : ∀ {l : List AV} {vs : List V}, RAs X.w X.K ρ H l vs → l.all flatA = true → vs.all flatV = true ∧ inV x vs = l.any fun z => eqF z a
  | _, _, .nil, _ => ⟨rfl, rfl⟩
  | _, _, .cons (x := z) (v := vz) h t, g => by
    simp only [List.all_cons, Bool.and_eq_true] at g
    obtain ⟨i1, i2⟩ := any_of r f t g.2
    refine ⟨by simp only [List.all_cons, Bool.and_eq_true]; exact ⟨flat_of h g.1, i1⟩, ?_⟩
    rw [List.any_cons, ← i2, ← eqF_of h r g.1 f]
    rfl
theorem o_isin (hu : X.A.units + 65 < cLine) : OpR X (compareOp .In) (rOp X.w X.K ca at' E .isin) := by
  intro pins s σ H x y v u Q I rx ry q
  obtain ⟨ρ, h, a, b, r, ra, rb, k⟩ := q
  cases b with
  | kd kvs =>
    cases a with
    | str t =>
      simp only [op2, opIn] at k
      cases rb with
      | kd D =>
        obtain ⟨es, n, D0⟩ := D.dict
        obtain ⟨z, e, e1, _⟩ := D.look t
        have ea := ra.str_inv
        subst ea
        refine op_in_kd D0 pins s σ H _ _ v u Q I rx ry ⟨_, z, rfl, rfl, e, ?_⟩
        rw [e1]
        exact k.here r (.bl _)
    | _ => exact k.elim
  | tup l =>
    simp only [op2, opIn] at k
    split at k
    · rename_i c
      simp only [Bool.and_eq_true] at c
      cases rb with
      | tup ht rl =>
        obtain ⟨f1, f2⟩ := any_of ra c.1 rl c.2
        refine op_in_seq pins s σ H _ _ v u Q I rx ry ⟨_, _, rfl, .inr (SqT.of ht), flat_of ra c.1, f1, ?_⟩
        rw [f2]
        exact k.here r (.bl _)
    · exact k.elim
  | ref n =>
    simp only [op2, opIn] at k
    cases rb with
    | @ref _ p hn =>
      split at k
      · rename_i tk kvs hg
        split at k
        · rename_i ok
          obtain ⟨d1, d2⟩ := dget_of r hn hg ok ra
          have ry' : u = Value.ref p := ry
          subst ry'
          cases e : dlook kvs a with
          | none =>
            rw [e] at k
            exact d_in (by omega) I (d2 e) rx fun s' I' => ⟨.bl _, H, I', rfl, k.here r (.bl _)⟩
          | some z =>
            obtain ⟨vz, g, _⟩ := d1 z e
            rw [e] at k
            exact d_in (by omega) I g rx fun s' I' => ⟨.bl _, H, I', rfl, k.here r (.bl _)⟩
        · exact k.elim
      · split at k
        · rename_i d ds e1 e2
          obtain ⟨p1, s1⟩ := shaped_of r e1 ra
          obtain ⟨p2, s2⟩ := shaped_of r e2 (RA.ref hn)
          exact op_inD hu pins s σ H _ _ v u Q I rx ry ⟨d, ds, p1, p2, s1, s2, k.here r (.bl _)⟩
        · exact k.elim
  | _ => exact k.elim
theorem o_notin (hu : X.A.units + 65 < cLine) : OpR X (compareOp .NotIn) (rOp X.w X.K ca at' E .notin) := by
  intro pins s σ H x y v u Q I rx ry q
  obtain ⟨ρ, h, a, b, r, ra, rb, k⟩ := q
  cases b with
  | kd kvs =>
    cases a with
    | str t =>
      simp only [op2, opIn] at k
      cases rb with
      | kd D =>
        obtain ⟨es, n, D0⟩ := D.dict
        obtain ⟨z, e, e1, _⟩ := D.look t
        have ea := ra.str_inv
        subst ea
        refine op_notIn_kd D0 pins s σ H _ _ v u Q I rx ry ⟨_, z, rfl, rfl, e, ?_⟩
        rw [e1]
        exact k.here r (.bl _)
    | _ => exact k.elim
  | tup l =>
    simp only [op2, opIn] at k
    split at k
    · rename_i c
      simp only [Bool.and_eq_true] at c
      cases rb with
      | tup ht rl =>
        obtain ⟨f1, f2⟩ := any_of ra c.1 rl c.2
        refine op_notIn_seq pins s σ H _ _ v u Q I rx ry ⟨_, _, rfl, .inr (SqT.of ht), flat_of ra c.1, f1, ?_⟩
        rw [f2]
        exact k.here r (.bl _)
    · exact k.elim
  | ref n =>
    simp only [op2, opIn] at k
    cases rb with
    | @ref _ p hn =>
      split at k
      · rename_i tk kvs hg
        split at k
        · rename_i ok
          obtain ⟨d1, d2⟩ := dget_of r hn hg ok ra
          have ry' : u = Value.ref p := ry
          subst ry'
          cases e : dlook kvs a with
          | none =>
            rw [e] at k
            exact d_notIn (by omega) I (d2 e) rx fun s' I' => ⟨.bl _, H, I', rfl, k.here r (.bl _)⟩
          | some z =>
            obtain ⟨vz, g, _⟩ := d1 z e
            rw [e] at k
            exact d_notIn (by omega) I g rx fun s' I' => ⟨.bl _, H, I', rfl, k.here r (.bl _)⟩
        · exact k.elim
      · split at k
        · rename_i d ds e1 e2
          obtain ⟨p1, s1⟩ := shaped_of r e1 ra
          obtain ⟨p2, s2⟩ := shaped_of r e2 (RA.ref hn)
          exact op_notInD hu pins s σ H _ _ v u Q I rx ry ⟨d, ds, p1, p2, s1, s2, k.here r (.bl _)⟩
        · exact k.elim
  | _ => exact k.elim

/-! ### a subscript -/
theorem atI_of {ρ : List Addr} {H : Hp} {xs : List AV} {vs : List V} (r : RAs X.w X.K ρ H xs vs) {i : Int} {x : AV} (e : atI xs i = some x) : ∃ v, L2.atI vs i = some v ∧ RA X.w X.K ρ H x v := by
  unfold atI at e
  unfold L2.atI
  rw [← r.length]
  cases e1 : ixN xs.length i with
  | none => rw [e1] at e; cases e
  | some j =>
    have e2 : L2.ixN xs.length i = some j := e1
    rw [e1] at e
    rw [e2]
    exact r.get e
theorem o_item (hu : X.A.units + 1 < cLine) : IxR X (rOp X.w X.K ca at' E .item) := by
  intro value slice pins s σ H x y v u Q I rx ry q hs
  obtain ⟨ρ, h, a, b, r, ra, rb, k⟩ := q
  simp only [op2, opItem] at k
  cases a with
  | kd kvs =>
    cases b with
    | str t =>
      simp only at k
      cases ra with
      | kd D =>
        obtain ⟨es, n, D0⟩ := D.dict
        obtain ⟨z, e, e1, e2⟩ := D.look t
        have eb := rb.str_inv
        subst eb
        cases e3 : klook kvs t with
        | none => rw [e3] at k; exact k.elim
        | some i =>
          rw [e3] at k
          obtain ⟨tk, e4⟩ := e2 i e3
          subst e4
          have ev : v = Value.ref _ := rx
          have hk := op_item_kd D0 (X := X) pins s σ H _ _ v u Q I rx ry ⟨_, _, .int i, rfl, rfl, e, ⟨tk, rfl⟩, k.here r (.int _)⟩
          subst ev
          exact tail_any (kd_type D0 I) slot_dict_getitem.lookup hk hs
    | _ => exact k.elim
  | tup l =>
    cases b with
    | int i =>
      simp only at k
      cases e : atI l i with
      | none => rw [e] at k; exact k.elim
      | some z =>
        rw [e] at k
        cases ra with
        | tup ht rl =>
          obtain ⟨vz, e1, rz⟩ := atI_of rl e
          have eb := rb.int_inv
          subst eb
          exact ix_tup value slice pins s σ H _ _ v u Q I rx ry ⟨_, _, i, vz, rfl, rfl, SqT.of ht, e1, k.here r rz⟩ hs
    | _ => exact k.elim
  | str t =>
    cases b with
    | int i =>
      simp only at k
      split at k
      · rename_i c
        cases e : atI t i with
        | none => rw [e] at k; exact k.elim
        | some z =>
          rw [e] at k
          have ea := ra.str_inv
          have eb := rb.int_inv
          subst ea eb
          refine ix_str value slice pins s σ H _ _ v u Q I rx ry ⟨⟨t.toArray⟩, i, z, rfl, rfl, by rw [← lim_eq]; simpa [Str.length] using c, ?_, k.here r (.str [z])⟩ hs
          exact e
      · exact k.elim
    | _ => exact k.elim
  | ref n =>
    cases ra with
    | @ref _ p hn =>
      simp only at k
      split at k
      · rename_i xs hg
        cases b with
        | int i =>
          simp only at k
          cases e : atI xs i with
          | none => rw [e] at k; exact k.elim
          | some z =>
            rw [e] at k
            obtain ⟨vs, hH, rl⟩ := r.lst hn hg
            obtain ⟨vz, e1, rz⟩ := atI_of rl e
            have eb := rb.int_inv
            subst eb
            exact ix_list value slice pins s σ H _ _ v u Q I rx ry ⟨_, _, i, vz, rfl, rfl, SqL.of hH, e1, k.here r rz⟩ hs
        | _ => exact k.elim
      · rename_i tk kvs hg
        split at k
        · rename_i ok
          cases e : dlook kvs b with
          | none => rw [e] at k; exact k.elim
          | some z =>
            rw [e] at k
            obtain ⟨vz, g, rz⟩ := (dget_of r hn hg ok rb).1 z e
            have ev : v = Value.ref p := rx
            subst ev
            refine tail_any (dict_typeIs I g) slot_dict_getitem.lookup (d_getItem hu I g ry fun w' s' I' r' => ⟨vz, H, I', r', k.here r rz⟩) hs
        · exact k.elim
      · exact k.elim
  | _ => exact k.elim
end
end Rl

set_option Elab.async false
set_option linter.all false
set_option maxRecDepth 100000
set_option autoImplicit false
set_option maxHeartbeats 4000000
/-! Sound4: functions, methods, slices, stores. -/
namespace Rl
open PySem PySem.Spec PyProof.Rows L2

section
variable {w : World} {K : PySem.W.Frag} {ca : Nm → Addr} {at' : Nm → List Nm} {E : XK} {ρ : List Addr} {H : Hp} {h : AH}
theorem RAs.nil_inv {vs : List V} (r : RAs w K ρ H [] vs) : vs = [] := by cases r; rfl
theorem RAs.one_inv {x : AV} {vs : List V} (r : RAs w K ρ H [x] vs) : ∃ v, vs = [v] ∧ RA w K ρ H x v := by
  cases r with
  | cons a b => cases b; exact ⟨_, rfl, a⟩
theorem RAs.two_inv {x y : AV} {vs : List V} (r : RAs w K ρ H [x, y] vs) : ∃ v u, vs = [v, u] ∧ RA w K ρ H x v ∧ RA w K ρ H y u := by
  cases r with
  | cons a b =>
    obtain ⟨u, rfl, h⟩ := b.one_inv
    exact ⟨_, u, rfl, a, h⟩
theorem RA.ref_inv {n : Nat} {v : V} (r : RA w K ρ H (.ref n) v) : ∃ a, v = .ref a ∧ ρ[n]? = some a := by
  cases r with
  | ref h => exact ⟨_, rfl, h⟩
theorem RA.tup_inv {l : List AV} {v : V} (r : RA w K ρ H (.tup l) v) : ∃ t vs, v = .ref t ∧ H t = some (.tup vs) ∧ RAs w K ρ H l vs := by
  cases r with
  | tup h q => exact ⟨_, _, rfl, h, q⟩
/-- the dict's keys -/
theorem RKV.keysF : ∀ {kvs : List (AV × AV)} {vs : List (Key × V)}, RKV keyF w K ρ H kvs vs → RAs w K ρ H (kvs.map (·.1)) (vs.map fun p => kV p.1)
  | _, _, .nil => .nil
  | _, _, .cons h _ t => .cons (.of_keyF h) (RKV.keysF t)
theorem RKV.keysT : ∀ {kvs : List (AV × AV)} {vs : List (List Key × V)} {bs : List Addr}, RKV keyT w K ρ H kvs vs → IsKeys H vs bs → RAs w K ρ H (kvs.map (·.1)) (bs.map V.ref)
  | _, _, _, .nil, k => by cases k; exact .nil
  | _, _, _, .cons (k := x) h _ t, k => by
    cases k with
    | cons k1 k2 =>
      refine .cons ?_ (RKV.keysT t k2)
      cases x with
      | tup l => exact .tup k1 (RAs.of_keyFs h)
      | _ => simp [keyT] at h
theorem rgI_of (lo hi : Int) : RAs w K ρ H (rgI lo hi) (rgV lo hi) := by
  unfold rgI rgV
  generalize List.range (hi - lo).toNat = l
  induction l with
  | nil => exact .nil
  | cons a l ih => exact .cons (.int _) ih
theorem sort_ints {ns ms : List Int} (p : ms.Perm ns) (s : ms.Pairwise (· ≤ ·)) : ns.mergeSort (fun a b => decide (a ≤ b)) = ms := by
  refine List.Perm.eq_of_pairwise (le := fun a b => decide ((a : Int) ≤ b) = true) (fun a b _ _ h1 h2 => ?_) ?_ ?_ ?_
  · have h1 := of_decide_eq_true h1
    have h2 := of_decide_eq_true h2
    omega
  · exact List.pairwise_mergeSort (le := fun a b => decide ((a : Int) ≤ b)) (fun a b c h1 h2 => by
      simp only [decide_eq_true_eq] at *; omega) (fun a b => by simp only [Bool.or_eq_true, decide_eq_true_eq]; omega) ns
  · exact s.imp fun h => decide_eq_true h
  · exact (List.mergeSort_perm ns _).trans p.symm
end

section
variable {X : Cx} {ca : Nm → Addr} {at' : Nm → List Nm} {E : XK}
def rB (w : World) (K : PySem.W.Frag) (ca : Nm → Addr) (at' : Nm → List Nm) (E : XK) (b : Bi) : List V → Hp → VK → Prop := fun xs H Q => ∃ ρ h as, RH w K ca at' ρ h H ∧ RAs w K ρ H as xs ∧ KR w K ca at' E (RA w K) (primB b as h) ρ H Q
theorem b_abs : CallR X (.builtin "abs") (rB X.w X.K ca at' E .abs) := by
  intro pins s σ H xs us Q I r ⟨ρ, h, as, hh, ra, k⟩
  simp only [primB, pAbs] at k
  split at k
  · obtain ⟨v, rfl, rv⟩ := ra.one_inv
    rw [rv.int_inv] at r
    exact call_abs pins s σ H _ us Q I r ⟨_, rfl, k.here hh (.int _)⟩
  · exact k.elim
theorem b_int : CallR X (.type "int") (rB X.w X.K ca at' E .int) := by
  intro pins s σ H xs us Q I r ⟨ρ, h, as, hh, ra, k⟩
  simp only [primB, pInt] at k
  split at k
  · obtain ⟨v, rfl, rv⟩ := ra.one_inv
    rw [rv.int_inv] at r
    exact call_int1 pins s σ H _ us Q I r (.inl ⟨_, rfl, k.here hh (.int _)⟩)
  · obtain ⟨v, rfl, rv⟩ := ra.one_inv
    rw [rv.bl_inv] at r
    exact call_int1 pins s σ H _ us Q I r (.inr ⟨_, rfl, k.here hh (.int _)⟩)
  · exact k.elim
theorem b_len : CallR X (.builtin "len") (rB X.w X.K ca at' E .len) := by
  intro pins s σ H xs us Q I r ⟨ρ, h, as, hh, ra, k⟩
  simp only [primB, pLen] at k
  split at k
  · rename_i t
    obtain ⟨v, rfl, rv⟩ := ra.one_inv
    rw [rv.str_inv] at r
    split at k
    · rename_i c
      rw [lim_eq] at c
      refine call_len_str pins s σ H _ us Q I r ⟨_, rfl, by simpa [Str.length] using c, ?_⟩
      have e : ((⟨t.toArray⟩ : Str).length) = t.length := by simp [Str.length]
      rw [e]
      exact k.here hh (.int _)
    · exact k.elim
  · obtain ⟨v, rfl, rv⟩ := ra.one_inv
    obtain ⟨t, vs, rfl, ht, rl⟩ := rv.tup_inv
    refine call_len_seq pins s σ H _ us Q I r ⟨_, _, rfl, .inr (SqT.of ht), ?_⟩
    rw [← rl.length]
    exact k.here hh (.int _)
  · obtain ⟨v, rfl, rv⟩ := ra.one_inv
    obtain ⟨a, rfl, hn⟩ := rv.ref_inv
    split at k
    · rename_i ys hg
      obtain ⟨vs, hH, rl⟩ := hh.lst hn hg
      refine call_len_seq pins s σ H _ us Q I r ⟨_, _, rfl, .inl (SqL.of hH), ?_⟩
      rw [← rl.length]
      exact k.here hh (.int _)
    · rename_i kvs hg
      obtain ⟨vs, hH, rl⟩ := hh.dK hn hg
      refine call_lenD pins s σ H _ us Q I r ⟨_, _, rfl, hH, ?_⟩
      rw [← rl.length]
      exact k.here hh (.int _)
    · exact k.elim
  · exact k.elim
theorem b_max (hc : X.calm = true) : CallR X (.builtin "max") (rB X.w X.K ca at' E .max) := by
  intro pins s σ H xs us Q I r ⟨ρ, h, as, hh, ra, k⟩
  simp only [primB, pMax] at k
  split at k
  · obtain ⟨v, u, rfl, rv, ru⟩ := ra.two_inv
    rw [rv.int_inv, ru.int_inv] at r
    exact call_max2 hc pins s σ H _ us Q I r ⟨_, _, rfl, k.here hh (.int _)⟩
  · exact k.elim
theorem b_min (hc : X.calm = true) : CallR X (.builtin "min") (rB X.w X.K ca at' E .min) := by
  intro pins s σ H xs us Q I r ⟨ρ, h, as, hh, ra, k⟩
  simp only [primB, pMin] at k
  split at k
  · obtain ⟨v, u, rfl, rv, ru⟩ := ra.two_inv
    rw [rv.int_inv, ru.int_inv] at r
    exact call_min2 hc pins s σ H _ us Q I r ⟨_, _, rfl, k.here hh (.int _)⟩
  · exact k.elim
theorem b_list (hc : X.calm = true) : CallR X (.type "list") (rB X.w X.K ca at' E .list) := by
  intro pins s σ H xs us Q I r ⟨ρ, h, as, hh, ra, k⟩
  simp only [primB, pList] at k
  split at k
  · obtain ⟨v, rfl, rv⟩ := ra.one_inv
    obtain ⟨t, vs, rfl, ht, rl⟩ := rv.tup_inv
    exact call_list_of pins s σ H _ us Q I r ⟨t, vs, rfl, .inr (SqT.of ht), fun l hl => k.made hh hl (.lst rl)⟩
  · obtain ⟨v, rfl, rv⟩ := ra.one_inv
    obtain ⟨a, rfl, hn⟩ := rv.ref_inv
    split at k
    · rename_i ys hg
      obtain ⟨vs, hH, rl⟩ := hh.lst hn hg
      exact call_list_of pins s σ H _ us Q I r ⟨a, vs, rfl, .inl (SqL.of hH), fun l hl => k.made hh hl (.lst rl)⟩
    · rename_i tk kvs hg
      cases tk with
      | false =>
        obtain ⟨vs, hH, rl⟩ := hh.dK hn hg
        exact call_list_dK hc pins s σ H _ us Q I r ⟨a, vs, rfl, hH, fun l hl => k.made hh hl (.lst rl.keysF)⟩
      | true =>
        obtain ⟨vs, hH, rl⟩ := hh.dT hn hg
        exact call_list_dT hc pins s σ H _ us Q I r ⟨a, vs, rfl, .inl hH, fun l bs hl hb => k.made hh hl (.lst (rl.keysT hb))⟩
    · exact k.elim
  · exact k.elim
theorem b_dict : CallR X (.type "dict") (rB X.w X.K ca at' E .dict) := by
  intro pins s σ H xs us Q I r ⟨ρ, h, as, hh, ra, k⟩
  simp only [primB, pDict] at k
  split at k
  · obtain ⟨v, rfl, rv⟩ := ra.one_inv
    obtain ⟨a, rfl, hn⟩ := rv.ref_inv
    split at k
    · rename_i kvs hg
      obtain ⟨vs, hH, rl⟩ := hh.dK hn hg
      exact call_dictD pins s σ H _ us Q I r ⟨a, vs, rfl, .inl hH, fun l hl => k.made hh hl (.dK rl)⟩
    · exact k.elim
  · exact k.elim
theorem b_tuple : CallR X (.type "tuple") (rB X.w X.K ca at' E .tuple) := by
  intro pins s σ H xs us Q I r ⟨ρ, h, as, hh, ra, k⟩
  simp only [primB, pTuple] at k
  split at k
  · obtain ⟨v, rfl, rv⟩ := ra.one_inv
    obtain ⟨t, vs, rfl, ht, rl⟩ := rv.tup_inv
    exact call_tuple_of pins s σ H _ us Q I r ⟨t, vs, rfl, .inr ⟨SqT.of ht, k.here hh (.tup ht rl)⟩⟩
  · obtain ⟨v, rfl, rv⟩ := ra.one_inv
    obtain ⟨a, rfl, hn⟩ := rv.ref_inv
    split at k
    · rename_i ys hg
      obtain ⟨vs, hH, rl⟩ := hh.lst hn hg
      refine call_tuple_of pins s σ H _ us Q I r ⟨a, vs, rfl, .inl ⟨SqL.of hH, fun l hl => ?_⟩⟩
      have kp : Keep H (upd H l (.tup vs)) := .new hl
      have L : Ltr ρ H ρ (upd H l (.tup vs)) := ⟨List.prefix_refl _, kp, fun b o e n => ⟨by rw [upd_ne (ne_of_none e hl)]; exact e, n⟩⟩
      have hh' : RH X.w X.K ca at' ρ h (upd H l (.tup vs)) := ⟨hh.len, fun n b e => let ⟨u, h1, m⟩ := hh.mt n b e; ⟨u, by rw [upd_ne (ne_of_none h1 hl)]; exact h1, m⟩, hh.inj,
        fun n o e => let ⟨b, u, h1, h2, h3⟩ := hh.ob n o e; ⟨b, u, h1, by rw [upd_ne (ne_of_none h2 hl)]; exact h2, h3.ltr L⟩⟩
      exact k _ _ _ L hh' (.tup upd_same (rl.ltr L))
    · exact k.elim
  · exact k.elim
theorem b_sum (hc : X.calm = true) : CallR X (.builtin "sum") (rB X.w X.K ca at' E .sum) := by
  intro pins s σ H xs us Q I r ⟨ρ, h, as, hh, ra, k⟩
  simp only [primB, pSum] at k
  split at k
  · obtain ⟨v, rfl, rv⟩ := ra.one_inv
    obtain ⟨a, rfl, hn⟩ := rv.ref_inv
    split at k
    · rename_i ys hg
      split at k
      · rename_i ns e
        obtain ⟨vs, hH, rl⟩ := hh.lst hn hg
        rw [rl.ints e] at hH
        exact cr_sum hc pins s σ H _ us Q I r ⟨a, ns, rfl, SqL.of hH, k.here hh (.int _)⟩
      · exact k.elim
    · exact k.elim
  · exact k.elim
theorem b_all (hc : X.calm = true) : CallR X (.builtin "all") (rB X.w X.K ca at' E .all) := by
  intro pins s σ H xs us Q I r ⟨ρ, h, as, hh, ra, k⟩
  simp only [primB, pAll] at k
  split at k
  · obtain ⟨v, rfl, rv⟩ := ra.one_inv
    obtain ⟨a, rfl, hn⟩ := rv.ref_inv
    split at k
    · rename_i ys hg
      split at k
      · rename_i ns e
        obtain ⟨vs, hH, rl⟩ := hh.lst hn hg
        rw [rl.bls e] at hH
        exact cr_all hc pins s σ H _ us Q I r ⟨a, ns, rfl, SqL.of hH, k.here hh (.bl _)⟩
      · exact k.elim
    · exact k.elim
  · exact k.elim
/-! ### sorted -/
def kH (H : Hp) : V → Int × Int
  | .ref t => match H t with
    | some (.tup [.int i, .int j]) => (i, j)
    | _ => (0, 0)
  | _ => (0, 0)
def tup2 (p : Int × Int) : AV := .tup [.int p.1, .int p.2]
theorem pairs_of {w : World} {K : PySem.W.Frag} {ρ : List Addr} {H : Hp} : ∀ {xs : List AV} {vs : List V} {ps : List (Int × Int)}, RAs w K ρ H xs vs → allPair xs = some ps →
    ps = vs.map (kH H) ∧ ∀ v ∈ vs, (∃ t, v = .ref t ∧ H t = some (.tup [.int (kH H v).1, .int (kH H v).2])) ∧ RA w K ρ H (tup2 (kH H v)) v
  | _, _, _, .nil, h => by simp [allPair] at h; subst h; exact ⟨rfl, by simp⟩
  | _, _, _, .cons (x := x) (v := v) (xs := xs) (vs := vs) r t, h => by
    unfold allPair at h
    split at h
    · cases ‹_ :: _ = []›
    · rename_i i j rest e
      injection e with e1 e2
      subst e1 e2
      simp only [Option.map_eq_some_iff] at h
      obtain ⟨ps', h1, rfl⟩ := h
      obtain ⟨i1, i2⟩ := pairs_of t h1
      obtain ⟨tt, ws, rfl, ht, rl⟩ := r.tup_inv
      obtain ⟨a, b, rfl, ra, rb⟩ := rl.two_inv
      rw [ra.int_inv, rb.int_inv] at ht
      have ek : kH H (.ref tt) = (i, j) := by simp [kH, ht]
      refine ⟨by rw [List.map_cons, ek, i1], fun v hv => ?_⟩
      rcases List.mem_cons.mp hv with rfl | hv
      · rw [ek]; exact ⟨⟨tt, rfl, ht⟩, .tup ht (.cons (.int i) (.cons (.int j) .nil))⟩
      · exact i2 v hv
    · cases h
theorem leP_iff {a b : Int × Int} : leP a b = true ↔ a.1 < b.1 ∨ (a.1 = b.1 ∧ a.2 ≤ b.2) := by simp [leP]
theorem sort_pairs {ns ms : List (Int × Int)} (p : ms.Perm ns) (s : ms.Pairwise fun a b => leP a b = true) : ns.mergeSort leP = ms := by
  refine List.Perm.eq_of_pairwise (le := fun a b => leP a b = true) (fun a b _ _ h1 h2 => ?_) ?_ s ?_
  · rw [leP_iff] at h1 h2
    apply Prod.ext <;> omega
  · exact List.pairwise_mergeSort (le := leP) (fun a b c h1 h2 => by rw [leP_iff] at *; omega) (fun a b => by simp only [Bool.or_eq_true, leP_iff]; omega) ns
  · exact (List.mergeSort_perm ns _).trans p.symm
theorem RAs.of_mem {w : World} {K : PySem.W.Frag} {ρ : List Addr} {H : Hp} {f : V → AV} : ∀ {vs : List V}, (∀ v ∈ vs, RA w K ρ H (f v) v) → RAs w K ρ H (vs.map f) vs
  | [], _ => .nil
  | v :: vs, h => .cons (h v List.mem_cons_self) (RAs.of_mem fun u hu => h u (List.mem_cons_of_mem _ hu))
theorem b_sorted : CallR X (.builtin "sorted") (rB X.w X.K ca at' E .sorted) := by
  intro pins s σ H xs us Q I r ⟨ρ, h, as, hh, ra, k⟩
  simp only [primB, pSorted] at k
  split at k
  · obtain ⟨v, rfl, rv⟩ := ra.one_inv
    obtain ⟨a, rfl, hn⟩ := rv.ref_inv
    split at k
    · rename_i xs' hg
      obtain ⟨vs, hH, rl⟩ := hh.lst hn hg
      split at k
      · rename_i ys e
        unfold sortA at e
        split at e
        · rename_i ns en
          cases e
          rw [rl.ints en] at hH
          refine cr_sortedI pins s σ H _ us Q I r ⟨a, ns, rfl, SqL.of hH, fun ns' p pm sr hp => ?_⟩
          rw [sort_ints pm sr] at k
          exact k.made hh hp (.lst (.of_ints ns'))
        · split at e
          · rename_i ps ep
            cases e
            obtain ⟨e1, e2⟩ := pairs_of rl ep
            refine cr_sortedPO pins s σ H _ us Q I r ⟨a, vs, kH H, rfl, SqL.of hH, fun x hx => (e2 x hx).1, fun ys p sr sb hp => ?_⟩
            have em : ps.mergeSort leP = ys.map (kH H) := by
              refine sort_pairs ?_ ?_
              · rw [e1]; exact sb.perm.map _
              · rw [List.pairwise_map]
                refine sr.imp fun {x y} h => ?_
                have := SrtO.lexB_no.mp h
                rw [leP_iff]; omega
            rw [em, List.map_map] at k
            refine k.made hh hp (.lst (RAs.of_mem (f := (fun p => AV.tup [.int p.1, .int p.2]) ∘ kH H) fun v hv => (e2 v (sb.perm.mem_iff.mp hv)).2))
          · cases e
      · exact k.elim
    · exact k.elim
  · exact k.elim

/-! ### methods -/
def rM (w : World) (K : PySem.W.Frag) (ca : Nm → Addr) (at' : Nm → List Nm) (E : XK) (b : Mb) (t : Ty) : V → List V → Hp → VK → Prop := fun x xs H Q => ∃ ρ h a as, RH w K ca at' ρ h H ∧ RA w K ρ H a x ∧ RAs w K ρ H as xs ∧ KR w K ca at' E (RA w K) (primM b t a as h) ρ H Q
theorem pm_list {b : Mb} {a : AV} {as : List AV} {h : AH} {w : World} {K : PySem.W.Frag} {ρ : List Addr} {H : Hp} {Q : VK} (k : KR w K ca at' E (RA w K) (primM b .list a as h) ρ H Q) : ∃ n xs, a = .ref n ∧ h.g n = some (.lst xs) := by
  simp only [primM] at k
  split at k
  · rename_i n
    split at k
    · rename_i xs hg
      exact ⟨n, xs, rfl, hg⟩
    · exact k.elim
  · exact k.elim
theorem pm_dict {b : Mb} {a : AV} {as : List AV} {h : AH} {w : World} {K : PySem.W.Frag} {ρ : List Addr} {H : Hp} {Q : VK} (k : KR w K ca at' E (RA w K) (primM b .dict a as h) ρ H Q) : ∃ n tk xs, a = .ref n ∧ h.g n = some (.dct tk xs) := by
  simp only [primM] at k
  split at k
  · rename_i n
    split at k
    · rename_i tk xs hg
      exact ⟨n, tk, xs, rfl, hg⟩
    · exact k.elim
  · exact k.elim
theorem m_append : MtR X "list.append" (rM X.w X.K ca at' E .append .list) := by
  intro pins s σ H x xs v us Q I rx rs ⟨ρ, h, a, as, hh, ra, rl, k⟩
  obtain ⟨n, ys, rfl, hg⟩ := pm_list k
  obtain ⟨p, rfl, hn⟩ := ra.ref_inv
  obtain ⟨vs, hH, ry⟩ := hh.lst hn hg
  simp only [primM, hg, mAppend] at k
  split at k
  · split at k
    · rename_i c
      obtain ⟨u, rfl, ru⟩ := rl.one_inv
      rw [lim_eq, ry.length] at c
      exact mt_append pins s σ H _ _ v us Q I rx rs ⟨p, vs, u, rfl, rfl, hH, c, k.putO hh hn (.lst (ry.append (.cons ru .nil))) .non⟩
    · exact k.elim
  · exact k.elim
theorem m_extend : MtR X "list.extend" (rM X.w X.K ca at' E .extend .list) := by
  intro pins s σ H x xs v us Q I rx rs ⟨ρ, h, a, as, hh, ra, rl, k⟩
  obtain ⟨n, ys, rfl, hg⟩ := pm_list k
  obtain ⟨p, rfl, hn⟩ := ra.ref_inv
  obtain ⟨vs, hH, ry⟩ := hh.lst hn hg
  simp only [primM, hg, mExtend] at k
  split at k
  · rename_i c
    obtain ⟨u, rfl, ru⟩ := rl.one_inv
    obtain ⟨q, rfl, hm⟩ := ru.ref_inv
    split at k
    · rename_i zs hg2
      obtain ⟨ws, hH2, rz⟩ := hh.lst hm hg2
      split at k
      · rename_i c
        rw [lim_eq, ry.length, rz.length] at c
        exact mt_extend pins s σ H _ _ v us Q I rx rs ⟨p, q, vs, ws, rfl, rfl, hH, hH2, c, k.putO hh hn (.lst (ry.append rz)) .non⟩
      · exact k.elim
    · exact k.elim
  · exact k.elim
theorem m_clear : MtR X "list.clear" (rM X.w X.K ca at' E .clear .list) := by
  intro pins s σ H x xs v us Q I rx rs ⟨ρ, h, a, as, hh, ra, rl, k⟩
  obtain ⟨n, ys, rfl, hg⟩ := pm_list k
  obtain ⟨p, rfl, hn⟩ := ra.ref_inv
  obtain ⟨vs, hH, ry⟩ := hh.lst hn hg
  simp only [primM, hg, mClear] at k
  split at k
  · have := rl.nil_inv
    subst this
    exact mt_clear pins s σ H _ _ v us Q I rx rs ⟨p, vs, rfl, rfl, hH, k.putO hh hn (.lst .nil) .non⟩
  · exact k.elim
theorem m_insert : MtR X "list.insert" (rM X.w X.K ca at' E .insert .list) := by
  intro pins s σ H x xs v us Q I rx rs ⟨ρ, h, a, as, hh, ra, rl, k⟩
  obtain ⟨n, ys, rfl, hg⟩ := pm_list k
  obtain ⟨p, rfl, hn⟩ := ra.ref_inv
  obtain ⟨vs, hH, ry⟩ := hh.lst hn hg
  simp only [primM, hg, mInsert] at k
  split at k
  · split at k
    · rename_i i y c
      obtain ⟨u1, u2, rfl, r1, r2⟩ := rl.two_inv
      have := r1.int_inv
      subst this
      rw [lim_eq, ry.length] at c
      obtain ⟨c1, c2, c3⟩ := c
      simp only [smallR, Bool.and_eq_true, decide_eq_true_eq] at c3
      exact mt_insert pins s σ H _ _ v us Q I rx rs ⟨p, vs, i, u2, rfl, rfl, hH, c1, c2, by omega, k.putO hh hn (.lst (((ry.take _).append (.cons r2 .nil)).append (ry.drop _))) .non⟩
    · exact k.elim
  · exact k.elim
theorem m_popL : MtR X "list.pop" (rM X.w X.K ca at' E .pop .list) := by
  intro pins s σ H x xs v us Q I rx rs ⟨ρ, h, a, as, hh, ra, rl, k⟩
  obtain ⟨n, ys, rfl, hg⟩ := pm_list k
  obtain ⟨p, rfl, hn⟩ := ra.ref_inv
  obtain ⟨vs, hH, ry⟩ := hh.lst hn hg
  simp only [primM, hg, mPopL] at k
  split at k
  · split at k
    · rename_i z e
      have := rl.nil_inv
      subst this
      obtain ⟨vz, e1, rz⟩ := ry.get e
      rw [ry.length] at e1
      exact mt_pop pins s σ H _ _ v us Q I rx rs ⟨p, vs, vz, rfl, rfl, hH, e1, k.putO hh hn (.lst ry.dropLast) rz⟩
    · exact k.elim
  · rename_i i
    split at k
    · rename_i j ej
      split at k
      · rename_i z e
        split at k
        · rename_i c
          simp only [smallR, Bool.and_eq_true, decide_eq_true_eq] at c
          obtain ⟨u, rfl, ru⟩ := rl.one_inv
          have := ru.int_inv
          subst this
          obtain ⟨vz, e1, rz⟩ := ry.get e
          have ej2 : L2.ixN vs.length i = some j := by rw [← ry.length]; exact ej
          exact mt_popAt pins s σ H _ _ v us Q I rx rs ⟨p, vs, i, j, vz, rfl, rfl, hH, by omega, by omega, (L2.ixN_seq ej2).1, e1, k.putO hh hn (.lst (ry.eraseIdx j)) rz⟩
        · exact k.elim
      · exact k.elim
    · exact k.elim
  · exact k.elim
theorem m_get (hu : X.A.units + 1 < cLine) : MtR X "dict.get" (rM X.w X.K ca at' E .get .dict) := by
  intro pins s σ H x xs v us Q I rx rs ⟨ρ, h, a, as, hh, ra, rl, k⟩
  obtain ⟨n, tk, ys, rfl, hg⟩ := pm_dict k
  obtain ⟨p, rfl, hn⟩ := ra.ref_inv
  have ev : v = Value.ref p := rx
  subst ev
  simp only [primM, hg, mGet] at k
  split at k
  · rename_i key
    split at k
    · rename_i ok
      obtain ⟨u, rfl, ru⟩ := rl.one_inv
      obtain ⟨u', rfl, ru'⟩ := rs.one
      obtain ⟨d1, d2⟩ := dget_of hh hn hg ok ru
      cases e : dlook ys key with
      | none =>
        rw [e] at k
        exact d_get1 hu I (d2 e) ru' fun w' s' I' r' => ⟨.non, H, I', r', k.here hh .non⟩
      | some z =>
        obtain ⟨vz, g, rz⟩ := d1 z e
        rw [e] at k
        exact d_get1 hu I g ru' fun w' s' I' r' => ⟨vz, H, I', r', k.here hh rz⟩
    · exact k.elim
  · rename_i key dd
    split at k
    · rename_i ok
      obtain ⟨u, t, rfl, ru, rt⟩ := rl.two_inv
      obtain ⟨u', t', rfl, ru', rt'⟩ := rs.two
      obtain ⟨d1, d2⟩ := dget_of hh hn hg ok ru
      cases e : dlook ys key with
      | none =>
        rw [e] at k
        exact d_get2 hu I (d2 e) ru' rt' fun w' s' I' r' => ⟨t, H, I', r', k.here hh rt⟩
      | some z =>
        obtain ⟨vz, g, rz⟩ := d1 z e
        rw [e] at k
        exact d_get2 hu I g ru' rt' fun w' s' I' r' => ⟨vz, H, I', r', k.here hh rz⟩
    · exact k.elim
  · exact k.elim
/-- d.pop of a dict with tuple keys, the key there -/
theorem d_popT {pins : List (Addr × Obj)} {σ : St} {H : Hp} {s : Shared} {a b : Addr} {kvs : List (List Key × V)} {k : List Key} {v : V} {more : List Value} {Q : Value → Shared → Prop} (hu : X.A.units + 1 < cLine) (I : L2.Inv X pins σ H s) (e : H a = some (.dT kvs)) (eb : H b = some (.tup (k.map kV)))
    (l : valV kvs k = some v) (hm : more = [] ∨ ∃ x, more = [x]) (h : ∀ w' s', L2.Inv X pins σ (upd H a (.dT (dropK kvs k))) s' → RelV v w' → Q w' s') :
    wpAny (model X.prog X.w) X.A (call (.builtin "dict.pop") (.ref a :: .ref b :: more)) Q X.xe s := by
  obtain ⟨z, hd, xs', rel, dd⟩ := dt_of I.hok e
  have hz : xs'.length ≤ sizeLine := by rw [← Paired.length rel]; exact z
  have rr := rel.val k
  rw [l] at rr
  obtain ⟨w', hw, rw'⟩ := RelO.some_of rr
  obtain ⟨pp, hp, hp2⟩ := Option.map_eq_some_iff.mp hw
  have hargs : argsOk "dict.pop" ⟨.ref a :: .ref b :: more, []⟩ := by
    rcases hm with q | ⟨x, q⟩
    · subst q; exact PySem.F.args_dict_pop_2 _ _
    · subst q; exact PySem.F.args_dict_pop_3 _ _ _
  refine PySem.call_pop_heap (knd := tupleKind (mixKind X.prog X.w)) hm hargs (tupleKind_room_in1 hu) (key_of I.hok eb) hd dd hp (fun h' dd' hs => ?_) hz
  rw [hp2]
  refine h w' _ ?_ rw'
  obtain ⟨o, es, ep, hq, h2, h3, h4, _, h5⟩ := dd'
  exact d_write I (by rw [e]; exact True.intro) hs ⟨o, hq⟩ ⟨Nat.le_trans (dropK_le kvs k) z, hd, _, (L2.DX.KT_drop k rel).keeps (fun c ys ec => (by rw [upd_ne (ne_of ec e (fun z => nomatch z))]; exact ec)), o, es, ep, hq, h2, h3, h4, h5⟩
theorem m_popD (hu : X.A.units + 1 < cLine) : MtR X "dict.pop" (rM X.w X.K ca at' E .pop .dict) := by
  intro pins s σ H x xs v us Q I rx rs ⟨ρ, h, a, as, hh, ra, rl, k⟩
  obtain ⟨n, tk, ys, rfl, hg⟩ := pm_dict k
  obtain ⟨p, rfl, hn⟩ := ra.ref_inv
  have ev : v = Value.ref p := rx
  subst ev
  simp only [primM, hg, mPopD] at k
  have core : ∀ (key : AV) (u : V) (u' : Value) (more : List Value), RA X.w X.K ρ H key u → RelV u u' → keyOk tk key = true → (more = [] ∨ ∃ x, more = [x]) → ∀ z, dlook ys key = some z →
      KR X.w X.K ca at' E (RA X.w X.K) (.ok z (h.put n (.dct tk (ddrop ys key)))) ρ H Q → wpAny (model X.prog X.w) X.A (call (.builtin "dict.pop") (.ref p :: u' :: more)) (EP X pins σ Q) X.xe s := by
    intro key u u' more ru ru' ok hm z e k
    cases tk with
    | false =>
      obtain ⟨κ, hk⟩ := keyF_some (x := key) (by simpa [keyOk] using ok)
      obtain ⟨vs, hH, rv⟩ := hh.dK hn hg
      have eu := ru.keyF hk
      subst eu
      obtain ⟨vz, e1, rz⟩ := (rv.look (fun a b => keyF_inj a b) hk).1 z e
      exact d_pop I hH ru' e1 hm fun w' s' I' r' => ⟨vz, _, I', r', k.putO hh hn (.dK (rv.drop (fun a b => keyF_inj a b) hk)) rz⟩
    | true =>
      obtain ⟨κ, hk⟩ := keyT_some (x := key) (by simpa [keyOk] using ok)
      obtain ⟨vs, hH, rv⟩ := hh.dT hn hg
      obtain ⟨vz, e1, rz⟩ := (rv.look (fun a b => keyT_inj a b) hk).1 z e
      cases key with
      | tup l =>
        obtain ⟨t, ws, rfl, ht, rl⟩ := ru.tup_inv
        have e2 := rl.keyFs (show keyFs l = some κ from hk)
        subst e2
        have eu : u' = Value.ref t := ru'
        subst eu
        exact d_popT hu I hH ht e1 hm fun w' s' I' r' => ⟨vz, _, I', r', k.putO hh hn (.dT (rv.drop (fun a b => keyT_inj a b) hk)) rz⟩
      | _ => simp [keyT] at hk
  split at k
  · rename_i key
    split at k
    · rename_i ok
      obtain ⟨u, rfl, ru⟩ := rl.one_inv
      obtain ⟨u', rfl, ru'⟩ := rs.one
      split at k
      · rename_i z e
        exact core key u u' [] ru ru' ok (.inl rfl) z e k
      · exact k.elim
    · exact k.elim
  · rename_i key dd
    split at k
    · rename_i ok
      obtain ⟨u, t, rfl, ru, rt⟩ := rl.two_inv
      obtain ⟨u', t', rfl, ru', rt'⟩ := rs.two
      split at k
      · rename_i z e
        exact core key u u' [t'] ru ru' ok (.inr ⟨t', rfl⟩) z e k
      · rename_i e
        cases tk with
        | false =>
          obtain ⟨κ, hk⟩ := keyF_some (x := key) (by simpa [keyOk] using ok)
          obtain ⟨vs, hH, rv⟩ := hh.dK hn hg
          have eu := ru.keyF hk
          subst eu
          exact d_popD I hH ru' ((rv.look (fun a b => keyF_inj a b) hk).2 e) fun s' I' => ⟨t, H, I', rt', k.here hh rt⟩
        | true =>
          obtain ⟨κ, hk⟩ := keyT_some (x := key) (by simpa [keyOk] using ok)
          obtain ⟨vs, hH, rv⟩ := hh.dT hn hg
          cases key with
          | tup l =>
            obtain ⟨b, ws, rfl, ht, rl⟩ := ru.tup_inv
            have e2 := rl.keyFs (show keyFs l = some κ from hk)
            subst e2
            have en := (rv.look (fun a b => keyT_inj a b) hk).2 e
            exact DX.mt_popT hu pins s σ H _ _ _ _ Q I rx (.cons ru' (.cons rt' .nil)) ⟨p, vs, κ, b, t, rfl, rfl, hH, ht, (fun v0 ev => by rw [en] at ev; cases ev), fun _ => k.here hh rt⟩
          | _ => simp [keyT] at hk
    · exact k.elim
  · exact k.elim

/-! ### slices, stores -/
def rS (w : World) (K : PySem.W.Frag) (ca : Nm → Addr) (at' : Nm → List Nm) (E : XK) : V → Option Int → Option Int → Hp → VK → Prop := fun x lo hi H Q => ∃ ρ h a, RH w K ca at' ρ h H ∧ RA w K ρ H a x ∧ KR w K ca at' E (RA w K) (sliceA a lo hi h) ρ H Q
theorem sIx_eq (n d : Nat) (o : Option Int) : sIx n d o = HT.sIx n d o := by cases o <;> rfl
theorem s_slice : SlR X (rS X.w X.K ca at' E) := by
  intro pins s σ H x v vl vu lo hi sl Q I rx hs pl pu ⟨ρ, h, a, hh, ra, k⟩
  have cutL : ∀ (xs : List AV) (vs : List V), RAs X.w X.K ρ H xs vs → RAs X.w X.K ρ H (cut xs lo hi) (cutV vs lo hi) := fun xs vs r => by
    unfold cut cutV
    simp only [sIx_eq, ← r.length]
    exact (r.drop _).take _
  cases a with
  | str t =>
    have := ra.str_inv
    subst this
    simp only [sliceA] at k
    split at k
    · rename_i c
      rw [lim_eq] at c
      refine sl_str pins s σ H _ v vl vu lo hi sl Q I rx hs pl pu ⟨_, rfl, by simpa [Str.length] using c, ?_⟩
      have e : cutS ⟨t.toArray⟩ lo hi = ⟨(cut t lo hi).toArray⟩ := by
        unfold cutS cut
        simp only [sIx_eq, Str.length, List.size_toArray]
      rw [e]
      exact k.here hh (.str _)
    · exact k.elim
  | ref n =>
    obtain ⟨p, rfl, hn⟩ := ra.ref_inv
    simp only [sliceA] at k
    split at k
    · rename_i xs hg
      obtain ⟨vs, hH, rl⟩ := hh.lst hn hg
      exact sl_list pins s σ H _ v vl vu lo hi sl Q I rx hs pl pu ⟨p, vs, rfl, SqL.of hH, fun q hq => k.made hh hq (.lst (cutL _ _ rl))⟩
    · exact k.elim
  | rl xs =>
    cases ra with
    | rl hs' rl =>
      simp only [sliceA] at k
      exact sl_list pins s σ H _ v vl vu lo hi sl Q I rx hs pl pu ⟨_, _, rfl, hs'.sq, fun q hq => k.made hh hq (.lst (cutL _ _ rl))⟩
  | _ => exact k.elim
/-- o[i] = v -/
def rSet (w : World) (K : PySem.W.Frag) (ca : Nm → Addr) (at' : Nm → List Nm) : TSet := fun o i v H Q => ∃ ρ h a b c h', RH w K ca at' ρ h H ∧ RA w K ρ H a o ∧ RA w K ρ H b i ∧ RA w K ρ H c v ∧ setI h a b c = some h' ∧
  ∀ ρ' H', Ltr ρ H ρ' H' → RH w K ca at' ρ' h' H' → Q H'
theorem s_set (hu : X.A.units + 1 < cLine) : PSet X (rSet X.w X.K ca at') := by
  intro pins s σ H o i v ov iv u Q I ro ri rv ⟨ρ, h, a, b, c, h', hh, ra, rb, rc, e, q⟩
  unfold setI at e
  split at e
  · rename_i n
    obtain ⟨p, rfl, hn⟩ := ra.ref_inv
    split at e
    · rename_i xs hg
      obtain ⟨vs, hH, rl⟩ := hh.lst hn hg
      split at e
      · rename_i k
        split at e
        · rename_i j ej
          cases e
          have := rb.int_inv
          subst this
          have ej2 : L2.ixN vs.length k = some j := by rw [← rl.length]; exact ej
          refine set_list pins s σ H _ _ _ ov iv u Q I ro ri rv ⟨p, vs, k, j, rfl, rfl, hH, ej2, ?_⟩
          have L := Ltr.put hh hn (.lst (vs.set j v))
          exact q _ _ L (hh.put hn ((RO.lst (rl.set rc j)).ltr L)).1
        · cases e
      · cases e
    · rename_i tk kvs hg
      split at e
      · rename_i c2
        cases e
        cases tk with
        | false =>
          obtain ⟨κ, hk⟩ := keyF_some (x := b) (by simpa [keyOk] using c2.1)
          obtain ⟨vs, hH, rl⟩ := hh.dK hn hg
          have := rb.keyF hk
          subst this
          have cl := c2.2
          rw [lim_eq, rl.length] at cl
          refine set_dict hu pins s σ H _ _ _ ov iv u Q I ro ri rv ⟨p, _, rfl, DPut.k hH cl, ?_⟩
          have L := Ltr.put hh hn (.dK (putK vs κ v))
          exact q _ _ L (hh.put hn ((RO.dK (rl.put (fun a b => keyF_inj a b) hk rc)).ltr L)).1
        | true =>
          obtain ⟨κ, hk⟩ := keyT_some (x := b) (by simpa [keyOk] using c2.1)
          obtain ⟨vs, hH, rl⟩ := hh.dT hn hg
          have cl := c2.2
          rw [lim_eq, rl.length] at cl
          cases b with
          | tup l =>
            obtain ⟨t, ws, rfl, ht, rt⟩ := rb.tup_inv
            have e2 := rt.keyFs (show keyFs l = some κ from hk)
            subst e2
            refine set_dict hu pins s σ H _ _ _ ov iv u Q I ro ri rv ⟨p, _, rfl, DPut.t hH ht cl, ?_⟩
            have L := Ltr.put hh hn (.dT (putK vs κ v))
            exact q _ _ L (hh.put hn ((RO.dT (rl.put (fun a b => keyT_inj a b) hk rc)).ltr L)).1
          | _ => simp [keyT] at hk
      · cases e
    · cases e
  · cases e
end
end Rl

set_option Elab.async false
set_option linter.all false
set_option maxRecDepth 100000
set_option autoImplicit false
set_option maxHeartbeats 4000000
/-! Sound5: what loops walk. -/
namespace Rl
open PySem PySem.Spec PyProof.Rows L2

/-- J yields xs while g stands -/
def Walks (w : World) (K : PySem.W.Frag) (ca : Nm → Addr) (at' : Nm → List Nm) (J : It) (ρ0 : List Addr) (H0 : Hp) (xs : List AV) (g : Gd) : Prop :=
  ∀ (i : Nat) ρ H h, Ltr ρ0 H0 ρ H → RH w K ca at' ρ h H → gdOk g h = true → (∀ x, xs[i]? = some x → J.go i H ∧ ∀ v H', J.yld i H v H' → Ltr ρ H ρ H' ∧ RH w K ca at' ρ h H' ∧ RA w K ρ H' x v) ∧ (i = xs.length → J.stop i H)
section
variable {w : World} {K : PySem.W.Frag} {ca : Nm → Addr} {at' : Nm → List Nm} {ρ0 : List Addr} {H0 : Hp} {h0 : AH}
theorem gd_at {g : Gd} {h : AH} (e : gdOk g h = true) {n : Nat} {o : O} (m : (n, o) ∈ g) : h.g n = some o := of_decide_eq_true (List.all_eq_true.mp e (n, o) m)
/-- a new thing beside the own heap -/
theorem Ltr.side {ρ : List Addr} {H : Hp} {p : Addr} {u : HO} (hp : H p = none) : Ltr ρ H ρ (upd H p u) := ⟨List.prefix_refl _, .new hp, fun b o e n => ⟨by rw [upd_ne (ne_of_none e hp)]; exact e, n⟩⟩
theorem RH.side {ρ : List Addr} {H : Hp} {h : AH} {p : Addr} {u : HO} (r : RH w K ca at' ρ h H) (hp : H p = none) : RH w K ca at' ρ h (upd H p u) :=
  ⟨r.len, fun n b e => let ⟨u, h1, m⟩ := r.mt n b e; ⟨u, by rw [upd_ne (ne_of_none h1 hp)]; exact h1, m⟩, r.inj,
    fun n o e => let ⟨b, u, h1, h2, h3⟩ := r.ob n o e; ⟨b, u, h1, by rw [upd_ne (ne_of_none h2 hp)]; exact h2, h3.ltr (.side hp)⟩⟩
theorem walks_list {n : Nat} {a : Addr} {xs : List AV} (hn : ρ0[n]? = some a) : Walks w K ca at' (Itl K a) ρ0 H0 xs [(n, .lst xs)] := by
  intro i ρ H h L r g
  have hg := gd_at g (n := n) (o := .lst xs) (by simp)
  obtain ⟨vs, hH, rl⟩ := r.lst (L.pre.get hn) hg
  refine ⟨fun x hx => ?_, fun e => ⟨vs, SqL.of hH, by rw [e, rl.length]; exact Nat.le_refl _⟩⟩
  obtain ⟨v, hv, rv⟩ := rl.get hx
  refine ⟨⟨vs, v, SqL.of hH, hv⟩, fun u H' ⟨e, q⟩ => ?_⟩
  subst e
  have := q vs (SqL.of hH)
  rw [hv] at this
  cases this
  exact ⟨.refl _ _, r, rv⟩
theorem walks_tup {t : Addr} {l : List AV} {vs : List V} (ht : H0 t = some (.tup vs)) (rl : RAs w K ρ0 H0 l vs) : Walks w K ca at' (Itt K t) ρ0 H0 l [] := by
  intro i ρ H h L r g
  have ht' := L.keep.tup _ _ ht
  have rl := rl.ltr L
  refine ⟨fun x hx => ?_, fun e => ⟨vs, SqT.of ht', by rw [e, rl.length]; exact Nat.le_refl _⟩⟩
  obtain ⟨v, hv, rv⟩ := rl.get hx
  refine ⟨⟨vs, v, SqT.of ht', hv⟩, fun u H' ⟨e, q⟩ => ?_⟩
  subst e
  have := q vs (SqT.of ht')
  rw [hv] at this
  cases this
  exact ⟨.refl _ _, r, rv⟩
theorem rgI_get {lo hi : Int} {i : Nat} {x : AV} (h : (rgI lo hi)[i]? = some x) : i < (hi - lo).toNat ∧ x = .int (lo + (i : Nat)) := by
  unfold rgI at h
  rw [List.getElem?_map] at h
  by_cases c : i < (hi - lo).toNat
  · rw [List.getElem?_range c] at h
    simp at h
    exact ⟨c, h.symm⟩
  · rw [List.getElem?_eq_none (by simpa using c)] at h
    simp at h
theorem rgI_length (lo hi : Int) : (rgI lo hi).length = (hi - lo).toNat := by simp [rgI]
theorem walks_range {lo hi : Int} : Walks w K ca at' (Itr lo (hi - lo).toNat) ρ0 H0 (rgI lo hi) [] := by
  intro i ρ H h L r g
  refine ⟨fun x hx => ?_, fun e => by rw [rgI_length] at e; exact Nat.le_of_eq e.symm⟩
  obtain ⟨c, rfl⟩ := rgI_get hx
  refine ⟨c, fun u H' ⟨e, q⟩ => ?_⟩
  subst e q
  exact ⟨.refl _ _, r, .int _⟩
theorem enumF_get : ∀ {xs : List AV} {k i : Nat} {x : AV}, (enumF k xs)[i]? = some x → ∃ y, xs[i]? = some y ∧ x = .tup [.int ((k + i : Nat) : Int), y]
  | [], _, _, _, h => by simp [enumF] at h
  | y :: ys, k, 0, x, h => by simp [enumF] at h; exact ⟨y, rfl, by rw [← h]; simp⟩
  | y :: ys, k, i + 1, x, h => by
    obtain ⟨z, h1, h2⟩ := enumF_get (xs := ys) (k := k + 1) (i := i) (by simpa [enumF] using h)
    exact ⟨z, by simpa using h1, by rw [h2, show k + 1 + i = k + (i + 1) by omega]⟩
theorem enumF_length : ∀ {xs : List AV} {k : Nat}, (enumF k xs).length = xs.length
  | [], _ => rfl
  | _ :: xs, k => by simp [enumF, enumF_length (xs := xs)]
theorem walks_enum {n : Nat} {a : Addr} {xs : List AV} (hn : ρ0[n]? = some a) : Walks w K ca at' (Ite K a) ρ0 H0 (enumF 0 xs) [(n, .lst xs)] := by
  intro i ρ H h L r g
  have hg := gd_at g (n := n) (o := .lst xs) (by simp)
  obtain ⟨vs, hH, rl⟩ := r.lst (L.pre.get hn) hg
  refine ⟨fun x hx => ?_, fun e => ⟨vs, SqL.of hH, by rw [enumF_length] at e; rw [e, rl.length]; exact Nat.le_refl _⟩⟩
  obtain ⟨y, hy, rfl⟩ := enumF_get hx
  obtain ⟨v, hv, rv⟩ := rl.get hy
  refine ⟨⟨vs, v, SqL.of hH, hv⟩, fun u H' ⟨T, z, e1, hT, e2, q⟩ => ?_⟩
  subst e1 e2
  have := q vs (SqL.of hH)
  rw [hv] at this
  cases this
  rw [Nat.zero_add]
  exact ⟨.side hT, r.side hT, .tup upd_same (.cons (.int _) (.cons (rv.ltr (.side hT)) .nil))⟩
theorem walks_zip {n m : Nat} {a b : Addr} {xs ys : List AV} (hn : ρ0[n]? = some a) (hm : ρ0[m]? = some b) :
    Walks w K ca at' (Itz K a b) ρ0 H0 ((xs.zip ys).map fun p => .tup [p.1, p.2]) ([(n, .lst xs)] ++ [(m, .lst ys)]) := by
  intro i ρ H h L r g
  have hg := gd_at g (n := n) (o := .lst xs) (by simp)
  have hg2 := gd_at g (n := m) (o := .lst ys) (by simp)
  obtain ⟨vs, hH, rl⟩ := r.lst (L.pre.get hn) hg
  obtain ⟨us, hH2, rl2⟩ := r.lst (L.pre.get hm) hg2
  refine ⟨fun x hx => ?_, fun e => ⟨vs, us, SqL.of hH, SqL.of hH2, ?_⟩⟩
  · rw [List.getElem?_map] at hx
    obtain ⟨p, hp, rfl⟩ := Option.map_eq_some_iff.mp hx
    obtain ⟨h1, h2⟩ := List.getElem?_zip_eq_some.mp hp
    obtain ⟨v, hv, rv⟩ := rl.get h1
    obtain ⟨v2, hv2, rv2⟩ := rl2.get h2
    refine ⟨⟨vs, us, v, v2, SqL.of hH, SqL.of hH2, hv, hv2⟩, fun u H' ⟨T, z1, z2, e1, hT, e2, q1, q2⟩ => ?_⟩
    subst e1 e2
    have q1 := q1 vs (SqL.of hH)
    have q2 := q2 us (SqL.of hH2)
    rw [hv] at q1
    rw [hv2] at q2
    cases q1; cases q2
    exact ⟨.side hT, r.side hT, .tup upd_same (.cons (rv.ltr (.side hT)) (.cons (rv2.ltr (.side hT)) .nil))⟩
  · rw [List.length_map, List.length_zip, rl.length, rl2.length] at e
    omega
end

/-! ### the readings of what is walked -/
section
variable (w : World) (K : PySem.W.Frag) (ca : Nm → Addr) (cl : Cl) (cf : Cf) (E : XK)
def KRI (k : Ik) (r : Res (List AV)) (ρ : List Addr) (H : Hp) (R : It → Hp → Prop) : Prop := match r with
  | .ok vs h => match walk k vs h with
    | some (xs, g) => ∀ ρ' H' J, Ltr ρ H ρ' H' → RH w K ca cl.at' ρ' h H' → Walks w K ca cl.at' J ρ' H' xs g → R J H'
    | none => False
  | .exc c h => ∀ ρ' H', Ltr ρ H ρ' H' → RH w K ca cl.at' ρ' h H' → E (.ref (ca c)) none H'
  | .bad => False
def iW (k : Ik) (src : Rl.E) : TI := fun σ H R => ∃ ρ aσ h, SS w K ca cl.at' ρ aσ h σ H ∧ KRI w K ca cl E k (evs cl cf src aσ h) ρ H R
end
section
variable {X : Cx} {ca : Nm → Addr} {cl : Cl} {cf : Cf} {E : XK} {tg e : Expr} {es : List Expr} {m src : Rl.E} {p pos : Pos}
theorem evs_one {σ : Sl} {h : AH} : evs cl cf (.cons m .nil) σ h = (ev cl cf m σ h).bind fun v h1 => .ok [v] h1 := by
  simp only [evs]
  cases ev cl cf m σ h <;> rfl
theorem w_seq (ha : PE X e (tI X.w X.K ca cl cf E m)) : PI X tg e (iW X.w X.K ca cl cf E .seq (.cons m .nil)) := by
  refine ⟨fun pins s σ H R I ⟨ρ, aσ, h, S, k⟩ => ?_⟩
  rw [evs_one] at k
  cases er : ev cl cf m aσ h with
  | bad => rw [er] at k; exact k.elim
  | exc c h1 =>
    rw [er] at k
    exact (pi_list ha).run pins s σ H R I ⟨ρ, aσ, h, S, by rw [er]; exact k⟩
  | ok v h1 =>
    rw [er] at k
    simp only [Res.bind, KRI, walk, wk1, walkSeq] at k
    cases v with
    | tup l =>
      refine (pi_tup ha).run pins s σ H R I ⟨ρ, aσ, h, S, ?_⟩
      rw [er]
      intro ρ' H' v' L r rv
      obtain ⟨t, vs, rfl, ht, rl⟩ := rv.tup_inv
      exact ⟨t, rfl, ⟨vs, SqT.of ht⟩, k _ _ _ L r (walks_tup ht rl)⟩
    | ref n =>
      refine (pi_list ha).run pins s σ H R I ⟨ρ, aσ, h, S, ?_⟩
      rw [er]
      intro ρ' H' v' L r rv
      obtain ⟨a, rfl, hn⟩ := rv.ref_inv
      simp only at k
      cases hg : h1.g n with
      | none => rw [hg] at k; exact k.elim
      | some o =>
        rw [hg] at k
        cases o with
        | lst xs =>
          obtain ⟨vs, hH, rl⟩ := r.lst hn hg
          exact ⟨a, rfl, ⟨vs, SqL.of hH⟩, k _ _ _ L r (walks_list hn)⟩
        | _ => exact k.elim
    | _ => exact k.elim
theorem iW_tIs {k : Ik} {σ : St} {H : Hp} {R : It → Hp → Prop} (q : iW X.w X.K ca cl cf E k src σ H R) {Q : List V → Hp → Prop}
    (h : ∀ vs h1 xs g ρ' H' us, walk k vs h1 = some (xs, g) → RH X.w X.K ca cl.at' ρ' h1 H' → RAs X.w X.K ρ' H' vs us → (∀ J, Walks X.w X.K ca cl.at' J ρ' H' xs g → R J H') → Q us H') : tIs X.w X.K ca cl cf E src σ H Q := by
  obtain ⟨ρ, aσ, h0, S, k0⟩ := q
  refine ⟨ρ, aσ, h0, S, ?_⟩
  generalize evs cl cf src aσ h0 = r at k0
  cases r with
  | bad => exact k0
  | exc c h1 => exact k0
  | ok vs h1 =>
    intro ρ' H' us L rh ru
    simp only [KRI] at k0
    cases e : walk k vs h1 with
    | none => rw [e] at k0; exact k0.elim
    | some p =>
      rw [e] at k0
      exact h vs h1 p.1 p.2 ρ' H' us e rh ru fun J W => k0 ρ' H' J L rh W
theorem piImp {wi wi' : TI} (h : PI X tg e wi) (i : ∀ σ H R, wi' σ H R → wi σ H R) : PI X tg e wi' := ⟨fun pins s σ H R I q => h.run pins s σ H R I (i _ _ _ q)⟩
theorem smallR_iff {i : Int} : smallR i = true ↔ -(2 ^ 62) ≤ i ∧ i < 2 ^ 62 := by simp [smallR]
theorem w_rng1 {a : Expr} (hg : Gl X "range") (hm : X.mg "range" = none) (ha : PA X [a] (tIs X.w X.K ca cl cf E src)) (hs : starEach [a] X.env = [(false, eval a X.env)]) :
    PI X tg (.Call (.Name "range" p) [a] [] pos) (iW X.w X.K ca cl cf E .rng1 src) := by
  refine piImp (pi_range1 hg hm ha hs) fun σ H R q => iW_tIs q fun vs h1 xs g ρ' H' us e rh ru k => ?_
  simp only [walk, wkR1] at e
  split at e <;> try (cases e)
  split at e
  · rename_i c
    cases e
    obtain ⟨u, rfl, r1⟩ := ru.one_inv
    have := r1.int_inv
    subst this
    rw [smallR_iff] at c
    refine ⟨_, rfl, c.1, c.2, ?_⟩
    have := k _ (walks_range (lo := 0))
    rwa [Int.sub_zero] at this
  · cases e
theorem w_rng2 {a b : Expr} (hg : Gl X "range") (hm : X.mg "range" = none) (ha : PA X [a, b] (tIs X.w X.K ca cl cf E src)) (hs : starEach [a, b] X.env = [(false, eval a X.env), (false, eval b X.env)]) (hs2 : starEach [b] X.env = [(false, eval b X.env)]) :
    PI X tg (.Call (.Name "range" p) [a, b] [] pos) (iW X.w X.K ca cl cf E .rng2 src) := by
  refine piImp (pi_range2 hg hm ha hs hs2) fun σ H R q => iW_tIs q fun vs h1 xs g ρ' H' us e rh ru k => ?_
  simp only [walk, wkR2] at e
  split at e <;> try (cases e)
  split at e
  · rename_i c
    cases e
    obtain ⟨u, v, rfl, r1, r2⟩ := ru.two_inv
    have := r1.int_inv
    subst this
    have := r2.int_inv
    subst this
    rw [smallR_iff, smallR_iff] at c
    exact ⟨_, _, rfl, ⟨c.1.1, c.1.2, c.2.1, c.2.2⟩, k _ walks_range⟩
  · cases e
theorem w_enum {a : Expr} {elts : List Expr} {kk : Nat} {tpos : Pos} (hg : Gl X "enumerate") (hm : X.mg "enumerate" = none) (ha : PA X [a] (tIs X.w X.K ca cl cf E src)) (hs : starEach [a] X.env = [(false, eval a X.env)]) :
    PI X (.Tuple elts kk tpos) (.Call (.Name "enumerate" p) [a] [] pos) (iW X.w X.K ca cl cf E .enum src) := by
  refine piImp (pi_enum hg hm ha hs) fun σ H R q => iW_tIs q fun vs h1 xs g ρ' H' us e rh ru k => ?_
  simp only [walk, wkE] at e
  split at e <;> try (cases e)
  rename_i n
  obtain ⟨u, rfl, r1⟩ := ru.one_inv
  obtain ⟨b, rfl, hn⟩ := r1.ref_inv
  split at e <;> try (cases e)
  rename_i ws hw
  simp only [walkSeq] at hw
  split at hw <;> try (cases hw)
  rename_i ys hg'
  obtain ⟨vs, hH, rl⟩ := rh.lst hn hg'
  exact ⟨b, vs, rfl, SqL.of hH, k _ (walks_enum hn)⟩
theorem w_zip {a b : Expr} {elts : List Expr} {kk : Nat} {tpos : Pos} (hg : Gl X "zip") (hm : X.mg "zip" = none) (ha : PA X [a, b] (tIs X.w X.K ca cl cf E src)) (hs : starEach [a, b] X.env = (false, eval a X.env) :: starEach [b] X.env)
    (hpl : (backTo pos (starEach [b] X.env)).any (·.1) = false) :
    PI X (.Tuple elts kk tpos) (.Call (.Name "zip" p) [a, b] [] pos) (iW X.w X.K ca cl cf E .zip src) := by
  refine piImp (pi_zip hg hm ha hs hpl) fun σ H R q => iW_tIs q fun vs h1 xs g ρ' H' us e rh ru k => ?_
  simp only [walk, wkZ] at e
  split at e <;> try (cases e)
  rename_i n m
  obtain ⟨u, v, rfl, r1, r2⟩ := ru.two_inv
  obtain ⟨b, rfl, hn⟩ := r1.ref_inv
  obtain ⟨c, rfl, hm⟩ := r2.ref_inv
  split at e <;> try (cases e)
  rename_i hw1 hw2
  simp only [walkSeq] at hw1 hw2
  split at hw1 <;> try (cases hw1)
  rename_i ys hg1
  split at hw2 <;> try (cases hw2)
  rename_i zs hg2
  obtain ⟨vs, hH, rl⟩ := rh.lst hn hg1
  obtain ⟨us, hH2, rl2⟩ := rh.lst hm hg2
  exact ⟨b, c, vs, us, rfl, SqL.of hH, SqL.of hH2, k _ (walks_zip hn hm)⟩
end
end Rl

set_option Elab.async false
set_option linter.all false
set_option maxRecDepth 100000
set_option autoImplicit false
set_option maxHeartbeats 4000000
/-! Sound6: expressions, one by one. -/
namespace Rl
open PySem PySem.Spec PyProof.Rows L2
/-- an expression's, an argument list's, a test's reading by the evaluator -/
abbrev PEI (X : Cx) (ca : Nm → Addr) (cl : Cl) (cf : Cf) (E : XK) (e : Expr) (m : Rl.E) : Prop := PE X e (tI X.w X.K ca cl cf E m)
abbrev PAI (X : Cx) (ca : Nm → Addr) (cl : Cl) (cf : Cf) (E : XK) (e : List Expr) (m : Rl.E) : Prop := PA X e (tIs X.w X.K ca cl cf E m)
abbrev PTI (X : Cx) (ca : Nm → Addr) (cl : Cl) (cf : Cf) (E : XK) (e : Expr) (m : Rl.E) : Prop := PT X e (tIT X.w X.K ca cl cf E m)
abbrev PWI (X : Cx) (ca : Nm → Addr) (cl : Cl) (cf : Cf) (E : XK) (e : Expr) (m : Rl.E) : Prop := PW X e (tIT X.w X.K ca cl cf E m)
section
variable {X : Cx} {ca : Nm → Addr} {cl : Cl} {cf : Cf} {E : XK} {e a b c : Expr} {es : List Expr} {m ma mb mc ml mh src : Rl.E} {p pos apos p2 : Pos}
theorem p_slot {i : Nat} {x : Str} (hN : X.N[i]? = some x) (hv : Vis X.env.scope x) (hd : (x == ("__debug__" : Str)) = false) (hcd : (x == ("__classdict__" : Str)) = false) : PEI X ca cl cf E (.Name x pos) (.slot i) := by
  refine peImp (pe_var hN hv hd hcd) fun σ H Q ⟨ρ, aσ, h, S, k⟩ => ?_
  simp only [ev] at k
  split at k
  · rename_i v hv
    obtain ⟨v', h1, h2⟩ := S.sl i v hv
    exact ⟨v', h1, k.here S.hp h2⟩
  · exact k.elim
theorem p_int {i : Int} {j : Nat} : PEI X ca cl cf E (.Constant (.int i) j pos) (.int i) := peImp pe_int fun σ H Q ⟨ρ, aσ, h, S, k⟩ => k.here S.hp (.int i)
theorem p_bl {i : Bool} {j : Nat} : PEI X ca cl cf E (.Constant (.bool i) j pos) (.bl i) := peImp pe_bl fun σ H Q ⟨ρ, aσ, h, S, k⟩ => k.here S.hp (.bl i)
theorem p_non {j : Nat} : PEI X ca cl cf E (.Constant .none j pos) .non := peImp pe_non fun σ H Q ⟨ρ, aσ, h, S, k⟩ => k.here S.hp .non
theorem p_str {x : Str} {s : Tx} {j : Nat} (hs : x = ⟨s.toArray⟩) : PEI X ca cl cf E (.Constant (.str x) j pos) (.str s) := by
  subst hs
  exact peImp pe_str fun σ H Q ⟨ρ, aσ, h, S, k⟩ => k.here S.hp (.str s)
theorem p_kd {f : Nm} {kvs : List (Tx × Int)} {d : Addr} (hg : Gl X f.str) (hm : X.mg f.str = some (.ref d)) (D : KDat X.K X.w d kvs) (hd : (f.str == ("__debug__" : Str)) = false) : PEI X ca cl cf E (.Name f.str pos) (.kd f kvs) :=
  peImp (pe_glob (v := .ref d) hg hm rfl hd) fun σ H Q ⟨ρ, aσ, h, S, k⟩ => k.here S.hp (.kd D)
theorem a_nil : PAI X ca cl cf E [] .nil := paImp pa_nil fun σ H Q ⟨ρ, aσ, h, S, k⟩ => by
  simp only [evs] at k
  exact k.here S.hp .nil
theorem a_cons (ha : PEI X ca cl cf E e ma) (hr : PAI X ca cl cf E es mb) (hs : starEach (e :: es) X.env = (false, eval e X.env) :: starEach es X.env) : PAI X ca cl cf E (e :: es) (.cons ma mb) := by
  refine paImp (pa_cons ha hr hs) fun σ H Q ⟨ρ, aσ, h, S, k⟩ => ?_
  simp only [evs] at k
  refine (tI.bind S k).mono fun x H1 ⟨ρ1, v, h1, L1, S1, r1, k1⟩ => (tIs.bind S1 k1).mono fun xs H2 ⟨ρ2, vs, h2, L2, S2, r2, k2⟩ => ?_
  exact k2.here S2.hp (.cons (r1.ltr L2) r2)
theorem p_tup {x1 : Nat} (ha : PAI X ca cl cf E es m) : PEI X ca cl cf E (.Tuple es x1 pos) (.tup m) := by
  refine peImp (pe_tup ha) fun σ H Q ⟨ρ, aσ, h, S, k⟩ => ?_
  simp only [ev] at k
  refine (tIs.bind S k).mono fun xs H1 ⟨ρ1, vs, h1, L1, S1, r1, k1⟩ => ?_
  split at k1
  · rename_i c
    refine ⟨by rw [← lim_eq, ← r1.length]; exact c, fun q hq => ?_⟩
    exact k1 _ _ _ (.side hq) (S1.hp.side hq) (.tup upd_same (r1.ltr (.side hq)))
  · exact k1.elim
theorem p_lst (ha : PAI X ca cl cf E es m) : PEI X ca cl cf E (.List es pos) (.lst m) := by
  refine peImp (pe_lst ha) fun σ H Q ⟨ρ, aσ, h, S, k⟩ => ?_
  simp only [ev] at k
  refine (tIs.bind S k).mono fun xs H1 ⟨ρ1, vs, h1, L1, S1, r1, k1⟩ => ?_
  simp only [newL] at k1
  split at k1
  · rename_i c
    exact ⟨by rw [← lim_eq, ← r1.length]; exact c, fun q hq => k1.made S1.hp hq (.lst r1)⟩
  · exact k1.elim
theorem p_dict0 {tk : Bool} : PEI X ca cl cf E (.Dict [] [] pos) (.dict0 tk) := by
  cases tk with
  | false => exact peImp pe_dnewK fun σ H Q ⟨ρ, aσ, h, S, k⟩ p hp => k.made S.hp hp (.dK .nil)
  | true => exact peImp pe_dnewT fun σ H Q ⟨ρ, aσ, h, S, k⟩ p hp => k.made S.hp hp (.dT .nil)
/-- operators -/
theorem tOp_of {o : Op} {σ : St} {H : Hp} {Q : VK} (q : tI X.w X.K ca cl cf E (.op o ma mb) σ H Q) : tOp (rOp X.w X.K ca cl.at' E o) (tI X.w X.K ca cl cf E ma) (tI X.w X.K ca cl cf E mb) σ H Q := by
  obtain ⟨ρ, aσ, h, S, k⟩ := q
  simp only [ev] at k
  refine (tI.bind S k).mono fun x H1 ⟨ρ1, v, h1, L1, S1, r1, k1⟩ => (tI.bind S1 k1).mono fun y H2 ⟨ρ2, u, h2, L2, S2, r2, k2⟩ => ?_
  exact ⟨ρ2, h2, v, u, S2.hp, r1.ltr L2, r2, k2⟩
theorem p_op {o : Op} {f : Operator} (ho : OpR X (binaryOp f) (rOp X.w X.K ca cl.at' E o)) (ha : PEI X ca cl cf E a ma) (hb : PEI X ca cl cf E b mb) : PEI X ca cl cf E (.BinOp a f b pos) (.op o ma mb) :=
  peImp (pe_op ho ha hb) fun _ _ _ q => tOp_of q
theorem p_cmp {o : Op} {f : CmpOp} (ho : OpR X (compareOp f) (rOp X.w X.K ca cl.at' E o)) (ha : PEI X ca cl cf E a ma) (hb : PEI X ca cl cf E b mb) (hm : behindInMarks f b = false) : PEI X ca cl cf E (.Compare a [f] [b] pos) (.op o ma mb) :=
  peImp (pe_cmpR ho ha hb hm) fun _ _ _ q => tOp_of q
theorem p_item (ho : IxR X (rOp X.w X.K ca cl.at' E .item)) (ha : PEI X ca cl cf E a ma) (hb : PEI X ca cl cf E b mb) (hs : PlainIx b) : PEI X ca cl cf E (.Subscript a b pos) (.op .item ma mb) :=
  peImp (pe_ix ho ha hb hs) fun _ _ _ q => tOp_of q
theorem p_neg (ha : PEI X ca cl cf E a ma) : PEI X ca cl cf E (.UnaryOp .USub a pos) (.neg ma) := by
  refine peImp (pe_un un_neg ha) fun σ H Q ⟨ρ, aσ, h, S, k⟩ => ?_
  simp only [ev] at k
  refine (tI.bind S k).mono fun x H1 ⟨ρ1, v, h1, L1, S1, r1, k1⟩ => ?_
  split at k1
  · exact ⟨_, r1.int_inv, k1.here S1.hp (.int _)⟩
  · exact k1.elim
theorem p_isN {j : Nat} {pos' : Pos} (ha : PEI X ca cl cf E a ma) : PEI X ca cl cf E (.Compare a [.Is] [.Constant .none j pos'] pos) (.isN ma) := by
  refine peImp (pe_cmp (pc_isN ha)) fun σ H Q ⟨ρ, aσ, h, S, k⟩ => ?_
  simp only [ev] at k
  refine (tI.bind S k).mono fun x H1 ⟨ρ1, v, h1, L1, S1, r1, k1⟩ => ?_
  rw [r1.none_iff]
  exact k1.here S1.hp (.bl _)
theorem p_notN {j : Nat} {pos' : Pos} (ha : PEI X ca cl cf E a ma) : PEI X ca cl cf E (.Compare a [.IsNot] [.Constant .none j pos'] pos) (.notN ma) := by
  refine peImp (pe_cmp (pc_notN ha)) fun σ H Q ⟨ρ, aσ, h, S, k⟩ => ?_
  simp only [ev] at k
  refine (tI.bind S k).mono fun x H1 ⟨ρ1, v, h1, L1, S1, r1, k1⟩ => ?_
  rw [r1.none_iff]
  exact k1.here S1.hp (.bl _)
theorem p_not (ha : PEI X ca cl cf E a ma) : PEI X ca cl cf E (.UnaryOp .Not a pos) (.not ma) := by
  refine peImp (pe_not ha) fun σ H Q ⟨ρ, aσ, h, S, k⟩ => ?_
  simp only [ev] at k
  refine (tI.bind S k).mono fun x H1 ⟨ρ1, v, h1, L1, S1, r1, k1⟩ => ?_
  split at k1
  · exact ⟨_, r1.bl_inv, k1.here S1.hp (.bl _)⟩
  · exact k1.elim
theorem p_one {op : BoolOp} (ha : PEI X ca cl cf E a ma) : PEI X ca cl cf E (.BoolOp op [a] pos) ma := pe_one ha
theorem p_and (ha : PEI X ca cl cf E a ma) (hb : PEI X ca cl cf E (.BoolOp .And (b :: es) pos) mb) : PEI X ca cl cf E (.BoolOp .And (a :: b :: es) pos) (.and ma mb) := by
  refine peImp (pe_and ha hb) fun σ H Q ⟨ρ, aσ, h, S, k⟩ => ?_
  simp only [ev] at k
  refine (tI.bind S k).mono fun x H1 ⟨ρ1, v, h1, L1, S1, r1, k1⟩ => ?_
  split at k1
  · exact ⟨true, r1.bl_inv, iteT ⟨ρ1, aσ, h1, S1, k1⟩⟩
  · exact ⟨false, r1.bl_inv, iteF (k1.here S1.hp (.bl _))⟩
  · exact k1.elim
theorem p_or (ha : PEI X ca cl cf E a ma) (hb : PEI X ca cl cf E (.BoolOp .Or (b :: es) pos) mb) : PEI X ca cl cf E (.BoolOp .Or (a :: b :: es) pos) (.or ma mb) := by
  refine peImp (pe_or ha hb) fun σ H Q ⟨ρ, aσ, h, S, k⟩ => ?_
  simp only [ev] at k
  refine (tI.bind S k).mono fun x H1 ⟨ρ1, v, h1, L1, S1, r1, k1⟩ => ?_
  split at k1
  · exact ⟨true, r1.bl_inv, iteT (k1.here S1.hp (.bl _))⟩
  · exact ⟨false, r1.bl_inv, iteF ⟨ρ1, aσ, h1, S1, k1⟩⟩
  · exact k1.elim
theorem p_ite (hc : PTI X ca cl cf E c mc) (ha : PEI X ca cl cf E a ma) (hb : PEI X ca cl cf E b mb) : PEI X ca cl cf E (.IfExp c a b pos) (.ite mc ma mb) := by
  refine peImp (pe_ifExp hc ha hb) fun σ H Q ⟨ρ, aσ, h, S, k⟩ => ?_
  simp only [ev] at k
  refine (tIT.bind S (fun v h nb => ?_) k).mono fun z H1 ⟨ρ1, h1, L1, S1, k1⟩ => ?_
  · cases v <;> first | rfl | exact (nb _ rfl).elim
  · cases z with
    | true => exact iteT ⟨ρ1, aσ, h1, S1, k1⟩
    | false => exact iteF ⟨ρ1, aσ, h1, S1, k1⟩
/-! tests -/
theorem t_of_tI {σ : St} {H : Hp} {Q : Bool → Hp → Prop} (q : tIT X.w X.K ca cl cf E m σ H Q) : tI X.w X.K ca cl cf E m σ H (fun x H1 => ∃ k, x = .bl k ∧ Q k H1) := by
  obtain ⟨ρ, aσ, h, S, k⟩ := q
  refine (tI.bind S k).mono fun x H1 ⟨ρ1, v, h1, L1, S1, r1, k1⟩ => ?_
  split at k1
  · exact ⟨_, r1.bl_inv, k1.here S1.hp rfl⟩
  · exact k1.elim
theorem q_val (ha : PEI X ca cl cf E a ma) (he : ∀ whole, isTrue a X.env whole = (do let v ← whole; standAt a.pos; holding [v] (truthy v))) : PTI X ca cl cf E a ma :=
  ptImp (pt_val ha he) fun _ _ _ q => t_of_tI q
theorem q_cmp {o : Op} {f : CmpOp} (ho : OpR X (compareOp f) (rOp X.w X.K ca cl.at' E o)) (ha : PEI X ca cl cf E a ma) (hb : PEI X ca cl cf E b mb) (hm : behindInMarks f b = false) : PTI X ca cl cf E (.Compare a [f] [b] pos) (.op o ma mb) :=
  ptImp (pt_cmpR ho ha hb hm) fun _ _ _ q => tOp_of (t_of_tI q)
theorem q_isN {j : Nat} {pos' : Pos} (ha : PEI X ca cl cf E a ma) : PTI X ca cl cf E (.Compare a [.Is] [.Constant .none j pos'] pos) (.isN ma) := by
  refine ptImp (pt_cmp (pc_isN ha)) fun σ H Q q => ?_
  obtain ⟨ρ, aσ, h, S, k⟩ := t_of_tI q
  simp only [ev] at k
  refine (tI.bind S k).mono fun x H1 ⟨ρ1, v, h1, L1, S1, r1, k1⟩ => ?_
  rw [r1.none_iff]
  exact k1.here S1.hp (.bl _)
theorem q_notN {j : Nat} {pos' : Pos} (ha : PEI X ca cl cf E a ma) : PTI X ca cl cf E (.Compare a [.IsNot] [.Constant .none j pos'] pos) (.notN ma) := by
  refine ptImp (pt_cmp (pc_notN ha)) fun σ H Q q => ?_
  obtain ⟨ρ, aσ, h, S, k⟩ := t_of_tI q
  simp only [ev] at k
  refine (tI.bind S k).mono fun x H1 ⟨ρ1, v, h1, L1, S1, r1, k1⟩ => ?_
  rw [r1.none_iff]
  exact k1.here S1.hp (.bl _)
theorem Res.bind_assoc {α β γ : Type} (r : Res α) (f : α → AH → Res β) (g : β → AH → Res γ) : (r.bind f).bind g = r.bind fun v h => (f v h).bind g := by cases r <;> rfl
/-- the test's value -/
def tB (v : AV) (h : AH) : Res AV := match v with | .bl b => .ok (.bl b) h | _ => .bad
theorem q_not (ha : PTI X ca cl cf E a ma) : PTI X ca cl cf E (.UnaryOp .Not a pos) (.not ma) := by
  refine ptImp (pt_not ha) fun σ H Q ⟨ρ, aσ, h, S, k⟩ => ?_
  simp only [ev] at k
  rw [Res.bind_assoc] at k
  refine (tIT.bind S (fun v h nb => ?_) k).mono fun z H1 ⟨ρ1, h1, L1, S1, k1⟩ => k1.here S1.hp rfl
  cases v <;> first | rfl | exact (nb _ rfl).elim
theorem w_one (o : BoolOp) (ha : PTI X ca cl cf E a ma) : PWI X ca cl cf E (.BoolOp o [a] pos) ma := by
  cases o with
  | And => exact pw_and1 ha
  | Or => exact pw_or1 ha
theorem pwImp {t t' : TT} (h : PW X e t) (i : ∀ σ H Q, t' σ H Q → t σ H Q) : PW X e t' := ⟨fun wh pins s σ H Q I q => h.run wh pins s σ H Q I (i _ _ _ q)⟩
theorem w_and (ha : PTI X ca cl cf E a ma) (hb : PWI X ca cl cf E (.BoolOp .And (b :: es) pos) mb) : PWI X ca cl cf E (.BoolOp .And (a :: b :: es) pos) (.and ma mb) := by
  refine pwImp (pw_and ha hb) fun σ H Q ⟨ρ, aσ, h, S, k⟩ => ?_
  simp only [ev] at k
  rw [Res.bind_assoc] at k
  refine (tIT.bind S (fun v h nb => ?_) k).mono fun z H1 ⟨ρ1, h1, L1, S1, k1⟩ => ?_
  · cases v <;> first | rfl | exact (nb _ rfl).elim
  · cases z with
    | true => exact iteT ⟨ρ1, aσ, h1, S1, k1⟩
    | false => exact iteF (k1.here S1.hp rfl)
theorem w_or (ha : PTI X ca cl cf E a ma) (hb : PWI X ca cl cf E (.BoolOp .Or (b :: es) pos) mb) : PWI X ca cl cf E (.BoolOp .Or (a :: b :: es) pos) (.or ma mb) := by
  refine pwImp (pw_or ha hb) fun σ H Q ⟨ρ, aσ, h, S, k⟩ => ?_
  simp only [ev] at k
  rw [Res.bind_assoc] at k
  refine (tIT.bind S (fun v h nb => ?_) k).mono fun z H1 ⟨ρ1, h1, L1, S1, k1⟩ => ?_
  · cases v <;> first | rfl | exact (nb _ rfl).elim
  · cases z with
    | true => exact iteT (k1.here S1.hp rfl)
    | false => exact iteF ⟨ρ1, aσ, h1, S1, k1⟩
/-! slices, fields, functions, methods -/
theorem o_none {σ : St} {H : Hp} {Q : Option Int → Hp → Prop} (h : Q none H) : tNoPart σ H Q := h
def tPI (X : Cx) (ca : Nm → Addr) (cl : Cl) (cf : Cf) (E : XK) (m : Rl.E) : TO := fun σ H Q => ∃ ρ aσ h, SS X.w X.K ca cl.at' ρ aσ h σ H ∧ KR X.w X.K ca cl.at' E (fun _ _ (x y : Option Int) => x = y) (if m.isNil then .ok none h else (ev cl cf m aσ h).bind asI) ρ H Q
theorem po_nil : PO X none (tPI X ca cl cf E .nil) := ⟨fun pins s σ H Q I ⟨ρ, aσ, h, S, k⟩ => po_none.run pins s σ H Q I (KR.here (R := fun _ _ (x y : Option Int) => x = y) k S.hp rfl)⟩
theorem po_e (ha : PEI X ca cl cf E a ma) (hn : ma.isNil = false) : PO X (some a) (tPI X ca cl cf E ma) := ⟨fun pins s σ H Q I ⟨ρ, aσ, h, S, k⟩ => (po_some ha).run pins s σ H Q I (by
  rw [hn] at k
  refine (tI.bind S k).mono fun x H1 ⟨ρ1, v, h1, L1, S1, r1, k1⟩ => ?_
  cases v with
  | int i => exact ⟨i, r1.int_inv, KR.here (R := fun _ _ (x y : Option Int) => x = y) k1 S1.hp rfl⟩
  | _ => exact k1.elim)⟩
theorem tPI.mono {σ : St} {H : Hp} {Q Q' : Option Int → Hp → Prop} (t : tPI X ca cl cf E m σ H Q) (h : ∀ v H', Q v H' → Q' v H') : tPI X ca cl cf E m σ H Q' := let ⟨ρ, aσ, h', S, k⟩ := t; ⟨ρ, aσ, h', S, k.mono h⟩
theorem tPI.bind {ρ : List Addr} {aσ : Sl} {h : AH} {σ : St} {H : Hp} {γ δ : Type} {R2 : List Addr → Hp → γ → δ → Prop} {k : Option Int → AH → Res γ} {Q : δ → Hp → Prop} (S : SS X.w X.K ca cl.at' ρ aσ h σ H)
    (q : KR X.w X.K ca cl.at' E R2 ((if m.isNil then .ok none h else (ev cl cf m aσ h).bind asI).bind k) ρ H Q) :
    tPI X ca cl cf E m σ H (fun v H1 => ∃ ρ1 h1, Ltr ρ H ρ1 H1 ∧ SS X.w X.K ca cl.at' ρ1 aσ h1 σ H1 ∧ KR X.w X.K ca cl.at' E R2 (k v h1) ρ1 H1 Q) :=
  ⟨ρ, aσ, h, S, (KR.bind (R := fun _ _ (x y : Option Int) => x = y) q).mono fun v' H1 ⟨ρ1, v, h1, L, r1, r2, k1⟩ => ⟨ρ1, h1, L, S.later L r1, by rw [← r2]; exact k1⟩⟩
theorem p_slice {lo hi : Option Expr} (ha : PEI X ca cl cf E a ma) (hl : PO X lo (tPI X ca cl cf E ml)) (hh : PO X hi (tPI X ca cl cf E mh)) : PEI X ca cl cf E (.Subscript a (.Slice lo hi none p2) pos) (.slice ma ml mh) := by
  refine peImp (pe_slice (s_slice (E := E) (ca := ca) (at' := cl.at')) ha hl hh) fun σ H Q ⟨ρ, aσ, h, S, k⟩ => ?_
  simp only [ev] at k
  refine (tI.bind S k).mono fun x H1 ⟨ρ1, v, h1, L1, S1, r1, k1⟩ => ?_
  refine (tPI.bind S1 k1).mono fun l H2 ⟨ρ2, h2, L2, S2, k2⟩ => ?_
  refine (tPI.bind S2 k2).mono fun u H3 ⟨ρ3, h3, L3, S3, k3⟩ => ?_
  exact ⟨ρ3, h3, v, S3.hp, (r1.ltr L2).ltr L3, k3⟩
theorem p_fld {f : Nm} (ha : PEI X ca cl cf E a ma) (hb : attributeBase a f.str X.env (eval a X.env) = eval a X.env) : PEI X ca cl cf E (.Attribute a f.str pos) (.fld ma f) := by
  refine peImp (pe_fld ha hb) fun σ H Q ⟨ρ, aσ, h, S, k⟩ => ?_
  simp only [ev] at k
  refine (tI.bind S k).mono fun x H1 ⟨ρ1, v, h1, L1, S1, r1, k1⟩ => ?_
  split at k1
  · rename_i u hu
    unfold getF at hu
    split at hu <;> try (cases hu)
    split at hu <;> try (cases hu)
    rename_i n cc fs hg
    obtain ⟨d, rfl, hn⟩ := r1.ref_inv
    obtain ⟨dx, vs, hH, C, rf, m1, m2, m3⟩ := S1.hp.obj hn hg
    have hf : f ∈ cl.at' cc := by
      have : ∃ p ∈ fs, p.1 = f := by
        unfold flook at hu
        obtain ⟨p, hp, _⟩ := Option.map_eq_some_iff.mp hu
        exact ⟨p, List.mem_of_find?_eq_some hp, by simpa using List.find?_some hp⟩
      obtain ⟨p, hp, rfl⟩ := this
      exact m1 p hp
    obtain ⟨w1, hl, rw1⟩ := (rf.look m3 m1 hf).1 u hu
    exact ⟨d, _, dx, vs, w1, rfl, hH, C, m2 f hf, hl, k1.here S1.hp rw1⟩
  · exact k1.elim
theorem p_biB {bi : Bi} {id : String} {x : Str} (hc : CallR X (.builtin id) (rB X.w X.K ca cl.at' E bi)) (hg : Gl X x) (hm : X.mg x = none) (hv : bootBuiltins x = some (.builtin id)) (ha : PAI X ca cl cf E (e :: es) m) (hn : x ≠ "__name__") (hdb : (x == ("__debug__" : Str)) = false)
    (he : starEach (e :: es) X.env = (false, eval e X.env) :: starEach es X.env) (hpl : (backTo pos (starEach es X.env)).any (·.1) = false) : PEI X ca cl cf E (.Call (.Name x p) (e :: es) [] pos) (.bi bi m) := by
  refine peImp (pe_callB hc hg hm hv ha hn hdb he hpl) fun σ H Q ⟨ρ, aσ, h, S, k⟩ => ?_
  simp only [ev] at k
  exact (tIs.bind S k).mono fun xs H1 ⟨ρ1, vs, h1, L1, S1, r1, k1⟩ => ⟨ρ1, h1, vs, S1.hp, r1, k1⟩
theorem p_biT {bi : Bi} {id : String} {x : Str} (hc : CallR X (.type id) (rB X.w X.K ca cl.at' E bi)) (hg : Gl X x) (hm : X.mg x = none) (hv : bootBuiltins x = some (.type id)) (ha : PAI X ca cl cf E (e :: es) m) (hn : x ≠ "__name__") (hdb : (x == ("__debug__" : Str)) = false)
    (he : starEach (e :: es) X.env = (false, eval e X.env) :: starEach es X.env) (hpl : (backTo pos (starEach es X.env)).any (·.1) = false) : PEI X ca cl cf E (.Call (.Name x p) (e :: es) [] pos) (.bi bi m) := by
  refine peImp (pe_callTy hc hg hm hv ha hn hdb he hpl) fun σ H Q ⟨ρ, aσ, h, S, k⟩ => ?_
  simp only [ev] at k
  exact (tIs.bind S k).mono fun xs H1 ⟨ρ1, vs, h1, L1, S1, r1, k1⟩ => ⟨ρ1, h1, vs, S1.hp, r1, k1⟩
/-- list(range(..)) -/
theorem p_listRg1 {x1 x2 : Str} {p1 p3 pos' : Pos} (hc : X.calm = true) (e1 : x1 = "list") (e2 : x2 = "range") (hg : Gl X "list") (hm : X.mg "list" = none) (hg2 : Gl X "range") (hm2 : X.mg "range" = none) (ha : PEI X ca cl cf E a ma)
    (na : starEach [a] X.env = (false, eval a X.env) :: starEach [] X.env) : PEI X ca cl cf E (.Call (.Name x1 p1) [.Call (.Name x2 p3) [a] [] pos'] [] pos) (.bi .listRg (.cons ma .nil)) := by
  subst e1 e2
  refine peImp (pe_listRg hc hg hm (prg_1 hg2 hm2 ha na)) fun σ H Q ⟨ρ, aσ, h, S, k⟩ => ?_
  simp only [ev, evs_one, Res.bind_assoc] at k
  refine (tI.bind S k).mono fun x H1 ⟨ρ1, v, h1, L1, S1, r1, k1⟩ => ?_
  simp only [Res.bind, primB, pListRg] at k1
  split at k1
  · rename_i n hv
    injection hv with hv _
    subst hv
    split at k1
    · rename_i c
      rw [smallR_iff] at c
      obtain ⟨⟨c1, c2⟩, c3⟩ := c
      refine ⟨n, r1.int_inv, ⟨by decide, by decide, c1, c2, by simpa [LIM] using c3⟩, fun q hq => k1.made S1.hp hq (.lst (rgI_of 0 n))⟩
    · exact k1.elim
  · rename_i hv
    injection hv with _ hv
    cases hv
  · exact k1.elim
theorem p_listRg2 {x1 x2 : Str} {p1 p3 pos' : Pos} (hc : X.calm = true) (e1 : x1 = "list") (e2 : x2 = "range") (hg : Gl X "list") (hm : X.mg "list" = none) (hg2 : Gl X "range") (hm2 : X.mg "range" = none) (ha : PEI X ca cl cf E a ma) (hb : PEI X ca cl cf E b mb)
    (na : starEach [a, b] X.env = (false, eval a X.env) :: starEach [b] X.env) (nb : starEach [b] X.env = (false, eval b X.env) :: starEach [] X.env) : PEI X ca cl cf E (.Call (.Name x1 p1) [.Call (.Name x2 p3) [a, b] [] pos'] [] pos) (.bi .listRg (.cons ma (.cons mb .nil))) := by
  subst e1 e2
  refine peImp (pe_listRg hc hg hm (prg_2 hg2 hm2 ha hb na nb (by rw [nb]; rfl))) fun σ H Q ⟨ρ, aσ, h, S, k⟩ => ?_
  have e3 : evs cl cf (.cons ma (.cons mb .nil)) aσ h = (ev cl cf ma aσ h).bind fun v h1 => (ev cl cf mb aσ h1).bind fun u h2 => .ok [v, u] h2 := by
    simp only [evs]
    cases ev cl cf ma aσ h with
    | ok v h1 => simp only [Res.bind]; cases ev cl cf mb aσ h1 <;> rfl
    | _ => rfl
  simp only [ev, e3, Res.bind_assoc] at k
  refine (tI.bind S k).mono fun x H1 ⟨ρ1, v, h1, L1, S1, r1, k1⟩ => (tI.bind S1 k1).mono fun y H2 ⟨ρ2, u, h2, L2, S2, r2, k2⟩ => ?_
  simp only [Res.bind, primB, pListRg] at k2
  split at k2
  · rename_i hv
    injection hv with _ hv
    cases hv
  · rename_i i j hv
    injection hv with hv hv2
    injection hv2 with hv2 _
    subst hv hv2
    split at k2
    · rename_i c
      rw [smallR_iff, smallR_iff] at c
      obtain ⟨⟨c1, c2⟩, ⟨c3, c4⟩, c5⟩ := c
      refine ⟨i, j, r1.int_inv, r2.int_inv, ⟨c1, c2, c3, c4, by simpa [LIM] using c5⟩, fun q hq => k2.made S2.hp hq (.lst (rgI_of i j))⟩
    · exact k2.elim
  · exact k2.elim
end
end Rl

set_option Elab.async false
set_option linter.all false
set_option maxRecDepth 100000
set_option autoImplicit false
set_option maxHeartbeats 4000000
/-! Sound7: methods, isinstance, comprehensions, calls. -/
namespace Rl
open PySem PySem.Spec PyProof.Rows L2
def Ty.nm : Ty → String
  | .int => "int" | .bool => "bool" | .tuple => "tuple" | .list => "list" | .str => "str" | .dict => "dict" | .non => "NoneType" | .inst => ""
theorem kit_all (t u : Ty) (h1 : t ≠ .inst) (h2 : u ≠ .inst) (h3 : u ≠ .non) : kitB t.nm u.nm = some (isTy t u) := by
  cases t <;> first | exact absurd rfl h1 | (cases u <;> first | exact absurd rfl h2 | exact absurd rfl h3 | decide +kernel)
theorem boot_ty (u : Ty) (h2 : u ≠ .inst) (h3 : u ≠ .non) : bootBuiltins (Str.ofString u.nm) = some (.type u.nm) := by
  cases u <;> first | exact absurd rfl h2 | exact absurd rfl h3 | decide +kernel
section
variable {X : Cx} {ca : Nm → Addr} {cl : Cl} {cf : Cf} {E : XK} {e a b c o : Expr} {es : List Expr} {m ma mb mc mo src : Rl.E} {p pos apos p2 cpos : Pos}
theorem ty_list {h : AH} {a : AV} (e : tyOf h a = some .list) : ∃ n xs, a = .ref n ∧ h.g n = some (.lst xs) := by
  unfold tyOf at e
  split at e <;> try (cases e)
  split at e <;> try (cases e)
  exact ⟨_, _, rfl, ‹_›⟩
theorem ty_dict {h : AH} {a : AV} (e : tyOf h a = some .dict) : ∃ n tk xs, a = .ref n ∧ h.g n = some (.dct tk xs) := by
  unfold tyOf at e
  split at e <;> try (cases e)
  split at e <;> try (cases e)
  exact ⟨_, _, _, rfl, ‹_›⟩
theorem ty_of {w : World} {K : PySem.W.Frag} {at' : Nm → List Nm} {ρ : List Addr} {h : AH} {H : Hp} (r : RH w K ca at' ρ h H) {v : AV} {x : V} (rv : RA w K ρ H v x) {t : Ty} (e : tyOf h v = some t) : TyOf K H x (.type t.nm) ∧ t ≠ .inst := by
  cases rv with
  | non => cases e; exact ⟨.non, by decide⟩
  | bl b => cases e; exact ⟨.bl b, by decide⟩
  | int i => cases e; exact ⟨.int i, by decide⟩
  | str s => cases e; exact ⟨.str _, by decide⟩
  | tup h _ => cases e; exact ⟨.tup h, by decide⟩
  | kd _ => cases e
  | rl _ _ => cases e
  | @ref n p hn =>
    simp only [tyOf] at e
    split at e
    · cases e
      obtain ⟨vs, hH, _⟩ := r.lst hn ‹_›
      exact ⟨.lst hH, by decide⟩
    · cases e
      rename_i tk kvs hg
      cases tk with
      | false => obtain ⟨vs, hH, _⟩ := r.dK hn hg; exact ⟨.dK hH, by decide⟩
      | true => obtain ⟨vs, hH, _⟩ := r.dT hn hg; exact ⟨.dT hH, by decide⟩
    · cases e
    · cases e
theorem p_isTy {u : Ty} {x1 x2 : Str} (e1 : x1 = "isinstance") (e2 : x2 = Str.ofString u.nm) (h2 : u ≠ .inst) (h3 : u ≠ .non) (hg : Gl X "isinstance") (hm : X.mg "isinstance" = none) (hg2 : Gl X x2) (hm2 : X.mg x2 = none) (ha : PEI X ca cl cf E a ma)
    (hn2 : x2 ≠ "__name__") (hd2 : (x2 == ("__debug__" : Str)) = false) (hs : starEach [a, .Name x2 p2] X.env = (false, eval a X.env) :: starEach [.Name x2 p2] X.env) : PEI X ca cl cf E (.Call (.Name x1 p) [a, .Name x2 p2] [] pos) (.isTy ma u) := by
  subst e1 e2
  have hb : PE X (.Name (Str.ofString u.nm) p2) (tC (.ty u.nm)) := pe_bltn hg2 hm2 (boot_ty u h2 h3) rfl hn2 hd2
  refine peImp (pe_callB call_isi hg hm (by decide +kernel) (pa_cons ha (pa_cons hb pa_nil) hs) (by decide) (by decide) hs (by rfl)) fun σ H Q ⟨ρ, aσ, h, S, k⟩ => ?_
  simp only [ev] at k
  refine (tI.bind S k).mono fun x H1 ⟨ρ1, v, h1, L1, S1, r1, k1⟩ => ?_
  show rIsi X.K [x, .ty u.nm] H1 Q
  split at k1
  · rename_i t ht
    obtain ⟨ty, ni⟩ := ty_of S1.hp r1 ht
    exact ⟨x, .ty u.nm, .type t.nm, .type u.nm, isTy t u, rfl, .ty _, .base ty, kit_ty (kit_all t u ni h2 h3), k1.here S1.hp (.bl _)⟩
  · exact k1.elim
/-- o.m(..), m a method of a built-in type -/
theorem tM_of {t : Ty} (ht : t = .list ∨ t = .dict) {b : Mb} {σ : St} {H : Hp} {Q : VK} (q : tI X.w X.K ca cl cf E (.mth b mo m) σ H Q) (h1 : ∀ ρ aσ h, SS X.w X.K ca cl.at' ρ aσ h σ H → KR X.w X.K ca cl.at' E (RA X.w X.K) (ev cl cf (.mth b mo m) aσ h) ρ H Q → ∀ v h1 t', ev cl cf mo aσ h = .ok v h1 → tyOf h1 v = some t' → mthTy b t' = true → t' = t) :
    tBM X.K t.nm (rM X.w X.K ca cl.at' E b t) (tI X.w X.K ca cl cf E mo) (tIs X.w X.K ca cl cf E m) σ H Q := by
  obtain ⟨ρ, aσ, h, S, k⟩ := q
  have h2 := h1 ρ aσ h S k
  simp only [ev] at k
  refine ⟨ρ, aσ, h, S, ?_⟩
  generalize ev cl cf mo aσ h = r at k h2
  cases r with
  | bad => exact k
  | exc c h => exact k
  | ok v h1 =>
    intro ρ1 H1 x L1 r1 rv
    have S1 := S.later L1 r1
    have k1 := KR.later k L1
    simp only [Res.bind] at k1
    split at k1
    · rename_i t' ht'
      split at k1
      · rename_i hm
        have et := h2 v h1 t' rfl ht' hm
        subst et
        refine ⟨?_, (tIs.bind S1 k1).mono fun xs H2 ⟨ρ2, vs, h2, L2, S2, r2, k2⟩ => ⟨ρ2, h2, v, vs, S2.hp, rv.ltr L2, r2, k2⟩⟩
        rcases ht with rfl | rfl
        · obtain ⟨n, ys, rfl, hg⟩ := ty_list ht'
          obtain ⟨d, rfl, hn⟩ := rv.ref_inv
          obtain ⟨us, hH, _⟩ := r1.lst hn hg
          exact .inl ⟨rfl, us, SqL.of hH⟩
        · obtain ⟨n, tk, ys, rfl, hg⟩ := ty_dict ht'
          obtain ⟨d, rfl, hn⟩ := rv.ref_inv
          cases tk with
          | false => obtain ⟨us, hH, _⟩ := r1.dK hn hg; exact .inr (.inr (.inl ⟨rfl, .inl ⟨us, hH⟩⟩))
          | true => obtain ⟨us, hH, _⟩ := r1.dT hn hg; exact .inr (.inr (.inl ⟨rfl, .inr ⟨us, hH⟩⟩))
      · exact k1.elim
    · exact k1.elim
/-! no star in an argument list -/
def noSt : List Expr → Bool
  | [] => true
  | .Starred _ _ :: _ => false
  | _ :: r => noSt r
theorem noSt_cons {e : Expr} {es : List Expr} (h : noSt (e :: es) = true) (env : Env) : starEach (e :: es) env = (false, eval e env) :: starEach es env ∧ noSt es = true := by
  cases e <;> first | exact ⟨rfl, h⟩ | cases h
theorem noSt_any {env : Env} {pos : Pos} : ∀ {es : List Expr}, noSt es = true → (backTo pos (starEach es env)).any (·.1) = false
  | [], _ => rfl
  | e :: es, h => by
    obtain ⟨h1, h2⟩ := noSt_cons h env
    rw [h1]
    show (false || (backTo pos (starEach es env)).any (·.1)) = false
    rw [noSt_any h2]
    rfl
theorem noSt_all {env : Env} {pos : Pos} : ∀ {es : List Expr}, noSt es = true → (backTo pos (starEach es env)).all (fun x => !x.1) = true
  | [], _ => rfl
  | e :: es, h => by
    obtain ⟨h1, h2⟩ := noSt_cons h env
    rw [h1]
    show ((!false) && (backTo pos (starEach es env)).all (fun x => !x.1)) = true
    rw [noSt_all h2]
    rfl
theorem noSt_few {env : Env} {pos : Pos} {es : List Expr} (h : noSt es = true) (hl : es.length < 30) : ((backTo pos (starEach es env)).all (fun x => !x.1) && (backToKw pos (keywordEach [] env)).all (fun x => x.1.isSome)
      && decide (es.length + ([] : List Keyword).length + (if ([] : List Keyword).isEmpty then 0 else 1) < 30)) = true := by
  rw [noSt_all h]
  simpa [backToKw, keywordEach] using hl
/-- a rule of a built-in type's method -/
structure MtRule (X : Cx) (ca : Nm → Addr) (at' : Nm → List Nm) (E : XK) (b : Mb) (t : Ty) (name : Str) : Prop where
  ex : ∃ id, PlainAttrs t.nm ∧ Slot t.nm name id ∧ typeOf (.builtin id) = pure (.type "method_descriptor") ∧ MtR X id (rM X.w X.K ca at' E b t)
theorem run_mth {b : Mb} {t : Ty} {name : Str} (R : MtRule X ca cl.at' E b t name) (ho : PEI X ca cl cf E o mo) (ha : PAI X ca cl cf E es m) (hbase : attributeBase o name X.env (eval o X.env) = eval o X.env) (hline : (apos.endLine == cpos.line) = true) (hes : noSt es = true) (hl : es.length < 30)
    (hm : es = [] → m = .nil) {pins : List (Addr × Obj)} {s : Shared} {σ : St} {H : Hp} {Q : VK} (I : L2.Inv X pins σ H s) (q : tBM X.K t.nm (rM X.w X.K ca cl.at' E b t) (tI X.w X.K ca cl cf E mo) (tIs X.w X.K ca cl cf E m) σ H Q) :
    wpAny (model X.prog X.w) X.A (eval (.Call (.Attribute o name apos) es [] cpos) X.env) (EP X pins σ Q) X.xe s := by
  obtain ⟨id, pa, slot, hty, hr⟩ := R.ex
  cases es with
  | nil =>
    refine (pe_bm0 pa slot hty hr ho hbase hline).run pins s σ H Q I (tI.mono q fun x H1 ⟨ty, q1⟩ => ⟨ty, ?_⟩)
    have em := hm rfl
    subst em
    obtain ⟨ρ, aσ, h, S, k⟩ := q1
    simp only [evs] at k
    exact k.here S.hp .nil
  | cons e es => exact (pe_bm pa slot hty hr ho ha hbase (noSt_few hes hl) hline (noSt_cons hes X.env).1 (noSt_any (noSt_cons hes X.env).2)).run pins s σ H Q I q
theorem p_mth {b : Mb} {t : Ty} {name : Str} (hb : ∀ t', mthTy b t' = true → t' = t) (ht : t = .list ∨ t = .dict) (R : MtRule X ca cl.at' E b t name) (ho : PEI X ca cl cf E o mo) (ha : PAI X ca cl cf E es m) (hbase : attributeBase o name X.env (eval o X.env) = eval o X.env) (hline : (apos.endLine == cpos.line) = true)
    (hes : noSt es = true) (hl : es.length < 30) (hm : es = [] → m = .nil) : PEI X ca cl cf E (.Call (.Attribute o name apos) es [] cpos) (.mth b mo m) :=
  ⟨fun pins s σ H Q I q => run_mth R ho ha hbase hline hes hl hm I (tM_of ht q fun _ _ _ _ _ _ _ t' _ _ hm => hb t' hm)⟩
theorem p_pop {name : Str} (R1 : MtRule X ca cl.at' E .pop .list name) (R2 : MtRule X ca cl.at' E .pop .dict name) (ho : PEI X ca cl cf E o mo) (ha : PAI X ca cl cf E es m) (hbase : attributeBase o name X.env (eval o X.env) = eval o X.env) (hline : (apos.endLine == cpos.line) = true)
    (hes : noSt es = true) (hl : es.length < 30) (hm : es = [] → m = .nil) : PEI X ca cl cf E (.Call (.Attribute o name apos) es [] cpos) (.mth .pop mo m) := by
  refine ⟨fun pins s σ H Q I q => ?_⟩
  obtain ⟨ρ, aσ, h, S, k⟩ := id q
  cases er : ev cl cf mo aσ h with
  | ok v h1 =>
    have one : ∀ t, tyOf h1 v = some t → tI X.w X.K ca cl cf E (.mth .pop mo m) σ H Q → tBM X.K t.nm (rM X.w X.K ca cl.at' E .pop t) (tI X.w X.K ca cl cf E mo) (tIs X.w X.K ca cl cf E m) σ H Q := by
      intro t ht _
      have ht2 : t = .list ∨ t = .dict := by
        simp only [ev, er, Res.bind, ht] at k
        split at k
        · rename_i hm; cases t <;> simp [mthTy] at hm <;> simp
        · exact k.elim
      -- the same state again
      have q2 : ∃ ρ aσ h, SS X.w X.K ca cl.at' ρ aσ h σ H ∧ KR X.w X.K ca cl.at' E (RA X.w X.K) (ev cl cf (.mth .pop mo m) aσ h) ρ H Q ∧ ∃ v h1, ev cl cf mo aσ h = .ok v h1 ∧ tyOf h1 v = some t := ⟨ρ, aσ, h, S, k, v, h1, er, ht⟩
      obtain ⟨ρ, aσ, h, S, k, v, h1, er, ht⟩ := q2
      simp only [ev] at k
      refine ⟨ρ, aσ, h, S, ?_⟩
      rw [er] at k ⊢
      intro ρ1 H1 x L1 r1 rv
      have S1 := S.later L1 r1
      have k1 := KR.later k L1
      simp only [Res.bind, ht] at k1
      split at k1
      · refine ⟨?_, (tIs.bind S1 k1).mono fun xs H2 ⟨ρ2, vs, h2, L2, S2, r2, k2⟩ => ⟨ρ2, h2, v, vs, S2.hp, rv.ltr L2, r2, k2⟩⟩
        rcases ht2 with rfl | rfl
        · obtain ⟨n, ys, rfl, hg⟩ := ty_list ht
          obtain ⟨d, rfl, hn⟩ := rv.ref_inv
          obtain ⟨us, hH, _⟩ := r1.lst hn hg
          exact .inl ⟨rfl, us, SqL.of hH⟩
        · obtain ⟨n, tk, ys, rfl, hg⟩ := ty_dict ht
          obtain ⟨d, rfl, hn⟩ := rv.ref_inv
          cases tk with
          | false => obtain ⟨us, hH, _⟩ := r1.dK hn hg; exact .inr (.inr (.inl ⟨rfl, .inl ⟨us, hH⟩⟩))
          | true => obtain ⟨us, hH, _⟩ := r1.dT hn hg; exact .inr (.inr (.inl ⟨rfl, .inr ⟨us, hH⟩⟩))
      · exact k1.elim
    cases ht : tyOf h1 v with
    | none => simp only [ev, er, Res.bind, ht] at k; exact k.elim
    | some t =>
      have ht2 : t = .list ∨ t = .dict := by
        simp only [ev, er, Res.bind, ht] at k
        split at k
        · rename_i hm; cases t <;> simp [mthTy] at hm <;> simp
        · exact k.elim
      rcases ht2 with rfl | rfl
      · exact run_mth R1 ho ha hbase hline hes hl hm I (one _ ht q)
      · exact run_mth R2 ho ha hbase hline hes hl hm I (one _ ht q)
  | exc c h1 =>
    refine run_mth R1 ho ha hbase hline hes hl hm I ⟨ρ, aσ, h, S, ?_⟩
    simp only [ev, er] at k
    rw [er]
    exact k
  | bad => simp only [ev, er] at k; exact k.elim
theorem mr_append : MtRule X ca cl.at' E .append .list "append" := ⟨⟨_, PySem.F.plainAttrs_list, PySem.F.slot_list_append, PySem.F.type_list_append, m_append⟩⟩
theorem mr_extend : MtRule X ca cl.at' E .extend .list "extend" := ⟨⟨_, PySem.F.plainAttrs_list, PySem.F.slot_list_extend, PySem.F.type_list_extend, m_extend⟩⟩
theorem mr_insert : MtRule X ca cl.at' E .insert .list "insert" := ⟨⟨_, PySem.F.plainAttrs_list, PySem.F.slot_list_insert, PySem.F.type_list_insert, m_insert⟩⟩
theorem mr_clear : MtRule X ca cl.at' E .clear .list "clear" := ⟨⟨_, PySem.F.plainAttrs_list, PySem.F.slot_list_clear, PySem.F.type_list_clear, m_clear⟩⟩
theorem mr_popL : MtRule X ca cl.at' E .pop .list "pop" := ⟨⟨_, PySem.F.plainAttrs_list, PySem.F.slot_list_pop, PySem.F.type_list_pop, m_popL⟩⟩
theorem mr_get (hu : X.A.units + 1 < cLine) : MtRule X ca cl.at' E .get .dict "get" := ⟨⟨_, PySem.F.plainAttrs_dict, PySem.F.slot_dict_get, PySem.F.type_dict_get, m_get hu⟩⟩
theorem mr_popD (hu : X.A.units + 1 < cLine) : MtRule X ca cl.at' E .pop .dict "pop" := ⟨⟨_, PySem.F.plainAttrs_dict, PySem.F.slot_dict_pop, PySem.F.type_dict_pop, m_popD hu⟩⟩
end
end Rl

set_option Elab.async false
set_option linter.all false
set_option maxRecDepth 100000
set_option autoImplicit false
set_option maxHeartbeats 4000000
/-! Sound8: calls. -/
namespace Rl
open PySem PySem.Spec PyProof.Rows L2
/-- a def's promise by the evaluator -/
def spF (w : World) (K : PySem.W.Frag) (ca : Nm → Addr) (at' : Nm → List Nm) (cf : Cf) (f : Nm) (np : Nat) : Sp := fun vs H Q E => vs.length = np ∧ ∃ ρ h as, RH w K ca at' ρ h H ∧ RAs w K ρ H as vs ∧ KR w K ca at' E (RA w K) (cf f as h) ρ H Q
/-- constants -/
inductive CV : AV → V → Prop
  | non : CV .non .non
  | bl (b : Bool) : CV (.bl b) (.bl b)
  | int (i : Int) : CV (.int i) (.int i)
inductive CVs : List AV → List V → Prop
  | nil : CVs [] []
  | cons {x : AV} {v : V} {xs : List AV} {vs : List V} : CV x v → CVs xs vs → CVs (x :: xs) (v :: vs)
theorem CV.ra {w : World} {K : PySem.W.Frag} {ρ : List Addr} {H : Hp} {x : AV} {v : V} (c : CV x v) : RA w K ρ H x v := by
  cases c with
  | non => exact .non
  | bl b => exact .bl b
  | int i => exact .int i
theorem CVs.ra {w : World} {K : PySem.W.Frag} {ρ : List Addr} {H : Hp} {x : List AV} {v : List V} (c : CVs x v) : RAs w K ρ H x v := by
  induction c with
  | nil => exact .nil
  | cons h _ ih => exact .cons h.ra ih
theorem eval_meth {env : Env} {o : Expr} {m : Str} {apos pos : Pos} {es : List Expr} {kws : List Keyword} (hb : attributeBase o m env (eval o env) = eval o env)
    (hf : methodCallForm (es.length + kws.length) (backTo pos (starEach es env)) (backToKw pos (keywordEach kws env)) = true) (hl : (apos.endLine == pos.line) = true) :
    eval (.Call (.Attribute o m apos) es kws pos) env = (do
      let ov ← eval o env
      standAt apos.atName
      let (f, first) ← holding [ov] (getMethod ov m (do return (← importBound o env).getD true))
      callWith pos f first (backTo pos (starEach es env)) (backToKw pos (keywordEach kws env))) := by
  show (do
    let ov ← attributeBase o m env (eval o env)
    standAt apos.atName
    methodCall o m apos pos env ov (es.length + kws.length) (backTo pos (starEach es env)) (backToKw pos (keywordEach kws env))) = _
  rw [hb]
  unfold methodCall
  rw [hf]
  unfold calleeOf methodCallPos
  simp only [hl, if_true, Bool.not_true, Bool.false_or]
  rfl
section
variable {X : Cx} {ca : Nm → Addr} {cl : Cl} {cf : Cf} {E : XK} {e a b c o : Expr} {es : List Expr} {m ma mb mc mo me src : Rl.E} {p pos apos p2 cpos : Pos}
/-- what is known of a def that may be called -/
structure CallOk (P : Program) (w : World) (K : PySem.W.Frag) (mg : Str → Option Value) (base : Heap) (ca : Nm → Addr) (cl : Cl) (cf : Cf) (CX : CXT) (k : Nat) (f : Nm) (fa : Addr) (fd : FuncData) (ps : List Str) : Prop where
  ok : FnOk P w K mg base CX k fa fd ps (spF w K ca cl.at' cf f ps.length)
  len : ∀ as h, as.length ≠ ps.length → cf f as h = .bad
theorem len_of {CX : CXT} {k : Nat} {f : Nm} {fa : Addr} {fd : FuncData} {ps : List Str} (F : CallOk X.prog X.w X.K X.mg X.base ca cl cf CX k f fa fd ps) {ρ : List Addr} {H : Hp} {as : List AV} {vs : List V} {h : AH} {Q : VK} (r : RAs X.w X.K ρ H as vs) (q : KR X.w X.K ca cl.at' E (RA X.w X.K) (cf f as h) ρ H Q) : vs.length = ps.length := by
  rw [← r.length]
  by_cases e : as.length = ps.length
  · exact e
  · rw [F.len as h e] at q; exact q.elim
theorem p_call {CX : CXT} {k : Nat} {f : Nm} {fa : Addr} {fd : FuncData} {ps : List Str} (F : CallOk X.prog X.w X.K X.mg X.base ca cl cf CX k f fa fd ps) (hr : Room k X.A) (hg : Gl X f.str) (hm : X.mg f.str = some (.ref fa)) (hk : PySem.W.keepIn X.K (.ref fa) = true) (hb : Binds X.K fd ps []) (hx : Passes CX X E)
    (ha : PAI X ca cl cf E es m) (hes : noSt es = true) (hm0 : es = [] → m = .nil) (hdb : (f.str == ("__debug__" : Str)) = false) : PEI X ca cl cf E (.Call (.Name f.str p) es [] pos) (.call f m) := by
  have fin : ∀ σ H Q, tI X.w X.K ca cl cf E (.call f m) σ H Q → tCall (spF X.w X.K ca cl.at' cf f ps.length) [] E (tIs X.w X.K ca cl cf E m) σ H Q := fun σ H Q ⟨ρ, aσ, h, S, q⟩ => by
    simp only [ev] at q
    refine (tIs.bind S q).mono fun xs H1 ⟨ρ1, vs, h1, L1, S1, r1, k1⟩ => ?_
    rw [List.append_nil]
    exact ⟨len_of F r1 k1, ρ1, h1, vs, S1.hp, r1, k1⟩
  cases es with
  | nil =>
    have := hm0 rfl
    subst this
    refine peImp (pe_call0 F.ok hr hg hm hk hb .nil hx hdb) fun σ H Q q => ?_
    obtain ⟨ρ, aσ, h, S, k⟩ := fin σ H Q q
    simp only [evs] at k
    exact k.here S.hp .nil
  | cons e es => exact peImp (pe_call F.ok hr hg hm hk hb .nil hx ha hdb (noSt_cons hes X.env).1 (noSt_any (noSt_cons hes X.env).2)) fin
theorem p_make {CX : CXT} {k : Nat} {c f : Nm} {fa : Addr} {fd : FuncData} {ps : List Str} (hc : cl.init c = some f) (M : Mk X.K (ca c) fa) (C : Cls X.K (ca c)) (na : ∀ f ∈ cl.at' c, NoAttr X.K (ca c) f.str) (nok : NmOk (cl.at' c))
    (F : CallOk X.prog X.w X.K X.mg X.base ca cl cf CX k f fa fd ps) (hr : Room (k + 1) X.A) (hg : Gl X c.str) (hm : X.mg c.str = some (.ref (ca c))) (hb : Binds X.K fd ps []) (hx : Passes CX X E)
    (ha : PAI X ca cl cf E es m) (hes : noSt es = true) (hm0 : es = [] → m = .nil) (hdb : (c.str == ("__debug__" : Str)) = false) : PEI X ca cl cf E (.Call (.Name c.str p) es [] pos) (.make c m) := by
  have fin : ∀ σ H Q, tI X.w X.K ca cl cf E (.make c m) σ H Q → tMake (ca c) (spF X.w X.K ca cl.at' cf f ps.length) [] E (tIs X.w X.K ca cl cf E m) σ H Q := fun σ H Q ⟨ρ, aσ, h, S, q⟩ => by
    simp only [ev, hc] at q
    refine (tIs.bind S q).mono fun xs H1 ⟨ρ1, vs, h1, L1, S1, r1, k1⟩ x dx nx ndx nex => ?_
    rw [List.append_nil]
    have nx' : upd H1 dx (.own x) x = none := by rw [upd_ne (Ne.symm nex)]; exact nx
    have r2 : RH X.w X.K ca cl.at' ρ1 h1 (upd H1 dx (.own x)) := S1.hp.side ndx
    have ro : RO X.w X.K ca cl.at' ρ1 (upd H1 dx (.own x)) (.obj c []) (.ins (ca c) dx []) := .obj C .nil (fun _ z => nomatch z) na nok
    have r3 := r2.new nx' ro
    have L2 : Ltr ρ1 H1 (ρ1 ++ [x]) (upd (upd H1 dx (.own x)) x (.ins (ca c) dx [])) := (Ltr.side ndx).trans (.new r2 nx')
    have ras : RAs X.w X.K (ρ1 ++ [x]) (upd (upd H1 dx (.own x)) x (.ins (ca c) dx [])) (.ref h1.n :: vs) (.ref x :: xs) := .cons (.ref (by rw [← r2.len]; simp)) (r1.ltr L2)
    have k2 := KR.later k1 L2
    -- the call, then None
    have k3 : KR X.w X.K ca cl.at' E (RA X.w X.K) (cf f (.ref h1.n :: vs) (h1.new (.obj c []))) (ρ1 ++ [x]) (upd (upd H1 dx (.own x)) x (.ins (ca c) dx [])) (fun v H2 => v = .non ∧ Q (.ref x) H2) := by
      generalize cf f (.ref h1.n :: vs) (h1.new (.obj c [])) = r at k2
      cases r with
      | bad => exact k2
      | exc c h => exact k2
      | ok v h2 =>
        intro ρ' H' v' L r4 rv
        simp only [Res.bind] at k2
        split at k2
        · exact ⟨rv.non_inv, k2 ρ' H' _ L r4 (.ref (L.pre.get (by rw [← r2.len]; simp)))⟩
        · exact k2.elim
    exact ⟨len_of F ras k3, ρ1 ++ [x], _, _, r3, ras, k3⟩
  cases es with
  | nil =>
    have := hm0 rfl
    subst this
    refine peImp (pe_make0 M F.ok hr hg hm hb .nil hx hdb) fun σ H Q q => ?_
    obtain ⟨ρ, aσ, h, S, k⟩ := fin σ H Q q
    simp only [evs] at k
    exact k.here S.hp .nil
  | cons e es => exact peImp (pe_make M F.ok hr hg hm hb .nil hx ha hdb (noSt_cons hes X.env).1 (noSt_any (noSt_cons hes X.env).2)) fin
/-- what is known of a method -/
structure MethOk (P : Program) (w : World) (K : PySem.W.Frag) (mg : Str → Option Value) (base : Heap) (ca : Nm → Addr) (cl : Cl) (cf : Cf) (CX : CXT) (k : Nat) (c m f : Nm) (fa : Addr) (fd : FuncData) (ps : List Str) : Prop where
  call : CallOk P w K mg base ca cl cf CX k f fa fd ps
  meth : Meth K (ca c) m.str fa
  no : ∀ g ∈ cl.at' c, g.str ≠ m.str
  bind : ∀ ds, ds.isSuffixOf (cl.dfl f) = true → ∃ dv dvs, CVs ds dv ∧ Vals dv dvs ∧ Binds K fd ps dvs
  kw : ∀ mid kn, cl.kw f = some (mid, kn) → ∃ dv dvs, CVs mid dv ∧ Vals dv dvs ∧ ∀ (s : Shared) (us : List Value) (w : Value), K.In s.heap → (us ++ dvs ++ [w]).length = ps.length → BindsTo s fd ⟨us, [(kn.str, w)]⟩ (ps.zip (us ++ dvs ++ [w]))
theorem RF.look_none {w : World} {K : PySem.W.Frag} {ρ : List Addr} {H : Hp} {fs : List (Nm × AV)} {vs : List (Str × V)} (r : RF w K ρ H fs vs) {x : Str} (h : ∀ p ∈ fs, p.1.str ≠ x) : vs.lookup x = none := by
  induction r with
  | nil => rfl
  | @cons g y v fs vs _ _ ih =>
    have ne : (x == g.str) = false := by simpa using fun z => h (g, y) List.mem_cons_self z.symm
    rw [List.lookup_cons, ne]
    exact ih fun p hp => h p (List.mem_cons_of_mem _ hp)
theorem p_meth {CX : CXT} {k : Nat} {m0 : Nm} {ds : List AV} {fa : Nm → Addr} {fd : Nm → FuncData} {ps : Nm → List Str} (FM : ∀ c f, cl.mth c m0 = some f → MethOk X.prog X.w X.K X.mg X.base ca cl cf CX k c m0 f (fa f) (fd f) (ps f)) (hr : Room k X.A) (hx : Passes CX X E)
    (ho : PEI X ca cl cf E o mo) (ha : PAI X ca cl cf E es m) (hbase : attributeBase o m0.str X.env (eval o X.env) = eval o X.env) (hline : (apos.endLine == pos.line) = true) (hes : noSt es = true) (hl : es.length < 30) (hm0 : es = [] → m = .nil) :
    PEI X ca cl cf E (.Call (.Attribute o m0.str apos) es [] pos) (.meth mo m0 m ds) := by
  refine ⟨fun pins s σ H Q I ⟨ρ, aσ, h, S, q⟩ => ?_⟩
  simp only [ev] at q
  have hform : methodCallForm (es.length + ([] : List Keyword).length) (backTo pos (starEach es X.env)) (backToKw pos (keywordEach [] X.env)) = true := by
    unfold methodCallForm
    rw [noSt_all hes]
    simpa [backToKw, keywordEach] using hl
  refine PySem.W.methodCall_KW (thn (ho.run pins s σ H _ I (tI.bind S q)) fun u s1 ⟨x, H1, I1, rx, ρ1, v, h1, L1, S1, r1, k1⟩ => ?_) (eval_meth hbase hform hline)
  split at k1
  · rename_i n
    obtain ⟨p, rfl, hn⟩ := r1.ref_inv
    obtain rfl : u = Value.ref p := rx
    split at k1
    · rename_i c fs hg
      obtain ⟨dx, vs, hH, C, rf, m1, m2, m3⟩ := S1.hp.obj hn hg
      split at k1
      · rename_i f hf
        split at k1
        · rename_i hs
          have F := FM c f hf
          refine getmeth_ok I1 hH C F.meth (rf.look_none fun p hp => F.no _ (m1 p hp)) ?_
          obtain ⟨dv, dvs, cv, rd, hb⟩ := F.bind ds hs
          have fin : ∀ (ρ2 : List Addr) (h2 : AH) (as : List AV) (xs : List V) (us : List Value) (H2 : Hp) (s2 : Shared), L2.Inv X pins σ H2 s2 → Ltr ρ1 H1 ρ2 H2 → RH X.w X.K ca cl.at' ρ2 h2 H2 → RAs X.w X.K ρ2 H2 as xs → Vals xs us →
              KR X.w X.K ca cl.at' E (RA X.w X.K) (cf f (.ref n :: (as ++ ds)) h2) ρ2 H2 Q → wpAny (model X.prog X.w) X.A (call (.ref (fa f)) (.ref p :: us)) (EP X pins σ Q) X.xe s2 := by
            intro ρ2 h2 as xs us H2 s2 I2 L2 r2 ra rv k2
            have ras : RAs X.w X.K ρ2 H2 (.ref n :: (as ++ ds)) (.ref p :: (xs ++ dv)) := .cons ((RA.ref hn).ltr L2) (ra.append cv.ra)
            exact run_fn (us := .ref p :: us) (vs := .ref p :: xs) F.call.ok hr hb rd hx I2 (.cons rfl rv) ⟨len_of F.call ras k2, ρ2, h2, _, r2, ras, k2⟩
          cases es with
          | nil =>
            have := hm0 rfl
            subst this
            simp only [evs, Res.bind] at k1
            refine PySem.W.callWith_K0 (first := [.ref p]) I1.kIn F.meth.kp ?_
            exact fin ρ1 h1 [] [] [] H1 s1 I1 (.refl _ _) S1.hp .nil .nil k1
          | cons e es =>
            refine PySem.W.callWith_K (first := [.ref p]) (h₀ := X.base) I.ok.mod.kin F.meth.kp (thn (ha.run pos pins s1 σ H1 _ I1 (tIs.bind S1 k1)) fun us s2 ⟨xs, H2, I2, rv, ρ2, as, h2, L2, S2, ra, k2⟩ => ⟨I2.kIn, ?_⟩) (noSt_cons hes X.env).1 (noSt_any (noSt_cons hes X.env).2)
            exact fin ρ2 h2 as xs us H2 s2 I2 L2 S2.hp ra rv k2
        · exact k1.elim
      · exact k1.elim
    · exact k1.elim
  · exact k1.elim
theorem p_methK {CX : CXT} {k : Nat} {m0 kn : Nm} {mid : List AV} {kpos : Pos} {fa : Nm → Addr} {fd : Nm → FuncData} {ps : Nm → List Str} (FM : ∀ c f, cl.mth c m0 = some f → MethOk X.prog X.w X.K X.mg X.base ca cl cf CX k c m0 f (fa f) (fd f) (ps f)) (hr : Room k X.A) (hx : Passes CX X E)
    (ho : PEI X ca cl cf E o mo) (ha : PAI X ca cl cf E (e :: es) m) (hk : PEI X ca cl cf E a me) (hbase : attributeBase o m0.str X.env (eval o X.env) = eval o X.env) (hline : (apos.endLine == pos.line) = true) (hes : noSt (e :: es) = true) (hl : (e :: es).length < 27) :
    PEI X ca cl cf E (.Call (.Attribute o m0.str apos) (e :: es) [⟨some kn.str, a, kpos⟩] pos) (.methK mo m0 m mid kn me) := by
  refine ⟨fun pins s σ H Q I ⟨ρ, aσ, h, S, q⟩ => ?_⟩
  simp only [ev] at q
  have hform : methodCallForm ((e :: es).length + ([⟨some kn.str, a, kpos⟩] : List Keyword).length) (backTo pos (starEach (e :: es) X.env)) (backToKw pos (keywordEach [⟨some kn.str, a, kpos⟩] X.env)) = true := by
    unfold methodCallForm
    rw [noSt_all hes]
    simp only [backToKw, keywordEach, List.map_cons, List.map_nil, List.all_cons, List.all_nil, Option.isSome_some, Bool.and_true, Bool.true_and, decide_eq_true_eq, List.length_cons, List.length_nil, List.isEmpty_cons, Bool.false_eq_true, if_false] at hl ⊢
    omega
  have hstar := (noSt_cons hes X.env)
  have hany := noSt_any (env := X.env) (pos := pos) hes
  refine PySem.W.methodCall_KW (thn (ho.run pins s σ H _ I (tI.bind S q)) fun u s1 ⟨x, H1, I1, rx, ρ1, v, h1, L1, S1, r1, k1⟩ => ?_) (eval_meth hbase hform hline)
  split at k1
  · rename_i n
    obtain ⟨p, rfl, hn⟩ := r1.ref_inv
    obtain rfl : u = Value.ref p := rx
    split at k1
    · rename_i c fs hg
      obtain ⟨dx, vs, hH, C, rf, m1, m2, m3⟩ := S1.hp.obj hn hg
      split at k1
      · rename_i f hf
        split at k1
        · rename_i hs
          have F := FM c f hf
          refine getmeth_ok I1 hH C F.meth (rf.look_none fun p hp => F.no _ (m1 p hp)) ?_
          obtain ⟨dv, dvs, cv, rd, hb⟩ := F.kw mid kn hs
          refine PySem.W.callWith_KW (first := [.ref p]) (h₀ := X.base) I.ok.mod.kin F.meth.kp (by rfl) (thn (ha.run pos pins s1 σ H1 _ I1 (tIs.bind S1 k1)) fun us s2 ⟨xs, H2, I2, rv, ρ2, as, h2, L2, S2, ra, k2⟩ => ?_) (by rw [hany]; rfl) hstar.1
          refine thn ((pk_cons (nm := some kn.str) (kpos := kpos) hk pk_nil).run pos pins s2 σ H2 (fun zs H3 => ∃ z, zs = [z] ∧ ∃ ρ3 v h3, Ltr ρ2 H2 ρ3 H3 ∧ SS X.w X.K ca cl.at' ρ3 aσ h3 σ H3 ∧ RA X.w X.K ρ3 H3 v z ∧ KR X.w X.K ca cl.at' E (RA X.w X.K) (cf f (.ref n :: (as ++ mid ++ [v])) h3) ρ3 H3 Q) I2
            ((tI.bind S2 k2).mono fun z H3 hz => ⟨z, rfl, hz⟩)) fun ws s3 ⟨zs, H3, I3, rz, z, ez, ρ3, v, h3, L3, S3, r3, k3⟩ => ⟨I3.kIn, ?_⟩
          subst ez
          obtain ⟨w', rfl, rw'⟩ := rz.one
          have ras : RAs X.w X.K ρ3 H3 (.ref n :: (as ++ mid ++ [v])) (.ref p :: (xs ++ dv ++ [z])) := .cons (((RA.ref hn).ltr L2).ltr L3) (((ra.ltr L3).append cv.ra).append (.cons r3 .nil))
          have hlen := len_of F.call ras k3
          have rvals : Vals (.ref p :: (xs ++ dv ++ [z])) (.ref p :: (us ++ dvs ++ [w'])) := .cons rfl ((rv.append rd).append (.cons rw' .nil))
          have hb' := hb s3 (.ref p :: us) w' I3.kIn (by
            have := rvals.length
            rw [hlen] at this
            simpa using this.symm)
          refine wpAny_call (codeAny_mono (F.call.ok.run X.A X.stack s3 H3 ⟨.ref p :: us, [(kn.str, w')]⟩ (.ref p :: (us ++ dvs ++ [w'])) _ Q E hr I3.env0 hb' rvals ⟨hlen, ρ3, h3, _, S3.hp, ras, k3⟩) fun r s' hq => ?_)
          cases r with
          | error e => exact hx pins σ H3 s3 e s' I3 hq
          | ok fl =>
            cases fl with
            | ret u => exact I3.after hq
            | next => exact False.elim hq
            | brk => exact False.elim hq
            | cont => exact False.elim hq
        · exact k1.elim
      · exact k1.elim
    · exact k1.elim
  · exact k1.elim
end
end Rl

set_option Elab.async false
set_option linter.all false
set_option maxRecDepth 100000
set_option autoImplicit false
set_option maxHeartbeats 4000000
/-! Sound9: targets, comprehensions. -/
namespace Rl
open PySem PySem.Spec PyProof.Rows L2
section
variable {X : Cx} {ca : Nm → Addr} {cl : Cl} {cf : Cf} {E : XK} {pos : Pos}
theorem SS.set {w : World} {K : PySem.W.Frag} {at' : Nm → List Nm} {ρ : List Addr} {aσ : Sl} {h : AH} {σ : St} {H : Hp} (S : SS w K ca at' ρ aσ h σ H) {i : Nat} {x : AV} {v : V} (r : RA w K ρ H x v) : SS w K ca at' ρ (aσ.set i (some x)) h (σ.set i (some v)) H := by
  refine ⟨fun j y e => ?_, by rw [List.length_set, List.length_set, S.len], S.hp⟩
  by_cases hj : i = j
  · subst hj
    by_cases hi : i < aσ.length
    · rw [List.getElem?_set_self hi] at e
      cases e
      exact ⟨v, List.getElem?_set_self (by rw [← S.len]; exact hi), r⟩
    · rw [List.getElem?_eq_none (by simpa using hi)] at e
      cases e
  · rw [List.getElem?_set_ne hj] at e ⊢
    exact S.sl j y e
/-- the slots of a target -/
def tgIs : Tg → List Nat
  | .one i => [i]
  | .tup is => is
/-- the same but at is -/
structure Same (is : List Nat) (σ σ' : St) : Prop where
  len : σ'.length = σ.length
  get : ∀ j, j ∉ is → σ'[j]? = σ[j]?
/-- a target -/
def gT (w : World) (K : PySem.W.Frag) (ca : Nm → Addr) (at' : Nm → List Nm) (t : Tg) : TG := fun v σ H Q => ∃ ρ aσ h x aσ', SS w K ca at' ρ aσ h σ H ∧ RA w K ρ H x v ∧ bindT t x aσ = some aσ' ∧ ∀ σ', SS w K ca at' ρ aσ' h σ' H → Same (tgIs t) σ σ' → Q σ' H
def gTs (w : World) (K : PySem.W.Frag) (ca : Nm → Addr) (at' : Nm → List Nm) (is : List Nat) : TGs := fun vs σ H Q => ∃ ρ aσ h xs aσ', SS w K ca at' ρ aσ h σ H ∧ RAs w K ρ H xs vs ∧ bindTs is xs aσ = some aσ' ∧ ∀ σ', SS w K ca at' ρ aσ' h σ' H → Same is σ σ' → Q σ' H
theorem pgImp {tg : Expr} {t t' : TG} (h : PG X tg t) (i : ∀ v σ H Q, t' v σ H Q → t v σ H Q) : PG X tg t' := ⟨fun pins s σ H v u Q I r q => h.run pins s σ H v u Q I r (i _ _ _ _ q)⟩
theorem pgsImp {tg : List Expr} {t t' : TGs} (h : PGs X tg t) (i : ∀ v σ H Q, t' v σ H Q → t v σ H Q) : PGs X tg t' := ⟨fun pins s σ H v u Q I r q => h.run pins s σ H v u Q I r (i _ _ _ _ q)⟩
theorem g_one {i : Nat} {x : Str} (hN : X.N.Nodup) (hi : X.N[i]? = some x) (hx : Loc X.env.scope x) (hf : X.fn x = true ∨ X.env.scope.names.lookup x = some .local) : PG X (.Name x pos) (gT X.w X.K ca cl.at' (.one i)) := by
  refine pgImp (pg_name hN hi hx hf) fun v σ H Q ⟨ρ, aσ, h, x, aσ', S, r, e, q⟩ => ?_
  simp only [bindT] at e
  split at e
  · cases e; exact q _ (S.set r) ⟨List.length_set, fun j hj => List.getElem?_set_ne (by simpa [tgIs, eq_comm] using hj)⟩
  · cases e
/-- the names of a target -/
def tgNames (N : List Str) (ok : Str → Bool) : List Expr → List Nat → Bool
  | [], [] => true
  | .Name x _ :: es, i :: is => decide (N[i]? = some x) && ok x && tgNames N ok es is
  | _, _ => false
theorem g_many {ok : Str → Bool} (hN : X.N.Nodup) (hok : ∀ x, ok x = true → Loc X.env.scope x ∧ (X.fn x = true ∨ X.env.scope.names.lookup x = some .local)) : ∀ {es : List Expr} {is : List Nat}, tgNames X.N ok es is = true →
    PGs X es (gTs X.w X.K ca cl.at' is) ∧ (assignEach es X.env).length = is.length ∧ (assignEach es X.env).findIdx? (·.1) = none
  | [], [], _ => ⟨pgsImp pgs_nil fun vs σ H Q ⟨ρ, aσ, h, xs, aσ', S, r, e, q⟩ => by
      cases r with
      | nil => simp only [bindTs] at e; cases e; exact ⟨rfl, q _ S ⟨rfl, fun _ _ => rfl⟩⟩
      | cons _ _ => simp [bindTs] at e, rfl, rfl⟩
  | .Name x p :: es, i :: is, hh => by
    simp only [tgNames, Bool.and_eq_true, decide_eq_true_eq] at hh
    obtain ⟨⟨h1, h2⟩, h3⟩ := hh
    obtain ⟨l1, l2⟩ := hok x h2
    obtain ⟨g1, g2, g3⟩ := g_many hN hok h3
    refine ⟨pgsImp (pgs_cons (g_one (ca := ca) (cl := cl) hN h1 l1 l2) g1 rfl) fun vs σ H Q ⟨ρ, aσ, h, xs, aσ', S, r, e, q⟩ => ?_, ?_, ?_⟩
    · cases r with
      | nil => simp [bindTs] at e
      | @cons y v ys vs ry rys =>
        simp only [bindTs] at e
        split at e
        · rename_i hi
          refine ⟨v, vs, rfl, ρ, aσ, h, y, aσ.set i (some y), S, ry, by simp [bindT, hi], fun σ1 S1 m1 => ⟨ρ, _, h, ys, aσ', S1, rys, e, fun σ2 S2 m2 => q σ2 S2 ⟨m2.len.trans m1.len, fun j hj => (m2.get j fun z => hj (List.mem_cons_of_mem _ z)).trans (m1.get j fun z => hj (by simp [tgIs] at z; simp [z]))⟩⟩⟩
        · cases e
    · show (assignEach es X.env).length + 1 = is.length + 1
      rw [g2]
    · show List.findIdx? (·.1) ((false, assign (.Name x p) X.env) :: assignEach es X.env) = none
      rw [List.findIdx?_cons]
      simp [g3]
  | [], _ :: _, h => by simp [tgNames] at h
  | .Name _ _ :: _, [], h => by simp [tgNames] at h
  | .BoolOp .. :: _, _, h => by simp [tgNames] at h
  | .NamedExpr .. :: _, _, h => by simp [tgNames] at h
  | .BinOp .. :: _, _, h => by simp [tgNames] at h
  | .UnaryOp .. :: _, _, h => by simp [tgNames] at h
  | .Lambda .. :: _, _, h => by simp [tgNames] at h
  | .IfExp .. :: _, _, h => by simp [tgNames] at h
  | .Dict .. :: _, _, h => by simp [tgNames] at h
  | .Set .. :: _, _, h => by simp [tgNames] at h
  | .ListComp .. :: _, _, h => by simp [tgNames] at h
  | .SetComp .. :: _, _, h => by simp [tgNames] at h
  | .DictComp .. :: _, _, h => by simp [tgNames] at h
  | .GeneratorExp .. :: _, _, h => by simp [tgNames] at h
  | .Await .. :: _, _, h => by simp [tgNames] at h
  | .Yield .. :: _, _, h => by simp [tgNames] at h
  | .YieldFrom .. :: _, _, h => by simp [tgNames] at h
  | .Compare .. :: _, _, h => by simp [tgNames] at h
  | .Call .. :: _, _, h => by simp [tgNames] at h
  | .FormattedValue .. :: _, _, h => by simp [tgNames] at h
  | .JoinedStr .. :: _, _, h => by simp [tgNames] at h
  | .Constant .. :: _, _, h => by simp [tgNames] at h
  | .Attribute .. :: _, _, h => by simp [tgNames] at h
  | .Subscript .. :: _, _, h => by simp [tgNames] at h
  | .Starred .. :: _, _, h => by simp [tgNames] at h
  | .List .. :: _, _, h => by simp [tgNames] at h
  | .Tuple .. :: _, _, h => by simp [tgNames] at h
  | .Slice .. :: _, _, h => by simp [tgNames] at h
theorem g_tup {ok : Str → Bool} {k : Nat} {es : List Expr} {is : List Nat} (hc : X.calm = true) (hN : X.N.Nodup) (hok : ∀ x, ok x = true → Loc X.env.scope x ∧ (X.fn x = true ∨ X.env.scope.names.lookup x = some .local)) (h : tgNames X.N ok es is = true) :
    PG X (.Tuple es k pos) (gT X.w X.K ca cl.at' (.tup is)) := by
  obtain ⟨g1, g2, g3⟩ := g_many (ca := ca) (cl := cl) hN hok h
  refine pgImp (pg_tup (n := is.length) hc g1 g2 g3) fun v σ H Q ⟨ρ, aσ, h, x, aσ', S, r, e, q⟩ => ?_
  simp only [bindT] at e
  split at e
  · rename_i vs
    obtain ⟨t, us, rfl, ht, rl⟩ := r.tup_inv
    have hlen : ∀ (is : List Nat) (vs : List AV) (aσ aσ' : Sl), bindTs is vs aσ = some aσ' → vs.length = is.length := by
      intro is
      induction is with
      | nil => intro vs aσ aσ' e; cases vs with
        | nil => rfl
        | cons _ _ => simp [bindTs] at e
      | cons i is ih => intro vs aσ aσ' e; cases vs with
        | nil => simp [bindTs] at e
        | cons v vs =>
          simp only [bindTs] at e
          split at e
          · simp [ih _ _ _ e]
          · cases e
    exact ⟨t, us, rfl, SqT.of ht, by rw [← rl.length]; exact hlen _ _ _ _ e, ρ, aσ, _, vs, aσ', S, rl, e, q⟩
  · cases e
end
section
variable {w : World} {K : PySem.W.Frag} {ca : Nm → Addr} {at' : Nm → List Nm} {ρ ρ0 : List Addr} {H H0 : Hp} {h : AH} {D : Addr}
/-- a list beside the own heap grows -/
theorem Ltr.off {u : HO} {vs : List V} (L : Ltr ρ0 H0 ρ H) (h0 : H0 D = none) (hD : H D = some (.lst vs)) : Ltr ρ0 H0 ρ (upd H D u) :=
  ⟨L.pre, ⟨fun b xs e => by
      have := L.keep.tup b xs e
      rw [upd_ne (ne_of this hD (by intro z; cases z))]; exact this,
    fun b o u e => by
      have := L.keep.frz b o u e
      rw [upd_ne (ne_of this hD (by intro z; cases z))]; exact this⟩,
    fun b o e n => by
      obtain ⟨h1, h2⟩ := L.fr b o e n
      exact ⟨by rw [upd_ne (ne_of_none e h0)]; exact h1, h2⟩⟩
theorem Ltr.offs {u : HO} {vs : List V} (hD : H D = some (.lst vs)) {x : AV} {v : V} (r : RA w K ρ H x v) : RA w K ρ (upd H D u) x v := by
  have kp : Keep H (upd H D u) := .mt hD trivial
  -- only what stays is asked
  have : ∀ {x : AV} {v : V}, RA w K ρ H x v → RA w K ρ (upd H D u) x v := by
    intro x v r
    exact RA.rec (motive_1 := fun x v _ => RA w K ρ (upd H D u) x v) (motive_2 := fun x v _ => RAs w K ρ (upd H D u) x v) .non (fun b => .bl b) (fun i => .int i) (fun s => .str s) (fun h => .ref h) (fun h _ ih => .tup (kp.tup _ _ h) ih) (fun h => .kd h)
      (fun h _ ih => .rl (by rcases h with ⟨o, h⟩ | h; exact .inl ⟨o, kp.frz _ _ _ h⟩; exact .inr h) ih) .nil (fun _ _ a b => .cons a b) r
  exact this r
theorem RAs.off {u : HO} {vs0 : List V} (hD : H D = some (.lst vs0)) : ∀ {xs : List AV} {vs : List V}, RAs w K ρ H xs vs → RAs w K ρ (upd H D u) xs vs
  | _, _, .nil => .nil
  | _, _, .cons a b => .cons (Ltr.offs hD a) (RAs.off hD b)
theorem RO.off {u : HO} {vs0 : List V} (hD : H D = some (.lst vs0)) {o : O} {v : HO} (r : RO w K ca at' ρ H o v) : RO w K ca at' ρ (upd H D u) o v := by
  have kv : ∀ {κ : Type} {key : AV → Option κ} {kvs : List (AV × AV)} {vs : List (κ × V)}, RKV key w K ρ H kvs vs → RKV key w K ρ (upd H D u) kvs vs := by
    intro κ key kvs vs r
    induction r with
    | nil => exact .nil
    | cons a b _ ih => exact .cons a (Ltr.offs hD b) ih
  have kf : ∀ {kvs : List (Nm × AV)} {vs : List (Str × V)}, RF w K ρ H kvs vs → RF w K ρ (upd H D u) kvs vs := by
    intro kvs vs r
    induction r with
    | nil => exact .nil
    | cons b _ ih => exact .cons (Ltr.offs hD b) ih
  cases r with
  | lst r => exact .lst (r.off hD)
  | dK r => exact .dK (kv r)
  | dT r => exact .dT (kv r)
  | obj a b c d e => exact .obj a (kf b) c d e
theorem RH.off {u : HO} {vs : List V} (r : RH w K ca at' ρ h H) (hD : H D = some (.lst vs)) (hn : D ∉ ρ) : RH w K ca at' ρ h (upd H D u) :=
  ⟨r.len, fun n b e => by rw [upd_ne (fun z => hn (by rw [← z]; exact List.mem_of_getElem? e))]; exact r.mt n b e, r.inj,
    fun n o e => let ⟨b, v, h1, h2, h3⟩ := r.ob n o e; ⟨b, v, h1, by rw [upd_ne (fun z => hn (by rw [← z]; exact List.mem_of_getElem? h1))]; exact h2, h3.off hD⟩⟩
/-- the list joins the own heap -/
theorem RA.wide {ρ' : List Addr} (p : Pre ρ ρ') {x : AV} {v : V} (r : RA w K ρ H x v) : RA w K ρ' H x v :=
  RA.rec (motive_1 := fun x v _ => RA w K ρ' H x v) (motive_2 := fun x v _ => RAs w K ρ' H x v) .non (fun b => .bl b) (fun i => .int i) (fun s => .str s) (fun h => .ref (p.get h)) (fun h _ ih => .tup h ih) (fun h => .kd h)
      (fun h _ ih => .rl h ih) .nil (fun _ _ a b => .cons a b) r
theorem RAs.wide {ρ' : List Addr} (p : Pre ρ ρ') : ∀ {xs : List AV} {vs : List V}, RAs w K ρ H xs vs → RAs w K ρ' H xs vs
  | _, _, .nil => .nil
  | _, _, .cons a b => .cons (a.wide p) (RAs.wide p b)
theorem RO.wide {ρ' : List Addr} (p : Pre ρ ρ') {o : O} {v : HO} (r : RO w K ca at' ρ H o v) : RO w K ca at' ρ' H o v := by
  have kv : ∀ {κ : Type} {key : AV → Option κ} {kvs : List (AV × AV)} {vs : List (κ × V)}, RKV key w K ρ H kvs vs → RKV key w K ρ' H kvs vs := by
    intro κ key kvs vs r
    induction r with
    | nil => exact .nil
    | cons a b _ ih => exact .cons a (b.wide p) ih
  have kf : ∀ {kvs : List (Nm × AV)} {vs : List (Str × V)}, RF w K ρ H kvs vs → RF w K ρ' H kvs vs := by
    intro kvs vs r
    induction r with
    | nil => exact .nil
    | cons b _ ih => exact .cons (b.wide p) ih
  cases r with
  | lst r => exact .lst (r.wide p)
  | dK r => exact .dK (kv r)
  | dT r => exact .dT (kv r)
  | obj a b c d e => exact .obj a (kf b) c d e
theorem RH.join {vs : List V} {xs : List AV} (r : RH w K ca at' ρ h H) (hD : H D = some (.lst vs)) (hn : D ∉ ρ) (rl : RAs w K ρ H xs vs) : RH w K ca at' (ρ ++ [D]) (h.new (.lst xs)) H := by
  have p : Pre ρ (ρ ++ [D]) := List.prefix_append _ _
  have old : ∀ {n : Nat} {a : Addr}, n < ρ.length → (ρ ++ [D])[n]? = some a → ρ[n]? = some a := fun {n a} hn e => by rwa [List.getElem?_append_left hn] at e
  have nw : ∀ {n : Nat} {a : Addr}, ¬ n < ρ.length → (ρ ++ [D])[n]? = some a → n = ρ.length ∧ a = D := fun {n a} hn e => by
    rw [List.getElem?_append_right (by omega)] at e
    have : n - ρ.length = 0 := by
      rcases Nat.eq_zero_or_pos (n - ρ.length) with z | z
      · exact z
      · rw [List.getElem?_eq_none (by simp; omega)] at e; cases e
    rw [this] at e
    simp at e
    exact ⟨by omega, e.symm⟩
  refine ⟨by simp [AH.new, r.len], fun n a e => ?_, fun n m a e1 e2 => ?_, fun n o' e => ?_⟩
  · by_cases hl : n < ρ.length
    · exact r.mt n a (old hl e)
    · obtain ⟨_, rfl⟩ := nw hl e
      exact ⟨_, hD, trivial⟩
  · by_cases h1 : n < ρ.length <;> by_cases h2 : m < ρ.length
    · exact r.inj n m a (old h1 e1) (old h2 e2)
    · obtain ⟨_, rfl⟩ := nw h2 e2
      exact absurd (List.mem_of_getElem? (old h1 e1)) hn
    · obtain ⟨_, rfl⟩ := nw h1 e1
      exact absurd (List.mem_of_getElem? (old h2 e2)) hn
    · rw [(nw h1 e1).1, (nw h2 e2).1]
  · by_cases hl : n = h.n
    · subst hl
      simp only [AH.new, if_pos rfl] at e
      cases e
      exact ⟨D, _, by rw [← r.len]; simp, hD, .lst (rl.wide p)⟩
    · simp only [AH.new, if_neg hl] at e
      obtain ⟨a, u', h1, h2, h3⟩ := r.ob n o' e
      exact ⟨a, u', p.get h1, h2, h3.wide p⟩
/-- the slots of the block's own names -/
theorem wipe_get (σ : St) (i : Nat) : ∀ vs : List Nat, (wipe σ vs)[i]? = if i ∈ vs then (σ[i]?).map fun _ => none else σ[i]?
  | [] => by simp [wipe]
  | v :: vs => by
    unfold wipe
    rw [List.getElem?_set, wipe_length, wipe_get σ i vs]
    by_cases e : v = i
    · subst e
      by_cases hl : v < σ.length
      · simp [hl]
      · simp [hl, List.getElem?_eq_none (show σ.length ≤ v by omega)]
    · have : i ≠ v := fun z => e z.symm
      simp [e, this]
theorem wipe_set (σ : St) {i : Nat} {v : Option V} {vs : List Nat} (h : i ∈ vs) : wipe (σ.set i v) vs = wipe σ vs := by
  apply List.ext_getElem?
  intro j
  rw [wipe_get, wipe_get]
  by_cases hj : j ∈ vs
  · rw [if_pos hj, if_pos hj, List.getElem?_set]
    split
    · rename_i e
      subst e
      split
      · rename_i hl; simp [hl]
      · rename_i hl; simp [List.getElem?_eq_none (show σ.length ≤ i by omega)]
    · rfl
  · rw [if_neg hj, if_neg hj, List.getElem?_set_ne (fun e => hj (by rw [← e]; exact h))]
end
end Rl

set_option Elab.async false
set_option linter.all false
set_option maxRecDepth 100000
set_option autoImplicit false
set_option maxHeartbeats 4000000
/-! Sound10: comprehensions. -/
namespace Rl
open PySem PySem.Spec PyProof.Rows L2
/-- nothing is let out -/
abbrev EN : XK := fun _ _ _ => False
theorem Res.calm_bind {α β : Type} (r : Res α) (f : α → AH → Res β) : (r.bind f).calm = r.calm.bind fun v h => (f v h).calm := by cases r <;> rfl
section
variable {w : World} {K : PySem.W.Frag} {ca : Nm → Addr} {cl : Cl} {cf : Cf} {E : XK} {σ : St} {H : Hp} {ρ : List Addr} {aσ : Sl} {h : AH}
theorem tI.bindC {e : Rl.E} {γ δ : Type} {R2 : List Addr → Hp → γ → δ → Prop} {k : AV → AH → Res γ} {ρ0 : List Addr} {H0 : Hp} {Q : δ → Hp → Prop} (S : SS w K ca cl.at' ρ aσ h σ H)
    (q : KR w K ca cl.at' E R2 ((ev cl cf e aσ h).calm.bind k) ρ0 H0 Q) :
    tI w K ca cl cf EN e σ H (fun v' H1 => ∃ ρ1 v h1, Ltr ρ H ρ1 H1 ∧ SS w K ca cl.at' ρ1 aσ h1 σ H1 ∧ RA w K ρ1 H1 v v' ∧ KR w K ca cl.at' E R2 (k v h1) ρ0 H0 Q) := by
  refine ⟨ρ, aσ, h, S, ?_⟩
  generalize ev cl cf e aσ h = r at q
  cases r with
  | bad => exact q
  | exc c h1 => exact q.elim
  | ok v h1 => exact fun ρ' H' v' L r1 r2 => ⟨ρ', v, h1, L, S.later L r1, r2, q⟩
theorem tIT.bindC {e : Rl.E} {γ δ : Type} {R2 : List Addr → Hp → γ → δ → Prop} {k : AV → AH → Res γ} {ρ0 : List Addr} {H0 : Hp} {Q : δ → Hp → Prop} (S : SS w K ca cl.at' ρ aσ h σ H)
    (hk : ∀ v h, (∀ b, v ≠ .bl b) → k v h = .bad) (q : KR w K ca cl.at' E R2 ((ev cl cf e aσ h).calm.bind k) ρ0 H0 Q) :
    tIT w K ca cl cf EN e σ H (fun b H1 => ∃ ρ1 h1, Ltr ρ H ρ1 H1 ∧ SS w K ca cl.at' ρ1 aσ h1 σ H1 ∧ KR w K ca cl.at' E R2 (k (.bl b) h1) ρ0 H0 Q) := by
  refine ⟨ρ, aσ, h, S, ?_⟩
  generalize ev cl cf e aσ h = r at q
  cases r with
  | bad => exact q
  | exc c h1 => exact q.elim
  | ok v h1 =>
    simp only [Res.calm, Res.bind] at q
    cases v with
    | bl b =>
      intro ρ1 H1 b' L r1 r2
      cases r2
      exact ⟨ρ1, h1, L, S.later L r1, q⟩
    | _ =>
      rw [hk _ _ (by intro b z; cases z)] at q
      exact q
theorem bindTs_eq : ∀ (is : List Nat) (xs : List AV) (a b : Sl), a.length = b.length → (∀ j, j ∉ is → a[j]? = b[j]?) → bindTs is xs a = bindTs is xs b
  | [], [], a, b, hl, hj => by
    simp only [bindTs]
    rw [List.ext_getElem? fun j => hj j (by simp)]
  | [], _ :: _, _, _, _, _ => rfl
  | _ :: _, [], _, _, _, _ => rfl
  | i :: is, x :: xs, a, b, hl, hj => by
    simp only [bindTs, hl]
    split
    · rename_i hi
      refine bindTs_eq is xs _ _ (by simp [hl]) fun j h => ?_
      by_cases e : i = j
      · subst e
        rw [List.getElem?_set_self (by omega), List.getElem?_set_self hi]
      · rw [List.getElem?_set_ne e, List.getElem?_set_ne e]
        exact hj j (by simp only [List.mem_cons, not_or]; exact ⟨fun z => e z.symm, h⟩)
    · rfl
theorem bindT_eq {t : Tg} {x : AV} {a b : Sl} (hl : a.length = b.length) (hj : ∀ j, j ∉ tgIs t → a[j]? = b[j]?) : bindT t x a = bindT t x b := by
  cases t with
  | one i =>
    have := bindTs_eq [i] [x] a b hl hj
    simpa [bindTs, bindT] using this
  | tup is =>
    cases x with
    | tup l => exact bindTs_eq is l a b hl hj
    | _ => rfl
/-- the own slots of a block forgotten -/
def wipeA (aσ : Sl) (is : List Nat) : Sl := aσ.mapIdx fun j v => if j ∈ is then none else v
theorem wipeA_get (aσ : Sl) (is : List Nat) (j : Nat) : (wipeA aσ is)[j]? = if j ∈ is then (aσ[j]?).map fun _ => none else aσ[j]? := by
  unfold wipeA
  rw [List.getElem?_mapIdx]
  split
  · rename_i h; simp [h]
  · rename_i h; simp [h]
theorem SS.wipe {is : List Nat} (S : SS w K ca cl.at' ρ aσ h σ H) : SS w K ca cl.at' ρ (wipeA aσ is) h (L2.wipe σ is) H := by
  refine ⟨fun i v e => ?_, by rw [wipe_length]; simp [wipeA, S.len], S.hp⟩
  rw [wipeA_get] at e
  rw [wipe_get]
  split at e
  · simp at e
  · rename_i hi
    rw [if_neg hi]
    exact S.sl i v e
theorem same_wipe {is : List Nat} {σ σ2 : St} (m : Same is (L2.wipe σ is) σ2) : L2.wipe σ2 is = L2.wipe σ is := by
  apply List.ext_getElem?
  intro j
  rw [wipe_get]
  by_cases hj : j ∈ is
  · rw [if_pos hj, wipe_get, if_pos hj]
    have := m.len
    rw [wipe_length] at this
    by_cases hl : j < σ.length
    · simp [hl, this]
    · rw [List.getElem?_eq_none (by omega), List.getElem?_eq_none (by omega)]
  · rw [if_neg hj, m.get j hj]
end
section
variable {X : Cx} {ca : Nm → Addr} {cl : Cl} {cf : Cf} {E : XK}
theorem lc_imp {t : Tg} {k : Ik} {src mc me : Rl.E} {own : List (Str × Nat)} {σ : St} {H : Hp} {Q : VK} (ho : own.map (·.2) = tgIs t) (q : tI X.w X.K ca cl cf E (.comp t k src mc me) σ H Q) :
    tLc (iW X.w X.K ca cl cf E k src) (gT X.w X.K ca cl.at' t) (tIT X.w X.K ca cl cf EN mc) (tI X.w X.K ca cl cf EN me) (own.map (·.2)) σ H Q := by
  obtain ⟨ρ, aσ, h, S, kr⟩ := q
  rw [ho]
  simp only [ev] at kr
  refine ⟨ρ, aσ, h, S, ?_⟩
  cases er : evs cl cf src aσ h with
  | bad => rw [er] at kr; exact kr.elim
  | exc c h1 => rw [er] at kr; exact kr
  | ok vs h1 =>
  rw [er] at kr
  simp only [Res.bind, KRI] at kr ⊢
  cases ew : walk k vs h1 with
  | none => rw [ew] at kr; exact kr.elim
  | some p =>
  obtain ⟨xs, g⟩ := p
  rw [ew] at kr
  simp only at kr
  intro ρ' H' J L0 rh0 W D hD
  have S0 : SS X.w X.K ca cl.at' ρ' aσ h1 σ H' := S.later L0 rh0
  have kr := kr.later L0
  have D0 : D ∉ ρ' := fun z => by
    obtain ⟨n, hn⟩ := List.getElem?_of_mem z
    exact rh0.fresh hD hn
  refine ⟨fun i m H => m = xs.length - i ∧ i ≤ xs.length ∧ ∃ ρ1 h acc vacc, Ltr ρ' H' ρ1 H ∧ RH X.w X.K ca cl.at' ρ1 h H ∧ H D = some (.lst vacc) ∧ D ∉ ρ1 ∧ RAs X.w X.K ρ1 H acc vacc ∧
      KR X.w X.K ca cl.at' E (RA X.w X.K) ((compLoop t g (fun σ h => ev cl cf mc σ h) (fun σ h => ev cl cf me σ h) (xs.drop i) acc aσ h).calm.bind fun l h2 => .ok (.ref h2.n) (h2.new (.lst l))) ρ' H' Q,
    ⟨xs.length, by simp, Nat.zero_le _, ρ', h1, [], [], .side hD, rh0.side hD, upd_same, D0, .nil, kr⟩, ?_⟩
  rintro i m H2 ⟨rfl, hi', ρ1, h2, acc, vacc, L1, rh1, hD1, nD1, ra, kr1⟩
  by_cases hlt : i < xs.length
  · have hx : xs[i]? = some xs[i] := by simp [hlt]
    rw [List.drop_eq_getElem_cons hlt, compLoop] at kr1
    split at kr1
    case isFalse => exact kr1.elim
    rename_i hgd
    split at kr1
    case h_2 => exact kr1.elim
    rename_i a1 hb
    obtain ⟨⟨w1, w2⟩, -⟩ : (J.go i H2 ∧ _) ∧ _ := ⟨(W i ρ1 H2 h2 L1 rh1 hgd).1 _ hx, trivial⟩
    refine .inr ⟨w1, fun H3 => (xs.length - (i + 1) = xs.length - (i + 1) ∧ i + 1 ≤ xs.length ∧ _), fun H3 nx => ⟨xs.length - (i + 1), by omega, nx⟩, fun x H3 y => ?_⟩
    obtain ⟨L3, rh3, rx⟩ := w2 x H3 y
    have S3 : SS X.w X.K ca cl.at' ρ1 (wipeA aσ (tgIs t)) h2 (L2.wipe σ (tgIs t)) H3 := (S0.later (L1.trans L3) rh3).wipe
    refine ⟨ρ1, _, h2, _, a1, S3, rx, ?_, fun σ4 S4 sm => ⟨same_wipe sm, ?_⟩⟩
    · rw [← hb]
      exact bindT_eq (by simp [wipeA]) fun j hj => by rw [wipeA_get, if_neg hj]
    rw [Res.calm_bind, Res.bind_assoc] at kr1
    refine (tIT.bindC S4 (fun v h nb => ?_) kr1).mono fun b H5 ⟨ρ5, h5, L5, S5, kr5⟩ => ?_
    · cases v <;> first | rfl | exact (nb _ rfl).elim
    have LL5 : Ltr ρ1 H2 ρ5 H5 := L3.trans L5
    obtain ⟨hD5, nD5⟩ := LL5.fr D _ hD1 nD1
    cases b with
    | false =>
      rw [if_neg (by simp)]
      exact ⟨rfl, hlt, ρ5, h5, acc, vacc, L1.trans LL5, S5.hp, hD5, nD5, ra.ltr LL5, kr5⟩
    | true =>
      rw [if_pos rfl]
      simp only at kr5
      rw [Res.calm_bind, Res.bind_assoc] at kr5
      refine (tI.bindC S5 kr5).mono fun v H6 ⟨ρ6, v6, h6, L6, S6, r6, kr6⟩ => ?_
      have LL6 : Ltr ρ1 H2 ρ6 H6 := LL5.trans L6
      obtain ⟨hD6, nD6⟩ := LL6.fr D _ hD1 nD1
      split at kr6
      case isFalse => exact kr6.elim
      rename_i hlen
      refine ⟨vacc, hD6, by rw [← lim_eq, ← ra.length]; exact hlen, rfl, hlt, ρ6, h6, acc ++ [v6], vacc ++ [v], (L1.trans LL6).off hD hD6, S6.hp.off hD6 nD6, upd_same, nD6, ((ra.ltr LL6).append (.cons r6 .nil)).off hD6, kr6⟩
  · have e : i = xs.length := by omega
    subst e
    rw [List.drop_length, compLoop] at kr1
    split at kr1
    case isFalse => exact kr1.elim
    rename_i hgd
    refine .inl ⟨(W _ ρ1 H2 h2 L1 rh1 hgd).2 rfl, ?_⟩
    refine kr1 (ρ1 ++ [D]) H2 (.ref D) ⟨L1.pre.trans (List.prefix_append _ _), L1.keep, fun b o e n => ?_⟩ (rh1.join hD1 nD1 ra) (.ref (by rw [← rh1.len]; simp))
    obtain ⟨z1, z2⟩ := L1.fr b o e n
    exact ⟨z1, by simp [z2, ne_of_none e hD]⟩
theorem p_comp {t : Tg} {k : Ik} {src mc me : Rl.E} {elt tg iter : Expr} {ifs : List Expr} {scope : Scope} {own : List (Str × Nat)} {pos : Pos} (hc : X.calm = true) (hN : X.N.Nodup)
    (hi : PI X tg iter (iW X.w X.K ca cl cf E k src)) (ok : BlkOk X.N X.env.scope scope own) (ho : own.map (·.2) = tgIs t)
    (hg : ∀ (s : Shared) (H : Hp) (C : Addr) (cs : List (Str × Addr)) (fp : List Addr), PG (X.blk s H scope (compEnvC scope cs C X.env) fp) tg (gT X.w X.K ca cl.at' t))
    (ht : ∀ (s : Shared) (H : Hp) (C : Addr) (cs : List (Str × Addr)) (fp : List Addr), PTs (X.blk s H scope (compEnvC scope cs C X.env) fp) ifs (tIT X.w X.K ca cl cf EN mc))
    (he : ∀ (s : Shared) (H : Hp) (C : Addr) (cs : List (Str × Addr)) (fp : List Addr), PE (X.blk s H scope (compEnvC scope cs C X.env) fp) elt (tI X.w X.K ca cl cf EN me)) (hs : ∀ x, foldedSetIterable iter X.env x = pure x) :
    PEI X ca cl cf E (.ListComp elt [⟨tg, iter, ifs, 0⟩] scope pos) (.comp t k src mc me) :=
  peImp (pe_lc hc hN hi ok hg ht he hs) fun σ H Q q => lc_imp ho q
theorem pts_none {mc : Rl.E} (hm : mc = .bl true) : PTs X [] (tIT X.w X.K ca cl cf E mc) := by
  subst hm
  exact ⟨fun pins s σ H Q I ⟨ρ, aσ, h, S, k⟩ => pts_nil.run pins s σ H Q I (KR.here (R := RB) k S.hp rfl)⟩
end
end Rl

set_option Elab.async false
set_option linter.all false
set_option maxRecDepth 100000
set_option autoImplicit false
set_option maxHeartbeats 4000000
/-! Sound11: statements. -/
namespace Rl
open PySem PySem.Spec PyProof.Rows L2
section
variable {w : World} {K : PySem.W.Frag} {ca : Nm → Addr} {cl : Cl} {cf : Cf} {E : XK}
/-- what is wanted behind a statement -/
def KS (w : World) (K : PySem.W.Frag) (ca : Nm → Addr) (at' : Nm → List Nm) (E : XK) (r : SR) (ρ : List Addr) (H : Hp) (D : Ends) : Prop :=
  match r with
  | .nx aσ h => ∀ ρ' H' σ', Ltr ρ H ρ' H' → SS w K ca at' ρ' aσ h σ' H' → D.nx σ' H'
  | .rt v h => ∀ ρ' H' v', Ltr ρ H ρ' H' → RH w K ca at' ρ' h H' → RA w K ρ' H' v v' → D.rt v' H'
  | .exc c h => ∀ ρ' H', Ltr ρ H ρ' H' → RH w K ca at' ρ' h H' → E (.ref (ca c)) none H'
  | .bad => False
theorem KS.later {r : SR} {ρ ρ' : List Addr} {H H' : Hp} {D : Ends} (k : KS w K ca cl.at' E r ρ H D) (L : Ltr ρ H ρ' H') : KS w K ca cl.at' E r ρ' H' D := by
  cases r with
  | nx a h => exact fun ρ2 H2 v' L2 r1 => k ρ2 H2 v' (L.trans L2) r1
  | rt v h => exact fun ρ2 H2 v' L2 r1 r2 => k ρ2 H2 v' (L.trans L2) r1 r2
  | exc c h1 => exact fun ρ2 H2 L2 r1 => k ρ2 H2 (L.trans L2) r1
  | bad => exact k
theorem KS.ends {r : SR} {ρ : List Addr} {H : Hp} {D D' : Ends} (k : KS w K ca cl.at' E r ρ H D) (h1 : D.nx = D'.nx) (h2 : D.rt = D'.rt) : KS w K ca cl.at' E r ρ H D' := by
  cases r with
  | nx a h => exact fun ρ2 H2 v' L2 r1 => by rw [← h1]; exact k ρ2 H2 v' L2 r1
  | rt v h => exact fun ρ2 H2 v' L2 r1 r2 => by rw [← h2]; exact k ρ2 H2 v' L2 r1 r2
  | exc c h1 => exact k
  | bad => exact k
theorem KS.bind {r : SR} {k : Sl → AH → SR} {ρ : List Addr} {H : Hp} {D : Ends} (h : KS w K ca cl.at' E (r.bind k) ρ H D) {D' : Ends} (hr : D'.rt = D.rt)
    (hn : ∀ ρ1 aσ h1 σ H1, Ltr ρ H ρ1 H1 → SS w K ca cl.at' ρ1 aσ h1 σ H1 → KS w K ca cl.at' E (k aσ h1) ρ1 H1 D → D'.nx σ H1) : KS w K ca cl.at' E r ρ H D' := by
  cases r with
  | nx a h1 => exact fun ρ' H' σ' L S => hn ρ' a h1 σ' H' L S (h.later L)
  | rt v h1 => exact fun ρ' H' v' L r1 r2 => by rw [hr]; exact h ρ' H' v' L r1 r2
  | exc c h1 => exact h
  | bad => exact h
end
section
variable (w : World) (K : PySem.W.Frag) (ca : Nm → Addr) (cl : Cl) (cf : Cf) (E : XK)
def tS (m : Rl.S) : TS := fun D σ H => ∃ ρ aσ h, SS w K ca cl.at' ρ aσ h σ H ∧ KS w K ca cl.at' E (ex cl cf m aσ h) ρ H D
end
abbrev PSI (X : Cx) (ca : Nm → Addr) (cl : Cl) (cf : Cf) (E : XK) (e : Stmt) (m : Rl.S) : Prop := PS X e (tS X.w X.K ca cl cf E m)
abbrev PSSI (X : Cx) (ca : Nm → Addr) (cl : Cl) (cf : Cf) (E : XK) (e : List Stmt) (m : Rl.S) : Prop := PSs X e (tS X.w X.K ca cl cf E m)
section
variable {w : World} {K : PySem.W.Frag} {ca : Nm → Addr} {cl : Cl} {cf : Cf} {E : XK} {σ : St} {H : Hp} {ρ : List Addr} {aσ : Sl} {h : AH}
theorem tI.bindS {e : Rl.E} {k : AV → AH → SR} {D : Ends} (S : SS w K ca cl.at' ρ aσ h σ H) (q : KS w K ca cl.at' E ((ev cl cf e aσ h).bindS k) ρ H D) :
    tI w K ca cl cf E e σ H (fun v' H1 => ∃ ρ1 v h1, Ltr ρ H ρ1 H1 ∧ SS w K ca cl.at' ρ1 aσ h1 σ H1 ∧ RA w K ρ1 H1 v v' ∧ KS w K ca cl.at' E (k v h1) ρ1 H1 D) := by
  refine ⟨ρ, aσ, h, S, ?_⟩
  generalize ev cl cf e aσ h = r at q
  cases r with
  | bad => exact q
  | exc c h1 => exact q
  | ok v h1 => exact fun ρ' H' v' L r1 r2 => ⟨ρ', v, h1, L, S.later L r1, r2, q.later L⟩
theorem tIT.bindS {e : Rl.E} {k : AV → AH → SR} {D : Ends} (S : SS w K ca cl.at' ρ aσ h σ H) (hk : ∀ v h, (∀ b, v ≠ .bl b) → k v h = .bad) (q : KS w K ca cl.at' E ((ev cl cf e aσ h).bindS k) ρ H D) :
    tIT w K ca cl cf E e σ H (fun b H1 => ∃ ρ1 h1, Ltr ρ H ρ1 H1 ∧ SS w K ca cl.at' ρ1 aσ h1 σ H1 ∧ KS w K ca cl.at' E (k (.bl b) h1) ρ1 H1 D) := by
  refine ⟨ρ, aσ, h, S, ?_⟩
  generalize ev cl cf e aσ h = r at q
  cases r with
  | bad => exact q
  | exc c h1 => exact q
  | ok v h1 =>
    cases v with
    | bl b =>
      intro ρ1 H1 b' L r1 r2
      cases r2
      exact ⟨ρ1, h1, L, S.later L r1, q.later L⟩
    | _ =>
      have q' := q
      simp only [Res.bindS] at q'
      rw [hk _ _ (by intro b z; cases z)] at q'
      exact (show False from q').elim
end
section
variable {X : Cx} {ca : Nm → Addr} {cl : Cl} {cf : Cf} {E : XK} {st : Stmt} {rest sa sb : List Stmt} {e o i : Expr} {m ma mb mc : Rl.E} {s s1 s2 : Rl.S} {pos pos' : Pos}
theorem ss_nil : PSSI X ca cl cf E [] .nil := pssImp pss_nil fun D σ H ⟨ρ, aσ, h, S, k⟩ => by
  simp only [ex] at k
  exact k ρ H σ (.refl _ _) S
theorem ss_cons (h1 : PSI X ca cl cf E st s1) (h2 : PSSI X ca cl cf E rest s2) : PSSI X ca cl cf E (st :: rest) (.seq s1 s2) := by
  refine pssImp (pss_cons h1 h2) fun D σ H ⟨ρ, aσ, h, S, k⟩ => ?_
  simp only [ex] at k
  exact ⟨ρ, aσ, h, S, k.bind (by rfl) fun ρ1 a1 h1 σ1 H1 L S1 k1 => ⟨ρ1, a1, h1, S1, k1⟩⟩
theorem s_pass : PSI X ca cl cf E (.Pass pos) .pass := psImp ps_pass fun D σ H ⟨ρ, aσ, h, S, k⟩ => by
  simp only [ex] at k
  exact k ρ H σ (.refl _ _) S
theorem s_doc {x : Str} {j : Nat} : PSI X ca cl cf E (.Expr (.Constant (.str x) j pos) pos') .pass := psImp ps_doc fun D σ H ⟨ρ, aσ, h, S, k⟩ => by
  simp only [ex] at k
  exact k ρ H σ (.refl _ _) S
theorem s_ret (he : PEI X ca cl cf E e m) : PSI X ca cl cf E (.Return (some e) pos) (.ret m) := by
  refine psImp (ps_ret he) fun D σ H ⟨ρ, aσ, h, S, k⟩ => ?_
  simp only [ex] at k
  exact (tI.bindS S k).mono fun v H1 ⟨ρ1, x, h1, L, S1, r, k1⟩ => k1 ρ1 H1 v (.refl _ _) S1.hp r
theorem s_retN : PSI X ca cl cf E (.Return none pos) .retN := by
  refine psImp ps_retN fun D σ H ⟨ρ, aσ, h, S, k⟩ => ?_
  simp only [ex] at k
  exact k ρ H .non (.refl _ _) S.hp .non
theorem s_exp (he : PEI X ca cl cf E e m) (hs : swapsWith e none pos.line X.env = pure false) : PSI X ca cl cf E (.Expr e pos) (.exp m) := by
  refine psImp (ps_expr he hs) fun D σ H ⟨ρ, aσ, h, S, k⟩ => ?_
  simp only [ex] at k
  exact (tI.bindS S k).mono fun v H1 ⟨ρ1, x, h1, L, S1, r, k1⟩ => k1 ρ1 H1 σ (.refl _ _) S1
theorem s_ite (hc : PTI X ca cl cf E e m) (h1 : PSSI X ca cl cf E sa s1) (h2 : PSSI X ca cl cf E sb s2) : PSI X ca cl cf E (.If e sa sb pos) (.ite m s1 s2) := by
  refine psImp (ps_if hc h1 h2) fun D σ H ⟨ρ, aσ, h, S, k⟩ => ?_
  simp only [ex] at k
  refine (tIT.bindS S (fun v h nb => ?_) k).mono fun b H1 ⟨ρ1, h1, L, S1, k1⟩ => ?_
  · cases v <;> first | rfl | exact (nb _ rfl).elim
  · cases b with
    | true => rw [if_pos rfl]; exact ⟨ρ1, aσ, h1, S1, k1⟩
    | false => rw [if_neg (by simp)]; exact ⟨ρ1, aσ, h1, S1, k1⟩
theorem tAsg_of {t : Tg} {D : Ends} {σ : St} {H : Hp} (q : tS X.w X.K ca cl cf E (.asg t m) D σ H) : tAsg (tI X.w X.K ca cl cf E m) (gT X.w X.K ca cl.at' t) D σ H := by
  obtain ⟨ρ, aσ, h, S, k⟩ := q
  simp only [ex] at k
  refine (tI.bindS S k).mono fun v H1 ⟨ρ1, x, h1, L, S1, r, k1⟩ => ?_
  split at k1
  · rename_i a1 hb
    exact ⟨ρ1, aσ, h1, x, a1, S1, r, hb, fun σ' S' _ => k1 ρ1 H1 σ' (.refl _ _) S'⟩
  · exact k1.elim
theorem s_asg {t : Tg} {tg : Expr} (he : PEI X ca cl cf E e m) (hg : PG X tg (gT X.w X.K ca cl.at' t)) (hs : swapsWithSole [tg] e pos.line X.env = pure false) (hw : swappedStores [tg] e X.env = pure none)
    (h1 : (assignEach [tg] X.env).map (·.2) = [assign tg X.env]) : PSI X ca cl cf E (.Assign [tg] e pos) (.asg t m) :=
  psImp (ps_asg he hg hs hw h1) fun D σ H q => tAsg_of q
theorem s_fset {f : Nm} (ho : PEI X ca cl cf E o ma) (he : PEI X ca cl cf E e m) (hs : swapsWith e (some (.Attribute o f.str pos')) pos.line X.env = pure false) : PSI X ca cl cf E (.Assign [.Attribute o f.str pos'] e pos) (.fset ma f m) := by
  refine psImp (ps_fld ho he hs) fun D σ H ⟨ρ, aσ, h, S, k⟩ => ?_
  simp only [ex] at k
  refine (tI.bindS S k).mono fun v H1 ⟨ρ1, x, h1, L, S1, r, k1⟩ => (tI.bindS S1 k1).mono fun u H2 ⟨ρ2, y, h2, L2, S2, r2, k2⟩ => ?_
  unfold setF at k2
  cases y with
  | ref n =>
    obtain ⟨a, rfl, hn⟩ := r2.ref_inv
    simp only at k2
    cases hg : h2.g n with
    | none => rw [hg] at k2; exact k2.elim
    | some ob =>
      rw [hg] at k2
      cases ob with
      | obj c fs =>
        simp only at k2
        split at k2
        case h_2 => exact k2.elim
        rename_i h3 e3
        split at e3
        case isFalse => cases e3
        rename_i hc
        cases e3
        obtain ⟨dx, vs, hH, hC, rf, hm, na, ok⟩ := S2.hp.obj hn hg
        obtain ⟨p1, p2⟩ := rf.put (f := f) (x := x) (v := v) ok hc.2 (r.ltr L2) hm
        refine ⟨a, ca c, dx, vs, rfl, hH, hC, na f hc.2, by rw [← rf.length]; omega, ?_⟩
        obtain ⟨u0, h0, m0⟩ := S2.hp.mt n a hn
        have L3 : Ltr ρ2 H2 ρ2 (upd H2 a (.ins (ca c) dx (putF f.str v vs))) := ⟨List.prefix_refl _, .mt h0 m0, fun b o e n => ⟨by rw [upd_ne (fun z => n (by rw [z]; exact List.mem_of_getElem? hn))]; exact e, n⟩⟩
        obtain ⟨rh, _⟩ := S2.hp.put hn (o := .obj c (fput fs f x)) (u := .ins (ca c) dx (putF f.str v vs)) (.obj hC (p1.ltr L3) p2 na ok)
        exact k2 ρ2 _ σ L3 (S2.later L3 rh)
      | _ => exact k2.elim
  | _ => exact k2.elim
theorem s_iset (hu : X.A.units + 1 < cLine) (ho : PEI X ca cl cf E o ma) (hi : PEI X ca cl cf E i mb) (he : PEI X ca cl cf E e m)
    (ha : ∀ v, assign (.Subscript o i pos') X.env v = (do
      let ov ← holding [v] (eval o X.env)
      let iv ← holding [v, ov] (eval i X.env)
      standAt pos'
      holding [v, ov, iv] (setItem ov iv v)
      release [v, ov, iv] [])) (hs : swapsWithSole [.Subscript o i pos'] e pos.line X.env = pure false) (hw : swappedStores [.Subscript o i pos'] e X.env = pure none) :
    PSI X ca cl cf E (.Assign [.Subscript o i pos'] e pos) (.iset ma mb m) := by
  refine psImp (ps_asg he (pg_sub ho hi (s_set (ca := ca) (at' := cl.at') hu) ha) hs hw) fun D σ H ⟨ρ, aσ, h, S, k⟩ => ?_
  simp only [ex] at k
  refine (tI.bindS S k).mono fun v H1 ⟨ρ1, x, h1, L, S1, r, k1⟩ => (tI.bindS S1 k1).mono fun u H2 ⟨ρ2, y, h2, L2, S2, r2, k2⟩ => (tI.bindS S2 k2).mono fun z H3 ⟨ρ3, b, h3, L3, S3, r3, k3⟩ => ?_
  split at k3
  case h_2 => exact k3.elim
  rename_i h4 e4
  exact ⟨ρ3, h3, y, b, x, h4, S3.hp, r2.ltr L3, r3, (r.ltr L2).ltr L3, e4, fun ρ4 H4 L4 r4 => k3 ρ4 H4 σ L4 (S3.later L4 r4)⟩
end
end Rl

set_option Elab.async false
set_option linter.all false
set_option maxRecDepth 100000
set_option autoImplicit false
set_option maxHeartbeats 4000000
/-! Sound12: loops, raise, which stores swap. -/
namespace Rl
open PySem PySem.Spec PyProof.Rows L2
section
variable {X : Cx} {ca : Nm → Addr} {cl : Cl} {cf : Cf} {E : XK} {st : Stmt} {body : List Stmt} {e o i tg iter : Expr} {m src : Rl.E} {s : Rl.S} {pos pos' : Pos}
theorem s_while (hp : PassesOwn (model X.prog X.w) X.A X.env X.xe) (hc : PTI X ca cl cf E e m) (hb : PSSI X ca cl cf E body s) : PSI X ca cl cf E (.While e body [] pos) (.while m s) := by
  refine psImp (ps_while hp hc hb) fun D σ H ⟨ρ, aσ, h, S, k⟩ => ?_
  simp only [ex] at k
  refine ⟨fun n σ H => ∃ ρ aσ h, SS X.w X.K ca cl.at' ρ aσ h σ H ∧ KS X.w X.K ca cl.at' E (whileL (fun σ h => ev cl cf m σ h) (fun σ h => ex cl cf s σ h) n aσ h) ρ H D, ⟨WL, ρ, aσ, h, S, k⟩, fun n σ1 H1 ⟨ρ1, a1, h1, S1, k1⟩ => ?_⟩
  cases n with
  | zero => exact k1.elim
  | succ n =>
    rw [whileL] at k1
    refine (tIT.bindS S1 (fun v h nb => ?_) k1).mono fun b H2 ⟨ρ2, h2, L2, S2, k2⟩ => ?_
    · cases v <;> first | rfl | exact (nb _ rfl).elim
    · cases b with
      | true =>
        rw [if_pos rfl]
        refine ⟨fun σ H => ∃ ρ aσ h, SS X.w X.K ca cl.at' ρ aσ h σ H ∧ KS X.w X.K ca cl.at' E (whileL (fun σ h => ev cl cf m σ h) (fun σ h => ex cl cf s σ h) n aσ h) ρ H D, fun σ' H' q => ⟨n, Nat.lt_succ_self n, q⟩, ?_⟩
        exact ⟨ρ2, a1, h2, S2, k2.bind (by rfl) fun ρ3 a3 h3 σ3 H3 L3 S3 k3 => ⟨ρ3, a3, h3, S3, k3⟩⟩
      | false =>
        rw [if_neg (by simp)]
        exact k2 ρ2 H2 σ1 (.refl _ _) S2
theorem s_for {t : Tg} {k : Ik} (hp : PassesOwn (model X.prog X.w) X.A X.env X.xe) (hc : X.calm = true) (hi : PI X tg iter (iW X.w X.K ca cl cf E k src)) (hg : PG X tg (gT X.w X.K ca cl.at' t)) (hb : PSSI X ca cl cf E body s)
    (hs : ∀ x, foldedSetIterable iter X.env x = pure x) : PSI X ca cl cf E (.For tg iter body [] pos) (.for t k src s) := by
  refine psImp (ps_for hp hc hi hg hb hs) fun D σ H ⟨ρ, aσ, h, S, kr⟩ => ?_
  simp only [ex] at kr
  refine ⟨ρ, aσ, h, S, ?_⟩
  cases er : evs cl cf src aσ h with
  | bad => rw [er] at kr; exact kr.elim
  | exc c h1 => rw [er] at kr; exact kr
  | ok vs h1 =>
  rw [er] at kr
  simp only [Res.bindS, KRI] at kr ⊢
  cases ew : walk k vs h1 with
  | none => rw [ew] at kr; exact kr.elim
  | some p =>
  obtain ⟨xs, g⟩ := p
  rw [ew] at kr
  simp only at kr
  intro ρ' H' J L0 rh0 W
  have S0 : SS X.w X.K ca cl.at' ρ' aσ h1 σ H' := S.later L0 rh0
  have kr := kr.later L0
  refine ⟨fun i m σ H => m = xs.length - i ∧ i ≤ xs.length ∧ ∃ ρ1 a h, Ltr ρ' H' ρ1 H ∧ SS X.w X.K ca cl.at' ρ1 a h σ H ∧ KS X.w X.K ca cl.at' E (forL t g (fun σ h => ex cl cf s σ h) (xs.drop i) a h) ρ1 H D,
    ⟨xs.length, by simp, Nat.zero_le _, ρ', aσ, h1, .refl _ _, S0, kr⟩, ?_⟩
  rintro i m σ2 H2 ⟨rfl, hi', ρ1, a1, h2, L1, S1, kr1⟩
  by_cases hlt : i < xs.length
  · have hx : xs[i]? = some xs[i] := by simp [hlt]
    rw [List.drop_eq_getElem_cons hlt, forL] at kr1
    split at kr1
    case isFalse => exact kr1.elim
    rename_i hgd
    split at kr1
    case h_2 => exact kr1.elim
    rename_i a2 hb
    obtain ⟨⟨w1, w2⟩, -⟩ : (J.go i H2 ∧ _) ∧ _ := ⟨(W i ρ1 H2 h2 L1 S1.hp hgd).1 _ hx, trivial⟩
    refine .inr ⟨w1, fun σ3 H3 => (xs.length - (i + 1) = xs.length - (i + 1) ∧ i + 1 ≤ xs.length ∧ _), fun σ3 H3 nx => ⟨xs.length - (i + 1), by omega, nx⟩, fun x H3 y => ?_⟩
    obtain ⟨L3, rh3, rx⟩ := w2 x H3 y
    refine ⟨ρ1, a1, h2, _, a2, S1.later L3 rh3, rx, hb, fun σ4 S4 _ => ?_⟩
    have kr2 := kr1.later L3
    exact ⟨ρ1, a2, h2, S4, kr2.bind (by rfl) fun ρ5 a5 h5 σ5 H5 L5 S5 k5 => ⟨rfl, hlt, ρ5, a5, h5, (L1.trans L3).trans L5, S5, k5⟩⟩
  · have e : i = xs.length := by omega
    subst e
    rw [List.drop_length, forL] at kr1
    split at kr1
    case isFalse => exact kr1.elim
    rename_i hgd
    exact .inl ⟨(W _ ρ1 H2 h2 L1 S1.hp hgd).2 rfl, kr1 ρ1 H2 σ2 (.refl _ _) S1⟩
/-- an own exception class -/
def ExcF (K : PySem.W.Frag) (mg : Str → Option Value) (x : Str) (C : Addr) : Prop := ∃ (B newId initId : String) (bmB : List Value), ExcBaseFacts B newId initId bmB ∧ PySem.W.excIn K C bmB newId = true ∧ mg x = some (.ref C) ∧ PySem.W.keepIn K (.ref C) = true ∧
  PySem.W.subIn K (.ref C) (.type "BaseException") = some true ∧ PySem.W.typeIn K (.ref C) = some (.type "type")
theorem pmk_own0 {x : Str} {C : Addr} {p : Pos} (F : ExcF X.K X.mg x C) (hg : Gl X x) (hdb : (x == ("__debug__" : Str)) = false) : PMk X (.Call (.Name x p) [] [] pos) (fun _ H Q => Q (.ref C) none H) := by
  obtain ⟨B, newId, initId, bmB, F, q, gC, kC, s1, s2⟩ := F
  have r : Raises X (.ref C) := raises_own s1 s2
  intro pins s σ H Q I h
  refine wpAny_Call_Name_kw (ld_glob I hg gC ?_ hdb)
  refine PySem.W.callWith_K0 I.kIn kC ?_
  show wpAny _ _ (call (.ref C) []) _ _ _
  obtain ⟨bm, N, nm, qn, bs, hdct, sn, sub, ab, col, dd, k0, k1, k2, k3, k5, mN, hC, hN, hni, T⟩ := exc_obj I.kIn q
  refine wpAny_call_exc_subT F T hC hN hni (fun h' e hm => ?_) (by show 0 ≤ sizeLine; exact Nat.zero_le _)
  exact mk_of I hm r h (I.hok.gone hm.new)
theorem s_raise {c : Nm} {p : Pos} (hc : X.calm = true) (tk : Takes X (fun cls d _ H => E cls d H)) (F : ExcF X.K X.mg c.str (ca c)) (hg : Gl X c.str) (hdb : (c.str == ("__debug__" : Str)) = false) : PSI X ca cl cf E (.Raise (some (.Call (.Name c.str p) [] [] pos')) none pos) (.raise c) := by
  refine psImp (ps_raise hc tk (pmk_own0 F hg hdb)) fun D σ H ⟨ρ, aσ, h, S, k⟩ => ?_
  simp only [ex] at k
  exact k ρ H (.refl _ _) S.hp
/-- y = [.. for ..] on one line -/
theorem s_setLc {t : Tg} {k : Ik} {j : Nat} {y : Str} {py : Pos} {mc me : Rl.E} {elt tg iter : Expr} {ifs : List Expr} {scope : Scope} {own : List (Str × Nat)} (hc : X.calm = true) (hN : X.N.Nodup) (hy : X.N[j]? = some y) (hyl : X.env.scope.names.lookup y = some .local)
    (hsw : swapsWith (.ListComp elt [⟨tg, iter, ifs, 0⟩] scope pos) (some (.Name y py)) pos'.line X.env = pure true)
    (hi : PI X tg iter (iW X.w X.K ca cl cf E k src)) (ok : BlkOk X.N X.env.scope scope own) (ho : own.map (·.2) = tgIs t)
    (hg : ∀ (s : Shared) (H : Hp) (C : Addr) (cs : List (Str × Addr)) (fp : List Addr), PG (X.blk s H scope (compEnvC scope cs C X.env) fp) tg (gT X.w X.K ca cl.at' t))
    (ht : ∀ (s : Shared) (H : Hp) (C : Addr) (cs : List (Str × Addr)) (fp : List Addr), PTs (X.blk s H scope (compEnvC scope cs C X.env) fp) ifs (tIT X.w X.K ca cl cf EN mc))
    (he : ∀ (s : Shared) (H : Hp) (C : Addr) (cs : List (Str × Addr)) (fp : List Addr), PE (X.blk s H scope (compEnvC scope cs C X.env) fp) elt (tI X.w X.K ca cl cf EN me)) (hs : ∀ x, foldedSetIterable iter X.env x = pure x) :
    PSI X ca cl cf E (.Assign [.Name y py] (.ListComp elt [⟨tg, iter, ifs, 0⟩] scope pos) pos') (.asg (.one j) (.comp t k src mc me)) := by
  refine psImp (ps_setLc hc hN hy hyl hsw hi ok hg ht he hs) fun D σ H q => ?_
  have q := tAsg_of q
  have q2 : tI X.w X.K ca cl cf E (.comp t k src mc me) σ H (fun x H1 => gName j x σ H1 D.nx) := q.mono fun v H1 ⟨ρ1, a1, h1, x, a2, S1, r, hb, z⟩ => by
    simp only [bindT] at hb
    split at hb
    · cases hb
      refine z _ (S1.set r) ⟨List.length_set, fun j hj => List.getElem?_set_ne (by simpa [tgIs, eq_comm] using hj)⟩
    · cases hb
  exact lc_imp (cf := cf) ho q2
end
end Rl

set_option Elab.async false
set_option linter.all false
set_option maxRecDepth 100000
set_option autoImplicit false
/-! Check: does an own term stand for an expression, a statement of the program? -/
namespace Rl
open PySem PySem.Spec PyProof.Rows L2
/-- what the terms may name: defs, classes that may be made, written dicts, exceptions -/
structure CG where
  fn : Nm → Bool
  ini : Nm → Bool
  kd : Nm → List (Tx × Int) → Bool
  exc : Nm → Bool
def isVis (sc : Scope) (x : Str) : Bool := match sc.names.lookup x with
  | some .local => true
  | some .cell => true
  | some .free => true
  | _ => false
def isGl (sc : Scope) (x : Str) : Bool := match sc.names.lookup x with
  | some .globalImplicit => true
  | _ => false
def isLoc (sc : Scope) (x : Str) : Bool := match sc.names.lookup x with
  | some .local => true
  | some .cell => true
  | _ => false
def isLoc1 (sc : Scope) (x : Str) : Bool := match sc.names.lookup x with
  | some .local => true
  | _ => false
def okd (x : Str) : Bool := !(x == ("__debug__" : Str)) && !(x == ("__classdict__" : Str)) && !decide (x = ("__name__" : Str))
/-- not f().x -/
def plainBase : Expr → Bool
  | .Call (.Name _ _) [] [] _ => false
  | _ => true
def notSlice : Expr → Bool
  | .Slice _ _ _ _ => false
  | _ => true
def notIf : Expr → Bool
  | .IfExp _ _ _ _ => false
  | _ => true
def notComp : Expr → Bool
  | .ListComp _ _ _ _ => false
  | .SetComp _ _ _ _ => false
  | .DictComp _ _ _ _ _ => false
  | _ => true
def notTup : Expr → Bool
  | .Tuple _ _ _ => false
  | _ => true
def noStars : List Expr → Bool
  | [] => true
  | .Starred _ _ :: _ => false
  | _ :: r => noStars r
def opB : Op → Operator → Bool
  | .add, .Add => true
  | .sub, .Sub => true
  | .mul, .Mult => true
  | .fdiv, .FloorDiv => true
  | .mod, .Mod => true
  | .pow, .Pow => true
  | _, _ => false
def opC : Op → CmpOp → Bool
  | .lt, .Lt => true
  | .le, .LtE => true
  | .gt, .Gt => true
  | .ge, .GtE => true
  | .eq, .Eq => true
  | .ne, .NotEq => true
  | .isin, .In => true
  | .notin, .NotIn => true
  | _, _ => false
def biNm : Bi → Option String
  | .abs => some "abs"
  | .len => some "len"
  | .int => some "int"
  | .list => some "list"
  | .dict => some "dict"
  | .tuple => some "tuple"
  | .sorted => some "sorted"
  | .sum => some "sum"
  | .all => some "all"
  | .max => some "max"
  | .min => some "min"
  | _ => none
def mbNm : Mb → Option String
  | .append => some "append"
  | .pop => some "pop"
  | .extend => some "extend"
  | .insert => some "insert"
  | .clear => some "clear"
  | .get => some "get"
  | _ => none
def tyNm : Ty → Option String
  | .int => some "int"
  | .bool => some "bool"
  | .tuple => some "tuple"
  | .list => some "list"
  | .str => some "str"
  | .dict => some "dict"
  | _ => none
def isTupE : Expr → Bool
  | .Tuple _ _ _ => true
  | _ => false
/-- the arguments of what is walked -/
def iterArgs (sc : Scope) (k : Ik) (tg iter : Expr) : Option (List Expr) := match k with
  | .seq => some [iter]
  | .rng1 => match iter with
    | .Call (.Name x _) [a] [] _ => if x = ("range" : Str) ∧ isGl sc "range" = true then some [a] else none
    | _ => none
  | .rng2 => match iter with
    | .Call (.Name x _) [a, b] [] _ => if x = ("range" : Str) ∧ isGl sc "range" = true then some [a, b] else none
    | _ => none
  | .enum => match iter with
    | .Call (.Name x _) [a] [] _ => if x = ("enumerate" : Str) ∧ isGl sc "enumerate" = true ∧ isTupE tg = true then some [a] else none
    | _ => none
  | .zip => match iter with
    | .Call (.Name x _) [a, b] [] _ => if x = ("zip" : Str) ∧ isGl sc "zip" = true ∧ isTupE tg = true then some [a, b] else none
    | _ => none
  | .keys => none
def notSetE : Expr → Bool
  | .Set _ _ _ => false
  | _ => true
def tgNms (N : List Str) (sc : Scope) : List Expr → List Nat → Bool
  | [], [] => true
  | .Name x _ :: es, i :: is => decide (N[i]? = some x) && isLoc sc x && tgNms N sc es is
  | _, _ => false
def ckT (N : List Str) (sc : Scope) (t : Tg) (e : Expr) : Bool := match t with
  | .one i => match e with
    | .Name x _ => decide (N[i]? = some x) && isLoc sc x
    | _ => false
  | .tup is => match e with
    | .Tuple es _ _ => tgNms N sc es is
    | _ => false
def tgI : Tg → List Nat
  | .one i => [i]
  | .tup is => is
def ownOf (N : List Str) (t : Tg) : List (Str × Nat) := (tgI t).map fun i => ((N[i]?).getD "", i)
mutual
def ckE (G : CG) (N : List Str) (sc : Scope) (m : Rl.E) (e : Expr) : Bool :=
  match m with
  | .slot i => match e with
    | .Name x _ => decide (N[i]? = some x) && isVis sc x && okd x
    | _ => false
  | .non => match e with
    | .Constant .none _ _ => true
    | _ => false
  | .bl b => match e with
    | .Constant (.bool c) _ _ => decide (b = c)
    | _ => false
  | .int i => match e with
    | .Constant (.int j) _ _ => decide (i = j)
    | _ => false
  | .str s => match e with
    | .Constant (.str x) _ _ => decide (x = ⟨s.toArray⟩)
    | _ => false
  | .kd f kvs => match e with
    | .Name x _ => decide (x = f.str) && isGl sc x && okd x && G.kd f kvs
    | _ => false
  | .tup es => match e with
    | .Tuple l _ _ => ckEs G N sc es l && noStars l
    | _ => false
  | .lst es => match e with
    | .List l _ => ckEs G N sc es l && noStars l
    | _ => false
  | .dict0 _ => match e with
    | .Dict [] [] _ => true
    | _ => false
  | .op o a b => match e with
    | .BinOp x f y _ => opB o f && ckE G N sc a x && ckE G N sc b y
    | .Compare x [f] [y] _ => opC o f && ckE G N sc a x && ckE G N sc b y && !behindInMarks f y
    | .Subscript x y _ => decide (o = .item) && ckE G N sc a x && ckE G N sc b y && notSlice y
    | _ => false
  | .neg a => match e with
    | .UnaryOp .USub x _ => ckE G N sc a x
    | _ => false
  | .isN a => match e with
    | .Compare x [.Is] [.Constant .none _ _] _ => ckE G N sc a x
    | _ => false
  | .notN a => match e with
    | .Compare x [.IsNot] [.Constant .none _ _] _ => ckE G N sc a x
    | _ => false
  | .not a => match e with
    | .UnaryOp .Not x _ => ckE G N sc a x && notIf x
    | _ => false
  | .and a b => match e with
    | .BoolOp .And [x, y] _ => ckE G N sc a x && ckE G N sc b y && notIf x && notIf y
    | .BoolOp .And (x :: y :: z :: r) p => ckE G N sc a x && ckE G N sc b (.BoolOp .And (y :: z :: r) p) && notIf x
    | _ => false
  | .or a b => match e with
    | .BoolOp .Or [x, y] _ => ckE G N sc a x && ckE G N sc b y && notIf x && notIf y
    | .BoolOp .Or (x :: y :: z :: r) p => ckE G N sc a x && ckE G N sc b (.BoolOp .Or (y :: z :: r) p) && notIf x
    | _ => false
  | .ite c a b => match e with
    | .IfExp t x y _ => ckE G N sc c t && notIf t && ckE G N sc a x && ckE G N sc b y
    | _ => false
  | .slice a lo hi => match e with
    | .Subscript x (.Slice l u none _) _ => ckE G N sc a x && (match l with
        | none => lo.isNil
        | some v => !lo.isNil && ckE G N sc lo v) && (match u with
        | none => hi.isNil
        | some v => !hi.isNil && ckE G N sc hi v)
    | _ => false
  | .call f es => match e with
    | .Call (.Name x _) l [] _ => decide (x = f.str) && isGl sc x && okd x && G.fn f && ckEs G N sc es l && noStars l
    | _ => false
  | .make c es => match e with
    | .Call (.Name x _) l [] _ => decide (x = c.str) && isGl sc x && okd x && G.ini c && ckEs G N sc es l && noStars l
    | _ => false
  | .meth o f es _ => match e with
    | .Call (.Attribute x g ap) l [] p => decide (g = f.str) && ckE G N sc o x && ckEs G N sc es l && noStars l && decide (l.length < 27) && (ap.endLine == p.line) && plainBase x
    | _ => false
  | .methK o f es _ kn v => match e with
    | .Call (.Attribute x g ap) (l0 :: l) [⟨some y, u, _⟩] p => decide (g = f.str) && decide (y = kn.str) && ckE G N sc o x && ckEs G N sc es (l0 :: l) && ckE G N sc v u && noStars (l0 :: l) && decide ((l0 :: l).length < 27) && (ap.endLine == p.line) && plainBase x
    | _ => false
  | .fld o f => match e with
    | .Attribute x g _ => decide (g = f.str) && ckE G N sc o x && plainBase x
    | _ => false
  | .bi b es => match e with
    | .Call (.Name x _) (l0 :: l) [] _ => match biNm b with
      | some n => decide (x = Str.ofString n) && isGl sc x && ckEs G N sc es (l0 :: l) && noStars (l0 :: l)
      | none => decide (b = .listRg) && decide (x = ("list" : Str)) && isGl sc "list" && isGl sc "range" && l.isEmpty && (match l0 with
        | .Call (.Name y _) [a] [] _ => decide (y = ("range" : Str)) && ckEs G N sc es [a] && noStars [a]
        | .Call (.Name y _) [a, c] [] _ => decide (y = ("range" : Str)) && ckEs G N sc es [a, c] && noStars [a, c]
        | _ => false)
    | _ => false
  | .mth b o es => match e with
    | .Call (.Attribute x g ap) l [] p => (match mbNm b with
      | some n => decide (g = Str.ofString n)
      | none => false) && ckE G N sc o x && ckEs G N sc es l && noStars l && decide (l.length < 27) && (ap.endLine == p.line) && plainBase x
    | _ => false
  | .isTy a t => match e with
    | .Call (.Name x _) [u, .Name y _] [] _ => decide (x = ("isinstance" : Str)) && isGl sc "isinstance" && (match tyNm t with
      | some n => decide (y = Str.ofString n) && isGl sc y
      | none => false) && ckE G N sc a u && noStars [u]
    | _ => false
  | .comp t k src cond elt => match e with
    | .ListComp el [⟨tg, iter, ifs, 0⟩] scope _ => (match iterArgs sc k tg iter with
      | some l => ckEs G N sc src l && noStars l
      | none => false) && notSetE iter && blkC N sc scope (ownOf N t) && ckT N scope t tg && ckE G N scope elt el && (match ifs with
      | [] => decide (cond = .bl true)
      | [c] => ckE G N scope cond c && notIf c
      | _ => false)
    | _ => false
  | .nil => false
  | .cons _ _ => false
termination_by structural m
def ckEs (G : CG) (N : List Str) (sc : Scope) (m : Rl.E) (l : List Expr) : Bool :=
  match m with
  | .nil => match l with
    | [] => true
    | _ => false
  | .cons a r => match l with
    | e :: es => ckE G N sc a e && ckEs G N sc r es
    | _ => false
  | _ => false
termination_by structural m
end
mutual
def ckS (G : CG) (N : List Str) (sc : Scope) (m : Rl.S) (st : Stmt) : Bool :=
  match m with
  | .pass => match st with
    | .Pass _ => true
    | .Expr (.Constant (.str _) _ _) _ => true
    | _ => false
  | .asg t e => match st with
    | .Assign [tg] x p => ckT N sc t tg && ckE G N sc e x && (match tg with
      | .Name y py => notComp x || (match x with
        | .ListComp el gs scope cp => isLoc1 sc y && (py.line == cp.line) && !(scope.names.any fun (n, k) => n == y && (k == .local || k == .cell))
        | _ => false)
      | .Tuple _ _ _ => notTup x
      | _ => false)
    | _ => false
  | .fset o f e => match st with
    | .Assign [.Attribute x g _] y _ => decide (g = f.str) && ckE G N sc o x && ckE G N sc e y
    | _ => false
  | .iset o i e => match st with
    | .Assign [.Subscript x y _] z _ => ckE G N sc o x && ckE G N sc i y && notSlice y && ckE G N sc e z
    | _ => false
  | .exp e => match st with
    | .Expr x _ => ckE G N sc e x && notComp x
    | _ => false
  | .ret e => match st with
    | .Return (some x) _ => ckE G N sc e x
    | _ => false
  | .retN => match st with
    | .Return none _ => true
    | _ => false
  | .ite c a b => match st with
    | .If x p q _ => ckE G N sc c x && notIf x && ckSs G N sc a p && ckSs G N sc b q
    | _ => false
  | .while c b => match st with
    | .While x p [] _ => ckE G N sc c x && notIf x && ckSs G N sc b p
    | _ => false
  | .for t k src b => match st with
    | .For tg iter p [] _ => (match iterArgs sc k tg iter with
      | some l => ckEs G N sc src l && noStars l
      | none => false) && notSetE iter && ckT N sc t tg && ckSs G N sc b p
    | _ => false
  | .raise c => match st with
    | .Raise (some (.Call (.Name x _) [] [] _)) none _ => decide (x = c.str) && isGl sc x && okd x && G.exc c
    | _ => false
  | .nil => false
  | .seq _ _ => false
termination_by structural m
def ckSs (G : CG) (N : List Str) (sc : Scope) (m : Rl.S) (l : List Stmt) : Bool :=
  match m with
  | .nil => match l with
    | [] => true
    | _ => false
  | .seq a r => match l with
    | st :: rest => ckS G N sc a st && ckSs G N sc r rest
    | _ => false
  | _ => false
termination_by structural m
end
end Rl

set_option Elab.async false
set_option linter.all false
set_option maxRecDepth 100000
set_option autoImplicit false
set_option maxHeartbeats 4000000
/-! Sound13: what the check says is so: expressions. -/
namespace Rl
open PySem PySem.Spec PyProof.Rows L2
def bnNames : List String := ["abs", "len", "int", "bool", "str", "list", "dict", "tuple", "sorted", "sum", "all", "max", "min", "isinstance", "range", "enumerate", "zip"]
/-- what is known of the names -/
structure FF (P : Program) (w : World) (K : PySem.W.Frag) (mg : Str → Option Value) (base : Heap) (ca : Nm → Addr) (cl : Cl) (cf : Cf) (CX : CXT) (k : Nat) (fa : Nm → Addr) (fd : Nm → FuncData) (ps : Nm → List Str) (G : CG) : Prop where
  call : ∀ f, G.fn f = true → CallOk P w K mg base ca cl cf CX k f (fa f) (fd f) (ps f) ∧ mg f.str = some (.ref (fa f)) ∧ PySem.W.keepIn K (.ref (fa f)) = true ∧ Binds K (fd f) (ps f) []
  make : ∀ c, G.ini c = true → ∃ f, cl.init c = some f ∧ Mk K (ca c) (fa f) ∧ Cls K (ca c) ∧ (∀ g ∈ cl.at' c, NoAttr K (ca c) g.str) ∧ NmOk (cl.at' c) ∧ CallOk P w K mg base ca cl cf CX k f (fa f) (fd f) (ps f) ∧ mg c.str = some (.ref (ca c)) ∧ Binds K (fd f) (ps f) []
  meth : ∀ c m f, cl.mth c m = some f → MethOk P w K mg base ca cl cf CX k c m f (fa f) (fd f) (ps f)
  kd : ∀ x kvs, G.kd x kvs = true → ∃ d, mg x.str = some (.ref d) ∧ KDat K w d kvs
  exc : ∀ c, G.exc c = true → ExcF K mg c.str (ca c)
  bn : ∀ x ∈ bnNames, mg (Str.ofString x) = none
/-- what is known of a place in the text -/
structure XO (ca : Nm → Addr) (cl : Cl) (cf : Cf) (k : Nat) (fa : Nm → Addr) (fd : Nm → FuncData) (ps : Nm → List Str) (G : CG) (X : Cx) (sc : Scope) (E : XK) : Prop where
  nod : X.N.Nodup
  calm : X.calm = true
  vis : ∀ x, isVis sc x = true → Vis X.env.scope x
  gl : ∀ x, isGl sc x = true → Gl X x
  loc : ∀ x, isLoc sc x = true → Loc X.env.scope x ∧ (X.fn x = true ∨ X.env.scope.names.lookup x = some .local)
  bk : ∀ scope own, blkC X.N sc scope own = true → BlkOk X.N X.env.scope scope own
  pass : Passes (L2.CX X.prog X.w) X E
  room : Room (k + 1) X.A
  ff : FF X.prog X.w X.K X.mg X.base ca cl cf (L2.CX X.prog X.w) k fa fd ps G
section
variable {ca : Nm → Addr} {cl : Cl} {cf : Cf} {k : Nat} {fa : Nm → Addr} {fd : Nm → FuncData} {ps : Nm → List Str} {G : CG} {X : Cx} {sc : Scope} {E : XK}
theorem isVis_iff {x : Str} (h : isVis sc x = true) : sc.names.lookup x = some .local ∨ sc.names.lookup x = some .cell ∨ sc.names.lookup x = some .free := by
  unfold isVis at h
  split at h <;> first | exact .inl ‹_› | exact .inr (.inl ‹_›) | exact .inr (.inr ‹_›) | cases h
theorem isGl_iff {x : Str} (h : isGl sc x = true) : sc.names.lookup x = some .globalImplicit := by
  unfold isGl at h
  split at h <;> first | assumption | cases h
theorem isLoc_iff {x : Str} (h : isLoc sc x = true) : sc.names.lookup x = some .local ∨ sc.names.lookup x = some .cell := by
  unfold isLoc at h
  split at h <;> first | exact .inl ‹_› | exact .inr ‹_› | cases h
theorem relS_free {scope : Scope} {x : Str} (h : scope.names.lookup x = some .free) : (relS scope sc).names.lookup x = some .free ∨ (relS scope sc).names.lookup x = some .cell := by
  show (scope.names.map fun (n, k) => if (k == NameKind.free && sc.kind == .function && sc.names.lookup n == some .cell) then (n, NameKind.cell) else (n, k)).lookup x = _ ∨ _
  show _ ∨ (scope.names.map fun (n, k) => if (k == NameKind.free && sc.kind == .function && sc.names.lookup n == some .cell) then (n, NameKind.cell) else (n, k)).lookup x = _
  generalize scope.names = l at h
  induction l with
  | nil => simp at h
  | cons p r ih =>
    obtain ⟨n, k0⟩ := p
    show List.lookup x ((if (k0 == NameKind.free && sc.kind == .function && sc.names.lookup n == some .cell) = true then (n, NameKind.cell) else (n, k0)) :: (r.map _)) = _ ∨ List.lookup x ((if (k0 == NameKind.free && sc.kind == .function && sc.names.lookup n == some .cell) = true then (n, NameKind.cell) else (n, k0)) :: (r.map _)) = _
    cases hx : x == n with
    | true =>
      simp only [List.lookup_cons, hx] at h
      cases h
      split
      · right; simp only [List.lookup_cons, hx]
      · left; simp only [List.lookup_cons, hx]
    | false =>
      simp only [List.lookup_cons, hx] at h
      split <;> (simp only [List.lookup_cons, hx]; exact ih h)
theorem relS_keep {scope : Scope} {x : Str} {k : NameKind} (hk : k ≠ .free) (h : scope.names.lookup x = some k) : (relS scope sc).names.lookup x = some k := lookup_relS_keep hk h
/-- within a block -/
theorem XO.blk (O : XO ca cl cf k fa fd ps G X sc E) {scope : Scope} (s : Shared) (H : Hp) (C : Addr) (cs : List (Str × Addr)) (fp : List Addr) : XO ca cl cf k fa fd ps G (X.blk s H scope (compEnvC scope cs C X.env) fp) scope EN := by
  have es : (X.blk s H scope (compEnvC scope cs C X.env) fp).env.scope = relS scope X.env.scope := rfl
  refine ⟨O.nod, O.calm, fun x h => ?_, fun x h => ?_, fun x h => ?_, fun sco own h => ?_, passL, O.room, O.ff⟩
  · rw [es]
    rcases isVis_iff h with h | h | h
    · exact .inl (relS_keep (by intro z; cases z) h)
    · exact .inr (.inl (relS_keep (by intro z; cases z) h))
    · rcases relS_free (sc := X.env.scope) h with h | h
      · exact .inr (.inr h)
      · exact .inr (.inl h)
  · show (relS scope X.env.scope).names.lookup x = _
    exact relS_keep (by intro z; cases z) (isGl_iff h)
  · rcases isLoc_iff h with h | h
    · refine ⟨.inl (relS_keep (by intro z; cases z) h), .inr (relS_keep (by intro z; cases z) h)⟩
    · refine ⟨.inr (relS_keep (by intro z; cases z) h), .inl ?_⟩
      show (scope.names.lookup x == some .cell) = true
      rw [h]; rfl
  · obtain ⟨a, b, c, d, e⟩ := blkOk_by h
    refine ⟨a, b, c, fun y hy hf => ?_, e⟩
    rw [es]
    rcases d y hy hf with z | z
    · exact .inl (relS_keep (by intro z; cases z) z)
    · exact (relS_free z).symm
abbrev Good (X : Cx) (ca : Nm → Addr) (cl : Cl) (cf : Cf) (E : XK) (e : Expr) (m : Rl.E) : Prop := PEI X ca cl cf E e m ∧ (notIf e = true → PTI X ca cl cf E e m) ∧ (∀ o es p, e = .BoolOp o es p → PWI X ca cl cf E e m)
inductive AllI (X : Cx) (ca : Nm → Addr) (cl : Cl) (cf : Cf) (E : XK) : List Expr → Rl.E → Prop
  | nil : AllI X ca cl cf E [] .nil
  | cons {e : Expr} {es : List Expr} {m r : Rl.E} : PEI X ca cl cf E e m → AllI X ca cl cf E es r → AllI X ca cl cf E (e :: es) (.cons m r)
theorem noStars_eq : ∀ l : List Expr, noStars l = noSt l
  | [] => rfl
  | e :: r => by cases e <;> first | rfl | exact noStars_eq r
theorem AllI.pa : ∀ {l : List Expr} {m : Rl.E}, AllI X ca cl cf E l m → noSt l = true → PAI X ca cl cf E l m
  | _, _, .nil, _ => a_nil
  | _, _, .cons h r, hs => let ⟨h1, h2⟩ := noSt_cons hs X.env; a_cons h (r.pa h2) h1
theorem AllI.mnil {m : Rl.E} {l : List Expr} (h : AllI X ca cl cf E l m) : l = [] → m = .nil := by
  rintro rfl
  cases h
  rfl
theorem good_val {e : Expr} {m : Rl.E} (h : PEI X ca cl cf E e m) (he : ∀ whole, isTrue e X.env whole = (do let v ← whole; standAt e.pos; holding [v] (truthy v))) (hn : ∀ o es p, e ≠ .BoolOp o es p) : Good X ca cl cf E e m :=
  ⟨h, fun _ => q_val h he, fun o es p z => (hn o es p z).elim⟩
theorem base_ok {o : Expr} {f : Str} {env : Env} (h : plainBase o = true) : attributeBase o f env (eval o env) = eval o env := by
  unfold plainBase at h
  split at h
  · cases h
  · rename_i hn
    unfold attributeBase
    split
    · exact (hn _ _ _ rfl).elim
    · rfl
theorem ix_ok {b : Expr} (h : notSlice b = true) : PlainIx b := by
  intro o i
  cases b <;> first | rfl | cases h
theorem okd_iff {x : Str} (h : okd x = true) : (x == ("__debug__" : Str)) = false ∧ (x == ("__classdict__" : Str)) = false ∧ x ≠ "__name__" := by
  unfold okd at h
  simp only [Bool.and_eq_true, Bool.not_eq_true', decide_eq_false_iff_not] at h
  exact ⟨h.1.1, h.1.2, h.2⟩
theorem bn_of (O : XO ca cl cf k fa fd ps G X sc E) {x : String} (h : x ∈ bnNames) : X.mg (Str.ofString x) = none := O.ff.bn x h
theorem iter_ok (O : XO ca cl cf k fa fd ps G X sc E) {ik : Ik} {tg iter : Expr} {l : List Expr} {src : Rl.E} (h : iterArgs sc ik tg iter = some l) (ha : AllI X ca cl cf E l src) (hs : noSt l = true) : PI X tg iter (iW X.w X.K ca cl cf E ik src) := by
  unfold iterArgs at h
  cases ik with
  | seq =>
    cases h
    cases ha with
    | cons h r => cases r; exact w_seq h
  | rng1 =>
    simp only at h
    split at h <;> try (cases h)
    split at h <;> try (cases h)
    rename_i c
    obtain ⟨rfl, c⟩ := c
    exact w_rng1 (O.gl _ c) (bn_of O (by decide)) (ha.pa hs) (noSt_cons hs _).1
  | rng2 =>
    simp only at h
    split at h <;> try (cases h)
    split at h <;> try (cases h)
    rename_i c
    obtain ⟨rfl, c⟩ := c
    obtain ⟨h1, h2⟩ := noSt_cons hs X.env
    obtain ⟨h3, h4⟩ := noSt_cons h2 X.env
    exact w_rng2 (O.gl _ c) (bn_of O (by decide)) (ha.pa hs) (by rw [h1, h3]; rfl) (by rw [h3]; rfl)
  | enum =>
    simp only at h
    split at h <;> try (cases h)
    split at h <;> try (cases h)
    rename_i c
    obtain ⟨rfl, c, c2⟩ := c
    cases tg <;> first | cases c2 | skip
    exact w_enum (O.gl _ c) (bn_of O (by decide)) (ha.pa hs) (noSt_cons hs _).1
  | zip =>
    simp only at h
    split at h <;> try (cases h)
    split at h <;> try (cases h)
    rename_i c
    obtain ⟨rfl, c, c2⟩ := c
    cases tg <;> first | cases c2 | skip
    obtain ⟨h1, h2⟩ := noSt_cons hs X.env
    exact w_zip (O.gl _ c) (bn_of O (by decide)) (ha.pa hs) h1 (noSt_any h2)
  | keys => cases h
theorem set_ok {iter : Expr} {env : Env} (h : notSetE iter = true) (x : Value) : foldedSetIterable iter env x = pure x := by
  cases iter <;> first | rfl | cases h
theorem tgNms_eq {N : List Str} : ∀ {es : List Expr} {is : List Nat}, tgNms N sc es is = true → tgNames N (isLoc sc) es is = true
  | [], [], _ => rfl
  | .Name x p :: es, i :: is, h => by
    simp only [tgNms, Bool.and_eq_true] at h
    simp only [tgNames, Bool.and_eq_true]
    exact ⟨h.1, tgNms_eq h.2⟩
  | [], _ :: _, h => by simp [tgNms] at h
  | e :: es, [], h => by cases e <;> simp [tgNms] at h
  | .BoolOp .. :: _, _ :: _, h => by simp [tgNms] at h
  | .NamedExpr .. :: _, _ :: _, h => by simp [tgNms] at h
  | .BinOp .. :: _, _ :: _, h => by simp [tgNms] at h
  | .UnaryOp .. :: _, _ :: _, h => by simp [tgNms] at h
  | .Lambda .. :: _, _ :: _, h => by simp [tgNms] at h
  | .IfExp .. :: _, _ :: _, h => by simp [tgNms] at h
  | .Dict .. :: _, _ :: _, h => by simp [tgNms] at h
  | .Set .. :: _, _ :: _, h => by simp [tgNms] at h
  | .ListComp .. :: _, _ :: _, h => by simp [tgNms] at h
  | .SetComp .. :: _, _ :: _, h => by simp [tgNms] at h
  | .DictComp .. :: _, _ :: _, h => by simp [tgNms] at h
  | .GeneratorExp .. :: _, _ :: _, h => by simp [tgNms] at h
  | .Await .. :: _, _ :: _, h => by simp [tgNms] at h
  | .Yield .. :: _, _ :: _, h => by simp [tgNms] at h
  | .YieldFrom .. :: _, _ :: _, h => by simp [tgNms] at h
  | .Compare .. :: _, _ :: _, h => by simp [tgNms] at h
  | .Call .. :: _, _ :: _, h => by simp [tgNms] at h
  | .FormattedValue .. :: _, _ :: _, h => by simp [tgNms] at h
  | .JoinedStr .. :: _, _ :: _, h => by simp [tgNms] at h
  | .Constant .. :: _, _ :: _, h => by simp [tgNms] at h
  | .Attribute .. :: _, _ :: _, h => by simp [tgNms] at h
  | .Subscript .. :: _, _ :: _, h => by simp [tgNms] at h
  | .Starred .. :: _, _ :: _, h => by simp [tgNms] at h
  | .List .. :: _, _ :: _, h => by simp [tgNms] at h
  | .Tuple .. :: _, _ :: _, h => by simp [tgNms] at h
  | .Slice .. :: _, _ :: _, h => by simp [tgNms] at h
theorem tg_ok (O : XO ca cl cf k fa fd ps G X sc E) {t : Tg} {tg : Expr} (h : ckT X.N sc t tg = true) : PG X tg (gT X.w X.K ca cl.at' t) := by
  unfold ckT at h
  cases t with
  | one i =>
    simp only at h
    split at h <;> try (cases h)
    simp only [Bool.and_eq_true, decide_eq_true_eq] at h
    obtain ⟨l1, l2⟩ := O.loc _ h.2
    exact g_one O.nod h.1 l1 l2
  | tup is =>
    simp only at h
    split at h <;> try (cases h)
    exact g_tup O.calm O.nod (fun x hx => O.loc x hx) (tgNms_eq h)
theorem own_ix {N : List Str} {t : Tg} : (ownOf N t).map (·.2) = tgIs t := by
  cases t <;> simp [ownOf, tgI, tgIs, Function.comp_def]
end
end Rl

set_option Elab.async false
set_option linter.all false
set_option maxRecDepth 100000
set_option autoImplicit false
set_option maxHeartbeats 4000000
/-! Sound14: what the check says is so: expressions, all of them. -/
namespace Rl
open PySem PySem.Spec PyProof.Rows L2
section
variable {ca : Nm → Addr} {cl : Cl} {cf : Cf} {k : Nat} {fa : Nm → Addr} {fd : Nm → FuncData} {ps : Nm → List Str} {G : CG}
theorem room_u {j n : Nat} {A : Around} (r : Room j A) (h : n ≤ 64) : A.units + n < cLine := by have := r.units; omega
theorem opB_ok {X : Cx} {E : XK} {o : Op} {f : Operator} (h : opB o f = true) : OpR X (binaryOp f) (rOp X.w X.K ca cl.at' E o) := by
  unfold opB at h
  split at h
  · exact o_add
  · exact o_sub
  · exact o_mul
  · exact o_fdiv
  · exact o_mod
  · exact o_pow
  · cases h
theorem opC_ok {X : Cx} {E : XK} {j : Nat} (r : Room (j + 1) X.A) {o : Op} {f : CmpOp} (h : opC o f = true) : OpR X (compareOp f) (rOp X.w X.K ca cl.at' E o) := by
  have hu : X.A.units + 65 < cLine := by have := r.un; omega
  unfold opC at h
  split at h
  · exact o_lt r.units0
  · exact o_le
  · exact o_gt
  · exact o_ge
  · exact o_eq r.units
  · exact o_ne r.units
  · exact o_isin hu
  · exact o_notin hu
  · cases h
theorem not_bool {e : Expr} (h : ∀ o es p, e ≠ .BoolOp o es p) {P : Prop} : ∀ o es p, e = .BoolOp o es p → P := fun o es p z => (h o es p z).elim
theorem main_mth {X : Cx} {sc : Scope} {E : XK} (O : XO ca cl cf k fa fd ps G X sc E) {b : Mb} {x : Expr} {g : Str} {ap p : Pos} {l : List Expr} {o es : Rl.E}
    (hb : (match mbNm b with | some n => decide (g = Str.ofString n) | none => false) = true) (ho : PEI X ca cl cf E x o) (ha : AllI X ca cl cf E l es) (hs : noSt l = true) (hl : l.length < 27) (hline : (ap.endLine == p.line) = true) (hp : plainBase x = true) :
    PEI X ca cl cf E (.Call (.Attribute x g ap) l [] p) (.mth b o es) := by
  have hu : X.A.units + 1 < cLine := room_u O.room (by decide)
  cases b <;> simp only [mbNm, decide_eq_true_eq, reduceCtorEq] at hb <;> (try cases hb)
  · exact p_mth (fun t' h => by simpa [mthTy] using h) (.inl rfl) mr_append ho (ha.pa hs) (base_ok hp) hline hs (by omega) ha.mnil
  · exact p_pop mr_popL (mr_popD hu) ho (ha.pa hs) (base_ok hp) hline hs (by omega) ha.mnil
  · exact p_mth (fun t' h => by simpa [mthTy] using h) (.inl rfl) mr_extend ho (ha.pa hs) (base_ok hp) hline hs (by omega) ha.mnil
  · exact p_mth (fun t' h => by simpa [mthTy] using h) (.inl rfl) mr_insert ho (ha.pa hs) (base_ok hp) hline hs (by omega) ha.mnil
  · exact p_mth (fun t' h => by simpa [mthTy] using h) (.inl rfl) mr_clear ho (ha.pa hs) (base_ok hp) hline hs (by omega) ha.mnil
  · exact p_mth (fun t' h => by simpa [mthTy] using h) (.inr rfl) (mr_get hu) ho (ha.pa hs) (base_ok hp) hline hs (by omega) ha.mnil
theorem main_bi {X : Cx} {sc : Scope} {E : XK} (O : XO ca cl cf k fa fd ps G X sc E) {b : Bi} {n : String} (hb : biNm b = some n) {p pos : Pos} {e : Expr} {l : List Expr} {es : Rl.E} (hg : isGl sc (Str.ofString n) = true) (ha : AllI X ca cl cf E (e :: l) es) (hs : noSt (e :: l) = true) :
    PEI X ca cl cf E (.Call (.Name (Str.ofString n) p) (e :: l) [] pos) (.bi b es) := by
  have h1 := (noSt_cons hs X.env).1
  have h2 := noSt_any (env := X.env) (pos := pos) (noSt_cons hs X.env).2
  have hg := O.gl _ hg
  have ha := ha.pa hs
  cases b <;> simp only [biNm, Option.some.injEq, reduceCtorEq] at hb <;> subst hb
  · exact p_biB b_abs hg (bn_of O (by decide)) (by decide +kernel) ha (by decide +kernel) (by decide +kernel) h1 h2
  · exact p_biB b_len hg (bn_of O (by decide)) (by decide +kernel) ha (by decide +kernel) (by decide +kernel) h1 h2
  · exact p_biT b_int hg (bn_of O (by decide)) (by decide +kernel) ha (by decide +kernel) (by decide +kernel) h1 h2
  · exact p_biT (b_list O.calm) hg (bn_of O (by decide)) (by decide +kernel) ha (by decide +kernel) (by decide +kernel) h1 h2
  · exact p_biT b_dict hg (bn_of O (by decide)) (by decide +kernel) ha (by decide +kernel) (by decide +kernel) h1 h2
  · exact p_biT b_tuple hg (bn_of O (by decide)) (by decide +kernel) ha (by decide +kernel) (by decide +kernel) h1 h2
  · exact p_biB b_sorted hg (bn_of O (by decide)) (by decide +kernel) ha (by decide +kernel) (by decide +kernel) h1 h2
  · exact p_biB (b_sum O.calm) hg (bn_of O (by decide)) (by decide +kernel) ha (by decide +kernel) (by decide +kernel) h1 h2
  · exact p_biB (b_all O.calm) hg (bn_of O (by decide)) (by decide +kernel) ha (by decide +kernel) (by decide +kernel) h1 h2
  · exact p_biB (b_max O.calm) hg (bn_of O (by decide)) (by decide +kernel) ha (by decide +kernel) (by decide +kernel) h1 h2
  · exact p_biB (b_min O.calm) hg (bn_of O (by decide)) (by decide +kernel) ha (by decide +kernel) (by decide +kernel) h1 h2
/-- the two sides of the induction -/
def ME (ca : Nm → Addr) (cl : Cl) (cf : Cf) (k : Nat) (fa : Nm → Addr) (fd : Nm → FuncData) (ps : Nm → List Str) (G : CG) (m : Rl.E) : Prop :=
  ∀ (X : Cx) (sc : Scope) (E : XK), XO ca cl cf k fa fd ps G X sc E → ∀ e, ckE G X.N sc m e = true → Good X ca cl cf E e m
def MEs (ca : Nm → Addr) (cl : Cl) (cf : Cf) (k : Nat) (fa : Nm → Addr) (fd : Nm → FuncData) (ps : Nm → List Str) (G : CG) (m : Rl.E) : Prop :=
  ∀ (X : Cx) (sc : Scope) (E : XK), XO ca cl cf k fa fd ps G X sc E → ∀ l, ckEs G X.N sc m l = true → AllI X ca cl cf E l m
theorem lc_ok {X : Cx} {sc : Scope} {E : XK} (O : XO ca cl cf k fa fd ps G X sc E) {t : Tg} {ik : Ik} {src mc me : Rl.E} {el tg iter : Expr} {ifs : List Expr} {scope : Scope}
    (isr : MEs ca cl cf k fa fd ps G src) (ic : ME ca cl cf k fa fd ps G mc) (ie : ME ca cl cf k fa fd ps G me)
    (h : ((match iterArgs sc ik tg iter with
      | some l => ckEs G X.N sc src l && noStars l
      | none => false) && notSetE iter && blkC X.N sc scope (ownOf X.N t) && ckT X.N scope t tg && ckE G X.N scope me el && (match ifs with
      | [] => decide (mc = .bl true)
      | [c] => ckE G X.N scope mc c && notIf c
      | _ => false)) = true) :
    PI X tg iter (iW X.w X.K ca cl cf E ik src) ∧ BlkOk X.N X.env.scope scope (ownOf X.N t) ∧
    (∀ (s : Shared) (H : Hp) (C : Addr) (cs : List (Str × Addr)) (fp : List Addr), PG (X.blk s H scope (compEnvC scope cs C X.env) fp) tg (gT X.w X.K ca cl.at' t)) ∧
    (∀ (s : Shared) (H : Hp) (C : Addr) (cs : List (Str × Addr)) (fp : List Addr), PTs (X.blk s H scope (compEnvC scope cs C X.env) fp) ifs (tIT X.w X.K ca cl cf EN mc)) ∧
    (∀ (s : Shared) (H : Hp) (C : Addr) (cs : List (Str × Addr)) (fp : List Addr), PE (X.blk s H scope (compEnvC scope cs C X.env) fp) el (tI X.w X.K ca cl cf EN me)) ∧ (∀ x, foldedSetIterable iter X.env x = pure x) := by
  simp only [Bool.and_eq_true] at h
  obtain ⟨⟨⟨⟨⟨h1, h2⟩, h3⟩, h4⟩, h5⟩, h6⟩ := h
  refine ⟨?_, O.bk _ _ h3, fun s H C cs fp => tg_ok (O.blk s H C cs fp) h4, fun s H C cs fp => ?_, fun s H C cs fp => (ie _ _ _ (O.blk s H C cs fp) el h5).1, set_ok h2⟩
  · split at h1
    · rename_i l hl
      simp only [Bool.and_eq_true] at h1
      exact iter_ok O hl (isr X sc E O l h1.1) (by rw [← noStars_eq]; exact h1.2)
    · cases h1
  · split at h6
    · exact pts_none (of_decide_eq_true h6)
    · simp only [Bool.and_eq_true] at h6
      exact pts_one ((ic _ _ _ (O.blk s H C cs fp) _ h6.1).2.1 h6.2)
    · cases h6
theorem main (m : Rl.E) : ME ca cl cf k fa fd ps G m ∧ MEs ca cl cf k fa fd ps G m := by
  induction m with
  | nil => 
    refine ⟨fun X sc E O e h => by simp [ckE] at h, fun X sc E O l h => ?_⟩
    simp only [ckEs] at h
    split at h
    · exact .nil
    · cases h
  | cons a r iha ihr =>
    refine ⟨fun X sc E O e h => by simp [ckE] at h, fun X sc E O l h => ?_⟩
    simp only [ckEs] at h
    split at h
    · simp only [Bool.and_eq_true] at h
      exact .cons (iha.1 X sc E O _ h.1).1 (ihr.2 X sc E O _ h.2)
    · cases h
  | slot i =>
    refine ⟨fun X sc E O e h => ?_, fun X sc E O l h => by simp [ckEs] at h⟩
    simp only [ckE] at h
    split at h <;> try (cases h)
    simp only [Bool.and_eq_true, decide_eq_true_eq] at h
    obtain ⟨d1, d2, d3⟩ := okd_iff h.2
    exact good_val (p_slot h.1.1 (O.vis _ h.1.2) d1 d2) (fun _ => rfl) (by intro _ _ _ z; cases z)
  | non =>
    refine ⟨fun X sc E O e h => ?_, fun X sc E O l h => by simp [ckEs] at h⟩
    simp only [ckE] at h
    split at h <;> try (cases h)
    exact good_val p_non (fun _ => rfl) (by intro _ _ _ z; cases z)
  | bl b =>
    refine ⟨fun X sc E O e h => ?_, fun X sc E O l h => by simp [ckEs] at h⟩
    simp only [ckE] at h
    split at h <;> try (cases h)
    have h := of_decide_eq_true h
    subst h
    exact good_val p_bl (fun _ => rfl) (by intro _ _ _ z; cases z)
  | int i =>
    refine ⟨fun X sc E O e h => ?_, fun X sc E O l h => by simp [ckEs] at h⟩
    simp only [ckE] at h
    split at h <;> try (cases h)
    have h := of_decide_eq_true h
    subst h
    exact good_val p_int (fun _ => rfl) (by intro _ _ _ z; cases z)
  | str s =>
    refine ⟨fun X sc E O e h => ?_, fun X sc E O l h => by simp [ckEs] at h⟩
    simp only [ckE] at h
    split at h <;> try (cases h)
    exact good_val (p_str (of_decide_eq_true h)) (fun _ => rfl) (by intro _ _ _ z; cases z)
  | kd f kvs =>
    refine ⟨fun X sc E O e h => ?_, fun X sc E O l h => by simp [ckEs] at h⟩
    simp only [ckE] at h
    split at h <;> try (cases h)
    simp only [Bool.and_eq_true, decide_eq_true_eq] at h
    obtain ⟨⟨⟨rfl, h2⟩, h3⟩, h4⟩ := h
    obtain ⟨d, e1, e2⟩ := O.ff.kd f kvs h4
    exact good_val (p_kd (O.gl _ h2) e1 e2 (okd_iff h3).1) (fun _ => rfl) (by intro _ _ _ z; cases z)
  | tup es ih =>
    refine ⟨fun X sc E O e h => ?_, fun X sc E O l h => by simp [ckEs] at h⟩
    simp only [ckE] at h
    split at h <;> try (cases h)
    simp only [Bool.and_eq_true] at h
    rw [noStars_eq] at h
    exact good_val (p_tup ((ih.2 X sc E O _ h.1).pa h.2)) (fun _ => rfl) (by intro _ _ _ z; cases z)
  | lst es ih =>
    refine ⟨fun X sc E O e h => ?_, fun X sc E O l h => by simp [ckEs] at h⟩
    simp only [ckE] at h
    split at h <;> try (cases h)
    simp only [Bool.and_eq_true] at h
    rw [noStars_eq] at h
    exact good_val (p_lst ((ih.2 X sc E O _ h.1).pa h.2)) (fun _ => rfl) (by intro _ _ _ z; cases z)
  | dict0 tk =>
    refine ⟨fun X sc E O e h => ?_, fun X sc E O l h => by simp [ckEs] at h⟩
    simp only [ckE] at h
    split at h <;> try (cases h)
    exact good_val p_dict0 (fun _ => rfl) (by intro _ _ _ z; cases z)
  | op o a b iha ihb =>
    refine ⟨fun X sc E O e h => ?_, fun X sc E O l h => by simp [ckEs] at h⟩
    simp only [ckE] at h
    split at h
    · simp only [Bool.and_eq_true] at h
      exact good_val (p_op (opB_ok h.1.1) (iha.1 X sc E O _ h.1.2).1 (ihb.1 X sc E O _ h.2).1) (fun _ => rfl) (by intro _ _ _ z; cases z)
    · simp only [Bool.and_eq_true, Bool.not_eq_true'] at h
      obtain ⟨⟨⟨h1, h2⟩, h3⟩, h4⟩ := h
      have pa := (iha.1 X sc E O _ h2).1
      have pb := (ihb.1 X sc E O _ h3).1
      exact ⟨p_cmp (opC_ok O.room h1) pa pb h4, fun _ => q_cmp (opC_ok O.room h1) pa pb h4, not_bool (by intro _ _ _ z; cases z)⟩
    · simp only [Bool.and_eq_true, decide_eq_true_eq] at h
      obtain ⟨⟨⟨rfl, h2⟩, h3⟩, h4⟩ := h
      exact good_val (p_item (o_item (room_u O.room (by decide))) (iha.1 X sc E O _ h2).1 (ihb.1 X sc E O _ h3).1 (ix_ok h4)) (fun _ => rfl) (by intro _ _ _ z; cases z)
    · cases h
  | neg a iha =>
    refine ⟨fun X sc E O e h => ?_, fun X sc E O l h => by simp [ckEs] at h⟩
    simp only [ckE] at h
    split at h <;> try (cases h)
    exact good_val (p_neg (iha.1 X sc E O _ h).1) (fun _ => rfl) (by intro _ _ _ z; cases z)
  | isN a iha =>
    refine ⟨fun X sc E O e h => ?_, fun X sc E O l h => by simp [ckEs] at h⟩
    simp only [ckE] at h
    split at h <;> try (cases h)
    have pa := (iha.1 X sc E O _ h).1
    exact ⟨p_isN pa, fun _ => q_isN pa, not_bool (by intro _ _ _ z; cases z)⟩
  | notN a iha =>
    refine ⟨fun X sc E O e h => ?_, fun X sc E O l h => by simp [ckEs] at h⟩
    simp only [ckE] at h
    split at h <;> try (cases h)
    have pa := (iha.1 X sc E O _ h).1
    exact ⟨p_notN pa, fun _ => q_notN pa, not_bool (by intro _ _ _ z; cases z)⟩
  | not a iha =>
    refine ⟨fun X sc E O e h => ?_, fun X sc E O l h => by simp [ckEs] at h⟩
    simp only [ckE] at h
    split at h <;> try (cases h)
    simp only [Bool.and_eq_true] at h
    have pa := iha.1 X sc E O _ h.1
    exact ⟨p_not pa.1, fun _ => q_not (pa.2.1 h.2), not_bool (by intro _ _ _ z; cases z)⟩
  | and a b iha ihb =>
    refine ⟨fun X sc E O e h => ?_, fun X sc E O l h => by simp [ckEs] at h⟩
    simp only [ckE] at h
    split at h
    · rename_i x y p
      simp only [Bool.and_eq_true] at h
      obtain ⟨⟨⟨h1, h2⟩, h3⟩, h4⟩ := h
      have pa := iha.1 X sc E O _ h1
      have pb := ihb.1 X sc E O _ h2
      have w : PWI X ca cl cf E (.BoolOp .And [x, y] p) (.and a b) := w_and (pa.2.1 h3) (w_one .And (pb.2.1 h4) (pos := p))
      exact ⟨p_and pa.1 (p_one pb.1 (pos := p)), fun _ => w.pt, fun o es p z => by cases z; exact w⟩
    · rename_i x y z r p
      simp only [Bool.and_eq_true] at h
      obtain ⟨⟨h1, h2⟩, h3⟩ := h
      have pa := iha.1 X sc E O _ h1
      have pb := ihb.1 X sc E O _ h2
      have w : PWI X ca cl cf E (.BoolOp .And (x :: y :: z :: r) p) (.and a b) := w_and (pa.2.1 h3) (pb.2.2 _ _ _ rfl)
      exact ⟨p_and pa.1 pb.1, fun _ => w.pt, fun o es p z => by cases z; exact w⟩
    · cases h
  | or a b iha ihb =>
    refine ⟨fun X sc E O e h => ?_, fun X sc E O l h => by simp [ckEs] at h⟩
    simp only [ckE] at h
    split at h
    · rename_i x y p
      simp only [Bool.and_eq_true] at h
      obtain ⟨⟨⟨h1, h2⟩, h3⟩, h4⟩ := h
      have pa := iha.1 X sc E O _ h1
      have pb := ihb.1 X sc E O _ h2
      have w : PWI X ca cl cf E (.BoolOp .Or [x, y] p) (.or a b) := w_or (pa.2.1 h3) (w_one .Or (pb.2.1 h4) (pos := p))
      exact ⟨p_or pa.1 (p_one pb.1 (pos := p)), fun _ => w.pt, fun o es p z => by cases z; exact w⟩
    · rename_i x y z r p
      simp only [Bool.and_eq_true] at h
      obtain ⟨⟨h1, h2⟩, h3⟩ := h
      have pa := iha.1 X sc E O _ h1
      have pb := ihb.1 X sc E O _ h2
      have w : PWI X ca cl cf E (.BoolOp .Or (x :: y :: z :: r) p) (.or a b) := w_or (pa.2.1 h3) (pb.2.2 _ _ _ rfl)
      exact ⟨p_or pa.1 pb.1, fun _ => w.pt, fun o es p z => by cases z; exact w⟩
    · cases h
  | ite c a b ihc iha ihb =>
    refine ⟨fun X sc E O e h => ?_, fun X sc E O l h => by simp [ckEs] at h⟩
    simp only [ckE] at h
    split at h <;> try (cases h)
    simp only [Bool.and_eq_true] at h
    obtain ⟨⟨⟨h1, h2⟩, h3⟩, h4⟩ := h
    exact ⟨p_ite ((ihc.1 X sc E O _ h1).2.1 h2) (iha.1 X sc E O _ h3).1 (ihb.1 X sc E O _ h4).1, fun z => by simp [notIf] at z, not_bool (by intro _ _ _ z; cases z)⟩
  | slice a lo hi iha ihl ihh =>
    refine ⟨fun X sc E O e h => ?_, fun X sc E O l h => by simp [ckEs] at h⟩
    simp only [ckE] at h
    split at h <;> try (cases h)
    rename_i x l u p2 p
    simp only [Bool.and_eq_true] at h
    obtain ⟨⟨h1, h2⟩, h3⟩ := h
    have po : ∀ {l : Option Expr} {lo : Rl.E}, ME ca cl cf k fa fd ps G lo → (match l with | none => lo.isNil | some v => !lo.isNil && ckE G X.N sc lo v) = true → PO X l (tPI X ca cl cf E lo) := by
      intro l lo ihl h2
      cases l with
      | none =>
        simp only at h2
        cases lo <;> first | exact po_nil | cases h2
      | some v =>
        simp only [Bool.and_eq_true, Bool.not_eq_true'] at h2
        exact po_e (ihl X sc E O _ h2.2).1 h2.1
    exact good_val (p_slice (iha.1 X sc E O _ h1).1 (po ihl.1 h2) (po ihh.1 h3)) (fun _ => rfl) (by intro _ _ _ z; cases z)
  | call f es ih =>
    refine ⟨fun X sc E O e h => ?_, fun X sc E O l h => by simp [ckEs] at h⟩
    simp only [ckE] at h
    split at h <;> try (cases h)
    simp only [Bool.and_eq_true, decide_eq_true_eq] at h
    obtain ⟨⟨⟨⟨⟨rfl, h2⟩, h3⟩, h4⟩, h5⟩, h6⟩ := h
    rw [noStars_eq] at h6
    obtain ⟨c1, c2, c3, c4⟩ := O.ff.call f h4
    have ha := ih.2 X sc E O _ h5
    exact good_val (p_call c1 (O.room.mono (Nat.le_succ _)) (O.gl _ h2) c2 c3 c4 O.pass (ha.pa h6) h6 ha.mnil (okd_iff h3).1) (fun _ => rfl) (by intro _ _ _ z; cases z)
  | meth o f es ds iho ihes =>
    refine ⟨fun X sc E O e h => ?_, fun X sc E O l h => by simp [ckEs] at h⟩
    simp only [ckE] at h
    split at h <;> try (cases h)
    simp only [Bool.and_eq_true, decide_eq_true_eq] at h
    obtain ⟨⟨⟨⟨⟨⟨rfl, h2⟩, h3⟩, h4⟩, h5⟩, h6⟩, h7⟩ := h
    rw [noStars_eq] at h4
    have ha := ihes.2 X sc E O _ h3
    exact good_val (p_meth (fun c f hf => O.ff.meth c _ f hf) (O.room.mono (Nat.le_succ _)) O.pass (iho.1 X sc E O _ h2).1 (ha.pa h4) (base_ok h7) h6 h4 (by omega) ha.mnil) (fun _ => rfl) (by intro _ _ _ z; cases z)
  | methK o f es mid kn v iho ihes ihv =>
    refine ⟨fun X sc E O e h => ?_, fun X sc E O l h => by simp [ckEs] at h⟩
    simp only [ckE] at h
    split at h <;> try (cases h)
    simp only [Bool.and_eq_true, decide_eq_true_eq] at h
    obtain ⟨⟨⟨⟨⟨⟨⟨⟨rfl, rfl⟩, h2⟩, h3⟩, h4⟩, h5⟩, h6⟩, h7⟩, h8⟩ := h
    rw [noStars_eq] at h5
    have ha := ihes.2 X sc E O _ h3
    exact good_val (p_methK (fun c f hf => O.ff.meth c _ f hf) (O.room.mono (Nat.le_succ _)) O.pass (iho.1 X sc E O _ h2).1 (ha.pa h5) (ihv.1 X sc E O _ h4).1 (base_ok h8) h7 h5 h6) (fun _ => rfl) (by intro _ _ _ z; cases z)
  | make c es ih =>
    refine ⟨fun X sc E O e h => ?_, fun X sc E O l h => by simp [ckEs] at h⟩
    simp only [ckE] at h
    split at h <;> try (cases h)
    simp only [Bool.and_eq_true, decide_eq_true_eq] at h
    obtain ⟨⟨⟨⟨⟨rfl, h2⟩, h3⟩, h4⟩, h5⟩, h6⟩ := h
    rw [noStars_eq] at h6
    obtain ⟨f, c0, c1, c2, c3, c4, c5, c6, c7⟩ := O.ff.make c h4
    have ha := ih.2 X sc E O _ h5
    exact good_val (p_make c0 c1 c2 c3 c4 c5 O.room (O.gl _ h2) c6 c7 O.pass (ha.pa h6) h6 ha.mnil (okd_iff h3).1) (fun _ => rfl) (by intro _ _ _ z; cases z)
  | fld o f iho =>
    refine ⟨fun X sc E O e h => ?_, fun X sc E O l h => by simp [ckEs] at h⟩
    simp only [ckE] at h
    split at h <;> try (cases h)
    simp only [Bool.and_eq_true, decide_eq_true_eq] at h
    obtain ⟨⟨rfl, h2⟩, h3⟩ := h
    exact good_val (p_fld (iho.1 X sc E O _ h2).1 (base_ok h3)) (fun _ => rfl) (by intro _ _ _ z; cases z)
  | bi b es ih =>
    refine ⟨fun X sc E O e h => ?_, fun X sc E O l h => by simp [ckEs] at h⟩
    simp only [ckE] at h
    split at h <;> try (cases h)
    rename_i x xp l0 l p
    cases hb : biNm b with
    | some n =>
      rw [hb] at h
      simp only [Bool.and_eq_true, decide_eq_true_eq] at h
      obtain ⟨⟨⟨rfl, h2⟩, h3⟩, h4⟩ := h
      rw [noStars_eq] at h4
      exact good_val (main_bi O hb h2 (ih.2 X sc E O _ h3) h4) (fun _ => rfl) (by intro _ _ _ z; cases z)
    | none =>
      rw [hb] at h
      simp only [Bool.and_eq_true, decide_eq_true_eq, List.isEmpty_iff] at h
      obtain ⟨⟨⟨⟨⟨rfl, rfl⟩, h2⟩, h3⟩, rfl⟩, h4⟩ := h
      split at h4
      · simp only [Bool.and_eq_true, decide_eq_true_eq] at h4
        obtain ⟨⟨rfl, h5⟩, h6⟩ := h4
        rw [noStars_eq] at h6
        have ha := ih.2 X sc E O _ h5
        cases ha with
        | cons a1 r1 =>
          cases r1
          exact good_val (p_listRg1 O.calm rfl rfl (O.gl _ h2) (bn_of O (by decide)) (O.gl _ h3) (bn_of O (by decide)) a1 (noSt_cons h6 _).1) (fun _ => rfl) (by intro _ _ _ z; cases z)
      · simp only [Bool.and_eq_true, decide_eq_true_eq] at h4
        obtain ⟨⟨rfl, h5⟩, h6⟩ := h4
        rw [noStars_eq] at h6
        have ha := ih.2 X sc E O _ h5
        cases ha with
        | cons a1 r1 =>
          cases r1 with
          | cons a2 r2 =>
            cases r2
            exact good_val (p_listRg2 O.calm rfl rfl (O.gl _ h2) (bn_of O (by decide)) (O.gl _ h3) (bn_of O (by decide)) a1 a2 (noSt_cons h6 _).1 (noSt_cons (noSt_cons h6 X.env).2 _).1) (fun _ => rfl) (by intro _ _ _ z; cases z)
      · cases h4
  | mth b o es iho ihes =>
    refine ⟨fun X sc E O e h => ?_, fun X sc E O l h => by simp [ckEs] at h⟩
    simp only [ckE] at h
    split at h <;> try (cases h)
    simp only [Bool.and_eq_true, decide_eq_true_eq] at h
    obtain ⟨⟨⟨⟨⟨⟨h1, h2⟩, h3⟩, h4⟩, h5⟩, h6⟩, h7⟩ := h
    rw [noStars_eq] at h4
    exact good_val (main_mth O h1 (iho.1 X sc E O _ h2).1 (ihes.2 X sc E O _ h3) h4 h5 h6 h7) (fun _ => rfl) (by intro _ _ _ z; cases z)
  | isTy a t iha =>
    refine ⟨fun X sc E O e h => ?_, fun X sc E O l h => by simp [ckEs] at h⟩
    simp only [ckE] at h
    split at h <;> try (cases h)
    rename_i x xp u y yp p
    simp only [Bool.and_eq_true, decide_eq_true_eq] at h
    obtain ⟨⟨⟨⟨rfl, h2⟩, h3⟩, h4⟩, h5⟩ := h
    rw [noStars_eq] at h5
    have hs : starEach [u, .Name y yp] X.env = (false, eval u X.env) :: starEach [.Name y yp] X.env := (noSt_cons (e := u) (es := [.Name y yp]) (by cases u <;> first | rfl | cases h5) X.env).1
    have key : ∀ t : Ty, t ≠ .inst → t ≠ .non → y = Str.ofString t.nm → X.mg y = none → y ≠ "__name__" → (y == ("__debug__" : Str)) = false → isGl sc y = true → Good X ca cl cf E (.Call (.Name ("isinstance" : Str) xp) [u, .Name y yp] [] p) (.isTy a t) := by
      intro t n1 n2 ey hm hn hd hg
      exact good_val (p_isTy rfl ey n1 n2 (O.gl _ h2) (bn_of O (by decide)) (O.gl _ hg) hm (iha.1 X sc E O _ h4).1 hn hd hs) (fun _ => rfl) (by intro _ _ _ z; cases z)
    cases t <;> simp only [tyNm, Bool.and_eq_true, decide_eq_true_eq, Bool.false_eq_true] at h3 <;> obtain ⟨rfl, h3⟩ := h3
    · exact key .int (by decide) (by decide) rfl (bn_of O (by decide)) (by decide +kernel) (by decide +kernel) h3
    · exact key .bool (by decide) (by decide) rfl (bn_of O (by decide)) (by decide +kernel) (by decide +kernel) h3
    · exact key .tuple (by decide) (by decide) rfl (bn_of O (by decide)) (by decide +kernel) (by decide +kernel) h3
    · exact key .list (by decide) (by decide) rfl (bn_of O (by decide)) (by decide +kernel) (by decide +kernel) h3
    · exact key .str (by decide) (by decide) rfl (bn_of O (by decide)) (by decide +kernel) (by decide +kernel) h3
    · exact key .dict (by decide) (by decide) rfl (bn_of O (by decide)) (by decide +kernel) (by decide +kernel) h3
  | comp t ik src cond elt ihs ihc ihe =>
    refine ⟨fun X sc E O e h => ?_, fun X sc E O l h => by simp [ckEs] at h⟩
    simp only [ckE] at h
    split at h <;> try (cases h)
    obtain ⟨w1, w2, w3, w4, w5, w6⟩ := lc_ok O ihs.2 ihc.1 ihe.1 h
    exact good_val (p_comp O.calm O.nod w1 w2 own_ix w3 w4 w5 w6) (fun _ => rfl) (by intro _ _ _ z; cases z)
end
end Rl

set_option Elab.async false
set_option linter.all false
set_option maxRecDepth 100000
set_option autoImplicit false
set_option maxHeartbeats 4000000
/-! Sound15: what the check says is so: statements. -/
namespace Rl
open PySem PySem.Spec PyProof.Rows L2
/-- a place in a def's body -/
structure XS (ca : Nm → Addr) (cl : Cl) (cf : Cf) (k : Nat) (fa : Nm → Addr) (fd : Nm → FuncData) (ps : Nm → List Str) (G : CG) (X : Cx) (sc : Scope) (E : XK) : Prop extends XO ca cl cf k fa fd ps G X sc E where
  own : PassesOwn (model X.prog X.w) X.A X.env X.xe
  tk : Takes X (fun cls d _ H => E cls d H)
  fun_ : X.env.scope.kind = .function
  loc1 : ∀ x, isLoc1 sc x = true → X.env.scope.names.lookup x = some .local
section
variable {ca : Nm → Addr} {cl : Cl} {cf : Cf} {k : Nat} {fa : Nm → Addr} {fd : Nm → FuncData} {ps : Nm → List Str} {G : CG}
def MS (ca : Nm → Addr) (cl : Cl) (cf : Cf) (k : Nat) (fa : Nm → Addr) (fd : Nm → FuncData) (ps : Nm → List Str) (G : CG) (m : Rl.S) : Prop :=
  ∀ (X : Cx) (sc : Scope) (E : XK), XS ca cl cf k fa fd ps G X sc E → ∀ e, ckS G X.N sc m e = true → PSI X ca cl cf E e m
def MSs (ca : Nm → Addr) (cl : Cl) (cf : Cf) (k : Nat) (fa : Nm → Addr) (fd : Nm → FuncData) (ps : Nm → List Str) (G : CG) (m : Rl.S) : Prop :=
  ∀ (X : Cx) (sc : Scope) (E : XK), XS ca cl cf k fa fd ps G X sc E → ∀ l, ckSs G X.N sc m l = true → PSSI X ca cl cf E l m
theorem sw_no {e : Expr} {t : Option Expr} {l : Nat} {env : Env} (h : notComp e = true) : swapsWith e t l env = pure false := by
  cases e <;> first | rfl | cases h
theorem sw_sole {e : Expr} {t : Expr} {l : Nat} {env : Env} (h : notComp e = true) : swapsWithSole [t] e l env = pure false := sw_no h
theorem sw_attr {e o : Expr} {f : Str} {p : Pos} {l : Nat} {env : Env} : swapsWith e (some (.Attribute o f p)) l env = pure false := by
  cases e <;> rfl
theorem sw_sub {e o i : Expr} {p : Pos} {l : Nat} {env : Env} : swapsWithSole [.Subscript o i p] e l env = pure false := by
  cases e <;> rfl
theorem sw_tup {e : Expr} {es : List Expr} {j : Nat} {p : Pos} {l : Nat} {env : Env} : swapsWithSole [.Tuple es j p] e l env = pure false := by
  cases e <;> rfl
theorem st_name {e : Expr} {x : Str} {p : Pos} {env : Env} : swappedStores [.Name x p] e env = pure none := by cases e <;> rfl
theorem st_sub {e o i : Expr} {p : Pos} {env : Env} : swappedStores [.Subscript o i p] e env = pure none := by cases e <;> rfl
theorem st_tup {e : Expr} {es : List Expr} {j : Nat} {p : Pos} {env : Env} (h : notTup e = true) : swappedStores [.Tuple es j p] e env = pure none := by
  cases e <;> first | rfl | cases h
theorem as_sub {o i : Expr} {p : Pos} {env : Env} (h : notSlice i = true) (v : Value) : assign (.Subscript o i p) env v = (do
      let ov ← holding [v] (eval o env)
      let iv ← holding [v, ov] (eval i env)
      standAt p
      holding [v, ov, iv] (setItem ov iv v)
      release [v, ov, iv] []) := by
  cases i <;> first | rfl | cases h
theorem mainS (m : Rl.S) : MS ca cl cf k fa fd ps G m ∧ MSs ca cl cf k fa fd ps G m := by
  induction m with
  | nil =>
    refine ⟨fun X sc E O e h => by simp [ckS] at h, fun X sc E O l h => ?_⟩
    simp only [ckSs] at h
    split at h
    · exact ss_nil
    · cases h
  | seq a r iha ihr =>
    refine ⟨fun X sc E O e h => by simp [ckS] at h, fun X sc E O l h => ?_⟩
    simp only [ckSs] at h
    split at h
    · simp only [Bool.and_eq_true] at h
      exact ss_cons (iha.1 X sc E O _ h.1) (ihr.2 X sc E O _ h.2)
    · cases h
  | pass =>
    refine ⟨fun X sc E O e h => ?_, fun X sc E O l h => by simp [ckSs] at h⟩
    simp only [ckS] at h
    split at h
    · exact s_pass
    · exact s_doc
    · cases h
  | asg t e =>
    refine ⟨fun X sc E O st h => ?_, fun X sc E O l h => by simp [ckSs] at h⟩
    simp only [ckS] at h
    split at h <;> try (cases h)
    rename_i tg x p
    simp only [Bool.and_eq_true] at h
    obtain ⟨⟨h1, h2⟩, h3⟩ := h
    have pg := tg_ok O.toXO h1
    have pe := ((main e).1 X sc E O.toXO x h2).1
    split at h3
    · rename_i y py
      simp only [Bool.or_eq_true] at h3
      by_cases hn : notComp x = true
      · exact s_asg pe pg (sw_sole hn) st_name rfl
      · rcases h3 with h3 | h3
        · exact (hn h3).elim
        · split at h3
          · rename_i el gs scope cp
            simp only [Bool.and_eq_true, Bool.not_eq_true'] at h3
            obtain ⟨⟨h4, h5⟩, h6⟩ := h3
            cases e with
            | comp t2 ik src mc me =>
              simp only [ckE] at h2
              split at h2 <;> try (cases h2)
              rename_i heq
              cases heq
              obtain ⟨w1, w2, w3, w4, w5, w6⟩ := lc_ok O.toXO (main src).2 (main mc).1 (main me).1 h2
              cases t with
              | one i =>
                simp only [ckT, Bool.and_eq_true, decide_eq_true_eq] at h1
                exact s_setLc O.calm O.nod h1.1 (O.loc1 _ h4) (sw_true O.fun_ (O.loc1 _ h4) h5 h6) w1 w2 own_ix w3 w4 w5 w6
              | tup is => simp [ckT] at h1
            | _ => simp [ckE] at h2
          · cases h3
    · exact s_asg pe pg sw_tup (st_tup h3) rfl
    · cases h3
  | fset o f e =>
    refine ⟨fun X sc E O st h => ?_, fun X sc E O l h => by simp [ckSs] at h⟩
    simp only [ckS] at h
    split at h <;> try (cases h)
    simp only [Bool.and_eq_true, decide_eq_true_eq] at h
    obtain ⟨⟨rfl, h1⟩, h2⟩ := h
    exact s_fset ((main o).1 X sc E O.toXO _ h1).1 ((main e).1 X sc E O.toXO _ h2).1 sw_attr
  | iset o i e =>
    refine ⟨fun X sc E O st h => ?_, fun X sc E O l h => by simp [ckSs] at h⟩
    simp only [ckS] at h
    split at h <;> try (cases h)
    simp only [Bool.and_eq_true] at h
    obtain ⟨⟨⟨h1, h2⟩, h3⟩, h4⟩ := h
    exact s_iset (room_u O.room (by decide)) ((main o).1 X sc E O.toXO _ h1).1 ((main i).1 X sc E O.toXO _ h2).1 ((main e).1 X sc E O.toXO _ h4).1 (as_sub h3) sw_sub st_sub
  | exp e =>
    refine ⟨fun X sc E O st h => ?_, fun X sc E O l h => by simp [ckSs] at h⟩
    simp only [ckS] at h
    split at h <;> try (cases h)
    simp only [Bool.and_eq_true] at h
    exact s_exp ((main e).1 X sc E O.toXO _ h.1).1 (sw_no h.2)
  | ret e =>
    refine ⟨fun X sc E O st h => ?_, fun X sc E O l h => by simp [ckSs] at h⟩
    simp only [ckS] at h
    split at h <;> try (cases h)
    exact s_ret ((main e).1 X sc E O.toXO _ h).1
  | retN =>
    refine ⟨fun X sc E O st h => ?_, fun X sc E O l h => by simp [ckSs] at h⟩
    simp only [ckS] at h
    split at h <;> try (cases h)
    exact s_retN
  | ite c a b iha ihb =>
    refine ⟨fun X sc E O st h => ?_, fun X sc E O l h => by simp [ckSs] at h⟩
    simp only [ckS] at h
    split at h <;> try (cases h)
    simp only [Bool.and_eq_true] at h
    obtain ⟨⟨⟨h1, h2⟩, h3⟩, h4⟩ := h
    exact s_ite (((main c).1 X sc E O.toXO _ h1).2.1 h2) (iha.2 X sc E O _ h3) (ihb.2 X sc E O _ h4)
  | «while» c b ihb =>
    refine ⟨fun X sc E O st h => ?_, fun X sc E O l h => by simp [ckSs] at h⟩
    simp only [ckS] at h
    split at h <;> try (cases h)
    simp only [Bool.and_eq_true] at h
    obtain ⟨⟨h1, h2⟩, h3⟩ := h
    exact s_while O.own (((main c).1 X sc E O.toXO _ h1).2.1 h2) (ihb.2 X sc E O _ h3)
  | «for» t ik src b ihb =>
    refine ⟨fun X sc E O st h => ?_, fun X sc E O l h => by simp [ckSs] at h⟩
    simp only [ckS] at h
    split at h <;> try (cases h)
    simp only [Bool.and_eq_true] at h
    obtain ⟨⟨⟨h1, h2⟩, h3⟩, h4⟩ := h
    split at h1
    · rename_i l hl
      simp only [Bool.and_eq_true] at h1
      exact s_for O.own O.calm (iter_ok O.toXO hl ((main src).2 X sc E O.toXO l h1.1) (by rw [← noStars_eq]; exact h1.2)) (tg_ok O.toXO h3) (ihb.2 X sc E O _ h4) (set_ok h2)
    · cases h1
  | raise c =>
    refine ⟨fun X sc E O st h => ?_, fun X sc E O l h => by simp [ckSs] at h⟩
    simp only [ckS] at h
    split at h <;> try (cases h)
    simp only [Bool.and_eq_true, decide_eq_true_eq] at h
    obtain ⟨⟨⟨rfl, h2⟩, h3⟩, h4⟩ := h
    exact s_raise O.calm O.tk (O.ff.exc c h4) (O.gl _ h2) (okd_iff h3).1
end
end Rl

set_option Elab.async false
set_option linter.all false
set_option maxRecDepth 100000
set_option autoImplicit false
set_option maxHeartbeats 4000000
/-! Sound16: the defs, the law. -/
namespace Rl
open PySem PySem.Spec PyProof.Rows L2
/-- a def of the text stands for an own def -/
def defC (G : CG) (N ps : List Str) (F : FD) (st : Stmt) : Bool :=
  (match (defScope st).kind with | .function => true | _ => false) && !(defScope st).isCoroutine && !(defScope st).isGenerator && decide N.Nodup && decide (N.take ps.length = ps) && (ps.all fun x => isLoc (defScope st) x) &&
    ((defScope st).names.all fun y => match y.2 with | .free => false | _ => true) && decide (F.np = ps.length) && decide (F.ns = N.length) && ckSs G N (defScope st) F.body (defBody st)
theorem defC_scope {G : CG} {N ps : List Str} {F : FD} {st : Stmt} (h : defC G N ps F st = true) : FnScope N ps (defScope st) ∧ F.np = ps.length ∧ F.ns = N.length ∧ ckSs G N (defScope st) F.body (defBody st) = true := by
  unfold defC at h
  simp only [Bool.and_eq_true, decide_eq_true_eq, Bool.not_eq_true', List.all_eq_true] at h
  obtain ⟨⟨⟨⟨⟨⟨⟨⟨⟨h1, h2⟩, h3⟩, h4⟩, h5⟩, h6⟩, h7⟩, h8⟩, h9⟩, h10⟩ := h
  refine ⟨⟨?_, h2, h3, h4, h5, fun x hx => isLoc_iff (h6 x hx), fun y hy e => ?_⟩, h8, h9, h10⟩
  · split at h1
    · assumption
    · cases h1
  · have := h7 y hy
    rw [e] at this
    cases this
/-- how an own def stands in the written part -/
def DF (K : PySem.W.Frag) (G : CG) (fa : Addr) (fd : FuncData) (ps : List Str) (F : FD) : Prop := ∃ (name qual : Str) (st : Stmt) (N : List Str) (dV kV doc pm : Value) (an : Option Addr) (cdv ct oc : Value) (od : Option Addr) (osl : Array (Option Value)),
  fd = PySem.W.fnOf name qual (defArgs st) (defBody st) (defScope st) dV kV doc pm an cdv ct ∧ K.lookup fa = some ⟨oc, od, .func fd, osl⟩ ∧ PySem.W.codeIn K cdv qual = true ∧ defC G N ps F st = true
/-- what is known of the names, without the calls -/
structure Stat (w : World) (K : PySem.W.Frag) (mg : Str → Option Value) (ca : Nm → Addr) (P : Prg) (fa : Nm → Addr) (fd : Nm → FuncData) (ps : Nm → List Str) (G : CG) : Prop where
  call : ∀ f, G.fn f = true → (P.fn f).isSome = true ∧ mg f.str = some (.ref (fa f)) ∧ PySem.W.keepIn K (.ref (fa f)) = true ∧ Binds K (fd f) (ps f) []
  make : ∀ c, G.ini c = true → ∃ f, P.cl.init c = some f ∧ Mk K (ca c) (fa f) ∧ Cls K (ca c) ∧ (∀ g ∈ P.cl.at' c, NoAttr K (ca c) g.str) ∧ NmOk (P.cl.at' c) ∧ (P.fn f).isSome = true ∧ mg c.str = some (.ref (ca c)) ∧ Binds K (fd f) (ps f) []
  meth : ∀ c m f, P.cl.mth c m = some f → (P.fn f).isSome = true ∧ Meth K (ca c) m.str (fa f) ∧ (∀ g ∈ P.cl.at' c, g.str ≠ m.str) ∧
    (∀ ds, ds.isSuffixOf (P.cl.dfl f) = true → ∃ dv dvs, CVs ds dv ∧ Vals dv dvs ∧ Binds K (fd f) (ps f) dvs) ∧
    (∀ mid kn, P.cl.kw f = some (mid, kn) → ∃ dv dvs, CVs mid dv ∧ Vals dv dvs ∧ ∀ (s : Shared) (us : List Value) (w : Value), K.In s.heap → (us ++ dvs ++ [w]).length = (ps f).length → BindsTo s (fd f) ⟨us, [(kn.str, w)]⟩ ((ps f).zip (us ++ dvs ++ [w])))
  kd : ∀ x kvs, G.kd x kvs = true → ∃ d, mg x.str = some (.ref d) ∧ KDat K w d kvs
  exc : ∀ c, G.exc c = true → ExcF K mg c.str (ca c)
  bn : ∀ x ∈ bnNames, mg (Str.ofString x) = none
  df : ∀ f F, P.fn f = some F → DF K G (fa f) (fd f) (ps f) F
section
variable {prog : Program} {w : World} {K : PySem.W.Frag} {mg : Str → Option Value} {base : Heap} {ca : Nm → Addr} {P : Prg} {fa : Nm → Addr} {fd : Nm → FuncData} {ps : Nm → List Str} {G : CG}
theorem Stat.ff (S : Stat w K mg ca P fa fd ps G) {d : Nat} (h : ∀ f F, P.fn f = some F → CallOk prog w K mg base ca P.cl (callD P d) (L2.CX prog w) (2 * d) f (fa f) (fd f) (ps f)) : FF prog w K mg base ca P.cl (callD P d) (L2.CX prog w) (2 * d) fa fd ps G := by
  have h' : ∀ f, (P.fn f).isSome = true → CallOk prog w K mg base ca P.cl (callD P d) (L2.CX prog w) (2 * d) f (fa f) (fd f) (ps f) := fun f hf => by
    obtain ⟨F, hF⟩ := Option.isSome_iff_exists.mp hf
    exact h f F hF
  refine ⟨fun f hf => ?_, fun c hc => ?_, fun c m f hm => ?_, S.kd, S.exc, S.bn⟩
  · obtain ⟨a, b, c, e⟩ := S.call f hf
    exact ⟨h' f a, b, c, e⟩
  · obtain ⟨f, a1, a2, a3, a4, a5, a6, a7, a8⟩ := S.make c hc
    exact ⟨f, a1, a2, a3, a4, a5, h' f a6, a7, a8⟩
  · obtain ⟨a1, a2, a3, a4, a5⟩ := S.meth c m f hm
    exact ⟨h' f a1, a2, a3, a4, a5⟩
theorem callD_len {d : Nat} {f : Nm} {F : FD} (hF : P.fn f = some F) {as : List AV} {h : AH} (e : as.length ≠ F.np) : callD P d f as h = .bad := by
  cases d with
  | zero => rfl
  | succ d => simp only [callD, hF, if_neg e]
theorem start_ss {w : World} {K : PySem.W.Frag} {at' : Nm → List Nm} {N : List Str} {ρ : List Addr} {h : AH} {H : Hp} {as : List AV} {vs : List V} {n : Nat} (r : RH w K ca at' ρ h H) (ra : RAs w K ρ H as vs) (hn : n = N.length - vs.length) : SS w K ca at' ρ (as.map some ++ List.replicate n none) h (L2.start N vs) H := by
  subst hn
  refine ⟨fun i v e => ?_, by simp [L2.start, ra.length], r⟩
  by_cases hi : i < as.length
  · rw [List.getElem?_append_left (by simpa using hi), List.getElem?_map] at e
    have e : as[i]? = some v := by
      cases q : as[i]? with
      | none => rw [q] at e; simp at e
      | some z => rw [q] at e; simpa using e
    obtain ⟨v', h1, h2⟩ := ra.get e
    refine ⟨v', ?_, h2⟩
    unfold L2.start
    rw [List.getElem?_append_left (by simpa [← ra.length] using hi), List.getElem?_map, h1]
    rfl
  · rw [List.getElem?_append_right (by simpa using hi)] at e
    rw [List.getElem?_replicate] at e
    split at e <;> cases e
theorem all_ok (S : Stat w K mg ca P fa fd ps G) : ∀ (d : Nat) f F, P.fn f = some F → CallOk prog w K mg base ca P.cl (callD P d) (L2.CX prog w) (2 * d) f (fa f) (fd f) (ps f) := by
  intro d
  induction d with
  | zero =>
    intro f F hF
    refine ⟨⟨fun vs H Q E q => q.1, fun A outer s H args us vs Q E _ _ _ _ q => ?_⟩, fun as h _ => rfl⟩
    obtain ⟨_, ρ, h, as, _, _, k⟩ := q
    exact k.elim
  | succ d ih =>
    intro f F hF
    have ff := S.ff (prog := prog) (base := base) ih
    obtain ⟨name, qual, st, N, dV, kV, doc, pm, an, cdv, ct, oc, od, osl, efd, lk, hcd, hck⟩ := S.df f F hF
    obtain ⟨sc, hnp, hns, hck⟩ := defC_scope hck
    refine ⟨?_, fun as h e => callD_len hF (by rw [hnp]; exact e)⟩
    rw [efd] at lk ⊢
    refine fn_of (k := 2 * d + 1) lk hcd sc (fun vs H Q E q => q.1) fun A outer s H vs Q E hr q => ?_
    obtain ⟨hl, ρ, h, as, rh, ra, k⟩ := q
    have tk : Takes (cxOf (L2.CX prog w) prog w K mg base N qual (defScope st) (fa f) cdv A outer s H E) (fun cls d _ H => E cls d H) := takes_of rfl rfl rfl rfl
    have O : XS ca P.cl (callD P d) (2 * d) fa fd ps G (cxOf (L2.CX prog w) prog w K mg base N qual (defScope st) (fa f) cdv A outer s H E) (defScope st) E :=
      { nod := sc.nd, calm := rfl, vis := fun x h => isVis_iff h, gl := fun x h => isGl_iff h, loc := fun x h => ⟨isLoc_iff h, .inl rfl⟩, bk := fun scope own h => blkOk_by h,
        pass := passes_call tk (fun _ _ _ _ h => h), room := hr, ff := ff, own := passes_of rfl, tk := tk, fun_ := sc.kind,
        loc1 := fun x h => by
          show (defScope st).names.lookup x = _
          unfold isLoc1 at h
          split at h <;> first | assumption | cases h }
    refine ⟨_, (mainS F.body).2 _ _ _ O _ hck, ρ, as.map some ++ List.replicate (F.ns - F.np) none, h, start_ss rh ra (by rw [hns, hnp, hl]), ?_⟩
    have hla : as.length = F.np := by rw [ra.length, hl, hnp]
    simp only [callD, hF, if_pos hla] at k
    show KS w K ca P.cl.at' E (ex P.cl (callD P d) F.body (as.map some ++ List.replicate (F.ns - F.np) none) h) ρ H _
    generalize ex P.cl (callD P d) F.body (as.map some ++ List.replicate (F.ns - F.np) none) h = r at k
    cases r with
    | nx a h1 => exact fun ρ' H' σ' L S1 => k ρ' H' .non L S1.hp .non
    | rt v h1 => exact k
    | exc c h1 => exact k
    | bad => exact k
/-- the law's promise -/
def spLaw (K : PySem.W.Frag) (n : Nat) : Sp := fun vs H Q _ => ∃ (a : Addr) (ns : List Int), vs = [.ref a] ∧ Only H ∧ SqL K H a (ns.map V.int) ∧ ns.length ≤ n ∧ ∀ H', Q (.bl true) H'
def AH0 : AH := ⟨fun _ => none, 0⟩
theorem law_ok (S : Stat w K mg ca P fa fd ps G) (d n : Nat) {f : Nm} {F : FD} (hF : P.fn f = some F) (hps : (ps f).length = 1) (hm : ∀ ns : List Int, ns.length ≤ n → ∃ h, callD P d f [.rl (ns.map .int)] AH0 = .ok (.bl true) h) :
    FnOk prog w K mg base (L2.CX prog w) (2 * d) (fa f) (fd f) (ps f) (spLaw K n) := by
  refine (all_ok (prog := prog) (base := base) S d f F hF).ok.imp fun vs H Q E ⟨a, ns, e, hO, hS, hl, hq⟩ => ?_
  subst e
  obtain ⟨h1, e1⟩ := hm ns hl
  refine ⟨hps.symm, [], AH0, [.rl (ns.map .int)], ⟨rfl, fun n a e => by simp at e, fun n m a e => by simp at e, fun n o e => by cases e⟩, .cons (.rl ?_ (.of_ints ns)) .nil, ?_⟩
  · rcases hS with h | h
    · rcases h with h | ⟨o, h⟩
      · rcases hO a with z | ⟨o, xs, z⟩ <;> (rw [z] at h; cases h)
      · exact .inl ⟨o, h⟩
    · exact .inr h
  · rw [e1]
    intro ρ' H' v' L r1 r2
    cases r2
    exact hq H'
theorem walkL {l : PySem.W.OpenLaw} {q : Program} {loose : List Str} {XP : (Str → Option Value) → Heap → Prop} {YP : World → Heap → Prop} {d : DefRec} {K : Params → PySem.W.Frag} {n k : Nat} {x : Str} (hn : l.most = some n) (hn2 : n ≤ sizeLine) (hr : Room k callerA) (hdf : d.params.defaults = [])
    (hY : ∀ (w : World) (h : Heap), YP w h → (K w.params).In h)
    (F : ∀ (w : World) (mg : Str → Option Value) (fa : Addr) (h : Heap), (K w.params).In h → h.Ns mainGlobals mg → mg d.name = some (.ref fa) →
      ∃ fd : FuncData, (∀ (s : Shared) (u : Value), BindsTo s fd ⟨[u], []⟩ [(x, u)]) ∧ ∀ base : Heap, (K w.params).In base → base.Ns mainGlobals mg → FnOk l.prog w (K w.params) mg base (L2.CX l.prog w) k fa fd [x] (spLaw (K w.params) n)) :
    PySem.W.WalkO q loose XP YP l.row.toRowW d [] (fun f vs => PySem.call f vs) :=
  L2.walk_of (n := n) (k := k) (x := x) (CX := fun w => L2.CX l.prog w) (sp := fun w => spLaw (K w.params) n) hn hn2 hdf hr hY F (fun _ _ a ns hl hO hS => ⟨a, ns, rfl, hO, hS, hl, fun _ => rfl⟩) fun _ _ _ _ _ h => by
    obtain ⟨_, _, _, _, _, _, _, _, _, _, _, _, z⟩ := h
    exact z
end
end Rl

set_option Elab.async false
set_option linter.all false
set_option maxRecDepth 100000
set_option autoImplicit false
set_option maxHeartbeats 4000000
/-! Sound17: tables of a law, the facts they ask, what follows. -/
namespace Rl
open PySem PySem.Spec PyProof.Rows L2
/-- a def of a law's text: its name; where it stands; its statement; its slots, parameters; the own def; defaults; the call with one keyword -/
structure DD where
  nm : Nm
  at_ : Str × Option Str
  qual : Str
  st : Stmt
  N : List Str
  ps : List Str
  F : FD
  dfl : List AV := []
  kw : Option (List AV × Nm) := none
/-- a class -/
structure CD where
  nm : Nm
  at' : List Nm
  ini : Option Nm
  mth : List (Nm × Nm)
structure LT where
  ds : List DD
  cs : List CD
  kds : List (Nm × List (Tx × Int))
  exs : List Nm
def LT.d (T : LT) (f : Nm) : Option DD := T.ds.find? fun d => decide (d.nm = f)
def LT.c (T : LT) (f : Nm) : Option CD := T.cs.find? fun d => decide (d.nm = f)
def LT.P (T : LT) : Prg where
  fn := fun f => (T.d f).map (·.F)
  cl :=
    { init := fun c => (T.c c).bind (·.ini)
      mth := fun c m => (T.c c).bind fun c => (c.mth.find? fun p => decide (p.1 = m)).map (·.2)
      at' := fun c => match T.c c with
        | some c => c.at'
        | none => []
      dfl := fun f => match T.d f with
        | some d => d.dfl
        | none => []
      kw := fun f => (T.d f).bind (·.kw) }
def LT.G (T : LT) : CG where
  fn := fun f => match T.d f with
    | some d => decide (d.at_ = (f.str, none))
    | none => false
  ini := fun c => match T.c c with
    | some c => c.ini.isSome
    | none => false
  kd := fun x kvs => decide ((x, kvs) ∈ T.kds)
  exc := fun c => decide (c ∈ T.exs)
def dvOf : AV → He.Dv
  | .int i => .int i
  | .bl b => .bl b
  | _ => .non
def vOf : AV → V
  | .int i => .int i
  | .bl b => .bl b
  | _ => .non
def DD.d (d : DD) : He.DefD := ⟨d.at_, (match d.at_.2 with | some m => m | none => d.at_.1), d.qual, defArgs d.st, defBody d.st, defScope d.st, d.dfl.map dvOf, []⟩
def sT (s : Tx) : Str := ⟨s.toArray⟩
def LT.fa (T : LT) : List He.Fa :=
  bnNames.map (fun x => He.Fa.free (Str.ofString x)) ++ (T.ds.filter fun d => d.at_.2.isNone).map (fun d => He.Fa.glo d.at_.1) ++
  T.cs.flatMap (fun c => [He.Fa.glo c.nm.str, He.Fa.cls c.nm.str] ++ c.at'.map (fun g => He.Fa.noat c.nm.str g.str) ++ c.mth.map (fun p => He.Fa.meth c.nm.str p.1.str) ++ (if c.ini.isSome then [He.Fa.mkr c.nm.str] else [])) ++
  T.exs.flatMap (fun c => [He.Fa.glo c.str, He.Fa.exc c.str]) ++ T.kds.map (fun p => He.Fa.glo p.1.str)
def LT.fn (T : LT) : List He.DefD := T.ds.map DD.d
def LT.ts (T : LT) : List He.Tab := T.kds.map fun p => ((fun K => He.ga K p.1.str), p.2.map fun q => sT q.1)
def LT.ex (T : LT) (K : PySem.W.Frag) : Bool := T.kds.all fun p => He.valsB K (He.ga K p.1.str) (p.2.map fun q => (sT q.1, He.Dv.int q.2))
/-- how a def's arguments bind -/
def BD (K : PySem.W.Frag) (d : DD) (fd : FuncData) : Prop :=
  (∀ ds, ds.isSuffixOf d.dfl = true → ∃ dv dvs, CVs ds dv ∧ Vals dv dvs ∧ Binds K fd d.ps dvs) ∧
  (∀ mid kn, d.kw = some (mid, kn) → ∃ dv dvs, CVs mid dv ∧ Vals dv dvs ∧ ∀ (s : Shared) (us : List Value) (w : Value), K.In s.heap → (us ++ dvs ++ [w]).length = d.ps.length → BindsTo s fd ⟨us, [(kn.str, w)]⟩ (d.ps.zip (us ++ dvs ++ [w])))
abbrev DD.FD (d : DD) (K : PySem.W.Frag) (fd : FuncData) : Prop := FunD K d.d.name d.d.qual d.d.params d.d.body d.d.scope (d.d.dvs K) (d.d.kws K) (He.fAd K d.d.at_) fd
theorem bd_plain {K : PySem.W.Frag} {d : DD} {fd : FuncData} (F : d.FD K fd) (h1 : d.dfl = []) (h2 : d.kw = none)
    (h : ∀ (kV doc pm : Value) (an : Option Addr) (cdv ct : Value) (us : List Value), us.length = d.ps.length → bindArgs (PySem.W.fnOf d.d.name d.d.qual d.d.params d.d.body d.d.scope .none kV doc pm an cdv ct) ⟨us, []⟩ = pure (d.ps.zip us)) : BD K d fd := by
  refine ⟨fun ds hs => ?_, fun mid kn e => by rw [h2] at e; cases e⟩
  rw [h1] at hs
  have : ds = [] := by simpa using hs
  subst this
  have e : d.d.dvs K = [] := by simp [He.DefD.dvs, DD.d, h1]
  unfold DD.FD at F
  rw [e] at F
  exact ⟨[], [], .nil, .nil, F.bindsN h⟩
def nmOkB (l : List Nm) : Bool := l.all fun f => l.all fun g => !decide (f.str = g.str) || decide (f = g)
/-- the tables fit together -/
def LT.ok (T : LT) : Bool :=
  (T.ds.all fun d => defC T.G d.N d.ps d.F d.st) &&
  T.cs.all fun c => nmOkB c.at' && (c.mth.all fun p => (match T.d p.2 with
      | some d => decide (d.at_ = (c.nm.str, some p.1.str))
      | none => false) && c.at'.all fun g => !decide (g.str = p.1.str)) && (match c.ini with
      | some f => (match T.d f with
        | some d => decide (d.at_ = (c.nm.str, some ("__init__" : Str)))
        | none => false)
      | none => true)
section
variable {w : World} {K : PySem.W.Frag} {h : Heap} {mg : Str → Option Value} {T : LT}
theorem LT.d_mem {f : Nm} {d : DD} (e : T.d f = some d) : d ∈ T.ds ∧ d.nm = f := ⟨List.mem_of_find?_eq_some e, by simpa using List.find?_some e⟩
theorem LT.c_mem {f : Nm} {d : CD} (e : T.c f = some d) : d ∈ T.cs ∧ d.nm = f := ⟨List.mem_of_find?_eq_some e, by simpa using List.find?_some e⟩
open Classical in
noncomputable def LT.fd (T : LT) (K : PySem.W.Frag) (f : Nm) : FuncData := match T.d f with
  | some d => if h : ∃ fd, d.FD K fd then choose h else PySem.W.fnOf d.d.name d.d.qual d.d.params d.d.body d.d.scope .none .none .none .none none .none .none
  | none => PySem.W.fnOf ("law" : Str) ("law" : Str) ⟨[], [], none, [], [], none, []⟩ [] ⟨.function, [], false, false, []⟩ .none .none .none .none none .none .none
def LT.fad (T : LT) (K : PySem.W.Frag) (f : Nm) : Addr := match T.d f with
  | some d => He.fAd K d.at_
  | none => 0
def LT.ps (T : LT) (f : Nm) : List Str := match T.d f with
  | some d => d.ps
  | none => []
theorem kd_look {P : Params} {K : PySem.W.Frag} {a : Addr} {kvs : List (Tx × Int)} (h1 : He.dicW K a = some (He.keysIn P (kvs.map fun q => sT q.1))) (h2 : He.valsB K a (kvs.map fun q => (sT q.1, He.Dv.int q.2)) = true) (s : Tx) :
    ∃ r, PySem.W.nsIn K a ⟨s.toArray⟩ = some r ∧ r.isSome = (klook kvs s).isSome ∧ ∀ i, klook kvs s = some i → ∃ t, r = some (Value.int i t) := by
  cases hk : klook kvs s with
  | some i =>
    obtain ⟨p, hp, e⟩ := Option.map_eq_some_iff.mp (show (kvs.find? fun p => decide (p.1 = s)).map (·.2) = some i from hk)
    have hm : p ∈ kvs := List.mem_of_find?_eq_some hp
    have hs : p.1 = s := by simpa using List.find?_some hp
    obtain ⟨u, hu, ru⟩ := He.valsB_ok h2 (q := (sT p.1, He.Dv.int p.2)) (List.mem_map.mpr ⟨p, hm, rfl⟩)
    obtain ⟨t, rfl⟩ := ru
    refine ⟨_, by rw [← hs]; exact hu, rfl, fun j ej => ?_⟩
    cases ej
    exact ⟨t, by rw [e]⟩
  | none =>
    unfold He.dicW at h1
    unfold PySem.W.nsIn
    cases q : K.lookup a with
    | none => rw [q] at h1; cases h1
    | some o =>
      obtain ⟨oc, od, dt, osl⟩ := o
      rw [q] at h1
      cases oc with
      | type c =>
        cases od with
        | none =>
          cases dt with
          | dict es n =>
            have h1 : (match decide (c = "dict") && (osl.isEmpty && !(a == sysModules)) with
              | true => some (es.toList.map He.keyOf)
              | false => none) = some (He.keysIn P (kvs.map fun q => sT q.1)) := h1
            split at h1
            case h_2 => cases h1
            have h3 := Option.some.inj h1
            have hall : ∀ e ∈ es.toList, ∃ x t, e.key = .str x t ∧ x ∈ kvs.map fun q => sT q.1 := by
              intro e he
              have : He.keyOf e ∈ He.keysIn P (kvs.map fun q => sT q.1) := by rw [← h3]; exact List.mem_map.mpr ⟨e, he, rfl⟩
              unfold He.keysIn at this
              obtain ⟨x, hx, ex⟩ := List.mem_map.mp this
              unfold He.keyOf at ex
              split at ex
              · rename_i y t ey
                have e1 := congrArg Prod.fst (Option.some.inj ex)
                exact ⟨y, t, ey, by rw [← show x = y from e1]; exact hx⟩
              · cases ex
            have f1 : es.toList.find? (·.key.isStr ⟨s.toArray⟩) = none := by
              rw [List.find?_eq_none]
              intro e he hc
              obtain ⟨x, t, e1, e2⟩ := hall e he
              rw [e1] at hc
              have : x = ⟨s.toArray⟩ := by simpa [Value.isStr] using hc
              subst this
              obtain ⟨p, hp, ep⟩ := List.mem_map.mp e2
              have : p.1 = s := arr_inj ep
              have hn : kvs.find? (fun p => decide (p.1 = s)) = none := by simpa [klook] using hk
              have := List.find?_eq_none.mp hn p hp
              simp [*] at this
            have f2 : es.toList.any (·.refKey) = false := by
              rw [List.any_eq_false]
              intro e he hc
              obtain ⟨x, t, e1, e2⟩ := hall e he
              simp [DictEntry.refKey, e1] at hc
            simp only [f1, f2]
            exact ⟨none, by simp, rfl, fun i z => by cases z⟩
          | _ => cases h1
        | some b => cases dt <;> cases h1
      | _ => cases od <;> cases dt <;> cases h1
theorem stat_of (hok : T.ok = true) (X : K.In h) (G : h.Ns mainGlobals mg) (c : He.SaysX T.fa T.fn T.ts [] T.ex w h K) (hb : ∀ d ∈ T.ds, ∀ fd, d.FD K fd → BD K d fd) :
    Stat w K mg (fun c => He.ga K c.str) T.P (T.fad K) (T.fd K) T.ps T.G := by
  unfold LT.ok at hok
  simp only [Bool.and_eq_true, List.all_eq_true] at hok
  obtain ⟨ok1, ok2⟩ := hok
  have sd := c.t.d
  have fact : ∀ f ∈ T.fa, f.ok K = true := fun f hf => sd.facts hf
  have hfd : ∀ f d, T.d f = some d → d.FD K (T.fd K f) := fun f d e => by
    have ex : ∃ fd, d.FD K fd := sd.defs (List.mem_map.mpr ⟨d, (LT.d_mem e).1, rfl⟩)
    unfold LT.fd
    rw [e]
    simp only [dif_pos ex]
    exact Classical.choose_spec ex
  have hfa : ∀ f d, T.d f = some d → T.fad K f = He.fAd K d.at_ ∧ T.ps f = d.ps := fun f d e => by unfold LT.fad LT.ps; rw [e]; exact ⟨rfl, rfl⟩
  have hbd : ∀ f d, T.d f = some d → BD K d (T.fd K f) := fun f d e => hb d (LT.d_mem e).1 _ (hfd f d e)
  have hb0 : ∀ f d, T.d f = some d → Binds K (T.fd K f) (T.ps f) [] := fun f d e => by
    obtain ⟨dv, dvs, a, b, c⟩ := (hbd f d e).1 [] (by simp)
    cases a; cases b
    rw [(hfa f d e).2]
    exact c
  have fc : ∀ cd ∈ T.cs, ∀ f ∈ [He.Fa.glo cd.nm.str, He.Fa.cls cd.nm.str] ++ cd.at'.map (fun g => He.Fa.noat cd.nm.str g.str) ++ cd.mth.map (fun p => He.Fa.meth cd.nm.str p.1.str) ++ (if cd.ini.isSome then [He.Fa.mkr cd.nm.str] else []), f.ok K = true := fun cd hcd f hf => by
    refine fact f ?_
    unfold LT.fa
    exact List.mem_append_left _ (List.mem_append_left _ (List.mem_append_right _ (List.mem_flatMap.mpr ⟨cd, hcd, hf⟩)))
  refine ⟨fun f hf => ?_, fun cn hc => ?_, fun cn m f hm => ?_, fun x kvs hx => ?_, fun cn hc => ?_, fun x hx => ?_, fun f F hF => ?_⟩
  · simp only [LT.G] at hf
    split at hf
    · rename_i d e
      have ha := of_decide_eq_true hf
      obtain ⟨m1, m2⟩ := LT.d_mem e
      have g := fact (.glo d.at_.1) (by
        unfold LT.fa
        refine List.mem_append_left _ (List.mem_append_left _ (List.mem_append_left _ (List.mem_append_right _ (List.mem_map.mpr ⟨d, ?_, rfl⟩))))
        rw [List.mem_filter, ha]
        exact ⟨m1, rfl⟩)
      refine ⟨by simp [LT.P, e], ?_, ?_, hb0 f d e⟩
      · rw [(hfa f d e).1, ha]
        rw [ha] at g
        exact He.glo_ok X G g
      · rw [(hfa f d e).1]
        exact (hfd f d e).kp
    · cases hf
  · simp only [LT.G] at hc
    split at hc <;> try (cases hc)
    rename_i cd e
    obtain ⟨f, hf⟩ := Option.isSome_iff_exists.mp hc
    obtain ⟨m1, rfl⟩ := LT.c_mem e
    have o2 := ok2 cd m1
    obtain ⟨⟨o3, o4⟩, o5⟩ := o2
    rw [hf] at o5
    simp only at o5
    split at o5 <;> try (cases o5)
    rename_i d ed
    have ha := of_decide_eq_true o5
    have fcs := fc cd m1
    refine ⟨f, by simp [LT.P, e, hf], ?_, ?_, ?_, ?_, by simp [LT.P, ed], ?_, hb0 f d ed⟩
    · rw [(hfa f d ed).1, ha]
      exact He.mkr_ok (fcs (.mkr _) (by simp [hf]))
    · exact He.cls_ok (fcs (.cls _) (by simp))
    · intro g hg
      simp only [LT.P, e] at hg
      exact He.noat_ok (fcs (.noat _ _) (by
        refine List.mem_append_left _ (List.mem_append_left _ (List.mem_append_right _ (List.mem_map.mpr ⟨g, hg, rfl⟩)))))
    · intro a ha b hb2 eab
      simp only [LT.P, e] at ha hb2
      simp only [nmOkB, List.all_eq_true] at o3
      have := o3 a ha b hb2
      simpa [eab] using this
    · exact He.glo_ok X G (fcs (.glo _) (by simp))
  · simp only [LT.P] at hm
    cases e : T.c cn with
    | none => rw [e] at hm; cases hm
    | some cd =>
      rw [e] at hm
      obtain ⟨p, hp, ep⟩ := Option.map_eq_some_iff.mp (show (cd.mth.find? fun p => decide (p.1 = m)).map (·.2) = some f from hm)
      obtain ⟨m1, rfl⟩ := LT.c_mem e
      have hpm : p ∈ cd.mth := List.mem_of_find?_eq_some hp
      have hpe : p.1 = m := by simpa using List.find?_some hp
      subst hpe
      subst ep
      obtain ⟨⟨o3, o4⟩, o5⟩ := ok2 cd m1
      have o6 := o4 p hpm
      obtain ⟨o7, o8⟩ := o6
      split at o7 <;> try (cases o7)
      rename_i d ed
      have ha := of_decide_eq_true o7
      have fcs := fc cd m1
      obtain ⟨b1, b2⟩ := hbd p.2 d ed
      refine ⟨by simp [LT.P, ed], ?_, ?_, ?_, ?_⟩
      · rw [(hfa p.2 d ed).1, ha]
        exact He.meth_ok (fcs (.meth _ _) (List.mem_append_left _ (List.mem_append_right _ (List.mem_map.mpr ⟨p, hpm, rfl⟩))))
      · intro g hg
        simp only [LT.P, e] at hg
        simpa using o8 g hg
      · intro ds hds
        simp only [LT.P, ed] at hds
        rw [(hfa p.2 d ed).2]
        exact b1 ds hds
      · intro mid kn hk
        simp only [LT.P, ed] at hk
        rw [(hfa p.2 d ed).2]
        exact b2 mid kn hk
  · have hx := of_decide_eq_true hx
    have g := fact (.glo x.str) (by
      unfold LT.fa
      exact List.mem_append_right _ (List.mem_map.mpr ⟨(x, kvs), hx, rfl⟩))
    have hv : He.valsB K (He.ga K x.str) (kvs.map fun q => (sT q.1, He.Dv.int q.2)) = true := List.all_eq_true.mp c.more (x, kvs) hx
    obtain ⟨i, hi, e⟩ := List.mem_iff_getElem.mp hx
    have ei : T.ts[i]? = some ((fun K => He.ga K x.str), kvs.map fun q => sT q.1) := by
      unfold LT.ts
      rw [List.getElem?_map, List.getElem?_eq_getElem hi, e]
      rfl
    have e2 : T.ts.map (fun t => He.dicW K (t.1 K)) = T.ts.map fun t => some (He.keysIn w.params t.2) := congrArg (fun z : He.AlT => z.2) c.t
    have e3 : (T.ts.map fun t => He.dicW K (t.1 K))[i]? = (T.ts.map fun t => some (He.keysIn w.params t.2))[i]? := by rw [e2]
    rw [List.getElem?_map, List.getElem?_map, ei] at e3
    have hd := Option.some.inj e3
    exact ⟨He.ga K x.str, He.glo_ok X G g, He.dicW_ok hd, kd_look hd hv⟩
  · have hc := of_decide_eq_true hc
    have fe : ∀ f ∈ [He.Fa.glo cn.str, He.Fa.exc cn.str], f.ok K = true := fun f hf => fact f (by
      unfold LT.fa
      exact List.mem_append_left _ (List.mem_append_right _ (List.mem_flatMap.mpr ⟨cn, hc, hf⟩)))
    obtain ⟨x1, x2, x3, x4⟩ := He.exc_ok (fe (.exc cn.str) (by simp))
    exact ⟨_, _, _, _, PySem.F.excBase_ValueError, x1, He.glo_ok X G (fe (.glo cn.str) (by simp)), x2, x3, x4⟩
  · exact He.free_ok X G (fact (.free (Str.ofString x)) (by
      unfold LT.fa
      exact List.mem_append_left _ (List.mem_append_left _ (List.mem_append_left _ (List.mem_append_left _ (List.mem_map.mpr ⟨x, hx, rfl⟩))))))
  · simp only [LT.P] at hF
    obtain ⟨d, ed, rfl⟩ := Option.map_eq_some_iff.mp hF
    obtain ⟨oc, od, dV, kV, doc, pm, an, cdv, ct, osl, efd, lk, hcd, _, _⟩ := (hfd f d ed).ex
    refine ⟨_, _, d.st, d.N, dV, kV, doc, pm, an, cdv, ct, oc, od, osl, efd, ?_, hcd, ?_⟩
    · rw [(hfa f d ed).1]; exact lk
    · rw [(hfa f d ed).2]; exact ok1 d (LT.d_mem ed).1
end
end Rl

set_option Elab.async false
set_option linter.all false
set_option maxRecDepth 100000
set_option autoImplicit false
set_option maxHeartbeats 4000000
/-! Sound18: the end: a law from its tables and from what the evaluator gives. -/
namespace Rl
open PySem PySem.Spec PyProof.Rows L2
theorem fnOk_at {prog : Program} {w : World} {K : PySem.W.Frag} {mg : Str → Option Value} {base : Heap} {CX : CXT} {k : Nat} {fa fb : Addr} {fd : FuncData} {ps : List Str} {sp : Sp} (h : FnOk prog w K mg base CX k fa fd ps sp) (e : fa = fb) : FnOk prog w K mg base CX k fb fd ps sp := e ▸ h
theorem walkE {l : PySem.W.OpenLaw} {T : LT} {f : Nm} {x : Str} {n k : Nat} {q : Program} {loose : List Str} {XP : (Str → Option Value) → Heap → Prop} {YP : World → Heap → Prop} {d : DefRec} {KW : Params → PySem.W.Frag}
    (hn : l.most = some n) (hn2 : n ≤ sizeLine) (hdf : d.params.defaults = []) (hr : Room (2 * k) callerA) (hname : d.name = f.str) (hok : T.ok = true) (hb : ∀ K : PySem.W.Frag, ∀ dd ∈ T.ds, ∀ fd, dd.FD K fd → BD K dd fd)
    {D : DD} (hD : T.d f = some D) (hat : D.at_ = (f.str, none)) (hdfl : D.dfl = []) (hps : D.ps = [x])
    (hA : ∀ (kV doc pm : Value) (an : Option Addr) (cdv ct : Value) (us : List Value), us.length = D.ps.length → bindArgs (PySem.W.fnOf D.d.name D.d.qual D.d.params D.d.body D.d.scope .none kV doc pm an cdv ct) ⟨us, []⟩ = pure (D.ps.zip us))
    (hY : ∀ (w : World) (h : Heap), YP w h → (KW w.params).In h) (hT : ∀ w : World, He.SaysT T.fa T.fn T.ts w (KW w.params)) (hE : ∀ w : World, T.ex (KW w.params) = true)
    (hm : ∀ ns : List Int, ns.length ≤ n → ∃ h, callD T.P k f [.rl (ns.map .int)] AH0 = .ok (.bl true) h) :
    PySem.W.WalkO q loose XP YP l.row.toRowW d [] (fun f vs => PySem.call f vs) := by
  refine Att.attach_call hn hdf fun w s₀ s₁ mg mb fa o pm cd doc a vs ns G Y ho hd hcd hmg hobj hints hlen hg => ?_
  have KX := hY w _ Y
  have c : He.SaysX T.fa T.fn T.ts [] T.ex w s₁.heap (KW w.params) := ⟨hT w, hE w, fun _ z => by simp at z, fun _ z => by simp at z, fun _ z => by simp at z⟩
  revert KX c
  generalize KW w.params = K
  intro KX c
  have S : Stat w K mg (fun c => He.ga K c.str) T.P (T.fad K) (T.fd K) T.ps T.G := stat_of hok KX G.T.g c fun dd hdd fd F => hb K dd hdd fd F
  have hF : T.P.fn f = some D.F := by simp [LT.P, hD]
  have eps : T.ps f = [x] := by unfold LT.ps; rw [hD]; exact hps
  have hg1 : T.G.fn f = true := by simp [LT.G, hD, hat]
  have efa : T.fad K f = fa := by
    have h1 := (S.call f hg1).2.1
    rw [← hname, hmg] at h1
    cases h1
    rfl
  have FF : D.FD K (T.fd K f) := by
    have ex : ∃ fd, D.FD K fd := c.t.d.defs (List.mem_map.mpr ⟨D, (LT.d_mem hD).1, rfl⟩)
    unfold LT.fd
    rw [hD]
    simp only [dif_pos ex]
    exact Classical.choose_spec ex
  have e0 : D.d.dvs K = [] := by simp [He.DefD.dvs, DD.d, hdfl]
  unfold DD.FD at FF
  rw [e0] at FF
  have bA := fun (s : Shared) (u : Value) => FF.bindsA hA s [u] (by rw [hps]; rfl)
  refine law_call (CX := L2.CX l.prog w) (k := 2 * k) (fd := T.fd K f) (x := x) (sp := spLaw K n) KX G.T.g G.T.b G.T.builtins G.T.nolimit hg hobj hints (Nat.le_trans hlen hn2) hr (fun base KB NB => ?_) (fun s u => ?_) (fun H hO hS => ⟨a, ns, rfl, hO, hS, hlen, fun _ => rfl⟩) (fun H e s' hx => ?_)
  · rw [← eps]
    exact fnOk_at (law_ok S k n hF (by rw [eps]; rfl) hm) efa
  · have := bA s u
    rw [hps] at this
    exact this
  · obtain ⟨_, _, _, _, _, _, _, _, _, _, _, _, z⟩ := hx
    exact z
end Rl

set_option Elab.async false
set_option linter.all false
set_option maxRecDepth 100000
set_option autoImplicit false
set_option maxHeartbeats 4000000
/-! Bind: the two methods with defaults. -/
namespace Rl
open PySem PySem.Spec PyProof.Rows L2
/-- n written, the defaults behind the first j fill up -/
def BA (d : DD) (n j : Nat) : Prop := ∀ (T : Addr) (kV doc pm : Value) (an : Option Addr) (cdv ct : Value) (us its : List Value), us.length = n → its.length = d.dfl.length →
  ∃ k, bindArgs (PySem.W.fnOf d.d.name d.d.qual d.d.params d.d.body d.d.scope (.ref T) kV doc pm an cdv ct) ⟨us, []⟩ = seqItems? (.ref T) >>= k ∧ k (some its.toArray) = pure (d.ps.zip (us ++ its.drop j))
theorem cvs_of {l : List AV} (h : ∀ x ∈ l, CV x (vOf x)) : CVs l (l.map vOf) := by
  induction l with
  | nil => exact .nil
  | cons x r ih => exact .cons (h x List.mem_cons_self) (ih fun y hy => h y (List.mem_cons_of_mem _ hy))
theorem dvs_eq {d : DD} {K : PySem.W.Frag} (h : ∀ x ∈ d.dfl, CV x (vOf x)) : d.d.dvs K = d.dfl.map vOf := by
  simp only [He.DefD.dvs, DD.d, List.map_map]
  apply List.map_congr_left
  intro x hx
  have := h x hx
  generalize e : vOf x = v at this
  cases this <;> rfl
theorem bd_suf {K : PySem.W.Frag} {d : DD} {fd : FuncData} (F : d.FD K fd) (hc : ∀ x ∈ d.dfl, CV x (vOf x)) (hd : d.dfl ≠ []) {n j : Nat} (hn : n + (d.dfl.length - j) = d.ps.length) (h : BA d n j) :
    ∃ dv dvs, CVs (d.dfl.drop j) dv ∧ Vals dv dvs ∧ Binds K fd d.ps dvs := by
  have e := dvs_eq (K := K) hc
  unfold DD.FD at F
  rw [e] at F
  obtain ⟨ds, v, b⟩ := F.binds1 (ps := d.ps) n j (by simpa using hd) (by simpa using hn) fun T kV doc pm an cdv ct us its h1 h2 => h T kV doc pm an cdv ct us its h1 (by simpa using h2)
  refine ⟨(d.dfl.drop j).map vOf, ds, cvs_of fun x hx => hc x (List.mem_of_mem_drop hx), ?_, b⟩
  rw [List.map_drop]
  exact v
/-- one default, or none of it -/
theorem bd_one {K : PySem.W.Frag} {d : DD} {fd : FuncData} (F : d.FD K fd) {i : Int} (h1 : d.dfl = [.int i]) (h2 : d.kw = none) {n : Nat} (hp : d.ps.length = n + 1) (b0 : BA d (n + 1) 1) (b1 : BA d n 0) : BD K d fd := by
  have hc : ∀ x ∈ d.dfl, CV x (vOf x) := by rw [h1]; intro x hx; simp at hx; subst hx; exact .int i
  refine ⟨fun ds hs => ?_, fun mid kn e => by rw [h2] at e; cases e⟩
  have a0 := bd_suf F hc (by rw [h1]; simp) (n := n + 1) (j := 1) (by rw [h1, hp]; rfl) b0
  have a1 := bd_suf F hc (by rw [h1]; simp) (n := n) (j := 0) (by rw [h1, hp]; rfl) b1
  rw [h1] at hs a0 a1
  rw [List.isSuffixOf_iff_suffix] at hs
  obtain ⟨t, ht⟩ := hs
  match t, ds, ht with
  | [], _, ht => simp at ht; subst ht; exact a1
  | [_], [], _ => exact a0
  | [_], _ :: _, ht => simp at ht
  | _ :: _ :: _, _, ht => simp at ht
/-- two defaults; a call that leaves the first out and names the last -/
theorem bd_two {K : PySem.W.Frag} {d : DD} {fd : FuncData} (F : d.FD K fd) {i : Int} {kn : Nm} (h1 : d.dfl = [.int i, .non]) (h2 : d.kw = some ([.int i], kn)) {n : Nat} (hp : d.ps.length = n + 2) (b0 : BA d (n + 2) 2) (b1 : BA d (n + 1) 1) (b2 : BA d n 0)
    (bk : ∀ (T : Addr) (kV doc pm : Value) (an : Option Addr) (cdv ct : Value) (us : List Value) (w u1 u2 : Value), us.length = n →
      ∃ k, bindArgs (PySem.W.fnOf d.d.name d.d.qual d.d.params d.d.body d.d.scope (.ref T) kV doc pm an cdv ct) ⟨us, [(kn.str, w)]⟩ = seqItems? (.ref T) >>= k ∧ k (some [u1, u2].toArray) = pure (d.ps.zip (us ++ [u1] ++ [w]))) : BD K d fd := by
  have hc : ∀ x ∈ d.dfl, CV x (vOf x) := by
    rw [h1]; intro x hx; simp at hx
    rcases hx with rfl | rfl
    · exact .int i
    · exact .non
  refine ⟨fun ds hs => ?_, fun mid kn' e => ?_⟩
  · have a0 := bd_suf F hc (by rw [h1]; simp) (n := n + 2) (j := 2) (by rw [h1, hp]; rfl) b0
    have a1 := bd_suf F hc (by rw [h1]; simp) (n := n + 1) (j := 1) (by rw [h1, hp]; rfl) b1
    have a2 := bd_suf F hc (by rw [h1]; simp) (n := n) (j := 0) (by rw [h1, hp]; rfl) b2
    rw [h1] at hs a0 a1 a2
    rw [List.isSuffixOf_iff_suffix] at hs
    obtain ⟨t, ht⟩ := hs
    match t, ds, ht with
    | [], _, ht => simp at ht; subst ht; exact a2
    | [_], _, ht => simp at ht; obtain ⟨_, rfl⟩ := ht; exact a1
    | [_, _], _, ht => simp at ht; obtain ⟨_, _, rfl⟩ := ht; exact a0
    | _ :: _ :: _ :: _, _, ht => simp at ht
  · rw [h2] at e
    cases e
    have e := dvs_eq (K := K) hc
    unfold DD.FD at F
    rw [e] at F
    obtain ⟨oc, od, dV, kV, doc, pm, an, cdv, ct, osl, rfl, lk, hcd, hD, hK⟩ := F.ex
    rw [h1] at hD
    rcases hD with ⟨z, _⟩ | ⟨_, T, o, its, m, rfl, lT, oT, rT⟩
    · simp at z
    · cases rT with
      | @cons _ u1 _ its2 r1 rr =>
        cases rr with
        | @cons _ u2 _ its3 r2 rr2 =>
          cases rr2
          refine ⟨[.int i], [u1], .cons (.int i) .nil, .cons r1 .nil, fun s us w X hl => ?_⟩
          have hu : us.length = n := by simp [hp] at hl; omega
          obtain ⟨k, e1, e2⟩ := bk T kV doc pm an cdv ct us w u1 u2 hu
          refine BindsTo.of_looks fun M => ?_
          rw [e1]
          exact looks_items X lT oT (.of_pure e2)
end Rl

set_option linter.all false
set_option autoImplicit false
/-! Simp: the evaluator, step by step. -/
namespace Rl
theorem nr {α : Sort _} {a b : α} (h : a = b) : a = b := Eq.trans h rfl
def toR : SR → Res AV
  | .nx _ h => .ok .non h
  | .rt v h => .ok v h
  | .exc c h => .exc c h
  | .bad => .bad
@[simp] theorem toR_rt {v : AV} {h : AH} : toR (.rt v h) = .ok v h := nr rfl
@[simp] theorem toR_nx {σ : Sl} {h : AH} : toR (.nx σ h) = .ok .non h := nr rfl
@[simp] theorem toR_exc {c : Nm} {h : AH} : toR (.exc c h) = .exc c h := nr rfl
section
variable {α β : Type} {a : α} {h h1 : AH} {c : Nm} {σ : Sl} {cl : Cl} {cf : Cf} {i j : Int} {x y : Rl.E} {v : AV}
@[simp] theorem bind_ok {k : α → AH → Res β} : (Res.ok a h).bind k = k a h := nr rfl
@[simp] theorem bind_exc {k : α → AH → Res β} : (Res.exc c h : Res α).bind k = .exc c h := nr rfl
@[simp] theorem bind_bad {k : α → AH → Res β} : (Res.bad : Res α).bind k = .bad := nr rfl
@[simp] theorem bindS_ok {k : α → AH → SR} : (Res.ok a h).bindS k = k a h := nr rfl
@[simp] theorem bindS_exc {k : α → AH → SR} : (Res.exc c h : Res α).bindS k = .exc c h := nr rfl
@[simp] theorem bindS_bad {k : α → AH → SR} : (Res.bad : Res α).bindS k = .bad := nr rfl
@[simp] theorem sr_nx {k : Sl → AH → SR} : (SR.nx σ h).bind k = k σ h := nr rfl
@[simp] theorem sr_rt {k : Sl → AH → SR} : (SR.rt v h).bind k = .rt v h := nr rfl
@[simp] theorem sr_exc {k : Sl → AH → SR} : (SR.exc c h).bind k = .exc c h := nr rfl
@[simp] theorem sr_bad {k : Sl → AH → SR} : (SR.bad).bind k = .bad := nr rfl
@[simp] theorem calm_ok : (Res.ok a h).calm = .ok a h := nr rfl
@[simp] theorem evs_nil' : evs cl cf .nil σ h = .ok [] h := nr rfl
@[simp] theorem evs_cons' : evs cl cf (.cons x y) σ h = (ev cl cf x σ h).bind fun v h1 => (evs cl cf y σ h1).bind fun vs h2 => .ok (v :: vs) h2 := nr rfl
@[simp] theorem ev_slot' {n : Nat} : ev cl cf (.slot n) σ h = match σ[n]? with | some (some v) => .ok v h | _ => .bad := nr rfl
@[simp] theorem ev_non' : ev cl cf .non σ h = .ok .non h := nr rfl
@[simp] theorem ev_bl' {b : Bool} : ev cl cf (.bl b) σ h = .ok (.bl b) h := nr rfl
@[simp] theorem ev_int' : ev cl cf (.int i) σ h = .ok (.int i) h := nr rfl
@[simp] theorem ev_str' {s : Tx} : ev cl cf (.str s) σ h = .ok (.str s) h := nr rfl
@[simp] theorem ev_kd' {f : Nm} {k : List (Tx × Int)} : ev cl cf (.kd f k) σ h = .ok (.kd k) h := nr rfl
@[simp] theorem ev_tup' : ev cl cf (.tup x) σ h = (evs cl cf x σ h).bind fun vs h1 => if vs.length ≤ LIM then .ok (.tup vs) h1 else .bad := nr rfl
@[simp] theorem ev_lst' : ev cl cf (.lst x) σ h = (evs cl cf x σ h).bind fun vs h1 => newL h1 vs := nr rfl
@[simp] theorem ev_dict0' {b : Bool} : ev cl cf (.dict0 b) σ h = .ok (.ref h.n) (h.new (.dct b [])) := nr rfl
@[simp] theorem ev_op' {o : Op} : ev cl cf (.op o x y) σ h = (ev cl cf x σ h).bind fun v h1 => (ev cl cf y σ h1).bind fun u h2 => op2 o v u h2 := nr rfl
@[simp] theorem ev_neg' : ev cl cf (.neg x) σ h = (ev cl cf x σ h).bind fun v h1 => match v with | .int i => .ok (.int (-i)) h1 | _ => .bad := nr rfl
@[simp] theorem ev_isN' : ev cl cf (.isN x) σ h = (ev cl cf x σ h).bind fun v h1 => .ok (.bl (decide (v = .non))) h1 := nr rfl
@[simp] theorem ev_notN' : ev cl cf (.notN x) σ h = (ev cl cf x σ h).bind fun v h1 => .ok (.bl (!decide (v = .non))) h1 := nr rfl
@[simp] theorem ev_not' : ev cl cf (.not x) σ h = (ev cl cf x σ h).bind fun v h1 => match v with | .bl b => .ok (.bl (!b)) h1 | _ => .bad := nr rfl
@[simp] theorem ev_and' : ev cl cf (.and x y) σ h = (ev cl cf x σ h).bind fun v h1 => match v with | .bl true => ev cl cf y σ h1 | .bl false => .ok (.bl false) h1 | _ => .bad := nr rfl
@[simp] theorem ev_or' : ev cl cf (.or x y) σ h = (ev cl cf x σ h).bind fun v h1 => match v with | .bl true => .ok (.bl true) h1 | .bl false => ev cl cf y σ h1 | _ => .bad := nr rfl
@[simp] theorem ev_ite' {z : Rl.E} : ev cl cf (.ite z x y) σ h = (ev cl cf z σ h).bind fun v h1 => match v with | .bl true => ev cl cf x σ h1 | .bl false => ev cl cf y σ h1 | _ => .bad := nr rfl
@[simp] theorem ev_call' {f : Nm} : ev cl cf (.call f x) σ h = (evs cl cf x σ h).bind fun vs h1 => cf f vs h1 := nr rfl
@[simp] theorem ev_bi' {b : Bi} : ev cl cf (.bi b x) σ h = (evs cl cf x σ h).bind fun vs h1 => primB b vs h1 := nr rfl
@[simp] theorem ev_mth' {b : Mb} : ev cl cf (.mth b x y) σ h = (ev cl cf x σ h).bind fun v h1 => match tyOf h1 v with | some t => if mthTy b t then (evs cl cf y σ h1).bind fun vs h2 => primM b t v vs h2 else .bad | none => .bad := nr rfl
@[simp] theorem ev_isTy' {t : Ty} : ev cl cf (.isTy x t) σ h = (ev cl cf x σ h).bind fun v h1 => match tyOf h1 v with | some u => .ok (.bl (isTy u t)) h1 | none => .bad := nr rfl
@[simp] theorem ev_fld' {f : Nm} : ev cl cf (.fld x f) σ h = (ev cl cf x σ h).bind fun v h1 => match getF h1 v f with | some v => .ok v h1 | none => .bad := nr rfl
@[simp] theorem ev_slice' {lo hi : Rl.E} : ev cl cf (.slice x lo hi) σ h = (ev cl cf x σ h).bind fun v h1 => (if lo.isNil then .ok none h1 else (ev cl cf lo σ h1).bind asI).bind fun l h2 => (if hi.isNil then .ok none h2 else (ev cl cf hi σ h2).bind asI).bind fun u h3 => sliceA v l u h3 := nr rfl
@[simp] theorem isNil_int : (E.int i).isNil = false := nr rfl
@[simp] theorem isNil_slot {n : Nat} : (E.slot n).isNil = false := nr rfl
@[simp] theorem isNil_op {o : Op} : (E.op o x y).isNil = false := nr rfl
@[simp] theorem isNil_bi {o : Bi} : (E.bi o x).isNil = false := nr rfl
@[simp] theorem isNil_nil : (E.nil).isNil = true := nr rfl
@[simp] theorem asI_int : asI (.int i) h = .ok (some i) h := nr rfl
theorem ev_comp' {t : Tg} {k : Ik} {src cond elt : Rl.E} : ev cl cf (.comp t k src cond elt) σ h = (evs cl cf src σ h).bind fun vs h1 => match walk k vs h1 with
    | some (xs, g) => ((compLoop t g (fun σ h => ev cl cf cond σ h) (fun σ h => ev cl cf elt σ h) xs [] σ h1).calm).bind fun l h2 => .ok (.ref h2.n) (h2.new (.lst l))
    | none => .bad := nr rfl
section
variable {s r : Rl.S}
@[simp] theorem ex_nil' : ex cl cf .nil σ h = .nx σ h := nr rfl
@[simp] theorem ex_seq' : ex cl cf (.seq s r) σ h = (ex cl cf s σ h).bind fun σ1 h1 => ex cl cf r σ1 h1 := nr rfl
@[simp] theorem ex_pass' : ex cl cf .pass σ h = .nx σ h := nr rfl
@[simp] theorem ex_asg' {t : Tg} : ex cl cf (.asg t x) σ h = (ev cl cf x σ h).bindS fun v h1 => match bindT t v σ with | some σ1 => .nx σ1 h1 | none => .bad := nr rfl
@[simp] theorem ex_fset' {f : Nm} : ex cl cf (.fset x f y) σ h = (ev cl cf y σ h).bindS fun v h1 => (ev cl cf x σ h1).bindS fun u h2 => match setF cl.at' h2 u f v with | some h3 => .nx σ h3 | none => .bad := nr rfl
@[simp] theorem ex_iset' {z : Rl.E} : ex cl cf (.iset x z y) σ h = (ev cl cf y σ h).bindS fun v h1 => (ev cl cf x σ h1).bindS fun u h2 => (ev cl cf z σ h2).bindS fun w h3 => match setI h3 u w v with | some h4 => .nx σ h4 | none => .bad := nr rfl
@[simp] theorem ex_exp' : ex cl cf (.exp x) σ h = (ev cl cf x σ h).bindS fun _ h1 => .nx σ h1 := nr rfl
@[simp] theorem ex_ret' : ex cl cf (.ret x) σ h = (ev cl cf x σ h).bindS fun v h1 => .rt v h1 := nr rfl
@[simp] theorem ex_retN' : ex cl cf .retN σ h = .rt .non h := nr rfl
@[simp] theorem ex_ite' : ex cl cf (.ite x s r) σ h = (ev cl cf x σ h).bindS fun v h1 => match v with | .bl true => ex cl cf s σ h1 | .bl false => ex cl cf r σ h1 | _ => .bad := nr rfl
@[simp] theorem ex_raise' : ex cl cf (.raise c) σ h = .exc c h := nr rfl
theorem ex_while' : ex cl cf (.while x s) σ h = whileL (fun σ h => ev cl cf x σ h) (fun σ h => ex cl cf s σ h) WL σ h := nr rfl
theorem ex_for' {t : Tg} {k : Ik} : ex cl cf (.for t k x s) σ h = (evs cl cf x σ h).bindS fun vs h1 => match walk k vs h1 with | some (xs, g) => forL t g (fun σ h => ex cl cf s σ h) xs σ h1 | none => .bad := nr rfl
end
@[simp] theorem op_add' : op2 .add (.int i) (.int j) h = .ok (.int (i + j)) h := nr rfl
@[simp] theorem op_sub' : op2 .sub (.int i) (.int j) h = .ok (.int (i - j)) h := nr rfl
@[simp] theorem op_lt' : op2 .lt (.int i) (.int j) h = .ok (.bl (decide (i < j))) h := nr rfl
@[simp] theorem op_le' : op2 .le (.int i) (.int j) h = .ok (.bl (decide (i ≤ j))) h := nr rfl
@[simp] theorem op_gt' : op2 .gt (.int i) (.int j) h = .ok (.bl (decide (j < i))) h := nr rfl
@[simp] theorem op_ge' : op2 .ge (.int i) (.int j) h = .ok (.bl (decide (j ≤ i))) h := nr rfl
theorem op_mul' (e : (smallF i || smallF j) = true) : op2 .mul (.int i) (.int j) h = .ok (.int (i * j)) h := if_pos e
theorem op_mod' (e : 0 < j) : op2 .mod (.int i) (.int j) h = .ok (.int (i % j)) h := if_pos e
theorem op_fdiv' (e : 0 < j ∧ j < 1073741824) : op2 .fdiv (.int i) (.int j) h = .ok (.int (i / j)) h := if_pos e
theorem op_item_lst {n : Nat} {xs : List AV} (e : h.g n = some (.lst xs)) (e2 : atI xs i = some v) : op2 .item (.ref n) (.int i) h = .ok v h := by
  simp only [op2, opItem, e, e2]
theorem eqA_int : eqA h (.int i) (.int j) = some (decide (i = j)) := nr rfl
@[simp] theorem op_eq_int : op2 .eq (.int i) (.int j) h = .ok (.bl (decide (i = j))) h := nr rfl
@[simp] theorem op_ne_int : op2 .ne (.int i) (.int j) h = .ok (.bl (!decide (i = j))) h := nr rfl
@[simp] theorem abs_int : primB .abs [.int i] h = .ok (.int (if i < 0 then -i else i)) h := nr rfl
@[simp] theorem int_bl {b : Bool} : primB .int [.bl b] h = .ok (.int (if b then 1 else 0)) h := nr rfl
theorem len_lst {n : Nat} {xs : List AV} (e : h.g n = some (.lst xs)) : primB .len [.ref n] h = .ok (.int xs.length) h := by
  simp only [primB, pLen, e]
theorem append_lst {n : Nat} {xs : List AV} (e : h.g n = some (.lst xs)) (hl : xs.length < LIM) : (match tyOf h (.ref n) with | some t => if mthTy .append t then (Res.ok [v] h).bind (fun vs h2 => primM .append t (.ref n) vs h2) else .bad | none => .bad) = .ok .non (h.put n (.lst (xs ++ [v]))) := by
  simp [tyOf, e, mthTy, primM, mAppend, hl]
theorem callD_eq {P : Prg} {d : Nat} {f : Nm} {F : FD} {vs : List AV} (hF : P.fn f = some F) (hl : vs.length = F.np) : callD P (d + 1) f vs h = toR (ex P.cl (callD P d) F.body (vs.map some ++ List.replicate (F.ns - F.np) none) h) := by
  simp only [callD, hF, if_pos hl]
  generalize ex P.cl (callD P d) F.body (vs.map some ++ List.replicate (F.ns - F.np) none) h = r
  cases r <;> rfl
theorem whileL_step {c : Sl → AH → Res AV} {b : Sl → AH → SR} {n : Nat} : whileL c b (n + 1) σ h = (c σ h).bindS fun v h1 => match v with
    | .bl true => (b σ h1).bind fun σ2 h2 => whileL c b n σ2 h2
    | .bl false => .nx σ h1
    | _ => .bad := nr rfl
theorem forL_nil {t : Tg} {g : Gd} {b : Sl → AH → SR} (e : gdOk g h = true) : forL t g b [] σ h = .nx σ h := by simp [forL, e]
theorem forL_cons {t : Tg} {g : Gd} {b : Sl → AH → SR} {x : AV} {xs : List AV} {σ1 : Sl} (e : gdOk g h = true) (e2 : bindT t x σ = some σ1) : forL t g b (x :: xs) σ h = (b σ1 h).bind fun σ2 h2 => forL t g b xs σ2 h2 := by simp [forL, e, e2]
end
end Rl

set_option linter.all false
set_option autoImplicit false
set_option maxRecDepth 100000
set_option maxHeartbeats 2000000
/-! Draws: what the laws draw of a script. -/
namespace Rl
/-- the inner loop's body -/
def dIn : Rl.S := .seq (.ite (.op .gt (.slot 5) (.int (0))) (.seq (.exp (.mth .append (.slot 2) (.cons (.op .mod (.slot 5) (.int (10007))) .nil))) (.seq (.asg (.one 5) (.op .fdiv (.slot 5) (.int (10007)))) .nil)) .nil) .nil
def dOut : Rl.S := .seq (.asg (.one 5) (.bi .abs (.cons (.slot 4) .nil)))
  (.seq (.asg (.one 3) (.op .mod (.op .add (.op .add (.op .mul (.slot 3) (.int (48271))) (.slot 5)) (.op .mul (.int (2)) (.bi .int (.cons (.op .lt (.slot 4) (.int (0))) .nil)))) (.int (2147483647))))
  (.seq (.ite (.op .lt (.slot 5) (.op .pow (.int (10)) (.int (18)))) (.seq (.exp (.mth .append (.slot 2) (.cons (.slot 5) .nil))) .nil) (.seq (.for (.one 6) .rng1 (.cons (.int (60)) .nil) dIn) .nil)) .nil))
def dWh : Rl.S := .seq (.asg (.one 3) (.op .mod (.op .add (.op .mul (.slot 3) (.int (69621))) (.int (12289))) (.int (2147483647))))
  (.seq (.exp (.mth .append (.slot 2) (.cons (.op .mod (.op .fdiv (.op .mul (.slot 3) (.slot 3)) (.int (4099))) (.int (10007))) .nil))) .nil)
def B_draws : Rl.S := .seq (.asg (.one 2) (.lst .nil)) (.seq (.asg (.one 3) (.int (7)))
  (.seq (.for (.one 4) .seq (.cons (.slice (.slot 0) .nil (.int (63))) .nil) dOut)
  (.seq (.while (.op .lt (.bi .len (.cons (.slot 2) .nil)) (.slot 1)) dWh) (.seq (.ret (.slice (.slot 2) .nil (.slot 1))) .nil))))
/-- a drawn number -/
def Dr (x : Int) : Prop := 0 ≤ x ∧ x < 10 ^ 18
/-- the heap while drawing -/
structure DH (h : AH) (row : List Int) (cs : List AV) : Prop where
  g0 : h.g 0 = some (.lst (row.map .int))
  g1 : h.g 1 = some (.lst cs)
  n : h.n = 2
  no : ∀ b, 2 ≤ b → h.g b = none
  dr : ∀ x ∈ row, Dr x
theorem DH.put {h : AH} {row : List Int} {cs : List AV} (D : DH h row cs) {x : Int} (hx : Dr x) : DH (h.put 0 (.lst (row.map .int ++ [.int x]))) (row ++ [x]) cs := by
  refine ⟨by simp [AH.put], by simp [AH.put, D.g1], D.n, fun b hb => ?_, fun y hy => ?_⟩
  · simp only [AH.put]
    rw [if_neg (by omega)]
    exact D.no b hb
  · rcases List.mem_append.mp hy with z | z
    · exact D.dr y z
    · simp at z; subst z; exact hx
section
variable {cl : Cl} {cf : Cf}
theorem dIn_loop : ∀ (xs : List AV) (h : AH) (row : List Int) (cs : List AV) (s0 s1 s3 s4 : AV) (left : Int) (c6 : Option AV), DH h row cs → 0 ≤ left → row.length + xs.length < LIM →
    ∃ h' row' left' c6', forL (.one 6) [] (fun σ h => ex cl cf dIn σ h) xs [some s0, some s1, some (.ref 0), some s3, some s4, some (.int left), c6] h = .nx [some s0, some s1, some (.ref 0), some s3, some s4, some (.int left'), c6'] h' ∧
      DH h' row' cs ∧ row'.length ≤ row.length + xs.length
  | [], h, row, cs, s0, s1, s3, s4, left, c6, D, _, _ => ⟨h, row, left, c6, by rw [forL_nil rfl], D, by simp⟩
  | x :: xs, h, row, cs, s0, s1, s3, s4, left, c6, D, hl, hlen => by
    rw [forL_cons rfl (σ1 := [some s0, some s1, some (.ref 0), some s3, some s4, some (.int left), some x]) (by simp [bindT])]
    by_cases hp : 0 < left
    · have hx : Dr (left % 10007) := ⟨by omega, by omega⟩
      have D1 := D.put hx
      obtain ⟨h', row', left', c6', e, D', hl'⟩ := dIn_loop xs _ _ cs s0 s1 s3 s4 (left / 10007) (some x) D1 (by omega) (by simp at hlen ⊢; omega)
      refine ⟨h', row', left', c6', ?_, D', by simp at hl' ⊢; omega⟩
      have hap : (row.map AV.int).length < LIM := by simp at hlen ⊢; omega
      have ht : tyOf h (.ref 0) = some .list := by simp [tyOf, D.g0]
      have e1 : ex cl cf dIn [some s0, some s1, some (.ref 0), some s3, some s4, some (.int left), some x] h = .nx [some s0, some s1, some (.ref 0), some s3, some s4, some (.int (left / 10007)), some x] (h.put 0 (.lst (row.map .int ++ [.int (left % 10007)]))) := by
        simp [dIn, hp, op_mod', op_fdiv', ht, mthTy, primM, D.g0, mAppend, bindT]
        simp at hap
        simp [hap, op_fdiv']
      rw [e1]
      exact e
    · have e1 : ex cl cf dIn [some s0, some s1, some (.ref 0), some s3, some s4, some (.int left), some x] h = .nx [some s0, some s1, some (.ref 0), some s3, some s4, some (.int left), some x] h := by
        simp [dIn, hp]
      obtain ⟨h', row', left', c6', e, D', hl'⟩ := dIn_loop xs h row cs s0 s1 s3 s4 left (some x) D hl (by simp at hlen ⊢; omega)
      refine ⟨h', row', left', c6', ?_, D', by simp at hl' ⊢; omega⟩
      rw [e1]
      exact e
theorem dOut_step (h : AH) (row : List Int) (cs : List AV) (s0 s1 : AV) (base c : Int) (c5 c6 : Option AV) (D : DH h row cs) (hb : 0 ≤ base ∧ base < 2147483647) (hlen : row.length + 61 < LIM) :
    ∃ h' row' base' c5' c6', ex cl cf dOut [some s0, some s1, some (.ref 0), some (.int base), some (.int c), c5, c6] h = .nx [some s0, some s1, some (.ref 0), some (.int base'), some (.int c), c5', c6'] h' ∧
      DH h' row' cs ∧ row'.length ≤ row.length + 60 ∧ 0 ≤ base' ∧ base' < 2147483647 := by
  obtain ⟨left, hleft⟩ : ∃ left : Int, left = if c < 0 then -c else c := ⟨_, rfl⟩
  have hl0 : 0 ≤ left := by rw [hleft]; split <;> omega
  obtain ⟨b, hbq⟩ : ∃ b : Int, b = (base * 48271 + left + 2 * (if c < 0 then 1 else 0)) % 2147483647 := ⟨_, rfl⟩
  have hb' : 0 ≤ b ∧ b < 2147483647 := by rw [hbq]; omega
  have ht : tyOf h (.ref 0) = some .list := by simp [tyOf, D.g0]
  have m1 : ∀ h : AH, op2 .mul (.int base) (.int 48271) h = .ok (.int (base * 48271)) h := fun h => op_mul' (by simp [smallF])
  have m2 : ∀ (i : Int) (h : AH), op2 .mul (.int 2) (.int i) h = .ok (.int (2 * i)) h := fun i h => op_mul' (by simp [smallF])
  have m3 : ∀ h : AH, op2 .pow (.int 10) (.int 18) h = .ok (.int (10 ^ 18)) h := fun h => rfl
  have pre : ∀ k : Sl → AH → SR, (ex cl cf (.asg (.one 5) (.bi .abs (.cons (.slot 4) .nil))) [some s0, some s1, some (.ref 0), some (.int base), some (.int c), c5, c6] h).bind (fun σ h => (ex cl cf (.asg (.one 3) (.op .mod (.op .add (.op .add (.op .mul (.slot 3) (.int (48271))) (.slot 5)) (.op .mul (.int (2)) (.bi .int (.cons (.op .lt (.slot 4) (.int (0))) .nil)))) (.int (2147483647)))) σ h).bind k) =
      k [some s0, some s1, some (.ref 0), some (.int b), some (.int c), some (.int left), c6] h := by
    intro k
    simp [m1, m2, op_mod', bindT, hbq, hleft]
  show ∃ h' row' base' c5' c6', (ex cl cf (.asg (.one 5) (.bi .abs (.cons (.slot 4) .nil))) [some s0, some s1, some (.ref 0), some (.int base), some (.int c), c5, c6] h).bind (fun σ h => (ex cl cf (.asg (.one 3) (.op .mod (.op .add (.op .add (.op .mul (.slot 3) (.int (48271))) (.slot 5)) (.op .mul (.int (2)) (.bi .int (.cons (.op .lt (.slot 4) (.int (0))) .nil)))) (.int (2147483647)))) σ h).bind _) = _ ∧ _
  simp only [pre]
  by_cases hs : left < 10 ^ 18
  · refine ⟨_, row ++ [left], b, some (.int left), c6, ?_, D.put ⟨hl0, hs⟩, by simp, hb'.1, hb'.2⟩
    have hap : row.length < LIM := by omega
    have hs2 : left < 1000000000000000000 := by omega
    simp [m3, hs2, ht, mthTy, primM, D.g0, mAppend, hap]
  · have hs' : decide (left < 10 ^ 18) = false := by simpa using hs
    obtain ⟨h', row', left', c6', e, D', hl'⟩ := dIn_loop (cl := cl) (cf := cf) (rgI 0 60) h row cs s0 s1 (.int b) (.int c) left c6 D hl0 (by simp [rgI]; omega)
    refine ⟨h', row', b, some (.int left'), c6', ?_, D', by simpa [rgI] using hl', hb'.1, hb'.2⟩
    have : forL (.one 6) [] (fun σ h => ex cl cf dIn σ h) (rgI 0 60) [some s0, some s1, some (.ref 0), some (.int b), some (.int c), some (.int left), c6] h = _ := e
    simp only [ex_seq', ex_ite', ev_op', ev_slot', ev_int', bind_ok, m3, op_lt', bindS_ok, List.getElem?_cons_succ, List.getElem?_cons_zero, hs', ex_for', evs_cons', evs_nil', walk, wkR1, smallR]
    simp [this]
theorem draws_loop : ∀ (xs : List Int) (h : AH) (row : List Int) (cs : List AV) (s0 s1 : AV) (base : Int) (c4 c5 c6 : Option AV), DH h row cs → 0 ≤ base → base < 2147483647 → row.length + 61 * (xs.length + 1) < LIM →
    ∃ h' row' base' c4' c5' c6', forL (.one 4) [(1, .lst cs)] (fun σ h => ex cl cf dOut σ h) (xs.map .int) [some s0, some s1, some (.ref 0), some (.int base), c4, c5, c6] h = .nx [some s0, some s1, some (.ref 0), some (.int base'), c4', c5', c6'] h' ∧
      DH h' row' cs ∧ row'.length ≤ row.length + 60 * xs.length ∧ 0 ≤ base' ∧ base' < 2147483647
  | [], h, row, cs, s0, s1, base, c4, c5, c6, D, b1, b2, hl => ⟨h, row, base, c4, c5, c6, by rw [List.map_nil, forL_nil (by simp [gdOk, D.g1])], D, by simp, b1, b2⟩
  | x :: xs, h, row, cs, s0, s1, base, c4, c5, c6, D, b1, b2, hl => by
    have hl2 : (x :: xs).length = xs.length + 1 := rfl
    obtain ⟨h1, row1, base1, c5', c6', e1, D1, l1, b3, b4⟩ := dOut_step (cl := cl) (cf := cf) h row cs s0 s1 base x c5 c6 D ⟨b1, b2⟩ (by omega)
    obtain ⟨h2, row2, base2, c42, c52, c62, e2, D2, l2, b5, b6⟩ := draws_loop xs h1 row1 cs s0 s1 base1 (some (.int x)) c5' c6' D1 b3 b4 (by omega)
    refine ⟨h2, row2, base2, c42, c52, c62, ?_, D2, by omega, b5, b6⟩
    rw [List.map_cons, forL_cons (by simp [gdOk, D.g1]) (σ1 := [some s0, some s1, some (.ref 0), some (.int base), some (.int x), c5, c6]) (by simp [bindT]), e1]
    exact e2
theorem draws_while (n : Nat) (hn : n < 1000000) : ∀ (k : Nat) (fuel : Nat) (h : AH) (row : List Int) (cs : List AV) (s0 : AV) (base : Int) (c4 c5 c6 : Option AV), k = n - row.length → k < fuel → DH h row cs → 0 ≤ base → base < 2147483647 →
    ∃ h' row' base', whileL (fun σ h => ev cl cf (.op .lt (.bi .len (.cons (.slot 2) .nil)) (.slot 1)) σ h) (fun σ h => ex cl cf dWh σ h) fuel [some s0, some (.int n), some (.ref 0), some (.int base), c4, c5, c6] h = .nx [some s0, some (.int n), some (.ref 0), some (.int base'), c4, c5, c6] h' ∧
      DH h' row' cs ∧ n ≤ row'.length
  | k, 0, _, _, _, _, _, _, _, _, _, hf, _, _, _ => by omega
  | 0, fuel + 1, h, row, cs, s0, base, c4, c5, c6, hk, _, D, b1, b2 => by
    refine ⟨h, row, base, ?_, D, by omega⟩
    have : decide ((row.length : Int) < (n : Int)) = false := by simp; omega
    rw [whileL_step]
    simp [len_lst D.g0]
    simp [show ¬ row.length < n by omega]
  | k + 1, fuel + 1, h, row, cs, s0, base, c4, c5, c6, hk, hf, D, b1, b2 => by
    obtain ⟨b, hb⟩ : ∃ b : Int, b = (base * 69621 + 12289) % 2147483647 := ⟨_, rfl⟩
    have hb' : 0 ≤ b ∧ b < 2147483647 := by rw [hb]; omega
    obtain ⟨v, hv⟩ : ∃ v : Int, v = b * b / 4099 % 10007 := ⟨_, rfl⟩
    have hv' : Dr v := ⟨by rw [hv]; omega, by rw [hv]; omega⟩
    obtain ⟨h2, row2, base2, e2, D2, l2⟩ := draws_while n hn k fuel _ (row ++ [v]) cs s0 b c4 c5 c6 (by simp; omega) (by omega) (D.put hv') hb'.1 hb'.2
    refine ⟨h2, row2, base2, ?_, D2, l2⟩
    rw [whileL_step]
    have ht : tyOf h (.ref 0) = some .list := by simp [tyOf, D.g0]
    have hap : row.length < LIM := by unfold LIM; omega
    have m1 : ∀ h : AH, op2 .mul (.int base) (.int 69621) h = .ok (.int (base * 69621)) h := fun h => op_mul' (by simp [smallF])
    have m2 : ∀ h : AH, op2 .mul (.int b) (.int b) h = .ok (.int (b * b)) h := fun h => op_mul' (by simp [smallF]; omega)
    have e1 : ex cl cf dWh [some s0, some (.int n), some (.ref 0), some (.int base), c4, c5, c6] h = .nx [some s0, some (.int n), some (.ref 0), some (.int b), c4, c5, c6] (h.put 0 (.lst (row.map .int ++ [.int v]))) := by
      simp [dWh, m1, op_mod', bindT, ← hb, m2, op_fdiv', ht, mthTy, primM, D.g0, mAppend, hap, ← hv]
    simp [len_lst D.g0, show row.length < n by omega]
    rw [e1]
    exact e2
end
/-- what a law draws -/
theorem draws_ok {P : Prg} {k : Nat} (hP : P.fn .d__law_draws = some ⟨2, 7, B_draws⟩) (ns : List Int) (hns : ns.length ≤ 63) (n : Nat) (hn : n < 1000000) :
    ∃ (l : List Int) (h : AH), callD P (k + 1) .d__law_draws [.rl (ns.map .int), .int n] AH0 = .ok (.ref 2) h ∧ h.g 2 = some (.lst (l.map .int)) ∧ l.length = n ∧ (∀ x ∈ l, Dr x) ∧ h.n = 3 ∧ (∀ b, 3 ≤ b → h.g b = none) := by
  rw [callD_eq hP rfl]
  obtain ⟨h1, row1, base1, c4, c5, c6, e1, D1, l1, b1, b2⟩ := draws_loop (cl := P.cl) (cf := callD P k) ns ⟨fun b => if b = 1 then some (.lst (ns.map .int)) else if b = 0 then some (.lst []) else none, 2⟩ [] (ns.map .int) (.rl (ns.map .int)) (.int n) 7 none none none
    ⟨rfl, rfl, rfl, fun b hb => by
      show (if b = 1 then _ else if b = 0 then _ else none) = none
      rw [if_neg (by omega), if_neg (by omega)], fun x hx => by simp at hx⟩ (by omega) (by omega) (by simp [LIM]; omega)
  obtain ⟨h2, row2, base2, e2, D2, l2⟩ := draws_while (cl := P.cl) (cf := callD P k) n hn _ WL h1 row1 (ns.map .int) (.rl (ns.map .int)) base1 c4 c5 c6 rfl (by unfold WL; omega) D1 b1 b2
  refine ⟨row2.take n, h2.new (.lst ((row2.take n).map .int)), ?_, ?_, by simp; omega, fun x hx => D2.dr x (List.mem_of_mem_take hx), by simp [AH.new, D2.n], fun b hb => ?_⟩
  · have c1 : cut (ns.map AV.int) none (some 63) = ns.map AV.int := by
      simp only [cut, sIx, List.drop_zero]
      rw [List.take_of_length_le]
      simp; omega
    have c2 : cut (row2.map AV.int) none (some (n : Int)) = (row2.take n).map AV.int := by
      simp only [cut, sIx, List.drop_zero]
      rw [if_neg (by omega), List.map_take]
      congr 1
      simp; omega
    have e0 : ex P.cl (callD P k) (.for (.one 4) .seq (.cons (.slice (.slot 0) .nil (.int (63))) .nil) dOut) [some (.rl (ns.map .int)), some (.int n), some (.ref 0), some (.int 7), none, none, none] (AH0.new (.lst [])) = .nx [some (.rl (ns.map .int)), some (.int n), some (.ref 0), some (.int base1), c4, c5, c6] h1 := by
      rw [ex_for']
      simp [sliceA, c1, walk, wk1, walkSeq, AH.new, AH0]
      exact e1
    show toR (ex P.cl (callD P k) B_draws [some (.rl (ns.map .int)), some (.int n), none, none, none, none, none] AH0) = _
    unfold B_draws
    rw [ex_seq']
    simp only [ex_asg', ev_lst', evs_nil', bind_ok, newL, List.length_nil, Nat.zero_le, if_true, bindS_ok, bindT, List.length_cons]
    simp only [Nat.reduceAdd, Nat.reduceLT, if_true, List.set_cons_succ, List.set_cons_zero, sr_nx, ex_seq', ex_asg', ev_int', bindS_ok, bindT, List.length_cons, List.length_nil]
    rw [show AH0.n = 0 from rfl, e0]
    simp only [sr_nx, ex_while']
    rw [e2]
    simp [sliceA, D2.g0, c2, D2.n]
  · simp [AH.new, D2.n]
  · simp only [AH.new, D2.n]
    rw [if_neg (by omega)]
    exact D2.no b (by omega)
end Rl

/-! YDefs: own terms that several laws share. Printed by common.py. -/
namespace Rl.Y
def K_ENDS : List (Tx × Int) := [([108, 105, 110, 101], 2), ([98, 101, 108, 108], 2), ([115, 116, 111, 112], 1), ([115, 116, 105, 108, 108], 3), ([108, 97, 122, 121], 3), ([116, 117, 114, 110, 105, 110, 103], 3)]
def B_Laid_init : Rl.S := (.seq (.fset (.slot 0) .f_yard (.slot 1))
  (.seq (.fset (.slot 0) .f_door_of (.slot 2))
  (.seq (.fset (.slot 0) .f_row_of (.dict0 true))
  (.seq (.for (.one 5) .seq (.cons (.slot 2) .nil) (.seq (.iset (.fld (.slot 0) .f_row_of) (.op .item (.slot 2) (.slot 5)) (.slot 5))
  .nil))
  (.seq (.fset (.slot 0) .f_mark_list (.slot 3))
  (.seq (.fset (.slot 0) .f_bit_lists (.slot 4))
  .nil))))))
def B_Laid_bit_rods : Rl.S := (.seq (.ite (.or (.op .lt (.slot 1) (.int (0))) (.op .ge (.slot 1) (.bi .len (.cons (.fld (.slot 0) .f_bit_lists) .nil)))) (.seq (.raise .c_NoCounter)
  .nil) .nil)
  (.seq (.ret (.bi .list (.cons (.op .item (.fld (.slot 0) .f_bit_lists) (.slot 1)) .nil)))
  .nil))
def B_Laid_door : Rl.S := (.seq (.ite (.op .notin (.tup (.cons (.slot 1) (.cons (.int (0)) .nil))) (.fld (.slot 0) .f_door_of)) (.seq (.raise .c_NoStretch)
  .nil) .nil)
  (.seq (.ite (.op .notin (.tup (.cons (.slot 1) (.cons (.slot 2) .nil))) (.fld (.slot 0) .f_door_of)) (.seq (.raise .c_NoRow)
  .nil) .nil)
  (.seq (.ret (.op .item (.fld (.slot 0) .f_door_of) (.tup (.cons (.slot 1) (.cons (.slot 2) .nil)))))
  .nil)))
def B_Laid_fill : Rl.S := (.seq (.asg (.one 3) (.meth (.slot 0) .f_bit_rods (.cons (.slot 1) .nil) []))
  (.seq (.ite (.or (.op .lt (.slot 2) (.int (0))) (.op .ge (.slot 2) (.call .d_room_of (.cons (.bi .len (.cons (.slot 3) .nil)) .nil)))) (.seq (.raise .c_NoValue)
  .nil) .nil)
  (.seq (.exp (.call .d_set_number (.cons (.fld (.slot 0) .f_yard) (.cons (.slot 3) (.cons (.slot 2) .nil)))))
  .nil)))
def B_Laid_lies : Rl.S := (.seq (.ret (.meth (.fld (.slot 0) .f_yard) .f_side (.cons (.meth (.slot 0) .f_mark_rod (.cons (.slot 1) .nil) []) .nil) []))
  .nil)
def B_Laid_mark_rod : Rl.S := (.seq (.ite (.or (.op .lt (.slot 1) (.int (0))) (.op .ge (.slot 1) (.bi .len (.cons (.fld (.slot 0) .f_mark_list) .nil)))) (.seq (.raise .c_NoMark)
  .nil) .nil)
  (.seq (.ret (.op .item (.fld (.slot 0) .f_mark_list) (.slot 1)))
  .nil))
def B_Laid_reads : Rl.S := (.seq (.ret (.call .d_number_on (.cons (.fld (.slot 0) .f_yard) (.cons (.meth (.slot 0) .f_bit_rods (.cons (.slot 1) .nil) []) .nil))))
  .nil)
def B_Laid_row_here : Rl.S := (.seq (.ite (.isN (.meth (.fld (.slot 0) .f_yard) .f_engine .nil [])) (.seq (.ret .non)
  .nil) .nil)
  (.seq (.ret (.mth .get (.fld (.slot 0) .f_row_of) (.cons (.meth (.fld (.slot 0) .f_yard) .f_engine .nil []) .nil)))
  .nil))
def B_Laid_turn : Rl.S := (.seq (.asg (.one 3) (.meth (.slot 0) .f_mark_rod (.cons (.slot 1) .nil) []))
  (.seq (.exp (.meth (.fld (.slot 0) .f_yard) .f_throw (.cons (.slot 3) (.cons (.call .d_good_side (.cons (.slot 2) .nil)) .nil)) []))
  .nil))
def B_Layer_init : Rl.S := (.seq (.fset (.slot 0) .f_yard (.make .c_Yard .nil))
  (.seq (.fset (.slot 0) .f_parts (.comp (.one 2) .rng1 (.cons (.meth (.slot 1) .f_many .nil []) .nil) (.bl true) (.meth (.slot 1) .f_rows (.cons (.slot 2) .nil) [])))
  (.seq (.fset (.slot 0) .f_mark_list (.comp (.one 3) .seq (.cons (.meth (.slot 1) .f_marks .nil []) .nil) (.bl true) (.meth (.fld (.slot 0) .f_yard) .f_new_rod (.cons (.slot 3) .nil) [])))
  (.seq (.fset (.slot 0) .f_bit_lists (.comp (.one 4) .seq (.cons (.meth (.slot 1) .f_widths .nil []) .nil) (.bl true) (.comp (.one 5) .rng1 (.cons (.slot 4) .nil) (.bl true) (.meth (.fld (.slot 0) .f_yard) .f_new_rod .nil [.int 1]))))
  (.seq (.fset (.slot 0) .f_door_of (.dict0 true))
  (.seq (.fset (.slot 0) .f_sources (.dict0 true))
  (.seq (.fset (.slot 0) .f_comings (.comp (.one 6) .seq (.cons (.fld (.slot 0) .f_parts) .nil) (.bl true) (.lst .nil)))
  (.seq (.fset (.slot 0) .f_leavings (.comp (.one 6) .seq (.cons (.fld (.slot 0) .f_parts) .nil) (.bl true) (.lst .nil)))
  .nil))))))))
def B_Layer_lay_all : Rl.S := (.seq (.exp (.meth (.slot 0) .f_lay_doors .nil []))
  (.seq (.for (.tup [1, 2]) .enum (.cons (.fld (.slot 0) .f_parts) .nil) (.seq (.for (.tup [3, 4]) .enum (.cons (.slot 2) .nil) (.seq (.exp (.meth (.slot 0) .f_lay_row (.cons (.slot 4) (.cons (.slot 1) (.cons (.slot 3) .nil))) []))
  .nil))
  .nil))
  (.seq (.for (.one 1) .rng1 (.cons (.bi .len (.cons (.fld (.slot 0) .f_parts) .nil)) .nil) (.seq (.exp (.meth (.slot 0) .f_lay_ends (.cons (.slot 1) .nil) []))
  .nil))
  (.seq (.for (.one 5) .seq (.cons (.fld (.slot 0) .f_door_of) .nil) (.seq (.exp (.call .d_merge (.cons (.fld (.slot 0) .f_yard) (.cons (.op .item (.fld (.slot 0) .f_sources) (.slot 5)) (.cons (.op .item (.fld (.slot 0) .f_door_of) (.slot 5)) .nil)))))
  .nil))
  (.seq (.exp (.meth (.fld (.slot 0) .f_yard) .f_put (.cons (.op .item (.fld (.slot 0) .f_door_of) (.tup (.cons (.int (0)) (.cons (.int (0)) .nil)))) .nil) []))
  .nil)))))
def B_Layer_lay_call : Rl.S := (.seq (.asg (.tup [5, 6, 7]) (.call .d_doorway (.cons (.fld (.slot 0) .f_yard) .nil)))
  (.seq (.exp (.meth (.fld (.slot 0) .f_yard) .f_link (.cons (.slot 1) (.cons (.slot 6) .nil)) []))
  (.seq (.exp (.mth .append (.op .item (.fld (.slot 0) .f_comings) (.slot 2)) (.cons (.slot 5) .nil)))
  (.seq (.exp (.meth (.slot 0) .f_lead (.cons (.slot 7) (.cons (.slot 3) (.cons (.op .add (.slot 4) (.int (1))) .nil))) []))
  .nil))))
def B_Layer_lay_doors : Rl.S := (.seq (.for (.tup [1, 2]) .enum (.cons (.fld (.slot 0) .f_parts) .nil) (.seq (.for (.one 3) .rng1 (.cons (.bi .len (.cons (.slot 2) .nil)) .nil) (.seq (.iset (.fld (.slot 0) .f_door_of) (.tup (.cons (.slot 1) (.cons (.slot 3) .nil))) (.tup (.cons (.meth (.fld (.slot 0) .f_yard) .f_lay (.cons (.str [108, 105, 110, 101]) .nil) [.int 0, .non]) (.cons (.int (0)) .nil))))
  (.seq (.iset (.fld (.slot 0) .f_sources) (.tup (.cons (.slot 1) (.cons (.slot 3) .nil))) (.lst .nil))
  .nil)))
  .nil))
  .nil)
def B_Layer_lay_ends : Rl.S := (.seq (.ite (.op .eq (.slot 1) (.int (0))) (.seq (.exp (.call .d_merge (.cons (.fld (.slot 0) .f_yard) (.cons (.op .item (.fld (.slot 0) .f_leavings) (.int (0))) (.cons (.tup (.cons (.meth (.fld (.slot 0) .f_yard) .f_lay (.cons (.str [115, 116, 111, 112]) .nil) [.int 0, .non]) (.cons (.int (0)) .nil))) .nil)))))
  .nil) (.seq (.ite (.op .gt (.bi .len (.cons (.op .item (.fld (.slot 0) .f_comings) (.slot 1)) .nil)) (.int (0))) (.seq (.asg (.tup [2, 3]) (.call .d_fan (.cons (.fld (.slot 0) .f_yard) (.cons (.bi .len (.cons (.op .item (.fld (.slot 0) .f_comings) (.slot 1)) .nil)) .nil))))
  (.seq (.for (.tup [4, 5]) .zip (.cons (.slot 3) (.cons (.op .item (.fld (.slot 0) .f_comings) (.slot 1)) .nil)) (.seq (.exp (.meth (.fld (.slot 0) .f_yard) .f_link (.cons (.slot 4) (.cons (.slot 5) .nil)) []))
  .nil))
  (.seq (.asg (.tup [5, 6, 7]) (.call .d_doorway (.cons (.fld (.slot 0) .f_yard) .nil)))
  (.seq (.exp (.meth (.fld (.slot 0) .f_yard) .f_link (.cons (.slot 5) (.cons (.slot 2) .nil)) []))
  (.seq (.exp (.meth (.slot 0) .f_lead (.cons (.slot 7) (.cons (.slot 1) (.cons (.int (0)) .nil))) []))
  (.seq (.exp (.call .d_merge (.cons (.fld (.slot 0) .f_yard) (.cons (.op .item (.fld (.slot 0) .f_leavings) (.slot 1)) (.cons (.slot 6) .nil)))))
  .nil)))))) .nil)
  .nil))
  .nil)
def B_Layer_lay_row : Rl.S := (.seq (.asg (.one 4) (.tup (.cons (.op .item (.op .item (.fld (.slot 0) .f_door_of) (.tup (.cons (.slot 2) (.cons (.slot 3) .nil)))) (.int (0))) (.cons (.int (1)) .nil))))
  (.seq (.asg (.one 5) (.op .item (.slot 1) (.int (0))))
  (.seq (.ite (.op .eq (.slot 5) (.str [98, 101, 108, 108])) (.seq (.asg (.one 6) (.meth (.fld (.slot 0) .f_yard) .f_lay (.cons (.str [98, 101, 108, 108]) (.cons (.op .item (.slot 1) (.int (1))) .nil)) [.non]))
  (.seq (.exp (.meth (.fld (.slot 0) .f_yard) .f_link (.cons (.slot 4) (.cons (.tup (.cons (.slot 6) (.cons (.int (0)) .nil))) .nil)) []))
  (.seq (.exp (.meth (.slot 0) .f_lead (.cons (.tup (.cons (.slot 6) (.cons (.int (1)) .nil))) (.cons (.slot 2) (.cons (.op .add (.slot 3) (.int (1))) .nil))) []))
  .nil))) (.seq (.ite (.op .eq (.slot 5) (.str [115, 101, 116])) (.seq (.asg (.one 6) (.methK (.fld (.slot 0) .f_yard) .f_lay (.cons (.str [108, 97, 122, 121]) .nil) [.int 0] .f_rod (.op .item (.fld (.slot 0) .f_mark_list) (.op .item (.slot 1) (.int (1))))))
  (.seq (.exp (.meth (.fld (.slot 0) .f_yard) .f_link (.cons (.slot 4) (.cons (.tup (.cons (.slot 6) (.cons (.op .item (.slot 1) (.int (2))) .nil))) .nil)) []))
  (.seq (.exp (.meth (.slot 0) .f_lead (.cons (.tup (.cons (.slot 6) (.cons (.int (0)) .nil))) (.cons (.slot 2) (.cons (.op .add (.slot 3) (.int (1))) .nil))) []))
  .nil))) (.seq (.ite (.op .eq (.slot 5) (.str [97, 115, 107])) (.seq (.asg (.one 6) (.methK (.fld (.slot 0) .f_yard) .f_lay (.cons (.str [115, 116, 105, 108, 108]) .nil) [.int 0] .f_rod (.op .item (.fld (.slot 0) .f_mark_list) (.op .item (.slot 1) (.int (1))))))
  (.seq (.exp (.meth (.fld (.slot 0) .f_yard) .f_link (.cons (.slot 4) (.cons (.tup (.cons (.slot 6) (.cons (.int (0)) .nil))) .nil)) []))
  (.seq (.exp (.meth (.slot 0) .f_lead (.cons (.tup (.cons (.slot 6) (.cons (.int (1)) .nil))) (.cons (.slot 2) (.cons (.op .item (.slot 1) (.int (2))) .nil))) []))
  (.seq (.exp (.meth (.slot 0) .f_lead (.cons (.tup (.cons (.slot 6) (.cons (.int (2)) .nil))) (.cons (.slot 2) (.cons (.op .item (.slot 1) (.int (3))) .nil))) []))
  .nil)))) (.seq (.ite (.op .eq (.slot 5) (.str [98, 117, 109, 112])) (.seq (.asg (.tup [7, 8, 9]) (.call .d_tally (.cons (.fld (.slot 0) .f_yard) (.cons (.op .item (.fld (.slot 0) .f_bit_lists) (.op .item (.slot 1) (.int (1)))) .nil))))
  (.seq (.exp (.meth (.fld (.slot 0) .f_yard) .f_link (.cons (.slot 4) (.cons (.slot 7) .nil)) []))
  (.seq (.exp (.meth (.slot 0) .f_lead (.cons (.slot 8) (.cons (.slot 2) (.cons (.op .add (.slot 3) (.int (1))) .nil))) []))
  (.seq (.exp (.meth (.slot 0) .f_lead (.cons (.slot 9) (.cons (.slot 2) (.cons (.op .item (.slot 1) (.int (2))) .nil))) []))
  .nil)))) (.seq (.ite (.op .eq (.slot 5) (.str [103, 111])) (.seq (.exp (.meth (.slot 0) .f_lead (.cons (.slot 4) (.cons (.slot 2) (.cons (.op .item (.slot 1) (.int (1))) .nil))) []))
  .nil) (.seq (.ite (.op .eq (.slot 5) (.str [99, 97, 108, 108])) (.seq (.exp (.meth (.slot 0) .f_lay_call (.cons (.slot 4) (.cons (.op .item (.slot 1) (.int (1))) (.cons (.slot 2) (.cons (.slot 3) .nil)))) []))
  .nil) (.seq (.exp (.mth .append (.op .item (.fld (.slot 0) .f_leavings) (.slot 2)) (.cons (.slot 4) .nil)))
  .nil))
  .nil))
  .nil))
  .nil))
  .nil))
  .nil))
  .nil)))
def B_Layer_lead : Rl.S := (.seq (.exp (.mth .append (.op .item (.fld (.slot 0) .f_sources) (.tup (.cons (.slot 2) (.cons (.slot 3) .nil)))) (.cons (.slot 1) .nil)))
  .nil)
def B_Program_init : Rl.S := (.seq (.fset (.slot 0) .f_first_sides (.bi .list (.cons (.slot 1) .nil)))
  (.seq (.fset (.slot 0) .f_bit_counts (.bi .list (.cons (.slot 2) .nil)))
  (.seq (.fset (.slot 0) .f_parts (.comp (.one 4) .seq (.cons (.slot 3) .nil) (.bl true) (.bi .list (.cons (.slot 4) .nil))))
  (.seq (.for (.one 5) .seq (.cons (.fld (.slot 0) .f_first_sides) .nil) (.seq (.exp (.call .d_good_side (.cons (.slot 5) .nil)))
  .nil))
  (.seq (.for (.one 6) .seq (.cons (.fld (.slot 0) .f_bit_counts) .nil) (.seq (.ite (.or (.op .lt (.slot 6) (.int (1))) (.op .gt (.slot 6) (.int (8)))) (.seq (.raise .c_NoWidth)
  .nil) .nil)
  .nil))
  (.seq (.ite (.op .eq (.bi .len (.cons (.fld (.slot 0) .f_parts) .nil)) (.int (0))) (.seq (.raise .c_NoStretch)
  .nil) .nil)
  (.seq (.for (.one 7) .rng1 (.cons (.bi .len (.cons (.fld (.slot 0) .f_parts) .nil)) .nil) (.seq (.exp (.meth (.slot 0) .f_look_stretch (.cons (.slot 7) .nil) []))
  .nil))
  .nil)))))))
def B_Program_look_call : Rl.S := (.seq (.ite (.or (.op .le (.slot 1) (.slot 2)) (.op .ge (.slot 1) (.bi .len (.cons (.fld (.slot 0) .f_parts) .nil)))) (.seq (.raise .c_NoStretch)
  .nil) .nil)
  .nil)
def B_Program_look_counter : Rl.S := (.seq (.ite (.or (.op .lt (.slot 1) (.int (0))) (.op .ge (.slot 1) (.bi .len (.cons (.fld (.slot 0) .f_bit_counts) .nil)))) (.seq (.raise .c_NoCounter)
  .nil) .nil)
  .nil)
def B_Program_look_deed : Rl.S := (.seq (.asg (.one 4) (.op .item (.slot 1) (.int (0))))
  (.seq (.ite (.op .eq (.slot 4) (.str [98, 101, 108, 108])) (.seq (.exp (.call .d_look_note (.cons (.op .item (.slot 1) (.int (1))) .nil)))
  .nil) (.seq (.ite (.op .eq (.slot 4) (.str [115, 101, 116])) (.seq (.exp (.meth (.slot 0) .f_look_mark (.cons (.op .item (.slot 1) (.int (1))) .nil) []))
  (.seq (.exp (.call .d_good_side (.cons (.op .item (.slot 1) (.int (2))) .nil)))
  .nil)) (.seq (.ite (.op .eq (.slot 4) (.str [97, 115, 107])) (.seq (.exp (.meth (.slot 0) .f_look_mark (.cons (.op .item (.slot 1) (.int (1))) .nil) []))
  (.seq (.exp (.meth (.slot 0) .f_look_row (.cons (.op .item (.slot 1) (.int (2))) (.cons (.slot 3) .nil)) []))
  (.seq (.exp (.meth (.slot 0) .f_look_row (.cons (.op .item (.slot 1) (.int (3))) (.cons (.slot 3) .nil)) []))
  .nil))) (.seq (.ite (.op .eq (.slot 4) (.str [98, 117, 109, 112])) (.seq (.exp (.meth (.slot 0) .f_look_counter (.cons (.op .item (.slot 1) (.int (1))) .nil) []))
  (.seq (.exp (.meth (.slot 0) .f_look_row (.cons (.op .item (.slot 1) (.int (2))) (.cons (.slot 3) .nil)) []))
  .nil)) (.seq (.ite (.op .eq (.slot 4) (.str [103, 111])) (.seq (.exp (.meth (.slot 0) .f_look_row (.cons (.op .item (.slot 1) (.int (1))) (.cons (.slot 3) .nil)) []))
  .nil) (.seq (.ite (.op .eq (.slot 4) (.str [99, 97, 108, 108])) (.seq (.exp (.meth (.slot 0) .f_look_call (.cons (.op .item (.slot 1) (.int (1))) (.cons (.slot 2) .nil)) []))
  .nil) .nil)
  .nil))
  .nil))
  .nil))
  .nil))
  .nil))
  .nil))
def B_Program_look_mark : Rl.S := (.seq (.ite (.or (.op .lt (.slot 1) (.int (0))) (.op .ge (.slot 1) (.bi .len (.cons (.fld (.slot 0) .f_first_sides) .nil)))) (.seq (.raise .c_NoMark)
  .nil) .nil)
  .nil)
def B_Program_look_row : Rl.S := (.seq (.ite (.or (.op .lt (.slot 1) (.int (0))) (.op .ge (.slot 1) (.slot 2))) (.seq (.raise .c_NoRow)
  .nil) .nil)
  .nil)
def B_Program_look_stretch : Rl.S := (.seq (.asg (.one 2) (.op .item (.fld (.slot 0) .f_parts) (.slot 1)))
  (.seq (.ite (.op .eq (.bi .len (.cons (.slot 2) .nil)) (.int (0))) (.seq (.raise .c_FallsOut)
  .nil) .nil)
  (.seq (.for (.one 3) .seq (.cons (.slot 2) .nil) (.seq (.exp (.meth (.slot 0) .f_look_deed (.cons (.slot 3) (.cons (.slot 1) (.cons (.bi .len (.cons (.slot 2) .nil)) .nil))) []))
  .nil))
  (.seq (.ite (.op .notin (.op .item (.op .item (.slot 2) (.neg (.int (1)))) (.int (0))) (.tup (.cons (.str [97, 115, 107]) (.cons (.str [103, 111]) (.cons (.str [101, 110, 100]) .nil))))) (.seq (.raise .c_FallsOut)
  .nil) .nil)
  .nil))))
def B_Program_many : Rl.S := (.seq (.ret (.bi .len (.cons (.fld (.slot 0) .f_parts) .nil)))
  .nil)
def B_Program_marks : Rl.S := (.seq (.ret (.bi .list (.cons (.fld (.slot 0) .f_first_sides) .nil)))
  .nil)
def B_Program_rows : Rl.S := (.seq (.ite (.or (.op .lt (.slot 1) (.int (0))) (.op .ge (.slot 1) (.bi .len (.cons (.fld (.slot 0) .f_parts) .nil)))) (.seq (.raise .c_NoStretch)
  .nil) .nil)
  (.seq (.ret (.bi .list (.cons (.op .item (.fld (.slot 0) .f_parts) (.slot 1)) .nil)))
  .nil))
def B_Program_widths : Rl.S := (.seq (.ret (.bi .list (.cons (.fld (.slot 0) .f_bit_counts) .nil)))
  .nil)
def B_Reader_init : Rl.S := (.seq (.fset (.slot 0) .f_told (.comp (.one 2) .rng1 (.cons (.meth (.slot 1) .f_many .nil []) .nil) (.bl true) (.meth (.slot 1) .f_rows (.cons (.slot 2) .nil) [])))
  (.seq (.fset (.slot 0) .f_sides (.meth (.slot 1) .f_marks .nil []))
  (.seq (.fset (.slot 0) .f_rooms (.comp (.one 3) .seq (.cons (.meth (.slot 1) .f_widths .nil []) .nil) (.bl true) (.call .d_room_of (.cons (.slot 3) .nil))))
  (.seq (.fset (.slot 0) .f_sums (.comp (.one 3) .seq (.cons (.fld (.slot 0) .f_rooms) .nil) (.bl true) (.int (0))))
  (.seq (.fset (.slot 0) .f_here (.tup (.cons (.int (0)) (.cons (.int (0)) .nil))))
  (.seq (.fset (.slot 0) .f_waiting (.lst .nil))
  (.seq (.fset (.slot 0) .f_notes_heard (.lst .nil))
  .nil)))))))
def B_Reader_bump : Rl.S := (.seq (.asg (.one 2) (.op .add (.op .item (.fld (.slot 0) .f_sums) (.slot 1)) (.int (1))))
  (.seq (.ite (.op .eq (.slot 2) (.op .item (.fld (.slot 0) .f_rooms) (.slot 1))) (.seq (.asg (.one 2) (.int (0)))
  .nil) .nil)
  (.seq (.iset (.fld (.slot 0) .f_sums) (.slot 1) (.slot 2))
  (.seq (.ret (.op .eq (.slot 2) (.int (0))))
  .nil))))
def B_Reader_callers : Rl.S := (.seq (.ret (.bi .list (.cons (.fld (.slot 0) .f_waiting) .nil)))
  .nil)
def B_Reader_counter : Rl.S := (.seq (.exp (.meth (.slot 0) .f_look_counter (.cons (.slot 1) .nil) []))
  (.seq (.ret (.op .item (.fld (.slot 0) .f_sums) (.slot 1)))
  .nil))
def B_Reader_heard : Rl.S := (.seq (.ret (.bi .list (.cons (.fld (.slot 0) .f_notes_heard) .nil)))
  .nil)
def B_Reader_leave : Rl.S := (.seq (.ite (.op .eq (.bi .len (.cons (.fld (.slot 0) .f_waiting) .nil)) (.int (0))) (.seq (.fset (.slot 0) .f_here .non)
  .nil) (.seq (.fset (.slot 0) .f_here (.mth .pop (.fld (.slot 0) .f_waiting) .nil))
  .nil))
  .nil)
def B_Reader_look_counter : Rl.S := (.seq (.ite (.or (.op .lt (.slot 1) (.int (0))) (.op .ge (.slot 1) (.bi .len (.cons (.fld (.slot 0) .f_sums) .nil)))) (.seq (.raise .c_NoCounter)
  .nil) .nil)
  .nil)
def B_Reader_look_mark : Rl.S := (.seq (.ite (.or (.op .lt (.slot 1) (.int (0))) (.op .ge (.slot 1) (.bi .len (.cons (.fld (.slot 0) .f_sides) .nil)))) (.seq (.raise .c_NoMark)
  .nil) .nil)
  .nil)
def B_Reader_mark : Rl.S := (.seq (.exp (.meth (.slot 0) .f_look_mark (.cons (.slot 1) .nil) []))
  (.seq (.ret (.op .item (.fld (.slot 0) .f_sides) (.slot 1)))
  .nil))
def B_Reader_step : Rl.S := (.seq (.ite (.isN (.fld (.slot 0) .f_here)) (.seq (.ret (.bl false))
  .nil) .nil)
  (.seq (.asg (.tup [1, 2]) (.fld (.slot 0) .f_here))
  (.seq (.asg (.one 3) (.op .item (.op .item (.fld (.slot 0) .f_told) (.slot 1)) (.slot 2)))
  (.seq (.asg (.one 4) (.op .item (.slot 3) (.int (0))))
  (.seq (.fset (.slot 0) .f_here (.tup (.cons (.slot 1) (.cons (.op .add (.slot 2) (.int (1))) .nil))))
  (.seq (.ite (.op .eq (.slot 4) (.str [98, 101, 108, 108])) (.seq (.exp (.mth .append (.fld (.slot 0) .f_notes_heard) (.cons (.op .item (.slot 3) (.int (1))) .nil)))
  .nil) (.seq (.ite (.op .eq (.slot 4) (.str [115, 101, 116])) (.seq (.iset (.fld (.slot 0) .f_sides) (.op .item (.slot 3) (.int (1))) (.op .item (.slot 3) (.int (2))))
  .nil) (.seq (.ite (.op .eq (.slot 4) (.str [97, 115, 107])) (.seq (.fset (.slot 0) .f_here (.tup (.cons (.slot 1) (.cons (.op .item (.slot 3) (.op .add (.int (1)) (.op .item (.fld (.slot 0) .f_sides) (.op .item (.slot 3) (.int (1)))))) .nil))))
  .nil) (.seq (.ite (.op .eq (.slot 4) (.str [98, 117, 109, 112])) (.seq (.ite (.meth (.slot 0) .f_bump (.cons (.op .item (.slot 3) (.int (1))) .nil) []) (.seq (.fset (.slot 0) .f_here (.tup (.cons (.slot 1) (.cons (.op .item (.slot 3) (.int (2))) .nil))))
  .nil) .nil)
  .nil) (.seq (.ite (.op .eq (.slot 4) (.str [103, 111])) (.seq (.fset (.slot 0) .f_here (.tup (.cons (.slot 1) (.cons (.op .item (.slot 3) (.int (1))) .nil))))
  .nil) (.seq (.ite (.op .eq (.slot 4) (.str [99, 97, 108, 108])) (.seq (.exp (.mth .append (.fld (.slot 0) .f_waiting) (.cons (.tup (.cons (.slot 1) (.cons (.op .add (.slot 2) (.int (1))) .nil))) .nil)))
  (.seq (.fset (.slot 0) .f_here (.tup (.cons (.op .item (.slot 3) (.int (1))) (.cons (.int (0)) .nil))))
  .nil)) (.seq (.exp (.meth (.slot 0) .f_leave .nil []))
  .nil))
  .nil))
  .nil))
  .nil))
  .nil))
  .nil))
  (.seq (.ret (.bl true))
  .nil)))))))
def B_Reader_where : Rl.S := (.seq (.ret (.fld (.slot 0) .f_here))
  .nil)
def B_Yard_init : Rl.S := (.seq (.fset (.slot 0) .f_kind_of (.dict0 false))
  (.seq (.fset (.slot 0) .f_note_of (.dict0 false))
  (.seq (.fset (.slot 0) .f_rod_of (.dict0 false))
  (.seq (.fset (.slot 0) .f_side_of (.dict0 false))
  (.seq (.fset (.slot 0) .f_mate_of (.dict0 true))
  (.seq (.fset (.slot 0) .f_next_piece (.int (0)))
  (.seq (.fset (.slot 0) .f_next_rod (.int (0)))
  (.seq (.fset (.slot 0) .f_at .non)
  (.seq (.fset (.slot 0) .f_rung (.lst .nil))
  (.seq (.fset (.slot 0) .f_trail (.lst .nil))
  .nil))))))))))
def B_Yard_bells : Rl.S := (.seq (.ret (.bi .list (.cons (.fld (.slot 0) .f_rung) .nil)))
  .nil)
def B_Yard_engine : Rl.S := (.seq (.ret (.fld (.slot 0) .f_at))
  .nil)
def B_Yard_kind : Rl.S := (.seq (.exp (.meth (.slot 0) .f_look_piece (.cons (.slot 1) .nil) []))
  (.seq (.ret (.op .item (.fld (.slot 0) .f_kind_of) (.slot 1)))
  .nil))
def B_Yard_lay : Rl.S := (.seq (.asg (.one 4) (.call .d_is_point (.cons (.slot 1) .nil)))
  (.seq (.ite (.and (.op .eq (.slot 1) (.str [98, 101, 108, 108])) (.or (.op .lt (.slot 2) (.int (0))) (.op .gt (.slot 2) (.int (9999))))) (.seq (.raise .c_NoNote)
  .nil) .nil)
  (.seq (.ite (.and (.slot 4) (.notN (.slot 3))) (.seq (.exp (.meth (.slot 0) .f_look_rod (.cons (.slot 3) .nil) []))
  .nil) .nil)
  (.seq (.asg (.one 5) (.fld (.slot 0) .f_next_piece))
  (.seq (.fset (.slot 0) .f_next_piece (.op .add (.slot 5) (.int (1))))
  (.seq (.iset (.fld (.slot 0) .f_kind_of) (.slot 5) (.slot 1))
  (.seq (.ite (.op .eq (.slot 1) (.str [98, 101, 108, 108])) (.seq (.iset (.fld (.slot 0) .f_note_of) (.slot 5) (.slot 2))
  .nil) .nil)
  (.seq (.ite (.slot 4) (.seq (.ite (.isN (.slot 3)) (.seq (.asg (.one 3) (.meth (.slot 0) .f_new_rod .nil [.int 1]))
  .nil) .nil)
  (.seq (.iset (.fld (.slot 0) .f_rod_of) (.slot 5) (.slot 3))
  .nil)) .nil)
  (.seq (.fset (.slot 0) .f_trail (.lst .nil))
  (.seq (.ret (.slot 5))
  .nil))))))))))
def B_Yard_lift : Rl.S := (.seq (.exp (.meth (.slot 0) .f_look_piece (.cons (.slot 1) .nil) []))
  (.seq (.for (.one 2) .rng1 (.cons (.call .d_ends_of (.cons (.op .item (.fld (.slot 0) .f_kind_of) (.slot 1)) .nil)) .nil) (.seq (.ite (.op .isin (.tup (.cons (.slot 1) (.cons (.slot 2) .nil))) (.fld (.slot 0) .f_mate_of)) (.seq (.raise .c_Linked)
  .nil) .nil)
  .nil))
  (.seq (.ite (.and (.notN (.fld (.slot 0) .f_at)) (.op .eq (.op .item (.fld (.slot 0) .f_at) (.int (0))) (.slot 1))) (.seq (.raise .c_Occupied)
  .nil) .nil)
  (.seq (.exp (.mth .pop (.fld (.slot 0) .f_kind_of) (.cons (.slot 1) .nil)))
  (.seq (.exp (.mth .pop (.fld (.slot 0) .f_note_of) (.cons (.slot 1) (.cons .non .nil))))
  (.seq (.exp (.mth .pop (.fld (.slot 0) .f_rod_of) (.cons (.slot 1) (.cons .non .nil))))
  (.seq (.fset (.slot 0) .f_trail (.lst .nil))
  .nil)))))))
def B_Yard_link : Rl.S := (.seq (.exp (.meth (.slot 0) .f_look_end (.cons (.slot 1) .nil) []))
  (.seq (.exp (.meth (.slot 0) .f_look_end (.cons (.slot 2) .nil) []))
  (.seq (.ite (.op .eq (.slot 1) (.slot 2)) (.seq (.raise .c_SameEnd)
  .nil) .nil)
  (.seq (.ite (.or (.op .isin (.slot 1) (.fld (.slot 0) .f_mate_of)) (.op .isin (.slot 2) (.fld (.slot 0) .f_mate_of))) (.seq (.raise .c_Linked)
  .nil) .nil)
  (.seq (.iset (.fld (.slot 0) .f_mate_of) (.slot 1) (.slot 2))
  (.seq (.iset (.fld (.slot 0) .f_mate_of) (.slot 2) (.slot 1))
  (.seq (.fset (.slot 0) .f_trail (.lst .nil))
  .nil)))))))
def B_Yard_look_end : Rl.S := (.seq (.asg (.tup [2, 3]) (.slot 1))
  (.seq (.exp (.meth (.slot 0) .f_look_piece (.cons (.slot 2) .nil) []))
  (.seq (.ite (.or (.op .lt (.slot 3) (.int (0))) (.op .ge (.slot 3) (.call .d_ends_of (.cons (.op .item (.fld (.slot 0) .f_kind_of) (.slot 2)) .nil)))) (.seq (.raise .c_NoEnd)
  .nil) .nil)
  .nil)))
def B_Yard_look_piece : Rl.S := (.seq (.ite (.op .notin (.slot 1) (.fld (.slot 0) .f_kind_of)) (.seq (.raise .c_NoPiece)
  .nil) .nil)
  .nil)
def B_Yard_look_rod : Rl.S := (.seq (.ite (.op .notin (.slot 1) (.fld (.slot 0) .f_side_of)) (.seq (.raise .c_NoRod)
  .nil) .nil)
  .nil)
def B_Yard_mate : Rl.S := (.seq (.exp (.meth (.slot 0) .f_look_end (.cons (.slot 1) .nil) []))
  (.seq (.ret (.mth .get (.fld (.slot 0) .f_mate_of) (.cons (.slot 1) .nil)))
  .nil))
def B_Yard_new_rod : Rl.S := (.seq (.exp (.call .d_good_side (.cons (.slot 1) .nil)))
  (.seq (.asg (.one 2) (.fld (.slot 0) .f_next_rod))
  (.seq (.fset (.slot 0) .f_next_rod (.op .add (.slot 2) (.int (1))))
  (.seq (.iset (.fld (.slot 0) .f_side_of) (.slot 2) (.slot 1))
  (.seq (.fset (.slot 0) .f_trail (.lst .nil))
  (.seq (.ret (.slot 2))
  .nil))))))
def B_Yard_off : Rl.S := (.seq (.fset (.slot 0) .f_at .non)
  (.seq (.fset (.slot 0) .f_trail (.lst .nil))
  .nil))
def B_Yard_pieces : Rl.S := (.seq (.ret (.bi .sorted (.cons (.bi .list (.cons (.fld (.slot 0) .f_kind_of) .nil)) .nil)))
  .nil)
def B_Yard_put : Rl.S := (.seq (.exp (.meth (.slot 0) .f_look_end (.cons (.slot 1) .nil) []))
  (.seq (.fset (.slot 0) .f_at (.slot 1))
  (.seq (.fset (.slot 0) .f_trail (.lst .nil))
  .nil)))
def B_Yard_rod : Rl.S := (.seq (.exp (.meth (.slot 0) .f_look_piece (.cons (.slot 1) .nil) []))
  (.seq (.ite (.op .notin (.slot 1) (.fld (.slot 0) .f_rod_of)) (.seq (.raise .c_NoPoint)
  .nil) .nil)
  (.seq (.ret (.op .item (.fld (.slot 0) .f_rod_of) (.slot 1)))
  .nil)))
def B_Yard_rods : Rl.S := (.seq (.ret (.bi .sorted (.cons (.bi .list (.cons (.fld (.slot 0) .f_side_of) .nil)) .nil)))
  .nil)
def B_Yard_side : Rl.S := (.seq (.exp (.meth (.slot 0) .f_look_rod (.cons (.slot 1) .nil) []))
  (.seq (.ret (.op .item (.fld (.slot 0) .f_side_of) (.slot 1)))
  .nil))
def B_Yard_steps : Rl.S := (.seq (.ret (.bi .len (.cons (.fld (.slot 0) .f_trail) .nil)))
  .nil)
def B_Yard_throw : Rl.S := (.seq (.exp (.meth (.slot 0) .f_look_rod (.cons (.slot 1) .nil) []))
  (.seq (.exp (.call .d_good_side (.cons (.slot 2) .nil)))
  (.seq (.iset (.fld (.slot 0) .f_side_of) (.slot 1) (.slot 2))
  (.seq (.fset (.slot 0) .f_trail (.lst .nil))
  .nil))))
def B_Yard_unlink : Rl.S := (.seq (.exp (.meth (.slot 0) .f_look_end (.cons (.slot 1) .nil) []))
  (.seq (.ite (.op .notin (.slot 1) (.fld (.slot 0) .f_mate_of)) (.seq (.raise .c_NotLinked)
  .nil) .nil)
  (.seq (.asg (.one 2) (.mth .pop (.fld (.slot 0) .f_mate_of) (.cons (.slot 1) .nil)))
  (.seq (.exp (.mth .pop (.fld (.slot 0) .f_mate_of) (.cons (.slot 2) .nil)))
  (.seq (.fset (.slot 0) .f_trail (.lst .nil))
  .nil)))))
def B__law_built : Rl.S := (.seq (.asg (.one 3) (.make .c_Yard .nil))
  (.seq (.asg (.one 4) (.lst .nil))
  (.seq (.asg (.one 5) (.lst .nil))
  (.seq (.asg (.one 6) (.lst .nil))
  (.seq (.asg (.one 7) (.lst .nil))
  (.seq (.for (.one 8) .rng1 (.cons (.slot 2) .nil) (.seq (.asg (.one 9) (.call .d__law_kind (.cons (.op .item (.slot 0) (.op .add (.slot 1) (.op .mul (.int (3)) (.slot 8)))) .nil)))
  (.seq (.asg (.one 10) (.op .mod (.op .item (.slot 0) (.op .add (.op .add (.slot 1) (.op .mul (.int (3)) (.slot 8))) (.int (1)))) (.int (10000))))
  (.seq (.asg (.one 11) (.op .item (.slot 0) (.op .add (.op .add (.slot 1) (.op .mul (.int (3)) (.slot 8))) (.int (2)))))
  (.seq (.asg (.one 12) (.op .sub (.int (0)) (.int (1))))
  (.seq (.ite (.op .eq (.slot 9) (.str [98, 101, 108, 108])) (.seq (.exp (.meth (.slot 3) .f_lay (.cons (.slot 9) (.cons (.slot 10) .nil)) [.non]))
  .nil) (.seq (.ite (.op .lt (.call .d__law_many (.cons (.slot 9) .nil)) (.int (3))) (.seq (.exp (.meth (.slot 3) .f_lay (.cons (.slot 9) .nil) [.int 0, .non]))
  .nil) (.seq (.ite (.and (.op .eq (.op .mod (.slot 11) (.int (3))) (.int (0))) (.op .gt (.bi .len (.cons (.slot 7) .nil)) (.int (0)))) (.seq (.asg (.one 12) (.op .mod (.op .fdiv (.slot 11) (.int (3))) (.bi .len (.cons (.slot 7) .nil))))
  (.seq (.exp (.meth (.slot 3) .f_lay (.cons (.slot 9) (.cons (.int (0)) (.cons (.slot 12) .nil))) []))
  .nil)) (.seq (.asg (.one 12) (.bi .len (.cons (.slot 7) .nil)))
  (.seq (.exp (.mth .append (.slot 7) (.cons (.int (1)) .nil)))
  (.seq (.exp (.meth (.slot 3) .f_lay (.cons (.slot 9) .nil) [.int 0, .non]))
  .nil))))
  .nil))
  .nil))
  (.seq (.exp (.mth .append (.slot 4) (.cons (.slot 9) .nil)))
  (.seq (.exp (.mth .append (.slot 5) (.cons (.slot 10) .nil)))
  (.seq (.exp (.mth .append (.slot 6) (.cons (.slot 12) .nil)))
  .nil)))))))))
  (.seq (.ret (.tup (.cons (.slot 3) (.cons (.slot 4) (.cons (.slot 5) (.cons (.slot 6) (.cons (.slot 7) .nil)))))))
  .nil)))))))
def B__law_copied : Rl.S := (.seq (.ret (.comp (.one 1) .seq (.cons (.slot 0) .nil) (.bl true) (.bi .list (.cons (.slot 1) .nil))))
  .nil)
def B__law_draws : Rl.S := (.seq (.asg (.one 2) (.lst .nil))
  (.seq (.asg (.one 3) (.int (7)))
  (.seq (.for (.one 4) .seq (.cons (.slice (.slot 0) .nil (.int (63))) .nil) (.seq (.asg (.one 5) (.bi .abs (.cons (.slot 4) .nil)))
  (.seq (.asg (.one 3) (.op .mod (.op .add (.op .add (.op .mul (.slot 3) (.int (48271))) (.slot 5)) (.op .mul (.int (2)) (.bi .int (.cons (.op .lt (.slot 4) (.int (0))) .nil)))) (.int (2147483647))))
  (.seq (.ite (.op .lt (.slot 5) (.op .pow (.int (10)) (.int (18)))) (.seq (.exp (.mth .append (.slot 2) (.cons (.slot 5) .nil)))
  .nil) (.seq (.for (.one 6) .rng1 (.cons (.int (60)) .nil) (.seq (.ite (.op .gt (.slot 5) (.int (0))) (.seq (.exp (.mth .append (.slot 2) (.cons (.op .mod (.slot 5) (.int (10007))) .nil)))
  (.seq (.asg (.one 5) (.op .fdiv (.slot 5) (.int (10007))))
  .nil)) .nil)
  .nil))
  .nil))
  .nil))))
  (.seq (.while (.op .lt (.bi .len (.cons (.slot 2) .nil)) (.slot 1)) (.seq (.asg (.one 3) (.op .mod (.op .add (.op .mul (.slot 3) (.int (69621))) (.int (12289))) (.int (2147483647))))
  (.seq (.exp (.mth .append (.slot 2) (.cons (.op .mod (.op .fdiv (.op .mul (.slot 3) (.slot 3)) (.int (4099))) (.int (10007))) .nil)))
  .nil)))
  (.seq (.ret (.slice (.slot 2) .nil (.slot 1)))
  .nil)))))
def B__law_ends : Rl.S := (.seq (.asg (.one 1) (.lst .nil))
  (.seq (.for (.tup [2, 3]) .enum (.cons (.slot 0) .nil) (.seq (.for (.one 4) .rng1 (.cons (.call .d__law_many (.cons (.slot 3) .nil)) .nil) (.seq (.exp (.mth .append (.slot 1) (.cons (.tup (.cons (.slot 2) (.cons (.slot 4) .nil))) .nil)))
  .nil))
  .nil))
  (.seq (.ret (.slot 1))
  .nil)))
def B__law_is : Rl.S := (.seq (.ret (.and (.call .d__law_whole (.cons (.slot 0) .nil)) (.op .eq (.slot 0) (.slot 1))))
  .nil)
def B__law_is_end : Rl.S := (.seq (.ite (.isN (.slot 1)) (.seq (.ret (.isN (.slot 0)))
  .nil) .nil)
  (.seq (.ite (.or (.not (.isTy (.slot 0) .tuple)) (.op .ne (.bi .len (.cons (.slot 0) .nil)) (.int (2)))) (.seq (.ret (.bl false))
  .nil) .nil)
  (.seq (.ret (.and (.call .d__law_is (.cons (.op .item (.slot 0) (.int (0))) (.cons (.op .item (.slot 1) (.int (0))) .nil))) (.call .d__law_is (.cons (.op .item (.slot 0) (.int (1))) (.cons (.op .item (.slot 1) (.int (1))) .nil)))))
  .nil)))
def B__law_is_row : Rl.S := (.seq (.ite (.or (.not (.isTy (.slot 0) .list)) (.op .ne (.bi .len (.cons (.slot 0) .nil)) (.bi .len (.cons (.slot 1) .nil)))) (.seq (.ret (.bl false))
  .nil) .nil)
  (.seq (.ret (.bi .all (.cons (.comp (.tup [2, 3]) .zip (.cons (.slot 0) (.cons (.slot 1) .nil)) (.bl true) (.call .d__law_is (.cons (.slot 2) (.cons (.slot 3) .nil)))) .nil)))
  .nil))
def B__law_kind : Rl.S := (.seq (.ret (.op .item (.op .add (.call .d__law_kinds .nil) (.lst (.cons (.str [108, 97, 122, 121]) (.cons (.str [116, 117, 114, 110, 105, 110, 103]) (.cons (.str [98, 101, 108, 108]) (.cons (.str [115, 116, 105, 108, 108]) (.cons (.str [108, 105, 110, 101]) .nil))))))) (.op .mod (.slot 0) (.int (11)))))
  .nil)
def B__law_kinds : Rl.S := (.seq (.ret (.lst (.cons (.str [108, 105, 110, 101]) (.cons (.str [98, 101, 108, 108]) (.cons (.str [115, 116, 105, 108, 108]) (.cons (.str [108, 97, 122, 121]) (.cons (.str [116, 117, 114, 110, 105, 110, 103]) (.cons (.str [115, 116, 111, 112]) .nil))))))))
  .nil)
def B__law_laid_is : Rl.S := (.seq (.ite (.and (.notN (.slot 1)) (.not (.call .d__law_is_end (.cons (.meth (.slot 0) .f_row_here .nil []) (.cons (.slot 1) .nil))))) (.seq (.ret (.bl false))
  .nil) .nil)
  (.seq (.ite (.and (.isN (.slot 1)) (.notN (.meth (.slot 0) .f_row_here .nil []))) (.seq (.ret (.bl false))
  .nil) .nil)
  (.seq (.ite (.not (.call .d__law_is_row (.cons (.meth (.fld (.slot 0) .f_yard) .f_bells .nil []) (.cons (.slot 4) .nil)))) (.seq (.ret (.bl false))
  .nil) .nil)
  (.seq (.ite (.not (.bi .all (.cons (.comp (.tup [5, 6]) .enum (.cons (.slot 2) .nil) (.bl true) (.call .d__law_is (.cons (.meth (.slot 0) .f_lies (.cons (.slot 5) .nil) []) (.cons (.slot 6) .nil)))) .nil))) (.seq (.ret (.bl false))
  .nil) .nil)
  (.seq (.ret (.bi .all (.cons (.comp (.tup [7, 8]) .enum (.cons (.slot 3) .nil) (.bl true) (.call .d__law_is (.cons (.meth (.slot 0) .f_reads (.cons (.slot 7) .nil) []) (.cons (.slot 8) .nil)))) .nil)))
  .nil)))))
def B__law_linked : Rl.S := (.seq (.asg (.one 5) (.call .d__law_ends (.cons (.slot 1) .nil)))
  (.seq (.asg (.one 6) (.dict0 true))
  (.seq (.for (.one 7) .rng1 (.cons (.slot 4) .nil) (.seq (.ite (.op .gt (.bi .len (.cons (.slot 5) .nil)) (.int (1))) (.seq (.asg (.one 8) (.mth .pop (.slot 5) (.cons (.op .mod (.op .item (.slot 2) (.op .add (.slot 3) (.op .mul (.int (2)) (.slot 7)))) (.bi .len (.cons (.slot 5) .nil))) .nil)))
  (.seq (.asg (.one 9) (.mth .pop (.slot 5) (.cons (.op .mod (.op .item (.slot 2) (.op .add (.op .add (.slot 3) (.op .mul (.int (2)) (.slot 7))) (.int (1)))) (.bi .len (.cons (.slot 5) .nil))) .nil)))
  (.seq (.exp (.meth (.slot 0) .f_link (.cons (.slot 8) (.cons (.slot 9) .nil)) []))
  (.seq (.iset (.slot 6) (.slot 8) (.slot 9))
  (.seq (.iset (.slot 6) (.slot 9) (.slot 8))
  .nil))))) .nil)
  .nil))
  (.seq (.ret (.slot 6))
  .nil))))
def B__law_links : Rl.S := (.seq (.ite (.op .gt (.op .mod (.slot 0) (.int (3))) (.int (0))) (.seq (.ret (.int (40)))
  .nil) .nil)
  (.seq (.ret (.op .mod (.op .fdiv (.slot 0) (.int (3))) (.int (40))))
  .nil))
def B__law_many : Rl.S := (.seq (.ite (.op .eq (.slot 0) (.str [115, 116, 111, 112])) (.seq (.ret (.int (1)))
  .nil) .nil)
  (.seq (.ite (.or (.op .eq (.slot 0) (.str [108, 105, 110, 101])) (.op .eq (.slot 0) (.str [98, 101, 108, 108]))) (.seq (.ret (.int (2)))
  .nil) .nil)
  (.seq (.ret (.int (3)))
  .nil)))
def B__law_next : Rl.S := (.seq (.asg (.one 7) (.op .item (.op .item (.slot 0) (.op .item (.slot 1) (.int (0)))) (.op .item (.slot 1) (.int (1)))))
  (.seq (.asg (.one 8) (.tup (.cons (.op .item (.slot 1) (.int (0))) (.cons (.op .add (.op .item (.slot 1) (.int (1))) (.int (1))) .nil))))
  (.seq (.ite (.op .eq (.op .item (.slot 7) (.int (0))) (.str [98, 101, 108, 108])) (.seq (.exp (.mth .append (.slot 6) (.cons (.op .item (.slot 7) (.int (1))) .nil)))
  .nil) .nil)
  (.seq (.ite (.op .eq (.op .item (.slot 7) (.int (0))) (.str [115, 101, 116])) (.seq (.iset (.slot 3) (.op .item (.slot 7) (.int (1))) (.op .item (.slot 7) (.int (2))))
  .nil) .nil)
  (.seq (.ite (.op .eq (.op .item (.slot 7) (.int (0))) (.str [97, 115, 107])) (.seq (.ret (.tup (.cons (.op .item (.slot 1) (.int (0))) (.cons (.op .item (.slot 7) (.op .add (.int (1)) (.op .item (.slot 3) (.op .item (.slot 7) (.int (1)))))) .nil))))
  .nil) .nil)
  (.seq (.ite (.op .eq (.op .item (.slot 7) (.int (0))) (.str [98, 117, 109, 112])) (.seq (.iset (.slot 4) (.op .item (.slot 7) (.int (1))) (.op .mod (.op .add (.op .item (.slot 4) (.op .item (.slot 7) (.int (1)))) (.int (1))) (.op .item (.lst (.cons (.int (2)) (.cons (.int (4)) (.cons (.int (8)) (.cons (.int (16)) (.cons (.int (32)) (.cons (.int (64)) (.cons (.int (128)) (.cons (.int (256)) .nil))))))))) (.op .sub (.op .item (.slot 5) (.op .item (.slot 7) (.int (1)))) (.int (1))))))
  (.seq (.ite (.op .eq (.op .item (.slot 4) (.op .item (.slot 7) (.int (1)))) (.int (0))) (.seq (.ret (.tup (.cons (.op .item (.slot 1) (.int (0))) (.cons (.op .item (.slot 7) (.int (2))) .nil))))
  .nil) .nil)
  .nil)) .nil)
  (.seq (.ite (.op .eq (.op .item (.slot 7) (.int (0))) (.str [103, 111])) (.seq (.ret (.tup (.cons (.op .item (.slot 1) (.int (0))) (.cons (.op .item (.slot 7) (.int (1))) .nil))))
  .nil) .nil)
  (.seq (.ite (.op .eq (.op .item (.slot 7) (.int (0))) (.str [99, 97, 108, 108])) (.seq (.exp (.mth .append (.slot 2) (.cons (.slot 8) .nil)))
  (.seq (.ret (.tup (.cons (.op .item (.slot 7) (.int (1))) (.cons (.int (0)) .nil))))
  .nil)) .nil)
  (.seq (.ite (.op .eq (.op .item (.slot 7) (.int (0))) (.str [101, 110, 100])) (.seq (.ite (.op .eq (.bi .len (.cons (.slot 2) .nil)) (.int (0))) (.seq (.ret .non)
  .nil) .nil)
  (.seq (.ret (.mth .pop (.slot 2) .nil))
  .nil)) .nil)
  (.seq (.ret (.slot 8))
  .nil))))))))))
def B__law_parts : Rl.S := (.seq (.asg (.tup [4, 5, 6]) (.op .item (.lst (.cons (.tup (.cons (.op .add (.int (1)) (.op .mod (.op .item (.slot 0) (.slot 1)) (.int (4)))) (.cons (.int (1)) (.cons (.int (6)) .nil)))) (.cons (.tup (.cons (.int (8)) (.cons (.int (1)) (.cons (.int (10)) .nil)))) (.cons (.tup (.cons (.op .add (.int (1)) (.op .mod (.op .item (.slot 0) (.slot 1)) (.int (3)))) (.cons (.int (11)) (.cons (.int (30)) .nil)))) (.cons (.tup (.cons (.int (40)) (.cons (.int (1)) (.cons (.int (2)) .nil)))) (.cons (.tup (.cons (.int (1)) (.cons (.int (41)) (.cons (.int (60)) .nil)))) (.cons (.tup (.cons (.op .add (.int (1)) (.op .mod (.op .item (.slot 0) (.slot 1)) (.int (4)))) (.cons (.int (1)) (.cons (.int (6)) .nil)))) (.cons (.tup (.cons (.op .add (.int (1)) (.op .mod (.op .item (.slot 0) (.slot 1)) (.int (4)))) (.cons (.int (1)) (.cons (.int (6)) .nil)))) (.cons (.tup (.cons (.op .add (.int (1)) (.op .mod (.op .item (.slot 0) (.slot 1)) (.int (4)))) (.cons (.int (1)) (.cons (.int (6)) .nil)))) .nil))))))))) (.op .mod (.op .fdiv (.op .item (.slot 0) (.slot 1)) (.int (4))) (.int (8)))))
  (.seq (.asg (.one 7) (.lst .nil))
  (.seq (.asg (.one 8) (.int (0)))
  (.seq (.for (.one 9) .rng1 (.cons (.slot 4) .nil) (.seq (.asg (.one 10) (.op .add (.slot 5) (.op .mod (.op .add (.op .item (.slot 0) (.op .add (.op .add (.slot 1) (.int (1))) (.op .mod (.slot 9) (.int (8))))) (.op .fdiv (.slot 9) (.int (8)))) (.slot 6))))
  (.seq (.asg (.one 11) (.lst .nil))
  (.seq (.for (.one 12) .rng1 (.cons (.slot 10) .nil) (.seq (.asg (.one 13) (.op .add (.op .add (.slot 1) (.int (9))) (.op .mul (.int (4)) (.op .mod (.slot 8) (.int (80))))))
  (.seq (.exp (.mth .append (.slot 11) (.cons (.call .d__law_row (.cons (.slot 0) (.cons (.slot 13) (.cons (.op .fdiv (.slot 8) (.int (80))) (.cons (.slot 10) (.cons (.slot 2) (.cons (.slot 3) (.cons (.bi .listRg (.cons (.op .add (.slot 9) (.int (1))) (.cons (.slot 4) .nil))) .nil)))))))) .nil)))
  (.seq (.asg (.one 8) (.op .add (.slot 8) (.int (1))))
  .nil))))
  (.seq (.ite (.op .notin (.op .item (.op .item (.slot 11) (.neg (.int (1)))) (.int (0))) (.tup (.cons (.str [97, 115, 107]) (.cons (.str [103, 111]) (.cons (.str [101, 110, 100]) .nil))))) (.seq (.iset (.slot 11) (.neg (.int (1))) (.tup (.cons (.str [101, 110, 100]) .nil)))
  .nil) .nil)
  (.seq (.exp (.mth .append (.slot 7) (.cons (.slot 11) .nil)))
  .nil))))))
  (.seq (.ret (.slot 7))
  .nil)))))
def B__law_passing : Rl.S := (.seq (.ite (.op .eq (.slot 0) (.str [115, 116, 111, 112])) (.seq (.ret (.tup (.cons .non (.cons (.slot 2) .nil))))
  .nil) .nil)
  (.seq (.ite (.or (.op .eq (.slot 0) (.str [108, 105, 110, 101])) (.op .eq (.slot 0) (.str [98, 101, 108, 108]))) (.seq (.ret (.tup (.cons (.op .sub (.int (1)) (.slot 1)) (.cons (.slot 2) .nil))))
  .nil) .nil)
  (.seq (.ite (.and (.op .gt (.slot 1) (.int (0))) (.op .eq (.slot 0) (.str [108, 97, 122, 121]))) (.seq (.ret (.tup (.cons (.int (0)) (.cons (.slot 1) .nil))))
  .nil) .nil)
  (.seq (.ite (.op .gt (.slot 1) (.int (0))) (.seq (.ret (.tup (.cons (.int (0)) (.cons (.slot 2) .nil))))
  .nil) .nil)
  (.seq (.ite (.op .eq (.slot 0) (.str [116, 117, 114, 110, 105, 110, 103])) (.seq (.ret (.tup (.cons (.slot 2) (.cons (.op .sub (.int (3)) (.slot 2)) .nil))))
  .nil) .nil)
  (.seq (.ret (.tup (.cons (.slot 2) (.cons (.slot 2) .nil))))
  .nil))))))
def B__law_program : Rl.S := (.seq (.asg (.one 1) (.op .mod (.op .item (.slot 0) (.int (0))) (.int (4))))
  (.seq (.ite (.op .eq (.op .mod (.op .fdiv (.op .item (.slot 0) (.int (0))) (.int (4))) (.int (11))) (.int (1))) (.seq (.asg (.one 1) (.int (30)))
  .nil) .nil)
  (.seq (.asg (.one 2) (.comp (.one 3) .rng1 (.cons (.slot 1) .nil) (.bl true) (.op .add (.int (1)) (.op .mod (.op .item (.slot 0) (.op .add (.int (1)) (.slot 3))) (.int (2))))))
  (.seq (.asg (.one 4) (.lst .nil))
  (.seq (.asg (.one 1) (.op .mod (.op .item (.slot 0) (.int (4))) (.int (4))))
  (.seq (.ite (.op .eq (.op .mod (.op .fdiv (.op .item (.slot 0) (.int (4))) (.int (4))) (.int (11))) (.int (1))) (.seq (.asg (.one 1) (.int (30)))
  .nil) .nil)
  (.seq (.for (.one 3) .rng1 (.cons (.slot 1) .nil) (.seq (.asg (.one 5) (.op .add (.int (1)) (.op .mod (.op .item (.slot 0) (.op .add (.int (5)) (.slot 3))) (.int (2)))))
  (.seq (.ite (.op .eq (.op .mod (.op .fdiv (.op .item (.slot 0) (.op .add (.int (5)) (.slot 3))) (.int (2))) (.int (4))) (.int (1))) (.seq (.asg (.one 5) (.op .add (.int (1)) (.op .mod (.op .fdiv (.op .item (.slot 0) (.op .add (.int (5)) (.slot 3))) (.int (8))) (.int (8)))))
  .nil) .nil)
  (.seq (.exp (.mth .append (.slot 4) (.cons (.slot 5) .nil)))
  .nil))))
  (.seq (.ret (.tup (.cons (.slot 2) (.cons (.slot 4) (.cons (.call .d__law_parts (.cons (.slot 0) (.cons (.int (8)) (.cons (.bi .len (.cons (.slot 2) .nil)) (.cons (.bi .len (.cons (.slot 4) .nil)) .nil))))) .nil)))))
  .nil))))))))
def B__law_reads : Rl.S := (.seq (.ite (.or (.not (.call .d__law_is_end (.cons (.meth (.slot 0) .f_where .nil []) (.cons (.slot 1) .nil)))) (.not (.call .d__law_is_row (.cons (.meth (.slot 0) .f_heard .nil []) (.cons (.slot 5) .nil))))) (.seq (.ret (.bl false))
  .nil) .nil)
  (.seq (.asg (.one 6) (.meth (.slot 0) .f_callers .nil []))
  (.seq (.ite (.or (.not (.isTy (.slot 6) .list)) (.op .ne (.bi .len (.cons (.slot 6) .nil)) (.bi .len (.cons (.slot 2) .nil)))) (.seq (.ret (.bl false))
  .nil) .nil)
  (.seq (.ite (.not (.bi .all (.cons (.comp (.tup [7, 8]) .zip (.cons (.slot 6) (.cons (.slot 2) .nil)) (.bl true) (.call .d__law_is_end (.cons (.slot 7) (.cons (.slot 8) .nil)))) .nil))) (.seq (.ret (.bl false))
  .nil) .nil)
  (.seq (.ite (.not (.bi .all (.cons (.comp (.tup [9, 10]) .enum (.cons (.slot 3) .nil) (.bl true) (.call .d__law_is (.cons (.meth (.slot 0) .f_mark (.cons (.slot 9) .nil) []) (.cons (.slot 10) .nil)))) .nil))) (.seq (.ret (.bl false))
  .nil) .nil)
  (.seq (.ret (.bi .all (.cons (.comp (.tup [11, 12]) .enum (.cons (.slot 4) .nil) (.bl true) (.call .d__law_is (.cons (.meth (.slot 0) .f_counter (.cons (.slot 11) .nil) []) (.cons (.slot 12) .nil)))) .nil)))
  .nil))))))
def B__law_row : Rl.S := (.seq (.asg (.one 7) (.op .mod (.op .add (.op .item (.slot 0) (.slot 1)) (.slot 2)) (.int (10))))
  (.seq (.asg (.one 8) (.op .add (.op .item (.slot 0) (.op .add (.slot 1) (.int (1)))) (.op .mul (.int (7)) (.slot 2))))
  (.seq (.asg (.one 9) (.op .add (.op .item (.slot 0) (.op .add (.slot 1) (.int (2)))) (.op .mul (.int (5)) (.slot 2))))
  (.seq (.ite (.and (.op .eq (.slot 7) (.int (1))) (.op .gt (.slot 4) (.int (0)))) (.seq (.ret (.tup (.cons (.str [115, 101, 116]) (.cons (.op .mod (.slot 8) (.slot 4)) (.cons (.op .add (.int (1)) (.op .mod (.slot 9) (.int (2)))) .nil)))))
  .nil) .nil)
  (.seq (.ite (.and (.op .lt (.slot 7) (.int (4))) (.and (.op .gt (.slot 7) (.int (1))) (.op .gt (.slot 4) (.int (0))))) (.seq (.ret (.tup (.cons (.str [97, 115, 107]) (.cons (.op .mod (.slot 8) (.slot 4)) (.cons (.op .mod (.slot 9) (.slot 3)) (.cons (.op .mod (.op .item (.slot 0) (.op .add (.slot 1) (.int (3)))) (.slot 3)) .nil))))))
  .nil) .nil)
  (.seq (.ite (.and (.op .lt (.slot 7) (.int (6))) (.and (.op .gt (.slot 7) (.int (3))) (.op .gt (.slot 5) (.int (0))))) (.seq (.ret (.tup (.cons (.str [98, 117, 109, 112]) (.cons (.op .mod (.slot 8) (.slot 5)) (.cons (.op .mod (.slot 9) (.slot 3)) .nil)))))
  .nil) .nil)
  (.seq (.ite (.op .eq (.slot 7) (.int (6))) (.seq (.ret (.tup (.cons (.str [103, 111]) (.cons (.op .mod (.slot 8) (.slot 3)) .nil))))
  .nil) .nil)
  (.seq (.ite (.and (.op .lt (.slot 7) (.int (9))) (.and (.op .gt (.slot 7) (.int (6))) (.op .gt (.bi .len (.cons (.slot 6) .nil)) (.int (0))))) (.seq (.ret (.tup (.cons (.str [99, 97, 108, 108]) (.cons (.op .item (.slot 6) (.op .mod (.slot 8) (.bi .len (.cons (.slot 6) .nil)))) .nil))))
  .nil) .nil)
  (.seq (.ite (.op .eq (.slot 7) (.int (9))) (.seq (.ret (.tup (.cons (.str [101, 110, 100]) .nil)))
  .nil) .nil)
  (.seq (.ret (.tup (.cons (.str [98, 101, 108, 108]) (.cons (.op .mod (.slot 8) (.int (10000))) .nil))))
  .nil))))))))))
def B__law_same : Rl.S := (.seq (.ite (.or (.not (.call .d__law_is_row (.cons (.meth (.slot 0) .f_pieces .nil []) (.cons (.bi .listRg (.cons (.bi .len (.cons (.slot 1) .nil)) .nil)) .nil)))) (.not (.call .d__law_is_row (.cons (.meth (.slot 0) .f_bells .nil []) (.cons (.slot 4) .nil))))) (.seq (.ret (.bl false))
  .nil) .nil)
  (.seq (.ite (.or (.not (.call .d__law_is_end (.cons (.meth (.slot 0) .f_engine .nil []) (.cons (.slot 5) .nil)))) (.not (.call .d__law_is (.cons (.meth (.slot 0) .f_steps .nil []) (.cons (.slot 6) .nil))))) (.seq (.ret (.bl false))
  .nil) .nil)
  (.seq (.for (.one 7) .seq (.cons (.call .d__law_ends (.cons (.slot 1) .nil)) .nil) (.seq (.ite (.not (.call .d__law_is_end (.cons (.meth (.slot 0) .f_mate (.cons (.slot 7) .nil) []) (.cons (.mth .get (.slot 3) (.cons (.slot 7) .nil)) .nil)))) (.seq (.ret (.bl false))
  .nil) .nil)
  .nil))
  (.seq (.ret (.bi .all (.cons (.comp (.tup [8, 9]) .enum (.cons (.slot 2) .nil) (.bl true) (.call .d__law_is (.cons (.meth (.slot 0) .f_side (.cons (.slot 8) .nil) []) (.cons (.slot 9) .nil)))) .nil)))
  .nil))))
def B__law_set : Rl.S := (.seq (.asg (.tup [2, 3, 4, 5, 6]) (.call .d__law_built (.cons (.slot 0) (.cons (.op .add (.slot 1) (.int (3))) (.cons (.call .d__law_size (.cons (.op .item (.slot 0) (.slot 1)) .nil)) .nil)))))
  (.seq (.asg (.one 7) (.call .d__law_linked (.cons (.slot 2) (.cons (.slot 3) (.cons (.slot 0) (.cons (.op .add (.slot 1) (.int (78))) (.cons (.call .d__law_links (.cons (.op .item (.slot 0) (.op .add (.slot 1) (.int (1)))) .nil)) .nil)))))))
  (.seq (.exp (.call .d__law_thrown (.cons (.slot 2) (.cons (.slot 6) (.cons (.slot 0) (.cons (.op .add (.slot 1) (.int (160))) .nil))))))
  (.seq (.asg (.one 8) (.op .item (.call .d__law_ends (.cons (.slot 3) .nil)) (.op .mod (.op .item (.slot 0) (.op .add (.slot 1) (.int (2)))) (.bi .len (.cons (.call .d__law_ends (.cons (.slot 3) .nil)) .nil)))))
  (.seq (.exp (.meth (.slot 2) .f_put (.cons (.slot 8) .nil) []))
  (.seq (.ret (.tup (.cons (.slot 2) (.cons (.slot 3) (.cons (.slot 4) (.cons (.slot 5) (.cons (.slot 6) (.cons (.slot 7) (.cons (.slot 8) .nil)))))))))
  .nil))))))
def B__law_size : Rl.S := (.seq (.ite (.op .eq (.op .mod (.op .fdiv (.slot 0) (.int (9))) (.int (6))) (.int (1))) (.seq (.ret (.int (24)))
  .nil) .nil)
  (.seq (.ret (.op .add (.int (1)) (.op .mod (.slot 0) (.int (9)))))
  .nil))
def B__law_thrown : Rl.S := (.seq (.for (.one 4) .rng1 (.cons (.bi .len (.cons (.slot 1) .nil)) .nil) (.seq (.iset (.slot 1) (.slot 4) (.op .add (.int (1)) (.op .mod (.op .item (.slot 2) (.op .add (.slot 3) (.slot 4))) (.int (2)))))
  (.seq (.exp (.meth (.slot 0) .f_throw (.cons (.slot 4) (.cons (.op .item (.slot 1) (.slot 4)) .nil)) []))
  .nil)))
  .nil)
def B__law_walk : Rl.S := (.seq (.asg (.one 8) (.int (0)))
  (.seq (.while (.and (.op .lt (.slot 8) (.slot 7)) (.notN (.slot 6))) (.seq (.asg (.tup [10, 11]) (.slot 6))
  (.seq (.asg (.one 9) (.int (0)))
  (.seq (.ite (.op .ge (.op .item (.slot 2) (.slot 10)) (.int (0))) (.seq (.asg (.one 9) (.op .item (.slot 3) (.op .item (.slot 2) (.slot 10))))
  .nil) .nil)
  (.seq (.asg (.tup [12, 13]) (.call .d__law_passing (.cons (.op .item (.slot 0) (.slot 10)) (.cons (.slot 11) (.cons (.slot 9) .nil)))))
  (.seq (.ite (.op .notin (.tup (.cons (.slot 10) (.cons (.slot 12) .nil))) (.slot 4)) (.seq (.ret (.tup (.cons (.slot 6) (.cons (.slot 8) .nil))))
  .nil) .nil)
  (.seq (.ite (.op .ge (.op .item (.slot 2) (.slot 10)) (.int (0))) (.seq (.iset (.slot 3) (.op .item (.slot 2) (.slot 10)) (.slot 13))
  .nil) .nil)
  (.seq (.ite (.op .eq (.op .item (.slot 0) (.slot 10)) (.str [98, 101, 108, 108])) (.seq (.exp (.mth .append (.slot 5) (.cons (.op .item (.slot 1) (.slot 10)) .nil)))
  .nil) .nil)
  (.seq (.asg (.one 6) (.op .item (.slot 4) (.tup (.cons (.slot 10) (.cons (.slot 12) .nil)))))
  (.seq (.asg (.one 8) (.op .add (.slot 8) (.int (1))))
  .nil))))))))))
  (.seq (.ret (.tup (.cons (.slot 6) (.cons (.slot 8) .nil))))
  .nil)))
def B__law_whole : Rl.S := (.seq (.ret (.and (.isTy (.slot 0) .int) (.not (.isTy (.slot 0) .bool))))
  .nil)
def B_back : Rl.S := (.seq (.asg (.one 2) (.int (0)))
  (.seq (.while (.and (.op .lt (.slot 2) (.slot 1)) (.op .gt (.bi .len (.cons (.fld (.slot 0) .f_trail) .nil)) (.int (0)))) (.seq (.exp (.call .d_step_back (.cons (.slot 0) .nil)))
  (.seq (.asg (.one 2) (.op .add (.slot 2) (.int (1))))
  .nil)))
  (.seq (.ret (.slot 2))
  .nil)))
def B_by_arm : Rl.S := (.seq (.ite (.op .eq (.slot 0) (.str [108, 97, 122, 121])) (.seq (.ret (.tup (.cons (.int (0)) (.cons (.slot 1) .nil))))
  .nil) .nil)
  (.seq (.ret (.tup (.cons (.int (0)) (.cons (.slot 2) .nil))))
  .nil))
def B_by_stem : Rl.S := (.seq (.ite (.op .eq (.slot 0) (.str [116, 117, 114, 110, 105, 110, 103])) (.seq (.ret (.tup (.cons (.slot 1) (.cons (.op .sub (.int (3)) (.slot 1)) .nil))))
  .nil) .nil)
  (.seq (.ret (.tup (.cons (.slot 1) (.cons (.slot 1) .nil))))
  .nil))
def B_doorway : Rl.S := (.seq (.asg (.one 1) (.meth (.slot 0) .f_lay (.cons (.str [115, 116, 105, 108, 108]) .nil) [.int 0, .non]))
  (.seq (.ret (.tup (.cons (.tup (.cons (.slot 1) (.cons (.int (0)) .nil))) (.cons (.tup (.cons (.slot 1) (.cons (.int (2)) .nil))) (.cons (.tup (.cons (.slot 1) (.cons (.int (1)) .nil))) .nil)))))
  .nil))
def B_ends_of : Rl.S := (.seq (.ite (.op .notin (.slot 0) (.kd .g_ENDS K_ENDS)) (.seq (.raise .c_NoKind)
  .nil) .nil)
  (.seq (.ret (.op .item (.kd .g_ENDS K_ENDS) (.slot 0)))
  .nil))
def B_fan : Rl.S := (.seq (.ite (.op .lt (.slot 1) (.int (1))) (.seq (.raise .c_NoMany)
  .nil) .nil)
  (.seq (.ite (.op .eq (.slot 1) (.int (1))) (.seq (.asg (.one 2) (.meth (.slot 0) .f_lay (.cons (.str [108, 105, 110, 101]) .nil) [.int 0, .non]))
  (.seq (.ret (.tup (.cons (.tup (.cons (.slot 2) (.cons (.int (0)) .nil))) (.cons (.lst (.cons (.tup (.cons (.slot 2) (.cons (.int (1)) .nil))) .nil)) .nil))))
  .nil)) .nil)
  (.seq (.asg (.one 3) (.meth (.slot 0) .f_lay (.cons (.str [108, 97, 122, 121]) .nil) [.int 0, .non]))
  (.seq (.asg (.one 4) (.lst (.cons (.tup (.cons (.slot 3) (.cons (.int (1)) .nil))) .nil)))
  (.seq (.asg (.one 5) (.slot 3))
  (.seq (.for (.one 6) .rng1 (.cons (.op .sub (.slot 1) (.int (2))) .nil) (.seq (.asg (.one 7) (.meth (.slot 0) .f_lay (.cons (.str [108, 97, 122, 121]) .nil) [.int 0, .non]))
  (.seq (.exp (.meth (.slot 0) .f_link (.cons (.tup (.cons (.slot 5) (.cons (.int (2)) .nil))) (.cons (.tup (.cons (.slot 7) (.cons (.int (0)) .nil))) .nil)) []))
  (.seq (.exp (.mth .append (.slot 4) (.cons (.tup (.cons (.slot 7) (.cons (.int (1)) .nil))) .nil)))
  (.seq (.asg (.one 5) (.slot 7))
  .nil)))))
  (.seq (.exp (.mth .append (.slot 4) (.cons (.tup (.cons (.slot 5) (.cons (.int (2)) .nil))) .nil)))
  (.seq (.ret (.tup (.cons (.tup (.cons (.slot 3) (.cons (.int (0)) .nil))) (.cons (.slot 4) .nil))))
  .nil))))))))
def B_fate : Rl.S := (.seq (.asg (.one 2) (.call .d_twin (.cons (.slot 0) .nil)))
  (.seq (.asg (.one 3) (.dict0 true))
  (.seq (.asg (.one 4) (.int (0)))
  (.seq (.while (.bl true) (.seq (.asg (.one 5) (.call .d_held (.cons (.slot 2) .nil)))
  (.seq (.ite (.notN (.slot 5)) (.seq (.ret (.tup (.cons (.str [104, 101, 108, 100]) (.cons (.slot 5) (.cons (.slot 4) .nil)))))
  .nil) .nil)
  (.seq (.asg (.one 6) (.call .d_stand_of (.cons (.slot 2) .nil)))
  (.seq (.ite (.op .isin (.slot 6) (.slot 3)) (.seq (.ret (.tup (.cons (.str [114, 111, 117, 110, 100]) (.cons (.op .item (.slot 3) (.slot 6)) (.cons (.op .sub (.slot 4) (.op .item (.slot 3) (.slot 6))) .nil)))))
  .nil) .nil)
  (.seq (.ite (.op .ge (.slot 4) (.slot 1)) (.seq (.ret (.tup (.cons (.str [111, 112, 101, 110]) (.cons (.slot 4) .nil))))
  .nil) .nil)
  (.seq (.iset (.slot 3) (.slot 6) (.slot 4))
  (.seq (.exp (.call .d_step (.cons (.slot 2) .nil)))
  (.seq (.asg (.one 4) (.op .add (.slot 4) (.int (1))))
  .nil)))))))))
  .nil))))
def B_good_side : Rl.S := (.seq (.ite (.and (.op .ne (.slot 0) (.int (1))) (.op .ne (.slot 0) (.int (2)))) (.seq (.raise .c_NoSide)
  .nil) .nil)
  (.seq (.ret (.slot 0))
  .nil))
def B_held : Rl.S := (.seq (.ite (.isN (.fld (.slot 0) .f_at)) (.seq (.ret (.str [110, 111, 110, 101]))
  .nil) .nil)
  (.seq (.asg (.one 1) (.op .item (.call .d_way_out (.cons (.slot 0) .nil)) (.int (0))))
  (.seq (.ite (.isN (.slot 1)) (.seq (.ret (.str [115, 116, 111, 112]))
  .nil) .nil)
  (.seq (.ite (.op .notin (.tup (.cons (.op .item (.fld (.slot 0) .f_at) (.int (0))) (.cons (.slot 1) .nil))) (.fld (.slot 0) .f_mate_of)) (.seq (.ret (.str [108, 111, 111, 115, 101]))
  .nil) .nil)
  (.seq (.ret .non)
  .nil)))))
def B_is_point : Rl.S := (.seq (.ret (.op .eq (.call .d_ends_of (.cons (.slot 0) .nil)) (.int (3))))
  .nil)
def B_lay_out : Rl.S := (.seq (.asg (.one 1) (.make .c_Layer (.cons (.slot 0) .nil)))
  (.seq (.exp (.meth (.slot 1) .f_lay_all .nil []))
  (.seq (.ret (.make .c_Laid (.cons (.fld (.slot 1) .f_yard) (.cons (.fld (.slot 1) .f_door_of) (.cons (.fld (.slot 1) .f_mark_list) (.cons (.fld (.slot 1) .f_bit_lists) .nil))))))
  .nil)))
def B_look_note : Rl.S := (.seq (.ite (.or (.op .lt (.slot 0) (.int (0))) (.op .gt (.slot 0) (.int (9999)))) (.seq (.raise .c_NoNote)
  .nil) .nil)
  .nil)
def B_merge : Rl.S := (.seq (.ite (.op .eq (.bi .len (.cons (.slot 1) .nil)) (.int (0))) (.seq .retN
  .nil) .nil)
  (.seq (.asg (.one 3) (.slot 2))
  (.seq (.for (.one 4) .rng1 (.cons (.op .sub (.bi .len (.cons (.slot 1) .nil)) (.int (1))) .nil) (.seq (.asg (.one 5) (.meth (.slot 0) .f_lay (.cons (.str [115, 116, 105, 108, 108]) .nil) [.int 0, .non]))
  (.seq (.exp (.meth (.slot 0) .f_link (.cons (.tup (.cons (.slot 5) (.cons (.int (0)) .nil))) (.cons (.slot 3) .nil)) []))
  (.seq (.exp (.meth (.slot 0) .f_link (.cons (.tup (.cons (.slot 5) (.cons (.int (1)) .nil))) (.cons (.op .item (.slot 1) (.slot 4)) .nil)) []))
  (.seq (.asg (.one 3) (.tup (.cons (.slot 5) (.cons (.int (2)) .nil))))
  .nil)))))
  (.seq (.exp (.meth (.slot 0) .f_link (.cons (.op .item (.slot 1) (.neg (.int (1)))) (.cons (.slot 3) .nil)) []))
  .nil))))
def B_next_row : Rl.S := (.seq (.while (.call .d_step (.cons (.fld (.slot 0) .f_yard) .nil)) (.seq (.asg (.one 1) (.meth (.slot 0) .f_row_here .nil []))
  (.seq (.ite (.notN (.slot 1)) (.seq (.ret (.slot 1))
  .nil) .nil)
  .nil)))
  (.seq (.ret .non)
  .nil))
def B_number_on : Rl.S := (.seq (.asg (.one 2) (.int (0)))
  (.seq (.asg (.one 3) (.int (1)))
  (.seq (.for (.one 4) .seq (.cons (.slot 1) .nil) (.seq (.ite (.op .eq (.meth (.slot 0) .f_side (.cons (.slot 4) .nil) []) (.int (2))) (.seq (.asg (.one 2) (.op .add (.slot 2) (.slot 3)))
  .nil) .nil)
  (.seq (.asg (.one 3) (.op .add (.slot 3) (.slot 3)))
  .nil)))
  (.seq (.ret (.slot 2))
  .nil))))
def B_passage : Rl.S := (.seq (.asg (.one 3) (.call .d_ends_of (.cons (.slot 0) .nil)))
  (.seq (.ite (.or (.op .lt (.slot 1) (.int (0))) (.op .ge (.slot 1) (.slot 3))) (.seq (.raise .c_NoEnd)
  .nil) .nil)
  (.seq (.ite (.op .eq (.slot 3) (.int (1))) (.seq (.ret (.tup (.cons .non (.cons (.slot 2) .nil))))
  .nil) .nil)
  (.seq (.ite (.op .eq (.slot 3) (.int (2))) (.seq (.ret (.tup (.cons (.op .sub (.int (1)) (.slot 1)) (.cons (.slot 2) .nil))))
  .nil) .nil)
  (.seq (.exp (.call .d_good_side (.cons (.slot 2) .nil)))
  (.seq (.ite (.op .eq (.slot 1) (.int (0))) (.seq (.ret (.call .d_by_stem (.cons (.slot 0) (.cons (.slot 2) .nil))))
  .nil) .nil)
  (.seq (.ret (.call .d_by_arm (.cons (.slot 0) (.cons (.slot 1) (.cons (.slot 2) .nil)))))
  .nil)))))))
def B_room_of : Rl.S := (.seq (.asg (.one 1) (.int (1)))
  (.seq (.for (.one 2) .rng1 (.cons (.slot 0) .nil) (.seq (.asg (.one 1) (.op .add (.slot 1) (.slot 1)))
  .nil))
  (.seq (.ret (.slot 1))
  .nil)))
def B_run : Rl.S := (.seq (.asg (.one 2) (.int (0)))
  (.seq (.while (.and (.op .lt (.slot 2) (.slot 1)) (.call .d_step (.cons (.slot 0) .nil))) (.seq (.asg (.one 2) (.op .add (.slot 2) (.int (1))))
  .nil))
  (.seq (.ret (.slot 2))
  .nil)))
def B_set_number : Rl.S := (.seq (.for (.one 3) .seq (.cons (.slot 1) .nil) (.seq (.exp (.meth (.slot 0) .f_throw (.cons (.slot 3) (.cons (.op .add (.int (1)) (.op .mod (.slot 2) (.int (2)))) .nil)) []))
  (.seq (.asg (.one 2) (.op .fdiv (.slot 2) (.int (2))))
  .nil)))
  .nil)
def B_side_at : Rl.S := (.seq (.ite (.op .isin (.slot 1) (.fld (.slot 0) .f_rod_of)) (.seq (.ret (.op .item (.fld (.slot 0) .f_side_of) (.op .item (.fld (.slot 0) .f_rod_of) (.slot 1))))
  .nil) .nil)
  (.seq (.ret (.int (0)))
  .nil))
def B_stand_of : Rl.S := (.seq (.ret (.tup (.cons (.fld (.slot 0) .f_at) (.cons (.bi .tuple (.cons (.comp (.one 1) .seq (.cons (.meth (.slot 0) .f_rods .nil []) .nil) (.bl true) (.op .item (.fld (.slot 0) .f_side_of) (.slot 1))) .nil)) .nil))))
  .nil)
def B_step : Rl.S := (.seq (.ite (.notN (.call .d_held (.cons (.slot 0) .nil))) (.seq (.ret (.bl false))
  .nil) .nil)
  (.seq (.asg (.one 1) (.fld (.slot 0) .f_at))
  (.seq (.asg (.one 2) (.op .item (.slot 1) (.int (0))))
  (.seq (.asg (.tup [3, 4]) (.call .d_way_out (.cons (.slot 0) .nil)))
  (.seq (.exp (.mth .append (.fld (.slot 0) .f_trail) (.cons (.tup (.cons (.slot 1) (.cons (.call .d_side_at (.cons (.slot 0) (.cons (.slot 2) .nil))) .nil))) .nil)))
  (.seq (.ite (.op .isin (.slot 2) (.fld (.slot 0) .f_rod_of)) (.seq (.iset (.fld (.slot 0) .f_side_of) (.op .item (.fld (.slot 0) .f_rod_of) (.slot 2)) (.slot 4))
  .nil) .nil)
  (.seq (.ite (.op .isin (.slot 2) (.fld (.slot 0) .f_note_of)) (.seq (.exp (.mth .append (.fld (.slot 0) .f_rung) (.cons (.op .item (.fld (.slot 0) .f_note_of) (.slot 2)) .nil)))
  .nil) .nil)
  (.seq (.fset (.slot 0) .f_at (.op .item (.fld (.slot 0) .f_mate_of) (.tup (.cons (.slot 2) (.cons (.slot 3) .nil)))))
  (.seq (.ret (.bl true))
  .nil)))))))))
def B_step_back : Rl.S := (.seq (.asg (.tup [1, 2]) (.mth .pop (.fld (.slot 0) .f_trail) .nil))
  (.seq (.asg (.one 3) (.op .item (.slot 1) (.int (0))))
  (.seq (.ite (.op .isin (.slot 3) (.fld (.slot 0) .f_rod_of)) (.seq (.iset (.fld (.slot 0) .f_side_of) (.op .item (.fld (.slot 0) .f_rod_of) (.slot 3)) (.slot 2))
  .nil) .nil)
  (.seq (.ite (.op .isin (.slot 3) (.fld (.slot 0) .f_note_of)) (.seq (.exp (.mth .pop (.fld (.slot 0) .f_rung) .nil))
  .nil) .nil)
  (.seq (.fset (.slot 0) .f_at (.slot 1))
  .nil)))))
def B_tally : Rl.S := (.seq (.asg (.one 2) (.comp (.one 3) .seq (.cons (.slot 1) .nil) (.bl true) (.methK (.slot 0) .f_lay (.cons (.str [116, 117, 114, 110, 105, 110, 103]) .nil) [.int 0] .f_rod (.slot 3))))
  (.seq (.for (.one 4) .rng1 (.cons (.op .sub (.bi .len (.cons (.slot 2) .nil)) (.int (1))) .nil) (.seq (.exp (.meth (.slot 0) .f_link (.cons (.tup (.cons (.op .item (.slot 2) (.slot 4)) (.cons (.int (2)) .nil))) (.cons (.tup (.cons (.op .item (.slot 2) (.op .add (.slot 4) (.int (1)))) (.cons (.int (0)) .nil))) .nil)) []))
  .nil))
  (.seq (.asg (.one 5) (.meth (.slot 0) .f_lay (.cons (.str [108, 105, 110, 101]) .nil) [.int 0, .non]))
  (.seq (.exp (.call .d_merge (.cons (.slot 0) (.cons (.comp (.one 6) .seq (.cons (.slot 2) .nil) (.bl true) (.tup (.cons (.slot 6) (.cons (.int (1)) .nil)))) (.cons (.tup (.cons (.slot 5) (.cons (.int (0)) .nil))) .nil)))))
  (.seq (.ret (.tup (.cons (.tup (.cons (.op .item (.slot 2) (.int (0))) (.cons (.int (0)) .nil))) (.cons (.tup (.cons (.slot 5) (.cons (.int (1)) .nil))) (.cons (.tup (.cons (.op .item (.slot 2) (.neg (.int (1)))) (.cons (.int (2)) .nil))) .nil)))))
  .nil)))))
def B_twin : Rl.S := (.seq (.asg (.one 1) (.make .c_Yard .nil))
  (.seq (.fset (.slot 1) .f_kind_of (.bi .dict (.cons (.fld (.slot 0) .f_kind_of) .nil)))
  (.seq (.fset (.slot 1) .f_note_of (.bi .dict (.cons (.fld (.slot 0) .f_note_of) .nil)))
  (.seq (.fset (.slot 1) .f_rod_of (.bi .dict (.cons (.fld (.slot 0) .f_rod_of) .nil)))
  (.seq (.fset (.slot 1) .f_side_of (.bi .dict (.cons (.fld (.slot 0) .f_side_of) .nil)))
  (.seq (.fset (.slot 1) .f_mate_of (.bi .dict (.cons (.fld (.slot 0) .f_mate_of) .nil)))
  (.seq (.fset (.slot 1) .f_next_piece (.fld (.slot 0) .f_next_piece))
  (.seq (.fset (.slot 1) .f_next_rod (.fld (.slot 0) .f_next_rod))
  (.seq (.fset (.slot 1) .f_at (.fld (.slot 0) .f_at))
  (.seq (.fset (.slot 1) .f_rung (.bi .list (.cons (.fld (.slot 0) .f_rung) .nil)))
  (.seq (.ret (.slot 1))
  .nil)))))))))))
def B_way_out : Rl.S := (.seq (.asg (.tup [1, 2]) (.fld (.slot 0) .f_at))
  (.seq (.ret (.call .d_passage (.cons (.op .item (.fld (.slot 0) .f_kind_of) (.slot 1)) (.cons (.slot 2) (.cons (.call .d_side_at (.cons (.slot 0) (.cons (.slot 1) .nil))) .nil)))))
  .nil))
/-- the shared defs -/
def std : Nm → Option FD
  | .d_Laid_init => some ⟨5, 6, B_Laid_init⟩
  | .d_Laid_bit_rods => some ⟨2, 2, B_Laid_bit_rods⟩
  | .d_Laid_door => some ⟨3, 3, B_Laid_door⟩
  | .d_Laid_fill => some ⟨3, 4, B_Laid_fill⟩
  | .d_Laid_lies => some ⟨2, 2, B_Laid_lies⟩
  | .d_Laid_mark_rod => some ⟨2, 2, B_Laid_mark_rod⟩
  | .d_Laid_reads => some ⟨2, 2, B_Laid_reads⟩
  | .d_Laid_row_here => some ⟨1, 1, B_Laid_row_here⟩
  | .d_Laid_turn => some ⟨3, 4, B_Laid_turn⟩
  | .d_Layer_init => some ⟨2, 7, B_Layer_init⟩
  | .d_Layer_lay_all => some ⟨1, 6, B_Layer_lay_all⟩
  | .d_Layer_lay_call => some ⟨5, 8, B_Layer_lay_call⟩
  | .d_Layer_lay_doors => some ⟨1, 4, B_Layer_lay_doors⟩
  | .d_Layer_lay_ends => some ⟨2, 8, B_Layer_lay_ends⟩
  | .d_Layer_lay_row => some ⟨4, 10, B_Layer_lay_row⟩
  | .d_Layer_lead => some ⟨4, 4, B_Layer_lead⟩
  | .d_Program_init => some ⟨4, 8, B_Program_init⟩
  | .d_Program_look_call => some ⟨3, 3, B_Program_look_call⟩
  | .d_Program_look_counter => some ⟨2, 2, B_Program_look_counter⟩
  | .d_Program_look_deed => some ⟨4, 5, B_Program_look_deed⟩
  | .d_Program_look_mark => some ⟨2, 2, B_Program_look_mark⟩
  | .d_Program_look_row => some ⟨3, 3, B_Program_look_row⟩
  | .d_Program_look_stretch => some ⟨2, 4, B_Program_look_stretch⟩
  | .d_Program_many => some ⟨1, 1, B_Program_many⟩
  | .d_Program_marks => some ⟨1, 1, B_Program_marks⟩
  | .d_Program_rows => some ⟨2, 2, B_Program_rows⟩
  | .d_Program_widths => some ⟨1, 1, B_Program_widths⟩
  | .d_Reader_init => some ⟨2, 4, B_Reader_init⟩
  | .d_Reader_bump => some ⟨2, 3, B_Reader_bump⟩
  | .d_Reader_callers => some ⟨1, 1, B_Reader_callers⟩
  | .d_Reader_counter => some ⟨2, 2, B_Reader_counter⟩
  | .d_Reader_heard => some ⟨1, 1, B_Reader_heard⟩
  | .d_Reader_leave => some ⟨1, 1, B_Reader_leave⟩
  | .d_Reader_look_counter => some ⟨2, 2, B_Reader_look_counter⟩
  | .d_Reader_look_mark => some ⟨2, 2, B_Reader_look_mark⟩
  | .d_Reader_mark => some ⟨2, 2, B_Reader_mark⟩
  | .d_Reader_step => some ⟨1, 5, B_Reader_step⟩
  | .d_Reader_where => some ⟨1, 1, B_Reader_where⟩
  | .d_Yard_init => some ⟨1, 1, B_Yard_init⟩
  | .d_Yard_bells => some ⟨1, 1, B_Yard_bells⟩
  | .d_Yard_engine => some ⟨1, 1, B_Yard_engine⟩
  | .d_Yard_kind => some ⟨2, 2, B_Yard_kind⟩
  | .d_Yard_lay => some ⟨4, 6, B_Yard_lay⟩
  | .d_Yard_lift => some ⟨2, 3, B_Yard_lift⟩
  | .d_Yard_link => some ⟨3, 3, B_Yard_link⟩
  | .d_Yard_look_end => some ⟨2, 4, B_Yard_look_end⟩
  | .d_Yard_look_piece => some ⟨2, 2, B_Yard_look_piece⟩
  | .d_Yard_look_rod => some ⟨2, 2, B_Yard_look_rod⟩
  | .d_Yard_mate => some ⟨2, 2, B_Yard_mate⟩
  | .d_Yard_new_rod => some ⟨2, 3, B_Yard_new_rod⟩
  | .d_Yard_off => some ⟨1, 1, B_Yard_off⟩
  | .d_Yard_pieces => some ⟨1, 1, B_Yard_pieces⟩
  | .d_Yard_put => some ⟨2, 2, B_Yard_put⟩
  | .d_Yard_rod => some ⟨2, 2, B_Yard_rod⟩
  | .d_Yard_rods => some ⟨1, 1, B_Yard_rods⟩
  | .d_Yard_side => some ⟨2, 2, B_Yard_side⟩
  | .d_Yard_steps => some ⟨1, 1, B_Yard_steps⟩
  | .d_Yard_throw => some ⟨3, 3, B_Yard_throw⟩
  | .d_Yard_unlink => some ⟨2, 3, B_Yard_unlink⟩
  | .d__law_built => some ⟨3, 13, B__law_built⟩
  | .d__law_copied => some ⟨1, 2, B__law_copied⟩
  | .d__law_draws => some ⟨2, 7, B__law_draws⟩
  | .d__law_ends => some ⟨1, 5, B__law_ends⟩
  | .d__law_is => some ⟨2, 2, B__law_is⟩
  | .d__law_is_end => some ⟨2, 2, B__law_is_end⟩
  | .d__law_is_row => some ⟨2, 4, B__law_is_row⟩
  | .d__law_kind => some ⟨1, 1, B__law_kind⟩
  | .d__law_kinds => some ⟨0, 0, B__law_kinds⟩
  | .d__law_laid_is => some ⟨5, 9, B__law_laid_is⟩
  | .d__law_linked => some ⟨5, 10, B__law_linked⟩
  | .d__law_links => some ⟨1, 1, B__law_links⟩
  | .d__law_many => some ⟨1, 1, B__law_many⟩
  | .d__law_next => some ⟨7, 9, B__law_next⟩
  | .d__law_parts => some ⟨4, 14, B__law_parts⟩
  | .d__law_passing => some ⟨3, 3, B__law_passing⟩
  | .d__law_program => some ⟨1, 6, B__law_program⟩
  | .d__law_reads => some ⟨6, 13, B__law_reads⟩
  | .d__law_row => some ⟨7, 10, B__law_row⟩
  | .d__law_same => some ⟨7, 10, B__law_same⟩
  | .d__law_set => some ⟨2, 9, B__law_set⟩
  | .d__law_size => some ⟨1, 1, B__law_size⟩
  | .d__law_thrown => some ⟨4, 5, B__law_thrown⟩
  | .d__law_walk => some ⟨8, 14, B__law_walk⟩
  | .d__law_whole => some ⟨1, 1, B__law_whole⟩
  | .d_back => some ⟨2, 3, B_back⟩
  | .d_by_arm => some ⟨3, 3, B_by_arm⟩
  | .d_by_stem => some ⟨2, 2, B_by_stem⟩
  | .d_doorway => some ⟨1, 2, B_doorway⟩
  | .d_ends_of => some ⟨1, 1, B_ends_of⟩
  | .d_fan => some ⟨2, 8, B_fan⟩
  | .d_fate => some ⟨2, 7, B_fate⟩
  | .d_good_side => some ⟨1, 1, B_good_side⟩
  | .d_held => some ⟨1, 2, B_held⟩
  | .d_is_point => some ⟨1, 1, B_is_point⟩
  | .d_lay_out => some ⟨1, 2, B_lay_out⟩
  | .d_look_note => some ⟨1, 1, B_look_note⟩
  | .d_merge => some ⟨3, 6, B_merge⟩
  | .d_next_row => some ⟨1, 2, B_next_row⟩
  | .d_number_on => some ⟨2, 5, B_number_on⟩
  | .d_passage => some ⟨3, 4, B_passage⟩
  | .d_room_of => some ⟨1, 3, B_room_of⟩
  | .d_run => some ⟨2, 3, B_run⟩
  | .d_set_number => some ⟨3, 4, B_set_number⟩
  | .d_side_at => some ⟨2, 2, B_side_at⟩
  | .d_stand_of => some ⟨1, 2, B_stand_of⟩
  | .d_step => some ⟨1, 5, B_step⟩
  | .d_step_back => some ⟨1, 4, B_step_back⟩
  | .d_tally => some ⟨2, 7, B_tally⟩
  | .d_twin => some ⟨1, 2, B_twin⟩
  | .d_way_out => some ⟨1, 3, B_way_out⟩
  | _ => none
end Rl.Y

set_option linter.all false
set_option autoImplicit false
set_option maxRecDepth 100000
set_option maxHeartbeats 2000000
/-! Yard: what the methods of a yard do, once for all laws. -/
namespace Rl
/-- what a yard holds -/
structure YS where
  kind : List (AV × AV)
  note : List (AV × AV)
  rod : List (AV × AV)
  side : List (AV × AV)
  mate : List (AV × AV)
  np : Int
  nr : Int
  at_ : AV
  rung : List AV
  trail : List AV
/-- where its things stand -/
structure YA where
  (y k n r s m g t : Nat)
def YA.own (A : YA) : List Nat := [A.y, A.k, A.n, A.r, A.s, A.m, A.g, A.t]
def yF (A : YA) (S : YS) : List (Nm × AV) := [(.f_kind_of, .ref A.k), (.f_note_of, .ref A.n), (.f_rod_of, .ref A.r), (.f_side_of, .ref A.s), (.f_mate_of, .ref A.m), (.f_next_piece, .int S.np), (.f_next_rod, .int S.nr), (.f_at, S.at_), (.f_rung, .ref A.g), (.f_trail, .ref A.t)]
structure YAt (h : AH) (A : YA) (S : YS) : Prop where
  o : h.g A.y = some (.obj .c_Yard (yF A S))
  k : h.g A.k = some (.dct false S.kind)
  n : h.g A.n = some (.dct false S.note)
  r : h.g A.r = some (.dct false S.rod)
  s : h.g A.s = some (.dct false S.side)
  m : h.g A.m = some (.dct true S.mate)
  g : h.g A.g = some (.lst S.rung)
  t : h.g A.t = some (.lst S.trail)
  nd : A.own.Nodup
  lt : ∀ x ∈ A.own, x < h.n
/-- only own things changed; new ones beside -/
structure Fr (h : AH) (A : YA) (h' : AH) (A' : YA) : Prop where
  le : h.n ≤ h'.n
  same : ∀ b, b < h.n → b ∉ A.own → h'.g b = h.g b
  y : A'.y = A.y
  own : ∀ b ∈ A'.own, b ∈ A.own ∨ h.n ≤ b
theorem Fr.refl (h : AH) (A : YA) : Fr h A h A := ⟨Nat.le_refl _, fun _ _ _ => rfl, rfl, fun _ hb => .inl hb⟩
theorem Fr.trans {h h1 h2 : AH} {A A1 A2 : YA} (a : Fr h A h1 A1) (b : Fr h1 A1 h2 A2) : Fr h A h2 A2 := by
  refine ⟨Nat.le_trans a.le b.le, fun c hc hn => ?_, b.y.trans a.y, fun c hc => ?_⟩
  · rw [b.same c (Nat.lt_of_lt_of_le hc a.le) fun hm => ?_, a.same c hc hn]
    rcases a.own c hm with z | z
    · exact hn z
    · omega
  · rcases b.own c hc with z | z
    · exact a.own c z
    · exact .inr (Nat.le_trans a.le z)
/-- another yard is not touched -/
theorem YAt.other {h h' : AH} {A A' B : YA} {S : YS} (Y : YAt h B S) (F : Fr h A h' A') (d : ∀ b ∈ B.own, b ∉ A.own) : YAt h' B S ∧ ∀ b ∈ B.own, b ∉ A'.own := by
  have e : ∀ b ∈ B.own, h'.g b = h.g b := fun b hb => F.same b (Y.lt b hb) (d b hb)
  refine ⟨⟨?_, ?_, ?_, ?_, ?_, ?_, ?_, ?_, Y.nd, fun x hx => Nat.lt_of_lt_of_le (Y.lt x hx) F.le⟩, fun b hb hm => ?_⟩
  · rw [e _ (by simp [YA.own])]; exact Y.o
  · rw [e _ (by simp [YA.own])]; exact Y.k
  · rw [e _ (by simp [YA.own])]; exact Y.n
  · rw [e _ (by simp [YA.own])]; exact Y.r
  · rw [e _ (by simp [YA.own])]; exact Y.s
  · rw [e _ (by simp [YA.own])]; exact Y.m
  · rw [e _ (by simp [YA.own])]; exact Y.g
  · rw [e _ (by simp [YA.own])]; exact Y.t
  · rcases F.own b hm with z | z
    · exact d b hb z
    · have := Y.lt b hb; omega
section
variable {h : AH} {A : YA} {S : YS}
theorem YAt.ne (Y : YAt h A S) : (A.y ≠ A.k ∧ A.y ≠ A.n ∧ A.y ≠ A.r ∧ A.y ≠ A.s ∧ A.y ≠ A.m ∧ A.y ≠ A.g ∧ A.y ≠ A.t) ∧ (A.k ≠ A.n ∧ A.k ≠ A.r ∧ A.k ≠ A.s ∧ A.k ≠ A.m ∧ A.k ≠ A.g ∧ A.k ≠ A.t) ∧ (A.n ≠ A.r ∧ A.n ≠ A.s ∧ A.n ≠ A.m ∧ A.n ≠ A.g ∧ A.n ≠ A.t) ∧
    (A.r ≠ A.s ∧ A.r ≠ A.m ∧ A.r ≠ A.g ∧ A.r ≠ A.t) ∧ (A.s ≠ A.m ∧ A.s ≠ A.g ∧ A.s ≠ A.t) ∧ (A.m ≠ A.g ∧ A.m ≠ A.t) ∧ A.g ≠ A.t := by
  have := Y.nd
  simp only [YA.own, List.nodup_cons, List.mem_cons, List.not_mem_nil, or_false, not_or, not_false_eq_true, List.nodup_nil, and_true] at this
  obtain ⟨h1, h2, h3, h4, h5, h6, h7⟩ := this
  exact ⟨h1, h2, h3, h4, h5, h6, h7⟩
/-- one own thing written -/
theorem YAt.wrote (Y : YAt h A S) {a : Nat} (ha : a ∈ A.own) {ob : O} : Fr h A (h.put a ob) A :=
  ⟨Nat.le_refl _, fun b _ hb => by
    show (if b = a then some ob else h.g b) = h.g b
    rw [if_neg fun z => hb (by rw [z]; exact ha)], rfl, fun b hb => .inl hb⟩
theorem put_ne {a b : Nat} {ob : O} (e : b ≠ a) : (h.put a ob).g b = h.g b := if_neg e
theorem put_eq {a : Nat} {ob : O} : (h.put a ob).g a = some ob := if_pos rfl
theorem YAt.put_o (Y : YAt h A S) {S' : YS} (e : S'.kind = S.kind ∧ S'.note = S.note ∧ S'.rod = S.rod ∧ S'.side = S.side ∧ S'.mate = S.mate ∧ S'.rung = S.rung ∧ S'.trail = S.trail) : YAt (h.put A.y (.obj .c_Yard (yF A S'))) A S' := by
  obtain ⟨⟨n1, n2, n3, n4, n5, n6, n7⟩, _⟩ := Y.ne
  obtain ⟨e1, e2, e3, e4, e5, e6, e7⟩ := e
  exact ⟨put_eq, by rw [put_ne n1.symm, e1]; exact Y.k, by rw [put_ne n2.symm, e2]; exact Y.n, by rw [put_ne n3.symm, e3]; exact Y.r, by rw [put_ne n4.symm, e4]; exact Y.s, by rw [put_ne n5.symm, e5]; exact Y.m,
    by rw [put_ne n6.symm, e6]; exact Y.g, by rw [put_ne n7.symm, e7]; exact Y.t, Y.nd, Y.lt⟩
theorem YAt.put_k (Y : YAt h A S) (v : List (AV × AV)) : YAt (h.put A.k (.dct false v)) A { S with kind := v } := by
  obtain ⟨⟨n1, n2, n3, n4, n5, n6, n7⟩, ⟨k1, k2, k3, k4, k5, k6⟩, _⟩ := Y.ne
  exact ⟨by rw [put_ne n1]; exact Y.o, put_eq, by rw [put_ne k1.symm]; exact Y.n, by rw [put_ne k2.symm]; exact Y.r, by rw [put_ne k3.symm]; exact Y.s, by rw [put_ne k4.symm]; exact Y.m, by rw [put_ne k5.symm]; exact Y.g, by rw [put_ne k6.symm]; exact Y.t, Y.nd, Y.lt⟩
theorem YAt.put_n (Y : YAt h A S) (v : List (AV × AV)) : YAt (h.put A.n (.dct false v)) A { S with note := v } := by
  obtain ⟨⟨n1, n2, n3, n4, n5, n6, n7⟩, ⟨k1, k2, k3, k4, k5, k6⟩, ⟨m1, m2, m3, m4, m5⟩, _⟩ := Y.ne
  exact ⟨by rw [put_ne n2]; exact Y.o, by rw [put_ne k1]; exact Y.k, put_eq, by rw [put_ne m1.symm]; exact Y.r, by rw [put_ne m2.symm]; exact Y.s, by rw [put_ne m3.symm]; exact Y.m, by rw [put_ne m4.symm]; exact Y.g, by rw [put_ne m5.symm]; exact Y.t, Y.nd, Y.lt⟩
theorem YAt.put_r (Y : YAt h A S) (v : List (AV × AV)) : YAt (h.put A.r (.dct false v)) A { S with rod := v } := by
  obtain ⟨⟨n1, n2, n3, n4, n5, n6, n7⟩, ⟨k1, k2, k3, k4, k5, k6⟩, ⟨m1, m2, m3, m4, m5⟩, ⟨r1, r2, r3, r4⟩, _⟩ := Y.ne
  exact ⟨by rw [put_ne n3]; exact Y.o, by rw [put_ne k2]; exact Y.k, by rw [put_ne m1]; exact Y.n, put_eq, by rw [put_ne r1.symm]; exact Y.s, by rw [put_ne r2.symm]; exact Y.m, by rw [put_ne r3.symm]; exact Y.g, by rw [put_ne r4.symm]; exact Y.t, Y.nd, Y.lt⟩
theorem YAt.put_s (Y : YAt h A S) (v : List (AV × AV)) : YAt (h.put A.s (.dct false v)) A { S with side := v } := by
  obtain ⟨⟨n1, n2, n3, n4, n5, n6, n7⟩, ⟨k1, k2, k3, k4, k5, k6⟩, ⟨m1, m2, m3, m4, m5⟩, ⟨r1, r2, r3, r4⟩, ⟨s1, s2, s3⟩, _⟩ := Y.ne
  exact ⟨by rw [put_ne n4]; exact Y.o, by rw [put_ne k3]; exact Y.k, by rw [put_ne m2]; exact Y.n, by rw [put_ne r1]; exact Y.r, put_eq, by rw [put_ne s1.symm]; exact Y.m, by rw [put_ne s2.symm]; exact Y.g, by rw [put_ne s3.symm]; exact Y.t, Y.nd, Y.lt⟩
theorem YAt.put_m (Y : YAt h A S) (v : List (AV × AV)) : YAt (h.put A.m (.dct true v)) A { S with mate := v } := by
  obtain ⟨⟨n1, n2, n3, n4, n5, n6, n7⟩, ⟨k1, k2, k3, k4, k5, k6⟩, ⟨m1, m2, m3, m4, m5⟩, ⟨r1, r2, r3, r4⟩, ⟨s1, s2, s3⟩, ⟨t1, t2⟩, u⟩ := Y.ne
  exact ⟨by rw [put_ne n5]; exact Y.o, by rw [put_ne k4]; exact Y.k, by rw [put_ne m3]; exact Y.n, by rw [put_ne r2]; exact Y.r, by rw [put_ne s1]; exact Y.s, put_eq, by rw [put_ne t1.symm]; exact Y.g, by rw [put_ne t2.symm]; exact Y.t, Y.nd, Y.lt⟩
theorem YAt.put_g (Y : YAt h A S) (v : List AV) : YAt (h.put A.g (.lst v)) A { S with rung := v } := by
  obtain ⟨⟨n1, n2, n3, n4, n5, n6, n7⟩, ⟨k1, k2, k3, k4, k5, k6⟩, ⟨m1, m2, m3, m4, m5⟩, ⟨r1, r2, r3, r4⟩, ⟨s1, s2, s3⟩, ⟨t1, t2⟩, u⟩ := Y.ne
  exact ⟨by rw [put_ne n6]; exact Y.o, by rw [put_ne k5]; exact Y.k, by rw [put_ne m4]; exact Y.n, by rw [put_ne r3]; exact Y.r, by rw [put_ne s2]; exact Y.s, by rw [put_ne t1]; exact Y.m, put_eq, by rw [put_ne u.symm]; exact Y.t, Y.nd, Y.lt⟩
theorem YAt.put_t (Y : YAt h A S) (v : List AV) : YAt (h.put A.t (.lst v)) A { S with trail := v } := by
  obtain ⟨⟨n1, n2, n3, n4, n5, n6, n7⟩, ⟨k1, k2, k3, k4, k5, k6⟩, ⟨m1, m2, m3, m4, m5⟩, ⟨r1, r2, r3, r4⟩, ⟨s1, s2, s3⟩, ⟨t1, t2⟩, u⟩ := Y.ne
  exact ⟨by rw [put_ne n7]; exact Y.o, by rw [put_ne k6]; exact Y.k, by rw [put_ne m5]; exact Y.n, by rw [put_ne r4]; exact Y.r, by rw [put_ne s3]; exact Y.s, by rw [put_ne t2]; exact Y.m, by rw [put_ne u]; exact Y.g, put_eq, Y.nd, Y.lt⟩
/-- something new beside -/
theorem YAt.new (Y : YAt h A S) (ob : O) : YAt (h.new ob) A S ∧ Fr h A (h.new ob) A := by
  have e : ∀ b, b < h.n → (h.new ob).g b = h.g b := fun b hb => by
    show (if b = h.n then some ob else h.g b) = h.g b
    rw [if_neg (by omega)]
  have l := Y.lt
  simp only [YA.own, List.mem_cons, List.not_mem_nil, or_false, forall_eq_or_imp, forall_eq] at l
  obtain ⟨l1, l2, l3, l4, l5, l6, l7, l8⟩ := l
  exact ⟨⟨by rw [e _ l1]; exact Y.o, by rw [e _ l2]; exact Y.k, by rw [e _ l3]; exact Y.n, by rw [e _ l4]; exact Y.r, by rw [e _ l5]; exact Y.s, by rw [e _ l6]; exact Y.m, by rw [e _ l7]; exact Y.g, by rw [e _ l8]; exact Y.t, Y.nd, fun x hx => Nat.lt_succ_of_lt (Y.lt x hx)⟩,
    ⟨Nat.le_succ _, fun b hb _ => e b hb, rfl, fun b hb => .inl hb⟩⟩
/-- self.trail = [] -/
theorem YAt.trail0 (Y : YAt h A S) {at' : Nm → List Nm} (ha : .f_trail ∈ at' .c_Yard) : ∃ h', setF at' (h.new (.lst [])) (.ref A.y) .f_trail (.ref h.n) = some h' ∧ YAt h' { A with t := h.n } { S with trail := [] } ∧ Fr h A h' { A with t := h.n } := by
  obtain ⟨Y1, F1⟩ := Y.new (.lst [])
  obtain ⟨⟨n1, n2, n3, n4, n5, n6, n7⟩, ⟨k1, k2, k3, k4, k5, k6⟩, ⟨m1, m2, m3, m4, m5⟩, ⟨r1, r2, r3, r4⟩, ⟨s1, s2, s3⟩, ⟨t1, t2⟩, u⟩ := Y.ne
  have l := Y.lt
  simp only [YA.own, List.mem_cons, List.not_mem_nil, or_false, forall_eq_or_imp, forall_eq] at l
  obtain ⟨l1, l2, l3, l4, l5, l6, l7, l8⟩ := l
  refine ⟨(h.new (.lst [])).put A.y (.obj .c_Yard (yF { A with t := h.n } S)), ?_, ?_, ?_⟩
  · unfold setF
    simp only [Y1.o]
    rw [if_pos ⟨by simp [yF], ha⟩]
    simp [fput, yF]
  · have hn : (h.new (.lst [])).g h.n = some (.lst []) := if_pos rfl
    refine ⟨put_eq, by rw [put_ne n1.symm]; exact Y1.k, by rw [put_ne n2.symm]; exact Y1.n, by rw [put_ne n3.symm]; exact Y1.r, by rw [put_ne n4.symm]; exact Y1.s, by rw [put_ne n5.symm]; exact Y1.m, by rw [put_ne n6.symm]; exact Y1.g, by rw [put_ne (by simp; omega)]; exact hn, ?_, ?_⟩
    · simp only [YA.own, List.nodup_cons, List.mem_cons, List.not_mem_nil, or_false, not_or, not_false_eq_true, List.nodup_nil, and_true]
      exact ⟨⟨n1, n2, n3, n4, n5, n6, by omega⟩, ⟨k1, k2, k3, k4, k5, by omega⟩, ⟨m1, m2, m3, m4, by omega⟩, ⟨r1, r2, r3, by omega⟩, ⟨s1, s2, by omega⟩, ⟨t1, by omega⟩, by omega⟩
    · intro x hx
      simp only [YA.own, List.mem_cons, List.not_mem_nil, or_false] at hx
      show x < h.n + 1
      omega
  · refine ⟨Nat.le_succ _, fun b hb hm => ?_, rfl, fun b hb => ?_⟩
    · rw [put_ne fun z => hm (by rw [z]; simp [YA.own]), F1.same b hb hm]
    · simp only [YA.own, List.mem_cons, List.not_mem_nil, or_false] at hb ⊢
      omega
end
end Rl

set_option linter.all false
set_option autoImplicit false
set_option maxRecDepth 100000
set_option maxHeartbeats 2000000
/-! Yard2: the methods. -/
namespace Rl
section
variable {h : AH} {A : YA} {S : YS}
/-! attributes read -/
theorem YAt.f_k (Y : YAt h A S) : getF h (.ref A.y) .f_kind_of = some (.ref A.k) := by simp [getF, Y.o, yF, flook]
theorem YAt.f_n (Y : YAt h A S) : getF h (.ref A.y) .f_note_of = some (.ref A.n) := by simp [getF, Y.o, yF, flook]
theorem YAt.f_r (Y : YAt h A S) : getF h (.ref A.y) .f_rod_of = some (.ref A.r) := by simp [getF, Y.o, yF, flook]
theorem YAt.f_s (Y : YAt h A S) : getF h (.ref A.y) .f_side_of = some (.ref A.s) := by simp [getF, Y.o, yF, flook]
theorem YAt.f_m (Y : YAt h A S) : getF h (.ref A.y) .f_mate_of = some (.ref A.m) := by simp [getF, Y.o, yF, flook]
theorem YAt.f_np (Y : YAt h A S) : getF h (.ref A.y) .f_next_piece = some (.int S.np) := by simp [getF, Y.o, yF, flook]
theorem YAt.f_nr (Y : YAt h A S) : getF h (.ref A.y) .f_next_rod = some (.int S.nr) := by simp [getF, Y.o, yF, flook]
theorem YAt.f_at (Y : YAt h A S) : getF h (.ref A.y) .f_at = some S.at_ := by simp [getF, Y.o, yF, flook]
theorem YAt.f_g (Y : YAt h A S) : getF h (.ref A.y) .f_rung = some (.ref A.g) := by simp [getF, Y.o, yF, flook]
theorem YAt.f_t (Y : YAt h A S) : getF h (.ref A.y) .f_trail = some (.ref A.t) := by simp [getF, Y.o, yF, flook]
/-! attributes written -/
theorem YAt.s_np (Y : YAt h A S) {at' : Nm → List Nm} (ha : .f_next_piece ∈ at' .c_Yard) (v : Int) : setF at' h (.ref A.y) .f_next_piece (.int v) = some (h.put A.y (.obj .c_Yard (yF A { S with np := v }))) := by
  unfold setF
  simp only [Y.o]
  rw [if_pos ⟨by simp [yF], ha⟩]
  simp [fput, yF]
theorem YAt.s_nr (Y : YAt h A S) {at' : Nm → List Nm} (ha : .f_next_rod ∈ at' .c_Yard) (v : Int) : setF at' h (.ref A.y) .f_next_rod (.int v) = some (h.put A.y (.obj .c_Yard (yF A { S with nr := v }))) := by
  unfold setF
  simp only [Y.o]
  rw [if_pos ⟨by simp [yF], ha⟩]
  simp [fput, yF]
theorem YAt.s_at (Y : YAt h A S) {at' : Nm → List Nm} (ha : .f_at ∈ at' .c_Yard) (v : AV) : setF at' h (.ref A.y) .f_at v = some (h.put A.y (.obj .c_Yard (yF A { S with at_ := v }))) := by
  unfold setF
  simp only [Y.o]
  rw [if_pos ⟨by simp [yF], ha⟩]
  simp [fput, yF]
end
/-! dicts -/
section
variable {h : AH} {a : Nat} {tk : Bool} {kvs : List (AV × AV)} {k v : AV}
theorem in_dct (e : h.g a = some (.dct tk kvs)) (hk : keyOk tk k = true) : op2 .isin k (.ref a) h = .ok (.bl (dlook kvs k).isSome) h := by
  simp only [op2, opIn, e]; rw [if_pos hk]; rfl
theorem notin_dct (e : h.g a = some (.dct tk kvs)) (hk : keyOk tk k = true) : op2 .notin k (.ref a) h = .ok (.bl (!(dlook kvs k).isSome)) h := by
  simp only [op2, opIn, e]; rw [if_pos hk]; rfl
theorem item_dct (e : h.g a = some (.dct tk kvs)) (hk : keyOk tk k = true) (hv : dlook kvs k = some v) : op2 .item (.ref a) k h = .ok v h := by
  simp only [op2, opItem, e]; rw [if_pos hk, hv]
theorem seti_dct (e : h.g a = some (.dct tk kvs)) (hk : keyOk tk k = true) (hl : kvs.length < LIM) : setI h (.ref a) k v = some (h.put a (.dct tk (dput kvs k v))) := by
  simp only [setI, e]; rw [if_pos ⟨hk, hl⟩]
theorem get_dct (e : h.g a = some (.dct tk kvs)) (hk : keyOk tk k = true) : primM .get .dict (.ref a) [k] h = .ok ((dlook kvs k).getD .non) h := by
  simp only [primM, e, mGet]; rw [if_pos hk]
@[simp] theorem key_int {i : Int} : keyOk false (.int i) = true := rfl
@[simp] theorem key_end {i j : Int} : keyOk true (.tup [.int i, .int j]) = true := rfl
theorem dl_map_same (k v : AV) : ∀ r : List (AV × AV), (r.any fun p => decide (p.1 = k)) = true → dlook (r.map fun p => if p.1 = k then (p.1, v) else p) k = some v
  | [], h => by simp at h
  | p :: r, h => by
    by_cases e : p.1 = k
    · simp [dlook, e]
    · have ih := dl_map_same k v r (by simpa [e] using h)
      unfold dlook at ih ⊢
      rw [List.map_cons, List.find?_cons]
      simp only [if_neg e, decide_eq_false e]
      exact ih
theorem dl_map_other {k k' : AV} (v : AV) (hk : k ≠ k') : ∀ r : List (AV × AV), dlook (r.map fun p => if p.1 = k then (p.1, v) else p) k' = dlook r k'
  | [] => rfl
  | p :: r => by
    have ih := dl_map_other v hk r
    unfold dlook at ih ⊢
    rw [List.map_cons, List.find?_cons, List.find?_cons]
    by_cases e : p.1 = k
    · have e2 : p.1 ≠ k' := fun z => hk (e.symm.trans z)
      simp only [if_pos e, decide_eq_false e2]
      exact ih
    · simp only [if_neg e]
      by_cases e2 : p.1 = k'
      · simp only [decide_eq_true e2]
      · simp only [decide_eq_false e2]
        exact ih
theorem dl_app {k k' : AV} (v : AV) : ∀ r : List (AV × AV), (r.any fun p => decide (p.1 = k)) = false → dlook (r ++ [(k, v)]) k' = if k = k' then some v else dlook r k'
  | [], _ => by by_cases e : k = k' <;> simp [dlook, e]
  | p :: r, h => by
    simp only [List.any_cons, Bool.or_eq_false_iff, decide_eq_false_iff_not] at h
    have ih := dl_app (k' := k') v r h.2
    unfold dlook at ih ⊢
    rw [List.cons_append, List.find?_cons, List.find?_cons]
    by_cases e2 : p.1 = k'
    · have : k ≠ k' := fun z => h.1 (e2.trans z.symm)
      simp only [decide_eq_true e2, if_neg this]
    · simp only [decide_eq_false e2]
      exact ih
theorem dlook_put (kvs : List (AV × AV)) (k v k' : AV) : dlook (dput kvs k v) k' = if k = k' then some v else dlook kvs k' := by
  unfold dput
  cases hm : kvs.any fun p => decide (p.1 = k) with
  | true =>
    rw [if_pos rfl]
    by_cases e : k = k'
    · subst e; rw [if_pos rfl]; exact dl_map_same k v kvs hm
    · rw [if_neg e]; exact dl_map_other v e kvs
  | false =>
    rw [if_neg (by simp)]
    exact dl_app v kvs hm
theorem dput_length (kvs : List (AV × AV)) (k v : AV) : (dput kvs k v).length ≤ kvs.length + 1 := by
  unfold dput
  split <;> simp
end
end Rl

set_option linter.all false
set_option autoImplicit false
set_option maxRecDepth 100000
set_option maxHeartbeats 2000000
/-! Yard3: each method's promise. -/
namespace Rl
def yAt : List Nm := [.f_kind_of, .f_note_of, .f_rod_of, .f_side_of, .f_mate_of, .f_next_piece, .f_next_rod, .f_at, .f_rung, .f_trail]
/-- the shared defs that a law has -/
structure Has (P : Prg) (l : List Nm) (ms : List (Nm × Nm)) : Prop where
  fn : ∀ q ∈ l, P.fn q = Y.std q
  mt : ∀ p ∈ ms, P.cl.mth .c_Yard p.1 = some p.2
  at_ : P.cl.at' .c_Yard = yAt
theorem Has.sub {P : Prg} {l l' : List Nm} {ms ms' : List (Nm × Nm)} (H : Has P l ms) (h1 : ∀ q ∈ l', q ∈ l) (h2 : ∀ q ∈ ms', q ∈ ms) : Has P l' ms' := ⟨fun q hq => H.fn q (h1 q hq), fun p hp => H.mt p (h2 p hp), H.at_⟩
theorem meth_eq {cl : Cl} {cf : Cf} {o es : Rl.E} {ds : List AV} {σ : Sl} {h h1 : AH} {a : Nat} {c f m : Nm} {fs : List (Nm × AV)} (ho : ev cl cf o σ h = .ok (.ref a) h1) (hg : h1.g a = some (.obj c fs)) (hm : cl.mth c m = some f) (hd : ds.isSuffixOf (cl.dfl f) = true) :
    ev cl cf (.meth o m es ds) σ h = (evs cl cf es σ h1).bind fun vs h2 => cf f (.ref a :: (vs ++ ds)) h2 := by
  simp only [ev, ho, bind_ok, hg, hm, hd, if_true]
theorem methK_eq {cl : Cl} {cf : Cf} {o es e : Rl.E} {mid : List AV} {σ : Sl} {h h1 : AH} {a : Nat} {c f m kn : Nm} {fs : List (Nm × AV)} (ho : ev cl cf o σ h = .ok (.ref a) h1) (hg : h1.g a = some (.obj c fs)) (hm : cl.mth c m = some f) (hd : cl.kw f = some (mid, kn)) :
    ev cl cf (.methK o m es mid kn e) σ h = (evs cl cf es σ h1).bind fun vs h2 => (ev cl cf e σ h2).bind fun v h3 => cf f (.ref a :: (vs ++ mid ++ [v])) h3 := by
  simp only [ev, ho, bind_ok, hg, hm, hd, if_true]
@[simp] theorem suf_nil {l : List AV} : ([] : List AV).isSuffixOf l = true := by simp
def kLine : Tx := [108, 105, 110, 101]
def kBell : Tx := [98, 101, 108, 108]
def kStop : Tx := [115, 116, 111, 112]
def kStill : Tx := [115, 116, 105, 108, 108]
def kLazy : Tx := [108, 97, 122, 121]
def kTurn : Tx := [116, 117, 114, 110, 105, 110, 103]
/-- a kind -/
inductive Kd : Tx → Int → Prop
  | line : Kd kLine 2 | bell : Kd kBell 2 | stop : Kd kStop 1 | still : Kd kStill 3 | lazy : Kd kLazy 3 | turn : Kd kTurn 3
section
variable {P : Prg} {d : Nat} {h : AH} {A : YA} {S : YS} {k : Tx} {n : Int}
theorem y_ends (H : P.fn .d_ends_of = Y.std .d_ends_of) (hk : Kd k n) : callD P (d + 1) .d_ends_of [.str k] h = .ok (.int n) h := by
  rw [callD_eq H rfl]
  cases hk <;> rfl
theorem y_point (H : Has P [.d_ends_of, .d_is_point] []) (hk : Kd k n) : callD P (d + 2) .d_is_point [.str k] h = .ok (.bl (decide (n = 3))) h := by
  rw [callD_eq (H.fn .d_is_point (by simp)) rfl]
  have e := y_ends (d := d) (h := h) (H.fn .d_ends_of (by simp)) hk
  show toR (ex P.cl (callD P (d + 1)) Rl.Y.B_is_point [some (.str k)] h) = _
  simp [Rl.Y.B_is_point, e]
theorem y_good (H : P.fn .d_good_side = Y.std .d_good_side) {s : Int} (hs : s = 1 ∨ s = 2) : callD P (d + 1) .d_good_side [.int s] h = .ok (.int s) h := by
  rw [callD_eq H rfl]
  rcases hs with rfl | rfl <;> rfl
theorem y_look_piece (H : P.fn .d_Yard_look_piece = Y.std .d_Yard_look_piece) (Y : YAt h A S) {p : Int} (hp : (dlook S.kind (.int p)).isSome = true) : callD P (d + 1) .d_Yard_look_piece [.ref A.y, .int p] h = .ok .non h := by
  rw [callD_eq H rfl]
  show toR (ex P.cl (callD P d) Rl.Y.B_Yard_look_piece [some (.ref A.y), some (.int p)] h) = _
  simp [Rl.Y.B_Yard_look_piece, Y.f_k, notin_dct Y.k (k := .int p) rfl, hp]
theorem y_look_rod (H : P.fn .d_Yard_look_rod = Y.std .d_Yard_look_rod) (Y : YAt h A S) {p : Int} (hp : (dlook S.side (.int p)).isSome = true) : callD P (d + 1) .d_Yard_look_rod [.ref A.y, .int p] h = .ok .non h := by
  rw [callD_eq H rfl]
  show toR (ex P.cl (callD P d) Rl.Y.B_Yard_look_rod [some (.ref A.y), some (.int p)] h) = _
  simp [Rl.Y.B_Yard_look_rod, Y.f_s, notin_dct Y.s (k := .int p) rfl, hp]
theorem y_look_end (H : Has P [.d_Yard_look_end, .d_Yard_look_piece, .d_ends_of] [(.f_look_piece, .d_Yard_look_piece)]) (Y : YAt h A S) {p e : Int} (hp : dlook S.kind (.int p) = some (.str k)) (hk : Kd k n) (h0 : 0 ≤ e) (h1 : e < n) :
    callD P (d + 2) .d_Yard_look_end [.ref A.y, .tup [.int p, .int e]] h = .ok .non h := by
  rw [callD_eq (H.fn .d_Yard_look_end (by simp)) rfl]
  have e1 := y_look_piece (d := d) (H.fn .d_Yard_look_piece (by simp)) Y (p := p) (by simp [hp])
  have e2 := y_ends (d := d) (h := h) (H.fn .d_ends_of (by simp)) hk
  have e3 := item_dct Y.k (k := .int p) rfl hp
  show toR (ex P.cl (callD P (d + 1)) Rl.Y.B_Yard_look_end [some (.ref A.y), some (.tup [.int p, .int e]), none, none] h) = _
  have m1 : ev P.cl (callD P (d + 1)) (.meth (.slot 0) .f_look_piece (.cons (.slot 2) .nil) []) [some (.ref A.y), some (.tup [.int p, .int e]), some (.int p), some (.int e)] h = .ok .non h := by
    rw [meth_eq (h1 := h) rfl Y.o (H.mt (.f_look_piece, .d_Yard_look_piece) (by simp)) suf_nil]
    simp [e1]
  simp [Rl.Y.B_Yard_look_end, bindT, bindTs, m1, Y.f_k, e3, e2, show ¬ e < 0 by omega, show ¬ n ≤ e by omega]
/-- new_rod -/
theorem y_new_rod (H : Has P [.d_Yard_new_rod, .d_good_side] []) (Y : YAt h A S) {s : Int} (hs : s = 1 ∨ s = 2) (hl : S.side.length < LIM) :
    ∃ h' A', callD P (d + 2) .d_Yard_new_rod [.ref A.y, .int s] h = .ok (.int S.nr) h' ∧ YAt h' A' { S with nr := S.nr + 1, side := dput S.side (.int S.nr) (.int s), trail := [] } ∧ Fr h A h' A' := by
  rw [callD_eq (H.fn .d_Yard_new_rod (by simp)) rfl]
  have e1 := y_good (P := P) (d := d) (h := h) (H.fn .d_good_side (by simp)) hs
  have ha := H.at_
  have Y1 := Y.put_o (S' := { S with nr := S.nr + 1 }) ⟨rfl, rfl, rfl, rfl, rfl, rfl, rfl⟩
  have F1 := Y.wrote (a := A.y) (by simp [YA.own]) (ob := .obj .c_Yard (yF A { S with nr := S.nr + 1 }))
  have Y2 := Y1.put_s (dput S.side (.int S.nr) (.int s))
  have F2 := Y1.wrote (a := A.s) (by simp [YA.own]) (ob := .dct false (dput S.side (.int S.nr) (.int s)))
  obtain ⟨h3, w3, Y3, F3⟩ := Y2.trail0 (at' := P.cl.at') (by rw [ha]; simp [yAt])
  refine ⟨h3, _, ?_, Y3, (F1.trans F2).trans F3⟩
  have s1 := Y.s_nr (at' := P.cl.at') (by rw [ha]; simp [yAt]) (S.nr + 1)
  have s2 := seti_dct (k := .int S.nr) (v := .int s) Y1.s rfl hl
  show toR (ex P.cl (callD P (d + 1)) Rl.Y.B_Yard_new_rod [some (.ref A.y), some (.int s), none] h) = _
  simp [Rl.Y.B_Yard_new_rod, e1, Y.f_nr, bindT, s1, Y1.f_s, s2, newL, w3]
end
end Rl

set_option linter.all false
set_option autoImplicit false
set_option maxRecDepth 100000
set_option maxHeartbeats 4000000
/-! Yard4: lay, link, throw, put, what is asked. -/
namespace Rl
section
variable {P : Prg} {d : Nat} {h : AH} {A : YA} {S : YS} {k : Tx} {n : Int}
/-! steps, the heap behind left unseen -/
theorem YAt.w_np (Y : YAt h A S) {at' : Nm → List Nm} (ha : at' .c_Yard = yAt) (v : Int) : ∃ h1, setF at' h (.ref A.y) .f_next_piece (.int v) = some h1 ∧ YAt h1 A { S with np := v } ∧ Fr h A h1 A :=
  ⟨_, Y.s_np (by rw [ha]; simp [yAt]) v, Y.put_o ⟨rfl, rfl, rfl, rfl, rfl, rfl, rfl⟩, Y.wrote (by simp [YA.own])⟩
theorem YAt.w_nr (Y : YAt h A S) {at' : Nm → List Nm} (ha : at' .c_Yard = yAt) (v : Int) : ∃ h1, setF at' h (.ref A.y) .f_next_rod (.int v) = some h1 ∧ YAt h1 A { S with nr := v } ∧ Fr h A h1 A :=
  ⟨_, Y.s_nr (by rw [ha]; simp [yAt]) v, Y.put_o ⟨rfl, rfl, rfl, rfl, rfl, rfl, rfl⟩, Y.wrote (by simp [YA.own])⟩
theorem YAt.w_at (Y : YAt h A S) {at' : Nm → List Nm} (ha : at' .c_Yard = yAt) (v : AV) : ∃ h1, setF at' h (.ref A.y) .f_at v = some h1 ∧ YAt h1 A { S with at_ := v } ∧ Fr h A h1 A :=
  ⟨_, Y.s_at (by rw [ha]; simp [yAt]) v, Y.put_o ⟨rfl, rfl, rfl, rfl, rfl, rfl, rfl⟩, Y.wrote (by simp [YA.own])⟩
theorem YAt.w_kind (Y : YAt h A S) {c v : AV} (hk : keyOk false c = true) (hl : S.kind.length < LIM) : ∃ h1, setI h (.ref A.k) c v = some h1 ∧ YAt h1 A { S with kind := dput S.kind c v } ∧ Fr h A h1 A := ⟨_, seti_dct Y.k hk hl, Y.put_k _, Y.wrote (by simp [YA.own])⟩
theorem YAt.w_note (Y : YAt h A S) {c v : AV} (hk : keyOk false c = true) (hl : S.note.length < LIM) : ∃ h1, setI h (.ref A.n) c v = some h1 ∧ YAt h1 A { S with note := dput S.note c v } ∧ Fr h A h1 A := ⟨_, seti_dct Y.n hk hl, Y.put_n _, Y.wrote (by simp [YA.own])⟩
theorem YAt.w_rod (Y : YAt h A S) {c v : AV} (hk : keyOk false c = true) (hl : S.rod.length < LIM) : ∃ h1, setI h (.ref A.r) c v = some h1 ∧ YAt h1 A { S with rod := dput S.rod c v } ∧ Fr h A h1 A := ⟨_, seti_dct Y.r hk hl, Y.put_r _, Y.wrote (by simp [YA.own])⟩
theorem YAt.w_side (Y : YAt h A S) {c v : AV} (hk : keyOk false c = true) (hl : S.side.length < LIM) : ∃ h1, setI h (.ref A.s) c v = some h1 ∧ YAt h1 A { S with side := dput S.side c v } ∧ Fr h A h1 A := ⟨_, seti_dct Y.s hk hl, Y.put_s _, Y.wrote (by simp [YA.own])⟩
theorem YAt.w_mate (Y : YAt h A S) {c v : AV} (hk : keyOk true c = true) (hl : S.mate.length < LIM) : ∃ h1, setI h (.ref A.m) c v = some h1 ∧ YAt h1 A { S with mate := dput S.mate c v } ∧ Fr h A h1 A := ⟨_, seti_dct Y.m hk hl, Y.put_m _, Y.wrote (by simp [YA.own])⟩
theorem YAt.w_trail (Y : YAt h A S) {at' : Nm → List Nm} (ha : at' .c_Yard = yAt) : ∃ h1 A1, setF at' (h.new (.lst [])) (.ref A.y) .f_trail (.ref h.n) = some h1 ∧ YAt h1 A1 { S with trail := [] } ∧ Fr h A h1 A1 ∧ A1 = { A with t := h.n } := by
  obtain ⟨h1, w, Y1, F1⟩ := Y.trail0 (at' := at') (by rw [ha]; simp [yAt])
  exact ⟨h1, _, w, Y1, F1, rfl⟩
abbrev layL : List Nm := [.d_Yard_lay, .d_Yard_new_rod, .d_Yard_look_rod, .d_good_side, .d_is_point, .d_ends_of]
abbrev layM : List (Nm × Nm) := [(.f_look_rod, .d_Yard_look_rod), (.f_new_rod, .d_Yard_new_rod)]
theorem str_beq (a b : Tx) : ((⟨a.toArray⟩ : PySem.Str) == ⟨b.toArray⟩) = decide (a = b) := by
  rw [Bool.eq_iff_iff]
  simp
theorem eq_str {a b : Tx} {h : AH} (ha : strOk a = true) (hb : strOk b = true) : op2 .eq (.str a) (.str b) h = .ok (.bl (decide (a = b))) h := by
  have : PySem.PyData.eqv (.str ⟨a.toArray⟩) (.str ⟨b.toArray⟩) = decide (a = b) := by
    rw [← str_beq]; rfl
  simp [op2, opEq, eqA, toD, ha, hb, this]
theorem Kd.ok (hk : Kd k n) : strOk k = true := by cases hk <;> rfl
theorem y_eqBell (hk : Kd k n) {h : AH} : op2 .eq (.str k) (.str [98, 101, 108, 108]) h = .ok (.bl (decide (k = kBell))) h := eq_str hk.ok rfl
/-- what lay leaves: no point -/
def YS.laid (S : YS) (k : Tx) (note : AV) : YS := { S with np := S.np + 1, kind := dput S.kind (.int S.np) (.str k), note := if k = kBell then dput S.note (.int S.np) note else S.note, trail := [] }
theorem y_lay_plain (H : Has P layL layM) (Y : YAt h A S) (hk : Kd k n) (h3 : n ≠ 3) (note : Int) (rod : AV) (hb : k = kBell → 0 ≤ note ∧ note ≤ 9999) (l1 : S.kind.length < LIM) (l2 : S.note.length < LIM) :
    ∃ h' A', callD P (d + 3) .d_Yard_lay [.ref A.y, .str k, .int note, rod] h = .ok (.int S.np) h' ∧ YAt h' A' (S.laid k (.int note)) ∧ Fr h A h' A' := by
  rw [callD_eq (H.fn .d_Yard_lay (by simp)) rfl]
  have ha := H.at_
  have e1 := y_point (P := P) (d := d) (h := h) (H.sub (by simp) (by simp)) hk
  rw [show decide (n = 3) = false by simpa using h3] at e1
  have eb : ∀ h : AH, op2 .eq (.str k) (.str [98, 101, 108, 108]) h = .ok (.bl (decide (k = kBell))) h := fun h => y_eqBell hk
  obtain ⟨h1, w1, Y1, F1⟩ := Y.w_np (at' := P.cl.at') ha (S.np + 1)
  obtain ⟨h2, w2, Y2, F2⟩ := Y1.w_kind (c := .int S.np) (v := .str k) rfl l1
  show ∃ h' A', toR (ex P.cl (callD P (d + 2)) Rl.Y.B_Yard_lay [some (.ref A.y), some (.str k), some (.int note), some rod, none, none] h) = _ ∧ _
  by_cases c : k = kBell
  · subst c
    have hb := hb rfl
    obtain ⟨h3, w3, Y3, F3⟩ := Y2.w_note (c := .int S.np) (v := .int note) rfl l2
    obtain ⟨h4, A4, w4, Y4, F4, _⟩ := Y3.w_trail (at' := P.cl.at') ha
    refine ⟨h4, A4, ?_, ?_, ((F1.trans F2).trans F3).trans F4⟩
    · have g1 : ¬ note < 0 := by omega
      have g2 : ¬ 9999 < note := by omega
      have f2 := Y2.f_n
      have f1 := Y1.f_k
      simp [Rl.Y.B_Yard_lay, e1, bindT, eb, g1, g2, Y.f_np, w1, f1, newL, w2, f2, w3, w4]
    · simpa [YS.laid] using Y4
  · obtain ⟨h4, A4, w4, Y4, F4, _⟩ := Y2.w_trail (at' := P.cl.at') ha
    refine ⟨h4, A4, ?_, ?_, (F1.trans F2).trans F4⟩
    · have f1 := Y1.f_k
      simp [Rl.Y.B_Yard_lay, e1, bindT, eb, c, Y.f_np, w1, f1, w2, newL, w4]
    · simpa [YS.laid, c] using Y4
end
end Rl

set_option linter.all false
set_option autoImplicit false
set_option maxRecDepth 100000
set_option maxHeartbeats 4000000
/-! Yard5: a yard made; points laid. -/
namespace Rl
section
variable {P : Prg} {d : Nat} {h : AH} {A : YA} {S : YS} {k : Tx} {n : Int}
theorem init_new {y : Nat} {c f : Nm} {fs : List (Nm × AV)} {at' : Nm → List Nm} (ob : O) (hy : h.g y = some (.obj c fs)) (lt : y < h.n) (hf : f ∈ at' c) (hl : fs.length < 900) :
    ∃ h1, setF at' (h.new ob) (.ref y) f (.ref h.n) = some h1 ∧ h1.g y = some (.obj c (fput fs f (.ref h.n))) ∧ h1.n = h.n + 1 ∧ h1.g h.n = some ob ∧ ∀ b, b < h.n → b ≠ y → h1.g b = h.g b := by
  have e : ∀ b, b < h.n → (h.new ob).g b = h.g b := fun b hb => by
    show (if b = h.n then some ob else h.g b) = h.g b
    rw [if_neg (by omega)]
  refine ⟨(h.new ob).put y (.obj c (fput fs f (.ref h.n))), ?_, put_eq, rfl, ?_, fun b hb hne => ?_⟩
  · unfold setF
    simp only [e y lt, hy]
    rw [if_pos ⟨hl, hf⟩]
  · rw [put_ne (by omega)]; exact if_pos rfl
  · rw [put_ne hne, e b hb]
theorem init_val {y : Nat} {c f : Nm} {fs : List (Nm × AV)} {at' : Nm → List Nm} (v : AV) (hy : h.g y = some (.obj c fs)) (hf : f ∈ at' c) (hl : fs.length < 900) :
    ∃ h1, setF at' h (.ref y) f v = some h1 ∧ h1.g y = some (.obj c (fput fs f v)) ∧ h1.n = h.n ∧ ∀ b, b ≠ y → h1.g b = h.g b := by
  refine ⟨h.put y (.obj c (fput fs f v)), ?_, put_eq, rfl, fun b hne => put_ne hne⟩
  unfold setF
  simp only [hy]
  rw [if_pos ⟨hl, hf⟩]
def YS0 : YS := ⟨[], [], [], [], [], 0, 0, .non, [], []⟩
theorem y_init (H : Has P [.d_Yard_init] []) {y : Nat} (hy : h.g y = some (.obj .c_Yard [])) (lt : y < h.n) :
    ∃ h' A, callD P (d + 1) .d_Yard_init [.ref y] h = .ok .non h' ∧ YAt h' A YS0 ∧ A.y = y ∧ h.n ≤ h'.n ∧ (∀ b, b < h.n → b ≠ y → h'.g b = h.g b) ∧ ∀ b ∈ A.own, b = y ∨ h.n ≤ b := by
  rw [callD_eq (H.fn .d_Yard_init (by simp)) rfl]
  have ha := H.at_
  have mem : ∀ f ∈ yAt, f ∈ P.cl.at' .c_Yard := fun f hf => by rw [ha]; exact hf
  obtain ⟨h1, w1, y1, n1, o1, k1⟩ := init_new (.dct false []) hy lt (mem .f_kind_of (by simp [yAt])) (by simp)
  obtain ⟨h2, w2, y2, n2, o2, k2⟩ := init_new (.dct false []) y1 (by omega) (mem .f_note_of (by simp [yAt])) (by simp [fput])
  obtain ⟨h3, w3, y3, n3, o3, k3⟩ := init_new (.dct false []) y2 (by omega) (mem .f_rod_of (by simp [yAt])) (by simp [fput])
  obtain ⟨h4, w4, y4, n4, o4, k4⟩ := init_new (.dct false []) y3 (by omega) (mem .f_side_of (by simp [yAt])) (by simp [fput])
  obtain ⟨h5, w5, y5, n5, o5, k5⟩ := init_new (.dct true []) y4 (by omega) (mem .f_mate_of (by simp [yAt])) (by simp [fput])
  obtain ⟨h6, w6, y6, n6, k6⟩ := init_val (.int 0) y5 (mem .f_next_piece (by simp [yAt])) (by simp [fput])
  obtain ⟨h7, w7, y7, n7, k7⟩ := init_val (.int 0) y6 (mem .f_next_rod (by simp [yAt])) (by simp [fput])
  obtain ⟨h8, w8, y8, n8, k8⟩ := init_val .non y7 (mem .f_at (by simp [yAt])) (by simp [fput])
  obtain ⟨h9, w9, y9, n9, o9, k9⟩ := init_new (.lst []) y8 (by omega) (mem .f_rung (by simp [yAt])) (by simp [fput])
  obtain ⟨h10, w10, y10, n10, o10, k10⟩ := init_new (.lst []) y9 (by omega) (mem .f_trail (by simp [yAt])) (by simp [fput])
  refine ⟨h10, ⟨y, h.n, h1.n, h2.n, h3.n, h4.n, h8.n, h9.n⟩, ?_, ⟨?_, ?_, ?_, ?_, ?_, ?_, ?_, ?_, ?_, ?_⟩, rfl, by omega, fun b hb hne => ?_, ?_⟩
  · show toR (ex P.cl (callD P d) Rl.Y.B_Yard_init [some (.ref y)] h) = _
    simp [Rl.Y.B_Yard_init, w1, w2, w3, w4, w5, w6, w7, w8, w9, w10, newL]
  · rw [y10]; simp [fput, yF, YS0]
  · dsimp only
    rw [k10 _ (by omega) (by omega), k9 _ (by omega) (by omega), k8 _ (by omega), k7 _ (by omega), k6 _ (by omega), k5 _ (by omega) (by omega), k4 _ (by omega) (by omega), k3 _ (by omega) (by omega), k2 _ (by omega) (by omega)]; exact o1
  · dsimp only
    rw [k10 _ (by omega) (by omega), k9 _ (by omega) (by omega), k8 _ (by omega), k7 _ (by omega), k6 _ (by omega), k5 _ (by omega) (by omega), k4 _ (by omega) (by omega), k3 _ (by omega) (by omega)]; exact o2
  · dsimp only
    rw [k10 _ (by omega) (by omega), k9 _ (by omega) (by omega), k8 _ (by omega), k7 _ (by omega), k6 _ (by omega), k5 _ (by omega) (by omega), k4 _ (by omega) (by omega)]; exact o3
  · dsimp only
    rw [k10 _ (by omega) (by omega), k9 _ (by omega) (by omega), k8 _ (by omega), k7 _ (by omega), k6 _ (by omega), k5 _ (by omega) (by omega)]; exact o4
  · dsimp only
    rw [k10 _ (by omega) (by omega), k9 _ (by omega) (by omega), k8 _ (by omega), k7 _ (by omega), k6 _ (by omega)]; exact o5
  · dsimp only
    rw [k10 _ (by omega) (by omega)]; exact o9
  · exact o10
  · simp only [YA.own, List.nodup_cons, List.mem_cons, List.not_mem_nil, or_false, not_or, not_false_eq_true, List.nodup_nil, and_true]
    omega
  · intro x hx
    simp only [YA.own, List.mem_cons, List.not_mem_nil, or_false] at hx
    omega
  · rw [k10 _ (by omega) hne, k9 _ (by omega) hne, k8 _ hne, k7 _ hne, k6 _ hne, k5 _ (by omega) hne, k4 _ (by omega) hne, k3 _ (by omega) hne, k2 _ (by omega) hne, k1 _ hb hne]
  · intro b hb
    simp only [YA.own, List.mem_cons, List.not_mem_nil, or_false] at hb
    omega
/-- Yard() -/
theorem y_make (H : Has P [.d_Yard_init] []) (hi : P.cl.init .c_Yard = some .d_Yard_init) {σ : Sl} :
    ∃ h' A, ev P.cl (callD P (d + 1)) (.make .c_Yard .nil) σ h = .ok (.ref A.y) h' ∧ YAt h' A YS0 ∧ h.n ≤ h'.n ∧ (∀ b, b < h.n → h'.g b = h.g b) ∧ ∀ b ∈ A.own, h.n ≤ b := by
  obtain ⟨h', A, e, Y, ey, le, fr, ow⟩ := y_init (d := d) (h := h.new (.obj .c_Yard [])) H (y := h.n) (if_pos rfl) (Nat.lt_succ_self _)
  refine ⟨h', A, ?_, Y, Nat.le_trans (Nat.le_succ _) le, fun b hb => ?_, fun b hb => ?_⟩
  · simp only [ev, hi, evs_nil', bind_ok]
    rw [e, ey]
    rfl
  · rw [fr b (Nat.lt_succ_of_lt hb) (by omega)]
    show (if b = h.n then _ else h.g b) = h.g b
    rw [if_neg (by omega)]
  · rcases ow b hb with z | z
    · omega
    · have z : h.n + 1 ≤ b := z
      omega
/-- a point laid on a rod -/
def YS.pointed (S : YS) (k : Tx) (b : AV) : YS := { S with np := S.np + 1, kind := dput S.kind (.int S.np) (.str k), rod := dput S.rod (.int S.np) b, trail := [] }
theorem y_lay_on (H : Has P layL layM) (Y : YAt h A S) (hk : Kd k 3) (note : AV) (b : Int) (hb : (dlook S.side (.int b)).isSome = true) (l1 : S.kind.length < LIM) (l2 : S.rod.length < LIM) :
    ∃ h' A', callD P (d + 3) .d_Yard_lay [.ref A.y, .str k, note, .int b] h = .ok (.int S.np) h' ∧ YAt h' A' (S.pointed k (.int b)) ∧ Fr h A h' A' := by
  rw [callD_eq (H.fn .d_Yard_lay (by simp)) rfl]
  have ha := H.at_
  have e1 := y_point (P := P) (d := d) (h := h) (H.sub (by simp) (by simp)) hk
  have eb : ∀ h : AH, op2 .eq (.str k) (.str [98, 101, 108, 108]) h = .ok (.bl false) h := fun h => by
    rw [y_eqBell hk]
    have : k ≠ kBell := by cases hk <;> decide
    simp [this]
  have e2 := y_look_rod (P := P) (d := d + 1) (H.fn .d_Yard_look_rod (by simp)) Y hb
  obtain ⟨h1, w1, Y1, F1⟩ := Y.w_np (at' := P.cl.at') ha (S.np + 1)
  obtain ⟨h2, w2, Y2, F2⟩ := Y1.w_kind (c := .int S.np) (v := .str k) rfl l1
  obtain ⟨h3, w3, Y3, F3⟩ := Y2.w_rod (c := .int S.np) (v := .int b) rfl l2
  obtain ⟨h4, A4, w4, Y4, F4, _⟩ := Y3.w_trail (at' := P.cl.at') ha
  refine ⟨h4, A4, ?_, Y4, ((F1.trans F2).trans F3).trans F4⟩
  show toR (ex P.cl (callD P (d + 2)) Rl.Y.B_Yard_lay [some (.ref A.y), some (.str k), some note, some (.int b), none, none] h) = _
  have m1 : ∀ c5, ev P.cl (callD P (d + 2)) (.meth (.slot 0) .f_look_rod (.cons (.slot 3) .nil) []) [some (.ref A.y), some (.str k), some note, some (.int b), some (.bl true), c5] h = .ok .non h := fun c5 => by
    rw [meth_eq (h1 := h) rfl Y.o (H.mt (.f_look_rod, .d_Yard_look_rod) (by simp)) suf_nil]
    simp [e2]
  have f1 := Y1.f_k
  have f2 := Y2.f_r
  simp [Rl.Y.B_Yard_lay, e1, bindT, eb, m1, Y.f_np, w1, f1, w2, f2, w3, newL, w4]
end
end Rl

set_option linter.all false
set_option autoImplicit false
set_option maxRecDepth 100000
set_option maxHeartbeats 4000000
/-! LawH: the laws' own helpers. -/
namespace Rl
/-- only new things -/
structure Ext (h h' : AH) : Prop where
  le : h.n ≤ h'.n
  same : ∀ b, b < h.n → h'.g b = h.g b
theorem Ext.refl (h : AH) : Ext h h := ⟨Nat.le_refl _, fun _ _ => rfl⟩
theorem Ext.trans {a b c : AH} (x : Ext a b) (y : Ext b c) : Ext a c := ⟨Nat.le_trans x.le y.le, fun k hk => (y.same k (Nat.lt_of_lt_of_le hk x.le)).trans (x.same k hk)⟩
theorem Ext.new (h : AH) (o : O) : Ext h (h.new o) := ⟨Nat.le_succ _, fun b hb => by
  show (if b = h.n then some o else h.g b) = h.g b
  rw [if_neg (by omega)]⟩
theorem new_at (h : AH) (o : O) : (h.new o).g h.n = some o := if_pos rfl
theorem YAt.ext {h h' : AH} {A : YA} {S : YS} (Y : YAt h A S) (e : Ext h h') : YAt h' A S := by
  have l := Y.lt
  simp only [YA.own, List.mem_cons, List.not_mem_nil, or_false, forall_eq_or_imp, forall_eq] at l
  obtain ⟨l1, l2, l3, l4, l5, l6, l7, l8⟩ := l
  exact ⟨by rw [e.same _ l1]; exact Y.o, by rw [e.same _ l2]; exact Y.k, by rw [e.same _ l3]; exact Y.n, by rw [e.same _ l4]; exact Y.r, by rw [e.same _ l5]; exact Y.s, by rw [e.same _ l6]; exact Y.m, by rw [e.same _ l7]; exact Y.g, by rw [e.same _ l8]; exact Y.t, Y.nd, fun x hx => Nat.lt_of_lt_of_le (Y.lt x hx) e.le⟩
theorem Ext.fr {h h' : AH} (e : Ext h h') (A : YA) : Fr h A h' A := ⟨e.le, fun b hb _ => e.same b hb, rfl, fun b hb => .inl hb⟩
theorem Fr.ext {h h' : AH} {A A' : YA} (F : Fr h A h' A') (e : h' = h) : True := trivial
/-- the drawn list's items -/
theorem atI_int {l : List Int} {i : Int} (h0 : 0 ≤ i) (h1 : i < l.length) : ∃ x, atI (l.map AV.int) i = some (.int x) ∧ x ∈ l := by
  have h2 : i.toNat < l.length := by omega
  refine ⟨l[i.toNat], ?_, List.getElem_mem h2⟩
  simp [atI, ixN, h0, h1]
theorem atI_get {xs : List AV} {i : Nat} (h1 : i < xs.length) : atI xs (i : Int) = some xs[i] := by
  simp [atI, ixN, h1]
section
variable {P : Prg} {d : Nat} {h : AH}
theorem l_whole (H : P.fn .d__law_whole = Y.std .d__law_whole) (a : Int) : callD P (d + 1) .d__law_whole [.int a] h = .ok (.bl true) h := by
  rw [callD_eq H rfl]; rfl
theorem l_is (H : Has P [.d__law_is, .d__law_whole] []) (a b : Int) : callD P (d + 2) .d__law_is [.int a, .int b] h = .ok (.bl (decide (a = b))) h := by
  rw [callD_eq (H.fn .d__law_is (by simp)) rfl]
  have e := l_whole (P := P) (d := d) (h := h) (H.fn .d__law_whole (by simp)) a
  show toR (ex P.cl (callD P (d + 1)) Y.B__law_is [some (.int a), some (.int b)] h) = _
  simp [Y.B__law_is, e]
theorem l_end0 (H : P.fn .d__law_is_end = Y.std .d__law_is_end) : callD P (d + 1) .d__law_is_end [.non, .non] h = .ok (.bl true) h := by
  rw [callD_eq H rfl]; rfl
theorem l_end (H : Has P [.d__law_is_end, .d__law_is, .d__law_whole] []) (a b : Int) : callD P (d + 3) .d__law_is_end [.tup [.int a, .int b], .tup [.int a, .int b]] h = .ok (.bl true) h := by
  rw [callD_eq (H.fn .d__law_is_end (by simp)) rfl]
  have e1 := l_is (P := P) (d := d) (h := h) (H.sub (by simp) (by simp)) a a
  have e2 := l_is (P := P) (d := d) (h := h) (H.sub (by simp) (by simp)) b b
  have i0 : ∀ a b : Int, op2 .item (.tup [.int a, .int b]) (.int 0) h = .ok (.int a) h := fun _ _ => rfl
  have i1 : ∀ a b : Int, op2 .item (.tup [.int a, .int b]) (.int 1) h = .ok (.int b) h := fun _ _ => rfl
  have t1 : tyOf h (.tup [.int a, .int b]) = some .tuple := rfl
  have l1 : primB .len [.tup [.int a, .int b]] h = .ok (.int 2) h := rfl
  show toR (ex P.cl (callD P (d + 2)) Y.B__law_is_end [some (.tup [.int a, .int b]), some (.tup [.int a, .int b])] h) = _
  simp [Y.B__law_is_end, t1, isTy, l1, i0, i1, e1, e2]
/-- all([.. for .. in ..]) where each is true, the heap growing -/
theorem comp_true {t : Tg} {g : Gd} {elt : Sl → AH → Res AV} (I : AH → Prop) (hg : ∀ h, I h → gdOk g h = true) : ∀ (xs : List AV) (acc : List AV) (σ : Sl) (h : AH), I h → acc.length + xs.length < LIM → (∀ x ∈ xs, ∃ σ1, bindT t x σ = some σ1 ∧ ∀ h, I h → ∃ h', elt σ1 h = .ok (.bl true) h' ∧ Ext h h' ∧ I h') →
    ∃ h', compLoop t g (fun _ h => .ok (.bl true) h) elt xs acc σ h = .ok (acc ++ xs.map fun _ => .bl true) h' ∧ Ext h h' ∧ I h'
  | [], acc, σ, h, hi, _, _ => ⟨h, by simp [compLoop, hg h hi], .refl h, hi⟩
  | x :: xs, acc, σ, h, hi, hl, hx => by
    obtain ⟨σ1, hb, hs⟩ := hx x List.mem_cons_self
    obtain ⟨h1, e1, x1, i1⟩ := hs h hi
    have hlen : acc.length < LIM := by simp at hl; omega
    obtain ⟨h2, e2, x2, i2⟩ := comp_true I hg xs (acc ++ [.bl true]) σ h1 i1 (by simp at hl ⊢; omega) fun y hy => hx y (List.mem_cons_of_mem _ hy)
    refine ⟨h2, ?_, x1.trans x2, i2⟩
    rw [compLoop, if_pos (hg h hi), hb]
    simp only [bind_ok, e1, if_pos hlen, e2]
    simp
theorem enumF_len : ∀ (k : Nat) (xs : List AV), (enumF k xs).length = xs.length
  | _, [] => rfl
  | k, _ :: xs => by simp [enumF, enumF_len (k + 1) xs]
theorem enumF_mem' : ∀ {k : Nat} {xs : List Int} {x : AV}, x ∈ enumF k (xs.map .int) → ∃ i, ∃ hi : i < xs.length, x = .tup [.int ((k + i : Nat) : Int), .int xs[i]]
  | _, [], _, h => by simp [enumF] at h
  | k, y :: ys, x, h => by
    simp only [List.map_cons, enumF, List.mem_cons] at h
    rcases h with rfl | h
    · exact ⟨0, by simp, by simp⟩
    · obtain ⟨i, hi, e⟩ := enumF_mem' h
      exact ⟨i + 1, by simp; omega, by rw [e]; simp; omega⟩
theorem enumF_mem {xs : List Int} {x : AV} (h : x ∈ enumF 0 (xs.map .int)) : ∃ i, ∃ hi : i < xs.length, x = .tup [.int ((i : Nat) : Int), .int xs[i]] := by
  obtain ⟨i, hi, e⟩ := enumF_mem' h
  exact ⟨i, hi, by rw [e]; simp⟩
theorem allBl_true : ∀ xs : List AV, allBl (xs.map fun _ => AV.bl true) = some (xs.map fun _ => true)
  | [] => rfl
  | _ :: xs => by simp [allBl, allBl_true xs]
theorem l_row (H : Has P [.d__law_is_row, .d__law_is, .d__law_whole] []) {a b : Nat} {xs : List Int} (ha : h.g a = some (.lst (xs.map .int))) (hb : h.g b = some (.lst (xs.map .int))) (la : a < h.n) (lb : b < h.n) (hl : xs.length < LIM) :
    ∃ h', callD P (d + 3) .d__law_is_row [.ref a, .ref b] h = .ok (.bl true) h' ∧ Ext h h' := by
  rw [callD_eq (H.fn .d__law_is_row (by simp)) rfl]
  obtain ⟨h1, e1, x1, _⟩ := comp_true (t := .tup [2, 3]) (g := [(a, .lst (xs.map .int))] ++ [(b, .lst (xs.map .int))]) (elt := fun σ h => ev P.cl (callD P (d + 2)) (.call .d__law_is (.cons (.slot 2) (.cons (.slot 3) .nil))) σ h) (fun h' => Ext h h')
    (fun h' hx => by simp [gdOk, hx.same a la, hx.same b lb, ha, hb]) (((xs.map AV.int).zip (xs.map AV.int)).map fun p => .tup [p.1, p.2]) [] [some (.ref a), some (.ref b), none, none] h (.refl h) (by simpa using hl) (fun x hx => by
      obtain ⟨p, hp, rfl⟩ := List.mem_map.mp hx
      rw [List.zip_map'] at hp
      obtain ⟨i, _, rfl⟩ := List.mem_map.mp hp
      refine ⟨[some (.ref a), some (.ref b), some (.int i), some (.int i)], by simp [bindT, bindTs], fun h2 hx2 => ⟨h2, ?_, .refl _, hx2⟩⟩
      have := l_is (P := P) (d := d) (h := h2) (H.sub (by simp) (by simp)) i i
      simp [this])
  refine ⟨h1.new (.lst ((((xs.map AV.int).zip (xs.map AV.int)).map fun p => AV.tup [p.1, p.2]).map fun _ => .bl true)), ?_, x1.trans (.new _ _)⟩
  have t1 : tyOf h (.ref a) = some .list := by simp [tyOf, ha]
  have c1 : ev P.cl (callD P (d + 2)) (.comp (.tup [2, 3]) .zip (.cons (.slot 0) (.cons (.slot 1) .nil)) (.bl true) (.call .d__law_is (.cons (.slot 2) (.cons (.slot 3) .nil)))) [some (.ref a), some (.ref b), none, none] h = .ok (.ref h1.n) (h1.new (.lst ((((xs.map AV.int).zip (xs.map AV.int)).map fun p => AV.tup [p.1, p.2]).map fun _ => .bl true))) := by
    rw [ev_comp']
    have ew : walk .zip [.ref a, .ref b] h = some (((xs.map AV.int).zip (xs.map AV.int)).map fun p => .tup [p.1, p.2], [(a, .lst (xs.map .int))] ++ [(b, .lst (xs.map .int))]) := by simp only [walk, wkZ, walkSeq, ha, hb]
    have es : evs P.cl (callD P (d + 2)) (.cons (.slot 0) (.cons (.slot 1) .nil)) [some (.ref a), some (.ref b), none, none] h = .ok [.ref a, .ref b] h := rfl
    rw [es, bind_ok, ew]
    exact congrArg (fun r : Res (List AV) => r.calm.bind fun l h2 => Res.ok (AV.ref h2.n) (h2.new (.lst l))) e1
  show toR (ex P.cl (callD P (d + 2)) Y.B__law_is_row [some (.ref a), some (.ref b), none, none] h) = _
  simp only [Y.B__law_is_row, ex_seq', ex_ite', ev_or', ev_not', ev_isTy', ev_slot', bind_ok, List.getElem?_cons_zero, List.getElem?_cons_succ, t1, isTy, decide_true, Bool.true_or, Bool.not_true, ev_op', ev_bi', evs_cons', evs_nil', len_lst ha, len_lst hb, op_ne_int, bindS_ok, ex_nil', sr_nx, ex_ret', c1]
  have : primB .all [.ref h1.n] (h1.new (.lst ((((xs.map AV.int).zip (xs.map AV.int)).map fun p => AV.tup [p.1, p.2]).map fun _ => .bl true))) = .ok (.bl true) (h1.new (.lst ((((xs.map AV.int).zip (xs.map AV.int)).map fun p => AV.tup [p.1, p.2]).map fun _ => .bl true))) := by
    simp only [primB, pAll, new_at, allBl_true]
    simp
  rw [this]
  rfl
end
end Rl

set_option linter.all false
set_option autoImplicit false
set_option maxRecDepth 100000
set_option maxHeartbeats 4000000
/-! Yard6: throw, link, put; what is asked. -/
namespace Rl
section
variable {P : Prg} {d : Nat} {h : AH} {A : YA} {S : YS} {k : Tx} {n : Int}
theorem y_throw (H : Has P [.d_Yard_throw, .d_Yard_look_rod, .d_good_side] [(.f_look_rod, .d_Yard_look_rod)]) (Y : YAt h A S) {b s : Int} (hb : (dlook S.side (.int b)).isSome = true) (hs : s = 1 ∨ s = 2) (hl : S.side.length < LIM) :
    ∃ h' A', callD P (d + 2) .d_Yard_throw [.ref A.y, .int b, .int s] h = .ok .non h' ∧ YAt h' A' { S with side := dput S.side (.int b) (.int s), trail := [] } ∧ Fr h A h' A' := by
  rw [callD_eq (H.fn .d_Yard_throw (by simp)) rfl]
  have ha := H.at_
  have e1 := y_look_rod (P := P) (d := d) (H.fn .d_Yard_look_rod (by simp)) Y hb
  have e2 := y_good (P := P) (d := d) (h := h) (H.fn .d_good_side (by simp)) hs
  obtain ⟨h1, w1, Y1, F1⟩ := Y.w_side (c := .int b) (v := .int s) rfl hl
  obtain ⟨h2, A2, w2, Y2, F2, _⟩ := Y1.w_trail (at' := P.cl.at') ha
  refine ⟨h2, A2, ?_, Y2, F1.trans F2⟩
  have m1 : ev P.cl (callD P (d + 1)) (.meth (.slot 0) .f_look_rod (.cons (.slot 1) .nil) []) [some (.ref A.y), some (.int b), some (.int s)] h = .ok .non h := by
    rw [meth_eq (h1 := h) rfl Y.o (H.mt (.f_look_rod, .d_Yard_look_rod) (by simp)) suf_nil]
    simp [e1]
  show toR (ex P.cl (callD P (d + 1)) Rl.Y.B_Yard_throw [some (.ref A.y), some (.int b), some (.int s)] h) = _
  simp [Rl.Y.B_Yard_throw, m1, e2, Y.f_s, w1, newL, w2]
theorem y_side (H : Has P [.d_Yard_side, .d_Yard_look_rod] [(.f_look_rod, .d_Yard_look_rod)]) (Y : YAt h A S) {b : Int} {v : AV} (hb : dlook S.side (.int b) = some v) : callD P (d + 2) .d_Yard_side [.ref A.y, .int b] h = .ok v h := by
  rw [callD_eq (H.fn .d_Yard_side (by simp)) rfl]
  have e1 := y_look_rod (P := P) (d := d) (H.fn .d_Yard_look_rod (by simp)) Y (p := b) (by simp [hb])
  have m1 : ev P.cl (callD P (d + 1)) (.meth (.slot 0) .f_look_rod (.cons (.slot 1) .nil) []) [some (.ref A.y), some (.int b)] h = .ok .non h := by
    rw [meth_eq (h1 := h) rfl Y.o (H.mt (.f_look_rod, .d_Yard_look_rod) (by simp)) suf_nil]
    simp [e1]
  have e3 := item_dct Y.s (k := .int b) rfl hb
  show toR (ex P.cl (callD P (d + 1)) Rl.Y.B_Yard_side [some (.ref A.y), some (.int b)] h) = _
  simp [Rl.Y.B_Yard_side, m1, Y.f_s, e3]
theorem y_rod (H : Has P [.d_Yard_rod, .d_Yard_look_piece] [(.f_look_piece, .d_Yard_look_piece)]) (Y : YAt h A S) {b : Int} {v : AV} (hk : (dlook S.kind (.int b)).isSome = true) (hb : dlook S.rod (.int b) = some v) : callD P (d + 2) .d_Yard_rod [.ref A.y, .int b] h = .ok v h := by
  rw [callD_eq (H.fn .d_Yard_rod (by simp)) rfl]
  have e1 := y_look_piece (P := P) (d := d) (H.fn .d_Yard_look_piece (by simp)) Y hk
  have m1 : ev P.cl (callD P (d + 1)) (.meth (.slot 0) .f_look_piece (.cons (.slot 1) .nil) []) [some (.ref A.y), some (.int b)] h = .ok .non h := by
    rw [meth_eq (h1 := h) rfl Y.o (H.mt (.f_look_piece, .d_Yard_look_piece) (by simp)) suf_nil]
    simp [e1]
  have e3 := item_dct Y.r (k := .int b) rfl hb
  have e4 := notin_dct Y.r (k := .int b) rfl
  show toR (ex P.cl (callD P (d + 1)) Rl.Y.B_Yard_rod [some (.ref A.y), some (.int b)] h) = _
  simp [Rl.Y.B_Yard_rod, m1, Y.f_r, e4, hb, e3]
/-- the rods, their numbers standing in order -/
theorem y_rods (H : Has P [.d_Yard_rods] []) (Y : YAt h A S) {ns : List Int} (hk : S.side.map (·.1) = ns.map .int) (hs : ns.Pairwise (· ≤ ·)) :
    ∃ h' a, callD P (d + 1) .d_Yard_rods [.ref A.y] h = .ok (.ref a) h' ∧ Ext h h' ∧ h'.g a = some (.lst (ns.map .int)) ∧ a < h'.n := by
  rw [callD_eq (H.fn .d_Yard_rods (by simp)) rfl]
  have hi : ∀ l : List Int, allInt (l.map .int) = some l := by
    intro l
    induction l with
    | nil => rfl
    | cons a l ih => simp [allInt, ih]
  have hsort : sortA (ns.map .int) = some (ns.map .int) := by
    simp only [sortA, hi]
    rw [List.mergeSort_of_pairwise]
    exact hs.imp (by simp)
  refine ⟨(h.new (.lst (ns.map .int))).new (.lst (ns.map .int)), h.n + 1, ?_, (Ext.new _ _).trans (.new _ _), new_at _ _, by show h.n + 1 < h.n + 1 + 1; omega⟩
  have e1 : primB .list [.ref A.s] h = .ok (.ref h.n) (h.new (.lst (ns.map .int))) := by
    simp only [primB, pList, Y.s, hk]
  have e2 : primB .sorted [.ref h.n] (h.new (.lst (ns.map .int))) = .ok (.ref (h.n + 1)) ((h.new (.lst (ns.map .int))).new (.lst (ns.map .int))) := by
    simp only [primB, pSorted, new_at, hsort]
    rfl
  show toR (ex P.cl (callD P d) Rl.Y.B_Yard_rods [some (.ref A.y)] h) = _
  simp [Rl.Y.B_Yard_rods, Y.f_s, e1, e2]
theorem y_kind (H : Has P [.d_Yard_kind, .d_Yard_look_piece] [(.f_look_piece, .d_Yard_look_piece)]) (Y : YAt h A S) {b : Int} {v : AV} (hb : dlook S.kind (.int b) = some v) : callD P (d + 2) .d_Yard_kind [.ref A.y, .int b] h = .ok v h := by
  rw [callD_eq (H.fn .d_Yard_kind (by simp)) rfl]
  have e1 := y_look_piece (P := P) (d := d) (H.fn .d_Yard_look_piece (by simp)) Y (p := b) (by simp [hb])
  have m1 : ev P.cl (callD P (d + 1)) (.meth (.slot 0) .f_look_piece (.cons (.slot 1) .nil) []) [some (.ref A.y), some (.int b)] h = .ok .non h := by
    rw [meth_eq (h1 := h) rfl Y.o (H.mt (.f_look_piece, .d_Yard_look_piece) (by simp)) suf_nil]
    simp [e1]
  have e3 := item_dct Y.k (k := .int b) rfl hb
  show toR (ex P.cl (callD P (d + 1)) Rl.Y.B_Yard_kind [some (.ref A.y), some (.int b)] h) = _
  simp [Rl.Y.B_Yard_kind, m1, Y.f_k, e3]
theorem y_engine (H : P.fn .d_Yard_engine = Y.std .d_Yard_engine) (Y : YAt h A S) : callD P (d + 1) .d_Yard_engine [.ref A.y] h = .ok S.at_ h := by
  rw [callD_eq H rfl]
  show toR (ex P.cl (callD P d) Rl.Y.B_Yard_engine [some (.ref A.y)] h) = _
  simp [Rl.Y.B_Yard_engine, Y.f_at]
theorem y_steps (H : P.fn .d_Yard_steps = Y.std .d_Yard_steps) (Y : YAt h A S) : callD P (d + 1) .d_Yard_steps [.ref A.y] h = .ok (.int S.trail.length) h := by
  rw [callD_eq H rfl]
  show toR (ex P.cl (callD P d) Rl.Y.B_Yard_steps [some (.ref A.y)] h) = _
  simp [Rl.Y.B_Yard_steps, Y.f_t, len_lst Y.t]
theorem y_bells (H : P.fn .d_Yard_bells = Y.std .d_Yard_bells) (Y : YAt h A S) : callD P (d + 1) .d_Yard_bells [.ref A.y] h = .ok (.ref h.n) (h.new (.lst S.rung)) := by
  rw [callD_eq H rfl]
  have e1 : primB .list [.ref A.g] h = .ok (.ref h.n) (h.new (.lst S.rung)) := by simp only [primB, pList, Y.g]
  show toR (ex P.cl (callD P d) Rl.Y.B_Yard_bells [some (.ref A.y)] h) = _
  simp [Rl.Y.B_Yard_bells, Y.f_g, e1]
abbrev endL : List Nm := [.d_Yard_look_end, .d_Yard_look_piece, .d_ends_of]
abbrev endM : List (Nm × Nm) := [(.f_look_piece, .d_Yard_look_piece)]
theorem y_put (H : Has P (.d_Yard_put :: endL) ((.f_look_end, .d_Yard_look_end) :: endM)) (Y : YAt h A S) {p e : Int} (hp : dlook S.kind (.int p) = some (.str k)) (hk : Kd k n) (h0 : 0 ≤ e) (h1 : e < n) :
    ∃ h' A', callD P (d + 3) .d_Yard_put [.ref A.y, .tup [.int p, .int e]] h = .ok .non h' ∧ YAt h' A' { S with at_ := .tup [.int p, .int e], trail := [] } ∧ Fr h A h' A' := by
  rw [callD_eq (H.fn .d_Yard_put (by simp)) rfl]
  have ha := H.at_
  have e1 := y_look_end (P := P) (d := d) (H.sub (by simp) (by simp)) Y hp hk h0 h1
  obtain ⟨h2, w2, Y2, F2⟩ := Y.w_at (at' := P.cl.at') ha (.tup [.int p, .int e])
  obtain ⟨h3, A3, w3, Y3, F3, _⟩ := Y2.w_trail (at' := P.cl.at') ha
  refine ⟨h3, A3, ?_, Y3, F2.trans F3⟩
  have m1 : ev P.cl (callD P (d + 2)) (.meth (.slot 0) .f_look_end (.cons (.slot 1) .nil) []) [some (.ref A.y), some (.tup [.int p, .int e])] h = .ok .non h := by
    rw [meth_eq (h1 := h) rfl Y.o (H.mt (.f_look_end, .d_Yard_look_end) (by simp)) suf_nil]
    simp [e1]
  show toR (ex P.cl (callD P (d + 2)) Rl.Y.B_Yard_put [some (.ref A.y), some (.tup [.int p, .int e])] h) = _
  simp [Rl.Y.B_Yard_put, m1, w2, newL, w3]
theorem eq_end {h : AH} (p e q f : Int) : op2 .eq (.tup [.int p, .int e]) (.tup [.int q, .int f]) h = .ok (.bl (decide (p = q) && decide (e = f))) h := by
  have : PySem.PyData.eqv (.tuple [.int p, .int e]) (.tuple [.int q, .int f]) = (decide (p = q) && decide (e = f)) := by
    simp only [PySem.PyData.eqv, PySem.PyData.eqvAll]
    by_cases c1 : p = q <;> by_cases c2 : e = f <;> simp [c1, c2]
  simp [op2, opEq, eqA, toD, this]
theorem y_link (H : Has P (.d_Yard_link :: endL) ((.f_look_end, .d_Yard_look_end) :: endM)) (Y : YAt h A S) {p e q f : Int} {k2 : Tx} {n2 : Int} (hp : dlook S.kind (.int p) = some (.str k)) (hk : Kd k n) (h0 : 0 ≤ e) (h1 : e < n)
    (hq : dlook S.kind (.int q) = some (.str k2)) (hk2 : Kd k2 n2) (h2 : 0 ≤ f) (h3 : f < n2) (hne : ¬ (p = q ∧ e = f)) (f1 : dlook S.mate (.tup [.int p, .int e]) = none) (f2 : dlook S.mate (.tup [.int q, .int f]) = none) (hl : S.mate.length + 1 < LIM) :
    ∃ h' A', callD P (d + 3) .d_Yard_link [.ref A.y, .tup [.int p, .int e], .tup [.int q, .int f]] h = .ok .non h' ∧
      YAt h' A' { S with mate := dput (dput S.mate (.tup [.int p, .int e]) (.tup [.int q, .int f])) (.tup [.int q, .int f]) (.tup [.int p, .int e]), trail := [] } ∧ Fr h A h' A' := by
  rw [callD_eq (H.fn .d_Yard_link (by simp)) rfl]
  have ha := H.at_
  have e1 := y_look_end (P := P) (d := d) (H.sub (by simp) (by simp)) Y hp hk h0 h1
  have e2 := y_look_end (P := P) (d := d) (H.sub (by simp) (by simp)) Y hq hk2 h2 h3
  obtain ⟨h4, w4, Y4, F4⟩ := Y.w_mate (c := .tup [.int p, .int e]) (v := .tup [.int q, .int f]) rfl (by omega)
  obtain ⟨h5, w5, Y5, F5⟩ := Y4.w_mate (c := .tup [.int q, .int f]) (v := .tup [.int p, .int e]) rfl (by have := dput_length S.mate (.tup [.int p, .int e]) (.tup [.int q, .int f]); dsimp only; omega)
  obtain ⟨h6, A6, w6, Y6, F6, _⟩ := Y5.w_trail (at' := P.cl.at') ha
  refine ⟨h6, A6, ?_, Y6, (F4.trans F5).trans F6⟩
  have m1 : ev P.cl (callD P (d + 2)) (.meth (.slot 0) .f_look_end (.cons (.slot 1) .nil) []) [some (.ref A.y), some (.tup [.int p, .int e]), some (.tup [.int q, .int f])] h = .ok .non h := by
    rw [meth_eq (h1 := h) rfl Y.o (H.mt (.f_look_end, .d_Yard_look_end) (by simp)) suf_nil]
    simp [e1]
  have m2 : ev P.cl (callD P (d + 2)) (.meth (.slot 0) .f_look_end (.cons (.slot 2) .nil) []) [some (.ref A.y), some (.tup [.int p, .int e]), some (.tup [.int q, .int f])] h = .ok .non h := by
    rw [meth_eq (h1 := h) rfl Y.o (H.mt (.f_look_end, .d_Yard_look_end) (by simp)) suf_nil]
    simp [e2]
  have q1 : op2 .eq (.tup [.int p, .int e]) (.tup [.int q, .int f]) h = .ok (.bl false) h := by
    rw [eq_end]
    congr 2
    simp
    intro z1 z2
    exact hne ⟨z1, z2⟩
  have i1 := in_dct Y.m (k := .tup [.int p, .int e]) rfl
  have i2 := in_dct Y.m (k := .tup [.int q, .int f]) rfl
  rw [f1] at i1
  rw [f2] at i2
  have f3 := Y4.f_m
  show toR (ex P.cl (callD P (d + 2)) Rl.Y.B_Yard_link [some (.ref A.y), some (.tup [.int p, .int e]), some (.tup [.int q, .int f])] h) = _
  simp [Rl.Y.B_Yard_link, m1, m2, q1, Y.f_m, i1, i2, w4, f3, w5, newL, w6]
theorem y_mate (H : Has P (.d_Yard_mate :: endL) ((.f_look_end, .d_Yard_look_end) :: endM)) (Y : YAt h A S) {p e : Int} (hp : dlook S.kind (.int p) = some (.str k)) (hk : Kd k n) (h0 : 0 ≤ e) (h1 : e < n) :
    callD P (d + 3) .d_Yard_mate [.ref A.y, .tup [.int p, .int e]] h = .ok ((dlook S.mate (.tup [.int p, .int e])).getD .non) h := by
  rw [callD_eq (H.fn .d_Yard_mate (by simp)) rfl]
  have e1 := y_look_end (P := P) (d := d) (H.sub (by simp) (by simp)) Y hp hk h0 h1
  have m1 : ev P.cl (callD P (d + 2)) (.meth (.slot 0) .f_look_end (.cons (.slot 1) .nil) []) [some (.ref A.y), some (.tup [.int p, .int e])] h = .ok .non h := by
    rw [meth_eq (h1 := h) rfl Y.o (H.mt (.f_look_end, .d_Yard_look_end) (by simp)) suf_nil]
    simp [e1]
  have t1 : tyOf h (.ref A.m) = some .dict := by simp [tyOf, Y.m]
  have g1 := get_dct Y.m (k := .tup [.int p, .int e]) rfl
  show toR (ex P.cl (callD P (d + 2)) Rl.Y.B_Yard_mate [some (.ref A.y), some (.tup [.int p, .int e])] h) = _
  simp [Rl.Y.B_Yard_mate, m1, Y.f_m, t1, mthTy, g1]
end
end Rl

set_option linter.all false
set_option autoImplicit false
set_option maxRecDepth 100000
set_option maxHeartbeats 4000000
/-! Yard7: passages, the engine. -/
namespace Rl
section
variable {P : Prg} {d : Nat} {h : AH} {A : YA} {S : YS} {k : Tx} {n : Int}
/-- where a passage leads: the end (none: nowhere), the side behind it -/
def pas (k : Tx) (e s : Int) : AV × Int :=
  if k = kStop then (.non, s) else if k = kLine ∨ k = kBell then (.int (1 - e), s) else if e = 0 then (.int s, if k = kTurn then 3 - s else s) else (.int 0, if k = kLazy then e else s)
abbrev pasL : List Nm := [.d_passage, .d_ends_of, .d_good_side, .d_by_stem, .d_by_arm]
theorem y_stem (H : P.fn .d_by_stem = Y.std .d_by_stem) (hk : Kd k 3) (s : Int) : callD P (d + 1) .d_by_stem [.str k, .int s] h = .ok (.tup [.int s, .int (if k = kTurn then 3 - s else s)]) h := by
  rw [callD_eq H rfl]
  cases hk <;> rfl
theorem y_arm (H : P.fn .d_by_arm = Y.std .d_by_arm) (hk : Kd k 3) (e s : Int) : callD P (d + 1) .d_by_arm [.str k, .int e, .int s] h = .ok (.tup [.int 0, .int (if k = kLazy then e else s)]) h := by
  rw [callD_eq H rfl]
  cases hk <;> rfl
theorem y_passage (H : Has P pasL []) (hk : Kd k n) {e s : Int} (h0 : 0 ≤ e) (h1 : e < n) (hs : n = 3 → s = 1 ∨ s = 2) : callD P (d + 2) .d_passage [.str k, .int e, .int s] h = .ok (.tup [(pas k e s).1, .int (pas k e s).2]) h := by
  rw [callD_eq (H.fn .d_passage (by simp)) rfl]
  have e1 := y_ends (P := P) (d := d) (h := h) (H.fn .d_ends_of (by simp)) hk
  show toR (ex P.cl (callD P (d + 1)) Y.B_passage [some (.str k), some (.int e), some (.int s), none] h) = _
  have l0 : ¬ e < 0 := by omega
  have l1 : ¬ n ≤ e := by omega
  by_cases c : n = 3
  · subst c
    have e2 := y_good (P := P) (d := d) (h := h) (H.fn .d_good_side (by simp)) (hs rfl)
    have e3 := y_stem (P := P) (d := d) (h := h) (H.fn .d_by_stem (by simp)) hk s
    have e4 := y_arm (P := P) (d := d) (h := h) (H.fn .d_by_arm (by simp)) hk e s
    have np : k ≠ kStop ∧ k ≠ kLine ∧ k ≠ kBell := by cases hk <;> exact ⟨by decide, by decide, by decide⟩
    by_cases c0 : e = 0
    · subst c0
      simp [Y.B_passage, e1, bindT, e2, e3, pas, np]
    · simp [Y.B_passage, e1, bindT, l0, l1, e2, e4, c0, pas, np]
  · cases hk <;> first | exact (c rfl).elim | (simp [Y.B_passage, e1, bindT, l0, l1, pas, LIM, show kLine ≠ kStop by decide, show kBell ≠ kStop by decide])
/-- the side on which a piece lies -/
def YS.sideAt (S : YS) (p : Int) (s : Int) : Prop := match dlook S.rod (.int p) with
  | some r => ∃ b : Int, r = .int b ∧ dlook S.side (.int b) = some (.int s)
  | none => s = 0
theorem y_side_at (H : P.fn .d_side_at = Y.std .d_side_at) (Y : YAt h A S) {p s : Int} (hs : S.sideAt p s) : callD P (d + 1) .d_side_at [.ref A.y, .int p] h = .ok (.int s) h := by
  rw [callD_eq H rfl]
  show toR (ex P.cl (callD P d) Rl.Y.B_side_at [some (.ref A.y), some (.int p)] h) = _
  unfold YS.sideAt at hs
  have e1 := in_dct Y.r (k := .int p) rfl
  split at hs
  · rename_i r hr
    obtain ⟨b, rfl, hb⟩ := hs
    have e2 := item_dct Y.r (k := .int p) rfl hr
    have e3 := item_dct Y.s (k := .int b) rfl hb
    rw [hr] at e1
    simp [Rl.Y.B_side_at, Y.f_r, e1, Y.f_s, e2, e3]
  · rename_i hr
    subst hs
    rw [hr] at e1
    simp [Rl.Y.B_side_at, Y.f_r, e1]
abbrev wayL : List Nm := [.d_way_out, .d_side_at, .d_passage, .d_ends_of, .d_good_side, .d_by_stem, .d_by_arm]
theorem y_way (H : Has P wayL []) (Y : YAt h A S) {p e s : Int} (ha : S.at_ = .tup [.int p, .int e]) (hp : dlook S.kind (.int p) = some (.str k)) (hk : Kd k n) (h0 : 0 ≤ e) (h1 : e < n) (hs : S.sideAt p s) (h3 : n = 3 → s = 1 ∨ s = 2) :
    callD P (d + 3) .d_way_out [.ref A.y] h = .ok (.tup [(pas k e s).1, .int (pas k e s).2]) h := by
  rw [callD_eq (H.fn .d_way_out (by simp)) rfl]
  have e1 := y_side_at (P := P) (d := d + 1) (H.fn .d_side_at (by simp)) Y hs
  have e2 := y_passage (P := P) (d := d) (h := h) (H.sub (by simp) (by simp)) hk h0 h1 h3
  have e3 := item_dct Y.k (k := .int p) rfl hp
  have fa := Y.f_at
  rw [ha] at fa
  show toR (ex P.cl (callD P (d + 2)) Rl.Y.B_way_out [some (.ref A.y), none, none] h) = _
  simp [Rl.Y.B_way_out, fa, bindT, bindTs, Y.f_k, e3, e1, e2]
/-- held: at a stop; loose; free to go -/
abbrev heldL : List Nm := .d_held :: wayL
theorem y_held_off (H : P.fn .d_held = Y.std .d_held) (Y : YAt h A S) (ha : S.at_ = .non) : callD P (d + 1) .d_held [.ref A.y] h = .ok (.str [110, 111, 110, 101]) h := by
  rw [callD_eq H rfl]
  have fa := Y.f_at
  rw [ha] at fa
  show toR (ex P.cl (callD P d) Rl.Y.B_held [some (.ref A.y), none] h) = _
  simp [Rl.Y.B_held, fa]
/-- what held tells: the way out is o -/
def heldV (mate : List (AV × AV)) (p : Int) (o : AV) : AV := match o with
  | .int i => if (dlook mate (.tup [.int p, .int i])).isSome then .non else .str [108, 111, 111, 115, 101]
  | _ => .str [115, 116, 111, 112]
theorem pas_fst (k : Tx) (e s : Int) : (pas k e s).1 = .non ∨ ∃ i : Int, (pas k e s).1 = .int i := by
  unfold pas
  split
  · exact .inl rfl
  · split
    · exact .inr ⟨_, rfl⟩
    · split <;> exact .inr ⟨_, rfl⟩
theorem y_held (H : Has P heldL []) (Y : YAt h A S) {p e s : Int} (ha : S.at_ = .tup [.int p, .int e]) (hp : dlook S.kind (.int p) = some (.str k)) (hk : Kd k n) (h0 : 0 ≤ e) (h1 : e < n) (hs : S.sideAt p s) (h3 : n = 3 → s = 1 ∨ s = 2) :
    callD P (d + 4) .d_held [.ref A.y] h = .ok (heldV S.mate p (pas k e s).1) h := by
  rw [callD_eq (H.fn .d_held (by simp)) rfl]
  have e1 := y_way (P := P) (d := d) (H.sub (by simp) (by simp)) Y ha hp hk h0 h1 hs h3
  have fa := Y.f_at
  rw [ha] at fa
  have i0 : ∀ (a b : AV) (h : AH), op2 .item (.tup [a, b]) (.int 0) h = .ok a h := fun _ _ _ => rfl
  show toR (ex P.cl (callD P (d + 3)) Rl.Y.B_held [some (.ref A.y), none] h) = _
  rcases pas_fst k e s with z | ⟨i, z⟩
  · rw [z] at e1 ⊢
    simp [Rl.Y.B_held, fa, e1, i0, bindT, heldV]
  · rw [z] at e1 ⊢
    have e2 := notin_dct Y.m (k := .tup [.int p, .int i]) rfl
    cases hm : (dlook S.mate (.tup [.int p, .int i])).isSome with
    | true =>
      rw [hm] at e2
      simp [Rl.Y.B_held, fa, e1, i0, bindT, heldV, Y.f_m, e2, hm, LIM]
    | false =>
      rw [hm] at e2
      simp [Rl.Y.B_held, fa, e1, i0, bindT, heldV, Y.f_m, e2, hm, LIM]
end
end Rl

set_option linter.all false
set_option autoImplicit false
set_option maxRecDepth 100000
set_option maxHeartbeats 4000000
/-! Yard8: one step. -/
namespace Rl
section
variable {P : Prg} {d : Nat} {h : AH} {A : YA} {S : YS} {k : Tx} {n : Int}
theorem YAt.w_app (Y : YAt h A S) (v : AV) (hl : S.trail.length < LIM) : ∃ h1, primM .append .list (.ref A.t) [v] h = .ok .non h1 ∧ YAt h1 A { S with trail := S.trail ++ [v] } ∧ Fr h A h1 A :=
  ⟨_, by simp only [primM, Y.t, mAppend]; rw [if_pos hl], Y.put_t _, Y.wrote (by simp [YA.own])⟩
theorem YAt.w_ring (Y : YAt h A S) (v : AV) (hl : S.rung.length < LIM) : ∃ h1, primM .append .list (.ref A.g) [v] h = .ok .non h1 ∧ YAt h1 A { S with rung := S.rung ++ [v] } ∧ Fr h A h1 A :=
  ⟨_, by simp only [primM, Y.g, mAppend]; rw [if_pos hl], Y.put_g _, Y.wrote (by simp [YA.own])⟩
/-- the sides, the bells behind a step -/
def YS.sideTo (S : YS) (p s' : Int) : List (AV × AV) := match dlook S.rod (.int p) with
  | some b => dput S.side b (.int s')
  | none => S.side
def YS.rungTo (S : YS) (p : Int) : List AV := match dlook S.note (.int p) with
  | some t => S.rung ++ [t]
  | none => S.rung
/-- a yard one step on -/
def YS.stepped (S : YS) (p e s s' : Int) (m : AV) : YS := { S with at_ := m, trail := S.trail ++ [.tup [.tup [.int p, .int e], .int s]], side := S.sideTo p s', rung := S.rungTo p }
abbrev stepL : List Nm := .d_step :: heldL
theorem y_step_not (H : Has P stepL []) (Y : YAt h A S) {p e s : Int} (ha : S.at_ = .tup [.int p, .int e]) (hp : dlook S.kind (.int p) = some (.str k)) (hk : Kd k n) (h0 : 0 ≤ e) (h1 : e < n) (hs : S.sideAt p s) (h3 : n = 3 → s = 1 ∨ s = 2) (hh : heldV S.mate p (pas k e s).1 ≠ .non) :
    callD P (d + 5) .d_step [.ref A.y] h = .ok (.bl false) h := by
  rw [callD_eq (H.fn .d_step (by simp)) rfl]
  have e1 := y_held (P := P) (d := d) (H.sub (by simp) (by simp)) Y ha hp hk h0 h1 hs h3
  show toR (ex P.cl (callD P (d + 4)) Rl.Y.B_step [some (.ref A.y), none, none, none, none] h) = _
  simp [Rl.Y.B_step, e1, hh]
theorem y_step (H : Has P stepL []) (Y : YAt h A S) {p e s i : Int} {m : AV} (ha : S.at_ = .tup [.int p, .int e]) (hp : dlook S.kind (.int p) = some (.str k)) (hk : Kd k n) (h0 : 0 ≤ e) (h1 : e < n) (hs : S.sideAt p s) (h3 : n = 3 → s = 1 ∨ s = 2)
    (hi : (pas k e s).1 = .int i) (hm : dlook S.mate (.tup [.int p, .int i]) = some m) (l1 : S.trail.length < LIM) (l2 : S.side.length < LIM) (l3 : S.rung.length < LIM) :
    ∃ h', callD P (d + 5) .d_step [.ref A.y] h = .ok (.bl true) h' ∧ YAt h' A (S.stepped p e s (pas k e s).2 m) ∧ Fr h A h' A := by
  rw [callD_eq (H.fn .d_step (by simp)) rfl]
  have hat := H.at_
  have e1 := y_held (P := P) (d := d) (H.sub (by simp) (by simp)) Y ha hp hk h0 h1 hs h3
  have e2 := y_way (P := P) (d := d + 1) (H.sub (by simp) (by simp)) Y ha hp hk h0 h1 hs h3
  have e3 := y_side_at (P := P) (d := d + 3) (H.fn .d_side_at (by simp)) Y hs
  rw [hi] at e1 e2
  have hv : heldV S.mate p (.int i) = .non := by simp [heldV, hm]
  rw [hv] at e1
  obtain ⟨h4, w4, Y4, F4⟩ := Y.w_app (.tup [.tup [.int p, .int e], .int s]) l1
  -- the side
  obtain ⟨sd', hsd⟩ : ∃ sd', sd' = S.sideTo p (pas k e s).2 := ⟨_, rfl⟩
  have q5 : ∃ h5, ex P.cl (callD P (d + 4)) (.ite (.op .isin (.slot 2) (.fld (.slot 0) .f_rod_of)) (.seq (.iset (.fld (.slot 0) .f_side_of) (.op .item (.fld (.slot 0) .f_rod_of) (.slot 2)) (.slot 4)) .nil) .nil) [some (.ref A.y), some (.tup [.int p, .int e]), some (.int p), some (.int i), some (.int (pas k e s).2)] h4 =
      .nx [some (.ref A.y), some (.tup [.int p, .int e]), some (.int p), some (.int i), some (.int (pas k e s).2)] h5 ∧ YAt h5 A { S with trail := S.trail ++ [.tup [.tup [.int p, .int e], .int s]], side := sd' } ∧ Fr h4 A h5 A := by
    have i1 := in_dct Y4.r (k := .int p) rfl
    have hsd2 := hsd
    unfold YS.sideAt at hs
    unfold YS.sideTo at hsd2
    cases hr : dlook S.rod (.int p) with
    | none =>
      rw [hr] at hsd2 i1
      refine ⟨h4, ?_, by rw [hsd2]; exact Y4, .refl _ _⟩
      have f := Y4.f_r
      simp [f, i1]
    | some b =>
      rw [hr] at hs hsd2 i1
      obtain ⟨b', rfl, hb⟩ := hs
      have i2 := item_dct Y4.r (k := .int p) rfl hr
      obtain ⟨h5, w5, Y5, F5⟩ := Y4.w_side (c := .int b') (v := .int (pas k e s).2) rfl l2
      refine ⟨h5, ?_, by rw [hsd2]; exact Y5, F5⟩
      have f := Y4.f_r
      have f2 := Y4.f_s
      simp [f, i1, f2, i2, w5]
  obtain ⟨h5, w5, Y5, F5⟩ := q5
  obtain ⟨rg', hrg⟩ : ∃ rg', rg' = S.rungTo p := ⟨_, rfl⟩
  have q6 : ∃ h6, ex P.cl (callD P (d + 4)) (.ite (.op .isin (.slot 2) (.fld (.slot 0) .f_note_of)) (.seq (.exp (.mth .append (.fld (.slot 0) .f_rung) (.cons (.op .item (.fld (.slot 0) .f_note_of) (.slot 2)) .nil))) .nil) .nil) [some (.ref A.y), some (.tup [.int p, .int e]), some (.int p), some (.int i), some (.int (pas k e s).2)] h5 =
      .nx [some (.ref A.y), some (.tup [.int p, .int e]), some (.int p), some (.int i), some (.int (pas k e s).2)] h6 ∧ YAt h6 A { S with trail := S.trail ++ [.tup [.tup [.int p, .int e], .int s]], side := sd', rung := rg' } ∧ Fr h5 A h6 A := by
    have i1 := in_dct Y5.n (k := .int p) rfl
    have hrg2 := hrg
    unfold YS.rungTo at hrg2
    cases hr : dlook S.note (.int p) with
    | none =>
      rw [hr] at hrg2 i1
      refine ⟨h5, ?_, by rw [hrg2]; exact Y5, .refl _ _⟩
      have f := Y5.f_n
      simp [f, i1]
    | some t =>
      rw [hr] at hrg2 i1
      have i2 := item_dct Y5.n (k := .int p) rfl hr
      obtain ⟨h6, w6, Y6, F6⟩ := Y5.w_ring t l3
      refine ⟨h6, ?_, by rw [hrg2]; exact Y6, F6⟩
      have f := Y5.f_n
      have f2 := Y5.f_g
      have ht : tyOf h5 (.ref A.g) = some .list := by simp [tyOf, Y5.g]
      simp [f, i1, f2, ht, mthTy, i2, w6]
  obtain ⟨h6, w6, Y6, F6⟩ := q6
  obtain ⟨h7, w7, Y7, F7⟩ := Y6.w_at (at' := P.cl.at') hat m
  refine ⟨h7, ?_, by unfold YS.stepped; rw [← hsd, ← hrg]; exact Y7, ((F4.trans F5).trans F6).trans F7⟩
  have fa := Y.f_at
  rw [ha] at fa
  have ft := Y.f_t
  have tt : tyOf h (.ref A.t) = some .list := by simp [tyOf, Y.t]
  have i0 : ∀ (a b : AV) (h : AH), op2 .item (.tup [a, b]) (.int 0) h = .ok a h := fun _ _ _ => rfl
  have fm := Y6.f_m
  have im := item_dct Y6.m (k := .tup [.int p, .int i]) rfl hm
  show toR (ex P.cl (callD P (d + 4)) Rl.Y.B_step [some (.ref A.y), none, none, none, none] h) = _
  unfold Rl.Y.B_step
  rw [ex_seq']
  have p1 : ex P.cl (callD P (d + 4)) (.ite (.notN (.call .d_held (.cons (.slot 0) .nil))) (.seq (.ret (.bl false)) .nil) .nil) [some (.ref A.y), none, none, none, none] h = .nx [some (.ref A.y), none, none, none, none] h := by
    simp [e1]
  rw [p1, sr_nx]
  have p2 : ∀ c3 c4 : Option AV, ex P.cl (callD P (d + 4)) (.exp (.mth .append (.fld (.slot 0) .f_trail) (.cons (.tup (.cons (.slot 1) (.cons (.call .d_side_at (.cons (.slot 0) (.cons (.slot 2) .nil))) .nil))) .nil))) [some (.ref A.y), some (.tup [.int p, .int e]), some (.int p), c3, c4] h = .nx [some (.ref A.y), some (.tup [.int p, .int e]), some (.int p), c3, c4] h4 := fun c3 c4 => by
    simp [ft, tt, mthTy, e3, w4, LIM]
  simp only [ex_seq', ex_asg', ev_fld', ev_slot', bind_ok, List.getElem?_cons_zero, fa, bindS_ok, bindT, List.length_cons, List.length_nil, Nat.reduceAdd, Nat.reduceLT, if_true, List.set_cons_succ, List.set_cons_zero, sr_nx, ev_op', ev_int', List.getElem?_cons_succ, i0, ev_call', evs_cons', evs_nil', e2, bindTs]
  rw [p2, sr_nx, w5, sr_nx, w6, sr_nx]
  simp [fm, im, w7, LIM]
end
end Rl
namespace Rl
/-- run: m steps, then no more -/
theorem run_loop {P : Prg} {d : Nat} (I : Nat → YS → Prop) (m : Nat) (most : Int) (hs : ∀ i, i < m → ∀ h A S, YAt h A S → I i S → ∃ h' S', callD P d .d_step [.ref A.y] h = .ok (.bl true) h' ∧ YAt h' A S' ∧ I (i + 1) S' ∧ Fr h A h' A)
    (he : most ≤ (m : Int) ∨ ∀ h A S, YAt h A S → I m S → callD P d .d_step [.ref A.y] h = .ok (.bl false) h) (hm : (m : Int) ≤ most ∨ m = 0) :
    ∀ (k i fuel : Nat) (h : AH) (A : YA) (S : YS), k = m - i → i ≤ m → k < fuel → YAt h A S → I i S →
    ∃ h' S', whileL (fun σ h => ev P.cl (callD P d) (.and (.op .lt (.slot 2) (.slot 1)) (.call .d_step (.cons (.slot 0) .nil))) σ h) (fun σ h => ex P.cl (callD P d) (.seq (.asg (.one 2) (.op .add (.slot 2) (.int (1)))) .nil) σ h) fuel [some (.ref A.y), some (.int most), some (.int (i : Nat))] h =
      .nx [some (.ref A.y), some (.int most), some (.int (m : Nat))] h' ∧ YAt h' A S' ∧ I m S' ∧ Fr h A h' A
  | k, i, 0, _, _, _, _, _, hf, _, _ => by omega
  | 0, i, fuel + 1, h, A, S, hk, hi, _, Y, hI => by
    have : i = m := by omega
    subst this
    refine ⟨h, S, ?_, Y, hI, .refl _ _⟩
    rw [whileL_step]
    rcases he with z | z
    · have : ¬ ((i : Int) < most) := by omega
      simp [this]
    · by_cases c : (i : Int) < most
      · have := z h A S Y hI
        simp [c, this]
      · simp [c]
  | k + 1, i, fuel + 1, h, A, S, hk, hi, hf, Y, hI => by
    obtain ⟨h1, S1, e1, Y1, I1, F1⟩ := hs i (by omega) h A S Y hI
    obtain ⟨h2, S2, e2, Y2, I2, F2⟩ := run_loop I m most hs he hm k (i + 1) fuel h1 A S1 (by omega) (by omega) (by omega) Y1 I1
    refine ⟨h2, S2, ?_, Y2, I2, F1.trans F2⟩
    rw [whileL_step]
    have c : (i : Int) < most := by omega
    have c1 : ev P.cl (callD P d) (.and (.op .lt (.slot 2) (.slot 1)) (.call .d_step (.cons (.slot 0) .nil))) [some (.ref A.y), some (.int most), some (.int (i : Nat))] h = .ok (.bl true) h1 := by simp [c, e1]
    have c2 : ex P.cl (callD P d) (.seq (.asg (.one 2) (.op .add (.slot 2) (.int (1)))) .nil) [some (.ref A.y), some (.int most), some (.int (i : Nat))] h1 = .nx [some (.ref A.y), some (.int most), some (.int ((i + 1 : Nat) : Int))] h1 := by simp [bindT]
    rw [c1, bindS_ok]
    show (ex P.cl (callD P d) (.seq (.asg (.one 2) (.op .add (.slot 2) (.int (1)))) .nil) [some (.ref A.y), some (.int most), some (.int (i : Nat))] h1).bind _ = _
    rw [c2, sr_nx]
    exact e2
theorem y_run {P : Prg} {d : Nat} (H : P.fn .d_run = Y.std .d_run) (I : Nat → YS → Prop) (m : Nat) (most : Int) (hs : ∀ i, i < m → ∀ h A S, YAt h A S → I i S → ∃ h' S', callD P d .d_step [.ref A.y] h = .ok (.bl true) h' ∧ YAt h' A S' ∧ I (i + 1) S' ∧ Fr h A h' A)
    (he : most ≤ (m : Int) ∨ ∀ h A S, YAt h A S → I m S → callD P d .d_step [.ref A.y] h = .ok (.bl false) h) (hm : (m : Int) ≤ most ∨ m = 0) (hw : m < 100000) {h : AH} {A : YA} {S : YS} (Y : YAt h A S) (hI : I 0 S) :
    ∃ h' S', callD P (d + 1) .d_run [.ref A.y, .int most] h = .ok (.int (m : Nat)) h' ∧ YAt h' A S' ∧ I m S' ∧ Fr h A h' A := by
  rw [callD_eq H rfl]
  obtain ⟨h', S', e, Y', I', F⟩ := run_loop I m most hs he hm m 0 WL h A S rfl (Nat.zero_le _) (by unfold WL; omega) Y hI
  refine ⟨h', S', ?_, Y', I', F⟩
  show toR (ex P.cl (callD P d) Rl.Y.B_run [some (.ref A.y), some (.int most), none] h) = _
  have e2 : ex P.cl (callD P d) (.while (.and (.op .lt (.slot 2) (.slot 1)) (.call .d_step (.cons (.slot 0) .nil))) (.seq (.asg (.one 2) (.op .add (.slot 2) (.int (1)))) .nil)) [some (.ref A.y), some (.int most), some (.int 0)] h = .nx [some (.ref A.y), some (.int most), some (.int (m : Nat))] h' := by
    rw [ex_while']
    exact e
  simp [Rl.Y.B_run, bindT, e2]
end Rl

set_option linter.all false
set_option autoImplicit false
set_option maxRecDepth 100000
set_option maxHeartbeats 4000000
/-! Yard9: a point laid with a rod of its own. -/
namespace Rl
section
variable {P : Prg} {d : Nat} {h : AH} {A : YA} {S : YS} {k : Tx} {n : Int}
def YS.ownRod (S : YS) (k : Tx) : YS := { S with np := S.np + 1, kind := dput S.kind (.int S.np) (.str k), nr := S.nr + 1, side := dput S.side (.int S.nr) (.int 1), rod := dput S.rod (.int S.np) (.int S.nr), trail := [] }
theorem y_lay_new (H : Has P layL layM) (hdfl : P.cl.dfl .d_Yard_new_rod = [.int 1]) (Y : YAt h A S) (hk : Kd k 3) (note : AV) (l1 : S.kind.length < LIM) (l2 : S.rod.length < LIM) (l3 : S.side.length < LIM) :
    ∃ h' A', callD P (d + 3) .d_Yard_lay [.ref A.y, .str k, note, .non] h = .ok (.int S.np) h' ∧ YAt h' A' (S.ownRod k) ∧ Fr h A h' A' := by
  rw [callD_eq (H.fn .d_Yard_lay (by simp)) rfl]
  have ha := H.at_
  have e1 := y_point (P := P) (d := d) (h := h) (H.sub (by simp) (by simp)) hk
  have eb : ∀ h : AH, op2 .eq (.str k) (.str [98, 101, 108, 108]) h = .ok (.bl false) h := fun h => by
    rw [y_eqBell hk]
    have : k ≠ kBell := by cases hk <;> decide
    simp [this]
  obtain ⟨h1, w1, Y1, F1⟩ := Y.w_np (at' := P.cl.at') ha (S.np + 1)
  obtain ⟨h2, w2, Y2, F2⟩ := Y1.w_kind (c := .int S.np) (v := .str k) rfl l1
  obtain ⟨h3, A3, e3, Y3, F3⟩ := y_new_rod (P := P) (d := d) (H.sub (by simp) (by simp)) Y2 (s := 1) (.inl rfl) l3
  obtain ⟨h4, w4, Y4, F4⟩ := Y3.w_rod (c := .int S.np) (v := .int S.nr) rfl l2
  obtain ⟨h5, A5, w5, Y5, F5, _⟩ := Y4.w_trail (at' := P.cl.at') ha
  refine ⟨h5, A5, ?_, Y5, (((F1.trans F2).trans F3).trans F4).trans F5⟩
  have m1 : ev P.cl (callD P (d + 2)) (.meth (.slot 0) .f_new_rod .nil [.int 1]) [some (.ref A.y), some (.str k), some note, some .non, some (.bl true), some (.int S.np)] h2 = .ok (.int S.nr) h3 := by
    rw [meth_eq (h1 := h2) rfl Y2.o (H.mt (.f_new_rod, .d_Yard_new_rod) (by simp)) (by rw [hdfl]; rfl)]
    simp [e3]
  show toR (ex P.cl (callD P (d + 2)) Rl.Y.B_Yard_lay [some (.ref A.y), some (.str k), some note, some .non, none, none] h) = _
  have f1 := Y1.f_k
  have f3 := Y3.f_r
  rw [F3.y] at f3
  rw [F3.y] at w5
  simp [Rl.Y.B_Yard_lay, e1, bindT, eb, Y.f_np, w1, f1, w2, m1, f3, w4, newL, w5]
end
end Rl

set_option linter.all false
set_option autoImplicit false
set_option maxRecDepth 100000
set_option maxHeartbeats 4000000
/-! World: one yard beside the drawn list; calls of its methods. -/
namespace Rl
/-- a yard, the drawn list at 2 -/
structure Wy (h : AH) (A : YA) (S : YS) (l : List Int) : Prop where
  yA : YAt h A S
  dl : h.g 2 = some (.lst (l.map .int))
  d2 : 2 ∉ A.own
  lt : 2 < h.n
section
variable {h h' : AH} {A A' : YA} {S S1 : YS} {l : List Int}
theorem Wy.op (W : Wy h A S l) (F : Fr h A h' A') (Y : YAt h' A' S1) : Wy h' A' S1 l := by
  refine ⟨Y, by rw [F.same 2 W.lt W.d2]; exact W.dl, fun hm => ?_, Nat.lt_of_lt_of_le W.lt F.le⟩
  rcases F.own 2 hm with z | z
  · exact W.d2 z
  · have := W.lt; omega
theorem Wy.ext (W : Wy h A S l) (e : Ext h h') : Wy h' A S l := ⟨W.yA.ext e, by rw [e.same 2 W.lt]; exact W.dl, W.d2, Nat.lt_of_lt_of_le W.lt e.le⟩
/-- what the draws leave, a yard made -/
theorem Wy.start {P : Prg} {d : Nat} (H : Has P [.d_Yard_init] []) (hi : P.cl.init .c_Yard = some .d_Yard_init) (g2 : h.g 2 = some (.lst (l.map .int))) (hn : 2 < h.n) {σ : Sl} :
    ∃ h' A, ev P.cl (callD P (d + 1)) (.make .c_Yard .nil) σ h = .ok (.ref A.y) h' ∧ Wy h' A YS0 l ∧ h.n ≤ h'.n ∧ ∀ b, b < h.n → h'.g b = h.g b := by
  obtain ⟨h', A, e, Y, le, fr, ow⟩ := y_make (d := d) (h := h) (σ := σ) H hi
  exact ⟨h', A, e, ⟨Y, by rw [fr 2 hn]; exact g2, fun z => by have := ow 2 z; omega, by omega⟩, le, fr⟩
/-- d[i] % m -/
theorem Wy.draw {cl : Cl} {cf : Cf} (W : Wy h A S l) {σ : Sl} {i m v : Int} (hσ : σ[1]? = some (some (.ref 2))) (hv : atI (l.map AV.int) i = some (.int v)) (hm : 0 < m) : ev cl cf (.op .mod (.op .item (.slot 1) (.int i)) (.int m)) σ h = .ok (.int (v % m)) h := by
  simp [hσ, op_item_lst W.dl hv, op_mod' hm]
/-- a method called without defaults -/
theorem call_m {P : Prg} {d : Nat} (Y : YAt h A S) {f m : Nm} (hm : P.cl.mth .c_Yard m = some f) {σ : Sl} {i : Nat} (hσ : σ[i]? = some (some (.ref A.y))) {es : Rl.E} {ds vs : List AV} {h1 : AH} (hd : ds.isSuffixOf (P.cl.dfl f) = true) (he : evs P.cl (callD P d) es σ h = .ok vs h1) :
    ev P.cl (callD P d) (.meth (.slot i) m es ds) σ h = callD P d f (.ref A.y :: (vs ++ ds)) h1 := by
  rw [meth_eq (h1 := h) (a := A.y) (by simp [hσ]) Y.o hm hd, he]
  rfl
/-- the laws' own tables of kinds -/
theorem l_many {P : Prg} {d : Nat} (H : P.fn .d__law_many = Y.std .d__law_many) {k : Tx} {n : Int} (hk : Kd k n) {h : AH} : callD P (d + 1) .d__law_many [.str k] h = .ok (.int n) h := by
  rw [callD_eq H rfl]
  cases hk <;> rfl
def six : List Tx := [kLine, kBell, kStill, kLazy, kTurn, kStop]
theorem l_kinds {P : Prg} {d : Nat} (H : P.fn .d__law_kinds = Y.std .d__law_kinds) {h : AH} : callD P (d + 1) .d__law_kinds [] h = .ok (.ref h.n) (h.new (.lst (six.map .str))) := by
  rw [callD_eq H rfl]
  rfl
theorem six_kd {i : Int} (h0 : 0 ≤ i) (h1 : i < 6) : ∃ k n, atI (six.map AV.str) i = some (.str k) ∧ Kd k n := by
  have : i = 0 ∨ i = 1 ∨ i = 2 ∨ i = 3 ∨ i = 4 ∨ i = 5 := by omega
  rcases this with rfl | rfl | rfl | rfl | rfl | rfl
  · exact ⟨_, _, rfl, .line⟩
  · exact ⟨_, _, rfl, .bell⟩
  · exact ⟨_, _, rfl, .still⟩
  · exact ⟨_, _, rfl, .lazy⟩
  · exact ⟨_, _, rfl, .turn⟩
  · exact ⟨_, _, rfl, .stop⟩
theorem l_passing {P : Prg} {d : Nat} (H : P.fn .d__law_passing = Y.std .d__law_passing) {k : Tx} {n : Int} (hk : Kd k n) {e s : Int} (h0 : 0 ≤ e) {h : AH} : callD P (d + 1) .d__law_passing [.str k, .int e, .int s] h = .ok (.tup [(pas k e s).1, .int (pas k e s).2]) h := by
  rw [callD_eq H rfl]
  show toR (ex P.cl (callD P d) Y.B__law_passing [some (.str k), some (.int e), some (.int s)] h) = _
  have q : ∀ (b : Tx), strOk b = true → op2 .eq (.str k) (.str b) h = .ok (.bl (decide (k = b))) h := fun b hb => eq_str hk.ok hb
  have q1 : op2 .eq (.str k) (.str [115, 116, 111, 112]) h = .ok (.bl (decide (k = kStop))) h := q _ rfl
  have q2 : op2 .eq (.str k) (.str [108, 105, 110, 101]) h = .ok (.bl (decide (k = kLine))) h := q _ rfl
  have q3 : op2 .eq (.str k) (.str [98, 101, 108, 108]) h = .ok (.bl (decide (k = kBell))) h := q _ rfl
  have q4 : op2 .eq (.str k) (.str [108, 97, 122, 121]) h = .ok (.bl (decide (k = kLazy))) h := q _ rfl
  have q5 : op2 .eq (.str k) (.str [116, 117, 114, 110, 105, 110, 103]) h = .ok (.bl (decide (k = kTurn))) h := q _ rfl
  have c : e = 0 ∨ 0 < e := by omega
  rcases c with rfl | c
  · cases hk <;> simp [Y.B__law_passing, q1, q2, q3, q4, q5, pas, LIM, show kLine ≠ kBell by decide, show kLine ≠ kStop by decide, show kLine ≠ kStill by decide, show kLine ≠ kLazy by decide, show kLine ≠ kTurn by decide, show kBell ≠ kLine by decide, show kBell ≠ kStop by decide, show kBell ≠ kStill by decide, show kBell ≠ kLazy by decide, show kBell ≠ kTurn by decide, show kStop ≠ kLine by decide, show kStop ≠ kBell by decide, show kStop ≠ kStill by decide, show kStop ≠ kLazy by decide, show kStop ≠ kTurn by decide, show kStill ≠ kLine by decide, show kStill ≠ kBell by decide, show kStill ≠ kStop by decide, show kStill ≠ kLazy by decide, show kStill ≠ kTurn by decide, show kLazy ≠ kLine by decide, show kLazy ≠ kBell by decide, show kLazy ≠ kStop by decide, show kLazy ≠ kStill by decide, show kLazy ≠ kTurn by decide, show kTurn ≠ kLine by decide, show kTurn ≠ kBell by decide, show kTurn ≠ kStop by decide, show kTurn ≠ kStill by decide, show kTurn ≠ kLazy by decide]
  · have c2 : e ≠ 0 := by omega
    cases hk <;> simp [Y.B__law_passing, q1, q2, q3, q4, q5, pas, LIM, c, c2, show kLine ≠ kBell by decide, show kLine ≠ kStop by decide, show kLine ≠ kStill by decide, show kLine ≠ kLazy by decide, show kLine ≠ kTurn by decide, show kBell ≠ kLine by decide, show kBell ≠ kStop by decide, show kBell ≠ kStill by decide, show kBell ≠ kLazy by decide, show kBell ≠ kTurn by decide, show kStop ≠ kLine by decide, show kStop ≠ kBell by decide, show kStop ≠ kStill by decide, show kStop ≠ kLazy by decide, show kStop ≠ kTurn by decide, show kStill ≠ kLine by decide, show kStill ≠ kBell by decide, show kStill ≠ kStop by decide, show kStill ≠ kLazy by decide, show kStill ≠ kTurn by decide, show kLazy ≠ kLine by decide, show kLazy ≠ kBell by decide, show kLazy ≠ kStop by decide, show kLazy ≠ kStill by decide, show kLazy ≠ kTurn by decide, show kTurn ≠ kLine by decide, show kTurn ≠ kBell by decide, show kTurn ≠ kStop by decide, show kTurn ≠ kStill by decide, show kTurn ≠ kLazy by decide]
end
end Rl

set_option linter.all false
set_option autoImplicit false
set_option maxRecDepth 100000
set_option maxHeartbeats 4000000
/-! Wp: what a result comes to, step by step; what is left to do stands aside (lz) until its time comes. -/
namespace Rl
def Res.post {α : Type} (r : Res α) (Q : α → AH → Prop) (X : Nm → AH → Prop) : Prop := match r with
  | .ok a h => Q a h
  | .exc c h => X c h
  | .bad => False
def SR.post (r : SR) (N : Sl → AH → Prop) (R : AV → AH → Prop) (X : Nm → AH → Prop) : Prop := match r with
  | .nx σ h => N σ h
  | .rt v h => R v h
  | .exc c h => X c h
  | .bad => False
/-- set aside: an instance's value is not looked into -/
class Hd (α : Type) where
  v : α
def lz {α : Type} [i : Hd α] : α := i.v
@[simp] theorem lz_2 {α β : Type} {f : α → β → Prop} {a : α} {b : β} : @lz (α → β → Prop) ⟨f⟩ a b = f a b := nr rfl
@[simp] theorem lz_1 {α : Type} {f : α → Prop} {a : α} : @lz (α → Prop) ⟨f⟩ a = f a := nr rfl
theorem lz_0 {α : Type} {f : α} : @lz α ⟨f⟩ = f := nr rfl
section
variable {α β : Type} {a : α} {h h1 : AH} {c : Nm} {σ : Sl} {v : AV} {Q : α → AH → Prop} {X : Nm → AH → Prop} {N : Sl → AH → Prop} {R : AV → AH → Prop}
@[simp] theorem post_ok : (Res.ok a h).post Q X = Q a h := nr rfl
@[simp] theorem post_exc : (Res.exc c h : Res α).post Q X = X c h := nr rfl
@[simp] theorem post_bad : (Res.bad : Res α).post Q X = False := nr rfl
@[simp] theorem spost_nx : (SR.nx σ h).post N R X = N σ h := nr rfl
@[simp] theorem spost_rt : (SR.rt v h).post N R X = R v h := nr rfl
@[simp] theorem spost_exc : (SR.exc c h).post N R X = X c h := nr rfl
@[simp] theorem spost_bad : (SR.bad).post N R X = False := nr rfl
theorem post_bind {r : Res β} {k : β → AH → Res α} : (r.bind k).post Q X = r.post (fun b h => (k b h).post Q X) X := by cases r <;> exact nr rfl
theorem post_bindS {r : Res β} {k : β → AH → SR} : (r.bindS k).post N R X = r.post (fun b h => (k b h).post N R X) X := by cases r <;> exact nr rfl
theorem spost_bind {r : SR} {k : Sl → AH → SR} : (r.bind k).post N R X = r.post (fun b h => (k b h).post N R X) R X := by cases r <;> exact nr rfl
theorem toR_post {r : SR} {Q : AV → AH → Prop} : (toR r).post Q X = r.post (fun _ h => Q .non h) Q X := by cases r <;> exact nr rfl
theorem post_of {r : Res α} {a : α} (e : r = .ok a h) (q : Q a h) : r.post Q X := by rw [e]; exact q
theorem post_of_exc {r : Res α} (e : r = .exc c h) (q : X c h) : r.post Q X := by rw [e]; exact q
theorem of_post {r : Res α} {v : α} {P : AH → Prop} (q : r.post (fun u h => u = v ∧ P h) fun _ _ => False) : ∃ h, r = .ok v h ∧ P h := by
  cases r with
  | ok a h => obtain ⟨rfl, p⟩ := q; exact ⟨h, rfl, p⟩
  | exc _ _ => exact q.elim
  | bad => exact q.elim
theorem post_mono {r : Res α} {Q' : α → AH → Prop} {X' : Nm → AH → Prop} (p : r.post Q X) (q : ∀ a h, Q a h → Q' a h) (x : ∀ a h, X a h → X' a h) : r.post Q' X' := by
  cases r with
  | ok a h => exact q _ _ p
  | exc _ _ => exact x _ _ p
  | bad => exact p.elim
theorem spost_mono {r : SR} {N' : Sl → AH → Prop} {R' : AV → AH → Prop} {X' : Nm → AH → Prop} (p : r.post N R X) (n : ∀ a h, N a h → N' a h) (q : ∀ a h, R a h → R' a h) (x : ∀ a h, X a h → X' a h) : r.post N' R' X' := by
  cases r with
  | nx σ h => exact n _ _ p
  | rt _ _ => exact q _ _ p
  | exc _ _ => exact x _ _ p
  | bad => exact p.elim
end
/-! the steps -/
def wpE (cl : Cl) (cf : Cf) (e : Rl.E) (σ : Sl) (h : AH) (Q : AV → AH → Prop) (X : Nm → AH → Prop) : Prop := (ev cl cf e σ h).post Q X
def wpEs (cl : Cl) (cf : Cf) (e : Rl.E) (σ : Sl) (h : AH) (Q : List AV → AH → Prop) (X : Nm → AH → Prop) : Prop := (evs cl cf e σ h).post Q X
def wpS (cl : Cl) (cf : Cf) (s : Rl.S) (σ : Sl) (h : AH) (N : Sl → AH → Prop) (R : AV → AH → Prop) (X : Nm → AH → Prop) : Prop := (ex cl cf s σ h).post N R X
/-- as a truth value says -/
def bP (v : AV) (p q : Prop) : Prop := match v with
  | .bl true => p
  | .bl false => q
  | _ => False
def notR (v : AV) (h : AH) : Res AV := match v with | .bl b => .ok (.bl (!b)) h | _ => .bad
def negR (v : AV) (h : AH) : Res AV := match v with | .int i => .ok (.int (-i)) h | _ => .bad
def tyR (v : AV) (t : Ty) (h : AH) : Res AV := match tyOf h v with | some u => .ok (.bl (isTy u t)) h | none => .bad
def fldR (v : AV) (f : Nm) (h : AH) : Res AV := match getF h v f with | some v => .ok v h | none => .bad
def sliI (cl : Cl) (cf : Cf) (e : Rl.E) (σ : Sl) (h : AH) : Res (Option Int) := if e.isNil then .ok none h else (ev cl cf e σ h).bind asI
def optP {α : Type} (o : Option α) (k : α → Prop) : Prop := match o with | some a => k a | none => False
def compR (cl : Cl) (cf : Cf) (t : Tg) (w : Option (List AV × Gd)) (cond elt : Rl.E) (σ : Sl) (h1 : AH) : Res AV := match w with
    | some (xs, g) => ((compLoop t g (fun σ h => ev cl cf cond σ h) (fun σ h => ev cl cf elt σ h) xs [] σ h1).calm).bind fun l h2 => .ok (.ref h2.n) (h2.new (.lst l))
    | none => .bad
def forP (cl : Cl) (cf : Cf) (t : Tg) (w : Option (List AV × Gd)) (b : Rl.S) (σ : Sl) (h1 : AH) (N : Sl → AH → Prop) (R : AV → AH → Prop) (X : Nm → AH → Prop) : Prop := match w with
    | some (xs, g) => (forL t g (fun σ h => ex cl cf b σ h) xs σ h1).post N R X
    | none => False
def methR (cl : Cl) (cf : Cf) (x : AV) (m : Nm) (es : Rl.E) (ds : List AV) (σ : Sl) (h1 : AH) : Res AV := match x with
    | .ref a => match h1.g a with
      | some (.obj c fs) => match cl.mth c m with
        | some f => if ds.isSuffixOf (cl.dfl f) then (evs cl cf es σ h1).bind fun vs h2 => cf f (.ref a :: (vs ++ ds)) h2 else .bad
        | none => .bad
      | _ => .bad
    | _ => .bad
def methC (cl : Cl) (cf : Cf) (a : Nat) (es : Rl.E) (ds : List AV) (σ : Sl) (h1 : AH) (o : Option Nm) (Q : AV → AH → Prop) (X : Nm → AH → Prop) : Prop := match o with
  | some f => bP (.bl (ds.isSuffixOf (cl.dfl f))) (wpEs cl cf es σ h1 (fun vs h2 => (cf f (.ref a :: (vs ++ ds)) h2).post Q X) X) False
  | none => False
def methRK (cl : Cl) (cf : Cf) (x : AV) (m : Nm) (es : Rl.E) (mid : List AV) (kn : Nm) (e : Rl.E) (σ : Sl) (h1 : AH) : Res AV := match x with
    | .ref a => match h1.g a with
      | some (.obj c fs) => match cl.mth c m with
        | some f => if cl.kw f = some (mid, kn) then (evs cl cf es σ h1).bind fun vs h2 => (ev cl cf e σ h2).bind fun v h3 => cf f (.ref a :: (vs ++ mid ++ [v])) h3 else .bad
        | none => .bad
      | _ => .bad
    | _ => .bad
def methCK (cl : Cl) (cf : Cf) (a : Nat) (es : Rl.E) (mid : List AV) (kn : Nm) (e : Rl.E) (σ : Sl) (h1 : AH) (o : Option Nm) (Q : AV → AH → Prop) (X : Nm → AH → Prop) : Prop := match o with
  | some f => bP (.bl (decide (cl.kw f = some (mid, kn)))) (wpEs cl cf es σ h1 (fun vs h2 => wpE cl cf e σ h2 (fun v h3 => (cf f (.ref a :: (vs ++ mid ++ [v])) h3).post Q X) X) X) False
  | none => False
def mthR (cl : Cl) (cf : Cf) (b : Mb) (v : AV) (y : Rl.E) (σ : Sl) (h1 : AH) : Res AV := match tyOf h1 v with | some t => if mthTy b t then (evs cl cf y σ h1).bind fun vs h2 => primM b t v vs h2 else .bad | none => .bad
/-- an object's class, a list, a dict -/
def isO (h : AH) (y : Nat) (c : Nm) : Prop := ∃ fs, h.g y = some (.obj c fs)
def isL (h : AH) (a : Nat) : Prop := ∃ xs, h.g a = some (.lst xs)
def isD (h : AH) (a : Nat) : Prop := ∃ t xs, h.g a = some (.dct t xs)
section
variable {cl : Cl} {cf : Cf} {σ : Sl} {h : AH} {x y z : Rl.E} {s r : Rl.S} {v : AV} {f m kn : Nm} {ds mid : List AV} {a : Nat} {t : Tg} {k : Ik} {Q : AV → AH → Prop} {Ql : List AV → AH → Prop} {X : Nm → AH → Prop} {N : Sl → AH → Prop} {R : AV → AH → Prop}
@[simp] theorem bP_t {p q : Prop} : bP (.bl true) (@lz Prop ⟨p⟩) q = p := nr rfl
@[simp] theorem bP_f {p q : Prop} : bP (.bl false) p (@lz Prop ⟨q⟩) = q := nr rfl
theorem bP_tt {p q : Prop} : bP (.bl true) p q = p := nr rfl
theorem bP_ff {p q : Prop} : bP (.bl false) p q = q := nr rfl
@[simp] theorem notR_bl {b : Bool} : notR (.bl b) h = .ok (.bl (!b)) h := nr rfl
@[simp] theorem negR_int {i : Int} : negR (.int i) h = .ok (.int (-i)) h := nr rfl
@[simp] theorem tyR_int {i : Int} {t : Ty} : tyR (.int i) t h = .ok (.bl (isTy .int t)) h := nr rfl
@[simp] theorem tyR_bl {i : Bool} {t : Ty} : tyR (.bl i) t h = .ok (.bl (isTy .bool t)) h := nr rfl
@[simp] theorem tyR_non {t : Ty} : tyR .non t h = .ok (.bl (isTy .non t)) h := nr rfl
@[simp] theorem tyR_tup {l : List AV} {t : Ty} : tyR (.tup l) t h = .ok (.bl (isTy .tuple t)) h := nr rfl
@[simp] theorem tyR_str {l : Tx} {t : Ty} : tyR (.str l) t h = .ok (.bl (isTy .str t)) h := nr rfl
theorem tyR_lst {t : Ty} (e : isL h a) : tyR (.ref a) t h = .ok (.bl (isTy .list t)) h := by
  obtain ⟨xs, e⟩ := e
  simp [tyR, tyOf, e]
@[simp] theorem optP_some {α : Type} {a : α} {k : α → Prop} : optP (some a) k = k a := nr rfl
@[simp] theorem wpE_slot0 : wpE cl cf (.slot 0) (some v :: σ) h Q X = Q v h := nr rfl
@[simp] theorem wpE_slotS {n : Nat} {o : Option AV} : wpE cl cf (.slot (n + 1)) (o :: σ) h Q X = wpE cl cf (.slot n) σ h Q X := nr rfl
@[simp] theorem wpE_non : wpE cl cf .non σ h Q X = Q .non h := nr rfl
@[simp] theorem wpE_bl {b : Bool} : wpE cl cf (.bl b) σ h Q X = Q (.bl b) h := nr rfl
@[simp] theorem wpE_int {b : Int} : wpE cl cf (.int b) σ h Q X = Q (.int b) h := nr rfl
@[simp] theorem wpE_str {b : Tx} : wpE cl cf (.str b) σ h Q X = Q (.str b) h := nr rfl
@[simp] theorem wpE_kd {b : List (Tx × Int)} : wpE cl cf (.kd f b) σ h Q X = Q (.kd b) h := nr rfl
@[simp] theorem wpEs_nil : wpEs cl cf .nil σ h Ql X = Ql [] h := nr rfl
@[simp] theorem wpEs_cons : wpEs cl cf (.cons x y) σ h Ql X = wpE cl cf x σ h (@lz _ ⟨fun v h1 => wpEs cl cf y σ h1 (@lz _ ⟨fun vs h2 => Ql (v :: vs) h2⟩) X⟩) X := by
  simp only [wpEs, wpE, lz, evs_cons', post_bind, post_ok]
def E.small : Nat → Rl.E → Bool
  | _, .nil => true
  | n + 1, .cons _ y => E.small n y
  | _, _ => false
theorem E.small_len (n : Nat) : ∀ (e : Rl.E) (h : AH) (vs : List AV) (h1 : AH), E.small n e = true → evs cl cf e σ h = .ok vs h1 → vs.length ≤ n := by
  induction n with
  | zero =>
    intro e h vs h1 hs e'
    cases e
    case nil => cases e'; exact Nat.le_refl _
    all_goals exact Bool.noConfusion hs
  | succ n ih =>
    intro e h vs h1 hs e'
    cases e
    case nil => cases e'; exact Nat.zero_le _
    case cons x y =>
      rw [evs_cons'] at e'
      cases e1 : ev cl cf x σ h with
      | ok v h2 =>
        rw [e1, bind_ok] at e'
        cases e2 : evs cl cf y σ h2 with
        | ok us h3 =>
          rw [e2, bind_ok] at e'
          cases e'
          have := ih y _ _ _ hs e2
          simp; omega
        | exc _ _ => rw [e2] at e'; cases e'
        | bad => rw [e2] at e'; cases e'
      | exc _ _ => rw [e1] at e'; cases e'
      | bad => rw [e1] at e'; cases e'
    all_goals exact Bool.noConfusion hs
theorem wpE_tup (hs : E.small 40 x = true) : wpE cl cf (.tup x) σ h Q X = wpEs cl cf x σ h (@lz _ ⟨fun vs h1 => Q (.tup vs) h1⟩) X := by
  simp only [wpEs, wpE, lz, ev_tup', post_bind]
  cases e : evs cl cf x σ h with
  | ok vs h1 =>
    have := E.small_len 40 x _ _ _ hs e
    rw [post_ok, if_pos (by simp [LIM]; omega)]
    rfl
  | exc _ _ => rfl
  | bad => rfl
theorem wpE_lst (hs : E.small 40 x = true) : wpE cl cf (.lst x) σ h Q X = wpEs cl cf x σ h (@lz _ ⟨fun vs h1 => Q (.ref h1.n) (h1.new (.lst vs))⟩) X := by
  simp only [wpEs, wpE, lz, ev_lst', post_bind, newL]
  cases e : evs cl cf x σ h with
  | ok vs h1 =>
    have := E.small_len 40 x _ _ _ hs e
    rw [post_ok, if_pos (by simp [LIM]; omega)]
    rfl
  | exc _ _ => rfl
  | bad => rfl
@[simp] theorem wpE_dict0 {b : Bool} : wpE cl cf (.dict0 b) σ h Q X = Q (.ref h.n) (h.new (.dct b [])) := nr rfl
@[simp] theorem wpE_op {o : Op} : wpE cl cf (.op o x y) σ h Q X = wpE cl cf x σ h (@lz _ ⟨fun v h1 => wpE cl cf y σ h1 (@lz _ ⟨fun u h2 => (op2 o v u h2).post Q X⟩) X⟩) X := by
  simp only [wpE, lz, ev_op', post_bind]
@[simp] theorem wpE_neg : wpE cl cf (.neg x) σ h Q X = wpE cl cf x σ h (@lz _ ⟨fun v h1 => (negR v h1).post Q X⟩) X := by
  simp only [wpE, lz, ev_neg', post_bind]; rfl
@[simp] theorem wpE_isN : wpE cl cf (.isN x) σ h Q X = wpE cl cf x σ h (@lz _ ⟨fun v h1 => Q (.bl (decide (v = .non))) h1⟩) X := by
  simp only [wpE, lz, ev_isN', post_bind]; rfl
@[simp] theorem wpE_notN : wpE cl cf (.notN x) σ h Q X = wpE cl cf x σ h (@lz _ ⟨fun v h1 => Q (.bl (!decide (v = .non))) h1⟩) X := by
  simp only [wpE, lz, ev_notN', post_bind]; rfl
@[simp] theorem wpE_not : wpE cl cf (.not x) σ h Q X = wpE cl cf x σ h (@lz _ ⟨fun v h1 => (notR v h1).post Q X⟩) X := by
  simp only [wpE, lz, ev_not', post_bind]; rfl
@[simp] theorem wpE_and : wpE cl cf (.and x y) σ h Q X = wpE cl cf x σ h (@lz _ ⟨fun v h1 => bP v (@lz _ ⟨(wpE cl cf y σ h1 Q X)⟩) (@lz _ ⟨(Q (.bl false) h1)⟩)⟩) X := by
  simp only [wpE, lz, ev_and', post_bind]
  congr 1; funext v h1; cases v with | bl b => (cases b <;> rfl) | _ => rfl
@[simp] theorem wpE_or : wpE cl cf (.or x y) σ h Q X = wpE cl cf x σ h (@lz _ ⟨fun v h1 => bP v (@lz _ ⟨(Q (.bl true) h1)⟩) (@lz _ ⟨(wpE cl cf y σ h1 Q X)⟩)⟩) X := by
  simp only [wpE, lz, ev_or', post_bind]
  congr 1; funext v h1; cases v with | bl b => (cases b <;> rfl) | _ => rfl
@[simp] theorem wpE_ite : wpE cl cf (.ite z x y) σ h Q X = wpE cl cf z σ h (@lz _ ⟨fun v h1 => bP v (@lz _ ⟨(wpE cl cf x σ h1 Q X)⟩) (@lz _ ⟨(wpE cl cf y σ h1 Q X)⟩)⟩) X := by
  simp only [wpE, lz, ev_ite', post_bind]
  congr 1; funext v h1; cases v with | bl b => (cases b <;> rfl) | _ => rfl
@[simp] theorem wpE_slice : wpE cl cf (.slice x y z) σ h Q X = wpE cl cf x σ h (@lz _ ⟨fun v h1 => (sliI cl cf y σ h1).post (@lz _ ⟨fun l h2 => (sliI cl cf z σ h2).post (@lz _ ⟨fun u h3 => (sliceA v l u h3).post Q X⟩) X⟩) X⟩) X := by
  simp only [wpE, lz, ev_slice', post_bind]; rfl
@[simp] theorem sliI_nil : sliI cl cf .nil σ h = .ok none h := nr rfl
theorem sliI_e {Qo : Option Int → AH → Prop} (e : x.isNil = false) : (sliI cl cf x σ h).post Qo X = wpE cl cf x σ h (@lz _ ⟨fun v h1 => (asI v h1).post Qo X⟩) X := by
  simp only [sliI, e, wpE, lz, post_bind]; simp [post_bind]
@[simp] theorem wpE_call : wpE cl cf (.call f x) σ h Q X = wpEs cl cf x σ h (@lz _ ⟨fun vs h1 => (cf f vs h1).post Q X⟩) X := by
  simp only [wpE, wpEs, lz, ev_call', post_bind]
@[simp] theorem wpE_bi {b : Bi} : wpE cl cf (.bi b x) σ h Q X = wpEs cl cf x σ h (@lz _ ⟨fun vs h1 => (primB b vs h1).post Q X⟩) X := by
  simp only [wpE, wpEs, lz, ev_bi', post_bind]
@[simp] theorem wpE_mth {b : Mb} : wpE cl cf (.mth b x y) σ h Q X = wpE cl cf x σ h (@lz _ ⟨fun v h1 => (mthR cl cf b v y σ h1).post Q X⟩) X := by
  simp only [wpE, lz, ev_mth', post_bind]; rfl
theorem mthR_lst {b : Mb} (e : isL h a) : (mthR cl cf b (.ref a) y σ h).post Q X = bP (.bl (mthTy b .list)) (@lz _ ⟨(wpEs cl cf y σ h (@lz _ ⟨fun vs h2 => (primM b .list (.ref a) vs h2).post Q X⟩) X)⟩) (@lz _ ⟨False⟩) := by
  obtain ⟨xs, e⟩ := e
  simp only [mthR, tyOf, e, wpEs, lz]
  cases mthTy b .list
  · rfl
  · exact post_bind
theorem mthR_dct {b : Mb} (e : isD h a) : (mthR cl cf b (.ref a) y σ h).post Q X = bP (.bl (mthTy b .dict)) (@lz _ ⟨(wpEs cl cf y σ h (@lz _ ⟨fun vs h2 => (primM b .dict (.ref a) vs h2).post Q X⟩) X)⟩) (@lz _ ⟨False⟩) := by
  obtain ⟨t, xs, e⟩ := e
  simp only [mthR, tyOf, e, wpEs, lz]
  cases mthTy b .dict
  · rfl
  · exact post_bind
@[simp] theorem wpE_isTy {t : Ty} : wpE cl cf (.isTy x t) σ h Q X = wpE cl cf x σ h (@lz _ ⟨fun v h1 => (tyR v t h1).post Q X⟩) X := by
  simp only [wpE, lz, ev_isTy', post_bind]; rfl
@[simp] theorem wpE_fld : wpE cl cf (.fld x f) σ h Q X = wpE cl cf x σ h (@lz _ ⟨fun v h1 => (fldR v f h1).post Q X⟩) X := by
  simp only [wpE, lz, ev_fld', post_bind]; rfl
@[simp] theorem wpE_comp : wpE cl cf (.comp t k x y z) σ h Q X = wpEs cl cf x σ h (@lz _ ⟨fun vs h1 => (compR cl cf t (walk k vs h1) y z σ h1).post Q X⟩) X := by
  simp only [wpE, wpEs, lz, ev_comp', post_bind]; rfl
@[simp] theorem wpE_meth : wpE cl cf (.meth x m y ds) σ h Q X = wpE cl cf x σ h (@lz _ ⟨fun v h1 => (methR cl cf v m y ds σ h1).post Q X⟩) X := by
  have : ev cl cf (.meth x m y ds) σ h = (ev cl cf x σ h).bind fun x h1 => methR cl cf x m y ds σ h1 := nr rfl
  simp only [wpE, lz, this, post_bind]
@[simp] theorem wpE_methK : wpE cl cf (.methK x m y mid kn z) σ h Q X = wpE cl cf x σ h (@lz _ ⟨fun v h1 => (methRK cl cf v m y mid kn z σ h1).post Q X⟩) X := by
  have : ev cl cf (.methK x m y mid kn z) σ h = (ev cl cf x σ h).bind fun x h1 => methRK cl cf x m y mid kn z σ h1 := nr rfl
  simp only [wpE, lz, this, post_bind]
theorem methR_eq (c : Nm) (hy : isO h a c) : (methR cl cf (.ref a) m y ds σ h).post Q X = methC cl cf a y ds σ h (cl.mth c m) Q X := by
  obtain ⟨fs, e⟩ := hy
  simp only [methR, e, methC]
  cases cl.mth c m with
  | none => rfl
  | some f =>
    dsimp only
    cases ds.isSuffixOf (cl.dfl f)
    · rfl
    · exact post_bind
theorem methRK_eq (c : Nm) (hy : isO h a c) : (methRK cl cf (.ref a) m y mid kn z σ h).post Q X = methCK cl cf a y mid kn z σ h (cl.mth c m) Q X := by
  obtain ⟨fs, e⟩ := hy
  simp only [methRK, e, methCK]
  cases cl.mth c m with
  | none => rfl
  | some f =>
    dsimp only
    by_cases e : cl.kw f = some (mid, kn)
    · rw [if_pos e, decide_eq_true e, bP_tt, post_bind]
      simp only [wpEs, wpE, post_bind]
    · rw [if_neg e, decide_eq_false e, bP_ff]; rfl
@[simp] theorem methC_some : methC cl cf a y ds σ h (some f) Q X = bP (.bl (ds.isSuffixOf (cl.dfl f))) (@lz _ ⟨(wpEs cl cf y σ h (@lz _ ⟨fun vs h2 => (cf f (.ref a :: (vs ++ ds)) h2).post Q X⟩) X)⟩) (@lz _ ⟨False⟩) := nr rfl
@[simp] theorem methCK_some : methCK cl cf a y mid kn z σ h (some f) Q X = bP (.bl (decide (cl.kw f = some (mid, kn)))) (@lz _ ⟨(wpEs cl cf y σ h (@lz _ ⟨fun vs h2 => wpE cl cf z σ h2 (@lz _ ⟨fun v h3 => (cf f (.ref a :: (vs ++ mid ++ [v])) h3).post Q X⟩) X⟩) X)⟩) (@lz _ ⟨False⟩) := nr rfl
/-! statements -/
@[simp] theorem wpS_nil : wpS cl cf .nil σ h N R X = N σ h := nr rfl
@[simp] theorem wpS_seq : wpS cl cf (.seq s r) σ h N R X = wpS cl cf s σ h (@lz _ ⟨fun σ1 h1 => wpS cl cf r σ1 h1 N R X⟩) R X := by
  simp only [wpS, lz, ex_seq', spost_bind]
@[simp] theorem wpS_pass : wpS cl cf .pass σ h N R X = N σ h := nr rfl
@[simp] theorem wpS_asg : wpS cl cf (.asg t x) σ h N R X = wpE cl cf x σ h (@lz _ ⟨fun v h1 => optP (bindT t v σ) (@lz _ ⟨fun σ1 => N σ1 h1⟩)⟩) X := by
  simp only [wpS, wpE, lz, ex_asg', post_bindS]
  congr 1; funext v h1; cases bindT t v σ <;> rfl
@[simp] theorem wpS_fset : wpS cl cf (.fset x f y) σ h N R X = wpE cl cf y σ h (@lz _ ⟨fun v h1 => wpE cl cf x σ h1 (@lz _ ⟨fun u h2 => optP (setF cl.at' h2 u f v) (@lz _ ⟨fun h3 => N σ h3⟩)⟩) X⟩) X := by
  simp only [wpS, wpE, lz, ex_fset', post_bindS]
  congr 1; funext v h1; congr 1; funext u h2; cases setF cl.at' h2 u f v <;> rfl
@[simp] theorem wpS_iset : wpS cl cf (.iset x z y) σ h N R X = wpE cl cf y σ h (@lz _ ⟨fun v h1 => wpE cl cf x σ h1 (@lz _ ⟨fun u h2 => wpE cl cf z σ h2 (@lz _ ⟨fun w h3 => optP (setI h3 u w v) (@lz _ ⟨fun h4 => N σ h4⟩)⟩) X⟩) X⟩) X := by
  simp only [wpS, wpE, lz, ex_iset', post_bindS]
  congr 1; funext v h1; congr 1; funext u h2; congr 1; funext w h3; cases setI h3 u w v <;> rfl
@[simp] theorem wpS_exp : wpS cl cf (.exp x) σ h N R X = wpE cl cf x σ h (@lz _ ⟨fun _ h1 => N σ h1⟩) X := by
  simp only [wpS, wpE, lz, ex_exp', post_bindS]; rfl
@[simp] theorem wpS_ret : wpS cl cf (.ret x) σ h N R X = wpE cl cf x σ h (@lz _ ⟨fun v h1 => R v h1⟩) X := by
  simp only [wpS, wpE, lz, ex_ret', post_bindS]; rfl
@[simp] theorem wpS_retN : wpS cl cf .retN σ h N R X = R .non h := nr rfl
theorem wpS_ite : wpS cl cf (.ite x s r) σ h N R X = wpE cl cf x σ h (@lz _ ⟨fun v h1 => bP v (@lz _ ⟨(wpS cl cf s σ h1 N R X)⟩) (@lz _ ⟨(wpS cl cf r σ h1 N R X)⟩)⟩) X := by
  simp only [wpS, wpE, lz, ex_ite', post_bindS]
  congr 1; funext v h1; cases v with | bl b => (cases b <;> rfl) | _ => rfl
@[simp] theorem wpS_raise {c : Nm} : wpS cl cf (.raise c) σ h N R X = X c h := nr rfl
@[simp] theorem wpS_for : wpS cl cf (.for t k x s) σ h N R X = wpEs cl cf x σ h (@lz _ ⟨fun vs h1 => forP cl cf t (walk k vs h1) s σ h1 N R X⟩) X := by
  simp only [wpS, wpEs, lz, ex_for', post_bindS]
  congr 1; funext v h1; unfold forP; cases walk k v h1 with | none => rfl | some p => (cases p; rfl)
end
theorem call_wp {P : Prg} {d : Nat} {f : Nm} {F : FD} {vs : List AV} {h : AH} {Q : AV → AH → Prop} {X : Nm → AH → Prop} (hF : P.fn f = some F) (hl : vs.length = F.np) :
    (callD P (d + 1) f vs h).post Q X = wpS P.cl (callD P d) F.body (vs.map some ++ List.replicate (F.ns - F.np) none) h (@lz _ ⟨fun _ h => Q .non h⟩) Q X := by
  rw [callD_eq hF hl, toR_post]; rfl
theorem wp_cut {cl : Cl} {cf : Cf} {σ : Sl} {h : AH} {s : Rl.S} {X : Nm → AH → Prop} {N : Sl → AH → Prop} {R : AV → AH → Prop} (M : Sl → AH → Prop) (p : wpS cl cf s σ h M R X) (q : ∀ σ h, M σ h → N σ h) : wpS cl cf s σ h N R X :=
  spost_mono p q (fun _ _ z => z) fun _ _ z => z
theorem b_cut {v : AV} {p q : Prop} {b : Bool} (e : v = .bl b) (hp : b = true → p) (hq : b = false → q) : bP v p q := by
  subst e; cases b
  · exact hq rfl
  · exact hp rfl
/-! loops -/
section
variable {cl : Cl} {cf : Cf} {t : Tg} {g : Gd} {b : Rl.S} {c : Rl.E} {X : Nm → AH → Prop} {N : Sl → AH → Prop} {R : AV → AH → Prop}
theorem for_inv (I : Nat → Sl → AH → Prop) (xs : List AV) (hg : ∀ i σ h, I i σ h → gdOk g h = true)
    (hb : ∀ i (hi : i < xs.length) σ h, I i σ h → ∃ σ1, bindT t xs[i] σ = some σ1 ∧ wpS cl cf b σ1 h (I (i + 1)) R X) {σ : Sl} {h : AH} (h0 : I 0 σ h) (he : ∀ σ h, I xs.length σ h → N σ h) : forP cl cf t (some (xs, g)) b σ h N R X := by
  show (forL t g (fun σ h => ex cl cf b σ h) xs σ h).post N R X
  induction xs generalizing I σ h with
  | nil =>
    rw [forL_nil (hg _ _ _ h0)]
    exact he _ _ h0
  | cons x xs ih =>
    obtain ⟨σ1, b1, p1⟩ := hb 0 (by simp) σ h h0
    rw [List.getElem_cons_zero] at b1
    rw [forL_cons (hg _ _ _ h0) b1, spost_bind]
    unfold wpS at p1
    revert p1
    cases ex cl cf b σ1 h with
    | nx σ2 h2 =>
      intro p1
      refine ih (fun i => I (i + 1)) (fun i => hg (i + 1)) (fun i hi σ h hI => ?_) p1 he
      exact hb (i + 1) (by simp; omega) σ h hI
    | rt v h2 => exact fun p => p
    | exc v h2 => exact fun p => p
    | bad => exact fun p => p
/-- over range(m, n) -/
theorem for_range {i : Nat} (I : Int → Sl → AH → Prop) {m n : Int} (h0 : m ≤ n)
    (hb : ∀ j, m ≤ j → j < n → ∀ σ h, I j σ h → i < σ.length ∧ wpS cl cf b (σ.set i (some (.int j))) h (I (j + 1)) R X) {σ : Sl} {h : AH} (hI : I m σ h) (he : ∀ σ h, I n σ h → N σ h) : forP cl cf (.one i) (some (rgI m n, [])) b σ h N R X := by
  have el : (rgI m n).length = (n - m).toNat := by simp [rgI]
  refine for_inv (fun j => I (m + j)) (rgI m n) (fun _ _ _ _ => rfl) (fun j hj σ h hI => ?_) (by simpa using hI) (fun σ h z => ?_)
  · obtain ⟨l, p⟩ := hb (m + j) (by omega) (by omega) σ h hI
    rw [Int.add_assoc] at p
    refine ⟨_, ?_, p⟩
    simp [bindT, l, rgI]
  · rw [el, show m + ((n - m).toNat : Int) = n by omega] at z
    exact he σ h z
theorem while_inv (I : Nat → Sl → AH → Prop) (m : Nat) (hm : m < WL) (hs : ∀ k σ h, I k σ h → wpE cl cf c σ h (fun v h => (v = .bl true ∧ ∃ k', k = k' + 1 ∧ wpS cl cf b σ h (I k') R X) ∨ (v = .bl false ∧ N σ h)) X) {σ : Sl} {h : AH} (hI : I m σ h) : wpS cl cf (.while c b) σ h N R X := by
  have key : ∀ (m fuel : Nat), m < fuel → ∀ (σ : Sl) (h : AH), I m σ h → (whileL (fun σ h => ev cl cf c σ h) (fun σ h => ex cl cf b σ h) fuel σ h).post N R X := by
    intro m fuel
    induction fuel generalizing m with
    | zero => intro z; omega
    | succ fuel ih =>
      intro hm σ h hI
      rw [whileL_step, post_bindS]
      refine post_mono (hs m σ h hI) (fun v h1 z => ?_) fun _ _ z => z
      rcases z with ⟨rfl, k', rfl, p⟩ | ⟨rfl, p⟩
      · simp only [spost_bind]
        unfold wpS at p
        revert p
        cases ex cl cf b σ h1 with
        | nx σ2 h2 =>
          intro p
          exact ih k' (by omega) _ _ p
        | rt v h2 => exact fun p => p
        | exc v h2 => exact fun p => p
        | bad => exact fun p => p
      · exact p
  unfold wpS
  rw [ex_while']
  exact key m WL hm σ h hI
end
end Rl

set_option linter.all false
set_option autoImplicit false
set_option maxRecDepth 100000
set_option maxHeartbeats 4000000
/-! Wd: things on the heap, apart from each other. -/
namespace Rl
inductive Th where
  | yard (y : Nat) (S : YS) | ob (a : Nat) (o : O)
def Th.at_ (h : AH) (F : List Nat) : Th → Prop
  | .yard y S => ∃ A : YA, A.own = F ∧ A.y = y ∧ YAt h A S
  | .ob a o => F = [a] ∧ h.g a = some o
/-- these things stand on the heap, apart -/
def Wd (h : AH) (L : List Th) : Prop := ∃ fp : Nat → List Nat, (∀ i t, L[i]? = some t → t.at_ h (fp i) ∧ ∀ b ∈ fp i, b < h.n) ∧ ∀ i j, i < L.length → j < L.length → i ≠ j → ∀ b ∈ fp i, b ∉ fp j
theorem YAt.same {h h' : AH} {A : YA} {S : YS} (Y : YAt h A S) (e : ∀ b ∈ A.own, h'.g b = h.g b) (le : h.n ≤ h'.n) : YAt h' A S := by
  refine ⟨?_, ?_, ?_, ?_, ?_, ?_, ?_, ?_, Y.nd, fun x hx => Nat.lt_of_lt_of_le (Y.lt x hx) le⟩
  · rw [e _ (by simp [YA.own])]; exact Y.o
  · rw [e _ (by simp [YA.own])]; exact Y.k
  · rw [e _ (by simp [YA.own])]; exact Y.n
  · rw [e _ (by simp [YA.own])]; exact Y.r
  · rw [e _ (by simp [YA.own])]; exact Y.s
  · rw [e _ (by simp [YA.own])]; exact Y.m
  · rw [e _ (by simp [YA.own])]; exact Y.g
  · rw [e _ (by simp [YA.own])]; exact Y.t
theorem Th.same {h h' : AH} {F : List Nat} {t : Th} (T : t.at_ h F) (e : ∀ b ∈ F, h'.g b = h.g b) (le : h.n ≤ h'.n) : t.at_ h' F := by
  cases t with
  | yard y S =>
    obtain ⟨A, rfl, ey, Y⟩ := T
    exact ⟨A, rfl, ey, Y.same e le⟩
  | ob a o =>
    obtain ⟨rfl, g⟩ := T
    exact ⟨rfl, by rw [e a (by simp)]; exact g⟩
theorem idx_lt {α : Type} {L : List α} {i : Nat} {t : α} (e : L[i]? = some t) : i < L.length := by
  rcases Nat.lt_or_ge i L.length with z | z
  · exact z
  · rw [List.getElem?_eq_none z] at e; cases e
section
variable {h h' : AH} {L : List Th} {i : Nat} {y : Nat} {S : YS} {a : Nat} {o : O}
theorem Wd.upd {t t' : Th} (W : Wd h L) (hi : L[i]? = some t) (le : h.n ≤ h'.n) (u : ∀ F, t.at_ h F → ∃ F', t'.at_ h' F' ∧ (∀ b ∈ F', b ∈ F ∨ h.n ≤ b) ∧ (∀ b ∈ F', b < h'.n) ∧ ∀ b, b < h.n → b ∉ F → h'.g b = h.g b) : Wd h' (L.set i t') := by
  obtain ⟨fp, c, ap⟩ := W
  have li := idx_lt hi
  obtain ⟨F', a', o', l', s'⟩ := u (fp i) (c i t hi).1
  refine ⟨fun j => if j = i then F' else fp j, fun j u hj => ?_, fun j k hj hk ne b hb hb2 => ?_⟩
  · dsimp only
    by_cases z : j = i
    · subst z
      rw [List.getElem?_set_self li] at hj
      cases hj
      rw [if_pos rfl]
      exact ⟨a', l'⟩
    · rw [List.getElem?_set_ne (Ne.symm z)] at hj
      rw [if_neg z]
      obtain ⟨q1, q2⟩ := c j u hj
      refine ⟨Th.same q1 (fun b hb => s' b (q2 b hb) (ap j i (idx_lt hj) li z b hb)) le, fun b hb => Nat.lt_of_lt_of_le (q2 b hb) le⟩
  · rw [List.length_set] at hj hk
    dsimp only at hb hb2
    have old : ∀ j, j < L.length → ∀ b ∈ fp j, b < h.n := fun j hj => (c j L[j] (List.getElem?_eq_getElem hj)).2
    by_cases z : j = i
    · rw [if_pos z] at hb
      rw [if_neg (by omega)] at hb2
      rcases o' b hb with w | w
      · exact ap i k li hk (by omega) b w hb2
      · have := old k hk b hb2; omega
    · rw [if_neg z] at hb
      by_cases z2 : k = i
      · rw [if_pos z2] at hb2
        rcases o' b hb2 with w | w
        · exact ap j i hj li z b hb w
        · have := old j hj b hb; omega
      · rw [if_neg z2] at hb2
        exact ap j k hj hk ne b hb hb2
/-- an op of a yard -/
theorem Wd.yard (W : Wd h L) (hi : L[i]? = some (.yard y S)) : ∃ A : YA, A.y = y ∧ YAt h A S ∧ ∀ h' A' S', YAt h' A' S' → Fr h A h' A' → Wd h' (L.set i (.yard y S')) := by
  have W' := W
  obtain ⟨fp, c, ap⟩ := W
  obtain ⟨⟨A, eA, ey, Y⟩, _⟩ := c i _ hi
  refine ⟨A, ey, Y, fun h' A' S' Y' F => ?_⟩
  obtain ⟨fp2, c2, ap2⟩ : Wd h L := ⟨fp, c, ap⟩
  have li := idx_lt hi
  -- the footprint at i is A's own
  refine ⟨fun j => if j = i then A'.own else fp j, fun j u hj => ?_, fun j k hj hk ne b hb hb2 => ?_⟩
  · dsimp only
    by_cases z : j = i
    · subst z
      rw [List.getElem?_set_self li] at hj
      cases hj
      rw [if_pos rfl]
      exact ⟨⟨A', rfl, by rw [F.y, ey], Y'⟩, Y'.lt⟩
    · rw [List.getElem?_set_ne (Ne.symm z)] at hj
      rw [if_neg z]
      obtain ⟨q1, q2⟩ := c j u hj
      refine ⟨Th.same q1 (fun b hb => F.same b (q2 b hb) fun hm => ap j i (idx_lt hj) li z b hb (by rw [← eA]; exact hm)) F.le, fun b hb => Nat.lt_of_lt_of_le (q2 b hb) F.le⟩
  · rw [List.length_set] at hj hk
    dsimp only at hb hb2
    have old : ∀ j, j < L.length → ∀ b ∈ fp j, b < h.n := fun j hj => (c j L[j] (List.getElem?_eq_getElem hj)).2
    by_cases z : j = i
    · rw [if_pos z] at hb
      rw [if_neg (by omega)] at hb2
      rcases F.own b hb with w | w
      · exact ap i k li hk (by omega) b (by rw [← eA]; exact w) hb2
      · have := old k hk b hb2; omega
    · rw [if_neg z] at hb
      by_cases z2 : k = i
      · rw [if_pos z2] at hb2
        rcases F.own b hb2 with w | w
        · exact ap j i hj li z b hb (by rw [← eA]; exact w)
        · have := old j hj b hb; omega
      · rw [if_neg z2] at hb2
        exact ap j k hj hk ne b hb hb2
theorem Wd.ob (W : Wd h L) (hi : L[i]? = some (.ob a o)) : h.g a = some o := by
  obtain ⟨fp, c, _⟩ := W
  exact (c i _ hi).1.2
theorem Wd.lt (W : Wd h L) (hi : L[i]? = some (.ob a o)) : a < h.n := by
  obtain ⟨fp, c, _⟩ := W
  obtain ⟨⟨e, _⟩, l⟩ := c i _ hi
  exact l a (by rw [e]; simp)
theorem Wd.put (W : Wd h L) (hi : L[i]? = some (.ob a o)) (o' : O) : Wd (h.put a o') (L.set i (.ob a o')) := by
  have la := W.lt hi
  refine W.upd hi (Nat.le_refl _) fun F T => ?_
  obtain ⟨rfl, _⟩ := T
  refine ⟨[a], ⟨rfl, if_pos rfl⟩, fun b hb => .inl hb, fun b hb => ?_, fun b _ hb => ?_⟩
  · simp at hb; subst hb; exact la
  · show (if b = a then _ else _) = _
    rw [if_neg (by simpa using hb)]
theorem Wd.ext (W : Wd h L) (e : Ext h h') : Wd h' L := by
  obtain ⟨fp, c, ap⟩ := W
  refine ⟨fp, fun j u hj => ?_, ap⟩
  obtain ⟨q1, q2⟩ := c j u hj
  exact ⟨Th.same q1 (fun b hb => e.same b (q2 b hb)) e.le, fun b hb => Nat.lt_of_lt_of_le (q2 b hb) e.le⟩
/-- a new thing -/
theorem Wd.add {t : Th} {F : List Nat} (W : Wd h L) (e : Ext h h') (T : t.at_ h' F) (hn : ∀ b ∈ F, h.n ≤ b ∧ b < h'.n) : Wd h' (L ++ [t]) := by
  obtain ⟨fp, c, ap⟩ := W
  have old : ∀ j, j < L.length → ∀ b ∈ fp j, b < h.n := fun j hj => (c j L[j] (List.getElem?_eq_getElem hj)).2
  refine ⟨fun j => if j = L.length then F else fp j, fun j u hj => ?_, fun j k hj hk ne b hb hb2 => ?_⟩
  · dsimp only
    have := idx_lt hj
    simp at this
    by_cases z : j = L.length
    · subst z
      simp at hj
      subst hj
      rw [if_pos rfl]
      exact ⟨T, fun b hb => (hn b hb).2⟩
    · rw [if_neg z]
      rw [List.getElem?_append_left (by omega)] at hj
      obtain ⟨q1, q2⟩ := c j u hj
      exact ⟨Th.same q1 (fun b hb => e.same b (q2 b hb)) e.le, fun b hb => Nat.lt_of_lt_of_le (q2 b hb) e.le⟩
  · simp at hj hk
    dsimp only at hb hb2
    by_cases z : j = L.length
    · rw [if_pos z] at hb
      rw [if_neg (by omega)] at hb2
      have := hn b hb; have := old k (by omega) b hb2; omega
    · rw [if_neg z] at hb
      by_cases z2 : k = L.length
      · rw [if_pos z2] at hb2
        have := hn b hb2; have := old j (by omega) b hb; omega
      · rw [if_neg z2] at hb2
        exact ap j k (by omega) (by omega) ne b hb hb2
theorem Wd.new (W : Wd h L) (o : O) : Wd (h.new o) (L ++ [.ob h.n o]) :=
  W.add (F := [h.n]) (.new h o) ⟨rfl, if_pos rfl⟩ fun b hb => by simp at hb; subst hb; exact ⟨Nat.le_refl _, Nat.lt_succ_self _⟩
theorem Wd.nil (h : AH) : Wd h [] := ⟨fun _ => [], fun i t e => by simp at e, fun i j hi => by simp at hi⟩
theorem Wd.ob1 (g : h.g a = some o) (l : a < h.n) : Wd h [.ob a o] := ⟨fun _ => [a], fun i t e => by
  cases i with
  | zero => simp at e; subst e; exact ⟨⟨rfl, g⟩, fun b hb => by simp at hb; subst hb; exact l⟩
  | succ i => simp at e, fun i j hi hj ne => by simp at hi hj; omega⟩
theorem Wd.isY (W : Wd h L) (hi : L[i]? = some (.yard y S)) : isO h y .c_Yard := by
  obtain ⟨fp, c, _⟩ := W
  obtain ⟨⟨A, _, rfl, Y⟩, _⟩ := c i _ hi
  exact ⟨_, Y.o⟩
theorem Wd.isO {c : Nm} {fs : List (Nm × AV)} (W : Wd h L) (hi : L[i]? = some (.ob a (.obj c fs))) : isO h a c := ⟨_, W.ob hi⟩
theorem Wd.isL {xs : List AV} (W : Wd h L) (hi : L[i]? = some (.ob a (.lst xs))) : isL h a := ⟨_, W.ob hi⟩
theorem Wd.isD {t : Bool} {xs : List (AV × AV)} (W : Wd h L) (hi : L[i]? = some (.ob a (.dct t xs))) : isD h a := ⟨_, _, W.ob hi⟩
end
end Rl

set_option linter.all false
set_option autoImplicit false
set_option maxRecDepth 100000
set_option maxHeartbeats 4000000
/-! Meth: the methods, over a world. -/
namespace Rl
section
variable {P : Prg} {d : Nat} {h : AH} {L : List Th} {y : Nat} {S : YS} {k : Tx} {n : Int} {Q : AV → AH → Prop} {X : Nm → AH → Prop}
theorem w_new_rod (H : Has P [.d_Yard_new_rod, .d_good_side] []) (W : Wd h L) (i : Nat) (hi : L[i]? = some (.yard y S)) {s : Int} (hs : s = 1 ∨ s = 2) (hl : S.side.length < LIM)
    (q : ∀ h', Wd h' (L.set i (.yard y { S with nr := S.nr + 1, side := dput S.side (.int S.nr) (.int s), trail := [] })) → Q (.int S.nr) h') : (callD P (d + 2) .d_Yard_new_rod [.ref y, .int s] h).post Q X := by
  obtain ⟨A, rfl, Y, u⟩ := W.yard hi
  obtain ⟨h', A', e, Y', F⟩ := y_new_rod (d := d) H Y hs hl
  exact post_of e (q _ (u _ _ _ Y' F))
theorem w_lay_plain (H : Has P layL layM) (W : Wd h L) (i : Nat) (hi : L[i]? = some (.yard y S)) (hk : Kd k n) (h3 : n ≠ 3) {note : Int} {rod : AV} (hb : k = kBell → 0 ≤ note ∧ note ≤ 9999) (l1 : S.kind.length < LIM) (l2 : S.note.length < LIM)
    (q : ∀ h', Wd h' (L.set i (.yard y (S.laid k (.int note)))) → Q (.int S.np) h') : (callD P (d + 3) .d_Yard_lay [.ref y, .str k, .int note, rod] h).post Q X := by
  obtain ⟨A, rfl, Y, u⟩ := W.yard hi
  obtain ⟨h', A', e, Y', F⟩ := y_lay_plain (d := d) H Y hk h3 note rod hb l1 l2
  exact post_of e (q _ (u _ _ _ Y' F))
theorem w_lay_on (H : Has P layL layM) (W : Wd h L) (i : Nat) (hi : L[i]? = some (.yard y S)) (hk : Kd k 3) {note : AV} {b : Int} (hb : (dlook S.side (.int b)).isSome = true) (l1 : S.kind.length < LIM) (l2 : S.rod.length < LIM)
    (q : ∀ h', Wd h' (L.set i (.yard y (S.pointed k (.int b)))) → Q (.int S.np) h') : (callD P (d + 3) .d_Yard_lay [.ref y, .str k, note, .int b] h).post Q X := by
  obtain ⟨A, rfl, Y, u⟩ := W.yard hi
  obtain ⟨h', A', e, Y', F⟩ := y_lay_on (d := d) H Y hk note b hb l1 l2
  exact post_of e (q _ (u _ _ _ Y' F))
theorem w_lay_new (H : Has P layL layM) (hdfl : P.cl.dfl .d_Yard_new_rod = [.int 1]) (W : Wd h L) (i : Nat) (hi : L[i]? = some (.yard y S)) (hk : Kd k 3) {note : AV} (l1 : S.kind.length < LIM) (l2 : S.rod.length < LIM) (l3 : S.side.length < LIM)
    (q : ∀ h', Wd h' (L.set i (.yard y (S.ownRod k))) → Q (.int S.np) h') : (callD P (d + 3) .d_Yard_lay [.ref y, .str k, note, .non] h).post Q X := by
  obtain ⟨A, rfl, Y, u⟩ := W.yard hi
  obtain ⟨h', A', e, Y', F⟩ := y_lay_new (d := d) H hdfl Y hk note l1 l2 l3
  exact post_of e (q _ (u _ _ _ Y' F))
/-- the lay of any kind with nothing told of a rod -/
def YS.lay0 (S : YS) (k : Tx) (n : Int) (note : AV) : YS := if n = 3 then S.ownRod k else S.laid k note
theorem w_lay (H : Has P layL layM) (hdfl : P.cl.dfl .d_Yard_new_rod = [.int 1]) (W : Wd h L) (i : Nat) (hi : L[i]? = some (.yard y S)) (hk : Kd k n) {note : Int} (hb : k = kBell → 0 ≤ note ∧ note ≤ 9999) (l1 : S.kind.length < LIM) (l2 : S.rod.length < LIM) (l3 : S.side.length < LIM) (l4 : S.note.length < LIM)
    (q : ∀ h', Wd h' (L.set i (.yard y (S.lay0 k n (.int note)))) → Q (.int S.np) h') : (callD P (d + 3) .d_Yard_lay [.ref y, .str k, .int note, .non] h).post Q X := by
  unfold YS.lay0 at q
  by_cases c : n = 3
  · subst c
    rw [if_pos rfl] at q
    exact w_lay_new H hdfl W i hi hk l1 l2 l3 q
  · rw [if_neg c] at q
    exact w_lay_plain H W i hi hk c hb l1 l4 q
theorem w_throw (H : Has P [.d_Yard_throw, .d_Yard_look_rod, .d_good_side] [(.f_look_rod, .d_Yard_look_rod)]) (W : Wd h L) (i : Nat) (hi : L[i]? = some (.yard y S)) {b s : Int} (hb : (dlook S.side (.int b)).isSome = true) (hs : s = 1 ∨ s = 2) (hl : S.side.length < LIM)
    (q : ∀ h', Wd h' (L.set i (.yard y { S with side := dput S.side (.int b) (.int s), trail := [] })) → Q .non h') : (callD P (d + 2) .d_Yard_throw [.ref y, .int b, .int s] h).post Q X := by
  obtain ⟨A, rfl, Y, u⟩ := W.yard hi
  obtain ⟨h', A', e, Y', F⟩ := y_throw (d := d) H Y hb hs hl
  exact post_of e (q _ (u _ _ _ Y' F))
def YS.linked (S : YS) (p e q f : Int) : YS := { S with mate := dput (dput S.mate (.tup [.int p, .int e]) (.tup [.int q, .int f])) (.tup [.int q, .int f]) (.tup [.int p, .int e]), trail := [] }
theorem w_link (H : Has P (.d_Yard_link :: endL) ((.f_look_end, .d_Yard_look_end) :: endM)) (W : Wd h L) (i : Nat) (hi : L[i]? = some (.yard y S)) {p e q f : Int} {k2 : Tx} {n2 : Int} (hp : dlook S.kind (.int p) = some (.str k)) (hk : Kd k n) (h0 : 0 ≤ e) (h1 : e < n)
    (hq : dlook S.kind (.int q) = some (.str k2)) (hk2 : Kd k2 n2) (h2 : 0 ≤ f) (h3 : f < n2) (hne : ¬ (p = q ∧ e = f)) (f1 : dlook S.mate (.tup [.int p, .int e]) = none) (f2 : dlook S.mate (.tup [.int q, .int f]) = none) (hl : S.mate.length + 1 < LIM)
    (k : ∀ h', Wd h' (L.set i (.yard y (S.linked p e q f))) → Q .non h') : (callD P (d + 3) .d_Yard_link [.ref y, .tup [.int p, .int e], .tup [.int q, .int f]] h).post Q X := by
  obtain ⟨A, rfl, Y, u⟩ := W.yard hi
  obtain ⟨h', A', e, Y', F⟩ := y_link (d := d) H Y hp hk h0 h1 hq hk2 h2 h3 hne f1 f2 hl
  exact post_of e (k _ (u _ _ _ Y' F))
theorem w_put (H : Has P (.d_Yard_put :: endL) ((.f_look_end, .d_Yard_look_end) :: endM)) (W : Wd h L) (i : Nat) (hi : L[i]? = some (.yard y S)) {p e : Int} (hp : dlook S.kind (.int p) = some (.str k)) (hk : Kd k n) (h0 : 0 ≤ e) (h1 : e < n)
    (q : ∀ h', Wd h' (L.set i (.yard y { S with at_ := .tup [.int p, .int e], trail := [] })) → Q .non h') : (callD P (d + 3) .d_Yard_put [.ref y, .tup [.int p, .int e]] h).post Q X := by
  obtain ⟨A, rfl, Y, u⟩ := W.yard hi
  obtain ⟨h', A', e, Y', F⟩ := y_put (d := d) H Y hp hk h0 h1
  exact post_of e (q _ (u _ _ _ Y' F))
/-! what is asked -/
theorem w_side (H : Has P [.d_Yard_side, .d_Yard_look_rod] [(.f_look_rod, .d_Yard_look_rod)]) (W : Wd h L) (i : Nat) (hi : L[i]? = some (.yard y S)) {b : Int} {v : AV} (hb : dlook S.side (.int b) = some v) : callD P (d + 2) .d_Yard_side [.ref y, .int b] h = .ok v h := by
  obtain ⟨A, rfl, Y, u⟩ := W.yard hi
  exact y_side H Y hb
theorem w_rod (H : Has P [.d_Yard_rod, .d_Yard_look_piece] [(.f_look_piece, .d_Yard_look_piece)]) (W : Wd h L) (i : Nat) (hi : L[i]? = some (.yard y S)) {b : Int} {v : AV} (hk : (dlook S.kind (.int b)).isSome = true) (hb : dlook S.rod (.int b) = some v) : callD P (d + 2) .d_Yard_rod [.ref y, .int b] h = .ok v h := by
  obtain ⟨A, rfl, Y, u⟩ := W.yard hi
  exact y_rod H Y hk hb
theorem w_kind (H : Has P [.d_Yard_kind, .d_Yard_look_piece] [(.f_look_piece, .d_Yard_look_piece)]) (W : Wd h L) (i : Nat) (hi : L[i]? = some (.yard y S)) {b : Int} {v : AV} (hb : dlook S.kind (.int b) = some v) : callD P (d + 2) .d_Yard_kind [.ref y, .int b] h = .ok v h := by
  obtain ⟨A, rfl, Y, u⟩ := W.yard hi
  exact y_kind H Y hb
theorem w_engine (H : P.fn .d_Yard_engine = Y.std .d_Yard_engine) (W : Wd h L) (i : Nat) (hi : L[i]? = some (.yard y S)) : callD P (d + 1) .d_Yard_engine [.ref y] h = .ok S.at_ h := by
  obtain ⟨A, rfl, Y, u⟩ := W.yard hi
  exact y_engine H Y
theorem w_steps (H : P.fn .d_Yard_steps = Y.std .d_Yard_steps) (W : Wd h L) (i : Nat) (hi : L[i]? = some (.yard y S)) : callD P (d + 1) .d_Yard_steps [.ref y] h = .ok (.int S.trail.length) h := by
  obtain ⟨A, rfl, Y, u⟩ := W.yard hi
  exact y_steps H Y
theorem w_bells (H : P.fn .d_Yard_bells = Y.std .d_Yard_bells) (W : Wd h L) (i : Nat) (hi : L[i]? = some (.yard y S)) : callD P (d + 1) .d_Yard_bells [.ref y] h = .ok (.ref h.n) (h.new (.lst S.rung)) := by
  obtain ⟨A, rfl, Y, u⟩ := W.yard hi
  exact y_bells H Y
theorem w_mate (H : Has P (.d_Yard_mate :: endL) ((.f_look_end, .d_Yard_look_end) :: endM)) (W : Wd h L) (i : Nat) (hi : L[i]? = some (.yard y S)) {p e : Int} (hp : dlook S.kind (.int p) = some (.str k)) (hk : Kd k n) (h0 : 0 ≤ e) (h1 : e < n) :
    callD P (d + 3) .d_Yard_mate [.ref y, .tup [.int p, .int e]] h = .ok ((dlook S.mate (.tup [.int p, .int e])).getD .non) h := by
  obtain ⟨A, rfl, Y, u⟩ := W.yard hi
  exact y_mate H Y hp hk h0 h1
theorem w_held_off (H : P.fn .d_held = Y.std .d_held) (W : Wd h L) (i : Nat) (hi : L[i]? = some (.yard y S)) (ha : S.at_ = .non) : callD P (d + 1) .d_held [.ref y] h = .ok (.str [110, 111, 110, 101]) h := by
  obtain ⟨A, rfl, Y, u⟩ := W.yard hi
  exact y_held_off H Y ha
theorem w_held (H : Has P heldL []) (W : Wd h L) (i : Nat) (hi : L[i]? = some (.yard y S)) {p e s : Int} (ha : S.at_ = .tup [.int p, .int e]) (hp : dlook S.kind (.int p) = some (.str k)) (hk : Kd k n) (h0 : 0 ≤ e) (h1 : e < n) (hs : S.sideAt p s) (h3 : n = 3 → s = 1 ∨ s = 2) :
    callD P (d + 4) .d_held [.ref y] h = .ok (heldV S.mate p (pas k e s).1) h := by
  obtain ⟨A, rfl, Y, u⟩ := W.yard hi
  exact y_held H Y ha hp hk h0 h1 hs h3
/-- one step done: what has to stand ahead of it -/
structure CanGo (S : YS) (p e s i : Int) (k : Tx) (n : Int) (m : AV) : Prop where
  ha : S.at_ = .tup [.int p, .int e]
  hp : dlook S.kind (.int p) = some (.str k)
  hk : Kd k n
  h0 : 0 ≤ e
  h1 : e < n
  hs : S.sideAt p s
  h3 : n = 3 → s = 1 ∨ s = 2
  hi : (pas k e s).1 = .int i
  hm : dlook S.mate (.tup [.int p, .int i]) = some m
  l2 : S.side.length < LIM
/-- the engine is held -/
structure IsHeld (S : YS) (p e s : Int) (k : Tx) (n : Int) : Prop where
  ha : S.at_ = .tup [.int p, .int e]
  hp : dlook S.kind (.int p) = some (.str k)
  hk : Kd k n
  h0 : 0 ≤ e
  h1 : e < n
  hs : S.sideAt p s
  h3 : n = 3 → s = 1 ∨ s = 2
  hh : heldV S.mate p (pas k e s).1 ≠ .non
theorem w_step (H : Has P stepL []) (W : Wd h L) (i : Nat) (hi : L[i]? = some (.yard y S)) {p e s o : Int} {m : AV} (C : CanGo S p e s o k n m) (l1 : S.trail.length < LIM) (l3 : S.rung.length < LIM) (q : ∀ h', Wd h' (L.set i (.yard y (S.stepped p e s (pas k e s).2 m))) → Q (.bl true) h') : (callD P (d + 5) .d_step [.ref y] h).post Q X := by
  obtain ⟨A, rfl, Y, u⟩ := W.yard hi
  obtain ⟨h', e, Y', F⟩ := y_step (d := d) H Y C.ha C.hp C.hk C.h0 C.h1 C.hs C.h3 C.hi C.hm l1 C.l2 l3
  exact post_of e (q _ (u _ _ _ Y' F))
theorem w_step_not (H : Has P stepL []) (W : Wd h L) (i : Nat) (hi : L[i]? = some (.yard y S)) {p e s : Int} (C : IsHeld S p e s k n) : callD P (d + 5) .d_step [.ref y] h = .ok (.bl false) h := by
  obtain ⟨A, rfl, Y, u⟩ := W.yard hi
  exact y_step_not H Y C.ha C.hp C.hk C.h0 C.h1 C.hs C.h3 C.hh
theorem w_step_off (H : Has P stepL []) (W : Wd h L) (i : Nat) (hi : L[i]? = some (.yard y S)) (ha : S.at_ = .non) : callD P (d + 2) .d_step [.ref y] h = .ok (.bl false) h := by
  rw [callD_eq (H.fn .d_step (by simp)) rfl]
  have e1 := w_held_off (d := d) (H.fn .d_held (by simp)) W i hi ha
  show toR (ex P.cl (callD P (d + 1)) Rl.Y.B_step [some (.ref y), none, none, none, none] h) = _
  simp [Rl.Y.B_step, e1]
/-- one more step of a walk -/
def YS.goes (S S' : YS) : Prop := ∃ p e s o k n m, CanGo S p e s o k n m ∧ S' = S.stepped p e s (pas k e s).2 m
/-- no more step -/
def YS.stays (S : YS) : Prop := S.at_ = .non ∨ ∃ p e s k n, IsHeld S p e s k n
theorem w_stays (H : Has P stepL []) (W : Wd h L) (i : Nat) (hi : L[i]? = some (.yard y S)) (C : S.stays) : callD P (d + 5) .d_step [.ref y] h = .ok (.bl false) h := by
  rcases C with C | ⟨p, e, s, k, n, C⟩
  · exact w_step_off (d := d + 3) H W i hi C
  · exact w_step_not H W i hi C
/-- a run: the yards on the way -/
theorem w_run (H : Has P (.d_run :: stepL) []) (W : Wd h L) (i : Nat) (hi : L[i]? = some (.yard y S)) (f : Nat → YS) (hf : f 0 = S) (m : Nat) {most : Int} (hs : ∀ j, j < m → (f j).goes (f (j + 1)))
    (he : most ≤ (m : Int) ∨ (f m).stays) (hm : (m : Int) ≤ most ∨ m = 0) (hw : m < 100000) (l1 : S.trail.length + m < LIM) (l3 : S.rung.length + m < LIM)
    (q : ∀ h', Wd h' (L.set i (.yard y (f m))) → Q (.int (m : Nat)) h') : (callD P (d + 6) .d_run [.ref y, .int most] h).post Q X := by
  rw [call_wp (H.fn .d_run (by simp)) rfl]
  have li := idx_lt hi
  have hL : L.set i (.yard y S) = L := by
    apply List.ext_getElem? fun j => ?_
    by_cases z : j = i
    · subst z; rw [List.getElem?_set_self li, hi]
    · rw [List.getElem?_set_ne (Ne.symm z)]
  have HS : Has P stepL [] := H.sub (by simp) (by simp)
  have len : ∀ j, j ≤ m → (f j).trail.length = S.trail.length + j ∧ (f j).rung.length ≤ S.rung.length + j := by
    intro j
    induction j with
    | zero => intro _; rw [hf]; exact ⟨rfl, Nat.le_refl _⟩
    | succ j ih =>
      intro hj
      obtain ⟨t1, t2⟩ := ih (by omega)
      obtain ⟨p, e, s, o, k, n, m', C, e2⟩ := hs j (by omega)
      rw [e2]
      refine ⟨by simp [YS.stepped]; omega, ?_⟩
      show (YS.rungTo (f j) p).length ≤ _
      unfold YS.rungTo
      split
      · rw [List.length_append]; simp; omega
      · omega
  show wpS P.cl (callD P (d + 5)) Rl.Y.B_run [some (.ref y), some (.int most), none] h _ _ _
  unfold Rl.Y.B_run
  simp only [wpS_seq, wpS_asg, wpE_int, lz_2, bindT, List.length_cons, List.length_nil, Nat.reduceAdd, Nat.reduceLT, if_true, List.set_cons_succ, List.set_cons_zero, optP_some, lz_1]
  refine while_inv (fun k σ h => ∃ j, j + k = m ∧ Wd h (L.set i (.yard y (f j))) ∧ σ = [some (.ref y), some (.int most), some (.int (j : Nat))]) m (by unfold WL; omega) (fun k σ h hI => ?_) ⟨0, by omega, by rw [hf, hL]; exact W, rfl⟩
  obtain ⟨j, hj, W1, rfl⟩ := hI
  by_cases c : (j : Int) < most
  · by_cases c2 : j < m
    · simp only [wpE_and, wpE_op, wpE_slotS, wpE_slot0, lz_2, op_lt', post_ok, decide_eq_true c, bP_t, wpE_call, wpEs_cons, wpEs_nil]
      obtain ⟨p, e, s, o, k', n, m', C, e2⟩ := hs j c2
      obtain ⟨t1, t2⟩ := len j (by omega)
      refine w_step (d := d) HS W1 i (by simp [li]) C (by omega) (by omega) fun h2 W2 => ?_
      refine .inl ⟨rfl, k - 1, by omega, ?_⟩
      simp only [wpS_seq, wpS_asg, wpE_op, wpE_slotS, wpE_slot0, wpE_int, lz_2, op_add', post_ok, bindT, List.length_cons, List.length_nil, Nat.reduceAdd, Nat.reduceLT, if_true, List.set_cons_succ, List.set_cons_zero, optP_some, lz_1, wpS_nil]
      refine ⟨j + 1, by omega, ?_, by simp⟩
      rw [List.set_set] at W2
      rw [e2]
      exact W2
    · have : j = m := by omega
      subst this
      rcases he with z | z
      · omega
      · have := w_stays (d := d) (y := y) (S := f j) HS W1 i (by simp [li]) z
        simp only [wpE_and, wpE_op, wpE_slotS, wpE_slot0, lz_2, op_lt', post_ok, decide_eq_true c, bP_t, wpE_call, wpEs_cons, wpEs_nil, this, wpS_ret, wpS_nil, wpS_seq]
        exact .inr ⟨trivial, q _ W1⟩
  · have : j = m := by omega
    subst this
    simp only [wpE_and, wpE_op, wpE_slotS, wpE_slot0, lz_2, op_lt', post_ok, decide_eq_false c, bP_f, wpS_ret, wpS_nil, wpS_seq]
    exact .inr ⟨trivial, q _ W1⟩
end
end Rl

set_option linter.all false
set_option autoImplicit false
set_option maxRecDepth 100000
set_option maxHeartbeats 4000000
/-! Go: the steps of a law's text. -/
namespace Rl
/-- a drawn number -/
def dr (l : List Int) (i : Int) : Int := (l[i.toNat]?).getD 0
theorem item_dr {l : List Int} {n : Nat} (hl : l.length = n) {h : AH} {i : Int} (g : h.g 2 = some (.lst (l.map .int))) (h0 : 0 ≤ i) (h1 : i < n) : op2 .item (.ref 2) (.int i) h = .ok (.int (dr l i)) h := by
  refine op_item_lst g ?_
  have h2 : i.toNat < l.length := by omega
  simp [atI, ixN, h0, hl, h1, dr, h2]
theorem dr_nn {l : List Int} (hd : ∀ x ∈ l, 0 ≤ x) (i : Int) : 0 ≤ dr l i := by
  unfold dr
  cases e : l[i.toNat]? with
  | none => simp
  | some x => exact hd x (List.mem_of_getElem? e)
theorem at_list {h : AH} {a : Nat} {xs : List AV} {i : Int} {v : AV} (g : h.g a = some (.lst xs)) (e : atI xs i = some v) : op2 .item (.ref a) (.int i) h = .ok v h := op_item_lst g e
theorem lim_le {n : Nat} (e : n ≤ 16777216) : n ≤ LIM := e
theorem lim_lt {n : Nat} (e : n < 16777216) : n < LIM := e
theorem smf_l {i j : Int} (a : -(2 ^ 64) < i) (b : i < 2 ^ 64) : (smallF i || smallF j) = true := by simp [smallF]; omega
theorem smf_r {i j : Int} (a : -(2 ^ 64) < j) (b : j < 2 ^ 64) : (smallF i || smallF j) = true := by simp [smallF]; omega
@[simp] theorem ne_kLine_kBell : (kLine = kBell) = False := by decide +kernel
@[simp] theorem ne_kLine_kStop : (kLine = kStop) = False := by decide +kernel
@[simp] theorem ne_kLine_kStill : (kLine = kStill) = False := by decide +kernel
@[simp] theorem ne_kLine_kLazy : (kLine = kLazy) = False := by decide +kernel
@[simp] theorem ne_kLine_kTurn : (kLine = kTurn) = False := by decide +kernel
@[simp] theorem ne_kBell_kLine : (kBell = kLine) = False := by decide +kernel
@[simp] theorem ne_kBell_kStop : (kBell = kStop) = False := by decide +kernel
@[simp] theorem ne_kBell_kStill : (kBell = kStill) = False := by decide +kernel
@[simp] theorem ne_kBell_kLazy : (kBell = kLazy) = False := by decide +kernel
@[simp] theorem ne_kBell_kTurn : (kBell = kTurn) = False := by decide +kernel
@[simp] theorem ne_kStop_kLine : (kStop = kLine) = False := by decide +kernel
@[simp] theorem ne_kStop_kBell : (kStop = kBell) = False := by decide +kernel
@[simp] theorem ne_kStop_kStill : (kStop = kStill) = False := by decide +kernel
@[simp] theorem ne_kStop_kLazy : (kStop = kLazy) = False := by decide +kernel
@[simp] theorem ne_kStop_kTurn : (kStop = kTurn) = False := by decide +kernel
@[simp] theorem ne_kStill_kLine : (kStill = kLine) = False := by decide +kernel
@[simp] theorem ne_kStill_kBell : (kStill = kBell) = False := by decide +kernel
@[simp] theorem ne_kStill_kStop : (kStill = kStop) = False := by decide +kernel
@[simp] theorem ne_kStill_kLazy : (kStill = kLazy) = False := by decide +kernel
@[simp] theorem ne_kStill_kTurn : (kStill = kTurn) = False := by decide +kernel
@[simp] theorem ne_kLazy_kLine : (kLazy = kLine) = False := by decide +kernel
@[simp] theorem ne_kLazy_kBell : (kLazy = kBell) = False := by decide +kernel
@[simp] theorem ne_kLazy_kStop : (kLazy = kStop) = False := by decide +kernel
@[simp] theorem ne_kLazy_kStill : (kLazy = kStill) = False := by decide +kernel
@[simp] theorem ne_kLazy_kTurn : (kLazy = kTurn) = False := by decide +kernel
@[simp] theorem ne_kTurn_kLine : (kTurn = kLine) = False := by decide +kernel
@[simp] theorem ne_kTurn_kBell : (kTurn = kBell) = False := by decide +kernel
@[simp] theorem ne_kTurn_kStop : (kTurn = kStop) = False := by decide +kernel
@[simp] theorem ne_kTurn_kStill : (kTurn = kStill) = False := by decide +kernel
@[simp] theorem ne_kTurn_kLazy : (kTurn = kLazy) = False := by decide +kernel
theorem isL_new {h : AH} {xs : List AV} : isL (h.new (.lst xs)) h.n := ⟨xs, new_at _ _⟩
theorem it_0 {h : AH} {a : AV} {l : List AV} : op2 .item (.tup (a :: l)) (.int 0) h = .ok a h := by
  have : atI (a :: l) 0 = some a := by simp [atI, ixN]
  simp [op2, opItem, this]
theorem it_1 {h : AH} {a b : AV} {l : List AV} : op2 .item (.tup (a :: b :: l)) (.int 1) h = .ok b h := by
  have : atI (a :: b :: l) 1 = some b := by
    have z : (1 : Int) < ((a :: b :: l).length : Nat) := by simp only [List.length_cons]; omega
    unfold atI ixN; rw [if_pos (by decide), if_pos z]; rfl
  simp [op2, opItem, this]
theorem it_2 {h : AH} {a b c : AV} {l : List AV} : op2 .item (.tup (a :: b :: c :: l)) (.int 2) h = .ok c h := by
  have : atI (a :: b :: c :: l) 2 = some c := by
    have z : (2 : Int) < ((a :: b :: c :: l).length : Nat) := by simp only [List.length_cons]; omega
    unfold atI ixN; rw [if_pos (by decide), if_pos z]; rfl
  simp [op2, opItem, this]
theorem ne_str {a b : Tx} {h : AH} (ha : strOk a = true) (hb : strOk b = true) : op2 .ne (.str a) (.str b) h = .ok (.bl (!decide (a = b))) h := by
  have : PySem.PyData.eqv (.str ⟨a.toArray⟩) (.str ⟨b.toArray⟩) = decide (a = b) := by
    rw [← str_beq]; rfl
  simp [op2, opEq, eqA, toD, ha, hb, this]
section
variable {h : AH} {k : Tx} {n : Int} (hk : Kd k n)
include hk
theorem eq_kline : op2 .eq (.str k) (.str [108, 105, 110, 101]) h = .ok (.bl (decide (k = kLine))) h := eq_str hk.ok rfl
theorem eq_kbell : op2 .eq (.str k) (.str [98, 101, 108, 108]) h = .ok (.bl (decide (k = kBell))) h := eq_str hk.ok rfl
theorem eq_kstop : op2 .eq (.str k) (.str [115, 116, 111, 112]) h = .ok (.bl (decide (k = kStop))) h := eq_str hk.ok rfl
theorem eq_kstill : op2 .eq (.str k) (.str [115, 116, 105, 108, 108]) h = .ok (.bl (decide (k = kStill))) h := eq_str hk.ok rfl
theorem eq_klazy : op2 .eq (.str k) (.str [108, 97, 122, 121]) h = .ok (.bl (decide (k = kLazy))) h := eq_str hk.ok rfl
theorem eq_kturn : op2 .eq (.str k) (.str [116, 117, 114, 110, 105, 110, 103]) h = .ok (.bl (decide (k = kTurn))) h := eq_str hk.ok rfl
end
theorem walk_r1 {n : Int} {h : AH} (a : -(2 ^ 62) ≤ n) (b : n < 2 ^ 62) : walk .rng1 [.int n] h = some (rgI 0 n, []) := by
  have : smallR n = true := by simp [smallR]; omega
  simp [walk, wkR1, this]
theorem walk_r2 {m n : Int} {h : AH} (a : -(2 ^ 62) ≤ n) (b : n < 2 ^ 62) (a' : -(2 ^ 62) ≤ m) (b' : m < 2 ^ 62) : walk .rng2 [.int m, .int n] h = some (rgI m n, []) := by
  have h1 : smallR n = true := by simp [smallR]; omega
  have h2 : smallR m = true := by simp [smallR]; omega
  simp [walk, wkR2, h1, h2]
theorem newL_ok {h : AH} {xs : List AV} (e : xs.length ≤ LIM) : newL h xs = .ok (.ref h.n) (h.new (.lst xs)) := by simp [newL, e]
theorem three_kd {i : Int} (h0 : 0 ≤ i) (h1 : i < 3) : ∃ k, atI [AV.str [115, 116, 105, 108, 108], AV.str [108, 97, 122, 121], AV.str [116, 117, 114, 110, 105, 110, 103]] i = some (AV.str k) ∧ Kd k 3 := by
  have : i = 0 ∨ i = 1 ∨ i = 2 := by omega
  rcases this with rfl | rfl | rfl
  · exact ⟨_, rfl, .still⟩
  · exact ⟨_, rfl, .lazy⟩
  · exact ⟨_, rfl, .turn⟩
/-- what Yard() does -/
theorem w_make {P : Prg} {d : Nat} (H : Has P [.d_Yard_init] []) (hi : P.cl.init .c_Yard = some .d_Yard_init) {h : AH} {L : List Th} (W : Wd h L) {σ : Sl} {Q : AV → AH → Prop} {X : Nm → AH → Prop}
    (q : ∀ h' y, Wd h' (L ++ [.yard y YS0]) → Q (.ref y) h') : wpE P.cl (callD P (d + 1)) (.make .c_Yard .nil) σ h Q X := by
  obtain ⟨h', A, e, Y, le, fr, ow⟩ := y_make (d := d) (h := h) (σ := σ) H hi
  exact post_of e (q _ _ (W.add (F := A.own) ⟨le, fr⟩ ⟨A, rfl, rfl, Y⟩ fun b hb => ⟨ow b hb, Y.lt b hb⟩))
theorem w_append {h : AH} {L : List Th} (W : Wd h L) (i : Nat) {a : Nat} {xs : List AV} {v : AV} (hi : L[i]? = some (.ob a (.lst xs))) (hl : xs.length < LIM) {Q : AV → AH → Prop} {X : Nm → AH → Prop}
    (q : ∀ h', Wd h' (L.set i (.ob a (.lst (xs ++ [v])))) → Q .non h') : (primM .append .list (.ref a) [v] h).post Q X := by
  have g := W.ob hi
  have : primM .append .list (.ref a) [v] h = .ok .non (h.put a (.lst (xs ++ [v]))) := by simp [primM, g, mAppend, hl]
  exact post_of this (q _ (W.put hi _))
/-! the laws' own helpers, as equations -/
section
variable {P : Prg} {d : Nat} {h : AH} {Q : AV → AH → Prop} {X : Nm → AH → Prop}
theorem l_end_eq (H : Has P [.d__law_is_end, .d__law_is, .d__law_whole] []) (a b c e : Int) : callD P (d + 3) .d__law_is_end [.tup [.int a, .int b], .tup [.int c, .int e]] h = .ok (.bl (decide (a = c) && decide (b = e))) h := by
  rw [callD_eq (H.fn .d__law_is_end (by simp)) rfl]
  have e1 := fun a b => l_is (P := P) (d := d) (h := h) (H.sub (by simp) (by simp)) a b
  have i0 : ∀ a b : Int, op2 .item (.tup [.int a, .int b]) (.int 0) h = .ok (.int a) h := fun _ _ => rfl
  have i1 : ∀ a b : Int, op2 .item (.tup [.int a, .int b]) (.int 1) h = .ok (.int b) h := fun _ _ => rfl
  have l1 : ∀ a b : Int, primB .len [.tup [.int a, .int b]] h = .ok (.int 2) h := fun _ _ => rfl
  show toR (ex P.cl (callD P (d + 2)) Y.B__law_is_end [some (.tup [.int a, .int b]), some (.tup [.int c, .int e])] h) = _
  by_cases z : a = c <;> simp [Y.B__law_is_end, tyOf, isTy, l1, i0, i1, e1, z]
theorem w_row (H : Has P [.d__law_is_row, .d__law_is, .d__law_whole] []) {L : List Th} (W : Wd h L) {a b : Nat} {xs : List Int} (ha : h.g a = some (.lst (xs.map .int))) (hb : h.g b = some (.lst (xs.map .int))) (la : a < h.n) (lb : b < h.n) (hl : xs.length < LIM)
    (q : ∀ h', Ext h h' → Wd h' L → Q (.bl true) h') : (callD P (d + 3) .d__law_is_row [.ref a, .ref b] h).post Q X := by
  obtain ⟨h', e, x⟩ := l_row (d := d) H ha hb la lb hl
  exact post_of e (q _ x (W.ext x))
end
end Rl

set_option Elab.async false
set_option linter.all false
set_option maxRecDepth 100000
set_option autoImplicit false
set_option maxHeartbeats 4000000
/-! k12: the own terms, the tables. Printed by gen.py. -/
namespace Rl.K12
open PySem PySem.Spec PyProof.Rows L2
def top (i : Nat) : Stmt := PySem.Challenge.pw_lazyrails_k12_one_step.main.body.getD i (.Pass ⟨0, 0, 0, 0⟩)
def K_ENDS : List (Tx × Int) := Rl.Y.K_ENDS
def B_law_1 : Rl.S := (.seq (.asg (.one 7) (.meth (.slot 5) .f_lay (.cons (.str [108, 105, 110, 101]) .nil) [.int 0, .non]))
  (.seq (.exp (.meth (.slot 5) .f_link (.cons (.tup (.cons (.slot 7) (.cons (.op .mod (.op .item (.slot 1) (.int (2))) (.int (2))) .nil))) (.cons (.tup (.cons (.int (0)) (.cons (.slot 6) .nil))) .nil)) []))
  .nil))
def B_ends_of : Rl.S := Rl.Y.B_ends_of
def B_is_point : Rl.S := Rl.Y.B_is_point
def B_good_side : Rl.S := Rl.Y.B_good_side
def B_by_stem : Rl.S := Rl.Y.B_by_stem
def B_by_arm : Rl.S := Rl.Y.B_by_arm
def B_passage : Rl.S := Rl.Y.B_passage
def B_side_at : Rl.S := Rl.Y.B_side_at
def B_way_out : Rl.S := Rl.Y.B_way_out
def B_held : Rl.S := Rl.Y.B_held
def B_step : Rl.S := Rl.Y.B_step
def B_run : Rl.S := Rl.Y.B_run
def B_Yard_init : Rl.S := Rl.Y.B_Yard_init
def B_Yard_look_piece : Rl.S := Rl.Y.B_Yard_look_piece
def B_Yard_look_end : Rl.S := Rl.Y.B_Yard_look_end
def B_Yard_look_rod : Rl.S := Rl.Y.B_Yard_look_rod
def B_Yard_lay : Rl.S := Rl.Y.B_Yard_lay
def B_Yard_new_rod : Rl.S := Rl.Y.B_Yard_new_rod
def B_Yard_link : Rl.S := Rl.Y.B_Yard_link
def B_Yard_throw : Rl.S := Rl.Y.B_Yard_throw
def B_Yard_put : Rl.S := Rl.Y.B_Yard_put
def B_Yard_rod : Rl.S := Rl.Y.B_Yard_rod
def B_Yard_side : Rl.S := Rl.Y.B_Yard_side
def B_Yard_engine : Rl.S := Rl.Y.B_Yard_engine
def B_Yard_bells : Rl.S := Rl.Y.B_Yard_bells
def B_Yard_steps : Rl.S := Rl.Y.B_Yard_steps
def B__law_draws : Rl.S := Rl.Y.B__law_draws
def B__law_whole : Rl.S := Rl.Y.B__law_whole
def B__law_is : Rl.S := Rl.Y.B__law_is
def B__law_is_end : Rl.S := Rl.Y.B__law_is_end
def B__law_is_row : Rl.S := Rl.Y.B__law_is_row
def B__law_kinds : Rl.S := Rl.Y.B__law_kinds
def B__law_many : Rl.S := Rl.Y.B__law_many
def B__law_passing : Rl.S := Rl.Y.B__law_passing
def B_law : Rl.S := (.seq (.asg (.one 1) (.call .d__law_draws (.cons (.slot 0) (.cons (.int (8)) .nil))))
  (.seq (.asg (.one 2) (.op .item (.call .d__law_kinds .nil) (.op .mod (.op .item (.slot 1) (.int (0))) (.int (6)))))
  (.seq (.asg (.one 3) (.op .mod (.op .item (.slot 1) (.int (1))) (.int (10000))))
  (.seq (.asg (.one 4) (.call .d__law_many (.cons (.slot 2) .nil)))
  (.seq (.asg (.one 5) (.make .c_Yard .nil))
  (.seq (.exp (.meth (.slot 5) .f_lay (.cons (.slot 2) (.cons (.slot 3) .nil)) [.non]))
  (.seq (.for (.one 6) .rng1 (.cons (.slot 4) .nil) B_law_1)
  (.seq (.asg (.one 8) (.op .add (.int (1)) (.op .mod (.op .item (.slot 1) (.int (3))) (.int (2)))))
  (.seq (.ite (.op .eq (.slot 4) (.int (3))) (.seq (.exp (.meth (.slot 5) .f_lay (.cons (.op .item (.lst (.cons (.str [115, 116, 105, 108, 108]) (.cons (.str [108, 97, 122, 121]) (.cons (.str [116, 117, 114, 110, 105, 110, 103]) .nil)))) (.op .mod (.op .item (.slot 1) (.int (4))) (.int (3)))) (.cons (.int (0)) (.cons (.int (0)) .nil))) []))
  (.seq (.exp (.meth (.slot 5) .f_throw (.cons (.int (0)) (.cons (.slot 8) .nil)) []))
  .nil)) .nil)
  (.seq (.asg (.one 9) (.tup (.cons (.int (0)) (.cons (.op .mod (.op .item (.slot 1) (.int (5))) (.slot 4)) .nil))))
  (.seq (.exp (.meth (.slot 5) .f_put (.cons (.slot 9) .nil) []))
  (.seq (.asg (.tup [10, 11]) (.call .d__law_passing (.cons (.slot 2) (.cons (.op .item (.slot 9) (.int (1))) (.cons (.slot 8) .nil)))))
  (.seq (.ite (.op .eq (.slot 2) (.str [115, 116, 111, 112])) (.seq (.ite (.or (.op .ne (.call .d_held (.cons (.slot 5) .nil)) (.str [115, 116, 111, 112])) (.not (.call .d__law_is (.cons (.call .d_run (.cons (.slot 5) (.cons (.int (1)) .nil))) (.cons (.int (0)) .nil))))) (.seq (.ret (.bl false))
  .nil) .nil)
  (.seq (.ret (.and (.call .d__law_is_end (.cons (.meth (.slot 5) .f_engine .nil []) (.cons (.slot 9) .nil))) (.call .d__law_is (.cons (.meth (.slot 5) .f_steps .nil []) (.cons (.int (0)) .nil)))))
  .nil)) .nil)
  (.seq (.ite (.or (.not (.call .d__law_is (.cons (.call .d_run (.cons (.slot 5) (.cons (.int (1)) .nil))) (.cons (.int (1)) .nil)))) (.not (.call .d__law_is_end (.cons (.meth (.slot 5) .f_engine .nil []) (.cons (.tup (.cons (.op .add (.int (1)) (.slot 10)) (.cons (.op .mod (.op .item (.slot 1) (.int (2))) (.int (2))) .nil))) .nil))))) (.seq (.ret (.bl false))
  .nil) .nil)
  (.seq (.ite (.and (.op .eq (.slot 4) (.int (3))) (.not (.call .d__law_is (.cons (.meth (.slot 5) .f_side (.cons (.meth (.slot 5) .f_rod (.cons (.int (4)) .nil) []) .nil) []) (.cons (.slot 11) .nil))))) (.seq (.ret (.bl false))
  .nil) .nil)
  (.seq (.asg (.one 12) (.lst .nil))
  (.seq (.ite (.op .eq (.slot 2) (.str [98, 101, 108, 108])) (.seq (.exp (.mth .append (.slot 12) (.cons (.slot 3) .nil)))
  .nil) .nil)
  (.seq (.ret (.and (.call .d__law_is_row (.cons (.meth (.slot 5) .f_bells .nil []) (.cons (.slot 12) .nil))) (.and (.call .d__law_is (.cons (.meth (.slot 5) .f_steps .nil []) (.cons (.int (1)) .nil))) (.op .eq (.call .d_held (.cons (.slot 5) .nil)) (.str [108, 111, 111, 115, 101])))))
  .nil))))))))))))))))))
def D_ends_of : DD := { nm := .d_ends_of, at_ := ("ends_of", none), qual := "ends_of", st := top 15, N := ["kind"], ps := ["kind"], F := ⟨1, 1, B_ends_of⟩ }
def D_is_point : DD := { nm := .d_is_point, at_ := ("is_point", none), qual := "is_point", st := top 16, N := ["kind"], ps := ["kind"], F := ⟨1, 1, B_is_point⟩ }
def D_good_side : DD := { nm := .d_good_side, at_ := ("good_side", none), qual := "good_side", st := top 17, N := ["side"], ps := ["side"], F := ⟨1, 1, B_good_side⟩ }
def D_by_stem : DD := { nm := .d_by_stem, at_ := ("by_stem", none), qual := "by_stem", st := top 18, N := ["kind", "side"], ps := ["kind", "side"], F := ⟨2, 2, B_by_stem⟩ }
def D_by_arm : DD := { nm := .d_by_arm, at_ := ("by_arm", none), qual := "by_arm", st := top 19, N := ["kind", "arm", "side"], ps := ["kind", "arm", "side"], F := ⟨3, 3, B_by_arm⟩ }
def D_passage : DD := { nm := .d_passage, at_ := ("passage", none), qual := "passage", st := top 20, N := ["kind", "end", "side", "many"], ps := ["kind", "end", "side"], F := ⟨3, 4, B_passage⟩ }
def D_side_at : DD := { nm := .d_side_at, at_ := ("side_at", none), qual := "side_at", st := top 22, N := ["yard", "piece"], ps := ["yard", "piece"], F := ⟨2, 2, B_side_at⟩ }
def D_way_out : DD := { nm := .d_way_out, at_ := ("way_out", none), qual := "way_out", st := top 23, N := ["yard", "piece", "place"], ps := ["yard"], F := ⟨1, 3, B_way_out⟩ }
def D_held : DD := { nm := .d_held, at_ := ("held", none), qual := "held", st := top 24, N := ["yard", "out"], ps := ["yard"], F := ⟨1, 2, B_held⟩ }
def D_step : DD := { nm := .d_step, at_ := ("step", none), qual := "step", st := top 25, N := ["yard", "start", "piece", "out", "side"], ps := ["yard"], F := ⟨1, 5, B_step⟩ }
def D_run : DD := { nm := .d_run, at_ := ("run", none), qual := "run", st := top 26, N := ["yard", "most", "done"], ps := ["yard", "most"], F := ⟨2, 3, B_run⟩ }
def D_Yard_init : DD := { nm := .d_Yard_init, at_ := ("Yard", some "__init__"), qual := "Yard.__init__", st := inClass (top 28) 0, N := ["self"], ps := ["self"], F := ⟨1, 1, B_Yard_init⟩ }
def D_Yard_look_piece : DD := { nm := .d_Yard_look_piece, at_ := ("Yard", some "look_piece"), qual := "Yard.look_piece", st := inClass (top 28) 1, N := ["self", "piece"], ps := ["self", "piece"], F := ⟨2, 2, B_Yard_look_piece⟩ }
def D_Yard_look_end : DD := { nm := .d_Yard_look_end, at_ := ("Yard", some "look_end"), qual := "Yard.look_end", st := inClass (top 28) 2, N := ["self", "end", "piece", "place"], ps := ["self", "end"], F := ⟨2, 4, B_Yard_look_end⟩ }
def D_Yard_look_rod : DD := { nm := .d_Yard_look_rod, at_ := ("Yard", some "look_rod"), qual := "Yard.look_rod", st := inClass (top 28) 3, N := ["self", "rod"], ps := ["self", "rod"], F := ⟨2, 2, B_Yard_look_rod⟩ }
def D_Yard_lay : DD := { nm := .d_Yard_lay, at_ := ("Yard", some "lay"), qual := "Yard.lay", st := inClass (top 28) 4, N := ["self", "kind", "note", "rod", "point", "piece"], ps := ["self", "kind", "note", "rod"], F := ⟨4, 6, B_Yard_lay⟩, dfl := [.int 0, .non], kw := some ([.int 0], .f_rod) }
def D_Yard_new_rod : DD := { nm := .d_Yard_new_rod, at_ := ("Yard", some "new_rod"), qual := "Yard.new_rod", st := inClass (top 28) 5, N := ["self", "side", "rod"], ps := ["self", "side"], F := ⟨2, 3, B_Yard_new_rod⟩, dfl := [.int 1] }
def D_Yard_link : DD := { nm := .d_Yard_link, at_ := ("Yard", some "link"), qual := "Yard.link", st := inClass (top 28) 7, N := ["self", "one", "other"], ps := ["self", "one", "other"], F := ⟨3, 3, B_Yard_link⟩ }
def D_Yard_throw : DD := { nm := .d_Yard_throw, at_ := ("Yard", some "throw"), qual := "Yard.throw", st := inClass (top 28) 9, N := ["self", "rod", "side"], ps := ["self", "rod", "side"], F := ⟨3, 3, B_Yard_throw⟩ }
def D_Yard_put : DD := { nm := .d_Yard_put, at_ := ("Yard", some "put"), qual := "Yard.put", st := inClass (top 28) 10, N := ["self", "end"], ps := ["self", "end"], F := ⟨2, 2, B_Yard_put⟩ }
def D_Yard_rod : DD := { nm := .d_Yard_rod, at_ := ("Yard", some "rod"), qual := "Yard.rod", st := inClass (top 28) 16, N := ["self", "piece"], ps := ["self", "piece"], F := ⟨2, 2, B_Yard_rod⟩ }
def D_Yard_side : DD := { nm := .d_Yard_side, at_ := ("Yard", some "side"), qual := "Yard.side", st := inClass (top 28) 17, N := ["self", "rod"], ps := ["self", "rod"], F := ⟨2, 2, B_Yard_side⟩ }
def D_Yard_engine : DD := { nm := .d_Yard_engine, at_ := ("Yard", some "engine"), qual := "Yard.engine", st := inClass (top 28) 19, N := ["self"], ps := ["self"], F := ⟨1, 1, B_Yard_engine⟩ }
def D_Yard_bells : DD := { nm := .d_Yard_bells, at_ := ("Yard", some "bells"), qual := "Yard.bells", st := inClass (top 28) 20, N := ["self"], ps := ["self"], F := ⟨1, 1, B_Yard_bells⟩ }
def D_Yard_steps : DD := { nm := .d_Yard_steps, at_ := ("Yard", some "steps"), qual := "Yard.steps", st := inClass (top 28) 21, N := ["self"], ps := ["self"], F := ⟨1, 1, B_Yard_steps⟩ }
def D__law_draws : DD := { nm := .d__law_draws, at_ := ("_law_draws", none), qual := "_law_draws", st := top 30, N := ["_law_script", "_law_many_here", "_law_row", "_law_base", "_law_cell", "_law_left", "_law_turn"], ps := ["_law_script", "_law_many_here"], F := ⟨2, 7, B__law_draws⟩ }
def D__law_whole : DD := { nm := .d__law_whole, at_ := ("_law_whole", none), qual := "_law_whole", st := top 31, N := ["_law_found"], ps := ["_law_found"], F := ⟨1, 1, B__law_whole⟩ }
def D__law_is : DD := { nm := .d__law_is, at_ := ("_law_is", none), qual := "_law_is", st := top 32, N := ["_law_found", "_law_due"], ps := ["_law_found", "_law_due"], F := ⟨2, 2, B__law_is⟩ }
def D__law_is_end : DD := { nm := .d__law_is_end, at_ := ("_law_is_end", none), qual := "_law_is_end", st := top 33, N := ["_law_found", "_law_due"], ps := ["_law_found", "_law_due"], F := ⟨2, 2, B__law_is_end⟩ }
def D__law_is_row : DD := { nm := .d__law_is_row, at_ := ("_law_is_row", none), qual := "_law_is_row", st := top 34, N := ["_law_found", "_law_due", "_law_one", "_law_other"], ps := ["_law_found", "_law_due"], F := ⟨2, 4, B__law_is_row⟩ }
def D__law_kinds : DD := { nm := .d__law_kinds, at_ := ("_law_kinds", none), qual := "_law_kinds", st := top 35, N := [], ps := [], F := ⟨0, 0, B__law_kinds⟩ }
def D__law_many : DD := { nm := .d__law_many, at_ := ("_law_many", none), qual := "_law_many", st := top 37, N := ["_law_kind_here"], ps := ["_law_kind_here"], F := ⟨1, 1, B__law_many⟩ }
def D__law_passing : DD := { nm := .d__law_passing, at_ := ("_law_passing", none), qual := "_law_passing", st := top 38, N := ["_law_kind_here", "_law_place", "_law_side"], ps := ["_law_kind_here", "_law_place", "_law_side"], F := ⟨3, 3, B__law_passing⟩ }
def D_law : DD := { nm := .d_law, at_ := ("law", none), qual := "law", st := top 39, N := ["_law_script", "_law_d", "_law_kind_here", "_law_tone", "_law_many_here", "_law_yard", "_law_place", "_law_line", "_law_side", "_law_at", "_law_out", "_law_behind", "_law_rung"], ps := ["_law_script"], F := ⟨1, 13, B_law⟩ }
def C_Yard : CD := ⟨.c_Yard, [.f_kind_of, .f_note_of, .f_rod_of, .f_side_of, .f_mate_of, .f_next_piece, .f_next_rod, .f_at, .f_rung, .f_trail], some .d_Yard_init, [(.f_look_piece, .d_Yard_look_piece), (.f_look_end, .d_Yard_look_end), (.f_look_rod, .d_Yard_look_rod), (.f_lay, .d_Yard_lay), (.f_new_rod, .d_Yard_new_rod), (.f_link, .d_Yard_link), (.f_throw, .d_Yard_throw), (.f_put, .d_Yard_put), (.f_rod, .d_Yard_rod), (.f_side, .d_Yard_side), (.f_engine, .d_Yard_engine), (.f_bells, .d_Yard_bells), (.f_steps, .d_Yard_steps)]⟩
def ds : List DD := [D_ends_of, D_is_point, D_good_side, D_by_stem, D_by_arm, D_passage, D_side_at, D_way_out, D_held, D_step, D_run, D_Yard_init, D_Yard_look_piece, D_Yard_look_end, D_Yard_look_rod, D_Yard_lay, D_Yard_new_rod, D_Yard_link, D_Yard_throw, D_Yard_put, D_Yard_rod, D_Yard_side, D_Yard_engine, D_Yard_bells, D_Yard_steps, D__law_draws, D__law_whole, D__law_is, D__law_is_end, D__law_is_row, D__law_kinds, D__law_many, D__law_passing, D_law]
def T : LT := ⟨ds, [C_Yard], [(.g_ENDS, K_ENDS)], [.c_NoNote, .c_Linked, .c_SameEnd, .c_NoPoint, .c_NoSide, .c_NoPiece, .c_NoEnd, .c_NoRod, .c_NoKind]⟩
set_option maxRecDepth 1000000 in
set_option maxHeartbeats 0 in
theorem tok : T.ok = true := by decide +kernel
set_option maxRecDepth 1000000 in
set_option maxHeartbeats 0 in
theorem bds {K : PySem.W.Frag} : ∀ d ∈ T.ds, ∀ fd, d.FD K fd → BD K d fd := by
  intro d hd
  simp only [T, ds, List.mem_cons, List.not_mem_nil, or_false] at hd
  rcases hd with rfl | rfl | rfl | rfl | rfl | rfl | rfl | rfl | rfl | rfl | rfl | rfl | rfl | rfl | rfl | rfl | rfl | rfl | rfl | rfl | rfl | rfl | rfl | rfl | rfl | rfl | rfl | rfl | rfl | rfl | rfl | rfl | rfl | rfl
  · exact fun fd F => bd_plain F rfl rfl fun _ _ _ _ _ _ us hl => match us, hl with | [_], _ => rfl
  · exact fun fd F => bd_plain F rfl rfl fun _ _ _ _ _ _ us hl => match us, hl with | [_], _ => rfl
  · exact fun fd F => bd_plain F rfl rfl fun _ _ _ _ _ _ us hl => match us, hl with | [_], _ => rfl
  · exact fun fd F => bd_plain F rfl rfl fun _ _ _ _ _ _ us hl => match us, hl with | [_, _], _ => rfl
  · exact fun fd F => bd_plain F rfl rfl fun _ _ _ _ _ _ us hl => match us, hl with | [_, _, _], _ => rfl
  · exact fun fd F => bd_plain F rfl rfl fun _ _ _ _ _ _ us hl => match us, hl with | [_, _, _], _ => rfl
  · exact fun fd F => bd_plain F rfl rfl fun _ _ _ _ _ _ us hl => match us, hl with | [_, _], _ => rfl
  · exact fun fd F => bd_plain F rfl rfl fun _ _ _ _ _ _ us hl => match us, hl with | [_], _ => rfl
  · exact fun fd F => bd_plain F rfl rfl fun _ _ _ _ _ _ us hl => match us, hl with | [_], _ => rfl
  · exact fun fd F => bd_plain F rfl rfl fun _ _ _ _ _ _ us hl => match us, hl with | [_], _ => rfl
  · exact fun fd F => bd_plain F rfl rfl fun _ _ _ _ _ _ us hl => match us, hl with | [_, _], _ => rfl
  · exact fun fd F => bd_plain F rfl rfl fun _ _ _ _ _ _ us hl => match us, hl with | [_], _ => rfl
  · exact fun fd F => bd_plain F rfl rfl fun _ _ _ _ _ _ us hl => match us, hl with | [_, _], _ => rfl
  · exact fun fd F => bd_plain F rfl rfl fun _ _ _ _ _ _ us hl => match us, hl with | [_, _], _ => rfl
  · exact fun fd F => bd_plain F rfl rfl fun _ _ _ _ _ _ us hl => match us, hl with | [_, _], _ => rfl
  · exact fun fd F => bd_two F rfl rfl (n := 2) rfl (fun _ _ _ _ _ _ _ us its h1 h2 => match us, its, h1, h2 with | [_, _, _, _], [_, _], _, _ => ⟨_, rfl, rfl⟩) (fun _ _ _ _ _ _ _ us its h1 h2 => match us, its, h1, h2 with | [_, _, _], [_, _], _, _ => ⟨_, rfl, rfl⟩) (fun _ _ _ _ _ _ _ us its h1 h2 => match us, its, h1, h2 with | [_, _], [_, _], _, _ => ⟨_, rfl, rfl⟩) (fun _ _ _ _ _ _ _ us _ _ _ h1 => match us, h1 with | [_, _], _ => ⟨_, rfl, rfl⟩)
  · exact fun fd F => bd_one F rfl rfl (n := 1) rfl (fun _ _ _ _ _ _ _ us its h1 h2 => match us, its, h1, h2 with | [_, _], [_], _, _ => ⟨_, rfl, rfl⟩) (fun _ _ _ _ _ _ _ us its h1 h2 => match us, its, h1, h2 with | [_], [_], _, _ => ⟨_, rfl, rfl⟩)
  · exact fun fd F => bd_plain F rfl rfl fun _ _ _ _ _ _ us hl => match us, hl with | [_, _, _], _ => rfl
  · exact fun fd F => bd_plain F rfl rfl fun _ _ _ _ _ _ us hl => match us, hl with | [_, _, _], _ => rfl
  · exact fun fd F => bd_plain F rfl rfl fun _ _ _ _ _ _ us hl => match us, hl with | [_, _], _ => rfl
  · exact fun fd F => bd_plain F rfl rfl fun _ _ _ _ _ _ us hl => match us, hl with | [_, _], _ => rfl
  · exact fun fd F => bd_plain F rfl rfl fun _ _ _ _ _ _ us hl => match us, hl with | [_, _], _ => rfl
  · exact fun fd F => bd_plain F rfl rfl fun _ _ _ _ _ _ us hl => match us, hl with | [_], _ => rfl
  · exact fun fd F => bd_plain F rfl rfl fun _ _ _ _ _ _ us hl => match us, hl with | [_], _ => rfl
  · exact fun fd F => bd_plain F rfl rfl fun _ _ _ _ _ _ us hl => match us, hl with | [_], _ => rfl
  · exact fun fd F => bd_plain F rfl rfl fun _ _ _ _ _ _ us hl => match us, hl with | [_, _], _ => rfl
  · exact fun fd F => bd_plain F rfl rfl fun _ _ _ _ _ _ us hl => match us, hl with | [_], _ => rfl
  · exact fun fd F => bd_plain F rfl rfl fun _ _ _ _ _ _ us hl => match us, hl with | [_, _], _ => rfl
  · exact fun fd F => bd_plain F rfl rfl fun _ _ _ _ _ _ us hl => match us, hl with | [_, _], _ => rfl
  · exact fun fd F => bd_plain F rfl rfl fun _ _ _ _ _ _ us hl => match us, hl with | [_, _], _ => rfl
  · exact fun fd F => bd_plain F rfl rfl fun _ _ _ _ _ _ us hl => match us, hl with | [], _ => rfl
  · exact fun fd F => bd_plain F rfl rfl fun _ _ _ _ _ _ us hl => match us, hl with | [_], _ => rfl
  · exact fun fd F => bd_plain F rfl rfl fun _ _ _ _ _ _ us hl => match us, hl with | [_, _, _], _ => rfl
  · exact fun fd F => bd_plain F rfl rfl fun _ _ _ _ _ _ us hl => match us, hl with | [_], _ => rfl
def U : List Nm := [.d_ends_of, .d_is_point, .d_good_side, .d_by_stem, .d_by_arm, .d_passage, .d_side_at, .d_way_out, .d_held, .d_step, .d_run, .d_Yard_init, .d_Yard_look_piece, .d_Yard_look_end, .d_Yard_look_rod, .d_Yard_lay, .d_Yard_new_rod, .d_Yard_link, .d_Yard_throw, .d_Yard_put, .d_Yard_rod, .d_Yard_side, .d_Yard_engine, .d_Yard_bells, .d_Yard_steps, .d__law_whole, .d__law_is, .d__law_is_end, .d__law_is_row, .d__law_kinds, .d__law_many, .d__law_passing]
def M : List (Nm × Nm) := [(.f_bells, .d_Yard_bells), (.f_steps, .d_Yard_steps), (.f_side, .d_Yard_side), (.f_rod, .d_Yard_rod), (.f_engine, .d_Yard_engine), (.f_put, .d_Yard_put), (.f_throw, .d_Yard_throw), (.f_lay, .d_Yard_lay), (.f_link, .d_Yard_link), (.f_new_rod, .d_Yard_new_rod), (.f_look_rod, .d_Yard_look_rod), (.f_look_end, .d_Yard_look_end), (.f_look_piece, .d_Yard_look_piece)]
class LP (P : Prg) : Prop where
  has : Has P U M
  m_bells : P.cl.mth .c_Yard .f_bells = some .d_Yard_bells
  m_steps : P.cl.mth .c_Yard .f_steps = some .d_Yard_steps
  m_side : P.cl.mth .c_Yard .f_side = some .d_Yard_side
  m_rod : P.cl.mth .c_Yard .f_rod = some .d_Yard_rod
  m_engine : P.cl.mth .c_Yard .f_engine = some .d_Yard_engine
  m_put : P.cl.mth .c_Yard .f_put = some .d_Yard_put
  m_throw : P.cl.mth .c_Yard .f_throw = some .d_Yard_throw
  m_lay : P.cl.mth .c_Yard .f_lay = some .d_Yard_lay
  m_link : P.cl.mth .c_Yard .f_link = some .d_Yard_link
  m_new_rod : P.cl.mth .c_Yard .f_new_rod = some .d_Yard_new_rod
  m_look_rod : P.cl.mth .c_Yard .f_look_rod = some .d_Yard_look_rod
  m_look_end : P.cl.mth .c_Yard .f_look_end = some .d_Yard_look_end
  m_look_piece : P.cl.mth .c_Yard .f_look_piece = some .d_Yard_look_piece
  ini_Yard : P.cl.init .c_Yard = some .d_Yard_init
  at_Yard : P.cl.at' .c_Yard = [.f_kind_of, .f_note_of, .f_rod_of, .f_side_of, .f_mate_of, .f_next_piece, .f_next_rod, .f_at, .f_rung, .f_trail]
  dfl_lay : P.cl.dfl .d_Yard_lay = [.int 0, .non]
  kw_lay : P.cl.kw .d_Yard_lay = some ([.int 0], .f_rod)
  dfl_rod : P.cl.dfl .d_Yard_new_rod = [.int 1]
  fn__law_draws : P.fn .d__law_draws = some ⟨2, 7, Rl.B_draws⟩
  fn_law : P.fn .d_law = some ⟨1, 13, B_law⟩
@[simp] theorem s_m_bells {P : Prg} [LP P] : P.cl.mth .c_Yard .f_bells = some .d_Yard_bells := LP.m_bells
@[simp] theorem s_m_steps {P : Prg} [LP P] : P.cl.mth .c_Yard .f_steps = some .d_Yard_steps := LP.m_steps
@[simp] theorem s_m_side {P : Prg} [LP P] : P.cl.mth .c_Yard .f_side = some .d_Yard_side := LP.m_side
@[simp] theorem s_m_rod {P : Prg} [LP P] : P.cl.mth .c_Yard .f_rod = some .d_Yard_rod := LP.m_rod
@[simp] theorem s_m_engine {P : Prg} [LP P] : P.cl.mth .c_Yard .f_engine = some .d_Yard_engine := LP.m_engine
@[simp] theorem s_m_put {P : Prg} [LP P] : P.cl.mth .c_Yard .f_put = some .d_Yard_put := LP.m_put
@[simp] theorem s_m_throw {P : Prg} [LP P] : P.cl.mth .c_Yard .f_throw = some .d_Yard_throw := LP.m_throw
@[simp] theorem s_m_lay {P : Prg} [LP P] : P.cl.mth .c_Yard .f_lay = some .d_Yard_lay := LP.m_lay
@[simp] theorem s_m_link {P : Prg} [LP P] : P.cl.mth .c_Yard .f_link = some .d_Yard_link := LP.m_link
@[simp] theorem s_m_new_rod {P : Prg} [LP P] : P.cl.mth .c_Yard .f_new_rod = some .d_Yard_new_rod := LP.m_new_rod
@[simp] theorem s_m_look_rod {P : Prg} [LP P] : P.cl.mth .c_Yard .f_look_rod = some .d_Yard_look_rod := LP.m_look_rod
@[simp] theorem s_m_look_end {P : Prg} [LP P] : P.cl.mth .c_Yard .f_look_end = some .d_Yard_look_end := LP.m_look_end
@[simp] theorem s_m_look_piece {P : Prg} [LP P] : P.cl.mth .c_Yard .f_look_piece = some .d_Yard_look_piece := LP.m_look_piece
@[simp] theorem s_ini_Yard {P : Prg} [LP P] : P.cl.init .c_Yard = some .d_Yard_init := LP.ini_Yard
@[simp] theorem s_dfl_lay {P : Prg} [LP P] : P.cl.dfl .d_Yard_lay = [.int 0, .non] := LP.dfl_lay
@[simp] theorem s_kw_lay {P : Prg} [LP P] : P.cl.kw .d_Yard_lay = some ([.int 0], .f_rod) := LP.kw_lay
@[simp] theorem s_dfl_rod {P : Prg} [LP P] : P.cl.dfl .d_Yard_new_rod = [.int 1] := LP.dfl_rod
set_option maxRecDepth 1000000 in
theorem has : Has T.P U M := by
  refine ⟨fun q hq => ?_, fun p hp => ?_, by rfl⟩
  · simp only [U, List.mem_cons, List.not_mem_nil, or_false] at hq
    rcases hq with rfl | rfl | rfl | rfl | rfl | rfl | rfl | rfl | rfl | rfl | rfl | rfl | rfl | rfl | rfl | rfl | rfl | rfl | rfl | rfl | rfl | rfl | rfl | rfl | rfl | rfl | rfl | rfl | rfl | rfl | rfl | rfl <;> rfl
  · simp only [M, List.mem_cons, List.not_mem_nil, or_false] at hp
    rcases hp with rfl | rfl | rfl | rfl | rfl | rfl | rfl | rfl | rfl | rfl | rfl | rfl | rfl <;> rfl
instance lp : LP T.P := ⟨has, by rfl, by rfl, by rfl, by rfl, by rfl, by rfl, by rfl, by rfl, by rfl, by rfl, by rfl, by rfl, by rfl, by rfl, by rfl, by rfl, by rfl, by rfl, by rfl, by rfl⟩
end Rl.K12

namespace Rl.K12
/-- the yard behind j links -/
structure G12 (S : YS) (S1 : YS) (k : Tx) (j : Nat) (r : Int) : Prop where
  np : S.np = (j + 1 : Nat)
  k0 : dlook S.kind (.int 0) = some (.str k)
  kl : ∀ q : Nat, 1 ≤ q → q ≤ j → dlook S.kind (.int (q : Nat)) = some (.str kLine)
  mt : ∀ p e : Int, dlook S.mate (.tup [.int p, .int e]) = if p = 0 ∧ 0 ≤ e ∧ e < j then some (.tup [.int (e + 1), .int r]) else if 1 ≤ p ∧ p ≤ j ∧ e = r then some (.tup [.int 0, .int (p - 1)]) else none
  klen : S.kind.length ≤ j + 1
  mlen : S.mate.length ≤ 2 * j
  rod : S.rod = S1.rod
  side : S.side = S1.side
  note : S.note = S1.note
  rung : S.rung = []
/-- one line more -/
theorem g12_step {S S1 : YS} {k : Tx} {j : Nat} {r : Int} (g : G12 S S1 k j r) (hr : r = 0 ∨ r = 1) :
    G12 { (S.laid kLine (.int 0)) with mate := dput (dput (S.laid kLine (.int 0)).mate (.tup [.int (j + 1 : Nat), .int r]) (.tup [.int 0, .int (j : Nat)])) (.tup [.int 0, .int (j : Nat)]) (.tup [.int (j + 1 : Nat), .int r]), trail := [] } S1 k (j + 1) r := by
  have hnb : ¬ kLine = kBell := by decide
  refine ⟨?_, ?_, fun q h1 h2 => ?_, fun p e => ?_, ?_, ?_, g.rod, g.side, ?_, g.rung⟩
  · show S.np + 1 = _
    rw [g.np]; simp
  · show dlook (dput S.kind (.int S.np) (.str kLine)) (.int 0) = _
    rw [dlook_put, g.np, if_neg (by simp; omega)]; exact g.k0
  · show dlook (dput S.kind (.int S.np) (.str kLine)) (.int (q : Nat)) = _
    rw [dlook_put, g.np]
    by_cases c : q = j + 1
    · subst c; simp
    · rw [if_neg (by simp; omega)]; exact g.kl q h1 (by omega)
  · show dlook (dput (dput S.mate _ _) _ _) _ = _
    rw [dlook_put, dlook_put, g.mt]
    have e1 : (AV.tup [AV.int 0, AV.int (j : Nat)] = AV.tup [AV.int p, AV.int e]) ↔ (p = 0 ∧ e = (j : Nat)) := by simp; omega
    have e2 : (AV.tup [AV.int (j + 1 : Nat), AV.int r] = AV.tup [AV.int p, AV.int e]) ↔ (p = (j + 1 : Nat) ∧ e = r) := by simp; omega
    simp only [e1, e2]
    by_cases c1 : p = 0 ∧ e = (j : Nat)
    · obtain ⟨rfl, rfl⟩ := c1
      rw [if_pos ⟨rfl, rfl⟩, if_pos (by omega)]
      simp
    · rw [if_neg c1]
      by_cases c2 : p = (j + 1 : Nat) ∧ e = r
      · obtain ⟨rfl, rfl⟩ := c2
        rw [if_pos ⟨rfl, rfl⟩, if_neg (by omega), if_pos (by omega)]
        simp
      · rw [if_neg c2]
        by_cases c3 : p = 0 ∧ 0 ≤ e ∧ e < j
        · rw [if_pos c3, if_pos (by omega)]
        · rw [if_neg c3]
          by_cases c4 : 1 ≤ p ∧ p ≤ j ∧ e = r
          · rw [if_pos c4, if_neg (by omega), if_pos (by omega)]
          · rw [if_neg c4, if_neg (by omega), if_neg (by omega)]
  · have := dput_length S.kind (.int S.np) (.str kLine)
    have := g.klen
    show (dput S.kind (.int S.np) (.str kLine)).length ≤ _
    omega
  · have h1 := dput_length S.mate (.tup [.int (j + 1 : Nat), .int r]) (.tup [.int 0, .int (j : Nat)])
    have h2 := dput_length (dput S.mate (.tup [.int (j + 1 : Nat), .int r]) (.tup [.int 0, .int (j : Nat)])) (.tup [.int 0, .int (j : Nat)]) (.tup [.int (j + 1 : Nat), .int r])
    have := g.mlen
    show (dput (dput S.mate (.tup [.int (j + 1 : Nat), .int r]) (.tup [.int 0, .int (j : Nat)])) (.tup [.int 0, .int (j : Nat)]) (.tup [.int (j + 1 : Nat), .int r])).length ≤ _
    omega
  · show (S.laid kLine (.int 0)).note = _
    simp only [YS.laid, if_neg hnb]
    exact g.note

variable {P : Prg} [LP P]
theorem g12_start {k : Tx} {n : Int} (hk : Kd k n) (v : AV) (r : Int) : G12 (YS0.lay0 k n v) (YS0.lay0 k n v) k 0 r := by
  unfold YS.lay0
  by_cases c : n = 3
  · rw [if_pos c]
    exact ⟨rfl, by simp [YS.ownRod, YS0, dlook_put], fun q h1 h2 => by omega, fun p e => by rw [if_neg (by omega), if_neg (by omega)]; rfl, Nat.le_refl _, Nat.le_refl _, rfl, rfl, rfl, rfl⟩
  · rw [if_neg c]
    exact ⟨rfl, by simp [YS.laid, YS0, dlook_put], fun q h1 h2 => by omega, fun p e => by rw [if_neg (by omega), if_neg (by omega)]; rfl, Nat.le_refl _, Nat.le_refl _, rfl, rfl, rfl, rfl⟩
theorem loopL {S1 : YS} {l : List Int} {y : Nat} {k : Tx} {n : Int} (hk : Kd k n) (hl : l.length = 8) (nl : S1.note.length < 5) {s0 s2 s3 s4 : AV} {c8 c9 c10 c11 c12 : Option AV} {h : AH} (W : Wd h [.ob 2 (.lst (l.map .int)), .yard y S1]) (g : G12 S1 S1 k 0 (dr l 2 % 2))
    {N : Sl → AH → Prop} {R : AV → AH → Prop} {X : Nm → AH → Prop} (q : ∀ h S c6 c7, Wd h [.ob 2 (.lst (l.map .int)), .yard y S] → G12 S S1 k n.toNat (dr l 2 % 2) → N [some s0, some (.ref 2), some s2, some s3, some s4, some (.ref y), c6, c7, c8, c9, c10, c11, c12] h) {c6 c7 : Option AV} :
    forP P.cl (callD P 8) (.one 6) (some (rgI 0 n, [])) B_law_1 [some s0, some (.ref 2), some s2, some s3, some s4, some (.ref y), c6, c7, c8, c9, c10, c11, c12] h N R X := by
  have hn : 0 ≤ n ∧ n ≤ 3 := by cases hk <;> omega
  refine for_range (fun j σ h => ∃ S c6 c7, Wd h [.ob 2 (.lst (l.map .int)), .yard y S] ∧ G12 S S1 k j.toNat (dr l 2 % 2) ∧ σ = [some s0, some (.ref 2), some s2, some s3, some s4, some (.ref y), c6, c7, c8, c9, c10, c11, c12]) hn.1 ?_ ⟨S1, c6, c7, W, g, rfl⟩ (fun σ h => by rintro ⟨S, c6, c7, W, g, rfl⟩; exact q _ _ _ _ W g)
  rintro j j0 j1 σ h ⟨S, c6, c7, W, g, rfl⟩
  refine ⟨by simp, ?_⟩
  obtain ⟨i, rfl⟩ := Int.eq_ofNat_of_zero_le j0
  have hr : dr l 2 % 2 = 0 ∨ dr l 2 % 2 = 1 := by omega
  simp only [Int.toNat_natCast] at g
  unfold B_law_1
  simp (disch := (first | assumption | omega | exact new_at _ _ | exact isL_new | exact Wd.isY (i := 0) W rfl | exact Wd.isY (i := 1) W rfl | exact Wd.isY (i := 2) W rfl | exact Wd.isY (i := 3) W rfl | exact Wd.isY (i := 4) W rfl | exact Wd.isY (i := 5) W rfl | exact Wd.isY (i := 6) W rfl | exact Wd.isY (i := 7) W rfl | exact Wd.isY (i := 0) (Wd.ext W (Ext.new _ _)) rfl | exact Wd.isY (i := 1) (Wd.ext W (Ext.new _ _)) rfl | exact Wd.isY (i := 2) (Wd.ext W (Ext.new _ _)) rfl | exact Wd.isY (i := 3) (Wd.ext W (Ext.new _ _)) rfl | exact Wd.isY (i := 4) (Wd.ext W (Ext.new _ _)) rfl | exact Wd.isY (i := 5) (Wd.ext W (Ext.new _ _)) rfl | exact Wd.isY (i := 6) (Wd.ext W (Ext.new _ _)) rfl | exact Wd.isY (i := 7) (Wd.ext W (Ext.new _ _)) rfl | exact Wd.isY (i := 0) (Wd.ext (Wd.ext W (Ext.new _ _)) (Ext.new _ _)) rfl | exact Wd.isY (i := 1) (Wd.ext (Wd.ext W (Ext.new _ _)) (Ext.new _ _)) rfl | exact Wd.isY (i := 2) (Wd.ext (Wd.ext W (Ext.new _ _)) (Ext.new _ _)) rfl | exact Wd.isY (i := 3) (Wd.ext (Wd.ext W (Ext.new _ _)) (Ext.new _ _)) rfl | exact Wd.isY (i := 4) (Wd.ext (Wd.ext W (Ext.new _ _)) (Ext.new _ _)) rfl | exact Wd.isY (i := 5) (Wd.ext (Wd.ext W (Ext.new _ _)) (Ext.new _ _)) rfl | exact Wd.isY (i := 6) (Wd.ext (Wd.ext W (Ext.new _ _)) (Ext.new _ _)) rfl | exact Wd.isY (i := 7) (Wd.ext (Wd.ext W (Ext.new _ _)) (Ext.new _ _)) rfl | exact Wd.ob (i := 0) W rfl | exact Wd.ob (i := 1) W rfl | exact Wd.ob (i := 2) W rfl | exact Wd.ob (i := 3) W rfl | exact Wd.ob (i := 4) W rfl | exact Wd.ob (i := 5) W rfl | exact Wd.ob (i := 6) W rfl | exact Wd.ob (i := 7) W rfl | exact Wd.ob (i := 0) (Wd.ext W (Ext.new _ _)) rfl | exact Wd.ob (i := 1) (Wd.ext W (Ext.new _ _)) rfl | exact Wd.ob (i := 2) (Wd.ext W (Ext.new _ _)) rfl | exact Wd.ob (i := 3) (Wd.ext W (Ext.new _ _)) rfl | exact Wd.ob (i := 4) (Wd.ext W (Ext.new _ _)) rfl | exact Wd.ob (i := 5) (Wd.ext W (Ext.new _ _)) rfl | exact Wd.ob (i := 6) (Wd.ext W (Ext.new _ _)) rfl | exact Wd.ob (i := 7) (Wd.ext W (Ext.new _ _)) rfl | exact Wd.ob (i := 0) (Wd.ext (Wd.ext W (Ext.new _ _)) (Ext.new _ _)) rfl | exact Wd.ob (i := 1) (Wd.ext (Wd.ext W (Ext.new _ _)) (Ext.new _ _)) rfl | exact Wd.ob (i := 2) (Wd.ext (Wd.ext W (Ext.new _ _)) (Ext.new _ _)) rfl | exact Wd.ob (i := 3) (Wd.ext (Wd.ext W (Ext.new _ _)) (Ext.new _ _)) rfl | exact Wd.ob (i := 4) (Wd.ext (Wd.ext W (Ext.new _ _)) (Ext.new _ _)) rfl | exact Wd.ob (i := 5) (Wd.ext (Wd.ext W (Ext.new _ _)) (Ext.new _ _)) rfl | exact Wd.ob (i := 6) (Wd.ext (Wd.ext W (Ext.new _ _)) (Ext.new _ _)) rfl | exact Wd.ob (i := 7) (Wd.ext (Wd.ext W (Ext.new _ _)) (Ext.new _ _)) rfl | exact Wd.isL (i := 0) W rfl | exact Wd.isL (i := 1) W rfl | exact Wd.isL (i := 2) W rfl | exact Wd.isL (i := 3) W rfl | exact Wd.isL (i := 4) W rfl | exact Wd.isL (i := 5) W rfl | exact Wd.isL (i := 6) W rfl | exact Wd.isL (i := 7) W rfl | exact Wd.isL (i := 0) (Wd.ext W (Ext.new _ _)) rfl | exact Wd.isL (i := 1) (Wd.ext W (Ext.new _ _)) rfl | exact Wd.isL (i := 2) (Wd.ext W (Ext.new _ _)) rfl | exact Wd.isL (i := 3) (Wd.ext W (Ext.new _ _)) rfl | exact Wd.isL (i := 4) (Wd.ext W (Ext.new _ _)) rfl | exact Wd.isL (i := 5) (Wd.ext W (Ext.new _ _)) rfl | exact Wd.isL (i := 6) (Wd.ext W (Ext.new _ _)) rfl | exact Wd.isL (i := 7) (Wd.ext W (Ext.new _ _)) rfl | exact Wd.isL (i := 0) (Wd.ext (Wd.ext W (Ext.new _ _)) (Ext.new _ _)) rfl | exact Wd.isL (i := 1) (Wd.ext (Wd.ext W (Ext.new _ _)) (Ext.new _ _)) rfl | exact Wd.isL (i := 2) (Wd.ext (Wd.ext W (Ext.new _ _)) (Ext.new _ _)) rfl | exact Wd.isL (i := 3) (Wd.ext (Wd.ext W (Ext.new _ _)) (Ext.new _ _)) rfl | exact Wd.isL (i := 4) (Wd.ext (Wd.ext W (Ext.new _ _)) (Ext.new _ _)) rfl | exact Wd.isL (i := 5) (Wd.ext (Wd.ext W (Ext.new _ _)) (Ext.new _ _)) rfl | exact Wd.isL (i := 6) (Wd.ext (Wd.ext W (Ext.new _ _)) (Ext.new _ _)) rfl | exact Wd.isL (i := 7) (Wd.ext (Wd.ext W (Ext.new _ _)) (Ext.new _ _)) rfl | exact Wd.isD (i := 0) W rfl | exact Wd.isD (i := 1) W rfl | exact Wd.isD (i := 2) W rfl | exact Wd.isD (i := 3) W rfl | exact Wd.isD (i := 4) W rfl | exact Wd.isD (i := 5) W rfl | exact Wd.isD (i := 6) W rfl | exact Wd.isD (i := 7) W rfl | exact Wd.isD (i := 0) (Wd.ext W (Ext.new _ _)) rfl | exact Wd.isD (i := 1) (Wd.ext W (Ext.new _ _)) rfl | exact Wd.isD (i := 2) (Wd.ext W (Ext.new _ _)) rfl | exact Wd.isD (i := 3) (Wd.ext W (Ext.new _ _)) rfl | exact Wd.isD (i := 4) (Wd.ext W (Ext.new _ _)) rfl | exact Wd.isD (i := 5) (Wd.ext W (Ext.new _ _)) rfl | exact Wd.isD (i := 6) (Wd.ext W (Ext.new _ _)) rfl | exact Wd.isD (i := 7) (Wd.ext W (Ext.new _ _)) rfl | exact Wd.isD (i := 0) (Wd.ext (Wd.ext W (Ext.new _ _)) (Ext.new _ _)) rfl | exact Wd.isD (i := 1) (Wd.ext (Wd.ext W (Ext.new _ _)) (Ext.new _ _)) rfl | exact Wd.isD (i := 2) (Wd.ext (Wd.ext W (Ext.new _ _)) (Ext.new _ _)) rfl | exact Wd.isD (i := 3) (Wd.ext (Wd.ext W (Ext.new _ _)) (Ext.new _ _)) rfl | exact Wd.isD (i := 4) (Wd.ext (Wd.ext W (Ext.new _ _)) (Ext.new _ _)) rfl | exact Wd.isD (i := 5) (Wd.ext (Wd.ext W (Ext.new _ _)) (Ext.new _ _)) rfl | exact Wd.isD (i := 6) (Wd.ext (Wd.ext W (Ext.new _ _)) (Ext.new _ _)) rfl | exact Wd.isD (i := 7) (Wd.ext (Wd.ext W (Ext.new _ _)) (Ext.new _ _)) rfl | exact Wd.isO (i := 0) W rfl | exact Wd.isO (i := 1) W rfl | exact Wd.isO (i := 2) W rfl | exact Wd.isO (i := 3) W rfl | exact Wd.isO (i := 4) W rfl | exact Wd.isO (i := 5) W rfl | exact Wd.isO (i := 6) W rfl | exact Wd.isO (i := 7) W rfl | exact Wd.isO (i := 0) (Wd.ext W (Ext.new _ _)) rfl | exact Wd.isO (i := 1) (Wd.ext W (Ext.new _ _)) rfl | exact Wd.isO (i := 2) (Wd.ext W (Ext.new _ _)) rfl | exact Wd.isO (i := 3) (Wd.ext W (Ext.new _ _)) rfl | exact Wd.isO (i := 4) (Wd.ext W (Ext.new _ _)) rfl | exact Wd.isO (i := 5) (Wd.ext W (Ext.new _ _)) rfl | exact Wd.isO (i := 6) (Wd.ext W (Ext.new _ _)) rfl | exact Wd.isO (i := 7) (Wd.ext W (Ext.new _ _)) rfl | exact Wd.isO (i := 0) (Wd.ext (Wd.ext W (Ext.new _ _)) (Ext.new _ _)) rfl | exact Wd.isO (i := 1) (Wd.ext (Wd.ext W (Ext.new _ _)) (Ext.new _ _)) rfl | exact Wd.isO (i := 2) (Wd.ext (Wd.ext W (Ext.new _ _)) (Ext.new _ _)) rfl | exact Wd.isO (i := 3) (Wd.ext (Wd.ext W (Ext.new _ _)) (Ext.new _ _)) rfl | exact Wd.isO (i := 4) (Wd.ext (Wd.ext W (Ext.new _ _)) (Ext.new _ _)) rfl | exact Wd.isO (i := 5) (Wd.ext (Wd.ext W (Ext.new _ _)) (Ext.new _ _)) rfl | exact Wd.isO (i := 6) (Wd.ext (Wd.ext W (Ext.new _ _)) (Ext.new _ _)) rfl | exact Wd.isO (i := 7) (Wd.ext (Wd.ext W (Ext.new _ _)) (Ext.new _ _)) rfl | decide | (refine lim_le ?_; omega) | (refine lim_lt ?_; omega) | (refine smf_l ?_ ?_ <;> omega) | (refine smf_r ?_ ?_ <;> omega))) [methR_eq .c_Yard, methRK_eq .c_Yard, op_mod', op_fdiv', op_mul', bindT, bindTs, walk_r1, walk_r2, wpE_tup, wpE_lst, sliI_e, tyR_lst, mthR_lst, mthR_dct, it_0, it_1, it_2, mthTy, isTy, wpS_ite]
  refine w_lay_plain (by first | exact Has.sub LP.has (by simp [U]; done) (by simp [M]; done) | exact Has.fn LP.has _ (by simp [U]; done)) W 1 rfl .line (by decide) (fun z => by omega) (by have := g.klen; simp [LIM]; omega) (by rw [g.note]; simp [LIM]; omega) fun h W => ?_
  simp (disch := (first | assumption | omega | exact new_at _ _ | exact isL_new | exact Wd.isY (i := 0) W rfl | exact Wd.isY (i := 1) W rfl | exact Wd.isY (i := 2) W rfl | exact Wd.isY (i := 3) W rfl | exact Wd.isY (i := 4) W rfl | exact Wd.isY (i := 5) W rfl | exact Wd.isY (i := 6) W rfl | exact Wd.isY (i := 7) W rfl | exact Wd.isY (i := 0) (Wd.ext W (Ext.new _ _)) rfl | exact Wd.isY (i := 1) (Wd.ext W (Ext.new _ _)) rfl | exact Wd.isY (i := 2) (Wd.ext W (Ext.new _ _)) rfl | exact Wd.isY (i := 3) (Wd.ext W (Ext.new _ _)) rfl | exact Wd.isY (i := 4) (Wd.ext W (Ext.new _ _)) rfl | exact Wd.isY (i := 5) (Wd.ext W (Ext.new _ _)) rfl | exact Wd.isY (i := 6) (Wd.ext W (Ext.new _ _)) rfl | exact Wd.isY (i := 7) (Wd.ext W (Ext.new _ _)) rfl | exact Wd.isY (i := 0) (Wd.ext (Wd.ext W (Ext.new _ _)) (Ext.new _ _)) rfl | exact Wd.isY (i := 1) (Wd.ext (Wd.ext W (Ext.new _ _)) (Ext.new _ _)) rfl | exact Wd.isY (i := 2) (Wd.ext (Wd.ext W (Ext.new _ _)) (Ext.new _ _)) rfl | exact Wd.isY (i := 3) (Wd.ext (Wd.ext W (Ext.new _ _)) (Ext.new _ _)) rfl | exact Wd.isY (i := 4) (Wd.ext (Wd.ext W (Ext.new _ _)) (Ext.new _ _)) rfl | exact Wd.isY (i := 5) (Wd.ext (Wd.ext W (Ext.new _ _)) (Ext.new _ _)) rfl | exact Wd.isY (i := 6) (Wd.ext (Wd.ext W (Ext.new _ _)) (Ext.new _ _)) rfl | exact Wd.isY (i := 7) (Wd.ext (Wd.ext W (Ext.new _ _)) (Ext.new _ _)) rfl | exact Wd.ob (i := 0) W rfl | exact Wd.ob (i := 1) W rfl | exact Wd.ob (i := 2) W rfl | exact Wd.ob (i := 3) W rfl | exact Wd.ob (i := 4) W rfl | exact Wd.ob (i := 5) W rfl | exact Wd.ob (i := 6) W rfl | exact Wd.ob (i := 7) W rfl | exact Wd.ob (i := 0) (Wd.ext W (Ext.new _ _)) rfl | exact Wd.ob (i := 1) (Wd.ext W (Ext.new _ _)) rfl | exact Wd.ob (i := 2) (Wd.ext W (Ext.new _ _)) rfl | exact Wd.ob (i := 3) (Wd.ext W (Ext.new _ _)) rfl | exact Wd.ob (i := 4) (Wd.ext W (Ext.new _ _)) rfl | exact Wd.ob (i := 5) (Wd.ext W (Ext.new _ _)) rfl | exact Wd.ob (i := 6) (Wd.ext W (Ext.new _ _)) rfl | exact Wd.ob (i := 7) (Wd.ext W (Ext.new _ _)) rfl | exact Wd.ob (i := 0) (Wd.ext (Wd.ext W (Ext.new _ _)) (Ext.new _ _)) rfl | exact Wd.ob (i := 1) (Wd.ext (Wd.ext W (Ext.new _ _)) (Ext.new _ _)) rfl | exact Wd.ob (i := 2) (Wd.ext (Wd.ext W (Ext.new _ _)) (Ext.new _ _)) rfl | exact Wd.ob (i := 3) (Wd.ext (Wd.ext W (Ext.new _ _)) (Ext.new _ _)) rfl | exact Wd.ob (i := 4) (Wd.ext (Wd.ext W (Ext.new _ _)) (Ext.new _ _)) rfl | exact Wd.ob (i := 5) (Wd.ext (Wd.ext W (Ext.new _ _)) (Ext.new _ _)) rfl | exact Wd.ob (i := 6) (Wd.ext (Wd.ext W (Ext.new _ _)) (Ext.new _ _)) rfl | exact Wd.ob (i := 7) (Wd.ext (Wd.ext W (Ext.new _ _)) (Ext.new _ _)) rfl | exact Wd.isL (i := 0) W rfl | exact Wd.isL (i := 1) W rfl | exact Wd.isL (i := 2) W rfl | exact Wd.isL (i := 3) W rfl | exact Wd.isL (i := 4) W rfl | exact Wd.isL (i := 5) W rfl | exact Wd.isL (i := 6) W rfl | exact Wd.isL (i := 7) W rfl | exact Wd.isL (i := 0) (Wd.ext W (Ext.new _ _)) rfl | exact Wd.isL (i := 1) (Wd.ext W (Ext.new _ _)) rfl | exact Wd.isL (i := 2) (Wd.ext W (Ext.new _ _)) rfl | exact Wd.isL (i := 3) (Wd.ext W (Ext.new _ _)) rfl | exact Wd.isL (i := 4) (Wd.ext W (Ext.new _ _)) rfl | exact Wd.isL (i := 5) (Wd.ext W (Ext.new _ _)) rfl | exact Wd.isL (i := 6) (Wd.ext W (Ext.new _ _)) rfl | exact Wd.isL (i := 7) (Wd.ext W (Ext.new _ _)) rfl | exact Wd.isL (i := 0) (Wd.ext (Wd.ext W (Ext.new _ _)) (Ext.new _ _)) rfl | exact Wd.isL (i := 1) (Wd.ext (Wd.ext W (Ext.new _ _)) (Ext.new _ _)) rfl | exact Wd.isL (i := 2) (Wd.ext (Wd.ext W (Ext.new _ _)) (Ext.new _ _)) rfl | exact Wd.isL (i := 3) (Wd.ext (Wd.ext W (Ext.new _ _)) (Ext.new _ _)) rfl | exact Wd.isL (i := 4) (Wd.ext (Wd.ext W (Ext.new _ _)) (Ext.new _ _)) rfl | exact Wd.isL (i := 5) (Wd.ext (Wd.ext W (Ext.new _ _)) (Ext.new _ _)) rfl | exact Wd.isL (i := 6) (Wd.ext (Wd.ext W (Ext.new _ _)) (Ext.new _ _)) rfl | exact Wd.isL (i := 7) (Wd.ext (Wd.ext W (Ext.new _ _)) (Ext.new _ _)) rfl | exact Wd.isD (i := 0) W rfl | exact Wd.isD (i := 1) W rfl | exact Wd.isD (i := 2) W rfl | exact Wd.isD (i := 3) W rfl | exact Wd.isD (i := 4) W rfl | exact Wd.isD (i := 5) W rfl | exact Wd.isD (i := 6) W rfl | exact Wd.isD (i := 7) W rfl | exact Wd.isD (i := 0) (Wd.ext W (Ext.new _ _)) rfl | exact Wd.isD (i := 1) (Wd.ext W (Ext.new _ _)) rfl | exact Wd.isD (i := 2) (Wd.ext W (Ext.new _ _)) rfl | exact Wd.isD (i := 3) (Wd.ext W (Ext.new _ _)) rfl | exact Wd.isD (i := 4) (Wd.ext W (Ext.new _ _)) rfl | exact Wd.isD (i := 5) (Wd.ext W (Ext.new _ _)) rfl | exact Wd.isD (i := 6) (Wd.ext W (Ext.new _ _)) rfl | exact Wd.isD (i := 7) (Wd.ext W (Ext.new _ _)) rfl | exact Wd.isD (i := 0) (Wd.ext (Wd.ext W (Ext.new _ _)) (Ext.new _ _)) rfl | exact Wd.isD (i := 1) (Wd.ext (Wd.ext W (Ext.new _ _)) (Ext.new _ _)) rfl | exact Wd.isD (i := 2) (Wd.ext (Wd.ext W (Ext.new _ _)) (Ext.new _ _)) rfl | exact Wd.isD (i := 3) (Wd.ext (Wd.ext W (Ext.new _ _)) (Ext.new _ _)) rfl | exact Wd.isD (i := 4) (Wd.ext (Wd.ext W (Ext.new _ _)) (Ext.new _ _)) rfl | exact Wd.isD (i := 5) (Wd.ext (Wd.ext W (Ext.new _ _)) (Ext.new _ _)) rfl | exact Wd.isD (i := 6) (Wd.ext (Wd.ext W (Ext.new _ _)) (Ext.new _ _)) rfl | exact Wd.isD (i := 7) (Wd.ext (Wd.ext W (Ext.new _ _)) (Ext.new _ _)) rfl | exact Wd.isO (i := 0) W rfl | exact Wd.isO (i := 1) W rfl | exact Wd.isO (i := 2) W rfl | exact Wd.isO (i := 3) W rfl | exact Wd.isO (i := 4) W rfl | exact Wd.isO (i := 5) W rfl | exact Wd.isO (i := 6) W rfl | exact Wd.isO (i := 7) W rfl | exact Wd.isO (i := 0) (Wd.ext W (Ext.new _ _)) rfl | exact Wd.isO (i := 1) (Wd.ext W (Ext.new _ _)) rfl | exact Wd.isO (i := 2) (Wd.ext W (Ext.new _ _)) rfl | exact Wd.isO (i := 3) (Wd.ext W (Ext.new _ _)) rfl | exact Wd.isO (i := 4) (Wd.ext W (Ext.new _ _)) rfl | exact Wd.isO (i := 5) (Wd.ext W (Ext.new _ _)) rfl | exact Wd.isO (i := 6) (Wd.ext W (Ext.new _ _)) rfl | exact Wd.isO (i := 7) (Wd.ext W (Ext.new _ _)) rfl | exact Wd.isO (i := 0) (Wd.ext (Wd.ext W (Ext.new _ _)) (Ext.new _ _)) rfl | exact Wd.isO (i := 1) (Wd.ext (Wd.ext W (Ext.new _ _)) (Ext.new _ _)) rfl | exact Wd.isO (i := 2) (Wd.ext (Wd.ext W (Ext.new _ _)) (Ext.new _ _)) rfl | exact Wd.isO (i := 3) (Wd.ext (Wd.ext W (Ext.new _ _)) (Ext.new _ _)) rfl | exact Wd.isO (i := 4) (Wd.ext (Wd.ext W (Ext.new _ _)) (Ext.new _ _)) rfl | exact Wd.isO (i := 5) (Wd.ext (Wd.ext W (Ext.new _ _)) (Ext.new _ _)) rfl | exact Wd.isO (i := 6) (Wd.ext (Wd.ext W (Ext.new _ _)) (Ext.new _ _)) rfl | exact Wd.isO (i := 7) (Wd.ext (Wd.ext W (Ext.new _ _)) (Ext.new _ _)) rfl | decide | (refine lim_le ?_; omega) | (refine lim_lt ?_; omega) | (refine smf_l ?_ ?_ <;> omega) | (refine smf_r ?_ ?_ <;> omega))) [methR_eq .c_Yard, methRK_eq .c_Yard, op_mod', op_fdiv', op_mul', bindT, bindTs, walk_r1, walk_r2, wpE_tup, wpE_lst, sliI_e, tyR_lst, mthR_lst, mthR_dct, it_0, it_1, it_2, mthTy, isTy, wpS_ite, item_dr hl]
  have np := g.np
  refine w_link (by first | exact Has.sub LP.has (by simp [U]; done) (by simp [M]; done) | exact Has.fn LP.has _ (by simp [U]; done)) W 1 rfl (k := kLine) (n := 2) ?_ .line ?_ ?_ (k2 := k) (n2 := n) ?_ hk ?_ ?_ ?_ ?_ ?_ ?_ fun h W => ?_
  · show dlook (dput S.kind (.int S.np) (.str kLine)) _ = _
    rw [dlook_put]; simp
  · omega
  · omega
  · show dlook (dput S.kind (.int S.np) (.str kLine)) _ = _
    rw [dlook_put, if_neg (by simp; omega)]; exact g.k0
  · omega
  · omega
  · omega
  · show dlook S.mate _ = _
    rw [g.mt, if_neg (by omega), if_neg (by omega)]
  · show dlook S.mate _ = _
    rw [g.mt, if_neg (by omega), if_neg (by omega)]
  · show S.mate.length + 1 < LIM; have := g.mlen; simp [LIM]; omega
  simp (disch := (first | assumption | omega | exact new_at _ _ | exact isL_new | exact Wd.isY (i := 0) W rfl | exact Wd.isY (i := 1) W rfl | exact Wd.isY (i := 2) W rfl | exact Wd.isY (i := 3) W rfl | exact Wd.isY (i := 4) W rfl | exact Wd.isY (i := 5) W rfl | exact Wd.isY (i := 6) W rfl | exact Wd.isY (i := 7) W rfl | exact Wd.isY (i := 0) (Wd.ext W (Ext.new _ _)) rfl | exact Wd.isY (i := 1) (Wd.ext W (Ext.new _ _)) rfl | exact Wd.isY (i := 2) (Wd.ext W (Ext.new _ _)) rfl | exact Wd.isY (i := 3) (Wd.ext W (Ext.new _ _)) rfl | exact Wd.isY (i := 4) (Wd.ext W (Ext.new _ _)) rfl | exact Wd.isY (i := 5) (Wd.ext W (Ext.new _ _)) rfl | exact Wd.isY (i := 6) (Wd.ext W (Ext.new _ _)) rfl | exact Wd.isY (i := 7) (Wd.ext W (Ext.new _ _)) rfl | exact Wd.isY (i := 0) (Wd.ext (Wd.ext W (Ext.new _ _)) (Ext.new _ _)) rfl | exact Wd.isY (i := 1) (Wd.ext (Wd.ext W (Ext.new _ _)) (Ext.new _ _)) rfl | exact Wd.isY (i := 2) (Wd.ext (Wd.ext W (Ext.new _ _)) (Ext.new _ _)) rfl | exact Wd.isY (i := 3) (Wd.ext (Wd.ext W (Ext.new _ _)) (Ext.new _ _)) rfl | exact Wd.isY (i := 4) (Wd.ext (Wd.ext W (Ext.new _ _)) (Ext.new _ _)) rfl | exact Wd.isY (i := 5) (Wd.ext (Wd.ext W (Ext.new _ _)) (Ext.new _ _)) rfl | exact Wd.isY (i := 6) (Wd.ext (Wd.ext W (Ext.new _ _)) (Ext.new _ _)) rfl | exact Wd.isY (i := 7) (Wd.ext (Wd.ext W (Ext.new _ _)) (Ext.new _ _)) rfl | exact Wd.ob (i := 0) W rfl | exact Wd.ob (i := 1) W rfl | exact Wd.ob (i := 2) W rfl | exact Wd.ob (i := 3) W rfl | exact Wd.ob (i := 4) W rfl | exact Wd.ob (i := 5) W rfl | exact Wd.ob (i := 6) W rfl | exact Wd.ob (i := 7) W rfl | exact Wd.ob (i := 0) (Wd.ext W (Ext.new _ _)) rfl | exact Wd.ob (i := 1) (Wd.ext W (Ext.new _ _)) rfl | exact Wd.ob (i := 2) (Wd.ext W (Ext.new _ _)) rfl | exact Wd.ob (i := 3) (Wd.ext W (Ext.new _ _)) rfl | exact Wd.ob (i := 4) (Wd.ext W (Ext.new _ _)) rfl | exact Wd.ob (i := 5) (Wd.ext W (Ext.new _ _)) rfl | exact Wd.ob (i := 6) (Wd.ext W (Ext.new _ _)) rfl | exact Wd.ob (i := 7) (Wd.ext W (Ext.new _ _)) rfl | exact Wd.ob (i := 0) (Wd.ext (Wd.ext W (Ext.new _ _)) (Ext.new _ _)) rfl | exact Wd.ob (i := 1) (Wd.ext (Wd.ext W (Ext.new _ _)) (Ext.new _ _)) rfl | exact Wd.ob (i := 2) (Wd.ext (Wd.ext W (Ext.new _ _)) (Ext.new _ _)) rfl | exact Wd.ob (i := 3) (Wd.ext (Wd.ext W (Ext.new _ _)) (Ext.new _ _)) rfl | exact Wd.ob (i := 4) (Wd.ext (Wd.ext W (Ext.new _ _)) (Ext.new _ _)) rfl | exact Wd.ob (i := 5) (Wd.ext (Wd.ext W (Ext.new _ _)) (Ext.new _ _)) rfl | exact Wd.ob (i := 6) (Wd.ext (Wd.ext W (Ext.new _ _)) (Ext.new _ _)) rfl | exact Wd.ob (i := 7) (Wd.ext (Wd.ext W (Ext.new _ _)) (Ext.new _ _)) rfl | exact Wd.isL (i := 0) W rfl | exact Wd.isL (i := 1) W rfl | exact Wd.isL (i := 2) W rfl | exact Wd.isL (i := 3) W rfl | exact Wd.isL (i := 4) W rfl | exact Wd.isL (i := 5) W rfl | exact Wd.isL (i := 6) W rfl | exact Wd.isL (i := 7) W rfl | exact Wd.isL (i := 0) (Wd.ext W (Ext.new _ _)) rfl | exact Wd.isL (i := 1) (Wd.ext W (Ext.new _ _)) rfl | exact Wd.isL (i := 2) (Wd.ext W (Ext.new _ _)) rfl | exact Wd.isL (i := 3) (Wd.ext W (Ext.new _ _)) rfl | exact Wd.isL (i := 4) (Wd.ext W (Ext.new _ _)) rfl | exact Wd.isL (i := 5) (Wd.ext W (Ext.new _ _)) rfl | exact Wd.isL (i := 6) (Wd.ext W (Ext.new _ _)) rfl | exact Wd.isL (i := 7) (Wd.ext W (Ext.new _ _)) rfl | exact Wd.isL (i := 0) (Wd.ext (Wd.ext W (Ext.new _ _)) (Ext.new _ _)) rfl | exact Wd.isL (i := 1) (Wd.ext (Wd.ext W (Ext.new _ _)) (Ext.new _ _)) rfl | exact Wd.isL (i := 2) (Wd.ext (Wd.ext W (Ext.new _ _)) (Ext.new _ _)) rfl | exact Wd.isL (i := 3) (Wd.ext (Wd.ext W (Ext.new _ _)) (Ext.new _ _)) rfl | exact Wd.isL (i := 4) (Wd.ext (Wd.ext W (Ext.new _ _)) (Ext.new _ _)) rfl | exact Wd.isL (i := 5) (Wd.ext (Wd.ext W (Ext.new _ _)) (Ext.new _ _)) rfl | exact Wd.isL (i := 6) (Wd.ext (Wd.ext W (Ext.new _ _)) (Ext.new _ _)) rfl | exact Wd.isL (i := 7) (Wd.ext (Wd.ext W (Ext.new _ _)) (Ext.new _ _)) rfl | exact Wd.isD (i := 0) W rfl | exact Wd.isD (i := 1) W rfl | exact Wd.isD (i := 2) W rfl | exact Wd.isD (i := 3) W rfl | exact Wd.isD (i := 4) W rfl | exact Wd.isD (i := 5) W rfl | exact Wd.isD (i := 6) W rfl | exact Wd.isD (i := 7) W rfl | exact Wd.isD (i := 0) (Wd.ext W (Ext.new _ _)) rfl | exact Wd.isD (i := 1) (Wd.ext W (Ext.new _ _)) rfl | exact Wd.isD (i := 2) (Wd.ext W (Ext.new _ _)) rfl | exact Wd.isD (i := 3) (Wd.ext W (Ext.new _ _)) rfl | exact Wd.isD (i := 4) (Wd.ext W (Ext.new _ _)) rfl | exact Wd.isD (i := 5) (Wd.ext W (Ext.new _ _)) rfl | exact Wd.isD (i := 6) (Wd.ext W (Ext.new _ _)) rfl | exact Wd.isD (i := 7) (Wd.ext W (Ext.new _ _)) rfl | exact Wd.isD (i := 0) (Wd.ext (Wd.ext W (Ext.new _ _)) (Ext.new _ _)) rfl | exact Wd.isD (i := 1) (Wd.ext (Wd.ext W (Ext.new _ _)) (Ext.new _ _)) rfl | exact Wd.isD (i := 2) (Wd.ext (Wd.ext W (Ext.new _ _)) (Ext.new _ _)) rfl | exact Wd.isD (i := 3) (Wd.ext (Wd.ext W (Ext.new _ _)) (Ext.new _ _)) rfl | exact Wd.isD (i := 4) (Wd.ext (Wd.ext W (Ext.new _ _)) (Ext.new _ _)) rfl | exact Wd.isD (i := 5) (Wd.ext (Wd.ext W (Ext.new _ _)) (Ext.new _ _)) rfl | exact Wd.isD (i := 6) (Wd.ext (Wd.ext W (Ext.new _ _)) (Ext.new _ _)) rfl | exact Wd.isD (i := 7) (Wd.ext (Wd.ext W (Ext.new _ _)) (Ext.new _ _)) rfl | exact Wd.isO (i := 0) W rfl | exact Wd.isO (i := 1) W rfl | exact Wd.isO (i := 2) W rfl | exact Wd.isO (i := 3) W rfl | exact Wd.isO (i := 4) W rfl | exact Wd.isO (i := 5) W rfl | exact Wd.isO (i := 6) W rfl | exact Wd.isO (i := 7) W rfl | exact Wd.isO (i := 0) (Wd.ext W (Ext.new _ _)) rfl | exact Wd.isO (i := 1) (Wd.ext W (Ext.new _ _)) rfl | exact Wd.isO (i := 2) (Wd.ext W (Ext.new _ _)) rfl | exact Wd.isO (i := 3) (Wd.ext W (Ext.new _ _)) rfl | exact Wd.isO (i := 4) (Wd.ext W (Ext.new _ _)) rfl | exact Wd.isO (i := 5) (Wd.ext W (Ext.new _ _)) rfl | exact Wd.isO (i := 6) (Wd.ext W (Ext.new _ _)) rfl | exact Wd.isO (i := 7) (Wd.ext W (Ext.new _ _)) rfl | exact Wd.isO (i := 0) (Wd.ext (Wd.ext W (Ext.new _ _)) (Ext.new _ _)) rfl | exact Wd.isO (i := 1) (Wd.ext (Wd.ext W (Ext.new _ _)) (Ext.new _ _)) rfl | exact Wd.isO (i := 2) (Wd.ext (Wd.ext W (Ext.new _ _)) (Ext.new _ _)) rfl | exact Wd.isO (i := 3) (Wd.ext (Wd.ext W (Ext.new _ _)) (Ext.new _ _)) rfl | exact Wd.isO (i := 4) (Wd.ext (Wd.ext W (Ext.new _ _)) (Ext.new _ _)) rfl | exact Wd.isO (i := 5) (Wd.ext (Wd.ext W (Ext.new _ _)) (Ext.new _ _)) rfl | exact Wd.isO (i := 6) (Wd.ext (Wd.ext W (Ext.new _ _)) (Ext.new _ _)) rfl | exact Wd.isO (i := 7) (Wd.ext (Wd.ext W (Ext.new _ _)) (Ext.new _ _)) rfl | decide | (refine lim_le ?_; omega) | (refine lim_lt ?_; omega) | (refine smf_l ?_ ?_ <;> omega) | (refine smf_r ?_ ?_ <;> omega))) [methR_eq .c_Yard, methRK_eq .c_Yard, op_mod', op_fdiv', op_mul', bindT, bindTs, walk_r1, walk_r2, wpE_tup, wpE_lst, sliI_e, tyR_lst, mthR_lst, mthR_dct, it_0, it_1, it_2, mthTy, isTy, wpS_ite]
  refine ⟨_, W, ?_⟩
  rw [np]
  exact g12_step g hr
/-- the engine stands at (0, e), the yard as laid -/
structure Rdy (S S1 : YS) (k : Tx) (n e s r : Int) : Prop where
  at_ : S.at_ = .tup [.int 0, .int e]
  k0 : dlook S.kind (.int 0) = some (.str k)
  kl : ∀ q : Int, 1 ≤ q → q ≤ n → dlook S.kind (.int q) = some (.str kLine)
  mt : ∀ p e : Int, dlook S.mate (.tup [.int p, .int e]) = if p = 0 ∧ 0 ≤ e ∧ e < n then some (.tup [.int (e + 1), .int r]) else if 1 ≤ p ∧ p ≤ n ∧ e = r then some (.tup [.int 0, .int (p - 1)]) else none
  sd : S.sideAt 0 (if n = 3 then s else 0)
  so : ∀ q : Int, 1 ≤ q → q ≤ n → dlook S.rod (.int q) = none
  note : S.note = S1.note
  rung : S.rung = []
  trail : S.trail = []
  sl : S.side.length < 5
  p4 : n = 3 → (dlook S.kind (.int 4)).isSome = true ∧ dlook S.rod (.int 4) = some (.int 0) ∧ dlook S.rod (.int 0) = some (.int 0)
theorem law12 (ns : List Int) (hns : ns.length ≤ 63) : (callD P 9 .d_law [.rl (ns.map .int)] AH0).post (fun u _ => u = .bl true ∧ True) fun _ _ => False := by
  obtain ⟨l, h, e, h2, hl, hd, hn, hno⟩ := draws_ok (P := P) (k := 7) LP.fn__law_draws ns hns 8 (by decide)
  have dn := dr_nn (fun x hx => (hd x hx).1)
  have e : callD P 8 .d__law_draws [.rl (ns.map .int), .int 8] AH0 = .ok (.ref 2) h := e
  have W : Wd h [.ob 2 (.lst (l.map .int))] := Wd.ob1 h2 (by omega)
  rw [call_wp LP.fn_law rfl]
  show wpS P.cl (callD P 8) B_law [some (.rl (ns.map .int)), none, none, none, none, none, none, none, none, none, none, none, none] AH0 _ _ _
  unfold B_law
  simp (disch := (first | assumption | omega | exact new_at _ _ | exact isL_new | exact Wd.isY (i := 0) W rfl | exact Wd.isY (i := 1) W rfl | exact Wd.isY (i := 2) W rfl | exact Wd.isY (i := 3) W rfl | exact Wd.isY (i := 4) W rfl | exact Wd.isY (i := 5) W rfl | exact Wd.isY (i := 6) W rfl | exact Wd.isY (i := 7) W rfl | exact Wd.isY (i := 0) (Wd.ext W (Ext.new _ _)) rfl | exact Wd.isY (i := 1) (Wd.ext W (Ext.new _ _)) rfl | exact Wd.isY (i := 2) (Wd.ext W (Ext.new _ _)) rfl | exact Wd.isY (i := 3) (Wd.ext W (Ext.new _ _)) rfl | exact Wd.isY (i := 4) (Wd.ext W (Ext.new _ _)) rfl | exact Wd.isY (i := 5) (Wd.ext W (Ext.new _ _)) rfl | exact Wd.isY (i := 6) (Wd.ext W (Ext.new _ _)) rfl | exact Wd.isY (i := 7) (Wd.ext W (Ext.new _ _)) rfl | exact Wd.isY (i := 0) (Wd.ext (Wd.ext W (Ext.new _ _)) (Ext.new _ _)) rfl | exact Wd.isY (i := 1) (Wd.ext (Wd.ext W (Ext.new _ _)) (Ext.new _ _)) rfl | exact Wd.isY (i := 2) (Wd.ext (Wd.ext W (Ext.new _ _)) (Ext.new _ _)) rfl | exact Wd.isY (i := 3) (Wd.ext (Wd.ext W (Ext.new _ _)) (Ext.new _ _)) rfl | exact Wd.isY (i := 4) (Wd.ext (Wd.ext W (Ext.new _ _)) (Ext.new _ _)) rfl | exact Wd.isY (i := 5) (Wd.ext (Wd.ext W (Ext.new _ _)) (Ext.new _ _)) rfl | exact Wd.isY (i := 6) (Wd.ext (Wd.ext W (Ext.new _ _)) (Ext.new _ _)) rfl | exact Wd.isY (i := 7) (Wd.ext (Wd.ext W (Ext.new _ _)) (Ext.new _ _)) rfl | exact Wd.ob (i := 0) W rfl | exact Wd.ob (i := 1) W rfl | exact Wd.ob (i := 2) W rfl | exact Wd.ob (i := 3) W rfl | exact Wd.ob (i := 4) W rfl | exact Wd.ob (i := 5) W rfl | exact Wd.ob (i := 6) W rfl | exact Wd.ob (i := 7) W rfl | exact Wd.ob (i := 0) (Wd.ext W (Ext.new _ _)) rfl | exact Wd.ob (i := 1) (Wd.ext W (Ext.new _ _)) rfl | exact Wd.ob (i := 2) (Wd.ext W (Ext.new _ _)) rfl | exact Wd.ob (i := 3) (Wd.ext W (Ext.new _ _)) rfl | exact Wd.ob (i := 4) (Wd.ext W (Ext.new _ _)) rfl | exact Wd.ob (i := 5) (Wd.ext W (Ext.new _ _)) rfl | exact Wd.ob (i := 6) (Wd.ext W (Ext.new _ _)) rfl | exact Wd.ob (i := 7) (Wd.ext W (Ext.new _ _)) rfl | exact Wd.ob (i := 0) (Wd.ext (Wd.ext W (Ext.new _ _)) (Ext.new _ _)) rfl | exact Wd.ob (i := 1) (Wd.ext (Wd.ext W (Ext.new _ _)) (Ext.new _ _)) rfl | exact Wd.ob (i := 2) (Wd.ext (Wd.ext W (Ext.new _ _)) (Ext.new _ _)) rfl | exact Wd.ob (i := 3) (Wd.ext (Wd.ext W (Ext.new _ _)) (Ext.new _ _)) rfl | exact Wd.ob (i := 4) (Wd.ext (Wd.ext W (Ext.new _ _)) (Ext.new _ _)) rfl | exact Wd.ob (i := 5) (Wd.ext (Wd.ext W (Ext.new _ _)) (Ext.new _ _)) rfl | exact Wd.ob (i := 6) (Wd.ext (Wd.ext W (Ext.new _ _)) (Ext.new _ _)) rfl | exact Wd.ob (i := 7) (Wd.ext (Wd.ext W (Ext.new _ _)) (Ext.new _ _)) rfl | exact Wd.isL (i := 0) W rfl | exact Wd.isL (i := 1) W rfl | exact Wd.isL (i := 2) W rfl | exact Wd.isL (i := 3) W rfl | exact Wd.isL (i := 4) W rfl | exact Wd.isL (i := 5) W rfl | exact Wd.isL (i := 6) W rfl | exact Wd.isL (i := 7) W rfl | exact Wd.isL (i := 0) (Wd.ext W (Ext.new _ _)) rfl | exact Wd.isL (i := 1) (Wd.ext W (Ext.new _ _)) rfl | exact Wd.isL (i := 2) (Wd.ext W (Ext.new _ _)) rfl | exact Wd.isL (i := 3) (Wd.ext W (Ext.new _ _)) rfl | exact Wd.isL (i := 4) (Wd.ext W (Ext.new _ _)) rfl | exact Wd.isL (i := 5) (Wd.ext W (Ext.new _ _)) rfl | exact Wd.isL (i := 6) (Wd.ext W (Ext.new _ _)) rfl | exact Wd.isL (i := 7) (Wd.ext W (Ext.new _ _)) rfl | exact Wd.isL (i := 0) (Wd.ext (Wd.ext W (Ext.new _ _)) (Ext.new _ _)) rfl | exact Wd.isL (i := 1) (Wd.ext (Wd.ext W (Ext.new _ _)) (Ext.new _ _)) rfl | exact Wd.isL (i := 2) (Wd.ext (Wd.ext W (Ext.new _ _)) (Ext.new _ _)) rfl | exact Wd.isL (i := 3) (Wd.ext (Wd.ext W (Ext.new _ _)) (Ext.new _ _)) rfl | exact Wd.isL (i := 4) (Wd.ext (Wd.ext W (Ext.new _ _)) (Ext.new _ _)) rfl | exact Wd.isL (i := 5) (Wd.ext (Wd.ext W (Ext.new _ _)) (Ext.new _ _)) rfl | exact Wd.isL (i := 6) (Wd.ext (Wd.ext W (Ext.new _ _)) (Ext.new _ _)) rfl | exact Wd.isL (i := 7) (Wd.ext (Wd.ext W (Ext.new _ _)) (Ext.new _ _)) rfl | exact Wd.isD (i := 0) W rfl | exact Wd.isD (i := 1) W rfl | exact Wd.isD (i := 2) W rfl | exact Wd.isD (i := 3) W rfl | exact Wd.isD (i := 4) W rfl | exact Wd.isD (i := 5) W rfl | exact Wd.isD (i := 6) W rfl | exact Wd.isD (i := 7) W rfl | exact Wd.isD (i := 0) (Wd.ext W (Ext.new _ _)) rfl | exact Wd.isD (i := 1) (Wd.ext W (Ext.new _ _)) rfl | exact Wd.isD (i := 2) (Wd.ext W (Ext.new _ _)) rfl | exact Wd.isD (i := 3) (Wd.ext W (Ext.new _ _)) rfl | exact Wd.isD (i := 4) (Wd.ext W (Ext.new _ _)) rfl | exact Wd.isD (i := 5) (Wd.ext W (Ext.new _ _)) rfl | exact Wd.isD (i := 6) (Wd.ext W (Ext.new _ _)) rfl | exact Wd.isD (i := 7) (Wd.ext W (Ext.new _ _)) rfl | exact Wd.isD (i := 0) (Wd.ext (Wd.ext W (Ext.new _ _)) (Ext.new _ _)) rfl | exact Wd.isD (i := 1) (Wd.ext (Wd.ext W (Ext.new _ _)) (Ext.new _ _)) rfl | exact Wd.isD (i := 2) (Wd.ext (Wd.ext W (Ext.new _ _)) (Ext.new _ _)) rfl | exact Wd.isD (i := 3) (Wd.ext (Wd.ext W (Ext.new _ _)) (Ext.new _ _)) rfl | exact Wd.isD (i := 4) (Wd.ext (Wd.ext W (Ext.new _ _)) (Ext.new _ _)) rfl | exact Wd.isD (i := 5) (Wd.ext (Wd.ext W (Ext.new _ _)) (Ext.new _ _)) rfl | exact Wd.isD (i := 6) (Wd.ext (Wd.ext W (Ext.new _ _)) (Ext.new _ _)) rfl | exact Wd.isD (i := 7) (Wd.ext (Wd.ext W (Ext.new _ _)) (Ext.new _ _)) rfl | exact Wd.isO (i := 0) W rfl | exact Wd.isO (i := 1) W rfl | exact Wd.isO (i := 2) W rfl | exact Wd.isO (i := 3) W rfl | exact Wd.isO (i := 4) W rfl | exact Wd.isO (i := 5) W rfl | exact Wd.isO (i := 6) W rfl | exact Wd.isO (i := 7) W rfl | exact Wd.isO (i := 0) (Wd.ext W (Ext.new _ _)) rfl | exact Wd.isO (i := 1) (Wd.ext W (Ext.new _ _)) rfl | exact Wd.isO (i := 2) (Wd.ext W (Ext.new _ _)) rfl | exact Wd.isO (i := 3) (Wd.ext W (Ext.new _ _)) rfl | exact Wd.isO (i := 4) (Wd.ext W (Ext.new _ _)) rfl | exact Wd.isO (i := 5) (Wd.ext W (Ext.new _ _)) rfl | exact Wd.isO (i := 6) (Wd.ext W (Ext.new _ _)) rfl | exact Wd.isO (i := 7) (Wd.ext W (Ext.new _ _)) rfl | exact Wd.isO (i := 0) (Wd.ext (Wd.ext W (Ext.new _ _)) (Ext.new _ _)) rfl | exact Wd.isO (i := 1) (Wd.ext (Wd.ext W (Ext.new _ _)) (Ext.new _ _)) rfl | exact Wd.isO (i := 2) (Wd.ext (Wd.ext W (Ext.new _ _)) (Ext.new _ _)) rfl | exact Wd.isO (i := 3) (Wd.ext (Wd.ext W (Ext.new _ _)) (Ext.new _ _)) rfl | exact Wd.isO (i := 4) (Wd.ext (Wd.ext W (Ext.new _ _)) (Ext.new _ _)) rfl | exact Wd.isO (i := 5) (Wd.ext (Wd.ext W (Ext.new _ _)) (Ext.new _ _)) rfl | exact Wd.isO (i := 6) (Wd.ext (Wd.ext W (Ext.new _ _)) (Ext.new _ _)) rfl | exact Wd.isO (i := 7) (Wd.ext (Wd.ext W (Ext.new _ _)) (Ext.new _ _)) rfl | decide | (refine lim_le ?_; omega) | (refine lim_lt ?_; omega) | (refine smf_l ?_ ?_ <;> omega) | (refine smf_r ?_ ?_ <;> omega))) [methR_eq .c_Yard, methRK_eq .c_Yard, op_mod', op_fdiv', op_mul', bindT, bindTs, walk_r1, walk_r2, wpE_tup, wpE_lst, sliI_e, tyR_lst, mthR_lst, mthR_dct, it_0, it_1, it_2, mthTy, isTy, wpS_ite, e, l_kinds (P := P) (by first | exact Has.sub LP.has (by simp [U]; done) (by simp [M]; done) | exact Has.fn LP.has _ (by simp [U]; done))]
  have W := W.ext (.new h (.lst (six.map .str)))
  obtain ⟨k, n, ek, hk⟩ := six_kd (i := dr l 0 % 6) (by omega) (by omega)
  have hn : 1 ≤ n ∧ n ≤ 3 := by cases hk <;> omega
  simp (disch := (first | assumption | omega | exact new_at _ _ | exact isL_new | exact Wd.isY (i := 0) W rfl | exact Wd.isY (i := 1) W rfl | exact Wd.isY (i := 2) W rfl | exact Wd.isY (i := 3) W rfl | exact Wd.isY (i := 4) W rfl | exact Wd.isY (i := 5) W rfl | exact Wd.isY (i := 6) W rfl | exact Wd.isY (i := 7) W rfl | exact Wd.isY (i := 0) (Wd.ext W (Ext.new _ _)) rfl | exact Wd.isY (i := 1) (Wd.ext W (Ext.new _ _)) rfl | exact Wd.isY (i := 2) (Wd.ext W (Ext.new _ _)) rfl | exact Wd.isY (i := 3) (Wd.ext W (Ext.new _ _)) rfl | exact Wd.isY (i := 4) (Wd.ext W (Ext.new _ _)) rfl | exact Wd.isY (i := 5) (Wd.ext W (Ext.new _ _)) rfl | exact Wd.isY (i := 6) (Wd.ext W (Ext.new _ _)) rfl | exact Wd.isY (i := 7) (Wd.ext W (Ext.new _ _)) rfl | exact Wd.isY (i := 0) (Wd.ext (Wd.ext W (Ext.new _ _)) (Ext.new _ _)) rfl | exact Wd.isY (i := 1) (Wd.ext (Wd.ext W (Ext.new _ _)) (Ext.new _ _)) rfl | exact Wd.isY (i := 2) (Wd.ext (Wd.ext W (Ext.new _ _)) (Ext.new _ _)) rfl | exact Wd.isY (i := 3) (Wd.ext (Wd.ext W (Ext.new _ _)) (Ext.new _ _)) rfl | exact Wd.isY (i := 4) (Wd.ext (Wd.ext W (Ext.new _ _)) (Ext.new _ _)) rfl | exact Wd.isY (i := 5) (Wd.ext (Wd.ext W (Ext.new _ _)) (Ext.new _ _)) rfl | exact Wd.isY (i := 6) (Wd.ext (Wd.ext W (Ext.new _ _)) (Ext.new _ _)) rfl | exact Wd.isY (i := 7) (Wd.ext (Wd.ext W (Ext.new _ _)) (Ext.new _ _)) rfl | exact Wd.ob (i := 0) W rfl | exact Wd.ob (i := 1) W rfl | exact Wd.ob (i := 2) W rfl | exact Wd.ob (i := 3) W rfl | exact Wd.ob (i := 4) W rfl | exact Wd.ob (i := 5) W rfl | exact Wd.ob (i := 6) W rfl | exact Wd.ob (i := 7) W rfl | exact Wd.ob (i := 0) (Wd.ext W (Ext.new _ _)) rfl | exact Wd.ob (i := 1) (Wd.ext W (Ext.new _ _)) rfl | exact Wd.ob (i := 2) (Wd.ext W (Ext.new _ _)) rfl | exact Wd.ob (i := 3) (Wd.ext W (Ext.new _ _)) rfl | exact Wd.ob (i := 4) (Wd.ext W (Ext.new _ _)) rfl | exact Wd.ob (i := 5) (Wd.ext W (Ext.new _ _)) rfl | exact Wd.ob (i := 6) (Wd.ext W (Ext.new _ _)) rfl | exact Wd.ob (i := 7) (Wd.ext W (Ext.new _ _)) rfl | exact Wd.ob (i := 0) (Wd.ext (Wd.ext W (Ext.new _ _)) (Ext.new _ _)) rfl | exact Wd.ob (i := 1) (Wd.ext (Wd.ext W (Ext.new _ _)) (Ext.new _ _)) rfl | exact Wd.ob (i := 2) (Wd.ext (Wd.ext W (Ext.new _ _)) (Ext.new _ _)) rfl | exact Wd.ob (i := 3) (Wd.ext (Wd.ext W (Ext.new _ _)) (Ext.new _ _)) rfl | exact Wd.ob (i := 4) (Wd.ext (Wd.ext W (Ext.new _ _)) (Ext.new _ _)) rfl | exact Wd.ob (i := 5) (Wd.ext (Wd.ext W (Ext.new _ _)) (Ext.new _ _)) rfl | exact Wd.ob (i := 6) (Wd.ext (Wd.ext W (Ext.new _ _)) (Ext.new _ _)) rfl | exact Wd.ob (i := 7) (Wd.ext (Wd.ext W (Ext.new _ _)) (Ext.new _ _)) rfl | exact Wd.isL (i := 0) W rfl | exact Wd.isL (i := 1) W rfl | exact Wd.isL (i := 2) W rfl | exact Wd.isL (i := 3) W rfl | exact Wd.isL (i := 4) W rfl | exact Wd.isL (i := 5) W rfl | exact Wd.isL (i := 6) W rfl | exact Wd.isL (i := 7) W rfl | exact Wd.isL (i := 0) (Wd.ext W (Ext.new _ _)) rfl | exact Wd.isL (i := 1) (Wd.ext W (Ext.new _ _)) rfl | exact Wd.isL (i := 2) (Wd.ext W (Ext.new _ _)) rfl | exact Wd.isL (i := 3) (Wd.ext W (Ext.new _ _)) rfl | exact Wd.isL (i := 4) (Wd.ext W (Ext.new _ _)) rfl | exact Wd.isL (i := 5) (Wd.ext W (Ext.new _ _)) rfl | exact Wd.isL (i := 6) (Wd.ext W (Ext.new _ _)) rfl | exact Wd.isL (i := 7) (Wd.ext W (Ext.new _ _)) rfl | exact Wd.isL (i := 0) (Wd.ext (Wd.ext W (Ext.new _ _)) (Ext.new _ _)) rfl | exact Wd.isL (i := 1) (Wd.ext (Wd.ext W (Ext.new _ _)) (Ext.new _ _)) rfl | exact Wd.isL (i := 2) (Wd.ext (Wd.ext W (Ext.new _ _)) (Ext.new _ _)) rfl | exact Wd.isL (i := 3) (Wd.ext (Wd.ext W (Ext.new _ _)) (Ext.new _ _)) rfl | exact Wd.isL (i := 4) (Wd.ext (Wd.ext W (Ext.new _ _)) (Ext.new _ _)) rfl | exact Wd.isL (i := 5) (Wd.ext (Wd.ext W (Ext.new _ _)) (Ext.new _ _)) rfl | exact Wd.isL (i := 6) (Wd.ext (Wd.ext W (Ext.new _ _)) (Ext.new _ _)) rfl | exact Wd.isL (i := 7) (Wd.ext (Wd.ext W (Ext.new _ _)) (Ext.new _ _)) rfl | exact Wd.isD (i := 0) W rfl | exact Wd.isD (i := 1) W rfl | exact Wd.isD (i := 2) W rfl | exact Wd.isD (i := 3) W rfl | exact Wd.isD (i := 4) W rfl | exact Wd.isD (i := 5) W rfl | exact Wd.isD (i := 6) W rfl | exact Wd.isD (i := 7) W rfl | exact Wd.isD (i := 0) (Wd.ext W (Ext.new _ _)) rfl | exact Wd.isD (i := 1) (Wd.ext W (Ext.new _ _)) rfl | exact Wd.isD (i := 2) (Wd.ext W (Ext.new _ _)) rfl | exact Wd.isD (i := 3) (Wd.ext W (Ext.new _ _)) rfl | exact Wd.isD (i := 4) (Wd.ext W (Ext.new _ _)) rfl | exact Wd.isD (i := 5) (Wd.ext W (Ext.new _ _)) rfl | exact Wd.isD (i := 6) (Wd.ext W (Ext.new _ _)) rfl | exact Wd.isD (i := 7) (Wd.ext W (Ext.new _ _)) rfl | exact Wd.isD (i := 0) (Wd.ext (Wd.ext W (Ext.new _ _)) (Ext.new _ _)) rfl | exact Wd.isD (i := 1) (Wd.ext (Wd.ext W (Ext.new _ _)) (Ext.new _ _)) rfl | exact Wd.isD (i := 2) (Wd.ext (Wd.ext W (Ext.new _ _)) (Ext.new _ _)) rfl | exact Wd.isD (i := 3) (Wd.ext (Wd.ext W (Ext.new _ _)) (Ext.new _ _)) rfl | exact Wd.isD (i := 4) (Wd.ext (Wd.ext W (Ext.new _ _)) (Ext.new _ _)) rfl | exact Wd.isD (i := 5) (Wd.ext (Wd.ext W (Ext.new _ _)) (Ext.new _ _)) rfl | exact Wd.isD (i := 6) (Wd.ext (Wd.ext W (Ext.new _ _)) (Ext.new _ _)) rfl | exact Wd.isD (i := 7) (Wd.ext (Wd.ext W (Ext.new _ _)) (Ext.new _ _)) rfl | exact Wd.isO (i := 0) W rfl | exact Wd.isO (i := 1) W rfl | exact Wd.isO (i := 2) W rfl | exact Wd.isO (i := 3) W rfl | exact Wd.isO (i := 4) W rfl | exact Wd.isO (i := 5) W rfl | exact Wd.isO (i := 6) W rfl | exact Wd.isO (i := 7) W rfl | exact Wd.isO (i := 0) (Wd.ext W (Ext.new _ _)) rfl | exact Wd.isO (i := 1) (Wd.ext W (Ext.new _ _)) rfl | exact Wd.isO (i := 2) (Wd.ext W (Ext.new _ _)) rfl | exact Wd.isO (i := 3) (Wd.ext W (Ext.new _ _)) rfl | exact Wd.isO (i := 4) (Wd.ext W (Ext.new _ _)) rfl | exact Wd.isO (i := 5) (Wd.ext W (Ext.new _ _)) rfl | exact Wd.isO (i := 6) (Wd.ext W (Ext.new _ _)) rfl | exact Wd.isO (i := 7) (Wd.ext W (Ext.new _ _)) rfl | exact Wd.isO (i := 0) (Wd.ext (Wd.ext W (Ext.new _ _)) (Ext.new _ _)) rfl | exact Wd.isO (i := 1) (Wd.ext (Wd.ext W (Ext.new _ _)) (Ext.new _ _)) rfl | exact Wd.isO (i := 2) (Wd.ext (Wd.ext W (Ext.new _ _)) (Ext.new _ _)) rfl | exact Wd.isO (i := 3) (Wd.ext (Wd.ext W (Ext.new _ _)) (Ext.new _ _)) rfl | exact Wd.isO (i := 4) (Wd.ext (Wd.ext W (Ext.new _ _)) (Ext.new _ _)) rfl | exact Wd.isO (i := 5) (Wd.ext (Wd.ext W (Ext.new _ _)) (Ext.new _ _)) rfl | exact Wd.isO (i := 6) (Wd.ext (Wd.ext W (Ext.new _ _)) (Ext.new _ _)) rfl | exact Wd.isO (i := 7) (Wd.ext (Wd.ext W (Ext.new _ _)) (Ext.new _ _)) rfl | decide | (refine lim_le ?_; omega) | (refine lim_lt ?_; omega) | (refine smf_l ?_ ?_ <;> omega) | (refine smf_r ?_ ?_ <;> omega))) [methR_eq .c_Yard, methRK_eq .c_Yard, op_mod', op_fdiv', op_mul', bindT, bindTs, walk_r1, walk_r2, wpE_tup, wpE_lst, sliI_e, tyR_lst, mthR_lst, mthR_dct, it_0, it_1, it_2, mthTy, isTy, wpS_ite, item_dr hl, at_list (new_at _ _) ek, l_many (P := P) (by first | exact Has.sub LP.has (by simp [U]; done) (by simp [M]; done) | exact Has.fn LP.has _ (by simp [U]; done)) hk]
  refine w_make (by first | exact Has.sub LP.has (by simp [U]; done) (by simp [M]; done) | exact Has.fn LP.has _ (by simp [U]; done)) LP.ini_Yard W fun h y W => ?_
  simp (disch := (first | assumption | omega | exact new_at _ _ | exact isL_new | exact Wd.isY (i := 0) W rfl | exact Wd.isY (i := 1) W rfl | exact Wd.isY (i := 2) W rfl | exact Wd.isY (i := 3) W rfl | exact Wd.isY (i := 4) W rfl | exact Wd.isY (i := 5) W rfl | exact Wd.isY (i := 6) W rfl | exact Wd.isY (i := 7) W rfl | exact Wd.isY (i := 0) (Wd.ext W (Ext.new _ _)) rfl | exact Wd.isY (i := 1) (Wd.ext W (Ext.new _ _)) rfl | exact Wd.isY (i := 2) (Wd.ext W (Ext.new _ _)) rfl | exact Wd.isY (i := 3) (Wd.ext W (Ext.new _ _)) rfl | exact Wd.isY (i := 4) (Wd.ext W (Ext.new _ _)) rfl | exact Wd.isY (i := 5) (Wd.ext W (Ext.new _ _)) rfl | exact Wd.isY (i := 6) (Wd.ext W (Ext.new _ _)) rfl | exact Wd.isY (i := 7) (Wd.ext W (Ext.new _ _)) rfl | exact Wd.isY (i := 0) (Wd.ext (Wd.ext W (Ext.new _ _)) (Ext.new _ _)) rfl | exact Wd.isY (i := 1) (Wd.ext (Wd.ext W (Ext.new _ _)) (Ext.new _ _)) rfl | exact Wd.isY (i := 2) (Wd.ext (Wd.ext W (Ext.new _ _)) (Ext.new _ _)) rfl | exact Wd.isY (i := 3) (Wd.ext (Wd.ext W (Ext.new _ _)) (Ext.new _ _)) rfl | exact Wd.isY (i := 4) (Wd.ext (Wd.ext W (Ext.new _ _)) (Ext.new _ _)) rfl | exact Wd.isY (i := 5) (Wd.ext (Wd.ext W (Ext.new _ _)) (Ext.new _ _)) rfl | exact Wd.isY (i := 6) (Wd.ext (Wd.ext W (Ext.new _ _)) (Ext.new _ _)) rfl | exact Wd.isY (i := 7) (Wd.ext (Wd.ext W (Ext.new _ _)) (Ext.new _ _)) rfl | exact Wd.ob (i := 0) W rfl | exact Wd.ob (i := 1) W rfl | exact Wd.ob (i := 2) W rfl | exact Wd.ob (i := 3) W rfl | exact Wd.ob (i := 4) W rfl | exact Wd.ob (i := 5) W rfl | exact Wd.ob (i := 6) W rfl | exact Wd.ob (i := 7) W rfl | exact Wd.ob (i := 0) (Wd.ext W (Ext.new _ _)) rfl | exact Wd.ob (i := 1) (Wd.ext W (Ext.new _ _)) rfl | exact Wd.ob (i := 2) (Wd.ext W (Ext.new _ _)) rfl | exact Wd.ob (i := 3) (Wd.ext W (Ext.new _ _)) rfl | exact Wd.ob (i := 4) (Wd.ext W (Ext.new _ _)) rfl | exact Wd.ob (i := 5) (Wd.ext W (Ext.new _ _)) rfl | exact Wd.ob (i := 6) (Wd.ext W (Ext.new _ _)) rfl | exact Wd.ob (i := 7) (Wd.ext W (Ext.new _ _)) rfl | exact Wd.ob (i := 0) (Wd.ext (Wd.ext W (Ext.new _ _)) (Ext.new _ _)) rfl | exact Wd.ob (i := 1) (Wd.ext (Wd.ext W (Ext.new _ _)) (Ext.new _ _)) rfl | exact Wd.ob (i := 2) (Wd.ext (Wd.ext W (Ext.new _ _)) (Ext.new _ _)) rfl | exact Wd.ob (i := 3) (Wd.ext (Wd.ext W (Ext.new _ _)) (Ext.new _ _)) rfl | exact Wd.ob (i := 4) (Wd.ext (Wd.ext W (Ext.new _ _)) (Ext.new _ _)) rfl | exact Wd.ob (i := 5) (Wd.ext (Wd.ext W (Ext.new _ _)) (Ext.new _ _)) rfl | exact Wd.ob (i := 6) (Wd.ext (Wd.ext W (Ext.new _ _)) (Ext.new _ _)) rfl | exact Wd.ob (i := 7) (Wd.ext (Wd.ext W (Ext.new _ _)) (Ext.new _ _)) rfl | exact Wd.isL (i := 0) W rfl | exact Wd.isL (i := 1) W rfl | exact Wd.isL (i := 2) W rfl | exact Wd.isL (i := 3) W rfl | exact Wd.isL (i := 4) W rfl | exact Wd.isL (i := 5) W rfl | exact Wd.isL (i := 6) W rfl | exact Wd.isL (i := 7) W rfl | exact Wd.isL (i := 0) (Wd.ext W (Ext.new _ _)) rfl | exact Wd.isL (i := 1) (Wd.ext W (Ext.new _ _)) rfl | exact Wd.isL (i := 2) (Wd.ext W (Ext.new _ _)) rfl | exact Wd.isL (i := 3) (Wd.ext W (Ext.new _ _)) rfl | exact Wd.isL (i := 4) (Wd.ext W (Ext.new _ _)) rfl | exact Wd.isL (i := 5) (Wd.ext W (Ext.new _ _)) rfl | exact Wd.isL (i := 6) (Wd.ext W (Ext.new _ _)) rfl | exact Wd.isL (i := 7) (Wd.ext W (Ext.new _ _)) rfl | exact Wd.isL (i := 0) (Wd.ext (Wd.ext W (Ext.new _ _)) (Ext.new _ _)) rfl | exact Wd.isL (i := 1) (Wd.ext (Wd.ext W (Ext.new _ _)) (Ext.new _ _)) rfl | exact Wd.isL (i := 2) (Wd.ext (Wd.ext W (Ext.new _ _)) (Ext.new _ _)) rfl | exact Wd.isL (i := 3) (Wd.ext (Wd.ext W (Ext.new _ _)) (Ext.new _ _)) rfl | exact Wd.isL (i := 4) (Wd.ext (Wd.ext W (Ext.new _ _)) (Ext.new _ _)) rfl | exact Wd.isL (i := 5) (Wd.ext (Wd.ext W (Ext.new _ _)) (Ext.new _ _)) rfl | exact Wd.isL (i := 6) (Wd.ext (Wd.ext W (Ext.new _ _)) (Ext.new _ _)) rfl | exact Wd.isL (i := 7) (Wd.ext (Wd.ext W (Ext.new _ _)) (Ext.new _ _)) rfl | exact Wd.isD (i := 0) W rfl | exact Wd.isD (i := 1) W rfl | exact Wd.isD (i := 2) W rfl | exact Wd.isD (i := 3) W rfl | exact Wd.isD (i := 4) W rfl | exact Wd.isD (i := 5) W rfl | exact Wd.isD (i := 6) W rfl | exact Wd.isD (i := 7) W rfl | exact Wd.isD (i := 0) (Wd.ext W (Ext.new _ _)) rfl | exact Wd.isD (i := 1) (Wd.ext W (Ext.new _ _)) rfl | exact Wd.isD (i := 2) (Wd.ext W (Ext.new _ _)) rfl | exact Wd.isD (i := 3) (Wd.ext W (Ext.new _ _)) rfl | exact Wd.isD (i := 4) (Wd.ext W (Ext.new _ _)) rfl | exact Wd.isD (i := 5) (Wd.ext W (Ext.new _ _)) rfl | exact Wd.isD (i := 6) (Wd.ext W (Ext.new _ _)) rfl | exact Wd.isD (i := 7) (Wd.ext W (Ext.new _ _)) rfl | exact Wd.isD (i := 0) (Wd.ext (Wd.ext W (Ext.new _ _)) (Ext.new _ _)) rfl | exact Wd.isD (i := 1) (Wd.ext (Wd.ext W (Ext.new _ _)) (Ext.new _ _)) rfl | exact Wd.isD (i := 2) (Wd.ext (Wd.ext W (Ext.new _ _)) (Ext.new _ _)) rfl | exact Wd.isD (i := 3) (Wd.ext (Wd.ext W (Ext.new _ _)) (Ext.new _ _)) rfl | exact Wd.isD (i := 4) (Wd.ext (Wd.ext W (Ext.new _ _)) (Ext.new _ _)) rfl | exact Wd.isD (i := 5) (Wd.ext (Wd.ext W (Ext.new _ _)) (Ext.new _ _)) rfl | exact Wd.isD (i := 6) (Wd.ext (Wd.ext W (Ext.new _ _)) (Ext.new _ _)) rfl | exact Wd.isD (i := 7) (Wd.ext (Wd.ext W (Ext.new _ _)) (Ext.new _ _)) rfl | exact Wd.isO (i := 0) W rfl | exact Wd.isO (i := 1) W rfl | exact Wd.isO (i := 2) W rfl | exact Wd.isO (i := 3) W rfl | exact Wd.isO (i := 4) W rfl | exact Wd.isO (i := 5) W rfl | exact Wd.isO (i := 6) W rfl | exact Wd.isO (i := 7) W rfl | exact Wd.isO (i := 0) (Wd.ext W (Ext.new _ _)) rfl | exact Wd.isO (i := 1) (Wd.ext W (Ext.new _ _)) rfl | exact Wd.isO (i := 2) (Wd.ext W (Ext.new _ _)) rfl | exact Wd.isO (i := 3) (Wd.ext W (Ext.new _ _)) rfl | exact Wd.isO (i := 4) (Wd.ext W (Ext.new _ _)) rfl | exact Wd.isO (i := 5) (Wd.ext W (Ext.new _ _)) rfl | exact Wd.isO (i := 6) (Wd.ext W (Ext.new _ _)) rfl | exact Wd.isO (i := 7) (Wd.ext W (Ext.new _ _)) rfl | exact Wd.isO (i := 0) (Wd.ext (Wd.ext W (Ext.new _ _)) (Ext.new _ _)) rfl | exact Wd.isO (i := 1) (Wd.ext (Wd.ext W (Ext.new _ _)) (Ext.new _ _)) rfl | exact Wd.isO (i := 2) (Wd.ext (Wd.ext W (Ext.new _ _)) (Ext.new _ _)) rfl | exact Wd.isO (i := 3) (Wd.ext (Wd.ext W (Ext.new _ _)) (Ext.new _ _)) rfl | exact Wd.isO (i := 4) (Wd.ext (Wd.ext W (Ext.new _ _)) (Ext.new _ _)) rfl | exact Wd.isO (i := 5) (Wd.ext (Wd.ext W (Ext.new _ _)) (Ext.new _ _)) rfl | exact Wd.isO (i := 6) (Wd.ext (Wd.ext W (Ext.new _ _)) (Ext.new _ _)) rfl | exact Wd.isO (i := 7) (Wd.ext (Wd.ext W (Ext.new _ _)) (Ext.new _ _)) rfl | decide | (refine lim_le ?_; omega) | (refine lim_lt ?_; omega) | (refine smf_l ?_ ?_ <;> omega) | (refine smf_r ?_ ?_ <;> omega))) [methR_eq .c_Yard, methRK_eq .c_Yard, op_mod', op_fdiv', op_mul', bindT, bindTs, walk_r1, walk_r2, wpE_tup, wpE_lst, sliI_e, tyR_lst, mthR_lst, mthR_dct, it_0, it_1, it_2, mthTy, isTy, wpS_ite]
  refine w_lay (by first | exact Has.sub LP.has (by simp [U]; done) (by simp [M]; done) | exact Has.fn LP.has _ (by simp [U]; done)) LP.dfl_rod W 1 rfl hk (fun _ => by omega) (by decide) (by decide) (by decide) (by decide) fun h W => ?_
  simp (disch := (first | assumption | omega | exact new_at _ _ | exact isL_new | exact Wd.isY (i := 0) W rfl | exact Wd.isY (i := 1) W rfl | exact Wd.isY (i := 2) W rfl | exact Wd.isY (i := 3) W rfl | exact Wd.isY (i := 4) W rfl | exact Wd.isY (i := 5) W rfl | exact Wd.isY (i := 6) W rfl | exact Wd.isY (i := 7) W rfl | exact Wd.isY (i := 0) (Wd.ext W (Ext.new _ _)) rfl | exact Wd.isY (i := 1) (Wd.ext W (Ext.new _ _)) rfl | exact Wd.isY (i := 2) (Wd.ext W (Ext.new _ _)) rfl | exact Wd.isY (i := 3) (Wd.ext W (Ext.new _ _)) rfl | exact Wd.isY (i := 4) (Wd.ext W (Ext.new _ _)) rfl | exact Wd.isY (i := 5) (Wd.ext W (Ext.new _ _)) rfl | exact Wd.isY (i := 6) (Wd.ext W (Ext.new _ _)) rfl | exact Wd.isY (i := 7) (Wd.ext W (Ext.new _ _)) rfl | exact Wd.isY (i := 0) (Wd.ext (Wd.ext W (Ext.new _ _)) (Ext.new _ _)) rfl | exact Wd.isY (i := 1) (Wd.ext (Wd.ext W (Ext.new _ _)) (Ext.new _ _)) rfl | exact Wd.isY (i := 2) (Wd.ext (Wd.ext W (Ext.new _ _)) (Ext.new _ _)) rfl | exact Wd.isY (i := 3) (Wd.ext (Wd.ext W (Ext.new _ _)) (Ext.new _ _)) rfl | exact Wd.isY (i := 4) (Wd.ext (Wd.ext W (Ext.new _ _)) (Ext.new _ _)) rfl | exact Wd.isY (i := 5) (Wd.ext (Wd.ext W (Ext.new _ _)) (Ext.new _ _)) rfl | exact Wd.isY (i := 6) (Wd.ext (Wd.ext W (Ext.new _ _)) (Ext.new _ _)) rfl | exact Wd.isY (i := 7) (Wd.ext (Wd.ext W (Ext.new _ _)) (Ext.new _ _)) rfl | exact Wd.ob (i := 0) W rfl | exact Wd.ob (i := 1) W rfl | exact Wd.ob (i := 2) W rfl | exact Wd.ob (i := 3) W rfl | exact Wd.ob (i := 4) W rfl | exact Wd.ob (i := 5) W rfl | exact Wd.ob (i := 6) W rfl | exact Wd.ob (i := 7) W rfl | exact Wd.ob (i := 0) (Wd.ext W (Ext.new _ _)) rfl | exact Wd.ob (i := 1) (Wd.ext W (Ext.new _ _)) rfl | exact Wd.ob (i := 2) (Wd.ext W (Ext.new _ _)) rfl | exact Wd.ob (i := 3) (Wd.ext W (Ext.new _ _)) rfl | exact Wd.ob (i := 4) (Wd.ext W (Ext.new _ _)) rfl | exact Wd.ob (i := 5) (Wd.ext W (Ext.new _ _)) rfl | exact Wd.ob (i := 6) (Wd.ext W (Ext.new _ _)) rfl | exact Wd.ob (i := 7) (Wd.ext W (Ext.new _ _)) rfl | exact Wd.ob (i := 0) (Wd.ext (Wd.ext W (Ext.new _ _)) (Ext.new _ _)) rfl | exact Wd.ob (i := 1) (Wd.ext (Wd.ext W (Ext.new _ _)) (Ext.new _ _)) rfl | exact Wd.ob (i := 2) (Wd.ext (Wd.ext W (Ext.new _ _)) (Ext.new _ _)) rfl | exact Wd.ob (i := 3) (Wd.ext (Wd.ext W (Ext.new _ _)) (Ext.new _ _)) rfl | exact Wd.ob (i := 4) (Wd.ext (Wd.ext W (Ext.new _ _)) (Ext.new _ _)) rfl | exact Wd.ob (i := 5) (Wd.ext (Wd.ext W (Ext.new _ _)) (Ext.new _ _)) rfl | exact Wd.ob (i := 6) (Wd.ext (Wd.ext W (Ext.new _ _)) (Ext.new _ _)) rfl | exact Wd.ob (i := 7) (Wd.ext (Wd.ext W (Ext.new _ _)) (Ext.new _ _)) rfl | exact Wd.isL (i := 0) W rfl | exact Wd.isL (i := 1) W rfl | exact Wd.isL (i := 2) W rfl | exact Wd.isL (i := 3) W rfl | exact Wd.isL (i := 4) W rfl | exact Wd.isL (i := 5) W rfl | exact Wd.isL (i := 6) W rfl | exact Wd.isL (i := 7) W rfl | exact Wd.isL (i := 0) (Wd.ext W (Ext.new _ _)) rfl | exact Wd.isL (i := 1) (Wd.ext W (Ext.new _ _)) rfl | exact Wd.isL (i := 2) (Wd.ext W (Ext.new _ _)) rfl | exact Wd.isL (i := 3) (Wd.ext W (Ext.new _ _)) rfl | exact Wd.isL (i := 4) (Wd.ext W (Ext.new _ _)) rfl | exact Wd.isL (i := 5) (Wd.ext W (Ext.new _ _)) rfl | exact Wd.isL (i := 6) (Wd.ext W (Ext.new _ _)) rfl | exact Wd.isL (i := 7) (Wd.ext W (Ext.new _ _)) rfl | exact Wd.isL (i := 0) (Wd.ext (Wd.ext W (Ext.new _ _)) (Ext.new _ _)) rfl | exact Wd.isL (i := 1) (Wd.ext (Wd.ext W (Ext.new _ _)) (Ext.new _ _)) rfl | exact Wd.isL (i := 2) (Wd.ext (Wd.ext W (Ext.new _ _)) (Ext.new _ _)) rfl | exact Wd.isL (i := 3) (Wd.ext (Wd.ext W (Ext.new _ _)) (Ext.new _ _)) rfl | exact Wd.isL (i := 4) (Wd.ext (Wd.ext W (Ext.new _ _)) (Ext.new _ _)) rfl | exact Wd.isL (i := 5) (Wd.ext (Wd.ext W (Ext.new _ _)) (Ext.new _ _)) rfl | exact Wd.isL (i := 6) (Wd.ext (Wd.ext W (Ext.new _ _)) (Ext.new _ _)) rfl | exact Wd.isL (i := 7) (Wd.ext (Wd.ext W (Ext.new _ _)) (Ext.new _ _)) rfl | exact Wd.isD (i := 0) W rfl | exact Wd.isD (i := 1) W rfl | exact Wd.isD (i := 2) W rfl | exact Wd.isD (i := 3) W rfl | exact Wd.isD (i := 4) W rfl | exact Wd.isD (i := 5) W rfl | exact Wd.isD (i := 6) W rfl | exact Wd.isD (i := 7) W rfl | exact Wd.isD (i := 0) (Wd.ext W (Ext.new _ _)) rfl | exact Wd.isD (i := 1) (Wd.ext W (Ext.new _ _)) rfl | exact Wd.isD (i := 2) (Wd.ext W (Ext.new _ _)) rfl | exact Wd.isD (i := 3) (Wd.ext W (Ext.new _ _)) rfl | exact Wd.isD (i := 4) (Wd.ext W (Ext.new _ _)) rfl | exact Wd.isD (i := 5) (Wd.ext W (Ext.new _ _)) rfl | exact Wd.isD (i := 6) (Wd.ext W (Ext.new _ _)) rfl | exact Wd.isD (i := 7) (Wd.ext W (Ext.new _ _)) rfl | exact Wd.isD (i := 0) (Wd.ext (Wd.ext W (Ext.new _ _)) (Ext.new _ _)) rfl | exact Wd.isD (i := 1) (Wd.ext (Wd.ext W (Ext.new _ _)) (Ext.new _ _)) rfl | exact Wd.isD (i := 2) (Wd.ext (Wd.ext W (Ext.new _ _)) (Ext.new _ _)) rfl | exact Wd.isD (i := 3) (Wd.ext (Wd.ext W (Ext.new _ _)) (Ext.new _ _)) rfl | exact Wd.isD (i := 4) (Wd.ext (Wd.ext W (Ext.new _ _)) (Ext.new _ _)) rfl | exact Wd.isD (i := 5) (Wd.ext (Wd.ext W (Ext.new _ _)) (Ext.new _ _)) rfl | exact Wd.isD (i := 6) (Wd.ext (Wd.ext W (Ext.new _ _)) (Ext.new _ _)) rfl | exact Wd.isD (i := 7) (Wd.ext (Wd.ext W (Ext.new _ _)) (Ext.new _ _)) rfl | exact Wd.isO (i := 0) W rfl | exact Wd.isO (i := 1) W rfl | exact Wd.isO (i := 2) W rfl | exact Wd.isO (i := 3) W rfl | exact Wd.isO (i := 4) W rfl | exact Wd.isO (i := 5) W rfl | exact Wd.isO (i := 6) W rfl | exact Wd.isO (i := 7) W rfl | exact Wd.isO (i := 0) (Wd.ext W (Ext.new _ _)) rfl | exact Wd.isO (i := 1) (Wd.ext W (Ext.new _ _)) rfl | exact Wd.isO (i := 2) (Wd.ext W (Ext.new _ _)) rfl | exact Wd.isO (i := 3) (Wd.ext W (Ext.new _ _)) rfl | exact Wd.isO (i := 4) (Wd.ext W (Ext.new _ _)) rfl | exact Wd.isO (i := 5) (Wd.ext W (Ext.new _ _)) rfl | exact Wd.isO (i := 6) (Wd.ext W (Ext.new _ _)) rfl | exact Wd.isO (i := 7) (Wd.ext W (Ext.new _ _)) rfl | exact Wd.isO (i := 0) (Wd.ext (Wd.ext W (Ext.new _ _)) (Ext.new _ _)) rfl | exact Wd.isO (i := 1) (Wd.ext (Wd.ext W (Ext.new _ _)) (Ext.new _ _)) rfl | exact Wd.isO (i := 2) (Wd.ext (Wd.ext W (Ext.new _ _)) (Ext.new _ _)) rfl | exact Wd.isO (i := 3) (Wd.ext (Wd.ext W (Ext.new _ _)) (Ext.new _ _)) rfl | exact Wd.isO (i := 4) (Wd.ext (Wd.ext W (Ext.new _ _)) (Ext.new _ _)) rfl | exact Wd.isO (i := 5) (Wd.ext (Wd.ext W (Ext.new _ _)) (Ext.new _ _)) rfl | exact Wd.isO (i := 6) (Wd.ext (Wd.ext W (Ext.new _ _)) (Ext.new _ _)) rfl | exact Wd.isO (i := 7) (Wd.ext (Wd.ext W (Ext.new _ _)) (Ext.new _ _)) rfl | decide | (refine lim_le ?_; omega) | (refine lim_lt ?_; omega) | (refine smf_l ?_ ?_ <;> omega) | (refine smf_r ?_ ?_ <;> omega))) [methR_eq .c_Yard, methRK_eq .c_Yard, op_mod', op_fdiv', op_mul', bindT, bindTs, walk_r1, walk_r2, wpE_tup, wpE_lst, sliI_e, tyR_lst, mthR_lst, mthR_dct, it_0, it_1, it_2, mthTy, isTy, wpS_ite]
  obtain ⟨S1, hS1⟩ : ∃ S1, S1 = YS0.lay0 k n (.int (dr l 1 % 10000)) := ⟨_, rfl⟩
  have g := g12_start hk (.int (dr l 1 % 10000)) (dr l 2 % 2)
  rw [← hS1] at g
  have W : Wd h [.ob 2 (.lst (l.map .int)), .yard y S1] := by rw [hS1]; exact W
  have nl : S1.note.length < 5 := by
    rw [hS1]; unfold YS.lay0; split
    · exact Nat.succ_pos 4
    · have := dput_length YS0.note (.int YS0.np) (.int (dr l 1 % 10000))
      have z : YS0.note.length = 0 := rfl
      unfold YS.laid; dsimp only; split <;> omega
  refine loopL hk hl nl W g fun h S c6 c7 W g => ?_
  simp (disch := (first | assumption | omega | exact new_at _ _ | exact isL_new | exact Wd.isY (i := 0) W rfl | exact Wd.isY (i := 1) W rfl | exact Wd.isY (i := 2) W rfl | exact Wd.isY (i := 3) W rfl | exact Wd.isY (i := 4) W rfl | exact Wd.isY (i := 5) W rfl | exact Wd.isY (i := 6) W rfl | exact Wd.isY (i := 7) W rfl | exact Wd.isY (i := 0) (Wd.ext W (Ext.new _ _)) rfl | exact Wd.isY (i := 1) (Wd.ext W (Ext.new _ _)) rfl | exact Wd.isY (i := 2) (Wd.ext W (Ext.new _ _)) rfl | exact Wd.isY (i := 3) (Wd.ext W (Ext.new _ _)) rfl | exact Wd.isY (i := 4) (Wd.ext W (Ext.new _ _)) rfl | exact Wd.isY (i := 5) (Wd.ext W (Ext.new _ _)) rfl | exact Wd.isY (i := 6) (Wd.ext W (Ext.new _ _)) rfl | exact Wd.isY (i := 7) (Wd.ext W (Ext.new _ _)) rfl | exact Wd.isY (i := 0) (Wd.ext (Wd.ext W (Ext.new _ _)) (Ext.new _ _)) rfl | exact Wd.isY (i := 1) (Wd.ext (Wd.ext W (Ext.new _ _)) (Ext.new _ _)) rfl | exact Wd.isY (i := 2) (Wd.ext (Wd.ext W (Ext.new _ _)) (Ext.new _ _)) rfl | exact Wd.isY (i := 3) (Wd.ext (Wd.ext W (Ext.new _ _)) (Ext.new _ _)) rfl | exact Wd.isY (i := 4) (Wd.ext (Wd.ext W (Ext.new _ _)) (Ext.new _ _)) rfl | exact Wd.isY (i := 5) (Wd.ext (Wd.ext W (Ext.new _ _)) (Ext.new _ _)) rfl | exact Wd.isY (i := 6) (Wd.ext (Wd.ext W (Ext.new _ _)) (Ext.new _ _)) rfl | exact Wd.isY (i := 7) (Wd.ext (Wd.ext W (Ext.new _ _)) (Ext.new _ _)) rfl | exact Wd.ob (i := 0) W rfl | exact Wd.ob (i := 1) W rfl | exact Wd.ob (i := 2) W rfl | exact Wd.ob (i := 3) W rfl | exact Wd.ob (i := 4) W rfl | exact Wd.ob (i := 5) W rfl | exact Wd.ob (i := 6) W rfl | exact Wd.ob (i := 7) W rfl | exact Wd.ob (i := 0) (Wd.ext W (Ext.new _ _)) rfl | exact Wd.ob (i := 1) (Wd.ext W (Ext.new _ _)) rfl | exact Wd.ob (i := 2) (Wd.ext W (Ext.new _ _)) rfl | exact Wd.ob (i := 3) (Wd.ext W (Ext.new _ _)) rfl | exact Wd.ob (i := 4) (Wd.ext W (Ext.new _ _)) rfl | exact Wd.ob (i := 5) (Wd.ext W (Ext.new _ _)) rfl | exact Wd.ob (i := 6) (Wd.ext W (Ext.new _ _)) rfl | exact Wd.ob (i := 7) (Wd.ext W (Ext.new _ _)) rfl | exact Wd.ob (i := 0) (Wd.ext (Wd.ext W (Ext.new _ _)) (Ext.new _ _)) rfl | exact Wd.ob (i := 1) (Wd.ext (Wd.ext W (Ext.new _ _)) (Ext.new _ _)) rfl | exact Wd.ob (i := 2) (Wd.ext (Wd.ext W (Ext.new _ _)) (Ext.new _ _)) rfl | exact Wd.ob (i := 3) (Wd.ext (Wd.ext W (Ext.new _ _)) (Ext.new _ _)) rfl | exact Wd.ob (i := 4) (Wd.ext (Wd.ext W (Ext.new _ _)) (Ext.new _ _)) rfl | exact Wd.ob (i := 5) (Wd.ext (Wd.ext W (Ext.new _ _)) (Ext.new _ _)) rfl | exact Wd.ob (i := 6) (Wd.ext (Wd.ext W (Ext.new _ _)) (Ext.new _ _)) rfl | exact Wd.ob (i := 7) (Wd.ext (Wd.ext W (Ext.new _ _)) (Ext.new _ _)) rfl | exact Wd.isL (i := 0) W rfl | exact Wd.isL (i := 1) W rfl | exact Wd.isL (i := 2) W rfl | exact Wd.isL (i := 3) W rfl | exact Wd.isL (i := 4) W rfl | exact Wd.isL (i := 5) W rfl | exact Wd.isL (i := 6) W rfl | exact Wd.isL (i := 7) W rfl | exact Wd.isL (i := 0) (Wd.ext W (Ext.new _ _)) rfl | exact Wd.isL (i := 1) (Wd.ext W (Ext.new _ _)) rfl | exact Wd.isL (i := 2) (Wd.ext W (Ext.new _ _)) rfl | exact Wd.isL (i := 3) (Wd.ext W (Ext.new _ _)) rfl | exact Wd.isL (i := 4) (Wd.ext W (Ext.new _ _)) rfl | exact Wd.isL (i := 5) (Wd.ext W (Ext.new _ _)) rfl | exact Wd.isL (i := 6) (Wd.ext W (Ext.new _ _)) rfl | exact Wd.isL (i := 7) (Wd.ext W (Ext.new _ _)) rfl | exact Wd.isL (i := 0) (Wd.ext (Wd.ext W (Ext.new _ _)) (Ext.new _ _)) rfl | exact Wd.isL (i := 1) (Wd.ext (Wd.ext W (Ext.new _ _)) (Ext.new _ _)) rfl | exact Wd.isL (i := 2) (Wd.ext (Wd.ext W (Ext.new _ _)) (Ext.new _ _)) rfl | exact Wd.isL (i := 3) (Wd.ext (Wd.ext W (Ext.new _ _)) (Ext.new _ _)) rfl | exact Wd.isL (i := 4) (Wd.ext (Wd.ext W (Ext.new _ _)) (Ext.new _ _)) rfl | exact Wd.isL (i := 5) (Wd.ext (Wd.ext W (Ext.new _ _)) (Ext.new _ _)) rfl | exact Wd.isL (i := 6) (Wd.ext (Wd.ext W (Ext.new _ _)) (Ext.new _ _)) rfl | exact Wd.isL (i := 7) (Wd.ext (Wd.ext W (Ext.new _ _)) (Ext.new _ _)) rfl | exact Wd.isD (i := 0) W rfl | exact Wd.isD (i := 1) W rfl | exact Wd.isD (i := 2) W rfl | exact Wd.isD (i := 3) W rfl | exact Wd.isD (i := 4) W rfl | exact Wd.isD (i := 5) W rfl | exact Wd.isD (i := 6) W rfl | exact Wd.isD (i := 7) W rfl | exact Wd.isD (i := 0) (Wd.ext W (Ext.new _ _)) rfl | exact Wd.isD (i := 1) (Wd.ext W (Ext.new _ _)) rfl | exact Wd.isD (i := 2) (Wd.ext W (Ext.new _ _)) rfl | exact Wd.isD (i := 3) (Wd.ext W (Ext.new _ _)) rfl | exact Wd.isD (i := 4) (Wd.ext W (Ext.new _ _)) rfl | exact Wd.isD (i := 5) (Wd.ext W (Ext.new _ _)) rfl | exact Wd.isD (i := 6) (Wd.ext W (Ext.new _ _)) rfl | exact Wd.isD (i := 7) (Wd.ext W (Ext.new _ _)) rfl | exact Wd.isD (i := 0) (Wd.ext (Wd.ext W (Ext.new _ _)) (Ext.new _ _)) rfl | exact Wd.isD (i := 1) (Wd.ext (Wd.ext W (Ext.new _ _)) (Ext.new _ _)) rfl | exact Wd.isD (i := 2) (Wd.ext (Wd.ext W (Ext.new _ _)) (Ext.new _ _)) rfl | exact Wd.isD (i := 3) (Wd.ext (Wd.ext W (Ext.new _ _)) (Ext.new _ _)) rfl | exact Wd.isD (i := 4) (Wd.ext (Wd.ext W (Ext.new _ _)) (Ext.new _ _)) rfl | exact Wd.isD (i := 5) (Wd.ext (Wd.ext W (Ext.new _ _)) (Ext.new _ _)) rfl | exact Wd.isD (i := 6) (Wd.ext (Wd.ext W (Ext.new _ _)) (Ext.new _ _)) rfl | exact Wd.isD (i := 7) (Wd.ext (Wd.ext W (Ext.new _ _)) (Ext.new _ _)) rfl | exact Wd.isO (i := 0) W rfl | exact Wd.isO (i := 1) W rfl | exact Wd.isO (i := 2) W rfl | exact Wd.isO (i := 3) W rfl | exact Wd.isO (i := 4) W rfl | exact Wd.isO (i := 5) W rfl | exact Wd.isO (i := 6) W rfl | exact Wd.isO (i := 7) W rfl | exact Wd.isO (i := 0) (Wd.ext W (Ext.new _ _)) rfl | exact Wd.isO (i := 1) (Wd.ext W (Ext.new _ _)) rfl | exact Wd.isO (i := 2) (Wd.ext W (Ext.new _ _)) rfl | exact Wd.isO (i := 3) (Wd.ext W (Ext.new _ _)) rfl | exact Wd.isO (i := 4) (Wd.ext W (Ext.new _ _)) rfl | exact Wd.isO (i := 5) (Wd.ext W (Ext.new _ _)) rfl | exact Wd.isO (i := 6) (Wd.ext W (Ext.new _ _)) rfl | exact Wd.isO (i := 7) (Wd.ext W (Ext.new _ _)) rfl | exact Wd.isO (i := 0) (Wd.ext (Wd.ext W (Ext.new _ _)) (Ext.new _ _)) rfl | exact Wd.isO (i := 1) (Wd.ext (Wd.ext W (Ext.new _ _)) (Ext.new _ _)) rfl | exact Wd.isO (i := 2) (Wd.ext (Wd.ext W (Ext.new _ _)) (Ext.new _ _)) rfl | exact Wd.isO (i := 3) (Wd.ext (Wd.ext W (Ext.new _ _)) (Ext.new _ _)) rfl | exact Wd.isO (i := 4) (Wd.ext (Wd.ext W (Ext.new _ _)) (Ext.new _ _)) rfl | exact Wd.isO (i := 5) (Wd.ext (Wd.ext W (Ext.new _ _)) (Ext.new _ _)) rfl | exact Wd.isO (i := 6) (Wd.ext (Wd.ext W (Ext.new _ _)) (Ext.new _ _)) rfl | exact Wd.isO (i := 7) (Wd.ext (Wd.ext W (Ext.new _ _)) (Ext.new _ _)) rfl | decide | (refine lim_le ?_; omega) | (refine lim_lt ?_; omega) | (refine smf_l ?_ ?_ <;> omega) | (refine smf_r ?_ ?_ <;> omega))) [methR_eq .c_Yard, methRK_eq .c_Yard, op_mod', op_fdiv', op_mul', bindT, bindTs, walk_r1, walk_r2, wpE_tup, wpE_lst, sliI_e, tyR_lst, mthR_lst, mthR_dct, it_0, it_1, it_2, mthTy, isTy, item_dr hl]
  refine wp_cut (fun σ h => ∃ S, Wd h [.ob 2 (.lst (l.map .int)), .yard y S] ∧ Rdy { S with at_ := .tup [.int 0, .int (dr l 5 % n)], trail := [] } S1 k n (dr l 5 % n) (1 + dr l 3 % 2) (dr l 2 % 2) ∧ σ = [some (.rl (ns.map .int)), some (.ref 2), some (.str k), some (.int (dr l 1 % 10000)), some (.int n), some (.ref y), c6, c7, some (.int (1 + dr l 3 % 2)), none, none, none, none]) ?_ fun σ h => ?_
  · by_cases c : n = 3
    · simp (disch := (first | assumption | omega | exact new_at _ _ | exact isL_new | exact Wd.isY (i := 0) W rfl | exact Wd.isY (i := 1) W rfl | exact Wd.isY (i := 2) W rfl | exact Wd.isY (i := 3) W rfl | exact Wd.isY (i := 4) W rfl | exact Wd.isY (i := 5) W rfl | exact Wd.isY (i := 6) W rfl | exact Wd.isY (i := 7) W rfl | exact Wd.isY (i := 0) (Wd.ext W (Ext.new _ _)) rfl | exact Wd.isY (i := 1) (Wd.ext W (Ext.new _ _)) rfl | exact Wd.isY (i := 2) (Wd.ext W (Ext.new _ _)) rfl | exact Wd.isY (i := 3) (Wd.ext W (Ext.new _ _)) rfl | exact Wd.isY (i := 4) (Wd.ext W (Ext.new _ _)) rfl | exact Wd.isY (i := 5) (Wd.ext W (Ext.new _ _)) rfl | exact Wd.isY (i := 6) (Wd.ext W (Ext.new _ _)) rfl | exact Wd.isY (i := 7) (Wd.ext W (Ext.new _ _)) rfl | exact Wd.isY (i := 0) (Wd.ext (Wd.ext W (Ext.new _ _)) (Ext.new _ _)) rfl | exact Wd.isY (i := 1) (Wd.ext (Wd.ext W (Ext.new _ _)) (Ext.new _ _)) rfl | exact Wd.isY (i := 2) (Wd.ext (Wd.ext W (Ext.new _ _)) (Ext.new _ _)) rfl | exact Wd.isY (i := 3) (Wd.ext (Wd.ext W (Ext.new _ _)) (Ext.new _ _)) rfl | exact Wd.isY (i := 4) (Wd.ext (Wd.ext W (Ext.new _ _)) (Ext.new _ _)) rfl | exact Wd.isY (i := 5) (Wd.ext (Wd.ext W (Ext.new _ _)) (Ext.new _ _)) rfl | exact Wd.isY (i := 6) (Wd.ext (Wd.ext W (Ext.new _ _)) (Ext.new _ _)) rfl | exact Wd.isY (i := 7) (Wd.ext (Wd.ext W (Ext.new _ _)) (Ext.new _ _)) rfl | exact Wd.ob (i := 0) W rfl | exact Wd.ob (i := 1) W rfl | exact Wd.ob (i := 2) W rfl | exact Wd.ob (i := 3) W rfl | exact Wd.ob (i := 4) W rfl | exact Wd.ob (i := 5) W rfl | exact Wd.ob (i := 6) W rfl | exact Wd.ob (i := 7) W rfl | exact Wd.ob (i := 0) (Wd.ext W (Ext.new _ _)) rfl | exact Wd.ob (i := 1) (Wd.ext W (Ext.new _ _)) rfl | exact Wd.ob (i := 2) (Wd.ext W (Ext.new _ _)) rfl | exact Wd.ob (i := 3) (Wd.ext W (Ext.new _ _)) rfl | exact Wd.ob (i := 4) (Wd.ext W (Ext.new _ _)) rfl | exact Wd.ob (i := 5) (Wd.ext W (Ext.new _ _)) rfl | exact Wd.ob (i := 6) (Wd.ext W (Ext.new _ _)) rfl | exact Wd.ob (i := 7) (Wd.ext W (Ext.new _ _)) rfl | exact Wd.ob (i := 0) (Wd.ext (Wd.ext W (Ext.new _ _)) (Ext.new _ _)) rfl | exact Wd.ob (i := 1) (Wd.ext (Wd.ext W (Ext.new _ _)) (Ext.new _ _)) rfl | exact Wd.ob (i := 2) (Wd.ext (Wd.ext W (Ext.new _ _)) (Ext.new _ _)) rfl | exact Wd.ob (i := 3) (Wd.ext (Wd.ext W (Ext.new _ _)) (Ext.new _ _)) rfl | exact Wd.ob (i := 4) (Wd.ext (Wd.ext W (Ext.new _ _)) (Ext.new _ _)) rfl | exact Wd.ob (i := 5) (Wd.ext (Wd.ext W (Ext.new _ _)) (Ext.new _ _)) rfl | exact Wd.ob (i := 6) (Wd.ext (Wd.ext W (Ext.new _ _)) (Ext.new _ _)) rfl | exact Wd.ob (i := 7) (Wd.ext (Wd.ext W (Ext.new _ _)) (Ext.new _ _)) rfl | exact Wd.isL (i := 0) W rfl | exact Wd.isL (i := 1) W rfl | exact Wd.isL (i := 2) W rfl | exact Wd.isL (i := 3) W rfl | exact Wd.isL (i := 4) W rfl | exact Wd.isL (i := 5) W rfl | exact Wd.isL (i := 6) W rfl | exact Wd.isL (i := 7) W rfl | exact Wd.isL (i := 0) (Wd.ext W (Ext.new _ _)) rfl | exact Wd.isL (i := 1) (Wd.ext W (Ext.new _ _)) rfl | exact Wd.isL (i := 2) (Wd.ext W (Ext.new _ _)) rfl | exact Wd.isL (i := 3) (Wd.ext W (Ext.new _ _)) rfl | exact Wd.isL (i := 4) (Wd.ext W (Ext.new _ _)) rfl | exact Wd.isL (i := 5) (Wd.ext W (Ext.new _ _)) rfl | exact Wd.isL (i := 6) (Wd.ext W (Ext.new _ _)) rfl | exact Wd.isL (i := 7) (Wd.ext W (Ext.new _ _)) rfl | exact Wd.isL (i := 0) (Wd.ext (Wd.ext W (Ext.new _ _)) (Ext.new _ _)) rfl | exact Wd.isL (i := 1) (Wd.ext (Wd.ext W (Ext.new _ _)) (Ext.new _ _)) rfl | exact Wd.isL (i := 2) (Wd.ext (Wd.ext W (Ext.new _ _)) (Ext.new _ _)) rfl | exact Wd.isL (i := 3) (Wd.ext (Wd.ext W (Ext.new _ _)) (Ext.new _ _)) rfl | exact Wd.isL (i := 4) (Wd.ext (Wd.ext W (Ext.new _ _)) (Ext.new _ _)) rfl | exact Wd.isL (i := 5) (Wd.ext (Wd.ext W (Ext.new _ _)) (Ext.new _ _)) rfl | exact Wd.isL (i := 6) (Wd.ext (Wd.ext W (Ext.new _ _)) (Ext.new _ _)) rfl | exact Wd.isL (i := 7) (Wd.ext (Wd.ext W (Ext.new _ _)) (Ext.new _ _)) rfl | exact Wd.isD (i := 0) W rfl | exact Wd.isD (i := 1) W rfl | exact Wd.isD (i := 2) W rfl | exact Wd.isD (i := 3) W rfl | exact Wd.isD (i := 4) W rfl | exact Wd.isD (i := 5) W rfl | exact Wd.isD (i := 6) W rfl | exact Wd.isD (i := 7) W rfl | exact Wd.isD (i := 0) (Wd.ext W (Ext.new _ _)) rfl | exact Wd.isD (i := 1) (Wd.ext W (Ext.new _ _)) rfl | exact Wd.isD (i := 2) (Wd.ext W (Ext.new _ _)) rfl | exact Wd.isD (i := 3) (Wd.ext W (Ext.new _ _)) rfl | exact Wd.isD (i := 4) (Wd.ext W (Ext.new _ _)) rfl | exact Wd.isD (i := 5) (Wd.ext W (Ext.new _ _)) rfl | exact Wd.isD (i := 6) (Wd.ext W (Ext.new _ _)) rfl | exact Wd.isD (i := 7) (Wd.ext W (Ext.new _ _)) rfl | exact Wd.isD (i := 0) (Wd.ext (Wd.ext W (Ext.new _ _)) (Ext.new _ _)) rfl | exact Wd.isD (i := 1) (Wd.ext (Wd.ext W (Ext.new _ _)) (Ext.new _ _)) rfl | exact Wd.isD (i := 2) (Wd.ext (Wd.ext W (Ext.new _ _)) (Ext.new _ _)) rfl | exact Wd.isD (i := 3) (Wd.ext (Wd.ext W (Ext.new _ _)) (Ext.new _ _)) rfl | exact Wd.isD (i := 4) (Wd.ext (Wd.ext W (Ext.new _ _)) (Ext.new _ _)) rfl | exact Wd.isD (i := 5) (Wd.ext (Wd.ext W (Ext.new _ _)) (Ext.new _ _)) rfl | exact Wd.isD (i := 6) (Wd.ext (Wd.ext W (Ext.new _ _)) (Ext.new _ _)) rfl | exact Wd.isD (i := 7) (Wd.ext (Wd.ext W (Ext.new _ _)) (Ext.new _ _)) rfl | exact Wd.isO (i := 0) W rfl | exact Wd.isO (i := 1) W rfl | exact Wd.isO (i := 2) W rfl | exact Wd.isO (i := 3) W rfl | exact Wd.isO (i := 4) W rfl | exact Wd.isO (i := 5) W rfl | exact Wd.isO (i := 6) W rfl | exact Wd.isO (i := 7) W rfl | exact Wd.isO (i := 0) (Wd.ext W (Ext.new _ _)) rfl | exact Wd.isO (i := 1) (Wd.ext W (Ext.new _ _)) rfl | exact Wd.isO (i := 2) (Wd.ext W (Ext.new _ _)) rfl | exact Wd.isO (i := 3) (Wd.ext W (Ext.new _ _)) rfl | exact Wd.isO (i := 4) (Wd.ext W (Ext.new _ _)) rfl | exact Wd.isO (i := 5) (Wd.ext W (Ext.new _ _)) rfl | exact Wd.isO (i := 6) (Wd.ext W (Ext.new _ _)) rfl | exact Wd.isO (i := 7) (Wd.ext W (Ext.new _ _)) rfl | exact Wd.isO (i := 0) (Wd.ext (Wd.ext W (Ext.new _ _)) (Ext.new _ _)) rfl | exact Wd.isO (i := 1) (Wd.ext (Wd.ext W (Ext.new _ _)) (Ext.new _ _)) rfl | exact Wd.isO (i := 2) (Wd.ext (Wd.ext W (Ext.new _ _)) (Ext.new _ _)) rfl | exact Wd.isO (i := 3) (Wd.ext (Wd.ext W (Ext.new _ _)) (Ext.new _ _)) rfl | exact Wd.isO (i := 4) (Wd.ext (Wd.ext W (Ext.new _ _)) (Ext.new _ _)) rfl | exact Wd.isO (i := 5) (Wd.ext (Wd.ext W (Ext.new _ _)) (Ext.new _ _)) rfl | exact Wd.isO (i := 6) (Wd.ext (Wd.ext W (Ext.new _ _)) (Ext.new _ _)) rfl | exact Wd.isO (i := 7) (Wd.ext (Wd.ext W (Ext.new _ _)) (Ext.new _ _)) rfl | decide | (refine lim_le ?_; omega) | (refine lim_lt ?_; omega) | (refine smf_l ?_ ?_ <;> omega) | (refine smf_r ?_ ?_ <;> omega))) [methR_eq .c_Yard, methRK_eq .c_Yard, op_mod', op_fdiv', op_mul', bindT, bindTs, walk_r1, walk_r2, wpE_tup, wpE_lst, sliI_e, tyR_lst, mthR_lst, mthR_dct, it_0, it_1, it_2, mthTy, isTy, wpS_ite, decide_eq_true c]
      obtain ⟨k2, ek2, hk2⟩ := three_kd (i := dr l 4 % 3) (by omega) (by omega)
      have W := W.ext (.new _ (.lst [.str [115, 116, 105, 108, 108], .str [108, 97, 122, 121], .str [116, 117, 114, 110, 105, 110, 103]]))
      have side1 : S.side = dput [] (.int 0) (.int 1) := by rw [g.side, hS1]; unfold YS.lay0; rw [if_pos c]; rfl
      have rod1 : S.rod = dput [] (.int 0) (.int 0) := by rw [g.rod, hS1]; unfold YS.lay0; rw [if_pos c]; rfl
      simp (disch := (first | assumption | omega | exact new_at _ _ | exact isL_new | exact Wd.isY (i := 0) W rfl | exact Wd.isY (i := 1) W rfl | exact Wd.isY (i := 2) W rfl | exact Wd.isY (i := 3) W rfl | exact Wd.isY (i := 4) W rfl | exact Wd.isY (i := 5) W rfl | exact Wd.isY (i := 6) W rfl | exact Wd.isY (i := 7) W rfl | exact Wd.isY (i := 0) (Wd.ext W (Ext.new _ _)) rfl | exact Wd.isY (i := 1) (Wd.ext W (Ext.new _ _)) rfl | exact Wd.isY (i := 2) (Wd.ext W (Ext.new _ _)) rfl | exact Wd.isY (i := 3) (Wd.ext W (Ext.new _ _)) rfl | exact Wd.isY (i := 4) (Wd.ext W (Ext.new _ _)) rfl | exact Wd.isY (i := 5) (Wd.ext W (Ext.new _ _)) rfl | exact Wd.isY (i := 6) (Wd.ext W (Ext.new _ _)) rfl | exact Wd.isY (i := 7) (Wd.ext W (Ext.new _ _)) rfl | exact Wd.isY (i := 0) (Wd.ext (Wd.ext W (Ext.new _ _)) (Ext.new _ _)) rfl | exact Wd.isY (i := 1) (Wd.ext (Wd.ext W (Ext.new _ _)) (Ext.new _ _)) rfl | exact Wd.isY (i := 2) (Wd.ext (Wd.ext W (Ext.new _ _)) (Ext.new _ _)) rfl | exact Wd.isY (i := 3) (Wd.ext (Wd.ext W (Ext.new _ _)) (Ext.new _ _)) rfl | exact Wd.isY (i := 4) (Wd.ext (Wd.ext W (Ext.new _ _)) (Ext.new _ _)) rfl | exact Wd.isY (i := 5) (Wd.ext (Wd.ext W (Ext.new _ _)) (Ext.new _ _)) rfl | exact Wd.isY (i := 6) (Wd.ext (Wd.ext W (Ext.new _ _)) (Ext.new _ _)) rfl | exact Wd.isY (i := 7) (Wd.ext (Wd.ext W (Ext.new _ _)) (Ext.new _ _)) rfl | exact Wd.ob (i := 0) W rfl | exact Wd.ob (i := 1) W rfl | exact Wd.ob (i := 2) W rfl | exact Wd.ob (i := 3) W rfl | exact Wd.ob (i := 4) W rfl | exact Wd.ob (i := 5) W rfl | exact Wd.ob (i := 6) W rfl | exact Wd.ob (i := 7) W rfl | exact Wd.ob (i := 0) (Wd.ext W (Ext.new _ _)) rfl | exact Wd.ob (i := 1) (Wd.ext W (Ext.new _ _)) rfl | exact Wd.ob (i := 2) (Wd.ext W (Ext.new _ _)) rfl | exact Wd.ob (i := 3) (Wd.ext W (Ext.new _ _)) rfl | exact Wd.ob (i := 4) (Wd.ext W (Ext.new _ _)) rfl | exact Wd.ob (i := 5) (Wd.ext W (Ext.new _ _)) rfl | exact Wd.ob (i := 6) (Wd.ext W (Ext.new _ _)) rfl | exact Wd.ob (i := 7) (Wd.ext W (Ext.new _ _)) rfl | exact Wd.ob (i := 0) (Wd.ext (Wd.ext W (Ext.new _ _)) (Ext.new _ _)) rfl | exact Wd.ob (i := 1) (Wd.ext (Wd.ext W (Ext.new _ _)) (Ext.new _ _)) rfl | exact Wd.ob (i := 2) (Wd.ext (Wd.ext W (Ext.new _ _)) (Ext.new _ _)) rfl | exact Wd.ob (i := 3) (Wd.ext (Wd.ext W (Ext.new _ _)) (Ext.new _ _)) rfl | exact Wd.ob (i := 4) (Wd.ext (Wd.ext W (Ext.new _ _)) (Ext.new _ _)) rfl | exact Wd.ob (i := 5) (Wd.ext (Wd.ext W (Ext.new _ _)) (Ext.new _ _)) rfl | exact Wd.ob (i := 6) (Wd.ext (Wd.ext W (Ext.new _ _)) (Ext.new _ _)) rfl | exact Wd.ob (i := 7) (Wd.ext (Wd.ext W (Ext.new _ _)) (Ext.new _ _)) rfl | exact Wd.isL (i := 0) W rfl | exact Wd.isL (i := 1) W rfl | exact Wd.isL (i := 2) W rfl | exact Wd.isL (i := 3) W rfl | exact Wd.isL (i := 4) W rfl | exact Wd.isL (i := 5) W rfl | exact Wd.isL (i := 6) W rfl | exact Wd.isL (i := 7) W rfl | exact Wd.isL (i := 0) (Wd.ext W (Ext.new _ _)) rfl | exact Wd.isL (i := 1) (Wd.ext W (Ext.new _ _)) rfl | exact Wd.isL (i := 2) (Wd.ext W (Ext.new _ _)) rfl | exact Wd.isL (i := 3) (Wd.ext W (Ext.new _ _)) rfl | exact Wd.isL (i := 4) (Wd.ext W (Ext.new _ _)) rfl | exact Wd.isL (i := 5) (Wd.ext W (Ext.new _ _)) rfl | exact Wd.isL (i := 6) (Wd.ext W (Ext.new _ _)) rfl | exact Wd.isL (i := 7) (Wd.ext W (Ext.new _ _)) rfl | exact Wd.isL (i := 0) (Wd.ext (Wd.ext W (Ext.new _ _)) (Ext.new _ _)) rfl | exact Wd.isL (i := 1) (Wd.ext (Wd.ext W (Ext.new _ _)) (Ext.new _ _)) rfl | exact Wd.isL (i := 2) (Wd.ext (Wd.ext W (Ext.new _ _)) (Ext.new _ _)) rfl | exact Wd.isL (i := 3) (Wd.ext (Wd.ext W (Ext.new _ _)) (Ext.new _ _)) rfl | exact Wd.isL (i := 4) (Wd.ext (Wd.ext W (Ext.new _ _)) (Ext.new _ _)) rfl | exact Wd.isL (i := 5) (Wd.ext (Wd.ext W (Ext.new _ _)) (Ext.new _ _)) rfl | exact Wd.isL (i := 6) (Wd.ext (Wd.ext W (Ext.new _ _)) (Ext.new _ _)) rfl | exact Wd.isL (i := 7) (Wd.ext (Wd.ext W (Ext.new _ _)) (Ext.new _ _)) rfl | exact Wd.isD (i := 0) W rfl | exact Wd.isD (i := 1) W rfl | exact Wd.isD (i := 2) W rfl | exact Wd.isD (i := 3) W rfl | exact Wd.isD (i := 4) W rfl | exact Wd.isD (i := 5) W rfl | exact Wd.isD (i := 6) W rfl | exact Wd.isD (i := 7) W rfl | exact Wd.isD (i := 0) (Wd.ext W (Ext.new _ _)) rfl | exact Wd.isD (i := 1) (Wd.ext W (Ext.new _ _)) rfl | exact Wd.isD (i := 2) (Wd.ext W (Ext.new _ _)) rfl | exact Wd.isD (i := 3) (Wd.ext W (Ext.new _ _)) rfl | exact Wd.isD (i := 4) (Wd.ext W (Ext.new _ _)) rfl | exact Wd.isD (i := 5) (Wd.ext W (Ext.new _ _)) rfl | exact Wd.isD (i := 6) (Wd.ext W (Ext.new _ _)) rfl | exact Wd.isD (i := 7) (Wd.ext W (Ext.new _ _)) rfl | exact Wd.isD (i := 0) (Wd.ext (Wd.ext W (Ext.new _ _)) (Ext.new _ _)) rfl | exact Wd.isD (i := 1) (Wd.ext (Wd.ext W (Ext.new _ _)) (Ext.new _ _)) rfl | exact Wd.isD (i := 2) (Wd.ext (Wd.ext W (Ext.new _ _)) (Ext.new _ _)) rfl | exact Wd.isD (i := 3) (Wd.ext (Wd.ext W (Ext.new _ _)) (Ext.new _ _)) rfl | exact Wd.isD (i := 4) (Wd.ext (Wd.ext W (Ext.new _ _)) (Ext.new _ _)) rfl | exact Wd.isD (i := 5) (Wd.ext (Wd.ext W (Ext.new _ _)) (Ext.new _ _)) rfl | exact Wd.isD (i := 6) (Wd.ext (Wd.ext W (Ext.new _ _)) (Ext.new _ _)) rfl | exact Wd.isD (i := 7) (Wd.ext (Wd.ext W (Ext.new _ _)) (Ext.new _ _)) rfl | exact Wd.isO (i := 0) W rfl | exact Wd.isO (i := 1) W rfl | exact Wd.isO (i := 2) W rfl | exact Wd.isO (i := 3) W rfl | exact Wd.isO (i := 4) W rfl | exact Wd.isO (i := 5) W rfl | exact Wd.isO (i := 6) W rfl | exact Wd.isO (i := 7) W rfl | exact Wd.isO (i := 0) (Wd.ext W (Ext.new _ _)) rfl | exact Wd.isO (i := 1) (Wd.ext W (Ext.new _ _)) rfl | exact Wd.isO (i := 2) (Wd.ext W (Ext.new _ _)) rfl | exact Wd.isO (i := 3) (Wd.ext W (Ext.new _ _)) rfl | exact Wd.isO (i := 4) (Wd.ext W (Ext.new _ _)) rfl | exact Wd.isO (i := 5) (Wd.ext W (Ext.new _ _)) rfl | exact Wd.isO (i := 6) (Wd.ext W (Ext.new _ _)) rfl | exact Wd.isO (i := 7) (Wd.ext W (Ext.new _ _)) rfl | exact Wd.isO (i := 0) (Wd.ext (Wd.ext W (Ext.new _ _)) (Ext.new _ _)) rfl | exact Wd.isO (i := 1) (Wd.ext (Wd.ext W (Ext.new _ _)) (Ext.new _ _)) rfl | exact Wd.isO (i := 2) (Wd.ext (Wd.ext W (Ext.new _ _)) (Ext.new _ _)) rfl | exact Wd.isO (i := 3) (Wd.ext (Wd.ext W (Ext.new _ _)) (Ext.new _ _)) rfl | exact Wd.isO (i := 4) (Wd.ext (Wd.ext W (Ext.new _ _)) (Ext.new _ _)) rfl | exact Wd.isO (i := 5) (Wd.ext (Wd.ext W (Ext.new _ _)) (Ext.new _ _)) rfl | exact Wd.isO (i := 6) (Wd.ext (Wd.ext W (Ext.new _ _)) (Ext.new _ _)) rfl | exact Wd.isO (i := 7) (Wd.ext (Wd.ext W (Ext.new _ _)) (Ext.new _ _)) rfl | decide | (refine lim_le ?_; omega) | (refine lim_lt ?_; omega) | (refine smf_l ?_ ?_ <;> omega) | (refine smf_r ?_ ?_ <;> omega))) [methR_eq .c_Yard, methRK_eq .c_Yard, op_mod', op_fdiv', op_mul', bindT, bindTs, walk_r1, walk_r2, wpE_tup, wpE_lst, sliI_e, tyR_lst, mthR_lst, mthR_dct, it_0, it_1, it_2, mthTy, isTy, wpS_ite, item_dr hl, at_list (new_at _ _) ek2]
      have hl0 : (dlook S.side (.int 0)).isSome = true := by rw [side1, dlook_put]; rfl
      refine w_lay_on (by first | exact Has.sub LP.has (by simp [U]; done) (by simp [M]; done) | exact Has.fn LP.has _ (by simp [U]; done)) W 1 rfl hk2 hl0 (by have := g.klen; simp [LIM]; omega) (by rw [rod1]; decide) fun h W => ?_
      simp (disch := (first | assumption | omega | exact new_at _ _ | exact isL_new | exact Wd.isY (i := 0) W rfl | exact Wd.isY (i := 1) W rfl | exact Wd.isY (i := 2) W rfl | exact Wd.isY (i := 3) W rfl | exact Wd.isY (i := 4) W rfl | exact Wd.isY (i := 5) W rfl | exact Wd.isY (i := 6) W rfl | exact Wd.isY (i := 7) W rfl | exact Wd.isY (i := 0) (Wd.ext W (Ext.new _ _)) rfl | exact Wd.isY (i := 1) (Wd.ext W (Ext.new _ _)) rfl | exact Wd.isY (i := 2) (Wd.ext W (Ext.new _ _)) rfl | exact Wd.isY (i := 3) (Wd.ext W (Ext.new _ _)) rfl | exact Wd.isY (i := 4) (Wd.ext W (Ext.new _ _)) rfl | exact Wd.isY (i := 5) (Wd.ext W (Ext.new _ _)) rfl | exact Wd.isY (i := 6) (Wd.ext W (Ext.new _ _)) rfl | exact Wd.isY (i := 7) (Wd.ext W (Ext.new _ _)) rfl | exact Wd.isY (i := 0) (Wd.ext (Wd.ext W (Ext.new _ _)) (Ext.new _ _)) rfl | exact Wd.isY (i := 1) (Wd.ext (Wd.ext W (Ext.new _ _)) (Ext.new _ _)) rfl | exact Wd.isY (i := 2) (Wd.ext (Wd.ext W (Ext.new _ _)) (Ext.new _ _)) rfl | exact Wd.isY (i := 3) (Wd.ext (Wd.ext W (Ext.new _ _)) (Ext.new _ _)) rfl | exact Wd.isY (i := 4) (Wd.ext (Wd.ext W (Ext.new _ _)) (Ext.new _ _)) rfl | exact Wd.isY (i := 5) (Wd.ext (Wd.ext W (Ext.new _ _)) (Ext.new _ _)) rfl | exact Wd.isY (i := 6) (Wd.ext (Wd.ext W (Ext.new _ _)) (Ext.new _ _)) rfl | exact Wd.isY (i := 7) (Wd.ext (Wd.ext W (Ext.new _ _)) (Ext.new _ _)) rfl | exact Wd.ob (i := 0) W rfl | exact Wd.ob (i := 1) W rfl | exact Wd.ob (i := 2) W rfl | exact Wd.ob (i := 3) W rfl | exact Wd.ob (i := 4) W rfl | exact Wd.ob (i := 5) W rfl | exact Wd.ob (i := 6) W rfl | exact Wd.ob (i := 7) W rfl | exact Wd.ob (i := 0) (Wd.ext W (Ext.new _ _)) rfl | exact Wd.ob (i := 1) (Wd.ext W (Ext.new _ _)) rfl | exact Wd.ob (i := 2) (Wd.ext W (Ext.new _ _)) rfl | exact Wd.ob (i := 3) (Wd.ext W (Ext.new _ _)) rfl | exact Wd.ob (i := 4) (Wd.ext W (Ext.new _ _)) rfl | exact Wd.ob (i := 5) (Wd.ext W (Ext.new _ _)) rfl | exact Wd.ob (i := 6) (Wd.ext W (Ext.new _ _)) rfl | exact Wd.ob (i := 7) (Wd.ext W (Ext.new _ _)) rfl | exact Wd.ob (i := 0) (Wd.ext (Wd.ext W (Ext.new _ _)) (Ext.new _ _)) rfl | exact Wd.ob (i := 1) (Wd.ext (Wd.ext W (Ext.new _ _)) (Ext.new _ _)) rfl | exact Wd.ob (i := 2) (Wd.ext (Wd.ext W (Ext.new _ _)) (Ext.new _ _)) rfl | exact Wd.ob (i := 3) (Wd.ext (Wd.ext W (Ext.new _ _)) (Ext.new _ _)) rfl | exact Wd.ob (i := 4) (Wd.ext (Wd.ext W (Ext.new _ _)) (Ext.new _ _)) rfl | exact Wd.ob (i := 5) (Wd.ext (Wd.ext W (Ext.new _ _)) (Ext.new _ _)) rfl | exact Wd.ob (i := 6) (Wd.ext (Wd.ext W (Ext.new _ _)) (Ext.new _ _)) rfl | exact Wd.ob (i := 7) (Wd.ext (Wd.ext W (Ext.new _ _)) (Ext.new _ _)) rfl | exact Wd.isL (i := 0) W rfl | exact Wd.isL (i := 1) W rfl | exact Wd.isL (i := 2) W rfl | exact Wd.isL (i := 3) W rfl | exact Wd.isL (i := 4) W rfl | exact Wd.isL (i := 5) W rfl | exact Wd.isL (i := 6) W rfl | exact Wd.isL (i := 7) W rfl | exact Wd.isL (i := 0) (Wd.ext W (Ext.new _ _)) rfl | exact Wd.isL (i := 1) (Wd.ext W (Ext.new _ _)) rfl | exact Wd.isL (i := 2) (Wd.ext W (Ext.new _ _)) rfl | exact Wd.isL (i := 3) (Wd.ext W (Ext.new _ _)) rfl | exact Wd.isL (i := 4) (Wd.ext W (Ext.new _ _)) rfl | exact Wd.isL (i := 5) (Wd.ext W (Ext.new _ _)) rfl | exact Wd.isL (i := 6) (Wd.ext W (Ext.new _ _)) rfl | exact Wd.isL (i := 7) (Wd.ext W (Ext.new _ _)) rfl | exact Wd.isL (i := 0) (Wd.ext (Wd.ext W (Ext.new _ _)) (Ext.new _ _)) rfl | exact Wd.isL (i := 1) (Wd.ext (Wd.ext W (Ext.new _ _)) (Ext.new _ _)) rfl | exact Wd.isL (i := 2) (Wd.ext (Wd.ext W (Ext.new _ _)) (Ext.new _ _)) rfl | exact Wd.isL (i := 3) (Wd.ext (Wd.ext W (Ext.new _ _)) (Ext.new _ _)) rfl | exact Wd.isL (i := 4) (Wd.ext (Wd.ext W (Ext.new _ _)) (Ext.new _ _)) rfl | exact Wd.isL (i := 5) (Wd.ext (Wd.ext W (Ext.new _ _)) (Ext.new _ _)) rfl | exact Wd.isL (i := 6) (Wd.ext (Wd.ext W (Ext.new _ _)) (Ext.new _ _)) rfl | exact Wd.isL (i := 7) (Wd.ext (Wd.ext W (Ext.new _ _)) (Ext.new _ _)) rfl | exact Wd.isD (i := 0) W rfl | exact Wd.isD (i := 1) W rfl | exact Wd.isD (i := 2) W rfl | exact Wd.isD (i := 3) W rfl | exact Wd.isD (i := 4) W rfl | exact Wd.isD (i := 5) W rfl | exact Wd.isD (i := 6) W rfl | exact Wd.isD (i := 7) W rfl | exact Wd.isD (i := 0) (Wd.ext W (Ext.new _ _)) rfl | exact Wd.isD (i := 1) (Wd.ext W (Ext.new _ _)) rfl | exact Wd.isD (i := 2) (Wd.ext W (Ext.new _ _)) rfl | exact Wd.isD (i := 3) (Wd.ext W (Ext.new _ _)) rfl | exact Wd.isD (i := 4) (Wd.ext W (Ext.new _ _)) rfl | exact Wd.isD (i := 5) (Wd.ext W (Ext.new _ _)) rfl | exact Wd.isD (i := 6) (Wd.ext W (Ext.new _ _)) rfl | exact Wd.isD (i := 7) (Wd.ext W (Ext.new _ _)) rfl | exact Wd.isD (i := 0) (Wd.ext (Wd.ext W (Ext.new _ _)) (Ext.new _ _)) rfl | exact Wd.isD (i := 1) (Wd.ext (Wd.ext W (Ext.new _ _)) (Ext.new _ _)) rfl | exact Wd.isD (i := 2) (Wd.ext (Wd.ext W (Ext.new _ _)) (Ext.new _ _)) rfl | exact Wd.isD (i := 3) (Wd.ext (Wd.ext W (Ext.new _ _)) (Ext.new _ _)) rfl | exact Wd.isD (i := 4) (Wd.ext (Wd.ext W (Ext.new _ _)) (Ext.new _ _)) rfl | exact Wd.isD (i := 5) (Wd.ext (Wd.ext W (Ext.new _ _)) (Ext.new _ _)) rfl | exact Wd.isD (i := 6) (Wd.ext (Wd.ext W (Ext.new _ _)) (Ext.new _ _)) rfl | exact Wd.isD (i := 7) (Wd.ext (Wd.ext W (Ext.new _ _)) (Ext.new _ _)) rfl | exact Wd.isO (i := 0) W rfl | exact Wd.isO (i := 1) W rfl | exact Wd.isO (i := 2) W rfl | exact Wd.isO (i := 3) W rfl | exact Wd.isO (i := 4) W rfl | exact Wd.isO (i := 5) W rfl | exact Wd.isO (i := 6) W rfl | exact Wd.isO (i := 7) W rfl | exact Wd.isO (i := 0) (Wd.ext W (Ext.new _ _)) rfl | exact Wd.isO (i := 1) (Wd.ext W (Ext.new _ _)) rfl | exact Wd.isO (i := 2) (Wd.ext W (Ext.new _ _)) rfl | exact Wd.isO (i := 3) (Wd.ext W (Ext.new _ _)) rfl | exact Wd.isO (i := 4) (Wd.ext W (Ext.new _ _)) rfl | exact Wd.isO (i := 5) (Wd.ext W (Ext.new _ _)) rfl | exact Wd.isO (i := 6) (Wd.ext W (Ext.new _ _)) rfl | exact Wd.isO (i := 7) (Wd.ext W (Ext.new _ _)) rfl | exact Wd.isO (i := 0) (Wd.ext (Wd.ext W (Ext.new _ _)) (Ext.new _ _)) rfl | exact Wd.isO (i := 1) (Wd.ext (Wd.ext W (Ext.new _ _)) (Ext.new _ _)) rfl | exact Wd.isO (i := 2) (Wd.ext (Wd.ext W (Ext.new _ _)) (Ext.new _ _)) rfl | exact Wd.isO (i := 3) (Wd.ext (Wd.ext W (Ext.new _ _)) (Ext.new _ _)) rfl | exact Wd.isO (i := 4) (Wd.ext (Wd.ext W (Ext.new _ _)) (Ext.new _ _)) rfl | exact Wd.isO (i := 5) (Wd.ext (Wd.ext W (Ext.new _ _)) (Ext.new _ _)) rfl | exact Wd.isO (i := 6) (Wd.ext (Wd.ext W (Ext.new _ _)) (Ext.new _ _)) rfl | exact Wd.isO (i := 7) (Wd.ext (Wd.ext W (Ext.new _ _)) (Ext.new _ _)) rfl | decide | (refine lim_le ?_; omega) | (refine lim_lt ?_; omega) | (refine smf_l ?_ ?_ <;> omega) | (refine smf_r ?_ ?_ <;> omega))) [methR_eq .c_Yard, methRK_eq .c_Yard, op_mod', op_fdiv', op_mul', bindT, bindTs, walk_r1, walk_r2, wpE_tup, wpE_lst, sliI_e, tyR_lst, mthR_lst, mthR_dct, it_0, it_1, it_2, mthTy, isTy, wpS_ite]
      refine w_throw (by first | exact Has.sub LP.has (by simp [U]; done) (by simp [M]; done) | exact Has.fn LP.has _ (by simp [U]; done)) W 1 rfl (by exact hl0) (by omega) (by show S.side.length < _; rw [side1]; decide) fun h W => ?_
      simp (disch := (first | assumption | omega | exact new_at _ _ | exact isL_new | exact Wd.isY (i := 0) W rfl | exact Wd.isY (i := 1) W rfl | exact Wd.isY (i := 2) W rfl | exact Wd.isY (i := 3) W rfl | exact Wd.isY (i := 4) W rfl | exact Wd.isY (i := 5) W rfl | exact Wd.isY (i := 6) W rfl | exact Wd.isY (i := 7) W rfl | exact Wd.isY (i := 0) (Wd.ext W (Ext.new _ _)) rfl | exact Wd.isY (i := 1) (Wd.ext W (Ext.new _ _)) rfl | exact Wd.isY (i := 2) (Wd.ext W (Ext.new _ _)) rfl | exact Wd.isY (i := 3) (Wd.ext W (Ext.new _ _)) rfl | exact Wd.isY (i := 4) (Wd.ext W (Ext.new _ _)) rfl | exact Wd.isY (i := 5) (Wd.ext W (Ext.new _ _)) rfl | exact Wd.isY (i := 6) (Wd.ext W (Ext.new _ _)) rfl | exact Wd.isY (i := 7) (Wd.ext W (Ext.new _ _)) rfl | exact Wd.isY (i := 0) (Wd.ext (Wd.ext W (Ext.new _ _)) (Ext.new _ _)) rfl | exact Wd.isY (i := 1) (Wd.ext (Wd.ext W (Ext.new _ _)) (Ext.new _ _)) rfl | exact Wd.isY (i := 2) (Wd.ext (Wd.ext W (Ext.new _ _)) (Ext.new _ _)) rfl | exact Wd.isY (i := 3) (Wd.ext (Wd.ext W (Ext.new _ _)) (Ext.new _ _)) rfl | exact Wd.isY (i := 4) (Wd.ext (Wd.ext W (Ext.new _ _)) (Ext.new _ _)) rfl | exact Wd.isY (i := 5) (Wd.ext (Wd.ext W (Ext.new _ _)) (Ext.new _ _)) rfl | exact Wd.isY (i := 6) (Wd.ext (Wd.ext W (Ext.new _ _)) (Ext.new _ _)) rfl | exact Wd.isY (i := 7) (Wd.ext (Wd.ext W (Ext.new _ _)) (Ext.new _ _)) rfl | exact Wd.ob (i := 0) W rfl | exact Wd.ob (i := 1) W rfl | exact Wd.ob (i := 2) W rfl | exact Wd.ob (i := 3) W rfl | exact Wd.ob (i := 4) W rfl | exact Wd.ob (i := 5) W rfl | exact Wd.ob (i := 6) W rfl | exact Wd.ob (i := 7) W rfl | exact Wd.ob (i := 0) (Wd.ext W (Ext.new _ _)) rfl | exact Wd.ob (i := 1) (Wd.ext W (Ext.new _ _)) rfl | exact Wd.ob (i := 2) (Wd.ext W (Ext.new _ _)) rfl | exact Wd.ob (i := 3) (Wd.ext W (Ext.new _ _)) rfl | exact Wd.ob (i := 4) (Wd.ext W (Ext.new _ _)) rfl | exact Wd.ob (i := 5) (Wd.ext W (Ext.new _ _)) rfl | exact Wd.ob (i := 6) (Wd.ext W (Ext.new _ _)) rfl | exact Wd.ob (i := 7) (Wd.ext W (Ext.new _ _)) rfl | exact Wd.ob (i := 0) (Wd.ext (Wd.ext W (Ext.new _ _)) (Ext.new _ _)) rfl | exact Wd.ob (i := 1) (Wd.ext (Wd.ext W (Ext.new _ _)) (Ext.new _ _)) rfl | exact Wd.ob (i := 2) (Wd.ext (Wd.ext W (Ext.new _ _)) (Ext.new _ _)) rfl | exact Wd.ob (i := 3) (Wd.ext (Wd.ext W (Ext.new _ _)) (Ext.new _ _)) rfl | exact Wd.ob (i := 4) (Wd.ext (Wd.ext W (Ext.new _ _)) (Ext.new _ _)) rfl | exact Wd.ob (i := 5) (Wd.ext (Wd.ext W (Ext.new _ _)) (Ext.new _ _)) rfl | exact Wd.ob (i := 6) (Wd.ext (Wd.ext W (Ext.new _ _)) (Ext.new _ _)) rfl | exact Wd.ob (i := 7) (Wd.ext (Wd.ext W (Ext.new _ _)) (Ext.new _ _)) rfl | exact Wd.isL (i := 0) W rfl | exact Wd.isL (i := 1) W rfl | exact Wd.isL (i := 2) W rfl | exact Wd.isL (i := 3) W rfl | exact Wd.isL (i := 4) W rfl | exact Wd.isL (i := 5) W rfl | exact Wd.isL (i := 6) W rfl | exact Wd.isL (i := 7) W rfl | exact Wd.isL (i := 0) (Wd.ext W (Ext.new _ _)) rfl | exact Wd.isL (i := 1) (Wd.ext W (Ext.new _ _)) rfl | exact Wd.isL (i := 2) (Wd.ext W (Ext.new _ _)) rfl | exact Wd.isL (i := 3) (Wd.ext W (Ext.new _ _)) rfl | exact Wd.isL (i := 4) (Wd.ext W (Ext.new _ _)) rfl | exact Wd.isL (i := 5) (Wd.ext W (Ext.new _ _)) rfl | exact Wd.isL (i := 6) (Wd.ext W (Ext.new _ _)) rfl | exact Wd.isL (i := 7) (Wd.ext W (Ext.new _ _)) rfl | exact Wd.isL (i := 0) (Wd.ext (Wd.ext W (Ext.new _ _)) (Ext.new _ _)) rfl | exact Wd.isL (i := 1) (Wd.ext (Wd.ext W (Ext.new _ _)) (Ext.new _ _)) rfl | exact Wd.isL (i := 2) (Wd.ext (Wd.ext W (Ext.new _ _)) (Ext.new _ _)) rfl | exact Wd.isL (i := 3) (Wd.ext (Wd.ext W (Ext.new _ _)) (Ext.new _ _)) rfl | exact Wd.isL (i := 4) (Wd.ext (Wd.ext W (Ext.new _ _)) (Ext.new _ _)) rfl | exact Wd.isL (i := 5) (Wd.ext (Wd.ext W (Ext.new _ _)) (Ext.new _ _)) rfl | exact Wd.isL (i := 6) (Wd.ext (Wd.ext W (Ext.new _ _)) (Ext.new _ _)) rfl | exact Wd.isL (i := 7) (Wd.ext (Wd.ext W (Ext.new _ _)) (Ext.new _ _)) rfl | exact Wd.isD (i := 0) W rfl | exact Wd.isD (i := 1) W rfl | exact Wd.isD (i := 2) W rfl | exact Wd.isD (i := 3) W rfl | exact Wd.isD (i := 4) W rfl | exact Wd.isD (i := 5) W rfl | exact Wd.isD (i := 6) W rfl | exact Wd.isD (i := 7) W rfl | exact Wd.isD (i := 0) (Wd.ext W (Ext.new _ _)) rfl | exact Wd.isD (i := 1) (Wd.ext W (Ext.new _ _)) rfl | exact Wd.isD (i := 2) (Wd.ext W (Ext.new _ _)) rfl | exact Wd.isD (i := 3) (Wd.ext W (Ext.new _ _)) rfl | exact Wd.isD (i := 4) (Wd.ext W (Ext.new _ _)) rfl | exact Wd.isD (i := 5) (Wd.ext W (Ext.new _ _)) rfl | exact Wd.isD (i := 6) (Wd.ext W (Ext.new _ _)) rfl | exact Wd.isD (i := 7) (Wd.ext W (Ext.new _ _)) rfl | exact Wd.isD (i := 0) (Wd.ext (Wd.ext W (Ext.new _ _)) (Ext.new _ _)) rfl | exact Wd.isD (i := 1) (Wd.ext (Wd.ext W (Ext.new _ _)) (Ext.new _ _)) rfl | exact Wd.isD (i := 2) (Wd.ext (Wd.ext W (Ext.new _ _)) (Ext.new _ _)) rfl | exact Wd.isD (i := 3) (Wd.ext (Wd.ext W (Ext.new _ _)) (Ext.new _ _)) rfl | exact Wd.isD (i := 4) (Wd.ext (Wd.ext W (Ext.new _ _)) (Ext.new _ _)) rfl | exact Wd.isD (i := 5) (Wd.ext (Wd.ext W (Ext.new _ _)) (Ext.new _ _)) rfl | exact Wd.isD (i := 6) (Wd.ext (Wd.ext W (Ext.new _ _)) (Ext.new _ _)) rfl | exact Wd.isD (i := 7) (Wd.ext (Wd.ext W (Ext.new _ _)) (Ext.new _ _)) rfl | exact Wd.isO (i := 0) W rfl | exact Wd.isO (i := 1) W rfl | exact Wd.isO (i := 2) W rfl | exact Wd.isO (i := 3) W rfl | exact Wd.isO (i := 4) W rfl | exact Wd.isO (i := 5) W rfl | exact Wd.isO (i := 6) W rfl | exact Wd.isO (i := 7) W rfl | exact Wd.isO (i := 0) (Wd.ext W (Ext.new _ _)) rfl | exact Wd.isO (i := 1) (Wd.ext W (Ext.new _ _)) rfl | exact Wd.isO (i := 2) (Wd.ext W (Ext.new _ _)) rfl | exact Wd.isO (i := 3) (Wd.ext W (Ext.new _ _)) rfl | exact Wd.isO (i := 4) (Wd.ext W (Ext.new _ _)) rfl | exact Wd.isO (i := 5) (Wd.ext W (Ext.new _ _)) rfl | exact Wd.isO (i := 6) (Wd.ext W (Ext.new _ _)) rfl | exact Wd.isO (i := 7) (Wd.ext W (Ext.new _ _)) rfl | exact Wd.isO (i := 0) (Wd.ext (Wd.ext W (Ext.new _ _)) (Ext.new _ _)) rfl | exact Wd.isO (i := 1) (Wd.ext (Wd.ext W (Ext.new _ _)) (Ext.new _ _)) rfl | exact Wd.isO (i := 2) (Wd.ext (Wd.ext W (Ext.new _ _)) (Ext.new _ _)) rfl | exact Wd.isO (i := 3) (Wd.ext (Wd.ext W (Ext.new _ _)) (Ext.new _ _)) rfl | exact Wd.isO (i := 4) (Wd.ext (Wd.ext W (Ext.new _ _)) (Ext.new _ _)) rfl | exact Wd.isO (i := 5) (Wd.ext (Wd.ext W (Ext.new _ _)) (Ext.new _ _)) rfl | exact Wd.isO (i := 6) (Wd.ext (Wd.ext W (Ext.new _ _)) (Ext.new _ _)) rfl | exact Wd.isO (i := 7) (Wd.ext (Wd.ext W (Ext.new _ _)) (Ext.new _ _)) rfl | decide | (refine lim_le ?_; omega) | (refine lim_lt ?_; omega) | (refine smf_l ?_ ?_ <;> omega) | (refine smf_r ?_ ?_ <;> omega))) [methR_eq .c_Yard, methRK_eq .c_Yard, op_mod', op_fdiv', op_mul', bindT, bindTs, walk_r1, walk_r2, wpE_tup, wpE_lst, sliI_e, tyR_lst, mthR_lst, mthR_dct, it_0, it_1, it_2, mthTy, isTy, wpS_ite]
      refine ⟨_, W, ?_⟩
      have np : S.np = n + 1 := by rw [g.np]; omega
      have hnn : (n.toNat : Int) = n := by omega
      refine ⟨rfl, ?_, fun q h1 h2 => ?_, ?_, ?_, fun q h1 h2 => ?_, g.note, g.rung, rfl, ?_, fun _ => ⟨?_, ?_, ?_⟩⟩
      · show dlook (dput S.kind _ _) _ = _
        rw [dlook_put, np, if_neg (by simp; omega)]; exact g.k0
      · show dlook (dput S.kind _ _) _ = _
        obtain ⟨j, rfl⟩ := Int.eq_ofNat_of_zero_le (show 0 ≤ q by omega)
        rw [dlook_put, np, if_neg (by simp; omega)]; exact g.kl j (by omega) (by omega)
      · intro p e
        have := g.mt p e
        rw [hnn] at this
        exact this
      · rw [if_pos c]
        unfold YS.sideAt
        show match dlook (dput S.rod _ _) _ with | some r => _ | none => _
        rw [dlook_put, np, if_neg (by simp; omega), rod1, dlook_put, if_pos rfl]
        exact ⟨0, rfl, by show dlook (dput S.side _ _) _ = _; rw [dlook_put]; simp⟩
      · show dlook (dput S.rod _ _) _ = _
        rw [dlook_put, np, if_neg (by simp; omega), rod1, dlook_put, if_neg (by simp; omega)]; rfl
      · show (dput S.side _ _).length < 5
        have := dput_length S.side (.int 0) (.int (1 + dr l 3 % 2))
        have : S.side.length = 1 := by rw [side1]; rfl
        omega
      · show (dlook (dput S.kind _ _) _).isSome = _
        rw [dlook_put, np, c]; simp
      · show dlook (dput S.rod _ _) _ = _
        rw [dlook_put, np, c]; simp
      · show dlook (dput S.rod _ _) _ = _
        rw [dlook_put, np, if_neg (by simp; omega), rod1, dlook_put, if_pos rfl]
    · have rod1 : S.rod = [] := by rw [g.rod, hS1]; unfold YS.lay0; rw [if_neg c]; rfl
      have side1 : S.side = [] := by rw [g.side, hS1]; unfold YS.lay0; rw [if_neg c]; rfl
      have hnn : (n.toNat : Int) = n := by omega
      simp (disch := (first | assumption | omega | exact new_at _ _ | exact isL_new | exact Wd.isY (i := 0) W rfl | exact Wd.isY (i := 1) W rfl | exact Wd.isY (i := 2) W rfl | exact Wd.isY (i := 3) W rfl | exact Wd.isY (i := 4) W rfl | exact Wd.isY (i := 5) W rfl | exact Wd.isY (i := 6) W rfl | exact Wd.isY (i := 7) W rfl | exact Wd.isY (i := 0) (Wd.ext W (Ext.new _ _)) rfl | exact Wd.isY (i := 1) (Wd.ext W (Ext.new _ _)) rfl | exact Wd.isY (i := 2) (Wd.ext W (Ext.new _ _)) rfl | exact Wd.isY (i := 3) (Wd.ext W (Ext.new _ _)) rfl | exact Wd.isY (i := 4) (Wd.ext W (Ext.new _ _)) rfl | exact Wd.isY (i := 5) (Wd.ext W (Ext.new _ _)) rfl | exact Wd.isY (i := 6) (Wd.ext W (Ext.new _ _)) rfl | exact Wd.isY (i := 7) (Wd.ext W (Ext.new _ _)) rfl | exact Wd.isY (i := 0) (Wd.ext (Wd.ext W (Ext.new _ _)) (Ext.new _ _)) rfl | exact Wd.isY (i := 1) (Wd.ext (Wd.ext W (Ext.new _ _)) (Ext.new _ _)) rfl | exact Wd.isY (i := 2) (Wd.ext (Wd.ext W (Ext.new _ _)) (Ext.new _ _)) rfl | exact Wd.isY (i := 3) (Wd.ext (Wd.ext W (Ext.new _ _)) (Ext.new _ _)) rfl | exact Wd.isY (i := 4) (Wd.ext (Wd.ext W (Ext.new _ _)) (Ext.new _ _)) rfl | exact Wd.isY (i := 5) (Wd.ext (Wd.ext W (Ext.new _ _)) (Ext.new _ _)) rfl | exact Wd.isY (i := 6) (Wd.ext (Wd.ext W (Ext.new _ _)) (Ext.new _ _)) rfl | exact Wd.isY (i := 7) (Wd.ext (Wd.ext W (Ext.new _ _)) (Ext.new _ _)) rfl | exact Wd.ob (i := 0) W rfl | exact Wd.ob (i := 1) W rfl | exact Wd.ob (i := 2) W rfl | exact Wd.ob (i := 3) W rfl | exact Wd.ob (i := 4) W rfl | exact Wd.ob (i := 5) W rfl | exact Wd.ob (i := 6) W rfl | exact Wd.ob (i := 7) W rfl | exact Wd.ob (i := 0) (Wd.ext W (Ext.new _ _)) rfl | exact Wd.ob (i := 1) (Wd.ext W (Ext.new _ _)) rfl | exact Wd.ob (i := 2) (Wd.ext W (Ext.new _ _)) rfl | exact Wd.ob (i := 3) (Wd.ext W (Ext.new _ _)) rfl | exact Wd.ob (i := 4) (Wd.ext W (Ext.new _ _)) rfl | exact Wd.ob (i := 5) (Wd.ext W (Ext.new _ _)) rfl | exact Wd.ob (i := 6) (Wd.ext W (Ext.new _ _)) rfl | exact Wd.ob (i := 7) (Wd.ext W (Ext.new _ _)) rfl | exact Wd.ob (i := 0) (Wd.ext (Wd.ext W (Ext.new _ _)) (Ext.new _ _)) rfl | exact Wd.ob (i := 1) (Wd.ext (Wd.ext W (Ext.new _ _)) (Ext.new _ _)) rfl | exact Wd.ob (i := 2) (Wd.ext (Wd.ext W (Ext.new _ _)) (Ext.new _ _)) rfl | exact Wd.ob (i := 3) (Wd.ext (Wd.ext W (Ext.new _ _)) (Ext.new _ _)) rfl | exact Wd.ob (i := 4) (Wd.ext (Wd.ext W (Ext.new _ _)) (Ext.new _ _)) rfl | exact Wd.ob (i := 5) (Wd.ext (Wd.ext W (Ext.new _ _)) (Ext.new _ _)) rfl | exact Wd.ob (i := 6) (Wd.ext (Wd.ext W (Ext.new _ _)) (Ext.new _ _)) rfl | exact Wd.ob (i := 7) (Wd.ext (Wd.ext W (Ext.new _ _)) (Ext.new _ _)) rfl | exact Wd.isL (i := 0) W rfl | exact Wd.isL (i := 1) W rfl | exact Wd.isL (i := 2) W rfl | exact Wd.isL (i := 3) W rfl | exact Wd.isL (i := 4) W rfl | exact Wd.isL (i := 5) W rfl | exact Wd.isL (i := 6) W rfl | exact Wd.isL (i := 7) W rfl | exact Wd.isL (i := 0) (Wd.ext W (Ext.new _ _)) rfl | exact Wd.isL (i := 1) (Wd.ext W (Ext.new _ _)) rfl | exact Wd.isL (i := 2) (Wd.ext W (Ext.new _ _)) rfl | exact Wd.isL (i := 3) (Wd.ext W (Ext.new _ _)) rfl | exact Wd.isL (i := 4) (Wd.ext W (Ext.new _ _)) rfl | exact Wd.isL (i := 5) (Wd.ext W (Ext.new _ _)) rfl | exact Wd.isL (i := 6) (Wd.ext W (Ext.new _ _)) rfl | exact Wd.isL (i := 7) (Wd.ext W (Ext.new _ _)) rfl | exact Wd.isL (i := 0) (Wd.ext (Wd.ext W (Ext.new _ _)) (Ext.new _ _)) rfl | exact Wd.isL (i := 1) (Wd.ext (Wd.ext W (Ext.new _ _)) (Ext.new _ _)) rfl | exact Wd.isL (i := 2) (Wd.ext (Wd.ext W (Ext.new _ _)) (Ext.new _ _)) rfl | exact Wd.isL (i := 3) (Wd.ext (Wd.ext W (Ext.new _ _)) (Ext.new _ _)) rfl | exact Wd.isL (i := 4) (Wd.ext (Wd.ext W (Ext.new _ _)) (Ext.new _ _)) rfl | exact Wd.isL (i := 5) (Wd.ext (Wd.ext W (Ext.new _ _)) (Ext.new _ _)) rfl | exact Wd.isL (i := 6) (Wd.ext (Wd.ext W (Ext.new _ _)) (Ext.new _ _)) rfl | exact Wd.isL (i := 7) (Wd.ext (Wd.ext W (Ext.new _ _)) (Ext.new _ _)) rfl | exact Wd.isD (i := 0) W rfl | exact Wd.isD (i := 1) W rfl | exact Wd.isD (i := 2) W rfl | exact Wd.isD (i := 3) W rfl | exact Wd.isD (i := 4) W rfl | exact Wd.isD (i := 5) W rfl | exact Wd.isD (i := 6) W rfl | exact Wd.isD (i := 7) W rfl | exact Wd.isD (i := 0) (Wd.ext W (Ext.new _ _)) rfl | exact Wd.isD (i := 1) (Wd.ext W (Ext.new _ _)) rfl | exact Wd.isD (i := 2) (Wd.ext W (Ext.new _ _)) rfl | exact Wd.isD (i := 3) (Wd.ext W (Ext.new _ _)) rfl | exact Wd.isD (i := 4) (Wd.ext W (Ext.new _ _)) rfl | exact Wd.isD (i := 5) (Wd.ext W (Ext.new _ _)) rfl | exact Wd.isD (i := 6) (Wd.ext W (Ext.new _ _)) rfl | exact Wd.isD (i := 7) (Wd.ext W (Ext.new _ _)) rfl | exact Wd.isD (i := 0) (Wd.ext (Wd.ext W (Ext.new _ _)) (Ext.new _ _)) rfl | exact Wd.isD (i := 1) (Wd.ext (Wd.ext W (Ext.new _ _)) (Ext.new _ _)) rfl | exact Wd.isD (i := 2) (Wd.ext (Wd.ext W (Ext.new _ _)) (Ext.new _ _)) rfl | exact Wd.isD (i := 3) (Wd.ext (Wd.ext W (Ext.new _ _)) (Ext.new _ _)) rfl | exact Wd.isD (i := 4) (Wd.ext (Wd.ext W (Ext.new _ _)) (Ext.new _ _)) rfl | exact Wd.isD (i := 5) (Wd.ext (Wd.ext W (Ext.new _ _)) (Ext.new _ _)) rfl | exact Wd.isD (i := 6) (Wd.ext (Wd.ext W (Ext.new _ _)) (Ext.new _ _)) rfl | exact Wd.isD (i := 7) (Wd.ext (Wd.ext W (Ext.new _ _)) (Ext.new _ _)) rfl | exact Wd.isO (i := 0) W rfl | exact Wd.isO (i := 1) W rfl | exact Wd.isO (i := 2) W rfl | exact Wd.isO (i := 3) W rfl | exact Wd.isO (i := 4) W rfl | exact Wd.isO (i := 5) W rfl | exact Wd.isO (i := 6) W rfl | exact Wd.isO (i := 7) W rfl | exact Wd.isO (i := 0) (Wd.ext W (Ext.new _ _)) rfl | exact Wd.isO (i := 1) (Wd.ext W (Ext.new _ _)) rfl | exact Wd.isO (i := 2) (Wd.ext W (Ext.new _ _)) rfl | exact Wd.isO (i := 3) (Wd.ext W (Ext.new _ _)) rfl | exact Wd.isO (i := 4) (Wd.ext W (Ext.new _ _)) rfl | exact Wd.isO (i := 5) (Wd.ext W (Ext.new _ _)) rfl | exact Wd.isO (i := 6) (Wd.ext W (Ext.new _ _)) rfl | exact Wd.isO (i := 7) (Wd.ext W (Ext.new _ _)) rfl | exact Wd.isO (i := 0) (Wd.ext (Wd.ext W (Ext.new _ _)) (Ext.new _ _)) rfl | exact Wd.isO (i := 1) (Wd.ext (Wd.ext W (Ext.new _ _)) (Ext.new _ _)) rfl | exact Wd.isO (i := 2) (Wd.ext (Wd.ext W (Ext.new _ _)) (Ext.new _ _)) rfl | exact Wd.isO (i := 3) (Wd.ext (Wd.ext W (Ext.new _ _)) (Ext.new _ _)) rfl | exact Wd.isO (i := 4) (Wd.ext (Wd.ext W (Ext.new _ _)) (Ext.new _ _)) rfl | exact Wd.isO (i := 5) (Wd.ext (Wd.ext W (Ext.new _ _)) (Ext.new _ _)) rfl | exact Wd.isO (i := 6) (Wd.ext (Wd.ext W (Ext.new _ _)) (Ext.new _ _)) rfl | exact Wd.isO (i := 7) (Wd.ext (Wd.ext W (Ext.new _ _)) (Ext.new _ _)) rfl | decide | (refine lim_le ?_; omega) | (refine lim_lt ?_; omega) | (refine smf_l ?_ ?_ <;> omega) | (refine smf_r ?_ ?_ <;> omega))) [methR_eq .c_Yard, methRK_eq .c_Yard, op_mod', op_fdiv', op_mul', bindT, bindTs, walk_r1, walk_r2, wpE_tup, wpE_lst, sliI_e, tyR_lst, mthR_lst, mthR_dct, it_0, it_1, it_2, mthTy, isTy, wpS_ite, decide_eq_false c]
      refine ⟨_, W, ⟨rfl, g.k0, fun q h1 h2 => ?_, ?_, ?_, fun q h1 h2 => by show dlook S.rod _ = _; rw [rod1]; rfl, g.note, g.rung, rfl, by show S.side.length < 5; rw [side1]; decide, fun z => (c z).elim⟩⟩
      · obtain ⟨j, rfl⟩ := Int.eq_ofNat_of_zero_le (show 0 ≤ q by omega)
        exact g.kl j (by omega) (by omega)
      · intro p e
        have := g.mt p e
        rw [hnn] at this
        exact this
      · rw [if_neg c]
        unfold YS.sideAt
        show match dlook S.rod _ with | some r => _ | none => _
        rw [rod1]
        rfl
  · rintro ⟨S, W, R, rfl⟩
    have hm : 0 ≤ dr l 5 % n ∧ dr l 5 % n < n := ⟨Int.emod_nonneg _ (by omega), Int.emod_lt_of_pos _ (by omega)⟩
    simp (disch := (first | assumption | omega | exact new_at _ _ | exact isL_new | exact Wd.isY (i := 0) W rfl | exact Wd.isY (i := 1) W rfl | exact Wd.isY (i := 2) W rfl | exact Wd.isY (i := 3) W rfl | exact Wd.isY (i := 4) W rfl | exact Wd.isY (i := 5) W rfl | exact Wd.isY (i := 6) W rfl | exact Wd.isY (i := 7) W rfl | exact Wd.isY (i := 0) (Wd.ext W (Ext.new _ _)) rfl | exact Wd.isY (i := 1) (Wd.ext W (Ext.new _ _)) rfl | exact Wd.isY (i := 2) (Wd.ext W (Ext.new _ _)) rfl | exact Wd.isY (i := 3) (Wd.ext W (Ext.new _ _)) rfl | exact Wd.isY (i := 4) (Wd.ext W (Ext.new _ _)) rfl | exact Wd.isY (i := 5) (Wd.ext W (Ext.new _ _)) rfl | exact Wd.isY (i := 6) (Wd.ext W (Ext.new _ _)) rfl | exact Wd.isY (i := 7) (Wd.ext W (Ext.new _ _)) rfl | exact Wd.isY (i := 0) (Wd.ext (Wd.ext W (Ext.new _ _)) (Ext.new _ _)) rfl | exact Wd.isY (i := 1) (Wd.ext (Wd.ext W (Ext.new _ _)) (Ext.new _ _)) rfl | exact Wd.isY (i := 2) (Wd.ext (Wd.ext W (Ext.new _ _)) (Ext.new _ _)) rfl | exact Wd.isY (i := 3) (Wd.ext (Wd.ext W (Ext.new _ _)) (Ext.new _ _)) rfl | exact Wd.isY (i := 4) (Wd.ext (Wd.ext W (Ext.new _ _)) (Ext.new _ _)) rfl | exact Wd.isY (i := 5) (Wd.ext (Wd.ext W (Ext.new _ _)) (Ext.new _ _)) rfl | exact Wd.isY (i := 6) (Wd.ext (Wd.ext W (Ext.new _ _)) (Ext.new _ _)) rfl | exact Wd.isY (i := 7) (Wd.ext (Wd.ext W (Ext.new _ _)) (Ext.new _ _)) rfl | exact Wd.ob (i := 0) W rfl | exact Wd.ob (i := 1) W rfl | exact Wd.ob (i := 2) W rfl | exact Wd.ob (i := 3) W rfl | exact Wd.ob (i := 4) W rfl | exact Wd.ob (i := 5) W rfl | exact Wd.ob (i := 6) W rfl | exact Wd.ob (i := 7) W rfl | exact Wd.ob (i := 0) (Wd.ext W (Ext.new _ _)) rfl | exact Wd.ob (i := 1) (Wd.ext W (Ext.new _ _)) rfl | exact Wd.ob (i := 2) (Wd.ext W (Ext.new _ _)) rfl | exact Wd.ob (i := 3) (Wd.ext W (Ext.new _ _)) rfl | exact Wd.ob (i := 4) (Wd.ext W (Ext.new _ _)) rfl | exact Wd.ob (i := 5) (Wd.ext W (Ext.new _ _)) rfl | exact Wd.ob (i := 6) (Wd.ext W (Ext.new _ _)) rfl | exact Wd.ob (i := 7) (Wd.ext W (Ext.new _ _)) rfl | exact Wd.ob (i := 0) (Wd.ext (Wd.ext W (Ext.new _ _)) (Ext.new _ _)) rfl | exact Wd.ob (i := 1) (Wd.ext (Wd.ext W (Ext.new _ _)) (Ext.new _ _)) rfl | exact Wd.ob (i := 2) (Wd.ext (Wd.ext W (Ext.new _ _)) (Ext.new _ _)) rfl | exact Wd.ob (i := 3) (Wd.ext (Wd.ext W (Ext.new _ _)) (Ext.new _ _)) rfl | exact Wd.ob (i := 4) (Wd.ext (Wd.ext W (Ext.new _ _)) (Ext.new _ _)) rfl | exact Wd.ob (i := 5) (Wd.ext (Wd.ext W (Ext.new _ _)) (Ext.new _ _)) rfl | exact Wd.ob (i := 6) (Wd.ext (Wd.ext W (Ext.new _ _)) (Ext.new _ _)) rfl | exact Wd.ob (i := 7) (Wd.ext (Wd.ext W (Ext.new _ _)) (Ext.new _ _)) rfl | exact Wd.isL (i := 0) W rfl | exact Wd.isL (i := 1) W rfl | exact Wd.isL (i := 2) W rfl | exact Wd.isL (i := 3) W rfl | exact Wd.isL (i := 4) W rfl | exact Wd.isL (i := 5) W rfl | exact Wd.isL (i := 6) W rfl | exact Wd.isL (i := 7) W rfl | exact Wd.isL (i := 0) (Wd.ext W (Ext.new _ _)) rfl | exact Wd.isL (i := 1) (Wd.ext W (Ext.new _ _)) rfl | exact Wd.isL (i := 2) (Wd.ext W (Ext.new _ _)) rfl | exact Wd.isL (i := 3) (Wd.ext W (Ext.new _ _)) rfl | exact Wd.isL (i := 4) (Wd.ext W (Ext.new _ _)) rfl | exact Wd.isL (i := 5) (Wd.ext W (Ext.new _ _)) rfl | exact Wd.isL (i := 6) (Wd.ext W (Ext.new _ _)) rfl | exact Wd.isL (i := 7) (Wd.ext W (Ext.new _ _)) rfl | exact Wd.isL (i := 0) (Wd.ext (Wd.ext W (Ext.new _ _)) (Ext.new _ _)) rfl | exact Wd.isL (i := 1) (Wd.ext (Wd.ext W (Ext.new _ _)) (Ext.new _ _)) rfl | exact Wd.isL (i := 2) (Wd.ext (Wd.ext W (Ext.new _ _)) (Ext.new _ _)) rfl | exact Wd.isL (i := 3) (Wd.ext (Wd.ext W (Ext.new _ _)) (Ext.new _ _)) rfl | exact Wd.isL (i := 4) (Wd.ext (Wd.ext W (Ext.new _ _)) (Ext.new _ _)) rfl | exact Wd.isL (i := 5) (Wd.ext (Wd.ext W (Ext.new _ _)) (Ext.new _ _)) rfl | exact Wd.isL (i := 6) (Wd.ext (Wd.ext W (Ext.new _ _)) (Ext.new _ _)) rfl | exact Wd.isL (i := 7) (Wd.ext (Wd.ext W (Ext.new _ _)) (Ext.new _ _)) rfl | exact Wd.isD (i := 0) W rfl | exact Wd.isD (i := 1) W rfl | exact Wd.isD (i := 2) W rfl | exact Wd.isD (i := 3) W rfl | exact Wd.isD (i := 4) W rfl | exact Wd.isD (i := 5) W rfl | exact Wd.isD (i := 6) W rfl | exact Wd.isD (i := 7) W rfl | exact Wd.isD (i := 0) (Wd.ext W (Ext.new _ _)) rfl | exact Wd.isD (i := 1) (Wd.ext W (Ext.new _ _)) rfl | exact Wd.isD (i := 2) (Wd.ext W (Ext.new _ _)) rfl | exact Wd.isD (i := 3) (Wd.ext W (Ext.new _ _)) rfl | exact Wd.isD (i := 4) (Wd.ext W (Ext.new _ _)) rfl | exact Wd.isD (i := 5) (Wd.ext W (Ext.new _ _)) rfl | exact Wd.isD (i := 6) (Wd.ext W (Ext.new _ _)) rfl | exact Wd.isD (i := 7) (Wd.ext W (Ext.new _ _)) rfl | exact Wd.isD (i := 0) (Wd.ext (Wd.ext W (Ext.new _ _)) (Ext.new _ _)) rfl | exact Wd.isD (i := 1) (Wd.ext (Wd.ext W (Ext.new _ _)) (Ext.new _ _)) rfl | exact Wd.isD (i := 2) (Wd.ext (Wd.ext W (Ext.new _ _)) (Ext.new _ _)) rfl | exact Wd.isD (i := 3) (Wd.ext (Wd.ext W (Ext.new _ _)) (Ext.new _ _)) rfl | exact Wd.isD (i := 4) (Wd.ext (Wd.ext W (Ext.new _ _)) (Ext.new _ _)) rfl | exact Wd.isD (i := 5) (Wd.ext (Wd.ext W (Ext.new _ _)) (Ext.new _ _)) rfl | exact Wd.isD (i := 6) (Wd.ext (Wd.ext W (Ext.new _ _)) (Ext.new _ _)) rfl | exact Wd.isD (i := 7) (Wd.ext (Wd.ext W (Ext.new _ _)) (Ext.new _ _)) rfl | exact Wd.isO (i := 0) W rfl | exact Wd.isO (i := 1) W rfl | exact Wd.isO (i := 2) W rfl | exact Wd.isO (i := 3) W rfl | exact Wd.isO (i := 4) W rfl | exact Wd.isO (i := 5) W rfl | exact Wd.isO (i := 6) W rfl | exact Wd.isO (i := 7) W rfl | exact Wd.isO (i := 0) (Wd.ext W (Ext.new _ _)) rfl | exact Wd.isO (i := 1) (Wd.ext W (Ext.new _ _)) rfl | exact Wd.isO (i := 2) (Wd.ext W (Ext.new _ _)) rfl | exact Wd.isO (i := 3) (Wd.ext W (Ext.new _ _)) rfl | exact Wd.isO (i := 4) (Wd.ext W (Ext.new _ _)) rfl | exact Wd.isO (i := 5) (Wd.ext W (Ext.new _ _)) rfl | exact Wd.isO (i := 6) (Wd.ext W (Ext.new _ _)) rfl | exact Wd.isO (i := 7) (Wd.ext W (Ext.new _ _)) rfl | exact Wd.isO (i := 0) (Wd.ext (Wd.ext W (Ext.new _ _)) (Ext.new _ _)) rfl | exact Wd.isO (i := 1) (Wd.ext (Wd.ext W (Ext.new _ _)) (Ext.new _ _)) rfl | exact Wd.isO (i := 2) (Wd.ext (Wd.ext W (Ext.new _ _)) (Ext.new _ _)) rfl | exact Wd.isO (i := 3) (Wd.ext (Wd.ext W (Ext.new _ _)) (Ext.new _ _)) rfl | exact Wd.isO (i := 4) (Wd.ext (Wd.ext W (Ext.new _ _)) (Ext.new _ _)) rfl | exact Wd.isO (i := 5) (Wd.ext (Wd.ext W (Ext.new _ _)) (Ext.new _ _)) rfl | exact Wd.isO (i := 6) (Wd.ext (Wd.ext W (Ext.new _ _)) (Ext.new _ _)) rfl | exact Wd.isO (i := 7) (Wd.ext (Wd.ext W (Ext.new _ _)) (Ext.new _ _)) rfl | decide | (refine lim_le ?_; omega) | (refine lim_lt ?_; omega) | (refine smf_l ?_ ?_ <;> omega) | (refine smf_r ?_ ?_ <;> omega))) [methR_eq .c_Yard, methRK_eq .c_Yard, op_mod', op_fdiv', op_mul', bindT, bindTs, walk_r1, walk_r2, wpE_tup, wpE_lst, sliI_e, tyR_lst, mthR_lst, mthR_dct, it_0, it_1, it_2, mthTy, isTy, wpS_ite, item_dr hl]
    refine w_put (by first | exact Has.sub LP.has (by simp [U]; done) (by simp [M]; done) | exact Has.fn LP.has _ (by simp [U]; done)) W 1 rfl R.k0 hk hm.1 hm.2 fun h W => ?_
    obtain ⟨S2, hS2⟩ : ∃ S2 : YS, S2 = { S with at_ := .tup [.int 0, .int (dr l 5 % n)], trail := [] } := ⟨_, rfl⟩
    have W : Wd h [.ob 2 (.lst (l.map .int)), .yard y S2] := by rw [hS2]; exact W
    rw [← hS2] at R
    have hat := R.at_
    have htr := R.trail
    have hrg := R.rung
    by_cases c0 : k = kStop
    · have hp : ∀ s, pas k (dr l 5 % n) s = (.non, s) := fun s => by simp [pas, c0]
      have n1 : n ≠ 3 := by subst c0; cases hk; decide
      have sd := R.sd
      rw [if_neg n1] at sd
      have he := w_held (P := P) (d := 4) (by first | exact Has.sub LP.has (by simp [U]; done) (by simp [M]; done) | exact Has.fn LP.has _ (by simp [U]; done)) W 1 rfl hat R.k0 hk hm.1 hm.2 sd (fun z => (n1 z).elim)
      rw [hp] at he
      simp (disch := (first | assumption | omega | exact new_at _ _ | exact isL_new | exact Wd.isY (i := 0) W rfl | exact Wd.isY (i := 1) W rfl | exact Wd.isY (i := 2) W rfl | exact Wd.isY (i := 3) W rfl | exact Wd.isY (i := 4) W rfl | exact Wd.isY (i := 5) W rfl | exact Wd.isY (i := 6) W rfl | exact Wd.isY (i := 7) W rfl | exact Wd.isY (i := 0) (Wd.ext W (Ext.new _ _)) rfl | exact Wd.isY (i := 1) (Wd.ext W (Ext.new _ _)) rfl | exact Wd.isY (i := 2) (Wd.ext W (Ext.new _ _)) rfl | exact Wd.isY (i := 3) (Wd.ext W (Ext.new _ _)) rfl | exact Wd.isY (i := 4) (Wd.ext W (Ext.new _ _)) rfl | exact Wd.isY (i := 5) (Wd.ext W (Ext.new _ _)) rfl | exact Wd.isY (i := 6) (Wd.ext W (Ext.new _ _)) rfl | exact Wd.isY (i := 7) (Wd.ext W (Ext.new _ _)) rfl | exact Wd.isY (i := 0) (Wd.ext (Wd.ext W (Ext.new _ _)) (Ext.new _ _)) rfl | exact Wd.isY (i := 1) (Wd.ext (Wd.ext W (Ext.new _ _)) (Ext.new _ _)) rfl | exact Wd.isY (i := 2) (Wd.ext (Wd.ext W (Ext.new _ _)) (Ext.new _ _)) rfl | exact Wd.isY (i := 3) (Wd.ext (Wd.ext W (Ext.new _ _)) (Ext.new _ _)) rfl | exact Wd.isY (i := 4) (Wd.ext (Wd.ext W (Ext.new _ _)) (Ext.new _ _)) rfl | exact Wd.isY (i := 5) (Wd.ext (Wd.ext W (Ext.new _ _)) (Ext.new _ _)) rfl | exact Wd.isY (i := 6) (Wd.ext (Wd.ext W (Ext.new _ _)) (Ext.new _ _)) rfl | exact Wd.isY (i := 7) (Wd.ext (Wd.ext W (Ext.new _ _)) (Ext.new _ _)) rfl | exact Wd.ob (i := 0) W rfl | exact Wd.ob (i := 1) W rfl | exact Wd.ob (i := 2) W rfl | exact Wd.ob (i := 3) W rfl | exact Wd.ob (i := 4) W rfl | exact Wd.ob (i := 5) W rfl | exact Wd.ob (i := 6) W rfl | exact Wd.ob (i := 7) W rfl | exact Wd.ob (i := 0) (Wd.ext W (Ext.new _ _)) rfl | exact Wd.ob (i := 1) (Wd.ext W (Ext.new _ _)) rfl | exact Wd.ob (i := 2) (Wd.ext W (Ext.new _ _)) rfl | exact Wd.ob (i := 3) (Wd.ext W (Ext.new _ _)) rfl | exact Wd.ob (i := 4) (Wd.ext W (Ext.new _ _)) rfl | exact Wd.ob (i := 5) (Wd.ext W (Ext.new _ _)) rfl | exact Wd.ob (i := 6) (Wd.ext W (Ext.new _ _)) rfl | exact Wd.ob (i := 7) (Wd.ext W (Ext.new _ _)) rfl | exact Wd.ob (i := 0) (Wd.ext (Wd.ext W (Ext.new _ _)) (Ext.new _ _)) rfl | exact Wd.ob (i := 1) (Wd.ext (Wd.ext W (Ext.new _ _)) (Ext.new _ _)) rfl | exact Wd.ob (i := 2) (Wd.ext (Wd.ext W (Ext.new _ _)) (Ext.new _ _)) rfl | exact Wd.ob (i := 3) (Wd.ext (Wd.ext W (Ext.new _ _)) (Ext.new _ _)) rfl | exact Wd.ob (i := 4) (Wd.ext (Wd.ext W (Ext.new _ _)) (Ext.new _ _)) rfl | exact Wd.ob (i := 5) (Wd.ext (Wd.ext W (Ext.new _ _)) (Ext.new _ _)) rfl | exact Wd.ob (i := 6) (Wd.ext (Wd.ext W (Ext.new _ _)) (Ext.new _ _)) rfl | exact Wd.ob (i := 7) (Wd.ext (Wd.ext W (Ext.new _ _)) (Ext.new _ _)) rfl | exact Wd.isL (i := 0) W rfl | exact Wd.isL (i := 1) W rfl | exact Wd.isL (i := 2) W rfl | exact Wd.isL (i := 3) W rfl | exact Wd.isL (i := 4) W rfl | exact Wd.isL (i := 5) W rfl | exact Wd.isL (i := 6) W rfl | exact Wd.isL (i := 7) W rfl | exact Wd.isL (i := 0) (Wd.ext W (Ext.new _ _)) rfl | exact Wd.isL (i := 1) (Wd.ext W (Ext.new _ _)) rfl | exact Wd.isL (i := 2) (Wd.ext W (Ext.new _ _)) rfl | exact Wd.isL (i := 3) (Wd.ext W (Ext.new _ _)) rfl | exact Wd.isL (i := 4) (Wd.ext W (Ext.new _ _)) rfl | exact Wd.isL (i := 5) (Wd.ext W (Ext.new _ _)) rfl | exact Wd.isL (i := 6) (Wd.ext W (Ext.new _ _)) rfl | exact Wd.isL (i := 7) (Wd.ext W (Ext.new _ _)) rfl | exact Wd.isL (i := 0) (Wd.ext (Wd.ext W (Ext.new _ _)) (Ext.new _ _)) rfl | exact Wd.isL (i := 1) (Wd.ext (Wd.ext W (Ext.new _ _)) (Ext.new _ _)) rfl | exact Wd.isL (i := 2) (Wd.ext (Wd.ext W (Ext.new _ _)) (Ext.new _ _)) rfl | exact Wd.isL (i := 3) (Wd.ext (Wd.ext W (Ext.new _ _)) (Ext.new _ _)) rfl | exact Wd.isL (i := 4) (Wd.ext (Wd.ext W (Ext.new _ _)) (Ext.new _ _)) rfl | exact Wd.isL (i := 5) (Wd.ext (Wd.ext W (Ext.new _ _)) (Ext.new _ _)) rfl | exact Wd.isL (i := 6) (Wd.ext (Wd.ext W (Ext.new _ _)) (Ext.new _ _)) rfl | exact Wd.isL (i := 7) (Wd.ext (Wd.ext W (Ext.new _ _)) (Ext.new _ _)) rfl | exact Wd.isD (i := 0) W rfl | exact Wd.isD (i := 1) W rfl | exact Wd.isD (i := 2) W rfl | exact Wd.isD (i := 3) W rfl | exact Wd.isD (i := 4) W rfl | exact Wd.isD (i := 5) W rfl | exact Wd.isD (i := 6) W rfl | exact Wd.isD (i := 7) W rfl | exact Wd.isD (i := 0) (Wd.ext W (Ext.new _ _)) rfl | exact Wd.isD (i := 1) (Wd.ext W (Ext.new _ _)) rfl | exact Wd.isD (i := 2) (Wd.ext W (Ext.new _ _)) rfl | exact Wd.isD (i := 3) (Wd.ext W (Ext.new _ _)) rfl | exact Wd.isD (i := 4) (Wd.ext W (Ext.new _ _)) rfl | exact Wd.isD (i := 5) (Wd.ext W (Ext.new _ _)) rfl | exact Wd.isD (i := 6) (Wd.ext W (Ext.new _ _)) rfl | exact Wd.isD (i := 7) (Wd.ext W (Ext.new _ _)) rfl | exact Wd.isD (i := 0) (Wd.ext (Wd.ext W (Ext.new _ _)) (Ext.new _ _)) rfl | exact Wd.isD (i := 1) (Wd.ext (Wd.ext W (Ext.new _ _)) (Ext.new _ _)) rfl | exact Wd.isD (i := 2) (Wd.ext (Wd.ext W (Ext.new _ _)) (Ext.new _ _)) rfl | exact Wd.isD (i := 3) (Wd.ext (Wd.ext W (Ext.new _ _)) (Ext.new _ _)) rfl | exact Wd.isD (i := 4) (Wd.ext (Wd.ext W (Ext.new _ _)) (Ext.new _ _)) rfl | exact Wd.isD (i := 5) (Wd.ext (Wd.ext W (Ext.new _ _)) (Ext.new _ _)) rfl | exact Wd.isD (i := 6) (Wd.ext (Wd.ext W (Ext.new _ _)) (Ext.new _ _)) rfl | exact Wd.isD (i := 7) (Wd.ext (Wd.ext W (Ext.new _ _)) (Ext.new _ _)) rfl | exact Wd.isO (i := 0) W rfl | exact Wd.isO (i := 1) W rfl | exact Wd.isO (i := 2) W rfl | exact Wd.isO (i := 3) W rfl | exact Wd.isO (i := 4) W rfl | exact Wd.isO (i := 5) W rfl | exact Wd.isO (i := 6) W rfl | exact Wd.isO (i := 7) W rfl | exact Wd.isO (i := 0) (Wd.ext W (Ext.new _ _)) rfl | exact Wd.isO (i := 1) (Wd.ext W (Ext.new _ _)) rfl | exact Wd.isO (i := 2) (Wd.ext W (Ext.new _ _)) rfl | exact Wd.isO (i := 3) (Wd.ext W (Ext.new _ _)) rfl | exact Wd.isO (i := 4) (Wd.ext W (Ext.new _ _)) rfl | exact Wd.isO (i := 5) (Wd.ext W (Ext.new _ _)) rfl | exact Wd.isO (i := 6) (Wd.ext W (Ext.new _ _)) rfl | exact Wd.isO (i := 7) (Wd.ext W (Ext.new _ _)) rfl | exact Wd.isO (i := 0) (Wd.ext (Wd.ext W (Ext.new _ _)) (Ext.new _ _)) rfl | exact Wd.isO (i := 1) (Wd.ext (Wd.ext W (Ext.new _ _)) (Ext.new _ _)) rfl | exact Wd.isO (i := 2) (Wd.ext (Wd.ext W (Ext.new _ _)) (Ext.new _ _)) rfl | exact Wd.isO (i := 3) (Wd.ext (Wd.ext W (Ext.new _ _)) (Ext.new _ _)) rfl | exact Wd.isO (i := 4) (Wd.ext (Wd.ext W (Ext.new _ _)) (Ext.new _ _)) rfl | exact Wd.isO (i := 5) (Wd.ext (Wd.ext W (Ext.new _ _)) (Ext.new _ _)) rfl | exact Wd.isO (i := 6) (Wd.ext (Wd.ext W (Ext.new _ _)) (Ext.new _ _)) rfl | exact Wd.isO (i := 7) (Wd.ext (Wd.ext W (Ext.new _ _)) (Ext.new _ _)) rfl | decide | (refine lim_le ?_; omega) | (refine lim_lt ?_; omega) | (refine smf_l ?_ ?_ <;> omega) | (refine smf_r ?_ ?_ <;> omega))) [methR_eq .c_Yard, methRK_eq .c_Yard, op_mod', op_fdiv', op_mul', bindT, bindTs, walk_r1, walk_r2, wpE_tup, wpE_lst, sliI_e, tyR_lst, mthR_lst, mthR_dct, it_0, it_1, it_2, mthTy, isTy, wpS_ite, l_passing (P := P) (by first | exact Has.sub LP.has (by simp [U]; done) (by simp [M]; done) | exact Has.fn LP.has _ (by simp [U]; done)) hk hm.1, hp, eq_kstop hk, decide_eq_true c0, he, heldV, ne_str]
      refine w_run (by first | exact Has.sub LP.has (by simp [U]; done) (by simp [M]; done) | exact Has.fn LP.has _ (by simp [U]; done)) W 1 rfl (fun _ => _) rfl 0 (fun _ hj => by omega) (.inr (.inr ⟨_, _, _, _, _, ⟨hat, R.k0, hk, hm.1, hm.2, sd, fun z => (n1 z).elim, ?_⟩⟩)) (.inr rfl) (by decide) (by rw [htr]; exact Nat.zero_lt_succ _) (by rw [hrg]; exact Nat.zero_lt_succ _) fun h W => ?_
      · rw [hp]; simp [heldV]
      simp (disch := (first | assumption | omega | exact new_at _ _ | exact isL_new | exact Wd.isY (i := 0) W rfl | exact Wd.isY (i := 1) W rfl | exact Wd.isY (i := 2) W rfl | exact Wd.isY (i := 3) W rfl | exact Wd.isY (i := 4) W rfl | exact Wd.isY (i := 5) W rfl | exact Wd.isY (i := 6) W rfl | exact Wd.isY (i := 7) W rfl | exact Wd.isY (i := 0) (Wd.ext W (Ext.new _ _)) rfl | exact Wd.isY (i := 1) (Wd.ext W (Ext.new _ _)) rfl | exact Wd.isY (i := 2) (Wd.ext W (Ext.new _ _)) rfl | exact Wd.isY (i := 3) (Wd.ext W (Ext.new _ _)) rfl | exact Wd.isY (i := 4) (Wd.ext W (Ext.new _ _)) rfl | exact Wd.isY (i := 5) (Wd.ext W (Ext.new _ _)) rfl | exact Wd.isY (i := 6) (Wd.ext W (Ext.new _ _)) rfl | exact Wd.isY (i := 7) (Wd.ext W (Ext.new _ _)) rfl | exact Wd.isY (i := 0) (Wd.ext (Wd.ext W (Ext.new _ _)) (Ext.new _ _)) rfl | exact Wd.isY (i := 1) (Wd.ext (Wd.ext W (Ext.new _ _)) (Ext.new _ _)) rfl | exact Wd.isY (i := 2) (Wd.ext (Wd.ext W (Ext.new _ _)) (Ext.new _ _)) rfl | exact Wd.isY (i := 3) (Wd.ext (Wd.ext W (Ext.new _ _)) (Ext.new _ _)) rfl | exact Wd.isY (i := 4) (Wd.ext (Wd.ext W (Ext.new _ _)) (Ext.new _ _)) rfl | exact Wd.isY (i := 5) (Wd.ext (Wd.ext W (Ext.new _ _)) (Ext.new _ _)) rfl | exact Wd.isY (i := 6) (Wd.ext (Wd.ext W (Ext.new _ _)) (Ext.new _ _)) rfl | exact Wd.isY (i := 7) (Wd.ext (Wd.ext W (Ext.new _ _)) (Ext.new _ _)) rfl | exact Wd.ob (i := 0) W rfl | exact Wd.ob (i := 1) W rfl | exact Wd.ob (i := 2) W rfl | exact Wd.ob (i := 3) W rfl | exact Wd.ob (i := 4) W rfl | exact Wd.ob (i := 5) W rfl | exact Wd.ob (i := 6) W rfl | exact Wd.ob (i := 7) W rfl | exact Wd.ob (i := 0) (Wd.ext W (Ext.new _ _)) rfl | exact Wd.ob (i := 1) (Wd.ext W (Ext.new _ _)) rfl | exact Wd.ob (i := 2) (Wd.ext W (Ext.new _ _)) rfl | exact Wd.ob (i := 3) (Wd.ext W (Ext.new _ _)) rfl | exact Wd.ob (i := 4) (Wd.ext W (Ext.new _ _)) rfl | exact Wd.ob (i := 5) (Wd.ext W (Ext.new _ _)) rfl | exact Wd.ob (i := 6) (Wd.ext W (Ext.new _ _)) rfl | exact Wd.ob (i := 7) (Wd.ext W (Ext.new _ _)) rfl | exact Wd.ob (i := 0) (Wd.ext (Wd.ext W (Ext.new _ _)) (Ext.new _ _)) rfl | exact Wd.ob (i := 1) (Wd.ext (Wd.ext W (Ext.new _ _)) (Ext.new _ _)) rfl | exact Wd.ob (i := 2) (Wd.ext (Wd.ext W (Ext.new _ _)) (Ext.new _ _)) rfl | exact Wd.ob (i := 3) (Wd.ext (Wd.ext W (Ext.new _ _)) (Ext.new _ _)) rfl | exact Wd.ob (i := 4) (Wd.ext (Wd.ext W (Ext.new _ _)) (Ext.new _ _)) rfl | exact Wd.ob (i := 5) (Wd.ext (Wd.ext W (Ext.new _ _)) (Ext.new _ _)) rfl | exact Wd.ob (i := 6) (Wd.ext (Wd.ext W (Ext.new _ _)) (Ext.new _ _)) rfl | exact Wd.ob (i := 7) (Wd.ext (Wd.ext W (Ext.new _ _)) (Ext.new _ _)) rfl | exact Wd.isL (i := 0) W rfl | exact Wd.isL (i := 1) W rfl | exact Wd.isL (i := 2) W rfl | exact Wd.isL (i := 3) W rfl | exact Wd.isL (i := 4) W rfl | exact Wd.isL (i := 5) W rfl | exact Wd.isL (i := 6) W rfl | exact Wd.isL (i := 7) W rfl | exact Wd.isL (i := 0) (Wd.ext W (Ext.new _ _)) rfl | exact Wd.isL (i := 1) (Wd.ext W (Ext.new _ _)) rfl | exact Wd.isL (i := 2) (Wd.ext W (Ext.new _ _)) rfl | exact Wd.isL (i := 3) (Wd.ext W (Ext.new _ _)) rfl | exact Wd.isL (i := 4) (Wd.ext W (Ext.new _ _)) rfl | exact Wd.isL (i := 5) (Wd.ext W (Ext.new _ _)) rfl | exact Wd.isL (i := 6) (Wd.ext W (Ext.new _ _)) rfl | exact Wd.isL (i := 7) (Wd.ext W (Ext.new _ _)) rfl | exact Wd.isL (i := 0) (Wd.ext (Wd.ext W (Ext.new _ _)) (Ext.new _ _)) rfl | exact Wd.isL (i := 1) (Wd.ext (Wd.ext W (Ext.new _ _)) (Ext.new _ _)) rfl | exact Wd.isL (i := 2) (Wd.ext (Wd.ext W (Ext.new _ _)) (Ext.new _ _)) rfl | exact Wd.isL (i := 3) (Wd.ext (Wd.ext W (Ext.new _ _)) (Ext.new _ _)) rfl | exact Wd.isL (i := 4) (Wd.ext (Wd.ext W (Ext.new _ _)) (Ext.new _ _)) rfl | exact Wd.isL (i := 5) (Wd.ext (Wd.ext W (Ext.new _ _)) (Ext.new _ _)) rfl | exact Wd.isL (i := 6) (Wd.ext (Wd.ext W (Ext.new _ _)) (Ext.new _ _)) rfl | exact Wd.isL (i := 7) (Wd.ext (Wd.ext W (Ext.new _ _)) (Ext.new _ _)) rfl | exact Wd.isD (i := 0) W rfl | exact Wd.isD (i := 1) W rfl | exact Wd.isD (i := 2) W rfl | exact Wd.isD (i := 3) W rfl | exact Wd.isD (i := 4) W rfl | exact Wd.isD (i := 5) W rfl | exact Wd.isD (i := 6) W rfl | exact Wd.isD (i := 7) W rfl | exact Wd.isD (i := 0) (Wd.ext W (Ext.new _ _)) rfl | exact Wd.isD (i := 1) (Wd.ext W (Ext.new _ _)) rfl | exact Wd.isD (i := 2) (Wd.ext W (Ext.new _ _)) rfl | exact Wd.isD (i := 3) (Wd.ext W (Ext.new _ _)) rfl | exact Wd.isD (i := 4) (Wd.ext W (Ext.new _ _)) rfl | exact Wd.isD (i := 5) (Wd.ext W (Ext.new _ _)) rfl | exact Wd.isD (i := 6) (Wd.ext W (Ext.new _ _)) rfl | exact Wd.isD (i := 7) (Wd.ext W (Ext.new _ _)) rfl | exact Wd.isD (i := 0) (Wd.ext (Wd.ext W (Ext.new _ _)) (Ext.new _ _)) rfl | exact Wd.isD (i := 1) (Wd.ext (Wd.ext W (Ext.new _ _)) (Ext.new _ _)) rfl | exact Wd.isD (i := 2) (Wd.ext (Wd.ext W (Ext.new _ _)) (Ext.new _ _)) rfl | exact Wd.isD (i := 3) (Wd.ext (Wd.ext W (Ext.new _ _)) (Ext.new _ _)) rfl | exact Wd.isD (i := 4) (Wd.ext (Wd.ext W (Ext.new _ _)) (Ext.new _ _)) rfl | exact Wd.isD (i := 5) (Wd.ext (Wd.ext W (Ext.new _ _)) (Ext.new _ _)) rfl | exact Wd.isD (i := 6) (Wd.ext (Wd.ext W (Ext.new _ _)) (Ext.new _ _)) rfl | exact Wd.isD (i := 7) (Wd.ext (Wd.ext W (Ext.new _ _)) (Ext.new _ _)) rfl | exact Wd.isO (i := 0) W rfl | exact Wd.isO (i := 1) W rfl | exact Wd.isO (i := 2) W rfl | exact Wd.isO (i := 3) W rfl | exact Wd.isO (i := 4) W rfl | exact Wd.isO (i := 5) W rfl | exact Wd.isO (i := 6) W rfl | exact Wd.isO (i := 7) W rfl | exact Wd.isO (i := 0) (Wd.ext W (Ext.new _ _)) rfl | exact Wd.isO (i := 1) (Wd.ext W (Ext.new _ _)) rfl | exact Wd.isO (i := 2) (Wd.ext W (Ext.new _ _)) rfl | exact Wd.isO (i := 3) (Wd.ext W (Ext.new _ _)) rfl | exact Wd.isO (i := 4) (Wd.ext W (Ext.new _ _)) rfl | exact Wd.isO (i := 5) (Wd.ext W (Ext.new _ _)) rfl | exact Wd.isO (i := 6) (Wd.ext W (Ext.new _ _)) rfl | exact Wd.isO (i := 7) (Wd.ext W (Ext.new _ _)) rfl | exact Wd.isO (i := 0) (Wd.ext (Wd.ext W (Ext.new _ _)) (Ext.new _ _)) rfl | exact Wd.isO (i := 1) (Wd.ext (Wd.ext W (Ext.new _ _)) (Ext.new _ _)) rfl | exact Wd.isO (i := 2) (Wd.ext (Wd.ext W (Ext.new _ _)) (Ext.new _ _)) rfl | exact Wd.isO (i := 3) (Wd.ext (Wd.ext W (Ext.new _ _)) (Ext.new _ _)) rfl | exact Wd.isO (i := 4) (Wd.ext (Wd.ext W (Ext.new _ _)) (Ext.new _ _)) rfl | exact Wd.isO (i := 5) (Wd.ext (Wd.ext W (Ext.new _ _)) (Ext.new _ _)) rfl | exact Wd.isO (i := 6) (Wd.ext (Wd.ext W (Ext.new _ _)) (Ext.new _ _)) rfl | exact Wd.isO (i := 7) (Wd.ext (Wd.ext W (Ext.new _ _)) (Ext.new _ _)) rfl | decide | (refine lim_le ?_; omega) | (refine lim_lt ?_; omega) | (refine smf_l ?_ ?_ <;> omega) | (refine smf_r ?_ ?_ <;> omega))) [methR_eq .c_Yard, methRK_eq .c_Yard, op_mod', op_fdiv', op_mul', bindT, bindTs, walk_r1, walk_r2, wpE_tup, wpE_lst, sliI_e, tyR_lst, mthR_lst, mthR_dct, it_0, it_1, it_2, mthTy, isTy, wpS_ite, l_is (P := P) (by first | exact Has.sub LP.has (by simp [U]; done) (by simp [M]; done) | exact Has.fn LP.has _ (by simp [U]; done)), w_engine (P := P) (by first | exact Has.sub LP.has (by simp [U]; done) (by simp [M]; done) | exact Has.fn LP.has _ (by simp [U]; done)) W 1 rfl, w_steps (P := P) (by first | exact Has.sub LP.has (by simp [U]; done) (by simp [M]; done) | exact Has.fn LP.has _ (by simp [U]; done)) W 1 rfl, l_end_eq (P := P) (by first | exact Has.sub LP.has (by simp [U]; done) (by simp [M]; done) | exact Has.fn LP.has _ (by simp [U]; done)), hat, htr]
    · have ho : ∀ s, s = 1 ∨ s = 2 → ∃ o, (pas k (dr l 5 % n) s).1 = .int o ∧ 0 ≤ o ∧ o < n := fun s hss => by
        obtain ⟨e0, he0⟩ : ∃ e0, e0 = dr l 5 % n := ⟨_, rfl⟩
        rw [← he0] at hm ⊢
        cases hk <;> first | exact (c0 rfl).elim | skip
        · exact ⟨1 - e0, by simp [pas], by omega, by omega⟩
        · exact ⟨1 - e0, by simp [pas], by omega, by omega⟩
        all_goals
          by_cases z : e0 = 0
          · exact ⟨s, by simp [pas, z], by omega, by omega⟩
          · exact ⟨0, by simp [pas, z], by omega, by omega⟩
      have hs0 : 1 + dr l 3 % 2 = 1 ∨ 1 + dr l 3 % 2 = 2 := by omega
      obtain ⟨o, eo, o0, o1⟩ := ho _ hs0
      obtain ⟨s, es⟩ : ∃ s, s = if n = 3 then 1 + dr l 3 % 2 else 0 := ⟨_, rfl⟩
      have sd := R.sd
      rw [← es] at sd
      have eo2 : (pas k (dr l 5 % n) s).1 = .int o := by
        rw [es]
        by_cases c : n = 3
        · rw [if_pos c]; exact eo
        · rw [if_neg c, ← eo]
          cases hk <;> first | exact (c rfl).elim | exact (c0 rfl).elim | rfl
      have mo : dlook S2.mate (.tup [.int 0, .int o]) = some (.tup [.int (o + 1), .int (dr l 2 % 2)]) := by rw [R.mt, if_pos ⟨rfl, o0, o1⟩]
      have h3 : n = 3 → s = 1 ∨ s = 2 := fun c => by rw [es, if_pos c]; exact hs0
      simp (disch := (first | assumption | omega | exact new_at _ _ | exact isL_new | exact Wd.isY (i := 0) W rfl | exact Wd.isY (i := 1) W rfl | exact Wd.isY (i := 2) W rfl | exact Wd.isY (i := 3) W rfl | exact Wd.isY (i := 4) W rfl | exact Wd.isY (i := 5) W rfl | exact Wd.isY (i := 6) W rfl | exact Wd.isY (i := 7) W rfl | exact Wd.isY (i := 0) (Wd.ext W (Ext.new _ _)) rfl | exact Wd.isY (i := 1) (Wd.ext W (Ext.new _ _)) rfl | exact Wd.isY (i := 2) (Wd.ext W (Ext.new _ _)) rfl | exact Wd.isY (i := 3) (Wd.ext W (Ext.new _ _)) rfl | exact Wd.isY (i := 4) (Wd.ext W (Ext.new _ _)) rfl | exact Wd.isY (i := 5) (Wd.ext W (Ext.new _ _)) rfl | exact Wd.isY (i := 6) (Wd.ext W (Ext.new _ _)) rfl | exact Wd.isY (i := 7) (Wd.ext W (Ext.new _ _)) rfl | exact Wd.isY (i := 0) (Wd.ext (Wd.ext W (Ext.new _ _)) (Ext.new _ _)) rfl | exact Wd.isY (i := 1) (Wd.ext (Wd.ext W (Ext.new _ _)) (Ext.new _ _)) rfl | exact Wd.isY (i := 2) (Wd.ext (Wd.ext W (Ext.new _ _)) (Ext.new _ _)) rfl | exact Wd.isY (i := 3) (Wd.ext (Wd.ext W (Ext.new _ _)) (Ext.new _ _)) rfl | exact Wd.isY (i := 4) (Wd.ext (Wd.ext W (Ext.new _ _)) (Ext.new _ _)) rfl | exact Wd.isY (i := 5) (Wd.ext (Wd.ext W (Ext.new _ _)) (Ext.new _ _)) rfl | exact Wd.isY (i := 6) (Wd.ext (Wd.ext W (Ext.new _ _)) (Ext.new _ _)) rfl | exact Wd.isY (i := 7) (Wd.ext (Wd.ext W (Ext.new _ _)) (Ext.new _ _)) rfl | exact Wd.ob (i := 0) W rfl | exact Wd.ob (i := 1) W rfl | exact Wd.ob (i := 2) W rfl | exact Wd.ob (i := 3) W rfl | exact Wd.ob (i := 4) W rfl | exact Wd.ob (i := 5) W rfl | exact Wd.ob (i := 6) W rfl | exact Wd.ob (i := 7) W rfl | exact Wd.ob (i := 0) (Wd.ext W (Ext.new _ _)) rfl | exact Wd.ob (i := 1) (Wd.ext W (Ext.new _ _)) rfl | exact Wd.ob (i := 2) (Wd.ext W (Ext.new _ _)) rfl | exact Wd.ob (i := 3) (Wd.ext W (Ext.new _ _)) rfl | exact Wd.ob (i := 4) (Wd.ext W (Ext.new _ _)) rfl | exact Wd.ob (i := 5) (Wd.ext W (Ext.new _ _)) rfl | exact Wd.ob (i := 6) (Wd.ext W (Ext.new _ _)) rfl | exact Wd.ob (i := 7) (Wd.ext W (Ext.new _ _)) rfl | exact Wd.ob (i := 0) (Wd.ext (Wd.ext W (Ext.new _ _)) (Ext.new _ _)) rfl | exact Wd.ob (i := 1) (Wd.ext (Wd.ext W (Ext.new _ _)) (Ext.new _ _)) rfl | exact Wd.ob (i := 2) (Wd.ext (Wd.ext W (Ext.new _ _)) (Ext.new _ _)) rfl | exact Wd.ob (i := 3) (Wd.ext (Wd.ext W (Ext.new _ _)) (Ext.new _ _)) rfl | exact Wd.ob (i := 4) (Wd.ext (Wd.ext W (Ext.new _ _)) (Ext.new _ _)) rfl | exact Wd.ob (i := 5) (Wd.ext (Wd.ext W (Ext.new _ _)) (Ext.new _ _)) rfl | exact Wd.ob (i := 6) (Wd.ext (Wd.ext W (Ext.new _ _)) (Ext.new _ _)) rfl | exact Wd.ob (i := 7) (Wd.ext (Wd.ext W (Ext.new _ _)) (Ext.new _ _)) rfl | exact Wd.isL (i := 0) W rfl | exact Wd.isL (i := 1) W rfl | exact Wd.isL (i := 2) W rfl | exact Wd.isL (i := 3) W rfl | exact Wd.isL (i := 4) W rfl | exact Wd.isL (i := 5) W rfl | exact Wd.isL (i := 6) W rfl | exact Wd.isL (i := 7) W rfl | exact Wd.isL (i := 0) (Wd.ext W (Ext.new _ _)) rfl | exact Wd.isL (i := 1) (Wd.ext W (Ext.new _ _)) rfl | exact Wd.isL (i := 2) (Wd.ext W (Ext.new _ _)) rfl | exact Wd.isL (i := 3) (Wd.ext W (Ext.new _ _)) rfl | exact Wd.isL (i := 4) (Wd.ext W (Ext.new _ _)) rfl | exact Wd.isL (i := 5) (Wd.ext W (Ext.new _ _)) rfl | exact Wd.isL (i := 6) (Wd.ext W (Ext.new _ _)) rfl | exact Wd.isL (i := 7) (Wd.ext W (Ext.new _ _)) rfl | exact Wd.isL (i := 0) (Wd.ext (Wd.ext W (Ext.new _ _)) (Ext.new _ _)) rfl | exact Wd.isL (i := 1) (Wd.ext (Wd.ext W (Ext.new _ _)) (Ext.new _ _)) rfl | exact Wd.isL (i := 2) (Wd.ext (Wd.ext W (Ext.new _ _)) (Ext.new _ _)) rfl | exact Wd.isL (i := 3) (Wd.ext (Wd.ext W (Ext.new _ _)) (Ext.new _ _)) rfl | exact Wd.isL (i := 4) (Wd.ext (Wd.ext W (Ext.new _ _)) (Ext.new _ _)) rfl | exact Wd.isL (i := 5) (Wd.ext (Wd.ext W (Ext.new _ _)) (Ext.new _ _)) rfl | exact Wd.isL (i := 6) (Wd.ext (Wd.ext W (Ext.new _ _)) (Ext.new _ _)) rfl | exact Wd.isL (i := 7) (Wd.ext (Wd.ext W (Ext.new _ _)) (Ext.new _ _)) rfl | exact Wd.isD (i := 0) W rfl | exact Wd.isD (i := 1) W rfl | exact Wd.isD (i := 2) W rfl | exact Wd.isD (i := 3) W rfl | exact Wd.isD (i := 4) W rfl | exact Wd.isD (i := 5) W rfl | exact Wd.isD (i := 6) W rfl | exact Wd.isD (i := 7) W rfl | exact Wd.isD (i := 0) (Wd.ext W (Ext.new _ _)) rfl | exact Wd.isD (i := 1) (Wd.ext W (Ext.new _ _)) rfl | exact Wd.isD (i := 2) (Wd.ext W (Ext.new _ _)) rfl | exact Wd.isD (i := 3) (Wd.ext W (Ext.new _ _)) rfl | exact Wd.isD (i := 4) (Wd.ext W (Ext.new _ _)) rfl | exact Wd.isD (i := 5) (Wd.ext W (Ext.new _ _)) rfl | exact Wd.isD (i := 6) (Wd.ext W (Ext.new _ _)) rfl | exact Wd.isD (i := 7) (Wd.ext W (Ext.new _ _)) rfl | exact Wd.isD (i := 0) (Wd.ext (Wd.ext W (Ext.new _ _)) (Ext.new _ _)) rfl | exact Wd.isD (i := 1) (Wd.ext (Wd.ext W (Ext.new _ _)) (Ext.new _ _)) rfl | exact Wd.isD (i := 2) (Wd.ext (Wd.ext W (Ext.new _ _)) (Ext.new _ _)) rfl | exact Wd.isD (i := 3) (Wd.ext (Wd.ext W (Ext.new _ _)) (Ext.new _ _)) rfl | exact Wd.isD (i := 4) (Wd.ext (Wd.ext W (Ext.new _ _)) (Ext.new _ _)) rfl | exact Wd.isD (i := 5) (Wd.ext (Wd.ext W (Ext.new _ _)) (Ext.new _ _)) rfl | exact Wd.isD (i := 6) (Wd.ext (Wd.ext W (Ext.new _ _)) (Ext.new _ _)) rfl | exact Wd.isD (i := 7) (Wd.ext (Wd.ext W (Ext.new _ _)) (Ext.new _ _)) rfl | exact Wd.isO (i := 0) W rfl | exact Wd.isO (i := 1) W rfl | exact Wd.isO (i := 2) W rfl | exact Wd.isO (i := 3) W rfl | exact Wd.isO (i := 4) W rfl | exact Wd.isO (i := 5) W rfl | exact Wd.isO (i := 6) W rfl | exact Wd.isO (i := 7) W rfl | exact Wd.isO (i := 0) (Wd.ext W (Ext.new _ _)) rfl | exact Wd.isO (i := 1) (Wd.ext W (Ext.new _ _)) rfl | exact Wd.isO (i := 2) (Wd.ext W (Ext.new _ _)) rfl | exact Wd.isO (i := 3) (Wd.ext W (Ext.new _ _)) rfl | exact Wd.isO (i := 4) (Wd.ext W (Ext.new _ _)) rfl | exact Wd.isO (i := 5) (Wd.ext W (Ext.new _ _)) rfl | exact Wd.isO (i := 6) (Wd.ext W (Ext.new _ _)) rfl | exact Wd.isO (i := 7) (Wd.ext W (Ext.new _ _)) rfl | exact Wd.isO (i := 0) (Wd.ext (Wd.ext W (Ext.new _ _)) (Ext.new _ _)) rfl | exact Wd.isO (i := 1) (Wd.ext (Wd.ext W (Ext.new _ _)) (Ext.new _ _)) rfl | exact Wd.isO (i := 2) (Wd.ext (Wd.ext W (Ext.new _ _)) (Ext.new _ _)) rfl | exact Wd.isO (i := 3) (Wd.ext (Wd.ext W (Ext.new _ _)) (Ext.new _ _)) rfl | exact Wd.isO (i := 4) (Wd.ext (Wd.ext W (Ext.new _ _)) (Ext.new _ _)) rfl | exact Wd.isO (i := 5) (Wd.ext (Wd.ext W (Ext.new _ _)) (Ext.new _ _)) rfl | exact Wd.isO (i := 6) (Wd.ext (Wd.ext W (Ext.new _ _)) (Ext.new _ _)) rfl | exact Wd.isO (i := 7) (Wd.ext (Wd.ext W (Ext.new _ _)) (Ext.new _ _)) rfl | decide | (refine lim_le ?_; omega) | (refine lim_lt ?_; omega) | (refine smf_l ?_ ?_ <;> omega) | (refine smf_r ?_ ?_ <;> omega))) [methR_eq .c_Yard, methRK_eq .c_Yard, op_mod', op_fdiv', op_mul', bindT, bindTs, walk_r1, walk_r2, wpE_tup, wpE_lst, sliI_e, tyR_lst, mthR_lst, mthR_dct, it_0, it_1, it_2, mthTy, isTy, wpS_ite, l_passing (P := P) (by first | exact Has.sub LP.has (by simp [U]; done) (by simp [M]; done) | exact Has.fn LP.has _ (by simp [U]; done)) hk hm.1, eq_kstop hk, c0, eo]
      refine w_run (by first | exact Has.sub LP.has (by simp [U]; done) (by simp [M]; done) | exact Has.fn LP.has _ (by simp [U]; done)) W 1 rfl (fun j => if j = 0 then S2 else YS.stepped S2 0 (dr l 5 % n) s (pas k (dr l 5 % n) s).2 (.tup [.int (o + 1), .int (dr l 2 % 2)])) rfl 1 (fun j hj => ?_) (.inl (Int.le_refl _)) (.inl (Int.le_refl _)) (by decide) (by rw [htr]; exact Nat.succ_lt_succ (Nat.zero_lt_succ _)) (by rw [hrg]; exact Nat.succ_lt_succ (Nat.zero_lt_succ _)) fun h W => ?_
      · have : j = 0 := by omega
        subst this
        exact ⟨_, _, _, _, _, _, _, ⟨hat, R.k0, hk, hm.1, hm.2, sd, h3, eo2, mo, by have := R.sl; simp [LIM]; omega⟩, rfl⟩
      obtain ⟨S3, hS3⟩ : ∃ S3 : YS, S3 = S2.stepped 0 (dr l 5 % n) s (pas k (dr l 5 % n) s).2 (.tup [.int (o + 1), .int (dr l 2 % 2)]) := ⟨_, rfl⟩
      have W : Wd h [.ob 2 (.lst (l.map .int)), .yard y S3] := by rw [hS3]; exact W
      have at3 : S3.at_ = .tup [.int (o + 1), .int (dr l 2 % 2)] := by rw [hS3]; rfl
      have tr3 : S3.trail.length = 1 := by rw [hS3]; show (S2.trail ++ [_]).length = 1; rw [htr]; rfl
      have r0 : 0 ≤ dr l 2 % 2 ∧ dr l 2 % 2 < 2 := by omega
      -- the second point
      have sec : n = 3 → callD P 8 .d_Yard_rod [.ref y, .int 4] h = .ok (.int 0) h ∧ callD P 8 .d_Yard_side [.ref y, .int 0] h = .ok (.int (pas k (dr l 5 % n) s).2) h := fun c => by
        obtain ⟨q1, q2, q3⟩ := R.p4 c
        refine ⟨w_rod (by first | exact Has.sub LP.has (by simp [U]; done) (by simp [M]; done) | exact Has.fn LP.has _ (by simp [U]; done)) W 1 rfl (by rw [hS3]; exact q1) (by rw [hS3]; exact q2), w_side (by first | exact Has.sub LP.has (by simp [U]; done) (by simp [M]; done) | exact Has.fn LP.has _ (by simp [U]; done)) W 1 rfl ?_⟩
        rw [hS3]
        show dlook (S2.sideTo 0 _) _ = _
        unfold YS.sideTo
        rw [q3]
        show dlook (dput _ _ _) _ = _
        rw [dlook_put, if_pos rfl]
      have hel : ∀ (h : AH) (L : List Th), Wd h L → L[1]? = some (.yard y S3) → callD P 8 .d_held [.ref y] h = .ok (.str [108, 111, 111, 115, 101]) h := by
        intro h L W hi
        rw [w_held (P := P) (d := 4) (by first | exact Has.sub LP.has (by simp [U]; done) (by simp [M]; done) | exact Has.fn LP.has _ (by simp [U]; done)) W 1 hi at3 (k := kLine) (n := 2) (s := 0) (by rw [hS3]; exact R.kl _ (by omega) (by omega)) .line r0.1 r0.2 (by
          rw [hS3]; unfold YS.sideAt
          show match dlook S2.rod _ with | some r => _ | none => _
          rw [R.so _ (by omega) (by omega)]) (fun z => by omega)]
        have e1 : (pas kLine (dr l 2 % 2) 0).1 = .int (1 - dr l 2 % 2) := by simp [pas]
        have e2 : dlook S3.mate (.tup [.int (o + 1), .int (1 - dr l 2 % 2)]) = none := by
          rw [hS3]; show dlook S2.mate _ = _
          rw [R.mt, if_neg (by omega), if_neg (by omega)]
        rw [e1]
        simp [heldV, e2]
      have pp : n = 3 → (pas k (dr l 5 % n) (1 + dr l 3 % 2)).2 = (pas k (dr l 5 % n) s).2 := fun c => by rw [es, if_pos c]
      simp (disch := (first | assumption | omega | exact new_at _ _ | exact isL_new | exact Wd.isY (i := 0) W rfl | exact Wd.isY (i := 1) W rfl | exact Wd.isY (i := 2) W rfl | exact Wd.isY (i := 3) W rfl | exact Wd.isY (i := 4) W rfl | exact Wd.isY (i := 5) W rfl | exact Wd.isY (i := 6) W rfl | exact Wd.isY (i := 7) W rfl | exact Wd.isY (i := 0) (Wd.ext W (Ext.new _ _)) rfl | exact Wd.isY (i := 1) (Wd.ext W (Ext.new _ _)) rfl | exact Wd.isY (i := 2) (Wd.ext W (Ext.new _ _)) rfl | exact Wd.isY (i := 3) (Wd.ext W (Ext.new _ _)) rfl | exact Wd.isY (i := 4) (Wd.ext W (Ext.new _ _)) rfl | exact Wd.isY (i := 5) (Wd.ext W (Ext.new _ _)) rfl | exact Wd.isY (i := 6) (Wd.ext W (Ext.new _ _)) rfl | exact Wd.isY (i := 7) (Wd.ext W (Ext.new _ _)) rfl | exact Wd.isY (i := 0) (Wd.ext (Wd.ext W (Ext.new _ _)) (Ext.new _ _)) rfl | exact Wd.isY (i := 1) (Wd.ext (Wd.ext W (Ext.new _ _)) (Ext.new _ _)) rfl | exact Wd.isY (i := 2) (Wd.ext (Wd.ext W (Ext.new _ _)) (Ext.new _ _)) rfl | exact Wd.isY (i := 3) (Wd.ext (Wd.ext W (Ext.new _ _)) (Ext.new _ _)) rfl | exact Wd.isY (i := 4) (Wd.ext (Wd.ext W (Ext.new _ _)) (Ext.new _ _)) rfl | exact Wd.isY (i := 5) (Wd.ext (Wd.ext W (Ext.new _ _)) (Ext.new _ _)) rfl | exact Wd.isY (i := 6) (Wd.ext (Wd.ext W (Ext.new _ _)) (Ext.new _ _)) rfl | exact Wd.isY (i := 7) (Wd.ext (Wd.ext W (Ext.new _ _)) (Ext.new _ _)) rfl | exact Wd.ob (i := 0) W rfl | exact Wd.ob (i := 1) W rfl | exact Wd.ob (i := 2) W rfl | exact Wd.ob (i := 3) W rfl | exact Wd.ob (i := 4) W rfl | exact Wd.ob (i := 5) W rfl | exact Wd.ob (i := 6) W rfl | exact Wd.ob (i := 7) W rfl | exact Wd.ob (i := 0) (Wd.ext W (Ext.new _ _)) rfl | exact Wd.ob (i := 1) (Wd.ext W (Ext.new _ _)) rfl | exact Wd.ob (i := 2) (Wd.ext W (Ext.new _ _)) rfl | exact Wd.ob (i := 3) (Wd.ext W (Ext.new _ _)) rfl | exact Wd.ob (i := 4) (Wd.ext W (Ext.new _ _)) rfl | exact Wd.ob (i := 5) (Wd.ext W (Ext.new _ _)) rfl | exact Wd.ob (i := 6) (Wd.ext W (Ext.new _ _)) rfl | exact Wd.ob (i := 7) (Wd.ext W (Ext.new _ _)) rfl | exact Wd.ob (i := 0) (Wd.ext (Wd.ext W (Ext.new _ _)) (Ext.new _ _)) rfl | exact Wd.ob (i := 1) (Wd.ext (Wd.ext W (Ext.new _ _)) (Ext.new _ _)) rfl | exact Wd.ob (i := 2) (Wd.ext (Wd.ext W (Ext.new _ _)) (Ext.new _ _)) rfl | exact Wd.ob (i := 3) (Wd.ext (Wd.ext W (Ext.new _ _)) (Ext.new _ _)) rfl | exact Wd.ob (i := 4) (Wd.ext (Wd.ext W (Ext.new _ _)) (Ext.new _ _)) rfl | exact Wd.ob (i := 5) (Wd.ext (Wd.ext W (Ext.new _ _)) (Ext.new _ _)) rfl | exact Wd.ob (i := 6) (Wd.ext (Wd.ext W (Ext.new _ _)) (Ext.new _ _)) rfl | exact Wd.ob (i := 7) (Wd.ext (Wd.ext W (Ext.new _ _)) (Ext.new _ _)) rfl | exact Wd.isL (i := 0) W rfl | exact Wd.isL (i := 1) W rfl | exact Wd.isL (i := 2) W rfl | exact Wd.isL (i := 3) W rfl | exact Wd.isL (i := 4) W rfl | exact Wd.isL (i := 5) W rfl | exact Wd.isL (i := 6) W rfl | exact Wd.isL (i := 7) W rfl | exact Wd.isL (i := 0) (Wd.ext W (Ext.new _ _)) rfl | exact Wd.isL (i := 1) (Wd.ext W (Ext.new _ _)) rfl | exact Wd.isL (i := 2) (Wd.ext W (Ext.new _ _)) rfl | exact Wd.isL (i := 3) (Wd.ext W (Ext.new _ _)) rfl | exact Wd.isL (i := 4) (Wd.ext W (Ext.new _ _)) rfl | exact Wd.isL (i := 5) (Wd.ext W (Ext.new _ _)) rfl | exact Wd.isL (i := 6) (Wd.ext W (Ext.new _ _)) rfl | exact Wd.isL (i := 7) (Wd.ext W (Ext.new _ _)) rfl | exact Wd.isL (i := 0) (Wd.ext (Wd.ext W (Ext.new _ _)) (Ext.new _ _)) rfl | exact Wd.isL (i := 1) (Wd.ext (Wd.ext W (Ext.new _ _)) (Ext.new _ _)) rfl | exact Wd.isL (i := 2) (Wd.ext (Wd.ext W (Ext.new _ _)) (Ext.new _ _)) rfl | exact Wd.isL (i := 3) (Wd.ext (Wd.ext W (Ext.new _ _)) (Ext.new _ _)) rfl | exact Wd.isL (i := 4) (Wd.ext (Wd.ext W (Ext.new _ _)) (Ext.new _ _)) rfl | exact Wd.isL (i := 5) (Wd.ext (Wd.ext W (Ext.new _ _)) (Ext.new _ _)) rfl | exact Wd.isL (i := 6) (Wd.ext (Wd.ext W (Ext.new _ _)) (Ext.new _ _)) rfl | exact Wd.isL (i := 7) (Wd.ext (Wd.ext W (Ext.new _ _)) (Ext.new _ _)) rfl | exact Wd.isD (i := 0) W rfl | exact Wd.isD (i := 1) W rfl | exact Wd.isD (i := 2) W rfl | exact Wd.isD (i := 3) W rfl | exact Wd.isD (i := 4) W rfl | exact Wd.isD (i := 5) W rfl | exact Wd.isD (i := 6) W rfl | exact Wd.isD (i := 7) W rfl | exact Wd.isD (i := 0) (Wd.ext W (Ext.new _ _)) rfl | exact Wd.isD (i := 1) (Wd.ext W (Ext.new _ _)) rfl | exact Wd.isD (i := 2) (Wd.ext W (Ext.new _ _)) rfl | exact Wd.isD (i := 3) (Wd.ext W (Ext.new _ _)) rfl | exact Wd.isD (i := 4) (Wd.ext W (Ext.new _ _)) rfl | exact Wd.isD (i := 5) (Wd.ext W (Ext.new _ _)) rfl | exact Wd.isD (i := 6) (Wd.ext W (Ext.new _ _)) rfl | exact Wd.isD (i := 7) (Wd.ext W (Ext.new _ _)) rfl | exact Wd.isD (i := 0) (Wd.ext (Wd.ext W (Ext.new _ _)) (Ext.new _ _)) rfl | exact Wd.isD (i := 1) (Wd.ext (Wd.ext W (Ext.new _ _)) (Ext.new _ _)) rfl | exact Wd.isD (i := 2) (Wd.ext (Wd.ext W (Ext.new _ _)) (Ext.new _ _)) rfl | exact Wd.isD (i := 3) (Wd.ext (Wd.ext W (Ext.new _ _)) (Ext.new _ _)) rfl | exact Wd.isD (i := 4) (Wd.ext (Wd.ext W (Ext.new _ _)) (Ext.new _ _)) rfl | exact Wd.isD (i := 5) (Wd.ext (Wd.ext W (Ext.new _ _)) (Ext.new _ _)) rfl | exact Wd.isD (i := 6) (Wd.ext (Wd.ext W (Ext.new _ _)) (Ext.new _ _)) rfl | exact Wd.isD (i := 7) (Wd.ext (Wd.ext W (Ext.new _ _)) (Ext.new _ _)) rfl | exact Wd.isO (i := 0) W rfl | exact Wd.isO (i := 1) W rfl | exact Wd.isO (i := 2) W rfl | exact Wd.isO (i := 3) W rfl | exact Wd.isO (i := 4) W rfl | exact Wd.isO (i := 5) W rfl | exact Wd.isO (i := 6) W rfl | exact Wd.isO (i := 7) W rfl | exact Wd.isO (i := 0) (Wd.ext W (Ext.new _ _)) rfl | exact Wd.isO (i := 1) (Wd.ext W (Ext.new _ _)) rfl | exact Wd.isO (i := 2) (Wd.ext W (Ext.new _ _)) rfl | exact Wd.isO (i := 3) (Wd.ext W (Ext.new _ _)) rfl | exact Wd.isO (i := 4) (Wd.ext W (Ext.new _ _)) rfl | exact Wd.isO (i := 5) (Wd.ext W (Ext.new _ _)) rfl | exact Wd.isO (i := 6) (Wd.ext W (Ext.new _ _)) rfl | exact Wd.isO (i := 7) (Wd.ext W (Ext.new _ _)) rfl | exact Wd.isO (i := 0) (Wd.ext (Wd.ext W (Ext.new _ _)) (Ext.new _ _)) rfl | exact Wd.isO (i := 1) (Wd.ext (Wd.ext W (Ext.new _ _)) (Ext.new _ _)) rfl | exact Wd.isO (i := 2) (Wd.ext (Wd.ext W (Ext.new _ _)) (Ext.new _ _)) rfl | exact Wd.isO (i := 3) (Wd.ext (Wd.ext W (Ext.new _ _)) (Ext.new _ _)) rfl | exact Wd.isO (i := 4) (Wd.ext (Wd.ext W (Ext.new _ _)) (Ext.new _ _)) rfl | exact Wd.isO (i := 5) (Wd.ext (Wd.ext W (Ext.new _ _)) (Ext.new _ _)) rfl | exact Wd.isO (i := 6) (Wd.ext (Wd.ext W (Ext.new _ _)) (Ext.new _ _)) rfl | exact Wd.isO (i := 7) (Wd.ext (Wd.ext W (Ext.new _ _)) (Ext.new _ _)) rfl | decide | (refine lim_le ?_; omega) | (refine lim_lt ?_; omega) | (refine smf_l ?_ ?_ <;> omega) | (refine smf_r ?_ ?_ <;> omega))) [methR_eq .c_Yard, methRK_eq .c_Yard, op_mod', op_fdiv', op_mul', bindT, bindTs, walk_r1, walk_r2, wpE_tup, wpE_lst, sliI_e, tyR_lst, mthR_lst, mthR_dct, it_0, it_1, it_2, mthTy, isTy, l_is (P := P) (by first | exact Has.sub LP.has (by simp [U]; done) (by simp [M]; done) | exact Has.fn LP.has _ (by simp [U]; done)), w_engine (P := P) (by first | exact Has.sub LP.has (by simp [U]; done) (by simp [M]; done) | exact Has.fn LP.has _ (by simp [U]; done)) W 1 rfl, l_end_eq (P := P) (by first | exact Has.sub LP.has (by simp [U]; done) (by simp [M]; done) | exact Has.fn LP.has _ (by simp [U]; done)), item_dr hl, at3, show (o + 1 = 1 + o) = True from by simp; omega]
      refine wp_cut (fun σ h' => h' = h ∧ σ = [some (.rl (ns.map .int)), some (.ref 2), some (.str k), some (.int (dr l 1 % 10000)), some (.int n), some (.ref y), c6, c7, some (.int (1 + dr l 3 % 2)), some (.tup [.int 0, .int (dr l 5 % n)]), some (.int o), some (.int (pas k (dr l 5 % n) (1 + dr l 3 % 2)).2), none]) ?_ fun σ h' => ?_
      · by_cases c : n = 3
        · simp (disch := (first | assumption | omega | exact new_at _ _ | exact isL_new | exact Wd.isY (i := 0) W rfl | exact Wd.isY (i := 1) W rfl | exact Wd.isY (i := 2) W rfl | exact Wd.isY (i := 3) W rfl | exact Wd.isY (i := 4) W rfl | exact Wd.isY (i := 5) W rfl | exact Wd.isY (i := 6) W rfl | exact Wd.isY (i := 7) W rfl | exact Wd.isY (i := 0) (Wd.ext W (Ext.new _ _)) rfl | exact Wd.isY (i := 1) (Wd.ext W (Ext.new _ _)) rfl | exact Wd.isY (i := 2) (Wd.ext W (Ext.new _ _)) rfl | exact Wd.isY (i := 3) (Wd.ext W (Ext.new _ _)) rfl | exact Wd.isY (i := 4) (Wd.ext W (Ext.new _ _)) rfl | exact Wd.isY (i := 5) (Wd.ext W (Ext.new _ _)) rfl | exact Wd.isY (i := 6) (Wd.ext W (Ext.new _ _)) rfl | exact Wd.isY (i := 7) (Wd.ext W (Ext.new _ _)) rfl | exact Wd.isY (i := 0) (Wd.ext (Wd.ext W (Ext.new _ _)) (Ext.new _ _)) rfl | exact Wd.isY (i := 1) (Wd.ext (Wd.ext W (Ext.new _ _)) (Ext.new _ _)) rfl | exact Wd.isY (i := 2) (Wd.ext (Wd.ext W (Ext.new _ _)) (Ext.new _ _)) rfl | exact Wd.isY (i := 3) (Wd.ext (Wd.ext W (Ext.new _ _)) (Ext.new _ _)) rfl | exact Wd.isY (i := 4) (Wd.ext (Wd.ext W (Ext.new _ _)) (Ext.new _ _)) rfl | exact Wd.isY (i := 5) (Wd.ext (Wd.ext W (Ext.new _ _)) (Ext.new _ _)) rfl | exact Wd.isY (i := 6) (Wd.ext (Wd.ext W (Ext.new _ _)) (Ext.new _ _)) rfl | exact Wd.isY (i := 7) (Wd.ext (Wd.ext W (Ext.new _ _)) (Ext.new _ _)) rfl | exact Wd.ob (i := 0) W rfl | exact Wd.ob (i := 1) W rfl | exact Wd.ob (i := 2) W rfl | exact Wd.ob (i := 3) W rfl | exact Wd.ob (i := 4) W rfl | exact Wd.ob (i := 5) W rfl | exact Wd.ob (i := 6) W rfl | exact Wd.ob (i := 7) W rfl | exact Wd.ob (i := 0) (Wd.ext W (Ext.new _ _)) rfl | exact Wd.ob (i := 1) (Wd.ext W (Ext.new _ _)) rfl | exact Wd.ob (i := 2) (Wd.ext W (Ext.new _ _)) rfl | exact Wd.ob (i := 3) (Wd.ext W (Ext.new _ _)) rfl | exact Wd.ob (i := 4) (Wd.ext W (Ext.new _ _)) rfl | exact Wd.ob (i := 5) (Wd.ext W (Ext.new _ _)) rfl | exact Wd.ob (i := 6) (Wd.ext W (Ext.new _ _)) rfl | exact Wd.ob (i := 7) (Wd.ext W (Ext.new _ _)) rfl | exact Wd.ob (i := 0) (Wd.ext (Wd.ext W (Ext.new _ _)) (Ext.new _ _)) rfl | exact Wd.ob (i := 1) (Wd.ext (Wd.ext W (Ext.new _ _)) (Ext.new _ _)) rfl | exact Wd.ob (i := 2) (Wd.ext (Wd.ext W (Ext.new _ _)) (Ext.new _ _)) rfl | exact Wd.ob (i := 3) (Wd.ext (Wd.ext W (Ext.new _ _)) (Ext.new _ _)) rfl | exact Wd.ob (i := 4) (Wd.ext (Wd.ext W (Ext.new _ _)) (Ext.new _ _)) rfl | exact Wd.ob (i := 5) (Wd.ext (Wd.ext W (Ext.new _ _)) (Ext.new _ _)) rfl | exact Wd.ob (i := 6) (Wd.ext (Wd.ext W (Ext.new _ _)) (Ext.new _ _)) rfl | exact Wd.ob (i := 7) (Wd.ext (Wd.ext W (Ext.new _ _)) (Ext.new _ _)) rfl | exact Wd.isL (i := 0) W rfl | exact Wd.isL (i := 1) W rfl | exact Wd.isL (i := 2) W rfl | exact Wd.isL (i := 3) W rfl | exact Wd.isL (i := 4) W rfl | exact Wd.isL (i := 5) W rfl | exact Wd.isL (i := 6) W rfl | exact Wd.isL (i := 7) W rfl | exact Wd.isL (i := 0) (Wd.ext W (Ext.new _ _)) rfl | exact Wd.isL (i := 1) (Wd.ext W (Ext.new _ _)) rfl | exact Wd.isL (i := 2) (Wd.ext W (Ext.new _ _)) rfl | exact Wd.isL (i := 3) (Wd.ext W (Ext.new _ _)) rfl | exact Wd.isL (i := 4) (Wd.ext W (Ext.new _ _)) rfl | exact Wd.isL (i := 5) (Wd.ext W (Ext.new _ _)) rfl | exact Wd.isL (i := 6) (Wd.ext W (Ext.new _ _)) rfl | exact Wd.isL (i := 7) (Wd.ext W (Ext.new _ _)) rfl | exact Wd.isL (i := 0) (Wd.ext (Wd.ext W (Ext.new _ _)) (Ext.new _ _)) rfl | exact Wd.isL (i := 1) (Wd.ext (Wd.ext W (Ext.new _ _)) (Ext.new _ _)) rfl | exact Wd.isL (i := 2) (Wd.ext (Wd.ext W (Ext.new _ _)) (Ext.new _ _)) rfl | exact Wd.isL (i := 3) (Wd.ext (Wd.ext W (Ext.new _ _)) (Ext.new _ _)) rfl | exact Wd.isL (i := 4) (Wd.ext (Wd.ext W (Ext.new _ _)) (Ext.new _ _)) rfl | exact Wd.isL (i := 5) (Wd.ext (Wd.ext W (Ext.new _ _)) (Ext.new _ _)) rfl | exact Wd.isL (i := 6) (Wd.ext (Wd.ext W (Ext.new _ _)) (Ext.new _ _)) rfl | exact Wd.isL (i := 7) (Wd.ext (Wd.ext W (Ext.new _ _)) (Ext.new _ _)) rfl | exact Wd.isD (i := 0) W rfl | exact Wd.isD (i := 1) W rfl | exact Wd.isD (i := 2) W rfl | exact Wd.isD (i := 3) W rfl | exact Wd.isD (i := 4) W rfl | exact Wd.isD (i := 5) W rfl | exact Wd.isD (i := 6) W rfl | exact Wd.isD (i := 7) W rfl | exact Wd.isD (i := 0) (Wd.ext W (Ext.new _ _)) rfl | exact Wd.isD (i := 1) (Wd.ext W (Ext.new _ _)) rfl | exact Wd.isD (i := 2) (Wd.ext W (Ext.new _ _)) rfl | exact Wd.isD (i := 3) (Wd.ext W (Ext.new _ _)) rfl | exact Wd.isD (i := 4) (Wd.ext W (Ext.new _ _)) rfl | exact Wd.isD (i := 5) (Wd.ext W (Ext.new _ _)) rfl | exact Wd.isD (i := 6) (Wd.ext W (Ext.new _ _)) rfl | exact Wd.isD (i := 7) (Wd.ext W (Ext.new _ _)) rfl | exact Wd.isD (i := 0) (Wd.ext (Wd.ext W (Ext.new _ _)) (Ext.new _ _)) rfl | exact Wd.isD (i := 1) (Wd.ext (Wd.ext W (Ext.new _ _)) (Ext.new _ _)) rfl | exact Wd.isD (i := 2) (Wd.ext (Wd.ext W (Ext.new _ _)) (Ext.new _ _)) rfl | exact Wd.isD (i := 3) (Wd.ext (Wd.ext W (Ext.new _ _)) (Ext.new _ _)) rfl | exact Wd.isD (i := 4) (Wd.ext (Wd.ext W (Ext.new _ _)) (Ext.new _ _)) rfl | exact Wd.isD (i := 5) (Wd.ext (Wd.ext W (Ext.new _ _)) (Ext.new _ _)) rfl | exact Wd.isD (i := 6) (Wd.ext (Wd.ext W (Ext.new _ _)) (Ext.new _ _)) rfl | exact Wd.isD (i := 7) (Wd.ext (Wd.ext W (Ext.new _ _)) (Ext.new _ _)) rfl | exact Wd.isO (i := 0) W rfl | exact Wd.isO (i := 1) W rfl | exact Wd.isO (i := 2) W rfl | exact Wd.isO (i := 3) W rfl | exact Wd.isO (i := 4) W rfl | exact Wd.isO (i := 5) W rfl | exact Wd.isO (i := 6) W rfl | exact Wd.isO (i := 7) W rfl | exact Wd.isO (i := 0) (Wd.ext W (Ext.new _ _)) rfl | exact Wd.isO (i := 1) (Wd.ext W (Ext.new _ _)) rfl | exact Wd.isO (i := 2) (Wd.ext W (Ext.new _ _)) rfl | exact Wd.isO (i := 3) (Wd.ext W (Ext.new _ _)) rfl | exact Wd.isO (i := 4) (Wd.ext W (Ext.new _ _)) rfl | exact Wd.isO (i := 5) (Wd.ext W (Ext.new _ _)) rfl | exact Wd.isO (i := 6) (Wd.ext W (Ext.new _ _)) rfl | exact Wd.isO (i := 7) (Wd.ext W (Ext.new _ _)) rfl | exact Wd.isO (i := 0) (Wd.ext (Wd.ext W (Ext.new _ _)) (Ext.new _ _)) rfl | exact Wd.isO (i := 1) (Wd.ext (Wd.ext W (Ext.new _ _)) (Ext.new _ _)) rfl | exact Wd.isO (i := 2) (Wd.ext (Wd.ext W (Ext.new _ _)) (Ext.new _ _)) rfl | exact Wd.isO (i := 3) (Wd.ext (Wd.ext W (Ext.new _ _)) (Ext.new _ _)) rfl | exact Wd.isO (i := 4) (Wd.ext (Wd.ext W (Ext.new _ _)) (Ext.new _ _)) rfl | exact Wd.isO (i := 5) (Wd.ext (Wd.ext W (Ext.new _ _)) (Ext.new _ _)) rfl | exact Wd.isO (i := 6) (Wd.ext (Wd.ext W (Ext.new _ _)) (Ext.new _ _)) rfl | exact Wd.isO (i := 7) (Wd.ext (Wd.ext W (Ext.new _ _)) (Ext.new _ _)) rfl | decide | (refine lim_le ?_; omega) | (refine lim_lt ?_; omega) | (refine smf_l ?_ ?_ <;> omega) | (refine smf_r ?_ ?_ <;> omega))) [methR_eq .c_Yard, methRK_eq .c_Yard, op_mod', op_fdiv', op_mul', bindT, bindTs, walk_r1, walk_r2, wpE_tup, wpE_lst, sliI_e, tyR_lst, mthR_lst, mthR_dct, it_0, it_1, it_2, mthTy, isTy, wpS_ite, decide_eq_true c, (sec c).1, (sec c).2, l_is (P := P) (by first | exact Has.sub LP.has (by simp [U]; done) (by simp [M]; done) | exact Has.fn LP.has _ (by simp [U]; done)), pp c]
        · simp (disch := (first | assumption | omega | exact new_at _ _ | exact isL_new | exact Wd.isY (i := 0) W rfl | exact Wd.isY (i := 1) W rfl | exact Wd.isY (i := 2) W rfl | exact Wd.isY (i := 3) W rfl | exact Wd.isY (i := 4) W rfl | exact Wd.isY (i := 5) W rfl | exact Wd.isY (i := 6) W rfl | exact Wd.isY (i := 7) W rfl | exact Wd.isY (i := 0) (Wd.ext W (Ext.new _ _)) rfl | exact Wd.isY (i := 1) (Wd.ext W (Ext.new _ _)) rfl | exact Wd.isY (i := 2) (Wd.ext W (Ext.new _ _)) rfl | exact Wd.isY (i := 3) (Wd.ext W (Ext.new _ _)) rfl | exact Wd.isY (i := 4) (Wd.ext W (Ext.new _ _)) rfl | exact Wd.isY (i := 5) (Wd.ext W (Ext.new _ _)) rfl | exact Wd.isY (i := 6) (Wd.ext W (Ext.new _ _)) rfl | exact Wd.isY (i := 7) (Wd.ext W (Ext.new _ _)) rfl | exact Wd.isY (i := 0) (Wd.ext (Wd.ext W (Ext.new _ _)) (Ext.new _ _)) rfl | exact Wd.isY (i := 1) (Wd.ext (Wd.ext W (Ext.new _ _)) (Ext.new _ _)) rfl | exact Wd.isY (i := 2) (Wd.ext (Wd.ext W (Ext.new _ _)) (Ext.new _ _)) rfl | exact Wd.isY (i := 3) (Wd.ext (Wd.ext W (Ext.new _ _)) (Ext.new _ _)) rfl | exact Wd.isY (i := 4) (Wd.ext (Wd.ext W (Ext.new _ _)) (Ext.new _ _)) rfl | exact Wd.isY (i := 5) (Wd.ext (Wd.ext W (Ext.new _ _)) (Ext.new _ _)) rfl | exact Wd.isY (i := 6) (Wd.ext (Wd.ext W (Ext.new _ _)) (Ext.new _ _)) rfl | exact Wd.isY (i := 7) (Wd.ext (Wd.ext W (Ext.new _ _)) (Ext.new _ _)) rfl | exact Wd.ob (i := 0) W rfl | exact Wd.ob (i := 1) W rfl | exact Wd.ob (i := 2) W rfl | exact Wd.ob (i := 3) W rfl | exact Wd.ob (i := 4) W rfl | exact Wd.ob (i := 5) W rfl | exact Wd.ob (i := 6) W rfl | exact Wd.ob (i := 7) W rfl | exact Wd.ob (i := 0) (Wd.ext W (Ext.new _ _)) rfl | exact Wd.ob (i := 1) (Wd.ext W (Ext.new _ _)) rfl | exact Wd.ob (i := 2) (Wd.ext W (Ext.new _ _)) rfl | exact Wd.ob (i := 3) (Wd.ext W (Ext.new _ _)) rfl | exact Wd.ob (i := 4) (Wd.ext W (Ext.new _ _)) rfl | exact Wd.ob (i := 5) (Wd.ext W (Ext.new _ _)) rfl | exact Wd.ob (i := 6) (Wd.ext W (Ext.new _ _)) rfl | exact Wd.ob (i := 7) (Wd.ext W (Ext.new _ _)) rfl | exact Wd.ob (i := 0) (Wd.ext (Wd.ext W (Ext.new _ _)) (Ext.new _ _)) rfl | exact Wd.ob (i := 1) (Wd.ext (Wd.ext W (Ext.new _ _)) (Ext.new _ _)) rfl | exact Wd.ob (i := 2) (Wd.ext (Wd.ext W (Ext.new _ _)) (Ext.new _ _)) rfl | exact Wd.ob (i := 3) (Wd.ext (Wd.ext W (Ext.new _ _)) (Ext.new _ _)) rfl | exact Wd.ob (i := 4) (Wd.ext (Wd.ext W (Ext.new _ _)) (Ext.new _ _)) rfl | exact Wd.ob (i := 5) (Wd.ext (Wd.ext W (Ext.new _ _)) (Ext.new _ _)) rfl | exact Wd.ob (i := 6) (Wd.ext (Wd.ext W (Ext.new _ _)) (Ext.new _ _)) rfl | exact Wd.ob (i := 7) (Wd.ext (Wd.ext W (Ext.new _ _)) (Ext.new _ _)) rfl | exact Wd.isL (i := 0) W rfl | exact Wd.isL (i := 1) W rfl | exact Wd.isL (i := 2) W rfl | exact Wd.isL (i := 3) W rfl | exact Wd.isL (i := 4) W rfl | exact Wd.isL (i := 5) W rfl | exact Wd.isL (i := 6) W rfl | exact Wd.isL (i := 7) W rfl | exact Wd.isL (i := 0) (Wd.ext W (Ext.new _ _)) rfl | exact Wd.isL (i := 1) (Wd.ext W (Ext.new _ _)) rfl | exact Wd.isL (i := 2) (Wd.ext W (Ext.new _ _)) rfl | exact Wd.isL (i := 3) (Wd.ext W (Ext.new _ _)) rfl | exact Wd.isL (i := 4) (Wd.ext W (Ext.new _ _)) rfl | exact Wd.isL (i := 5) (Wd.ext W (Ext.new _ _)) rfl | exact Wd.isL (i := 6) (Wd.ext W (Ext.new _ _)) rfl | exact Wd.isL (i := 7) (Wd.ext W (Ext.new _ _)) rfl | exact Wd.isL (i := 0) (Wd.ext (Wd.ext W (Ext.new _ _)) (Ext.new _ _)) rfl | exact Wd.isL (i := 1) (Wd.ext (Wd.ext W (Ext.new _ _)) (Ext.new _ _)) rfl | exact Wd.isL (i := 2) (Wd.ext (Wd.ext W (Ext.new _ _)) (Ext.new _ _)) rfl | exact Wd.isL (i := 3) (Wd.ext (Wd.ext W (Ext.new _ _)) (Ext.new _ _)) rfl | exact Wd.isL (i := 4) (Wd.ext (Wd.ext W (Ext.new _ _)) (Ext.new _ _)) rfl | exact Wd.isL (i := 5) (Wd.ext (Wd.ext W (Ext.new _ _)) (Ext.new _ _)) rfl | exact Wd.isL (i := 6) (Wd.ext (Wd.ext W (Ext.new _ _)) (Ext.new _ _)) rfl | exact Wd.isL (i := 7) (Wd.ext (Wd.ext W (Ext.new _ _)) (Ext.new _ _)) rfl | exact Wd.isD (i := 0) W rfl | exact Wd.isD (i := 1) W rfl | exact Wd.isD (i := 2) W rfl | exact Wd.isD (i := 3) W rfl | exact Wd.isD (i := 4) W rfl | exact Wd.isD (i := 5) W rfl | exact Wd.isD (i := 6) W rfl | exact Wd.isD (i := 7) W rfl | exact Wd.isD (i := 0) (Wd.ext W (Ext.new _ _)) rfl | exact Wd.isD (i := 1) (Wd.ext W (Ext.new _ _)) rfl | exact Wd.isD (i := 2) (Wd.ext W (Ext.new _ _)) rfl | exact Wd.isD (i := 3) (Wd.ext W (Ext.new _ _)) rfl | exact Wd.isD (i := 4) (Wd.ext W (Ext.new _ _)) rfl | exact Wd.isD (i := 5) (Wd.ext W (Ext.new _ _)) rfl | exact Wd.isD (i := 6) (Wd.ext W (Ext.new _ _)) rfl | exact Wd.isD (i := 7) (Wd.ext W (Ext.new _ _)) rfl | exact Wd.isD (i := 0) (Wd.ext (Wd.ext W (Ext.new _ _)) (Ext.new _ _)) rfl | exact Wd.isD (i := 1) (Wd.ext (Wd.ext W (Ext.new _ _)) (Ext.new _ _)) rfl | exact Wd.isD (i := 2) (Wd.ext (Wd.ext W (Ext.new _ _)) (Ext.new _ _)) rfl | exact Wd.isD (i := 3) (Wd.ext (Wd.ext W (Ext.new _ _)) (Ext.new _ _)) rfl | exact Wd.isD (i := 4) (Wd.ext (Wd.ext W (Ext.new _ _)) (Ext.new _ _)) rfl | exact Wd.isD (i := 5) (Wd.ext (Wd.ext W (Ext.new _ _)) (Ext.new _ _)) rfl | exact Wd.isD (i := 6) (Wd.ext (Wd.ext W (Ext.new _ _)) (Ext.new _ _)) rfl | exact Wd.isD (i := 7) (Wd.ext (Wd.ext W (Ext.new _ _)) (Ext.new _ _)) rfl | exact Wd.isO (i := 0) W rfl | exact Wd.isO (i := 1) W rfl | exact Wd.isO (i := 2) W rfl | exact Wd.isO (i := 3) W rfl | exact Wd.isO (i := 4) W rfl | exact Wd.isO (i := 5) W rfl | exact Wd.isO (i := 6) W rfl | exact Wd.isO (i := 7) W rfl | exact Wd.isO (i := 0) (Wd.ext W (Ext.new _ _)) rfl | exact Wd.isO (i := 1) (Wd.ext W (Ext.new _ _)) rfl | exact Wd.isO (i := 2) (Wd.ext W (Ext.new _ _)) rfl | exact Wd.isO (i := 3) (Wd.ext W (Ext.new _ _)) rfl | exact Wd.isO (i := 4) (Wd.ext W (Ext.new _ _)) rfl | exact Wd.isO (i := 5) (Wd.ext W (Ext.new _ _)) rfl | exact Wd.isO (i := 6) (Wd.ext W (Ext.new _ _)) rfl | exact Wd.isO (i := 7) (Wd.ext W (Ext.new _ _)) rfl | exact Wd.isO (i := 0) (Wd.ext (Wd.ext W (Ext.new _ _)) (Ext.new _ _)) rfl | exact Wd.isO (i := 1) (Wd.ext (Wd.ext W (Ext.new _ _)) (Ext.new _ _)) rfl | exact Wd.isO (i := 2) (Wd.ext (Wd.ext W (Ext.new _ _)) (Ext.new _ _)) rfl | exact Wd.isO (i := 3) (Wd.ext (Wd.ext W (Ext.new _ _)) (Ext.new _ _)) rfl | exact Wd.isO (i := 4) (Wd.ext (Wd.ext W (Ext.new _ _)) (Ext.new _ _)) rfl | exact Wd.isO (i := 5) (Wd.ext (Wd.ext W (Ext.new _ _)) (Ext.new _ _)) rfl | exact Wd.isO (i := 6) (Wd.ext (Wd.ext W (Ext.new _ _)) (Ext.new _ _)) rfl | exact Wd.isO (i := 7) (Wd.ext (Wd.ext W (Ext.new _ _)) (Ext.new _ _)) rfl | decide | (refine lim_le ?_; omega) | (refine lim_lt ?_; omega) | (refine smf_l ?_ ?_ <;> omega) | (refine smf_r ?_ ?_ <;> omega))) [methR_eq .c_Yard, methRK_eq .c_Yard, op_mod', op_fdiv', op_mul', bindT, bindTs, walk_r1, walk_r2, wpE_tup, wpE_lst, sliI_e, tyR_lst, mthR_lst, mthR_dct, it_0, it_1, it_2, mthTy, isTy, wpS_ite, decide_eq_false c]
      rintro ⟨rfl, rfl⟩
      simp (disch := (first | assumption | omega | exact new_at _ _ | exact isL_new | exact Wd.isY (i := 0) W rfl | exact Wd.isY (i := 1) W rfl | exact Wd.isY (i := 2) W rfl | exact Wd.isY (i := 3) W rfl | exact Wd.isY (i := 4) W rfl | exact Wd.isY (i := 5) W rfl | exact Wd.isY (i := 6) W rfl | exact Wd.isY (i := 7) W rfl | exact Wd.isY (i := 0) (Wd.ext W (Ext.new _ _)) rfl | exact Wd.isY (i := 1) (Wd.ext W (Ext.new _ _)) rfl | exact Wd.isY (i := 2) (Wd.ext W (Ext.new _ _)) rfl | exact Wd.isY (i := 3) (Wd.ext W (Ext.new _ _)) rfl | exact Wd.isY (i := 4) (Wd.ext W (Ext.new _ _)) rfl | exact Wd.isY (i := 5) (Wd.ext W (Ext.new _ _)) rfl | exact Wd.isY (i := 6) (Wd.ext W (Ext.new _ _)) rfl | exact Wd.isY (i := 7) (Wd.ext W (Ext.new _ _)) rfl | exact Wd.isY (i := 0) (Wd.ext (Wd.ext W (Ext.new _ _)) (Ext.new _ _)) rfl | exact Wd.isY (i := 1) (Wd.ext (Wd.ext W (Ext.new _ _)) (Ext.new _ _)) rfl | exact Wd.isY (i := 2) (Wd.ext (Wd.ext W (Ext.new _ _)) (Ext.new _ _)) rfl | exact Wd.isY (i := 3) (Wd.ext (Wd.ext W (Ext.new _ _)) (Ext.new _ _)) rfl | exact Wd.isY (i := 4) (Wd.ext (Wd.ext W (Ext.new _ _)) (Ext.new _ _)) rfl | exact Wd.isY (i := 5) (Wd.ext (Wd.ext W (Ext.new _ _)) (Ext.new _ _)) rfl | exact Wd.isY (i := 6) (Wd.ext (Wd.ext W (Ext.new _ _)) (Ext.new _ _)) rfl | exact Wd.isY (i := 7) (Wd.ext (Wd.ext W (Ext.new _ _)) (Ext.new _ _)) rfl | exact Wd.ob (i := 0) W rfl | exact Wd.ob (i := 1) W rfl | exact Wd.ob (i := 2) W rfl | exact Wd.ob (i := 3) W rfl | exact Wd.ob (i := 4) W rfl | exact Wd.ob (i := 5) W rfl | exact Wd.ob (i := 6) W rfl | exact Wd.ob (i := 7) W rfl | exact Wd.ob (i := 0) (Wd.ext W (Ext.new _ _)) rfl | exact Wd.ob (i := 1) (Wd.ext W (Ext.new _ _)) rfl | exact Wd.ob (i := 2) (Wd.ext W (Ext.new _ _)) rfl | exact Wd.ob (i := 3) (Wd.ext W (Ext.new _ _)) rfl | exact Wd.ob (i := 4) (Wd.ext W (Ext.new _ _)) rfl | exact Wd.ob (i := 5) (Wd.ext W (Ext.new _ _)) rfl | exact Wd.ob (i := 6) (Wd.ext W (Ext.new _ _)) rfl | exact Wd.ob (i := 7) (Wd.ext W (Ext.new _ _)) rfl | exact Wd.ob (i := 0) (Wd.ext (Wd.ext W (Ext.new _ _)) (Ext.new _ _)) rfl | exact Wd.ob (i := 1) (Wd.ext (Wd.ext W (Ext.new _ _)) (Ext.new _ _)) rfl | exact Wd.ob (i := 2) (Wd.ext (Wd.ext W (Ext.new _ _)) (Ext.new _ _)) rfl | exact Wd.ob (i := 3) (Wd.ext (Wd.ext W (Ext.new _ _)) (Ext.new _ _)) rfl | exact Wd.ob (i := 4) (Wd.ext (Wd.ext W (Ext.new _ _)) (Ext.new _ _)) rfl | exact Wd.ob (i := 5) (Wd.ext (Wd.ext W (Ext.new _ _)) (Ext.new _ _)) rfl | exact Wd.ob (i := 6) (Wd.ext (Wd.ext W (Ext.new _ _)) (Ext.new _ _)) rfl | exact Wd.ob (i := 7) (Wd.ext (Wd.ext W (Ext.new _ _)) (Ext.new _ _)) rfl | exact Wd.isL (i := 0) W rfl | exact Wd.isL (i := 1) W rfl | exact Wd.isL (i := 2) W rfl | exact Wd.isL (i := 3) W rfl | exact Wd.isL (i := 4) W rfl | exact Wd.isL (i := 5) W rfl | exact Wd.isL (i := 6) W rfl | exact Wd.isL (i := 7) W rfl | exact Wd.isL (i := 0) (Wd.ext W (Ext.new _ _)) rfl | exact Wd.isL (i := 1) (Wd.ext W (Ext.new _ _)) rfl | exact Wd.isL (i := 2) (Wd.ext W (Ext.new _ _)) rfl | exact Wd.isL (i := 3) (Wd.ext W (Ext.new _ _)) rfl | exact Wd.isL (i := 4) (Wd.ext W (Ext.new _ _)) rfl | exact Wd.isL (i := 5) (Wd.ext W (Ext.new _ _)) rfl | exact Wd.isL (i := 6) (Wd.ext W (Ext.new _ _)) rfl | exact Wd.isL (i := 7) (Wd.ext W (Ext.new _ _)) rfl | exact Wd.isL (i := 0) (Wd.ext (Wd.ext W (Ext.new _ _)) (Ext.new _ _)) rfl | exact Wd.isL (i := 1) (Wd.ext (Wd.ext W (Ext.new _ _)) (Ext.new _ _)) rfl | exact Wd.isL (i := 2) (Wd.ext (Wd.ext W (Ext.new _ _)) (Ext.new _ _)) rfl | exact Wd.isL (i := 3) (Wd.ext (Wd.ext W (Ext.new _ _)) (Ext.new _ _)) rfl | exact Wd.isL (i := 4) (Wd.ext (Wd.ext W (Ext.new _ _)) (Ext.new _ _)) rfl | exact Wd.isL (i := 5) (Wd.ext (Wd.ext W (Ext.new _ _)) (Ext.new _ _)) rfl | exact Wd.isL (i := 6) (Wd.ext (Wd.ext W (Ext.new _ _)) (Ext.new _ _)) rfl | exact Wd.isL (i := 7) (Wd.ext (Wd.ext W (Ext.new _ _)) (Ext.new _ _)) rfl | exact Wd.isD (i := 0) W rfl | exact Wd.isD (i := 1) W rfl | exact Wd.isD (i := 2) W rfl | exact Wd.isD (i := 3) W rfl | exact Wd.isD (i := 4) W rfl | exact Wd.isD (i := 5) W rfl | exact Wd.isD (i := 6) W rfl | exact Wd.isD (i := 7) W rfl | exact Wd.isD (i := 0) (Wd.ext W (Ext.new _ _)) rfl | exact Wd.isD (i := 1) (Wd.ext W (Ext.new _ _)) rfl | exact Wd.isD (i := 2) (Wd.ext W (Ext.new _ _)) rfl | exact Wd.isD (i := 3) (Wd.ext W (Ext.new _ _)) rfl | exact Wd.isD (i := 4) (Wd.ext W (Ext.new _ _)) rfl | exact Wd.isD (i := 5) (Wd.ext W (Ext.new _ _)) rfl | exact Wd.isD (i := 6) (Wd.ext W (Ext.new _ _)) rfl | exact Wd.isD (i := 7) (Wd.ext W (Ext.new _ _)) rfl | exact Wd.isD (i := 0) (Wd.ext (Wd.ext W (Ext.new _ _)) (Ext.new _ _)) rfl | exact Wd.isD (i := 1) (Wd.ext (Wd.ext W (Ext.new _ _)) (Ext.new _ _)) rfl | exact Wd.isD (i := 2) (Wd.ext (Wd.ext W (Ext.new _ _)) (Ext.new _ _)) rfl | exact Wd.isD (i := 3) (Wd.ext (Wd.ext W (Ext.new _ _)) (Ext.new _ _)) rfl | exact Wd.isD (i := 4) (Wd.ext (Wd.ext W (Ext.new _ _)) (Ext.new _ _)) rfl | exact Wd.isD (i := 5) (Wd.ext (Wd.ext W (Ext.new _ _)) (Ext.new _ _)) rfl | exact Wd.isD (i := 6) (Wd.ext (Wd.ext W (Ext.new _ _)) (Ext.new _ _)) rfl | exact Wd.isD (i := 7) (Wd.ext (Wd.ext W (Ext.new _ _)) (Ext.new _ _)) rfl | exact Wd.isO (i := 0) W rfl | exact Wd.isO (i := 1) W rfl | exact Wd.isO (i := 2) W rfl | exact Wd.isO (i := 3) W rfl | exact Wd.isO (i := 4) W rfl | exact Wd.isO (i := 5) W rfl | exact Wd.isO (i := 6) W rfl | exact Wd.isO (i := 7) W rfl | exact Wd.isO (i := 0) (Wd.ext W (Ext.new _ _)) rfl | exact Wd.isO (i := 1) (Wd.ext W (Ext.new _ _)) rfl | exact Wd.isO (i := 2) (Wd.ext W (Ext.new _ _)) rfl | exact Wd.isO (i := 3) (Wd.ext W (Ext.new _ _)) rfl | exact Wd.isO (i := 4) (Wd.ext W (Ext.new _ _)) rfl | exact Wd.isO (i := 5) (Wd.ext W (Ext.new _ _)) rfl | exact Wd.isO (i := 6) (Wd.ext W (Ext.new _ _)) rfl | exact Wd.isO (i := 7) (Wd.ext W (Ext.new _ _)) rfl | exact Wd.isO (i := 0) (Wd.ext (Wd.ext W (Ext.new _ _)) (Ext.new _ _)) rfl | exact Wd.isO (i := 1) (Wd.ext (Wd.ext W (Ext.new _ _)) (Ext.new _ _)) rfl | exact Wd.isO (i := 2) (Wd.ext (Wd.ext W (Ext.new _ _)) (Ext.new _ _)) rfl | exact Wd.isO (i := 3) (Wd.ext (Wd.ext W (Ext.new _ _)) (Ext.new _ _)) rfl | exact Wd.isO (i := 4) (Wd.ext (Wd.ext W (Ext.new _ _)) (Ext.new _ _)) rfl | exact Wd.isO (i := 5) (Wd.ext (Wd.ext W (Ext.new _ _)) (Ext.new _ _)) rfl | exact Wd.isO (i := 6) (Wd.ext (Wd.ext W (Ext.new _ _)) (Ext.new _ _)) rfl | exact Wd.isO (i := 7) (Wd.ext (Wd.ext W (Ext.new _ _)) (Ext.new _ _)) rfl | decide | (refine lim_le ?_; omega) | (refine lim_lt ?_; omega) | (refine smf_l ?_ ?_ <;> omega) | (refine smf_r ?_ ?_ <;> omega))) [methR_eq .c_Yard, methRK_eq .c_Yard, op_mod', op_fdiv', op_mul', bindT, bindTs, walk_r1, walk_r2, wpE_tup, wpE_lst, sliI_e, tyR_lst, mthR_lst, mthR_dct, it_0, it_1, it_2, mthTy, isTy]
      have W := W.new (.lst [])
      obtain ⟨tone, ht⟩ : ∃ t, t = dr l 1 % 10000 := ⟨_, rfl⟩
      rw [← ht] at hS1 ⊢
      have note : S3.rung = if k = kBell then [.int tone] else [] := by
        rw [hS3]
        show S2.rungTo 0 = _
        unfold YS.rungTo
        rw [R.note, hS1, hrg]
        unfold YS.lay0
        by_cases c : k = kBell
        · have n1 : n ≠ 3 := by subst c; cases hk; decide
          rw [if_neg n1, if_pos c]
          unfold YS.laid
          rw [if_pos c]
          rfl
        · rw [if_neg c]
          by_cases c2 : n = 3
          · rw [if_pos c2]; rfl
          · rw [if_neg c2]
            unfold YS.laid
            rw [if_neg c]
            rfl
      refine wp_cut (fun σ h => Wd h [.ob 2 (.lst (l.map .int)), .yard y S3, .ob h'.n (.lst S3.rung)] ∧ σ = [some (.rl (ns.map .int)), some (.ref 2), some (.str k), some (.int tone), some (.int n), some (.ref y), c6, c7, some (.int (1 + dr l 3 % 2)), some (.tup [.int 0, .int (dr l 5 % n)]), some (.int o), some (.int (pas k (dr l 5 % n) (1 + dr l 3 % 2)).2), some (.ref h'.n)]) ?_ ?_
      · by_cases c : k = kBell
        · simp (disch := (first | assumption | omega | exact new_at _ _ | exact isL_new | exact Wd.isY (i := 0) W rfl | exact Wd.isY (i := 1) W rfl | exact Wd.isY (i := 2) W rfl | exact Wd.isY (i := 3) W rfl | exact Wd.isY (i := 4) W rfl | exact Wd.isY (i := 5) W rfl | exact Wd.isY (i := 6) W rfl | exact Wd.isY (i := 7) W rfl | exact Wd.isY (i := 0) (Wd.ext W (Ext.new _ _)) rfl | exact Wd.isY (i := 1) (Wd.ext W (Ext.new _ _)) rfl | exact Wd.isY (i := 2) (Wd.ext W (Ext.new _ _)) rfl | exact Wd.isY (i := 3) (Wd.ext W (Ext.new _ _)) rfl | exact Wd.isY (i := 4) (Wd.ext W (Ext.new _ _)) rfl | exact Wd.isY (i := 5) (Wd.ext W (Ext.new _ _)) rfl | exact Wd.isY (i := 6) (Wd.ext W (Ext.new _ _)) rfl | exact Wd.isY (i := 7) (Wd.ext W (Ext.new _ _)) rfl | exact Wd.isY (i := 0) (Wd.ext (Wd.ext W (Ext.new _ _)) (Ext.new _ _)) rfl | exact Wd.isY (i := 1) (Wd.ext (Wd.ext W (Ext.new _ _)) (Ext.new _ _)) rfl | exact Wd.isY (i := 2) (Wd.ext (Wd.ext W (Ext.new _ _)) (Ext.new _ _)) rfl | exact Wd.isY (i := 3) (Wd.ext (Wd.ext W (Ext.new _ _)) (Ext.new _ _)) rfl | exact Wd.isY (i := 4) (Wd.ext (Wd.ext W (Ext.new _ _)) (Ext.new _ _)) rfl | exact Wd.isY (i := 5) (Wd.ext (Wd.ext W (Ext.new _ _)) (Ext.new _ _)) rfl | exact Wd.isY (i := 6) (Wd.ext (Wd.ext W (Ext.new _ _)) (Ext.new _ _)) rfl | exact Wd.isY (i := 7) (Wd.ext (Wd.ext W (Ext.new _ _)) (Ext.new _ _)) rfl | exact Wd.ob (i := 0) W rfl | exact Wd.ob (i := 1) W rfl | exact Wd.ob (i := 2) W rfl | exact Wd.ob (i := 3) W rfl | exact Wd.ob (i := 4) W rfl | exact Wd.ob (i := 5) W rfl | exact Wd.ob (i := 6) W rfl | exact Wd.ob (i := 7) W rfl | exact Wd.ob (i := 0) (Wd.ext W (Ext.new _ _)) rfl | exact Wd.ob (i := 1) (Wd.ext W (Ext.new _ _)) rfl | exact Wd.ob (i := 2) (Wd.ext W (Ext.new _ _)) rfl | exact Wd.ob (i := 3) (Wd.ext W (Ext.new _ _)) rfl | exact Wd.ob (i := 4) (Wd.ext W (Ext.new _ _)) rfl | exact Wd.ob (i := 5) (Wd.ext W (Ext.new _ _)) rfl | exact Wd.ob (i := 6) (Wd.ext W (Ext.new _ _)) rfl | exact Wd.ob (i := 7) (Wd.ext W (Ext.new _ _)) rfl | exact Wd.ob (i := 0) (Wd.ext (Wd.ext W (Ext.new _ _)) (Ext.new _ _)) rfl | exact Wd.ob (i := 1) (Wd.ext (Wd.ext W (Ext.new _ _)) (Ext.new _ _)) rfl | exact Wd.ob (i := 2) (Wd.ext (Wd.ext W (Ext.new _ _)) (Ext.new _ _)) rfl | exact Wd.ob (i := 3) (Wd.ext (Wd.ext W (Ext.new _ _)) (Ext.new _ _)) rfl | exact Wd.ob (i := 4) (Wd.ext (Wd.ext W (Ext.new _ _)) (Ext.new _ _)) rfl | exact Wd.ob (i := 5) (Wd.ext (Wd.ext W (Ext.new _ _)) (Ext.new _ _)) rfl | exact Wd.ob (i := 6) (Wd.ext (Wd.ext W (Ext.new _ _)) (Ext.new _ _)) rfl | exact Wd.ob (i := 7) (Wd.ext (Wd.ext W (Ext.new _ _)) (Ext.new _ _)) rfl | exact Wd.isL (i := 0) W rfl | exact Wd.isL (i := 1) W rfl | exact Wd.isL (i := 2) W rfl | exact Wd.isL (i := 3) W rfl | exact Wd.isL (i := 4) W rfl | exact Wd.isL (i := 5) W rfl | exact Wd.isL (i := 6) W rfl | exact Wd.isL (i := 7) W rfl | exact Wd.isL (i := 0) (Wd.ext W (Ext.new _ _)) rfl | exact Wd.isL (i := 1) (Wd.ext W (Ext.new _ _)) rfl | exact Wd.isL (i := 2) (Wd.ext W (Ext.new _ _)) rfl | exact Wd.isL (i := 3) (Wd.ext W (Ext.new _ _)) rfl | exact Wd.isL (i := 4) (Wd.ext W (Ext.new _ _)) rfl | exact Wd.isL (i := 5) (Wd.ext W (Ext.new _ _)) rfl | exact Wd.isL (i := 6) (Wd.ext W (Ext.new _ _)) rfl | exact Wd.isL (i := 7) (Wd.ext W (Ext.new _ _)) rfl | exact Wd.isL (i := 0) (Wd.ext (Wd.ext W (Ext.new _ _)) (Ext.new _ _)) rfl | exact Wd.isL (i := 1) (Wd.ext (Wd.ext W (Ext.new _ _)) (Ext.new _ _)) rfl | exact Wd.isL (i := 2) (Wd.ext (Wd.ext W (Ext.new _ _)) (Ext.new _ _)) rfl | exact Wd.isL (i := 3) (Wd.ext (Wd.ext W (Ext.new _ _)) (Ext.new _ _)) rfl | exact Wd.isL (i := 4) (Wd.ext (Wd.ext W (Ext.new _ _)) (Ext.new _ _)) rfl | exact Wd.isL (i := 5) (Wd.ext (Wd.ext W (Ext.new _ _)) (Ext.new _ _)) rfl | exact Wd.isL (i := 6) (Wd.ext (Wd.ext W (Ext.new _ _)) (Ext.new _ _)) rfl | exact Wd.isL (i := 7) (Wd.ext (Wd.ext W (Ext.new _ _)) (Ext.new _ _)) rfl | exact Wd.isD (i := 0) W rfl | exact Wd.isD (i := 1) W rfl | exact Wd.isD (i := 2) W rfl | exact Wd.isD (i := 3) W rfl | exact Wd.isD (i := 4) W rfl | exact Wd.isD (i := 5) W rfl | exact Wd.isD (i := 6) W rfl | exact Wd.isD (i := 7) W rfl | exact Wd.isD (i := 0) (Wd.ext W (Ext.new _ _)) rfl | exact Wd.isD (i := 1) (Wd.ext W (Ext.new _ _)) rfl | exact Wd.isD (i := 2) (Wd.ext W (Ext.new _ _)) rfl | exact Wd.isD (i := 3) (Wd.ext W (Ext.new _ _)) rfl | exact Wd.isD (i := 4) (Wd.ext W (Ext.new _ _)) rfl | exact Wd.isD (i := 5) (Wd.ext W (Ext.new _ _)) rfl | exact Wd.isD (i := 6) (Wd.ext W (Ext.new _ _)) rfl | exact Wd.isD (i := 7) (Wd.ext W (Ext.new _ _)) rfl | exact Wd.isD (i := 0) (Wd.ext (Wd.ext W (Ext.new _ _)) (Ext.new _ _)) rfl | exact Wd.isD (i := 1) (Wd.ext (Wd.ext W (Ext.new _ _)) (Ext.new _ _)) rfl | exact Wd.isD (i := 2) (Wd.ext (Wd.ext W (Ext.new _ _)) (Ext.new _ _)) rfl | exact Wd.isD (i := 3) (Wd.ext (Wd.ext W (Ext.new _ _)) (Ext.new _ _)) rfl | exact Wd.isD (i := 4) (Wd.ext (Wd.ext W (Ext.new _ _)) (Ext.new _ _)) rfl | exact Wd.isD (i := 5) (Wd.ext (Wd.ext W (Ext.new _ _)) (Ext.new _ _)) rfl | exact Wd.isD (i := 6) (Wd.ext (Wd.ext W (Ext.new _ _)) (Ext.new _ _)) rfl | exact Wd.isD (i := 7) (Wd.ext (Wd.ext W (Ext.new _ _)) (Ext.new _ _)) rfl | exact Wd.isO (i := 0) W rfl | exact Wd.isO (i := 1) W rfl | exact Wd.isO (i := 2) W rfl | exact Wd.isO (i := 3) W rfl | exact Wd.isO (i := 4) W rfl | exact Wd.isO (i := 5) W rfl | exact Wd.isO (i := 6) W rfl | exact Wd.isO (i := 7) W rfl | exact Wd.isO (i := 0) (Wd.ext W (Ext.new _ _)) rfl | exact Wd.isO (i := 1) (Wd.ext W (Ext.new _ _)) rfl | exact Wd.isO (i := 2) (Wd.ext W (Ext.new _ _)) rfl | exact Wd.isO (i := 3) (Wd.ext W (Ext.new _ _)) rfl | exact Wd.isO (i := 4) (Wd.ext W (Ext.new _ _)) rfl | exact Wd.isO (i := 5) (Wd.ext W (Ext.new _ _)) rfl | exact Wd.isO (i := 6) (Wd.ext W (Ext.new _ _)) rfl | exact Wd.isO (i := 7) (Wd.ext W (Ext.new _ _)) rfl | exact Wd.isO (i := 0) (Wd.ext (Wd.ext W (Ext.new _ _)) (Ext.new _ _)) rfl | exact Wd.isO (i := 1) (Wd.ext (Wd.ext W (Ext.new _ _)) (Ext.new _ _)) rfl | exact Wd.isO (i := 2) (Wd.ext (Wd.ext W (Ext.new _ _)) (Ext.new _ _)) rfl | exact Wd.isO (i := 3) (Wd.ext (Wd.ext W (Ext.new _ _)) (Ext.new _ _)) rfl | exact Wd.isO (i := 4) (Wd.ext (Wd.ext W (Ext.new _ _)) (Ext.new _ _)) rfl | exact Wd.isO (i := 5) (Wd.ext (Wd.ext W (Ext.new _ _)) (Ext.new _ _)) rfl | exact Wd.isO (i := 6) (Wd.ext (Wd.ext W (Ext.new _ _)) (Ext.new _ _)) rfl | exact Wd.isO (i := 7) (Wd.ext (Wd.ext W (Ext.new _ _)) (Ext.new _ _)) rfl | decide | (refine lim_le ?_; omega) | (refine lim_lt ?_; omega) | (refine smf_l ?_ ?_ <;> omega) | (refine smf_r ?_ ?_ <;> omega))) [methR_eq .c_Yard, methRK_eq .c_Yard, op_mod', op_fdiv', op_mul', bindT, bindTs, walk_r1, walk_r2, wpE_tup, wpE_lst, sliI_e, tyR_lst, mthR_lst, mthR_dct, it_0, it_1, it_2, mthTy, isTy, wpS_ite, eq_kbell hk, decide_eq_true c]
          refine w_append W 2 rfl (by decide) fun h W => ?_
          simp (disch := (first | assumption | omega | exact new_at _ _ | exact isL_new | exact Wd.isY (i := 0) W rfl | exact Wd.isY (i := 1) W rfl | exact Wd.isY (i := 2) W rfl | exact Wd.isY (i := 3) W rfl | exact Wd.isY (i := 4) W rfl | exact Wd.isY (i := 5) W rfl | exact Wd.isY (i := 6) W rfl | exact Wd.isY (i := 7) W rfl | exact Wd.isY (i := 0) (Wd.ext W (Ext.new _ _)) rfl | exact Wd.isY (i := 1) (Wd.ext W (Ext.new _ _)) rfl | exact Wd.isY (i := 2) (Wd.ext W (Ext.new _ _)) rfl | exact Wd.isY (i := 3) (Wd.ext W (Ext.new _ _)) rfl | exact Wd.isY (i := 4) (Wd.ext W (Ext.new _ _)) rfl | exact Wd.isY (i := 5) (Wd.ext W (Ext.new _ _)) rfl | exact Wd.isY (i := 6) (Wd.ext W (Ext.new _ _)) rfl | exact Wd.isY (i := 7) (Wd.ext W (Ext.new _ _)) rfl | exact Wd.isY (i := 0) (Wd.ext (Wd.ext W (Ext.new _ _)) (Ext.new _ _)) rfl | exact Wd.isY (i := 1) (Wd.ext (Wd.ext W (Ext.new _ _)) (Ext.new _ _)) rfl | exact Wd.isY (i := 2) (Wd.ext (Wd.ext W (Ext.new _ _)) (Ext.new _ _)) rfl | exact Wd.isY (i := 3) (Wd.ext (Wd.ext W (Ext.new _ _)) (Ext.new _ _)) rfl | exact Wd.isY (i := 4) (Wd.ext (Wd.ext W (Ext.new _ _)) (Ext.new _ _)) rfl | exact Wd.isY (i := 5) (Wd.ext (Wd.ext W (Ext.new _ _)) (Ext.new _ _)) rfl | exact Wd.isY (i := 6) (Wd.ext (Wd.ext W (Ext.new _ _)) (Ext.new _ _)) rfl | exact Wd.isY (i := 7) (Wd.ext (Wd.ext W (Ext.new _ _)) (Ext.new _ _)) rfl | exact Wd.ob (i := 0) W rfl | exact Wd.ob (i := 1) W rfl | exact Wd.ob (i := 2) W rfl | exact Wd.ob (i := 3) W rfl | exact Wd.ob (i := 4) W rfl | exact Wd.ob (i := 5) W rfl | exact Wd.ob (i := 6) W rfl | exact Wd.ob (i := 7) W rfl | exact Wd.ob (i := 0) (Wd.ext W (Ext.new _ _)) rfl | exact Wd.ob (i := 1) (Wd.ext W (Ext.new _ _)) rfl | exact Wd.ob (i := 2) (Wd.ext W (Ext.new _ _)) rfl | exact Wd.ob (i := 3) (Wd.ext W (Ext.new _ _)) rfl | exact Wd.ob (i := 4) (Wd.ext W (Ext.new _ _)) rfl | exact Wd.ob (i := 5) (Wd.ext W (Ext.new _ _)) rfl | exact Wd.ob (i := 6) (Wd.ext W (Ext.new _ _)) rfl | exact Wd.ob (i := 7) (Wd.ext W (Ext.new _ _)) rfl | exact Wd.ob (i := 0) (Wd.ext (Wd.ext W (Ext.new _ _)) (Ext.new _ _)) rfl | exact Wd.ob (i := 1) (Wd.ext (Wd.ext W (Ext.new _ _)) (Ext.new _ _)) rfl | exact Wd.ob (i := 2) (Wd.ext (Wd.ext W (Ext.new _ _)) (Ext.new _ _)) rfl | exact Wd.ob (i := 3) (Wd.ext (Wd.ext W (Ext.new _ _)) (Ext.new _ _)) rfl | exact Wd.ob (i := 4) (Wd.ext (Wd.ext W (Ext.new _ _)) (Ext.new _ _)) rfl | exact Wd.ob (i := 5) (Wd.ext (Wd.ext W (Ext.new _ _)) (Ext.new _ _)) rfl | exact Wd.ob (i := 6) (Wd.ext (Wd.ext W (Ext.new _ _)) (Ext.new _ _)) rfl | exact Wd.ob (i := 7) (Wd.ext (Wd.ext W (Ext.new _ _)) (Ext.new _ _)) rfl | exact Wd.isL (i := 0) W rfl | exact Wd.isL (i := 1) W rfl | exact Wd.isL (i := 2) W rfl | exact Wd.isL (i := 3) W rfl | exact Wd.isL (i := 4) W rfl | exact Wd.isL (i := 5) W rfl | exact Wd.isL (i := 6) W rfl | exact Wd.isL (i := 7) W rfl | exact Wd.isL (i := 0) (Wd.ext W (Ext.new _ _)) rfl | exact Wd.isL (i := 1) (Wd.ext W (Ext.new _ _)) rfl | exact Wd.isL (i := 2) (Wd.ext W (Ext.new _ _)) rfl | exact Wd.isL (i := 3) (Wd.ext W (Ext.new _ _)) rfl | exact Wd.isL (i := 4) (Wd.ext W (Ext.new _ _)) rfl | exact Wd.isL (i := 5) (Wd.ext W (Ext.new _ _)) rfl | exact Wd.isL (i := 6) (Wd.ext W (Ext.new _ _)) rfl | exact Wd.isL (i := 7) (Wd.ext W (Ext.new _ _)) rfl | exact Wd.isL (i := 0) (Wd.ext (Wd.ext W (Ext.new _ _)) (Ext.new _ _)) rfl | exact Wd.isL (i := 1) (Wd.ext (Wd.ext W (Ext.new _ _)) (Ext.new _ _)) rfl | exact Wd.isL (i := 2) (Wd.ext (Wd.ext W (Ext.new _ _)) (Ext.new _ _)) rfl | exact Wd.isL (i := 3) (Wd.ext (Wd.ext W (Ext.new _ _)) (Ext.new _ _)) rfl | exact Wd.isL (i := 4) (Wd.ext (Wd.ext W (Ext.new _ _)) (Ext.new _ _)) rfl | exact Wd.isL (i := 5) (Wd.ext (Wd.ext W (Ext.new _ _)) (Ext.new _ _)) rfl | exact Wd.isL (i := 6) (Wd.ext (Wd.ext W (Ext.new _ _)) (Ext.new _ _)) rfl | exact Wd.isL (i := 7) (Wd.ext (Wd.ext W (Ext.new _ _)) (Ext.new _ _)) rfl | exact Wd.isD (i := 0) W rfl | exact Wd.isD (i := 1) W rfl | exact Wd.isD (i := 2) W rfl | exact Wd.isD (i := 3) W rfl | exact Wd.isD (i := 4) W rfl | exact Wd.isD (i := 5) W rfl | exact Wd.isD (i := 6) W rfl | exact Wd.isD (i := 7) W rfl | exact Wd.isD (i := 0) (Wd.ext W (Ext.new _ _)) rfl | exact Wd.isD (i := 1) (Wd.ext W (Ext.new _ _)) rfl | exact Wd.isD (i := 2) (Wd.ext W (Ext.new _ _)) rfl | exact Wd.isD (i := 3) (Wd.ext W (Ext.new _ _)) rfl | exact Wd.isD (i := 4) (Wd.ext W (Ext.new _ _)) rfl | exact Wd.isD (i := 5) (Wd.ext W (Ext.new _ _)) rfl | exact Wd.isD (i := 6) (Wd.ext W (Ext.new _ _)) rfl | exact Wd.isD (i := 7) (Wd.ext W (Ext.new _ _)) rfl | exact Wd.isD (i := 0) (Wd.ext (Wd.ext W (Ext.new _ _)) (Ext.new _ _)) rfl | exact Wd.isD (i := 1) (Wd.ext (Wd.ext W (Ext.new _ _)) (Ext.new _ _)) rfl | exact Wd.isD (i := 2) (Wd.ext (Wd.ext W (Ext.new _ _)) (Ext.new _ _)) rfl | exact Wd.isD (i := 3) (Wd.ext (Wd.ext W (Ext.new _ _)) (Ext.new _ _)) rfl | exact Wd.isD (i := 4) (Wd.ext (Wd.ext W (Ext.new _ _)) (Ext.new _ _)) rfl | exact Wd.isD (i := 5) (Wd.ext (Wd.ext W (Ext.new _ _)) (Ext.new _ _)) rfl | exact Wd.isD (i := 6) (Wd.ext (Wd.ext W (Ext.new _ _)) (Ext.new _ _)) rfl | exact Wd.isD (i := 7) (Wd.ext (Wd.ext W (Ext.new _ _)) (Ext.new _ _)) rfl | exact Wd.isO (i := 0) W rfl | exact Wd.isO (i := 1) W rfl | exact Wd.isO (i := 2) W rfl | exact Wd.isO (i := 3) W rfl | exact Wd.isO (i := 4) W rfl | exact Wd.isO (i := 5) W rfl | exact Wd.isO (i := 6) W rfl | exact Wd.isO (i := 7) W rfl | exact Wd.isO (i := 0) (Wd.ext W (Ext.new _ _)) rfl | exact Wd.isO (i := 1) (Wd.ext W (Ext.new _ _)) rfl | exact Wd.isO (i := 2) (Wd.ext W (Ext.new _ _)) rfl | exact Wd.isO (i := 3) (Wd.ext W (Ext.new _ _)) rfl | exact Wd.isO (i := 4) (Wd.ext W (Ext.new _ _)) rfl | exact Wd.isO (i := 5) (Wd.ext W (Ext.new _ _)) rfl | exact Wd.isO (i := 6) (Wd.ext W (Ext.new _ _)) rfl | exact Wd.isO (i := 7) (Wd.ext W (Ext.new _ _)) rfl | exact Wd.isO (i := 0) (Wd.ext (Wd.ext W (Ext.new _ _)) (Ext.new _ _)) rfl | exact Wd.isO (i := 1) (Wd.ext (Wd.ext W (Ext.new _ _)) (Ext.new _ _)) rfl | exact Wd.isO (i := 2) (Wd.ext (Wd.ext W (Ext.new _ _)) (Ext.new _ _)) rfl | exact Wd.isO (i := 3) (Wd.ext (Wd.ext W (Ext.new _ _)) (Ext.new _ _)) rfl | exact Wd.isO (i := 4) (Wd.ext (Wd.ext W (Ext.new _ _)) (Ext.new _ _)) rfl | exact Wd.isO (i := 5) (Wd.ext (Wd.ext W (Ext.new _ _)) (Ext.new _ _)) rfl | exact Wd.isO (i := 6) (Wd.ext (Wd.ext W (Ext.new _ _)) (Ext.new _ _)) rfl | exact Wd.isO (i := 7) (Wd.ext (Wd.ext W (Ext.new _ _)) (Ext.new _ _)) rfl | decide | (refine lim_le ?_; omega) | (refine lim_lt ?_; omega) | (refine smf_l ?_ ?_ <;> omega) | (refine smf_r ?_ ?_ <;> omega))) [methR_eq .c_Yard, methRK_eq .c_Yard, op_mod', op_fdiv', op_mul', bindT, bindTs, walk_r1, walk_r2, wpE_tup, wpE_lst, sliI_e, tyR_lst, mthR_lst, mthR_dct, it_0, it_1, it_2, mthTy, isTy, wpS_ite, note, c]
          exact W
        · simp (disch := (first | assumption | omega | exact new_at _ _ | exact isL_new | exact Wd.isY (i := 0) W rfl | exact Wd.isY (i := 1) W rfl | exact Wd.isY (i := 2) W rfl | exact Wd.isY (i := 3) W rfl | exact Wd.isY (i := 4) W rfl | exact Wd.isY (i := 5) W rfl | exact Wd.isY (i := 6) W rfl | exact Wd.isY (i := 7) W rfl | exact Wd.isY (i := 0) (Wd.ext W (Ext.new _ _)) rfl | exact Wd.isY (i := 1) (Wd.ext W (Ext.new _ _)) rfl | exact Wd.isY (i := 2) (Wd.ext W (Ext.new _ _)) rfl | exact Wd.isY (i := 3) (Wd.ext W (Ext.new _ _)) rfl | exact Wd.isY (i := 4) (Wd.ext W (Ext.new _ _)) rfl | exact Wd.isY (i := 5) (Wd.ext W (Ext.new _ _)) rfl | exact Wd.isY (i := 6) (Wd.ext W (Ext.new _ _)) rfl | exact Wd.isY (i := 7) (Wd.ext W (Ext.new _ _)) rfl | exact Wd.isY (i := 0) (Wd.ext (Wd.ext W (Ext.new _ _)) (Ext.new _ _)) rfl | exact Wd.isY (i := 1) (Wd.ext (Wd.ext W (Ext.new _ _)) (Ext.new _ _)) rfl | exact Wd.isY (i := 2) (Wd.ext (Wd.ext W (Ext.new _ _)) (Ext.new _ _)) rfl | exact Wd.isY (i := 3) (Wd.ext (Wd.ext W (Ext.new _ _)) (Ext.new _ _)) rfl | exact Wd.isY (i := 4) (Wd.ext (Wd.ext W (Ext.new _ _)) (Ext.new _ _)) rfl | exact Wd.isY (i := 5) (Wd.ext (Wd.ext W (Ext.new _ _)) (Ext.new _ _)) rfl | exact Wd.isY (i := 6) (Wd.ext (Wd.ext W (Ext.new _ _)) (Ext.new _ _)) rfl | exact Wd.isY (i := 7) (Wd.ext (Wd.ext W (Ext.new _ _)) (Ext.new _ _)) rfl | exact Wd.ob (i := 0) W rfl | exact Wd.ob (i := 1) W rfl | exact Wd.ob (i := 2) W rfl | exact Wd.ob (i := 3) W rfl | exact Wd.ob (i := 4) W rfl | exact Wd.ob (i := 5) W rfl | exact Wd.ob (i := 6) W rfl | exact Wd.ob (i := 7) W rfl | exact Wd.ob (i := 0) (Wd.ext W (Ext.new _ _)) rfl | exact Wd.ob (i := 1) (Wd.ext W (Ext.new _ _)) rfl | exact Wd.ob (i := 2) (Wd.ext W (Ext.new _ _)) rfl | exact Wd.ob (i := 3) (Wd.ext W (Ext.new _ _)) rfl | exact Wd.ob (i := 4) (Wd.ext W (Ext.new _ _)) rfl | exact Wd.ob (i := 5) (Wd.ext W (Ext.new _ _)) rfl | exact Wd.ob (i := 6) (Wd.ext W (Ext.new _ _)) rfl | exact Wd.ob (i := 7) (Wd.ext W (Ext.new _ _)) rfl | exact Wd.ob (i := 0) (Wd.ext (Wd.ext W (Ext.new _ _)) (Ext.new _ _)) rfl | exact Wd.ob (i := 1) (Wd.ext (Wd.ext W (Ext.new _ _)) (Ext.new _ _)) rfl | exact Wd.ob (i := 2) (Wd.ext (Wd.ext W (Ext.new _ _)) (Ext.new _ _)) rfl | exact Wd.ob (i := 3) (Wd.ext (Wd.ext W (Ext.new _ _)) (Ext.new _ _)) rfl | exact Wd.ob (i := 4) (Wd.ext (Wd.ext W (Ext.new _ _)) (Ext.new _ _)) rfl | exact Wd.ob (i := 5) (Wd.ext (Wd.ext W (Ext.new _ _)) (Ext.new _ _)) rfl | exact Wd.ob (i := 6) (Wd.ext (Wd.ext W (Ext.new _ _)) (Ext.new _ _)) rfl | exact Wd.ob (i := 7) (Wd.ext (Wd.ext W (Ext.new _ _)) (Ext.new _ _)) rfl | exact Wd.isL (i := 0) W rfl | exact Wd.isL (i := 1) W rfl | exact Wd.isL (i := 2) W rfl | exact Wd.isL (i := 3) W rfl | exact Wd.isL (i := 4) W rfl | exact Wd.isL (i := 5) W rfl | exact Wd.isL (i := 6) W rfl | exact Wd.isL (i := 7) W rfl | exact Wd.isL (i := 0) (Wd.ext W (Ext.new _ _)) rfl | exact Wd.isL (i := 1) (Wd.ext W (Ext.new _ _)) rfl | exact Wd.isL (i := 2) (Wd.ext W (Ext.new _ _)) rfl | exact Wd.isL (i := 3) (Wd.ext W (Ext.new _ _)) rfl | exact Wd.isL (i := 4) (Wd.ext W (Ext.new _ _)) rfl | exact Wd.isL (i := 5) (Wd.ext W (Ext.new _ _)) rfl | exact Wd.isL (i := 6) (Wd.ext W (Ext.new _ _)) rfl | exact Wd.isL (i := 7) (Wd.ext W (Ext.new _ _)) rfl | exact Wd.isL (i := 0) (Wd.ext (Wd.ext W (Ext.new _ _)) (Ext.new _ _)) rfl | exact Wd.isL (i := 1) (Wd.ext (Wd.ext W (Ext.new _ _)) (Ext.new _ _)) rfl | exact Wd.isL (i := 2) (Wd.ext (Wd.ext W (Ext.new _ _)) (Ext.new _ _)) rfl | exact Wd.isL (i := 3) (Wd.ext (Wd.ext W (Ext.new _ _)) (Ext.new _ _)) rfl | exact Wd.isL (i := 4) (Wd.ext (Wd.ext W (Ext.new _ _)) (Ext.new _ _)) rfl | exact Wd.isL (i := 5) (Wd.ext (Wd.ext W (Ext.new _ _)) (Ext.new _ _)) rfl | exact Wd.isL (i := 6) (Wd.ext (Wd.ext W (Ext.new _ _)) (Ext.new _ _)) rfl | exact Wd.isL (i := 7) (Wd.ext (Wd.ext W (Ext.new _ _)) (Ext.new _ _)) rfl | exact Wd.isD (i := 0) W rfl | exact Wd.isD (i := 1) W rfl | exact Wd.isD (i := 2) W rfl | exact Wd.isD (i := 3) W rfl | exact Wd.isD (i := 4) W rfl | exact Wd.isD (i := 5) W rfl | exact Wd.isD (i := 6) W rfl | exact Wd.isD (i := 7) W rfl | exact Wd.isD (i := 0) (Wd.ext W (Ext.new _ _)) rfl | exact Wd.isD (i := 1) (Wd.ext W (Ext.new _ _)) rfl | exact Wd.isD (i := 2) (Wd.ext W (Ext.new _ _)) rfl | exact Wd.isD (i := 3) (Wd.ext W (Ext.new _ _)) rfl | exact Wd.isD (i := 4) (Wd.ext W (Ext.new _ _)) rfl | exact Wd.isD (i := 5) (Wd.ext W (Ext.new _ _)) rfl | exact Wd.isD (i := 6) (Wd.ext W (Ext.new _ _)) rfl | exact Wd.isD (i := 7) (Wd.ext W (Ext.new _ _)) rfl | exact Wd.isD (i := 0) (Wd.ext (Wd.ext W (Ext.new _ _)) (Ext.new _ _)) rfl | exact Wd.isD (i := 1) (Wd.ext (Wd.ext W (Ext.new _ _)) (Ext.new _ _)) rfl | exact Wd.isD (i := 2) (Wd.ext (Wd.ext W (Ext.new _ _)) (Ext.new _ _)) rfl | exact Wd.isD (i := 3) (Wd.ext (Wd.ext W (Ext.new _ _)) (Ext.new _ _)) rfl | exact Wd.isD (i := 4) (Wd.ext (Wd.ext W (Ext.new _ _)) (Ext.new _ _)) rfl | exact Wd.isD (i := 5) (Wd.ext (Wd.ext W (Ext.new _ _)) (Ext.new _ _)) rfl | exact Wd.isD (i := 6) (Wd.ext (Wd.ext W (Ext.new _ _)) (Ext.new _ _)) rfl | exact Wd.isD (i := 7) (Wd.ext (Wd.ext W (Ext.new _ _)) (Ext.new _ _)) rfl | exact Wd.isO (i := 0) W rfl | exact Wd.isO (i := 1) W rfl | exact Wd.isO (i := 2) W rfl | exact Wd.isO (i := 3) W rfl | exact Wd.isO (i := 4) W rfl | exact Wd.isO (i := 5) W rfl | exact Wd.isO (i := 6) W rfl | exact Wd.isO (i := 7) W rfl | exact Wd.isO (i := 0) (Wd.ext W (Ext.new _ _)) rfl | exact Wd.isO (i := 1) (Wd.ext W (Ext.new _ _)) rfl | exact Wd.isO (i := 2) (Wd.ext W (Ext.new _ _)) rfl | exact Wd.isO (i := 3) (Wd.ext W (Ext.new _ _)) rfl | exact Wd.isO (i := 4) (Wd.ext W (Ext.new _ _)) rfl | exact Wd.isO (i := 5) (Wd.ext W (Ext.new _ _)) rfl | exact Wd.isO (i := 6) (Wd.ext W (Ext.new _ _)) rfl | exact Wd.isO (i := 7) (Wd.ext W (Ext.new _ _)) rfl | exact Wd.isO (i := 0) (Wd.ext (Wd.ext W (Ext.new _ _)) (Ext.new _ _)) rfl | exact Wd.isO (i := 1) (Wd.ext (Wd.ext W (Ext.new _ _)) (Ext.new _ _)) rfl | exact Wd.isO (i := 2) (Wd.ext (Wd.ext W (Ext.new _ _)) (Ext.new _ _)) rfl | exact Wd.isO (i := 3) (Wd.ext (Wd.ext W (Ext.new _ _)) (Ext.new _ _)) rfl | exact Wd.isO (i := 4) (Wd.ext (Wd.ext W (Ext.new _ _)) (Ext.new _ _)) rfl | exact Wd.isO (i := 5) (Wd.ext (Wd.ext W (Ext.new _ _)) (Ext.new _ _)) rfl | exact Wd.isO (i := 6) (Wd.ext (Wd.ext W (Ext.new _ _)) (Ext.new _ _)) rfl | exact Wd.isO (i := 7) (Wd.ext (Wd.ext W (Ext.new _ _)) (Ext.new _ _)) rfl | decide | (refine lim_le ?_; omega) | (refine lim_lt ?_; omega) | (refine smf_l ?_ ?_ <;> omega) | (refine smf_r ?_ ?_ <;> omega))) [methR_eq .c_Yard, methRK_eq .c_Yard, op_mod', op_fdiv', op_mul', bindT, bindTs, walk_r1, walk_r2, wpE_tup, wpE_lst, sliI_e, tyR_lst, mthR_lst, mthR_dct, it_0, it_1, it_2, mthTy, isTy, wpS_ite, eq_kbell hk, c, note]
          exact W
      rintro σ h ⟨W, rfl⟩
      obtain ⟨rs, hrs, rl⟩ : ∃ rs : List Int, S3.rung = rs.map .int ∧ rs.length < 3 := by
        rw [note]; split
        · exact ⟨[tone], rfl, by simp⟩
        · exact ⟨[], rfl, by simp⟩
      simp (disch := (first | assumption | omega | exact new_at _ _ | exact isL_new | exact Wd.isY (i := 0) W rfl | exact Wd.isY (i := 1) W rfl | exact Wd.isY (i := 2) W rfl | exact Wd.isY (i := 3) W rfl | exact Wd.isY (i := 4) W rfl | exact Wd.isY (i := 5) W rfl | exact Wd.isY (i := 6) W rfl | exact Wd.isY (i := 7) W rfl | exact Wd.isY (i := 0) (Wd.ext W (Ext.new _ _)) rfl | exact Wd.isY (i := 1) (Wd.ext W (Ext.new _ _)) rfl | exact Wd.isY (i := 2) (Wd.ext W (Ext.new _ _)) rfl | exact Wd.isY (i := 3) (Wd.ext W (Ext.new _ _)) rfl | exact Wd.isY (i := 4) (Wd.ext W (Ext.new _ _)) rfl | exact Wd.isY (i := 5) (Wd.ext W (Ext.new _ _)) rfl | exact Wd.isY (i := 6) (Wd.ext W (Ext.new _ _)) rfl | exact Wd.isY (i := 7) (Wd.ext W (Ext.new _ _)) rfl | exact Wd.isY (i := 0) (Wd.ext (Wd.ext W (Ext.new _ _)) (Ext.new _ _)) rfl | exact Wd.isY (i := 1) (Wd.ext (Wd.ext W (Ext.new _ _)) (Ext.new _ _)) rfl | exact Wd.isY (i := 2) (Wd.ext (Wd.ext W (Ext.new _ _)) (Ext.new _ _)) rfl | exact Wd.isY (i := 3) (Wd.ext (Wd.ext W (Ext.new _ _)) (Ext.new _ _)) rfl | exact Wd.isY (i := 4) (Wd.ext (Wd.ext W (Ext.new _ _)) (Ext.new _ _)) rfl | exact Wd.isY (i := 5) (Wd.ext (Wd.ext W (Ext.new _ _)) (Ext.new _ _)) rfl | exact Wd.isY (i := 6) (Wd.ext (Wd.ext W (Ext.new _ _)) (Ext.new _ _)) rfl | exact Wd.isY (i := 7) (Wd.ext (Wd.ext W (Ext.new _ _)) (Ext.new _ _)) rfl | exact Wd.ob (i := 0) W rfl | exact Wd.ob (i := 1) W rfl | exact Wd.ob (i := 2) W rfl | exact Wd.ob (i := 3) W rfl | exact Wd.ob (i := 4) W rfl | exact Wd.ob (i := 5) W rfl | exact Wd.ob (i := 6) W rfl | exact Wd.ob (i := 7) W rfl | exact Wd.ob (i := 0) (Wd.ext W (Ext.new _ _)) rfl | exact Wd.ob (i := 1) (Wd.ext W (Ext.new _ _)) rfl | exact Wd.ob (i := 2) (Wd.ext W (Ext.new _ _)) rfl | exact Wd.ob (i := 3) (Wd.ext W (Ext.new _ _)) rfl | exact Wd.ob (i := 4) (Wd.ext W (Ext.new _ _)) rfl | exact Wd.ob (i := 5) (Wd.ext W (Ext.new _ _)) rfl | exact Wd.ob (i := 6) (Wd.ext W (Ext.new _ _)) rfl | exact Wd.ob (i := 7) (Wd.ext W (Ext.new _ _)) rfl | exact Wd.ob (i := 0) (Wd.ext (Wd.ext W (Ext.new _ _)) (Ext.new _ _)) rfl | exact Wd.ob (i := 1) (Wd.ext (Wd.ext W (Ext.new _ _)) (Ext.new _ _)) rfl | exact Wd.ob (i := 2) (Wd.ext (Wd.ext W (Ext.new _ _)) (Ext.new _ _)) rfl | exact Wd.ob (i := 3) (Wd.ext (Wd.ext W (Ext.new _ _)) (Ext.new _ _)) rfl | exact Wd.ob (i := 4) (Wd.ext (Wd.ext W (Ext.new _ _)) (Ext.new _ _)) rfl | exact Wd.ob (i := 5) (Wd.ext (Wd.ext W (Ext.new _ _)) (Ext.new _ _)) rfl | exact Wd.ob (i := 6) (Wd.ext (Wd.ext W (Ext.new _ _)) (Ext.new _ _)) rfl | exact Wd.ob (i := 7) (Wd.ext (Wd.ext W (Ext.new _ _)) (Ext.new _ _)) rfl | exact Wd.isL (i := 0) W rfl | exact Wd.isL (i := 1) W rfl | exact Wd.isL (i := 2) W rfl | exact Wd.isL (i := 3) W rfl | exact Wd.isL (i := 4) W rfl | exact Wd.isL (i := 5) W rfl | exact Wd.isL (i := 6) W rfl | exact Wd.isL (i := 7) W rfl | exact Wd.isL (i := 0) (Wd.ext W (Ext.new _ _)) rfl | exact Wd.isL (i := 1) (Wd.ext W (Ext.new _ _)) rfl | exact Wd.isL (i := 2) (Wd.ext W (Ext.new _ _)) rfl | exact Wd.isL (i := 3) (Wd.ext W (Ext.new _ _)) rfl | exact Wd.isL (i := 4) (Wd.ext W (Ext.new _ _)) rfl | exact Wd.isL (i := 5) (Wd.ext W (Ext.new _ _)) rfl | exact Wd.isL (i := 6) (Wd.ext W (Ext.new _ _)) rfl | exact Wd.isL (i := 7) (Wd.ext W (Ext.new _ _)) rfl | exact Wd.isL (i := 0) (Wd.ext (Wd.ext W (Ext.new _ _)) (Ext.new _ _)) rfl | exact Wd.isL (i := 1) (Wd.ext (Wd.ext W (Ext.new _ _)) (Ext.new _ _)) rfl | exact Wd.isL (i := 2) (Wd.ext (Wd.ext W (Ext.new _ _)) (Ext.new _ _)) rfl | exact Wd.isL (i := 3) (Wd.ext (Wd.ext W (Ext.new _ _)) (Ext.new _ _)) rfl | exact Wd.isL (i := 4) (Wd.ext (Wd.ext W (Ext.new _ _)) (Ext.new _ _)) rfl | exact Wd.isL (i := 5) (Wd.ext (Wd.ext W (Ext.new _ _)) (Ext.new _ _)) rfl | exact Wd.isL (i := 6) (Wd.ext (Wd.ext W (Ext.new _ _)) (Ext.new _ _)) rfl | exact Wd.isL (i := 7) (Wd.ext (Wd.ext W (Ext.new _ _)) (Ext.new _ _)) rfl | exact Wd.isD (i := 0) W rfl | exact Wd.isD (i := 1) W rfl | exact Wd.isD (i := 2) W rfl | exact Wd.isD (i := 3) W rfl | exact Wd.isD (i := 4) W rfl | exact Wd.isD (i := 5) W rfl | exact Wd.isD (i := 6) W rfl | exact Wd.isD (i := 7) W rfl | exact Wd.isD (i := 0) (Wd.ext W (Ext.new _ _)) rfl | exact Wd.isD (i := 1) (Wd.ext W (Ext.new _ _)) rfl | exact Wd.isD (i := 2) (Wd.ext W (Ext.new _ _)) rfl | exact Wd.isD (i := 3) (Wd.ext W (Ext.new _ _)) rfl | exact Wd.isD (i := 4) (Wd.ext W (Ext.new _ _)) rfl | exact Wd.isD (i := 5) (Wd.ext W (Ext.new _ _)) rfl | exact Wd.isD (i := 6) (Wd.ext W (Ext.new _ _)) rfl | exact Wd.isD (i := 7) (Wd.ext W (Ext.new _ _)) rfl | exact Wd.isD (i := 0) (Wd.ext (Wd.ext W (Ext.new _ _)) (Ext.new _ _)) rfl | exact Wd.isD (i := 1) (Wd.ext (Wd.ext W (Ext.new _ _)) (Ext.new _ _)) rfl | exact Wd.isD (i := 2) (Wd.ext (Wd.ext W (Ext.new _ _)) (Ext.new _ _)) rfl | exact Wd.isD (i := 3) (Wd.ext (Wd.ext W (Ext.new _ _)) (Ext.new _ _)) rfl | exact Wd.isD (i := 4) (Wd.ext (Wd.ext W (Ext.new _ _)) (Ext.new _ _)) rfl | exact Wd.isD (i := 5) (Wd.ext (Wd.ext W (Ext.new _ _)) (Ext.new _ _)) rfl | exact Wd.isD (i := 6) (Wd.ext (Wd.ext W (Ext.new _ _)) (Ext.new _ _)) rfl | exact Wd.isD (i := 7) (Wd.ext (Wd.ext W (Ext.new _ _)) (Ext.new _ _)) rfl | exact Wd.isO (i := 0) W rfl | exact Wd.isO (i := 1) W rfl | exact Wd.isO (i := 2) W rfl | exact Wd.isO (i := 3) W rfl | exact Wd.isO (i := 4) W rfl | exact Wd.isO (i := 5) W rfl | exact Wd.isO (i := 6) W rfl | exact Wd.isO (i := 7) W rfl | exact Wd.isO (i := 0) (Wd.ext W (Ext.new _ _)) rfl | exact Wd.isO (i := 1) (Wd.ext W (Ext.new _ _)) rfl | exact Wd.isO (i := 2) (Wd.ext W (Ext.new _ _)) rfl | exact Wd.isO (i := 3) (Wd.ext W (Ext.new _ _)) rfl | exact Wd.isO (i := 4) (Wd.ext W (Ext.new _ _)) rfl | exact Wd.isO (i := 5) (Wd.ext W (Ext.new _ _)) rfl | exact Wd.isO (i := 6) (Wd.ext W (Ext.new _ _)) rfl | exact Wd.isO (i := 7) (Wd.ext W (Ext.new _ _)) rfl | exact Wd.isO (i := 0) (Wd.ext (Wd.ext W (Ext.new _ _)) (Ext.new _ _)) rfl | exact Wd.isO (i := 1) (Wd.ext (Wd.ext W (Ext.new _ _)) (Ext.new _ _)) rfl | exact Wd.isO (i := 2) (Wd.ext (Wd.ext W (Ext.new _ _)) (Ext.new _ _)) rfl | exact Wd.isO (i := 3) (Wd.ext (Wd.ext W (Ext.new _ _)) (Ext.new _ _)) rfl | exact Wd.isO (i := 4) (Wd.ext (Wd.ext W (Ext.new _ _)) (Ext.new _ _)) rfl | exact Wd.isO (i := 5) (Wd.ext (Wd.ext W (Ext.new _ _)) (Ext.new _ _)) rfl | exact Wd.isO (i := 6) (Wd.ext (Wd.ext W (Ext.new _ _)) (Ext.new _ _)) rfl | exact Wd.isO (i := 7) (Wd.ext (Wd.ext W (Ext.new _ _)) (Ext.new _ _)) rfl | decide | (refine lim_le ?_; omega) | (refine lim_lt ?_; omega) | (refine smf_l ?_ ?_ <;> omega) | (refine smf_r ?_ ?_ <;> omega))) [methR_eq .c_Yard, methRK_eq .c_Yard, op_mod', op_fdiv', op_mul', bindT, bindTs, walk_r1, walk_r2, wpE_tup, wpE_lst, sliI_e, tyR_lst, mthR_lst, mthR_dct, it_0, it_1, it_2, mthTy, isTy, wpS_ite, w_bells (P := P) (by first | exact Has.sub LP.has (by simp [U]; done) (by simp [M]; done) | exact Has.fn LP.has _ (by simp [U]; done)) W 1 rfl]
      have la := W.lt (i := 2) rfl
      have ga := W.ob (i := 2) rfl
      have W := W.new (.lst S3.rung)
      rw [hrs] at ga W ⊢
      refine w_row (by first | exact Has.sub LP.has (by simp [U]; done) (by simp [M]; done) | exact Has.fn LP.has _ (by simp [U]; done)) W (new_at _ _) (((Ext.new h _).same _ la).trans ga) (Nat.lt_succ_self _) (Nat.lt_succ_of_lt la) (by simp [LIM]; omega) fun h _ W => ?_
      simp (disch := (first | assumption | omega | exact new_at _ _ | exact isL_new | exact Wd.isY (i := 0) W rfl | exact Wd.isY (i := 1) W rfl | exact Wd.isY (i := 2) W rfl | exact Wd.isY (i := 3) W rfl | exact Wd.isY (i := 4) W rfl | exact Wd.isY (i := 5) W rfl | exact Wd.isY (i := 6) W rfl | exact Wd.isY (i := 7) W rfl | exact Wd.isY (i := 0) (Wd.ext W (Ext.new _ _)) rfl | exact Wd.isY (i := 1) (Wd.ext W (Ext.new _ _)) rfl | exact Wd.isY (i := 2) (Wd.ext W (Ext.new _ _)) rfl | exact Wd.isY (i := 3) (Wd.ext W (Ext.new _ _)) rfl | exact Wd.isY (i := 4) (Wd.ext W (Ext.new _ _)) rfl | exact Wd.isY (i := 5) (Wd.ext W (Ext.new _ _)) rfl | exact Wd.isY (i := 6) (Wd.ext W (Ext.new _ _)) rfl | exact Wd.isY (i := 7) (Wd.ext W (Ext.new _ _)) rfl | exact Wd.isY (i := 0) (Wd.ext (Wd.ext W (Ext.new _ _)) (Ext.new _ _)) rfl | exact Wd.isY (i := 1) (Wd.ext (Wd.ext W (Ext.new _ _)) (Ext.new _ _)) rfl | exact Wd.isY (i := 2) (Wd.ext (Wd.ext W (Ext.new _ _)) (Ext.new _ _)) rfl | exact Wd.isY (i := 3) (Wd.ext (Wd.ext W (Ext.new _ _)) (Ext.new _ _)) rfl | exact Wd.isY (i := 4) (Wd.ext (Wd.ext W (Ext.new _ _)) (Ext.new _ _)) rfl | exact Wd.isY (i := 5) (Wd.ext (Wd.ext W (Ext.new _ _)) (Ext.new _ _)) rfl | exact Wd.isY (i := 6) (Wd.ext (Wd.ext W (Ext.new _ _)) (Ext.new _ _)) rfl | exact Wd.isY (i := 7) (Wd.ext (Wd.ext W (Ext.new _ _)) (Ext.new _ _)) rfl | exact Wd.ob (i := 0) W rfl | exact Wd.ob (i := 1) W rfl | exact Wd.ob (i := 2) W rfl | exact Wd.ob (i := 3) W rfl | exact Wd.ob (i := 4) W rfl | exact Wd.ob (i := 5) W rfl | exact Wd.ob (i := 6) W rfl | exact Wd.ob (i := 7) W rfl | exact Wd.ob (i := 0) (Wd.ext W (Ext.new _ _)) rfl | exact Wd.ob (i := 1) (Wd.ext W (Ext.new _ _)) rfl | exact Wd.ob (i := 2) (Wd.ext W (Ext.new _ _)) rfl | exact Wd.ob (i := 3) (Wd.ext W (Ext.new _ _)) rfl | exact Wd.ob (i := 4) (Wd.ext W (Ext.new _ _)) rfl | exact Wd.ob (i := 5) (Wd.ext W (Ext.new _ _)) rfl | exact Wd.ob (i := 6) (Wd.ext W (Ext.new _ _)) rfl | exact Wd.ob (i := 7) (Wd.ext W (Ext.new _ _)) rfl | exact Wd.ob (i := 0) (Wd.ext (Wd.ext W (Ext.new _ _)) (Ext.new _ _)) rfl | exact Wd.ob (i := 1) (Wd.ext (Wd.ext W (Ext.new _ _)) (Ext.new _ _)) rfl | exact Wd.ob (i := 2) (Wd.ext (Wd.ext W (Ext.new _ _)) (Ext.new _ _)) rfl | exact Wd.ob (i := 3) (Wd.ext (Wd.ext W (Ext.new _ _)) (Ext.new _ _)) rfl | exact Wd.ob (i := 4) (Wd.ext (Wd.ext W (Ext.new _ _)) (Ext.new _ _)) rfl | exact Wd.ob (i := 5) (Wd.ext (Wd.ext W (Ext.new _ _)) (Ext.new _ _)) rfl | exact Wd.ob (i := 6) (Wd.ext (Wd.ext W (Ext.new _ _)) (Ext.new _ _)) rfl | exact Wd.ob (i := 7) (Wd.ext (Wd.ext W (Ext.new _ _)) (Ext.new _ _)) rfl | exact Wd.isL (i := 0) W rfl | exact Wd.isL (i := 1) W rfl | exact Wd.isL (i := 2) W rfl | exact Wd.isL (i := 3) W rfl | exact Wd.isL (i := 4) W rfl | exact Wd.isL (i := 5) W rfl | exact Wd.isL (i := 6) W rfl | exact Wd.isL (i := 7) W rfl | exact Wd.isL (i := 0) (Wd.ext W (Ext.new _ _)) rfl | exact Wd.isL (i := 1) (Wd.ext W (Ext.new _ _)) rfl | exact Wd.isL (i := 2) (Wd.ext W (Ext.new _ _)) rfl | exact Wd.isL (i := 3) (Wd.ext W (Ext.new _ _)) rfl | exact Wd.isL (i := 4) (Wd.ext W (Ext.new _ _)) rfl | exact Wd.isL (i := 5) (Wd.ext W (Ext.new _ _)) rfl | exact Wd.isL (i := 6) (Wd.ext W (Ext.new _ _)) rfl | exact Wd.isL (i := 7) (Wd.ext W (Ext.new _ _)) rfl | exact Wd.isL (i := 0) (Wd.ext (Wd.ext W (Ext.new _ _)) (Ext.new _ _)) rfl | exact Wd.isL (i := 1) (Wd.ext (Wd.ext W (Ext.new _ _)) (Ext.new _ _)) rfl | exact Wd.isL (i := 2) (Wd.ext (Wd.ext W (Ext.new _ _)) (Ext.new _ _)) rfl | exact Wd.isL (i := 3) (Wd.ext (Wd.ext W (Ext.new _ _)) (Ext.new _ _)) rfl | exact Wd.isL (i := 4) (Wd.ext (Wd.ext W (Ext.new _ _)) (Ext.new _ _)) rfl | exact Wd.isL (i := 5) (Wd.ext (Wd.ext W (Ext.new _ _)) (Ext.new _ _)) rfl | exact Wd.isL (i := 6) (Wd.ext (Wd.ext W (Ext.new _ _)) (Ext.new _ _)) rfl | exact Wd.isL (i := 7) (Wd.ext (Wd.ext W (Ext.new _ _)) (Ext.new _ _)) rfl | exact Wd.isD (i := 0) W rfl | exact Wd.isD (i := 1) W rfl | exact Wd.isD (i := 2) W rfl | exact Wd.isD (i := 3) W rfl | exact Wd.isD (i := 4) W rfl | exact Wd.isD (i := 5) W rfl | exact Wd.isD (i := 6) W rfl | exact Wd.isD (i := 7) W rfl | exact Wd.isD (i := 0) (Wd.ext W (Ext.new _ _)) rfl | exact Wd.isD (i := 1) (Wd.ext W (Ext.new _ _)) rfl | exact Wd.isD (i := 2) (Wd.ext W (Ext.new _ _)) rfl | exact Wd.isD (i := 3) (Wd.ext W (Ext.new _ _)) rfl | exact Wd.isD (i := 4) (Wd.ext W (Ext.new _ _)) rfl | exact Wd.isD (i := 5) (Wd.ext W (Ext.new _ _)) rfl | exact Wd.isD (i := 6) (Wd.ext W (Ext.new _ _)) rfl | exact Wd.isD (i := 7) (Wd.ext W (Ext.new _ _)) rfl | exact Wd.isD (i := 0) (Wd.ext (Wd.ext W (Ext.new _ _)) (Ext.new _ _)) rfl | exact Wd.isD (i := 1) (Wd.ext (Wd.ext W (Ext.new _ _)) (Ext.new _ _)) rfl | exact Wd.isD (i := 2) (Wd.ext (Wd.ext W (Ext.new _ _)) (Ext.new _ _)) rfl | exact Wd.isD (i := 3) (Wd.ext (Wd.ext W (Ext.new _ _)) (Ext.new _ _)) rfl | exact Wd.isD (i := 4) (Wd.ext (Wd.ext W (Ext.new _ _)) (Ext.new _ _)) rfl | exact Wd.isD (i := 5) (Wd.ext (Wd.ext W (Ext.new _ _)) (Ext.new _ _)) rfl | exact Wd.isD (i := 6) (Wd.ext (Wd.ext W (Ext.new _ _)) (Ext.new _ _)) rfl | exact Wd.isD (i := 7) (Wd.ext (Wd.ext W (Ext.new _ _)) (Ext.new _ _)) rfl | exact Wd.isO (i := 0) W rfl | exact Wd.isO (i := 1) W rfl | exact Wd.isO (i := 2) W rfl | exact Wd.isO (i := 3) W rfl | exact Wd.isO (i := 4) W rfl | exact Wd.isO (i := 5) W rfl | exact Wd.isO (i := 6) W rfl | exact Wd.isO (i := 7) W rfl | exact Wd.isO (i := 0) (Wd.ext W (Ext.new _ _)) rfl | exact Wd.isO (i := 1) (Wd.ext W (Ext.new _ _)) rfl | exact Wd.isO (i := 2) (Wd.ext W (Ext.new _ _)) rfl | exact Wd.isO (i := 3) (Wd.ext W (Ext.new _ _)) rfl | exact Wd.isO (i := 4) (Wd.ext W (Ext.new _ _)) rfl | exact Wd.isO (i := 5) (Wd.ext W (Ext.new _ _)) rfl | exact Wd.isO (i := 6) (Wd.ext W (Ext.new _ _)) rfl | exact Wd.isO (i := 7) (Wd.ext W (Ext.new _ _)) rfl | exact Wd.isO (i := 0) (Wd.ext (Wd.ext W (Ext.new _ _)) (Ext.new _ _)) rfl | exact Wd.isO (i := 1) (Wd.ext (Wd.ext W (Ext.new _ _)) (Ext.new _ _)) rfl | exact Wd.isO (i := 2) (Wd.ext (Wd.ext W (Ext.new _ _)) (Ext.new _ _)) rfl | exact Wd.isO (i := 3) (Wd.ext (Wd.ext W (Ext.new _ _)) (Ext.new _ _)) rfl | exact Wd.isO (i := 4) (Wd.ext (Wd.ext W (Ext.new _ _)) (Ext.new _ _)) rfl | exact Wd.isO (i := 5) (Wd.ext (Wd.ext W (Ext.new _ _)) (Ext.new _ _)) rfl | exact Wd.isO (i := 6) (Wd.ext (Wd.ext W (Ext.new _ _)) (Ext.new _ _)) rfl | exact Wd.isO (i := 7) (Wd.ext (Wd.ext W (Ext.new _ _)) (Ext.new _ _)) rfl | decide | (refine lim_le ?_; omega) | (refine lim_lt ?_; omega) | (refine smf_l ?_ ?_ <;> omega) | (refine smf_r ?_ ?_ <;> omega))) [methR_eq .c_Yard, methRK_eq .c_Yard, op_mod', op_fdiv', op_mul', bindT, bindTs, walk_r1, walk_r2, wpE_tup, wpE_lst, sliI_e, tyR_lst, mthR_lst, mthR_dct, it_0, it_1, it_2, mthTy, isTy, wpS_ite, w_steps (P := P) (by first | exact Has.sub LP.has (by simp [U]; done) (by simp [M]; done) | exact Has.fn LP.has _ (by simp [U]; done)) W 1 rfl, l_is (P := P) (by first | exact Has.sub LP.has (by simp [U]; done) (by simp [M]; done) | exact Has.fn LP.has _ (by simp [U]; done)), tr3, hel _ _ W rfl, eq_str]
theorem math : ∀ ns : List Int, ns.length ≤ 63 → ∃ h, callD T.P 9 .d_law [.rl (ns.map .int)] AH0 = .ok (.bl true) h := fun ns hns => by
  obtain ⟨h, e, _⟩ := of_post (law12 (P := T.P) ns hns)
  exact ⟨h, e⟩
end Rl.K12

open PySem PySem.W PySem.Calls PyProof.Rows
set_option maxRecDepth 1000000 in
set_option maxHeartbeats 0 in
theorem PySem.Challenge.cw_lazyrails_k12_one_step_holds : PySem.Challenge.rw_lazyrails_k12_one_step.Holds := by
  w_on; o_law; k_head; (case hw => w_witness2)
  k_fill
  refine Rl.walkE (l := PySem.Challenge.rw_lazyrails_k12_one_step) (T := Rl.K12.T) (f := .d_law) (x := "_law_script") (n := 63) (k := 9) rfl (by decide) (by rfl) ⟨rfl, by decide, by decide⟩ (by rfl) Rl.K12.tok (fun _ => Rl.K12.bds) (D := Rl.K12.D_law) (by rfl) (by rfl) (by rfl) (by rfl) (fun _ _ _ _ _ _ us hl => match us, hl with | [_], _ => rfl) (fun w h Y => PySem.W.kIn_of Y) ?T ?E Rl.K12.math
  case T => intro w; show He.obsT _ _ _ _ = He.valT _ _ _; kernel_rfl
  case E => intro w; kernel_rfl
